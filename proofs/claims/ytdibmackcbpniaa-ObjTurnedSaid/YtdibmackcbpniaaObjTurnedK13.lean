/-
  Texts of a proof, part 13: an ideal semantics of the program, its functions in shallow form, contracts of them. No statement of the seat is proved here.
-/
import Derived.Test.YtdibmackcbpniaaObjTurnedK12
set_option linter.all false
set_option maxRecDepth 20000
set_option maxHeartbeats 16000000
noncomputable section
namespace Go.Proofs.Ytdibmackcbpniaa
namespace Idl
theorem An7 {e:Nat} (he:e<=10) (hT:6<=e->LJ (e - 1)) (hG:6<=e->DI 70 1 (e - 1)):LJ e:=by
 intro g r hg;have hlen:=hg.len;have hk1:=Int.emod_nonneg r.op (show (9:Int)≠0 by decide)
 have hk2:=Int.emod_lt_of_pos r.op (show (0:Int)<9 by decide)
 have hW0:=LR (e - 1);have hD0:200<=Dg (e - 1):=by unfold Dg;omega
 have hleaf:∀op n:Int,ar op=some 0->op≠1->BK op n->Gr 0 e g .z (.mk op n [])->TyOk g e (.mk op n []):=fun op n h1 h2 h3 h4=>⟨Ch h1 h2 h3,by simp only [Tm.wt,Tm.wtL];omega,by simp only [Tm.dp,Tm.dpL];omega,h4⟩;have hpl:=DP 1 r;have hpd:=VQ (r.plainT 1);have c0:(r.op % 9=0\/r.op % 9=1\/e<=5/\(r.op % 9=5\/r.op % 9=6))->∃t,Ev 69 [.fv (A4 g),.fv r.enc,iv ((e:Int) - 5)] (Tm.enc t)/\TyOk g e t:=by
  intro hc;refine ⟨.mk 10 0 [],⟨100,fun n hn=>?_⟩,hleaf 10 0 (by decide) (by decide) (BC (by decide) (by decide) (by decide)) (.tnat e g _)⟩;obtain ⟨n,rfl⟩:∃k,n=k+1:=⟨n - 1,by omega⟩;have hw:=As (n:=n) (by omega) r.op (m:=9) (by omega) (by omega);have hn4:=Mb (n:=n) (by omega);rw [c69];obtain ⟨o,p,k⟩:=r;simp only [Tm.op] at hw hc;simp only [Ah,AzJ] at hn4 ⊢;rcases hc with hc | hc | ⟨he5,hc | hc⟩
  ·rw [hc] at hw;by_cases hd:(e:Int) - 5<=0<;>(simp (maxSteps:=1000000) only [↓J1,↓XX,XY,↓reduceIte,Nat.reduceBEq,Nat.reduceAdd,Int.reduceEq,Int.reduceLT,Int.reduceLE,↓Ag hw,hd,↓EL hn4];first | exact Al _ _ | exact A3 rfl _)
  ·rw [hc] at hw;by_cases hd:(e:Int) - 5<=0<;>(simp (maxSteps:=1000000) only [↓J1,↓XX,XY,↓reduceIte,Nat.reduceBEq,Nat.reduceAdd,Int.reduceEq,Int.reduceLT,Int.reduceLE,↓Ag hw,hd,↓EL hn4];first | exact Al _ _ | exact A3 rfl _)
  ·rw [hc] at hw;have hd:(e:Int) - 5<=0:=by omega
   simp (maxSteps:=1000000) only [↓J1,↓XX,XY,↓reduceIte,Nat.reduceBEq,Nat.reduceAdd,Int.reduceEq,Int.reduceLT,Int.reduceLE,↓Ag hw,hd,↓Lx (show (5:Int)≠0 by decide),show (5:Int).tmod 5=0 from rfl,↓EL hn4];first | exact Al _ _ | exact A3 rfl _
  ·rw [hc] at hw;have hd:(e:Int) - 5<=0:=by omega
   simp (maxSteps:=1000000) only [↓J1,↓XX,XY,↓reduceIte,Nat.reduceBEq,Nat.reduceAdd,Int.reduceEq,Int.reduceLT,Int.reduceLE,↓Ag hw,hd,↓Lx (show (5:Int)≠0 by decide),show (6:Int).tmod 5=1 from rfl,↓EL hn4];first | exact Al _ _ | exact A3 rfl _
 have c2:(r.op % 9=2\/e<=5/\r.op % 9=7)->∃t,Ev 69 [.fv (A4 g),.fv r.enc,iv ((e:Int) - 5)] (Tm.enc t)/\TyOk g e t:=by
  intro hc;refine ⟨.mk 14 0 [],⟨100,fun n hn=>?_⟩,hleaf 14 0 (by decide) (by decide) (BC (by decide) (by decide) (by decide)) (.tty e g _)⟩;obtain ⟨n,rfl⟩:∃k,n=k+1:=⟨n - 1,by omega⟩;have hw:=As (n:=n) (by omega) r.op (m:=9) (by omega) (by omega);have hn4:=BI (n:=n) (by omega) 14;rw [c69];obtain ⟨o,p,k⟩:=r;simp only [Tm.op] at hw hc;simp only [Ah,AzJ] at hn4 ⊢;rcases hc with hc | ⟨he5,hc⟩
  ·rw [hc] at hw;by_cases hd:(e:Int) - 5<=0<;>(simp (maxSteps:=1000000) only [↓J1,↓XX,XY,↓reduceIte,Nat.reduceBEq,Nat.reduceAdd,Int.reduceEq,Int.reduceLT,Int.reduceLE,↓Ag hw,hd,↓Ag hn4];first | exact Al _ _ | exact A3 rfl _)
  ·rw [hc] at hw;have hd:(e:Int) - 5<=0:=by omega
   simp (maxSteps:=1000000) only [↓J1,↓XX,XY,↓reduceIte,Nat.reduceBEq,Nat.reduceAdd,Int.reduceEq,Int.reduceLT,Int.reduceLE,↓Ag hw,hd,↓Lx (show (5:Int)≠0 by decide),show (7:Int).tmod 5=2 from rfl,↓Ag hn4];first | exact Al _ _ | exact A3 rfl _
 have c3:(r.op % 9=3\/e<=5/\r.op % 9=8)->∃t,Ev 69 [.fv (A4 g),.fv r.enc,iv ((e:Int) - 5)] (Tm.enc t)/\TyOk g e t:=by
  intro hc;refine ⟨.mk 18 0 [r.plainT 1],⟨100,fun n hn=>?_⟩,Fm (by decide) (by decide) (BC (by decide) (by decide) (by decide)) (E3 _ 1 r),by rw [wt1];omega,by rw [dp1];omega,.tlp e g _ r⟩;obtain ⟨n,rfl⟩:∃k,n=k+1:=⟨n - 1,by omega⟩;have hw:=As (n:=n) (by omega) r.op (m:=9) (by omega) (by omega);have hp:=K6 1 n r (by omega) (by omega);have ht:=CP (n:=n) (by omega) 18 [r.plainT 1];rw [c69];generalize r.plainT 1=q at hp ht ⊢;obtain ⟨o,p,k⟩:=r;obtain ⟨o2,p2,k2⟩:=q;simp only [Tm.op] at hw hc;simp only [Ah,AzK,AzJ] at hp ht ⊢;rcases hc with hc | ⟨he5,hc⟩
  ·rw [hc] at hw;by_cases hd:(e:Int) - 5<=0<;>(simp (maxSteps:=1000000) only [↓J1,↓XX,XY,↓reduceIte,Nat.reduceBEq,Nat.reduceAdd,Int.reduceEq,Int.reduceLT,Int.reduceLE,↓Ag hw,hd,↓Ag hp,↓Di,↓Ag ht];first | exact Al _ _ | exact A3 rfl _)
  ·rw [hc] at hw;have hd:(e:Int) - 5<=0:=by omega
   simp (maxSteps:=1000000) only [↓J1,↓XX,XY,↓reduceIte,Nat.reduceBEq,Nat.reduceAdd,Int.reduceEq,Int.reduceLT,Int.reduceLE,↓Ag hw,hd,↓Lx (show (5:Int)≠0 by decide),show (8:Int).tmod 5=3 from rfl,↓Ag hp,↓Di,↓Ag ht];first | exact Al _ _ | exact A3 rfl _
 by_cases h4:r.op % 9=4
 ·refine ⟨.mk 2 0 [],⟨100,fun n hn=>?_⟩,hleaf 2 0 (by decide) (by decide) (by rw [BK,if_pos rfl];omega) (.tu e g _)⟩;obtain ⟨n,rfl⟩:∃k,n=k+1:=⟨n - 1,by omega⟩;have hw:=As (n:=n) (by omega) r.op (m:=9) (by omega) (by omega);have hu:=Aip (n:=n) (by omega) 0;rw [c69];obtain ⟨o,p,k⟩:=r;simp only [Tm.op] at hw h4;simp only [Ah,AzJ] at hu ⊢;rw [h4] at hw;by_cases hd:(e:Int) - 5<=0<;>(simp (maxSteps:=1000000) only [↓J1,↓XX,XY,↓reduceIte,Nat.reduceBEq,Nat.reduceAdd,Int.reduceEq,Int.reduceLT,Int.reduceLE,↓Ag hw,hd,↓Av hu];first | exact Al _ _ | exact A3 rfl _)
 by_cases hs:r.op % 9<=3\/e<=5
 ·have h:=hk1;by_cases h0:r.op % 9=0\/r.op % 9=1\/e<=5/\(r.op % 9=5\/r.op % 9=6)
  ·exact c0 h0
  by_cases h2:r.op % 9=2\/e<=5/\r.op % 9=7
  ·exact c2 h2
  exact c3 (by omega)
 have he6:6<=e:=by omega
 have hd:¬ (e:Int) - 5<=0:=by omega
 have we:BD ((e:Int) - 5 - 1)=((e - 1:Nat):Int) - 5:=by rw [Az (by omega) (by omega)];omega
 have hW10:=NV (e:=e - 1) (by omega);have hW1:Wg (e - 1)=4 * Wg (e - 2):=by
  obtain ⟨f,rfl⟩:∃f,e=f+2:=⟨e - 2,by omega⟩;rw [show f+2 - 1=f+1 by omega,LP,show f+2 - 2=f by omega]
 have hW2:=LR (e - 2);have hD1:Dg (e - 1)=Dg (e - 2)+10:=by unfold Dg;omega
 have hDm:Dg (e - 1)<=300:=by unfold Dg;omega
 by_cases h8:r.op % 9=8
 ·obtain ⟨t,b,⟨N1,h1⟩,tt⟩:=hG he6 g (.mk 14 0 []) (r.pick 0) (AU (by omega) hg) ⟨Ch (by decide) (by decide) (BC (by decide) (by decide) (by decide)),by simp [Tm.wt,Tm.wtL],by simp [Tm.dp,Tm.dpL]⟩;refine ⟨if b=true then .mk 18 0 [t] else .mk 10 0 [],⟨N1+100,fun n hn=>?_⟩,?_⟩
  ·obtain ⟨n,rfl⟩:∃k,n=k+1:=⟨n - 1,by omega⟩;have hw:=As (n:=n) (by omega) r.op (m:=9) (by omega) (by omega);have h1:=h1 n (by omega);rw [<- we] at h1;have p0:=AM (n:=n) (by omega) r 0;have t14:=BI (n:=n) (by omega) 14;have t18:=CP (n:=n) (by omega) 18 [t];have hn4:=Mb (n:=n) (by omega);rw [c69];rw [h8] at hw;clear hG hT tt c0 c2 c3 hleaf;generalize r.pick 0=r0 at p0 h1;obtain ⟨o,p,k⟩:=r;obtain ⟨o2,p2,k2⟩:=t;obtain ⟨o3,p3,k3⟩:=r0;simp only [Tm.op] at hw;simp only [Ah,A4,AzK,AzJ] at h1 p0 t14 t18 hn4 ⊢;cases b
   ·simp only [Bool.false_eq_true,if_false,Ah,AzJ];simp (maxSteps:=1000000) only [↓J1,↓XX,XY,↓reduceIte,Nat.reduceBEq,Nat.reduceAdd,Int.reduceEq,Int.reduceLT,Int.reduceLE,↓Ag hw,hd,↓Ag t14,↓Ag p0,↓AC h1,↓EL hn4];first | exact Al _ _ | exact A3 rfl _
   ·simp only [if_true,Ah,AzJ,AzK];simp (maxSteps:=1000000) only [↓J1,↓XX,XY,↓reduceIte,Nat.reduceBEq,Nat.reduceAdd,Int.reduceEq,Int.reduceLT,Int.reduceLE,↓Ag hw,hd,↓Ag t14,↓Ag p0,↓AC h1,↓Di,↓Ag t18];first | exact Al _ _ | exact A3 rfl _
  ·split
   ·rename_i hb;exact ⟨Fm (by decide) (by decide) (BC (by decide) (by decide) (by decide)) tt.sc,by have:=tt.wt;rw [wt1];omega,by have:=tt.dp;rw [dp1];omega,.tlift e g _ t he6 (tt.gr hb)⟩
   ·exact hleaf 10 0 (by decide) (by decide) (BC (by decide) (by decide) (by decide)) (.tnat e g _)
 ·obtain ⟨a,⟨N1,h1⟩,ta⟩:=hT he6 g (r.pick 0) (AU (by omega) hg);have aw:=ta.wt;have ad:=ta.dp;rw [show e - 1 - 1=e - 2 by omega] at aw ad
  obtain ⟨b,⟨N2,h2⟩,tb⟩:=hT he6 (g++[(1,a)]) (r.pick 1) (Da (by rw [show e - 1+1=e by omega];exact hg) ta.sc (by omega) (by omega))
  have bw:=tb.wt;have bd:=tb.dp;rw [show e - 1 - 1=e - 2 by omega] at bw bd
  have bs:b.sc (g.length+1):=by simpa using tb.sc
  have hop:∀op:Int,op=3\/op=6->TyOk g e (.mk op 0 [a,b]):=by
   rintro op (rfl | rfl)
   ·exact ⟨Cp (by decide) (by decide) (BC (by decide) (by decide) (by decide)) ta.sc bs,by rw [Nt];omega,by rw [PK];omega,.tpi e g _ a b _ (by simp) he6 (by omega) ⟨ta.sc,by omega,by omega⟩ ta.gr tb.gr⟩
   ·exact ⟨Cp (by decide) (by decide) (BC (by decide) (by decide) (by decide)) ta.sc bs,by rw [Nt];omega,by rw [PK];omega,.tpi e g _ a b _ (by simp) he6 (by omega) ⟨ta.sc,by omega,by omega⟩ ta.gr tb.gr⟩
  obtain ⟨oo,hoo⟩:∃oo:Int,oo=3/\(r.op % 9=5\/r.op % 9=6)\/oo=6/\r.op % 9=7:=by
   by_cases h7:r.op % 9=7
   ·exact ⟨6,.inr ⟨rfl,h7⟩⟩
   ·exact ⟨3,.inl ⟨rfl,by omega⟩⟩
  refine ⟨.mk oo 0 [a,b],⟨N1+N2+100,fun n hn=>?_⟩,hop oo (by omega)⟩;obtain ⟨n,rfl⟩:∃k,n=k+1:=⟨n - 1,by omega⟩;have hw:=As (n:=n) (by omega) r.op (m:=9) (by omega) (by omega);have h1:=h1 n (by omega);have h2:=h2 n (by omega);rw [<- we] at h1 h2;have p0:=AM (n:=n) (by omega) r 0;have p1:=AM (n:=n) (by omega) r 1;have t3:=CP (n:=n) (by omega) 3 [a,b];have t6:=CP (n:=n) (by omega) 6 [a,b];have hm:=Dx (n:=n) g 1 a (by omega) (by omega);rw [c69];clear hG hT c0 c2 c3 hleaf ta tb hop bs aw ad bw bd;generalize r.pick 0=r0 at p0 h1;generalize r.pick 1=r1 at p1 h2;obtain ⟨o,p,k⟩:=r;obtain ⟨o2,p2,k2⟩:=a;obtain ⟨o3,p3,k3⟩:=b;obtain ⟨o4,p4,k4⟩:=r0;obtain ⟨o5,p5,k5⟩:=r1;simp only [Tm.op] at hw hoo;simp only [Ah,A4,AzK,AzJ] at h1 h2 p0 p1 t3 t6 hm ⊢;rcases hoo with ⟨rfl,hk | hk⟩ | ⟨rfl,hk⟩
  ·rw [hk] at hw;simp (maxSteps:=1000000) only [↓J1,↓XX,XY,↓reduceIte,Nat.reduceBEq,Nat.reduceAdd,Int.reduceEq,Int.reduceLT,Int.reduceLE,↓Ag hw,hd,↓Ag p0,↓Ag p1,↓AF h1,↓AF hm,↓AF h2,↓CA,↓Ag t3];first | exact Al _ _ | exact A3 rfl _
  ·rw [hk] at hw;simp (maxSteps:=1000000) only [↓J1,↓XX,XY,↓reduceIte,Nat.reduceBEq,Nat.reduceAdd,Int.reduceEq,Int.reduceLT,Int.reduceLE,↓Ag hw,hd,↓Ag p0,↓Ag p1,↓AF h1,↓AF hm,↓AF h2,↓CA,↓Ag t3];first | exact Al _ _ | exact A3 rfl _
  ·rw [hk] at hw;simp (maxSteps:=1000000) only [↓J1,↓XX,XY,↓reduceIte,Nat.reduceBEq,Nat.reduceAdd,Int.reduceEq,Int.reduceLT,Int.reduceLE,↓Ag hw,hd,↓Ag p0,↓Ag p1,↓AF h1,↓AF hm,↓AF h2,↓CA,↓Ag t6];first | exact Al _ _ | exact A3 rfl _
theorem Apo (a b:Int) (s:Nat) (h:Hp) (k:IV->Hp->List Ref->List Ref->Option (IV×Hp)):AE (An EE 51 2 [(0,iv a),(1,iv b)]) s h k=k (.clip [.int .i64 a,.int .i64 b]) h [] []:=Dr AkT AsE (by decide) (cells:=[.int .i64 a,.int .i64 b]) rfl k
theorem S9 {β:Type} (z:Nat) (es:List FV) (x:IV) (k:IV->Option β):AP z (.clip es) x k=AP z (.fv (.sl es)) x k:=rfl
theorem AwT {β:Type} (a:Int) (r:List FV) (k:IV->Option β):AP 1 (.fv (.sl (.int .i64 a::r))) (iv 0) k=k (.fv (.fp [.int .i64 a] 0)):=Bs (el:=.int .i64 a) (n:=0) rfl rfl k
theorem AwU {β:Type} (a b:Int) (r:List FV) (k:IV->Option β):AP 1 (.fv (.sl (.int .i64 a :: .int .i64 b::r))) (iv 1) k=k (.fv (.fp [.int .i64 b] 0)):=Bs (el:=.int .i64 b) (n:=1) rfl rfl k
def Ak4 (F:FuncId) (κ e:Nat):Prop:=∀(g:Ci) (a r:Tm),GOk e g->NOk g.length a->(a.op=10\/a.op=14\/a.op=2)->∃t b,Ev F [.fv (A4 g),.fv a.enc,.fv r.enc,iv ((e:Int) - 5)] (.tuple [Tm.enc t,.bool b])/\TG κ e g a t b
theorem Anc {a:Tm} {k:Nat} (h:a.sc k) (ho:a.op=10\/a.op=14\/a.op=2):∃n,a=.mk a.op n []/\(a.op=2->0<=n/\n<=2)/\(a.op≠2->n=0):=by
 obtain ⟨o,n,l⟩:=a;simp only [Tm.op] at ho ⊢;rw [Tm.sc] at h;obtain ⟨h1,h2,_⟩:=h;have h3:ar o=some 0:=by rcases ho with rfl | rfl | rfl<;>decide
 rw [h3] at h1;have hl:l=[]:=List.eq_nil_of_length_eq_zero (Option.some.inj h1).symm;subst hl;rw [if_neg (by omega)] at h2;refine ⟨n,rfl,fun h=>?_,fun h=>?_⟩
 ·subst h;rw [BK,if_pos rfl] at h2;exact h2
 ·rw [BK,if_neg h,if_neg (by omega),if_neg (by omega)] at h2;exact h2
theorem Aiw {e:Nat} (h1e:1<=e) (he:e<=10) (hG:DI 70 1 (e - 1)) (hG2:6<=e->DI 70 1 (e - 2)):Ak4 101 3 e:=by
 intro g a r hg ha hop;have hlen:=hg.len;have hW1:Wg e=4 * Wg (e - 1):=by
  obtain ⟨f,rfl⟩:∃f,e=f+1:=⟨e - 1,by omega⟩;rw [LP,Nat.add_sub_cancel]
 have hW0:=LR (e - 1);have hW10:=NV he;have hD1:Dg e=Dg (e - 1)+10:=by unfold Dg;omega
 have hD0:200<=Dg (e - 1):=by unfold Dg;omega
 have hDm:Dg e<=300:=by unfold Dg;omega
 obtain ⟨an,hae,hu1,hu2⟩:=Anc ha.sc hop;have we:BD ((e:Int) - 5 - 1)=((e - 1:Nat):Int) - 5:=by rw [Az (by omega) (by omega)];omega
 have hk1:=Int.emod_nonneg r.op (show (5:Int)≠0 by decide)
 have hk2:=Int.emod_lt_of_pos r.op (show (0:Int)<5 by decide)
 have aw:=ha.wt;have ad:=ha.dp;have leafT:∀op n:Int,ar op=some 0->op≠1->BK op n->TOk g.length e (.mk op n []):=fun op n h1 h2 h3=>⟨Ch h1 h2 h3,by simp only [Tm.wt,Tm.wtL];omega,by simp only [Tm.dp,Tm.dpL];omega⟩;have tint:TOk g.length e (.mk 18 0 [.mk 15 0 []]):=⟨Fm (by decide) (by decide) (BC (by decide) (by decide) (by decide)) (Ch (by decide) (by decide) (BC (by decide) (by decide) (by decide))),by simp only [Tm.wt,Tm.wtL];omega,by simp only [Tm.dp,Tm.dpL];omega⟩;by_cases hrec:6<=e/\r.op % 5=4/\a.op≠2
 ·obtain ⟨h6,h4,hn2⟩:=hrec;have hW2:Wg e=16 * Wg (e - 2):=by
   obtain ⟨f,rfl⟩:∃f,e=f+2:=⟨e - 2,by omega⟩;rw [show f+2=(f+1)+1 by omega,LP,LP,show f+1+1 - 2=f by omega];omega
  have hD2:Dg e=Dg (e - 2)+20:=by unfold Dg;omega
  have hW20:=LR (e - 2);have we2:BD ((e:Int) - 5 - 2)=((e - 2:Nat):Int) - 5:=by rw [Az (by omega) (by omega)];omega
  have hnat:∀k,NOk k (.mk 10 0 []):=fun k=>⟨Ch (by decide) (by decide) (BC (by decide) (by decide) (by decide)),by simp only [Tm.wt,Tm.wtL];omega,by simp only [Tm.dp,Tm.dpL];omega⟩;have hs1:=OK ha (by omega) 1 (by omega);have hs2:=OK ha (by omega) 2 (by omega);obtain ⟨nn,p,⟨N1,h1⟩,tn⟩:=hG2 h6 g (.mk 10 0 []) (r.pick 0) (AU (by omega) hg) (Bx (hnat _));obtain ⟨z,q,⟨N2,h2⟩,tz⟩:=hG2 h6 g a (r.pick 1) (AU (by omega) hg) (Bx ha);have hg1:GOk (e - 1) (g++[(1,Tm.mk 10 0 [])]):=Da (by rw [show e - 1+1=e by omega];exact hg) (hnat _).sc (by simp only [Tm.wt,Tm.wtL];omega) (by simp only [Tm.dp,Tm.dpL];omega)
  have hg2:GOk (e - 2) ((g++[(1,Tm.mk 10 0 [])])++[(1,a.shift 1 0)]):=Da (by rw [show e - 2+1=e - 1 by omega];exact hg1) (by simpa using hs1.sc) (by rw [BG];omega) (by rw [Fj];omega)
  obtain ⟨s,f,⟨N3,h3⟩,ts⟩:=hG2 h6 _ (a.shift 2 0) (r.pick 2) hg2 (by simpa using Bx hs2);have ss:s.sc (g.length+2):=by simpa using ts.sc
  refine ⟨.mk 13 0 [a.shift 1 0,z,s,nn],p && (q && f),⟨N1+N2+N3+100000,fun n hn=>?_⟩,?_,?_,?_,fun hb=>.recc e g a nn z s h6 (by omega) (tn.gr (Le hb)) (tz.gr (Le (Jh hb))) (ts.gr (Jh (Jh hb)))⟩
  ·obtain ⟨n,rfl⟩:∃k,n=k+1:=⟨n - 1,by omega⟩;have h1:=h1 n (by omega);have h2:=h2 n (by omega);have h3:=h3 n (by omega);rw [<- we2] at h1 h2 h3;have hw:=As (n:=n) (by omega) r.op (m:=5) (by omega) (by omega);rw [h4] at hw;have p0:=AM (n:=n) (by omega) r 0;have p1:=AM (n:=n) (by omega) r 1;have p2:=AM (n:=n) (by omega) r 2;have n4:=Mb (n:=n) (by omega);have m1:=Dx (n:=n) g 1 (.mk 10 0 []) (by omega) (by omega);have m2:=Dx (n:=n) (g++[(1,Tm.mk 10 0 [])]) 1 (a.shift 1 0) (by simp;omega) (by omega);have s1:=CK n a 1 0 (by omega) (EB _ _ ha.sc) (by omega) (by omega);have s2:=CK n a 2 0 (by omega) (EB _ _ ha.sc) (by omega) (by omega);have t13:=CP (n:=n) (by omega) 13 [a.shift 1 0,z,s,nn];have hd0:(0:Int)<(e:Int) - 5:=by omega
   rw [VP];clear hG hG2 tn tz ts hg hg1 hg2 ha hs1 hs2 hnat ss leafT tint hae hu1 hu2;generalize a.shift 1 0=a1 at s1 m2 t13 h3 ⊢;generalize a.shift 2 0=a2 at s2 h3;generalize r.pick 0=r0 at p0 h1;generalize r.pick 1=r1 at p1 h2;generalize r.pick 2=r2 at p2 h3;obtain ⟨o1,x1,k1⟩:=a;obtain ⟨o2,x2,k2⟩:=r;obtain ⟨o3,x3,k3⟩:=a1;obtain ⟨o4,x4,k4⟩:=a2;obtain ⟨o5,x5,k5⟩:=nn;obtain ⟨o6,x6,k6⟩:=z;obtain ⟨o7,x7,k7⟩:=s;obtain ⟨o8,x8,k8⟩:=r0;obtain ⟨o9,x9,k9⟩:=r1;obtain ⟨oa,xa,ka⟩:=r2;simp only [Tm.op] at hw hn2;simp only [A4,AzK,AzJ,Ah] at h1 h2 h3 p0 p1 p2 n4 m1 m2 s1 s2 t13 ⊢;cases p<;>cases q<;>(simp (maxSteps:=1000000) only [↓I7,↓XX,XY,↓reduceIte,Nat.reduceBEq,Nat.reduceAdd,Int.reduceEq,Int.reduceLT,Int.reduceLE,hd0,↓Ag hw,hn2,↓EL n4,↓Ag p0,↓Ag p1,↓Ag p2,↓AC h1,↓AC h2,↓AF m1,↓AF m2,↓AF s1,↓AF s2,↓AC h3,↓Aug,↓Ag t13];first | exact Al _ _ | exact Au rfl (by simp) _)
  ·exact ApP (by decide) (by decide) (BC (by decide) (by decide) (by decide)) hs1.sc tz.sc ss tn.sc
  ·have:=tz.wt;have:=ts.wt;have:=tn.wt;rw [wt4,BG];omega
  ·have:=tz.dp;have:=ts.dp;have:=tn.dp;rw [dp4,Fj];omega
 have hnr:¬ (0:Int)<(e:Int) - 5\/¬ r.op % 5=4\/a.op=2:=by omega
 by_cases o10:a.op=10
 ·have hz:=hu2 (by omega);rw [hz,o10] at hae;by_cases hs:6<=e/\r.op % 2=1
  ·obtain ⟨nn,p,⟨N1,h1⟩,tn⟩:=hG g a (r.pick 0) (AU (by omega) hg) (Bx ha);refine ⟨.mk 12 0 [nn],p,⟨N1+100,fun n hn=>?_⟩,Fm (by decide) (by decide) (BC (by decide) (by decide) (by decide)) tn.sc,by have:=tn.wt;rw [wt1];omega,by have:=tn.dp;rw [dp1];omega,fun hb=>.suc e g a nn hs.1 o10 (tn.gr hb)⟩;obtain ⟨n,rfl⟩:∃k,n=k+1:=⟨n - 1,by omega⟩;have h1:=h1 n (by omega);rw [<- we] at h1;have hw:=As (n:=n) (by omega) r.op (m:=5) (by omega) (by omega);have hw2:=As (n:=n) (by omega) r.op (m:=2) (by omega) (by omega);rw [hs.2] at hw2;have p0:=AM (n:=n) (by omega) r 0;have t12:=CP (n:=n) (by omega) 12 [nn];have hd0:(0:Int)<(e:Int) - 5:=by omega
   have h45:¬ r.op % 5=4:=by omega
   rw [VP];rw [hae] at h1 ⊢;clear hG hG2 tn hg ha leafT tint hae hu1 hu2 hop hnr;generalize r.op % 5=w5 at hw h45;generalize r.pick 0=r0 at p0 h1;obtain ⟨o2,x2,k2⟩:=r;obtain ⟨o5,x5,k5⟩:=nn;obtain ⟨o8,x8,k8⟩:=r0;simp only [Tm.op] at hw hw2;simp only [A4,AzK,AzJ,Ah] at h1 p0 t12 ⊢;simp (maxSteps:=1000000) only [↓I7,↓XX,XY,↓reduceIte,Nat.reduceBEq,Nat.reduceAdd,Int.reduceEq,Int.reduceLT,Int.reduceLE,hd0,↓Ag hw,h45,↓Ag hw2,↓Ag p0,↓AC h1,↓Di,↓Ag t12]
   first | exact Al _ _ | exact Au rfl (by simp) _
  ·have hj1:=Int.emod_nonneg r.n (show (4:Int)≠0 by decide)
   have hj2:=Int.emod_lt_of_pos r.n (show (0:Int)<4 by decide)
   obtain ⟨j,hj⟩:∃j:Nat,r.n % 4=j:=⟨(r.n % 4).toNat,by omega⟩;refine ⟨CG j,true,⟨100,fun n hn=>?_⟩,AkC _ j,by rw [Acc];omega,by have:=VQ (CG j);rw [Acc] at this;omega,fun _=>.num e g a j o10 (by omega)⟩;obtain ⟨n,rfl⟩:∃k,n=k+1:=⟨n - 1,by omega⟩;have hw:=As (n:=n) (by omega) r.op (m:=5) (by omega) (by omega);have hw2:=As (n:=n) (by omega) r.op (m:=2) (by omega) (by omega);have hw4:=As (n:=n) (by omega) r.n (m:=4) (by omega) (by omega);rw [hj] at hw4;have hnum:=Asz (n:=n) j (by omega) (by omega);have h45:(0:Int)<(e:Int) - 5->¬ r.op % 5=4:=by omega
   have h21:(0:Int)<(e:Int) - 5->¬ r.op % 2=1:=by omega
   rw [VP];rw [hae];clear hG hG2 hg ha leafT tint hae hu1 hu2 hop hnr hs;generalize r.op % 5=w5 at hw h45;generalize r.op % 2=w2 at hw2 h21;generalize CG j=nm at hnum ⊢;obtain ⟨o2,x2,k2⟩:=r;obtain ⟨o5,x5,k5⟩:=nm;simp only [Tm.op,Tm.n] at hw hw2 hw4;simp only [A4,AzJ,Ah] at hnum ⊢;by_cases hd0:(0:Int)<(e:Int) - 5
   ·have h45:=h45 hd0;have h21:=h21 hd0;simp (maxSteps:=1000000) only [↓I7,↓XX,XY,↓reduceIte,Nat.reduceBEq,Nat.reduceAdd,Int.reduceEq,Int.reduceLT,Int.reduceLE,hd0,↓Ag hw,h45,↓Ag hw2,h21,↓Ag hw4,↓Av hnum]
    first | exact Al _ _ | exact Au rfl (by simp) _
   ·simp (maxSteps:=1000000) only [↓I7,↓XX,XY,↓reduceIte,Nat.reduceBEq,Nat.reduceAdd,Int.reduceEq,Int.reduceLT,Int.reduceLE,hd0,↓Ag hw4,↓Av hnum]
    first | exact Al _ _ | exact Au rfl (by simp) _
 by_cases o14:a.op=14
 ·have hz:=hu2 (by omega);rw [hz,o14] at hae;by_cases hs:6<=e/\1<r.op % 5
  ·obtain ⟨x,p,⟨N1,h1⟩,tx⟩:=hG g a (r.pick 0) (AU (by omega) hg) (Bx ha);obtain ⟨y,q,⟨N2,h2⟩,ty⟩:=hG g a (r.pick 1) (AU (by omega) hg) (Bx ha);have hj1:=Int.emod_nonneg r.n (show (2:Int)≠0 by decide)
   have hj2:=Int.emod_lt_of_pos r.n (show (0:Int)<2 by decide)
   obtain ⟨oo,hoo,hoo2⟩:∃oo:Int,oo=16+r.n % 2/\(oo=16\/oo=17):=⟨_,rfl,by omega⟩;have hsc:(Tm.mk oo 0 [x,y]).sc g.length:=by
    rcases hoo2 with rfl | rfl<;>exact Cp (by decide) (by decide) (BC (by decide) (by decide) (by decide)) tx.sc ty.sc
   refine ⟨.mk oo 0 [x,y],p && q,⟨N1+N2+100,fun n hn=>?_⟩,hsc,by have:=tx.wt;have:=ty.wt;rw [Nt];omega,by have:=tx.dp;have:=ty.dp;rw [PK];omega,fun hb=>.tfun e g a x y oo hoo2 hs.1 o14 (tx.gr (Le hb)) (ty.gr (Jh hb))⟩;obtain ⟨n,rfl⟩:∃k,n=k+1:=⟨n - 1,by omega⟩;have h1:=h1 n (by omega);have h2:=h2 n (by omega);rw [<- we] at h1 h2;have hw:=As (n:=n) (by omega) r.op (m:=5) (by omega) (by omega);have hw2:=As (n:=n) (by omega) r.n (m:=2) (by omega) (by omega);have wo:BD (16+r.n % 2)=oo:=by rw [Az]<;>omega
   have p0:=AM (n:=n) (by omega) r 0;have p1:=AM (n:=n) (by omega) r 1;have t16:=CP (n:=n) (by omega) oo [x,y];rw [<- wo] at t16;have hd0:(0:Int)<(e:Int) - 5:=by omega
   have h45:¬ r.op % 5=4:=by omega
   have h15:=hs.2;rw [VP];rw [hae] at h1 h2 ⊢;clear hG hG2 tx ty hg ha leafT tint hae hu1 hu2 hop hnr hs hoo2 hsc;rw [<- wo];clear wo hoo;generalize r.op % 5=w5 at hw h45 h15;generalize r.n % 2=w2 at hw2 t16 ⊢;generalize r.pick 0=r0 at p0 h1;generalize r.pick 1=r1 at p1 h2;obtain ⟨o2,x2,k2⟩:=r;obtain ⟨o5,x5,k5⟩:=x;obtain ⟨o6,x6,k6⟩:=y;obtain ⟨o8,x8,k8⟩:=r0;obtain ⟨o9,x9,k9⟩:=r1;simp only [Tm.op,Tm.n] at hw hw2;simp only [A4,AzK,AzJ,Ah] at h1 h2 p0 p1 t16 ⊢;cases p<;>(simp (maxSteps:=1000000) only [↓I7,↓XX,XY,↓reduceIte,Nat.reduceBEq,Nat.reduceAdd,Int.reduceEq,Int.reduceLT,Int.reduceLE,hd0,↓Ag hw,h45,h15,↓Ag hw2,↓Ag p0,↓Ag p1,↓AC h1,↓AC h2,↓CA,↓Ag t16];first | exact Al _ _ | exact Au rfl (by simp) _)
  ·refine ⟨.mk 15 0 [],true,⟨100,fun n hn=>?_⟩,tg (leafT 15 0 (by decide) (by decide) (BC (by decide) (by decide) (by decide))) (fun _=>.tint e g a o14)⟩;obtain ⟨n,rfl⟩:∃k,n=k+1:=⟨n - 1,by omega⟩;have hw:=As (n:=n) (by omega) r.op (m:=5) (by omega) (by omega);have t15:=BI (n:=n) (by omega) 15;have h45:(0:Int)<(e:Int) - 5->¬ r.op % 5=4/\¬ 1<r.op % 5:=by omega
   rw [VP];rw [hae];clear hG hG2 hg ha leafT tint hae hu1 hu2 hop hnr hs;generalize r.op % 5=w5 at hw h45;obtain ⟨o2,x2,k2⟩:=r;simp only [Tm.op] at hw;simp only [A4,AzJ,Ah] at t15 ⊢;by_cases hd0:(0:Int)<(e:Int) - 5
   ·obtain ⟨h45,h15⟩:=h45 hd0;simp (maxSteps:=1000000) only [↓I7,↓XX,XY,↓reduceIte,Nat.reduceBEq,Nat.reduceAdd,Int.reduceEq,Int.reduceLT,Int.reduceLE,hd0,↓Ag hw,h45,h15,↓Ag t15]
    first | exact Al _ _ | exact Au rfl (by simp) _
   ·simp (maxSteps:=1000000) only [↓I7,↓XX,XY,↓reduceIte,Nat.reduceBEq,Nat.reduceAdd,Int.reduceEq,Int.reduceLT,Int.reduceLE,hd0,↓Ag t15]
    first | exact Al _ _ | exact Au rfl (by simp) _
 have o2:a.op=2:=by omega
 obtain ⟨hu3,hu4⟩:=hu1 o2;rw [o2] at hae;by_cases hn0:0<an
 ·refine ⟨.mk 2 (an - 1) [],true,⟨100,fun n hn=>?_⟩,tg (leafT 2 (an - 1) (by decide) (by decide) (by rw [BK,if_pos rfl];omega)) (fun _=>.uni e g a _ o2)⟩;obtain ⟨n,rfl⟩:∃k,n=k+1:=⟨n - 1,by omega⟩;have hw:=As (n:=n) (by omega) r.op (m:=5) (by omega) (by omega);have wu:BD (an - 1)=an - 1:=by rw [Az]<;>omega
  have hu:=Aip (n:=n) (by omega) (an - 1);rw [<- wu] at hu;rw [VP];rw [hae,<- wu];clear hG hG2 hg ha leafT tint hae hu1 hu2 hop hnr wu;generalize r.op % 5=w5 at hw;obtain ⟨o2,x2,k2⟩:=r;simp only [Tm.op] at hw;simp only [A4,AzJ,Ah] at hu ⊢;by_cases hd0:(0:Int)<(e:Int) - 5
  ·by_cases h4:w5=4
   ·simp (maxSteps:=1000000) only [↓I7,↓XX,XY,↓reduceIte,Nat.reduceBEq,Nat.reduceAdd,Int.reduceEq,Int.reduceLT,Int.reduceLE,hd0,↓Ag hw,h4,hn0,↓Av hu]
    first | exact Al _ _ | exact Au rfl (by simp) _
   ·simp (maxSteps:=1000000) only [↓I7,↓XX,XY,↓reduceIte,Nat.reduceBEq,Nat.reduceAdd,Int.reduceEq,Int.reduceLT,Int.reduceLE,hd0,↓Ag hw,h4,hn0,↓Av hu]
    first | exact Al _ _ | exact Au rfl (by simp) _
  ·simp (maxSteps:=1000000) only [↓I7,↓XX,XY,↓reduceIte,Nat.reduceBEq,Nat.reduceAdd,Int.reduceEq,Int.reduceLT,Int.reduceLE,hd0,hn0,↓Av hu]
   first | exact Al _ _ | exact Au rfl (by simp) _
 have han:an=0:=by omega
 subst han;have hq1:=Int.emod_nonneg r.op (show (4:Int)≠0 by decide)
 have hq2:=Int.emod_lt_of_pos r.op (show (0:Int)<4 by decide)
 by_cases hs:6<=e/\1<r.op % 4
 ·obtain ⟨x,p,⟨N1,h1⟩,tx⟩:=hG g a (r.pick 0) (AU (by omega) hg) (Bx ha);have hgx:GOk (e - 1) (g++[(1,x)]):=Da (by rw [show e - 1+1=e by omega];exact hg) tx.sc (by have:=tx.wt;omega) (by have:=tx.dp;omega)
  have hax:AOk (g++[(1,x)]).length a:=⟨by rw [hae];exact Ch (by decide) (by decide) (by rw [BK,if_pos rfl];omega),by omega,by omega⟩;obtain ⟨y,q,⟨N2,h2⟩,ty⟩:=hG (g++[(1,x)]) a (r.pick 1) hgx hax;have ys:y.sc (g.length+1):=by simpa using ty.sc
  obtain ⟨oo,hoo⟩:∃oo:Int,oo=3/\r.op % 4=2\/oo=6/\r.op % 4=3:=by
   by_cases h7:r.op % 4=2
   ·exact ⟨3,.inl ⟨rfl,h7⟩⟩
   ·exact ⟨6,.inr ⟨rfl,by omega⟩⟩
  have hsc:(Tm.mk oo 0 [x,y]).sc g.length:=by
   rcases hoo with ⟨rfl,_⟩ | ⟨rfl,_⟩<;>exact Cp (by decide) (by decide) (BC (by decide) (by decide) (by decide)) tx.sc ys
  refine ⟨.mk oo 0 [x,y],p && q,⟨N1+N2+100,fun n hn=>?_⟩,hsc,by have:=tx.wt;have:=ty.wt;rw [Nt];omega,by have:=tx.dp;have:=ty.dp;rw [PK];omega,fun hb=>.upi e g a x y oo (by omega) hs.1 o2 (AjI tx (by omega)) (tx.gr (Le hb)) (ty.gr (Jh hb))⟩;obtain ⟨n,rfl⟩:∃k,n=k+1:=⟨n - 1,by omega⟩;have h1:=h1 n (by omega);have h2:=h2 n (by omega);rw [<- we] at h1 h2;have hw:=As (n:=n) (by omega) r.op (m:=5) (by omega) (by omega);have hw4:=As (n:=n) (by omega) r.op (m:=4) (by omega) (by omega);have p0:=AM (n:=n) (by omega) r 0;have p1:=AM (n:=n) (by omega) r 1;have hm:=Dx (n:=n) g 1 x (by omega) (by omega);have t3:=CP (n:=n) (by omega) oo [x,y];have hd0:(0:Int)<(e:Int) - 5:=by omega
  have w22:BD (2 - 2)=0:=by rw [Az]<;>omega
  have w32:BD (3 - 2)=1:=by rw [Az]<;>omega
  have w0:BD 0=0:=by rw [Az]<;>omega
  have w1:BD 1=1:=by rw [Az]<;>omega
  rw [VP];rw [hae] at h1 h2 ⊢;clear hG hG2 tx ty hg ha leafT tint hae hu1 hu2 hop hnr hs hsc hgx hax ys;generalize r.op % 5=w5 at hw;generalize r.op % 4=w4 at hw4 hoo;generalize r.pick 0=r0 at p0 h1;generalize r.pick 1=r1 at p1 h2;obtain ⟨o2,x2,k2⟩:=r;obtain ⟨o5,x5,k5⟩:=x;obtain ⟨o6,x6,k6⟩:=y;obtain ⟨o8,x8,k8⟩:=r0;obtain ⟨o9,x9,k9⟩:=r1;simp only [Tm.op] at hw hw4;simp only [A4,AzK,AzJ,Ah] at h1 h2 p0 p1 hm t3 ⊢;rcases hoo with ⟨rfl,rfl⟩ | ⟨rfl,rfl⟩
  ·by_cases h4:w5=4<;>cases p<;>(simp (maxSteps:=1000000) only [↓I7,↓XX,XY,↓reduceIte,Nat.reduceBEq,Nat.reduceAdd,Int.reduceEq,Int.reduceLT,Int.reduceLE,hd0,↓Ag hw,h4,↓Ag hw4,↓Ag p0,↓Ag p1,↓AC h1,↓AF hm,↓AC h2,↓CA,↓Apo,↓S9,w22,w0,Int.reduceSub,↓AwT,↓Ag t3];first | exact Al _ _ | exact Au rfl (by simp) _)
  ·by_cases h4:w5=4<;>cases p<;>(simp (maxSteps:=1000000) only [↓I7,↓XX,XY,↓reduceIte,Nat.reduceBEq,Nat.reduceAdd,Int.reduceEq,Int.reduceLT,Int.reduceLE,hd0,↓Ag hw,h4,↓Ag hw4,↓Ag p0,↓Ag p1,↓AC h1,↓AF hm,↓AC h2,↓CA,↓Apo,↓S9,w32,w1,Int.reduceSub,↓AwU,↓Ag t3];first | exact Al _ _ | exact Au rfl (by simp) _)
 ·have hj1:=Int.emod_nonneg r.n (show (3:Int)≠0 by decide)
  have hj2:=Int.emod_lt_of_pos r.n (show (0:Int)<3 by decide)
  obtain ⟨t,ht,tt⟩:∃t:Tm,(r.n % 3=0/\t=.mk 10 0 []\/r.n % 3=1/\t=.mk 14 0 []\/r.n % 3=2/\t=.mk 18 0 [.mk 15 0 []])/\TG 3 e g a t true:=by
   have h:r.n % 3=0\/r.n % 3=1\/r.n % 3=2:=by omega
   rcases h with h | h | h
   ·exact ⟨_,.inl ⟨h,rfl⟩,tg (leafT 10 0 (by decide) (by decide) (BC (by decide) (by decide) (by decide))) (fun _=>.unat e g a o2)⟩
   ·exact ⟨_,.inr (.inl ⟨h,rfl⟩),tg (leafT 14 0 (by decide) (by decide) (BC (by decide) (by decide) (by decide))) (fun _=>.uty e g a o2)⟩
   ·exact ⟨_,.inr (.inr ⟨h,rfl⟩),tg tint (fun _=>.ult e g a o2)⟩
  refine ⟨t,true,⟨100,fun n hn=>?_⟩,tt⟩;obtain ⟨n,rfl⟩:∃k,n=k+1:=⟨n - 1,by omega⟩;have hw:=As (n:=n) (by omega) r.op (m:=5) (by omega) (by omega);have hw4:=As (n:=n) (by omega) r.op (m:=4) (by omega) (by omega);have hw3:=As (n:=n) (by omega) r.n (m:=3) (by omega) (by omega);have n4:=Mb (n:=n) (by omega);have t14:=BI (n:=n) (by omega) 14;have t15:=BI (n:=n) (by omega) 15;have t18:=CP (n:=n) (by omega) 18 [.mk 15 0 []];have h41:(0:Int)<(e:Int) - 5->¬ 1<r.op % 4:=by omega
  rw [VP];rw [hae];clear hG hG2 hg ha leafT tint hae hu1 hu2 hop hnr hs tt;generalize r.op % 5=w5 at hw;generalize r.op % 4=w4 at hw4 h41;generalize r.n % 3=w3 at hw3 ht;obtain ⟨o2,x2,k2⟩:=r;simp only [Tm.op,Tm.n] at hw hw4 hw3;simp only [A4,AzK,AzJ,Ah] at n4 t14 t15 t18 ⊢;by_cases hd0:(0:Int)<(e:Int) - 5
  ·have h41:=h41 hd0;by_cases h4:w5=4
   ·rcases ht with ⟨rfl,rfl⟩ | ⟨rfl,rfl⟩ | ⟨rfl,rfl⟩<;>(simp (maxSteps:=1000000) only [↓I7,↓XX,XY,↓reduceIte,Nat.reduceBEq,Nat.reduceAdd,Int.reduceEq,Int.reduceLT,Int.reduceLE,hd0,↓Ag hw,h4,↓Ag hw4,h41,↓EL n4,↓Ag t14,↓Ag t15,↓Di,↓Ag t18,↓Kc,↓Ag hw3,↓S9,↓BB,↓BM,↓G8,Ah];first | exact Al _ _ | exact Au rfl (by simp) _)
   ·rcases ht with ⟨rfl,rfl⟩ | ⟨rfl,rfl⟩ | ⟨rfl,rfl⟩<;>(simp (maxSteps:=1000000) only [↓I7,↓XX,XY,↓reduceIte,Nat.reduceBEq,Nat.reduceAdd,Int.reduceEq,Int.reduceLT,Int.reduceLE,hd0,↓Ag hw,h4,↓Ag hw4,h41,↓EL n4,↓Ag t14,↓Ag t15,↓Di,↓Ag t18,↓Kc,↓Ag hw3,↓S9,↓BB,↓BM,↓G8,Ah];first | exact Al _ _ | exact Au rfl (by simp) _)
  ·rcases ht with ⟨rfl,rfl⟩ | ⟨rfl,rfl⟩ | ⟨rfl,rfl⟩<;>(simp (maxSteps:=1000000) only [↓I7,↓XX,XY,↓reduceIte,Nat.reduceBEq,Nat.reduceAdd,Int.reduceEq,Int.reduceLT,Int.reduceLE,hd0,↓Ag hw4,↓EL n4,↓Ag t14,↓Ag t15,↓Di,↓Ag t18,↓Kc,↓Ag hw3,↓S9,↓BB,↓BM,↓G8,Ah];first | exact Al _ _ | exact Au rfl (by simp) _)
theorem Ahs {e:Nat} (h6:6<=e) (he:e<=10) (hO:DI 68 2 (e - 2)) (hG:DI 70 1 (e - 1)):PI 98 4 e:=by
 intro g a r hg ha;have hlen:=hg.len;have hW1:Wg e=4 * Wg (e - 1):=by
  obtain ⟨f,rfl⟩:∃f,e=f+1:=⟨e - 1,by omega⟩;rw [LP,Nat.add_sub_cancel]
 have hW2:Wg e=16 * Wg (e - 2):=by
  obtain ⟨f,rfl⟩:∃f,e=f+2:=⟨e - 2,by omega⟩;rw [show f+2=(f+1)+1 by omega,LP,LP,show f+1+1 - 2=f by omega];omega
 have hW0:=LR (e - 2);have hW10:=NV he;have hD1:Dg e=Dg (e - 1)+10:=by unfold Dg;omega
 have hD2:Dg e=Dg (e - 2)+20:=by unfold Dg;omega
 have hD0:200<=Dg (e - 2):=by unfold Dg;omega
 have hDm:Dg e<=300:=by unfold Dg;omega
 have we:BD ((e:Int) - 5 - 1)=((e - 1:Nat):Int) - 5:=by rw [Az (by omega) (by omega)];omega
 have we2:BD ((e:Int) - 5 - 2)=((e - 2:Nat):Int) - 5:=by rw [Az (by omega) (by omega)];omega
 have aw:=ha.wt;have ad:=ha.dp;have hk1:=Int.emod_nonneg r.n (show (7:Int)≠0 by decide)
 have hk2:=Int.emod_lt_of_pos r.n (show (0:Int)<7 by decide)
 have hi:AOk g.length (.mk 15 0 []):=⟨Ch (by decide) (by decide) (BC (by decide) (by decide) (by decide)),by simp only [Tm.wt,Tm.wtL];omega,by simp only [Tm.dp,Tm.dpL];omega⟩;have hs1:=OK ha (by omega) 1 (by omega);by_cases c0:r.n % 7=0
 ·obtain ⟨c,p,⟨N1,h1⟩,tc⟩:=hO g (.mk 15 0 []) (r.pick 0) (AU (by omega) hg) hi;obtain ⟨x,q,⟨N2,h2⟩,tx⟩:=hO g a (r.pick 1) (AU (by omega) hg) (Bx ha);obtain ⟨y,f,⟨N3,h3⟩,ty⟩:=hO g a (r.pick 2) (AU (by omega) hg) (Bx ha);refine ⟨.mk 27 0 [c,x,y],p && (q && f),⟨N1+N2+N3+100000,fun n hn=>?_⟩,XK (by decide) (by decide) (BC (by decide) (by decide) (by decide)) tc.sc tx.sc ty.sc,by have:=tc.wt;have:=tx.wt;have:=ty.wt;rw [wt3];omega,by have:=tc.dp;have:=tx.dp;have:=ty.dp;rw [dp3];omega,fun hb=>.oif e g a c x y h6 (tc.gr (Le hb)) (tx.gr (Le (Jh hb))) (ty.gr (Jh (Jh hb)))⟩
  ·obtain ⟨n,rfl⟩:∃k,n=k+1:=⟨n - 1,by omega⟩;have h1:=h1 n (by omega);have h2:=h2 n (by omega);have h3:=h3 n (by omega);rw [<- we2] at h1 h2 h3;have hw:=As (n:=n) (by omega) r.n (m:=7) (by omega) (by omega);have t15:=BI (n:=n) (by omega) 15;have p0:=AM (n:=n) (by omega) r 0;have p1:=AM (n:=n) (by omega) r 1;have p2:=AM (n:=n) (by omega) r 2;rw [c0] at hw;have t27:=CP (n:=n) (by omega) 27 [c,x,y];rw [c98];clear hO hG tc tx ty hg ha hi hs1;generalize r.pick 0=r0 at p0 h1;generalize r.pick 1=r1 at p1 h2;generalize r.pick 2=r2 at p2 h3;obtain ⟨o1,x1,k1⟩:=a;obtain ⟨o2,x2,k2⟩:=r;obtain ⟨o3,x3,k3⟩:=c;obtain ⟨o4,x4,k4⟩:=x;obtain ⟨o5,x5,k5⟩:=y;obtain ⟨o6,x6,k6⟩:=r0;obtain ⟨o7,x7,k7⟩:=r1;obtain ⟨o8,x8,k8⟩:=r2;simp only [Tm.n] at hw;simp only [A4,AzK,AzJ,Ah] at h1 h2 h3 t15 p0 p1 p2 t27 ⊢;cases p
   ·simp (maxSteps:=1000000) only [↓VJ,↓XX,XY,↓reduceIte,Nat.reduceBEq,Nat.reduceAdd,Int.reduceEq,Int.reduceLT,Int.reduceLE,↓Ag hw,↓Ag t15,↓Ag p0,↓Ag p1,↓Ag p2,↓AC h1,↓AC h2,↓AC h3,↓Kc,↓Ag t27];first | exact Al _ _ | exact Au rfl (by simp) _
   ·cases q
    ·simp (maxSteps:=1000000) only [↓VJ,↓XX,XY,↓reduceIte,Nat.reduceBEq,Nat.reduceAdd,Int.reduceEq,Int.reduceLT,Int.reduceLE,↓Ag hw,↓Ag t15,↓Ag p0,↓Ag p1,↓Ag p2,↓AC h1,↓AC h2,↓AC h3,↓Kc,↓Ag t27];first | exact Al _ _ | exact Au rfl (by simp) _
    ·simp (maxSteps:=1000000) only [↓VJ,↓XX,XY,↓reduceIte,Nat.reduceBEq,Nat.reduceAdd,Int.reduceEq,Int.reduceLT,Int.reduceLE,↓Ag hw,↓Ag t15,↓Ag p0,↓Ag p1,↓Ag p2,↓AC h1,↓AC h2,↓AC h3,↓Kc,↓Ag t27];first | exact Al _ _ | exact Au rfl (by simp) _
 by_cases c12:r.n % 7=1\/r.n % 7=2
 ·have hb:=E3 g.length 1 (r.pick 0);have hbw:=DP 1 (r.pick 0);have hbd:=VQ ((r.pick 0).plainT 1);obtain ⟨b,hbe⟩:∃b,b=(r.pick 0).plainT 1:=⟨_,rfl⟩;rw [<- hbe] at hb hbw hbd;obtain ⟨x,p,⟨N1,h1⟩,tx⟩:=hO g b (r.pick 1) (AU (by omega) hg) ⟨hb,by omega,by omega⟩;have hgb:GOk (e - 2) (g++[(0,b)]):=Da (AU (by omega) hg) hb (by omega) (by omega);obtain ⟨y,q,⟨N2,h2⟩,ty⟩:=hO (g++[(0,b)]) (a.shift 1 0) (r.pick 2) hgb (by simpa using Bx hs1);have ys:y.sc (g.length+1):=by simpa using ty.sc
  obtain ⟨tt,htt,hok⟩:∃tt:Tm,(r.n % 7=1/\tt=.mk 28 0 [x,y]\/r.n % 7=2/\tt=.mk 21 0 [.mk 20 0 [b,y],x])/\TG 4 e g a tt (p && q):=by
   rcases c12 with h | h
   ·exact ⟨_,.inl ⟨h,rfl⟩,Cp (by decide) (by decide) (BC (by decide) (by decide) (by decide)) tx.sc ys,by have:=tx.wt;have:=ty.wt;rw [Nt];omega,by have:=tx.dp;have:=ty.dp;rw [PK];omega,fun hpq=>by subst hbe;exact .olet e g a (r.pick 0) x y h6 (tx.gr (Le hpq)) (ty.gr (Jh hpq))⟩
   ·exact ⟨_,.inr ⟨h,rfl⟩,Cp (by decide) (by decide) (BC (by decide) (by decide) (by decide)) (Cp (by decide) (by decide) (BC (by decide) (by decide) (by decide)) hb ys) tx.sc,by have:=tx.wt;have:=ty.wt;rw [Nt,Nt];omega,by have:=tx.dp;have:=ty.dp;rw [PK,PK];omega,fun hpq=>by subst hbe;exact .oapp e g a (r.pick 0) x y h6 (tx.gr (Le hpq)) (ty.gr (Jh hpq))⟩
  refine ⟨tt,p && q,⟨N1+N2+100000,fun n hn=>?_⟩,hok⟩
  ·obtain ⟨n,rfl⟩:∃k,n=k+1:=⟨n - 1,by omega⟩;have h1:=h1 n (by omega);have h2:=h2 n (by omega);rw [<- we2] at h1 h2;have hw:=As (n:=n) (by omega) r.n (m:=7) (by omega) (by omega);have t15:=BI (n:=n) (by omega) 15;have p0:=AM (n:=n) (by omega) r 0;have p1:=AM (n:=n) (by omega) r 1;have p2:=AM (n:=n) (by omega) r 2;have hp:=K6 1 n (r.pick 0) (by omega) (by omega);rw [<- hbe] at hp;have hm:=Dx (n:=n) g 0 b (by omega) (by omega);have sh:=CK n a 1 0 (by omega) (EB _ _ ha.sc) (by omega) (by omega);have t28:=CP (n:=n) (by omega) 28 [x,y];have t20:=CP (n:=n) (by omega) 20 [b,y];have t21:=CP (n:=n) (by omega) 21 [.mk 20 0 [b,y],x];rw [c98];clear hO hG tx ty hg ha hi hs1 hbe hb hgb ys hok c12;generalize r.n % 7=w7 at hw htt;generalize a.shift 1 0=a1 at sh h2;generalize r.pick 0=r0 at p0 hp;generalize r.pick 1=r1 at p1 h1;generalize r.pick 2=r2 at p2 h2;obtain ⟨o1,x1,k1⟩:=a;obtain ⟨o2,x2,k2⟩:=r;obtain ⟨o3,x3,k3⟩:=b;obtain ⟨o4,x4,k4⟩:=x;obtain ⟨o5,x5,k5⟩:=y;obtain ⟨o6,x6,k6⟩:=r0;obtain ⟨o7,x7,k7⟩:=r1;obtain ⟨o8,x8,k8⟩:=r2;obtain ⟨o9,x9,k9⟩:=a1;simp only [Tm.n] at hw;simp only [A4,AzK,AzJ,Ah] at h1 h2 t15 p0 p1 p2 hp hm sh t28 t20 t21 ⊢;rcases htt with ⟨rfl,rfl⟩ | ⟨rfl,rfl⟩
   ·cases p<;>(simp (maxSteps:=1000000) only [↓VJ,↓XX,XY,↓reduceIte,Nat.reduceBEq,Nat.reduceAdd,Int.reduceEq,Int.reduceLT,Int.reduceLE,↓Ag hw,↓Ag t15,↓Ag p0,↓Ag p1,↓Ag p2,↓Ag hp,↓AC h1,↓AF hm,↓AF sh,↓AC h2,↓CA,↓Ag t28,Ah,AzK,AzJ];first | exact Al _ _ | exact Au rfl (by simp) _)
   ·cases p<;>(simp (maxSteps:=1000000) only [↓VJ,↓XX,XY,↓reduceIte,Nat.reduceBEq,Nat.reduceAdd,Int.reduceEq,Int.reduceLT,Int.reduceLE,↓Ag hw,↓Ag t15,↓Ag p0,↓Ag p1,↓Ag p2,↓Ag hp,↓AC h1,↓AF hm,↓AF sh,↓AC h2,↓CA,↓Ag t20,↓Ag t21,Ah,AzK,AzJ];first | exact Al _ _ | exact Au rfl (by simp) _)
 by_cases c3:r.n % 7=3
 ·obtain ⟨x,p,⟨N1,h1⟩,tx⟩:=hO g a (r.pick 0) (AU (by omega) hg) (Bx ha);obtain ⟨y,q,⟨N2,h2⟩,ty⟩:=hO g (.mk 15 0 []) (r.pick 1) (AU (by omega) hg) hi;refine ⟨.mk 23 0 [.mk 22 0 [x,y]],p && q,⟨N1+N2+100000,fun n hn=>?_⟩,Fm (by decide) (by decide) (BC (by decide) (by decide) (by decide)) (Cp (by decide) (by decide) (BC (by decide) (by decide) (by decide)) tx.sc ty.sc),by have:=tx.wt;have:=ty.wt;rw [wt1,Nt];omega,by have:=tx.dp;have:=ty.dp;rw [dp1,PK];omega,fun hb=>.ofst e g a x y h6 (tx.gr (Le hb)) (ty.gr (Jh hb))⟩
  ·obtain ⟨n,rfl⟩:∃k,n=k+1:=⟨n - 1,by omega⟩;have h1:=h1 n (by omega);have h2:=h2 n (by omega);rw [<- we2] at h1 h2;have hw:=As (n:=n) (by omega) r.n (m:=7) (by omega) (by omega);have t15:=BI (n:=n) (by omega) 15;have p0:=AM (n:=n) (by omega) r 0;have p1:=AM (n:=n) (by omega) r 1;have p2:=AM (n:=n) (by omega) r 2;rw [c3] at hw;have t22:=CP (n:=n) (by omega) 22 [x,y];have t23:=CP (n:=n) (by omega) 23 [.mk 22 0 [x,y]];rw [c98];clear hO hG tx ty hg ha hi hs1;generalize r.pick 0=r0 at p0 h1;generalize r.pick 1=r1 at p1 h2;obtain ⟨o1,x1,k1⟩:=a;obtain ⟨o2,x2,k2⟩:=r;obtain ⟨o4,x4,k4⟩:=x;obtain ⟨o5,x5,k5⟩:=y;obtain ⟨o6,x6,k6⟩:=r0;obtain ⟨o7,x7,k7⟩:=r1;simp only [Tm.n] at hw;simp only [A4,AzK,AzJ,Ah] at h1 h2 t15 p0 p1 t22 t23 ⊢;cases p<;>(simp (maxSteps:=1000000) only [↓VJ,↓XX,XY,↓reduceIte,Nat.reduceBEq,Nat.reduceAdd,Int.reduceEq,Int.reduceLT,Int.reduceLE,↓Ag hw,↓Ag t15,↓Ag p0,↓Ag p1,↓AC h1,↓AC h2,↓CA,↓Di,↓Ag t22,↓Ag t23];first | exact Al _ _ | exact Au rfl (by simp) _)
 by_cases c4:r.n % 7=4
 ·have hga:GOk (e - 2) (g++[(0,a)]):=Da (AU (by omega) hg) ha.sc (by omega) (by omega);obtain ⟨x,p,⟨N1,h1⟩,tx⟩:=hO (g++[(0,a)]) (a.shift 1 0) (r.pick 0) hga (by simpa using Bx hs1);have xs:x.sc (g.length+1):=by simpa using tx.sc
  refine ⟨.mk 29 0 [a,x],p,⟨N1+100000,fun n hn=>?_⟩,Cp (by decide) (by decide) (BC (by decide) (by decide) (by decide)) ha.sc xs,by have:=tx.wt;rw [Nt];omega,by have:=tx.dp;rw [PK];omega,fun hb=>.ofix e g a x h6 (tx.gr hb)⟩
  ·obtain ⟨n,rfl⟩:∃k,n=k+1:=⟨n - 1,by omega⟩;have h1:=h1 n (by omega);rw [<- we2] at h1;have hw:=As (n:=n) (by omega) r.n (m:=7) (by omega) (by omega);have t15:=BI (n:=n) (by omega) 15;have p0:=AM (n:=n) (by omega) r 0;have p1:=AM (n:=n) (by omega) r 1;have p2:=AM (n:=n) (by omega) r 2;rw [c4] at hw;have hm:=Dx (n:=n) g 0 a (by omega) (by omega);have sh:=CK n a 1 0 (by omega) (EB _ _ ha.sc) (by omega) (by omega);have t29:=CP (n:=n) (by omega) 29 [a,x];rw [c98];clear hO hG tx hg ha hi hs1 hga xs;generalize a.shift 1 0=a1 at sh h1;generalize r.pick 0=r0 at p0 h1;obtain ⟨o1,x1,k1⟩:=a;obtain ⟨o2,x2,k2⟩:=r;obtain ⟨o4,x4,k4⟩:=x;obtain ⟨o6,x6,k6⟩:=r0;obtain ⟨o9,x9,k9⟩:=a1;simp only [Tm.n] at hw;simp only [A4,AzK,AzJ,Ah] at h1 t15 p0 hm sh t29 ⊢;simp (maxSteps:=1000000) only [↓VJ,↓XX,XY,↓reduceIte,Nat.reduceBEq,Nat.reduceAdd,Int.reduceEq,Int.reduceLT,Int.reduceLE,↓Ag hw,↓Ag t15,↓Ag p0,↓AF hm,↓AF sh,↓AC h1,↓CA,↓Ag t29];first | exact Al _ _ | exact Au rfl (by simp) _
 ·have hla:AOk g.length (.mk 18 0 [a]):=⟨Fm (by decide) (by decide) (BC (by decide) (by decide) (by decide)) ha.sc,by rw [wt1];omega,by rw [dp1];omega⟩;obtain ⟨x,p,⟨N1,h1⟩,tx⟩:=hG g (.mk 18 0 [a]) (r.pick 0) (AU (by omega) hg) hla;refine ⟨.mk 30 0 [x],p,⟨N1+100000,fun n hn=>?_⟩,Fm (by decide) (by decide) (BC (by decide) (by decide) (by decide)) tx.sc,by have:=tx.wt;rw [wt1];omega,by have:=tx.dp;rw [dp1];omega,fun hb=>.spl e g a x h6 (tx.gr hb)⟩
  ·obtain ⟨n,rfl⟩:∃k,n=k+1:=⟨n - 1,by omega⟩;have h1:=h1 n (by omega);rw [<- we] at h1;have hw:=As (n:=n) (by omega) r.n (m:=7) (by omega) (by omega);have t15:=BI (n:=n) (by omega) 15;have p0:=AM (n:=n) (by omega) r 0;have p1:=AM (n:=n) (by omega) r 1;have p2:=AM (n:=n) (by omega) r 2;have c1:¬ r.n % 7=1:=fun h=>c12 (.inl h);have c2:¬ r.n % 7=2:=fun h=>c12 (.inr h);have t18:=CP (n:=n) (by omega) 18 [a];have t30:=CP (n:=n) (by omega) 30 [x];rw [c98];clear hO hG tx hg ha hi hs1 hla c12 hk1 hk2;generalize r.n % 7=w7 at hw c0 c1 c2 c3 c4;generalize r.pick 0=r0 at p0 h1;obtain ⟨o1,x1,k1⟩:=a;obtain ⟨o2,x2,k2⟩:=r;obtain ⟨o4,x4,k4⟩:=x;obtain ⟨o6,x6,k6⟩:=r0;simp only [Tm.n] at hw;simp only [A4,AzK,AzJ,Ah] at h1 t15 p0 t18 t30 ⊢;simp (maxSteps:=1000000) only [↓VJ,↓XX,XY,↓reduceIte,Nat.reduceBEq,Nat.reduceAdd,Int.reduceEq,Int.reduceLT,Int.reduceLE,↓Ag hw,c0,c1,c2,c3,c4,↓Ag t15,↓Ag p0,↓Di,↓Ag t18,↓AC h1,↓Ag t30];first | exact Al _ _ | exact Au rfl (by simp) _
theorem GA {k:Nat} {a:Tm} {r:Nat} (h:NOk k a) (hr:ar a.op=some r):a.kids.length=r:=JP h.sc rfl hr
theorem AcR {l:List Tm} (h:l.length=2):∃x y,l=[x,y]:=by
 match l,h with
 | [x,y],_=>exact ⟨x,y,rfl⟩
theorem AuA {l:List Tm} (h:l.length=1):∃x,l=[x]:=by
 match l,h with
 | [x],_=>exact ⟨x,rfl⟩
theorem AvQ {l:List Tm} (h:l.length=0):l=[]:=List.eq_nil_of_length_eq_zero h
theorem Ahz {e:Nat} (he:e<=10) (hO:1<=e->DI 68 2 (e - 1)) (hA:6<=e->PI 98 4 e):DI 68 2 e:=by
 intro g a0 r hg ha0;have hlen:=hg.len;have hW0:=LR e;have hD0:200<=Dg e:=by unfold Dg;omega
 have hDm:Dg e<=300:=by unfold Dg;omega
 have hW10:=NV he;obtain ⟨a,er,⟨N0,h0⟩,hcase,fn,hfn⟩:=Kd (k:=g.length) (by omega) ha0.sc (by have:=ha0.dp;omega);rcases hcase with ⟨rfl,ha⟩ | ⟨her,rfl⟩
 case inr =>
  have hne:er≠0:=by omega
  refine ⟨.z,false,⟨N0+100,fun n hn=>?_⟩,Ass _,by simp only [Tm.z,Tm.wt,Tm.wtL];omega,by simp only [Tm.z,Tm.dp,Tm.dpL];omega,fun h=>by cases h⟩;obtain ⟨n,rfl⟩:∃k,n=k+1:=⟨n - 1,by omega⟩;have h0:=h0 n (by omega);rw [c68];clear hO hA hg ha0;obtain ⟨o1,x1,k1⟩:=a0;obtain ⟨o2,x2,k2⟩:=r;simp only [A4,Tm.z,AzJ,Ah] at h0 ⊢;simp (maxSteps:=1000000) only [↓Ns,↓XX,XY,↓reduceIte,Nat.reduceBEq,Nat.reduceAdd,Int.reduceEq,Int.reduceLT,Int.reduceLE,↓Av h0,hne];first | exact Al _ _ | exact Au rfl (by simp) _
 obtain ⟨v,is,⟨N1,h1⟩,tv0,hhit⟩:=LI hg 0 ha r.n;have up:∀{t:Tm},Gr 4 e g a t->Gr 2 e g a0 t:=fun h=>.objc e g a0 a _ fn hfn (by omega) ha h;have tv:TG 2 e g a0 v is:=tg (U5 (Nat.zero_le _) tv0) (fun hb=>by
  obtain ⟨i,rfl,hi⟩:=hhit hb;exact up (.var0 e g a i hi))
 clear tv0 hhit;have aw:=ha.wt;have ad:=ha.dp;have hw3m:=Int.emod_nonneg r.op (show (3:Int)≠0 by decide)
 by_cases cv:is=true/\r.op % 3=0\/e=0
 ·refine ⟨v,is,⟨N0+N1+100,fun n hn=>?_⟩,tv⟩;obtain ⟨n,rfl⟩:∃k,n=k+1:=⟨n - 1,by omega⟩;have h0:=h0 n (by omega);have h1:=h1 n (by omega);have hw:=As (n:=n) (by omega) r.op (m:=3) (by omega) (by omega);rw [c68];clear up hfn hO hA hg ha0 ha tv;obtain ⟨o0,x0,k0⟩:=a0;obtain ⟨o1,x1,k1⟩:=a;obtain ⟨o2,x2,k2⟩:=r;obtain ⟨o3,x3,k3⟩:=v;simp only [Tm.n,Tm.op] at h1 hw cv;simp only [A4,Ah] at h0 h1 ⊢;generalize o2 % 3=w3 at hw cv;rcases cv with ⟨rfl,rfl⟩ | rfl
  ·simp (maxSteps:=1000000) only [↓Ns,↓XX,XY,↓reduceIte,Nat.reduceBEq,Nat.reduceAdd,Int.reduceEq,Int.reduceLT,Int.reduceLE,↓Av h0,↓AC h1,↓Ag hw];first | exact Al _ _ | exact Au rfl (by simp) _
  ·have hd4:((0:Nat):Int) - 5 < -4:=by omega
   cases is
   ·simp (maxSteps:=1000000) only [↓Ns,↓XX,XY,↓reduceIte,Nat.reduceBEq,Nat.reduceAdd,Int.reduceEq,Int.reduceLT,Int.reduceLE,↓Av h0,↓AC h1,↓Ag hw,hd4,Int.reduceSub,Int.reduceLT,Int.reduceNeg];first | exact Al _ _ | exact Au rfl (by simp) _
   ·by_cases h3:w3=0
    ·simp (maxSteps:=1000000) only [↓Ns,↓XX,XY,↓reduceIte,Nat.reduceBEq,Nat.reduceAdd,Int.reduceEq,Int.reduceLT,Int.reduceLE,↓Av h0,↓AC h1,↓Ag hw,h3,hd4,Int.reduceSub,Int.reduceLT,Int.reduceNeg];first | exact Al _ _ | exact Au rfl (by simp) _
    ·simp (maxSteps:=1000000) only [↓Ns,↓XX,XY,↓reduceIte,Nat.reduceBEq,Nat.reduceAdd,Int.reduceEq,Int.reduceLT,Int.reduceLE,↓Av h0,↓AC h1,↓Ag hw,h3,hd4,Int.reduceSub,Int.reduceLT,Int.reduceNeg];first | exact Al _ _ | exact Au rfl (by simp) _
 have he1:1<=e:=by omega
 have hd4:¬ (e:Int) - 5 < -4:=by omega
 have hv:is=true->¬ r.op % 3=0:=fun h1 h2=>cv (.inl ⟨h1,h2⟩);have hW1:Wg e=4 * Wg (e - 1):=by
  obtain ⟨f,rfl⟩:∃f,e=f+1:=⟨e - 1,by omega⟩;rw [LP,Nat.add_sub_cancel]
 have hW01:=LR (e - 1);have hD1:Dg e=Dg (e - 1)+10:=by unfold Dg;omega
 have hD01:200<=Dg (e - 1):=by unfold Dg;omega
 have we:BD ((e:Int) - 5 - 1)=((e - 1:Nat):Int) - 5:=by rw [Az (by omega) (by omega)];omega
 have hO:=hO he1;by_cases ca:6<=e/\r.op % 3=1
 ·obtain ⟨t,b,⟨N2,h2⟩,tt⟩:=hA ca.1 g a r hg ha;refine ⟨t,b,⟨N0+N1+N2+100,fun n hn=>?_⟩,AhT tt up⟩;obtain ⟨n,rfl⟩:∃k,n=k+1:=⟨n - 1,by omega⟩;have h0:=h0 n (by omega);have h1:=h1 n (by omega);have h2:=h2 n (by omega);have hw:=As (n:=n) (by omega) r.op (m:=3) (by omega) (by omega);rw [ca.2] at hw;have hd0:(0:Int)<(e:Int) - 5:=by omega
  rw [c68];clear up hfn hO hA hg ha0 ha tv tt;obtain ⟨o0,x0,k0⟩:=a0;obtain ⟨o1,x1,k1⟩:=a;obtain ⟨o2,x2,k2⟩:=r;obtain ⟨o3,x3,k3⟩:=v;obtain ⟨o4,x4,k4⟩:=t;simp only [Tm.n,Tm.op] at h1 hw;simp only [A4,Ah] at h0 h1 h2 ⊢;cases is<;>(simp (maxSteps:=1000000) only [↓Ns,↓XX,XY,↓reduceIte,Nat.reduceBEq,Nat.reduceAdd,Int.reduceEq,Int.reduceLT,Int.reduceLE,↓Av h0,↓AC h1,↓Ag hw,hd4,hd0,↓AC h2];first | exact Al _ _ | exact Au rfl (by simp) _)
 have hna:(0:Int)<(e:Int) - 5->¬ r.op % 3=1:=by omega
 by_cases o15:a.op=15
 ·have hl:=AvQ (GA ha (show ar a.op=some 0 by rw [o15];decide))
  by_cases hs:6<=e/\r.op % 2=1
  ·obtain ⟨x,p,⟨N2,h2⟩,tx⟩:=hO g a (r.pick 0) (AU (by omega) hg) (Bx ha);obtain ⟨y,q,⟨N3,h3⟩,ty⟩:=hO g a (r.pick 1) (AU (by omega) hg) (Bx ha);have hj1:=Int.emod_nonneg r.n (show (5:Int)≠0 by decide)
   have hj2:=Int.emod_lt_of_pos r.n (show (0:Int)<5 by decide)
   refine ⟨.mk 26 (r.n % 5) [x,y],p && q,⟨N0+N1+N2+N3+100,fun n hn=>?_⟩,Cp (by decide) (by decide) (by rw [BK,if_neg (by decide),if_pos rfl];omega) tx.sc ty.sc,by have:=tx.wt;have:=ty.wt;rw [Nt];omega,by have:=tx.dp;have:=ty.dp;rw [PK];omega,fun hb=>up (.oprim e g a x y _ hs.1 o15 (tx.gr (Le hb)) (ty.gr (Jh hb)))⟩;obtain ⟨n,rfl⟩:∃k,n=k+1:=⟨n - 1,by omega⟩;have h0:=h0 n (by omega);have h1:=h1 n (by omega);have h2:=h2 n (by omega);have h3:=h3 n (by omega);rw [<- we] at h2 h3;have hw:=As (n:=n) (by omega) r.op (m:=3) (by omega) (by omega);have hw2:=As (n:=n) (by omega) r.op (m:=2) (by omega) (by omega);rw [hs.2] at hw2;have hw5:=As (n:=n) (by omega) r.n (m:=5) (by omega) (by omega);have p0:=AM (n:=n) (by omega) r 0;have p1:=AM (n:=n) (by omega) r 1;have hd0:(0:Int)<(e:Int) - 5:=by omega
   replace hna:=hna hd0;rw [c68];clear up hfn hO hA hg ha0 ha tv tx ty hj1 hj2;generalize r.op % 3=w3 at hw hv hna;generalize r.n % 5=w5 at hw5 ⊢;generalize r.pick 0=r0 at p0 h2;generalize r.pick 1=r1 at p1 h3;obtain ⟨o0,x0,k0⟩:=a0;obtain ⟨o1,x1,k1⟩:=a;simp only [Tm.op,Tm.kids] at o15 hl;subst o15 hl;obtain ⟨o2,x2,k2⟩:=r;obtain ⟨o3,x3,k3⟩:=v;obtain ⟨o4,x4,k4⟩:=x;obtain ⟨o5,x5,k5⟩:=y;obtain ⟨o6,x6,k6⟩:=r0;obtain ⟨o7,x7,k7⟩:=r1;simp only [Tm.n,Tm.op] at h1 hw hw2 hw5;simp only [A4,Ah,AzK,AzJ] at h0 h1 h2 h3 p0 p1 ⊢;cases is<;>cases p<;>(simp (maxSteps:=1000000) only [↓Ns,↓XX,XY,↓reduceIte,Nat.reduceBEq,Nat.reduceAdd,Int.reduceEq,Int.reduceLT,Int.reduceLE,↓Av h0,↓AC h1,↓Ag hw,hv,hd4,hd0,hna,↓Ag hw2,↓Ag p0,↓Ag p1,↓AC h2,↓AC h3,↓Ag hw5,↓CA];first | exact Al _ _ | exact Au rfl (by simp) _)
  ·have hj1:=Int.emod_nonneg r.n (show (20:Int)≠0 by decide)
   have hj2:=Int.emod_lt_of_pos r.n (show (0:Int)<20 by decide)
   refine ⟨.mk 25 (r.n % 20 - 5) [],true,⟨N0+N1+100,fun n hn=>?_⟩,Ch (by decide) (by decide) (by rw [BK,if_neg (by decide),if_neg (by decide),if_pos rfl];omega),by simp only [Tm.wt,Tm.wtL];omega,by simp only [Tm.dp,Tm.dpL];omega,fun _=>up (.oint e g a _ o15)⟩;obtain ⟨n,rfl⟩:∃k,n=k+1:=⟨n - 1,by omega⟩;have h0:=h0 n (by omega);have h1:=h1 n (by omega);have hw:=As (n:=n) (by omega) r.op (m:=3) (by omega) (by omega);have hw2:=As (n:=n) (by omega) r.op (m:=2) (by omega) (by omega);have hw20:=As (n:=n) (by omega) r.n (m:=20) (by omega) (by omega);have w5:BD (r.n % 20 - 5)=r.n % 20 - 5:=by rw [Az]<;>omega
   have hin:=Ai9 (n:=n) (by omega) (r.n % 20 - 5);rw [<- w5] at hin;have h21:(0:Int)<(e:Int) - 5->¬ r.op % 2=1:=by omega
   rw [c68,<- w5];clear up hfn hO hA hg ha0 ha tv hj1 hj2 w5 hs;generalize r.op % 3=w3 at hw hv hna;generalize r.op % 2=w2 at hw2 h21;generalize r.n % 20=w20 at hw20 hin ⊢;obtain ⟨o0,x0,k0⟩:=a0;obtain ⟨o1,x1,k1⟩:=a;simp only [Tm.op,Tm.kids] at o15 hl;subst o15 hl;obtain ⟨o2,x2,k2⟩:=r;obtain ⟨o3,x3,k3⟩:=v;simp only [Tm.n,Tm.op] at h1 hw hw2 hw20;simp only [A4,Ah,AzK,AzJ] at h0 h1 hin ⊢;cases is<;>by_cases hd0:(0:Int)<(e:Int) - 5<;>(simp (maxSteps:=1000000) only [↓Ns,↓XX,XY,↓reduceIte,Nat.reduceBEq,Nat.reduceAdd,Int.reduceEq,Int.reduceLT,Int.reduceLE,↓Av h0,↓AC h1,↓Ag hw,hv,hd4,hd0,hna,↓Ag hw2,h21,↓Ag hw20,↓Av hin];first | exact Al _ _ | exact Au rfl (by simp) _)
 by_cases o16:a.op=16
 ·obtain ⟨d,c,hl⟩:=AcR (GA ha (show ar a.op=some 2 by rw [o16];decide))
  have hd:NOk g.length d/\NOk g.length c:=by
   obtain ⟨o1,x1,k1⟩:=a;simp only [Tm.op,Tm.kids] at o16 hl;subst o16 hl;have hsc:=ha.sc;rw [Tm.sc] at hsc;rw [Nt] at aw;rw [PK] at ad;exact ⟨⟨hsc.2.2.1,by omega,by omega⟩,⟨hsc.2.2.2.1,by omega,by omega⟩⟩
  obtain ⟨hd,hc⟩:=hd;have hgd:GOk (e - 1) (g++[(0,d)]):=Da (by rw [show e - 1+1=e by omega];exact hg) hd.sc (by have:=hd.wt;omega) (by have:=hd.dp;omega)
  obtain ⟨x,p,⟨N2,h2⟩,tx⟩:=hO (g++[(0,d)]) (c.shift 1 0) (r.pick 0) hgd (by simpa using Bx (OK hc (by omega) 1 (by omega)));have xs:x.sc (g.length+1):=by simpa using tx.sc
  refine ⟨.mk 20 0 [d,x],p,⟨N0+N1+N2+100000,fun n hn=>?_⟩,Cp (by decide) (by decide) (BC (by decide) (by decide) (by decide)) hd.sc xs,by have:=tx.wt;have:=hd.wt;rw [Nt];omega,by have:=tx.dp;have:=hd.dp;rw [PK];omega,fun hb=>up (by
   obtain ⟨oa,xa,ka⟩:=a;simp only [Tm.op,Tm.kids] at o16 hl;subst o16 hl;exact .olam e g _ d c x (tx.gr hb))⟩
  ·obtain ⟨n,rfl⟩:∃k,n=k+1:=⟨n - 1,by omega⟩;have h0:=h0 n (by omega);have h1:=h1 n (by omega);have h2:=h2 n (by omega);rw [<- we] at h2;have hw:=As (n:=n) (by omega) r.op (m:=3) (by omega) (by omega);have p0:=AM (n:=n) (by omega) r 0;have hm:=Dx (n:=n) g 0 d (by omega) (by omega);have sh:=CK n c 1 0 (by have:=hc.wt;omega) (EB _ _ hc.sc) (by omega) (by have:=hc.wt;omega);have t20:=CP (n:=n) (by omega) 20 [d,x];rw [c68];clear up hfn hO hA hg ha0 ha tv tx hd hc hgd xs;generalize r.op % 3=w3 at hw hv hna;generalize c.shift 1 0=c1 at sh h2;generalize r.pick 0=r0 at p0 h2;obtain ⟨o0,x0,k0⟩:=a0;obtain ⟨o1,x1,k1⟩:=a;simp only [Tm.op,Tm.kids] at o16 hl;subst o16 hl;obtain ⟨o2,x2,k2⟩:=r;obtain ⟨o3,x3,k3⟩:=v;obtain ⟨o4,x4,k4⟩:=x;obtain ⟨o5,x5,k5⟩:=d;obtain ⟨o6,x6,k6⟩:=c;obtain ⟨o7,x7,k7⟩:=c1;obtain ⟨o8,x8,k8⟩:=r0;simp only [Tm.n,Tm.op] at h1 hw;simp only [A4,Ah,AzK,AzJ] at h0 h1 h2 p0 hm sh t20 ⊢;cases is<;>by_cases hd0:(0:Int)<(e:Int) - 5<;>(simp (maxSteps:=1000000) only [↓Ns,↓XX,XY,↓reduceIte,Nat.reduceBEq,Nat.reduceAdd,Int.reduceEq,Int.reduceLT,Int.reduceLE,↓Av h0,↓AC h1,↓Ag hw,hv,hd4,hd0,hna,↓BB,↓BM,↓Ag p0,↓AF hm,↓AF sh,↓AC h2,↓CA,↓Ag t20];first | exact Al _ _ | exact Au rfl (by simp) _)
 by_cases o17:a.op=17
 ·obtain ⟨d,c,hl⟩:=AcR (GA ha (show ar a.op=some 2 by rw [o17];decide))
  have hd:NOk g.length d/\NOk g.length c:=by
   obtain ⟨o1,x1,k1⟩:=a;simp only [Tm.op,Tm.kids] at o17 hl;subst o17 hl;have hsc:=ha.sc;rw [Tm.sc] at hsc;rw [Nt] at aw;rw [PK] at ad;exact ⟨⟨hsc.2.2.1,by omega,by omega⟩,⟨hsc.2.2.2.1,by omega,by omega⟩⟩
  obtain ⟨hd,hc⟩:=hd;obtain ⟨x,p,⟨N2,h2⟩,tx⟩:=hO g d (r.pick 0) (AU (by omega) hg) (Bx hd);obtain ⟨y,q,⟨N3,h3⟩,ty⟩:=hO g c (r.pick 1) (AU (by omega) hg) (Bx hc);refine ⟨.mk 22 0 [x,y],p && q,⟨N0+N1+N2+N3+100,fun n hn=>?_⟩,Cp (by decide) (by decide) (BC (by decide) (by decide) (by decide)) tx.sc ty.sc,by have:=tx.wt;have:=ty.wt;rw [Nt];omega,by have:=tx.dp;have:=ty.dp;rw [PK];omega,fun hb=>up (by
   obtain ⟨oa,xa,ka⟩:=a;simp only [Tm.op,Tm.kids] at o17 hl;subst o17 hl;exact .opair e g _ d c x y (tx.gr (Le hb)) (ty.gr (Jh hb)))⟩
  ·obtain ⟨n,rfl⟩:∃k,n=k+1:=⟨n - 1,by omega⟩;have h0:=h0 n (by omega);have h1:=h1 n (by omega);have h2:=h2 n (by omega);have h3:=h3 n (by omega);rw [<- we] at h2 h3;have hw:=As (n:=n) (by omega) r.op (m:=3) (by omega) (by omega);have p0:=AM (n:=n) (by omega) r 0;have p1:=AM (n:=n) (by omega) r 1;have t22:=CP (n:=n) (by omega) 22 [x,y];rw [c68];clear up hfn hO hA hg ha0 ha tv tx ty hd hc;generalize r.op % 3=w3 at hw hv hna;generalize r.pick 0=r0 at p0 h2;generalize r.pick 1=r1 at p1 h3;obtain ⟨o0,x0,k0⟩:=a0;obtain ⟨o1,x1,k1⟩:=a;simp only [Tm.op,Tm.kids] at o17 hl;subst o17 hl;obtain ⟨o2,x2,k2⟩:=r;obtain ⟨o3,x3,k3⟩:=v;obtain ⟨o4,x4,k4⟩:=x;obtain ⟨o5,x5,k5⟩:=d;obtain ⟨o6,x6,k6⟩:=c;obtain ⟨o7,x7,k7⟩:=y;obtain ⟨o8,x8,k8⟩:=r0;obtain ⟨o9,x9,k9⟩:=r1;simp only [Tm.n,Tm.op] at h1 hw;simp only [A4,Ah,AzK,AzJ] at h0 h1 h2 h3 p0 p1 t22 ⊢;cases is<;>by_cases hd0:(0:Int)<(e:Int) - 5<;>cases p<;>(simp (maxSteps:=1000000) only [↓Ns,↓XX,XY,↓reduceIte,Nat.reduceBEq,Nat.reduceAdd,Int.reduceEq,Int.reduceLT,Int.reduceLE,↓Av h0,↓AC h1,↓Ag hw,hv,hd4,hd0,hna,↓BB,↓BM,↓Ag p0,↓Ag p1,↓AC h2,↓AC h3,↓CA,↓Ag t22];first | exact Al _ _ | exact Au rfl (by simp) _)
 refine ⟨v,is,⟨N0+N1+100,fun n hn=>?_⟩,tv⟩
 ·obtain ⟨n,rfl⟩:∃k,n=k+1:=⟨n - 1,by omega⟩;have h0:=h0 n (by omega);have h1:=h1 n (by omega);have hw:=As (n:=n) (by omega) r.op (m:=3) (by omega) (by omega);rw [c68];clear up hfn hO hA hg ha0 ha tv;generalize r.op % 3=w3 at hw hv hna;obtain ⟨o0,x0,k0⟩:=a0;obtain ⟨o1,x1,k1⟩:=a;obtain ⟨o2,x2,k2⟩:=r;obtain ⟨o3,x3,k3⟩:=v;simp only [Tm.n,Tm.op] at h1 hw o15 o16 o17;simp only [A4,Ah] at h0 h1 ⊢;cases is<;>by_cases hd0:(0:Int)<(e:Int) - 5<;>(simp (maxSteps:=1000000) only [↓Ns,↓XX,XY,↓reduceIte,Nat.reduceBEq,Nat.reduceAdd,Int.reduceEq,Int.reduceLT,Int.reduceLE,↓Av h0,↓AC h1,↓Ag hw,hv,hd4,hd0,hna,o15,o16,o17];first | exact Al _ _ | exact Au rfl (by simp) _)
theorem Aon {e:Nat} (he:e<=10) (hG:1<=e->DI 70 1 (e - 1)) (hO:1<=e->DI 68 2 (e - 1)) (hA:6<=e->PI 100 3 e) (hP:1<=e->Ak4 101 3 e):DI 70 1 e:=by
 intro g a0 r hg ha0;have hlen:=hg.len;have hW0:=LR e;have hD0:200<=Dg e:=by unfold Dg;omega
 have hDm:Dg e<=300:=by unfold Dg;omega
 have hW10:=NV he;obtain ⟨a,er,⟨N0,h0⟩,hcase,fn,hfn⟩:=Kd (k:=g.length) (by omega) ha0.sc (by have:=ha0.dp;omega);rcases hcase with ⟨rfl,ha⟩ | ⟨her,rfl⟩
 case inr =>
  have hne:er≠0:=by omega
  refine ⟨.z,false,⟨N0+100,fun n hn=>?_⟩,Ass _,by simp only [Tm.z,Tm.wt,Tm.wtL];omega,by simp only [Tm.z,Tm.dp,Tm.dpL];omega,fun h=>by cases h⟩;obtain ⟨n,rfl⟩:∃k,n=k+1:=⟨n - 1,by omega⟩;have h0:=h0 n (by omega);rw [c70];clear hG hO hA hP hg ha0;obtain ⟨o1,x1,k1⟩:=a0;obtain ⟨o2,x2,k2⟩:=r;simp only [A4,Tm.z,AzJ,Ah] at h0 ⊢;simp (maxSteps:=1000000) only [↓JN,↓XX,XY,↓reduceIte,Nat.reduceBEq,Nat.reduceAdd,Int.reduceEq,Int.reduceLT,Int.reduceLE,↓Av h0,hne];first | exact Al _ _ | exact Au rfl (by simp) _
 obtain ⟨v,is,⟨N1,h1⟩,tv0,hhit⟩:=LI hg 1 ha r.n;have up:∀{t:Tm},Gr 3 e g a t->Gr 1 e g a0 t:=fun h=>.grow e g a0 a _ fn hfn (by omega) ha h;have tv:TG 1 e g a0 v is:=tg (U5 (Nat.zero_le _) tv0) (fun hb=>by
  obtain ⟨i,rfl,hi⟩:=hhit hb;exact up (.var1 e g a i hi))
 clear tv0 hhit;have aw:=ha.wt;have ad:=ha.dp;have hw3m:=Int.emod_nonneg r.op (show (3:Int)≠0 by decide)
 by_cases cv:is=true/\r.op % 3=0\/e=0
 ·refine ⟨v,is,⟨N0+N1+100,fun n hn=>?_⟩,tv⟩;obtain ⟨n,rfl⟩:∃k,n=k+1:=⟨n - 1,by omega⟩;have h0:=h0 n (by omega);have h1:=h1 n (by omega);have hw:=As (n:=n) (by omega) r.op (m:=3) (by omega) (by omega);rw [c70];clear up hfn hG hO hA hP hg ha0 ha tv;obtain ⟨o0,x0,k0⟩:=a0;obtain ⟨o1,x1,k1⟩:=a;obtain ⟨o2,x2,k2⟩:=r;obtain ⟨o3,x3,k3⟩:=v;simp only [Tm.n,Tm.op] at h1 hw cv;simp only [A4,Ah] at h0 h1 ⊢;generalize o2 % 3=w3 at hw cv;rcases cv with ⟨rfl,rfl⟩ | rfl
  ·simp (maxSteps:=1000000) only [↓JN,↓XX,XY,↓reduceIte,Nat.reduceBEq,Nat.reduceAdd,Int.reduceEq,Int.reduceLT,Int.reduceLE,↓Av h0,↓AC h1,↓Ag hw];first | exact Al _ _ | exact Au rfl (by simp) _
  ·have hd4:((0:Nat):Int) - 5 < -4:=by omega
   cases is
   ·simp (maxSteps:=1000000) only [↓JN,↓XX,XY,↓reduceIte,Nat.reduceBEq,Nat.reduceAdd,Int.reduceEq,Int.reduceLT,Int.reduceLE,↓Av h0,↓AC h1,↓Ag hw,hd4,Int.reduceSub,Int.reduceLT,Int.reduceNeg];first | exact Al _ _ | exact Au rfl (by simp) _
   ·by_cases h3:w3=0
    ·simp (maxSteps:=1000000) only [↓JN,↓XX,XY,↓reduceIte,Nat.reduceBEq,Nat.reduceAdd,Int.reduceEq,Int.reduceLT,Int.reduceLE,↓Av h0,↓AC h1,↓Ag hw,h3,hd4,Int.reduceSub,Int.reduceLT,Int.reduceNeg];first | exact Al _ _ | exact Au rfl (by simp) _
    ·simp (maxSteps:=1000000) only [↓JN,↓XX,XY,↓reduceIte,Nat.reduceBEq,Nat.reduceAdd,Int.reduceEq,Int.reduceLT,Int.reduceLE,↓Av h0,↓AC h1,↓Ag hw,h3,hd4,Int.reduceSub,Int.reduceLT,Int.reduceNeg];first | exact Al _ _ | exact Au rfl (by simp) _
 have he1:1<=e:=by omega
 have hd4:¬ (e:Int) - 5 < -4:=by omega
 have hv:is=true->¬ r.op % 3=0:=fun h1 h2=>cv (.inl ⟨h1,h2⟩);have hW1:Wg e=4 * Wg (e - 1):=by
  obtain ⟨f,rfl⟩:∃f,e=f+1:=⟨e - 1,by omega⟩;rw [LP,Nat.add_sub_cancel]
 have hW01:=LR (e - 1);have hD1:Dg e=Dg (e - 1)+10:=by unfold Dg;omega
 have hD01:200<=Dg (e - 1):=by unfold Dg;omega
 have we:BD ((e:Int) - 5 - 1)=((e - 1:Nat):Int) - 5:=by rw [Az (by omega) (by omega)];omega
 have hO:=hO he1;have hG:=hG he1;have hP:=hP he1;by_cases ca:6<=e/\r.op % 7=6
 ·obtain ⟨t,b,⟨N2,h2⟩,tt⟩:=hA ca.1 g a r hg ha;refine ⟨t,b,⟨N0+N1+N2+100,fun n hn=>?_⟩,AhT tt up⟩;obtain ⟨n,rfl⟩:∃k,n=k+1:=⟨n - 1,by omega⟩;have h0:=h0 n (by omega);have h1:=h1 n (by omega);have h2:=h2 n (by omega);have hw:=As (n:=n) (by omega) r.op (m:=3) (by omega) (by omega);have hw7:=As (n:=n) (by omega) r.op (m:=7) (by omega) (by omega);rw [ca.2] at hw7;have hd0:(0:Int)<(e:Int) - 5:=by omega
  rw [c70];clear up hfn hG hO hA hP hg ha0 ha tv tt;generalize r.op % 3=w3 at hw hv;obtain ⟨o0,x0,k0⟩:=a0;obtain ⟨o1,x1,k1⟩:=a;obtain ⟨o2,x2,k2⟩:=r;obtain ⟨o3,x3,k3⟩:=v;obtain ⟨o4,x4,k4⟩:=t;simp only [Tm.n,Tm.op] at h1 hw hw7;simp only [A4,Ah] at h0 h1 h2 ⊢;cases is<;>(simp (maxSteps:=1000000) only [↓JN,↓XX,XY,↓reduceIte,Nat.reduceBEq,Nat.reduceAdd,Int.reduceEq,Int.reduceLT,Int.reduceLE,↓Av h0,↓AC h1,↓Ag hw,↓Ag hw7,hv,hd4,hd0,↓AC h2];first | exact Al _ _ | exact Au rfl (by simp) _)
 have hna:(0:Int)<(e:Int) - 5->¬ r.op % 7=6:=by omega
 by_cases hpl:a.op=10\/a.op=14\/a.op=2
 ·obtain ⟨t,b,⟨N2,h2⟩,tt⟩:=hP g a r hg ha hpl;refine ⟨t,b,⟨N0+N1+N2+100,fun n hn=>?_⟩,AhT tt up⟩
  ·obtain ⟨n,rfl⟩:∃k,n=k+1:=⟨n - 1,by omega⟩;have h0:=h0 n (by omega);have h1:=h1 n (by omega);have h2:=h2 n (by omega);have hw:=As (n:=n) (by omega) r.op (m:=3) (by omega) (by omega);have hw7:=As (n:=n) (by omega) r.op (m:=7) (by omega) (by omega);rw [c70];clear up hfn hG hO hA hP hg ha0 ha tv tt;generalize r.op % 3=w3 at hw hv;generalize r.op % 7=w7 at hw7 hna;obtain ⟨o0,x0,k0⟩:=a0;obtain ⟨o1,x1,k1⟩:=a;obtain ⟨o2,x2,k2⟩:=r;obtain ⟨o3,x3,k3⟩:=v;obtain ⟨o4,x4,k4⟩:=t;simp only [Tm.n,Tm.op] at h1 hw hw7 hpl;simp only [A4,Ah] at h0 h1 h2 ⊢;rcases hpl with rfl | rfl | rfl
   ·cases is<;>by_cases hd0:(0:Int)<(e:Int) - 5<;>(simp (maxSteps:=1000000) only [↓JN,↓XX,XY,↓reduceIte,Nat.reduceBEq,Nat.reduceAdd,Int.reduceEq,Int.reduceLT,Int.reduceLE,↓Av h0,↓AC h1,↓Ag hw,↓Ag hw7,hv,hd4,hd0,hna,↓AC h2];first | exact Al _ _ | exact Au rfl (by simp) _)
   ·cases is<;>by_cases hd0:(0:Int)<(e:Int) - 5<;>(simp (maxSteps:=1000000) only [↓JN,↓XX,XY,↓reduceIte,Nat.reduceBEq,Nat.reduceAdd,Int.reduceEq,Int.reduceLT,Int.reduceLE,↓Av h0,↓AC h1,↓Ag hw,↓Ag hw7,hv,hd4,hd0,hna,↓AC h2];first | exact Al _ _ | exact Au rfl (by simp) _)
   ·cases is<;>by_cases hd0:(0:Int)<(e:Int) - 5<;>(simp (maxSteps:=1000000) only [↓JN,↓XX,XY,↓reduceIte,Nat.reduceBEq,Nat.reduceAdd,Int.reduceEq,Int.reduceLT,Int.reduceLE,↓Av h0,↓AC h1,↓Ag hw,↓Ag hw7,hv,hd4,hd0,hna,↓AC h2];first | exact Al _ _ | exact Au rfl (by simp) _)
 by_cases o3:a.op=3
 ·obtain ⟨d,c,hl⟩:=AcR (GA ha (show ar a.op=some 2 by rw [o3];decide))
  have hd:NOk g.length d/\NOk (g.length+1) c:=by
   obtain ⟨o1,x1,k1⟩:=a;simp only [Tm.op,Tm.kids] at o3 hl;subst o3 hl;have hsc:=ha.sc;rw [Tm.sc] at hsc;rw [Nt] at aw;rw [PK] at ad;exact ⟨⟨hsc.2.2.1,by omega,by omega⟩,⟨hsc.2.2.2.1,by omega,by omega⟩⟩
  obtain ⟨hd,hc⟩:=hd;have hgd:GOk (e - 1) (g++[(1,d)]):=Da (by rw [show e - 1+1=e by omega];exact hg) hd.sc (by have:=hd.wt;omega) (by have:=hd.dp;omega)
  obtain ⟨x,p,⟨N2,h2⟩,tx⟩:=hG (g++[(1,d)]) c (r.pick 0) hgd (by simpa using Bx hc);have xs:x.sc (g.length+1):=by simpa using tx.sc
  refine ⟨.mk 4 0 [d,x],p,⟨N0+N1+N2+100000,fun n hn=>?_⟩,Cp (by decide) (by decide) (BC (by decide) (by decide) (by decide)) hd.sc xs,by have:=tx.wt;have:=hd.wt;rw [Nt];omega,by have:=tx.dp;have:=hd.dp;rw [PK];omega,fun hb=>up (by
   obtain ⟨oa,xa,ka⟩:=a;simp only [Tm.op,Tm.kids] at o3 hl;subst o3 hl;exact .lam e g _ d c x (tx.gr hb))⟩
  ·obtain ⟨n,rfl⟩:∃k,n=k+1:=⟨n - 1,by omega⟩;have h0:=h0 n (by omega);have h1:=h1 n (by omega);have h2:=h2 n (by omega);rw [<- we] at h2;have hw:=As (n:=n) (by omega) r.op (m:=3) (by omega) (by omega);have hw7:=As (n:=n) (by omega) r.op (m:=7) (by omega) (by omega);have p0:=AM (n:=n) (by omega) r 0;have hm:=Dx (n:=n) g 1 d (by omega) (by omega);have t4:=CP (n:=n) (by omega) 4 [d,x];rw [c70];clear up hfn hG hO hA hP hg ha0 ha tv tx hd hc hgd xs hpl;generalize r.op % 3=w3 at hw hv;generalize r.op % 7=w7 at hw7 hna;generalize r.pick 0=r0 at p0 h2;obtain ⟨o0,x0,k0⟩:=a0;obtain ⟨o1,x1,k1⟩:=a;simp only [Tm.op,Tm.kids] at o3 hl;subst o3 hl;obtain ⟨o2,x2,k2⟩:=r;obtain ⟨o3,x3,k3⟩:=v;obtain ⟨o4,x4,k4⟩:=x;obtain ⟨o5,x5,k5⟩:=d;obtain ⟨o6,x6,k6⟩:=c;obtain ⟨o8,x8,k8⟩:=r0;simp only [Tm.n,Tm.op] at h1 hw hw7;simp only [A4,Ah,AzK,AzJ] at h0 h1 h2 p0 hm t4 ⊢;cases is<;>by_cases hd0:(0:Int)<(e:Int) - 5<;>(simp (maxSteps:=1000000) only [↓JN,↓XX,XY,↓reduceIte,Nat.reduceBEq,Nat.reduceAdd,Int.reduceEq,Int.reduceLT,Int.reduceLE,↓Av h0,↓AC h1,↓Ag hw,↓Ag hw7,hv,hd4,hd0,hna,↓BB,↓BM,↓Ag p0,↓AF hm,↓AC h2,↓CA,↓Ag t4];first | exact Al _ _ | exact Au rfl (by simp) _)
 by_cases o6:a.op=6
 ·obtain ⟨d,c,hl⟩:=AcR (GA ha (show ar a.op=some 2 by rw [o6];decide))
  have hd:NOk g.length d/\NOk (g.length+1) c:=by
   obtain ⟨o1,x1,k1⟩:=a;simp only [Tm.op,Tm.kids] at o6 hl;subst o6 hl;have hsc:=ha.sc;rw [Tm.sc] at hsc;rw [Nt] at aw;rw [PK] at ad;exact ⟨⟨hsc.2.2.1,by omega,by omega⟩,⟨hsc.2.2.2.1,by omega,by omega⟩⟩
  obtain ⟨hd,hc⟩:=hd;obtain ⟨x,p,⟨N2,h2⟩,tx⟩:=hG g d (r.pick 0) (AU (by omega) hg) (Bx hd);cases p
  ·refine ⟨v,is,⟨N0+N1+N2+100,fun n hn=>?_⟩,tv⟩;obtain ⟨n,rfl⟩:∃k,n=k+1:=⟨n - 1,by omega⟩;have h0:=h0 n (by omega);have h1:=h1 n (by omega);have h2:=h2 n (by omega);rw [<- we] at h2;have hw:=As (n:=n) (by omega) r.op (m:=3) (by omega) (by omega);have hw7:=As (n:=n) (by omega) r.op (m:=7) (by omega) (by omega);have p0:=AM (n:=n) (by omega) r 0;rw [c70];clear up hfn hG hO hA hP hg ha0 ha tv tx hd hc hpl;generalize r.op % 3=w3 at hw hv;generalize r.op % 7=w7 at hw7 hna;generalize r.pick 0=r0 at p0 h2;obtain ⟨o0,x0,k0⟩:=a0;obtain ⟨o1,x1,k1⟩:=a;simp only [Tm.op,Tm.kids] at o6 hl;subst o6 hl;obtain ⟨o2,x2,k2⟩:=r;obtain ⟨o3,x3,k3⟩:=v;obtain ⟨o4,x4,k4⟩:=x;obtain ⟨o5,x5,k5⟩:=d;obtain ⟨o6,x6,k6⟩:=c;obtain ⟨o8,x8,k8⟩:=r0;simp only [Tm.n,Tm.op] at h1 hw hw7;simp only [A4,Ah,AzK,AzJ] at h0 h1 h2 p0 ⊢;cases is<;>by_cases hd0:(0:Int)<(e:Int) - 5<;>(simp (maxSteps:=1000000) only [↓JN,↓XX,XY,↓reduceIte,Nat.reduceBEq,Nat.reduceAdd,Int.reduceEq,Int.reduceLT,Int.reduceLE,↓Av h0,↓AC h1,↓Ag hw,↓Ag hw7,hv,hd4,hd0,hna,↓BB,↓BM,↓Ag p0,↓AC h2];first | exact Al _ _ | exact Au rfl (by simp) _)
  ·have hss:AOk g.length (c.subst 0 0 x):=by
    have xw:=tx.wt;have xd:=tx.dp;have cw:=hc.wt;have cd:=hc.dp;have h1:=M9 c x 0 0;have h2:=TH c x 0 0;have h3:c.wt * x.wt<=3000 * 21000000000:=Nat.mul_le_mul cw (by omega);exact ⟨Ol c x 0 g.length hc.sc tx.sc (by omega),by omega,by omega⟩
   obtain ⟨y,q,⟨N3,h3⟩,ty⟩:=hG g (c.subst 0 0 x) (r.pick 1) (AU (by omega) hg) hss;refine ⟨.mk 7 0 [a,x,y],q,⟨N0+N1+N2+N3+1000000000000,fun n hn=>?_⟩,XK (by decide) (by decide) (BC (by decide) (by decide) (by decide)) ha.sc tx.sc ty.sc,by have:=tx.wt;have:=ty.wt;rw [wt3];omega,by have:=tx.dp;have:=ty.dp;rw [dp3];omega,fun hb=>up (by
   obtain ⟨oa,xa,ka⟩:=a;simp only [Tm.op,Tm.kids] at o6 hl;subst o6 hl;exact .pair e g _ d c x y (AjI tx (by omega)) (tx.gr rfl) (ty.gr hb))⟩
   obtain ⟨n,rfl⟩:∃k,n=k+1:=⟨n - 1,by omega⟩;have h0:=h0 n (by omega);have h1:=h1 n (by omega);have h2:=h2 n (by omega);have h3:=h3 n (by omega);rw [<- we] at h2 h3;have hw:=As (n:=n) (by omega) r.op (m:=3) (by omega) (by omega);have hw7:=As (n:=n) (by omega) r.op (m:=7) (by omega) (by omega);have p0:=AM (n:=n) (by omega) r 0;have p1:=AM (n:=n) (by omega) r 1;have hsb:=NK (n:=n) c x 0 (EB _ _ tx.sc) (by have:=tx.wt;omega) (by have:=tx.wt;have:=hc.wt;omega) (EB _ _ hc.sc) (by have:=hc.wt;omega) (by omega) (by have:=hc.wt;omega);have t7:=CP (n:=n) (by omega) 7 [a,x,y];rw [c70];clear up hfn hG hO hA hP hg ha0 ha tv tx ty hd hc hpl hss;generalize r.op % 3=w3 at hw hv;generalize r.op % 7=w7 at hw7 hna;generalize c.subst 0 0 x=sb at hsb h3;generalize r.pick 0=r0 at p0 h2;generalize r.pick 1=r1 at p1 h3;obtain ⟨o0,x0,k0⟩:=a0;obtain ⟨o1,x1,k1⟩:=a;simp only [Tm.op,Tm.kids] at o6 hl;subst o6 hl;obtain ⟨o2,x2,k2⟩:=r;obtain ⟨o3,x3,k3⟩:=v;obtain ⟨o4,x4,k4⟩:=x;obtain ⟨o5,x5,k5⟩:=d;obtain ⟨o6,x6,k6⟩:=c;obtain ⟨o7,x7,k7⟩:=y;obtain ⟨o8,x8,k8⟩:=r0;obtain ⟨o9,x9,k9⟩:=r1;obtain ⟨oa,xa,ka⟩:=sb;simp only [Tm.n,Tm.op] at h1 hw hw7;simp only [A4,Ah,AzK,AzJ] at h0 h1 h2 h3 p0 p1 hsb t7 ⊢;cases is<;>by_cases hd0:(0:Int)<(e:Int) - 5<;>(simp (maxSteps:=1000000) only [↓JN,↓XX,XY,↓reduceIte,Nat.reduceBEq,Nat.reduceAdd,Int.reduceEq,Int.reduceLT,Int.reduceLE,↓Av h0,↓AC h1,↓Ag hw,↓Ag hw7,hv,hd4,hd0,hna,↓BB,↓BM,↓Ag p0,↓Ag p1,↓AC h2,↓AF hsb,↓AC h3,↓Kc,↓Ag t7];first | exact Al _ _ | exact Au rfl (by simp) _)
 by_cases o18:a.op=18
 ·obtain ⟨d,hl⟩:=AuA (GA ha (show ar a.op=some 1 by rw [o18];decide))
  have hd:NOk g.length d:=by
   obtain ⟨o1,x1,k1⟩:=a;simp only [Tm.op,Tm.kids] at o18 hl;subst o18 hl;have hsc:=ha.sc;rw [Tm.sc] at hsc;rw [wt1] at aw;rw [dp1] at ad;exact ⟨hsc.2.2.1,by omega,by omega⟩
  obtain ⟨x,p,⟨N2,h2⟩,tx⟩:=hO g d (r.pick 0) (AU (by omega) hg) (Bx hd);refine ⟨.mk 19 0 [x],p,⟨N0+N1+N2+100,fun n hn=>?_⟩,Fm (by decide) (by decide) (BC (by decide) (by decide) (by decide)) tx.sc,by have:=tx.wt;rw [wt1];omega,by have:=tx.dp;rw [dp1];omega,fun hb=>up (by
   obtain ⟨oa,xa,ka⟩:=a;simp only [Tm.op,Tm.kids] at o18 hl;subst o18 hl;exact .quo e g _ d x (tx.gr hb))⟩
  ·obtain ⟨n,rfl⟩:∃k,n=k+1:=⟨n - 1,by omega⟩;have h0:=h0 n (by omega);have h1:=h1 n (by omega);have h2:=h2 n (by omega);rw [<- we] at h2;have hw:=As (n:=n) (by omega) r.op (m:=3) (by omega) (by omega);have hw7:=As (n:=n) (by omega) r.op (m:=7) (by omega) (by omega);have p0:=AM (n:=n) (by omega) r 0;have t19:=CP (n:=n) (by omega) 19 [x];rw [c70];clear up hfn hG hO hA hP hg ha0 ha tv tx hd hpl;generalize r.op % 3=w3 at hw hv;generalize r.op % 7=w7 at hw7 hna;generalize r.pick 0=r0 at p0 h2;obtain ⟨o0,x0,k0⟩:=a0;obtain ⟨o1,x1,k1⟩:=a;simp only [Tm.op,Tm.kids] at o18 hl;subst o18 hl;obtain ⟨o2,x2,k2⟩:=r;obtain ⟨o3,x3,k3⟩:=v;obtain ⟨o4,x4,k4⟩:=x;obtain ⟨o5,x5,k5⟩:=d;obtain ⟨o8,x8,k8⟩:=r0;simp only [Tm.n,Tm.op] at h1 hw hw7;simp only [A4,Ah,AzK,AzJ] at h0 h1 h2 p0 t19 ⊢;cases is<;>by_cases hd0:(0:Int)<(e:Int) - 5<;>(simp (maxSteps:=1000000) only [↓JN,↓XX,XY,↓reduceIte,Nat.reduceBEq,Nat.reduceAdd,Int.reduceEq,Int.reduceLT,Int.reduceLE,↓Av h0,↓AC h1,↓Ag hw,↓Ag hw7,hv,hd4,hd0,hna,↓BB,↓Ag p0,↓AC h2,↓Di,↓Ag t19];first | exact Al _ _ | exact Au rfl (by simp) _)
 have q1:a.op≠10:=fun h=>hpl (.inl h);have q2:a.op≠14:=fun h=>hpl (.inr (.inl h));have q3:a.op≠2:=fun h=>hpl (.inr (.inr h));refine ⟨v,is,⟨N0+N1+100,fun n hn=>?_⟩,tv⟩
 ·obtain ⟨n,rfl⟩:∃k,n=k+1:=⟨n - 1,by omega⟩;have h0:=h0 n (by omega);have h1:=h1 n (by omega);have hw:=As (n:=n) (by omega) r.op (m:=3) (by omega) (by omega);have hw7:=As (n:=n) (by omega) r.op (m:=7) (by omega) (by omega);rw [c70];clear up hfn hG hO hA hP hg ha0 ha tv hpl;generalize r.op % 3=w3 at hw hv;generalize r.op % 7=w7 at hw7 hna;obtain ⟨o0,x0,k0⟩:=a0;obtain ⟨o1,x1,k1⟩:=a;obtain ⟨o2,x2,k2⟩:=r;obtain ⟨o4,x3,k3⟩:=v;simp only [Tm.n,Tm.op] at h1 hw hw7 o3 o6 o18 q1 q2 q3;simp only [A4,Ah] at h0 h1 ⊢;cases is<;>by_cases hd0:(0:Int)<(e:Int) - 5<;>(simp (maxSteps:=1000000) only [↓JN,↓XX,XY,↓reduceIte,Nat.reduceBEq,Nat.reduceAdd,Int.reduceEq,Int.reduceLT,Int.reduceLE,↓Av h0,↓AC h1,↓Ag hw,↓Ag hw7,hv,hd4,hd0,hna,o3,o6,o18,q1,q2,q3];first | exact Al _ _ | exact Au rfl (by simp) _)
theorem Nd:∀e,e<=10->LJ e/\DI 70 1 e/\DI 68 2 e:=by
 intro e
 induction e using Nat.strongRecOn with
 | _ e ih =>
  intro he;have hp:1<=e->LJ (e - 1)/\DI 70 1 (e - 1)/\DI 68 2 (e - 1):=fun h=>ih (e - 1) (by omega) (by omega);have hp2:2<=e->LJ (e - 2)/\DI 70 1 (e - 2)/\DI 68 2 (e - 2):=fun h=>ih (e - 2) (by omega) (by omega);have hT:LJ e:=An7 he (fun h=>(hp (by omega)).1) (fun h=>(hp (by omega)).2.1);have hT6:6<=e->LJ 6:=fun h=>by
   by_cases h6:e=6
   ·exact h6 ▸ hT
   ·exact (ih 6 (by omega) (by omega)).1
  have hR:6<=e->PI 100 3 e:=fun h=>AkG h he (hT6 h) (hp2 (by omega)).2.1;have hP:1<=e->Ak4 101 3 e:=fun h=>Aiw h he (hp h).2.1 (fun h6=>(hp2 (by omega)).2.1);have hA:6<=e->PI 98 4 e:=fun h=>Ahs h he (hp2 (by omega)).2.2 (hp (by omega)).2.1;have hO:DI 68 2 e:=Ahz he (fun h=>(hp h).2.2) hA;exact ⟨hT,Aon he (fun h=>(hp h).2.1) (fun h=>(hp h).2.2) hR hP,hO⟩
def Alh (T1 T2:Ci->Tm->Tm) (B1:Ci->Tm->Bool) (g:Ci) (r:Tm):Ci:=if r.n % 3=0 then (if B1 g r then g++[(0,T1 g r)] else g) else g++[(1,T2 g r)]
def B9 (f:Ci->Tm->Ci) (l:List Tm):Nat->Ci
 | 0=>[]
 | i+1=>match l[i]? with
  | some r=>f (B9 f l i) r
  | none=>B9 f l i
def gV:Ci->IV
 | []=>.nils
 | p::g=>.fv (A4 (p::g))
theorem App {g:Ci} (h:g≠[]):gV g=.fv (A4 g):=by
 cases g with
 | nil=>exact absurd rfl h
 | cons p g=>rfl
theorem AsF (g:Ci):gV g=.nils\/∃x,gV g=.fv x:=by
 cases g with
 | nil=>exact .inl rfl
 | cons p g=>exact .inr ⟨_,rfl⟩
theorem AsX (g:Ci) (own:List (Nat×Blk)):AS (Ao [gV g] ⟨own,[]⟩) (A4 g):=by
 cases g with
 | nil=>exact A3 rfl _
 | cons p g=>exact Al _ _
theorem Aso (g:Ci):Bo (gV g)=some (A4 g):=by
 cases g with
 | nil=>rfl
 | cons p g=>rfl
theorem Wu (l:List Tm) (hll:l.length<=9223372036854775807):∃g,Ev 67 [.fv (.sl (l.map Tm.enc))] (A4 g)/\GOk 10 g/\g.length<=4/\CtxG g/\(l=[]->g=[]):=by
 have hc:∀p:Ci×Tm,∃(t1 t2:Tm) (b1:Bool),GOk 10 p.1->Ev 70 [.fv (A4 p.1),.fv (Tm.mk 14 0 []).enc,.fv p.2.enc,iv 2] (.tuple [Tm.enc t1,.bool b1])/\TG 1 7 p.1 (.mk 14 0 []) t1 b1/\Ev 69 [.fv (A4 p.1),.fv p.2.enc,iv 2] (Tm.enc t2)/\TyOk p.1 7 t2:=by
  rintro ⟨g,r⟩;by_cases hg:GOk 10 g
  ·obtain ⟨hT,hG,_⟩:=Nd 7 (by omega);obtain ⟨t1,b1,h1,h2⟩:=hG g (.mk 14 0 []) r (AU (by omega) hg) ⟨Ch (by decide) (by decide) (BC (by decide) (by decide) (by decide)),by simp [Tm.wt,Tm.wtL],by simp [Tm.dp,Tm.dpL]⟩;obtain ⟨t2,h3,h4⟩:=hT g r (AU (by omega) hg);exact ⟨t1,t2,b1,fun _=>⟨h1,h2,h3,h4⟩⟩
  ·exact ⟨.z,.z,false,fun h=>absurd h hg⟩
 obtain ⟨T1,hc⟩:=Classical.axiomOfChoice hc;obtain ⟨T2,hc⟩:=Classical.axiomOfChoice hc;obtain ⟨B1,hc⟩:=Classical.axiomOfChoice hc;obtain ⟨f,hf⟩:∃f,f=Alh (fun g r=>T1 (g,r)) (fun g r=>T2 (g,r)) (fun g r=>B1 (g,r)):=⟨_,rfl⟩;have hD7:Dg 7=270:=rfl;have hD6:Dg 6=260:=rfl;have hW7:Wg 7=131072000:=rfl;have hW6:Wg 6=32768000:=rfl;have hstep:∀i,i<=4->GOk 10 (B9 f l i)/\(B9 f l i).length<=i/\CtxG (B9 f l i):=by
  intro i
  induction i with
  | zero=>intro _;exact ⟨⟨by simp [B9],fun i p h=>by simp [B9] at h⟩,by simp [B9],.nil⟩
  | succ i ih =>
   intro h;obtain ⟨h1,h2,hcg⟩:=ih (by omega);rw [B9];cases hr:l[i]? with
   | none=>simp only;exact ⟨h1,by omega,hcg⟩
   | some r =>
    simp only;generalize B9 f l i=g at h1 h2 hcg;obtain ⟨_,h4,_,h6⟩:=hc (g,r) h1;simp only at h4 h6;have h4s:=h4.sc;have h4w:=h4.wt;have h4d:=h4.dp;have h6s:=h6.sc;have h6w:=h6.wt;have h6d:=h6.dp;rw [show 7 - 1=6 from rfl] at h6w h6d
    have big:∀(s:Int) (t:Tm),t.sc g.length->t.wt<=100000000000->t.dp<=6000->GOk 10 (g++[(s,t)]):=by
     intro s t q1 q2 q3;have h11:GOk 11 g:=⟨by omega,h1.ok⟩;exact Da h11 q1 q2 q3
    rw [hf,Alh];split
    ·split
     ·rename_i hb;exact ⟨big _ _ h4s (by omega) (by omega),by simp;omega,.ob g _ hcg (h4.gr hb)⟩
     ·exact ⟨h1,by omega,hcg⟩
    ·exact ⟨big _ _ h6s (by omega) (by omega),by simp;omega,.me g _ hcg ⟨h6s,by omega,by omega⟩ (by omega) h6.gr⟩
 obtain ⟨m,hm⟩:∃m,m=min l.length 4:=⟨_,rfl⟩;obtain ⟨N,hN⟩:=AjK (P:=fun i n=>∀r,l[i]?=some r->AS (SS dt n 70 [.fv (A4 (B9 f l i)),.fv (Tm.mk 14 0 []).enc,.fv r.enc,iv 2] ⟨[],[]⟩) (.tuple [Tm.enc (T1 (B9 f l i,r)),.bool (B1 (B9 f l i,r))])/\AS (SS dt n 69 [.fv (A4 (B9 f l i)),.fv r.enc,iv 2] ⟨[],[]⟩) (Tm.enc (T2 (B9 f l i,r)))) m (fun i hi=>by
  have hil:i<l.length:=by omega
  obtain ⟨⟨N1,h1⟩,_,⟨N2,h2⟩,_⟩:=hc (B9 f l i,l[i]) (hstep i (by omega)).1;refine ⟨N1+N2,fun n hn r hr=>?_⟩;rw [List.getElem?_eq_getElem hil,AzE] at hr;subst hr;exact ⟨h1 n (by omega),h2 n (by omega)⟩)
 have hm4:=hstep m (by omega);refine ⟨B9 f l m,⟨N+100,fun n hn=>?_⟩,hm4.1,by omega,hm4.2.2,fun h=>by subst h;rw [hm];rfl⟩;obtain ⟨n,rfl⟩:∃k,n=k+1:=⟨n - 1,by omega⟩;rw [c67];simp only [WU,Xc,Xp,WN,WD,X2,Ws,X1,WR,S67,↓XX,XY,↓reduceIte,Nat.reduceBEq,Nat.reduceAdd,Int.reduceEq,Int.reduceLT,Int.reduceLE,↓AL,XD,heldB,AT,XE];refine Bc (Q:=fun r=>AS r _) (fun k V H=>∃i:Nat,i+k=m/\V=[.fv (.sl (l.map Tm.enc)),gV (B9 f l i),iv i]/\H=⟨[],[]⟩)
  ?_ n m _ _ (by omega) ⟨0,by omega,rfl,rfl⟩
 rintro k V H rec ⟨i,hik,rfl,rfl⟩ hrec;have hi4:=hstep i (by omega);cases k with
 | zero =>
  have him:i=m:=by omega
  subst him;have ha:=fun own=>AsX (B9 f l i) own;generalize gV (B9 f l i)=gv at ha;by_cases h1:(i:Int)<l.length
  ·have h4:¬ ((i:Int)<4):=by omega
   simp only [↓TL,↓XX,XY,↓reduceIte,Nat.reduceBEq,Nat.reduceAdd,Int.reduceEq,Int.reduceLT,Int.reduceLE,h1,h4];exact ha _
  ·simp only [↓TL,↓XX,XY,↓reduceIte,Nat.reduceBEq,Nat.reduceAdd,Int.reduceEq,Int.reduceLT,Int.reduceLE,h1];exact ha _
 | succ k =>
  have hil:i<l.length:=by omega
  have h1:(i:Int)<l.length:=by omega
  have h4:(i:Int)<4:=by omega
  have wi:BD ((i:Int)+1)=(i:Int)+1:=by rw [Az]<;>omega
  obtain ⟨r,hr⟩:∃r,l[i]?=some r:=⟨_,List.getElem?_eq_getElem hil⟩;obtain ⟨g1,g2⟩:=hN i (by omega) n (by omega) r hr;have hw:=As (n:=n) (by omega) r.n (m:=3) (by omega) (by omega);have t14:=BI (n:=n) (by omega) 14;have h9:=hrec k [.fv (.sl (l.map Tm.enc)),gV (B9 f l (i+1)),iv (i+1:Nat)] ⟨[],[]⟩ (by omega) ⟨i+1,by omega,rfl,rfl⟩;have hi1:((i+1:Nat):Int)=(i:Int)+1:=by omega
  rw [hi1,B9,hr] at h9;simp only [hf,Alh] at h9;rw [<- hf] at h9;have hfz:=Aso (B9 f l i);have htw:=AsF (B9 f l i);have m1:=Dx (n:=n) (B9 f l i) 0 (T1 (B9 f l i,r)) (by omega) (by omega);have m2:=Dx (n:=n) (B9 f l i) 1 (T2 (B9 f l i,r)) (by omega) (by omega);have n1:=App (g:=B9 f l i++[((0:Int),T1 (B9 f l i,r))]) (by simp);have n2:=App (g:=B9 f l i++[((1:Int),T2 (B9 f l i,r))]) (by simp);generalize A4 (B9 f l i++[((0:Int),T1 (B9 f l i,r))])=e1 at m1 n1;generalize A4 (B9 f l i++[((1:Int),T2 (B9 f l i,r))])=e2 at m2 n2;clear hc hstep hN hi4 hm4;by_cases c0:r.n % 3=0
  ·rw [if_pos c0] at h9;rw [c0] at hw;cases hb:B1 (B9 f l i,r)
   ·rw [hb] at g1 h9;simp only [Bool.false_eq_true,if_false] at h9;generalize T1 (B9 f l i,r)=t1 at g1;generalize gV (B9 f l i)=gv at hfz h9 htw;generalize A4 (B9 f l i)=ge at hfz g1;obtain ⟨o,p,ks⟩:=r;obtain ⟨o1,p1,k1⟩:=t1;simp only [Tm.n] at hw;simp only [Ah,AzJ] at g1 t14;have g1:=AC (a:=gv) (b:=.fv (.agg [.int .i64 14,.int .i64 0,.sl []])) (c:=.fv (.agg [.int .i64 o,.int .i64 p,.sl (ks.map Tm.enc)])) (d:=iv 2) g1 hfz rfl rfl rfl;rcases htw with rfl | ⟨x0,rfl⟩
    ·simp (maxSteps:=1000000) only [↓TL,↓XX,XY,↓reduceIte,Nat.reduceBEq,Nat.reduceAdd,Int.reduceEq,Int.reduceLT,Int.reduceLE,h1,h4,wi,↓Bs (AN hr) (Bb _ _ _),↓Cg,↓Ag hw,↓Ag t14,↓g1,↓AL,XD,heldB,AT,XE];exact h9
    ·simp (maxSteps:=1000000) only [↓TL,↓XX,XY,↓reduceIte,Nat.reduceBEq,Nat.reduceAdd,Int.reduceEq,Int.reduceLT,Int.reduceLE,h1,h4,wi,↓Bs (AN hr) (Bb _ _ _),↓Cg,↓Ag hw,↓Ag t14,↓g1,↓AL,XD,heldB,AT,XE];exact h9
   ·rw [hb] at g1 h9;simp only [if_true] at h9;rw [n1] at h9;generalize T1 (B9 f l i,r)=t1 at g1 m1;generalize gV (B9 f l i)=gv at hfz htw;generalize A4 (B9 f l i)=ge at hfz g1 m1;obtain ⟨o,p,ks⟩:=r;obtain ⟨o1,p1,k1⟩:=t1;simp only [Tm.n] at hw;simp only [Ah,AzJ] at g1 t14 m1;have g1:=AC (a:=gv) (b:=.fv (.agg [.int .i64 14,.int .i64 0,.sl []])) (c:=.fv (.agg [.int .i64 o,.int .i64 p,.sl (ks.map Tm.enc)])) (d:=iv 2) g1 hfz rfl rfl rfl;have m1:=AF (a:=gv) (b:=iv 0) (c:=.fv (.agg [.int .i64 o1,.int .i64 p1,.sl (k1.map Tm.enc)])) m1 hfz rfl rfl;rcases htw with rfl | ⟨x0,rfl⟩
    ·simp (maxSteps:=1000000) only [↓TL,↓XX,XY,↓reduceIte,Nat.reduceBEq,Nat.reduceAdd,Int.reduceEq,Int.reduceLT,Int.reduceLE,h1,h4,wi,↓Bs (AN hr) (Bb _ _ _),↓Cg,↓Ag hw,↓Ag t14,↓g1,↓m1,↓AL,XD,heldB,AT,XE];exact h9
    ·simp (maxSteps:=1000000) only [↓TL,↓XX,XY,↓reduceIte,Nat.reduceBEq,Nat.reduceAdd,Int.reduceEq,Int.reduceLT,Int.reduceLE,h1,h4,wi,↓Bs (AN hr) (Bb _ _ _),↓Cg,↓Ag hw,↓Ag t14,↓g1,↓m1,↓AL,XD,heldB,AT,XE];exact h9
  ·rw [if_neg c0,n2] at h9;generalize T2 (B9 f l i,r)=t2 at g2 m2;generalize gV (B9 f l i)=gv at hfz htw;generalize A4 (B9 f l i)=ge at hfz g2 m2;obtain ⟨o,p,ks⟩:=r;obtain ⟨o1,p1,k1⟩:=t2;simp only [Tm.n] at hw c0;generalize p % 3=w3 at hw c0;simp only [Ah,AzJ] at g2 m2;have g2:=AF (a:=gv) (b:=.fv (.agg [.int .i64 o,.int .i64 p,.sl (ks.map Tm.enc)])) (c:=iv 2) g2 hfz rfl rfl;have m2:=AF (a:=gv) (b:=iv 1) (c:=.fv (.agg [.int .i64 o1,.int .i64 p1,.sl (k1.map Tm.enc)])) m2 hfz rfl rfl;rcases htw with rfl | ⟨x0,rfl⟩
   ·simp (maxSteps:=1000000) only [↓TL,↓XX,XY,↓reduceIte,Nat.reduceBEq,Nat.reduceAdd,Int.reduceEq,Int.reduceLT,Int.reduceLE,h1,h4,wi,c0,↓Bs (AN hr) (Bb _ _ _),↓Cg,↓Ag hw,↓g2,↓m2,↓AL,XD,heldB,AT,XE];exact h9
   ·simp (maxSteps:=1000000) only [↓TL,↓XX,XY,↓reduceIte,Nat.reduceBEq,Nat.reduceAdd,Int.reduceEq,Int.reduceLT,Int.reduceLE,h1,h4,wi,c0,↓Bs (AN hr) (Bb _ _ _),↓Cg,↓Ag hw,↓g2,↓m2,↓AL,XD,heldB,AT,XE];exact h9
structure CaseOk (g:Ci) (a t:Tm) (is object:Bool):Prop where
 gok:GOk 10 g
 len:g.length<=4
 asc:a.sc g.length
 awt:a.wt<=32768010
 adp:a.dp<=300
 tsc:t.sc g.length
 tdp:t.dp<=300
 chk:is=true->(t.chk 0 1).2=0
 cg:CtxG g
 ga:object=false->Gr 0 7 g .z a
 gt:is=true->Gr (if object then 2 else 1) 10 g a t
theorem Amb (l:List Tm) (hll:l.length<=9223372036854775807) (r q:Tm) (object:Bool):∃g a t is,Ev 43 [.fv (.sl (l.map Tm.enc)),.fv r.enc,.fv q.enc,.fv (.bool object)] (.tuple [A4 g,a.enc,t.enc,.bool is])/\CaseOk g a t is object/\(object=true->a=q.plainT 2)/\(l=[]->g=[]):=by
 obtain ⟨g,⟨N0,h0⟩,hg,hg4,hcg,hnil⟩:=Wu l hll;have hW6:Wg 6=32768000:=rfl;have hD6:Dg 6=260:=rfl;have hW10:Wg 10=8388608000:=rfl;have hD10:Dg 10=300:=rfl;obtain ⟨_,hG,hO⟩:=Nd 10 (by omega);cases object
 ·obtain ⟨hT,_,_⟩:=Nd 7 (by omega);obtain ⟨a,⟨N1,h1⟩,ta⟩:=hT g q (AU (by omega) hg);have aw:=ta.wt;have ad:=ta.dp;have asc:=ta.sc;rw [show 7 - 1=6 from rfl] at aw ad
  obtain ⟨t,b,⟨N2,h2⟩,tt⟩:=hG g a r hg ⟨asc,by omega,by omega⟩;have tw:=tt.wt;have ts:=tt.sc;have body:∀(t':Tm) (is:Bool),(is=true/\t'=t/\b=true/\(t.chk 0 1).2=0\/is=false/\t'=Ba/\(b=false\/b=true/\(t.chk 0 1).2≠0))->Ev 43 [.fv (.sl (l.map Tm.enc)),.fv r.enc,.fv q.enc,.fv (.bool false)] (.tuple [A4 g,a.enc,t'.enc,.bool is]):=by
   intro t' is hd;refine ⟨N0+N1+N2+100000000000+1,fun n hn=>?_⟩;obtain ⟨n,rfl⟩:∃k,n=k+1:=⟨n - 1,by omega⟩;have h0:=h0 n (by omega);have h1:=h1 n (by omega);have h2:=h2 n (by omega);have hk:=KA (n:=n) t (by omega);have t11:=BI (n:=n) (by omega) 11;rw [c43];clear ta tt;generalize (t.chk 0 1).2=ck at hk hd;rw [show ((10:Nat):Int) - 5=5 from rfl] at h2
   rw [show ((7:Nat):Int) - 5=2 from rfl] at h1
   generalize A4 g=ge at *;generalize (FV.sl (l.map Tm.enc))=le at *;rcases hd with ⟨rfl,rfl,rfl,rfl⟩ | ⟨rfl,rfl,hd⟩
   ·obtain ⟨o1,p1,k1⟩:=r;obtain ⟨o2,p2,k2⟩:=q;obtain ⟨o3,p3,k3⟩:=a;obtain ⟨o4,p4,k4⟩:=t';simp only [Ah] at h1 h2 hk ⊢;simp (maxSteps:=1000000) only [↓Ahu,↓XX,XY,↓reduceIte,Nat.reduceBEq,Nat.reduceAdd,Int.reduceEq,Int.reduceLT,Int.reduceLE,↓Av h0,↓AF h1,↓AC h2,↓Av hk];first | exact Al _ _ | exact Au rfl (by simp) _
   ·rw [Ba];rcases hd with rfl | ⟨rfl,hd⟩
    ·obtain ⟨o1,p1,k1⟩:=r;obtain ⟨o2,p2,k2⟩:=q;obtain ⟨o3,p3,k3⟩:=a;obtain ⟨o4,p4,k4⟩:=t;simp only [Ah,AzJ] at h1 h2 hk t11 ⊢;simp (maxSteps:=1000000) only [↓Ahu,↓XX,XY,↓reduceIte,Nat.reduceBEq,Nat.reduceAdd,Int.reduceEq,Int.reduceLT,Int.reduceLE,↓Av h0,↓AF h1,↓AC h2,↓Av hk,↓Ag t11];first | exact Al _ _ | exact Au rfl (by simp) _
    ·obtain ⟨o1,p1,k1⟩:=r;obtain ⟨o2,p2,k2⟩:=q;obtain ⟨o3,p3,k3⟩:=a;obtain ⟨o4,p4,k4⟩:=t;simp only [Ah,AzJ] at h1 h2 hk t11 ⊢;simp (maxSteps:=1000000) only [↓Ahu,↓XX,XY,↓reduceIte,Nat.reduceBEq,Nat.reduceAdd,Int.reduceEq,Int.reduceLT,Int.reduceLE,hd,↓Av h0,↓AF h1,↓AC h2,↓Av hk,↓Ag t11];first | exact Al _ _ | exact Au rfl (by simp) _
  by_cases hb:b=true
  ·by_cases hc:(t.chk 0 1).2=0
   ·exact ⟨g,a,t,true,body t true (.inl ⟨rfl,rfl,hb,hc⟩),⟨hg,hg4,asc,by omega,by omega,ts,by have:=tt.dp;omega,fun _=>hc,hcg,fun _=>ta.gr,fun _=>tt.gr hb⟩,(fun h=>by cases h),hnil⟩
   ·exact ⟨g,a,Ba,false,body Ba false (.inr ⟨rfl,rfl,.inr ⟨hb,hc⟩⟩),⟨hg,hg4,asc,by omega,by omega,Jz _,by decide,(fun h=>by cases h),hcg,fun _=>ta.gr,fun h=>by cases h⟩,(fun h=>by cases h),hnil⟩
  ·exact ⟨g,a,Ba,false,body Ba false (.inr ⟨rfl,rfl,.inl (by simpa using hb)⟩),⟨hg,hg4,asc,by omega,by omega,Jz _,by decide,(fun h=>by cases h),hcg,fun _=>ta.gr,fun h=>by cases h⟩,(fun h=>by cases h),hnil⟩
 ·obtain ⟨a,ha⟩:∃a,a=q.plainT 2:=⟨_,rfl⟩;have asc:a.sc g.length:=ha ▸ E3 _ 2 q;have aw:a.wt<=20:=by have:=DP 2 q;rw [<- ha] at this;simpa using Nat.le_trans this (by decide)
  have ad:a.dp<=300:=Nat.le_trans (VQ a) (by omega);obtain ⟨t,b,⟨N2,h2⟩,tt⟩:=hO g a r hg ⟨asc,by omega,by omega⟩;have tw:=tt.wt;have ts:=tt.sc;have body:∀(t':Tm) (is:Bool),(is=true/\t'=t/\b=true/\(t.chk 0 1).2=0\/is=false/\t'=.mk 25 0 []/\(b=false\/b=true/\(t.chk 0 1).2≠0))->Ev 43 [.fv (.sl (l.map Tm.enc)),.fv r.enc,.fv q.enc,.fv (.bool true)] (.tuple [A4 g,a.enc,t'.enc,.bool is]):=by
   intro t' is hd;refine ⟨N0+N2+100000000000+1,fun n hn=>?_⟩;obtain ⟨n,rfl⟩:∃k,n=k+1:=⟨n - 1,by omega⟩;have h0:=h0 n (by omega);have h1:=K6 2 n q (by omega) (by omega);have h2:=h2 n (by omega);have hk:=KA (n:=n) t (by omega);have t25:=Ai9 (n:=n) (by omega) 0;rw [c43];rw [<- ha] at h1;clear tt ha;generalize (t.chk 0 1).2=ck at hk hd;rw [show ((10:Nat):Int) - 5=5 from rfl] at h2
   generalize A4 g=ge at *;generalize (FV.sl (l.map Tm.enc))=le at *;rcases hd with ⟨rfl,rfl,rfl,rfl⟩ | ⟨rfl,rfl,hd⟩
   ·obtain ⟨o1,p1,k1⟩:=r;obtain ⟨o2,p2,k2⟩:=q;obtain ⟨o3,p3,k3⟩:=a;obtain ⟨o4,p4,k4⟩:=t';simp only [Ah,Int.cast_ofNat_Int] at h1 h2 hk ⊢;simp (maxSteps:=1000000) only [↓Ahu,↓XX,XY,↓reduceIte,Nat.reduceBEq,Nat.reduceAdd,Int.reduceEq,Int.reduceLT,Int.reduceLE,↓Av h0,↓Ag h1,↓AC h2,↓Av hk];first | exact Al _ _ | exact Au rfl (by simp) _
   ·rcases hd with rfl | ⟨rfl,hd⟩
    ·obtain ⟨o1,p1,k1⟩:=r;obtain ⟨o2,p2,k2⟩:=q;obtain ⟨o3,p3,k3⟩:=a;obtain ⟨o4,p4,k4⟩:=t;simp only [Ah,AzJ,Int.cast_ofNat_Int] at h1 h2 hk t25 ⊢;simp (maxSteps:=1000000) only [↓Ahu,↓XX,XY,↓reduceIte,Nat.reduceBEq,Nat.reduceAdd,Int.reduceEq,Int.reduceLT,Int.reduceLE,↓Av h0,↓Ag h1,↓AC h2,↓Av hk,↓Av t25];first | exact Al _ _ | exact Au rfl (by simp) _
    ·obtain ⟨o1,p1,k1⟩:=r;obtain ⟨o2,p2,k2⟩:=q;obtain ⟨o3,p3,k3⟩:=a;obtain ⟨o4,p4,k4⟩:=t;simp only [Ah,AzJ,Int.cast_ofNat_Int] at h1 h2 hk t25 ⊢;simp (maxSteps:=1000000) only [↓Ahu,↓XX,XY,↓reduceIte,Nat.reduceBEq,Nat.reduceAdd,Int.reduceEq,Int.reduceLT,Int.reduceLE,hd,↓Av h0,↓Ag h1,↓AC h2,↓Av hk,↓Av t25];first | exact Al _ _ | exact Au rfl (by simp) _
  have is25:∀k,(Tm.mk 25 0 []).sc k:=fun k=>Ch (by decide) (by decide) (by rw [BK];simp);by_cases hb:b=true
  ·by_cases hc:(t.chk 0 1).2=0
   ·exact ⟨g,a,t,true,body t true (.inl ⟨rfl,rfl,hb,hc⟩),⟨hg,hg4,asc,by omega,by omega,ts,by have:=tt.dp;omega,fun _=>hc,hcg,(fun h=>by cases h),fun _=>tt.gr hb⟩,(fun _=>ha),hnil⟩
   ·exact ⟨g,a,_,false,body _ false (.inr ⟨rfl,rfl,.inr ⟨hb,hc⟩⟩),⟨hg,hg4,asc,by omega,by omega,is25 _,by decide,(fun h=>by cases h),hcg,(fun h=>by cases h),fun h=>by cases h⟩,(fun _=>ha),hnil⟩
  ·exact ⟨g,a,_,false,body _ false (.inr ⟨rfl,rfl,.inl (by simpa using hb)⟩),⟨hg,hg4,asc,by omega,by omega,is25 _,by decide,(fun h=>by cases h),hcg,(fun h=>by cases h),fun h=>by cases h⟩,(fun _=>ha),hnil⟩
theorem Ahh {n:Nat} {t u:Tm} {e:Int} (h:AS (SS dt n 58 [.fv t.enc] ⟨[],[]⟩) (.tuple [u.enc,.int .i64 e])) (hz:e≠0->u=.z):AS (SS dt (n+1) 44 [.fv t.enc] ⟨[],[]⟩) (.tuple [u.enc,.int .i64 e]):=by
 rw [c44];by_cases he:e=0
 ·obtain ⟨o1,p1,k1⟩:=t;obtain ⟨o2,p2,k2⟩:=u;simp only [Ah] at h ⊢;simp only [Xs,WX,Xb,S44,↓XX,XY,↓reduceIte,Nat.reduceBEq,Nat.reduceAdd,Int.reduceEq,Int.reduceLT,Int.reduceLE,↓Av h,he];first | exact Al _ _ | exact Au rfl (by simp) _
 ·have:=hz he
  subst this;obtain ⟨o1,p1,k1⟩:=t;simp only [Ah,Tm.z,AzJ] at h ⊢;simp only [Xs,WX,Xb,S44,↓XX,XY,↓reduceIte,Nat.reduceBEq,Nat.reduceAdd,Int.reduceEq,Int.reduceLT,Int.reduceLE,↓Av h,he];first | exact Al _ _ | exact Au rfl (by simp) _
structure CodeOk (q c a:Tm):Prop where
 ha:a=q.plainT 2
 ot:OT 14 [] c a
 nok:NOk 0 c
 chk:(c.chk 0 1).2=0
theorem Aoo (r q:Tm):∃c a b,Ev 15 [.fv r.enc,.fv q.enc] (.tuple [Tm.enc c,Tm.enc a,.bool b])/\(b=true->CodeOk q c a):=by
 obtain ⟨g,a,t,is,⟨N1,h1⟩,hC,hpl,hnil⟩:=Amb [] (by simp) r q true;have hg:=hnil rfl;subst hg;have hsc:=hC.tsc;obtain ⟨c,e,⟨N2,h2⟩,hcase,f,hf⟩:=Kd (k:=0) (by omega) hsc (by have:=hC.tdp;omega);have hz:e≠0->c=.z:=by
  intro he;rcases hcase with ⟨h,_⟩ | ⟨_,h⟩
  ·exact absurd h he
  ·exact h
 rw [A4,AzJ,AzJ] at h1;cases is
 ·refine ⟨t,a,false,⟨N1+1,fun n hn=>?_⟩,fun h=>by cases h⟩;obtain ⟨n,rfl⟩:∃k,n=k+1:=⟨n - 1,by omega⟩;have h1:=h1 n (by omega);have hq:=fun (h:Hp) (kk:IV->Hp->List Ref->List Ref->Option (IV×Hp))=>AC (a:=.nils) (b:=.fv r.enc) (c:=.fv q.enc) (d:=.fv (.bool true)) h1 rfl rfl rfl rfl h kk;clear h1 hC hf hcase h2 hz hpl hnil hsc;rw [c15];obtain ⟨o1,x1,k1⟩:=r;obtain ⟨o3,x3,k3⟩:=q;obtain ⟨o5,x5,k5⟩:=t;obtain ⟨o6,x6,k6⟩:=a;simp only [Ah] at hq ⊢;simp (maxSteps:=1000000) only [RB,Ro,Sa,Rg,RG,Qe,R2,QM,S15,↓XX,XY,↓reduceIte,Nat.reduceBEq,Nat.reduceAdd,Int.reduceEq,Int.reduceLT,Int.reduceLE,↓hq];first | exact Al _ _ | exact Au rfl (by simp) _
 ·refine ⟨c,a,decide (e=0),⟨N1+N2+2,fun n hn=>?_⟩,fun h=>?_⟩
  ·obtain ⟨n,rfl⟩:∃k,n=k+2:=⟨n - 2,by omega⟩;have h1:=h1 (n+1) (by omega);have hq:=fun (h:Hp) (kk:IV->Hp->List Ref->List Ref->Option (IV×Hp))=>AC (a:=.nils) (b:=.fv r.enc) (c:=.fv q.enc) (d:=.fv (.bool true)) h1 rfl rfl rfl rfl h kk;have h2:=Ahh (h2 n (by omega)) hz;clear h1 hC hf hcase hz hpl hnil hsc;rw [c15];obtain ⟨o1,x1,k1⟩:=r;obtain ⟨o3,x3,k3⟩:=q;obtain ⟨o5,x5,k5⟩:=t;obtain ⟨o6,x6,k6⟩:=a;obtain ⟨o7,x7,k7⟩:=c;simp only [Ah] at hq h2 ⊢;by_cases he:e=0
   ·simp (maxSteps:=1000000) only [RB,Ro,Sa,Rg,RG,Qe,R2,QM,S15,↓XX,XY,↓reduceIte,Nat.reduceBEq,Nat.reduceAdd,Int.reduceEq,Int.reduceLT,Int.reduceLE,↓hq,↓Av h2,he];first | exact Al _ _ | exact Au rfl (by simp) _
   ·simp (maxSteps:=1000000) only [RB,Ro,Sa,Rg,RG,Qe,R2,QM,S15,↓XX,XY,↓reduceIte,Nat.reduceBEq,Nat.reduceAdd,Int.reduceEq,Int.reduceLT,Int.reduceLE,↓hq,↓Av h2,he];first | exact Al _ _ | exact Au rfl (by simp) _
  ·simp only [decide_eq_true_eq] at h;subst h;rcases hcase with ⟨_,hu⟩ | ⟨h,_⟩
   case inr=>omega
   have hgt:=hC.gt rfl;have ha:=hpl rfl;subst ha;simp only [if_true] at hgt;have ht:=(Ajc hgt [] Oa).2.2.1 rfl (BA [] 2 q);have hw:=hu.wt;have hd:=hu.dp;exact ⟨rfl,AnO hgt hsc hf,hu,by rw [Asl (CQ hf ht) 0 0 1 hu.sc (by omega) (by omega) (by omega)]⟩
def Qj (o:Option (IV×Hp)):Bool:=match o with
 | some (.fv (.bool b),⟨_,[]⟩)=>b
 | _=>false
theorem AkY {o:Option (IV×Hp)} (h:Qj o=true):AS o (.bool true):=by
 unfold Qj at h;split at h
 ·subst h;exact Al _ _
 ·cases h
theorem Om:∀(n:Nat) (t:Tm),t.wt<n->AS (SS dt n 52 [.fv t.enc] ⟨[],[]⟩) (.bool t.typed):=by
 intro n
 induction n with
 | zero=>intro t h;omega
 | succ n ih =>
  intro t h;rw [c52];obtain ⟨op,m,ks⟩:=t;simp only [Tm.wt] at h;rw [Ah];by_cases h1:op=15
  ·subst h1
   match ks with
   | []=>simp only [↓O2,↓XX,XY,↓reduceIte,Nat.reduceBEq,Nat.reduceAdd,Int.reduceEq,Int.reduceLT,Int.reduceLE,Tm.typed];exact Al _ _
   | [_]=>simp only [↓O2,↓XX,XY,↓reduceIte,Nat.reduceBEq,Nat.reduceAdd,Int.reduceEq,Int.reduceLT,Int.reduceLE,KP];exact Al _ _
   | [a,b]=>simp only [↓O2,↓XX,XY,↓reduceIte,Nat.reduceBEq,Nat.reduceAdd,Int.reduceEq,Int.reduceLT,Int.reduceLE,Tm.typed];exact Al _ _
   | a::b::c::l =>
    have:¬ ((l.length:Int)+1+1+1=0):=by omega
    simp only [↓O2,↓XX,XY,↓reduceIte,Nat.reduceBEq,Nat.reduceAdd,Int.reduceEq,Int.reduceLT,Int.reduceLE,Int.natCast_add,Ls,this];exact Al _ _
  ·by_cases h2:op=16\/op=17
   ·match ks with
    | []=>rcases h2 with rfl | rfl<;>(simp only [↓O2,↓XX,XY,↓reduceIte,Nat.reduceBEq,Nat.reduceAdd,Int.reduceEq,Int.reduceLT,Int.reduceLE,Tm.typed];exact Al _ _)
    | [_]=>rcases h2 with rfl | rfl<;>(simp only [↓O2,↓XX,XY,↓reduceIte,Nat.reduceBEq,Nat.reduceAdd,Int.reduceEq,Int.reduceLT,Int.reduceLE,KP];exact Al _ _)
    | [a,b] =>
     simp only [Tm.wtL] at h;have ha:=ih a (by omega);have hb:=ih b (by omega);rw [Tm.typed];generalize a.typed=x at ha ⊢;generalize b.typed=y at hb ⊢;obtain ⟨o1,n1,k1⟩:=a;obtain ⟨o2,n2,k2⟩:=b;simp only [Ah] at ha hb;cases x
     ·rcases h2 with rfl | rfl<;>(simp only [↓O2,↓XX,XY,↓reduceIte,Nat.reduceBEq,Nat.reduceAdd,Int.reduceEq,Int.reduceLT,Int.reduceLE,Ah,↓Av ha];exact Al _ _)
     ·rcases h2 with rfl | rfl<;>(simp only [↓O2,↓XX,XY,↓reduceIte,Nat.reduceBEq,Nat.reduceAdd,Int.reduceEq,Int.reduceLT,Int.reduceLE,Ah,↓Av ha,↓Av hb];exact Al _ _)
    | a::b::c::l =>
     have:¬ ((l.length:Int)+1+1+1=2):=by omega
     rcases h2 with rfl | rfl<;>(simp only [↓O2,↓XX,XY,↓reduceIte,Nat.reduceBEq,Nat.reduceAdd,Int.reduceEq,Int.reduceLT,Int.reduceLE,Int.natCast_add,Ls,this];exact Al _ _)
   ·have h3:op≠16:=fun e=>h2 (.inl e);have h4:op≠17:=fun e=>h2 (.inr e)
    have:(Tm.mk op m ks).typed=false:=by
     match ks with
     | []=>simp [Tm.typed,h1]
     | [_]=>exact KP ..
     | [a,b]=>simp [Tm.typed,h3,h4]
     | a::b::c::l=>exact Ls ..
    rw [this];simp only [↓O2,↓XX,XY,↓reduceIte,Nat.reduceBEq,Nat.reduceAdd,Int.reduceEq,Int.reduceLT,Int.reduceLE,h1,h3,h4];exact Al _ _
section
variable {β:Type} {E:Env}
theorem AuD {t:TypeId} {size:Nat} (T:SliceT E t size) {x:IV} {es es2:List FV} (hx:Plain2 x es2) (h1:Be size es2=true) (h2:Be size es=true) (hne:es2.isEmpty=false) (hb:es.length+es2.length<=1000000) (s:Nat) (own:List (Nat×Blk)) (ext:List Blk)
  (k:IV->Hp->List Ref->List Ref->Option β):AE (AJ E s false .append [t,t] [.clip es,x]) s ⟨own,ext⟩ k=CY own s (Bk own s (.tok (es.length+es2.length) size) fun own=>k (.app (.own s) (es++es2)) ⟨own,ext⟩ [] [.own s]):=by
 obtain ⟨a,b,e,z,ei,hT,he,rfl,h0,hby⟩:=T.h;have hlen:¬ (Be ei.size es=false\/(es.length+es2.length) * ei.bytes > 140737488355328\/es.length+es2.length > 1073741824):=by
  have:(es.length+es2.length) * ei.bytes<=1000000 * 100000:=Nat.mul_le_mul hb hby
  rw [h2];rintro (h | h | h)
  ·cases h
  ·omega
  ·omega
 have key:AJ E s false .append [t,t] [.clip es,x]=.ret { eff:={ val:=.app (.own s) (es++es2),upd:=[] },new:=some (.tok (es++es2).length ei.size) }:=by
  show Cr E s t (some t) false (.clip es) x=_
  simp only [Cr,hT,Option.bind_some,he,Lq hx,Rd.bind,h0,h1,false_or,Bool.true_eq_false,if_false];simp only [BU,if_neg hlen,hne,Bool.false_eq_true,if_false]
 rw [key,List.length_append];unfold AE;simp only [Rd.runLog]
 show (Lc (some (.tok (es.length+es2.length) ei.size)) s ⟨own,ext⟩ fun h=>fV 3 (.app (.own s) (es++es2)) fun v=>k v h [] ([]++[.own s]))=_
 simp only [Lc,CW,Cx];rfl
theorem AoW {t:TypeId} {size:Nat} (T:SliceT E t size) {x:IV} {es2:List FV} (hx:Plain2 x es2) (h1:Be size es2=true) (hne:es2.isEmpty=false) (hb:es2.length<=1000000) (s:Nat) (own:List (Nat×Blk)) (ext:List Blk)
  (k:IV->Hp->List Ref->List Ref->Option β):AE (AJ E s true .append [t,t] [.clip [],x]) s ⟨own,ext⟩ k=CY own s (Bk own s (.row ((es2.flatMap FV.cells).map .fv) false) fun own=>k (.slc (.own s) size es2.length) ⟨own,ext⟩ [] [.own s]):=by
 obtain ⟨a,b,e,z,ei,hT,he,rfl,h0,hby⟩:=T.h;have hlen:¬ (Be ei.size []=false\/(([]:List FV).length+es2.length) * ei.bytes > 140737488355328\/([]:List FV).length+es2.length > 1073741824):=by
  have:es2.length * ei.bytes<=1000000 * 100000:=Nat.mul_le_mul hb hby
  rintro (h | h | h)
  ·cases h
  ·simp only [List.length_nil,Nat.zero_add] at h;omega
  ·simp only [List.length_nil,Nat.zero_add] at h;omega
 have key:AJ E s true .append [t,t] [.clip [],x]=.ret { eff:={ val:=.slc (.own s) ei.size es2.length,upd:=[] },new:=some (.row ((es2.flatMap FV.cells).map .fv) false) }:=by
  show Cr E s t (some t) true (.clip []) x=_
  simp only [Cr,hT,Option.bind_some,he,Lq hx,Rd.bind,h0,h1,false_or,Bool.true_eq_false,if_false];simp only [BU,if_neg hlen,hne,List.nil_append,Bool.false_eq_true,if_false,if_true]
 rw [key];unfold AE;simp only [Rd.runLog]
 show (Lc (some (.row ((es2.flatMap FV.cells).map .fv) false)) s ⟨own,ext⟩ fun h=>fV 3 (.slc (.own s) ei.size es2.length) fun v=>k v h [] ([]++[.own s]))=_
 simp only [Lc,CW,Cx];rfl
theorem As3 {t:TypeId} {size:Nat} (T:SliceT E t size) {x:IV} (hx:Plain2 x []) (s:Nat) (h:Hp) (k:IV->Hp->List Ref->List Ref->Option β) :
  AE (AJ E s true .append [t,t] [.clip [],x]) s h k=k (.clip []) h [] []:=by
 obtain ⟨a,b,e,z,ei,hT,he,rfl,h0,hby⟩:=T.h;have hlen:¬ (Be ei.size []=false\/(([]:List FV).length+([]:List FV).length) * ei.bytes > 140737488355328\/([]:List FV).length+([]:List FV).length > 1073741824):=by
  rintro (h | h | h)
  ·cases h
  ·simp at h
  ·simp at h
 have key:AJ E s true .append [t,t] [.clip [],x]=.ret { eff:={ val:=.clip [],upd:=[] } }:=by
  show Cr E s t (some t) true (.clip []) x=_
  have h1:Be ei.size []=true:=rfl;simp only [Cr,hT,Option.bind_some,he,Lq hx,Rd.bind,h0,h1,false_or,Bool.true_eq_false,if_false];simp only [BU];rw [if_neg hlen];simp
 rw [key];exact GZ _ s h k
theorem Auy {t a b e:TypeId} {z:List IV} (hT:E.T t=some ⟨a,b,.slice e,z⟩) (x:FV) (l:List FV) (k:IV->Option β):AO E t (.fv (.sl (x::l))) .nils k=k (.fv (.bool false)):=by
 show CC E t .eql _ _ k=_
 rw [CC,Cz]
 have:GX E .eql t (.fv (.sl (x::l))) .nils=some (.fv (.bool false)):=by
  simp only [GX,hT,Xn,Q6,Option.bind_some]
 rw [this];rfl
theorem AnG {t:TypeId} {size:Nat} (T:SliceT E t size) {es:List FV} (h1:Be size es=true) (s:Nat) (h:Hp) (k:IV->Hp->List Ref->List Ref->Option β) :
  AE (Jb E t (.fv (.sl es)) none (some (iv es.length)) (some (iv es.length))) s h k=k (.clip es) h [] []:=by
 obtain ⟨a,b,e,z,ei,hT,he,rfl,h0,hby⟩:=T.h;have key:Jb E t (.fv (.sl es)) none (some (iv es.length)) (some (iv es.length))=.ret { eff:={ val:=.clip es,upd:=[] } }:=by
  have hn:I2 (iv es.length) es.length=some es.length:=by
   simp [I2,iv]
  simp only [Jb,hT,he];rw [show C0 4096 (.fv (.sl es))=.ret (.sl es,[]) from rfl]
  simp [Rd.bind,h1,hn,FF]
 rw [key];exact GZ _ s h k
end
theorem ArV {ih:Aa} {f:FuncId} {a:IV} {x w:FV} (hr:AS (EG true ih f [.fv x] []) w) (ha:Bo a=some x) (h:Hp) (k:IV->Hp->List Ref->List Ref->Option (IV×Hp)):Ai [] true false ih f [a] h k=k (.fv w) h [] []:=by
 obtain ⟨v,own,e,hv⟩:=hr;have hu:∃u,(C0 4096 v).run ⟨own,[]⟩=some (w,u):=by
  rcases hv with ⟨u',lg',hf⟩ | ⟨hf,hu⟩
  ·exact M4 ⟨u',lg',hf⟩
  ·exact hu
 obtain ⟨u,hu⟩:=hu
 show EF [] true false ih f [a] h k=_
 unfold EF;have hz:=HB [a] (AhF ha);simp only [hz,Rd.runLog,Cb,Ed,AzJ,A9,C9 (Cx 3),C9 CW,AzK,e,hu,AzH,IV.ren,IV.ren.renL,Bool.false_eq_true,if_false,Option.bind_some]
 show (match laid h ([]++(Bp []).zip []) with | none=>none | some h'=>fH h' fun h'=>fV 3 (.fv w) fun res=>k res h' [] _)=_
 simp only [Bp,AzJ,List.zip_nil_left,List.append_nil,laid,KK,Cx]
theorem Ate {ih:Aa} {f:FuncId} {a:IV} {x:FV} {es:List FV} {own:List (Nat×Blk)} (hr:ih f [.fv x] ⟨[],[]⟩=some (.clip es,⟨own,[]⟩)) (ha:Bo a=some x) (h:Hp) (k:IV->Hp->List Ref->List Ref->Option (IV×Hp)):Ai [] false true ih f [a] h k=k (.clip es) h [] []:=by
 show EF [] false true ih f [a] h k=_
 unfold EF;have hz:=HB [a] (AhF ha);simp only [hz,Rd.runLog,Cb,Ed,AzJ,A9,C9 (Cx 3),C9 CW,AzK,EG,hr,AzH,IV.ren,IV.ren.renL,Bool.false_eq_true,if_false,if_true,Option.bind_some]
 show (match laid h ([]++(Bp []).zip []) with | none=>none | some h'=>fH h' fun h'=>fV 3 (.clip es) fun res=>k res h' [] _)=_
 simp only [Bp,AzJ,List.zip_nil_left,List.append_nil,laid,KK,Cx]
end Idl
end Go.Proofs.Ytdibmackcbpniaa
namespace Go.Proofs.Ytdibmackcbpniaa
namespace Idl
theorem AfH (ih:Aa) (xs:List IV) (h0:Hp) (k:IV->Hp->List Ref->List Ref->Option (IV×Hp)):Pa EE ih (.fv (.func (.func 104) [] [])) xs h0 k=Ai [] false false ih 104 xs h0 k :=
 Ake (by kernel_rfl) (by kernel_rfl) (by kernel_rfl) (by kernel_rfl) ..
theorem AqL {n:Nat} (ka kb:List Tm) (hn:ka.length<n) (hl:ka.length<=1000000000) (ih:∀a∈ka,∀b∈kb,AS (SS dt n 104 [.fv a.enc,.fv b.enc] ⟨[],[]⟩) (.bool (a.same b))) :
  AS (SS dt (n+1) 116 [.fv (.sl (ka.map Tm.enc)),.fv (.sl (kb.map Tm.enc)),.fv (.func (.func 104) [] [])] ⟨[],[]⟩) (.bool (decide (ka.length=kb.length) && Tm.sameL ka kb)):=by
 rw [Awa];by_cases h:ka.length=kb.length
 ·have h':(ka.length:Int)=kb.length:=by omega
  rw [decide_eq_true h,Bool.true_and];simp only [IG,Im,IW,Ix,H7,R7,↓XX,XY,↓reduceIte,Nat.reduceBEq,Nat.reduceAdd,Int.reduceEq,Int.reduceLT,Int.reduceLE,h',↓AL,XD,heldB,AT,XE];refine Bc (Q:=fun r=>AS r _) (fun k V H=>∃pa ra pb rb,ka=pa++ra/\kb=pb++rb/\pa.length=pb.length/\ra.length=k/\V=[.fv (.sl (kb.map Tm.enc)),.fv (.func (.func 104) [] []),.fv (.sl (ka.map Tm.enc)),iv ka.length,iv pa.length]/\H=⟨[],[]⟩/\Tm.sameL ra rb=Tm.sameL ka kb)
   ?_ n ka.length _ _ hn ⟨[],ka,[],kb,rfl,rfl,rfl,rfl,by rw [h];rfl,rfl,rfl⟩
  rintro k V H rec ⟨pa,ra,pb,rb,hka,hkb,hpl,hk,rfl,rfl,hs⟩ hrec;have hal:ka.length=pa.length+ra.length:=by rw [hka];simp
  have hbl:kb.length=pb.length+rb.length:=by rw [hkb];simp
  cases ra with
  | nil =>
   have hno:¬ ((pa.length:Int)<ka.length):=by rw [hal];simp
   rw [<- hs];simp only [IG,Im,IW,Ix,Kg,H7,R7,↓XX,XY,↓reduceIte,Nat.reduceBEq,Nat.reduceAdd,Int.reduceEq,Int.reduceLT,Int.reduceLE,hno,Tm.sameL];exact Al _ _
  | cons a ra =>
   simp only [AzI] at hal hk;cases rb with
   | nil=>simp only [List.length_nil] at hbl;omega
   | cons b rb =>
    have hi:(pa.length:Int)<ka.length:=by omega
    have hga:=Cw hka;have hgb:=Cw hkb;rw [<- hpl] at hgb;have hc:=ih a (by rw [hka];simp) b (by rw [hkb];simp);have hwi:BD ((pa.length:Int)+1)=((pa++[a]).length:Int):=(Az (by omega) (by omega)).trans (by simp);simp only [Tm.sameL] at hs;generalize a.same b=v at hc hs;obtain ⟨o,p,l⟩:=a;obtain ⟨o2,p2,l2⟩:=b;simp only [Ah] at hc;cases v
    ·rw [<- hs];simp only [IG,Im,IW,Ix,Kg,H7,R7,↓XX,XY,↓reduceIte,Nat.reduceBEq,Nat.reduceAdd,Int.reduceEq,Int.reduceLT,Int.reduceLE,hi,↓Bs (AN hga) (Bb _ _ _),↓Bs (AN hgb) (Bb _ _ _),↓Cg,↓AfH,↓Ag hc];exact Al _ _
    ·simp only [IG,Im,IW,Ix,Kg,H7,R7,↓XX,XY,↓reduceIte,Nat.reduceBEq,Nat.reduceAdd,Int.reduceEq,Int.reduceLT,Int.reduceLE,hi,↓Bs (AN hga) (Bb _ _ _),↓Bs (AN hgb) (Bb _ _ _),↓Cg,↓AfH,↓Ag hc,hwi,↓AL,XD,heldB,AT,XE];exact hrec ra.length _ _ (by omega) ⟨pa++[.mk o p l],ra,pb++[.mk o2 p2 l2],rb,by rw [hka];simp,by rw [hkb];simp,by simp [hpl],rfl,rfl,rfl,by simpa using hs⟩
 ·have h':¬ (ka.length:Int)=kb.length:=by omega
  rw [decide_eq_false h,Bool.false_and];simp only [IG,Im,IW,Ix,Kg,H7,R7,↓XX,XY,↓reduceIte,Nat.reduceBEq,Nat.reduceAdd,Int.reduceEq,Int.reduceLT,Int.reduceLE,h'];exact Al _ _
theorem Ajw:∀(n:Nat) (a b:Tm),2 * a.wt+2<n->a.wt<=100000000->AS (SS dt n 104 [.fv a.enc,.fv b.enc] ⟨[],[]⟩) (.bool (a.same b)):=by
 intro n
 induction n using Nat.strongRecOn with
 | ind n ih =>
  intro a b hn hw;obtain ⟨o,m,ka⟩:=a;obtain ⟨o',m',kb⟩:=b;simp only [Tm.wt] at hn hw;obtain ⟨n,rfl⟩:∃k,n=k+1+1:=⟨n - 2,by omega⟩;have hlen:=DB ka;have hq:=AqL (n:=n) ka kb (by omega) (by omega) (fun a ha b _=>ih n (by omega) a b (by have:=CL ha;omega) (by have:=CL ha;omega));rw [Av8,Ah,Ah,Tm.same];generalize (decide (ka.length=kb.length) && Tm.sameL ka kb)=v at hq;by_cases h1:o=o'
  ·by_cases h2:m=m'
   ·subst h1 h2;simp only [MA,Ma,Mk,WA,↓XX,XY,↓reduceIte,Nat.reduceBEq,Nat.reduceAdd,Int.reduceEq,Int.reduceLT,Int.reduceLE,↓AF hq];exact Al _ _
   ·have h2':=decide_eq_false h2;subst h1;simp only [MA,Ma,Mk,WA,↓XX,XY,↓reduceIte,Nat.reduceBEq,Nat.reduceAdd,Int.reduceEq,Int.reduceLT,Int.reduceLE,h2];exact Al _ _
  ·simp only [MA,Ma,Mk,WA,↓XX,XY,↓reduceIte,Nat.reduceBEq,Nat.reduceAdd,Int.reduceEq,Int.reduceLT,Int.reduceLE,h1];exact Al _ _
theorem tSc:EE.T 78=some ⟨1,24,.slice 30,[.nils]⟩:=by kernel_rfl
theorem sSc:SliceT EE 78 3:=⟨_,_,_,_,_,tSc,tTm,rfl,by decide,by decide⟩
theorem AqA (s:Nat) (h:Hp) (k:IV->Hp->List Ref->List Ref->Option (IV×Hp)):AE (An EE 78 0 []) s h k=k (.clip []) h [] []:=Dr tSc tTm (by decide) (cells:=[]) rfl k
theorem Ap4 (o1 n1:Int) (k1:List FV) (s:Nat) (h:Hp) (k:IV->Hp->List Ref->List Ref->Option (IV×Hp)):AE (An EE 78 1 [(0,.fv (.agg [.int .i64 o1,.int .i64 n1,.sl k1]))]) s h k=k (.clip [.agg [.int .i64 o1,.int .i64 n1,.sl k1]]) h [] [] :=
 Dr tSc tTm (by decide) (cells:=[.int .i64 o1,.int .i64 n1,.sl k1]) rfl k
theorem AkH {n:Nat} (g:List Tm) (hg:g.length<=900000):AS (EG true (SS dt (n+1)) 107 [.fv (.sl (g.map Tm.enc))] []) (.sl (g.map Tm.enc)):=by
 cases g with
 | nil =>
  have h1:Cm (SS dt (n+1) 107 [.nils] ⟨[],[]⟩)=true:=by kernel_rfl
  have h2:Cm (SS dt (n+1) 107 [.emp] ⟨[],[]⟩)=true:=by kernel_rfl
  simp only [EG,AzJ,h1,h2,Bool.and_self,if_true];exact Al _ _
 | cons t g =>
  have e:EG true (SS dt (n+1)) 107 [.fv (.sl ((t::g).map Tm.enc))] []=SS dt (n+1) 107 [.fv (.sl ((t::g).map Tm.enc))] ⟨[],[]⟩:=by
   simp [EG]
  rw [e,Awd];have happ:=fun {β:Type}=>F5 (β:=β) sSc (.sl ((t::g).map Tm.enc)) (CO (t::g)) rfl (by simp at hg ⊢;omega) (s0:=.clip []) (.inr rfl);simp only [AzK] at happ ⊢;simp only [Ail,↓XX,XY,↓reduceIte,Nat.reduceBEq,Nat.reduceAdd,Int.reduceEq,Int.reduceLT,Int.reduceLE,↓Auy tSc,↓AqA,↓happ];exact A3 rfl _
theorem AmC {n:Nat} (g:List Tm):∃own,SS dt (n+1) 106 [.fv (.sl (g.map Tm.enc))] ⟨[],[]⟩=some (.clip (g.map Tm.enc),⟨own,[]⟩):=by
 rw [Aw7];have hs:=fun {β:Type}=>AnG (β:=β) (E:=EE) sSc (es:=g.map Tm.enc) (CO g);simp only [List.length_map] at hs;simp only [AiO,↓XX,XY,↓reduceIte,Nat.reduceBEq,Nat.reduceAdd,Int.reduceEq,Int.reduceLT,Int.reduceLE,↓hs];exact ⟨_,rfl⟩
theorem AeN {n:Nat} (g:List Tm) (a:Tm) (hg:g.length<=900000) (hn:1<n):AS (SS dt n 75 [.fv (.sl (g.map Tm.enc)),.fv a.enc] ⟨[],[]⟩) (.sl ((g++[a]).map Tm.enc)):=by
 obtain ⟨n,rfl⟩:∃k,n=k+1+1:=⟨n - 2,by omega⟩;rw [c75];have h1:=AkH (n:=n) g hg;obtain ⟨o2,h2⟩:=AmC (n:=n) g;have happ:=fun {β:Type}=>AuD (β:=β) sSc (.clip [a.enc]) (CO [a]) (CO g) rfl (by simp;omega);rw [List.map_append,AzK,AzJ];obtain ⟨o,p,k⟩:=a;rw [Ah] at happ ⊢;simp only [AjQ,S75,↓XX,XY,↓reduceIte,Nat.reduceBEq,Nat.reduceAdd,Int.reduceEq,Int.reduceLT,Int.reduceLE,↓ArV h1,↓Ate h2,↓Ap4,↓happ];exact A3 rfl _
theorem Ai8 {n:Nat} (hn:0<n) (op:Int) (l:List Tm):AS (SS dt n 64 [iv op,.fv (.sl (l.map Tm.enc))] ⟨[],[]⟩) (Tm.mk op 0 l).enc:=by
 obtain ⟨n,rfl⟩:∃k,n=k+1:=⟨n - 1,by omega⟩;rw [c64];simp only [S64,↓XX,XY,↓reduceIte,Nat.reduceBEq,Nat.reduceAdd,Int.reduceEq,Int.reduceLT,Int.reduceLE,Ah];exact Al _ _
theorem AqZ {n:Nat} (hn:0<n) (op:Int):AS (SS dt n 64 [iv op,.fv (.sl [])] ⟨[],[]⟩) (.agg [.int .i64 op,.int .i64 0,.sl []]):=Ai8 hn op []
theorem Afq {n:Nat} (a:Tm) (e:Int) (hn:0<n) (hn:e=0->2 * a.wt+4<n):AS (SS dt n 105 [.fv a.enc,iv e] ⟨[],[]⟩) (.tuple [a.enc,.int .i64 (if e=0 then (a.chk 0 1).2 else e)]):=by
 obtain ⟨n,rfl⟩:∃k,n=k+1:=⟨n - 1,by omega⟩;rw [Axe];by_cases he:e=0
 ·have h:=Pm (n:=n) a (by have:=hn he;omega);generalize (a.chk 0 1).2=c at h ⊢;obtain ⟨o,p,k⟩:=a;rw [Ah] at h ⊢;simp only [QV,Ru,AgW,↓XX,XY,↓reduceIte,Nat.reduceBEq,Nat.reduceAdd,Int.reduceEq,Int.reduceLT,Int.reduceLE,he,↓Av h];first | exact Al _ _ | exact Au rfl (by simp) _
 ·obtain ⟨o,p,k⟩:=a;rw [Ah];simp only [QV,Ru,AgW,↓XX,XY,↓reduceIte,Nat.reduceBEq,Nat.reduceAdd,Int.reduceEq,Int.reduceLT,Int.reduceLE,he];first | exact Al _ _ | exact Au rfl (by simp) _
theorem AmA {n:Nat} {g:List Tm} {t a:Tm} {q:Int×Tm} (h:Hk (SS dt n 53 [.fv (.sl (g.map Tm.enc)),.fv t.enc] ⟨[],[]⟩) q) (hw:2 * a.wt+2<n) (ha:a.wt<=100000000) :
  AS (SS dt (n+1) 73 [.fv (.sl (g.map Tm.enc)),.fv t.enc,.fv a.enc] ⟨[],[]⟩) (.int .i64 (CB q a)):=by
 obtain ⟨u,hu,he⟩:=h;obtain ⟨e,r⟩:=q;simp only at hu he;rw [c73];have hs:=Ajw n a u hw ha;unfold CB;simp only;by_cases h0:e=0
 ·have hur:=he h0;subst hur h0;rw [if_pos rfl];generalize a.same u=b at hs ⊢;obtain ⟨o1,n1,k1⟩:=t;obtain ⟨o2,n2,k2⟩:=a;obtain ⟨o3,n3,k3⟩:=u;simp only [Ah] at hu hs ⊢;cases b
  ·simp only [Sl,RQ,S73,↓XX,XY,↓reduceIte,Nat.reduceBEq,Nat.reduceAdd,Int.reduceEq,Int.reduceLT,Int.reduceLE,↓Ag hu,↓Ag hs];exact Al _ _
  ·simp only [Sl,RQ,S73,↓XX,XY,↓reduceIte,Nat.reduceBEq,Nat.reduceAdd,Int.reduceEq,Int.reduceLT,Int.reduceLE,↓Ag hu,↓Ag hs];exact Al _ _
 ·rw [if_neg h0];obtain ⟨o1,n1,k1⟩:=t;obtain ⟨o2,n2,k2⟩:=a;obtain ⟨o3,n3,k3⟩:=u;simp only [Ah] at hu hs ⊢;simp only [Sl,RQ,S73,↓XX,XY,↓reduceIte,Nat.reduceBEq,Nat.reduceAdd,Int.reduceEq,Int.reduceLT,Int.reduceLE,↓Ag hu,h0];exact Al _ _
def ApV (r:Option (IV×Hp)) (q:Int×Tm) (op:Int):Prop:=∃u v e,AS r (.tuple [Tm.enc u,Tm.enc v,.int .i64 e])/\(q.1≠0->e=q.1)/\(q.1=0->q.2.op≠op->e=12)/\(q.1=0->q.2.op=op->e=0/\u=q.2.kid 0/\v=q.2.kid 1)
theorem SM {n:Nat} {g:List Tm} {t:Tm} {op:Int} {q:Int×Tm} (h:Hk (SS dt n 53 [.fv (.sl (g.map Tm.enc)),.fv t.enc] ⟨[],[]⟩) q) (ht:q.1=0->q.2.op=op->∃x y,q.2.kids=[x,y]) :
  ApV (SS dt (n+1) 108 [.fv (.sl (g.map Tm.enc)),.fv t.enc,iv op] ⟨[],[]⟩) q op:=by
 obtain ⟨u,hu,he⟩:=h;obtain ⟨e,r⟩:=q;simp only at hu he ht;rw [AwO];by_cases h0:e=0
 ·have hur:=he h0;subst hur h0;obtain ⟨o1,n1,k1⟩:=t;obtain ⟨o3,n3,k3⟩:=u;simp only [Ah,Tm.op,Tm.kids] at hu ht ⊢;by_cases h1:o3=op
  ·obtain ⟨x,y,rfl⟩:=ht trivial h1;refine ⟨x,y,0,?_,fun h=>absurd rfl h,fun _ h=>absurd h1 h,fun _ _=>⟨rfl,rfl,rfl⟩⟩;subst h1;obtain ⟨o4,n4,k4⟩:=x;obtain ⟨o5,n5,k5⟩:=y;simp only [AzK,AzJ,Ah] at hu ⊢;simp only [MC,Mf,ME,Md,Mn,LU,L8,Mx,L5,XZ,↓XX,XY,↓reduceIte,Nat.reduceBEq,Nat.reduceAdd,Int.reduceEq,Int.reduceLT,Int.reduceLE,↓Ag hu,↓BB,↓BM];first | exact Al _ _ | exact Au rfl (by simp) _
  ·refine ⟨.z,.z,12,?_,fun h=>absurd rfl h,fun _ _=>rfl,fun _ h=>absurd h h1⟩;simp only [MC,Mf,ME,Md,Mn,LU,L8,Mx,L5,XZ,↓XX,XY,↓reduceIte,Nat.reduceBEq,Nat.reduceAdd,Int.reduceEq,Int.reduceLT,Int.reduceLE,↓Ag hu,h1,Tm.z,Ah];first | exact Al _ _ | exact Au rfl (by simp) _
 ·obtain ⟨o1,n1,k1⟩:=t;obtain ⟨o3,n3,k3⟩:=u;simp only [Ah] at hu ⊢;refine ⟨.z,.z,e,?_,fun h=>rfl,fun h=>absurd h h0,fun h=>absurd h h0⟩;simp only [MC,Mf,ME,Md,Mn,LU,L8,Mx,L5,XZ,↓XX,XY,↓reduceIte,Nat.reduceBEq,Nat.reduceAdd,Int.reduceEq,Int.reduceLT,Int.reduceLE,↓Ag hu,h0,Tm.z,Ah];first | exact Al _ _ | exact Au rfl (by simp) _
theorem Aks (ih:Aa) (xs:List IV) (h0:Hp) (k:IV->Hp->List Ref->List Ref->Option (IV×Hp)):Pa EE ih (.fv (.func (.func 76) [] [])) xs h0 k=Ai [] false false ih 76 xs h0 k :=
 Ake (by kernel_rfl) (by kernel_rfl) (by kernel_rfl) (by kernel_rfl) ..
abbrev AaB (n:Nat) (g:List Tm) (t:Tm):Prop:=Hk (SS dt n 53 [.fv (.sl (g.map Tm.enc)),.fv t.enc] ⟨[],[]⟩) (t.inf g)
theorem AgZ {n:Nat} {g:List Tm} {op m:Int} {a b:Tm} (ho:op=20\/op=29) (hg:g.length<=900000) (hn:a.wt+3<n) (ih:a.typed=true->AaB n (g++[a]) b)
  (ihc:a.typed=true->AS (SS dt n 73 [.fv (.sl ((g++[a]).map Tm.enc)),.fv b.enc,.fv a.enc] ⟨[],[]⟩) (.int .i64 (CB (b.inf (g++[a])) a)))
  (hb:a.typed=true->(b.inf (g++[a])).1=0->2 * (2+a.wt+(b.inf (g++[a])).2.wt)+4<n) :
  Hk (SS dt (n+1) 74 [.fv (.sl (g.map Tm.enc)),.fv (Tm.mk op m [a,b]).enc] ⟨[],[]⟩) ((Tm.mk op m [a,b]).inf g):=by
 rw [c74,Tm.inf];have hty:=Om n a (by omega);have hw:=AeN (n:=n) g a hg (by omega);cases hta:a.typed
 ·rw [hta] at hty
  have:(Tm.mk op m [a,b]).inf g=(10,.z):=by rcases ho with rfl | rfl<;>simp [Tm.inf,hta]
  rw [Tm.inf] at this;simp only [hta] at this;simp only [this];refine C2 (u:=.z) ?_ (by decide);obtain ⟨o1,n1,k1⟩:=a;obtain ⟨o2,n2,k2⟩:=b;simp only [Ah,Tm.z,AzK,AzJ] at hty ⊢;simp only [Ml,L6,Mq,L4,LS,Mw,Mp,Mz,L3,LV,Mg,LY,Mc,Mr,S74,↓XX,XY,↓reduceIte,Nat.reduceBEq,Nat.reduceAdd,Int.reduceEq,Int.reduceLT,Int.reduceLE,↓BB,↓BM,↓Av hty];first | exact Al _ _ | exact Au rfl (by simp) _
 ·rw [hta] at hty;rcases ho with rfl | rfl
  ·obtain ⟨u,hu,he⟩:=ih hta;have hbb:=hb hta;simp only [if_true,Int.reduceEq,if_false,G5];generalize b.inf (g++[a])=q at hu he hbb ⊢;obtain ⟨e,r⟩:=q;simp only at hu he hbb ⊢;have hof:=Ai8 (n:=n) (by omega) 16 [a,u];have hm:=Afq (n:=n) (.mk 16 0 [a,u]) e (by omega) (fun h=>by have:=he h;subst this;have:=hbb h;simp only [Tm.wt,Tm.wtL];omega);refine ⟨.mk 16 0 [a,u],?_,fun h0=>?_⟩
   ·have e1:(if e=0 then (((Tm.mk 16 0 [a,r]).chk 0 1).2,Tm.mk 16 0 [a,r]) else (e,.z)).1=(if e=0 then ((Tm.mk 16 0 [a,u]).chk 0 1).2 else e):=by
     by_cases h:e=0
     ·rw [if_pos h,if_pos h,he h]
     ·rw [if_neg h,if_neg h]
    rw [e1];generalize (if e=0 then ((Tm.mk 16 0 [a,u]).chk 0 1).2 else e)=w at hm ⊢;obtain ⟨o1,n1,k1⟩:=a;obtain ⟨o2,n2,k2⟩:=b;obtain ⟨o3,n3,k3⟩:=u;simp only [Ah,AzK,AzJ,List.map_append] at hty hw hu hof hm ⊢;simp only [Ml,L6,Mq,L4,LS,Mw,Mp,Mz,L3,LV,Mg,LY,Mc,Mr,S74,↓XX,XY,↓reduceIte,Nat.reduceBEq,Nat.reduceAdd,Int.reduceEq,Int.reduceLT,Int.reduceLE,↓BB,↓BM,↓Av hty,↓Ag hw,↓Ag hu,↓CA,↓Ag hof,↓Ag hm];first | exact Al _ _ | exact Au rfl (by simp) _
   ·by_cases h:e=0
    ·rw [if_pos h,he h]
    ·rw [if_neg h] at h0;exact absurd h0 h
  ·have hc:=ihc hta;simp only [if_true,Int.reduceEq,if_false];refine Je ?_;generalize CB (b.inf (g++[a])) a=w at hc ⊢;obtain ⟨o1,n1,k1⟩:=a;obtain ⟨o2,n2,k2⟩:=b;simp only [Ah,AzK,AzJ,List.map_append] at hty hw hc ⊢;simp only [Ml,L6,Mq,L4,LS,Mw,Mp,Mz,L3,LV,Mg,LY,Mc,Mr,S74,↓XX,XY,↓reduceIte,Nat.reduceBEq,Nat.reduceAdd,Int.reduceEq,Int.reduceLT,Int.reduceLE,↓BB,↓BM,↓Av hty,↓Ag hw,↓AF hc];first | exact Al _ _ | exact Au rfl (by simp) _
theorem AnE {n:Nat} {g:List Tm} {op m:Int} {l:List Tm} (h1:op≠22) (h2:op≠21) (h3:op≠23) (h4:op≠24):AS (SS dt (n+1) 76 [.fv (.sl (g.map Tm.enc)),.fv (Tm.mk op m l).enc] ⟨[],[]⟩) (.tuple [Tm.z.enc,.int .i64 10]):=by
 rw [c76,Ah];simp only [↓Wy,↓XX,XY,↓reduceIte,Nat.reduceBEq,Nat.reduceAdd,Int.reduceEq,Int.reduceLT,Int.reduceLE,h1,h2,h3,h4,Tm.z,Ah];first | exact Al _ _ | exact Au rfl (by simp) _
theorem AmN {n:Nat} {g:List Tm} {op m:Int} {a:Tm} (ho:op=23\/op=24) (hs:ApV (SS dt n 108 [.fv (.sl (g.map Tm.enc)),.fv a.enc,iv 17] ⟨[],[]⟩) (a.inf g) 17) :
  Hk (SS dt (n+1) 76 [.fv (.sl (g.map Tm.enc)),.fv (Tm.mk op m [a]).enc] ⟨[],[]⟩) ((Tm.mk op m [a]).inf g):=by
 rw [c76,Tm.inf];obtain ⟨u,v,e,hu,he1,he2,he3⟩:=hs;generalize a.inf g=q at he1 he2 he3 ⊢;obtain ⟨e',r⟩:=q;simp only at he1 he2 he3 ⊢;rcases ho with rfl | rfl
 ·simp only [if_true];refine ⟨u,?_,?_⟩
  ·have:(if e'=0 then if r.op=17 then ((0:Int),r.kid 0) else (12,.z) else (e',.z)).1=e:=by
    by_cases h:e'=0
    ·rw [if_pos h];by_cases h2:r.op=17
     ·rw [if_pos h2,(he3 h h2).1]
     ·rw [if_neg h2,he2 h h2]
    ·rw [if_neg h,he1 h]
   rw [this];obtain ⟨o1,n1,k1⟩:=a;obtain ⟨o2,n2,k2⟩:=u;obtain ⟨o3,n3,k3⟩:=v;simp only [Ah,AzK,AzJ] at hu ⊢;simp only [↓Wy,↓XX,XY,↓reduceIte,Nat.reduceBEq,Nat.reduceAdd,Int.reduceEq,Int.reduceLT,Int.reduceLE,↓BB,↓AF hu];first | exact Al _ _ | exact Au rfl (by simp) _
  ·intro h0;by_cases h:e'=0
   ·rw [if_pos h] at h0 ⊢;by_cases h2:r.op=17
    ·rw [if_pos h2,(he3 h h2).2.1]
    ·rw [if_neg h2] at h0;cases h0
   ·rw [if_neg h] at h0;exact absurd h0 h
 ·simp only [Int.reduceEq,if_false,if_true];refine ⟨v,?_,?_⟩
  ·have:(if e'=0 then if r.op=17 then ((0:Int),r.kid 1) else (12,.z) else (e',.z)).1=e:=by
    by_cases h:e'=0
    ·rw [if_pos h];by_cases h2:r.op=17
     ·rw [if_pos h2,(he3 h h2).1]
     ·rw [if_neg h2,he2 h h2]
    ·rw [if_neg h,he1 h]
   rw [this];obtain ⟨o1,n1,k1⟩:=a;obtain ⟨o2,n2,k2⟩:=u;obtain ⟨o3,n3,k3⟩:=v;simp only [Ah,AzK,AzJ] at hu ⊢;simp only [↓Wy,↓XX,XY,↓reduceIte,Nat.reduceBEq,Nat.reduceAdd,Int.reduceEq,Int.reduceLT,Int.reduceLE,↓BB,↓AF hu];first | exact Al _ _ | exact Au rfl (by simp) _
  ·intro h0;by_cases h:e'=0
   ·rw [if_pos h] at h0 ⊢;by_cases h2:r.op=17
    ·rw [if_pos h2,(he3 h h2).2.2]
    ·rw [if_neg h2] at h0;cases h0
   ·rw [if_neg h] at h0;exact absurd h0 h
theorem AmD {n:Nat} {g:List Tm} {m:Int} {a b:Tm} (hs:ApV (SS dt n 108 [.fv (.sl (g.map Tm.enc)),.fv a.enc,iv 16] ⟨[],[]⟩) (a.inf g) 16)
  (hc:(a.inf g).1=0->(a.inf g).2.op=16->AS (SS dt n 73 [.fv (.sl (g.map Tm.enc)),.fv b.enc,.fv ((a.inf g).2.kid 0).enc] ⟨[],[]⟩) (.int .i64 (CB (b.inf g) ((a.inf g).2.kid 0)))) :
  Hk (SS dt (n+1) 76 [.fv (.sl (g.map Tm.enc)),.fv (Tm.mk 21 m [a,b]).enc] ⟨[],[]⟩) ((Tm.mk 21 m [a,b]).inf g):=by
 rw [c76,Tm.inf];obtain ⟨u,v,e,hu,he1,he2,he3⟩:=hs;simp only [Int.reduceEq,if_false,if_true];generalize a.inf g=q at he1 he2 he3 hc ⊢;obtain ⟨e',r⟩:=q;simp only at he1 he2 he3 hc ⊢;have hfail:e≠0->Hk (S76 (SS dt n) n (.fv (.sl (g.map Tm.enc))) (.fv (Tm.mk 21 m [a,b]).enc) ⟨[],[]⟩) (e,.z):=by
  intro h0;refine C2 (u:=.z) ?_ h0;obtain ⟨o1,n1,k1⟩:=a;obtain ⟨o2,n2,k2⟩:=u;obtain ⟨o3,n3,k3⟩:=v;simp only [Ah,AzK,AzJ] at hu ⊢;simp only [↓Wy,↓XX,XY,↓reduceIte,Nat.reduceBEq,Nat.reduceAdd,Int.reduceEq,Int.reduceLT,Int.reduceLE,↓BB,↓AF hu,h0,Tm.z,Ah];first | exact Al _ _ | exact Au rfl (by simp) _
 by_cases h:e'=0
 ·rw [if_pos h];by_cases h2:r.op=16
  ·rw [if_pos h2];have hcc:=hc h h2;obtain ⟨h3,h4,h5⟩:=he3 h h2;rw [<- h4] at hcc ⊢;rw [<- h5];subst h3;refine Je ?_;generalize CB (b.inf g) u=w at hcc ⊢;obtain ⟨o1,n1,k1⟩:=a;obtain ⟨o2,n2,k2⟩:=u;obtain ⟨o3,n3,k3⟩:=v;obtain ⟨o4,n4,k4⟩:=b;simp only [Ah,AzK,AzJ] at hu hcc ⊢;simp only [↓Wy,↓XX,XY,↓reduceIte,Nat.reduceBEq,Nat.reduceAdd,Int.reduceEq,Int.reduceLT,Int.reduceLE,↓BB,↓BM,↓AF hu,↓AF hcc];first | exact Al _ _ | exact Au rfl (by simp) _
  ·rw [if_neg h2]
   have:=he2 h h2
   subst this;exact hfail (by decide)
 ·rw [if_neg h]
  have:=he1 h
  subst this;exact hfail h
theorem Amt {n:Nat} {g:List Tm} {m:Int} {a b:Tm} (hn:3<n) (ha:AaB n g a) (hb:(a.inf g).1=0->AaB n g b) (hw:(a.inf g).1=0->(b.inf g).1=0->2 * (2+(a.inf g).2.wt+(b.inf g).2.wt)+4<n) :
  Hk (SS dt (n+1) 76 [.fv (.sl (g.map Tm.enc)),.fv (Tm.mk 22 m [a,b]).enc] ⟨[],[]⟩) ((Tm.mk 22 m [a,b]).inf g):=by
 rw [c76,Tm.inf];obtain ⟨u,hu,he⟩:=ha;simp only [Int.reduceEq,if_false,if_true];generalize a.inf g=q at hu he hw hb ⊢;obtain ⟨e,r⟩:=q;simp only at hu he hw hb ⊢;by_cases h:e=0
 ·rw [if_pos h]
  have:=he h
  subst this;subst h;obtain ⟨v,hv,hve⟩:=hb rfl;have hw:=hw rfl;unfold G5;generalize b.inf g=q at hv hve hw ⊢;obtain ⟨e,r⟩:=q;simp only at hv hve hw ⊢;have hof:=Ai8 (n:=n) (by omega) 17 [u,v];have hm:=Afq (n:=n) (.mk 17 0 [u,v]) e (by omega) (fun h=>by have:=hve h;subst this;have:=hw h;simp only [Tm.wt,Tm.wtL];omega);refine ⟨.mk 17 0 [u,v],?_,fun h0=>?_⟩
  ·have e1:(if e=0 then (((Tm.mk 17 0 [u,r]).chk 0 1).2,Tm.mk 17 0 [u,r]) else (e,.z)).1=(if e=0 then ((Tm.mk 17 0 [u,v]).chk 0 1).2 else e):=by
    by_cases h:e=0
    ·rw [if_pos h,if_pos h,hve h]
    ·rw [if_neg h,if_neg h]
   rw [e1];generalize (if e=0 then ((Tm.mk 17 0 [u,v]).chk 0 1).2 else e)=w at hm ⊢;obtain ⟨o1,n1,k1⟩:=a;obtain ⟨o2,n2,k2⟩:=b;obtain ⟨o3,n3,k3⟩:=u;obtain ⟨o4,n4,k4⟩:=v;simp only [Ah,AzK,AzJ] at hu hv hof hm ⊢;simp only [↓Wy,↓XX,XY,↓reduceIte,Nat.reduceBEq,Nat.reduceAdd,Int.reduceEq,Int.reduceLT,Int.reduceLE,↓BB,↓BM,↓Ag hu,↓Ag hv,↓CA,↓Ag hof,↓Ag hm];first | exact Al _ _ | exact Au rfl (by simp) _
  ·by_cases h:e=0
   ·rw [if_pos h,hve h]
   ·rw [if_neg h] at h0;exact absurd h0 h
 ·rw [if_neg h];refine C2 (u:=.z) ?_ h;obtain ⟨o1,n1,k1⟩:=a;obtain ⟨o2,n2,k2⟩:=b;obtain ⟨o3,n3,k3⟩:=u;simp only [Ah,AzK,AzJ] at hu ⊢;simp only [↓Wy,↓XX,XY,↓reduceIte,Nat.reduceBEq,Nat.reduceAdd,Int.reduceEq,Int.reduceLT,Int.reduceLE,↓BB,↓BM,↓Ag hu,h,Tm.z,Ah];first | exact Al _ _ | exact Au rfl (by simp) _
theorem Arp (M:Nat) (hM:3000<=M) (hM2:M<=1000000):∀(n:Nat) (t:Tm) (g:List Tm),t.shp->t.wt<=M->(∀x∈g,x.typed=true/\x.wt<=M)->g.length+t.wt<=900000->4 * t.wt+6 * M+60<n->AaB n g t:=by
 intro n
 induction n using Nat.strongRecOn with
 | ind n ih =>
  intro t g hs hw hg hl hn;obtain ⟨n,rfl⟩:∃k,n=k+1:=⟨n - 1,by omega⟩;obtain ⟨op,m,l⟩:=t;have hs0:=hs;rw [Tm.shp] at hs;obtain ⟨hk,hv,hsl⟩:=hs;simp only [Tm.wt] at hw hl hn;have hof:=AqZ (n:=n) (by omega) 15;have hti:=fun (k:Nat)=>GB M hM k;have hgx:∀a:Tm,a.typed=true/\a.wt<=M->∀x∈g++[a],x.typed=true/\x.wt<=M:=by
   intro a ha x hx;rcases List.mem_append.1 hx with h | h
   ·exact hg x h
   ·rw [List.mem_singleton.1 h];exact ha
  have hck:∀(c a:Tm) (g':List Tm) (k:Nat),k+1<=n->c.shp->c.wt<=M->(∀x∈g',x.typed=true/\x.wt<=M)->g'.length+c.wt<=900000->4 * c.wt+6 * M+60<k->a.wt<=M ->
    AS (SS dt (k+1) 73 [.fv (.sl (g'.map Tm.enc)),.fv c.enc,.fv a.enc] ⟨[],[]⟩) (.int .i64 (CB (c.inf g') a)) :=
   fun c a g' k hk h1 h2 h3 h4 h5 h6=>AmA (ih k (by omega) c g' h1 h2 h3 h4 h5) (by omega) (by omega)
  show Hk _ _
  rw [c53];by_cases o1:op=1
  ·subst o1
   have:=AiB hk
   subst this;have hm:=hv rfl;rw [Tm.inf,if_pos rfl,Ah];by_cases h2:(g.length:Int)<=m
   ·rw [if_pos h2];refine C2 (u:=.z) ?_ (by decide);simp only [↓LQ,↓XX,XY,↓reduceIte,Nat.reduceBEq,Nat.reduceAdd,Int.reduceEq,Int.reduceLT,Int.reduceLE,h2,Tm.z,Ah];first | exact Al _ _ | exact Au rfl (by simp) _
   ·rw [if_neg h2];have hlt:g.length - 1 - m.toNat<g.length:=by omega
    have hget:g[g.length - 1 - m.toNat]?=some (g.getD (g.length - 1 - m.toNat) .z):=by
     rw [List.getD_eq_getElem?_getD,List.getElem?_eq_getElem hlt];rfl
    have w1:BD ((g.length:Int) - 1)=(g.length:Int) - 1:=by rw [Az]<;>omega
    have w2:BD ((g.length:Int) - 1 - m)=((g.length - 1 - m.toNat:Nat):Int):=by rw [Az (by omega) (by omega)];omega
    refine Je ?_;generalize g.getD (g.length - 1 - m.toNat) .z=x at hget ⊢;obtain ⟨o,p,k⟩:=x;simp only [↓LQ,↓XX,XY,↓reduceIte,Nat.reduceBEq,Nat.reduceAdd,Int.reduceEq,Int.reduceLT,Int.reduceLE,h2,w1,w2,↓Bs (AN hget) (Bb _ _ _),↓Cg,Ah];first | exact Al _ _ | exact Au rfl (by simp) _
  by_cases o2:op=25
  ·subst o2
   have:=AiB hk
   subst this;rw [Tm.inf,if_neg (by decide),if_pos rfl,Ah];refine Je ?_;simp only [↓LQ,↓XX,XY,↓reduceIte,Nat.reduceBEq,Nat.reduceAdd,Int.reduceEq,Int.reduceLT,Int.reduceLE,↓Ag hof,tI,Ah];first | exact Al _ _ | exact Au rfl (by simp) _
  by_cases o3:op=26
  ·subst o3;obtain ⟨a,b,rfl⟩:=NS hk;simp only [Tm.wtL] at hw hl hn;obtain ⟨k,rfl⟩:∃k,n=k+1:=⟨n - 1,by omega⟩;have htw:tI.wt<=M:=by simp [tI,Tm.wt,Tm.wtL];omega
   have ha:=hck a tI g k (by omega) hsl.1 (by omega) hg (by omega) (by omega) htw;have hb:=hck b tI g k (by omega) hsl.2.1 (by omega) hg (by omega) (by omega) htw;rw [Tm.inf,if_pos rfl];generalize CB (a.inf g) tI=x at ha ⊢;generalize CB (b.inf g) tI=y at hb ⊢;by_cases h:x=0
   ·rw [if_pos h];refine Je ?_;subst h;obtain ⟨o1,n1,k1⟩:=a;obtain ⟨o2,n2,k2⟩:=b;simp only [Ah,tI,AzK,AzJ] at ha hb ⊢;simp only [↓LQ,↓XX,XY,↓reduceIte,Nat.reduceBEq,Nat.reduceAdd,Int.reduceEq,Int.reduceLT,Int.reduceLE,↓Ag hof,↓BB,↓BM,↓AF ha,↓AF hb];first | exact Al _ _ | exact Au rfl (by simp) _
   ·rw [if_neg h];refine C2 (u:=.z) ?_ h;obtain ⟨o1,n1,k1⟩:=a;obtain ⟨o2,n2,k2⟩:=b;simp only [Ah,tI,AzK,AzJ] at ha hb ⊢;simp only [↓LQ,↓XX,XY,↓reduceIte,Nat.reduceBEq,Nat.reduceAdd,Int.reduceEq,Int.reduceLT,Int.reduceLE,↓Ag hof,↓BB,↓BM,↓AF ha,h,Tm.z,Ah];first | exact Al _ _ | exact Au rfl (by simp) _
  by_cases o4:op=20\/op=29
  ·have hk2:AY op=2:=by rcases o4 with rfl | rfl<;>rfl
   obtain ⟨a,b,rfl⟩:=NS (hk.trans hk2);simp only [Tm.wtL] at hw hl hn;obtain ⟨k,rfl⟩:∃k,n=k+1+1:=⟨n - 2,by omega⟩;obtain ⟨u,hu,hue⟩:=AgZ (n:=k+1) (g:=g) (op:=op) (m:=m) (a:=a) (b:=b) o4 (by omega) (by omega) (fun h=>ih (k+1) (by omega) b (g++[a]) hsl.2.1 (by omega) (hgx a ⟨h,by omega⟩) (by simp;omega) (by omega))
    (fun h=>hck b a (g++[a]) k (by omega) hsl.2.1 (by omega) (hgx a ⟨h,by omega⟩) (by simp;omega) (by omega) (by omega))
    (fun h h0=>by have:=(hti _ b (g++[a]) (Nat.lt_succ_self _) (by omega) (hgx a ⟨h,by omega⟩) hsl.2.1 h0).2;omega)
   refine ⟨u,?_,hue⟩;generalize (Tm.mk op m [a,b]).inf g=q at hu ⊢;obtain ⟨e,r⟩:=q;obtain ⟨o1,n1,k1⟩:=u;simp only [Ah] at hu ⊢;rcases o4 with rfl | rfl<;>(simp only [↓LQ,↓XX,XY,↓reduceIte,Nat.reduceBEq,Nat.reduceAdd,Int.reduceEq,Int.reduceLT,Int.reduceLE,↓Ag hu];first | exact Al _ _ | exact Au rfl (by simp) _)
  by_cases o5:op=28
  ·subst o5;obtain ⟨a,b,rfl⟩:=NS hk;simp only [Tm.wtL] at hw hl hn;have hpa:=Cv a;have hpb:=Cv b;have hta:=hti _ a g (Nat.lt_succ_self _) (by omega) hg hsl.1;obtain ⟨u,hu,he⟩:=ih n (by omega) a g hsl.1 (by omega) hg (by omega) (by omega);rw [Tm.inf,if_neg (by decide),if_neg (by decide),if_neg (by decide),if_pos rfl];generalize a.inf g=q at hu he hta ⊢;obtain ⟨e,r⟩:=q;simp only at hu he hta ⊢;by_cases h:e=0
   ·have:=he h
    subst this h;rw [if_pos rfl];have hwi:=AeN (n:=n) g u (by omega) (by omega);obtain ⟨v,hv2,hve⟩:=ih n (by omega) b (g++[u]) hsl.2.1 (by omega) (hgx u (hta rfl)) (by simp;omega) (by omega);refine ⟨v,?_,hve⟩;generalize b.inf (g++[u])=q at hv2 ⊢;obtain ⟨o1,n1,k1⟩:=a;obtain ⟨o2,n2,k2⟩:=b;obtain ⟨o3,n3,k3⟩:=u;obtain ⟨o4,n4,k4⟩:=v;simp only [Ah,AzK,AzJ,List.map_append] at hu hv2 hwi ⊢;simp only [↓LQ,↓XX,XY,↓reduceIte,Nat.reduceBEq,Nat.reduceAdd,Int.reduceEq,Int.reduceLT,Int.reduceLE,↓BB,↓BM,↓Ag hu,↓Ag hwi,↓Ag hv2];first | exact Al _ _ | exact Au rfl (by simp) _
   ·rw [if_neg h];refine C2 (u:=.z) ?_ h;obtain ⟨o1,n1,k1⟩:=a;obtain ⟨o2,n2,k2⟩:=b;obtain ⟨o3,n3,k3⟩:=u;simp only [Ah,AzK,AzJ] at hu ⊢;simp only [↓LQ,↓XX,XY,↓reduceIte,Nat.reduceBEq,Nat.reduceAdd,Int.reduceEq,Int.reduceLT,Int.reduceLE,↓BB,↓BM,↓Ag hu,h,Tm.z,Ah];first | exact Al _ _ | exact Au rfl (by simp) _
  by_cases o6:op=27
  ·subst o6;obtain ⟨a,b,c,rfl⟩:=Avl hk;simp only [Tm.wtL] at hw hl hn;obtain ⟨k,rfl⟩:∃k,n=k+1:=⟨n - 1,by omega⟩;have htw:tI.wt<=M:=by simp [tI,Tm.wt,Tm.wtL];omega
   have ha:=hck a tI g k (by omega) hsl.1 (by omega) hg (by omega) (by omega) htw;rw [Tm.inf,if_pos rfl];generalize CB (a.inf g) tI=x at ha ⊢;by_cases h:x=0
   ·subst h;rw [if_pos rfl];obtain ⟨u,hu,he⟩:=ih (k+1) (by omega) b g hsl.2.1 (by omega) hg (by omega) (by omega);have htb:=hti _ b g (Nat.lt_succ_self _) (by omega) hg hsl.2.1;have hc:=fun (y:Tm) (hy:y.wt<=M)=>hck c y g k (by omega) hsl.2.2.1 (by omega) hg (by omega) (by omega) hy;generalize b.inf g=q at hu he htb ⊢;obtain ⟨e,r⟩:=q;simp only at hu he htb ⊢;by_cases h:e=0
    ·have:=he h
     subst this h;rw [if_pos rfl];have hc:=hc u (htb rfl).2;refine Je ?_;generalize CB (c.inf g) u=w at hc ⊢;obtain ⟨o1,n1,k1⟩:=a;obtain ⟨o2,n2,k2⟩:=b;obtain ⟨o3,n3,k3⟩:=c;obtain ⟨o4,n4,k4⟩:=u;simp only [Ah,tI,AzK,AzJ] at ha hu hc ⊢;simp only [↓LQ,↓XX,XY,↓reduceIte,Nat.reduceBEq,Nat.reduceAdd,Int.reduceEq,Int.reduceLT,Int.reduceLE,↓Ag hof,↓BB,↓BM,↓G8,↓AF ha,↓Ag hu,↓AF hc];first | exact Al _ _ | exact Au rfl (by simp) _
    ·rw [if_neg h];refine C2 (u:=.z) ?_ h;obtain ⟨o1,n1,k1⟩:=a;obtain ⟨o2,n2,k2⟩:=b;obtain ⟨o3,n3,k3⟩:=c;obtain ⟨o4,n4,k4⟩:=u;simp only [Ah,tI,AzK,AzJ] at ha hu ⊢;simp only [↓LQ,↓XX,XY,↓reduceIte,Nat.reduceBEq,Nat.reduceAdd,Int.reduceEq,Int.reduceLT,Int.reduceLE,↓Ag hof,↓BB,↓BM,↓G8,↓AF ha,↓Ag hu,h,Tm.z,Ah];first | exact Al _ _ | exact Au rfl (by simp) _
   ·rw [if_neg h];refine C2 (u:=.z) ?_ h;obtain ⟨o1,n1,k1⟩:=a;obtain ⟨o2,n2,k2⟩:=b;obtain ⟨o3,n3,k3⟩:=c;simp only [Ah,tI,AzK,AzJ] at ha ⊢;simp only [↓LQ,↓XX,XY,↓reduceIte,Nat.reduceBEq,Nat.reduceAdd,Int.reduceEq,Int.reduceLT,Int.reduceLE,↓Ag hof,↓BB,↓BM,↓G8,↓AF ha,h,Tm.z,Ah];first | exact Al _ _ | exact Au rfl (by simp) _
  have o7:op≠20:=fun h=>o4 (.inl h);have o8:op≠29:=fun h=>o4 (.inr h);have hpart:Hk (SS dt n 76 [.fv (.sl (g.map Tm.enc)),.fv (Tm.mk op m l).enc] ⟨[],[]⟩) ((Tm.mk op m l).inf g):=by
   obtain ⟨n,rfl⟩:∃k,n=k+1+1:=⟨n - 2,by omega⟩;by_cases p1:op=23\/op=24
   ·have hk2:AY op=1:=by rcases p1 with rfl | rfl<;>rfl
    obtain ⟨a,rfl⟩:=AuV (hk.trans hk2);simp only [Tm.wtL] at hw hl hn;refine AmN p1 (SM (ih n (by omega) a g hsl.1 (by omega) hg (by omega) (by omega)) fun h h2=>?_);exact Gx (.inr rfl) (hti _ a g (Nat.lt_succ_self _) (by omega) hg hsl.1 h).1 h2
   by_cases p2:op=21
   ·subst p2;obtain ⟨a,b,rfl⟩:=NS hk;simp only [Tm.wtL] at hw hl hn;have hta:=hti _ a g (Nat.lt_succ_self _) (by omega) hg hsl.1;refine AmD (SM (ih n (by omega) a g hsl.1 (by omega) hg (by omega) (by omega)) fun h h2=>Gx (.inl rfl) (hta h).1 h2) fun h h2=>?_;obtain ⟨x,y,hxy⟩:=Gx (.inl rfl) (hta h).1 h2;exact hck b _ g n (by omega) hsl.2.1 (by omega) hg (by omega) (by omega) (by have:=Ad1 hxy;have:=(hta h).2;omega)
   by_cases p3:op=22
   ·subst p3;obtain ⟨a,b,rfl⟩:=NS hk;simp only [Tm.wtL] at hw hl hn;have hta:=hti _ a g (Nat.lt_succ_self _) (by omega) hg hsl.1;have htb:=hti _ b g (Nat.lt_succ_self _) (by omega) hg hsl.2.1;exact Amt (by omega) (ih (n+1) (by omega) a g hsl.1 (by omega) hg (by omega) (by omega)) (fun _=>ih (n+1) (by omega) b g hsl.2.1 (by omega) hg (by omega) (by omega)) (fun h h2=>by have:=(hta h).2;have:=(htb h2).2;omega)
   rw [PC ⟨o1,o2,fun h=>p1 (.inl h),fun h=>p1 (.inr h),o3,o7,o8,o5,p3,p2,o6⟩];exact Je (AnE p3 p2 (fun h=>p1 (.inl h)) (fun h=>p1 (.inr h)))
  obtain ⟨u,hu,hue⟩:=hpart;refine ⟨u,?_,hue⟩;generalize (Tm.mk op m l).inf g=q at hu ⊢;obtain ⟨e,r⟩:=q;obtain ⟨p1,p2,p3⟩:=u;simp only [Ah] at hu ⊢;simp only [↓LQ,↓XX,XY,↓reduceIte,Nat.reduceBEq,Nat.reduceAdd,Int.reduceEq,Int.reduceLT,Int.reduceLE,o1,o2,o3,o5,o6,o7,o8,↓Aks,↓Ag hu];first | exact Al _ _ | exact Au rfl (by simp) _
abbrev AwJ (op m:Int) (ks done:List Tm) (r:Nat):Hp :=
 ⟨[(56623104,.row [iv op,iv m,.fv (.sl (ks.map Tm.enc))] false),(56623105,.row [iv 0,iv 0,.nils] false),(56624131,.row (Ca done r) false)],[]⟩
theorem Asq:∀(n:Nat) (t:Tm),t.wt+1<n->t.shp->WM (SS dt n 54 [.fv t.enc] ⟨[],[]⟩) t.enc:=by
 intro n
 induction n with
 | zero=>intro t h;omega
 | succ n ih =>
  intro t hn hs;obtain ⟨op,m,ks⟩:=t;simp only [Tm.wt] at hn;rw [Tm.shp] at hs;obtain ⟨hk,_,hsl⟩:=hs;have hk4:=Gy op;rw [c54];have hlen:=DB ks;rw [Ah];simp only [Rl,Qi,RC,Qh,Sw,Sg,S54,↓XX,XY,↓reduceIte,Nat.reduceBEq,Nat.reduceAdd,Int.reduceEq,Int.reduceLT,Int.reduceLE,↓AwM (show ks.length<=1000 by omega),↓AL,XD,heldB,AT,XE,Alj,Agy]
  refine Bc (Q:=fun r=>WM r _) (fun k V H=>∃(pre rest:List Tm),ks=pre++rest/\rest.length=k/\Tm.shpL rest /\
    V=[.ptr (.own 56623104) 0,.ptr (.own 56623105) 0,.slc (.own 56624131) 3 ks.length,.fv (.sl (ks.map Tm.enc)),iv ks.length,iv pre.length]/\H=AwJ op m ks pre rest.length)
   ?_ n ks.length _ _ (by omega) ⟨[],ks,rfl,rfl,hsl,rfl,rfl⟩
  rintro k V H rec ⟨pre,rest,hks,hl,hsr,rfl,rfl⟩ hrec;have hkl:ks.length=pre.length+rest.length:=by rw [hks];simp
  cases rest with
  | nil =>
   have hno:¬ ((pre.length:Int)<ks.length):=by rw [hkl];simp
   have hpk:ks=pre:=by rw [hks,List.append_nil]
   subst hpk;simp only [Rl,Qi,RC,Qh,Sw,X6,Sg,S54,↓XX,XY,↓reduceIte,Nat.reduceBEq,Nat.reduceAdd,Int.reduceEq,Int.reduceLT,Int.reduceLE,hno];exact ⟨_,_,rfl,_,_,fun e0 K=>ApA (by rfl) (by omega) [] e0 K⟩
  | cons x rest =>
   have hi:(pre.length:Int)<ks.length:=by rw [hkl];simp;omega
   have hg2:=Cw hks;have hxw:=CL (t:=x) (l:=ks) (by rw [hks];simp);have hs:=ih x (by omega) hsr.1;have hwi:BD ((pre.length:Int)+1)=((pre++[x]).length:Int):=(Az (by omega) (by omega)).trans (by simp);have hin:pre.length<ks.length:=by omega
   have hst:=fun {β:Type}=>AtL (β:=β) pre rest.length x.op x.n x.kids;obtain ⟨o,p,l⟩:=x;simp only [Tm.op,Tm.n,Tm.kids] at hst;rw [Ah] at hs;simp only [AzI] at hl;simp only [Rl,Qi,RC,Qh,Sw,X6,Sg,S54,↓XX,XY,↓reduceIte,Nat.reduceBEq,Nat.reduceAdd,Int.reduceEq,Int.reduceLT,Int.reduceLE,hi,↓Bs (AN hg2) (Bb _ _ _),↓Cg,hwi,↓Av (AoY hs),↓Qd hin,↓hst,↓AL,XD,heldB,AT,XE,Alj,Agy];exact hrec rest.length _ _ (by omega) ⟨pre++[.mk o p l],rest,by rw [hks];simp,rfl,hsr.2,rfl,rfl⟩
theorem AlQ (ih:Aa) (xs:List IV) (h0:Hp) (k:IV->Hp->List Ref->List Ref->Option (IV×Hp)):Pa EE ih (.fv (.func (.func 51) [] [])) xs h0 k=Ai [] false false ih 51 xs h0 k :=
 Ake (by kernel_rfl) (by kernel_rfl) (by kernel_rfl) (by kernel_rfl) ..
theorem AjC {n:Nat} (t:Tm) (hn:t.wt+1<n) (ht:t.typed=true):AS (SS dt n 51 [.fv t.enc] ⟨[],[]⟩) (.bool false):=by
 obtain ⟨n,rfl⟩:∃k,n=k+1:=⟨n - 1,by omega⟩;rw [c51];have h:=Om n t (by omega);rw [ht] at h;obtain ⟨o,p,l⟩:=t;rw [Ah] at h ⊢;simp only [S51,↓XX,XY,↓reduceIte,Nat.reduceBEq,Nat.reduceAdd,Int.reduceEq,Int.reduceLT,Int.reduceLE,↓Av h];exact Al _ _
theorem Aj7 {n:Nat} (M:Nat) (g:List Tm) (hg:∀x∈g,x.typed=true/\x.wt<=M) (hl:g.length<=900000) (hn:g.length+M+2<n):AS (SS dt n 72 [.fv (.sl (g.map Tm.enc)),.fv (.func (.func 51) [] [])] ⟨[],[]⟩) (.int .i64 (-1)):=by
 obtain ⟨n,rfl⟩:∃k,n=k+1:=⟨n - 1,by omega⟩;rw [c72];simp only [Qz,R0,S72,↓XX,XY,↓reduceIte,Nat.reduceBEq,Nat.reduceAdd,Int.reduceEq,Int.reduceLT,Int.reduceLE];refine Bc (Q:=fun r=>AS r _) (fun k V H=>∃(pre rest:List Tm),g=pre++rest/\rest.length=k /\
   V=[.fv (.sl (g.map Tm.enc)),.fv (.func (.func 51) [] []),iv g.length,iv pre.length]/\H=⟨[],[]⟩)
  ?_ n g.length _ _ (by omega) ⟨[],g,rfl,rfl,rfl,rfl⟩
 rintro k V H rec ⟨pre,rest,hks,hl,rfl,rfl⟩ hrec;have hkl:g.length=pre.length+rest.length:=by rw [hks];simp
 cases rest with
 | nil =>
  have hno:¬ ((pre.length:Int)<g.length):=by rw [hkl];simp
  simp only [Qz,R0,W3,S72,↓XX,XY,↓reduceIte,Nat.reduceBEq,Nat.reduceAdd,Int.reduceEq,Int.reduceLT,Int.reduceLE,hno];exact Al _ _
 | cons x rest =>
  have hi:(pre.length:Int)<g.length:=by rw [hkl];simp;omega
  have hg2:=Cw hks;have hx:=hg x (by rw [hks];simp);have hs:=AjC (n:=n) x (by omega) hx.1;have hwi:BD ((pre.length:Int)+1)=((pre++[x]).length:Int):=(Az (by omega) (by omega)).trans (by simp);obtain ⟨o,p,l⟩:=x;rw [Ah] at hs;simp only [AzI] at hl;simp only [Qz,R0,W3,S72,↓XX,XY,↓reduceIte,Nat.reduceBEq,Nat.reduceAdd,Int.reduceEq,Int.reduceLT,Int.reduceLE,hi,↓Bs (AN hg2) (Bb _ _ _),↓Cg,↓AlQ,↓Av hs,hwi];exact hrec rest.length _ _ (by omega) ⟨pre++[.mk o p l],rest,by rw [hks];simp,rfl,rfl,rfl⟩
theorem Ue {n:Nat} (M:Nat) (g:List Tm) (hg:∀x∈g,x.typed=true/\x.wt<=M) (hl:g.length<=900000) (hn:g.length+M+3<n):AS (SS dt n 50 [.fv (.sl (g.map Tm.enc)),.fv (.func (.func 51) [] [])] ⟨[],[]⟩) (.bool false):=by
 obtain ⟨n,rfl⟩:∃k,n=k+1:=⟨n - 1,by omega⟩;rw [c50];have h:=Aj7 (n:=n) M g hg hl (by omega);simp only [S50,↓XX,XY,↓reduceIte,Nat.reduceBEq,Nat.reduceAdd,Int.reduceEq,Int.reduceLT,Int.reduceLE,↓Ag h];exact Al _ _
def Tm.infer (t:Tm) (g:List Tm):Tm×Int:=if (t.chk 0 1).2=0 then (if (t.inf g).1=0 then ((t.inf g).2,0) else (.z,(t.inf g).1)) else (.z,1)
theorem PG (M:Nat) (hM:3000<=M) (hM2:M<=1000000) (n:Nat) (t:Tm) (g:List Tm) (h2:t.wt<=M) (h3:∀x∈g,x.typed=true/\x.wt<=M) (h4:g.length+t.wt<=900000) (h5:4 * t.wt+6 * M+g.length+61<n) :
  AS (SS dt n 17 [.fv (.sl (g.map Tm.enc)),.fv t.enc] ⟨[],[]⟩) (.tuple [(t.infer g).1.enc,.int .i64 (t.infer g).2]):=by
 obtain ⟨n,rfl⟩:∃k,n=k+1:=⟨n - 1,by omega⟩;rw [c17];have hc:=Pm (n:=n) t (by omega);have hcf:=Ue (n:=n) M g h3 (by omega) (by omega);unfold Tm.infer;by_cases h0:(t.chk 0 1).2=0
 ·rw [if_pos h0];rw [h0] at hc;have hs:=If t 0 1 h0;obtain ⟨u,hu,he⟩:=Arp M hM hM2 n t g hs h2 h3 h4 (by omega);have hty:=GB M hM _ t g (Nat.lt_succ_self _) h2 h3 hs;generalize t.inf g=q at hu he hty ⊢;obtain ⟨e,r⟩:=q;simp only at hu he hty ⊢;by_cases h1:e=0
  ·have:=he h1
   subst this h1;rw [if_pos rfl];have hy:=hty rfl;have ho:=Asq n u (by omega) (Lb u hy.1);obtain ⟨o1,n1,k1⟩:=t;obtain ⟨o2,n2,k2⟩:=u;simp only [Ah] at hc hu ho ⊢;simp only [QC,RJ,Q9,Sf,QD,RI,S17,↓XX,XY,↓reduceIte,Nat.reduceBEq,Nat.reduceAdd,Int.reduceEq,Int.reduceLT,Int.reduceLE,↓Av hc,↓Ag hcf,↓Ag hu,↓Av (AoY ho)];first | exact Al _ _ | exact Au rfl (by simp) _
  ·rw [if_neg h1];obtain ⟨o1,n1,k1⟩:=t;obtain ⟨o2,n2,k2⟩:=u;simp only [Ah,Tm.z] at hc hu ⊢;simp only [QC,RJ,Q9,Sf,QD,RI,S17,↓XX,XY,↓reduceIte,Nat.reduceBEq,Nat.reduceAdd,Int.reduceEq,Int.reduceLT,Int.reduceLE,↓Av hc,↓Ag hcf,↓Ag hu,h1];first | exact Al _ _ | exact Au rfl (by simp) _
 ·rw [if_neg h0];generalize (t.chk 0 1).2=e at hc h0;obtain ⟨o1,n1,k1⟩:=t;simp only [Ah,Tm.z] at hc ⊢;simp only [QC,RJ,Q9,Sf,QD,RI,S17,↓XX,XY,↓reduceIte,Nat.reduceBEq,Nat.reduceAdd,Int.reduceEq,Int.reduceLT,Int.reduceLE,↓Av hc,h0];first | exact Al _ _ | exact Au rfl (by simp) _
theorem AhA (n:Nat):Qj (SS dt (n+60) 11 [] ⟨[],[]⟩)=true:=by kernel_rfl
theorem Us {n:Nat} (h:60<=n):AS (SS dt n 11 [] ⟨[],[]⟩) (.bool true):=by
 obtain ⟨k,rfl⟩:∃k,n=k+60:=⟨n - 60,by omega⟩;exact AkY (AhA k)
theorem E7 {n:Nat} (hn:0<n) (x:Int) {m:Int} (h1:0<m) (h2:m<=4611686018427387904):AS (SS dt n 45 [iv x,iv m] ⟨[],[]⟩) (.int .i64 (x % m)):=by
 obtain ⟨n,rfl⟩:=Nat.exists_eq_add_of_lt hn;rw [Nat.zero_add,c45];simp only [S45,↓XX,XY,↓reduceIte,Nat.reduceBEq,Nat.reduceAdd,Int.reduceEq,Int.reduceLT,Int.reduceLE,↓Lx (show m≠0 by omega)]
 rw [<- WO h1 h2];by_cases hc:x.tmod m<0<;>simp only [hc,if_true,if_false]<;>exact Al _ _
def Tm.kidT (r:Tm) (i:Nat):Tm:=match r.kids[i]? with
 | some k=>k
 | none=>.mk 0 (BD (r.n+i)) []
theorem Aoq {n:Nat} (hn:0<n) (r:Tm) (i:Nat):AS (SS dt n 47 [.fv r.enc,iv i] ⟨[],[]⟩) (r.kidT i).enc:=by
 obtain ⟨n,rfl⟩:=Nat.exists_eq_add_of_lt hn;rw [Nat.zero_add,c47];obtain ⟨op,m,ks⟩:=r;rw [Ah];simp only [Tm.kidT,Tm.kids,Tm.n];cases hk:ks[i]? with
 | some k =>
  have hi:(i:Int)<ks.length:=by have:=(List.getElem?_eq_some_iff.1 hk).1;omega
  obtain ⟨o,p,l⟩:=k;simp only [WE,WV,W8,S47,↓XX,XY,↓reduceIte,Nat.reduceBEq,Nat.reduceAdd,Int.reduceEq,Int.reduceLT,Int.reduceLE,hi,↓Bs (AN hk) (Bb _ _ _),↓Cg,Ah]
  first | exact Al _ _ | exact A3 rfl _
 | none =>
  have hi:¬ (i:Int)<ks.length:=by have:=List.getElem?_eq_none_iff.1 hk;omega
  simp only [WE,WV,W8,S47,↓XX,XY,↓reduceIte,Nat.reduceBEq,Nat.reduceAdd,Int.reduceEq,Int.reduceLT,Int.reduceLE,hi,Ah,AzJ]
  first | exact Al _ _ | exact A3 rfl _
theorem Ari {P:Nat->Nat->Prop}:∀m,(∀i,i<m->∃N,∀n,N<=n->P i n)->∃N,∀i,i<m->∀n,N<=n->P i n:=by
 intro m
 induction m with
 | zero=>intro _;exact ⟨0,fun i hi=>by omega⟩
 | succ m ih =>
  intro h;obtain ⟨N1,h1⟩:=ih fun i hi=>h i (by omega);obtain ⟨N2,h2⟩:=h m (by omega);refine ⟨N1+N2,fun i hi n hn=>?_⟩;by_cases him:i=m
  ·subst him;exact h2 n (by omega)
  ·exact h1 i (by omega) n (by omega)
def mkW:Nat->Nat
 | 0=>1
 | d+1=>1+4 * mkW d
def Au0 (d:Nat):Prop:=∀(r:Tm) (vars:Int),0<=vars->vars<=1000 - 3 * d->∃t,Ev 16 [.fv r.enc,iv d,iv vars] (Tm.enc t)/\t.wt<=mkW d/\t.okn=true/\t.dp<=d+1
abbrev HMk (r:Tm) (op m:Int) (K:IV) (tok:List (Nat×Blk)):Hp :=
 ⟨(16777216,.row [iv r.op,iv r.n,.fv (.sl (r.kids.map Tm.enc))] false)::(16777217,.row [iv 0,iv 0,.nils] false)::(16781314,.row [iv op,iv m,K] false)::tok,[]⟩
theorem Ag4 {n:Nat} (r:Tm) (d:Int) (vars op m:Int) (K:Nat) (hK:AY op=K) (T:Nat->Tm) (hv:0<=vars/\vars<=2000) (hd:0<K->0<d/\d<=1000) (hn:10<n) (hT:∀i,i<K->AS (SS dt n 16 [.fv (r.kidT i).enc,iv (d - 1),iv (vars+Am op i)] ⟨[],[]⟩) (T i).enc) :
  AS (BY n (fun q l h=>IP l (SS dt n) h ⟨[],[]⟩ q) [iv d,iv vars,.ptr (.own 16777216) 0,.ptr (.own 16777217) 0,iv op,.ptr (.own 16781314) 0,iv 0] (HMk r op m .nils [])) (Tm.mk op m ((List.range K).map T)).enc:=by
 have hK4:=Gy op;rw [hK] at hK4;refine Bc (Q:=fun r=>AS r _) (fun k V H=>∃i:Nat,i+k=K/\V=[iv d,iv vars,.ptr (.own 16777216) 0,.ptr (.own 16777217) 0,iv op,.ptr (.own 16781314) 0,iv i] /\
   (i=0/\H=HMk r op m .nils []\/0<i/\H=HMk r op m (.app (.own 16794638) (((List.range i).map T).map Tm.enc)) [(16794638,.tok i 3)]))
  ?_ n K _ _ (by omega) ⟨0,by omega,rfl,.inl ⟨rfl,rfl⟩⟩
 rintro k V H rec ⟨i,hik,rfl,hH⟩ hrec;have ha:=Nx (n:=n) (by omega) op;rw [hK] at ha;obtain ⟨ro,rn,rk⟩:=r;cases k with
 | zero =>
  have hiK:i=K:=by omega
  subst hiK;have hno:¬ ((i:Int)<i):=by omega
  rw [Ah];rcases hH with ⟨rfl,rfl⟩ | ⟨h0,rfl⟩
  ·simp only [HMk,Tm.op,Tm.n,Tm.kids,List.range_zero,AzJ];simp (maxSteps:=1000000) only [HZ,Ih,IF,II,HM,H6,HQ,IP,HY,H0,H8,Iw,HP,ID,Iz,GO,EN,EM,ET,S16,↓XX,XY,↓reduceIte,Nat.reduceBEq,Nat.reduceAdd,Int.reduceEq,Int.reduceLT,Int.reduceLE,↓Av ha,Int.lt_irrefl]
   first | exact Al _ _ | exact A3 rfl _
  ·simp only [HMk,Tm.op,Tm.n,Tm.kids];simp (maxSteps:=1000000) only [HZ,Ih,IF,II,HM,H6,HQ,IP,HY,H0,H8,Iw,HP,ID,Iz,GO,EN,EM,ET,S16,↓XX,XY,↓reduceIte,Nat.reduceBEq,Nat.reduceAdd,Int.reduceEq,Int.reduceLT,Int.reduceLE,↓Av ha,hno]
   first | exact Al _ _ | exact A3 rfl _
 | succ k =>
  have hiK:i<K:=by omega
  have hlt:(i:Int)<K:=by omega
  have hk1:=Aoq (n:=n) (by omega) (.mk ro rn rk) i;have hb:=DR (n:=n) (by omega) op i;have hbl:=Bm op i;have hTi:=hT i hiK;have wd:BD (d - 1)=d - 1:=by rw [Az]<;>(have:=hd (by omega);omega)
  have wv:BD (vars+Am op i)=vars+Am op i:=by rw [Az]<;>omega
  have wi:BD ((i:Int)+1)=((i+1:Nat):Int):=(Az (by omega) (by omega)).trans (by omega);have h9:=hrec k [iv d,iv vars,.ptr (.own 16777216) 0,.ptr (.own 16777217) 0,iv op,.ptr (.own 16781314) 0,iv (i+1:Nat)] _ (by omega) ⟨i+1,by omega,rfl,.inr ⟨by omega,rfl⟩⟩;have hlist:(List.range (i+1)).map T=(List.range i).map T++[T i]:=by rw [List.range_succ,List.map_append];rfl
  rw [hlist] at h9;rw [<- wd,<- wv] at hTi;clear hT hrec hlist;generalize T i=ti at hTi h9;generalize (Tm.mk ro rn rk).kidT i=ki at hk1 hTi;rcases hH with ⟨rfl,rfl⟩ | ⟨h0,rfl⟩
  ·have h0':=fun {β:Type}=>F5 (β:=β) sTm (.clip [ti.enc]) (CO [ti]) rfl (by simp) (s0:=.nils) (.inl rfl);obtain ⟨oi,pi,li⟩:=ti;obtain ⟨o,p,lx⟩:=ki;have hlt0:(0:Int)<K:=by omega
   have w01:BD (0+1)=1:=by rw [Az]<;>omega
   simp only [HMk,Tm.op,Tm.n,Tm.kids,List.range_zero,AzJ,List.nil_append,AzK,AzI,List.length_nil,Nat.zero_add,Int.natCast_zero,Int.natCast_one,Ah] at h9 h0' hTi hk1 hb ⊢;simp (maxSteps:=1000000) only [HZ,Ih,IF,II,HM,H6,HQ,IP,HY,H0,H8,Iw,HP,ID,Iz,GO,EN,EM,ET,S16,↓XX,XY,↓reduceIte,Nat.reduceBEq,Nat.reduceAdd,Int.reduceEq,Int.reduceLT,Int.reduceLE,↓Av ha,hlt0,↓Ag hk1,↓Ag hb,↓AF hTi,↓Di,↓h0',w01,↓AL,XD,heldB,AT,XE];exact h9
  ·have h1':=fun {β:Type}=>Nn (β:=β) sTm (es:=((List.range i).map T).map Tm.enc) (es2:=[ti.enc]) (.clip _) (CO [ti]) (CO _) (by simp [Abc]) (by simp;omega);obtain ⟨oi,pi,li⟩:=ti;obtain ⟨o,p,lx⟩:=ki;simp only [HMk,Tm.op,Tm.n,Tm.kids,List.length_nil,List.length_map,List.length_range,AzJ,List.map_append,AzK,AzI,Ah,Nat.zero_add] at h9 h1' hTi hk1 hb ⊢;simp (maxSteps:=1000000) only [HZ,Ih,IF,II,HM,H6,HQ,IP,HY,H0,H8,Iw,HP,ID,Iz,GO,EN,EM,ET,S16,↓XX,XY,↓reduceIte,Nat.reduceBEq,Nat.reduceAdd,Int.reduceEq,Int.reduceLT,Int.reduceLE,↓Av ha,hlt,↓Ag hk1,↓Ag hb,↓AF hTi,↓Di,↓h1',FR,wi,↓AL,XD,heldB,AT,XE];exact h9
def HA (r:Tm) (op vars:Int):Int:=if op=1 then r.n % (BD (vars+1)) else if op=2 then r.n % 3 else if op=26 then r.n % 5 else if op=25 then r.n else 0
theorem Aht {n:Nat} (r:Tm) (d:Nat) (vars op:Int) (hop:1<=op/\op<=30) (hv:0<=vars/\vars<=1000) (hd:0<AY op->0<d) (hd2:d<=1000) (hn:10<n) (T:Nat->Tm)
  (hT:∀i:Nat,(i:Int)<AY op->AS (SS dt n 16 [.fv (r.kidT i).enc,iv ((d:Int) - 1),iv (vars+Am op i)] ⟨[],[]⟩) (T i).enc) :
  AS (GO (iv op) ⟨[(16777216,.row [iv r.op,iv r.n,.fv (.sl (r.kids.map Tm.enc))] false),(16777217,.row [iv 0,iv 0,.nils] false)],[]⟩ ⟨[],[]⟩ (iv d) (iv vars) (.ptr (.own 16777216) 0) (.ptr (.own 16777217) 0) n (SS dt n)) (Tm.mk op (HA r op vars) ((List.range (AY op).toNat).map T)).enc:=by
 have hK0:0<=AY op:=V5 (P:=fun op=>1<=op->0<=AY op) (by
  intro k hk
  have:∀k:Fin 31,1<=(k.val:Int)->0<=AY (k.val:Int):=by decide
  exact this ⟨k,hk⟩) ⟨by omega,hop.2⟩ hop.1
 have key:=fun m=>Ag4 (n:=n) r d vars op m (AY op).toNat (by omega) T ⟨hv.1,by omega⟩ (fun h=>by have:=hd (by omega);omega) hn (fun i hi=>hT i (by omega));have wv:BD (vars+1)=vars+1:=by rw [Az]<;>omega
 have q1:=E7 (n:=n) (by omega) r.n (m:=vars+1) (by omega) (by omega);have q2:=E7 (n:=n) (by omega) r.n (m:=3) (by omega) (by omega);have q3:=E7 (n:=n) (by omega) r.n (m:=5) (by omega) (by omega);rw [<- wv] at q1;clear hT;obtain ⟨ro,rn,rk⟩:=r;simp only [Tm.n] at q1 q2 q3;simp only [HMk,Tm.op,Tm.n,Tm.kids] at key ⊢;by_cases c1:op=1
 ·have hm:HA (.mk ro rn rk) op vars=rn % (BD (vars+1)):=by rw [HA,if_pos c1];rfl
  rw [hm];clear hm;have k:=key (rn % (BD (vars+1)));generalize rn % (BD (vars+1))=mm at k q1 ⊢;subst c1;simp (maxSteps:=1000000) only [↓AkK,↓XX,XY,↓reduceIte,Nat.reduceBEq,Nat.reduceAdd,Int.reduceEq,Int.reduceLT,Int.reduceLE,↓Ag q1,↓AL,XD,heldB,AT,XE];exact k
 by_cases c2:op=2
 ·have hm:HA (.mk ro rn rk) op vars=rn % 3:=by rw [HA,if_neg c1,if_pos c2];rfl
  rw [hm];clear hm;have k:=key (rn % 3);generalize rn % 3=mm at k q2 ⊢;subst c2;simp (maxSteps:=1000000) only [↓AkK,↓XX,XY,↓reduceIte,Nat.reduceBEq,Nat.reduceAdd,Int.reduceEq,Int.reduceLT,Int.reduceLE,↓Ag q2,↓AL,XD,heldB,AT,XE];exact k
 by_cases c26:op=26
 ·have hm:HA (.mk ro rn rk) op vars=rn % 5:=by rw [HA,if_neg c1,if_neg c2,if_pos c26];rfl
  rw [hm];clear hm;have k:=key (rn % 5);generalize rn % 5=mm at k q3 ⊢;subst c26;simp (maxSteps:=1000000) only [↓AkK,↓XX,XY,↓reduceIte,Nat.reduceBEq,Nat.reduceAdd,Int.reduceEq,Int.reduceLT,Int.reduceLE,↓Ag q3,↓AL,XD,heldB,AT,XE];exact k
 by_cases c25:op=25
 ·have hm:HA (.mk ro rn rk) op vars=rn:=by rw [HA,if_neg c1,if_neg c2,if_neg c26,if_pos c25];rfl
  rw [hm];clear hm;have k:=key rn;subst c25;simp (maxSteps:=1000000) only [↓AkK,↓XX,XY,↓reduceIte,Nat.reduceBEq,Nat.reduceAdd,Int.reduceEq,Int.reduceLT,Int.reduceLE,↓AL,XD,heldB,AT,XE];exact k
 ·have hm:HA (.mk ro rn rk) op vars=0:=by rw [HA,if_neg c1,if_neg c2,if_neg c26,if_neg c25]
  rw [hm];clear hm;have k:=key 0;simp (maxSteps:=1000000) only [↓AkK,↓XX,XY,↓reduceIte,Nat.reduceBEq,Nat.reduceAdd,Int.reduceEq,Int.reduceLT,Int.reduceLE,c1,c2,c25,c26,↓AL,XD,heldB,AT,XE];exact k
theorem Avh (a b c d e:Int) (s:Nat) (h:Hp) (k:IV->Hp->List Ref->List Ref->Option (IV×Hp)):AE (An EE 51 5 [(0,iv a),(1,iv b),(2,iv c),(3,iv d),(4,iv e)]) s h k=k (.clip [.int .i64 a,.int .i64 b,.int .i64 c,.int .i64 d,.int .i64 e]) h [] [] :=
 Dr (by kernel_rfl:EE.T 51=some ⟨1,24,.slice 3,[.nils]⟩) (by kernel_rfl:EE.T 3=some ⟨1,8,.int .i64,[.fv (.int .i64 0)]⟩) (by decide) (cells:=[.int .i64 a,.int .i64 b,.int .i64 c,.int .i64 d,.int .i64 e]) rfl k
theorem ix5 {β:Type} (j:Nat) (a b c d e x:Int) (h:[a,b,c,d,e][j]?=some x) (k:IV->Option β):AP 1 (.clip [.int .i64 a,.int .i64 b,.int .i64 c,.int .i64 d,.int .i64 e]) (iv j) k=k (.fv (.fp [.int .i64 x] 0)):=by
 have:AP 1 (.clip [.int .i64 a,.int .i64 b,.int .i64 c,.int .i64 d,.int .i64 e]) (iv j) k=AP 1 (.fv (.sl ([a,b,c,d,e].map fun x=>FV.int .i64 x))) (iv j) k:=rfl
 rw [this];exact Bs (el:=.int .i64 x) (by rw [List.getElem?_map,h];rfl) rfl k
theorem PV {n:Nat} (r:Tm) (d:Nat) (vars op:Int) (hv:0<=vars/\vars<=1000) (hd2:d<=1000) (hn:100<n) (hop:∃j x,r.op % 5=((j:Nat):Int)/\[(1:Int),11,25,15,10][j]?=some x/\op=if d=0/\0<AY (1+r.op % 30) then x else 1+r.op % 30)
  (h1:1<=op/\op<=30) (hd:0<AY op->0<d) (T:Nat->Tm) (hT:∀i:Nat,(i:Int)<AY op->AS (SS dt n 16 [.fv (r.kidT i).enc,iv ((d:Int) - 1),iv (vars+Am op i)] ⟨[],[]⟩) (T i).enc) :
  AS (SS dt (n+1) 16 [.fv r.enc,iv d,iv vars] ⟨[],[]⟩) (Tm.mk op (HA r op vars) ((List.range (AY op).toNat).map T)).enc:=by
 obtain ⟨j,x,hj,hx,hop⟩:=hop;have hk1:=Int.emod_nonneg r.op (show (30:Int)≠0 by decide)
 have hk2:=Int.emod_lt_of_pos r.op (show (0:Int)<30 by decide)
 have ht:=Aht (n:=n) r d vars op h1 hv hd hd2 (by omega) T hT;have q1:=E7 (n:=n) (by omega) r.op (m:=30) (by omega) (by omega);have q2:=E7 (n:=n) (by omega) r.op (m:=5) (by omega) (by omega);rw [hj] at q2;have w1:BD (1+r.op % 30)=1+r.op % 30:=by rw [Az]<;>omega
 have ha:=Nx (n:=n) (by omega) (1+r.op % 30);rw [c16];rw [<- w1] at ha;have hi5:=fun {β:Type}=>ix5 (β:=β) j 1 11 25 15 10 x hx;rw [<- w1] at hop;clear hT h1 hd w1;by_cases hp:d=0/\0<AY (BD (1+r.op % 30))
 ·rw [if_pos hp] at hop;subst hop;obtain ⟨rfl,hp⟩:=hp;generalize r.op % 30=r30 at q1 ha hp;obtain ⟨ro,rn,rk⟩:=r;have hle:((0:Nat):Int)<=0:=by omega
  simp only [Tm.op,Tm.n,Tm.kids,Ah] at ht q1 q2 ⊢;simp (maxSteps:=1000000) only [S16,ET,EM,EN,↓XX,XY,↓reduceIte,Nat.reduceBEq,Nat.reduceAdd,Int.reduceEq,Int.reduceLT,Int.reduceLE,↓Ag q1,↓Av ha,hp,↓Avh,↓Ag q2,↓hi5,Int.le_refl] at ht ⊢;exact ht
 ·rw [if_neg hp] at hop;subst hop;obtain ⟨ro,rn,rk⟩:=r;simp only [Tm.op,Tm.n,Tm.kids,Ah] at ht q1 q2 hp ha ⊢;by_cases hd0:d=0
  ·subst hd0;have hp2:¬ 0<AY (BD (1+ro % 30)):=fun h=>hp ⟨rfl,h⟩;simp (maxSteps:=1000000) only [S16,ET,EM,EN,↓XX,XY,↓reduceIte,Nat.reduceBEq,Nat.reduceAdd,Int.reduceEq,Int.reduceLT,Int.reduceLE,↓Ag q1,↓Av ha,hp2,Int.le_refl] at ht ⊢;exact ht
  ·have hle:¬ ((d:Int)<=0):=by omega
   simp (maxSteps:=1000000) only [S16,ET,EM,EN,↓XX,XY,↓reduceIte,Nat.reduceBEq,Nat.reduceAdd,Int.reduceEq,Int.reduceLT,Int.reduceLE,↓Ag q1,hle];exact ht
theorem AqO {K W:Nat} {T:Nat->Tm} (h:∀i,i<K->(T i).wt<=W):Tm.wtL ((List.range K).map T)<=K * W:=by
 induction K with
 | zero=>simp [Tm.wtL]
 | succ K ih =>
  have h1:=ih (fun i hi=>h i (by omega));have h2:=h K (by omega);have e:∀(l:List Tm) (x:Tm),Tm.wtL (l++[x])=Tm.wtL l+x.wt:=by
   intro l x
   induction l with
   | nil=>simp [Tm.wtL]
   | cons a l ih=>simp only [List.cons_append,Tm.wtL,ih];omega
  rw [List.range_succ,List.map_append,AzK,AzJ,e,Nat.add_mul];omega
theorem Aed {r:Tm} {op vars:Int} (h0:0<=vars) (h1:vars<=1000):Fc op (HA r op vars)=true:=by
 unfold Fc HA;by_cases a:op=1
 ·rw [if_pos a,if_pos a,Az (by omega) (by omega)]
  have:=Int.emod_nonneg r.n (show vars+1≠0 by omega)
  have:=Int.emod_lt_of_pos r.n (show 0<vars+1 by omega)
  simp only [Bool.and_eq_true,decide_eq_true_eq];omega
 rw [if_neg a,if_neg a];by_cases b:op=2
 ·rw [if_pos b,if_pos b];simp only [Bool.and_eq_true,decide_eq_true_eq];omega
 rw [if_neg b,if_neg b];by_cases c:op=26
 ·rw [if_pos c,if_pos c];simp only [Bool.and_eq_true,decide_eq_true_eq];omega
 rw [if_neg c,if_neg c];by_cases d:op=25
 ·rw [if_pos d]
 rw [if_neg d,if_neg d];simp
theorem YA:∀{l:List Tm},(∀t∈l,t.okn=true)->Tm.oknL l=true
 | [],_=>rfl
 | a::l,h=>by rw [Tm.oknL,h a (by simp),YA fun t ht=>h t (by simp [ht])];rfl
theorem Aiv {d:Nat}:∀{l:List Tm},(∀t∈l,t.dp<=d)->Tm.dpL l<=d
 | [],_=>by simp [Tm.dpL]
 | a::l,h=>by
  have h1:=h a (by simp);have h2:=Aiv (l:=l) fun t ht=>h t (by simp [ht]);rw [Tm.dpL];omega
theorem AjH {op m:Int} {T:Nat->Tm} (hK:0<=AY op) (hm:Fc op m=true) (h:∀i,i<(AY op).toNat->(T i).okn=true):(Tm.mk op m ((List.range (AY op).toNat).map T)).okn=true:=by
 rw [Tm.okn,hm,YA (fun t ht=>?_)]
 ·simp only [List.length_map,List.length_range,Bool.and_self,Bool.and_true,decide_eq_true_eq];omega
 ·obtain ⟨i,hi,rfl⟩:=List.mem_map.1 ht;exact h i (List.mem_range.1 hi)
theorem AuR {op m:Int} {T:Nat->Tm} {d K:Nat} (h:∀i,i<K->(T i).dp<=d):(Tm.mk op m ((List.range K).map T)).dp<=d+1:=by
 rw [Tm.dp]
 have:=Aiv (d:=d) (l:=(List.range K).map T) fun t ht=>by
  obtain ⟨i,hi,rfl⟩:=List.mem_map.1 ht;exact h i (List.mem_range.1 hi)
 omega
theorem AdA {op:Int} (h:1<=op/\op<=30):0<=AY op:=V5 (P:=fun op=>1<=op->0<=AY op) (by
  intro k hk
  have:∀k:Fin 31,1<=(k.val:Int)->0<=AY (k.val:Int):=by decide
  exact this ⟨k,hk⟩) ⟨by omega,h.2⟩ h.1
theorem Amc:∀d,d<=100->Au0 d:=by
 intro d
 induction d with
 | zero =>
  intro _ r vars h0 h1;have hk1:=Int.emod_nonneg r.op (show (30:Int)≠0 by decide)
  have hk2:=Int.emod_lt_of_pos r.op (show (0:Int)<30 by decide)
  have hj1:=Int.emod_nonneg r.op (show (5:Int)≠0 by decide)
  have hj2:=Int.emod_lt_of_pos r.op (show (0:Int)<5 by decide)
  obtain ⟨j,hj⟩:∃j:Nat,r.op % 5=j:=⟨(r.op % 5).toNat,by omega⟩;obtain ⟨x,hx,hx0⟩:∃x:Int,[(1:Int),11,25,15,10][j]?=some x/\(x=1\/x=11\/x=25\/x=15\/x=10):=by
   have:j=0\/j=1\/j=2\/j=3\/j=4:=by omega
   rcases this with rfl | rfl | rfl | rfl | rfl
   ·exact ⟨1,rfl,by simp⟩
   ·exact ⟨11,rfl,by simp⟩
   ·exact ⟨25,rfl,by simp⟩
   ·exact ⟨15,rfl,by simp⟩
   ·exact ⟨10,rfl,by simp⟩
  have hx1:AY x=0/\1<=x/\x<=30:=by rcases hx0 with rfl | rfl | rfl | rfl | rfl<;>decide
  obtain ⟨op,hop⟩:∃op:Int,op=if (0:Nat)=0/\0<AY (1+r.op % 30) then x else 1+r.op % 30:=⟨_,rfl⟩;have hop2:¬ 0<AY op/\1<=op/\op<=30:=by
   rw [hop];split
   ·omega
   ·rename_i h;exact ⟨fun h2=>h ⟨rfl,h2⟩,by omega,by omega⟩
  have hK:(AY op).toNat=0:=by omega
  refine ⟨.mk op (HA r op vars) ((List.range (AY op).toNat).map fun _=>Tm.z),⟨200,fun n hn=>?_⟩,?_⟩
  ·obtain ⟨n,rfl⟩:∃k,n=k+1:=⟨n - 1,by omega⟩;exact PV r 0 vars op ⟨h0,by omega⟩ (by omega) (by omega) ⟨j,x,hj,hx,hop⟩ hop2.2 (fun h=>absurd h hop2.1) _ (fun i hi=>absurd (show 0<AY op by omega) hop2.1)
  ·rw [hK];refine ⟨by simp [Tm.wt,Tm.wtL,mkW],?_,by simp [Tm.dp,Tm.dpL]⟩
   have:=AjH (op:=op) (m:=HA r op vars) (T:=fun _=>Tm.z) (AdA hop2.2) (Aed h0 (by omega)) (fun i hi=>by omega)
   rwa [hK] at this
 | succ d ih =>
  intro hd r vars h0 h1;have hk1:=Int.emod_nonneg r.op (show (30:Int)≠0 by decide)
  have hk2:=Int.emod_lt_of_pos r.op (show (0:Int)<30 by decide)
  have hj1:=Int.emod_nonneg r.op (show (5:Int)≠0 by decide)
  have hj2:=Int.emod_lt_of_pos r.op (show (0:Int)<5 by decide)
  obtain ⟨j,hj⟩:∃j:Nat,r.op % 5=j:=⟨(r.op % 5).toNat,by omega⟩;obtain ⟨x,hx⟩:∃x:Int,[(1:Int),11,25,15,10][j]?=some x:=⟨_,List.getElem?_eq_getElem (by simp;omega)⟩;obtain ⟨op,hop⟩:∃op:Int,op=1+r.op % 30:=⟨_,rfl⟩;have hop1:op=if d+1=0/\0<AY (1+r.op % 30) then x else 1+r.op % 30:=by rw [if_neg (by omega)];exact hop
  have hex:∀i:Nat,∃t:Tm,Ev 16 [.fv (r.kidT i).enc,iv d,iv (vars+Am op i)] (Tm.enc t)/\t.wt<=mkW d/\t.okn=true/\t.dp<=d+1:=fun i=>by
   have:=Bm op i
   exact ih (by omega) (r.kidT i) (vars+Am op i) (by omega) (by omega)
  obtain ⟨T,hT⟩:=Classical.axiomOfChoice hex;obtain ⟨N,hN⟩:=Ari (P:=fun i n=>AS (SS dt n 16 [.fv (r.kidT i).enc,iv d,iv (vars+Am op i)] ⟨[],[]⟩) (Tm.enc (T i))) (AY op).toNat (fun i _=>(hT i).1);refine ⟨.mk op (HA r op vars) ((List.range (AY op).toNat).map T),⟨N+200,fun n hn=>?_⟩,?_⟩
  ·obtain ⟨n,rfl⟩:∃k,n=k+1:=⟨n - 1,by omega⟩;exact PV r (d+1) vars op ⟨h0,by omega⟩ (by omega) (by omega) ⟨j,x,hj,hx,hop1⟩ ⟨by omega,by omega⟩ (fun _=>by omega) T (fun i hi=>by
    have:=hN i (by omega) n (by omega)
    rw [show ((d+1:Nat):Int) - 1=d by omega]
    exact this)
  ·have h4:=Gy op
   have:=AqO (K:=(AY op).toNat) (W:=mkW d) (T:=T) (fun i _=>(hT i).2.1)
   have h5:(AY op).toNat * mkW d<=4 * mkW d:=Nat.mul_le_mul_right _ (by omega);refine ⟨by simp only [Tm.wt,mkW];omega,AjH (AdA ⟨by omega,by omega⟩) (Aed h0 (by omega)) (fun i _=>(hT i).2.2.1),AuR fun i _=>(hT i).2.2.2⟩
theorem P5 {n:Nat} (g:List Tm) (a:Tm) (hg:g.length<=900000) (hn:0<n):AS (SS dt n 78 [.fv (.sl (g.map Tm.enc)),.fv a.enc] ⟨[],[]⟩) (.sl ((g++[a]).map Tm.enc)):=by
 obtain ⟨n,rfl⟩:∃k,n=k+1:=⟨n - 1,by omega⟩;rw [c78];rw [List.map_append,AzK,AzJ];cases g with
 | nil =>
  have h0:=fun {β:Type}=>Aca (β:=β) (E:=EE) sTm (.sl []) (s0:=.clip []) (.inr rfl);have happ:=fun {β:Type}=>F5 (β:=β) sTm (.clip [a.enc]) (CO [a]) rfl (by simp) (s0:=.clip []) (.inr rfl);obtain ⟨o,p,k⟩:=a;rw [Ah] at happ ⊢;simp only [WC,S78,↓XX,XY,↓reduceIte,Nat.reduceBEq,Nat.reduceAdd,Int.reduceEq,Int.reduceLT,Int.reduceLE,↓Aio,↓h0,↓Di,↓happ];exact A3 rfl _
 | cons t g =>
  have h0:=fun {β:Type}=>F5 (β:=β) sTm (.sl ((t::g).map Tm.enc)) (CO (t::g)) rfl (by simp at hg ⊢;omega) (s0:=.clip []) (.inr rfl);have happ:=fun (s r:Nat) (own:List (Nat×Blk)) (ext:List Blk) (k:IV->Hp->List Ref->List Ref->Option (IV×Hp))=>Ke (es:=t::g) (by omega) a r s own ext k;obtain ⟨o,p,k⟩:=a;simp only [AzK,List.map_append,AzJ,List.cons_append,List.length_map,AzI] at h0 happ ⊢;rw [Ah] at happ ⊢;simp only [WC,S78,↓XX,XY,↓reduceIte,Nat.reduceBEq,Nat.reduceAdd,Int.reduceEq,Int.reduceLT,Int.reduceLE,↓Aio,↓h0,↓Di,↓happ,FR];exact A3 rfl _
mutual
def Tm.rty:Tm->Bool
 | .mk op _ l=>(decide (op=15) || (decide (op=16) || decide (op=17))) && Tm.rtyL l
def Tm.rtyL:List Tm->Bool
 | []=>true
 | t::l=>t.rty && Tm.rtyL l
end
mutual
theorem K1:∀t:Tm,t.shp->t.rty=t.typed
 | .mk op m l,h=>by
  rw [Tm.shp] at h;obtain ⟨h1,h2,h3⟩:=h;have hl:=rtyL_typed l h3;rw [Tm.rty];by_cases h15:op=15
  ·subst h15
   have:=AiB h1
   subst this;simp [Tm.typed,Tm.rtyL]
  ·by_cases h16:op=16\/op=17
   ·have hk2:AY op=2:=by rcases h16 with rfl | rfl<;>rfl
    obtain ⟨a,b,rfl⟩:=NS (h1.trans hk2);have ha:=hl a (by simp);have hb:=hl b (by simp);simp only [Tm.rtyL,Tm.typed,ha,hb,Bool.and_true,h15,decide_false,Bool.false_or]
   ·have:(Tm.mk op m l).typed=false:=by
     match l with
     | []=>simp [Tm.typed,h15]
     | [_]=>exact KP ..
     | [_,_]=>simp [Tm.typed];omega
     | x::y::z::l=>exact Ls ..
    rw [this];simp only [Bool.and_eq_false_iff,Bool.or_eq_false_iff,decide_eq_false_iff_not];left;omega
theorem rtyL_typed:∀l:List Tm,Tm.shpL l->∀x∈l,x.rty=x.typed
 | [],_,x,hx=>by cases hx
 | t::l,h,x,hx=>by
  rcases List.mem_cons.1 hx with e | hx
  ·rw [e];exact K1 t h.1
  ·exact rtyL_typed l h.2 x hx
end
theorem Ui:∀(n:Nat) (t:Tm),t.wt<n->t.wt<=1000000000->AS (SS dt n 21 [.fv t.enc] ⟨[],[]⟩) (.bool t.rty):=by
 intro n
 induction n with
 | zero=>intro t h;omega
 | succ n ih =>
  intro t hn hw;obtain ⟨op,m,ks⟩:=t;simp only [Tm.wt] at hn hw;rw [c21,Ah,Tm.rty];have hlen:=DB ks;by_cases h:op=15\/op=16\/op=17
  ·have e:(decide (op=15) || (decide (op=16) || decide (op=17)))=true:=by
    simpa using h
   rw [e,Bool.true_and];have hl:AS (BY n (fun q l h=>KX l h (SS dt n) q) [.ptr (.own 22020096) 0,iv 0] ⟨[(22020096,.row [iv op,iv m,.fv (.sl (ks.map Tm.enc))] false)],[]⟩) (.bool (Tm.rtyL ks)):=by
    refine Bc (Q:=fun r=>AS r _) (fun k V H=>∃pre rest,ks=pre++rest/\rest.length=k/\V=[.ptr (.own 22020096) 0,iv pre.length]/\H=⟨[(22020096,.row [iv op,iv m,.fv (.sl (ks.map Tm.enc))] false)],[]⟩/\Tm.rtyL rest=Tm.rtyL ks)
     ?_ n ks.length _ _ (by omega) ⟨[],ks,rfl,rfl,rfl,rfl,rfl⟩
    rintro k V H rec ⟨pre,rest,hk,hkl,rfl,rfl,hr⟩ hrec;have hkk:ks.length=pre.length+rest.length:=by rw [hk];simp
    cases rest with
    | nil =>
     have hno:¬ ((pre.length:Int)<ks.length):=by rw [hkk];simp
     rw [<- hr];simp only [HG,HI,Hn,KX,Hs,Hi,S21,↓XX,XY,↓reduceIte,Nat.reduceBEq,Nat.reduceAdd,Int.reduceEq,Int.reduceLT,Int.reduceLE,hno,Tm.rtyL];exact Al _ _
    | cons t rest =>
     have hi:(pre.length:Int)<ks.length:=by rw [hkk];simp;omega
     have hg:=Cw hk;have htw:=CL (t:=t) (l:=ks) (by rw [hk];simp);have hc:=ih t (by omega) (by omega);have hwi:BD ((pre.length:Int)+1)=((pre++[t]).length:Int):=(Az (by omega) (by omega)).trans (by simp);have h9:=fun e=>hrec rest.length [.ptr (.own 22020096) 0,iv (pre++[t]).length] _ (by simp only [AzI] at hkl;omega) ⟨pre++[t],rest,by rw [hk];simp,rfl,rfl,rfl,e⟩;rw [Tm.rtyL] at hr;generalize t.rty=b at hc hr;cases b
     ·rw [Bool.false_and] at hr;rw [<- hr];obtain ⟨o,p,l⟩:=t;rw [Ah] at hc;simp only [HG,HI,Hn,KX,Hs,Hi,S21,↓XX,XY,↓reduceIte,Nat.reduceBEq,Nat.reduceAdd,Int.reduceEq,Int.reduceLT,Int.reduceLE,hi,↓Bs (AN hg) (Bb _ _ _),↓Cg,↓Av hc];exact Al _ _
     ·rw [Bool.true_and] at hr;have h9:=h9 hr;obtain ⟨o,p,l⟩:=t;rw [Ah] at hc;simp only [HG,HI,Hn,KX,Hs,Hi,S21,↓XX,XY,↓reduceIte,Nat.reduceBEq,Nat.reduceAdd,Int.reduceEq,Int.reduceLT,Int.reduceLE,hi,↓Bs (AN hg) (Bb _ _ _),↓Cg,↓Av hc,hwi];exact h9
   by_cases h1:op=15
   ·simp only [HG,HI,Hn,Hs,Hi,S21,↓XX,XY,↓reduceIte,Nat.reduceBEq,Nat.reduceAdd,Int.reduceEq,Int.reduceLT,Int.reduceLE,h1];simp only [h1] at hl;exact hl
   ·by_cases h2:op=16
    ·simp only [HG,HI,Hn,Hs,Hi,S21,↓XX,XY,↓reduceIte,Nat.reduceBEq,Nat.reduceAdd,Int.reduceEq,Int.reduceLT,Int.reduceLE,h1,h2];simp only [h2] at hl;exact hl
    ·have h3:op=17:=by omega
     simp only [HG,HI,Hn,Hs,Hi,S21,↓XX,XY,↓reduceIte,Nat.reduceBEq,Nat.reduceAdd,Int.reduceEq,Int.reduceLT,Int.reduceLE,h1,h2,h3];simp only [h3] at hl;exact hl
  ·have h1:op≠15:=by omega
   have h2:op≠16:=by omega
   have h3:op≠17:=by omega
   simp only [HG,HI,Hn,KX,Hs,Hi,S21,↓XX,XY,↓reduceIte,Nat.reduceBEq,Nat.reduceAdd,Int.reduceEq,Int.reduceLT,Int.reduceLE,h1,h2,h3,Bool.or_false];exact Al _ _
theorem VB {n:Nat} (a:Tm) (e:Int) (hn:0<n) (hn:e=0->2 * a.wt+4<n):AS (SS dt n 79 [.fv a.enc,iv e] ⟨[],[]⟩) (.tuple [a.enc,.int .i64 (if e=0 then (a.chk 0 1).2 else e)]):=by
 obtain ⟨n,rfl⟩:∃k,n=k+1:=⟨n - 1,by omega⟩;rw [c79];by_cases he:e=0
 ·have h:=KA (n:=n) a (by have:=hn he;omega);generalize (a.chk 0 1).2=c at h ⊢;obtain ⟨o,p,k⟩:=a;rw [Ah] at h ⊢;simp only [Xq,Xi,S79,↓XX,XY,↓reduceIte,Nat.reduceBEq,Nat.reduceAdd,Int.reduceEq,Int.reduceLT,Int.reduceLE,he,↓Av h];first | exact Al _ _ | exact Au rfl (by simp) _
 ·obtain ⟨o,p,k⟩:=a;rw [Ah];simp only [Xq,Xi,S79,↓XX,XY,↓reduceIte,Nat.reduceBEq,Nat.reduceAdd,Int.reduceEq,Int.reduceLT,Int.reduceLE,he];first | exact Al _ _ | exact Au rfl (by simp) _
theorem Al9 {n:Nat} {g:List Tm} {t a:Tm} {q:Int×Tm} (h:Hk (SS dt n 19 [.fv (.sl (g.map Tm.enc)),.fv t.enc] ⟨[],[]⟩) q) (hw:a.wt+1<n) (ha:a.wt<=100000000) :
  AS (SS dt (n+1) 77 [.fv (.sl (g.map Tm.enc)),.fv t.enc,.fv a.enc] ⟨[],[]⟩) (.int .i64 (CB q a)):=by
 obtain ⟨u,hu,he⟩:=h;obtain ⟨e,r⟩:=q;simp only at hu he;rw [c77];have hs:=GG n a u hw (by omega);unfold CB;simp only;by_cases h0:e=0
 ·have hur:=he h0;subst hur h0;rw [if_pos rfl];generalize a.same u=b at hs ⊢;obtain ⟨o1,n1,k1⟩:=t;obtain ⟨o2,n2,k2⟩:=a;obtain ⟨o3,n3,k3⟩:=u;simp only [Ah] at hu hs ⊢;cases b
  ·simp only [Q3,Su,S77,↓XX,XY,↓reduceIte,Nat.reduceBEq,Nat.reduceAdd,Int.reduceEq,Int.reduceLT,Int.reduceLE,↓Ag hu,↓Ag hs];exact Al _ _
  ·simp only [Q3,Su,S77,↓XX,XY,↓reduceIte,Nat.reduceBEq,Nat.reduceAdd,Int.reduceEq,Int.reduceLT,Int.reduceLE,↓Ag hu,↓Ag hs];exact Al _ _
 ·rw [if_neg h0];obtain ⟨o1,n1,k1⟩:=t;obtain ⟨o2,n2,k2⟩:=a;obtain ⟨o3,n3,k3⟩:=u;simp only [Ah] at hu hs ⊢;simp only [Q3,Su,S77,↓XX,XY,↓reduceIte,Nat.reduceBEq,Nat.reduceAdd,Int.reduceEq,Int.reduceLT,Int.reduceLE,↓Ag hu,h0];exact Al _ _
theorem PB {n:Nat} {g:List Tm} {t:Tm} {q:Int×Tm} (h:Hk (SS dt n 55 [.fv (.sl (g.map Tm.enc)),.fv t.enc] ⟨[],[]⟩) q) :
  AS (SS dt (n+1) 19 [.fv (.sl (g.map Tm.enc)),.fv t.enc] ⟨[],[]⟩) (.tuple [(if q.1=0 then q.2 else .z).enc,.int .i64 q.1]):=by
 obtain ⟨u,hu,he⟩:=h;obtain ⟨e,r⟩:=q;simp only at hu he ⊢;rw [c19];by_cases h0:e=0
 ·have hur:=he h0;subst hur h0;rw [if_pos rfl];obtain ⟨o1,n1,k1⟩:=t;obtain ⟨o3,n3,k3⟩:=u;simp only [Ah] at hu ⊢;simp only [XT,Ya,X3,S19,↓XX,XY,↓reduceIte,Nat.reduceBEq,Nat.reduceAdd,Int.reduceEq,Int.reduceLT,Int.reduceLE,↓Ag hu];first | exact Al _ _ | exact Au rfl (by simp) _
 ·rw [if_neg h0];obtain ⟨o1,n1,k1⟩:=t;obtain ⟨o3,n3,k3⟩:=u;simp only [Ah] at hu ⊢;simp only [XT,Ya,X3,S19,↓XX,XY,↓reduceIte,Nat.reduceBEq,Nat.reduceAdd,Int.reduceEq,Int.reduceLT,Int.reduceLE,↓Ag hu,h0,Tm.z,Ah];first | exact Al _ _ | exact Au rfl (by simp) _
theorem AlO (M:Nat) (hM:3000<=M) (hM2:M<=1000000):∀(n:Nat) (t:Tm) (g:List Tm),t.shp->t.wt<=M->(∀x∈g,x.typed=true/\x.wt<=M)->g.length+t.wt<=900000->4 * t.wt+6 * M+60<n ->
  Hk (SS dt n 55 [.fv (.sl (g.map Tm.enc)),.fv t.enc] ⟨[],[]⟩) (t.inf g):=by
 intro n
 induction n using Nat.strongRecOn with
 | ind n ih =>
  intro t g hs hw hg hl hn;obtain ⟨n,rfl⟩:∃k,n=k+1:=⟨n - 1,by omega⟩;obtain ⟨op,m,l⟩:=t;have hs0:=hs;rw [Tm.shp] at hs;obtain ⟨hk,hv,hsl⟩:=hs;simp only [Tm.wt] at hw hl hn;have hof:=BI (n:=n) (by omega) 15;rw [Ah,AzJ] at hof;have hti:=fun (k:Nat)=>GB M hM k;have hgx:∀a:Tm,a.typed=true/\a.wt<=M->∀x∈g++[a],x.typed=true/\x.wt<=M:=by
   intro a ha x hx;rcases List.mem_append.1 hx with h | h
   ·exact hg x h
   ·rw [List.mem_singleton.1 h];exact ha
  have hI:∀(c:Tm) (g':List Tm) (k:Nat),k+1<=n->c.shp->c.wt<=M->(∀x∈g',x.typed=true/\x.wt<=M)->g'.length+c.wt<=900000->4 * c.wt+6 * M+60<k ->
    AS (SS dt (k+1) 19 [.fv (.sl (g'.map Tm.enc)),.fv c.enc] ⟨[],[]⟩) (.tuple [(if (c.inf g').1=0 then (c.inf g').2 else .z).enc,.int .i64 (c.inf g').1]) :=
   fun c g' k hk h1 h2 h3 h4 h5=>PB (ih k (by omega) c g' h1 h2 h3 h4 h5)
  have hck:∀(c a:Tm) (g':List Tm) (k:Nat),k+2<=n->c.shp->c.wt<=M->(∀x∈g',x.typed=true/\x.wt<=M)->g'.length+c.wt<=900000->4 * c.wt+6 * M+60<k->a.wt<=M ->
    AS (SS dt (k+2) 77 [.fv (.sl (g'.map Tm.enc)),.fv c.enc,.fv a.enc] ⟨[],[]⟩) (.int .i64 (CB (c.inf g') a)) :=
   fun c a g' k hk h1 h2 h3 h4 h5 h6=>Al9 ⟨_,hI c g' k (by omega) h1 h2 h3 h4 h5,fun h0=>by rw [if_pos h0]⟩ (by omega) (by omega)
  show Hk _ _
  rw [c55];obtain ⟨k,rfl⟩:∃k,n=k+1+1:=⟨n - 2,by omega⟩;have htw:tI.wt<=M:=by simp [tI,Tm.wt,Tm.wtL];omega
  by_cases o1:op=1
  ·subst o1
   have:=AiB hk
   subst this;have hm:=hv rfl;rw [Tm.inf,if_pos rfl,Ah];by_cases h2:(g.length:Int)<=m
   ·rw [if_pos h2];refine C2 (u:=tI) ?_ (by decide);simp only [↓EO,↓XX,XY,↓reduceIte,Nat.reduceBEq,Nat.reduceAdd,Int.reduceEq,Int.reduceLT,Int.reduceLE,↓Ag hof,h2,tI,Ah];first | exact Al _ _ | exact Au rfl (by simp) _
   ·rw [if_neg h2];have hlt:g.length - 1 - m.toNat<g.length:=by omega
    have hget:g[g.length - 1 - m.toNat]?=some (g.getD (g.length - 1 - m.toNat) .z):=by
     rw [List.getD_eq_getElem?_getD,List.getElem?_eq_getElem hlt];rfl
    have w1:BD ((g.length:Int) - 1)=(g.length:Int) - 1:=by rw [Az]<;>omega
    have w2:BD ((g.length:Int) - 1 - m)=((g.length - 1 - m.toNat:Nat):Int):=by rw [Az (by omega) (by omega)];omega
    refine Je ?_;generalize g.getD (g.length - 1 - m.toNat) .z=x at hget ⊢;obtain ⟨o,p,k⟩:=x;simp only [↓EO,↓XX,XY,↓reduceIte,Nat.reduceBEq,Nat.reduceAdd,Int.reduceEq,Int.reduceLT,Int.reduceLE,↓Ag hof,h2,w1,w2,↓Bs (AN hget) (Bb _ _ _),↓Cg,Ah];first | exact Al _ _ | exact Au rfl (by simp) _
  by_cases o2:op=25
  ·subst o2
   have:=AiB hk
   subst this;rw [Tm.inf,if_neg (by decide),if_pos rfl,Ah];refine Je ?_;simp only [↓EO,↓XX,XY,↓reduceIte,Nat.reduceBEq,Nat.reduceAdd,Int.reduceEq,Int.reduceLT,Int.reduceLE,↓Ag hof,tI,Ah];first | exact Al _ _ | exact Au rfl (by simp) _
  by_cases o3:op=26
  ·subst o3;obtain ⟨a,b,rfl⟩:=NS hk;simp only [Tm.wtL] at hw hl hn;have ha:=hck a tI g k (by omega) hsl.1 (by omega) hg (by omega) (by omega) htw;have hb:=hck b tI g k (by omega) hsl.2.1 (by omega) hg (by omega) (by omega) htw;rw [Tm.inf,if_pos rfl];generalize CB (a.inf g) tI=x at ha ⊢;generalize CB (b.inf g) tI=y at hb ⊢;by_cases h:x=0
   ·rw [if_pos h];refine Je ?_;subst h;obtain ⟨o1,n1,k1⟩:=a;obtain ⟨o2,n2,k2⟩:=b;simp only [Ah,tI,AzK,AzJ] at ha hb ⊢;simp only [↓EO,↓XX,XY,↓reduceIte,Nat.reduceBEq,Nat.reduceAdd,Int.reduceEq,Int.reduceLT,Int.reduceLE,↓Ag hof,↓BB,↓BM,↓AF ha,↓AF hb];first | exact Al _ _ | exact Au rfl (by simp) _
   ·rw [if_neg h];refine C2 (u:=tI) ?_ h;obtain ⟨o1,n1,k1⟩:=a;obtain ⟨o2,n2,k2⟩:=b;simp only [Ah,tI,AzK,AzJ] at ha hb ⊢;simp only [↓EO,↓XX,XY,↓reduceIte,Nat.reduceBEq,Nat.reduceAdd,Int.reduceEq,Int.reduceLT,Int.reduceLE,↓Ag hof,↓BB,↓BM,↓AF ha,h];first | exact Al _ _ | exact Au rfl (by simp) _
  by_cases o4:op=20\/op=29
  ·have hk2:AY op=2:=by rcases o4 with rfl | rfl<;>rfl
   obtain ⟨a,b,rfl⟩:=NS (hk.trans hk2);simp only [Tm.wtL] at hw hl hn;have hpb:=Cv b;have hty:=Ui (k+1+1) a (by omega) (by omega);rw [K1 a hsl.1] at hty;have hpl:=P5 (n:=k+1+1) g a (by omega) (by omega);cases hta:a.typed
   ·rw [hta] at hty
    have:(Tm.mk op m [a,b]).inf g=(10,.z):=by rcases o4 with rfl | rfl<;>simp [Tm.inf,hta]
    rw [this];refine C2 (u:=tI) ?_ (by decide);obtain ⟨o1,n1,k1⟩:=a;obtain ⟨o2,n2,k2⟩:=b;simp only [Ah,tI,AzK,AzJ] at hty ⊢;rcases o4 with rfl | rfl<;>(simp only [↓EO,↓XX,XY,↓reduceIte,Nat.reduceBEq,Nat.reduceAdd,Int.reduceEq,Int.reduceLT,Int.reduceLE,↓Ag hof,↓BB,↓BM,↓Av hty];first | exact Al _ _ | exact Au rfl (by simp) _)
   ·rw [hta] at hty;rcases o4 with rfl | rfl
    ·have hb:=hI b (g++[a]) (k+1) (by omega) hsl.2.1 (by omega) (hgx a ⟨hta,by omega⟩) (by simp;omega) (by omega);have htb:=hti _ b (g++[a]) (Nat.lt_succ_self _) (by omega) (hgx a ⟨hta,by omega⟩) hsl.2.1;rw [Tm.inf];simp only [hta,if_true,Int.reduceEq,if_false,G5];generalize b.inf (g++[a])=q at hb htb ⊢;obtain ⟨e,r⟩:=q;simp only at hb htb ⊢;generalize hu:(if e=0 then r else Tm.z)=u at hb;have hof2:=CP (n:=k+1+1) (by omega) 16 [a,u];have hm:=VB (n:=k+1+1) (.mk 16 0 [a,u]) e (by omega) (fun h=>by rw [if_pos h] at hu;subst hu;have:=(htb h).2;simp only [Tm.wt,Tm.wtL];omega);refine ⟨.mk 16 0 [a,u],?_,fun h0=>?_⟩
     ·have e1:(if e=0 then (((Tm.mk 16 0 [a,r]).chk 0 1).2,Tm.mk 16 0 [a,r]) else (e,.z)).1=(if e=0 then ((Tm.mk 16 0 [a,u]).chk 0 1).2 else e):=by
       by_cases h:e=0
       ·rw [if_pos h] at hu;rw [if_pos h,if_pos h,hu]
       ·rw [if_neg h,if_neg h]
      rw [e1];generalize (if e=0 then ((Tm.mk 16 0 [a,u]).chk 0 1).2 else e)=w at hm ⊢;clear hu e1 htb;obtain ⟨o1,n1,k1⟩:=a;obtain ⟨o2,n2,k2⟩:=b;obtain ⟨o3,n3,k3⟩:=u;simp only [Ah,AzK,AzJ,List.map_append] at hty hpl hb hof2 hm ⊢;simp only [↓EO,↓XX,XY,↓reduceIte,Nat.reduceBEq,Nat.reduceAdd,Int.reduceEq,Int.reduceLT,Int.reduceLE,↓Ag hof,↓BB,↓BM,↓Av hty,↓Ag hpl,↓Ag hb,↓CA,↓Ag hof2,↓Ag hm];first | exact Al _ _ | exact Au rfl (by simp) _
     ·by_cases h:e=0
      ·rw [if_pos h] at hu;rw [if_pos h,hu]
      ·rw [if_neg h] at h0;exact absurd h0 h
    ·have hc:=hck b a (g++[a]) k (by omega) hsl.2.1 (by omega) (hgx a ⟨hta,by omega⟩) (by simp;omega) (by omega) (by omega);rw [Tm.inf];simp only [hta,if_true,Int.reduceEq,if_false];refine Je ?_;generalize CB (b.inf (g++[a])) a=w at hc ⊢;obtain ⟨o1,n1,k1⟩:=a;obtain ⟨o2,n2,k2⟩:=b;simp only [Ah,AzK,AzJ,List.map_append] at hty hpl hc ⊢;simp only [↓EO,↓XX,XY,↓reduceIte,Nat.reduceBEq,Nat.reduceAdd,Int.reduceEq,Int.reduceLT,Int.reduceLE,↓Ag hof,↓BB,↓BM,↓Av hty,↓Ag hpl,↓AF hc];first | exact Al _ _ | exact Au rfl (by simp) _
  have o7:op≠20:=fun h=>o4 (.inl h);have o8:op≠29:=fun h=>o4 (.inr h);by_cases o5:op=28
  ·subst o5;obtain ⟨a,b,rfl⟩:=NS hk;simp only [Tm.wtL] at hw hl hn;have hpa:=Cv a;have hpb:=Cv b;have hta:=hti _ a g (Nat.lt_succ_self _) (by omega) hg hsl.1;have hu:=hI a g (k+1) (by omega) hsl.1 (by omega) hg (by omega) (by omega);rw [Tm.inf,if_neg (by decide),if_neg (by decide),if_neg (by decide),if_pos rfl];generalize a.inf g=q at hu hta ⊢;obtain ⟨e,u⟩:=q;simp only at hu hta ⊢;by_cases h:e=0
   ·subst h;rw [if_pos rfl] at hu ⊢;have hwi:=P5 (n:=k+1+1) g u (by omega) (by omega);have hv2:=hI b (g++[u]) (k+1) (by omega) hsl.2.1 (by omega) (hgx u (hta rfl)) (by simp;omega) (by omega);refine ⟨if (b.inf (g++[u])).1=0 then (b.inf (g++[u])).2 else .z,?_,fun h0=>if_pos h0⟩;generalize b.inf (g++[u])=q at hv2 ⊢;generalize (if q.1=0 then q.2 else Tm.z)=v at hv2 ⊢;obtain ⟨o1,n1,k1⟩:=a;obtain ⟨o2,n2,k2⟩:=b;obtain ⟨o3,n3,k3⟩:=u;obtain ⟨o4,n4,k4⟩:=v;simp only [Ah,AzK,AzJ,List.map_append] at hu hv2 hwi ⊢;simp only [↓EO,↓XX,XY,↓reduceIte,Nat.reduceBEq,Nat.reduceAdd,Int.reduceEq,Int.reduceLT,Int.reduceLE,↓Ag hof,↓BB,↓BM,↓Ag hu,↓Ag hwi,↓Ag hv2];first | exact Al _ _ | exact Au rfl (by simp) _
   ·rw [if_neg h] at hu ⊢;refine C2 (u:=.z) ?_ h;obtain ⟨o1,n1,k1⟩:=a;obtain ⟨o2,n2,k2⟩:=b;simp only [Tm.z,Ah,AzK,AzJ] at hu ⊢;simp only [↓EO,↓XX,XY,↓reduceIte,Nat.reduceBEq,Nat.reduceAdd,Int.reduceEq,Int.reduceLT,Int.reduceLE,↓Ag hof,↓BB,↓BM,↓Ag hu,h];first | exact Al _ _ | exact Au rfl (by simp) _
  by_cases o6:op=27
  ·subst o6;obtain ⟨a,b,c,rfl⟩:=Avl hk;simp only [Tm.wtL] at hw hl hn;have ha:=hck a tI g k (by omega) hsl.1 (by omega) hg (by omega) (by omega) htw;rw [Tm.inf,if_pos rfl];generalize CB (a.inf g) tI=x at ha ⊢;by_cases h:x=0
   ·subst h;rw [if_pos rfl];have hu:=hI b g (k+1) (by omega) hsl.2.1 (by omega) hg (by omega) (by omega);have htb:=hti _ b g (Nat.lt_succ_self _) (by omega) hg hsl.2.1;have hc:=fun (y:Tm) (hy:y.wt<=M)=>hck c y g k (by omega) hsl.2.2.1 (by omega) hg (by omega) (by omega) hy;generalize b.inf g=q at hu htb ⊢;obtain ⟨e,u⟩:=q;simp only at hu htb ⊢;by_cases h:e=0
    ·subst h;rw [if_pos rfl] at hu ⊢;have hc:=hc u (htb rfl).2;refine Je ?_;generalize CB (c.inf g) u=w at hc ⊢;obtain ⟨o1,n1,k1⟩:=a;obtain ⟨o2,n2,k2⟩:=b;obtain ⟨o3,n3,k3⟩:=c;obtain ⟨o4,n4,k4⟩:=u;simp only [Ah,tI,AzK,AzJ] at ha hu hc ⊢;simp only [↓EO,↓XX,XY,↓reduceIte,Nat.reduceBEq,Nat.reduceAdd,Int.reduceEq,Int.reduceLT,Int.reduceLE,↓Ag hof,↓BB,↓BM,↓G8,↓AF ha,↓Ag hu,↓AF hc];first | exact Al _ _ | exact Au rfl (by simp) _
    ·rw [if_neg h] at hu ⊢;refine C2 (u:=.z) ?_ h;obtain ⟨o1,n1,k1⟩:=a;obtain ⟨o2,n2,k2⟩:=b;obtain ⟨o3,n3,k3⟩:=c;simp only [Ah,tI,Tm.z,AzK,AzJ] at ha hu ⊢;simp only [↓EO,↓XX,XY,↓reduceIte,Nat.reduceBEq,Nat.reduceAdd,Int.reduceEq,Int.reduceLT,Int.reduceLE,↓Ag hof,↓BB,↓BM,↓G8,↓AF ha,↓Ag hu,h];first | exact Al _ _ | exact Au rfl (by simp) _
   ·rw [if_neg h];refine C2 (u:=tI) ?_ h;obtain ⟨o1,n1,k1⟩:=a;obtain ⟨o2,n2,k2⟩:=b;obtain ⟨o3,n3,k3⟩:=c;simp only [Ah,tI,AzK,AzJ] at ha ⊢;simp only [↓EO,↓XX,XY,↓reduceIte,Nat.reduceBEq,Nat.reduceAdd,Int.reduceEq,Int.reduceLT,Int.reduceLE,↓Ag hof,↓BB,↓BM,↓G8,↓AF ha,h];first | exact Al _ _ | exact Au rfl (by simp) _
  by_cases p3:op=22
  ·subst p3;obtain ⟨a,b,rfl⟩:=NS hk;simp only [Tm.wtL] at hw hl hn;have hpa:=Cv a;have hpb:=Cv b;have hta:=hti _ a g (Nat.lt_succ_self _) (by omega) hg hsl.1;have htb:=hti _ b g (Nat.lt_succ_self _) (by omega) hg hsl.2.1;have hu:=hI a g (k+1) (by omega) hsl.1 (by omega) hg (by omega) (by omega);have hb:=hI b g (k+1) (by omega) hsl.2.1 (by omega) hg (by omega) (by omega);rw [Tm.inf];simp only [Int.reduceEq,if_false,if_true];generalize a.inf g=q at hu hta ⊢;obtain ⟨e,u⟩:=q;simp only at hu hta ⊢;by_cases h:e=0
   ·subst h;rw [if_pos rfl] at hu ⊢;unfold G5;generalize b.inf g=q at hb htb ⊢;obtain ⟨e,r⟩:=q;simp only at hb htb ⊢;generalize hv:(if e=0 then r else Tm.z)=v at hb;have hof2:=CP (n:=k+1+1) (by omega) 17 [u,v];have hm:=VB (n:=k+1+1) (.mk 17 0 [u,v]) e (by omega) (fun h=>by rw [if_pos h] at hv;subst hv;have:=(htb h).2;have:=(hta rfl).2;simp only [Tm.wt,Tm.wtL];omega);refine ⟨.mk 17 0 [u,v],?_,fun h0=>?_⟩
    ·have e1:(if e=0 then (((Tm.mk 17 0 [u,r]).chk 0 1).2,Tm.mk 17 0 [u,r]) else (e,.z)).1=(if e=0 then ((Tm.mk 17 0 [u,v]).chk 0 1).2 else e):=by
      by_cases h:e=0
      ·rw [if_pos h] at hv;rw [if_pos h,if_pos h,hv]
      ·rw [if_neg h,if_neg h]
     rw [e1];generalize (if e=0 then ((Tm.mk 17 0 [u,v]).chk 0 1).2 else e)=w at hm ⊢;clear hv e1 htb hta;obtain ⟨o1,n1,k1⟩:=a;obtain ⟨o2,n2,k2⟩:=b;obtain ⟨o3,n3,k3⟩:=u;obtain ⟨o4,n4,k4⟩:=v;simp only [Ah,AzK,AzJ] at hu hb hof2 hm ⊢;simp only [↓EO,↓XX,XY,↓reduceIte,Nat.reduceBEq,Nat.reduceAdd,Int.reduceEq,Int.reduceLT,Int.reduceLE,↓Ag hof,↓BB,↓BM,↓Ag hu,↓Ag hb,↓CA,↓Ag hof2,↓Ag hm];first | exact Al _ _ | exact Au rfl (by simp) _
    ·by_cases h:e=0
     ·rw [if_pos h] at hv;rw [if_pos h,hv]
     ·rw [if_neg h] at h0;exact absurd h0 h
   ·rw [if_neg h] at hu ⊢;refine C2 (u:=.z) ?_ h;obtain ⟨o1,n1,k1⟩:=a;obtain ⟨o2,n2,k2⟩:=b;simp only [Ah,Tm.z,AzK,AzJ] at hu ⊢;simp only [↓EO,↓XX,XY,↓reduceIte,Nat.reduceBEq,Nat.reduceAdd,Int.reduceEq,Int.reduceLT,Int.reduceLE,↓Ag hof,↓BB,↓BM,↓Ag hu,h];first | exact Al _ _ | exact Au rfl (by simp) _
  by_cases p2:op=21
  ·subst p2;obtain ⟨a,b,rfl⟩:=NS hk;simp only [Tm.wtL] at hw hl hn;have hta:=hti _ a g (Nat.lt_succ_self _) (by omega) hg hsl.1;have hu:=hI a g (k+1) (by omega) hsl.1 (by omega) hg (by omega) (by omega);have hc:=fun (y:Tm) (hy:y.wt<=M)=>hck b y g k (by omega) hsl.2.1 (by omega) hg (by omega) (by omega) hy;rw [Tm.inf];simp only [Int.reduceEq,if_false,if_true];generalize a.inf g=q at hu hta ⊢;obtain ⟨e,u⟩:=q;simp only at hu hta ⊢;by_cases h:e=0
   ·subst h;rw [if_pos rfl] at hu ⊢;by_cases h2:u.op=16
    ·rw [if_pos h2];obtain ⟨x,y,hxy⟩:=Gx (.inl rfl) (hta rfl).1 h2;have hc:=hc (u.kid 0) (by have:=Ad1 hxy;have:=(hta rfl).2;omega);obtain ⟨o3,n3,k3⟩:=u;simp only [Tm.kids,Tm.op] at hxy h2;subst hxy h2;have e0:(Tm.mk 16 n3 [x,y]).kid 0=x:=rfl;have e1:(Tm.mk 16 n3 [x,y]).kid 1=y:=rfl;rw [e0] at hc ⊢;rw [e1];by_cases h3:CB (b.inf g) x=0
     ·rw [h3] at hc ⊢;refine Je ?_;obtain ⟨o1,n1,k1⟩:=a;obtain ⟨o2,n2,k2⟩:=b;obtain ⟨o3,n3,k3⟩:=x;obtain ⟨o4,n4,k4⟩:=y;simp only [Ah,AzK,AzJ] at hu hc ⊢;simp only [↓EO,↓XX,XY,↓reduceIte,Nat.reduceBEq,Nat.reduceAdd,Int.reduceEq,Int.reduceLT,Int.reduceLE,↓Ag hof,↓BB,↓BM,↓Ag hu,↓AF hc];first | exact Al _ _ | exact Au rfl (by simp) _
     ·refine C2 (u:=tI) ?_ h3;generalize CB (b.inf g) x=w at hc h3 ⊢;obtain ⟨o1,n1,k1⟩:=a;obtain ⟨o2,n2,k2⟩:=b;obtain ⟨o3,n3,k3⟩:=x;obtain ⟨o4,n4,k4⟩:=y;simp only [Ah,tI,AzK,AzJ] at hu hc ⊢;simp only [↓EO,↓XX,XY,↓reduceIte,Nat.reduceBEq,Nat.reduceAdd,Int.reduceEq,Int.reduceLT,Int.reduceLE,↓Ag hof,↓BB,↓BM,↓Ag hu,↓AF hc,h3];first | exact Al _ _ | exact Au rfl (by simp) _
    ·rw [if_neg h2];refine C2 (u:=tI) ?_ (by decide);obtain ⟨o1,n1,k1⟩:=a;obtain ⟨o2,n2,k2⟩:=b;obtain ⟨o3,n3,k3⟩:=u;simp only [Tm.op] at h2;simp only [Ah,tI,AzK,AzJ] at hu ⊢;simp only [↓EO,↓XX,XY,↓reduceIte,Nat.reduceBEq,Nat.reduceAdd,Int.reduceEq,Int.reduceLT,Int.reduceLE,↓Ag hof,↓BB,↓BM,↓Ag hu,h2];first | exact Al _ _ | exact Au rfl (by simp) _
   ·rw [if_neg h] at hu ⊢;refine C2 (u:=tI) ?_ h;obtain ⟨o1,n1,k1⟩:=a;obtain ⟨o2,n2,k2⟩:=b;simp only [Ah,tI,Tm.z,AzK,AzJ] at hu ⊢;simp only [↓EO,↓XX,XY,↓reduceIte,Nat.reduceBEq,Nat.reduceAdd,Int.reduceEq,Int.reduceLT,Int.reduceLE,↓Ag hof,↓BB,↓BM,↓Ag hu,h];first | exact Al _ _ | exact Au rfl (by simp) _
  by_cases p1:op=23\/op=24
  ·have hk2:AY op=1:=by rcases p1 with rfl | rfl<;>rfl
   obtain ⟨a,rfl⟩:=AuV (hk.trans hk2);simp only [Tm.wtL] at hw hl hn;have hta:=hti _ a g (Nat.lt_succ_self _) (by omega) hg hsl.1;have hu:=hI a g (k+1) (by omega) hsl.1 (by omega) hg (by omega) (by omega);have hz:Hk (S55 (SS dt (k+1+1)) (k+1+1) (.fv (.sl (g.map Tm.enc))) (.fv (Tm.mk op m [a]).enc) ⟨[],[]⟩) (if (a.inf g).1=0 then (if (a.inf g).2.op=17 then (0,(a.inf g).2.kid (if op=23 then 0 else 1)) else (12,.z)) else ((a.inf g).1,.z)):=by
    generalize a.inf g=q at hu hta ⊢;obtain ⟨e,u⟩:=q;simp only at hu hta ⊢;by_cases h:e=0
    ·subst h;rw [if_pos rfl] at hu ⊢;by_cases h2:u.op=17
     ·rw [if_pos h2];obtain ⟨x,y,hxy⟩:=Gx (.inr rfl) (hta rfl).1 h2;obtain ⟨o3,n3,k3⟩:=u;simp only [Tm.kids,Tm.op] at hxy h2;subst hxy h2;have w0:BD 0=0:=by rw [Az]<;>omega
      have w1:BD 1=1:=by rw [Az]<;>omega
      rcases p1 with rfl | rfl
      ·refine Je ?_;have e0:(Tm.mk 17 n3 [x,y]).kid (if (23:Int)=23 then 0 else 1)=x:=rfl;rw [e0];obtain ⟨o1,n1,k1⟩:=a;obtain ⟨o3,n3,k3⟩:=x;obtain ⟨o4,n4,k4⟩:=y;simp only [Ah,AzK,AzJ] at hu ⊢;simp only [↓EO,↓XX,XY,↓reduceIte,Nat.reduceBEq,Nat.reduceAdd,Int.reduceEq,Int.reduceLT,Int.reduceLE,↓Ag hof,Int.reduceSub,w0,↓BB,↓BM,↓Ag hu];first | exact Al _ _ | exact Au rfl (by simp) _
      ·refine Je ?_;have e0:(Tm.mk 17 n3 [x,y]).kid (if (24:Int)=23 then 0 else 1)=y:=rfl;rw [e0];obtain ⟨o1,n1,k1⟩:=a;obtain ⟨o3,n3,k3⟩:=x;obtain ⟨o4,n4,k4⟩:=y;simp only [Ah,AzK,AzJ] at hu ⊢;simp only [↓EO,↓XX,XY,↓reduceIte,Nat.reduceBEq,Nat.reduceAdd,Int.reduceEq,Int.reduceLT,Int.reduceLE,↓Ag hof,Int.reduceSub,w1,↓BB,↓BM,↓Ag hu];first | exact Al _ _ | exact Au rfl (by simp) _
     ·rw [if_neg h2];refine C2 (u:=tI) ?_ (by decide);obtain ⟨o1,n1,k1⟩:=a;obtain ⟨o3,n3,k3⟩:=u;simp only [Tm.op] at h2;simp only [Ah,tI,AzK,AzJ] at hu ⊢;rcases p1 with rfl | rfl<;>(simp only [↓EO,↓XX,XY,↓reduceIte,Nat.reduceBEq,Nat.reduceAdd,Int.reduceEq,Int.reduceLT,Int.reduceLE,↓Ag hof,↓BB,↓BM,↓Ag hu,h2];first | exact Al _ _ | exact Au rfl (by simp) _)
    ·rw [if_neg h] at hu ⊢;refine C2 (u:=tI) ?_ h;obtain ⟨o1,n1,k1⟩:=a;simp only [Ah,tI,Tm.z,AzK,AzJ] at hu ⊢;rcases p1 with rfl | rfl<;>(simp only [↓EO,↓XX,XY,↓reduceIte,Nat.reduceBEq,Nat.reduceAdd,Int.reduceEq,Int.reduceLT,Int.reduceLE,↓Ag hof,↓BB,↓BM,↓Ag hu,h];first | exact Al _ _ | exact Au rfl (by simp) _)
   have e:(Tm.mk op m [a]).inf g=(if (a.inf g).1=0 then (if (a.inf g).2.op=17 then (0,(a.inf g).2.kid (if op=23 then 0 else 1)) else (12,.z)) else ((a.inf g).1,.z)):=by
    rcases p1 with rfl | rfl<;>simp [Tm.inf]
   rw [e];exact hz
  have p4:op≠23:=fun h=>p1 (.inl h);have p5:op≠24:=fun h=>p1 (.inr h);rw [PC ⟨o1,o2,p4,p5,o3,o7,o8,o5,p3,p2,o6⟩,Ah];refine C2 (u:=tI) ?_ (by decide);simp only [↓EO,↓XX,XY,↓reduceIte,Nat.reduceBEq,Nat.reduceAdd,Int.reduceEq,Int.reduceLT,Int.reduceLE,↓Ag hof,o1,o2,p4,p5,o3,o7,o8,o5,p3,p2,o6,tI,Ah];first | exact Al _ _ | exact Au rfl (by simp) _
theorem PF (M:Nat) (hM:3000<=M) (hM2:M<=1000000) (n:Nat) (t:Tm) (g:List Tm) (h1:t.shp) (h2:t.wt<=M) (h3:∀x∈g,x.typed=true/\x.wt<=M) (h4:g.length+t.wt<=900000) (h5:4 * t.wt+6 * M+61<n) :
  AS (SS dt n 19 [.fv (.sl (g.map Tm.enc)),.fv t.enc] ⟨[],[]⟩) (.tuple [(if (t.inf g).1=0 then (t.inf g).2 else .z).enc,.int .i64 (t.inf g).1]):=by
 obtain ⟨n,rfl⟩:∃k,n=k+1:=⟨n - 1,by omega⟩;exact PB (AlO M hM hM2 n t g h1 h2 h3 h4 (by omega))
theorem SK {n:Nat} (hn:0<n) (x:Int) {m:Int} (h1:0<m) (h2:m<=4611686018427387904):AS (SS dt n 23 [iv x,iv m] ⟨[],[]⟩) (.int .i64 (x % m)):=by
 obtain ⟨n,rfl⟩:=Nat.exists_eq_add_of_lt hn;rw [Nat.zero_add,c23];simp only [S23,↓XX,XY,↓reduceIte,Nat.reduceBEq,Nat.reduceAdd,Int.reduceEq,Int.reduceLT,Int.reduceLE,↓Lx (show m≠0 by omega)]
 rw [<- WO h1 h2];by_cases hc:x.tmod m<0<;>simp only [hc,if_true,if_false]<;>exact Al _ _
theorem Ajv {n:Nat} (t:Tm) (hn:t.wt+1<n):AS (SS dt n 20 [.fv t.enc] ⟨[],[]⟩) (.bool t.typed):=by
 obtain ⟨n,rfl⟩:∃k,n=k+1:=⟨n - 1,by omega⟩;rw [c20];have h:=Om n t (by omega);obtain ⟨o,p,l⟩:=t;rw [Ah] at h ⊢;simp only [S20,↓XX,XY,↓reduceIte,Nat.reduceBEq,Nat.reduceAdd,Int.reduceEq,Int.reduceLT,Int.reduceLE,↓Av h];exact Al _ _
structure InfF (n:Nat) (gs:List Tm) (t R:Tm) (e:Int) (b:Bool):Prop where
 hp:AS (SS dt n 17 [.fv (.sl (gs.map Tm.enc)),.fv t.enc] ⟨[],[]⟩) (.tuple [R.enc,.int .i64 e])
 hr:AS (SS dt n 19 [.fv (.sl (gs.map Tm.enc)),.fv t.enc] ⟨[],[]⟩) (.tuple [R.enc,.int .i64 e])
 hs:AS (SS dt n 18 [.fv R.enc,.fv R.enc] ⟨[],[]⟩) (.bool true)
 tp:AS (SS dt n 20 [.fv t.enc] ⟨[],[]⟩) (.bool b)
 tr:AS (SS dt n 21 [.fv t.enc] ⟨[],[]⟩) (.bool b)
theorem Aww {n:Nat} {gs:List Tm} {t:Tm} (hg:∀x∈gs,x.typed=true/\x.wt<=3000) (hgl:gs.length<=6) (hc:(t.chk 0 1).2=0) (hn:100000<=n):∃R e b,InfF n gs t R e b:=by
 have hw:=Dw hc;have hs:=If t 0 1 hc;obtain ⟨R,hR⟩:∃R,R=if (t.inf gs).1=0 then (t.inf gs).2 else .z:=⟨_,rfl⟩;have hRw:R.wt<=3000:=by
  rw [hR];split
  ·rename_i h;exact (GB 3000 (by omega) (t.wt+1) t gs (by omega) hw hg hs h).2
  ·simp [Tm.z,Tm.wt,Tm.wtL]
 have hp:=PG 3000 (by omega) (by omega) n t gs hw hg (by omega) (by omega);have hi:t.infer gs=(R,(t.inf gs).1):=by
  unfold Tm.infer;rw [if_pos hc,hR];by_cases h:(t.inf gs).1=0
  ·rw [if_pos h,if_pos h,h]
  ·rw [if_neg h,if_neg h]
 rw [hi] at hp;have hr:=PF 3000 (by omega) (by omega) n t gs hs hw hg (by omega) (by omega);rw [<- hR] at hr;have hsm:=GG n R R (by omega) (by omega);rw [(Ik R R).2 rfl] at hsm;have tr:=Ui n t (by omega) (by omega);rw [K1 t hs] at tr;exact ⟨R,_,t.typed,hp,hr,hsm,Ajv t (by omega),tr⟩
end Idl
end Go.Proofs.Ytdibmackcbpniaa

/-
  Texts of a proof, part 12: an ideal semantics of the program, its functions in shallow form, contracts of them. No statement of the seat is proved here.
-/
import Derived.Test.YtkfecngimlcfoaaStageAllK11
set_option linter.all false
set_option maxRecDepth 20000
set_option maxHeartbeats 16000000
noncomputable section
namespace Go.Proofs.Ytkfecngimlcfoaa
namespace Idl
abbrev Hre (op m:Int) (ks:List Tm) (K:IV) (tok:List (Nat×Blk)):Hp :=
 ⟨(90177536,.row [iv op,iv m,.fv (.sl (ks.map Tm.enc))] false)::(90177537,.row [iv 0,iv 0,.nils] false)::(90178565,.row [iv op,iv m,K] false)::tok,[]⟩
def C8 (op:Int):Nat->List Tm->List Tm
 | _,[]=>[]
 | i,t::l=>(if i=0/\(op=4\/op=7) then A9 else t.eta)::C8 op (i+1) l
theorem WI (o p:Int) (l:List FV) (s:Nat) (own:List (Nat×Blk)) (ext:List Blk) (k:IV->Hp->List Ref->List Ref->Option (IV×Hp)) :
  Ay (AO EE s false .append [28,28] [.nils,.clip [.agg [.int .i64 o,.int .i64 p,.sl l]]]) s ⟨own,ext⟩ k=C0 own s (A4 own s (.tok 1 3) fun own=>k (.app (.own s) [.agg [.int .i64 o,.int .i64 p,.sl l]]) ⟨own,ext⟩ [] [.own s]) :=
 HS sTm (.clip _) rfl rfl (by simp) (.inl rfl) s own ext k
theorem PO (op:Int) (x:Tm):∀(i:Nat) (l:List Tm),C8 op i (l++[x])=C8 op i l++[if i+l.length=0/\(op=4\/op=7) then A9 else x.eta]
 | i,[]=>by simp [C8]
 | i,t::l=>by
  simp only [List.cons_append,C8,PO op x (i+1) l,AB3];rw [show i+1+l.length=i+(l.length+1) by omega]
theorem P5 (op:Int):∀(i:Nat) (l:List Tm),(C8 op i l).length=l.length
 | _,[]=>rfl
 | i,t::l=>by simp only [C8,AB3,P5 op (i+1) l]
theorem Aig {n:Nat} {op m:Int} {ks:List Tm} {w:FV} (h4:ks.length<=4) (hn:ks.length+3<n)
  (ih:∀x∈ks,AZ (SS dt n 86 [.fv x.enc] ⟨[],[]⟩) x.eta.enc)
  (hend:∀(K:IV) (tok:List (Nat×Blk)) (rec:List IV->Hp->Option (IV×Hp)),((ks=[]/\K=.nils/\tok=[])\/(ks≠[]/\K=.app (.own 90185732) ((C8 op 0 ks).map Tm.enc)/\tok=[(90185732,.tok ks.length 3)])) ->
   AZ (Js [.ptr (.own 90177536) 0,.ptr (.own 90177537) 0,.ptr (.own 90178565) 0,iv ks.length] (Hre op m ks K tok) (SS dt n) ⟨[],[]⟩ rec) w) :
  AZ (SS dt (n+1) 86 [.fv (Tm.mk op m ks).enc] ⟨[],[]⟩) w:=by
 rw [c86,Am];simp only [Tv,R6,SQ,ST,S5,Q1,Rh,SR,To,Sd,TF,Re,QU,S0,TV,SB,SG,TP,RS,Ua,SE,Tg,Tb,S7,RD,Ss,Ub,TR,Sq,R5,QO,RZ,SD,S86,↓XX,XY,↓reduceIte,Nat.reduceBEq,Nat.reduceAdd,Int.reduceEq,Int.reduceLT,Int.reduceLE,↓AI,XD,heldB,AR,XE];refine Bc (Q:=fun r=>AZ r _) (fun j V H=>∃(pre rest:List Tm) (K:IV) (tok:List (Nat×Blk)),ks=pre++rest/\rest.length=j/\V=[.ptr (.own 90177536) 0,.ptr (.own 90177537) 0,.ptr (.own 90178565) 0,iv pre.length]/\H=Hre op m ks K tok /\
   ((pre=[]/\K=.nils/\tok=[])\/(pre≠[]/\K=.app (.own 90185732) ((C8 op 0 pre).map Tm.enc)/\tok=[(90185732,.tok pre.length 3)])))
  ?_ n ks.length _ _ (by omega) ⟨[],ks,.nils,[],rfl,rfl,rfl,rfl,.inl ⟨rfl,rfl,rfl⟩⟩
 rintro j V H rec ⟨pre,rest,K,tok,hks,hl,rfl,rfl,hK⟩ hrec;have hkl:ks.length=pre.length+rest.length:=by rw [hks];simp
 cases rest with
 | nil =>
  rw [List.append_nil] at hks;subst hks;exact hend K tok rec hK
 | cons x rest =>
  have hi:(pre.length:Int)<ks.length:=by rw [hkl];simp;omega
  have hg2:=CC hks;have hc:=ih x (by rw [hks];simp);have hwi:BK ((pre.length:Int)+1)=((pre++[x]).length:Int):=(Av (by omega) (by omega)).trans (by simp);have h0:=BE (n:=n) (by omega) 11;have hi0:(0:Int)<ks.length:=by omega
  have hw01:BK (0+1)=1:=by decide
  simp only [AB3] at hl hkl;rcases hK with ⟨rfl,rfl,rfl⟩ | ⟨hne,rfl,rfl⟩
  ·have hz:∀y,((op=4\/op=7)->y=A9)->(¬ (op=4\/op=7)->y=x.eta)->C8 op 0 [x]=[y]:=by
    intro y h1 h2;by_cases h:op=4\/op=7
    ·simp [C8,h,h1 h]
    ·simp [C8,h,h2 h]
   have h9:∀y,C8 op 0 [x]=[y]->AZ (rec [.ptr (.own 90177536) 0,.ptr (.own 90177537) 0,.ptr (.own 90178565) 0,iv 1] (Hre op m ks (.app (.own 90185732) [y.enc]) [(90185732,.tok 1 3)])) w:=by
    intro y hy;exact hrec rest.length _ _ (by omega) ⟨[x],rest,_,_,by rw [hks];simp,rfl,rfl,rfl,.inr ⟨by simp,by rw [List.nil_append] at *;rw [hy];rfl,rfl⟩⟩
   by_cases hop:op=4
   ·have h8:=h9 A9 (hz _ (fun _=>rfl) (fun h=>absurd (.inl hop) h));subst hop;generalize x.eta=y at hc;obtain ⟨o,p,l⟩:=x;obtain ⟨o2,p2,l2⟩:=y;rw [Am,Am] at hc;rw [Am] at h0;have hze:A9.enc=.agg [.int .i64 11,.int .i64 0,.sl []]:=rfl;rw [hze] at h8;simp only [↓J7,↓XX,XY,↓reduceIte,Nat.reduceBEq,Nat.reduceAdd,Int.reduceEq,Int.reduceLT,Int.reduceLE,hi,↓Bt (AM hg2) (Bg _ _ _),↓Cd,↓Aw hc,↓Ag h0,hi0,hw01,↓Em,↓WI,↓AI,XD,heldB,AR,XE];exact h8
   ·by_cases hop7:op=7
    ·have h8:=h9 A9 (hz _ (fun _=>rfl) (fun h=>absurd (.inr hop7) h));subst hop7;generalize x.eta=y at hc;obtain ⟨o,p,l⟩:=x;obtain ⟨o2,p2,l2⟩:=y;rw [Am,Am] at hc;rw [Am] at h0;have hze:A9.enc=.agg [.int .i64 11,.int .i64 0,.sl []]:=rfl;rw [hze] at h8;simp only [↓J7,↓XX,XY,↓reduceIte,Nat.reduceBEq,Nat.reduceAdd,Int.reduceEq,Int.reduceLT,Int.reduceLE,hi,↓Bt (AM hg2) (Bg _ _ _),↓Cd,↓Aw hc,↓Ag h0,hi0,hw01,↓Em,↓WI,↓AI,XD,heldB,AR,XE];exact h8
    ·have h8:=h9 x.eta (hz _ (fun h=>absurd h (by omega)) (fun _=>rfl));generalize x.eta=y at hc h8;obtain ⟨o,p,l⟩:=x;obtain ⟨o2,p2,l2⟩:=y;rw [Am,Am] at hc;rw [Am] at h8;simp only [↓J7,↓XX,XY,↓reduceIte,Nat.reduceBEq,Nat.reduceAdd,Int.reduceEq,Int.reduceLT,Int.reduceLE,hi,hop,hop7,↓Bt (AM hg2) (Bg _ _ _),↓Cd,↓Aw hc,hi0,hw01,↓Em,↓WI,↓AI,XD,heldB,AR,XE];exact h8
  ·have hp0:¬ (pre.length:Int)=0:=by
    have:=List.length_pos_iff.2 hne
    omega
   have h8:=hrec rest.length _ _ (by omega) ⟨pre++[x],rest,_,_,by rw [hks];simp,rfl,rfl,rfl,.inr ⟨by simp,by rw [PO,if_neg (by rintro ⟨h,_⟩;omega)],rfl⟩⟩;have hlen:=P5 op 0 pre;generalize C8 op 0 pre=D at h8 hlen;generalize x.eta=y at hc h8;obtain ⟨o,p,l⟩:=x;obtain ⟨o2,p2,l2⟩:=y;have happ:=fun {own:List (Nat×Blk)} {ext:List Blk} (r s:Nat) (k:IV->Hp->List Ref->List Ref->Option (IV×Hp))=>Kq (es:=D) (by omega) (.mk o2 p2 l2) r s own ext k;rw [hlen] at happ;rw [Am,Am] at hc;simp only [Am] at happ;simp only [↓J7,↓XX,XY,↓reduceIte,Nat.reduceBEq,Nat.reduceAdd,Int.reduceEq,Int.reduceLT,Int.reduceLE,hi,hp0,↓Bt (AM hg2) (Bg _ _ _),↓Cd,↓Aw hc,hwi,↓Em,↓happ,↓Hl,↓AI,XD,heldB,AR,XE];have e9:(pre++[Tm.mk o p l]).length=pre.length+1:=by simp
   rw [e9] at h8 ⊢;exact h8
theorem Lf {β:Type} (r:Ref) (es:List FV) (x:IV) (k:IV->Option β):AN 3 (.app r es) x k=AN 3 (.fv (.sl es)) x k:=rfl
theorem AfQ (op:Int) (h:op=4\/op=7):∀ks:List Tm,C8 op 0 ks=AhI (Tm.etaL ks)
 | []=>rfl
 | t::l=>by
  have:∀(i:Nat) (l:List Tm),C8 op (i+1) l=Tm.etaL l:=by
   intro i l
   induction l generalizing i with
   | nil=>rfl
   | cons a l ih=>rw [C8,if_neg (by omega),ih,Tm.etaL]
  rw [C8,if_pos ⟨rfl,h⟩,this 0,Tm.etaL,AhI]
theorem ZH (op:Int) (h:¬ (op=4\/op=7)):∀(i:Nat) (ks:List Tm),C8 op i ks=Tm.etaL ks
 | _,[]=>rfl
 | i,t::l=>by rw [C8,if_neg (fun h'=>h h'.2),ZH op h (i+1) l,Tm.etaL]
theorem XU {n:Nat} {op m:Int} {ks:List Tm} (h:¬ (op=4\/op=7)) (rec:List IV->Hp->Option (IV×Hp)) {K:IV} {tok:List (Nat×Blk)}
  (hK:(ks=[]/\K=.nils/\tok=[])\/(ks≠[]/\K=.app (.own 90185732) ((C8 op 0 ks).map Tm.enc)/\tok=[(90185732,.tok ks.length 3)])) :
  AZ (Js [.ptr (.own 90177536) 0,.ptr (.own 90177537) 0,.ptr (.own 90178565) 0,iv ks.length] (Hre op m ks K tok) (SS dt n) ⟨[],[]⟩ rec) (Tm.mk op m (Tm.etaL ks)).enc:=by
 have hno:¬ ((ks.length:Int)<ks.length):=by omega
 have h4:¬ op=4:=fun h'=>h (.inl h');have h7:¬ op=7:=fun h'=>h (.inr h');rw [Am];rcases hK with ⟨rfl,rfl,rfl⟩ | ⟨hne,rfl,rfl⟩
 ·simp only [↓J7,↓XX,XY,↓reduceIte,Nat.reduceBEq,Nat.reduceAdd,Int.reduceEq,Int.reduceLT,Int.reduceLE,hno,h4,h7];exact Bb rfl _
 ·rw [ZH op h];simp only [↓J7,↓XX,XY,↓reduceIte,Nat.reduceBEq,Nat.reduceAdd,Int.reduceEq,Int.reduceLT,Int.reduceLE,hno,h4,h7];exact Bb rfl _
theorem AtH {n:Nat} {m:Int} {ks:List Tm} {a b:Tm} (rec:List IV->Hp->Option (IV×Hp)) (h3:ks.length=3) (hn:a.wt+10<n) (haw:a.wt<=100000000) (hka:a.op=8->∃x,a.kids=[x]) (hkb:b.op=9->∃y,b.kids=[y]) :
  AZ (Js [.ptr (.own 90177536) 0,.ptr (.own 90177537) 0,.ptr (.own 90178565) 0,iv ks.length] (Hre 7 m ks (.app (.own 90185732) ([A9,a,b].map Tm.enc)) [(90185732,.tok ks.length 3)]) (SS dt n) ⟨[],[]⟩ rec) (prP (.mk 7 m [A9,a,b])).enc:=by
 have hno:¬ ((ks.length:Int)<ks.length):=by omega
 have hze:A9.enc=.agg [.int .i64 11,.int .i64 0,.sl []]:=rfl;obtain ⟨o1,n1,k1⟩:=a;obtain ⟨o2,n2,k2⟩:=b;by_cases h8:o1=8
 ·by_cases h9:o2=9
  ·subst h8 h9;obtain ⟨x,hx⟩:=hka rfl;obtain ⟨y,hy⟩:=hkb rfl;simp only [Tm.kids] at hx hy;subst hx hy;simp only [Tm.wt,Tm.wtL] at hn haw;have hs:=HL n x y (by omega) (by omega);rw [prP];generalize x.same y=v at hs;obtain ⟨o3,n3,k3⟩:=x;obtain ⟨o4,n4,k4⟩:=y;simp only [Am] at hs;cases v
   ·rw [if_neg (by simp)];simp only [Am,hze,AB5,AB4];simp only [↓J7,↓XX,XY,↓reduceIte,Nat.reduceBEq,Nat.reduceAdd,Int.reduceEq,Int.reduceLT,Int.reduceLE,hno,↓Lf,↓Cs,↓CA,↓JS,↓Ag hs];exact Bb rfl _
   ·rw [if_pos ⟨rfl,rfl,rfl⟩];simp only [Am,hze,AB5,AB4];simp only [↓J7,↓XX,XY,↓reduceIte,Nat.reduceBEq,Nat.reduceAdd,Int.reduceEq,Int.reduceLT,Int.reduceLE,hno,↓Lf,↓Cs,↓CA,↓JS,↓Ag hs];exact An _ _
  ·rw [AjF (by simp [Tm.op,h9])];simp only [Am,hze,AB5,AB4];simp only [↓J7,↓XX,XY,↓reduceIte,Nat.reduceBEq,Nat.reduceAdd,Int.reduceEq,Int.reduceLT,Int.reduceLE,hno,↓Lf,↓Cs,↓CA,↓JS,h8,h9];exact Bb rfl _
 ·rw [AjF (by simp [Tm.op,h8])];simp only [Am,hze,AB5,AB4];simp only [↓J7,↓XX,XY,↓reduceIte,Nat.reduceBEq,Nat.reduceAdd,Int.reduceEq,Int.reduceLT,Int.reduceLE,hno,↓Lf,↓Cs,↓CA,↓JS,h8];exact Bb rfl _
theorem Aud {n:Nat} {m:Int} {ks:List Tm} {b:Tm} {K:Nat} (rec:List IV->Hp->Option (IV×Hp)) (h3:ks.length=2) (hn:b.wt+20<n) (hbw:b.wt<=100000000) (hs:b.sc K) :
  AZ (Js [.ptr (.own 90177536) 0,.ptr (.own 90177537) 0,.ptr (.own 90178565) 0,iv ks.length] (Hre 4 m ks (.app (.own 90185732) ([A9,b].map Tm.enc)) [(90185732,.tok ks.length 3)]) (SS dt n) ⟨[],[]⟩ rec) (fnP (.mk 4 m [A9,b])).enc:=by
 have hno:¬ ((ks.length:Int)<ks.length):=by omega
 have hze:A9.enc=.agg [.int .i64 11,.int .i64 0,.sl []]:=rfl;have hwk:=Fd b K hs;obtain ⟨o1,n1,k1⟩:=b;by_cases h5:o1=5
 ·subst h5;have hl2:=K2 hs rfl (show ar 5=some 2 by decide)
  simp only [Tm.kids] at hl2
  match k1,hl2 with
  | [f,x],_ =>
  rw [Tm.sc] at hs;have hsf:=hs.2.2.1;have hsx:=hs.2.2.2.1;simp only [Tm.wt,Tm.wtL] at hn hbw;rw [Tm.wk] at hwk;have hfw:f.wk:=RJ hwk.2 (by simp);have hv0:=Arq (n:=n) (by omega) 0;have hsame:=HL n x (.mk 1 0 []) (by omega) (by omega);have hfree:=Aby n f 0 (by omega) (by omega) (by omega) (by omega);have h0:=BE (n:=n) (by omega) 11;have hsub:=OS (n:=n) f A9 0 (by simp [A9,Tm.wk,Tm.wkL]) (by simp [A9,Tm.wt,Tm.wtL]) (by simp only [A9,Tm.wt,Tm.wtL];omega) hfw (by omega) (by omega) (by omega);obtain ⟨o2,n2,k2⟩:=x;have hx:(Tm.mk o2 n2 k2).same (.mk 1 0 [])=(decide (o2=1) && decide (n2=0)):=by
   rw [Tm.same];by_cases h1:o2=1
   ·subst h1;have hk2:k2.length=0:=by
     have:=K2 hsx rfl (show ar 1=some 0 by decide)
     simpa [Tm.kids] using this
    have hk3:k2=[]:=List.length_eq_zero_iff.1 hk2;subst hk3;simp [Tm.sameL]
   ·simp [h1]
  rw [hx] at hsame;rw [fnP];generalize hr:f.subst 0 0 A9=u at hsub;generalize f.free 0=fr at hfree;obtain ⟨o4,n4,k4⟩:=u;obtain ⟨o3,n3,k3⟩:=f;rw [hze] at hsub;simp only [Am,AB4] at hfree hsub hv0 hsame h0;by_cases h1:o2=1
  ·by_cases h2:n2=0
   ·rw [h1,h2] at hsame;simp only [decide_true,Bool.and_self] at hsame;cases fr
    ·rw [if_pos ⟨rfl,h1,h2,rfl⟩];simp only [Am,hze,AB5,AB4];simp only [↓J7,↓XX,XY,↓reduceIte,Nat.reduceBEq,Nat.reduceAdd,Int.reduceEq,Int.reduceLT,Int.reduceLE,hno,↓Lf,↓Cs,↓CA,↓JS,h1,h2,↓Aw hv0,↓Ag hsame,↓Ag hfree,↓Ag h0,↓AJ hsub];exact An _ _
    ·rw [if_neg (by simp)];simp only [Am,hze,AB5,AB4];simp only [↓J7,↓XX,XY,↓reduceIte,Nat.reduceBEq,Nat.reduceAdd,Int.reduceEq,Int.reduceLT,Int.reduceLE,hno,↓Lf,↓Cs,↓CA,↓JS,h1,h2,↓Aw hv0,↓Ag hsame,↓Ag hfree];exact Bb rfl _
   ·rw [if_neg (by simp [h2])];rw [h1,decide_eq_true (rfl:(1:Int)=1),decide_eq_false h2,Bool.and_false] at hsame;simp only [Am,hze,AB5,AB4];simp only [↓J7,↓XX,XY,↓reduceIte,Nat.reduceBEq,Nat.reduceAdd,Int.reduceEq,Int.reduceLT,Int.reduceLE,hno,↓Lf,↓Cs,↓CA,↓JS,h1,↓Aw hv0,↓Ag hsame];exact Bb rfl _
  ·rw [if_neg (by simp [h1])];rw [decide_eq_false h1,Bool.false_and] at hsame;simp only [Am,hze,AB5,AB4];simp only [↓J7,↓XX,XY,↓reduceIte,Nat.reduceBEq,Nat.reduceAdd,Int.reduceEq,Int.reduceLT,Int.reduceLE,hno,↓Lf,↓Cs,↓CA,↓JS,↓Aw hv0,↓Ag hsame];exact Bb rfl _
 ·rw [At2 (by simpa [Tm.op] using h5)];simp only [Am,hze,AB5,AB4];simp only [↓J7,↓XX,XY,↓reduceIte,Nat.reduceBEq,Nat.reduceAdd,Int.reduceEq,Int.reduceLT,Int.reduceLE,hno,↓Lf,↓Cs,↓CA,↓JS,h5];exact Bb rfl _
theorem S4:∀(n:Nat) (t:Tm) (k:Nat),t.sc k->2 * t.wt+40<n->k+2 * t.wt<=90000000->AZ (SS dt n 86 [.fv t.enc] ⟨[],[]⟩) t.eta.enc:=by
 intro n
 induction n with
 | zero=>intro t k _ h;omega
 | succ n ih =>
  intro t k hs hn hw;have hwk:=Fd t k hs;obtain ⟨op,m,ks⟩:=t;rw [Tm.sc] at hs;rw [Tm.wk] at hwk;simp only [Tm.wt] at hn hw;have hlen:=Fj ks;have hkd:=etaL_sc op 0 ks k hs.2.2 (by omega);have hdl:=OX ks;refine Aig hwk.1 (by omega) (fun x hx=>?_) (fun K tok rec hK=>?_)
  ·have hxw:=CZ hx;obtain ⟨i,hi⟩:=List.getElem?_of_mem hx;have hxs:=LV hs.2.2 hi;have hble:=Bj op (0+i);exact ih x _ hxs (by omega) (by omega)
  ·rw [Tm.eta];by_cases h4:op=4
   ·subst h4;rw [if_pos rfl];have h2:ks.length=2:=by have:=hs.1;rw [show ar 4=some 2 by decide] at this;simp only [ABZ] at this;omega
    have hne:ks≠[]:=by intro h;rw [h] at h2;cases h2
    rw [AfQ 4 (.inl rfl)] at hK;rcases hK with ⟨h,_⟩ | ⟨_,rfl,rfl⟩
    ·exact absurd h hne
    ·generalize Tm.etaL ks=D at hkd hdl;have hd2:D.length=2:=by omega
     match D,hd2,hkd with
     | [a,b],_,hkd =>
      simp only [Tm.scL,Tm.wtL] at hkd;exact Aud rec h2 (by omega) (by omega) hkd.1.2.1
   ·rw [if_neg h4];by_cases h7:op=7
    ·subst h7;rw [if_pos rfl];have h2:ks.length=3:=by have:=hs.1;rw [show ar 7=some 3 by decide] at this;simp only [ABZ] at this;omega
     have hne:ks≠[]:=by intro h;rw [h] at h2;cases h2
     rw [AfQ 7 (.inr rfl)] at hK;rcases hK with ⟨h,_⟩ | ⟨_,rfl,rfl⟩
     ·exact absurd h hne
     ·generalize Tm.etaL ks=D at hkd hdl;have hd2:D.length=3:=by omega
      match D,hd2,hkd with
      | [a,b,c],_,hkd =>
       simp only [Tm.scL,Tm.wtL] at hkd;refine AtH rec h2 (by omega) (by omega) (fun h5=>?_) (fun h5=>?_)
       ·have:=K2 hkd.1.2.1 h5 (show ar 8=some 1 by decide)
        match hbk:b.kids,this with
        | [f],_=>exact ⟨f,rfl⟩
       ·have:=K2 hkd.1.2.2.1 h5 (show ar 9=some 1 by decide)
        match hbk:c.kids,this with
        | [f],_=>exact ⟨f,rfl⟩
    ·rw [if_neg h7];exact XU (by omega) rec hK
mutual
def Tm.count:Tm->Int->Int
 | .mk _ _ l,most=>Tm.countL l 1 most
def Tm.countL:List Tm->Int->Int->Int
 | [],n,_=>n
 | t::l,n,most=>if n<most then Tm.countL l (n+t.count (most - n)) most else n
end
mutual
theorem VG:∀(t:Tm) (m:Int),1<=t.count m/\(1<=m->t.count m<=m)
 | .mk _ _ l,m=>by
  have:=countL_le l 1 m
  simp only [Tm.count];omega
theorem countL_le:∀(l:List Tm) (n m:Int),n<=Tm.countL l n m/\(n<=m->Tm.countL l n m<=m)
 | [],n,m=>by simp only [Tm.countL];omega
 | t::l,n,m=>by
  simp only [Tm.countL];split
  ·have h1:=VG t (m - n);have h2:=countL_le l (n+t.count (m - n)) m;omega
  ·omega
end
theorem AiW:∀(n:Nat) (t:Tm) (most:Int),t.wt<n->most<=4611686018427387904->-4611686018427387904<=most->AZ (SS dt n 36 [.fv t.enc,iv most] ⟨[],[]⟩) (.int .i64 (t.count most)):=by
 intro n
 induction n with
 | zero=>intro t most h;omega
 | succ n ih =>
  intro t most h hm hm';obtain ⟨op,m,ks⟩:=t;simp only [Tm.wt] at h;rw [c36,Am];simp only [Po,OK,Pv,Ou,S36,↓XX,XY,↓reduceIte,Nat.reduceBEq,Nat.reduceAdd,Int.reduceEq,Int.reduceLT,Int.reduceLE,Tm.count];refine Bc (Q:=fun r=>AZ r _) (fun k V H=>∃rest pre acc,ks=pre++rest/\rest.length=k/\(pre.length:Int)<acc/\(acc<=1\/acc<=most)/\V=[iv most,.ptr (.own 37748736) 0,iv acc,iv pre.length] /\
   H=⟨[(37748736,.row [iv op,iv m,.fv (.sl (ks.map Tm.enc))] false)],[]⟩/\Tm.countL rest acc most=Tm.countL ks 1 most) ?_ n ks.length _ _ (by have:=Fj ks;omega) ⟨ks,[],1,rfl,rfl,by simp,.inl (by omega),rfl,rfl,rfl⟩
  rintro k V H rec ⟨rest,pre,acc,hk,hl,hpre,hacc,rfl,rfl,ht⟩ hrec;have hlen:ks.length=pre.length+rest.length:=by rw [hk];simp
  cases rest with
  | nil =>
   rw [<- ht];simp only [Po,OK,Pv,Ou,TJ,S36,↓XX,XY,↓reduceIte,Nat.reduceBEq,Nat.reduceAdd,Int.reduceEq,Int.reduceLT,Int.reduceLE,List.length_map,show ¬ ((pre.length:Int)<ks.length) by simp [hlen],Tm.countL]
   exact An _ _
  | cons t rest =>
   have hi:(pre.length:Int)<ks.length:=by rw [hlen];simp;omega
   by_cases ha:acc<most
   ·have hg:=CC hk;obtain ⟨o,p,l⟩:=t;have hb:=VG (.mk o p l) (most - acc);have hc:=ih (.mk o p l) (most - acc) (by have:=CZ (t:=.mk o p l) (l:=ks) (by rw [hk];simp);omega) (by omega) (by omega);rw [Am] at hc;simp only [Po,OK,Pv,Ou,TJ,S36,↓XX,XY,↓reduceIte,Nat.reduceBEq,Nat.reduceAdd,Int.reduceEq,Int.reduceLT,Int.reduceLE,List.length_map,hi,ha,↓Bt (AM hg) (Bg _ _ _),↓Cd,Av (show -9223372036854775808<=most - acc by omega) (show most - acc<=9223372036854775807 by omega),↓Ag hc,
     Av (show -9223372036854775808<=acc+(Tm.mk o p l).count (most - acc) by omega) (show acc+(Tm.mk o p l).count (most - acc)<=9223372036854775807 by omega),Av (show -9223372036854775808<=(pre.length:Int)+1 by omega) (show (pre.length:Int)+1<=9223372036854775807 by omega)]
    simp only [AB3] at hl;refine hrec rest.length _ _ (by omega) ?_;refine ⟨rest,pre++[.mk o p l],acc+(Tm.mk o p l).count (most - acc),by rw [hk];simp,rfl,by simp;omega,.inr (by omega),by simp,rfl,?_⟩;rw [<- ht];simp only [Tm.countL,if_pos ha]
   ·rw [<- ht];simp only [Po,OK,Pv,Ou,TJ,S36,↓XX,XY,↓reduceIte,Nat.reduceBEq,Nat.reduceAdd,Int.reduceEq,Int.reduceLT,Int.reduceLE,List.length_map,hi,ha,Tm.countL];exact An _ _
theorem QQ {n:Nat} (t:Tm) (h:t.wt<n):AZ (SS dt (n+1) 12 [.fv t.enc] ⟨[],[]⟩) (.bool (decide (t.count 300<300))):=by
 rw [c12];have hc:=AiW n t 300 h (by omega) (by omega);obtain ⟨op,m,ks⟩:=t;rw [Am] at hc ⊢;simp only [S12,↓XX,XY,↓reduceIte,Nat.reduceBEq,Nat.reduceAdd,Int.reduceEq,Int.reduceLT,Int.reduceLE,↓Ag hc];exact An _ _
def Tm.plainT:Nat->Tm->Tm
 | 0,_=>.mk 15 0 []
 | d+1,r=>if r.n % 4<2 then .mk 15 0 [] else .mk (16+r.n % 4 - 2) 0 [plainT d (r.pick 0),plainT d (r.pick 1)]
theorem Mi:∀(d n:Nat) (r:Tm),d+1<n->d<=1000->AZ (SS dt n 28 [.fv r.enc,iv d] ⟨[],[]⟩) (r.plainT d).enc:=by
 intro d
 induction d with
 | zero =>
  intro n r hn _;obtain ⟨n,rfl⟩:∃k,n=k+1:=⟨n - 1,by omega⟩;rw [c28];have hw:=As (n:=n) (by omega) r.n (m:=4) (by omega) (by omega);obtain ⟨op,m,ks⟩:=r;rw [Am];simp only [Tm.n] at hw;simp only [Rx,Sw,Rk,TE,SC,SY,Tx,S28,↓XX,XY,↓reduceIte,Nat.reduceBEq,Nat.reduceAdd,Int.reduceEq,Int.reduceLT,Int.reduceLE,↓Ag hw,↓Ag (BE (n:=n) (by omega) 15),Tm.plainT,Am];exact Bb rfl _
 | succ d ih =>
  intro n r hn hd;obtain ⟨n,rfl⟩:∃k,n=k+1:=⟨n - 1,by omega⟩;rw [c28];have hw:=As (n:=n) (by omega) r.n (m:=4) (by omega) (by omega);have h0:=ih n (r.pick 0) (by omega) (by omega);have h1:=ih n (r.pick 1) (by omega) (by omega);have p0:=AL (n:=n) (by omega) r 0;have p1:=AL (n:=n) (by omega) r 1;have ht:=CO (n:=n) (by omega) (16+r.n % 4 - 2) [(r.pick 0).plainT d,(r.pick 1).plainT d];have hb0:¬ ((d+1:Nat):Int)<=0:=by omega
  have hm:BK (((d+1:Nat):Int) - 1)=d:=by rw [Av]<;>omega
  have hr:=Int.emod_nonneg r.n (show (4:Int)≠0 by decide)
  have hr2:=Int.emod_lt_of_pos r.n (show (0:Int)<4 by decide)
  have e1:BK (16+r.n % 4)=16+r.n % 4:=by rw [Av]<;>omega
  have e2:BK (16+r.n % 4 - 2)=16+r.n % 4 - 2:=by rw [Av]<;>omega
  simp only [AB5,AB4] at ht;rw [Tm.plainT];obtain ⟨op,m,ks⟩:=r;rw [Am] at p0 p1 ⊢;simp only [Tm.n] at *;by_cases hk:m % 4<2
  ·simp only [Rx,Sw,Rk,TE,SC,SY,Tx,S28,↓XX,XY,↓reduceIte,Nat.reduceBEq,Nat.reduceAdd,Int.reduceEq,Int.reduceLT,Int.reduceLE,↓Ag hw,Tm.n,↓Ag (BE (n:=n) (by omega) 15),hb0,hk,Am];exact Bb rfl _
  ·simp only [Rx,Sw,Rk,TE,SC,SY,Tx,S28,↓XX,XY,↓reduceIte,Nat.reduceBEq,Nat.reduceAdd,Int.reduceEq,Int.reduceLT,Int.reduceLE,↓Ag hw,hb0,hk,e1,e2,hm,↓Ag p0,↓Ag p1,↓Ag h0,↓Ag h1,↓Auo,↓Ag ht];simp only [↓XX,XY,↓reduceIte,Nat.reduceBEq,Nat.reduceAdd,Int.reduceEq,Int.reduceLT,Int.reduceLE,Am];exact Bb rfl _
def Tm.typed:Tm->Bool
 | .mk op _ []=>decide (op=15)
 | .mk op _ [a,b]=>(decide (op=16) || decide (op=17)) && (a.typed && b.typed)
 | _=>false
theorem AiZ (op m:Int) (a:Tm):(Tm.mk op m [a]).typed=false:=by rw [Tm.typed]<;>simp
theorem Ajx (op m:Int) (a b c:Tm) (l:List Tm):(Tm.mk op m (a::b::c::l)).typed=false:=by rw [Tm.typed]<;>simp
theorem EC:∀(d:Nat) (r:Tm),(r.plainT d).wt<=2 ^ (d+1) - 1
 | 0,r=>by simp [Tm.plainT,Tm.wt,Tm.wtL]
 | d+1,r=>by
  have h1:=EC d (r.pick 0);have h2:=EC d (r.pick 1);have h3:0<2 ^ (d+1):=Nat.pow_pos (by decide);simp only [Tm.plainT];split
  ·simp only [Tm.wt,Tm.wtL,Nat.pow_succ] at *;omega
  ·simp only [Tm.wt,Tm.wtL,Nat.pow_succ] at *;omega
theorem Ce {op n:Int} {k:Nat} (h:ar op=some 0) (h1:op≠1) (hn:BJ op n):(Tm.mk op n []).sc k:=by
 rw [Tm.sc];exact ⟨h,by rw [if_neg h1];exact hn,trivial⟩
theorem FO {op n:Int} {k:Nat} {a:Tm} (h:ar op=some 1) (h1:op≠1) (hn:BJ op n) (ha:a.sc (k+Af op 0)):(Tm.mk op n [a]).sc k:=by
 rw [Tm.sc];exact ⟨h,by rw [if_neg h1];exact hn,ha,trivial⟩
theorem Cr {op n:Int} {k:Nat} {a b:Tm} (h:ar op=some 2) (h1:op≠1) (hn:BJ op n) (ha:a.sc (k+Af op 0)) (hb:b.sc (k+Af op 1)):(Tm.mk op n [a,b]).sc k:=by
 rw [Tm.sc];exact ⟨h,by rw [if_neg h1];exact hn,ha,hb,trivial⟩
theorem WE {op n:Int} {k:Nat} {a b c:Tm} (h:ar op=some 3) (h1:op≠1) (hn:BJ op n) (ha:a.sc (k+Af op 0)) (hb:b.sc (k+Af op 1)) (hc:c.sc (k+Af op 2)):(Tm.mk op n [a,b,c]).sc k:=by
 rw [Tm.sc];exact ⟨h,by rw [if_neg h1];exact hn,ha,hb,hc,trivial⟩
theorem AtF {op n:Int} {k:Nat} {a b c d:Tm} (h:ar op=some 4) (h1:op≠1) (hn:BJ op n) (ha:a.sc (k+Af op 0)) (hb:b.sc (k+Af op 1)) (hc:c.sc (k+Af op 2)) (hd:d.sc (k+Af op 3)):(Tm.mk op n [a,b,c,d]).sc k:=by
 rw [Tm.sc];exact ⟨h,by rw [if_neg h1];exact hn,ha,hb,hc,hd,trivial⟩
theorem AuT {n:Int} {k:Nat} (h:0<=n) (h2:n<k):(Tm.mk 1 n []).sc k:=by
 rw [Tm.sc];exact ⟨by decide,by rw [if_pos rfl];exact ⟨h,h2⟩,trivial⟩
theorem BB {op:Int} (h2:op≠2) (h26:op≠26) (h25:op≠25):BJ op 0:=by
 rw [BJ,if_neg h2,if_neg h26,if_neg h25]
theorem Ati (k:Nat):Tm.z.sc k:=Ce (by decide) (by decide) (BB (by decide) (by decide) (by decide))
theorem Ai4 (k:Nat):∀n,(CM n).sc k
 | 0=>Ce (by decide) (by decide) (BB (by decide) (by decide) (by decide))
 | n+1=>FO (by decide) (by decide) (BB (by decide) (by decide) (by decide)) (Ai4 _ n)
theorem FH (k:Nat):∀(d:Nat) (r:Tm),(r.plainT d).sc k
 | 0,r=>by rw [Tm.plainT];exact Ce (by decide) (by decide) (BB (by decide) (by decide) (by decide))
 | d+1,r=>by
  have h1:=Int.emod_nonneg r.n (show (4:Int)≠0 by decide)
  have h2:=Int.emod_lt_of_pos r.n (show (0:Int)<4 by decide)
  rw [Tm.plainT];split
  ·exact Ce (by decide) (by decide) (BB (by decide) (by decide) (by decide))
  ·have h3:16+r.n % 4 - 2=16\/16+r.n % 4 - 2=17:=by omega
   rcases h3 with h3 | h3<;>(rw [h3];exact Cr (by decide) (by decide) (BB (by decide) (by decide) (by decide)) (FH _ d _) (FH _ d _))
mutual
theorem P3:∀t:Tm,t.dp<=t.wt
 | .mk op n l=>by
  have:=dpL_wt l
  simp only [Tm.dp,Tm.wt];omega
theorem dpL_wt:∀l:List Tm,Tm.dpL l<=Tm.wtL l
 | []=>by simp [Tm.dpL]
 | t::l=>by
  have h1:=P3 t;have h2:=dpL_wt l;simp only [Tm.dpL,Tm.wtL];omega
end
abbrev Ci:=List (Int×Tm)
def v1 (p:Int×Tm):FV:=.agg [.int .i64 p.1,.int .i64 p.2.op,.int .i64 p.2.n,.sl (p.2.kids.map Tm.enc)]
def A6 (g:Ci):FV:=.sl (g.map v1)
structure GOk (e:Nat) (g:Ci):Prop where
 len:g.length+2 * e<=60
 ok:∀(i:Nat) (p:Int×Tm),g[i]?=some p->p.2.sc i/\p.2.wt<=100000000000/\p.2.dp<=6000
theorem AT {e e':Nat} {g:Ci} (h:e'<=e) (hg:GOk e g):GOk e' g:=⟨by have:=hg.len;omega,hg.ok⟩
theorem Db {e:Nat} {g:Ci} {s:Int} {a:Tm} (hg:GOk (e+1) g) (h1:a.sc g.length) (h2:a.wt<=100000000000) (h3:a.dp<=6000):GOk e (g++[(s,a)]):=by
 refine ⟨by have:=hg.len;simp;omega,?_⟩;intro i p hp;by_cases hi:i<g.length
 ·rw [List.getElem?_append_left hi] at hp;exact hg.ok i p hp
 ·rw [List.getElem?_append_right (by omega)] at hp;have hi2:i - g.length=0:=by
   cases h:i - g.length with
   | zero=>rfl
   | succ j=>rw [h] at hp;simp at hp
  rw [hi2] at hp;simp only [List.getElem?_cons_zero,ABZ] at hp;subst hp;rw [show i=g.length by omega]
  exact ⟨h1,h2,h3⟩
def Wg (e:Nat):Nat:=8000 * 4 ^ e
def Dg (e:Nat):Nat:=200+10 * e
theorem MN (e:Nat):Wg (e+1)=4 * Wg e:=by unfold Wg;rw [Nat.pow_succ];omega
theorem MR (e:Nat):8000<=Wg e:=by
 have:1<=4 ^ e:=Nat.one_le_pow _ _ (by decide)
 unfold Wg;omega
theorem S8 {e e':Nat} (h:e<=e'):Wg e<=Wg e':=by
 unfold Wg;exact Nat.mul_le_mul_left _ (Nat.pow_le_pow_right (by decide) h)
theorem Pb {e:Nat} (h:e<=10):Wg e<=21000000000:=Nat.le_trans (S8 h) (by decide)
structure TOk (k e:Nat) (t:Tm):Prop where
 sc:t.sc k
 wt:t.wt<=Wg e
 dp:t.dp<=Dg e
theorem VE {k e e':Nat} {t:Tm} (h:e<=e') (ht:TOk k e t):TOk k e' t:=⟨ht.sc,Nat.le_trans ht.wt (S8 h),by have:=ht.dp;unfold Dg at *;omega⟩
structure AOk (k:Nat) (a:Tm):Prop where
 sc:a.sc k
 wt:a.wt<=1000000000000000
 dp:a.dp<=10000
structure NOk (k:Nat) (a:Tm):Prop where
 sc:a.sc k
 wt:a.wt<=3000
 dp:a.dp<=120
theorem Bv {k:Nat} {a:Tm} (h:NOk k a):AOk k a:=⟨h.sc,by have:=h.wt;omega,by have:=h.dp;omega⟩
def Tm.badR:Tm->Bool
 | .mk op _ [_,z,_,_]=>decide (op=13) && (decide (z.op=19) || z.badR)
 | _=>false
theorem Apw {t:Tm} (h:t.badR=true):t.op=13:=by
 unfold Tm.badR at h;split at h
 ·rename_i he;simp only [Bool.and_eq_true,decide_eq_true_eq] at h;exact h.1
 ·cases h
def Aw0 (op n:Int) (ks:List Tm):Prop :=
 ar op=some ks.length/\(op=1->0<=n/\n<=1000000)/\(op=13->n=0)/\(op=5->∃m a b x,ks=[.mk 4 m [a,b],x])/\(op=8\/op=9->∃m a x y,ks=[.mk 7 m [a,x,y]]) /\
 (op=19->∀x∈ks,x.op≠19/\x.op≠13)/\(op=30->∀x∈ks,x.op≠30)/\(op=13->∀a b c d,ks=[a,b,c,d]->b.op≠30/\(d.op≠19/\d.op≠30)/\d.badR=false)
mutual
def Tm.good:Tm->Prop
 | .mk op n ks=>Aw0 op n ks/\Tm.goodL ks
def Tm.goodL:List Tm->Prop
 | []=>True
 | t::l=>t.good/\Tm.goodL l
end
theorem Qg:∀{l:List Tm} {t:Tm},Tm.goodL l->t∈l->t.good
 | x::l,t,h,hm=>by
  rw [Tm.goodL] at h;rcases List.mem_cons.1 hm with rfl | hm
  ·exact h.1
  ·exact Qg h.2 hm
theorem Ha (ev:Int->Int->Tm->Option (RV×Int×Int)) (hev:∀s e t v s',ev s e t=some (v,s',0)->e=0) (op:Int) (env:List RV):∀(l:List Tm) (i:Nat) (s e:Int) (vs:List RV) (s':Int),AU ev op env i l s e=some (vs,s',0)->e=0
 | [],i,s,e,vs,s',h=>by
  simp only [AU,ABZ,AB0] at h;exact h.2.2
 | t::l,i,s,e,vs,s',h=>by
  simp only [AU] at h;split at h
  ·cases hk:AU ev op env (i+1) l s e with
   | none=>rw [hk] at h;cases h
   | some q =>
    obtain ⟨vs1,s1,e1⟩:=q;rw [hk] at h;simp only [AB2,ABZ,AB0] at h;rw [h.2.2] at hk;exact Ha ev hev op env l _ _ _ _ _ hk
  ·split at h
   ·cases h
   ·rename_i v s1 e1 he;cases hk:AU ev op env (i+1) l s1 e1 with
    | none=>rw [hk] at h;cases h
    | some q =>
     obtain ⟨vs2,s2,e2⟩:=q;rw [hk] at h;simp only [AB2,ABZ,AB0] at h;rw [h.2.2] at hk
     have:=Ha ev hev op env l _ _ _ _ _ hk
     rw [this] at he;exact hev _ _ _ _ _ he
theorem Cu {f:Nat} {s e:Int} {t:Tm} {env:List RV} {v:RV} {s':Int} (h:AA f s e t env=some (v,s',0)):e=0:=by
 cases f with
 | zero=>rw [AA] at h;cases h
 | succ f =>
  obtain ⟨op,n,ks⟩:=t;rw [AA] at h;by_cases he:e=0
  ·exact he
  ·rw [if_pos he] at h;simp only [ABZ,AB0] at h;exact h.2.2
theorem H3 {f:Nat} {s e:Int} {w v:RV} {s':Int} (h:headR f s e w=some (v,s',0)):e=0:=by
 cases f with
 | zero=>rw [headR] at h;cases h
 | succ f =>
  rw [headR] at h;by_cases he:e=0
  ·exact he
  ·rw [if_pos he] at h;simp only [ABZ,AB0] at h;exact h.2.2
theorem Cp {α:Type} {l:List α} (h:l.length=1):∃a,l=[a]:=by
 match l,h with
 | [a],_=>exact ⟨a,rfl⟩
theorem T5 {α:Type} {l:List α} (h:l.length=2):∃a b,l=[a,b]:=by
 match l,h with
 | [a,b],_=>exact ⟨a,b,rfl⟩
theorem AuZ {α:Type} {l:List α} (h:l.length=3):∃a b c,l=[a,b,c]:=by
 match l,h with
 | [a,b,c],_=>exact ⟨a,b,c,rfl⟩
theorem PM {α:Type} {l:List α} (h:l.length=4):∃a b c d,l=[a,b,c,d]:=by
 match l,h with
 | [a,b,c,d],_=>exact ⟨a,b,c,d,rfl⟩
theorem Z2 {f:Nat} {s s2 m:Int} {a b:Tm} {env:List RV} {r:RV} (h:AA f s 0 (.mk 4 m [a,b]) env=some (r,s2,0)):∃va,r=.node 4 m [va,.clo env b]:=by
 cases f with
 | zero=>rw [AA] at h;cases h
 | succ f =>
  rw [AA] at h;rw [if_neg (by simp)] at h;split at h
  ·cases h
  rw [if_neg (by decide)] at h;split at h
  ·cases h
  split at h
  ·cases h
  split at h
  ·cases h
  rename_i vs s1 e1 hk;have he:=H3 h;subst he;simp only [AU] at hk;rw [if_neg (by decide)] at hk;split at hk
  ·cases hk
  rename_i va s3 e3 hva;rw [if_pos (by decide)] at hk;simp only [AB2,ABZ,AB0] at hk;obtain ⟨rfl,rfl,rfl⟩:=hk;cases f with
  | zero=>rw [headR] at h;cases h
  | succ f =>
   rw [headR] at h;rw [if_neg (by simp)] at h;split at h
   ·cases h
   have hop:(RV.node 4 m [va,.clo env b]).op=4:=rfl;rw [hop,if_neg (by decide),if_neg (by decide),if_neg (by decide),if_neg (by decide),if_neg (by decide)] at h;simp only [ABZ,AB0] at h;exact ⟨va,h.1.symm⟩
theorem Aj1 {f:Nat} {s s2 m:Int} {a x y:Tm} {env:List RV} {r:RV} (h:AA f s 0 (.mk 7 m [a,x,y]) env=some (r,s2,0)):∃va vx vy,r=.node 7 m [va,vx,vy]:=by
 cases f with
 | zero=>rw [AA] at h;cases h
 | succ f =>
  rw [AA] at h;rw [if_neg (by simp)] at h;split at h
  ·cases h
  rw [if_neg (by decide)] at h;split at h
  ·cases h
  split at h
  ·cases h
  split at h
  ·cases h
  rename_i vs s1 e1 hk;have he:=H3 h;subst he;have hl:∃va vx vy,vs=[va,vx,vy]:=by
   simp only [AU] at hk;rw [if_neg (by decide)] at hk;split at hk
   ·cases hk
   rename_i va s3 e3 hva;rw [if_neg (by decide)] at hk;split at hk
   ·cases hk
   rename_i vx s4 e4 hvx;rw [if_neg (by decide)] at hk;split at hk
   ·cases hk
   rename_i vy s5 e5 hvy;simp only [AB2,ABZ,AB0] at hk;exact ⟨va,vx,vy,hk.1.symm⟩
  obtain ⟨va,vx,vy,rfl⟩:=hl;cases f with
  | zero=>rw [headR] at h;cases h
  | succ f =>
   rw [headR] at h;rw [if_neg (by simp)] at h;split at h
   ·cases h
   have hop:(RV.node 7 m [va,vx,vy]).op=7:=rfl;rw [hop,if_neg (by decide),if_neg (by decide),if_neg (by decide),if_neg (by decide),if_neg (by decide)] at h;simp only [ABZ,AB0] at h;exact ⟨va,vx,vy,h.1.symm⟩
theorem FR {f:Nat} {s nd e:Int} {v:RV} {u d:Int} {t:Tm} {s' nd':Int} (h:AS f s nd e v u d=some (t,s',nd',0)):e=0:=by
 cases f with
 | zero=>rw [AS] at h;cases h
 | succ f =>
  rw [AS] at h;split at h
  ·cases h
  by_cases he:e=0
  ·exact he
  ·rw [if_neg (show ¬ (e=0/\(3000<nd+1\/120<d)) from fun h=>he h.1),if_pos he] at h
   simp only [ABZ,AB0] at h;exact h.2.2.2
abbrev MO:=List (List Nat×Nat)
inductive Rule:Int->Nat->MO->Prop
 | natT:Rule 10 10 []
 | natU:Rule 10 2 []
 | tyT:Rule 14 11 []
 | tyU:Rule 14 2 []
 | uT:Rule 2 12 []
 | uU:Rule 2 2 []
 | liftT:Rule 18 13 [([],1)]
 | liftU:Rule 18 2 [([],1)]
 | piT (a b:Nat) (ha:a<6) (hb:b<6):Rule 3 14 [([],10+a),([a],10+b)]
 | piU (a:Nat) (ha:a<10):Rule 3 2 [([],2),([a],2)]
 | sigT (a b:Nat) (ha:a<6) (hb:b<6):Rule 6 15 [([],10+a),([a],10+b)]
 | sigU (a s0 s1:Nat) (ha:a<10):Rule 6 2 [([],s0),([a],s1)]
 | lam (a s s0:Nat) (ha:a<10):Rule 4 4 [([],s0),([a],s)]
 | pair (s0 s1 s2:Nat):Rule 7 5 [([],s0),([],s1),([],s2)]
 | zero:Rule 11 0 []
 | suc:Rule 12 0 [([],0)]
 | recR (s:Nat) (hs:s<6):Rule 13 s [([0],10+s),([],s),([s,0],s),([],0)]
 | tint:Rule 15 1 []
 | tfun:Rule 16 1 [([],1),([],1)]
 | tpro:Rule 17 1 [([],1),([],1)]
 | quo:Rule 19 3 [([],6)]
 | spl:Rule 30 6 [([],3)]
 | olam:Rule 20 6 [([],1),([6],6)]
 | oapp:Rule 21 6 [([],6),([],6)]
 | opair:Rule 22 6 [([],6),([],6)]
 | ofst:Rule 23 6 [([],6)]
 | osnd:Rule 24 6 [([],6)]
 | oint:Rule 25 6 []
 | oprim:Rule 26 6 [([],6),([],6)]
 | oif:Rule 27 6 [([],6),([],6),([],6)]
 | olet:Rule 28 6 [([],6),([6],6)]
 | ofix:Rule 29 6 [([],1),([6],6)]
theorem E4 {op:Int} {s:Nat} {sg:MO} (h:Rule op s sg):op≠1/\op≠5/\op≠8/\op≠9:=by
 cases h<;>decide
theorem Hs {op:Int} {s:Nat} {sg:MO} (h:Rule op s sg) {i:Nat} {bs:List Nat} {s':Nat} (hi:sg[i]?=some (bs,s')):bs.length=Af op i/\∀x∈bs,x<10:=by
 have hlt:=(List.getElem?_eq_some_iff.1 hi).1;have h4:i<4:=by cases h<;>simp only [AB3,List.length_nil] at hlt<;>omega
 have hi4:i=0\/i=1\/i=2\/i=3:=by omega
 cases h<;>rcases hi4 with rfl | rfl | rfl | rfl<;>simp only [List.getElem?_cons_zero,List.getElem?_cons_succ,List.getElem?_nil,ABZ,AB0,reduceCtorEq] at hi<;>(obtain ⟨rfl,rfl⟩:=hi;refine ⟨rfl,?_⟩;simp;try omega)
inductive HasT:List Nat->Tm->Nat->Prop
 | var (G:List Nat) (n:Int) (s:Nat) (h0:0<=n) (h:G[n.toNat]?=some s) (hs:s<10):HasT G (.mk 1 n []) s
 | node (G:List Nat) (op n:Int) (ks:List Tm) (s:Nat) (sg:MO) (hr:Rule op s sg) (hl:ks.length=sg.length) (hk:∀(i:Nat) t bs s',ks[i]?=some t->sg[i]?=some (bs,s')->HasT (bs++G) t s'):HasT G (.mk op n ks) s
 | app (G:List Nat) (n m:Int) (a b x:Tm) (y s s0:Nat) (hs:s<10) (hy:y<10) (ha:HasT G a s0) (hb:HasT (y::G) b s) (hx:HasT G x y):HasT G (.mk 5 n [.mk 4 m [a,b],x]) s
 | fst (G:List Nat) (n m:Int) (a x y:Tm) (s s1 s0:Nat) (hs:s<10) (ha:HasT G a s0) (hx:HasT G x s) (hy:HasT G y s1):HasT G (.mk 8 n [.mk 7 m [a,x,y]]) s
 | snd (G:List Nat) (n m:Int) (a x y:Tm) (s s1 s0:Nat) (hs:s<10) (ha:HasT G a s0) (hx:HasT G x s1) (hy:HasT G y s):HasT G (.mk 9 n [.mk 7 m [a,x,y]]) s
theorem O0 (op d c:Int):∀(l:List Tm) (i j:Nat),(Tm.shiftL op i l d c)[j]?=(l[j]?).map fun t=>t.shift d (c+Af op (i+j))
 | [],_,_=>by simp [Tm.shiftL]
 | t::l,i,0=>by simp [Tm.shiftL]
 | t::l,i,j+1=>by
  simp only [Tm.shiftL,List.getElem?_cons_succ];rw [O0 op d c l (i+1) j,show i+1+j=i+(j+1) by omega]
theorem OG (op n d:Int) (u:Tm):∀(l:List Tm) (i j:Nat),(Tm.substL op i l n d u)[j]?=(l[j]?).map fun t=>t.subst (n+Af op (i+j)) (d+Af op (i+j)) u
 | [],_,_=>by simp [Tm.substL]
 | t::l,i,0=>by simp [Tm.substL]
 | t::l,i,j+1=>by
  simp only [Tm.substL,List.getElem?_cons_succ];rw [OG op n d u l (i+1) j,show i+1+j=i+(j+1) by omega]
theorem Iv:∀{l:List Tm} {j:Nat} {t:Tm},l[j]?=some t->t.wt<=Tm.wtL l
 | [],_,_,h=>by simp at h
 | x::l,0,t,h=>by
  simp only [List.getElem?_cons_zero,ABZ] at h;subst h;simp only [Tm.wtL];omega
 | x::l,j+1,t,h=>by
  simp only [List.getElem?_cons_succ] at h
  have:=Iv h
  simp only [Tm.wtL];omega
theorem AoK {G1 D G2:List Nat} {n:Nat} (h:G1.length<=n):(G1++D++G2)[n+D.length]?=(G1++G2)[n]?:=by
 rw [List.append_assoc,List.getElem?_append_right (by omega),List.getElem?_append_right (by omega),List.getElem?_append_right h];congr 1;omega
theorem Anh {G1 D G2:List Nat} {n:Nat} (h:n<G1.length):(G1++D++G2)[n]?=(G1++G2)[n]?:=by
 rw [List.append_assoc,List.getElem?_append_left h,List.getElem?_append_left h]
theorem WY {G:List Nat} {t:Tm} {s:Nat} (h:HasT G t s):∀(G1 D G2:List Nat),G=G1++G2->G1.length+G2.length+D.length+2 * t.wt<=9000000000000000000->HasT (G1++D++G2) (t.shift D.length G1.length) s:=by
 induction h with
 | var G n s h0 h hs =>
  intro G1 D G2 hG hb;subst hG;have hn:n.toNat<(G1++G2).length:=(List.getElem?_eq_some_iff.1 h).1;rw [List.length_append] at hn;rw [Tm.shift,Tm.shiftL];by_cases hc:(G1.length:Int)<=n
  ·rw [if_pos ⟨rfl,hc⟩,Av (by omega) (by omega)];refine HasT.var _ _ _ (by omega) ?_ hs;rw [show (n+(D.length:Int)).toNat=n.toNat+D.length by omega,AoK (by omega)]
   exact h
  ·rw [if_neg (fun h=>hc h.2)];refine HasT.var _ _ _ h0 ?_ hs;rw [Anh (by omega)];exact h
 | node G op n ks s sg hr hl hk ih =>
  intro G1 D G2 hG hb;rw [Tm.shift,if_neg (fun h=>(E4 hr).1 h.1)];refine HasT.node _ _ _ _ _ sg hr (by rw [EA];exact hl) ?_;intro i t bs s' ht hs;rw [O0,Nat.zero_add] at ht;cases hx:ks[i]? with
  | none=>rw [hx] at ht;cases ht
  | some x =>
   rw [hx] at ht;simp only [AB2,ABZ] at ht;subst ht;have h1:=Hs hr hs;have h2:=Bj op i;have h3:=Iv hx;simp only [Tm.wt] at hb
   have:=ih i x bs s' hx hs (bs++G1) D G2 (by rw [hG,List.append_assoc]) (by rw [List.length_append];omega)
   rw [List.length_append,h1.1] at this;rw [show (G1.length:Int)+(Af op i:Int)=((Af op i+G1.length:Nat):Int) by omega]
   simpa using this
 | app G n m a b x y s s0 hs hy ha hb hx iha ihb ihx =>
  intro G1 D G2 hG hbd;simp only [Tm.wt,Tm.wtL] at hbd;have h1:=iha G1 D G2 hG (by omega);have h2:=ihb (y::G1) D G2 (by rw [hG];rfl) (by simp only [AB3];omega);have h3:=ihx G1 D G2 hG (by omega);simp only [Tm.shift,Tm.shiftL];rw [if_neg (by omega),if_neg (by omega)];refine HasT.app _ _ _ _ _ _ y s s0 hs hy ?_ ?_ ?_
  ·simpa [Af] using h1
  ·simpa [Af] using h2
  ·simpa [Af] using h3
 | fst G n m a x y s s1 s0 hs ha hx hy iha ihx ihy =>
  intro G1 D G2 hG hbd;simp only [Tm.wt,Tm.wtL] at hbd;have h1:=iha G1 D G2 hG (by omega);have h2:=ihx G1 D G2 hG (by omega);have h3:=ihy G1 D G2 hG (by omega);simp only [Tm.shift,Tm.shiftL];rw [if_neg (by omega),if_neg (by omega)];refine HasT.fst _ _ _ _ _ _ s s1 s0 hs ?_ ?_ ?_
  ·simpa [Af] using h1
  ·simpa [Af] using h2
  ·simpa [Af] using h3
 | snd G n m a x y s s1 s0 hs ha hx hy iha ihx ihy =>
  intro G1 D G2 hG hbd;simp only [Tm.wt,Tm.wtL] at hbd;have h1:=iha G1 D G2 hG (by omega);have h2:=ihx G1 D G2 hG (by omega);have h3:=ihy G1 D G2 hG (by omega);simp only [Tm.shift,Tm.shiftL];rw [if_neg (by omega),if_neg (by omega)];refine HasT.snd _ _ _ _ _ _ s s1 s0 hs ?_ ?_ ?_
  ·simpa [Af] using h1
  ·simpa [Af] using h2
  ·simpa [Af] using h3
theorem Jo {G:List Nat} {t:Tm} {s:Nat} (h:HasT G t s) (D:List Nat) (hb:G.length+D.length+2 * t.wt<=9000000000000000000):HasT (D++G) (t.shift D.length 0) s:=by
 have:=WY h [] D G rfl (by simp only [List.length_nil];omega)
 simpa using this
theorem W3 {G:List Nat} {t:Tm} {s:Nat} (h:HasT G t s):∀(G1 G2:List Nat) (y:Nat) (u:Tm),G=G1++y::G2->HasT G2 u y->G1.length+G2.length+2 * t.wt+2 * u.wt<=4000000000000000000->HasT (G1++G2) (t.subst G1.length G1.length u) s:=by
 induction h with
 | var G n s h0 h hs =>
  intro G1 G2 y u hG hu hb;subst hG;have hn:n.toNat<(G1++y::G2).length:=(List.getElem?_eq_some_iff.1 h).1;simp only [List.length_append,AB3] at hn;rw [Tm.subst,if_pos rfl];by_cases h1:n=(G1.length:Int)
  ·rw [if_pos h1];rw [show n.toNat=G1.length by omega,List.getElem?_append_right (Nat.le_refl _),Nat.sub_self] at h
   simp only [List.getElem?_cons_zero,ABZ] at h;subst h
   have:=Jo hu G1 (by omega)
   exact this
  ·rw [if_neg h1];by_cases h2:(G1.length:Int)<n
   ·rw [if_pos h2,Av (by omega) (by omega)];refine HasT.var _ _ _ (by omega) ?_ hs;rw [List.getElem?_append_right (by omega)] at h ⊢;rw [show n.toNat - G1.length=((n - 1).toNat - G1.length)+1 by omega,List.getElem?_cons_succ] at h
    exact h
   ·rw [if_neg h2];refine HasT.var _ _ _ h0 ?_ hs;rw [List.getElem?_append_left (by omega)] at h ⊢;exact h
 | node G op n ks s sg hr hl hk ih =>
  intro G1 G2 y u hG hu hb;rw [Tm.subst,if_neg (E4 hr).1];refine HasT.node _ _ _ _ _ sg hr (by rw [Hy];exact hl) ?_;intro i t bs s' ht hs;rw [OG,Nat.zero_add] at ht;cases hx:ks[i]? with
  | none=>rw [hx] at ht;cases ht
  | some x =>
   rw [hx] at ht;simp only [AB2,ABZ] at ht;subst ht;have h1:=Hs hr hs;have h2:=Bj op i;have h3:=Iv hx;simp only [Tm.wt] at hb
   have:=ih i x bs s' hx hs (bs++G1) G2 y u (by rw [hG,List.append_assoc]) hu (by rw [List.length_append];omega)
   rw [List.length_append,h1.1] at this;rw [show (G1.length:Int)+(Af op i:Int)=((Af op i+G1.length:Nat):Int) by omega]
   simpa using this
 | app G n m a b x y s s0 hs hy ha hb hx iha ihb ihx =>
  intro G1 G2 z u hG hu hbd;simp only [Tm.wt,Tm.wtL] at hbd;have h1:=iha G1 G2 z u hG hu (by omega);have h2:=ihb (y::G1) G2 z u (by rw [hG];rfl) hu (by simp only [AB3];omega);have h3:=ihx G1 G2 z u hG hu (by omega);simp only [Tm.subst,Tm.substL];rw [if_neg (by omega),if_neg (by omega)];refine HasT.app _ _ _ _ _ _ y s s0 hs hy ?_ ?_ ?_
  ·simpa [Af] using h1
  ·simpa [Af] using h2
  ·simpa [Af] using h3
 | fst G n m a x y s s1 s0 hs ha hx hy iha ihx ihy =>
  intro G1 G2 z u hG hu hbd;simp only [Tm.wt,Tm.wtL] at hbd;have h1:=iha G1 G2 z u hG hu (by omega);have h2:=ihx G1 G2 z u hG hu (by omega);have h3:=ihy G1 G2 z u hG hu (by omega);simp only [Tm.subst,Tm.substL];rw [if_neg (by omega),if_neg (by omega)];refine HasT.fst _ _ _ _ _ _ s s1 s0 hs ?_ ?_ ?_
  ·simpa [Af] using h1
  ·simpa [Af] using h2
  ·simpa [Af] using h3
 | snd G n m a x y s s1 s0 hs ha hx hy iha ihx ihy =>
  intro G1 G2 z u hG hu hbd;simp only [Tm.wt,Tm.wtL] at hbd;have h1:=iha G1 G2 z u hG hu (by omega);have h2:=ihx G1 G2 z u hG hu (by omega);have h3:=ihy G1 G2 z u hG hu (by omega);simp only [Tm.subst,Tm.substL];rw [if_neg (by omega),if_neg (by omega)];refine HasT.snd _ _ _ _ _ _ s s1 s0 hs ?_ ?_ ?_
  ·simpa [Af] using h1
  ·simpa [Af] using h2
  ·simpa [Af] using h3
def PS (op:Int):Option Nat:=if op=10 then some 0 else if op=14 then some 1 else if op=2 then some 2 else if op=18 then some 3 else if op=3 then some 4 else if op=6 then some 5 else none
theorem ApU {op:Int} {s:Nat} {sg:MO} (h:Rule op s sg) (hs:10<=s):PS op=some (s - 10)/\s<16:=by
 cases h<;>first | omega | exact ⟨rfl,by omega⟩
theorem Cq {G:List Nat} {t:Tm} {s:Nat} (h:HasT G t (10+s)):PS t.op=some s/\s<6:=by
 generalize hq:10+s=q at h;cases h with
 | node _ op n ks _ sg hr hl hk =>
  have:=ApU hr (by omega)
  rw [Tm.op,this.1];exact ⟨by congr 1;omega,by omega⟩
 | _=>omega
theorem Kn {G:List Nat} {t:Tm} {s:Nat} (h:HasT G t s):(s≠3->t.op≠19)/\(s≠6->t.op≠30):=by
 cases h with
 | var=>simp only [Tm.op];omega
 | node _ op n ks _ sg hr hl hk =>
  simp only [Tm.op];cases hr<;>refine ⟨?_,?_⟩<;>intro h1<;>first | decide | exact absurd rfl h1
 | app=>simp only [Tm.op];omega
 | fst=>simp only [Tm.op];omega
 | snd=>simp only [Tm.op];omega
theorem UE:∀{l:List Tm},(∀(i:Nat) t,l[i]?=some t->t.good)->Tm.goodL l
 | [],_=>by rw [Tm.goodL];trivial
 | x::l,h=>by
  rw [Tm.goodL];exact ⟨h 0 x rfl,UE fun i t hi=>h (i+1) t (by simpa using hi)⟩
theorem Ae3 {α:Type} {l:List α} {x:α} (h:x∈l):∃i:Nat,l[i]?=some x:=by
 obtain ⟨i,hi,he⟩:=List.mem_iff_getElem.1 h;exact ⟨i,by rw [List.getElem?_eq_getElem hi,he]⟩
theorem AkX {G:List Nat} {t:Tm} {s:Nat} (h:HasT G t s):t.op=13->s<6:=by
 intro ho;cases h with
 | var=>simp [Tm.op] at ho
 | node _ op n ks _ sg hr hl hk =>
  simp only [Tm.op] at ho;subst ho;cases hr with
  | recR s hs=>exact hs
 | app=>simp [Tm.op] at ho
 | fst=>simp [Tm.op] at ho
 | snd=>simp [Tm.op] at ho
theorem Aov {G:List Nat} {t:Tm} {s:Nat} (h:HasT G t s):t.badR=true->s=3:=by
 induction h with
 | var=>intro h;simp [Tm.badR] at h
 | node G op n ks s sg hr hl hk ih =>
  intro hb;unfold Tm.badR at hb;split at hb
  ·rename_i o n' a z c d he;simp only [Tm.mk.injEq] at he;obtain ⟨rfl,rfl,rfl⟩:=he;simp only [Bool.and_eq_true,Bool.or_eq_true,decide_eq_true_eq] at hb;obtain ⟨rfl,hb⟩:=hb;cases hr with
   | recR s hs =>
    rcases hb with hb | hb
    ·have:=(Kn (hk 1 z [] s rfl rfl)).1
     exact Decidable.byContradiction fun h=>this h hb
    ·exact ih 1 z [] s rfl rfl hb
  ·cases hb
 | app=>intro h;simp [Tm.badR] at h
 | fst=>intro h;simp [Tm.badR] at h
 | snd=>intro h;simp [Tm.badR] at h
theorem Aid {G:List Nat} {t:Tm} {s:Nat} (h:HasT G t s):∀k,t.sc k->k+2 * t.wt<=1000000->t.good:=by
 induction h with
 | var G n s h0 h hs =>
  intro k hsc hk;rw [Tm.sc,if_pos rfl] at hsc;rw [Tm.good,Tm.goodL];refine ⟨⟨rfl,fun _=>⟨h0,by simp only [Tm.wt,Tm.wtL] at hk;omega⟩,?_⟩,trivial⟩;exact ⟨by omega,by omega,by omega,by omega,by omega,by omega⟩
 | node G op n ks s sg hr hl hk ih =>
  intro k hsc hb;have h0:=hsc;rw [Tm.sc,if_neg (E4 hr).1] at hsc;obtain ⟨h1,h2,h3⟩:=hsc;obtain ⟨o1,o5,o8,o9⟩:=E4 hr;have hkid:∀(i:Nat) t,ks[i]?=some t->∃bs s',sg[i]?=some (bs,s'):=by
   intro i t hi
   have:i<sg.length:=by rw [<- hl];exact (List.getElem?_eq_some_iff.1 hi).1
   exact ⟨_,_,List.getElem?_eq_getElem this⟩
  rw [Tm.good];refine ⟨⟨h1,fun h=>absurd h o1,?_,fun h=>absurd h o5,fun h=>by omega,?_,?_,?_⟩,UE ?_⟩
  ·rintro rfl;simpa [BJ] using h2
  ·rintro rfl x hx;obtain ⟨i,hi⟩:=Ae3 hx;cases hr;have hi0:i=0:=by
    have:=(List.getElem?_eq_some_iff.1 hi).1
    simp only [AB3,List.length_nil] at hl;omega
   subst hi0;have hx:=hk 0 x [] 6 hi rfl;exact ⟨(Kn hx).1 (by decide),fun h=>by have:=AkX hx h;omega⟩
  ·rintro rfl x hx;obtain ⟨i,hi⟩:=Ae3 hx;cases hr;have hi0:i=0:=by
    have:=(List.getElem?_eq_some_iff.1 hi).1
    simp only [AB3,List.length_nil] at hl;omega
   subst hi0;exact (Kn (hk 0 x [] 3 hi rfl)).2 (by decide)
  ·rintro rfl a b c d rfl;cases hr with
   | recR s hs =>
    have hb:=Kn (hk 1 b [] s rfl rfl);have hd:=Kn (hk 3 d [] 0 rfl rfl);refine ⟨hb.2 (by omega),⟨hd.1 (by decide),hd.2 (by decide)⟩,?_⟩;cases hbd:d.badR
    ·rfl
    ·have:=Aov (hk 3 d [] 0 rfl rfl) hbd
     omega
  ·intro i t hi;obtain ⟨bs,s',hs⟩:=hkid i t hi;have hw:=Iv hi;have hbn:=Bj op i;simp only [Tm.wt] at hb
   have:=LV h3 hi
   rw [Nat.zero_add] at this;exact ih i t bs s' hi hs _ this (by omega)
 | app G n m a b x y s s0 hs hy ha hb hx iha ihb ihx =>
  intro k hsc hbd;simp only [Tm.wt,Tm.wtL] at hbd;simp only [Tm.sc,Tm.scL] at hsc;obtain ⟨q1,q2,⟨q3,q4,q5,q6,_⟩,q7,_⟩:=hsc;simp only [show Af 5 0=0 from rfl,show Af 5 1=0 from rfl,show Af 4 0=0 from rfl,show Af 4 1=1 from rfl,Nat.zero_add] at q5 q6 q7
  have g1:=iha _ q5 (by omega);have g2:=ihb _ q6 (by omega);have g3:=ihx _ q7 (by omega);simp only [Tm.good,Tm.goodL];refine ⟨⟨rfl,by omega,by omega,fun _=>⟨m,a,b,x,rfl⟩,by omega,by omega,by omega,by omega⟩,⟨⟨rfl,by omega,by omega,by omega,by omega,by omega,by omega,by omega⟩,g1,g2,trivial⟩,g3,trivial⟩
 | fst G n m a x y s s1 s0 hs ha hx hy iha ihx ihy =>
  intro k hsc hbd;simp only [Tm.wt,Tm.wtL] at hbd;simp only [Tm.sc,Tm.scL] at hsc;obtain ⟨q1,q2,⟨q3,q4,q5,q6,q7,_⟩,_⟩:=hsc;simp only [show Af 8 0=0 from rfl,show Af 7 0=0 from rfl,show Af 7 (0+1)=0 from rfl,show Af 7 (0+1+1)=0 from rfl] at q5 q6 q7
  have g1:=iha _ q5 (by omega);have g2:=ihx _ q6 (by omega);have g3:=ihy _ q7 (by omega);simp only [Tm.good,Tm.goodL];refine ⟨⟨rfl,by omega,by omega,by omega,fun _=>⟨m,a,x,y,rfl⟩,by omega,by omega,by omega⟩,⟨⟨rfl,by omega,by omega,by omega,by omega,by omega,by omega,by omega⟩,g1,g2,g3,trivial⟩,trivial⟩
 | snd G n m a x y s s1 s0 hs ha hx hy iha ihx ihy =>
  intro k hsc hbd;simp only [Tm.wt,Tm.wtL] at hbd;simp only [Tm.sc,Tm.scL] at hsc;obtain ⟨q1,q2,⟨q3,q4,q5,q6,q7,_⟩,_⟩:=hsc;simp only [show Af 9 0=0 from rfl,show Af 7 0=0 from rfl,show Af 7 (0+1)=0 from rfl,show Af 7 (0+1+1)=0 from rfl] at q5 q6 q7
  have g1:=iha _ q5 (by omega);have g2:=ihx _ q6 (by omega);have g3:=ihy _ q7 (by omega);simp only [Tm.good,Tm.goodL];refine ⟨⟨rfl,by omega,by omega,by omega,fun _=>⟨m,a,x,y,rfl⟩,by omega,by omega,by omega⟩,⟨⟨rfl,by omega,by omega,by omega,by omega,by omega,by omega,by omega⟩,g1,g2,g3,trivial⟩,trivial⟩
def Wd (op:Int) (k:List RV):Prop:=(op=30->∀k0,k[0]?=some k0->k0.op≠19)/\(op=19->∀k0,k[0]?=some k0->k0.op≠30)/\(op=13->∀k3,k[3]?=some k3->k3.op≠11/\k3.op≠12)
def AlI (op:Int) (k:List Tm):Prop:=(op=30->∀k0,k[0]?=some k0->k0.op≠19)/\(op=19->∀k0,k[0]?=some k0->k0.op≠30)/\(op=13->∀k3,k[3]?=some k3->k3.op≠11/\k3.op≠12)
inductive VT (G0:List Nat):List Nat->RV->Nat->Prop
 | var (L:List Nat) (n:Int) (s:Nat) (env:List RV) (b:Tm) (h:0<=n/\L[n.toNat]?=some s\/n<0/\G0[(-1 - n).toNat]?=some s) (hs:s<10):VT G0 L (.mk 1 n [] env b) s
 | node (L:List Nat) (op n:Int) (k env:List RV) (b:Tm) (s:Nat) (sg:MO) (D:Nat->List Nat) (hr:Rule op s sg) (hl:k.length=sg.length) (hst:Wd op k)
   (hk:∀(i:Nat) v s',k[i]?=some v->sg[i]?=some ([],s')->VT G0 L v s')
   (hc:∀(i:Nat) (v:RV) bs s',k[i]?=some v->sg[i]?=some (bs,s')->bs≠[]->(D i).length=v.env.length/\HasT (bs++(D i++G0)) v.b s')
   (he:∀(i:Nat) (v:RV) bs s' (j:Nat) x y,k[i]?=some v->sg[i]?=some (bs,s')->bs≠[]->v.env.reverse[j]?=some x->(D i)[j]?=some y->VT G0 L x y):VT G0 L (.mk op n k env b) s
structure NodeT (G0 L:List Nat) (op:Int) (k:List RV) (s:Nat) (sg:MO) (D:Nat->List Nat):Prop where
 hr:Rule op s sg
 hl:k.length=sg.length
 hk:∀(i:Nat) v s',k[i]?=some v->sg[i]?=some ([],s')->VT G0 L v s'
 hc:∀(i:Nat) (v:RV) bs s',k[i]?=some v->sg[i]?=some (bs,s')->bs≠[]->(D i).length=v.env.length/\HasT (bs++(D i++G0)) v.b s'
 he:∀(i:Nat) (v:RV) bs s' (j:Nat) x y,k[i]?=some v->sg[i]?=some (bs,s')->bs≠[]->v.env.reverse[j]?=some x->(D i)[j]?=some y->VT G0 L x y
theorem NC {G0 L:List Nat} {op n:Int} {k:List RV} {s:Nat} {sg:MO} {D:Nat->List Nat} (h:NodeT G0 L op k s sg D) (hst:Wd op k):VT G0 L (.node op n k) s :=
 .node _ _ _ _ _ _ _ _ _ h.hr h.hl hst h.hk h.hc h.he
theorem XO {G0 L:List Nat} {v:RV} {s:Nat} (h:VT G0 L v s) (h1:v.op≠1):Wd v.op v.k/\∃sg D,NodeT G0 L v.op v.k s sg D:=by
 cases h with
 | var=>exact absurd rfl h1
 | node op n k env b s sg D hr hl hst hk hc he=>exact ⟨hst,sg,D,hr,hl,hk,hc,he⟩
theorem Aqs {G0 L:List Nat} {v:RV} {s:Nat} (h:VT G0 L v s):∀M,VT G0 (L++M) v s:=by
 induction h with
 | var n s env b h hs =>
  intro M;refine .var _ _ _ _ _ ?_ hs;rcases h with ⟨h1,h2⟩ | h
  ·exact .inl ⟨h1,by rw [List.getElem?_append_left (List.getElem?_eq_some_iff.1 h2).1];exact h2⟩
  ·exact .inr h
 | node op n k env b s sg D hr hl hst hk hc he ihk ihe =>
  intro M;exact .node _ _ _ _ _ _ _ sg D hr hl hst (fun i v s' a b=>ihk i v s' a b M) hc (fun i v bs s' j x y a b c d e=>ihe i v bs s' j x y a b c d e M)
def QT (G0 L:List Nat) (env:List RV) (D:List Nat):Prop:=D.length=env.length/\∀(j:Nat) x y,env.reverse[j]?=some x->D[j]?=some y->VT G0 L x y
theorem UU {G0 L D bs:List Nat} {env l:List RV} (h:QT G0 L env D) (hl:bs.length=l.length) (hx:∀(j:Nat) x y,l.reverse[j]?=some x->bs[j]?=some y->VT G0 L x y):QT G0 L (env++l) (bs++D):=by
 refine ⟨by simp only [List.length_append,h.1,hl];omega,?_⟩;intro j x y h1 h2;rw [List.reverse_append] at h1;by_cases hj:j<bs.length
 ·rw [List.getElem?_append_left (by rw [List.length_reverse];omega)] at h1;rw [List.getElem?_append_left hj] at h2;exact hx j x y h1 h2
 ·rw [List.getElem?_append_right (by rw [List.length_reverse];omega),List.length_reverse] at h1;rw [List.getElem?_append_right (by omega),hl] at h2;exact h.2 _ x y h1 h2
theorem YD {ev:Int->Int->Tm->Option (RV×Int×Int)} {G0 L D:List Nat} {env:List RV} (hev:∀s t v s' σ,ev s 0 t=some (v,s',0)->HasT (D++G0) t σ->VT G0 L v σ) (herr:∀s e t v s',ev s e t=some (v,s',0)->e=0) (op:Int) :
  ∀(l:List Tm) (i:Nat) (sg:MO) (s:Int) (vs:List RV) (s':Int),AU ev op env i l s 0=some (vs,s',0)->l.length=sg.length->(∀(j:Nat) bs s1,sg[j]?=some (bs,s1)->bs.length=Af op (i+j)) ->
   (∀(j:Nat) t bs s1,l[j]?=some t->sg[j]?=some (bs,s1)->HasT (bs++(D++G0)) t s1) ->
   vs.length=l.length/\∀(j:Nat) (v:RV) bs s1,vs[j]?=some v->sg[j]?=some (bs,s1)->(bs=[]->VT G0 L v s1)/\(bs≠[]->v.env=env/\HasT (bs++(D++G0)) v.b s1)
 | [],i,sg,s,vs,s',h,hl,hb,ht=>by
  simp only [AU,ABZ,AB0] at h;obtain ⟨rfl,_,_⟩:=h;exact ⟨rfl,fun j v bs s1 h=>by simp at h⟩
 | t::l,i,[],s,vs,s',h,hl,hb,ht=>by simp at hl
 | t::l,i,(b0,σ0)::sg,s,vs,s',h,hl,hb,ht=>by
  have hb0:=hb 0 b0 σ0 rfl;have ht0:=ht 0 t b0 σ0 rfl rfl;rw [Nat.add_zero] at hb0;have next:=fun (s:Int) (vs:List RV) (h:AU ev op env (i+1) l s 0=some (vs,s',0))=>YD hev herr op l (i+1) sg s vs s' h (by simpa using hl) (fun j bs s1 hj=>by rw [hb (j+1) bs s1 (by simpa using hj)];congr 1;omega) (fun j t bs s1 h1 h2=>ht (j+1) t bs s1 (by simpa using h1) (by simpa using h2));simp only [AU] at h;by_cases hc:0<Af op i
  ·rw [if_pos hc] at h;cases hk:AU ev op env (i+1) l s 0 with
   | none=>rw [hk] at h;cases h
   | some q =>
    obtain ⟨us,s2,e2⟩:=q;rw [hk] at h;simp only [AB2,ABZ,AB0] at h;obtain ⟨rfl,rfl,rfl⟩:=h;obtain ⟨n1,n2⟩:=next s us hk;refine ⟨by simp [n1],?_⟩;intro j v bs s1 h1 h2;cases j with
    | zero =>
     simp only [List.getElem?_cons_zero,ABZ,AB0] at h1 h2;obtain ⟨rfl,rfl⟩:=h2;subst h1;exact ⟨fun h=>by rw [h] at hb0;simp at hb0;omega,fun _=>⟨rfl,ht0⟩⟩
    | succ j =>
     simp only [List.getElem?_cons_succ] at h1 h2;exact n2 j v bs s1 h1 h2
  ·rw [if_neg hc] at h;have hbe:b0=[]:=List.eq_nil_of_length_eq_zero (by omega);subst hbe;split at h
   ·cases h
   rename_i v0 s1 e1 hv;cases hk:AU ev op env (i+1) l s1 e1 with
   | none=>rw [hk] at h;cases h
   | some q =>
    obtain ⟨us,s2,e2⟩:=q;rw [hk] at h;simp only [AB2,ABZ,AB0] at h;obtain ⟨rfl,rfl,rfl⟩:=h;have he1:=Ha ev herr op env l _ _ _ _ _ hk;subst he1;obtain ⟨n1,n2⟩:=next s1 us hk;refine ⟨by simp [n1],?_⟩;intro j v bs s3 h1 h2;cases j with
    | zero =>
     simp only [List.getElem?_cons_zero,ABZ,AB0] at h1 h2;obtain ⟨rfl,rfl⟩:=h2;subst h1;exact ⟨fun _=>hev _ _ _ _ _ hv (by simpa using ht0),fun h=>absurd rfl h⟩
    | succ j =>
     simp only [List.getElem?_cons_succ] at h1 h2;exact n2 j v bs s3 h1 h2
theorem H8 {f:Nat} {s:Int} {op n:Int} {ks:List Tm} {env:List RV} {v:RV} {s':Int} (h:AA (f+1) s 0 (.mk op n ks) env=some (v,s',0)) (h1:op≠1) :
  ∃vs s1,AU (fun s e t=>AA f s e t env) op env 0 ks s 0=some (vs,s1,0)/\headR f s1 0 (.node op n vs)=some (v,s',0):=by
 rw [AA] at h;rw [if_neg (by simp)] at h;split at h
 ·cases h
 first | rw [if_neg h1] at h | skip
 split at h
 ·cases h
 split at h
 ·cases h
 split at h
 ·cases h
 rename_i vs s1 e1 hk;have he:=H3 h;subst he;exact ⟨vs,s1,hk,h⟩
theorem JT {f:Nat} {s:Int} {op n:Int} {k:List RV} {v:RV} {s':Int} (h:headR f s 0 (.node op n k)=some (v,s',0)) (h0:¬ (op=5\/op=8\/op=9\/op=13\/op=19\/op=30)):v=.node op n k/\s'=s:=by
 cases f with
 | zero=>rw [headR] at h;cases h
 | succ f =>
  rw [headR] at h;rw [if_neg (by simp)] at h;split at h
  ·cases h
  have hop:(RV.node op n k).op=op:=rfl;rw [hop,if_neg (by omega),if_neg (by omega),if_neg (by omega),if_neg (by omega),if_neg (by omega)] at h;simp only [ABZ,AB0] at h;exact ⟨h.1.symm,h.2.1.symm⟩
theorem L5 {f:Nat} {G0 L D:List Nat} {env:List RV} (ih:∀s t v s' σ,AA f s 0 t env=some (v,s',0)->HasT (D++G0) t σ->VT G0 L v σ) (henv:QT G0 L env D) {op:Int} {ks:List Tm} {σ:Nat} {sg:MO} {s s1:Int} {vs:List RV}
  (hr:Rule op σ sg) (hl:ks.length=sg.length) (hk:∀(i:Nat) t bs s',ks[i]?=some t->sg[i]?=some (bs,s')->HasT (bs++(D++G0)) t s') (h:AU (fun s e t=>AA f s e t env) op env 0 ks s 0=some (vs,s1,0)):NodeT G0 L op vs σ sg (fun _=>D):=by
 obtain ⟨n1,n2⟩:=YD (G0:=G0) (L:=L) (D:=D) ih (fun s e t v s' h=>Cu h) op ks 0 sg s vs s1 h hl (fun j bs s1 hj=>by rw [Nat.zero_add];exact (Hs hr hj).1) hk;refine ⟨hr,by rw [n1];exact hl,?_,?_,?_⟩
 ·intro i v s' a b;exact (n2 i v [] s' a b).1 rfl
 ·intro i v bs s' a b c;obtain ⟨q1,q2⟩:=(n2 i v bs s' a b).2 c;exact ⟨by rw [q1];exact henv.1,q2⟩
 ·intro i v bs s' j x y a b c d e;obtain ⟨q1,q2⟩:=(n2 i v bs s' a b).2 c;rw [q1] at d;exact henv.2 j x y d e
theorem AkL {f:Nat} {s n m:Int} {va x:RV} {env:List RV} {b:Tm} {v:RV} {s':Int} (h:headR (f+1) s 0 (.node 5 n [.node 4 m [va,.clo env b],x])=some (v,s',0)):AA f (s+1) 0 b (env++[x])=some (v,s',0):=by
 rw [headR,if_neg (by simp)] at h;by_cases hs:s<0\/1000000<s
 ·rw [if_pos hs] at h;cases h
 rw [if_neg hs,if_pos (show RV.op (.node 5 n [.node 4 m [va,.clo env b],x])=5 from rfl)] at h
 simp only [RV.node,RV.k,List.getElem?_cons_zero] at h;rw [if_pos (show RV.op (.mk 4 m [va,.clo env b] [] .z)=4 from rfl)] at h
 by_cases h1:s+1<=1000
 ·rw [if_pos h1] at h;simp only [List.getElem?_cons_zero,List.getElem?_cons_succ] at h;rw [show (RV.clo env b).env=env from rfl,show (RV.clo env b).b=b from rfl] at h
  by_cases h2:900000<env.length
  ·rw [if_pos h2] at h;cases h
  ·rw [if_neg h2] at h;exact h
 ·rw [if_neg h1] at h;simp at h
theorem Aim {f:Nat} {s op n m:Int} {ws:List RV} {v:RV} {s':Int} (ho:op=8\/op=9) (h:headR (f+1) s 0 (.node op n [.node 7 m ws])=some (v,s',0)):ws[(1+op - 8).toNat]?=some v:=by
 rw [headR,if_neg (by simp)] at h;by_cases hs:s<0\/1000000<s
 ·rw [if_pos hs] at h;cases h
 have hop:RV.op (.node op n [.node 7 m ws])=op:=rfl;rw [if_neg hs,hop,if_neg (by omega),if_pos ho] at h;simp only [RV.node,RV.k,List.getElem?_cons_zero] at h;rw [if_pos (show RV.op (.mk 7 m ws [] .z)=7 from rfl)] at h
 by_cases h1:s+1<=1000
 ·rw [if_pos h1] at h;cases hw:ws[(1+op - 8).toNat]? with
  | none=>rw [hw] at h;cases h
  | some w =>
   rw [hw] at h;simp only [AB2,ABZ,AB0] at h;rw [h.1]
 ·rw [if_neg h1] at h;simp at h
theorem Uo {f:Nat} {s n:Int} {k0 v:RV} {s':Int} (h:headR (f+1) s 0 (.node 30 n [k0])=some (v,s',0)):k0.op=19/\k0.k[0]?=some v\/k0.op≠19/\v=.node 30 n [k0]:=by
 rw [headR,if_neg (by simp)] at h;by_cases hs:s<0\/1000000<s
 ·rw [if_pos hs] at h;cases h
 have hop:RV.op (.node 30 n [k0])=30:=rfl;rw [if_neg hs,hop,if_neg (by decide),if_neg (by decide),if_pos rfl,show RV.k (.node 30 n [k0])=[k0] from rfl] at h
 simp only [List.getElem?_cons_zero] at h;by_cases h0:k0.op=19
 ·rw [if_pos h0] at h;by_cases h1:s+1<=1000
  ·rw [if_pos h1] at h;cases hw:k0.k[0]? with
   | none=>rw [hw] at h;cases h
   | some w =>
    rw [hw] at h;simp only [AB2,ABZ,AB0] at h;rw [<- h.1];exact .inl ⟨h0,rfl⟩
  ·rw [if_neg h1] at h;simp at h
 ·rw [if_neg h0] at h;simp only [ABZ,AB0] at h;exact .inr ⟨h0,h.1.symm⟩
theorem Vo {f:Nat} {s n:Int} {k0 v:RV} {s':Int} (h:headR (f+1) s 0 (.node 19 n [k0])=some (v,s',0)):k0.op=30/\k0.k[0]?=some v\/k0.op≠30/\v=.node 19 n [k0]:=by
 rw [headR,if_neg (by simp)] at h;by_cases hs:s<0\/1000000<s
 ·rw [if_pos hs] at h;cases h
 have hop:RV.op (.node 19 n [k0])=19:=rfl;rw [if_neg hs,hop,if_neg (by decide),if_neg (by decide),if_neg (by decide),if_pos rfl,show RV.k (.node 19 n [k0])=[k0] from rfl] at h
 simp only [List.getElem?_cons_zero] at h;by_cases h0:k0.op=30
 ·rw [if_pos h0] at h;by_cases h1:s+1<=1000
  ·rw [if_pos h1] at h;cases hw:k0.k[0]? with
   | none=>rw [hw] at h;cases h
   | some w =>
    rw [hw] at h;simp only [AB2,ABZ,AB0] at h;rw [<- h.1];exact .inl ⟨h0,rfl⟩
  ·rw [if_neg h1] at h;simp at h
 ·rw [if_neg h0] at h;simp only [ABZ,AB0] at h;exact .inr ⟨h0,h.1.symm⟩
theorem VB {f:Nat} {s n:Int} {k0 k1 k2 k3 v:RV} {s':Int} (h:headR (f+1) s 0 (.node 13 n [k0,k1,k2,k3])=some (v,s',0)) :
  k3.op=11/\v=k1\/k3.op=12/\(∃x w s1,k3.k[0]?=some x/\headR f (s+1) 0 (.node 13 0 [k0,k1,k2,x])=some (w,s1,0)/\AA f s1 0 k2.b (k2.env++[x,w])=some (v,s',0))\/(k3.op≠11/\k3.op≠12)/\v=.node 13 n [k0,k1,k2,k3]:=by
 rw [headR,if_neg (by simp)] at h;by_cases hs:s<0\/1000000<s
 ·rw [if_pos hs] at h;cases h
 have hop:RV.op (.node 13 n [k0,k1,k2,k3])=13:=rfl;have hk:RV.k (.node 13 n [k0,k1,k2,k3])=[k0,k1,k2,k3]:=rfl;rw [if_neg hs,hop,if_neg (by decide),if_neg (by decide),if_neg (by decide),if_neg (by decide),if_pos rfl,hk] at h;simp only [List.getElem?_cons_zero,List.getElem?_cons_succ] at h;by_cases h11:k3.op=11
 ·rw [if_pos h11] at h;by_cases h1:s+1<=1000
  ·rw [if_pos h1] at h;simp only [ABZ,AB0] at h;exact .inl ⟨h11,h.1.symm⟩
  ·rw [if_neg h1] at h;simp at h
 rw [if_neg h11] at h;by_cases h12:k3.op=12
 ·rw [if_pos h12] at h;by_cases h1:s+1<=1000
  ·rw [if_pos h1] at h;cases hx:k3.k[0]? with
   | none=>rw [hx] at h;cases h
   | some x =>
    rw [hx] at h;simp only at h;cases hw:headR f (s+1) 0 (.node 13 0 [k0,k1,k2,x]) with
    | none=>rw [hw] at h;cases h
    | some q =>
     obtain ⟨w,s1,e1⟩:=q;rw [hw] at h;simp only at h;by_cases h2:900000<k2.env.length
     ·rw [if_pos h2] at h;cases h
     ·rw [if_neg h2] at h;have he:=Cu h;subst he;exact .inr (.inl ⟨h12,x,w,s1,rfl,hw,h⟩)
  ·rw [if_neg h1] at h;simp at h
 ·rw [if_neg h12] at h;simp only [ABZ,AB0] at h;exact .inr (.inr ⟨⟨h11,h12⟩,h.1.symm⟩)
theorem Ab3 {f:Nat} {s n:Int} {ks:List Tm} {env:List RV} {v:RV} {s':Int} (h:AA (f+1) s 0 (.mk 1 n ks) env=some (v,s',0)) (h0:0<=n):(n<env.length/\env.reverse[n.toNat]?=some v\/¬ n<env.length/\v=.var (env.length - 1 - n))/\s'=s:=by
 rw [AA,if_neg (by simp)] at h;by_cases h9:900000<env.length
 ·rw [if_pos h9] at h;cases h
 rw [if_neg h9,if_pos rfl] at h;by_cases hm:n<env.length
 ·rw [if_pos hm,if_pos h0] at h;cases hx:env[((env.length:Int) - 1 - n).toNat]? with
  | none=>rw [hx] at h;cases h
  | some x =>
   rw [hx] at h;simp only [AB2,ABZ,AB0] at h;obtain ⟨rfl,rfl,_⟩:=h;refine ⟨.inl ⟨hm,?_⟩,rfl⟩;rw [List.getElem?_reverse (by omega),show env.length - 1 - n.toNat=((env.length:Int) - 1 - n).toNat by omega]
   exact hx
 ·rw [if_neg hm] at h;by_cases h4:n<=4611686018427387904
  ·rw [if_pos h4] at h;simp only [ABZ,AB0] at h;exact ⟨.inr ⟨hm,h.1.symm⟩,h.2.1.symm⟩
  ·rw [if_neg h4] at h;cases h
theorem Apq {f:Nat} {s n m:Int} {a b x:Tm} {env:List RV} {v:RV} {s':Int} (h:AA (f+1) s 0 (.mk 5 n [.mk 4 m [a,b],x]) env=some (v,s',0)):∃f' s1 s2 vx,f'<=f/\AA f s1 0 x env=some (vx,s2,0)/\AA f' (s2+1) 0 b (env++[vx])=some (v,s',0):=by
 obtain ⟨vs,s2,h1,h2⟩:=H8 h (by decide);simp only [AU] at h1;rw [if_neg (by decide)] at h1;cases hv0:AA f s 0 (.mk 4 m [a,b]) env with
 | none=>rw [hv0] at h1;cases h1
 | some q =>
  obtain ⟨v0,s3,e3⟩:=q;rw [hv0] at h1;simp only at h1;rw [if_neg (by decide)] at h1;cases hv1:AA f s3 e3 x env with
  | none=>rw [hv1] at h1;cases h1
  | some q =>
   obtain ⟨v1,s4,e4⟩:=q;rw [hv1] at h1;simp only [AB2,ABZ,AB0] at h1;obtain ⟨rfl,rfl,rfl⟩:=h1;have e3:=Cu hv1;subst e3;obtain ⟨va,rfl⟩:=Z2 hv0;cases f with
   | zero=>rw [headR] at h2;cases h2
   | succ f=>exact ⟨f,s3,s4,v1,by omega,hv1,AkL h2⟩
theorem Uv {f:Nat} {s op n m:Int} {a x y:Tm} {env:List RV} {v:RV} {s':Int} (ho:op=8\/op=9) (h:AA (f+1) s 0 (.mk op n [.mk 7 m [a,x,y]]) env=some (v,s',0)):∃f' ws s1,f'<=f/\AU (fun s e t=>AA f' s e t env) 7 env 0 [a,x,y] s 0=some (ws,s1,0)/\ws[(1+op - 8).toNat]?=some v:=by
 obtain ⟨vs,s2,h1,h2⟩:=H8 h (by omega);have hb:Af op 0=0:=by rcases ho with rfl | rfl<;>rfl
 simp only [AU] at h1;rw [if_neg (by omega)] at h1;cases hv0:AA f s 0 (.mk 7 m [a,x,y]) env with
 | none=>rw [hv0] at h1;cases h1
 | some q =>
  obtain ⟨v0,s3,e3⟩:=q;rw [hv0] at h1;simp only [AB2,ABZ,AB0] at h1;obtain ⟨rfl,rfl,rfl⟩:=h1;cases f with
  | zero=>rw [headR] at h2;cases h2
  | succ f =>
   obtain ⟨ws,s4,q1,q2⟩:=H8 hv0 (by decide);obtain ⟨rfl,rfl⟩:=JT q2 (by decide);exact ⟨f,ws,s3,by omega,q1,Aim ho h2⟩
theorem Vi {f:Nat} {s nd u d:Int} {v:RV} {t:Tm} {s' nd':Int} (h:AS (f+1) s nd 0 v u d=some (t,s',nd',0)) :
  v.op=1/\t=.mk 1 (u - 1 - v.n) []\/v.op≠1/\∃ts,Bf (fun s nd e k u=>AS f s nd e k u (d+1)) f v.op u 0 v.k s (nd+1) 0=some (ts,s',nd',0)/\t=.mk v.op v.n ts:=by
 rw [AS] at h;by_cases hb:nd<0\/1000000<nd\/u<0\/1000000<u\/d<0\/1000000<d\/v.n < -2305843009213693952\/2305843009213693952<v.n\/f<=v.k.length\/900000<v.k.length\/f<=3
 ·rw [if_pos hb] at h;cases h
 rw [if_neg hb] at h;by_cases h3:(0:Int)=0/\(3000<nd+1\/120<d)
 ·rw [if_pos h3,if_pos (by decide)] at h;simp at h
 rw [if_neg h3,if_neg (by simp)] at h;by_cases h1:v.op=1
 ·rw [if_pos h1] at h;simp only [ABZ,AB0] at h;exact .inl ⟨h1,h.1.symm⟩
 ·rw [if_neg h1] at h;cases hrk:Bf (fun s nd e k u=>AS f s nd e k u (d+1)) f v.op u 0 v.k s (nd+1) 0 with
  | none=>rw [hrk] at h;cases h
  | some q =>
   obtain ⟨ts,s1,nd1,e1⟩:=q;rw [hrk] at h;simp only [AB2,ABZ,AB0] at h;obtain ⟨rfl,rfl,rfl,rfl⟩:=h;exact .inr ⟨h1,ts,rfl,rfl⟩
def EvT (G0 L:List Nat) (f:Nat):Prop:=∀s t env v s' D σ,AA f s 0 t env=some (v,s',0)->HasT (D++G0) t σ->QT G0 L env D->VT G0 L v σ
def HdT (G0 L:List Nat) (f:Nat):Prop:=∀s op n k v s' σ sg D,headR f s 0 (.node op n k)=some (v,s',0)->NodeT G0 L op k σ sg D->VT G0 L v σ
theorem Aug {G0 L D:List Nat} {env:List RV} (h:QT G0 L env D) {x:RV} {y:Nat} (hx:VT G0 L x y):QT G0 L (env++[x]) (y::D):=by
 refine UU (bs:=[y]) h rfl ?_;intro j x' y' a b;cases j with
 | zero =>
  simp only [List.reverse_cons,List.reverse_nil,List.nil_append,List.getElem?_cons_zero,ABZ] at a b;subst a b;exact hx
 | succ j=>simp at a
theorem Ay7 {G0 L D:List Nat} {env:List RV} (h:QT G0 L env D) {x w:RV} {y z:Nat} (hx:VT G0 L x y) (hw:VT G0 L w z):QT G0 L (env++[x,w]) (z::y::D):=by
 have:=Aug (Aug h hx) hw
 rw [List.append_assoc] at this;exact this
theorem Arc {G:List Nat} {a x y:Tm} {s0 s1 s2:Nat} (ha:HasT G a s0) (hx:HasT G x s1) (hy:HasT G y s2):∀(i:Nat) t bs s',[a,x,y][i]?=some t->[(([]:List Nat),s0),([],s1),([],s2)][i]?=some (bs,s')->HasT (bs++G) t s':=by
 intro i t bs s' a1 a2
 match i with
 | 0=>simp at a1 a2;obtain ⟨rfl,rfl⟩:=a2;subst a1;exact ha
 | 1=>simp at a1 a2;obtain ⟨rfl,rfl⟩:=a2;subst a1;exact hx
 | 2=>simp at a1 a2;obtain ⟨rfl,rfl⟩:=a2;subst a1;exact hy
 | i+3=>simp at a1
theorem Awe {G0 L:List Nat} {f:Nat} (ihE:∀g,g<=f->EvT G0 L g) (ihH:HdT G0 L f):EvT G0 L (f+1):=by
 intro s t env v s' D σ h ht henv;generalize hG:D++G0=G at ht;cases ht with
 | var _ n _ h0 hg hs =>
  subst hG;rcases (Ab3 h h0).1 with ⟨h1,h2⟩ | ⟨h1,rfl⟩
  ·refine henv.2 n.toNat v σ h2 ?_;rw [List.getElem?_append_left (by have:=henv.1;omega)] at hg;exact hg
  ·refine .var _ _ _ _ _ (.inr ⟨by omega,?_⟩) hs;rw [List.getElem?_append_right (by have:=henv.1;omega),henv.1] at hg;rw [show (-1 - ((env.length:Int) - 1 - n)).toNat=n.toNat - env.length by omega]
   exact hg
 | node _ op n ks _ sg hr hl hk =>
  subst hG;obtain ⟨vs,s1,h1,h2⟩:=H8 h (E4 hr).1;exact ihH _ _ _ _ _ _ _ _ _ h2 (L5 (fun s t v s' σ a b=>ihE f (Nat.le_refl _) s t env v s' D σ a b henv) henv hr hl hk h1)
 | app _ n m a b x y _ s1 hs hy ha hb hx =>
  subst hG;obtain ⟨f',s1,s2,vx,hf,h1,h2⟩:=Apq h;exact ihE f' hf _ _ _ _ _ (y::D) σ h2 hb (Aug henv (ihE f (Nat.le_refl _) _ _ _ _ _ D y h1 hx henv))
 | fst _ n m a x y _ s1 s0 hs ha hx hy =>
  subst hG;obtain ⟨f',ws,s2,hf,h1,h2⟩:=Uv (.inl rfl) h;have hn:=L5 (fun s t v s' σ a b=>ihE f' hf s t env v s' D σ a b henv) henv (Rule.pair s0 σ s1) rfl (Arc ha hx hy) h1;exact hn.hk 1 v σ h2 rfl
 | snd _ n m a x y _ s1 s0 hs ha hx hy =>
  subst hG;obtain ⟨f',ws,s2,hf,h1,h2⟩:=Uv (.inr rfl) h;have hn:=L5 (fun s t v s' σ a b=>ihE f' hf s t env v s' D σ a b henv) henv (Rule.pair s0 s1 σ) rfl (Arc ha hx hy) h1;exact hn.hk 2 v σ h2 rfl
theorem Akh {G0 L:List Nat} {k0 k1 k2 k3 x:RV} {σ s0:Nat} {D:Nat->List Nat} (hn:NodeT G0 L 13 [k0,k1,k2,k3] σ [([0],s0),([],σ),([σ,0],σ),([],0)] D) (hx:VT G0 L x 0):NodeT G0 L 13 [k0,k1,k2,x] σ [([0],s0),([],σ),([σ,0],σ),([],0)] D:=by
 refine ⟨hn.hr,rfl,?_,?_,?_⟩
 ·intro i v s' a b
  match i with
  | 0=>exact hn.hk 0 v s' a b
  | 1=>exact hn.hk 1 v s' a b
  | 2=>exact hn.hk 2 v s' a b
  | 3 =>
   simp at a b;subst a b;exact hx
  | i+4=>simp at a
 ·intro i v bs s' a b c
  match i with
  | 0=>exact hn.hc 0 v bs s' a b c
  | 1=>exact hn.hc 1 v bs s' a b c
  | 2=>exact hn.hc 2 v bs s' a b c
  | 3=>simp at b;exact absurd b.1 c
  | i+4=>simp at a
 ·intro i v bs s' j x' y' a b c d e
  match i with
  | 0=>exact hn.he 0 v bs s' j x' y' a b c d e
  | 1=>exact hn.he 1 v bs s' j x' y' a b c d e
  | 2=>exact hn.he 2 v bs s' j x' y' a b c d e
  | 3=>simp at b;exact absurd b.1 c
  | i+4=>simp at a
theorem Awb {G0 L:List Nat} {f:Nat} (ihE:EvT G0 L f) (ihH:HdT G0 L f):HdT G0 L (f+1):=by
 intro s op n k v s' σ sg D h hn;obtain ⟨o1,o5,o8,o9⟩:=E4 hn.hr;by_cases h30:op=30
 ·subst h30;have hr:=hn.hr;cases hr;obtain ⟨k0,rfl⟩:=Cp hn.hl;have hk0:=hn.hk 0 k0 3 rfl rfl;rcases Uo h with ⟨h19,hx⟩ | ⟨h19,rfl⟩
  ·obtain ⟨_,sg2,D2,hn2⟩:=XO hk0 (by omega);rw [h19] at hn2;have hr2:=hn2.hr;cases hr2;exact hn2.hk 0 v 6 hx rfl
  ·refine NC hn ⟨fun _ k1 hk1=>?_,by omega,by omega⟩;simp only [List.getElem?_cons_zero,ABZ] at hk1;subst hk1;exact h19
 by_cases h19:op=19
 ·subst h19;have hr:=hn.hr;cases hr;obtain ⟨k0,rfl⟩:=Cp hn.hl;have hk0:=hn.hk 0 k0 6 rfl rfl;rcases Vo h with ⟨h19,hx⟩ | ⟨h19,rfl⟩
  ·obtain ⟨_,sg2,D2,hn2⟩:=XO hk0 (by omega);rw [h19] at hn2;have hr2:=hn2.hr;cases hr2;exact hn2.hk 0 v 3 hx rfl
  ·refine NC hn ⟨by omega,fun _ k1 hk1=>?_,by omega⟩;simp only [List.getElem?_cons_zero,ABZ] at hk1;subst hk1;exact h19
 by_cases h13:op=13
 ·subst h13;have hr:=hn.hr;cases hr with
  | recR _ hs =>
  obtain ⟨k0,k1,k2,k3,rfl⟩:=PM hn.hl;have hk1:=hn.hk 1 k1 σ rfl rfl;have hk3:=hn.hk 3 k3 0 rfl rfl;have hc2:=hn.hc 2 k2 [σ,0] σ rfl rfl (by simp);have he2:=fun (j:Nat) x y=>hn.he 2 k2 [σ,0] σ j x y rfl rfl (by simp);rcases VB h with ⟨h11,rfl⟩ | ⟨h12,x,w,s1,hx,hw,hv⟩ | ⟨h3,rfl⟩
  ·exact hk1
  ·obtain ⟨_,sg2,D2,hn2⟩:=XO hk3 (by omega);rw [h12] at hn2;have hr2:=hn2.hr;cases hr2;have hxv:=hn2.hk 0 x 0 hx rfl;have hwv:=ihH _ _ _ _ _ _ _ _ _ hw (Akh hn hxv);exact ihE _ _ _ _ _ (σ::0::D 2) σ hv hc2.2 (Ay7 ⟨hc2.1,he2⟩ hxv hwv)
  ·refine NC hn ⟨by omega,by omega,fun _ q hq=>?_⟩;simp at hq;subst hq;exact h3
 obtain ⟨rfl,_⟩:=JT h (by omega);exact NC hn ⟨by omega,by omega,by omega⟩
theorem Afi (G0 L:List Nat):∀f,EvT G0 L f/\HdT G0 L f:=by
 intro f
 induction f using Nat.strongRecOn with
 | _ f ih =>
 cases f with
 | zero=>exact ⟨(by intro s t env v s' D σ h;rw [AA] at h;cases h),(by intro s op n k v s' σ sg D h;rw [headR] at h;cases h)⟩
 | succ f=>exact ⟨Awe (fun g hg=>(ih g (by omega)).1) (ih f (by omega)).2,Awb (ih f (by omega)).1 (ih f (by omega)).2⟩
inductive NfT:List Nat->Tm->Nat->Prop
 | var (G:List Nat) (n:Int) (s:Nat) (h0:0<=n) (h:G[n.toNat]?=some s) (hs:s<10):NfT G (.mk 1 n []) s
 | node (G:List Nat) (op n:Int) (ks:List Tm) (s:Nat) (sg:MO) (hr:Rule op s sg) (hl:ks.length=sg.length) (hst:AlI op ks) (hk:∀(i:Nat) t bs s',ks[i]?=some t->sg[i]?=some (bs,s')->NfT (bs++G) t s'):NfT G (.mk op n ks) s
theorem A2 {G:List Nat} {t:Tm} {s:Nat} (h:NfT G t s):HasT G t s:=by
 induction h with
 | var G n s h0 h hs=>exact .var _ _ _ h0 h hs
 | node G op n ks s sg hr hl hst hk ih=>exact .node _ _ _ _ _ sg hr hl ih
theorem Me {rd:Int->Int->Int->RV->Int->Option (Tm×Int×Int×Int)} {f:Nat} (herr:∀s nd e v u t s' nd',rd s nd e v u=some (t,s',nd',0)->e=0) (op u:Int) :
  ∀(l:List RV) (i:Nat) (s nd e:Int) (ts:List Tm) (s' nd':Int),Bf rd f op u i l s nd e=some (ts,s',nd',0)->ts.length=l.length/\∀(j:Nat) k t,l[j]?=some k->ts[j]?=some t ->
   ∃s1 nd1 k' s2 nd2,((0<Af op (i+j)->∃s0,AA f s0 0 k.b (k.env++Gf u (Af op (i+j)))=some (k',s1,0))/\(Af op (i+j)=0->k'=k))/\rd s1 nd1 0 k' (u+Af op (i+j))=some (t,s2,nd2,0)
 | [],i,s,nd,e,ts,s',nd',h=>by
  simp only [Bf,ABZ,AB0] at h;obtain ⟨rfl,_⟩:=h;exact ⟨rfl,fun j k t h=>by simp at h⟩
 | k::l,i,s,nd,e,ts,s',nd',h=>by
  simp only [Bf] at h;split at h
  ·cases h
  rename_i k' s1 e1 hk;split at h
  ·cases h
  rename_i t s2 nd2 e2 ht;cases hr:Bf rd f op u (i+1) l s2 nd2 e2 with
  | none=>rw [hr] at h;cases h
  | some q =>
   obtain ⟨us,s3,nd3,e3⟩:=q;rw [hr] at h;simp only [AB2,ABZ,AB0] at h;obtain ⟨rfl,rfl,rfl,rfl⟩:=h;have he2:e2=0:=by
    cases l with
    | nil=>simp only [Bf,ABZ,AB0] at hr;exact hr.2.2.2
    | cons k2 l2 =>
     simp only [Bf] at hr;split at hr
     ·cases hr
     rename_i k2' s5 e5 hk2;split at hr
     ·cases hr
     rename_i t2 s6 nd6 e6 ht2;cases hr2:Bf rd f op u (i+1+1) l2 s6 nd6 e6 with
     | none=>rw [hr2] at hr;cases hr
     | some q =>
      obtain ⟨ws,s7,nd7,e7⟩:=q;rw [hr2] at hr;simp only [AB2,ABZ,AB0] at hr;obtain ⟨_,_,_,rfl⟩:=hr;have h6:e6=0:=readK_err herr op u l2 _ _ _ _ _ _ _ hr2;subst h6;have h5:=herr _ _ _ _ _ _ _ _ ht2;subst h5;split at hk2
      ·split at hk2
       ·cases hk2
       exact Cu hk2
      ·simp only [ABZ,AB0] at hk2;exact hk2.2.2
   subst he2;have he1:=herr _ _ _ _ _ _ _ _ ht;subst he1;obtain ⟨n1,n2⟩:=Me herr op u l (i+1) s2 nd2 0 us s3 nd3 hr;refine ⟨by simp [n1],?_⟩;intro j k2 t2 a b;cases j with
   | zero =>
    simp only [List.getElem?_cons_zero,ABZ] at a b;subst a b;rw [Nat.add_zero];refine ⟨s1,nd,k',s2,nd2,⟨fun hb=>?_,fun hb=>?_⟩,ht⟩
    ·rw [if_pos hb] at hk;split at hk
     ·cases hk
     have:=Cu hk
     subst this;exact ⟨s,hk⟩
    ·rw [if_neg (by omega)] at hk;simp only [ABZ,AB0] at hk;exact hk.1.symm
   | succ j =>
    simp only [List.getElem?_cons_succ] at a b
    have:=n2 j k2 t2 a b
    rw [show i+1+j=i+(j+1) by omega] at this
    exact this
where
 readK_err {rd:Int->Int->Int->RV->Int->Option (Tm×Int×Int×Int)} {f:Nat} (herr:∀s nd e v u t s' nd',rd s nd e v u=some (t,s',nd',0)->e=0) (op u:Int) :
   ∀(l:List RV) (i:Nat) (s nd e:Int) (ts:List Tm) (s' nd':Int),Bf rd f op u i l s nd e=some (ts,s',nd',0)->e=0
  | [],i,s,nd,e,ts,s',nd',h=>by
   simp only [Bf,ABZ,AB0] at h;exact h.2.2.2
  | k::l,i,s,nd,e,ts,s',nd',hr=>by
   simp only [Bf] at hr;split at hr
   ·cases hr
   rename_i k2' s5 e5 hk2;split at hr
   ·cases hr
   rename_i t2 s6 nd6 e6 ht2;cases hr2:Bf rd f op u (i+1) l s6 nd6 e6 with
   | none=>rw [hr2] at hr;cases hr
   | some q =>
    obtain ⟨ws,s7,nd7,e7⟩:=q;rw [hr2] at hr;simp only [AB2,ABZ,AB0] at hr;obtain ⟨_,_,_,rfl⟩:=hr;have h6:e6=0:=readK_err herr op u l _ _ _ _ _ _ _ hr2;subst h6;have h5:=herr _ _ _ _ _ _ _ _ ht2;subst h5;split at hk2
    ·split at hk2
     ·cases hk2
     exact Cu hk2
    ·simp only [ABZ,AB0] at hk2;exact hk2.2.2
theorem SI (u:Int) (b j:Nat) (h:j<b):(Gf u b)[j]?=some (.var (u+j)):=by
 simp [Gf,h]
theorem Acm (u:Int) (b j:Nat) {x:RV} (h:(Gf u b).reverse[j]?=some x):j<b/\x=.var (u+((b - 1 - j:Nat):Int)):=by
 have hj:j<b:=by
  have:=(List.getElem?_eq_some_iff.1 h).1
  rw [List.length_reverse,B7] at this;exact this
 rw [List.getElem?_reverse (by rw [B7];exact hj),B7,SI _ _ _ (by omega),ABZ] at h;exact ⟨hj,h.symm⟩
theorem Aqz (G0:List Nat):∀(f:Nat) (L:List Nat) (s nd:Int) (v:RV) (d:Int) (t:Tm) (s' nd':Int) (σ:Nat),AS f s nd 0 v L.length d=some (t,s',nd',0)->VT G0 L v σ->NfT (L.reverse++G0) t σ/\t.op=v.op:=by
 intro f
 induction f with
 | zero=>intro L s nd v d t s' nd' σ h;rw [AS] at h;cases h
 | succ f ih =>
  intro L s nd v d t s' nd' σ h hv;have hri:=Vi h;cases hv with
  | var n _ env b h1 hs =>
   rcases hri with ⟨_,rfl⟩ | ⟨hne,_⟩
   case inr=>exact absurd rfl hne
   refine ⟨.var _ _ _ ?_ ?_ hs,rfl⟩
   ·rcases h1 with ⟨h1,h2⟩ | ⟨h1,h2⟩
    ·have:=(List.getElem?_eq_some_iff.1 h2).1
     simp only [RV.n];omega
    ·simp only [RV.n];omega
   ·simp only [RV.n];rcases h1 with ⟨h1,h2⟩ | ⟨h1,h2⟩
    ·have hlt:=(List.getElem?_eq_some_iff.1 h2).1;rw [List.getElem?_append_left (by rw [List.length_reverse];omega),List.getElem?_reverse (by omega)];rw [show L.length - 1 - ((L.length:Int) - 1 - n).toNat=n.toNat by omega]
     exact h2
    ·rw [List.getElem?_append_right (by rw [List.length_reverse];omega),List.length_reverse];rw [show ((L.length:Int) - 1 - n).toNat - L.length=(-1 - n).toNat by omega]
     exact h2
  | node op n k env b _ sg D hr hl hst hk hc he =>
   rcases hri with ⟨he1,_⟩ | ⟨_,ts,hrk,rfl⟩
   case inl=>exact absurd he1 (E4 hr).1
   ·simp only [RV.op,RV.n,RV.k] at hrk ⊢;obtain ⟨n1,n2⟩:=Me (fun s nd e v u t s' nd' h=>FR h) op L.length k 0 s (nd+1) 0 ts s' nd' hrk;have key:∀(i:Nat) t bs s',ts[i]?=some t->sg[i]?=some (bs,s')->NfT (bs++(L.reverse++G0)) t s'/\(bs=[]->∀kv,k[i]?=some kv->t.op=kv.op):=by
     intro i t bs s' a b;have hi:i<k.length:=by rw [<- n1];exact (List.getElem?_eq_some_iff.1 a).1
     have hki:=List.getElem?_eq_getElem hi;obtain ⟨q1,q2,k',q3,q4,⟨q5,q6⟩,q7⟩:=n2 i _ t hki a;rw [Nat.zero_add] at q5 q6 q7;have hbn:=(Hs hr b).1;cases bs with
     | nil =>
      simp only [List.length_nil] at hbn;rw [<- hbn] at q6 q7
      have:=q6 rfl
      subst this;simp only [Int.ofNat_zero,Int.add_zero] at q7;have hv:=hk i _ s' hki b;have h3:=ih L _ _ _ _ _ _ _ _ q7 hv;refine ⟨by simpa using h3.1,fun _ kv hkv=>?_⟩;rw [hki,ABZ] at hkv;rw [<- hkv];exact h3.2
     | cons b0 bs =>
      have hlb:=hbn;rw [AB3] at hbn;obtain ⟨s0,hev⟩:=q5 (by omega);obtain ⟨c1,c2⟩:=hc i _ _ s' hki b (by simp);have henv:QT G0 (L++(b0::bs).reverse) (k[i].env++Gf L.length (Af op i)) ((b0::bs)++D i):=by
       refine UU ⟨c1,fun j x y p q=>Aqs (he i _ _ s' j x y hki b (by simp) p q) _⟩ (by rw [B7];exact hlb) ?_;intro j x y p q;obtain ⟨hj,rfl⟩:=Acm _ _ _ p;have hjl:j<(b0::bs).length:=by rw [hlb];exact hj
       refine .var _ _ _ _ _ (.inl ⟨by omega,?_⟩) ?_
       ·rw [show ((L.length:Int)+((Af op i - 1 - j:Nat):Int)).toNat=L.length+(Af op i - 1 - j) by omega]
        rw [List.getElem?_append_right (by omega),Nat.add_sub_cancel_left,<- hlb,List.getElem?_reverse (by omega)];rw [show (b0::bs).length - 1 - ((b0::bs).length - 1 - j)=j by omega]
        exact q
       ·exact (Hs hr b).2 y (List.mem_of_getElem? q)
      have hvt:=(Afi G0 (L++(b0::bs).reverse) f).1 _ _ _ _ _ _ _ hev (by rw [List.append_assoc];exact c2) henv;rw [<- hlb] at q7;have hlen:((L.length:Int)+((b0::bs).length:Int))=((L++(b0::bs).reverse).length:Int):=by
       rw [List.length_append,List.length_reverse];omega
      rw [hlen] at q7;have h3:=ih _ _ _ _ _ _ _ _ _ q7 hvt;refine ⟨?_,fun h=>by cases h⟩
      have:=h3.1
      rw [List.reverse_append,List.reverse_reverse,List.append_assoc] at this;exact this
    refine ⟨.node _ _ _ _ _ sg hr (by rw [n1];exact hl) ?_ (fun i t bs s' a b=>(key i t bs s' a b).1),rfl⟩;refine ⟨fun ho k0 hk0=>?_,fun ho k0 hk0=>?_,fun ho k3 hk3=>?_⟩
    ·subst ho;cases hr;obtain ⟨w,hw⟩:=Cp hl
     have:=(key 0 k0 [] 3 hk0 rfl).2 rfl w (by rw [hw];rfl)
     rw [this];exact hst.1 rfl w (by rw [hw];rfl)
    ·subst ho;cases hr;obtain ⟨w,hw⟩:=Cp hl
     have:=(key 0 k0 [] 6 hk0 rfl).2 rfl w (by rw [hw];rfl)
     rw [this];exact hst.2.1 rfl w (by rw [hw];rfl)
    ·subst ho;cases hr;obtain ⟨w0,w1,w2,w3,hw⟩:=PM hl
     have:=(key 3 k3 [] 0 hk3 rfl).2 rfl w3 (by rw [hw];rfl)
     rw [this];exact hst.2.2 rfl w3 (by rw [hw];rfl)
theorem CQ {f:Nat} {t u:Tm} {G:List Nat} {s:Nat} (h:AX f t=some (u,0)) (ht:HasT G t s):NfT G u s:=by
 rw [AX] at h;split at h
 ·cases h
 rename_i v s1 e1 he;split at h
 ·cases h
 rename_i w s2 nd2 e2 hr;simp only [ABZ] at h;by_cases h2:e2=0
 ·subst h2;rw [if_neg (by simp)] at h;simp only [AB0,and_true] at h;subst h;have h1:=FR hr;subst h1;have hv:=(Afi G [] f).1 0 t [] v s1 [] s he ht ⟨rfl,fun j x y a=>by simp at a⟩
  have:=Aqz G f [] s1 0 v 1 w s2 nd2 s hr hv
  simpa using this.1
 ·rw [if_pos h2] at h;simp only [AB0] at h;exact absurd h.2 h2
def AvO (op:Int) (ks:List Tm):Prop:=AlI op ks/\(op=5->∀k0,ks[0]?=some k0->k0.op≠4)/\(op=8\/op=9->∀k0,ks[0]?=some k0->k0.op≠7)
mutual
def Tm.stl:Tm->Prop
 | .mk op _ ks=>AvO op ks/\Tm.stlL ks
def Tm.stlL:List Tm->Prop
 | []=>True
 | t::l=>t.stl/\Tm.stlL l
end
theorem YK:∀{l:List Tm},(∀(i:Nat) t,l[i]?=some t->t.stl)->Tm.stlL l
 | [],_=>by rw [Tm.stlL];trivial
 | x::l,h=>by
  rw [Tm.stlL];exact ⟨h 0 x rfl,YK fun i t hi=>h (i+1) t (by simpa using hi)⟩
theorem KI:∀{l:List Tm} {t:Tm},Tm.stlL l->t∈l->t.stl
 | x::l,t,h,hm=>by
  rw [Tm.stlL] at h;rcases List.mem_cons.1 hm with rfl | hm
  ·exact h.1
  ·exact KI h.2 hm
theorem ApL {G:List Nat} {t:Tm} {s:Nat} (h:NfT G t s):t.stl:=by
 induction h with
 | var G n s h0 h hs =>
  rw [Tm.stl,Tm.stlL];exact ⟨⟨⟨by omega,by omega,by omega⟩,by omega,by omega⟩,trivial⟩
 | node G op n ks s sg hr hl hst hk ih =>
  rw [Tm.stl];obtain ⟨o1,o5,o8,o9⟩:=E4 hr;refine ⟨⟨hst,fun h=>absurd h o5,by omega⟩,YK fun i t hi=>?_⟩
  have:i<sg.length:=by rw [<- hl];exact (List.getElem?_eq_some_iff.1 hi).1
  exact ih i t _ _ hi (List.getElem?_eq_getElem this)
mutual
def Tm.val:Tm->Nat->RV
 | .mk op n ks,u=>if op=1 then .var ((u:Int) - 1 - n) else .node op n (Tm.valL op 0 ks u)
def Tm.valL:Int->Nat->List Tm->Nat->List RV
 | _,_,[],_=>[]
 | op,i,t::l,u=>(if 0<Af op i then .clo (Gf 0 u) t else t.val u)::Tm.valL op (i+1) l u
end
theorem O8 (t:Tm) (u:Nat):(t.val u).op=t.op:=by
 obtain ⟨op,n,ks⟩:=t;rw [Tm.val];split
 ·rename_i h;subst h;rfl
 ·rfl
theorem VY (op:Int) (u:Nat):∀(l:List Tm) (i:Nat),(Tm.valL op i l u).length=l.length
 | [],_=>rfl
 | t::l,i=>by simp only [Tm.valL,AB3,VY op u l]
theorem Vs (op:Int) (u:Nat):∀(l:List Tm) (i j:Nat),(Tm.valL op i l u)[j]?=(l[j]?).map fun t=>if 0<Af op (i+j) then .clo (Gf 0 u) t else t.val u
 | [],_,_=>by simp [Tm.valL]
 | t::l,i,0=>by simp [Tm.valL]
 | t::l,i,j+1=>by
  simp only [Tm.valL,List.getElem?_cons_succ];rw [Vs op u l (i+1) j,show i+1+j=i+(j+1) by omega]
theorem Akj {s:Int} (h0:0<=s) (h1:s<=1000000) {op n:Int} {ks:List Tm} (har:ar op=some ks.length) (hst:AvO op ks) (u:Nat):headR 1 s 0 (.node op n (Tm.valL op 0 ks u))=some (.node op n (Tm.valL op 0 ks u),s,0):=by
 obtain ⟨⟨a1,a2,a3⟩,a4,a5⟩:=hst;have kid:∀(j:Nat) k,ks[j]?=some k->Af op j=0->(Tm.valL op 0 ks u)[j]?=some (k.val u):=by
  intro j k hk hb;rw [Vs,hk,Nat.zero_add,hb];rfl
 rw [headR,if_neg (by simp),if_neg (by omega)];have hop:(RV.node op n (Tm.valL op 0 ks u)).op=op:=rfl;have hk:(RV.node op n (Tm.valL op 0 ks u)).k=Tm.valL op 0 ks u:=rfl;rw [hop,hk];by_cases h5:op=5
 ·subst h5;obtain ⟨x,y,rfl⟩:=T5 (Option.some.inj har.symm:ks.length=2);rw [if_pos rfl,kid 0 x rfl rfl];simp only;rw [if_neg (by rw [O8];exact a4 rfl x rfl)]
 rw [if_neg h5];by_cases h89:op=8\/op=9
 ·have hl:ks.length=1:=by
   rcases h89 with rfl | rfl<;>exact (Option.some.inj har.symm)
  obtain ⟨x,rfl⟩:=Cp hl;rw [if_pos h89,kid 0 x rfl (by rcases h89 with rfl | rfl<;>rfl)];simp only;rw [if_neg (by rw [O8];exact a5 h89 x rfl)]
 rw [if_neg h89];by_cases h30:op=30
 ·subst h30;obtain ⟨x,rfl⟩:=Cp (Option.some.inj har.symm:ks.length=1);rw [if_pos rfl,kid 0 x rfl rfl];simp only;rw [if_neg (by rw [O8];exact a1 rfl x rfl)]
 rw [if_neg h30];by_cases h19:op=19
 ·subst h19;obtain ⟨x,rfl⟩:=Cp (Option.some.inj har.symm:ks.length=1);rw [if_pos rfl,kid 0 x rfl rfl];simp only;rw [if_neg (by rw [O8];exact a2 rfl x rfl)]
 rw [if_neg h19];by_cases h13:op=13
 ·subst h13;obtain ⟨x,y,z,w,rfl⟩:=PM (Option.some.inj har.symm:ks.length=4);rw [if_pos rfl];have q:=a3 rfl w rfl;simp only [Tm.valL,List.getElem?_cons_zero,List.getElem?_cons_succ,show Af 13 0=1 from rfl,show Af 13 (0+1)=0 from rfl,show Af 13 (0+1+1)=2 from rfl,show Af 13 (0+1+1+1)=0 from rfl,Nat.lt_irrefl,if_false,O8]
  rw [if_neg q.1,if_neg q.2]
 rw [if_neg h13]
theorem PQ {s:Int} {env:List RV} {u:Nat} (henv:env=Gf 0 u) (op:Int):∀(l:List Tm) (i:Nat),(∀(j:Nat) t,l[j]?=some t->Af op (i+j)=0->∃f,AA f s 0 t env=some (t.val u,s,0))->∃f,AU (fun s e t=>AA f s e t env) op env i l s 0=some (Tm.valL op i l u,s,0)
 | [],i,_=>⟨0,rfl⟩
 | t::l,i,h=>by
  obtain ⟨f,hf⟩:=PQ henv op l (i+1) (fun j t a b=>h (j+1) t (by simpa using a) (by rw [<- b];congr 1;omega));by_cases hb:0<Af op i
  ·refine ⟨f,?_⟩;rw [AU,if_pos hb,hf,Tm.valL,if_pos hb,henv];rfl
  ·obtain ⟨g,hg⟩:=h 0 t rfl (by rw [Nat.add_zero];omega);refine ⟨f+g,?_⟩;rw [AU,if_neg hb];simp only [Cn (show g<=f+g by omega) hg]
   rw [Dj (ev:=fun s e t=>AA f s e t env) (fun s e t r h=>Cn (by omega) h) op env l (i+1) s 0 _ hf,Tm.valL,if_neg hb];rfl
theorem QB {s:Int} (h0:0<=s) (h1:s<=1000000) (k0:Nat):∀(m:Nat) (t:Tm) (u:Nat),t.wt<m->t.stl->t.sc (k0+u)->k0+u+2 * t.wt<=900000->∃f,AA f s 0 t (Gf 0 u)=some (t.val u,s,0):=by
 intro m
 induction m with
 | zero=>intro t u h;omega
 | succ m ih =>
  intro t u hw hst hsc hb;obtain ⟨op,n,ks⟩:=t;rw [Tm.stl] at hst;rw [Tm.sc] at hsc;simp only [Tm.wt] at hw hb;by_cases h1o:op=1
  ·subst h1o;rw [if_pos rfl] at hsc;refine ⟨1,?_⟩;rw [AA,if_neg (by simp),if_neg (by rw [B7];omega),if_pos rfl,Tm.val,if_pos rfl,B7];by_cases hn:n<u
   ·rw [if_pos hn,if_pos hsc.2.1.1,SI _ _ _ (by omega)];simp only [AB2,ABZ,AB0,and_true];congr 1;omega
   ·rw [if_neg hn,if_pos (by omega)]
  ·rw [if_neg h1o] at hsc;obtain ⟨f,hf⟩:=PQ (s:=s) (u:=u) rfl op ks 0 (fun j t a b=>by
    rw [Nat.zero_add] at b;have hwt:=Iv a
    have:=LV hsc.2.2 a
    rw [Nat.zero_add,b,Nat.add_zero] at this;exact ih t u (by omega) (KI hst.2 (List.mem_of_getElem? a)) this (by omega))
   have har:=UC hsc.1;refine ⟨f+10+1,?_⟩;rw [AA,if_neg (by simp),if_neg (by rw [B7];omega),if_neg h1o,if_neg (by omega),if_neg (by omega)];rw [Dj (ev:=fun s e t=>AA f s e t (Gf 0 u)) (fun s e t r h=>Cn (by omega) h) op (Gf 0 u) ks 0 s 0 _ hf];simp only;rw [Tu (show 1<=f+10 by omega) (Akj h0 h1 hsc.1 hst.1 u),Tm.val,if_neg h1o]
theorem ApK (u b:Nat):Gf 0 u++Gf (u:Int) b=Gf 0 (u+b):=by
 induction b with
 | zero=>simp [Gf]
 | succ b ih =>
  rw [LR,<- List.append_assoc,ih,<- Nat.add_assoc,LR];congr 2;simp
theorem OD {s:Int} {u:Nat} {d:Int} (op:Int):∀(l:List Tm) (i:Nat) (nd:Int),0<=nd->u<=800000 ->
  (∀(j:Nat) t,l[j]?=some t->∀nd:Int,0<=nd->nd+t.wt<=3000->∃f,(0<Af op (i+j)->AA f s 0 t (Gf 0 (u+Af op (i+j)))=some (t.val (u+Af op (i+j)),s,0))/\AS f s nd 0 (t.val (u+Af op (i+j))) ((u:Int)+Af op (i+j)) d=some (t,s,nd+t.wt,0)) ->
  nd+Tm.wtL l<=3000->∃f,Bf (fun s nd e k u=>AS f s nd e k u d) f op u i (Tm.valL op i l u) s nd 0=some (l,s,nd+Tm.wtL l,0)
 | [],i,nd,_,_,_,_=>⟨0,by simp [Tm.valL,Bf,Tm.wtL]⟩
 | t::l,i,nd,hnd,hu,h,hw=>by
  simp only [Tm.wtL] at hw;obtain ⟨g,hg1,hg2⟩:=h 0 t rfl nd hnd (by omega);rw [Nat.add_zero] at hg1 hg2;obtain ⟨f,hf⟩:=OD (s:=s) (u:=u) (d:=d) op l (i+1) (nd+t.wt) (by omega) hu (fun j t a nd b c=>by
   obtain ⟨f,q1,q2⟩:=h (j+1) t (by simpa using a) nd b c;rw [show i+(j+1)=i+1+j by omega] at q1 q2
   exact ⟨f,q1,q2⟩) (by omega)
  refine ⟨f+g,?_⟩;rw [Tm.valL,Bf];have hbn:=Bj op i;have hr:=Ei (show g<=f+g by omega) hg2
  have hk:=Es (f:=f) (g:=f+g) (by omega) (rd:=fun s nd e k u=>AS f s nd e k u d) (rd':=fun s nd e k u=>AS (f+g) s nd e k u d) (fun s nd e k u r h=>Ei (by omega) h) op u _ _ _ _ _ _ hf;by_cases hb:0<Af op i
  ·rw [if_pos hb,if_pos hb];rw [show (RV.clo (Gf 0 u) t).env=Gf 0 u from rfl,show (RV.clo (Gf 0 u) t).b=t from rfl]
   rw [if_neg (by rw [B7];omega),ApK,Cn (show g<=f+g by omega) (hg1 hb)]
   simp only;rw [hr];simp only;rw [hk];simp only [AB2,Tm.wtL,ABZ,AB0,true_and,and_true];omega
  ·have hb0:Af op i=0:=by omega
   rw [hb0] at hr;rw [if_neg hb,if_neg hb,hb0];simp only;simp only [Nat.add_zero] at hr;rw [hr];simp only;rw [hk];simp only [AB2,Tm.wtL,ABZ,AB0,true_and,and_true];omega
theorem SV:∀{l:List Tm} {j:Nat} {t:Tm},l[j]?=some t->t.dp<=Tm.dpL l
 | [],_,_,h=>by simp at h
 | x::l,0,t,h=>by
  simp only [List.getElem?_cons_zero,ABZ] at h;subst h;simp only [Tm.dpL];omega
 | x::l,j+1,t,h=>by
  simp only [List.getElem?_cons_succ] at h
  have:=SV h
  simp only [Tm.dpL];omega
theorem Ah8 {s:Int} (h0:0<=s) (h1:s<=1000000) (k0:Nat):∀(m:Nat) (t:Tm) (u:Nat) (nd d:Int),t.wt<m->t.stl->t.sc (k0+u)->k0+u+2 * t.wt<=800000->0<=nd->nd+t.wt<=3000->1<=d->d+t.dp<=121->∃f,AS f s nd 0 (t.val u) u d=some (t,s,nd+t.wt,0):=by
 intro m
 induction m with
 | zero=>intro t u nd d h;omega
 | succ m ih =>
  intro t u nd d hw hst hsc hb hnd hnw hd hdd;obtain ⟨op,n,ks⟩:=t;rw [Tm.stl] at hst;rw [Tm.sc] at hsc;simp only [Tm.wt] at hw hb hnw;simp only [Tm.dp] at hdd;have har:=UC hsc.1;by_cases h1o:op=1
  ·subst h1o;rw [if_pos rfl] at hsc;have hks:ks=[]:=List.eq_nil_of_length_eq_zero (Option.some.inj hsc.1.symm);subst hks;refine ⟨5,?_⟩;rw [Tm.val,if_pos rfl,AS];rw [show (RV.var ((u:Int) - 1 - n)).n=(u:Int) - 1 - n from rfl,show (RV.var ((u:Int) - 1 - n)).k=[] from rfl,show (RV.var ((u:Int) - 1 - n)).op=1 from rfl,List.length_nil]
   rw [if_neg (by omega)];have hc:(if (0:Int)=0/\(3000<nd+1\/120<d) then (5:Int) else 0)=0:=if_neg (by simp only [Tm.wtL] at hnw;omega);rw [hc,if_neg (by simp),if_pos rfl];simp only [ABZ,AB0,Tm.mk.injEq,Tm.wt,Tm.wtL,true_and,and_true];omega
  ·rw [if_neg h1o] at hsc;have hnum:=AlY hsc.2.1;obtain ⟨f,hf⟩:=OD (s:=s) (u:=u) (d:=d+1) op ks 0 (nd+1) (by omega) (by omega) (fun j t a nd b c=>by
    have hwt:=Iv a;have hdt:=SV a;have hsk:=LV hsc.2.2 a;have hbn:=Bj op j;rw [Nat.zero_add] at hsk ⊢;have hstl:=KI hst.2 (List.mem_of_getElem? a);obtain ⟨f1,hf1⟩:=ih t (u+Af op j) nd (d+1) (by omega) hstl (by rw [<- Nat.add_assoc];exact hsk) (by omega) b c (by omega) (by omega);obtain ⟨f2,hf2⟩:=QB h0 h1 k0 (t.wt+1) t (u+Af op j) (by omega) hstl (by rw [<- Nat.add_assoc];exact hsk) (by omega);refine ⟨f1+f2,fun _=>Cn (by omega) hf2,?_⟩
    have:=Ei (show f1<=f1+f2 by omega) hf1
    rw [show ((u+Af op j:Nat):Int)=(u:Int)+(Af op j:Int) by omega] at this
    exact this) (by omega)
   refine ⟨f+10+1,?_⟩;rw [Tm.val,if_neg h1o,AS];rw [show (RV.node op n (Tm.valL op 0 ks u)).n=n from rfl,show (RV.node op n (Tm.valL op 0 ks u)).k=Tm.valL op 0 ks u from rfl,show (RV.node op n (Tm.valL op 0 ks u)).op=op from rfl]
   rw [if_neg (by rw [VY];omega)];have hc:(if (0:Int)=0/\(3000<nd+1\/120<d) then (5:Int) else 0)=0:=if_neg (by omega);rw [hc,if_neg (by simp),if_neg h1o];rw [Es (f:=f) (g:=f+10) (by omega) (rd:=fun s nd e k u=>AS f s nd e k u (d+1)) (rd':=fun s nd e k u=>AS (f+10) s nd e k u (d+1)) (fun s nd e k u r h=>Ei (by omega) h) op u _ _ _ _ _ _ hf];simp only [AB2,ABZ,AB0,Tm.wt,true_and,and_true];omega
theorem Uk {t:Tm} {k:Nat} (hst:t.stl) (hsc:t.sc k) (hk:k<=700000) (hw:t.wt<=3000) (hd:t.dp<=120):∃f,AX f t=some (t,0):=by
 obtain ⟨f1,h1⟩:=QB (s:=0) (by omega) (by omega) k (t.wt+1) t 0 (by omega) hst (by simpa using hsc) (by omega);obtain ⟨f2,h2⟩:=Ah8 (s:=0) (by omega) (by omega) k (t.wt+1) t 0 0 1 (by omega) hst (by simpa using hsc) (by omega) (by omega) (by omega) (by omega) (by omega);refine ⟨f1+f2,?_⟩;have e0:Gf 0 0=[]:=rfl;rw [e0] at h1
 have:=Ei (show f2<=f1+f2 by omega) h2
 rw [AX,Cn (show f1<=f1+f2 by omega) h1]
 simp only;rw [show ((0:Nat):Int)=0 from rfl] at this
 rw [this];simp
theorem Pc {f g:Nat} (hfg:f<=g) {t:Tm} {r:Tm×Int} (h:AX f t=some r):AX g t=some r:=by
 rw [AX] at h ⊢;split at h
 ·cases h
 rename_i v s e he;rw [Cn hfg he];split at h
 ·cases h
 rename_i w s2 nd2 e2 hr;rw [<- h];simp only;rw [Ei hfg hr]
theorem Va {f g:Nat} {t:Tm} {r r':Tm×Int} (h:AX f t=some r) (h':AX g t=some r'):r=r':=by
 have h1:=Pc (show f<=f+g by omega) h
 have h2:=Pc (show g<=f+g by omega) h'
 rw [h1] at h2;exact Option.some.inj h2
mutual
def Tm.vb:Tm->Prop
 | .mk op n ks=>(op=1->n<=4000000000000000000)/\Tm.vbL ks
def Tm.vbL:List Tm->Prop
 | []=>True
 | t::l=>t.vb/\Tm.vbL l
end
mutual
theorem Qv:∀(t:Tm) (k:Nat),t.sc k->k+2 * t.wt<=4000000000000000000->t.vb
 | .mk op n ks,k,h,hk=>by
  rw [Tm.sc] at h;rw [Tm.wt] at hk;rw [Tm.vb];refine ⟨fun h1=>?_,scL_vb ks op 0 k h.2.2 (by omega)⟩
  have:=h.2.1
  rw [if_pos h1] at this;omega
theorem scL_vb:∀(l:List Tm) (op:Int) (i k:Nat),Tm.scL op i l k->k+2+2 * Tm.wtL l<=4000000000000000000->Tm.vbL l
 | [],_,_,_,_,_=>by rw [Tm.vbL];trivial
 | t::l,op,i,k,h,hk=>by
  rw [Tm.scL] at h;simp only [Tm.wtL] at hk
  have:=Bj op i
  rw [Tm.vbL];exact ⟨Qv t _ h.1 (by omega),scL_vb l op (i+1) k h.2 (by omega)⟩
end
inductive ShR (d:Nat):RV->RV->Prop
 | neg (n:Int) (h:n<0):ShR d (.var n) (.var (n - d))
 | pos (n:Int) (h:0<=n):ShR d (.var n) (.var n)
 | node (op n:Int) (k k':List RV) (h1:op≠1) (hl:k'.length=k.length)
   (hk:∀(i:Nat) v v',Af op i=0->k[i]?=some v->k'[i]?=some v'->ShR d v v')
   (hc:∀(i:Nat) (v v':RV),0<Af op i->k[i]?=some v->k'[i]?=some v'->v'.b=v.b.shift d (v.env.length+Af op i:Nat)/\v'.env.length=v.env.length/\v.b.vb)
   (he:∀(i:Nat) (v v':RV) (j:Nat) x x',0<Af op i->k[i]?=some v->k'[i]?=some v'->v.env[j]?=some x->v'.env[j]?=some x'->ShR d x x'):ShR d (.node op n k) (.node op n k')
def VJ (d:Nat) (env env':List RV):Prop:=env'.length=env.length/\∀(j:Nat) x x',env[j]?=some x->env'[j]?=some x'->ShR d x x'
theorem NS {d:Nat} {env env' l l':List RV} (h:VJ d env env') (hl:l'.length=l.length) (hx:∀(j:Nat) x x',l[j]?=some x->l'[j]?=some x'->ShR d x x'):VJ d (env++l) (env'++l'):=by
 refine ⟨by simp [h.1,hl],?_⟩;intro j x x' a b;by_cases hj:j<env.length
 ·rw [List.getElem?_append_left hj] at a;rw [List.getElem?_append_left (by rw [h.1];exact hj)] at b;exact h.2 j x x' a b
 ·rw [List.getElem?_append_right (by omega)] at a;rw [List.getElem?_append_right (by rw [h.1];omega),h.1] at b;exact hx _ x x' a b
theorem I0 {d:Nat} {v v':RV} (h:ShR d v v'):v'.op=v.op/\(v.op≠1->v'.n=v.n/\v'.k.length=v.k.length/\v=.node v.op v.n v.k/\v'=.node v.op v.n v'.k /\
  (∀(i:Nat) x x',Af v.op i=0->v.k[i]?=some x->v'.k[i]?=some x'->ShR d x x') /\
  (∀(i:Nat) (x x':RV),0<Af v.op i->v.k[i]?=some x->v'.k[i]?=some x'->(x'.b=x.b.shift d (x.env.length+Af v.op i:Nat)/\x.b.vb)/\VJ d x.env x'.env)):=by
 cases h with
 | neg n h=>exact ⟨rfl,fun h=>absurd rfl h⟩
 | pos n h=>exact ⟨rfl,fun h=>absurd rfl h⟩
 | node op n k k' h1 hl hk hc he =>
  refine ⟨rfl,fun _=>⟨rfl,hl,rfl,rfl,hk,fun i x x' a b c=>?_⟩⟩;obtain ⟨q1,q2,q3⟩:=hc i x x' a b c;exact ⟨⟨q1,q3⟩,q2,fun j y y' p q=>he i x x' j y y' a b c p q⟩
theorem NR {d:Nat} {op n:Int} {k k':List RV} (h1:op≠1) (hl:k'.length=k.length) (hk:∀(i:Nat) v v',Af op i=0->k[i]?=some v->k'[i]?=some v'->ShR d v v')
  (hc:∀(i:Nat) (x x':RV),0<Af op i->k[i]?=some x->k'[i]?=some x'->(x'.b=x.b.shift d (x.env.length+Af op i:Nat)/\x.b.vb)/\VJ d x.env x'.env):ShR d (.node op n k) (.node op n k') :=
 .node op n k k' h1 hl hk (fun i v v' a b c=>⟨(hc i v v' a b c).1.1,(hc i v v' a b c).2.1,(hc i v v' a b c).1.2⟩) (fun i v v' j x x' a b c e f=>(hc i v v' a b c).2.2 j x x' e f)
theorem B0 {l l':List RV} (h:l'.length=l.length) {j:Nat} {x':RV} (hx:l'[j]?=some x'):∃x,l[j]?=some x :=
 ⟨_,List.getElem?_eq_getElem (by rw [<- h];exact (List.getElem?_eq_some_iff.1 hx).1)⟩
theorem QW {d:Nat} {env env':List RV} {ev ev':Int->Int->Tm->Option (RV×Int×Int)} (henv:VJ d env env') (op:Int)
  (hev:∀s e t v' s' e',ev' s e (t.shift d env.length)=some (v',s',e')->t.vb->∃v,ev s e t=some (v,s',e')/\ShR d v v') :
  ∀(l:List Tm) (i:Nat) (s e:Int) (vs':List RV) (s' e':Int),AU ev' op env' i (Tm.shiftL op i l d env.length) s e=some (vs',s',e')->Tm.vbL l ->
   ∃vs,AU ev op env i l s e=some (vs,s',e')/\vs'.length=vs.length/\(∀(j:Nat) v v',Af op (i+j)=0->vs[j]?=some v->vs'[j]?=some v'->ShR d v v') /\
    (∀(j:Nat) (x x':RV),0<Af op (i+j)->vs[j]?=some x->vs'[j]?=some x'->(x'.b=x.b.shift d (x.env.length+Af op (i+j):Nat)/\x.b.vb)/\VJ d x.env x'.env)
 | [],i,s,e,vs',s',e',h,hv=>by
  simp only [Tm.shiftL,AU,ABZ,AB0] at h;obtain ⟨rfl,rfl,rfl⟩:=h;exact ⟨[],rfl,rfl,fun j v v' _ h=>by simp at h,fun j v v' _ h=>by simp at h⟩
 | t::l,i,s,e,vs',s',e',h,hv=>by
  rw [Tm.vbL] at hv;rw [Tm.shiftL,AU] at h;by_cases hb:0<Af op i
  ·rw [if_pos hb] at h;cases hk:AU ev' op env' (i+1) (Tm.shiftL op (i+1) l d env.length) s e with
   | none=>rw [hk] at h;cases h
   | some q =>
    obtain ⟨us',s1,e1⟩:=q;rw [hk] at h;simp only [AB2,ABZ,AB0] at h;obtain ⟨rfl,rfl,rfl⟩:=h;obtain ⟨us,q1,q2,q3,q4⟩:=QW henv op hev l (i+1) s e us' s1 e1 hk hv.2;refine ⟨.clo env t::us,by rw [AU,if_pos hb,q1];rfl,by simp [q2],?_,?_⟩
    ·intro j v v' h0 a b;cases j with
     | zero=>rw [Nat.add_zero] at h0;omega
     | succ j =>
      simp only [List.getElem?_cons_succ] at a b;exact q3 j v v' (by rw [<- h0];congr 1;omega) a b
    ·intro j x x' h0 a b;cases j with
     | zero =>
      simp only [List.getElem?_cons_zero,ABZ] at a b;subst a b;simp only [Nat.add_zero,RV.clo,RV.b,RV.env];exact ⟨⟨by congr 1,hv.1⟩,henv⟩
     | succ j =>
      simp only [List.getElem?_cons_succ] at a b
      have:=q4 j x x' (by rw [show i+1+j=i+(j+1) by omega];exact h0) a b
      rw [show i+1+j=i+(j+1) by omega] at this
      exact this
  ·rw [if_neg hb] at h;have hb0:Af op i=0:=by omega
   rw [hb0] at h;simp only [Int.ofNat_zero,Int.add_zero] at h;split at h
   ·cases h
   rename_i v0' s1 e1 hv0;obtain ⟨v0,p1,p2⟩:=hev s e t v0' s1 e1 (by simpa using hv0) hv.1;cases hk:AU ev' op env' (i+1) (Tm.shiftL op (i+1) l d env.length) s1 e1 with
   | none=>rw [hk] at h;cases h
   | some q =>
    obtain ⟨us',s2,e2⟩:=q;rw [hk] at h;simp only [AB2,ABZ,AB0] at h;obtain ⟨rfl,rfl,rfl⟩:=h;obtain ⟨us,q1,q2,q3,q4⟩:=QW henv op hev l (i+1) s1 e1 us' s2 e2 hk hv.2;refine ⟨v0::us,by rw [AU,if_neg hb,p1];simp only;rw [q1];rfl,by simp [q2],?_,?_⟩
    ·intro j v v' h0 a b;cases j with
     | zero =>
      simp only [List.getElem?_cons_zero,ABZ] at a b;subst a b;exact p2
     | succ j =>
      simp only [List.getElem?_cons_succ] at a b;exact q3 j v v' (by rw [<- h0];congr 1;omega) a b
    ·intro j x x' h0 a b;cases j with
     | zero=>rw [Nat.add_zero] at h0;omega
     | succ j =>
      simp only [List.getElem?_cons_succ] at a b
      have:=q4 j x x' (by rw [show i+1+j=i+(j+1) by omega];exact h0) a b
      rw [show i+1+j=i+(j+1) by omega] at this
      exact this
theorem NY {d f:Nat} {s:Int} {v v' w':RV} {s' e':Int} (hb:Af v.op 0=0) (hs:ShR d v v') (hv1:v.op≠1) (i:Nat) (o:Int) (ho1:o≠1) (hbi:Af o i=0)
  (h:(match v'.k[0]? with
   | none=>none
   | some k0=>if k0.op=o then (if s+1<=1000 then (k0.k[i]?).map fun x=>(x,s+1,(0:Int)) else some (v',s+1,17)) else some (v',s,0))=some (w',s',e')) :
  ∃w,(match v.k[0]? with
   | none=>none
   | some k0=>if k0.op=o then (if s+1<=1000 then (k0.k[i]?).map fun x=>(x,s+1,(0:Int)) else some (v,s+1,17)) else some (v,s,0))=some (w,s',e')/\ShR d w w':=by
 obtain ⟨_,a2⟩:=I0 hs;obtain ⟨a3,a4,a5,a6,a7,a8⟩:=a2 hv1;cases hk:v'.k[0]? with
 | none=>rw [hk] at h;cases h
 | some k0' =>
  rw [hk] at h;obtain ⟨k0,hk0⟩:=B0 a4 hk;have hr:=a7 0 k0 k0' hb hk0 hk;obtain ⟨b1,b2⟩:=I0 hr;rw [hk0];simp only at h ⊢;rw [b1] at h;by_cases hop:k0.op=o
  ·rw [if_pos hop] at h ⊢;by_cases hq:s+1<=1000
   ·rw [if_pos hq] at h ⊢;obtain ⟨b3,b4,b5,b6,b7,b8⟩:=b2 (by rw [hop];exact ho1);cases hx:k0'.k[i]? with
    | none=>rw [hx] at h;cases h
    | some x' =>
     rw [hx] at h;simp only [AB2,ABZ,AB0] at h;obtain ⟨rfl,rfl,rfl⟩:=h;obtain ⟨x,hx0⟩:=B0 b4 hx;rw [hx0];exact ⟨x,rfl,b7 i x x' (by rw [hop];exact hbi) hx0 hx⟩
   ·rw [if_neg hq] at h ⊢;simp only [ABZ,AB0] at h;obtain ⟨rfl,rfl,rfl⟩:=h;exact ⟨v,rfl,hs⟩
  ·rw [if_neg hop] at h ⊢;simp only [ABZ,AB0] at h;obtain ⟨rfl,rfl,rfl⟩:=h;exact ⟨v,rfl,hs⟩
theorem Y2 (d:Nat) (hd:d<=1000000):∀f,(∀s e t env env' v' s' e',AA f s e (t.shift d env.length) env'=some (v',s',e')->t.vb->VJ d env env'->∃v,AA f s e t env=some (v,s',e')/\ShR d v v') /\
  (∀s e v v' w' s' e',headR f s e v'=some (w',s',e')->ShR d v v'->v.op≠1->∃w,headR f s e v=some (w,s',e')/\ShR d w w'):=by
 intro f
 induction f with
 | zero=>exact ⟨(by intro s e t env env' v' s' e' h;rw [AA] at h;cases h),(by intro s e v v' w' s' e' h;rw [headR] at h;cases h)⟩
 | succ f ih =>
  refine ⟨?_,?_⟩
  ·intro s e t env env' v' s' e' h hvb henv;obtain ⟨op,m,ks⟩:=t;rw [Tm.vb] at hvb;rw [Tm.shift] at h;obtain ⟨m',hm'⟩:∃m':Int,m'=(if op=1/\(env.length:Int)<=m then BK (m+d) else m):=⟨_,rfl⟩;rw [<- hm',AA] at h;rw [AA];by_cases he:e≠0
   ·rw [if_pos he] at h ⊢;simp only [ABZ,AB0] at h;obtain ⟨rfl,rfl,rfl⟩:=h;exact ⟨_,rfl,NR (by decide) rfl (fun i v v' _ h=>by simp at h) (fun i v v' _ h=>by simp at h)⟩
   rw [if_neg he] at h ⊢;rw [henv.1] at h;by_cases hl:900000<env.length
   ·rw [if_pos hl] at h;cases h
   rw [if_neg hl] at h ⊢;by_cases h1:op=1
   ·rw [if_pos h1] at h ⊢;by_cases hm:(env.length:Int)<=m
    ·have hw:BK (m+d)=m+d:=by rw [Av (by omega) (by have:=hvb.1 h1;omega)]
     rw [if_pos ⟨h1,hm⟩,hw] at hm';rw [if_neg (by omega)] at h;rw [if_neg (by omega)];split at h
     ·simp only [ABZ,AB0] at h;obtain ⟨rfl,rfl,rfl⟩:=h;rw [if_pos (by omega),hm'];refine ⟨_,rfl,?_⟩
      have:=ShR.neg (d:=d) ((env.length:Int) - 1 - m) (by omega)
      rw [show (env.length:Int) - 1 - m - d=(env.length:Int) - 1 - (m+d) by omega] at this
      exact this
     ·cases h
    ·rw [if_neg (fun h=>hm h.2)] at hm';rw [hm'] at h;rw [if_pos (by omega)] at h;rw [if_pos (by omega)];split at h
     ·rename_i h0;rw [if_pos h0];cases hx:env'[((env.length:Int) - 1 - m).toNat]? with
      | none=>rw [hx] at h;cases h
      | some x' =>
       rw [hx] at h;simp only [AB2,ABZ,AB0] at h;obtain ⟨rfl,rfl,rfl⟩:=h;obtain ⟨x,hx0⟩:=B0 henv.1 hx;rw [hx0];exact ⟨x,rfl,henv.2 _ x x' hx0 hx⟩
     ·cases h
   ·rw [if_neg h1] at h ⊢;rw [if_neg (fun h=>h1 h.1)] at hm';rw [hm'] at h;rw [EA] at h;split at h
    ·cases h
    rename_i h2;rw [if_neg h2];split at h
    ·cases h
    rename_i h3;rw [if_neg h3];split at h
    ·cases h
    rename_i vs' s1 e1 hk;obtain ⟨vs,q1,q2,q3,q4⟩:=QW (ev:=fun s e t=>AA f s e t env) henv op (fun s e t v' s' e' a b=>ih.1 s e t env env' v' s' e' a b henv) ks 0 s e vs' s1 e1 hk hvb.2;rw [q1];simp only;simp only [Nat.zero_add] at q3 q4;exact ih.2 _ _ _ _ _ _ _ h (NR h1 q2 q3 q4) h1
  ·intro s e v v' w' s' e' h hs hv1;obtain ⟨a1,a2⟩:=I0 hs;obtain ⟨a3,a4,a5,a6,a7,a8⟩:=a2 hv1;rw [headR] at h ⊢;rw [a1] at h;by_cases he:e≠0
   ·rw [if_pos he] at h ⊢;simp only [ABZ,AB0] at h;obtain ⟨rfl,rfl,rfl⟩:=h;exact ⟨v,rfl,hs⟩
   rw [if_neg he] at h ⊢;have he0:e=0:=by omega
   subst he0;split at h
   ·cases h
   rename_i hsb;rw [if_neg hsb];by_cases h5:v.op=5
   ·rw [if_pos h5] at h ⊢;cases hk:v'.k[0]? with
    | none=>rw [hk] at h;cases h
    | some k0' =>
     rw [hk] at h;obtain ⟨k0,hk0⟩:=B0 a4 hk;have hr:=a7 0 k0 k0' (by rw [h5];rfl) hk0 hk;obtain ⟨b1,b2⟩:=I0 hr;rw [hk0];simp only at h ⊢;rw [b1] at h;by_cases hop:k0.op=4
     ·rw [if_pos hop] at h ⊢;by_cases hq:s+1<=1000
      ·rw [if_pos hq] at h ⊢;obtain ⟨b3,b4,b5,b6,b7,b8⟩:=b2 (by rw [hop];decide);cases hc:k0'.k[1]? with
       | none=>rw [hc] at h;cases h
       | some c' =>
       cases hx:v'.k[1]? with
       | none=>rw [hc,hx] at h;cases h
       | some x' =>
        rw [hc,hx] at h;obtain ⟨c,hc0⟩:=B0 b4 hc;obtain ⟨x,hx0⟩:=B0 a4 hx;have hxr:=a7 1 x x' (by rw [h5];rfl) hx0 hx;obtain ⟨⟨c1,c2⟩,c3⟩:=b8 1 c c' (by rw [hop];decide) hc0 hc;rw [hc0,hx0];simp only at h ⊢;rw [c3.1] at h;split at h
        ·cases h
        rename_i hcl;rw [if_neg hcl];rw [hop,show Af 4 1=1 from rfl] at c1
        rw [c1] at h;have henv:=NS (l:=[x]) (l':=[x']) c3 rfl (fun j y y' a b=>by
         cases j with
         | zero =>
          simp only [List.getElem?_cons_zero,ABZ] at a b;subst a b;exact hxr
         | succ j=>simp at a)
        exact ih.1 _ _ c.b (c.env++[x]) _ _ _ _ (by rw [List.length_append];exact h) c2 henv
      ·rw [if_neg hq] at h ⊢;simp only [ABZ,AB0] at h;obtain ⟨rfl,rfl,rfl⟩:=h;exact ⟨v,rfl,hs⟩
     ·rw [if_neg hop] at h ⊢;simp only [ABZ,AB0] at h;obtain ⟨rfl,rfl,rfl⟩:=h;exact ⟨v,rfl,hs⟩
   rw [if_neg h5] at h ⊢;by_cases h89:v.op=8\/v.op=9
   ·rw [if_pos h89] at h ⊢;exact NY (f:=f) (by rcases h89 with h | h<;>rw [h]<;>rfl) hs hv1 (1+v.op - 8).toNat 7 (by decide) (by simp [Af]) h
   rw [if_neg h89] at h ⊢;by_cases h30:v.op=30
   ·rw [if_pos h30] at h ⊢;exact NY (f:=f) (by rw [h30];rfl) hs hv1 0 19 (by decide) rfl h
   rw [if_neg h30] at h ⊢;by_cases h19:v.op=19
   ·rw [if_pos h19] at h ⊢;exact NY (f:=f) (by rw [h19];rfl) hs hv1 0 30 (by decide) rfl h
   rw [if_neg h19] at h ⊢;by_cases h13:v.op=13
   ·rw [if_pos h13] at h ⊢;cases hk0:v'.k[0]? with
    | none=>rw [hk0] at h;cases h
    | some k0' =>
    cases hk1:v'.k[1]? with
    | none=>rw [hk0,hk1] at h;cases h
    | some k1' =>
    cases hk2:v'.k[2]? with
    | none=>rw [hk0,hk1,hk2] at h;cases h
    | some k2' =>
    cases hk3:v'.k[3]? with
    | none=>rw [hk0,hk1,hk2,hk3] at h;cases h
    | some k3' =>
     rw [hk0,hk1,hk2,hk3] at h;obtain ⟨k0,g0⟩:=B0 a4 hk0;obtain ⟨k1,g1⟩:=B0 a4 hk1;obtain ⟨k2,g2⟩:=B0 a4 hk2;obtain ⟨k3,g3⟩:=B0 a4 hk3;rw [g0,g1,g2,g3];simp only at h ⊢;have r1:=a7 1 k1 k1' (by rw [h13];rfl) g1 hk1;have r3:=a7 3 k3 k3' (by rw [h13];rfl) g3 hk3;obtain ⟨b1,b2⟩:=I0 r3;rw [b1] at h;split at h
     ·rename_i h11;rw [if_pos h11];split at h
      ·rename_i hq;rw [if_pos hq];simp only [ABZ,AB0] at h;obtain ⟨rfl,rfl,rfl⟩:=h;exact ⟨k1,rfl,r1⟩
      ·rename_i hq;rw [if_neg hq];simp only [ABZ,AB0] at h;obtain ⟨rfl,rfl,rfl⟩:=h;exact ⟨v,rfl,hs⟩
     ·rename_i h11;rw [if_neg h11];split at h
      ·rename_i h12;rw [if_pos h12];split at h
       ·rename_i hq;rw [if_pos hq];obtain ⟨b3,b4,b5,b6,b7,b8⟩:=b2 (by rw [h12];decide);cases hx:k3'.k[0]? with
        | none=>rw [hx] at h;cases h
        | some x' =>
         rw [hx] at h;obtain ⟨x,hx0⟩:=B0 b4 hx;have rx:=b7 0 x x' (by rw [h12];rfl) hx0 hx;rw [hx0];simp only at h ⊢;split at h
         ·cases h
         rename_i w2' s5 e5 hw;obtain ⟨⟨c1,c2⟩,c3⟩:=a8 2 k2 k2' (by rw [h13];decide) g2 hk2;have c0:=a8 0 k0 k0' (by rw [h13];decide) g0 hk0;rw [h13] at c0 c1;have hn:ShR d (.node 13 0 [k0,k1,k2,x]) (.node 13 0 [k0',k1',k2',x']):=by
          refine NR (by decide) rfl ?_ ?_
          ·intro i y y' hb a b
           match i with
           | 0=>exact absurd hb (by decide)
           | 1=>simp at a b;subst a b;exact r1
           | 2=>exact absurd hb (by decide)
           | 3=>simp at a b;subst a b;exact rx
           | i+4=>simp at a
          ·intro i y y' hb a b
           match i with
           | 0=>simp at a b;subst a b;exact c0
           | 1=>exact absurd hb (by decide)
           | 2=>simp at a b;subst a b;exact ⟨⟨c1,c2⟩,c3⟩
           | 3=>exact absurd hb (by decide)
           | i+4=>simp at a
         obtain ⟨w2,p1,p2⟩:=ih.2 _ _ _ _ _ _ _ hw hn (by simp [RV.node,RV.op]);rw [p1];simp only;rw [c3.1] at h;split at h
         ·cases h
         rename_i hcl;rw [if_neg hcl];rw [c1] at h;have henv:=NS (l:=[x,w2]) (l':=[x',w2']) c3 rfl (fun j y y' a b=>by
          match j with
          | 0=>simp at a b;subst a b;exact rx
          | 1=>simp at a b;subst a b;exact p2
          | j+2=>simp at a)
         exact ih.1 _ _ k2.b (k2.env++[x,w2]) _ _ _ _ (by rw [List.length_append];exact h) c2 henv
       ·rename_i hq;rw [if_neg hq];simp only [ABZ,AB0] at h;obtain ⟨rfl,rfl,rfl⟩:=h;exact ⟨v,rfl,hs⟩
      ·rename_i h12;rw [if_neg h12];simp only [ABZ,AB0] at h;obtain ⟨rfl,rfl,rfl⟩:=h;exact ⟨v,rfl,hs⟩
   rw [if_neg h13] at h ⊢;simp only [ABZ,AB0] at h;obtain ⟨rfl,rfl,rfl⟩:=h;exact ⟨v,rfl,hs⟩
theorem Vy {d f:Nat} (hd:d<=1000000) {rd:Int->Int->Int->RV->Int->Option (Tm×Int×Int×Int)} {u:Nat}
  (hrd:∀s nd e v v' (u:Nat) t' s' nd' e',rd s nd e v' u=some (t',s',nd',e')->ShR d v v'->∃t,rd s nd e v u=some (t,s',nd',e')/\t'=t.shift d u) (op:Int) :
  ∀(l l':List RV) (i:Nat) (s nd e:Int) (ts':List Tm) (s' nd' e':Int),Bf rd f op u i l' s nd e=some (ts',s',nd',e')->l'.length=l.length ->
   (∀(j:Nat) v v',Af op (i+j)=0->l[j]?=some v->l'[j]?=some v'->ShR d v v') ->
   (∀(j:Nat) (x x':RV),0<Af op (i+j)->l[j]?=some x->l'[j]?=some x'->(x'.b=x.b.shift d (x.env.length+Af op (i+j):Nat)/\x.b.vb)/\VJ d x.env x'.env) ->
   ∃ts,Bf rd f op u i l s nd e=some (ts,s',nd',e')/\ts'=Tm.shiftL op i ts d u
 | [],[],i,s,nd,e,ts',s',nd',e',h,_,_,_=>by
  simp only [Bf,ABZ,AB0] at h;obtain ⟨rfl,rfl,rfl,rfl⟩:=h;exact ⟨[],rfl,rfl⟩
 | k::l,k'::l',i,s,nd,e,ts',s',nd',e',h,hl,hk,hc=>by
  simp only [Bf] at h ⊢;split at h
  ·cases h
  rename_i y' s1 e1 hy;split at h
  ·cases h
  rename_i t' s2 nd2 e2 ht;have hkey:∃y,(if 0<Af op i then (if 900000<k.env.length then none else AA f s e k.b (k.env++Gf u (Af op i))) else some (k,s,e))=some (y,s1,e1)/\ShR d y y':=by
   by_cases hb:0<Af op i
   ·rw [if_pos hb] at hy ⊢;obtain ⟨⟨c1,c2⟩,c3⟩:=hc 0 k k' (by rw [Nat.add_zero];exact hb) rfl rfl;rw [c3.1] at hy;split at hy
    ·cases hy
    rename_i hcl;rw [if_neg hcl];rw [c1,Nat.add_zero] at hy;have henv:=NS (l:=Gf u (Af op i)) (l':=Gf u (Af op i)) c3 rfl (fun j y y' a b=>by
     have hj:j<Af op i:=by
      have:=(List.getElem?_eq_some_iff.1 a).1
      rw [B7] at this;exact this
     rw [SI _ _ _ hj,ABZ] at a b;subst a b;exact .pos _ (by omega))
    exact (Y2 d hd f).1 _ _ k.b (k.env++Gf u (Af op i)) _ _ _ _ (by rw [List.length_append,B7];exact hy) c2 henv
   ·rw [if_neg hb] at hy ⊢;simp only [ABZ,AB0] at hy;obtain ⟨rfl,rfl,rfl⟩:=hy;exact ⟨k,rfl,hk 0 k k' (by rw [Nat.add_zero];omega) rfl rfl⟩
  obtain ⟨y,p1,p2⟩:=hkey;rw [p1];simp only;obtain ⟨t,q1,q2⟩:=hrd _ _ _ y y' (u+Af op i) t' s2 nd2 e2 (by rw [show ((u+Af op i:Nat):Int)=(u:Int)+(Af op i:Int) by omega];exact ht) p2
  rw [show ((u+Af op i:Nat):Int)=(u:Int)+(Af op i:Int) by omega] at q1
  rw [q1];simp only;cases hr:Bf rd f op u (i+1) l' s2 nd2 e2 with
  | none=>rw [hr] at h;cases h
  | some q =>
   obtain ⟨us',s3,nd3,e3⟩:=q;rw [hr] at h;simp only [AB2,ABZ,AB0] at h;obtain ⟨rfl,rfl,rfl,rfl⟩:=h;obtain ⟨us,r1,r2⟩:=Vy hd hrd op l l' (i+1) s2 nd2 e2 us' s3 nd3 e3 hr (by simpa using hl) (fun j v v' a b c=>hk (j+1) v v' (by rw [<- a];congr 1;omega) (by simpa using b) (by simpa using c)) (fun j x x' a b c=>by
    have:=hc (j+1) x x' (by rw [show i+(j+1)=i+1+j by omega];exact a) (by simpa using b) (by simpa using c)
    rw [show i+(j+1)=i+1+j by omega] at this
    exact this)
   rw [r1];refine ⟨t::us,rfl,?_⟩;rw [Tm.shiftL,r2,q2];rw [show ((u+Af op i:Nat):Int)=(u:Int)+(Af op i:Int) by omega]
 | [],_::_,_,_,_,_,_,_,_,_,_,hl,_,_=>by simp at hl
 | _::_,[],_,_,_,_,_,_,_,_,_,hl,_,_=>by simp at hl
theorem AoV (d:Nat) (hd:d<=1000000):∀f s nd e v v' (u:Nat) dd t' s' nd' e',AS f s nd e v' u dd=some (t',s',nd',e')->ShR d v v'->∃t,AS f s nd e v u dd=some (t,s',nd',e')/\t'=t.shift d u:=by
 intro f
 induction f with
 | zero=>intro s nd e v v' u dd t' s' nd' e' h;rw [AS] at h;cases h
 | succ f ih =>
  intro s nd e v v' u dd t' s' nd' e' h hs;rw [AS] at h ⊢;by_cases h1:v.op=1
  ·obtain ⟨n,n',rfl,rfl,hn⟩:∃n n':Int,v=.var n/\v'=.var n'/\(n<0/\n'=n - d\/0<=n/\n'=n):=by
    cases hs with
    | neg n hn=>exact ⟨n,_,rfl,rfl,.inl ⟨hn,rfl⟩⟩
    | pos n hn=>exact ⟨n,n,rfl,rfl,.inr ⟨hn,rfl⟩⟩
    | node op n k k' h1'=>exact absurd h1 h1'
   rw [show (RV.var n').n=n' from rfl,show (RV.var n').k=[] from rfl,show (RV.var n').op=1 from rfl,List.length_nil] at h
   rw [show (RV.var n).n=n from rfl,show (RV.var n).k=[] from rfl,show (RV.var n).op=1 from rfl,List.length_nil]
   by_cases hb:nd<0\/1000000<nd\/(u:Int)<0\/1000000<(u:Int)\/dd<0\/1000000<dd\/n' < -2305843009213693952\/2305843009213693952<n'\/f<=0\/900000<0\/f<=3
   ·rw [if_pos hb] at h;cases h
   rw [if_neg hb] at h;rw [if_neg (by omega)];by_cases hne:(if e=0/\(3000<nd+1\/120<dd) then (5:Int) else e)≠0
   ·rw [if_pos hne] at h ⊢;simp only [ABZ,AB0] at h;obtain ⟨rfl,rfl,rfl,rfl⟩:=h;exact ⟨_,rfl,rfl⟩
   ·rw [if_neg hne,if_pos rfl] at h ⊢;simp only [ABZ,AB0] at h;obtain ⟨rfl,rfl,rfl,rfl⟩:=h;refine ⟨_,rfl,?_⟩;rw [Tm.shift,Tm.shiftL];rcases hn with ⟨hn,rfl⟩ | ⟨hn,rfl⟩
    ·rw [if_pos ⟨rfl,by omega⟩,Av (by omega) (by omega)];congr 1;omega
    ·rw [if_neg (by omega)]
  obtain ⟨a1,a2⟩:=I0 hs;rw [a1] at h;split at h
  ·cases h
  rename_i hbad
  ·obtain ⟨a3,a4,a5,a6,a7,a8⟩:=a2 h1
   first | rw [if_neg h1] at h | skip
   rw [if_neg h1];rw [a3,a4] at hbad;rw [a3] at h;rw [if_neg hbad];by_cases hne:(if e=0/\(3000<nd+1\/120<dd) then (5:Int) else e)≠0
   ·rw [if_pos hne] at h ⊢;simp only [ABZ,AB0] at h;obtain ⟨rfl,rfl,rfl,rfl⟩:=h;exact ⟨_,rfl,rfl⟩
   ·rw [if_neg hne] at h ⊢;cases hr:Bf (fun s nd e k u=>AS f s nd e k u (dd+1)) f v.op u 0 v'.k s (nd+1) 0 with
    | none=>rw [hr] at h;cases h
    | some q =>
     obtain ⟨us',s3,nd3,e3⟩:=q;rw [hr] at h;simp only [AB2,ABZ,AB0] at h;obtain ⟨rfl,rfl,rfl,rfl⟩:=h;obtain ⟨us,r1,r2⟩:=Vy hd (rd:=fun s nd e k u=>AS f s nd e k u (dd+1)) (fun s nd e v v' u t' s' nd' e' a b=>ih s nd e v v' u (dd+1) t' s' nd' e' a b) v.op v.k v'.k 0 s (nd+1) 0 us' s3 nd3 e3 hr a4 (fun j x x' a b c=>a7 j x x' (by rw [<- a];congr 1;omega) b c) (fun j x x' a b c=>by
      rw [Nat.zero_add] at a ⊢;exact a8 j x x' a b c)
     rw [r1];refine ⟨_,rfl,?_⟩;rw [Tm.shift,if_neg (fun h=>h1 h.1),r2]
theorem AhP {d:Nat} (hd:d<=1000000) {f:Nat} {t u':Tm} {e':Int} (h:AX f (t.shift d 0)=some (u',e')) (hvb:t.vb):∃u,AX f t=some (u,e')/\u'=u.shift d 0:=by
 rw [AX] at h ⊢;split at h
 ·cases h
 rename_i v' s e he;obtain ⟨v,p1,p2⟩:=(Y2 d hd f).1 0 0 t [] [] v' s e (by simpa using he) hvb ⟨rfl,fun j x x' a=>by simp at a⟩;rw [p1];simp only;split at h
 ·cases h
 rename_i w' s2 nd2 e2 hr;obtain ⟨w,q1,q2⟩:=AoV d hd f s 0 e v v' 0 1 w' s2 nd2 e2 (by simpa using hr) p2;rw [show ((0:Nat):Int)=0 from rfl] at q1 q2
 rw [q1];simp only [ABZ] at h ⊢;by_cases h2:e2≠0
 ·rw [if_pos h2] at h ⊢;simp only [AB0] at h;obtain ⟨rfl,rfl⟩:=h;exact ⟨_,rfl,rfl⟩
 ·rw [if_neg h2] at h ⊢;simp only [AB0] at h;obtain ⟨rfl,rfl⟩:=h;exact ⟨_,rfl,q2⟩
def Hit (g:Ci) (st:Int) (a:Tm) (i:Nat):Prop:=i<g.length/\∃T f w,g[g.length - 1 - i]?=some (st,T)/\AX f (T.shift ((i+1:Nat):Int) 0)=some (w,0)/\w.eta=a.eta
inductive Gr:Nat->Nat->Ci->Tm->Tm->Prop
 | tnat (e:Nat) (g:Ci) (a:Tm):Gr 0 e g a (.mk 10 0 [])
 | tty (e:Nat) (g:Ci) (a:Tm):Gr 0 e g a (.mk 14 0 [])
 | tu (e:Nat) (g:Ci) (a:Tm):Gr 0 e g a (.mk 2 0 [])
 | tlp (e:Nat) (g:Ci) (a r:Tm):Gr 0 e g a (.mk 18 0 [r.plainT 1])
 | tpi (e:Nat) (g:Ci) (a x y:Tm) (op:Int) (ho:op=3\/op=6) (h6:6<=e) (hgl:g.length<=60) (hx:AOk g.length x) (h1:Gr 0 (e - 1) g .z x) (h2:Gr 0 (e - 1) (g++[(1,x)]) .z y):Gr 0 e g a (.mk op 0 [x,y])
 | tlift (e:Nat) (g:Ci) (a t:Tm) (h6:6<=e) (h1:Gr 1 (e - 1) g (.mk 14 0 []) t):Gr 0 e g a (.mk 18 0 [t])
 | grow (e:Nat) (g:Ci) (a0 a t:Tm) (f:Nat) (hn:AX f a0=some (a,0)) (hg:g.length<=60) (ha:NOk g.length a) (h1:Gr 3 e g a t):Gr 1 e g a0 t
 | objc (e:Nat) (g:Ci) (a0 a t:Tm) (f:Nat) (hn:AX f a0=some (a,0)) (hg:g.length<=60) (ha:NOk g.length a) (h1:Gr 4 e g a t):Gr 2 e g a0 t
 | var1 (e:Nat) (g:Ci) (a:Tm) (i:Nat) (h:Hit g 1 a i):Gr 3 e g a (.mk 1 i [])
 | var0 (e:Nat) (g:Ci) (a:Tm) (i:Nat) (h:Hit g 0 a i):Gr 4 e g a (.mk 1 i [])
 | fst (e:Nat) (g:Ci) (a b c x:Tm) (h6:6<=e) (hb:AOk g.length b) (h1:Gr 0 6 g .z b) (h2:Gr 1 (e - 2) g b x) (h3:Gr 1 (e - 2) g a c):Gr 3 e g a (.mk 8 0 [.mk 7 0 [.mk 6 0 [a,b.shift 1 0],c,x]])
 | app (e:Nat) (g:Ci) (a b c x:Tm) (h6:6<=e) (hb:AOk g.length b) (h1:Gr 0 6 g .z b) (h2:Gr 1 (e - 2) g b x) (h3:Gr 1 (e - 2) (g++[(1,b)]) (a.shift 1 0) c):Gr 3 e g a (.mk 5 0 [.mk 4 0 [b,c],x])
 | recc (e:Nat) (g:Ci) (a n z s:Tm) (h6:6<=e) (ha:a.op=10\/a.op=14) (h1:Gr 1 (e - 2) g (.mk 10 0 []) n) (h2:Gr 1 (e - 2) g a z) (h3:Gr 1 (e - 2) (g++[(1,.mk 10 0 [])]++[(1,a.shift 1 0)]) (a.shift 2 0) s):Gr 3 e g a (.mk 13 0 [a.shift 1 0,z,s,n])
 | suc (e:Nat) (g:Ci) (a n:Tm) (h6:6<=e) (ha:a.op=10) (h1:Gr 1 (e - 1) g a n):Gr 3 e g a (.mk 12 0 [n])
 | num (e:Nat) (g:Ci) (a:Tm) (j:Nat) (ha:a.op=10) (hj:j<=3):Gr 3 e g a (CM j)
 | tint (e:Nat) (g:Ci) (a:Tm) (ha:a.op=14):Gr 3 e g a (.mk 15 0 [])
 | tfun (e:Nat) (g:Ci) (a x y:Tm) (op:Int) (ho:op=16\/op=17) (h6:6<=e) (ha:a.op=14) (h1:Gr 1 (e - 1) g a x) (h2:Gr 1 (e - 1) g a y):Gr 3 e g a (.mk op 0 [x,y])
 | uni (e:Nat) (g:Ci) (a:Tm) (n:Int) (ha:a.op=2):Gr 3 e g a (.mk 2 n [])
 | unat (e:Nat) (g:Ci) (a:Tm) (ha:a.op=2):Gr 3 e g a (.mk 10 0 [])
 | uty (e:Nat) (g:Ci) (a:Tm) (ha:a.op=2):Gr 3 e g a (.mk 14 0 [])
 | ult (e:Nat) (g:Ci) (a:Tm) (ha:a.op=2):Gr 3 e g a (.mk 18 0 [.mk 15 0 []])
 | upi (e:Nat) (g:Ci) (a x y:Tm) (op:Int) (ho:op=3\/op=6) (h6:6<=e) (ha:a.op=2) (hx:AOk g.length x) (h1:Gr 1 (e - 1) g a x) (h2:Gr 1 (e - 1) (g++[(1,x)]) a y):Gr 3 e g a (.mk op 0 [x,y])
 | lam (e:Nat) (g:Ci) (n:Int) (d c x:Tm) (h1:Gr 1 (e - 1) (g++[(1,d)]) c x):Gr 3 e g (.mk 3 n [d,c]) (.mk 4 0 [d,x])
 | pair (e:Nat) (g:Ci) (n:Int) (d c x y:Tm) (hx:AOk g.length x) (h1:Gr 1 (e - 1) g d x) (h2:Gr 1 (e - 1) g (c.subst 0 0 x) y):Gr 3 e g (.mk 6 n [d,c]) (.mk 7 0 [.mk 6 n [d,c],x,y])
 | quo (e:Nat) (g:Ci) (n:Int) (d x:Tm) (h1:Gr 2 (e - 1) g d x):Gr 3 e g (.mk 18 n [d]) (.mk 19 0 [x])
 | oif (e:Nat) (g:Ci) (a c x y:Tm) (h6:6<=e) (h1:Gr 2 (e - 2) g (.mk 15 0 []) c) (h2:Gr 2 (e - 2) g a x) (h3:Gr 2 (e - 2) g a y):Gr 4 e g a (.mk 27 0 [c,x,y])
 | olet (e:Nat) (g:Ci) (a r x y:Tm) (h6:6<=e) (h1:Gr 2 (e - 2) g (r.plainT 1) x) (h2:Gr 2 (e - 2) (g++[(0,r.plainT 1)]) (a.shift 1 0) y):Gr 4 e g a (.mk 28 0 [x,y])
 | oapp (e:Nat) (g:Ci) (a r x y:Tm) (h6:6<=e) (h1:Gr 2 (e - 2) g (r.plainT 1) x) (h2:Gr 2 (e - 2) (g++[(0,r.plainT 1)]) (a.shift 1 0) y):Gr 4 e g a (.mk 21 0 [.mk 20 0 [r.plainT 1,y],x])
 | ofst (e:Nat) (g:Ci) (a x y:Tm) (h6:6<=e) (h1:Gr 2 (e - 2) g a x) (h2:Gr 2 (e - 2) g (.mk 15 0 []) y):Gr 4 e g a (.mk 23 0 [.mk 22 0 [x,y]])
 | ofix (e:Nat) (g:Ci) (a x:Tm) (h6:6<=e) (h1:Gr 2 (e - 2) (g++[(0,a)]) (a.shift 1 0) x):Gr 4 e g a (.mk 29 0 [a,x])
 | spl (e:Nat) (g:Ci) (a x:Tm) (h6:6<=e) (h1:Gr 1 (e - 1) g (.mk 18 0 [a]) x):Gr 4 e g a (.mk 30 0 [x])
 | oint (e:Nat) (g:Ci) (a:Tm) (n:Int) (ha:a.op=15):Gr 4 e g a (.mk 25 n [])
 | oprim (e:Nat) (g:Ci) (a p q:Tm) (n:Int) (h6:6<=e) (ha:a.op=15) (h1:Gr 2 (e - 1) g a p) (h2:Gr 2 (e - 1) g a q):Gr 4 e g a (.mk 26 n [p,q])
 | olam (e:Nat) (g:Ci) (n:Int) (d c b:Tm) (h1:Gr 2 (e - 1) (g++[(0,d)]) (c.shift 1 0) b):Gr 4 e g (.mk 16 n [d,c]) (.mk 20 0 [d,b])
 | opair (e:Nat) (g:Ci) (n:Int) (d c p q:Tm) (h1:Gr 2 (e - 1) g d p) (h2:Gr 2 (e - 1) g c q):Gr 4 e g (.mk 17 n [d,c]) (.mk 22 0 [p,q])
theorem AcG:∀k,(CM k).wt=k+1:=by
 intro k
 induction k with
 | zero=>rfl
 | succ k ih=>simp only [CM,Tm.wt,Tm.wtL,ih];omega
theorem dp1 (op n:Int) (a:Tm):(Tm.mk op n [a]).dp=1+a.dp:=by simp only [Tm.dp,Tm.dpL];omega
theorem PY (op n:Int) (a b:Tm):(Tm.mk op n [a,b]).dp=1+max a.dp b.dp:=by simp only [Tm.dp,Tm.dpL];omega
theorem dp3 (op n:Int) (a b c:Tm):(Tm.mk op n [a,b,c]).dp=1+max a.dp (max b.dp c.dp):=by simp only [Tm.dp,Tm.dpL];omega
theorem dp4 (op n:Int) (a b c d:Tm):(Tm.mk op n [a,b,c,d]).dp=1+max a.dp (max b.dp (max c.dp d.dp)):=by simp only [Tm.dp,Tm.dpL];omega
theorem wt1 (op n:Int) (a:Tm):(Tm.mk op n [a]).wt=1+a.wt:=by simp only [Tm.wt,Tm.wtL];omega
theorem OY (op n:Int) (a b:Tm):(Tm.mk op n [a,b]).wt=1+a.wt+b.wt:=by simp only [Tm.wt,Tm.wtL];omega
theorem wt3 (op n:Int) (a b c:Tm):(Tm.mk op n [a,b,c]).wt=1+a.wt+b.wt+c.wt:=by simp only [Tm.wt,Tm.wtL];omega
theorem wt4 (op n:Int) (a b c d:Tm):(Tm.mk op n [a,b,c,d]).wt=1+a.wt+b.wt+c.wt+d.wt:=by simp only [Tm.wt,Tm.wtL];omega
structure CtxT (g:Ci) (G:List Nat):Prop where
 len:G.length=g.length
 ok:∀(i:Nat) (st:Int) (T:Tm),i<g.length->g[g.length - 1 - i]?=some (st,T)->∃s,G[i]?=some s/\s<10/\(st=0->s=6)/\(st=1->T.vb/\∀f w,AX f T=some (w,0)->w.op≠4/\w.op≠7/\∀τ,PS w.op=some τ->s=τ)
theorem N8:CtxT [] []:=⟨rfl,fun i st T h=>by simp at h⟩
theorem Jq {g:Ci} {G:List Nat} (h:CtxT g G) (st:Int) (T:Tm) (s:Nat) (hs:s<10) (h0:st=0->s=6) (h1:st=1->T.vb/\∀f w,AX f T=some (w,0)->w.op≠4/\w.op≠7/\∀τ,PS w.op=some τ->s=τ):CtxT (g++[(st,T)]) (s::G):=by
 refine ⟨by simp [h.len],?_⟩;intro i st' T' hi hg;rw [List.length_append,AB3,List.length_nil] at hi hg;cases i with
 | zero =>
  rw [List.getElem?_append_right (by omega),show g.length+(0+1) - 1 - 0 - g.length=0 by omega] at hg
  simp only [List.getElem?_cons_zero,ABZ,AB0] at hg;obtain ⟨rfl,rfl⟩:=hg;exact ⟨s,rfl,hs,h0,h1⟩
 | succ i =>
  rw [List.getElem?_append_left (by omega),show g.length+(0+1) - 1 - (i+1)=g.length - 1 - i by omega] at hg
  rw [List.getElem?_cons_succ];exact h.ok i st' T' (by omega) hg
theorem Wa {k:Nat} {a:Tm} (h:AOk k a) (hk:k<=1000):a.vb:=Qv a k h.sc (by have:=h.wt;omega)
theorem AiX {op:Int} {s:Nat} (h:PS op=some s):op≠4/\op≠7:=by
 constructor<;>(rintro rfl;simp [PS] at h)
theorem GF {g:Ci} {G:List Nat} (h:CtxT g G) {T:Tm} {s:Nat} (hT:HasT G T (10+s)) (hv:T.vb):CtxT (g++[(1,T)]) (s::G):=by
 have hs:=(Cq hT).2;refine Jq h 1 T s (by omega) (by omega) (fun _=>⟨hv,fun f w hw=>?_⟩)
 have:=(Cq (A2 (CQ hw hT))).1
 have hne:=AiX this;exact ⟨hne.1,hne.2,fun τ hτ=>by rw [this] at hτ;exact Option.some.inj hτ⟩
theorem Gy {g:Ci} {G:List Nat} (h:CtxT g G) (T:Tm):CtxT (g++[(0,T)]) (6::G):=Jq h 0 T 6 (by omega) (fun _=>rfl) (by omega)
theorem Asv {op:Int} {s:Nat} (h:PS op=some s):s<6:=by
 unfold PS at h
 repeat' (split at h)
 all_goals first | (cases h;done) | (simp only [ABZ] at h;omega)
theorem AtJ {g:Ci} {G:List Nat} (h:CtxT g G) {T:Tm} (hT:HasT G T 2) (hv:T.vb):∃s,s<10/\CtxT (g++[(1,T)]) (s::G):=by
 have hne:∀f w,AX f T=some (w,0)->w.op≠4/\w.op≠7:=by
  intro f w hw
  have:=CQ hw hT
  cases this with
  | var=>simp only [Tm.op];omega
  | node _ op n ks _ sg hr =>
   simp only [Tm.op];cases hr<;>decide
 by_cases hex:∃f w s,AX f T=some (w,0)/\PS w.op=some s
 ·obtain ⟨f,w,s,hw,hs⟩:=hex;have hlt:=Asv hs;refine ⟨s,by omega,Jq h 1 T s (by omega) (by omega) (fun _=>⟨hv,fun f' w' hw'=>⟨(hne f' w' hw').1,(hne f' w' hw').2,fun τ hτ=>?_⟩⟩)⟩
  have:=Va hw hw'
  simp only [AB0,and_true] at this;subst this;rw [hs] at hτ;exact Option.some.inj hτ
 ·exact ⟨7,by omega,Jq h 1 T 7 (by omega) (by omega) (fun _=>⟨hv,fun f' w' hw'=>⟨(hne f' w' hw').1,(hne f' w' hw').2,fun τ hτ=>absurd ⟨f',w',τ,hw',hτ⟩ hex⟩⟩)⟩
theorem We {t:Tm} (h4:t.op≠4) (h7:t.op≠7):t.eta.op=t.op:=by
 obtain ⟨op,n,ks⟩:=t;simp only [Tm.op] at h4 h7;rw [Tm.eta,if_neg h4,if_neg h7];rfl
theorem Ak8 (t:Tm) (d c:Int):(t.shift d c).op=t.op:=by
 obtain ⟨op,n,ks⟩:=t;rw [Tm.shift];rfl
theorem Alp {g:Ci} {G:List Nat} (h:CtxT g G) (hl:g.length<=1000) {st:Int} {a:Tm} {i:Nat} (hh:Hit g st a i):(st=0->HasT G (.mk 1 i []) 6)/\(st=1->∀s,PS a.op=some s->HasT G (.mk 1 i []) s):=by
 obtain ⟨hi,T,f,w,hg,hn,he⟩:=hh;obtain ⟨s,h1,h2,h3,h4⟩:=h.ok i st T hi hg;refine ⟨fun h0=>?_,fun h0 s' hs'=>?_⟩
 ·have:=h3 h0
  subst this;exact .var _ _ _ (by omega) (by simpa using h1) (by omega)
 ·obtain ⟨hv,h5⟩:=h4 h0;obtain ⟨w0,q1,q2⟩:=AhP (d:=i+1) (by omega) hn hv;obtain ⟨n4,n7,h6⟩:=h5 f w0 q1;have ha:=AiX hs';have e1:w.op=w0.op:=by rw [q2,Ak8]
  have e2:w.op=a.op:=by
   have e3:=We (t:=w) (by rw [e1];exact n4) (by rw [e1];exact n7);have e4:=We (t:=a) ha.1 ha.2;rw [<- e3,he,e4]
  have:=h6 s' (by rw [<- e1,e2];exact hs')
  subst this;exact .var _ _ _ (by omega) (by simpa using h1) h2
theorem ht0 {G:List Nat} {op n:Int} {s:Nat} (h:Rule op s []):HasT G (.mk op n []) s:=.node _ _ _ _ _ _ h rfl (fun i t bs s' a=>by simp at a)
theorem ht1 {G:List Nat} {op n:Int} {s:Nat} {b0:List Nat} {s0:Nat} {x:Tm} (h:Rule op s [(b0,s0)]) (hx:HasT (b0++G) x s0):HasT G (.mk op n [x]) s:=.node _ _ _ _ _ _ h rfl (fun i t bs s' a b=>by
 match i with
 | 0=>simp at a b;obtain ⟨rfl,rfl⟩:=b;subst a;exact hx
 | i+1=>simp at a)
theorem ht2 {G:List Nat} {op n:Int} {s:Nat} {b0 b1:List Nat} {s0 s1:Nat} {x y:Tm} (h:Rule op s [(b0,s0),(b1,s1)]) (hx:HasT (b0++G) x s0) (hy:HasT (b1++G) y s1):HasT G (.mk op n [x,y]) s:=.node _ _ _ _ _ _ h rfl (fun i t bs s' a b=>by
 match i with
 | 0=>simp at a b;obtain ⟨rfl,rfl⟩:=b;subst a;exact hx
 | 1=>simp at a b;obtain ⟨rfl,rfl⟩:=b;subst a;exact hy
 | i+2=>simp at a)
theorem ht3 {G:List Nat} {op n:Int} {s:Nat} {b0 b1 b2:List Nat} {s0 s1 s2:Nat} {x y z:Tm} (h:Rule op s [(b0,s0),(b1,s1),(b2,s2)]) (hx:HasT (b0++G) x s0) (hy:HasT (b1++G) y s1) (hz:HasT (b2++G) z s2):HasT G (.mk op n [x,y,z]) s:=.node _ _ _ _ _ _ h rfl (fun i t bs s' a b=>by
 match i with
 | 0=>simp at a b;obtain ⟨rfl,rfl⟩:=b;subst a;exact hx
 | 1=>simp at a b;obtain ⟨rfl,rfl⟩:=b;subst a;exact hy
 | 2=>simp at a b;obtain ⟨rfl,rfl⟩:=b;subst a;exact hz
 | i+3=>simp at a)
theorem ht4 {G:List Nat} {op n:Int} {s:Nat} {b0 b1 b2 b3:List Nat} {s0 s1 s2 s3:Nat} {x y z w:Tm} (h:Rule op s [(b0,s0),(b1,s1),(b2,s2),(b3,s3)]) (hx:HasT (b0++G) x s0) (hy:HasT (b1++G) y s1) (hz:HasT (b2++G) z s2) (hw:HasT (b3++G) w s3):HasT G (.mk op n [x,y,z,w]) s:=.node _ _ _ _ _ _ h rfl (fun i t bs s' a b=>by
 match i with
 | 0=>simp at a b;obtain ⟨rfl,rfl⟩:=b;subst a;exact hx
 | 1=>simp at a b;obtain ⟨rfl,rfl⟩:=b;subst a;exact hy
 | 2=>simp at a b;obtain ⟨rfl,rfl⟩:=b;subst a;exact hz
 | 3=>simp at a b;obtain ⟨rfl,rfl⟩:=b;subst a;exact hw
 | i+4=>simp at a)
theorem Bz (G:List Nat):∀(d:Nat) (r:Tm),HasT G (r.plainT d) 1
 | 0,r=>by rw [Tm.plainT];exact ht0 .tint
 | d+1,r=>by
  have h1:=Int.emod_nonneg r.n (show (4:Int)≠0 by decide)
  have h2:=Int.emod_lt_of_pos r.n (show (0:Int)<4 by decide)
  rw [Tm.plainT];split
  ·exact ht0 .tint
  ·have h3:16+r.n % 4 - 2=16\/16+r.n % 4 - 2=17:=by omega
   rcases h3 with h3 | h3<;>rw [h3]
   ·exact ht2 .tfun (Bz _ d _) (Bz _ d _)
   ·exact ht2 .tpro (Bz _ d _) (Bz _ d _)
theorem AiE (G:List Nat):∀j,HasT G (CM j) 0
 | 0=>ht0 .zero
 | j+1=>ht1 .suc (AiE G j)
theorem Ara {G:List Nat} {n:Int} {d c:Tm} {op:Int} (ho:op=3\/op=6) {s:Nat} (h:HasT G (.mk op n [d,c]) (10+s)):(s=4/\op=3\/s=5/\op=6)/\∃a b,a<6/\b<6/\HasT G d (10+a)/\HasT (a::G) c (10+b):=by
 generalize hq:10+s=q at h;rcases ho with rfl | rfl
 ·cases h with
  | node _ _ _ _ _ sg hr hl hk =>
   cases hr with
   | piT a b ha hb=>exact ⟨by omega,a,b,ha,hb,hk 0 d [] (10+a) rfl rfl,hk 1 c [a] (10+b) rfl rfl⟩
   | piU=>omega
 ·cases h with
  | node _ _ _ _ _ sg hr hl hk =>
   cases hr with
   | sigT a b ha hb=>exact ⟨by omega,a,b,ha,hb,hk 0 d [] (10+a) rfl rfl,hk 1 c [a] (10+b) rfl rfl⟩
   | sigU=>omega
theorem Aqb {G:List Nat} {n:Int} {d:Tm} {s:Nat} (h:HasT G (.mk 18 n [d]) (10+s)):s=3/\HasT G d 1:=by
 generalize hq:10+s=q at h;cases h with
 | node _ _ _ _ _ sg hr hl hk =>
  cases hr with
  | liftT=>exact ⟨by omega,hk 0 d [] 1 rfl rfl⟩
  | liftU=>omega
theorem Aa4 {G:List Nat} {n:Int} {d c:Tm} {op:Int} (ho:op=16\/op=17) (h:HasT G (.mk op n [d,c]) 1):HasT G d 1/\HasT G c 1:=by
 rcases ho with rfl | rfl
 ·cases h with
  | node _ _ _ _ _ sg hr hl hk=>cases hr;exact ⟨hk 0 d [] 1 rfl rfl,hk 1 c [] 1 rfl rfl⟩
 ·cases h with
  | node _ _ _ _ _ sg hr hl hk=>cases hr;exact ⟨hk 0 d [] 1 rfl rfl,hk 1 c [] 1 rfl rfl⟩
theorem up1 {g:Ci} {G:List Nat} (h:CtxT g G) (hl:g.length<=1000) {t:Tm} {s:Nat} (ht:HasT G t s) (hw:t.wt<=1000000000000000) (x:Nat):HasT (x::G) (t.shift 1 0) s:=Jo ht [x] (by rw [h.len];simp only [AB3,List.length_nil];omega)
theorem up2 {g:Ci} {G:List Nat} (h:CtxT g G) (hl:g.length<=1000) {t:Tm} {s:Nat} (ht:HasT G t s) (hw:t.wt<=1000000000000000) (x y:Nat):HasT (x::y::G) (t.shift 2 0) s:=Jo ht [x,y] (by rw [h.len];simp only [AB3,List.length_nil];omega)
theorem AlZ {k e:Nat} {g:Ci} {a t:Tm} (h:Gr k e g a t):∀G,CtxT g G ->
  (k=0->∃s,s<6/\HasT G t (10+s))/\(k=1->∀s,HasT G a (10+s)->HasT G t s)/\(k=2->HasT G a 1->HasT G t 6) /\
  (k=3->g.length<=60->NOk g.length a->∀s,HasT G a (10+s)->HasT G t s)/\(k=4->g.length<=60->NOk g.length a->HasT G a 1->HasT G t 6):=by
 induction h with
 | tnat e g a=>intro G hG;exact ⟨fun _=>⟨0,by omega,ht0 .natT⟩,by omega,by omega,by omega,by omega⟩
 | tty e g a=>intro G hG;exact ⟨fun _=>⟨1,by omega,ht0 .tyT⟩,by omega,by omega,by omega,by omega⟩
 | tu e g a=>intro G hG;exact ⟨fun _=>⟨2,by omega,ht0 .uT⟩,by omega,by omega,by omega,by omega⟩
 | tlp e g a r=>intro G hG;exact ⟨fun _=>⟨3,by omega,ht1 .liftT (Bz _ 1 r)⟩,by omega,by omega,by omega,by omega⟩
 | tpi e g a x y op ho h6 hgl hx h1 h2 ih1 ih2 =>
  intro G hG;refine ⟨fun _=>?_,by omega,by omega,by omega,by omega⟩;obtain ⟨s1,q1,q2⟩:=(ih1 G hG).1 rfl;have hvb:x.vb:=by
   have:=hx.wt
   exact Qv x g.length hx.sc (by have:=hG.len;omega)
  obtain ⟨s2,q3,q4⟩:=(ih2 (s1::G) (GF hG q2 hvb)).1 rfl;rcases ho with rfl | rfl
  ·exact ⟨4,by omega,ht2 (.piT s1 s2 q1 q3) q2 q4⟩
  ·exact ⟨5,by omega,ht2 (.sigT s1 s2 q1 q3) q2 q4⟩
 | tlift e g a t h6 h1 ih =>
  intro G hG;exact ⟨fun _=>⟨3,by omega,ht1 .liftT ((ih G hG).2.1 rfl 1 (ht0 .tyT))⟩,by omega,by omega,by omega,by omega⟩
 | grow e g a0 a t f hn hg ha h1 ih =>
  intro G hG;exact ⟨by omega,fun _ s hs=>(ih G hG).2.2.2.1 rfl hg ha s (A2 (CQ hn hs)),by omega,by omega,by omega⟩
 | objc e g a0 a t f hn hg ha h1 ih =>
  intro G hG;exact ⟨by omega,by omega,fun _ hs=>(ih G hG).2.2.2.2 rfl hg ha (A2 (CQ hn hs)),by omega,by omega⟩
 | var1 e g a i h =>
  intro G hG;exact ⟨by omega,by omega,by omega,fun _ hl ha s hs=>(Alp hG (by omega) h).2 rfl s (Cq hs).1,by omega⟩
 | var0 e g a i h =>
  intro G hG;exact ⟨by omega,by omega,by omega,by omega,fun _ hl ha hs=>(Alp hG (by omega) h).1 rfl⟩
 | fst e g a b c x h6 hb h1 h2 h3 ih1 ih2 ih3 =>
  intro G hG;refine ⟨by omega,by omega,by omega,fun _ hl ha s hs=>?_,by omega⟩;obtain ⟨s1,q1,q2⟩:=(ih1 G hG).1 rfl;have hx:=(ih2 G hG).2.1 rfl s1 q2;have hc:=(ih3 G hG).2.1 rfl s hs;exact .fst _ _ _ _ _ _ s s1 2 (by have:=(Cq hs).2;omega) (ht2 (.sigU 0 (10+s) (10+s1) (by omega)) hs (up1 hG (by omega) q2 hb.wt 0)) hc hx
 | app e g a b c x h6 hb h1 h2 h3 ih1 ih2 ih3 =>
  intro G hG;refine ⟨by omega,by omega,by omega,fun _ hl ha s hs=>?_,by omega⟩;obtain ⟨s1,q1,q2⟩:=(ih1 G hG).1 rfl;have hx:=(ih2 G hG).2.1 rfl s1 q2;have hc:=(ih3 (s1::G) (GF hG q2 (Wa hb (by omega)))).2.1 rfl s (up1 hG (by omega) hs (by have:=ha.wt;omega) s1);exact .app _ _ _ _ _ _ s1 s (10+s1) (by have:=(Cq hs).2;omega) (by omega) q2 hc hx
 | recc e g a n z s h6 ha h1 h2 h3 ih1 ih2 ih3 =>
  intro G hG;refine ⟨by omega,by omega,by omega,fun _ hl hna σ hs=>?_,by omega⟩;have hn:=(ih1 G hG).2.1 rfl 0 (ht0 .natT);have hz:=(ih2 G hG).2.1 rfl σ hs;have hs1:=up1 hG (by omega) hs (by have:=hna.wt;omega) 0;have g1:=GF hG (T:=.mk 10 0 []) (s:=0) (ht0 .natT) (by simp [Tm.vb,Tm.vbL]);have g2:=GF g1 hs1 (Qv _ (g.length+1) (B3 a 1 0 g.length hna.sc (by have:=hna.wt;omega)) (by rw [BF];have:=hna.wt;omega));have hs3:=(ih3 _ g2).2.1 rfl σ (up2 hG (by omega) hs (by have:=hna.wt;omega) σ 0);have h01:σ=0\/σ=1:=by
   have:=(Cq hs).1
   rcases ha with ha | ha<;>rw [ha] at this<;>simp [PS] at this<;>omega
  exact ht4 (.recR σ (by omega)) hs1 hz hs3 hn
 | suc e g a n h6 ha h1 ih =>
  intro G hG;refine ⟨by omega,by omega,by omega,fun _ hl hna s hs=>?_,by omega⟩;have h0:s=0:=by
   have:=(Cq hs).1
   rw [ha] at this;simp [PS] at this;omega
  subst h0;exact ht1 .suc ((ih G hG).2.1 rfl 0 hs)
 | num e g a j ha hj =>
  intro G hG;refine ⟨by omega,by omega,by omega,fun _ hl hna s hs=>?_,by omega⟩;have h0:s=0:=by
   have:=(Cq hs).1
   rw [ha] at this;simp [PS] at this;omega
  subst h0;exact AiE _ j
 | tint e g a ha =>
  intro G hG;refine ⟨by omega,by omega,by omega,fun _ hl hna s hs=>?_,by omega⟩;have h0:s=1:=by
   have:=(Cq hs).1
   rw [ha] at this;simp [PS] at this;omega
  subst h0;exact ht0 .tint
 | tfun e g a x y op ho h6 ha h1 h2 ih1 ih2 =>
  intro G hG;refine ⟨by omega,by omega,by omega,fun _ hl hna s hs=>?_,by omega⟩;have h0:s=1:=by
   have:=(Cq hs).1
   rw [ha] at this;simp [PS] at this;omega
  subst h0;have q1:=(ih1 G hG).2.1 rfl 1 hs;have q2:=(ih2 G hG).2.1 rfl 1 hs;rcases ho with rfl | rfl
  ·exact ht2 .tfun q1 q2
  ·exact ht2 .tpro q1 q2
 | uni e g a n ha =>
  intro G hG;refine ⟨by omega,by omega,by omega,fun _ hl hna s hs=>?_,by omega⟩;have h0:s=2:=by
   have:=(Cq hs).1
   rw [ha] at this;simp [PS] at this;omega
  subst h0;exact ht0 .uU
 | unat e g a ha =>
  intro G hG;refine ⟨by omega,by omega,by omega,fun _ hl hna s hs=>?_,by omega⟩;have h0:s=2:=by
   have:=(Cq hs).1
   rw [ha] at this;simp [PS] at this;omega
  subst h0;exact ht0 .natU
 | uty e g a ha =>
  intro G hG;refine ⟨by omega,by omega,by omega,fun _ hl hna s hs=>?_,by omega⟩;have h0:s=2:=by
   have:=(Cq hs).1
   rw [ha] at this;simp [PS] at this;omega
  subst h0;exact ht0 .tyU
 | ult e g a ha =>
  intro G hG;refine ⟨by omega,by omega,by omega,fun _ hl hna s hs=>?_,by omega⟩;have h0:s=2:=by
   have:=(Cq hs).1
   rw [ha] at this;simp [PS] at this;omega
  subst h0;exact ht1 .liftU (ht0 .tint)
 | upi e g a x y op ho h6 ha hx h1 h2 ih1 ih2 =>
  intro G hG;refine ⟨by omega,by omega,by omega,fun _ hl hna s hs=>?_,by omega⟩;have h0:s=2:=by
   have:=(Cq hs).1
   rw [ha] at this;simp [PS] at this;omega
  subst h0;have q1:=(ih1 G hG).2.1 rfl 2 hs;obtain ⟨s1,hs1,g1⟩:=AtJ hG q1 (Wa hx (by omega));have q2:=(ih2 _ g1).2.1 rfl 2 (by
   obtain ⟨oa,na,ka⟩:=a;simp only [Tm.op] at ha;subst ha;have hk:ka=[]:=by
    have:=hna.sc
    rw [Tm.sc] at this;exact List.eq_nil_of_length_eq_zero (Option.some.inj this.1.symm)
   subst hk;exact ht0 .uT)
  rcases ho with rfl | rfl
  ·exact ht2 (.piU s1 hs1) q1 q2
  ·exact ht2 (.sigU s1 2 2 hs1) q1 q2
 | lam e g n d c x h1 ih =>
  intro G hG;refine ⟨by omega,by omega,by omega,fun _ hl hna s hs=>?_,by omega⟩;obtain ⟨h4,a1,b1,ha1,hb1,hd,hc⟩:=Ara (.inl rfl) hs;have h0:s=4:=by omega
  subst h0;have hna2:=hna.sc;have hnw:=hna.wt;rw [OY] at hnw;rw [Tm.sc] at hna2;have hvb:=Qv d g.length hna2.2.2.1 (by omega);exact ht2 (.lam a1 b1 (10+a1) (by omega)) hd ((ih _ (GF hG hd hvb)).2.1 rfl b1 hc)
 | pair e g n d c x y hx h1 h2 ih1 ih2 =>
  intro G hG;refine ⟨by omega,by omega,by omega,fun _ hl hna s hs=>?_,by omega⟩;obtain ⟨h5,a1,b1,ha1,hb1,hd,hc⟩:=Ara (.inr rfl) hs;have h0:s=5:=by omega
  subst h0;have hnw:=hna.wt;rw [OY] at hnw;have qx:=(ih1 G hG).2.1 rfl a1 hd;have hsub:=W3 hc [] G a1 x rfl qx (by have:=hx.wt;rw [hG.len];simp only [List.length_nil];omega);have qy:=(ih2 G hG).2.1 rfl b1 (by simpa using hsub);exact ht3 (.pair (10+5) a1 b1) hs qx qy
 | quo e g n d x h1 ih =>
  intro G hG;refine ⟨by omega,by omega,by omega,fun _ hl hna s hs=>?_,by omega⟩;obtain ⟨h3,hd⟩:=Aqb hs;subst h3;exact ht1 .quo ((ih G hG).2.2.1 rfl hd)
 | oif e g a c x y h6 h1 h2 h3 ih1 ih2 ih3 =>
  intro G hG;exact ⟨by omega,by omega,by omega,by omega,fun _ hl hna hs=>ht3 .oif ((ih1 G hG).2.2.1 rfl (ht0 .tint)) ((ih2 G hG).2.2.1 rfl hs) ((ih3 G hG).2.2.1 rfl hs)⟩
 | olet e g a r x y h6 h1 h2 ih1 ih2 =>
  intro G hG;exact ⟨by omega,by omega,by omega,by omega,fun _ hl hna hs=>ht2 .olet ((ih1 G hG).2.2.1 rfl (Bz _ 1 r)) ((ih2 _ (Gy hG _)).2.2.1 rfl (up1 hG (by omega) hs (by have:=hna.wt;omega) 6))⟩
 | oapp e g a r x y h6 h1 h2 ih1 ih2 =>
  intro G hG;exact ⟨by omega,by omega,by omega,by omega,fun _ hl hna hs=>ht2 .oapp (ht2 .olam (Bz _ 1 r) ((ih2 _ (Gy hG _)).2.2.1 rfl (up1 hG (by omega) hs (by have:=hna.wt;omega) 6))) ((ih1 G hG).2.2.1 rfl (Bz _ 1 r))⟩
 | ofst e g a x y h6 h1 h2 ih1 ih2 =>
  intro G hG;exact ⟨by omega,by omega,by omega,by omega,fun _ hl hna hs=>ht1 .ofst (ht2 .opair ((ih1 G hG).2.2.1 rfl hs) ((ih2 G hG).2.2.1 rfl (ht0 .tint)))⟩
 | ofix e g a x h6 h1 ih =>
  intro G hG;exact ⟨by omega,by omega,by omega,by omega,fun _ hl hna hs=>ht2 .ofix hs ((ih _ (Gy hG _)).2.2.1 rfl (up1 hG (by omega) hs (by have:=hna.wt;omega) 6))⟩
 | spl e g a x h6 h1 ih =>
  intro G hG;exact ⟨by omega,by omega,by omega,by omega,fun _ hl hna hs=>ht1 .spl ((ih G hG).2.1 rfl 3 (ht1 .liftT hs))⟩
 | oint e g a n ha =>
  intro G hG;exact ⟨by omega,by omega,by omega,by omega,fun _ hl hna hs=>ht0 .oint⟩
 | oprim e g a p q n h6 ha h1 h2 ih1 ih2 =>
  intro G hG;exact ⟨by omega,by omega,by omega,by omega,fun _ hl hna hs=>ht2 .oprim ((ih1 G hG).2.2.1 rfl hs) ((ih2 G hG).2.2.1 rfl hs)⟩
 | olam e g n d c b h1 ih =>
  intro G hG;refine ⟨by omega,by omega,by omega,by omega,fun _ hl hna hs=>?_⟩;obtain ⟨hd,hc⟩:=Aa4 (.inl rfl) hs;have hnw:=hna.wt;rw [OY] at hnw;exact ht2 .olam hd ((ih _ (Gy hG _)).2.2.1 rfl (up1 hG (by omega) hc (by omega) 6))
 | opair e g n d c p q h1 h2 ih1 ih2 =>
  intro G hG;refine ⟨by omega,by omega,by omega,by omega,fun _ hl hna hs=>?_⟩;obtain ⟨hd,hc⟩:=Aa4 (.inr rfl) hs;exact ht2 .opair ((ih1 G hG).2.2.1 rfl hd) ((ih2 G hG).2.2.1 rfl hc)
inductive CtxG:Ci->Prop
 | nil:CtxG []
 | ob (g:Ci) (t:Tm) (h:CtxG g) (h1:Gr 1 7 g (.mk 14 0 []) t):CtxG (g++[(0,t)])
 | me (g:Ci) (a:Tm) (h:CtxG g) (ha:AOk g.length a) (hl:g.length<=60) (h1:Gr 0 7 g .z a):CtxG (g++[(1,a)])
theorem Lj {k:Nat} {a:Tm} (hk:k<=1000) (h:a.sc k) (hd:a.dp<=20000):∃u e,Ev 34 [.fv a.enc] (.tuple [u.enc,.int .i64 e])/\(e=0/\NOk k u\/(e=5\/e=17)/\u=.z)/\∃f,AX f a=some (u,e):=by
 obtain ⟨f,u,e,h1,h2⟩:=Xt (k:=k) (by omega) h (by have:=AqU a;omega);refine ⟨u,e,⟨f+2,fun n hn=>Qt f a u e h1 n hn⟩,?_,f,h1⟩;rcases h2 with ⟨h3,h4,h5,h6⟩ | h2
 ·exact .inl ⟨h3,⟨h4,h5,h6⟩⟩
 ·exact .inr h2
structure TG (κ e:Nat) (g:Ci) (a t:Tm) (b:Bool):Prop where
 sc:t.sc g.length
 wt:t.wt<=Wg e
 dp:t.dp<=Dg e
 gr:b=true->Gr κ e g a t
theorem tg {κ e:Nat} {g:Ci} {a t:Tm} {b:Bool} (h:TOk g.length e t) (hg:b=true->Gr κ e g a t):TG κ e g a t b:=⟨h.sc,h.wt,h.dp,hg⟩
theorem AjG {κ e:Nat} {g:Ci} {a t:Tm} {b:Bool} (h:TG κ e g a t b) (he:e<=10):AOk g.length t:=⟨h.sc,by have:=h.wt;have:=Pb he;omega,by have:=h.dp;unfold Dg at this;omega⟩
theorem Ale {κ κ' e:Nat} {g:Ci} {a a' t:Tm} {b:Bool} (h:TG κ e g a t b) (hg:Gr κ e g a t->Gr κ' e g a' t):TG κ' e g a' t b:=⟨h.sc,h.wt,h.dp,fun hb=>hg (h.gr hb)⟩
theorem L7 {p q:Bool} (h:(p && q)=true):p=true:=by cases p<;>simp_all
theorem Kd {p q:Bool} (h:(p && q)=true):q=true:=by cases p<;>simp_all
theorem Atb:EE.T 27=some ⟨1,24,.slice 69,[.nils]⟩:=by kernel_rfl
theorem tV1:EE.T 69=some ⟨4,48,.struct [(0,3),(1,30)],[.fv (.int .i64 0),.fv (.int .i64 0),.fv (.int .i64 0),.nils]⟩:=by kernel_rfl
theorem sV1:SliceT EE 27 4:=⟨_,_,_,_,_,Atb,tV1,rfl,by decide,by decide⟩
theorem SP (s:Nat) (h:Hp) (k:IV->Hp->List Ref->List Ref->Option (IV×Hp)):Ay (Ak EE 27 0 []) s h k=k (.clip []) h [] []:=Cv Atb tV1 (by decide) (cells:=[]) rfl k
theorem QS (s0 o n:Int) (ks:List FV) (s:Nat) (h:Hp) (k:IV->Hp->List Ref->List Ref->Option (IV×Hp)):Ay (Ak EE 27 1 [(0,.fv (.agg [.int .i64 s0,.int .i64 o,.int .i64 n,.sl ks]))]) s h k=k (.clip [.agg [.int .i64 s0,.int .i64 o,.int .i64 n,.sl ks]]) h [] [] :=
 Cv Atb tV1 (by decide) (cells:=[.int .i64 s0,.int .i64 o,.int .i64 n,.sl ks]) rfl k
theorem Gx (g:Ci):BG 4 (g.map v1)=true:=by
 cases g with
 | nil=>rfl
 | cons a l=>simp only [AB5,BG,v1,FV.cells,AB3,List.length_nil,beq_self_eq_true]
theorem AkM (g:Ci):((g.map v1).all fun e=>e.cells.all FV.one)=true:=by
 rw [List.all_map,List.all_eq_true];intro p _;rfl
theorem Ed {n:Nat} (g:Ci) (st:Int) (a:Tm) (hg:g.length<=1000) (hn:0<n):AZ (SS dt n 60 [.fv (A6 g),iv st,.fv a.enc] ⟨[],[]⟩) (A6 (g++[(st,a)])):=by
 obtain ⟨n,rfl⟩:∃k,n=k+1:=⟨n - 1,by omega⟩;rw [c60];rw [A6,A6,List.map_append,AB5,AB4];cases g with
 | nil =>
  have h0:=fun {β:Type}=>YF (β:=β) (E:=EE) sV1 (.sl []) (s0:=.clip []) (.inr rfl);have happ:=fun {β:Type}=>HS (β:=β) sV1 (.clip [v1 (st,a)]) (Gx [(st,a)]) rfl (by simp) (s0:=.clip []) (.inr rfl);obtain ⟨o,p,k⟩:=a;simp only [v1,Tm.op,Tm.n,Tm.kids] at happ ⊢;rw [Am];simp only [XB,WG,S60,↓XX,XY,↓reduceIte,Nat.reduceBEq,Nat.reduceAdd,Int.reduceEq,Int.reduceLT,Int.reduceLE,↓SP,↓h0,↓QS,↓happ];exact Bb rfl _
 | cons t g =>
  have h0:=fun {β:Type}=>HS (β:=β) sV1 (.sl ((t::g).map v1)) (Gx (t::g)) rfl (by simp at hg ⊢;omega) (s0:=.clip []) (.inr rfl);have happ:=fun {β:Type}=>Qu (β:=β) sV1 (es:=(t::g).map v1) (es2:=[v1 (st,a)]) (.clip _) (Gx [(st,a)]) (Gx (t::g)) (AkM [(st,a)]) (by simp at hg ⊢;omega);obtain ⟨o,p,k⟩:=a;simp only [AB5,List.length_map,AB3,List.length_nil,List.cons_append] at h0 happ ⊢;simp only [v1,Tm.op,Tm.n,Tm.kids] at h0 happ ⊢;rw [Am];simp only [XB,WG,S60,↓XX,XY,↓reduceIte,Nat.reduceBEq,Nat.reduceAdd,Int.reduceEq,Int.reduceLT,Int.reduceLE,↓SP,↓h0,↓QS,↓happ,Hl];exact Bb rfl _
theorem Nl {n:Nat} (hn:1<n):AZ (SS dt n 64 [] ⟨[],[]⟩) (Tm.mk 10 0 []).enc:=by
 obtain ⟨n,rfl⟩:∃k,n=k+1:=⟨n - 1,by omega⟩;rw [c64];have t:=BE (n:=n) (by omega) 10;rw [Am] at t ⊢;simp only [S64,↓XX,XY,↓reduceIte,Nat.reduceBEq,Nat.reduceAdd,Int.reduceEq,Int.reduceLT,Int.reduceLE,↓Ag t];exact An _ _
theorem Al2 {P:Nat->Nat->Prop}:∀m,(∀i,i<m->∃N,∀n,N<=n->P i n)->∃N,∀i,i<m->∀n,N<=n->P i n:=by
 intro m
 induction m with
 | zero=>intro _;exact ⟨0,fun i hi=>by omega⟩
 | succ m ih =>
  intro h;obtain ⟨N1,h1⟩:=ih fun i hi=>h i (by omega);obtain ⟨N2,h2⟩:=h m (by omega);refine ⟨N1+N2,fun i hi n hn=>?_⟩;by_cases him:i=m
  ·subst him;exact h2 n (by omega)
  ·exact h1 i (by omega) n (by omega)
theorem Akl:EE.T 75=some ⟨1,24,.slice 3,[.nils]⟩:=by kernel_rfl
theorem ArU:EE.T 3=some ⟨1,8,.int .i64,[.fv (.int .i64 0)]⟩:=by kernel_rfl
theorem AwB:SliceT EE 75 1:=⟨_,_,_,_,_,Akl,ArU,rfl,by decide,by decide⟩
theorem Aq7 (a:Int) (s:Nat) (h:Hp) (k:IV->Hp->List Ref->List Ref->Option (IV×Hp)):Ay (Ak EE 75 1 [(0,iv a)]) s h k=k (.clip [.int .i64 a]) h [] []:=Cv Akl ArU (by decide) (cells:=[.int .i64 a]) rfl k
def iE (l:List Nat):List FV:=l.map fun (i:Nat)=>FV.int .i64 (i:Int)
theorem W5 (l:List Nat):BG 1 (iE l)=true:=by
 cases l with
 | nil=>rfl
 | cons a l=>rfl
theorem Axe (l:List Nat):((iE l).all fun e=>e.cells.all FV.one)=true:=by
 rw [iE,List.all_map,List.all_eq_true];intro p _;rfl
def lV:List Nat->IV
 | []=>.nils
 | i::l=>.app (.own 60825603) (iE (i::l))
def lH:List Nat->List (Nat×Blk)
 | []=>[]
 | i::l=>[(60825603,.tok (i::l).length 1)]
abbrev Pd (o m:Int) (ks:List Tm) (l:List Nat):Hp :=
 ⟨[(60817408,.row [iv o,iv m,.fv (.sl (ks.map Tm.enc))] false),(60817409,.row [iv 0,iv 0,.nils] false)]++lH l,[]⟩
theorem Aih (p:Nat->Bool) (i:Nat):(List.range (i+1)).filter p=(List.range i).filter p++(if p i then [i] else []):=by
 rw [List.range_succ,List.filter_append];cases h:p i<;>simp [h]
theorem MJ {e0:Nat} {g:Ci} (hg:GOk e0 g) (st:Int) {a:Tm} (ha:NOk g.length a) (x:Int):∃t b,Ev 58 [.fv (A6 g),iv st,.fv a.enc,iv x] (.tuple [Tm.enc t,.bool b])/\TOk g.length 0 t/\(b=true->∃i:Nat,t=.mk 1 i []/\Hit g st a i):=by
 have hlen:=hg.len;have hc:∀i:Nat,∃(p:Int×Tm) (u:Tm) (e:Int),i<g.length->g[g.length - 1 - i]?=some p/\p.2.wk/\p.2.wt<=100000000000/\Ev 34 [.fv (p.2.shift ((i:Int)+1) 0).enc] (.tuple [u.enc,.int .i64 e])/\(e=0/\NOk g.length u\/(e=5\/e=17)/\u=.z)/\∃f,AX f (p.2.shift ((i:Int)+1) 0)=some (u,e):=by
  intro i;by_cases hi:i<g.length
  ·obtain ⟨p,hp⟩:∃p,g[g.length - 1 - i]?=some p:=⟨_,List.getElem?_eq_getElem (by omega)⟩;obtain ⟨h1,h2,h3⟩:=hg.ok _ _ hp;have h4:=B3 p.2 (i+1) 0 _ h1 (by omega);rw [show g.length - 1 - i+(i+1)=g.length by omega] at h4
   obtain ⟨u,e,h5,h6,h7⟩:=Lj (k:=g.length) (by omega) h4 (by rw [FZ];omega);exact ⟨p,u,e,fun _=>⟨hp,Fd _ _ h1,h2,h5,h6,h7⟩⟩
  ·exact ⟨(0,.z),.z,0,fun h=>absurd h hi⟩
 obtain ⟨P,hP⟩:=Classical.axiomOfChoice hc;obtain ⟨U,hP⟩:=Classical.axiomOfChoice hP;obtain ⟨E,hU⟩:=Classical.axiomOfChoice hP;clear hP hc;obtain ⟨N,hN⟩:=Al2 (P:=fun i n=>AZ (SS dt n 34 [.fv ((P i).2.shift ((i:Int)+1) 0).enc] ⟨[],[]⟩) (.tuple [(U i).enc,.int .i64 (E i)])) g.length (fun i hi=>(hU i hi).2.2.2.1);obtain ⟨hit,hhit⟩:∃h:Nat->Bool,∀i,h i=(decide ((P i).1=st) && (decide (E i=0) && (U i).eta.same a.eta)):=⟨_,fun _=>rfl⟩;obtain ⟨L,hL⟩:∃L,L=(List.range g.length).filter hit:=⟨_,rfl⟩;obtain ⟨tt,htt⟩:∃tt:Tm,tt=if L=[] then .z else .mk 1 ((L.getD (x % (L.length:Int)).toNat 0:Nat):Int) []:=⟨_,rfl⟩;have hLlt:∀i∈L,i<g.length:=fun i hi=>by
  rw [hL] at hi;exact List.mem_range.1 (List.mem_filter.1 hi).1
 refine ⟨tt,!decide (L=[]),⟨N+200000000000+1,?_⟩,?_,?_⟩
 ·intro n hn;obtain ⟨n,rfl⟩:∃k,n=k+1:=⟨n - 1,by omega⟩;have hka:=S4 n a g.length ha.sc (by have:=ha.wt;omega) (by have:=ha.wt;omega);rw [c58];generalize hae:a.eta=ae at hka hhit;obtain ⟨oa,ma,ka⟩:=a;obtain ⟨oe,me,ke⟩:=ae;simp only [Am] at hka ⊢;simp only [Rn,QY,TL,Rv,Q0,S9,Q6,RP,Sb,Ty,Sa,Rp,So,Rf,S58,↓XX,XY,↓reduceIte,Nat.reduceBEq,Nat.reduceAdd,Int.reduceEq,Int.reduceLT,Int.reduceLE,A6,↓AI,XD,heldB,AR,XE];refine Bc (Q:=fun r=>AZ r _) (fun k V H=>∃i:Nat,i+k=g.length/\∃l:List Nat,l=(List.range i).filter hit/\V=[.fv (.sl (g.map v1)),iv st,iv x,.ptr (.own 60817408) 0,.ptr (.own 60817409) 0,lV l,iv i]/\H=Pd oa ma ka l)
   ?_ n g.length _ _ (by omega) ⟨0,by omega,[],rfl,rfl,rfl⟩
  rintro k V H rec ⟨i,hik,l,hl,rfl,rfl⟩ hrec;cases k with
  | zero =>
   have hig:i=g.length:=by omega
   rw [hig] at hl;rw [<- hL] at hl;subst hl;have hno:¬ ((i:Int)<g.length):=by omega
   cases l with
   | nil =>
    rw [htt,if_pos rfl];simp only [lV,Tm.z,Am];simp only [↓Py,↓XX,XY,↓reduceIte,Nat.reduceBEq,Nat.reduceAdd,Int.reduceEq,Int.reduceLT,Int.reduceLE,hno]
    first | exact An _ _ | exact Ax rfl (by simp) _
   | cons i0 l0 =>
    rw [htt,if_neg (by simp)];generalize hl1:i0::l0=l at *;have hlp:0<l.length:=by rw [<- hl1];simp
    have hll:l.length<=100:=by
     have h1:=List.length_filter_le hit (List.range g.length);rw [<- hL,List.length_range] at h1;omega
    have hw:=As (n:=n) (by omega) x (m:=(l.length:Int)) (by omega) (by omega);have h1:=Int.emod_nonneg x (show (l.length:Int)≠0 by omega)
    have h2:=Int.emod_lt_of_pos x (show (0:Int)<l.length by omega)
    obtain ⟨j,hj⟩:∃j:Nat,x % (l.length:Int)=j:=⟨(x % (l.length:Int)).toNat,by omega⟩;rw [hj] at hw h2 ⊢;have hjl:j<l.length:=by omega
    have hget:(iE l)[j]?=some (.int .i64 ((l.getD j 0:Nat):Int)):=by
     rw [iE,List.getElem?_map,List.getD_eq_getElem?_getD,List.getElem?_eq_getElem hjl];rfl
    rw [Int.toNat_natCast];have hix:=fun {β:Type}=>Bt (β:=β) (size:=1) hget rfl;have hv:=Arq (n:=n) (by omega) ((l.getD j 0:Nat):Int);generalize ((l.getD j 0:Nat):Int)=q at hix hv ⊢;have hln:¬ ((l.length:Int)=0):=by omega
    have hiel:(iE l).length=l.length:=by rw [iE,List.length_map]
    have hap:∀(β:Type) (x:IV) (k:IV->Option β),AN 1 (.app (.own 60825603) (iE l)) x k=AN 1 (.fv (.sl (iE l))) x k:=fun _ _ _=>rfl;have hlV:lV l=.app (.own 60825603) (iE l):=by rw [<- hl1];rfl
    have hlH:lH l=[(60825603,.tok l.length 1)]:=by rw [<- hl1];rfl
    have hne:decide (l=[])=false:=by rw [<- hl1];simp
    rw [hlV,Pd,hlH,hne];simp only [List.cons_append,List.nil_append];simp only [Am,AB4] at hv ⊢;simp only [↓Py,↓XX,XY,↓reduceIte,Nat.reduceBEq,Nat.reduceAdd,Int.reduceEq,Int.reduceLT,Int.reduceLE,hno,hiel,hln,↓Ag hw,↓hap,↓hix,FV.cells,↓Aw hv]
    first | exact An _ _ | exact Ax rfl (by simp) _
  | succ k =>
   have hig:i<g.length:=by omega
   have hlt:(i:Int)<g.length:=by omega
   obtain ⟨hp,hwk,hwt,_,hN',_⟩:=hU i hig;have hget:(g.map v1)[g.length - 1 - i]?=some (v1 (P i)):=by rw [List.getElem?_map,hp];rfl
   have hix:=fun {β:Type}=>Bt (β:=β) (size:=4) hget rfl;have w1:BK ((g.length:Int) - 1)=(g.length:Int) - 1:=by rw [Av]<;>omega
   have w2:BK ((g.length:Int) - 1 - i)=((g.length - 1 - i:Nat):Int):=by rw [Av (by omega) (by omega)];omega
   have wi:BK ((i:Int)+1)=(i:Int)+1:=by rw [Av]<;>omega
   have hsh:=CJ n (P i).2 ((i:Int)+1) 0 (by omega) hwk (by omega) (by omega);have hNi:=hN i hig n (by omega);have h9:=fun (l':List Nat) (e:l'=l++if hit i then [i] else [])=>hrec k [.fv (.sl (g.map v1)),iv st,iv x,.ptr (.own 60817408) 0,.ptr (.own 60817409) 0,lV l',iv (i+1:Nat)] (Pd oa ma ka l') (by omega)
    ⟨i+1,by omega,l',by rw [Aih,<- hl,e],rfl,rfl⟩
   have hi1:((i+1:Nat):Int)=(i:Int)+1:=by omega
   rw [hi1] at h9;have hhi:=hhit i;generalize (P i).2.shift ((i:Int)+1) 0=ts at hsh hNi;generalize P i=p at hp hget hix hsh hhi;obtain ⟨sp,tp⟩:=p;by_cases c1:sp=st
   ·by_cases c2:E i=0
    ·have hUi:NOk g.length (U i):=by
      rcases hN' with ⟨_,h⟩ | ⟨h,_⟩
      ·exact h
      ·omega
     have hke:=S4 n (U i) g.length hUi.sc (by have:=hUi.wt;omega) (by have:=hUi.wt;omega);have hew:=(AkG (U i) g.length hUi.sc (by have:=hUi.wt;omega)).2;have hsm:=HL n (U i).eta (.mk oe me ke) (by have:=hUi.wt;omega) (by have:=hUi.wt;omega);rw [c2] at hNi;simp only [c1,c2,decide_true,Bool.true_and] at hhi;rw [<- hhi] at hsm;generalize (U i).eta=ue at hke hsm;generalize U i=ui at hNi hke;obtain ⟨o1,n1,k1⟩:=tp;obtain ⟨o2,n2,k2⟩:=ts;obtain ⟨o3,n3,k3⟩:=ui;obtain ⟨o4,n4,k4⟩:=ue;subst c1;simp only [Am,v1,Tm.op,Tm.n,Tm.kids] at hsh hNi hke hsm hix;cases hb:hit i
     ·rw [hb] at hsm h9;have h9:=h9 l (by simp);cases l with
      | nil =>
       simp only [lV,lH,Pd,List.append_nil] at h9 ⊢;simp only [↓Py,↓XX,XY,↓reduceIte,Nat.reduceBEq,Nat.reduceAdd,Int.reduceEq,Int.reduceLT,Int.reduceLE,hlt,w1,w2,wi,↓hix,FV.cells,↓AJ hsh,↓Aw hNi,↓Aw hke,↓Aw hka,↓Ag hsm,↓AI,XD,heldB,AR,XE];exact h9
      | cons i0 l0 =>
       simp only [lV,lH,Pd,List.cons_append,List.nil_append] at h9 ⊢;simp only [↓Py,↓XX,XY,↓reduceIte,Nat.reduceBEq,Nat.reduceAdd,Int.reduceEq,Int.reduceLT,Int.reduceLE,hlt,w1,w2,wi,↓hix,FV.cells,↓AJ hsh,↓Aw hNi,↓Aw hke,↓Aw hka,↓Ag hsm,↓AI,XD,heldB,AR,XE];exact h9
     ·rw [hb] at hsm h9;have h9:=h9 (l++[i]) (by simp);cases l with
      | nil =>
       have happ:=fun {β:Type}=>HS (β:=β) AwB (.clip [.int .i64 (i:Int)]) (W5 [i]) rfl (by simp) (s0:=.nils) (.inl rfl);simp only [lV,lH,Pd,List.cons_append,List.nil_append] at h9 ⊢;simp only [↓Py,↓XX,XY,↓reduceIte,Nat.reduceBEq,Nat.reduceAdd,Int.reduceEq,Int.reduceLT,Int.reduceLE,hlt,w1,w2,wi,↓hix,FV.cells,↓AJ hsh,↓Aw hNi,↓Aw hke,↓Aw hka,↓Ag hsm,↓Aq7,↓happ,↓AI,XD,heldB,AR,XE];exact h9
      | cons i0 l0 =>
       have hll:(i0::l0).length<=100:=by
        have h1:=List.length_filter_le hit (List.range i);rw [<- hl,List.length_range] at h1;omega
       have happ:=fun {β:Type}=>Qu (β:=β) AwB (es:=iE (i0::l0)) (es2:=[.int .i64 (i:Int)]) (.clip _) (W5 [i]) (W5 _) (Axe [i]) (by rw [iE,List.length_map];simp only [AB3,List.length_nil] at hll ⊢;omega);have hil:(iE (i0::l0)).length=(i0::l0).length:=by rw [iE,List.length_map]
       have hia:iE (i0::l0)++[.int .i64 (i:Int)]=iE (i0::(l0++[i])):=by simp [iE]
       have hil2:(i0::(l0++[i])).length=(i0::l0).length+1:=by simp
       simp only [hil,hia,AB3,List.length_nil,Nat.zero_add] at happ;simp only [lV,lH,Pd,List.cons_append,List.nil_append,hil2] at h9 ⊢;simp only [AB3] at h9 ⊢;simp only [↓Py,↓XX,XY,↓reduceIte,Nat.reduceBEq,Nat.reduceAdd,Int.reduceEq,Int.reduceLT,Int.reduceLE,hlt,w1,w2,wi,↓hix,FV.cells,↓AJ hsh,↓Aw hNi,↓Aw hke,↓Aw hka,↓Ag hsm,↓Aq7,↓happ,Hl,↓AI,XD,heldB,AR,XE];exact h9
    ·simp only [c2,decide_false,Bool.false_and,Bool.and_false] at hhi;rw [hhi] at h9;have h9:=h9 l (by simp);generalize E i=ei at hNi c2;generalize U i=ui at hNi;obtain ⟨o1,n1,k1⟩:=tp;obtain ⟨o2,n2,k2⟩:=ts;obtain ⟨o3,n3,k3⟩:=ui;subst c1;simp only [Am,v1,Tm.op,Tm.n,Tm.kids] at hsh hNi hix;cases l with
     | nil =>
      simp only [lV,lH,Pd,List.append_nil] at h9 ⊢;simp only [↓Py,↓XX,XY,↓reduceIte,Nat.reduceBEq,Nat.reduceAdd,Int.reduceEq,Int.reduceLT,Int.reduceLE,hlt,w1,w2,wi,↓hix,FV.cells,↓AJ hsh,↓Aw hNi,c2,↓AI,XD,heldB,AR,XE];exact h9
     | cons i0 l0 =>
      simp only [lV,lH,Pd,List.cons_append,List.nil_append] at h9 ⊢;simp only [↓Py,↓XX,XY,↓reduceIte,Nat.reduceBEq,Nat.reduceAdd,Int.reduceEq,Int.reduceLT,Int.reduceLE,hlt,w1,w2,wi,↓hix,FV.cells,↓AJ hsh,↓Aw hNi,c2,↓AI,XD,heldB,AR,XE];exact h9
   ·simp only [c1,decide_false,Bool.false_and] at hhi;rw [hhi] at h9;have h9:=h9 l (by simp);obtain ⟨o1,n1,k1⟩:=tp;simp only [v1,Tm.op,Tm.n,Tm.kids] at hix;cases l with
    | nil =>
     simp only [lV,lH,Pd,List.append_nil] at h9 ⊢;simp only [↓Py,↓XX,XY,↓reduceIte,Nat.reduceBEq,Nat.reduceAdd,Int.reduceEq,Int.reduceLT,Int.reduceLE,hlt,w1,w2,wi,↓hix,FV.cells,c1,↓AI,XD,heldB,AR,XE];exact h9
    | cons i0 l0 =>
     simp only [lV,lH,Pd,List.cons_append,List.nil_append] at h9 ⊢;simp only [↓Py,↓XX,XY,↓reduceIte,Nat.reduceBEq,Nat.reduceAdd,Int.reduceEq,Int.reduceLT,Int.reduceLE,hlt,w1,w2,wi,↓hix,FV.cells,c1,↓AI,XD,heldB,AR,XE];exact h9
 ·rw [htt];split
  ·exact ⟨Ati _,by have:=MR 0;simp [Tm.z,Tm.wt,Tm.wtL];omega,by simp [Tm.z,Tm.dp,Tm.dpL,Dg]⟩
  ·rename_i hne;have h1:=Int.emod_nonneg x (show (L.length:Int)≠0 by
    intro h;exact hne (List.eq_nil_of_length_eq_zero (by omega)))
   have h2:=Int.emod_lt_of_pos x (show (0:Int)<L.length by
    have:L.length≠0:=fun h=>hne (List.eq_nil_of_length_eq_zero h)
    omega)
   have hj:(x % (L.length:Int)).toNat<L.length:=by omega
   have:=hLlt (L.getD (x % (L.length:Int)).toNat 0) (by rw [List.getD_eq_getElem?_getD,List.getElem?_eq_getElem hj];exact List.getElem_mem hj)
   exact ⟨AuT (by omega) (by omega),by have:=MR 0;simp [Tm.wt,Tm.wtL];omega,by simp [Tm.dp,Tm.dpL,Dg]⟩
 ·intro hb;have hne:L≠[]:=by simpa using hb
  rw [htt,if_neg hne];have h1:=Int.emod_nonneg x (show (L.length:Int)≠0 by
   intro h;exact hne (List.eq_nil_of_length_eq_zero (by omega)))
  have h2:=Int.emod_lt_of_pos x (show (0:Int)<L.length by
   have:L.length≠0:=fun h=>hne (List.eq_nil_of_length_eq_zero h)
   omega)
  have hj:(x % (L.length:Int)).toNat<L.length:=by omega
  have hm:L.getD (x % (L.length:Int)).toNat 0∈L:=by rw [List.getD_eq_getElem?_getD,List.getElem?_eq_getElem hj];exact List.getElem_mem hj
  generalize L.getD (x % (L.length:Int)).toNat 0=i at hm;refine ⟨i,rfl,hLlt i hm,?_⟩;have hig:=hLlt i hm;rw [hL] at hm;have hh:=(List.mem_filter.1 hm).2;rw [hhit,Bool.and_eq_true,Bool.and_eq_true,decide_eq_true_eq,decide_eq_true_eq] at hh;obtain ⟨hp,_,_,_,_,f,hf⟩:=hU i hig;rw [hh.2.1] at hf;refine ⟨(P i).2,f,U i,by rw [hp,<- hh.1],?_,(Jx _ _).1 hh.2.2⟩;rw [show ((i+1:Nat):Int)=(i:Int)+1 by omega]
  exact hf
def Eo (F:FuncId) (κ e:Nat):Prop:=∀(g:Ci) (a r:Tm),GOk e g->AOk g.length a->∃t b,Ev F [.fv (A6 g),.fv a.enc,.fv r.enc,iv ((e:Int) - 5)] (.tuple [Tm.enc t,.bool b])/\TG κ e g a t b
def Qq (F:FuncId) (κ e:Nat):Prop:=∀(g:Ci) (a r:Tm),GOk e g->NOk g.length a->∃t b,Ev F [.fv (A6 g),.fv a.enc,.fv r.enc,iv ((e:Int) - 5)] (.tuple [Tm.enc t,.bool b])/\TG κ e g a t b
structure TyOk (g:Ci) (e:Nat) (t:Tm):Prop where
 sc:t.sc g.length
 wt:t.wt<=Wg (e - 1)+10
 dp:t.dp<=Dg (e - 1)+3
 gr:Gr 0 e g .z t
def My (e:Nat):Prop:=∀(g:Ci) (r:Tm),GOk e g->∃t,Ev 38 [.fv (A6 g),.fv r.enc,iv ((e:Int) - 5)] (Tm.enc t)/\TyOk g e t
theorem NV {k:Nat} {a:Tm} (h:NOk k a) (hk:k<=1000) (d:Nat) (hd:d<=10):NOk (k+d) (a.shift d 0):=⟨B3 a d 0 k h.sc (by have:=h.wt;omega),by rw [BF];exact h.wt,by rw [FZ];exact h.dp⟩
theorem Al0 {e:Nat} (h6:6<=e) (he:e<=10) (hT:My 6) (hG:Eo 39 1 (e - 2)):Qq 65 3 e:=by
 intro g a r hg ha;have hlen:=hg.len;have hW2:Wg e=16 * Wg (e - 2):=by
  obtain ⟨f,rfl⟩:∃f,e=f+2:=⟨e - 2,by omega⟩;rw [show f+2=(f+1)+1 by omega,MN,MN,show f+1+1 - 2=f by omega];omega
 have hW20:=MR (e - 2);have hW5:4 * Wg 5<=Wg e:=by rw [<- MN];exact S8 (by omega)
 have hW10:=Pb he;have hDe:Dg e=Dg (e - 2)+20:=by unfold Dg;omega
 have hD5:Dg 5+10<=Dg e:=by unfold Dg;omega
 have hD2:200<=Dg (e - 2):=by unfold Dg;omega
 have hDm:Dg e<=300:=by unfold Dg;omega
 obtain ⟨b,⟨N1,h1⟩,tb⟩:=hT g (r.pick 0) (AT (by omega) hg);have bw:=tb.wt;have bd:=tb.dp;simp only [show 6 - 1=5 from rfl] at bw bd
 have hba:AOk g.length b:=⟨tb.sc,by omega,by omega⟩;have hbm:GOk (e - 2) (g++[(1,b)]):=Db (AT (by omega) hg) tb.sc (by omega) (by omega);obtain ⟨x,p,⟨N2,h2⟩,tx⟩:=hG g b (r.pick 1) (AT (by omega) hg) hba;obtain ⟨c,q,⟨N3,h3⟩,tc⟩:=hG g a (r.pick 2) (AT (by omega) hg) (Bv ha);have hsa:=NV ha (by omega) 1 (by omega);obtain ⟨c2,q2,⟨N4,h4⟩,tc2⟩:=hG (g++[(1,b)]) (a.shift 1 0) (r.pick 2) hbm (by simpa using Bv hsa);have we:BK ((e:Int) - 5 - 2)=((e - 2:Nat):Int) - 5:=by rw [Av (by omega) (by omega)];omega
 have hd2:(((e - 2:Nat):Int) - 5)=((e - 2:Nat):Int) - 5:=rfl;have aw:=ha.wt;have ad:=ha.dp;have xw:=tx.wt;have cw:=tc.wt;have c2w:=tc2.wt;have xd:=tx.dp;have cd:=tc.dp;have c2d:=tc2.dp;have c2s:c2.sc (g.length+1):=by simpa using tc2.sc
 by_cases h0:r.n % 3=0
 ·refine ⟨.mk 8 0 [.mk 7 0 [.mk 6 0 [a,b.shift 1 0],c,x]],p && q,⟨N1+N2+N3+200000000000+1,?_⟩,?_,?_,?_,fun hb=>.fst e g a b c x h6 hba tb.gr (tx.gr (L7 hb)) (tc.gr (Kd hb))⟩
  ·intro n hn;obtain ⟨n,rfl⟩:∃k,n=k+1:=⟨n - 1,by omega⟩;have h1:=h1 n (by omega);have h2:=h2 n (by omega);have h3:=h3 n (by omega);rw [<- we] at h2 h3;have p0:=AL (n:=n) (by omega) r 0;have p1:=AL (n:=n) (by omega) r 1;have p2:=AL (n:=n) (by omega) r 2;have hw:=As (n:=n) (by omega) r.n (m:=3) (by omega) (by omega);have hsh:=CJ n b 1 0 (by omega) (Fd _ _ tb.sc) (by omega) (by omega);have t6:=CO (n:=n) (by omega) 6 [a,b.shift 1 0];have t7:=CO (n:=n) (by omega) 7 [.mk 6 0 [a,b.shift 1 0],c,x];have t8:=CO (n:=n) (by omega) 8 [.mk 7 0 [.mk 6 0 [a,b.shift 1 0],c,x]];rw [h0] at hw;rw [c65];clear h4 tb tx tc tc2 ha hg hG hT hba hbm hsa aw ad xw cw c2w bw xd cd c2d bd c2s;generalize b.shift 1 0=bs at hsh t6 t7 t8 ⊢;generalize r.pick 0=r0 at p0 h1;generalize r.pick 1=r1 at p1 h2;generalize r.pick 2=r2 at p2 h3;obtain ⟨o1,m1,k1⟩:=a;obtain ⟨o2,m2,k2⟩:=b;obtain ⟨o3,m3,k3⟩:=r;obtain ⟨o4,m4,k4⟩:=bs;obtain ⟨o5,m5,k5⟩:=x;obtain ⟨o6,m6,k6⟩:=c;obtain ⟨o7,m7,k7⟩:=r0;obtain ⟨o8,m8,k8⟩:=r1;obtain ⟨o9,m9,k9⟩:=r2;simp only [Tm.n,A6,AB5,AB4,Am,Int.reduceSub,Int.cast_ofNat_Int] at h1 h2 h3 p0 p1 p2 hw hsh t6 t7 t8 ⊢;cases p
   ·simp (maxSteps:=1000000) only [KN,Kh,Km,LN,Lq,KM,LD,Kk,K7,LG,KG,Kv,La,Lr,K3,Li,Lm,Kw,KF,KU,Ki,S65,↓XX,XY,↓reduceIte,Nat.reduceBEq,Nat.reduceAdd,Int.reduceEq,Int.reduceLT,Int.reduceLE,↓Ag p0,↓Ag p1,↓Ag p2,↓AJ h1,↓AC h2,↓Ag hw,↓AC h3,↓AJ hsh,↓CT,↓Ag t6,↓Ls,↓Ag t7,↓Em,↓Ag t8]
    first | exact An _ _ | exact Ax rfl (by simp) _
   ·simp (maxSteps:=1000000) only [KN,Kh,Km,LN,Lq,KM,LD,Kk,K7,LG,KG,Kv,La,Lr,K3,Li,Lm,Kw,KF,KU,Ki,S65,↓XX,XY,↓reduceIte,Nat.reduceBEq,Nat.reduceAdd,Int.reduceEq,Int.reduceLT,Int.reduceLE,↓Ag p0,↓Ag p1,↓Ag p2,↓AJ h1,↓AC h2,↓Ag hw,↓AC h3,↓AJ hsh,↓CT,↓Ag t6,↓Ls,↓Ag t7,↓Em,↓Ag t8]
    first | exact An _ _ | exact Ax rfl (by simp) _
  ·exact FO (by decide) (by decide) (BB (by decide) (by decide) (by decide)) (WE (by decide) (by decide) (BB (by decide) (by decide) (by decide))
    (Cr (by decide) (by decide) (BB (by decide) (by decide) (by decide)) ha.sc (B3 b 1 0 _ tb.sc (by simp only [show Af 8 0=0 from rfl,show Af 7 0=0 from rfl];omega))) tc.sc tx.sc)
  ·rw [wt1,wt3,OY,BF];omega
  ·rw [dp1,dp3,PY,FZ];omega
 ·refine ⟨.mk 5 0 [.mk 4 0 [b,c2],x],p && q2,⟨N1+N2+N4+200000000000+1,?_⟩,?_,?_,?_,fun hb=>.app e g a b c2 x h6 hba tb.gr (tx.gr (L7 hb)) (tc2.gr (Kd hb))⟩
  ·intro n hn;obtain ⟨n,rfl⟩:∃k,n=k+1:=⟨n - 1,by omega⟩;have h1:=h1 n (by omega);have h2:=h2 n (by omega);have h4:=h4 n (by omega);rw [<- we] at h2 h4;have p0:=AL (n:=n) (by omega) r 0;have p1:=AL (n:=n) (by omega) r 1;have p2:=AL (n:=n) (by omega) r 2;have hw:=As (n:=n) (by omega) r.n (m:=3) (by omega) (by omega);have hsh:=CJ n a 1 0 (by omega) (Fd _ _ ha.sc) (by omega) (by omega);have hm:=Ed (n:=n) g 1 b (by omega) (by omega);have t4:=CO (n:=n) (by omega) 4 [b,c2];have t5:=CO (n:=n) (by omega) 5 [.mk 4 0 [b,c2],x];rw [c65];clear h3 tb tx tc tc2 ha hg hG hT hba hbm hsa aw ad xw cw c2w bw xd cd c2d bd c2s;generalize a.shift 1 0=sa at hsh h4;generalize r.pick 0=r0 at p0 h1;generalize r.pick 1=r1 at p1 h2;generalize r.pick 2=r2 at p2 h4;generalize r.n % 3=w3 at hw h0;obtain ⟨o1,m1,k1⟩:=a;obtain ⟨o2,m2,k2⟩:=b;obtain ⟨o3,m3,k3⟩:=r;obtain ⟨o4,m4,k4⟩:=sa;obtain ⟨o5,m5,k5⟩:=x;obtain ⟨o6,m6,k6⟩:=c2;obtain ⟨o7,m7,k7⟩:=r0;obtain ⟨o8,m8,k8⟩:=r1;obtain ⟨o9,m9,k9⟩:=r2;simp only [Tm.n,A6,AB5,AB4,Am,Int.reduceSub,Int.cast_ofNat_Int] at h1 h2 h4 p0 p1 p2 hw hsh hm t4 t5 ⊢;cases p
   ·simp (maxSteps:=1000000) only [KN,Kh,Km,LN,Lq,KM,LD,Kk,K7,LG,KG,Kv,La,Lr,K3,Li,Lm,Kw,KF,KU,Ki,S65,↓XX,XY,↓reduceIte,Nat.reduceBEq,Nat.reduceAdd,Int.reduceEq,Int.reduceLT,Int.reduceLE,↓Ag p0,↓Ag p1,↓Ag p2,↓AJ h1,↓AC h2,↓Ag hw,h0,↓AC h4,↓AJ hsh,↓AJ hm,↓CT,↓Ag t4,↓Ag t5]
    first | exact An _ _ | exact Ax rfl (by simp) _
   ·simp (maxSteps:=1000000) only [KN,Kh,Km,LN,Lq,KM,LD,Kk,K7,LG,KG,Kv,La,Lr,K3,Li,Lm,Kw,KF,KU,Ki,S65,↓XX,XY,↓reduceIte,Nat.reduceBEq,Nat.reduceAdd,Int.reduceEq,Int.reduceLT,Int.reduceLE,↓Ag p0,↓Ag p1,↓Ag p2,↓AJ h1,↓AC h2,↓Ag hw,h0,↓AC h4,↓AJ hsh,↓AJ hm,↓CT,↓Ag t4,↓Ag t5]
    first | exact An _ _ | exact Ax rfl (by simp) _
  ·exact Cr (by decide) (by decide) (BB (by decide) (by decide) (by decide)) (Cr (by decide) (by decide) (BB (by decide) (by decide) (by decide)) tb.sc c2s) tx.sc
  ·rw [OY,OY];omega
  ·rw [PY,PY];omega
theorem Aqv {e:Nat} (he:e<=10) (hT:6<=e->My (e - 1)) (hG:6<=e->Eo 39 1 (e - 1)):My e:=by
 intro g r hg;have hlen:=hg.len;have hk1:=Int.emod_nonneg r.op (show (9:Int)≠0 by decide)
 have hk2:=Int.emod_lt_of_pos r.op (show (0:Int)<9 by decide)
 have hW0:=MR (e - 1);have hD0:200<=Dg (e - 1):=by unfold Dg;omega
 have hleaf:∀op n:Int,ar op=some 0->op≠1->BJ op n->Gr 0 e g .z (.mk op n [])->TyOk g e (.mk op n []):=fun op n h1 h2 h3 h4=>⟨Ce h1 h2 h3,by simp only [Tm.wt,Tm.wtL];omega,by simp only [Tm.dp,Tm.dpL];omega,h4⟩;have hpl:=EC 1 r;have hpd:=P3 (r.plainT 1);have c0:(r.op % 9=0\/r.op % 9=1\/e<=5/\(r.op % 9=5\/r.op % 9=6))->∃t,Ev 38 [.fv (A6 g),.fv r.enc,iv ((e:Int) - 5)] (Tm.enc t)/\TyOk g e t:=by
  intro hc;refine ⟨.mk 10 0 [],⟨100,fun n hn=>?_⟩,hleaf 10 0 (by decide) (by decide) (BB (by decide) (by decide) (by decide)) (.tnat e g _)⟩;obtain ⟨n,rfl⟩:∃k,n=k+1:=⟨n - 1,by omega⟩;have hw:=As (n:=n) (by omega) r.op (m:=9) (by omega) (by omega);have hn4:=Nl (n:=n) (by omega);rw [c38];obtain ⟨o,p,k⟩:=r;simp only [Tm.op] at hw hc;simp only [Am,AB4] at hn4 ⊢;rcases hc with hc | hc | ⟨he5,hc | hc⟩
  ·rw [hc] at hw;by_cases hd:(e:Int) - 5<=0<;>(simp (maxSteps:=1000000) only [↓Kj,↓XX,XY,↓reduceIte,Nat.reduceBEq,Nat.reduceAdd,Int.reduceEq,Int.reduceLT,Int.reduceLE,↓Ag hw,hd,↓Gk hn4];first | exact An _ _ | exact Bb rfl _)
  ·rw [hc] at hw;by_cases hd:(e:Int) - 5<=0<;>(simp (maxSteps:=1000000) only [↓Kj,↓XX,XY,↓reduceIte,Nat.reduceBEq,Nat.reduceAdd,Int.reduceEq,Int.reduceLT,Int.reduceLE,↓Ag hw,hd,↓Gk hn4];first | exact An _ _ | exact Bb rfl _)
  ·rw [hc] at hw;have hd:(e:Int) - 5<=0:=by omega
   simp (maxSteps:=1000000) only [↓Kj,↓XX,XY,↓reduceIte,Nat.reduceBEq,Nat.reduceAdd,Int.reduceEq,Int.reduceLT,Int.reduceLE,↓Ag hw,hd,↓Qk (show (5:Int)≠0 by decide),show (5:Int).tmod 5=0 from rfl,↓Gk hn4];first | exact An _ _ | exact Bb rfl _
  ·rw [hc] at hw;have hd:(e:Int) - 5<=0:=by omega
   simp (maxSteps:=1000000) only [↓Kj,↓XX,XY,↓reduceIte,Nat.reduceBEq,Nat.reduceAdd,Int.reduceEq,Int.reduceLT,Int.reduceLE,↓Ag hw,hd,↓Qk (show (5:Int)≠0 by decide),show (6:Int).tmod 5=1 from rfl,↓Gk hn4];first | exact An _ _ | exact Bb rfl _
 have c2:(r.op % 9=2\/e<=5/\r.op % 9=7)->∃t,Ev 38 [.fv (A6 g),.fv r.enc,iv ((e:Int) - 5)] (Tm.enc t)/\TyOk g e t:=by
  intro hc;refine ⟨.mk 14 0 [],⟨100,fun n hn=>?_⟩,hleaf 14 0 (by decide) (by decide) (BB (by decide) (by decide) (by decide)) (.tty e g _)⟩;obtain ⟨n,rfl⟩:∃k,n=k+1:=⟨n - 1,by omega⟩;have hw:=As (n:=n) (by omega) r.op (m:=9) (by omega) (by omega);have hn4:=BE (n:=n) (by omega) 14;rw [c38];obtain ⟨o,p,k⟩:=r;simp only [Tm.op] at hw hc;simp only [Am,AB4] at hn4 ⊢;rcases hc with hc | ⟨he5,hc⟩
  ·rw [hc] at hw;by_cases hd:(e:Int) - 5<=0<;>(simp (maxSteps:=1000000) only [↓Kj,↓XX,XY,↓reduceIte,Nat.reduceBEq,Nat.reduceAdd,Int.reduceEq,Int.reduceLT,Int.reduceLE,↓Ag hw,hd,↓Ag hn4];first | exact An _ _ | exact Bb rfl _)
  ·rw [hc] at hw;have hd:(e:Int) - 5<=0:=by omega
   simp (maxSteps:=1000000) only [↓Kj,↓XX,XY,↓reduceIte,Nat.reduceBEq,Nat.reduceAdd,Int.reduceEq,Int.reduceLT,Int.reduceLE,↓Ag hw,hd,↓Qk (show (5:Int)≠0 by decide),show (7:Int).tmod 5=2 from rfl,↓Ag hn4];first | exact An _ _ | exact Bb rfl _
 have c3:(r.op % 9=3\/e<=5/\r.op % 9=8)->∃t,Ev 38 [.fv (A6 g),.fv r.enc,iv ((e:Int) - 5)] (Tm.enc t)/\TyOk g e t:=by
  intro hc;refine ⟨.mk 18 0 [r.plainT 1],⟨100,fun n hn=>?_⟩,FO (by decide) (by decide) (BB (by decide) (by decide) (by decide)) (FH _ 1 r),by rw [wt1];omega,by rw [dp1];omega,.tlp e g _ r⟩;obtain ⟨n,rfl⟩:∃k,n=k+1:=⟨n - 1,by omega⟩;have hw:=As (n:=n) (by omega) r.op (m:=9) (by omega) (by omega);have hp:=Mi 1 n r (by omega) (by omega);have ht:=CO (n:=n) (by omega) 18 [r.plainT 1];rw [c38];generalize r.plainT 1=q at hp ht ⊢;obtain ⟨o,p,k⟩:=r;obtain ⟨o2,p2,k2⟩:=q;simp only [Tm.op] at hw hc;simp only [Am,AB5,AB4] at hp ht ⊢;rcases hc with hc | ⟨he5,hc⟩
  ·rw [hc] at hw;by_cases hd:(e:Int) - 5<=0<;>(simp (maxSteps:=1000000) only [↓Kj,↓XX,XY,↓reduceIte,Nat.reduceBEq,Nat.reduceAdd,Int.reduceEq,Int.reduceLT,Int.reduceLE,↓Ag hw,hd,↓Ag hp,↓Em,↓Ag ht];first | exact An _ _ | exact Bb rfl _)
  ·rw [hc] at hw;have hd:(e:Int) - 5<=0:=by omega
   simp (maxSteps:=1000000) only [↓Kj,↓XX,XY,↓reduceIte,Nat.reduceBEq,Nat.reduceAdd,Int.reduceEq,Int.reduceLT,Int.reduceLE,↓Ag hw,hd,↓Qk (show (5:Int)≠0 by decide),show (8:Int).tmod 5=3 from rfl,↓Ag hp,↓Em,↓Ag ht];first | exact An _ _ | exact Bb rfl _
 by_cases h4:r.op % 9=4
 ·refine ⟨.mk 2 0 [],⟨100,fun n hn=>?_⟩,hleaf 2 0 (by decide) (by decide) (by rw [BJ,if_pos rfl];omega) (.tu e g _)⟩;obtain ⟨n,rfl⟩:∃k,n=k+1:=⟨n - 1,by omega⟩;have hw:=As (n:=n) (by omega) r.op (m:=9) (by omega) (by omega);have hu:=AiU (n:=n) (by omega) 0;rw [c38];obtain ⟨o,p,k⟩:=r;simp only [Tm.op] at hw h4;simp only [Am,AB4] at hu ⊢;rw [h4] at hw;by_cases hd:(e:Int) - 5<=0<;>(simp (maxSteps:=1000000) only [↓Kj,↓XX,XY,↓reduceIte,Nat.reduceBEq,Nat.reduceAdd,Int.reduceEq,Int.reduceLT,Int.reduceLE,↓Ag hw,hd,↓Aw hu];first | exact An _ _ | exact Bb rfl _)
 by_cases hs:r.op % 9<=3\/e<=5
 ·have h:=hk1;by_cases h0:r.op % 9=0\/r.op % 9=1\/e<=5/\(r.op % 9=5\/r.op % 9=6)
  ·exact c0 h0
  by_cases h2:r.op % 9=2\/e<=5/\r.op % 9=7
  ·exact c2 h2
  exact c3 (by omega)
 have he6:6<=e:=by omega
 have hd:¬ (e:Int) - 5<=0:=by omega
 have we:BK ((e:Int) - 5 - 1)=((e - 1:Nat):Int) - 5:=by rw [Av (by omega) (by omega)];omega
 have hW10:=Pb (e:=e - 1) (by omega);have hW1:Wg (e - 1)=4 * Wg (e - 2):=by
  obtain ⟨f,rfl⟩:∃f,e=f+2:=⟨e - 2,by omega⟩;rw [show f+2 - 1=f+1 by omega,MN,show f+2 - 2=f by omega]
 have hW2:=MR (e - 2);have hD1:Dg (e - 1)=Dg (e - 2)+10:=by unfold Dg;omega
 have hDm:Dg (e - 1)<=300:=by unfold Dg;omega
 by_cases h8:r.op % 9=8
 ·obtain ⟨t,b,⟨N1,h1⟩,tt⟩:=hG he6 g (.mk 14 0 []) (r.pick 0) (AT (by omega) hg) ⟨Ce (by decide) (by decide) (BB (by decide) (by decide) (by decide)),by simp [Tm.wt,Tm.wtL],by simp [Tm.dp,Tm.dpL]⟩;refine ⟨if b=true then .mk 18 0 [t] else .mk 10 0 [],⟨N1+100,fun n hn=>?_⟩,?_⟩
  ·obtain ⟨n,rfl⟩:∃k,n=k+1:=⟨n - 1,by omega⟩;have hw:=As (n:=n) (by omega) r.op (m:=9) (by omega) (by omega);have h1:=h1 n (by omega);rw [<- we] at h1;have p0:=AL (n:=n) (by omega) r 0;have t14:=BE (n:=n) (by omega) 14;have t18:=CO (n:=n) (by omega) 18 [t];have hn4:=Nl (n:=n) (by omega);rw [c38];rw [h8] at hw;clear hG hT tt c0 c2 c3 hleaf;generalize r.pick 0=r0 at p0 h1;obtain ⟨o,p,k⟩:=r;obtain ⟨o2,p2,k2⟩:=t;obtain ⟨o3,p3,k3⟩:=r0;simp only [Tm.op] at hw;simp only [Am,A6,AB5,AB4] at h1 p0 t14 t18 hn4 ⊢;cases b
   ·simp only [Bool.false_eq_true,if_false,Am,AB4];simp (maxSteps:=1000000) only [↓Kj,↓XX,XY,↓reduceIte,Nat.reduceBEq,Nat.reduceAdd,Int.reduceEq,Int.reduceLT,Int.reduceLE,↓Ag hw,hd,↓Ag t14,↓Ag p0,↓AC h1,↓Gk hn4];first | exact An _ _ | exact Bb rfl _
   ·simp only [if_true,Am,AB4,AB5];simp (maxSteps:=1000000) only [↓Kj,↓XX,XY,↓reduceIte,Nat.reduceBEq,Nat.reduceAdd,Int.reduceEq,Int.reduceLT,Int.reduceLE,↓Ag hw,hd,↓Ag t14,↓Ag p0,↓AC h1,↓Em,↓Ag t18];first | exact An _ _ | exact Bb rfl _
  ·split
   ·rename_i hb;exact ⟨FO (by decide) (by decide) (BB (by decide) (by decide) (by decide)) tt.sc,by have:=tt.wt;rw [wt1];omega,by have:=tt.dp;rw [dp1];omega,.tlift e g _ t he6 (tt.gr hb)⟩
   ·exact hleaf 10 0 (by decide) (by decide) (BB (by decide) (by decide) (by decide)) (.tnat e g _)
 ·obtain ⟨a,⟨N1,h1⟩,ta⟩:=hT he6 g (r.pick 0) (AT (by omega) hg);have aw:=ta.wt;have ad:=ta.dp;rw [show e - 1 - 1=e - 2 by omega] at aw ad
  obtain ⟨b,⟨N2,h2⟩,tb⟩:=hT he6 (g++[(1,a)]) (r.pick 1) (Db (by rw [show e - 1+1=e by omega];exact hg) ta.sc (by omega) (by omega))
  have bw:=tb.wt;have bd:=tb.dp;rw [show e - 1 - 1=e - 2 by omega] at bw bd
  have bs:b.sc (g.length+1):=by simpa using tb.sc
  have hop:∀op:Int,op=3\/op=6->TyOk g e (.mk op 0 [a,b]):=by
   rintro op (rfl | rfl)
   ·exact ⟨Cr (by decide) (by decide) (BB (by decide) (by decide) (by decide)) ta.sc bs,by rw [OY];omega,by rw [PY];omega,.tpi e g _ a b _ (by simp) he6 (by omega) ⟨ta.sc,by omega,by omega⟩ ta.gr tb.gr⟩
   ·exact ⟨Cr (by decide) (by decide) (BB (by decide) (by decide) (by decide)) ta.sc bs,by rw [OY];omega,by rw [PY];omega,.tpi e g _ a b _ (by simp) he6 (by omega) ⟨ta.sc,by omega,by omega⟩ ta.gr tb.gr⟩
  obtain ⟨oo,hoo⟩:∃oo:Int,oo=3/\(r.op % 9=5\/r.op % 9=6)\/oo=6/\r.op % 9=7:=by
   by_cases h7:r.op % 9=7
   ·exact ⟨6,.inr ⟨rfl,h7⟩⟩
   ·exact ⟨3,.inl ⟨rfl,by omega⟩⟩
  refine ⟨.mk oo 0 [a,b],⟨N1+N2+100,fun n hn=>?_⟩,hop oo (by omega)⟩;obtain ⟨n,rfl⟩:∃k,n=k+1:=⟨n - 1,by omega⟩;have hw:=As (n:=n) (by omega) r.op (m:=9) (by omega) (by omega);have h1:=h1 n (by omega);have h2:=h2 n (by omega);rw [<- we] at h1 h2;have p0:=AL (n:=n) (by omega) r 0;have p1:=AL (n:=n) (by omega) r 1;have t3:=CO (n:=n) (by omega) 3 [a,b];have t6:=CO (n:=n) (by omega) 6 [a,b];have hm:=Ed (n:=n) g 1 a (by omega) (by omega);rw [c38];clear hG hT c0 c2 c3 hleaf ta tb hop bs aw ad bw bd;generalize r.pick 0=r0 at p0 h1;generalize r.pick 1=r1 at p1 h2;obtain ⟨o,p,k⟩:=r;obtain ⟨o2,p2,k2⟩:=a;obtain ⟨o3,p3,k3⟩:=b;obtain ⟨o4,p4,k4⟩:=r0;obtain ⟨o5,p5,k5⟩:=r1;simp only [Tm.op] at hw hoo;simp only [Am,A6,AB5,AB4] at h1 h2 p0 p1 t3 t6 hm ⊢;rcases hoo with ⟨rfl,hk | hk⟩ | ⟨rfl,hk⟩
  ·rw [hk] at hw;simp (maxSteps:=1000000) only [↓Kj,↓XX,XY,↓reduceIte,Nat.reduceBEq,Nat.reduceAdd,Int.reduceEq,Int.reduceLT,Int.reduceLE,↓Ag hw,hd,↓Ag p0,↓Ag p1,↓AJ h1,↓AJ hm,↓AJ h2,↓CT,↓Ag t3];first | exact An _ _ | exact Bb rfl _
  ·rw [hk] at hw;simp (maxSteps:=1000000) only [↓Kj,↓XX,XY,↓reduceIte,Nat.reduceBEq,Nat.reduceAdd,Int.reduceEq,Int.reduceLT,Int.reduceLE,↓Ag hw,hd,↓Ag p0,↓Ag p1,↓AJ h1,↓AJ hm,↓AJ h2,↓CT,↓Ag t3];first | exact An _ _ | exact Bb rfl _
  ·rw [hk] at hw;simp (maxSteps:=1000000) only [↓Kj,↓XX,XY,↓reduceIte,Nat.reduceBEq,Nat.reduceAdd,Int.reduceEq,Int.reduceLT,Int.reduceLE,↓Ag hw,hd,↓Ag p0,↓Ag p1,↓AJ h1,↓AJ hm,↓AJ h2,↓CT,↓Ag t6];first | exact An _ _ | exact Bb rfl _
end Idl
end Go.Proofs.Ytkfecngimlcfoaa

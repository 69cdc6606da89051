/-
  Texts of a proof, part 11: an ideal semantics of the program, its functions in shallow form, contracts of them. No statement of the seat is proved here.
-/
import Derived.Test.YtkfecngimlcfoaaStageLetK10
set_option linter.all false
set_option maxRecDepth 20000
set_option maxHeartbeats 16000000
noncomputable section
namespace Go.Proofs.Ytkfecngimlcfoaa
namespace Idl
def Fo (u:Int) (b:Nat):List RV:=(List.range b).map fun (j:Nat)=>RV.var (u+(j:Int))
def L9 (u:Int) (b:Nat):Fo u (b+1)=Fo u b++[RV.var (u+b)]:=by simp [Fo,List.range_succ]
def B1 (u:Int) (b:Nat):(Fo u b).length=b:=by simp [Fo]
def Ba (rd:Int->Int->Int->RV->Int->Option (Tm×Int×Int×Int)) (f:Nat) (op u:Int):Nat->List RV->Int->Int->Int->Option (List Tm×Int×Int×Int)
 | _,[],s,nd,e=>some ([],s,nd,e)
 | i,k::l,s,nd,e =>
  match (if 0<Ae op i then (if 900000<k.env.length then none else AB f s e k.b (k.env++Fo u (Ae op i))) else some (k,s,e)) with
  | none=>none
  | some (k',s1,e1)=>match rd s1 nd e1 k' (u+Ae op i) with
   | none=>none
   | some (t,s2,nd2,e2)=>(Ba rd f op u (i+1) l s2 nd2 e2).map fun (ts,s,nd,e)=>(t::ts,s,nd,e)
def AL:Nat->Int->Int->Int->RV->Int->Int->Option (Tm×Int×Int×Int)
 | 0,_,_,_,_,_,_=>none
 | f+1,s,nd,e,v,u,d =>
  if nd<0\/1000000<nd\/u<0\/1000000<u\/d<0\/1000000<d\/v.n < -2305843009213693952\/2305843009213693952<v.n\/f<=v.k.length\/900000<v.k.length\/f<=3 then none else
  if (if e=0/\(3000<nd+1\/120<d) then 5 else e)≠0 then some (.z,s,nd+1,(if e=0/\(3000<nd+1\/120<d) then 5 else e))
  else if v.op=1 then some (.mk 1 (u - 1 - v.n) [],s,nd+1,0)
  else (Ba (fun s nd e k u=>AL f s nd e k u (d+1)) f v.op u 0 v.k s (nd+1) 0).map fun (ts,s,nd,e)=>(.mk v.op v.n ts,s,nd,e)
def Yn (f:Nat):Prop:=∀(s nd e:Int) (v:RV) (u d:Int) (t:Tm) (s' nd' e':Int),AL f s nd e v u d=some (t,s',nd',e')->∀n,f+1<=n ->
 Bq (SS dt n 61 [.ptr (.ext 0) 0,.fv v.enc,iv u,iv d] ⟨[],[.row [iv s,iv nd,iv e] false]⟩) t.enc [.row [iv s',iv nd',iv e'] false]
abbrev MP (op m:Int) (K:IV) (tok:List (Nat×Blk)) (s nd e:Int):Hp :=
 ⟨(63963136,.row [iv 0,iv 0,.nils] false)::(63971337,.row [iv op,iv m,K] false)::tok,[.row [iv s,iv nd,iv e] false]⟩
def Ae7 {cells:List IV} {fc:List FV} (hz:Di cells=some fc) (hn:cells.length<=100) (s:Nat) (h:Hp) (k:KT (IV×Hp)):fzS (LU true s (.agg cells)) s (.agg cells) h k=k (.fv (.fp fc 0)) h [] []:=by
 have:LU true s (.agg cells)=.ret { eff:={ val:=.fv (.fp fc 0),upd:=[] } }:=by
  simp only [LU,IV.alive,Bool.true_eq_false,if_false,if_true,IV.cells,Acu cells 4096 (by omega) hz,Rd.bind]
 unfold fzS;rw [this,Yr];exact HF _ s h k
def Abo (n:Int):(RV.var n).enc=.fp [.int .i64 1,.int .i64 n,.sl [],.sl [],.int .i64 0,.int .i64 0,.sl []] 0:=by rw [RV.var,Tm.z,Jo];rfl
def AiY {f:Nat} (hr:Yn f):Yn (f+1):=by
 intro s nd e v u d t s' nd' e' hev n hn;obtain ⟨n,rfl⟩:=psc n (by omega);rw [c61];rw [AL] at hev;by_cases hbad:nd<0\/1000000<nd\/u<0\/1000000<u\/d<0\/1000000<d\/v.n < -2305843009213693952\/2305843009213693952<v.n\/f<=v.k.length\/900000<v.k.length\/f<=3
 ·rw [if_pos hbad] at hev;cases hev
 ·rw [if_neg hbad] at hev;have wnd:BM (nd+1)=nd+1:=by rw [Av]<;>omega
  have wd:BM (d+1)=d+1:=by rw [Av]<;>omega
  have wu:BM (u - 1)=u - 1:=by rw [Av]<;>omega
  have wv:BM (u - 1 - v.n)=u - 1 - v.n:=by rw [Av]<;>omega
  by_cases he:e=0
  ·subst he;by_cases h3:3000<nd+1
   ·have e5:(if (0:Int)=0/\(3000<nd+1\/120<d) then (5:Int) else 0)=5:=if_pos ⟨rfl,.inl h3⟩;rw [e5,if_pos (by decide)] at hev;simp only [AB5,AB6] at hev;obtain ⟨rfl,rfl,rfl,rfl⟩:=hev;simp only [↓UU6,↓XX,XY,↓reduceIte,seval,wnd,h3];exact Ff rfl _ _
   ·by_cases h4:120<d
    ·have e5:(if (0:Int)=0/\(3000<nd+1\/120<d) then (5:Int) else 0)=5:=if_pos ⟨rfl,.inr h4⟩;rw [e5,if_pos (by decide)] at hev;simp only [AB5,AB6] at hev;obtain ⟨rfl,rfl,rfl,rfl⟩:=hev;simp only [↓UU6,↓XX,XY,↓reduceIte,seval,wnd,h3,h4];exact Ff rfl _ _
    ·have e5:(if (0:Int)=0/\(3000<nd+1\/120<d) then (5:Int) else 0)=0:=if_neg (by omega);rw [e5,if_neg (by decide)] at hev;by_cases h1:v.op=1
     ·rw [if_pos h1] at hev;simp only [AB5,AB6] at hev;obtain ⟨rfl,rfl,rfl,rfl⟩:=hev;have hv:=Al8 (n:=n) (by omega) (u - 1 - v.n);rw [Ag] at hv ⊢;simp only [↓UU6,↓XX,XY,↓reduceIte,seval,↓XV,wnd,h3,h4,h1,wu,wv,↓Ap hv];exact Ff rfl _ _
     ·rw [if_neg h1] at hev;cases hrk:Ba (fun s nd e k u=>AL f s nd e k u (d+1)) f v.op u 0 v.k s (nd+1) 0 with
      | none=>rw [hrk] at hev;cases hev
      | some q =>
      obtain ⟨ts,s1,nd1,e1⟩:=q;rw [hrk] at hev;simp only [AB8,AB5,AB6] at hev;obtain ⟨rfl,rfl,rfl,rfl⟩:=hev;simp only [↓UU6,↓XX,XY,↓reduceIte,seval,↓XV,wnd,h3,h4,h1,↓AM,XD,heldB,AV,XE];refine Bd (Q:=fun r=>Bq r _ _) (fun k V H=>∃(pre rest:List RV) (done:List Tm) (s2 nd2 e2:Int) (us:List Tm),v.k=pre++rest/\rest.length=k/\done.length=pre.length/\V=[.ptr (.ext 0) 0,.fv v.enc,iv u,iv d,.ptr (.own 63963136) 0,.ptr (.own 63971337) 0,iv pre.length] /\
       (
        (pre=[]/\H=MP v.op v.n .nils [] s2 nd2 e2) \/
        (pre≠[]/\H=MP v.op v.n (.app (.own 63984651) (done.map Tm.enc)) [(63984651,.tok done.length 3)] s2 nd2 e2)) /\
       Ba (fun s nd e k u=>AL f s nd e k u (d+1)) f v.op u pre.length rest s2 nd2 e2=some (us,s1,nd1,e1)/\done++us=ts)
       ?_ n v.k.length _ _ (by omega) ⟨[],v.k,[],s,nd+1,0,ts,rfl,rfl,rfl,rfl,.inl ⟨rfl,rfl⟩,hrk,rfl⟩
      rintro k V H rec ⟨pre,rest,done,s2,nd2,e2,us,hk,hl,hdl,rfl,hH,hkids,hts⟩ hrec;have hkl:v.k.length=pre.length+rest.length:=by rw [hk];simp
      cases rest with
      | nil =>
       simp only [Ba,AB5,AB6] at hkids;obtain ⟨rfl,rfl,rfl,rfl⟩:=hkids;rw [List.append_nil] at hts;subst hts;have hno:¬ ((pre.length:Int)<v.k.length):=by rw [hkl];simp
       rcases hH with ⟨hp0,rfl⟩ | ⟨hne,rfl⟩
       ·have hd0:done=[]:=List.length_eq_zero_iff.1 (by rw [hdl,hp0];rfl);subst hd0;simp only [E6,EZ,EP,E1,EV,E3,Hx,EQ,EH,EM,E8,EG,Hs,ES,E7,EK,E5,ER,EI,ED,FB,E9,E4,EN,EY,ET,EW,E0,EF,EL,EU,S61,↓XX,XY,↓reduceIte,seval,↓XV,hno,Ag];exact Ff rfl _ _
       ·simp only [E6,EZ,EP,E1,EV,E3,Hx,EQ,EH,EM,E8,EG,Hs,ES,E7,EK,E5,ER,EI,ED,FB,E9,E4,EN,EY,ET,EW,E0,EF,EL,EU,S61,↓XX,XY,↓reduceIte,seval,↓XV,hno,Ag];exact Ff rfl _ _
      | cons x rest =>
       have hi:(pre.length:Int)<v.k.length:=by rw [hkl];simp;omega
       have hg:=Cr hk;have hb:=F4 (n:=n) (by omega) v.op pre.length;have hble:=Bo v.op pre.length;have hwi:BM ((pre.length:Int)+1)=((pre++[x]).length:Int):=(Av (by omega) (by omega)).trans (by simp);have hwb:BM (u+(Ae v.op pre.length:Int))=u+Ae v.op pre.length:=by rw [Av]<;>omega
       have hd9:done.length+1<=1000000:=by omega
       simp only [Ba] at hkids;simp only [AB9] at hl;have behind:∀(y:RV) (s3 e3:Int),(match AL f s3 nd2 e3 y (u+Ae v.op pre.length) (d+1) with
          | none=>none
          | some (t,s2,nd2,e2)=>(Ba (fun s nd e k u=>AL f s nd e k u (d+1)) f v.op u (pre.length+1) rest s2 nd2 e2).map fun (ts,s,nd,e)=>(t::ts,s,nd,e))=some (us,s1,nd1,e1) ->
         ∀K tk,((pre=[]/\K=.nils/\tk=[])\/(pre≠[]/\K=.app (.own 63984651) (done.map Tm.enc)/\tk=[(63984651,.tok done.length 3)])) ->
         Bq (Hx (.ptr (.own 63971337) 0) (MP v.op v.n K tk s3 nd2 e3) (iv u) (iv (Ae v.op pre.length)) (iv d) (SS dt n) (.ptr (.ext 0) 0) (.fv y.enc) (iv pre.length) ⟨[],[.row [iv s,iv nd,iv 0] false]⟩ (.fv v.enc) (.ptr (.own 63963136) 0) rec)
          (Tm.mk v.op v.n ts).enc [.row [iv s1,iv nd1,iv e1] false]:=by
        intro y s3 e3 hy K tk hK;cases hrd:AL f s3 nd2 e3 y (u+Ae v.op pre.length) (d+1) with
        | none=>rw [hrd] at hy;cases hy
        | some q =>
        obtain ⟨t4,s4,nd4,e4⟩:=q;rw [hrd] at hy;simp only at hy;cases hkk:Ba (fun s nd e k u=>AL f s nd e k u (d+1)) f v.op u (pre.length+1) rest s4 nd4 e4 with
        | none=>rw [hkk] at hy;cases hy
        | some q =>
        obtain ⟨us',s5,nd5,e5'⟩:=q;rw [hkk] at hy;simp only [AB8,AB5,AB6] at hy;obtain ⟨rfl,rfl,rfl,rfl⟩:=hy;have hc:=hr s3 nd2 e3 y (u+Ae v.op pre.length) (d+1) t4 s4 nd4 e4 hrd n (by omega);have h9:Bq (rec [.ptr (.ext 0) 0,.fv v.enc,iv u,iv d,.ptr (.own 63963136) 0,.ptr (.own 63971337) 0,iv (pre++[x]).length]
          (MP v.op v.n (.app (.own 63984651) ((done++[t4]).map Tm.enc)) [(63984651,.tok (done.length+1) 3)] s4 nd4 e4)) (Tm.mk v.op v.n ts).enc [.row [iv s5,iv nd5,iv e5'] false] :=
         hrec rest.length _ _ (by omega) ⟨pre++[x],rest,done++[t4],s4,nd4,e4,us',by rw [hk];simp,rfl,by simp [hdl],rfl,.inr ⟨by simp,by simp⟩,by simpa using hkk,by rw [<- hts];simp⟩
        rcases hK with ⟨hp0,rfl,rfl⟩ | ⟨hne,rfl,rfl⟩
        ·have hd0:done=[]:=List.length_eq_zero_iff.1 (by rw [hdl,hp0];rfl);subst hd0;simp only [List.nil_append,ACb,ACa,List.length_nil] at h9;simp only [E6,EZ,EP,E1,EV,E3,Hx,EQ,EH,EM,E8,EG,Hs,ES,E7,EK,E5,ER,EI,ED,FB,E9,E4,EN,EY,ET,EW,E0,EF,EL,EU,S61,↓XX,XY,↓reduceIte,seval,↓XV,hwb,wd,hwi,↓Aku hc (Cu _ _ _ _ _ _),↓Ko,↓UQ,↓AM,XD,heldB,AV,XE];exact h9
        ·simp only [E6,EZ,EP,E1,EV,E3,Hx,EQ,EH,EM,E8,EG,Hs,ES,E7,EK,E5,ER,EI,ED,FB,E9,E4,EN,EY,ET,EW,E0,EF,EL,EU,S61,↓XX,XY,↓reduceIte,seval,↓XV,hwb,wd,hwi,↓Aku hc (Cu _ _ _ _ _ _),↓Ko,↓Of hd9,↓HN,↓AM,XD,heldB,AV,XE];exact h9
       have heads:∃K tk,((pre=[]/\K=.nils/\tk=[])\/(pre≠[]/\K=.app (.own 63984651) (done.map Tm.enc)/\tk=[(63984651,.tok done.length 3)]))/\H=MP v.op v.n K tk s2 nd2 e2:=by
        rcases hH with ⟨a,b⟩ | ⟨a,b⟩
        ·exact ⟨_,_,.inl ⟨a,rfl,rfl⟩,b⟩
        ·exact ⟨_,_,.inr ⟨a,rfl,rfl⟩,b⟩
       obtain ⟨K,tk,hK,rfl⟩:=heads;by_cases hbp:0<Ae v.op pre.length
       ·rw [if_pos hbp] at hkids;by_cases hxe:900000<x.env.length
        ·rw [if_pos hxe] at hkids;cases hkids
        ·rw [if_neg hxe] at hkids;have hbp':0<(Ae v.op pre.length:Int):=by omega
         cases hev1:AB f s2 e2 x.b (x.env++Fo u (Ae v.op pre.length)) with
         | none=>rw [hev1] at hkids;cases hkids
         | some q =>
         obtain ⟨y,s3,e3⟩:=q;rw [hev1] at hkids;have hB:=behind y s3 e3 hkids K tk hK;have hc:=(AhF f).1 s2 e2 x.b _ y s3 e3 nd2 hev1 n (by omega);rw [X1] at hc;have hdrop:∀(vals:List IV),vals.all Gb=true->∀k:Hp->Option (IV×Hp),BO [] [63982597] vals (MP v.op v.n K tk s2 nd2 e2) k=k (MP v.op v.n K tk s2 nd2 e2):=by
          intro vals hv k;rcases hK with ⟨_,rfl,rfl⟩ | ⟨_,rfl,rfl⟩<;>simp only [↓XX,XY,↓reduceIte,seval,↓AM,XD,heldB,AV,XE,hv]
         simp only [E6,EZ,EP,E1,EV,E3,EQ,EH,EM,E8,EG,ES,E7,EK,E5,ER,EI,ED,FB,E9,E4,EN,EY,ET,EW,E0,EF,EL,EU,S61,↓XX,XY,↓reduceIte,seval,↓XV,hi,↓XJ hg,↓Ad hb,hbp',↓hdrop,↓AM,XD,heldB,AV,XE];refine Bd (Q:=fun r=>Bq r _ _) (fun k V H=>∃j,j+k=Ae v.op pre.length/\V=[.ptr (.ext 0) 0,.fv v.enc,iv u,iv d,.ptr (.own 63963136) 0,.ptr (.own 63971337) 0,iv pre.length,iv (Ae v.op pre.length),.fv x.enc,.fv (.sl ((x.env++Fo u j).map RV.enc)),iv j] /\
          H=MP v.op v.n K tk s2 nd2 e2) ?_ n (Ae v.op pre.length) _ _ (by omega) ?_
         rotate_left
         ·exact ⟨0,by omega,by simp [Fo],rfl⟩
         rintro k2 V2 H2 rec2 ⟨j,hj,rfl,rfl⟩ hrec2;cases k2 with
         | zero =>
          have hjb:j=Ae v.op pre.length:=by omega
          subst hjb;simp only [E6,EZ,EP,E1,EV,E3,EQ,EH,EM,E8,EG,Hs,ES,E7,EK,E5,ER,EI,ED,FB,E9,E4,EN,EY,ET,EW,E0,EF,EL,EU,S61,↓XX,XY,↓reduceIte,seval,↓XV,Int.lt_irrefl,↓Kc hc (Cu _ _ _ _ _ _)];exact hB
         | succ k2 =>
          have hjb:(j:Int)<Ae v.op pre.length:=by omega
          have hwj:BM (u+(j:Int))=u+j:=by rw [Av]<;>omega
          have hwj1:BM ((j:Int)+1)=((j+1:Nat):Int):=by rw [Av]<;>omega
          have hp:=Ug (n:=n) (by omega) (x.env++Fo u j) [RV.var (u+j)] (by simp) (by simp [B1];omega);simp only [ACb,ACa,Abo] at hp;rw [List.append_assoc,<- L9] at hp;have hbv:=fun s h k=>Vw (RV.var (u+j)) s h k;simp only [Abo] at hbv;have hfz:=fun s h (k:KT (IV×Hp))=>Ae7 (cells:=[.fv (.int .i64 1),iv (u+j),.nils,.nils,.fv (.int .i64 0),.fv (.int .i64 0),.nils]) (fc:=[.int .i64 1,.int .i64 (u+j),.sl [],.sl [],.int .i64 0,.int .i64 0,.sl []]) rfl (by simp) s h k;have h9:=hrec2 k2 _ _ (by omega) ⟨j+1,by omega,rfl,rfl⟩;simp only [E6,EZ,EP,E1,EV,E3,EQ,EH,EM,E8,EG,Hs,ES,E7,EK,E5,ER,EI,ED,FB,E9,E4,EN,EY,ET,EW,E0,EF,EL,EU,S61,↓XX,XY,↓reduceIte,seval,↓XV,hjb,hwj,hwj1,↓hfz,↓hbv,↓Ad hp,↓hdrop,↓AM,XD,heldB,AV,XE];exact h9
       ·rw [if_neg hbp] at hkids;have hbp':¬ 0<(Ae v.op pre.length:Int):=by omega
        have hB:=behind x s2 e2 hkids K tk hK;simp only [E6,EZ,EP,E1,EV,E3,EQ,EH,EM,E8,EG,ES,E7,EK,E5,ER,EI,ED,FB,E9,E4,EN,EY,ET,EW,E0,EF,EL,EU,S61,↓XX,XY,↓reduceIte,seval,↓XV,hi,↓XJ hg,↓Ad hb,hbp',↓AM,XD,heldB,AV,XE];exact hB
  ·have e5:(if e=0/\(3000<nd+1\/120<d) then (5:Int) else e)=e:=if_neg (by omega);rw [e5,if_pos he] at hev;simp only [AB5,AB6] at hev;obtain ⟨rfl,rfl,rfl,rfl⟩:=hev;simp only [↓UU6,↓XX,XY,↓reduceIte,seval,wnd,he];exact Ff rfl _ _
theorem AnP:∀f,Yn f:=by
 intro f
 induction f with
 | zero=>intro s nd e v u d t s' nd' e' h;rw [AL] at h;cases h
 | succ f ih=>exact AiY ih
def AF (f:Nat) (t:Tm):Option (Tm×Int):=match AB f 0 0 t [] with
 | none=>none
 | some (v,s,e)=>match AL f s 0 e v 0 1 with
  | none=>none
  | some (u,_,_,e)=>some (if e≠0 then (.z,e) else (u,0))
def Pv {n:Nat} (hn:0<n) (e:Int):BW (SS dt n 15 [iv e] ⟨[],[]⟩) (.bool (decide (e=17) || decide (e=5))):=by
 obtain ⟨n,rfl⟩:=psc n (by omega);rw [c15];by_cases h1:e=17
 ·simp only [S15,↓XX,XY,↓reduceIte,seval,h1,Bool.true_or];exact Aw _ _
 ·simp only [S15,↓XX,XY,↓reduceIte,seval,h1,Bool.false_or];exact Aw _ _
theorem AiS (f:Nat) (t u:Tm) (e:Int) (h:AF f t=some (u,e)) (n:Nat) (hn:f+2<=n):BW (SS dt n 34 [.fv t.enc] ⟨[],[]⟩) (.tuple [u.enc,.int .i64 e]):=by
 obtain ⟨n,rfl⟩:=psc n (by omega);rw [c34];unfold AF at h;cases he:AB f 0 0 t [] with
 | none=>rw [he] at h;cases h
 | some q =>
 obtain ⟨v,s1,e1⟩:=q;rw [he] at h;simp only at h;cases hr:AL f s1 0 e1 v 0 1 with
 | none=>rw [hr] at h;cases h
 | some q =>
 obtain ⟨w,s2,nd2,e2⟩:=q;rw [hr] at h;simp only [AB5] at h;have h1:=(AhF f).1 0 0 t [] v s1 e1 0 he n (by omega);have h2:=AnP f s1 0 e1 v 0 1 w s2 nd2 e2 hr n (by omega);obtain ⟨op,m,ks⟩:=t;rw [Ag] at h1 ⊢;simp only [ACa] at h1;have c1:=fun k=>Asx (k:=k) h1 (x:=.fv (.agg [.int .i64 op,.int .i64 m,.sl (ks.map Tm.enc)])) (y:=.nils) (s:=35652609) rfl rfl
  (own:=[(35651584,.row [iv op,iv m,.fv (.sl (ks.map Tm.enc))] false),(35651585,.row [iv 0,iv 0,.nils] false),(35652609,.row [iv 0,iv 0,iv 0] false)])
  (own':=[(35651584,.row [iv op,iv m,.fv (.sl (ks.map Tm.enc))] false),(35651585,.row [iv 0,iv 0,.nils] false),(35652609,.row [iv s1,iv 0,iv e1] false)]) (by simp [An]) (by simp [AP])
 have c2:=fun k=>Atz (k:=k) h2 (x:=.fv v.enc) (y:=iv 0) (z:=iv 1) (s:=35652609) rfl rfl rfl
  (own:=[(35651584,.row [iv op,iv m,.fv (.sl (ks.map Tm.enc))] false),(35651585,.row [iv 0,iv 0,.nils] false),(35652609,.row [iv s1,iv 0,iv e1] false)])
  (own':=[(35651584,.row [iv op,iv m,.fv (.sl (ks.map Tm.enc))] false),(35651585,.row [iv 0,iv 0,.nils] false),(35652609,.row [iv s2,iv nd2,iv e2] false)]) (by simp [An]) (by simp [AP])
 obtain ⟨wo,wn,wk⟩:=w;rw [Ag] at c2;by_cases hz:e2=0
 ·rw [if_neg (by simp [hz])] at h;simp only [AB6] at h;obtain ⟨rfl,rfl⟩:=h;subst hz;simp only [X3,Xs,YT,YQ,Xr,S34,↓XX,XY,↓reduceIte,seval,↓c1,↓c2,Ag];exact Aw _ _
 ·rw [if_pos hz] at h;simp only [AB6] at h;obtain ⟨rfl,rfl⟩:=h;simp only [X3,Xs,YT,YQ,Xr,S34,↓XX,XY,↓reduceIte,seval,↓c1,↓c2,hz,Tm.z,Ag];exact V4 rfl (by simp) _
theorem Dc {ev ev':Int->Int->Tm->Option (RV×Int×Int)} (h:∀s e t r,ev s e t=some r->ev' s e t=some r) (op:Int) (env:List RV):∀(l:List Tm) (i:Nat) (s e:Int) (r:List RV×Int×Int),AW ev op env i l s e=some r->AW ev' op env i l s e=some r
 | [],i,s,e,r,hr=>hr
 | t::l,i,s,e,r,hr=>by
  simp only [AW] at hr ⊢;by_cases hb:0<Ae op i
  ·rw [if_pos hb] at hr ⊢;cases hk:AW ev op env (i+1) l s e with
   | none=>rw [hk] at hr;cases hr
   | some q=>rw [hk] at hr;rw [Dc h op env l (i+1) s e q hk];exact hr
  ·rw [if_neg hb] at hr ⊢;cases he:ev s e t with
   | none=>rw [he] at hr;cases hr
   | some q =>
    obtain ⟨v,s1,e1⟩:=q;rw [he] at hr;rw [h _ _ _ _ he];simp only at hr ⊢;cases hk:AW ev op env (i+1) l s1 e1 with
    | none=>rw [hk] at hr;cases hr
    | some q=>rw [hk] at hr;rw [Dc h op env l (i+1) s1 e1 q hk];exact hr
theorem Rn:∀f,(∀s e t env r,AB f s e t env=some r->AB (f+1) s e t env=some r)/\(∀s e v r,headR f s e v=some r->headR (f+1) s e v=some r):=by
 intro f
 induction f with
 | zero=>exact ⟨(by intro s e t env r h;rw [AB] at h;cases h),(by intro s e v r h;rw [headR] at h;cases h)⟩
 | succ f ih =>
  refine ⟨?_,?_⟩
  ·intro s e t env r h;obtain ⟨op,m,ks⟩:=t;rw [AB] at h ⊢;split at h
   ·rename_i h0;rw [if_pos h0];exact h
   ·rename_i h0;rw [if_neg h0];split at h
    ·cases h
    ·rename_i h1;rw [if_neg h1];split at h
     ·rename_i h2;rw [if_pos h2];exact h
     ·rename_i h2;rw [if_neg h2];split at h
      ·cases h
      ·rename_i h3;rw [if_neg (by omega)];split at h
       ·cases h
       ·rename_i h4;rw [if_neg h4];split at h
        ·cases h
        ·rename_i vs s1 e1 hk;rw [Dc (ev':=fun s e t=>AB (f+1) s e t env) (fun s e t r=>ih.1 s e t env r) op env ks 0 s e _ hk];exact ih.2 _ _ _ _ h
  ·intro s e v r h;rw [headR] at h ⊢;by_cases h0:e≠0
   ·rw [if_pos h0] at h ⊢;exact h
   rw [if_neg h0] at h ⊢;by_cases h1:s<0\/1000000<s
   ·rw [if_pos h1] at h;cases h
   rw [if_neg h1] at h ⊢;by_cases h5:v.op=5
   ·rw [if_pos h5] at h ⊢;cases hk:v.k[0]? with
    | none=>rw [hk] at h;cases h
    | some k0 =>
     rw [hk] at h;simp only at h ⊢;by_cases h4:k0.op=4
     ·rw [if_pos h4] at h ⊢;by_cases hq:s+1<=1000
      ·rw [if_pos hq] at h ⊢;cases hc:k0.k[1]? with
       | none=>rw [hc] at h;cases h
       | some c =>
        cases hx:v.k[1]? with
        | none=>rw [hc,hx] at h;cases h
        | some x =>
         rw [hc,hx] at h;simp only at h ⊢;by_cases hl:900000<c.env.length
         ·rw [if_pos hl] at h;cases h
         ·rw [if_neg hl] at h ⊢;exact ih.1 _ _ _ _ _ h
      ·rw [if_neg hq] at h ⊢;exact h
     ·rw [if_neg h4] at h ⊢;exact h
   rw [if_neg h5] at h ⊢;by_cases h89:v.op=8\/v.op=9
   ·rw [if_pos h89] at h ⊢;exact h
   rw [if_neg h89] at h ⊢;by_cases h30:v.op=30
   ·rw [if_pos h30] at h ⊢;exact h
   rw [if_neg h30] at h ⊢;by_cases h19:v.op=19
   ·rw [if_pos h19] at h ⊢;exact h
   rw [if_neg h19] at h ⊢;by_cases h13:v.op=13
   ·rw [if_pos h13] at h ⊢;cases hk0:v.k[0]? with
    | none=>rw [hk0] at h;cases h
    | some k0 =>
    cases hk1:v.k[1]? with
    | none=>rw [hk0,hk1] at h;cases h
    | some k1 =>
    cases hk2:v.k[2]? with
    | none=>rw [hk0,hk1,hk2] at h;cases h
    | some k2 =>
    cases hk3:v.k[3]? with
    | none=>rw [hk0,hk1,hk2,hk3] at h;cases h
    | some k3 =>
    rw [hk0,hk1,hk2,hk3] at h;simp only at h ⊢;by_cases h11:k3.op=11
    ·rw [if_pos h11] at h ⊢;exact h
    rw [if_neg h11] at h ⊢;by_cases h12:k3.op=12
    ·rw [if_pos h12] at h ⊢;by_cases hq:s+1<=1000
     ·rw [if_pos hq] at h ⊢;cases hx:k3.k[0]? with
      | none=>rw [hx] at h;cases h
      | some x =>
       rw [hx] at h;simp only at h ⊢;cases hd:headR f (s+1) 0 (.node 13 0 [k0,k1,k2,x]) with
       | none=>rw [hd] at h;cases h
       | some q =>
        obtain ⟨w,s2,e2⟩:=q;rw [hd] at h;rw [ih.2 _ _ _ _ hd];simp only at h ⊢;by_cases hl:900000<k2.env.length
        ·rw [if_pos hl] at h;cases h
        ·rw [if_neg hl] at h ⊢;exact ih.1 _ _ _ _ _ h
     ·rw [if_neg hq] at h ⊢;exact h
    ·rw [if_neg h12] at h ⊢;exact h
   rw [if_neg h13] at h ⊢;exact h
theorem BZ {f g:Nat} (hfg:f<=g) {s e:Int} {t:Tm} {env:List RV} {r:RV×Int×Int} (h:AB f s e t env=some r):AB g s e t env=some r:=by
 induction hfg with
 | refl=>exact h
 | step _ ih=>exact (Rn _).1 _ _ _ _ _ ih
theorem SD {f g:Nat} (hfg:f<=g) {s e:Int} {v:RV} {r:RV×Int×Int} (h:headR f s e v=some r):headR g s e v=some r:=by
 induction hfg with
 | refl=>exact h
 | step _ ih=>exact (Rn _).2 _ _ _ _ ih
def ar (op:Int):Option Nat :=
 if op=0\/op=1\/op=2\/op=10\/op=11\/op=14\/op=15\/op=25 then some 0
 else if op=8\/op=9\/op=12\/op=18\/op=19\/op=23\/op=24\/op=30 then some 1
 else if op=3\/op=4\/op=5\/op=6\/op=16\/op=17\/op=20\/op=21\/op=22\/op=26\/op=28\/op=29 then some 2
 else if op=7\/op=27 then some 3 else if op=13 then some 4 else none
def BJ (op n:Int):Prop:=if op=2 then 0<=n/\n<=2 else if op=26 then 0<=n/\n<=4 else if op=25 then -2305843009213693952<=n/\n<=2305843009213693952 else n=0
mutual
def Tm.sc:Tm->Nat->Prop
 | .mk op n ks,k=>ar op=some ks.length/\(if op=1 then 0<=n/\n<k else BJ op n)/\Tm.scL op 0 ks k
def Tm.scL:Int->Nat->List Tm->Nat->Prop
 | _,_,[],_=>True
 | op,i,t::l,k=>t.sc (k+Ae op i)/\Tm.scL op (i+1) l k
end
mutual
def Tm.bd:Tm->Nat
 | .mk op _ ks=>Tm.bdL op 0 ks
def Tm.bdL:Int->Nat->List Tm->Nat
 | _,_,[]=>0
 | op,i,t::l=>max (Ae op i+t.bd) (Tm.bdL op (i+1) l)
end
section
variable (k0 D:Nat) (L:Int)
mutual
def RV.ok:RV->Prop
 | .mk op n k _ _=>if op=1 then -(k0:Int)<=n/\n<L/\k=[] else ar op=some k.length/\BJ op n/\RV.okL op 0 k
def RV.okL:Int->Nat->List RV->Prop
 | _,_,[]=>True
 | op,i,v::l=>(if 0<Ae op i then RV.okC (Ae op i) v else RV.ok v)/\RV.okL op (i+1) l
def RV.okC:Nat->RV->Prop
 | b,.mk _ _ _ env bd=>RV.okE env/\bd.sc (k0+env.length+b)/\env.length+b+bd.bd<=D
def RV.okE:List RV->Prop
 | []=>True
 | v::l=>RV.ok v/\RV.okE l
end
end
end Idl
end Go.Proofs.Ytkfecngimlcfoaa
namespace Go.Proofs.Ytkfecngimlcfoaa
namespace Idl
theorem WJ {op:Int} {n:Nat} (h:ar op=some n):n<=4:=by
 unfold ar at h
 repeat' split at h
 all_goals first | (simp only [AB5] at h;omega) | cases h
section
variable {k0 D:Nat} {L:Int}
theorem AfX:∀{l:List RV},RV.okE k0 D L l->∀{i:Nat} {v:RV},l[i]?=some v->RV.ok k0 D L v
 | [],_,i,v,h=>by simp at h
 | a::l,ho,i,v,h=>by
  rw [RV.okE] at ho;cases i with
  | zero=>simp at h;subst h;exact ho.1
  | succ i=>simp at h;exact AfX ho.2 h
theorem Lc:∀{l l':List RV},RV.okE k0 D L l->RV.okE k0 D L l'->RV.okE k0 D L (l++l')
 | [],l',_,h=>h
 | a::l,l',h,h'=>by
  rw [RV.okE] at h;rw [List.cons_append,RV.okE];exact ⟨h.1,Lc h.2 h'⟩
theorem TC {v:RV} (h:RV.ok k0 D L v):RV.okE k0 D L [v]:=by rw [RV.okE,RV.okE];exact ⟨h,trivial⟩
theorem Apr {v w:RV} (h:RV.ok k0 D L v) (h':RV.ok k0 D L w):RV.okE k0 D L [v,w]:=by rw [RV.okE];exact ⟨h,TC h'⟩
theorem LY:∀{l:List RV} {op:Int} {i:Nat},RV.okL k0 D L op i l->∀{j:Nat} {v:RV},l[j]?=some v->(if 0<Ae op (i+j) then RV.okC k0 D L (Ae op (i+j)) v else RV.ok k0 D L v)
 | [],op,i,_,j,v,h=>by simp at h
 | a::l,op,i,ho,j,v,h=>by
  rw [RV.okL] at ho;cases j with
  | zero=>simp at h;subst h;exact ho.1
  | succ j =>
   simp at h
   have:=LY ho.2 h
   rw [show i+1+j=i+(j+1) by omega] at this
   exact this
theorem Aak {op n:Int} {k:List RV} (h1:op≠1) (ha:ar op=some k.length) (hn:BJ op n) (hk:RV.okL k0 D L op 0 k):RV.ok k0 D L (.node op n k):=by
 rw [RV.node,RV.ok,if_neg h1];exact ⟨ha,hn,hk⟩
theorem FC {v:RV} (h:RV.ok k0 D L v) (h1:v.op≠1):ar v.op=some v.k.length/\BJ v.op v.n/\RV.okL k0 D L v.op 0 v.k:=by
 obtain ⟨op,n,k,env,b⟩:=v;rw [RV.ok] at h;have h1:op≠1:=h1;rw [if_neg h1] at h;exact h
theorem S4:RV.ok k0 D L .zero:=by
 rw [RV.zero,RV.ok,if_neg (by decide)];exact ⟨by decide,by simp [BJ],by rw [RV.okL];trivial⟩
theorem FU {v:RV} (h:RV.ok k0 D L v) (h1:v.op≠1) {j:Nat} (hj:j<v.k.length) (hb:Ae v.op j=0):∃w,v.k[j]?=some w/\RV.ok k0 D L w:=by
 obtain ⟨_,_,hl⟩:=FC h h1;refine ⟨v.k[j],List.getElem?_eq_getElem hj,?_⟩
 have:=LY hl (List.getElem?_eq_getElem hj)
 rw [Nat.zero_add,if_neg (by omega)] at this;exact this
theorem Xc {v:RV} (h:RV.ok k0 D L v) (h1:v.op≠1) {j:Nat} (hj:j<v.k.length) (hb:0<Ae v.op j):∃w,v.k[j]?=some w/\RV.okE k0 D L w.env/\w.b.sc (k0+w.env.length+Ae v.op j)/\w.env.length+Ae v.op j+w.b.bd<=D:=by
 obtain ⟨_,_,hl⟩:=FC h h1;refine ⟨v.k[j],List.getElem?_eq_getElem hj,?_⟩
 have:=LY hl (List.getElem?_eq_getElem hj)
 rw [Nat.zero_add,if_pos hb] at this;generalize v.k[j]=w at this ⊢;obtain ⟨op,n,k,env,b⟩:=w;rw [RV.okC] at this;exact this
def Ts (s s' e':Int):Prop:=s<=s'/\(e'=0/\s'<=1000\/e'=17/\s'=1001)
def Ai5 (k0 D:Nat) (L:Int) (c:Nat):Prop:=∀(v:RV) (s:Int),v.op≠1->RV.ok k0 D L v->0<=s->s<=1000->1000<=s+c->∃f w s' e',headR f s 0 v=some (w,s',e')/\RV.ok k0 D L w/\Ts s s' e'
def AtP (k0 D:Nat) (L:Int) (c:Nat):Prop:=∀(t:Tm) (env:List RV) (s:Int),RV.okE k0 D L env->t.sc (k0+env.length)->env.length+t.bd<=D->0<=s->s<=1000->1000<=s+c->∃f v s' e',AB f s 0 t env=some (v,s',e')/\RV.ok k0 D L v/\Ts s s' e'
theorem Pr (s e:Int) (h:e≠0) (t:Tm) (env:List RV):AB 1 s e t env=some (.zero,s,e):=by
 obtain ⟨op,m,ks⟩:=t;rw [AB,if_pos h]
theorem AlW {c:Nat} (h:AtP k0 D L c) {t:Tm} {env:List RV} {s e:Int} (h1:RV.okE k0 D L env) (h2:t.sc (k0+env.length)) (h3:env.length+t.bd<=D) (h0:0<=s) (he:e=0/\s<=1000\/e=17/\s=1001) (hc:1000<=s+c) :
  ∃f v s' e',AB f s e t env=some (v,s',e')/\RV.ok k0 D L v/\Ts s s' e':=by
 rcases he with ⟨rfl,hs⟩ | ⟨rfl,hs⟩
 ·exact h t env s h1 h2 h3 h0 hs hc
 ·exact ⟨1,_,_,_,Pr s 17 (by decide) t env,S4,by omega,.inr ⟨rfl,hs⟩⟩
theorem RA (hD:D<=900000) (c:Nat) (he:∀c',c=c'+1->AtP k0 D L c') (hh:∀c',c=c'+1->Ai5 k0 D L c'):Ai5 k0 D L c:=by
 intro v s h1 ho hs0 hs1 hsc;obtain ⟨ha,hn,hl⟩:=FC ho h1;have stop:Ts s s 0:=⟨by omega,.inl ⟨rfl,hs1⟩⟩;by_cases h5:v.op=5
 ·have hlen:v.k.length=2:=by rw [h5] at ha;simpa [ar] using ha.symm
  obtain ⟨k0',hk0,ok0⟩:=FU ho h1 (j:=0) (by omega) (by rw [h5];rfl);obtain ⟨k1,hk1,ok1⟩:=FU ho h1 (j:=1) (by omega) (by rw [h5];rfl);by_cases h4:k0'.op=4
  ·by_cases hq:s+1<=1000
   ·obtain ⟨c',rfl⟩:∃c',c=c'+1:=⟨c - 1,by omega⟩;obtain ⟨ha4,_,_⟩:=FC ok0 (by omega);have hlen4:k0'.k.length=2:=by rw [h4] at ha4;simpa [ar] using ha4.symm
    obtain ⟨w,hw,w1,w2,w3⟩:=Xc ok0 (by omega) (j:=1) (by omega) (by rw [h4];decide);have hb1:Ae k0'.op 1=1:=by rw [h4];rfl
    rw [hb1] at w2 w3;obtain ⟨f,x,s',e',hx,hxo,hxe⟩:=he c' rfl w.b (w.env++[k1]) (s+1) (Lc w1 (TC ok1)) (by simpa [Nat.add_assoc] using w2) (by simp;omega) (by omega) hq (by omega);refine ⟨f+1,x,s',e',?_,hxo,?_⟩
    ·rw [headR,if_neg (by decide),if_neg (by omega),if_pos h5,hk0];simp only [h4,hq,hw,hk1,if_true];rw [if_neg (by omega)];exact hx
    ·exact ⟨by have:=hxe.1;omega,hxe.2⟩
   ·refine ⟨1,v,s+1,17,?_,ho,by omega,.inr ⟨rfl,by omega⟩⟩;rw [headR,if_neg (by decide),if_neg (by omega),if_pos h5,hk0];simp only [h4,hq,if_true,if_false]
  ·refine ⟨1,v,s,0,?_,ho,stop⟩;rw [headR,if_neg (by decide),if_neg (by omega),if_pos h5,hk0];simp only [h4,if_false]
 by_cases h89:v.op=8\/v.op=9
 ·have hlen:v.k.length=1:=by rcases h89 with h | h<;>(rw [h] at ha;simpa [ar] using ha.symm)
  obtain ⟨k0',hk0,ok0⟩:=FU ho h1 (j:=0) (by omega) (by rcases h89 with h | h<;>(rw [h];rfl));by_cases h7:k0'.op=7
  ·by_cases hq:s+1<=1000
   ·obtain ⟨ha7,_,_⟩:=FC ok0 (by omega);have hlen7:k0'.k.length=3:=by rw [h7] at ha7;simpa [ar] using ha7.symm
    obtain ⟨x,hx,okx⟩:=FU ok0 (by omega) (j:=(1+v.op - 8).toNat) (by omega) (by rw [h7];rcases h89 with h | h<;>(rw [h];rfl));refine ⟨1,x,s+1,0,?_,okx,by omega,.inl ⟨rfl,hq⟩⟩;rw [headR,if_neg (by decide),if_neg (by omega),if_neg h5,if_pos h89,hk0];simp only [h7,hq,if_true,hx,AB8]
   ·refine ⟨1,v,s+1,17,?_,ho,by omega,.inr ⟨rfl,by omega⟩⟩;rw [headR,if_neg (by decide),if_neg (by omega),if_neg h5,if_pos h89,hk0];simp only [h7,hq,if_true,if_false]
  ·refine ⟨1,v,s,0,?_,ho,stop⟩;rw [headR,if_neg (by decide),if_neg (by omega),if_neg h5,if_pos h89,hk0];simp only [h7,if_false]
 by_cases h30:v.op=30
 ·have hlen:v.k.length=1:=by rw [h30] at ha;simpa [ar] using ha.symm
  obtain ⟨k0',hk0,ok0⟩:=FU ho h1 (j:=0) (by omega) (by rw [h30];rfl);by_cases h7:k0'.op=19
  ·by_cases hq:s+1<=1000
   ·obtain ⟨ha7,_,_⟩:=FC ok0 (by omega);have hlen7:k0'.k.length=1:=by rw [h7] at ha7;simpa [ar] using ha7.symm
    obtain ⟨x,hx,okx⟩:=FU ok0 (by omega) (j:=0) (by omega) (by rw [h7];rfl);refine ⟨1,x,s+1,0,?_,okx,by omega,.inl ⟨rfl,hq⟩⟩;rw [headR,if_neg (by decide),if_neg (by omega),if_neg h5,if_neg h89,if_pos h30,hk0];simp only [h7,hq,if_true,hx,AB8]
   ·refine ⟨1,v,s+1,17,?_,ho,by omega,.inr ⟨rfl,by omega⟩⟩;rw [headR,if_neg (by decide),if_neg (by omega),if_neg h5,if_neg h89,if_pos h30,hk0];simp only [h7,hq,if_true,if_false]
  ·refine ⟨1,v,s,0,?_,ho,stop⟩;rw [headR,if_neg (by decide),if_neg (by omega),if_neg h5,if_neg h89,if_pos h30,hk0];simp only [h7,if_false]
 by_cases h19:v.op=19
 ·have hlen:v.k.length=1:=by rw [h19] at ha;simpa [ar] using ha.symm
  obtain ⟨k0',hk0,ok0⟩:=FU ho h1 (j:=0) (by omega) (by rw [h19];rfl);by_cases h7:k0'.op=30
  ·by_cases hq:s+1<=1000
   ·obtain ⟨ha7,_,_⟩:=FC ok0 (by omega);have hlen7:k0'.k.length=1:=by rw [h7] at ha7;simpa [ar] using ha7.symm
    obtain ⟨x,hx,okx⟩:=FU ok0 (by omega) (j:=0) (by omega) (by rw [h7];rfl);refine ⟨1,x,s+1,0,?_,okx,by omega,.inl ⟨rfl,hq⟩⟩;rw [headR,if_neg (by decide),if_neg (by omega),if_neg h5,if_neg h89,if_neg h30,if_pos h19,hk0];simp only [h7,hq,if_true,hx,AB8]
   ·refine ⟨1,v,s+1,17,?_,ho,by omega,.inr ⟨rfl,by omega⟩⟩;rw [headR,if_neg (by decide),if_neg (by omega),if_neg h5,if_neg h89,if_neg h30,if_pos h19,hk0];simp only [h7,hq,if_true,if_false]
  ·refine ⟨1,v,s,0,?_,ho,stop⟩;rw [headR,if_neg (by decide),if_neg (by omega),if_neg h5,if_neg h89,if_neg h30,if_pos h19,hk0];simp only [h7,if_false]
 by_cases h13:v.op=13
 ·have hlen:v.k.length=4:=by rw [h13] at ha;simpa [ar] using ha.symm
  obtain ⟨a0,hk0,c0⟩:=Xc ho h1 (j:=0) (by omega) (by rw [h13];decide);obtain ⟨a1,hk1,ok1⟩:=FU ho h1 (j:=1) (by omega) (by rw [h13];rfl);obtain ⟨a2,hk2,w1,w2,w3⟩:=Xc ho h1 (j:=2) (by omega) (by rw [h13];decide);obtain ⟨a3,hk3,ok3⟩:=FU ho h1 (j:=3) (by omega) (by rw [h13];rfl);have hb2:Ae v.op 2=2:=by rw [h13];rfl
  rw [hb2] at w2 w3;by_cases h11:a3.op=11
  ·by_cases hq:s+1<=1000
   ·refine ⟨1,a1,s+1,0,?_,ok1,by omega,.inl ⟨rfl,hq⟩⟩;rw [headR,if_neg (by decide),if_neg (by omega),if_neg h5,if_neg h89,if_neg h30,if_neg h19,if_pos h13,hk0,hk1,hk2,hk3];simp only [h11,hq,if_true]
   ·refine ⟨1,v,s+1,17,?_,ho,by omega,.inr ⟨rfl,by omega⟩⟩;rw [headR,if_neg (by decide),if_neg (by omega),if_neg h5,if_neg h89,if_neg h30,if_neg h19,if_pos h13,hk0,hk1,hk2,hk3];simp only [h11,hq,if_true,if_false]
  by_cases h12:a3.op=12
  ·by_cases hq:s+1<=1000
   ·obtain ⟨c',rfl⟩:∃c',c=c'+1:=⟨c - 1,by omega⟩;obtain ⟨ha12,_,_⟩:=FC ok3 (by omega);have hlen12:a3.k.length=1:=by rw [h12] at ha12;simpa [ar] using ha12.symm
    obtain ⟨x,hx,okx⟩:=FU ok3 (by omega) (j:=0) (by omega) (by rw [h12];rfl);have hrec:RV.ok k0 D L (.node 13 0 [a0,a1,a2,x]):=by
     refine Aak (by decide) rfl (by simp [BJ]) ?_;have e0:=LY hl hk0;have e2:=LY hl hk2;rw [h13] at e0 e2;simp only [RV.okL];exact ⟨e0,ok1,e2,okx,trivial⟩
    obtain ⟨f,h,s2,e2,hd,hdo,hde⟩:=hh c' rfl _ (s+1) (by simp [RV.node,RV.op]) hrec (by omega) hq (by omega);obtain ⟨g,y,s3,e3,hy,hyo,hye⟩:=AlW (he c' rfl) (t:=a2.b) (env:=a2.env++[x,h]) (s:=s2) (e:=e2) (Lc w1 (Apr okx hdo)) (by simpa [Nat.add_assoc] using w2) (by simp;omega) (by have:=hde.1;omega) hde.2 (by have:=hde.1;omega);refine ⟨f+g+1,y,s3,e3,?_,hyo,by have:=hde.1;have:=hye.1;omega,hye.2⟩;rw [headR,if_neg (by decide),if_neg (by omega),if_neg h5,if_neg h89,if_neg h30,if_neg h19,if_pos h13,hk0,hk1,hk2,hk3];simp only [h12,hq,if_true,hx,SD (show f<=f+g by omega) hd]
    rw [if_neg (by decide),if_neg (by omega)];exact BZ (by omega) hy
   ·refine ⟨1,v,s+1,17,?_,ho,by omega,.inr ⟨rfl,by omega⟩⟩;rw [headR,if_neg (by decide),if_neg (by omega),if_neg h5,if_neg h89,if_neg h30,if_neg h19,if_pos h13,hk0,hk1,hk2,hk3];simp only [h12,hq,if_true,if_false];rw [if_neg (by decide)]
  ·refine ⟨1,v,s,0,?_,ho,stop⟩;rw [headR,if_neg (by decide),if_neg (by omega),if_neg h5,if_neg h89,if_neg h30,if_neg h19,if_pos h13,hk0,hk1,hk2,hk3];simp only [h11,h12,if_false]
 ·refine ⟨1,v,s,0,?_,ho,stop⟩;rw [headR,if_neg (by decide),if_neg (by omega),if_neg h5,if_neg h89,if_neg h30,if_neg h19,if_neg h13]
end
section
variable {k0 D:Nat} {L:Int}
theorem PH {c:Nat} {env:List RV} (henv:RV.okE k0 D L env) (op:Int):∀(l:List Tm) (i:Nat) (s e:Int),
  (∀t∈l,∀s:Int,t.sc (k0+env.length)->env.length+t.bd<=D->0<=s->s<=1000->1000<=s+c->∃f v s' e',AB f s 0 t env=some (v,s',e')/\RV.ok k0 D L v/\Ts s s' e') ->
  Tm.scL op i l (k0+env.length)->env.length+Tm.bdL op i l<=D->0<=s->(e=0/\s<=1000\/e=17/\s=1001)->1000<=s+c ->
  ∃f vs s' e',AW (fun s e t=>AB f s e t env) op env i l s e=some (vs,s',e')/\RV.okL k0 D L op i vs/\vs.length=l.length/\Ts s s' e'
 | [],i,s,e,_,_,_,h0,he,_=>⟨0,[],s,e,rfl,by rw [RV.okL];trivial,rfl,by omega,he⟩
 | t::l,i,s,e,hev,hsc,hbd,h0,he,hc=>by
  rw [Tm.scL] at hsc;rw [Tm.bdL] at hbd;by_cases hb:0<Ae op i
  ·obtain ⟨f,vs,s',e',hk,hok,hlen,hend⟩:=PH henv op l (i+1) s e (fun u hu=>hev u (List.mem_cons_of_mem _ hu)) hsc.2 (by omega) h0 he hc;refine ⟨f,.clo env t::vs,s',e',?_,?_,by simp [hlen],hend⟩
   ·rw [AW,if_pos hb,hk];rfl
   ·rw [RV.okL,if_pos hb,RV.clo,RV.okC];exact ⟨⟨henv,hsc.1,by omega⟩,hok⟩
  ·have hb0:Ae op i=0:=by omega
   rw [hb0] at hsc hbd;have h1:∃f v s' e',AB f s e t env=some (v,s',e')/\RV.ok k0 D L v/\Ts s s' e':=by
    rcases he with ⟨rfl,hs⟩ | ⟨rfl,hs⟩
    ·exact hev t List.mem_cons_self s (by simpa using hsc.1) (by omega) h0 hs hc
    ·exact ⟨1,_,_,_,Pr s 17 (by decide) t env,S4,by omega,.inr ⟨rfl,hs⟩⟩
   obtain ⟨f,v,s1,e1,hv,hvo,hve⟩:=h1;obtain ⟨g,vs,s',e',hk,hok,hlen,hend⟩:=PH henv op l (i+1) s1 e1 (fun u hu=>hev u (List.mem_cons_of_mem _ hu)) hsc.2 (by omega) (by have:=hve.1;omega) hve.2 (by have:=hve.1;omega);refine ⟨f+g,v::vs,s',e',?_,?_,by simp [hlen],by have:=hve.1;have:=hend.1;omega,hend.2⟩
   ·rw [AW,if_neg hb];simp only [BZ (show f<=f+g by omega) hv]
    rw [Dc (ev:=fun s e t=>AB g s e t env) (fun s e t r h=>BZ (by omega) h) op env l (i+1) s1 e1 _ hk];rfl
   ·rw [RV.okL,if_neg hb];exact ⟨hvo,hok⟩
theorem Rr (hD:D<=900000) (hL:0<=L) (hk0:k0<=900000) {c:Nat} (hh:Ai5 k0 D L c):∀(m:Nat) (t:Tm) (env:List RV) (s:Int),t.wt<m->RV.okE k0 D L env->t.sc (k0+env.length)->env.length+t.bd<=D->0<=s->s<=1000->1000<=s+c ->
  ∃f v s' e',AB f s 0 t env=some (v,s',e')/\RV.ok k0 D L v/\Ts s s' e':=by
 intro m
 induction m with
 | zero=>intro t env s h;omega
 | succ m ih =>
  intro t env s hw henv hsc hbd h0 h1 hc;obtain ⟨op,n,ks⟩:=t;rw [Tm.sc] at hsc;rw [Tm.bd] at hbd;simp only [Tm.wt] at hw;by_cases hop:op=1
  ·subst hop;rw [if_pos rfl] at hsc;have hkl:ks=[]:=by
    have:=hsc.1
    simp [ar] at this;exact List.length_eq_zero_iff.1 this.symm
   by_cases hm:n<env.length
   ·have hlt:((env.length:Int) - 1 - n).toNat<env.length:=by omega
    refine ⟨1,env[((env.length:Int) - 1 - n).toNat],s,0,?_,AfX henv (List.getElem?_eq_getElem hlt),by omega,.inl ⟨rfl,h1⟩⟩;rw [AB,if_neg (by decide),if_neg (by omega),if_pos rfl,if_pos hm,if_pos hsc.2.1.1,List.getElem?_eq_getElem hlt];rfl
   ·refine ⟨1,.var (env.length - 1 - n),s,0,?_,?_,by omega,.inl ⟨rfl,h1⟩⟩
    ·rw [AB,if_neg (by decide),if_neg (by omega),if_pos rfl,if_neg hm,if_pos (by have:=hsc.2.1.2;omega)]
    ·rw [RV.var,RV.ok,if_pos rfl]
     have:=hsc.2.1.2
     exact ⟨by omega,by omega,rfl⟩
  ·rw [if_neg hop] at hsc;obtain ⟨f,vs,s1,e1,hk,hok,hlen,hend⟩:=PH (c:=c) henv op ks 0 s 0 (fun t ht s=>fun a b c' d e=>ih t env s (by have:=CT ht;omega) henv a b c' d e) hsc.2.2 hbd h0 (.inl ⟨rfl,h1⟩) hc;have hnode:RV.ok k0 D L (.node op n vs):=Aak hop (by rw [hlen];exact hsc.1) hsc.2.1 hok;have har:=WJ hsc.1;have h2:∃g w s' e',headR g s1 e1 (.node op n vs)=some (w,s',e')/\RV.ok k0 D L w/\Ts s1 s' e':=by
    rcases hend.2 with ⟨he,hs⟩ | ⟨he,hs⟩
    ·subst he;exact hh _ s1 (by simpa [RV.node,RV.op] using hop) hnode (by have:=hend.1;omega) hs (by have:=hend.1;omega)
    ·subst he;refine ⟨1,_,s1,17,by rw [headR,if_pos (by decide)],hnode,by omega,.inr ⟨rfl,hs⟩⟩
   obtain ⟨g,w,s',e',hw2,hwo,hwe⟩:=h2;refine ⟨f+g+5+1,w,s',e',?_,hwo,by have:=hend.1;have:=hwe.1;omega,hwe.2⟩;rw [AB,if_neg (by decide),if_neg (by omega),if_neg hop,if_neg (by omega),if_neg (by omega)];rw [Dc (ev:=fun s e t=>AB f s e t env) (fun s e t r h=>BZ (by omega) h) op env ks 0 s 0 _ hk];exact SD (by omega) hw2
theorem tot (hD:D<=900000) (hL:0<=L) (hk0:k0<=900000):∀c,Ai5 k0 D L c/\AtP k0 D L c:=by
 intro c
 induction c with
 | zero =>
  have hH:Ai5 k0 D L 0:=RA hD 0 (fun c' h=>by omega) (fun c' h=>by omega);exact ⟨hH,fun t env s a b c d e f=>Rr hD hL hk0 hH (t.wt+1) t env s (by omega) a b c d e f⟩
 | succ c ih =>
  have hH:Ai5 k0 D L (c+1):=RA hD (c+1) (fun c' h=>by cases h;exact ih.2) (fun c' h=>by cases h;exact ih.1);exact ⟨hH,fun t env s a b c d e f=>Rr hD hL hk0 hH (t.wt+1) t env s (by omega) a b c d e f⟩
end
section
variable {k0 D:Nat} {L L':Int}
mutual
theorem Sj (h:L<=L'):∀v:RV,RV.ok k0 D L v->RV.ok k0 D L' v
 | .mk op n k env b,hv=>by
  rw [RV.ok] at hv ⊢;by_cases h1:op=1
  ·rw [if_pos h1] at hv ⊢;exact ⟨hv.1,by omega,hv.2.2⟩
  ·rw [if_neg h1] at hv ⊢;exact ⟨hv.1,hv.2.1,okL_mono h k op 0 hv.2.2⟩
theorem okL_mono (h:L<=L'):∀(l:List RV) (op:Int) (i:Nat),RV.okL k0 D L op i l->RV.okL k0 D L' op i l
 | [],op,i,_=>by rw [RV.okL];trivial
 | v::l,op,i,hv=>by
  rw [RV.okL] at hv ⊢;refine ⟨?_,okL_mono h l op (i+1) hv.2⟩;by_cases hb:0<Ae op i
  ·rw [if_pos hb]
   have:=hv.1
   rw [if_pos hb] at this;exact okC_mono h v (Ae op i) this
  ·rw [if_neg hb]
   have:=hv.1
   rw [if_neg hb] at this;exact Sj h v this
theorem okC_mono (h:L<=L'):∀(v:RV) (b:Nat),RV.okC k0 D L b v->RV.okC k0 D L' b v
 | .mk op n k env bd,b,hv=>by
  rw [RV.okC] at hv ⊢;exact ⟨okE_mono h env hv.1,hv.2⟩
theorem okE_mono (h:L<=L'):∀(l:List RV),RV.okE k0 D L l->RV.okE k0 D L' l
 | [],_=>by rw [RV.okE];trivial
 | v::l,hv=>by
  rw [RV.okE] at hv ⊢;exact ⟨Sj h v hv.1,okE_mono h l hv.2⟩
end
theorem Als (u:Nat):∀b:Nat,RV.okE k0 D ((u+b:Nat):Int) (Fo u b)
 | 0=>by simp only [Fo,List.range_zero,ACa];rw [RV.okE];trivial
 | b+1=>by
  rw [L9];refine Lc (okE_mono (by omega) _ (Als u b)) (TC ?_);rw [RV.var,RV.ok,if_pos rfl];exact ⟨by omega,by omega,rfl⟩
end
theorem Er {f g:Nat} (hfg:f<=g) {rd rd':Int->Int->Int->RV->Int->Option (Tm×Int×Int×Int)} (h:∀s nd e k u r,rd s nd e k u=some r->rd' s nd e k u=some r) (op u:Int):∀(l:List RV) (i:Nat) (s nd e:Int) (r:List Tm×Int×Int×Int),
  Ba rd f op u i l s nd e=some r->Ba rd' g op u i l s nd e=some r
 | [],i,s,nd,e,r,hr=>hr
 | k::l,i,s,nd,e,r,hr=>by
  simp only [Ba] at hr ⊢;have key:∀q,(if 0<Ae op i then (if 900000<k.env.length then none else AB f s e k.b (k.env++Fo u (Ae op i))) else some (k,s,e))=some q ->
    (if 0<Ae op i then (if 900000<k.env.length then none else AB g s e k.b (k.env++Fo u (Ae op i))) else some (k,s,e))=some q:=by
   intro q hq;by_cases hb:0<Ae op i
   ·rw [if_pos hb] at hq ⊢;by_cases hl:900000<k.env.length
    ·rw [if_pos hl] at hq;cases hq
    ·rw [if_neg hl] at hq ⊢;exact BZ hfg hq
   ·rw [if_neg hb] at hq ⊢;exact hq
  cases hq:(if 0<Ae op i then (if 900000<k.env.length then none else AB f s e k.b (k.env++Fo u (Ae op i))) else some (k,s,e)) with
  | none=>rw [hq] at hr;cases hr
  | some q =>
   rw [key q hq];rw [hq] at hr;obtain ⟨y,s1,e1⟩:=q;simp only at hr ⊢;cases hd:rd s1 nd e1 y (u+Ae op i) with
   | none=>rw [hd] at hr;cases hr
   | some q =>
    obtain ⟨t,s2,nd2,e2⟩:=q;rw [hd] at hr;rw [h _ _ _ _ _ _ hd];simp only at hr ⊢;cases hk:Ba rd f op u (i+1) l s2 nd2 e2 with
    | none=>rw [hk] at hr;cases hr
    | some q=>rw [hk] at hr;rw [Er hfg h op u l (i+1) s2 nd2 e2 q hk];exact hr
theorem AiE:∀f s nd e v u d r,AL f s nd e v u d=some r->AL (f+1) s nd e v u d=some r:=by
 intro f
 induction f with
 | zero=>intro s nd e v u d r h;rw [AL] at h;cases h
 | succ f ih =>
  intro s nd e v u d r h;rw [AL] at h ⊢;by_cases hbad:nd<0\/1000000<nd\/u<0\/1000000<u\/d<0\/1000000<d\/v.n < -2305843009213693952\/2305843009213693952<v.n\/f<=v.k.length\/900000<v.k.length\/f<=3
  ·rw [if_pos hbad] at h;cases h
  ·rw [if_neg hbad] at h;rw [if_neg (by omega)];generalize (if e=0/\(3000<nd+1\/120<d) then (5:Int) else e)=e1 at h ⊢;by_cases he:e1≠0
   ·rw [if_pos he] at h ⊢;exact h
   ·rw [if_neg he] at h ⊢;by_cases h1:v.op=1
    ·rw [if_pos h1] at h ⊢;exact h
    ·rw [if_neg h1] at h ⊢;cases hk:Ba (fun s nd e k u=>AL f s nd e k u (d+1)) f v.op u 0 v.k s (nd+1) 0 with
     | none=>rw [hk] at h;cases h
     | some q =>
      rw [hk] at h;rw [Er (g:=f+1) (rd':=fun s nd e k u=>AL (f+1) s nd e k u (d+1)) (by omega) (fun s nd e k u r hr=>ih _ _ _ _ _ _ _ hr) v.op u v.k 0 s (nd+1) 0 q hk];exact h
theorem D0 {f g:Nat} (hfg:f<=g) {s nd e u d:Int} {v:RV} {r:Tm×Int×Int×Int} (h:AL f s nd e v u d=some r):AL g s nd e v u d=some r:=by
 induction hfg with
 | refl=>exact h
 | step _ ih=>exact AiE _ _ _ _ _ _ _ _ ih
mutual
def Tm.dp:Tm->Nat
 | .mk _ _ ks=>1+Tm.dpL ks
def Tm.dpL:List Tm->Nat
 | []=>0
 | t::l=>max t.dp (Tm.dpL l)
end
def MSt (s e:Int):Prop:=0<=s/\(e=0/\s<=1000\/e=17/\s=1001\/e=5/\s<=1001)
theorem Al2 {op n:Int} (h:BJ op n):-2305843009213693952<=n/\n<=2305843009213693952:=by
 unfold BJ at h
 repeat' split at h
 all_goals omega
def Red (k0:Nat) (u d:Nat) (nd:Int) (t:Tm) (s' nd' e':Int):Prop :=
 MSt s' e'/\(e'=0->nd'<=3000/\t.sc (k0+u)/\(t.wt:Int)=nd' - nd/\t.dp+d<=121)/\nd'<=3001+3 * (121 - (d:Int))/\nd<=nd'
section
variable {k0 D:Nat}
theorem VB (s nd e u d:Int) (v:RV) (he:e≠0) (h1:0<=nd) (h2:nd<=1000000) (h3:0<=u) (h4:u<=1000000) (h5:0<=d) (h6:d<=1000000) (h7:-2305843009213693952<=v.n) (h8:v.n<=2305843009213693952) (h9:v.k.length<=900000) :
  AL (v.k.length+10) s nd e v u d=some (.z,s,nd+1,e):=by
 rw [show v.k.length+10=(v.k.length+9)+1 by omega,AL,if_neg (by omega)]
 have:(if e=0/\(3000<nd+1\/120<d) then (5:Int) else e)=e:=if_neg (by omega)
 rw [this,if_pos he]
def AvH (k0 D c:Nat):Prop:=∀(v:RV) (s nd:Int) (u d:Nat),RV.ok k0 D u v->0<=s->s<=1000->0<=nd->nd<=3000->3001<=nd+c->u<=2 * d->1<=d->d<=121 ->
 ∃f t s' nd' e',AL f s nd 0 v u d=some (t,s',nd',e')/\Red k0 u d nd t s' nd' e'
theorem Qn {L:Int} {v:RV} (hL:L<=1000000) (hk:k0<=900000) (h:RV.ok k0 D L v):-2305843009213693952<=v.n/\v.n<=2305843009213693952/\v.k.length<=4:=by
 obtain ⟨op,n,k,env,b⟩:=v;rw [RV.ok] at h;by_cases h1:op=1
 ·rw [if_pos h1] at h;refine ⟨?_,?_,?_⟩
  ·show _<=n;omega
  ·show n<=_;omega
  ·show k.length<=4;rw [h.2.2];simp
 ·rw [if_neg h1] at h
  have:=Al2 h.2.1
  exact ⟨this.1,this.2,WJ h.1⟩
theorem RG (hD:D<=800000) (hk:k0<=800000) {c:Nat} (hr:AvH k0 D c) (op:Int) (u d:Nat) (hu:u<=2 * d) (hd1:1<=d) (hd:d<=120):∀(l:List RV) (i:Nat) (s nd e:Int),RV.okL k0 D u op i l->MSt s e->0<=nd->nd+l.length<=5000->l.length<=4->(e=0->nd<=3000/\3001<=nd+c) ->
  ∃f ts s' nd' e',Ba (fun s nd e k u=>AL f s nd e k u ((d:Int)+1)) f op u i l s nd e=some (ts,s',nd',e')/\MSt s' e'/\nd<=nd' /\
   (e'=0->e=0/\nd'<=3000/\Tm.scL op i ts (k0+u)/\ts.length=l.length/\(Tm.wtL ts:Int)=nd' - nd/\Tm.dpL ts+d+1<=121) /\
   (e=0->nd'<=3000\/nd'+1<=3001+3 * (120 - (d:Int))+l.length)/\(e≠0->nd'=nd+l.length)
 | [],i,s,nd,e,_,hst,h0,h5,_,he=>by
  refine ⟨0,[],s,nd,e,rfl,hst,Int.le_refl _,fun h=>⟨h,(he h).1,by rw [Tm.scL];trivial,rfl,by simp [Tm.wtL],by simp only [Tm.dpL];omega⟩,fun h=>.inl (he h).1,fun _=>by simp⟩
 | k::l,i,s,nd,e,hl,hst,h0,h5,hl4,he=>by
  rw [RV.okL] at hl;simp only [AB9] at hl4 h5;have hbl:=Bo op i;have h1:∃f y s1 e1,(if 0<Ae op i then (if 900000<k.env.length then none else AB f s e k.b (k.env++Fo u (Ae op i))) else some (k,s,e))=some (y,s1,e1)/\RV.ok k0 D ((u+Ae op i:Nat):Int) y/\MSt s1 e1/\(e≠0->e1≠0):=by
   by_cases hb:0<Ae op i
   ·have hc:=hl.1;rw [if_pos hb] at hc;have hce:RV.okE k0 D u k.env/\k.b.sc (k0+k.env.length+Ae op i)/\k.env.length+Ae op i+k.b.bd<=D:=by
     obtain ⟨_,_,_,env,b⟩:=k;rw [RV.okC] at hc;exact hc
    by_cases he0:e=0
    ·subst he0;have hs:s<=1000:=by rcases hst.2 with ⟨_,h⟩ | ⟨h,_⟩ | ⟨h,_⟩<;>omega
     obtain ⟨f,y,s1,e1,hy,hyo,hye⟩:=(tot (k0:=k0) (D:=D) (L:=((u+Ae op i:Nat):Int)) (by omega) (by omega) (by omega) 1000).2 k.b (k.env++Fo u (Ae op i)) s
      (Lc (okE_mono (by omega) _ hce.1) (Als u _)) (by rw [List.length_append,B1,<- Nat.add_assoc];exact hce.2.1) (by rw [List.length_append,B1];omega) hst.1 hs (by have:=hst.1;omega)
     refine ⟨f,y,s1,e1,?_,hyo,⟨by have:=hye.1;have:=hst.1;omega,?_⟩,fun h=>absurd rfl h⟩
     ·rw [if_pos hb,if_neg (by omega)];exact hy
     ·rcases hye.2 with h | h
      ·exact .inl h
      ·exact .inr (.inl h)
    ·refine ⟨1,.zero,s,e,?_,S4,hst,fun h=>h⟩;rw [if_pos hb,if_neg (by omega),Pr s e he0]
   ·have hc:=hl.1;rw [if_neg hb] at hc;refine ⟨0,k,s,e,by rw [if_neg hb],Sj (by omega) _ hc,hst,fun h=>h⟩
  obtain ⟨f1,y,s1,e1,hy,hyo,hst1,hee⟩:=h1;have hsm:=Qn (by omega) (by omega) hyo;have h2:∃f t s2 nd2 e2,AL f s1 nd e1 y ((u+Ae op i:Nat):Int) ((d:Int)+1)=some (t,s2,nd2,e2)/\MSt s2 e2/\nd<=nd2 /\
    (e2=0->e1=0/\nd2<=3000/\t.sc (k0+u+Ae op i)/\(t.wt:Int)=nd2 - nd/\t.dp+d+1<=121/\nd+1<=nd2)/\(e1=0->nd2<=3001+3 * (120 - (d:Int)))/\(e1≠0->nd2=nd+1):=by
   by_cases he1:e1=0
   ·subst he1;have he0:e=0:=Classical.byContradiction fun h=>hee h rfl;have hn:=he he0;have hs:s1<=1000:=by rcases hst1.2 with ⟨_,h⟩ | ⟨h,_⟩ | ⟨h,_⟩<;>omega
    obtain ⟨f,t,s2,nd2,e2,ht,hR⟩:=hr y s1 nd (u+Ae op i) (d+1) hyo hst1.1 hs h0 hn.1 hn.2 (by omega) (by omega) (by omega);refine ⟨f,t,s2,nd2,e2,by simpa using ht,hR.1,hR.2.2.2,fun h=>?_,fun _=>by have:=hR.2.2.1;omega,fun h=>absurd rfl h⟩
    have:=hR.2.1 h
    have hw:=Ez t;exact ⟨rfl,this.1,by rw [Nat.add_assoc];exact this.2.1,this.2.2.1,by omega,by omega⟩
   ·refine ⟨y.k.length+10,.z,s1,nd+1,e1,VB s1 nd e1 _ _ y he1 h0 (by omega) (by omega) (by omega) (by omega) (by omega) hsm.1 hsm.2.1 (by omega),hst1,by omega,fun h=>absurd h he1,fun h=>absurd h he1,fun _=>rfl⟩
  obtain ⟨f2,t,s2,nd2,e2,ht,hst2,hle,hok,hbd,her⟩:=h2;obtain ⟨f3,ts,s3,nd3,e3,hk3,hst3,hle3,hok3,hbd3,her3⟩:=RG hD hk hr op u d hu hd1 hd l (i+1) s2 nd2 e2 hl.2 hst2 (by omega) (by
    by_cases he1:e1=0
    ·have:=hbd he1;omega
    ·have:=her he1
     by_cases he0:e=0
     ·have:=(he he0).1;omega
     ·omega) (by omega) (fun h=>by
    have h2:=hok h;have he0:e=0:=Classical.byContradiction fun h'=>hee h' h2.1
    have:=he he0
    omega)
  refine ⟨f1+f2+f3,t::ts,s3,nd3,e3,?_,hst3,by omega,fun h=>?_,fun h=>?_,fun h=>?_⟩
  ·have hy':(if 0<Ae op i then (if 900000<k.env.length then none else AB (f1+f2+f3) s e k.b (k.env++Fo u (Ae op i))) else some (k,s,e))=some (y,s1,e1):=by
    by_cases hb:0<Ae op i
    ·rw [if_pos hb] at hy ⊢;by_cases hl:900000<k.env.length
     ·rw [if_pos hl] at hy;cases hy
     ·rw [if_neg hl] at hy ⊢;exact BZ (by omega) hy
    ·rw [if_neg hb] at hy ⊢;exact hy
   rw [Ba,hy'];simp only;rw [show (u:Int)+(Ae op i:Int)=((u+Ae op i:Nat):Int) by omega,D0 (show f2<=f1+f2+f3 by omega) ht]
   simp only;rw [Er (f:=f3) (rd:=fun s nd e k u=>AL f3 s nd e k u ((d:Int)+1)) (by omega) (fun s nd e k u r h=>D0 (by omega) h) op u l (i+1) s2 nd2 e2 _ hk3];rfl
  ·have h3:=hok3 h;have h2:=hok h3.1;have he0:e=0:=Classical.byContradiction fun h'=>hee h' h2.1;refine ⟨he0,h3.2.1,?_,by simp [h3.2.2.2.1],?_,?_⟩
   ·rw [Tm.scL];exact ⟨h2.2.2.1,h3.2.2.1⟩
   ·simp only [Tm.wtL];have:=h2.2.2.2.1;have:=h3.2.2.2.2.1;omega
   ·simp only [Tm.dpL];have:=h2.2.2.2.2.1;have:=h3.2.2.2.2.2;omega
  ·simp only [AB9];by_cases he1:e1=0
   ·by_cases he2:e2=0
    ·have:=hbd3 he2;omega
    ·have:=her3 he2;have:=hbd he1;omega
   ·have h6:=her he1;have h7:e2≠0:=fun h'=>he1 (hok h').1
    have:=her3 h7
    have:=(he h).1
    omega
  ·simp only [AB9];have he1:=hee h;have h7:e2≠0:=fun h'=>he1 (hok h').1
   have:=her3 h7
   have:=her he1
   omega
theorem Amw (hD:D<=800000) (hk:k0<=800000):∀c,AvH k0 D c:=by
 intro c
 induction c with
 | zero=>intro v s nd u d _ _ _ _ h1 h2;omega
 | succ c ih =>
  intro v s nd u d hv h0 hs hn0 hn hc hu hd1 hd;have hsm:=Qn (by omega) (by omega) hv;have hst:MSt s 0:=⟨h0,.inl ⟨rfl,hs⟩⟩;by_cases h3:3000<nd+1\/120<(d:Int)
  ·refine ⟨v.k.length+10,.z,s,nd+1,5,?_,⟨h0,.inr (.inr ⟨rfl,by omega⟩)⟩,(fun h=>absurd h (by decide)),by omega,by omega⟩;rw [show v.k.length+10=(v.k.length+9)+1 by omega,AL,if_neg (by omega)]
   have e5:(if (0:Int)=0/\(3000<nd+1\/120<(d:Int)) then (5:Int) else 0)=5:=if_pos ⟨rfl,h3⟩;rw [e5,if_pos (by decide)]
  ·have e5:(if (0:Int)=0/\(3000<nd+1\/120<(d:Int)) then (5:Int) else 0)=0:=if_neg (fun h=>h3 h.2);by_cases h1:v.op=1
   ·have hvn:-(k0:Int)<=v.n/\v.n<u:=by
     obtain ⟨op,n,k,env,b⟩:=v;have h1':op=1:=h1;rw [RV.ok,if_pos h1'] at hv;exact ⟨hv.1,hv.2.1⟩
    refine ⟨v.k.length+10,.mk 1 (u - 1 - v.n) [],s,nd+1,0,?_,hst,fun _=>⟨by omega,?_,by simp only [Tm.wt,Tm.wtL];omega,by simp only [Tm.dp,Tm.dpL];omega⟩,by omega,by omega⟩
    ·rw [show v.k.length+10=(v.k.length+9)+1 by omega,AL,if_neg (by omega),e5,if_neg (by decide),if_pos h1]
    ·rw [Tm.sc,if_pos rfl,Tm.scL];exact ⟨rfl,by omega,trivial⟩
   ·obtain ⟨ha,hnum,hl⟩:=FC hv h1;obtain ⟨f,ts,s',nd',e',hk2,hst',hle,hok,hbd,_⟩:=RG hD hk ih v.op u d hu hd1 (by omega) v.k 0 s (nd+1) 0 hl hst (by omega) (by omega) (by omega) (fun _=>by omega);refine ⟨f+v.k.length+10,.mk v.op v.n ts,s',nd',e',?_,hst',fun h=>?_,by have:=hbd rfl;omega,by omega⟩
    ·rw [show f+v.k.length+10=(f+v.k.length+9)+1 by omega,AL,if_neg (by omega),e5,if_neg (by decide),if_neg h1]
     rw [Er (f:=f) (rd:=fun s nd e k u=>AL f s nd e k u ((d:Int)+1)) (by omega) (fun s nd e k u r h=>D0 (by omega) h) v.op u v.k 0 s (nd+1) 0 _ hk2];rfl
    ·have:=hok h
     refine ⟨this.2.1,?_,?_,?_⟩
     ·rw [Tm.sc,if_neg h1];exact ⟨by rw [this.2.2.2.1];exact ha,hnum,this.2.2.1⟩
     ·simp only [Tm.wt];have:=this.2.2.2.2.1;omega
     ·simp only [Tm.dp];have:=this.2.2.2.2.2;omega
end
theorem Kp {k:Nat} (hk:k<=800000) {t:Tm} (hsc:t.sc k) (hb:t.bd<=800000):∃f u e,AF f t=some (u,e)/\(e=0/\u.sc k/\u.wt<=3000/\u.dp<=120\/(e=5\/e=17)/\u=.z):=by
 obtain ⟨f,v,s1,e1,hv,hvo,hve⟩:=(tot (k0:=k) (D:=800000) (L:=0) (by omega) (by omega) (by omega) 1000).2 t [] 0 (by rw [RV.okE];trivial) (by simpa using hsc) (by simp;omega) (by omega) (by omega) (by omega);have hsm:=Qn (by omega) (by omega) hvo;rcases hve.2 with ⟨rfl,hs⟩ | ⟨rfl,hs⟩
 ·obtain ⟨g,u,s2,nd2,e2,hu,hR⟩:=Amw (k0:=k) (D:=800000) (by omega) hk 3001 v s1 0 0 1 (by simpa using hvo) (by have:=hve.1;omega) hs (by omega) (by omega) (by omega) (by omega) (by omega) (by omega);have hn:AF (f+g) t=some (if e2≠0 then (.z,e2) else (u,0)):=by
   rw [AF,BZ (by omega) hv];simp only;rw [D0 (show g<=f+g by omega) (by simpa using hu)]
  by_cases h2:e2=0
  ·rw [if_neg (by simp [h2])] at hn
   have:=hR.2.1 h2
   exact ⟨_,_,_,hn,.inl ⟨rfl,by simpa using this.2.1,by omega,by omega⟩⟩
  ·rw [if_pos h2] at hn;refine ⟨_,_,_,hn,.inr ⟨?_,rfl⟩⟩;rcases hR.1.2 with ⟨h,_⟩ | ⟨h,_⟩ | ⟨h,_⟩
   ·exact absurd h h2
   ·exact .inr h
   ·exact .inl h
 ·have hn:AF (f+v.k.length+10) t=some (.z,17):=by
   rw [AF,BZ (by omega) hv];simp only;rw [D0 (show v.k.length+10<=f+v.k.length+10 by omega) (VB s1 0 17 0 1 v (by decide) (by omega) (by omega) (by omega) (by omega) (by omega) (by omega) hsm.1 hsm.2.1 (by omega))]
   rfl
  exact ⟨_,_,_,hn,.inr ⟨.inr rfl,rfl⟩⟩
end Idl
end Go.Proofs.Ytkfecngimlcfoaa
namespace Go.Proofs.Ytkfecngimlcfoaa
namespace Idl
mutual
theorem Fp:∀(t:Tm) (k:Nat),t.sc k->t.wk
 | .mk op n ks,k,h=>by
  rw [Tm.sc] at h;rw [Tm.wk];exact ⟨WJ h.1,scL_wk ks op 0 k h.2.2⟩
theorem scL_wk:∀(l:List Tm) (op:Int) (i k:Nat),Tm.scL op i l k->Tm.wkL l
 | [],_,_,_,_=>by rw [Tm.wkL];trivial
 | t::l,op,i,k,h=>by
  rw [Tm.scL] at h;rw [Tm.wkL];exact ⟨Fp t _ h.1,scL_wk l op (i+1) k h.2⟩
end
mutual
theorem Bk:∀(t:Tm) (d c:Int),(t.shift d c).wt=t.wt
 | .mk op n ks,d,c=>by simp only [Tm.shift,Tm.wt,shiftL_wt ks op 0 d c]
theorem shiftL_wt:∀(l:List Tm) (op:Int) (i:Nat) (d c:Int),Tm.wtL (Tm.shiftL op i l d c)=Tm.wtL l
 | [],_,_,_,_=>rfl
 | t::l,op,i,d,c=>by simp only [Tm.shiftL,Tm.wtL,Bk t,shiftL_wt l]
end
mutual
theorem DZ:∀(t:Tm) (d c:Int),(t.shift d c).dp=t.dp
 | .mk op n ks,d,c=>by simp only [Tm.shift,Tm.dp,shiftL_dp ks op 0 d c]
theorem shiftL_dp:∀(l:List Tm) (op:Int) (i:Nat) (d c:Int),Tm.dpL (Tm.shiftL op i l d c)=Tm.dpL l
 | [],_,_,_,_=>rfl
 | t::l,op,i,d,c=>by simp only [Tm.shiftL,Tm.dpL,DZ t,shiftL_dp l]
end
mutual
theorem C3:∀(t:Tm) (d c k:Nat),t.sc k->k+2 * t.wt+d<=9000000000000000000->(t.shift d c).sc (k+d)
 | .mk op n ks,d,c,k,h,hk=>by
  rw [Tm.sc] at h;rw [Tm.wt] at hk;rw [Tm.shift,Tm.sc,Ew];refine ⟨h.1,?_,shiftL_sc ks op 0 d c k h.2.2 (by omega)⟩;by_cases h1:op=1
  ·have:=h.2.1
   rw [if_pos h1] at this ⊢;by_cases h2:(c:Int)<=n
   ·rw [if_pos ⟨h1,h2⟩,Av (by omega) (by omega)];omega
   ·rw [if_neg (fun h=>h2 h.2)];omega
  ·have:=h.2.1
   rw [if_neg h1] at this ⊢;rw [if_neg (fun h=>h1 h.1)];exact this
theorem shiftL_sc:∀(l:List Tm) (op:Int) (i:Nat) (d c k:Nat),Tm.scL op i l k->k+2+2 * Tm.wtL l+d<=9000000000000000000->Tm.scL op i (Tm.shiftL op i l d c) (k+d)
 | [],_,_,_,_,_,_,_=>by rw [Tm.shiftL,Tm.scL];trivial
 | t::l,op,i,d,c,k,h,hk=>by
  rw [Tm.scL] at h;simp only [Tm.wtL] at hk;rw [Tm.shiftL,Tm.scL];refine ⟨?_,shiftL_sc l op (i+1) d c k h.2 (by omega)⟩;rw [show k+d+Ae op i=(k+Ae op i)+d by omega]
  have:=Bo op i
  exact C3 t d (c+Ae op i) (k+Ae op i) h.1 (by omega)
end
mutual
theorem Lu:∀(t u:Tm) (j k:Nat),t.sc (k+1+j)->u.sc k->k+j+2 * t.wt+2 * u.wt<=4000000000000000000->(t.subst j j u).sc (k+j)
 | .mk op n ks,u,j,k,h,hu,hk=>by
  rw [Tm.sc] at h;rw [Tm.wt] at hk;rw [Tm.subst];by_cases h1:op=1
  ·rw [if_pos h1];have h2:=h.2.1;rw [if_pos h1] at h2;by_cases h3:n=j
   ·rw [if_pos h3];exact C3 u j 0 k hu (by omega)
   ·rw [if_neg h3];by_cases h4:(j:Int)<n
    ·rw [if_pos h4,Tm.sc,if_pos rfl,Tm.scL,Av (by omega) (by omega)];exact ⟨rfl,by omega,trivial⟩
    ·rw [if_neg h4,Tm.sc,if_pos h1];have hks:ks=[]:=by
      have:=h.1
      rw [h1] at this;simp [ar] at this;exact List.length_eq_zero_iff.1 this.symm
     subst hks;exact ⟨h.1,by omega,by rw [Tm.scL];trivial⟩
  ·rw [if_neg h1,Tm.sc,if_neg h1,Ht];have h2:=h.2.1;rw [if_neg h1] at h2;exact ⟨h.1,h2,substL_sc ks u op 0 j k h.2.2 hu (by omega)⟩
theorem substL_sc:∀(l:List Tm) (u:Tm) (op:Int) (i j k:Nat),Tm.scL op i l (k+1+j)->u.sc k->k+j+2+2 * Tm.wtL l+2 * u.wt<=4000000000000000000->Tm.scL op i (Tm.substL op i l j j u) (k+j)
 | [],_,_,_,_,_,_,_,_=>by rw [Tm.substL,Tm.scL];trivial
 | t::l,u,op,i,j,k,h,hu,hk=>by
  rw [Tm.scL] at h;simp only [Tm.wtL] at hk;rw [Tm.substL,Tm.scL];refine ⟨?_,substL_sc l u op (i+1) j k h.2 hu (by omega)⟩
  have:=Bo op i
  have h1:=Lu t u (j+Ae op i) k (by rw [<- Nat.add_assoc];exact h.1) hu (by omega);rw [Nat.add_assoc];exact h1
end
mutual
theorem LB:∀(t u:Tm) (c d:Int),(t.subst c d u).wt<=t.wt * u.wt
 | .mk op n ks,u,c,d=>by
  have hu:=Ez u;rw [Tm.subst];by_cases h1:op=1
  ·rw [if_pos h1];have key:u.wt<=(Tm.mk op n ks).wt * u.wt:=Nat.le_mul_of_pos_left _ (Ez _);by_cases h3:n=c
   ·rw [if_pos h3,Bk];exact key
   ·rw [if_neg h3];by_cases h4:c<n
    ·rw [if_pos h4];simp only [Tm.wt,Tm.wtL] at key ⊢;omega
    ·rw [if_neg h4];exact Nat.le_mul_of_pos_right _ hu
  ·rw [if_neg h1]
   have:=substL_wt ks u op 0 c d
   simp only [Tm.wt];rw [Nat.add_mul];omega
theorem substL_wt:∀(l:List Tm) (u:Tm) (op:Int) (i:Nat) (c d:Int),Tm.wtL (Tm.substL op i l c d u)<=Tm.wtL l * u.wt
 | [],_,_,_,_,_=>by simp [Tm.substL,Tm.wtL]
 | t::l,u,op,i,c,d=>by
  have h1:=LB t u (c+Ae op i) (d+Ae op i);have h2:=substL_wt l u op (i+1) c d;simp only [Tm.substL,Tm.wtL];rw [Nat.add_mul];omega
end
mutual
theorem OR:∀(t u:Tm) (c d:Int),(t.subst c d u).dp<=t.dp+u.dp
 | .mk op n ks,u,c,d=>by
  rw [Tm.subst];by_cases h1:op=1
  ·rw [if_pos h1];by_cases h3:n=c
   ·rw [if_pos h3,DZ];omega
   ·rw [if_neg h3];by_cases h4:c<n
    ·rw [if_pos h4];simp only [Tm.dp,Tm.dpL];omega
    ·rw [if_neg h4];omega
  ·rw [if_neg h1]
   have:=substL_dp ks u op 0 c d
   simp only [Tm.dp];omega
theorem substL_dp:∀(l:List Tm) (u:Tm) (op:Int) (i:Nat) (c d:Int),Tm.dpL (Tm.substL op i l c d u)<=Tm.dpL l+u.dp
 | [],_,_,_,_,_=>by simp [Tm.substL,Tm.dpL]
 | t::l,u,op,i,c,d=>by
  have h1:=OR t u (c+Ae op i) (d+Ae op i);have h2:=substL_dp l u op (i+1) c d;simp only [Tm.substL,Tm.dpL];omega
end
mutual
theorem Abv:∀(t:Tm),t.bd<=2 * t.dp
 | .mk op n ks=>by
  have:=bdL_dp ks op 0
  simp only [Tm.bd,Tm.dp];omega
theorem bdL_dp:∀(l:List Tm) (op:Int) (i:Nat),Tm.bdL op i l<=2+2 * Tm.dpL l
 | [],_,_=>by simp [Tm.bdL]
 | t::l,op,i=>by
  have h1:=Abv t;have h2:=bdL_dp l op (i+1);have h3:=Bo op i;simp only [Tm.bdL,Tm.dpL];omega
end
theorem Qh:∀{op:Int} {i j:Nat} {ks:List Tm} {k:Nat} {t:Tm},Tm.scL op i ks k->ks[j]?=some t->t.sc (k+Ae op (i+j))
 | op,i,0,x::l,k,t,h,hg=>by
  rw [Tm.scL] at h;simp only [List.getElem?_cons_zero,AB5] at hg;subst hg;exact h.1
 | op,i,j+1,x::l,k,t,h,hg=>by
  rw [Tm.scL] at h;rw [List.getElem?_cons_succ] at hg
  have:=Qh h.2 hg
  rwa [show i+1+j=i+(j+1) by omega] at this
 | _,_,_,[],_,_,_,hg=>by simp at hg
def Bu:Tm:=.mk 11 0 []
def fnP (t:Tm):Tm:=match t with
 | .mk _ _ [_,.mk o1 _ [f,.mk o2 n2 _]]=>if o1=5/\o2=1/\n2=0/\f.free 0=false then f.subst 0 0 Bu else t
 | _=>t
def prP (t:Tm):Tm:=match t with
 | .mk _ _ [_,.mk o1 _ [x],.mk o2 _ [y]]=>if o1=8/\o2=9/\x.same y=true then x else t
 | _=>t
theorem As7 {op m:Int} {z b:Tm} (h:b.op≠5):fnP (.mk op m [z,b])=.mk op m [z,b]:=by
 unfold fnP;split
 ·rename_i h1;simp only [Tm.mk.injEq,List.cons.injEq,and_true] at h1;obtain ⟨_,_,_,rfl⟩:=h1;rw [if_neg (fun h2=>h h2.1)]
 ·rfl
theorem Vf (k:Nat):Bu.sc k:=by
 rw [Bu,Tm.sc];exact ⟨by decide,by rw [if_neg (by decide),BJ,if_neg (by decide),if_neg (by decide),if_neg (by decide)],trivial⟩
theorem Akx {op m:Int} {z a b:Tm} (h:¬ (a.op=8/\b.op=9)):prP (.mk op m [z,a,b])=.mk op m [z,a,b]:=by
 unfold prP;split
 ·rename_i h1;simp only [Tm.mk.injEq,List.cons.injEq,and_true] at h1;obtain ⟨_,_,_,rfl,rfl⟩:=h1;rw [if_neg (fun h2=>h ⟨h2.1,h2.2.1⟩)]
 ·rfl
theorem KK {t:Tm} {k:Nat} {o:Int} {r:Nat} (h:t.sc k) (ho:t.op=o) (hr:ar o=some r):t.kids.length=r:=by
 obtain ⟨op,m,ks⟩:=t;simp only [Tm.op] at ho;subst ho;rw [Tm.sc,hr] at h
 have:=h.1
 simp only [AB5] at this;exact this.symm
def AiI:List Tm->List Tm
 | []=>[]
 | _::l=>Bu::l
mutual
def Tm.eta:Tm->Tm
 | .mk op m ks=>if op=4 then fnP (.mk 4 m (AiI (Tm.etaL ks))) else if op=7 then prP (.mk 7 m (AiI (Tm.etaL ks))) else .mk op m (Tm.etaL ks)
def Tm.etaL:List Tm->List Tm
 | []=>[]
 | t::l=>t.eta::Tm.etaL l
end
theorem Qg:∀l:List Tm,(Tm.etaL l).length=l.length
 | []=>rfl
 | _::l=>by simp only [Tm.etaL,AB9,Qg l]
theorem Arn {m:Int} {z b:Tm} {k:Nat} (hz:z.sc k) (hb:b.sc (k+1)) (hm:m=0) (hw:k+2 * b.wt<=1000000000):(fnP (.mk 4 m [z,b])).sc k/\(fnP (.mk 4 m [z,b])).wt<=1+z.wt+b.wt:=by
 have h0:(Tm.mk 4 m [z,b]).sc k:=by
  rw [Tm.sc];refine ⟨rfl,?_,hz,hb,trivial⟩;rw [if_neg (by decide),BJ,if_neg (by decide),if_neg (by decide),if_neg (by decide)];exact hm
 have h1:(Tm.mk 4 m [z,b]).wt=1+z.wt+b.wt:=by simp only [Tm.wt,Tm.wtL];omega
 unfold fnP;split
 ·rename_i o1 n1 f o2 n2 k2 heq;simp only [Tm.mk.injEq,List.cons.injEq,and_true] at heq;obtain ⟨_,_,rfl,rfl⟩:=heq;split
  ·rename_i hc;obtain ⟨rfl,_,_,_⟩:=hc;rw [Tm.sc] at hb;have hf:f.sc (k+1):=by
    have:=hb.2.2
    rw [Tm.scL] at this;exact this.1
   simp only [Tm.wt,Tm.wtL] at hw h1 ⊢;have hs:=Lu f Bu 0 k hf (Vf k) (by simp only [Bu,Tm.wt,Tm.wtL];omega);have hwt:=LB f Bu 0 0;have hz1:Bu.wt=1:=rfl;rw [hz1,Nat.mul_one] at hwt;exact ⟨hs,by omega⟩
  ·exact ⟨h0,by rw [h1];exact Nat.le_refl _⟩
 ·exact ⟨h0,by rw [h1];exact Nat.le_refl _⟩
theorem At5 {m:Int} {z a b:Tm} {k:Nat} (hz:z.sc k) (ha:a.sc k) (hb:b.sc k) (hm:m=0):(prP (.mk 7 m [z,a,b])).sc k/\(prP (.mk 7 m [z,a,b])).wt<=1+z.wt+a.wt+b.wt:=by
 have h0:(Tm.mk 7 m [z,a,b]).sc k:=by
  rw [Tm.sc];refine ⟨rfl,?_,hz,ha,hb,trivial⟩;rw [if_neg (by decide),BJ,if_neg (by decide),if_neg (by decide),if_neg (by decide)];exact hm
 have h1:(Tm.mk 7 m [z,a,b]).wt=1+z.wt+a.wt+b.wt:=by simp only [Tm.wt,Tm.wtL];omega
 unfold prP;split
 ·rename_i o1 n1 x o2 n2 y heq;simp only [Tm.mk.injEq,List.cons.injEq,and_true] at heq;obtain ⟨_,_,rfl,rfl,rfl⟩:=heq;split
  ·rename_i hc;obtain ⟨rfl,_,_⟩:=hc;rw [Tm.sc] at ha;have hf:x.sc k:=by
    have:=ha.2.2
    rw [Tm.scL] at this;exact this.1
   simp only [Tm.wt,Tm.wtL] at h1 ⊢;exact ⟨hf,by omega⟩
  ·exact ⟨h0,by rw [h1];exact Nat.le_refl _⟩
 ·exact ⟨h0,by rw [h1];exact Nat.le_refl _⟩
mutual
theorem TH:∀(t:Tm) (k:Nat),t.sc k->k+2 * t.wt<=1000000000->t.eta.sc k/\t.eta.wt<=t.wt
 | .mk op m ks,k,h,hw=>by
  rw [Tm.sc] at h;rw [Tm.wt] at hw;have hl:=etaL_sc op 0 ks k h.2.2 (by omega);have hll:=Qg ks;rw [Tm.eta];by_cases h4:op=4
  ·subst h4;rw [if_pos rfl];have h9:ar 4=some 2:=by decide
   rw [h9,if_neg (by decide),BJ,if_neg (by decide),if_neg (by decide),if_neg (by decide)] at h
   match ks,h,hl,hw with
   | [a,b],h,hl,hw =>
    simp only [Tm.etaL,AiI];simp only [Tm.etaL,Tm.scL,Tm.wtL] at hl;simp only [Tm.wtL] at hw;have hb1:Ae 4 1=1:=by decide
    have hr:=Arn (m:=m) (z:=Bu) (b:=b.eta) (k:=k) (Vf k) (by have:=hl.1.2.1;rwa [hb1] at this) h.2.1 (by omega);have hz1:Bu.wt=1:=rfl;have hp:=Ez a;have hp2:=Ez a.eta;rw [hz1] at hr;simp only [Tm.wt,Tm.wtL];exact ⟨hr.1,by omega⟩
   | [],h,_,_=>simp at h
   | [_],h,_,_=>simp at h
   | _::_::_::_,h,_,_=>simp at h
  ·rw [if_neg h4];by_cases h7:op=7
   ·subst h7;rw [if_pos rfl];have h9:ar 7=some 3:=by decide
    rw [h9,if_neg (by decide),BJ,if_neg (by decide),if_neg (by decide),if_neg (by decide)] at h
    match ks,h,hl,hw with
    | [a,b,c],h,hl,hw =>
     simp only [Tm.etaL,AiI];simp only [Tm.etaL,Tm.scL,Tm.wtL] at hl;simp only [Tm.wtL] at hw;have hb1:Ae 7 1=0:=by decide
     have hb2:Ae 7 2=0:=by decide
     have hr:=At5 (m:=m) (z:=Bu) (a:=b.eta) (b:=c.eta) (k:=k) (Vf k) (by have:=hl.1.2.1;rwa [hb1] at this) (by have:=hl.1.2.2.1;rwa [hb2] at this) h.2.1;have hz1:Bu.wt=1:=rfl;have hp:=Ez a;have hp2:=Ez a.eta;rw [hz1] at hr;simp only [Tm.wt,Tm.wtL];exact ⟨hr.1,by omega⟩
    | [],h,_,_=>simp at h
    | [_],h,_,_=>simp at h
    | [_,_],h,_,_=>simp at h
    | _::_::_::_::_,h,_,_=>simp at h
   ·rw [if_neg h7,Tm.sc];refine ⟨⟨by rw [hll];exact h.1,h.2.1,hl.1⟩,?_⟩;simp only [Tm.wt];omega
theorem etaL_sc:∀(op:Int) (i:Nat) (l:List Tm) (k:Nat),Tm.scL op i l k->k+2+2 * Tm.wtL l<=1000000000->Tm.scL op i (Tm.etaL l) k/\Tm.wtL (Tm.etaL l)<=Tm.wtL l
 | _,_,[],_,_,_=>by simp only [Tm.etaL,Tm.scL,true_and];exact Nat.le_refl _
 | op,i,t::l,k,h,hw=>by
  rw [Tm.scL] at h;rw [Tm.wtL] at hw;have hb:=Bo op i;have h1:=TH t (k+Ae op i) h.1 (by omega);have h2:=etaL_sc op (i+1) l k h.2 (by omega);rw [Tm.etaL,Tm.scL,Tm.wtL,Tm.wtL];exact ⟨⟨h1.1,h2.1⟩,by omega⟩
end
abbrev Hre (op m:Int) (ks:List Tm) (K:IV) (tok:List (Nat×Blk)):Hp :=
 ⟨(90177536,.row [iv op,iv m,.fv (.sl (ks.map Tm.enc))] false)::(90177537,.row [iv 0,iv 0,.nils] false)::(90178565,.row [iv op,iv m,K] false)::tok,[]⟩
def C2 (op:Int):Nat->List Tm->List Tm
 | _,[]=>[]
 | i,t::l=>(if i=0/\(op=4\/op=7) then Bu else t.eta)::C2 op (i+1) l
def Xw (o p:Int) (l:List FV) (s:Nat) (own:List (Nat×Blk)) (ext:List Blk) (k:KT (IV×Hp)) :
  Ay (AT EE s false .append [28,28] [.nils,.clip [.agg [.int .i64 o,.int .i64 p,.sl l]]]) s ⟨own,ext⟩ k=CW own s (A9 own s (.tok 1 3) fun own=>k (.app (.own s) [.agg [.int .i64 o,.int .i64 p,.sl l]]) ⟨own,ext⟩ [] [.own s]) :=
 JT sTm (.clip _) rfl rfl (by simp) (.inl rfl) s own ext k
theorem Ry (op:Int) (x:Tm):∀(i:Nat) (l:List Tm),C2 op i (l++[x])=C2 op i l++[if i+l.length=0/\(op=4\/op=7) then Bu else x.eta]
 | i,[]=>by simp [C2]
 | i,t::l=>by
  simp only [List.cons_append,C2,Ry op x (i+1) l,AB9];rw [show i+1+l.length=i+(l.length+1) by omega]
theorem RB (op:Int):∀(i:Nat) (l:List Tm),(C2 op i l).length=l.length
 | _,[]=>rfl
 | i,t::l=>by simp only [C2,AB9,RB op (i+1) l]
theorem AiJ {n:Nat} {op m:Int} {ks:List Tm} {w:FV} (h4:ks.length<=4) (hn:ks.length+3<n)
  (ih:∀x∈ks,BW (SS dt n 86 [.fv x.enc] ⟨[],[]⟩) x.eta.enc)
  (hend:∀(K:IV) (tok:List (Nat×Blk)) (rec:List IV->Hp->Option (IV×Hp)),((ks=[]/\K=.nils/\tok=[])\/(ks≠[]/\K=.app (.own 90185732) ((C2 op 0 ks).map Tm.enc)/\tok=[(90185732,.tok ks.length 3)])) ->
   BW (IL [.ptr (.own 90177536) 0,.ptr (.own 90177537) 0,.ptr (.own 90178565) 0,iv ks.length] (Hre op m ks K tok) (SS dt n) ⟨[],[]⟩ rec) w) :
  BW (SS dt (n+1) 86 [.fv (Tm.mk op m ks).enc] ⟨[],[]⟩) w:=by
 rw [c86,Ag];simp only [RO,T9,So,TF,Sg,ST,Us,Tu,U3,UX,SY,Vd,Ua,TU,US,R7,Ub,Sz,Tf,SR,U9,RR,Tc,R3,Tj,UW,Vj,TA,Ux,R5,RS,Ut,UY,S86,↓XX,XY,↓reduceIte,seval,↓AM,XD,heldB,AV,XE];refine Bd (Q:=fun r=>BW r _) (fun j V H=>∃(pre rest:List Tm) (K:IV) (tok:List (Nat×Blk)),ks=pre++rest/\rest.length=j/\V=[.ptr (.own 90177536) 0,.ptr (.own 90177537) 0,.ptr (.own 90178565) 0,iv pre.length]/\H=Hre op m ks K tok /\
   ((pre=[]/\K=.nils/\tok=[])\/(pre≠[]/\K=.app (.own 90185732) ((C2 op 0 pre).map Tm.enc)/\tok=[(90185732,.tok pre.length 3)])))
  ?_ n ks.length _ _ (by omega) ⟨[],ks,.nils,[],rfl,rfl,rfl,rfl,.inl ⟨rfl,rfl,rfl⟩⟩
 rintro j V H rec ⟨pre,rest,K,tok,hks,hl,rfl,rfl,hK⟩ hrec;have hkl:ks.length=pre.length+rest.length:=by rw [hks];simp
 cases rest with
 | nil =>
  rw [List.append_nil] at hks;subst hks;exact hend K tok rec hK
 | cons x rest =>
  have hi:(pre.length:Int)<ks.length:=by rw [hkl];simp;omega
  have hg2:=Cr hks;have hc:=ih x (by rw [hks];simp);have hwi:BM ((pre.length:Int)+1)=((pre++[x]).length:Int):=(Av (by omega) (by omega)).trans (by simp);have h0:=AO (n:=n) (by omega) 11;have hi0:(0:Int)<ks.length:=by omega
  have hw01:BM (0+1)=1:=by decide
  simp only [AB9] at hl hkl;rcases hK with ⟨rfl,rfl,rfl⟩ | ⟨hne,rfl,rfl⟩
  ·have hz:∀y,((op=4\/op=7)->y=Bu)->(¬ (op=4\/op=7)->y=x.eta)->C2 op 0 [x]=[y]:=by
    intro y h1 h2;by_cases h:op=4\/op=7
    ·simp [C2,h,h1 h]
    ·simp [C2,h,h2 h]
   have h9:∀y,C2 op 0 [x]=[y]->BW (rec [.ptr (.own 90177536) 0,.ptr (.own 90177537) 0,.ptr (.own 90178565) 0,iv 1] (Hre op m ks (.app (.own 90185732) [y.enc]) [(90185732,.tok 1 3)])) w:=by
    intro y hy;exact hrec rest.length _ _ (by omega) ⟨[x],rest,_,_,by rw [hks];simp,rfl,rfl,rfl,.inr ⟨by simp,by rw [List.nil_append] at *;rw [hy];rfl,rfl⟩⟩
   by_cases hop:op=4
   ·have h8:=h9 Bu (hz _ (fun _=>rfl) (fun h=>absurd (.inl hop) h));subst hop;generalize x.eta=y at hc;obtain ⟨o,p,l⟩:=x;obtain ⟨o2,p2,l2⟩:=y;rw [Ag,Ag] at hc;rw [Ag] at h0;have hze:Bu.enc=.agg [.int .i64 11,.int .i64 0,.sl []]:=rfl;rw [hze] at h8;simp only [↓X5,↓XX,XY,↓reduceIte,seval,hi,↓BS (AY hg2) (BA _ _ _),↓CB,↓Ap hc,↓Ad h0,hi0,hw01,↓De,↓Xw,↓AM,XD,heldB,AV,XE];exact h8
   ·by_cases hop7:op=7
    ·have h8:=h9 Bu (hz _ (fun _=>rfl) (fun h=>absurd (.inr hop7) h));subst hop7;generalize x.eta=y at hc;obtain ⟨o,p,l⟩:=x;obtain ⟨o2,p2,l2⟩:=y;rw [Ag,Ag] at hc;rw [Ag] at h0;have hze:Bu.enc=.agg [.int .i64 11,.int .i64 0,.sl []]:=rfl;rw [hze] at h8;simp only [↓X5,↓XX,XY,↓reduceIte,seval,hi,↓BS (AY hg2) (BA _ _ _),↓CB,↓Ap hc,↓Ad h0,hi0,hw01,↓De,↓Xw,↓AM,XD,heldB,AV,XE];exact h8
    ·have h8:=h9 x.eta (hz _ (fun h=>absurd h (by omega)) (fun _=>rfl));generalize x.eta=y at hc h8;obtain ⟨o,p,l⟩:=x;obtain ⟨o2,p2,l2⟩:=y;rw [Ag,Ag] at hc;rw [Ag] at h8;simp only [↓X5,↓XX,XY,↓reduceIte,seval,hi,hop,hop7,↓BS (AY hg2) (BA _ _ _),↓CB,↓Ap hc,hi0,hw01,↓De,↓Xw,↓AM,XD,heldB,AV,XE];exact h8
  ·have hp0:¬ (pre.length:Int)=0:=by
    have:=List.length_pos_iff.2 hne
    omega
   have h8:=hrec rest.length _ _ (by omega) ⟨pre++[x],rest,_,_,by rw [hks];simp,rfl,rfl,rfl,.inr ⟨by simp,by rw [Ry,if_neg (by rintro ⟨h,_⟩;omega)],rfl⟩⟩;have hlen:=RB op 0 pre;generalize C2 op 0 pre=D at h8 hlen;generalize x.eta=y at hc h8;obtain ⟨o,p,l⟩:=x;obtain ⟨o2,p2,l2⟩:=y;have happ:=fun {own:List (Nat×Blk)} {ext:List Blk} (r s:Nat) (k:KT (IV×Hp))=>Of (es:=D) (by omega) (.mk o2 p2 l2) r s own ext k;rw [hlen] at happ;rw [Ag,Ag] at hc;simp only [Ag] at happ;simp only [↓X5,↓XX,XY,↓reduceIte,seval,hi,hp0,↓BS (AY hg2) (BA _ _ _),↓CB,↓Ap hc,hwi,↓De,↓happ,↓HN,↓AM,XD,heldB,AV,XE];have e9:(pre++[Tm.mk o p l]).length=pre.length+1:=by simp
   rw [e9] at h8 ⊢;exact h8
def LC {β:Type} (r:Ref) (es:List FV) (x:IV) (k:IV->Option β):AU 3 (.app r es) x k=AU 3 (.fv (.sl es)) x k:=rfl
theorem AeE (op:Int) (h:op=4\/op=7):∀ks:List Tm,C2 op 0 ks=AiI (Tm.etaL ks)
 | []=>rfl
 | t::l=>by
  have:∀(i:Nat) (l:List Tm),C2 op (i+1) l=Tm.etaL l:=by
   intro i l
   induction l generalizing i with
   | nil=>rfl
   | cons a l ih=>rw [C2,if_neg (by omega),ih,Tm.etaL]
  rw [C2,if_pos ⟨rfl,h⟩,this 0,Tm.etaL,AiI]
theorem Abu (op:Int) (h:¬ (op=4\/op=7)):∀(i:Nat) (ks:List Tm),C2 op i ks=Tm.etaL ks
 | _,[]=>rfl
 | i,t::l=>by rw [C2,if_neg (fun h'=>h h'.2),Abu op h (i+1) l,Tm.etaL]
def YU {n:Nat} {op m:Int} {ks:List Tm} (h:¬ (op=4\/op=7)) (rec:List IV->Hp->Option (IV×Hp)) {K:IV} {tok:List (Nat×Blk)}
  (hK:(ks=[]/\K=.nils/\tok=[])\/(ks≠[]/\K=.app (.own 90185732) ((C2 op 0 ks).map Tm.enc)/\tok=[(90185732,.tok ks.length 3)])) :
  BW (IL [.ptr (.own 90177536) 0,.ptr (.own 90177537) 0,.ptr (.own 90178565) 0,iv ks.length] (Hre op m ks K tok) (SS dt n) ⟨[],[]⟩ rec) (Tm.mk op m (Tm.etaL ks)).enc:=by
 have hno:¬ ((ks.length:Int)<ks.length):=by omega
 have h4:¬ op=4:=fun h'=>h (.inl h');have h7:¬ op=7:=fun h'=>h (.inr h');rw [Ag];rcases hK with ⟨rfl,rfl,rfl⟩ | ⟨hne,rfl,rfl⟩
 ·simp only [↓X5,↓XX,XY,↓reduceIte,seval,hno,h4,h7];exact Bl rfl _
 ·rw [Abu op h];simp only [↓X5,↓XX,XY,↓reduceIte,seval,hno,h4,h7];exact Bl rfl _
def Auh {n:Nat} {m:Int} {ks:List Tm} {a b:Tm} (rec:List IV->Hp->Option (IV×Hp)) (h3:ks.length=3) (hn:a.wt+10<n) (haw:a.wt<=100000000) (hka:a.op=8->∃x,a.kids=[x]) (hkb:b.op=9->∃y,b.kids=[y]) :
  BW (IL [.ptr (.own 90177536) 0,.ptr (.own 90177537) 0,.ptr (.own 90178565) 0,iv ks.length] (Hre 7 m ks (.app (.own 90185732) ([Bu,a,b].map Tm.enc)) [(90185732,.tok ks.length 3)]) (SS dt n) ⟨[],[]⟩ rec) (prP (.mk 7 m [Bu,a,b])).enc:=by
 have hno:¬ ((ks.length:Int)<ks.length):=by omega
 have hze:Bu.enc=.agg [.int .i64 11,.int .i64 0,.sl []]:=rfl;obtain ⟨o1,n1,k1⟩:=a;obtain ⟨o2,n2,k2⟩:=b;by_cases h8:o1=8
 ·by_cases h9:o2=9
  ·subst h8 h9;obtain ⟨x,hx⟩:=hka rfl;obtain ⟨y,hy⟩:=hkb rfl;simp only [Tm.kids] at hx hy;subst hx hy;simp only [Tm.wt,Tm.wtL] at hn haw;have hs:=I8 n x y (by omega) (by omega);rw [prP];generalize x.same y=v at hs;obtain ⟨o3,n3,k3⟩:=x;obtain ⟨o4,n4,k4⟩:=y;simp only [Ag] at hs;cases v
   ·rw [if_neg (by simp)];simp only [Ag,hze,ACb,ACa];simp only [↓X5,↓XX,XY,↓reduceIte,seval,hno,↓LC,↓HT,↓If,↓M9,↓Ad hs];exact Bl rfl _
   ·rw [if_pos ⟨rfl,rfl,rfl⟩];simp only [Ag,hze,ACb,ACa];simp only [↓X5,↓XX,XY,↓reduceIte,seval,hno,↓LC,↓HT,↓If,↓M9,↓Ad hs];exact Aw _ _
  ·rw [Akx (by simp [Tm.op,h9])];simp only [Ag,hze,ACb,ACa];simp only [↓X5,↓XX,XY,↓reduceIte,seval,hno,↓LC,↓HT,↓If,↓M9,h8,h9];exact Bl rfl _
 ·rw [Akx (by simp [Tm.op,h8])];simp only [Ag,hze,ACb,ACa];simp only [↓X5,↓XX,XY,↓reduceIte,seval,hno,↓LC,↓HT,↓If,↓M9,h8];exact Bl rfl _
def AsB {n:Nat} {m:Int} {ks:List Tm} {b:Tm} {K:Nat} (rec:List IV->Hp->Option (IV×Hp)) (h3:ks.length=2) (hn:b.wt+20<n) (hbw:b.wt<=100000000) (hs:b.sc K) :
  BW (IL [.ptr (.own 90177536) 0,.ptr (.own 90177537) 0,.ptr (.own 90178565) 0,iv ks.length] (Hre 4 m ks (.app (.own 90185732) ([Bu,b].map Tm.enc)) [(90185732,.tok ks.length 3)]) (SS dt n) ⟨[],[]⟩ rec) (fnP (.mk 4 m [Bu,b])).enc:=by
 have hno:¬ ((ks.length:Int)<ks.length):=by omega
 have hze:Bu.enc=.agg [.int .i64 11,.int .i64 0,.sl []]:=rfl;have hwk:=Fp b K hs;obtain ⟨o1,n1,k1⟩:=b;by_cases h5:o1=5
 ·subst h5;have hl2:=KK hs rfl (show ar 5=some 2 by decide)
  simp only [Tm.kids] at hl2
  match k1,hl2 with
  | [f,x],_ =>
  rw [Tm.sc] at hs;have hsf:=hs.2.2.1;have hsx:=hs.2.2.2.1;simp only [Tm.wt,Tm.wtL] at hn hbw;rw [Tm.wk] at hwk;have hfw:f.wk:=Td hwk.2 (by simp);have hv0:=Al8 (n:=n) (by omega) 0;have hsame:=I8 n x (.mk 1 0 []) (by omega) (by omega);have hfree:=Aa6 n f 0 (by omega) (by omega) (by omega) (by omega);have h0:=AO (n:=n) (by omega) 11;have hsub:=PJ (n:=n) f Bu 0 (by simp [Bu,Tm.wk,Tm.wkL]) (by simp [Bu,Tm.wt,Tm.wtL]) (by simp only [Bu,Tm.wt,Tm.wtL];omega) hfw (by omega) (by omega) (by omega);obtain ⟨o2,n2,k2⟩:=x;have hx:(Tm.mk o2 n2 k2).same (.mk 1 0 [])=(decide (o2=1) && decide (n2=0)):=by
   rw [Tm.same];by_cases h1:o2=1
   ·subst h1;have hk2:k2.length=0:=by
     have:=KK hsx rfl (show ar 1=some 0 by decide)
     simpa [Tm.kids] using this
    have hk3:k2=[]:=List.length_eq_zero_iff.1 hk2;subst hk3;simp [Tm.sameL]
   ·simp [h1]
  rw [hx] at hsame;rw [fnP];generalize hr:f.subst 0 0 Bu=u at hsub;generalize f.free 0=fr at hfree;obtain ⟨o4,n4,k4⟩:=u;obtain ⟨o3,n3,k3⟩:=f;rw [hze] at hsub;simp only [Ag,ACa] at hfree hsub hv0 hsame h0;by_cases h1:o2=1
  ·by_cases h2:n2=0
   ·rw [h1,h2] at hsame;simp only [decide_true,Bool.and_self] at hsame;cases fr
    ·rw [if_pos ⟨rfl,h1,h2,rfl⟩];simp only [Ag,hze,ACb,ACa];simp only [↓X5,↓XX,XY,↓reduceIte,seval,hno,↓LC,↓HT,↓If,↓M9,h1,h2,↓Ap hv0,↓Ad hsame,↓Ad hfree,↓Ad h0,↓AA hsub];exact Aw _ _
    ·rw [if_neg (by simp)];simp only [Ag,hze,ACb,ACa];simp only [↓X5,↓XX,XY,↓reduceIte,seval,hno,↓LC,↓HT,↓If,↓M9,h1,h2,↓Ap hv0,↓Ad hsame,↓Ad hfree];exact Bl rfl _
   ·rw [if_neg (by simp [h2])];rw [h1,decide_eq_true (rfl:(1:Int)=1),decide_eq_false h2,Bool.and_false] at hsame;simp only [Ag,hze,ACb,ACa];simp only [↓X5,↓XX,XY,↓reduceIte,seval,hno,↓LC,↓HT,↓If,↓M9,h1,↓Ap hv0,↓Ad hsame];exact Bl rfl _
  ·rw [if_neg (by simp [h1])];rw [decide_eq_false h1,Bool.false_and] at hsame;simp only [Ag,hze,ACb,ACa];simp only [↓X5,↓XX,XY,↓reduceIte,seval,hno,↓LC,↓HT,↓If,↓M9,↓Ap hv0,↓Ad hsame];exact Bl rfl _
 ·rw [As7 (by simpa [Tm.op] using h5)];simp only [Ag,hze,ACb,ACa];simp only [↓X5,↓XX,XY,↓reduceIte,seval,hno,↓LC,↓HT,↓If,↓M9,h5];exact Bl rfl _
theorem NE:∀(n:Nat) (t:Tm) (k:Nat),t.sc k->2 * t.wt+40<n->k+2 * t.wt<=90000000->BW (SS dt n 86 [.fv t.enc] ⟨[],[]⟩) t.eta.enc:=by
 intro n
 induction n with
 | zero=>intro t k _ h;omega
 | succ n ih =>
  intro t k hs hn hw;have hwk:=Fp t k hs;obtain ⟨op,m,ks⟩:=t;rw [Tm.sc] at hs;rw [Tm.wk] at hwk;simp only [Tm.wt] at hn hw;have hlen:=Fj ks;have hkd:=etaL_sc op 0 ks k hs.2.2 (by omega);have hdl:=Qg ks;refine AiJ hwk.1 (by omega) (fun x hx=>?_) (fun K tok rec hK=>?_)
  ·have hxw:=CT hx;obtain ⟨i,hi⟩:=List.getElem?_of_mem hx;have hxs:=Qh hs.2.2 hi;have hble:=Bo op (0+i);exact ih x _ hxs (by omega) (by omega)
  ·rw [Tm.eta];by_cases h4:op=4
   ·subst h4;rw [if_pos rfl];have h2:ks.length=2:=by have:=hs.1;rw [show ar 4=some 2 by decide] at this;simp only [AB5] at this;omega
    have hne:ks≠[]:=by intro h;rw [h] at h2;cases h2
    rw [AeE 4 (.inl rfl)] at hK;rcases hK with ⟨h,_⟩ | ⟨_,rfl,rfl⟩
    ·exact absurd h hne
    ·generalize Tm.etaL ks=D at hkd hdl;have hd2:D.length=2:=by omega
     match D,hd2,hkd with
     | [a,b],_,hkd =>
      simp only [Tm.scL,Tm.wtL] at hkd;exact AsB rec h2 (by omega) (by omega) hkd.1.2.1
   ·rw [if_neg h4];by_cases h7:op=7
    ·subst h7;rw [if_pos rfl];have h2:ks.length=3:=by have:=hs.1;rw [show ar 7=some 3 by decide] at this;simp only [AB5] at this;omega
     have hne:ks≠[]:=by intro h;rw [h] at h2;cases h2
     rw [AeE 7 (.inr rfl)] at hK;rcases hK with ⟨h,_⟩ | ⟨_,rfl,rfl⟩
     ·exact absurd h hne
     ·generalize Tm.etaL ks=D at hkd hdl;have hd2:D.length=3:=by omega
      match D,hd2,hkd with
      | [a,b,c],_,hkd =>
       simp only [Tm.scL,Tm.wtL] at hkd;refine Auh rec h2 (by omega) (by omega) (fun h5=>?_) (fun h5=>?_)
       ·have:=KK hkd.1.2.1 h5 (show ar 8=some 1 by decide)
        match hbk:b.kids,this with
        | [f],_=>exact ⟨f,rfl⟩
       ·have:=KK hkd.1.2.2.1 h5 (show ar 9=some 1 by decide)
        match hbk:c.kids,this with
        | [f],_=>exact ⟨f,rfl⟩
    ·rw [if_neg h7];exact YU (by omega) rec hK
mutual
def Tm.count:Tm->Int->Int
 | .mk _ _ l,most=>Tm.countL l 1 most
def Tm.countL:List Tm->Int->Int->Int
 | [],n,_=>n
 | t::l,n,most=>if n<most then Tm.countL l (n+t.count (most - n)) most else n
end
mutual
theorem Wf:∀(t:Tm) (m:Int),1<=t.count m/\(1<=m->t.count m<=m)
 | .mk _ _ l,m=>by
  have:=countL_le l 1 m
  simp only [Tm.count];omega
theorem countL_le:∀(l:List Tm) (n m:Int),n<=Tm.countL l n m/\(n<=m->Tm.countL l n m<=m)
 | [],n,m=>by simp only [Tm.countL];omega
 | t::l,n,m=>by
  simp only [Tm.countL];split
  ·have h1:=Wf t (m - n);have h2:=countL_le l (n+t.count (m - n)) m;omega
  ·omega
end
theorem AmB:∀(n:Nat) (t:Tm) (most:Int),t.wt<n->most<=4611686018427387904->-4611686018427387904<=most->BW (SS dt n 36 [.fv t.enc,iv most] ⟨[],[]⟩) (.int .i64 (t.count most)):=by
 intro n
 induction n with
 | zero=>intro t most h;omega
 | succ n ih =>
  intro t most h hm hm';obtain ⟨op,m,ks⟩:=t;simp only [Tm.wt] at h;rw [c36,Ag];simp only [P4,O1,PC,Qo,S36,↓XX,XY,↓reduceIte,seval,Tm.count];refine Bd (Q:=fun r=>BW r _) (fun k V H=>∃rest pre acc,ks=pre++rest/\rest.length=k/\(pre.length:Int)<acc/\(acc<=1\/acc<=most)/\V=[iv most,.ptr (.own 37748736) 0,iv acc,iv pre.length] /\
   H=⟨[(37748736,.row [iv op,iv m,.fv (.sl (ks.map Tm.enc))] false)],[]⟩/\Tm.countL rest acc most=Tm.countL ks 1 most) ?_ n ks.length _ _ (by have:=Fj ks;omega) ⟨ks,[],1,rfl,rfl,by simp,.inl (by omega),rfl,rfl,rfl⟩
  rintro k V H rec ⟨rest,pre,acc,hk,hl,hpre,hacc,rfl,rfl,ht⟩ hrec;have hlen:ks.length=pre.length+rest.length:=by rw [hk];simp
  cases rest with
  | nil =>
   rw [<- ht];simp only [P4,O1,PC,Qo,SO,S36,↓XX,XY,↓reduceIte,seval,List.length_map,show ¬ ((pre.length:Int)<ks.length) by simp [hlen],Tm.countL]
   exact Aw _ _
  | cons t rest =>
   have hi:(pre.length:Int)<ks.length:=by rw [hlen];simp;omega
   by_cases ha:acc<most
   ·have hg:=Cr hk;obtain ⟨o,p,l⟩:=t;have hb:=Wf (.mk o p l) (most - acc);have hc:=ih (.mk o p l) (most - acc) (by have:=CT (t:=.mk o p l) (l:=ks) (by rw [hk];simp);omega) (by omega) (by omega);rw [Ag] at hc;simp only [P4,O1,PC,Qo,SO,S36,↓XX,XY,↓reduceIte,seval,List.length_map,hi,ha,↓BS (AY hg) (BA _ _ _),↓CB,Av (show -9223372036854775808<=most - acc by omega) (show most - acc<=9223372036854775807 by omega),↓Ad hc,
     Av (show -9223372036854775808<=acc+(Tm.mk o p l).count (most - acc) by omega) (show acc+(Tm.mk o p l).count (most - acc)<=9223372036854775807 by omega),Av (show -9223372036854775808<=(pre.length:Int)+1 by omega) (show (pre.length:Int)+1<=9223372036854775807 by omega)]
    simp only [AB9] at hl;refine hrec rest.length _ _ (by omega) ?_;refine ⟨rest,pre++[.mk o p l],acc+(Tm.mk o p l).count (most - acc),by rw [hk];simp,rfl,by simp;omega,.inr (by omega),by simp,rfl,?_⟩;rw [<- ht];simp only [Tm.countL,if_pos ha]
   ·rw [<- ht];simp only [P4,O1,PC,Qo,SO,S36,↓XX,XY,↓reduceIte,seval,List.length_map,hi,ha,Tm.countL];exact Aw _ _
def AtJ {n:Nat} (t:Tm) (h:t.wt<n):BW (SS dt (n+1) 12 [.fv t.enc] ⟨[],[]⟩) (.bool (decide (t.count 300<300))):=by
 rw [c12];have hc:=AmB n t 300 h (by omega) (by omega);obtain ⟨op,m,ks⟩:=t;rw [Ag] at hc ⊢;simp only [S12,↓XX,XY,↓reduceIte,seval,↓Ad hc];exact Aw _ _
def Tm.plainT:Nat->Tm->Tm
 | 0,_=>.mk 15 0 []
 | d+1,r=>if r.n % 4<2 then .mk 15 0 [] else .mk (16+r.n % 4 - 2) 0 [plainT d (r.pick 0),plainT d (r.pick 1)]
theorem Rg:∀(d n:Nat) (r:Tm),d+1<n->d<=1000->BW (SS dt n 28 [.fv r.enc,iv d] ⟨[],[]⟩) (r.plainT d).enc:=by
 intro d
 induction d with
 | zero =>
  intro n r hn _;obtain ⟨n,rfl⟩:=psc n (by omega);rw [c28];have hw:=Ar (n:=n) (by omega) r.n (m:=4) (by omega) (by omega);obtain ⟨op,m,ks⟩:=r;rw [Ag];simp only [Tm.n] at hw;simp only [RP,Vc,Ta,Se,Sk,S8,Uf,S28,↓XX,XY,↓reduceIte,seval,↓Ad hw,↓Ad (AO (n:=n) (by omega) 15),Tm.plainT,Ag];exact Bl rfl _
 | succ d ih =>
  intro n r hn hd;obtain ⟨n,rfl⟩:=psc n (by omega);rw [c28];have hw:=Ar (n:=n) (by omega) r.n (m:=4) (by omega) (by omega);have h0:=ih n (r.pick 0) (by omega) (by omega);have h1:=ih n (r.pick 1) (by omega) (by omega);have p0:=AK (n:=n) (by omega) r 0;have p1:=AK (n:=n) (by omega) r 1;have ht:=Cx (n:=n) (by omega) (16+r.n % 4 - 2) [(r.pick 0).plainT d,(r.pick 1).plainT d];have hb0:¬ ((d+1:Nat):Int)<=0:=by omega
  have hm:BM (((d+1:Nat):Int) - 1)=d:=by rw [Av]<;>omega
  have hr:=Int.emod_nonneg r.n (show (4:Int)≠0 by decide)
  have hr2:=Int.emod_lt_of_pos r.n (show (0:Int)<4 by decide)
  have e1:BM (16+r.n % 4)=16+r.n % 4:=by rw [Av]<;>omega
  have e2:BM (16+r.n % 4 - 2)=16+r.n % 4 - 2:=by rw [Av]<;>omega
  simp only [ACb,ACa] at ht;rw [Tm.plainT];obtain ⟨op,m,ks⟩:=r;rw [Ag] at p0 p1 ⊢;simp only [Tm.n] at *;by_cases hk:m % 4<2
  ·simp only [RP,Vc,Ta,Se,Sk,S8,Uf,S28,↓XX,XY,↓reduceIte,seval,↓Ad hw,Tm.n,↓Ad (AO (n:=n) (by omega) 15),hb0,hk,Ag];exact Bl rfl _
  ·simp only [RP,Vc,Ta,Se,Sk,S8,Uf,S28,↓XX,XY,↓reduceIte,seval,↓Ad hw,hb0,hk,e1,e2,hm,↓Ad p0,↓Ad p1,↓Ad h0,↓Ad h1,↓AtB,↓Ad ht];simp only [↓XX,XY,↓reduceIte,seval,Ag];exact Bl rfl _
theorem Jd:∀(d:Nat) (r:Tm),(r.plainT d).wt<=2 ^ (d+1) - 1
 | 0,r=>by simp [Tm.plainT,Tm.wt,Tm.wtL]
 | d+1,r=>by
  have h1:=Jd d (r.pick 0);have h2:=Jd d (r.pick 1);have h3:0<2 ^ (d+1):=Nat.pow_pos (by decide);simp only [Tm.plainT];split
  ·simp only [Tm.wt,Tm.wtL,Nat.pow_succ] at *;omega
  ·simp only [Tm.wt,Tm.wtL,Nat.pow_succ] at *;omega
theorem MA {op n:Int} {k:Nat} (h:ar op=some 0) (h1:op≠1) (hn:BJ op n):(Tm.mk op n []).sc k:=by
 rw [Tm.sc];exact ⟨h,by rw [if_neg h1];exact hn,trivial⟩
theorem Ase {op n:Int} {k:Nat} {a:Tm} (h:ar op=some 1) (h1:op≠1) (hn:BJ op n) (ha:a.sc (k+Ae op 0)):(Tm.mk op n [a]).sc k:=by
 rw [Tm.sc];exact ⟨h,by rw [if_neg h1];exact hn,ha,trivial⟩
theorem Yy {op n:Int} {k:Nat} {a b:Tm} (h:ar op=some 2) (h1:op≠1) (hn:BJ op n) (ha:a.sc (k+Ae op 0)) (hb:b.sc (k+Ae op 1)):(Tm.mk op n [a,b]).sc k:=by
 rw [Tm.sc];exact ⟨h,by rw [if_neg h1];exact hn,ha,hb,trivial⟩
theorem ArK {op n:Int} {k:Nat} {a b c:Tm} (h:ar op=some 3) (h1:op≠1) (hn:BJ op n) (ha:a.sc (k+Ae op 0)) (hb:b.sc (k+Ae op 1)) (hc:c.sc (k+Ae op 2)):(Tm.mk op n [a,b,c]).sc k:=by
 rw [Tm.sc];exact ⟨h,by rw [if_neg h1];exact hn,ha,hb,hc,trivial⟩
theorem Ass {op n:Int} {k:Nat} {a b c d:Tm} (h:ar op=some 4) (h1:op≠1) (hn:BJ op n) (ha:a.sc (k+Ae op 0)) (hb:b.sc (k+Ae op 1)) (hc:c.sc (k+Ae op 2)) (hd:d.sc (k+Ae op 3)):(Tm.mk op n [a,b,c,d]).sc k:=by
 rw [Tm.sc];exact ⟨h,by rw [if_neg h1];exact hn,ha,hb,hc,hd,trivial⟩
theorem XF {n:Int} {k:Nat} (h:0<=n) (h2:n<k):(Tm.mk 1 n []).sc k:=by
 rw [Tm.sc];exact ⟨by decide,by rw [if_pos rfl];exact ⟨h,h2⟩,trivial⟩
theorem OP {op:Int} (h2:op≠2) (h26:op≠26) (h25:op≠25):BJ op 0:=by
 rw [BJ,if_neg h2,if_neg h26,if_neg h25]
theorem Fe {op:Int} {k:Nat} (h:ar op=some 0/\op≠1/\op≠2/\op≠26/\op≠25:=by decide):(Tm.mk op 0 []).sc k:=MA h.1 h.2.1 (OP h.2.2.1 h.2.2.2.1 h.2.2.2.2)
theorem FK {op:Int} {k:Nat} {a:Tm} (ha:a.sc (k+Ae op 0)) (h:ar op=some 1/\op≠1/\op≠2/\op≠26/\op≠25:=by decide):(Tm.mk op 0 [a]).sc k:=Ase h.1 h.2.1 (OP h.2.2.1 h.2.2.2.1 h.2.2.2.2) ha
theorem CQ {op:Int} {k:Nat} {a b:Tm} (ha:a.sc (k+Ae op 0)) (hb:b.sc (k+Ae op 1)) (h:ar op=some 2/\op≠1/\op≠2/\op≠26/\op≠25:=by decide):(Tm.mk op 0 [a,b]).sc k:=Yy h.1 h.2.1 (OP h.2.2.1 h.2.2.2.1 h.2.2.2.2) ha hb
theorem Anz {op:Int} {k:Nat} {a b c:Tm} (ha:a.sc (k+Ae op 0)) (hb:b.sc (k+Ae op 1)) (hc:c.sc (k+Ae op 2)) (h:ar op=some 3/\op≠1/\op≠2/\op≠26/\op≠25:=by decide):(Tm.mk op 0 [a,b,c]).sc k:=ArK h.1 h.2.1 (OP h.2.2.1 h.2.2.2.1 h.2.2.2.2) ha hb hc
theorem Avg {op:Int} {k:Nat} {a b c d:Tm} (ha:a.sc (k+Ae op 0)) (hb:b.sc (k+Ae op 1)) (hc:c.sc (k+Ae op 2)) (hd:d.sc (k+Ae op 3)) (h:ar op=some 4/\op≠1/\op≠2/\op≠26/\op≠25:=by decide):(Tm.mk op 0 [a,b,c,d]).sc k:=Ass h.1 h.2.1 (OP h.2.2.1 h.2.2.2.1 h.2.2.2.2) ha hb hc hd
theorem AsT (k:Nat):Tm.z.sc k:=Fe
theorem Akp (k:Nat):∀n,(HH n).sc k
 | 0=>Fe
 | n+1=>FK (Akp _ n)
theorem I5 (k:Nat):∀(d:Nat) (r:Tm),(r.plainT d).sc k
 | 0,r=>by rw [Tm.plainT];exact Fe
 | d+1,r=>by
  have h1:=Int.emod_nonneg r.n (show (4:Int)≠0 by decide)
  have h2:=Int.emod_lt_of_pos r.n (show (0:Int)<4 by decide)
  rw [Tm.plainT];split
  ·exact Fe
  ·have h3:16+r.n % 4 - 2=16\/16+r.n % 4 - 2=17:=by omega
   rcases h3 with h3 | h3<;>(rw [h3];exact CQ (I5 _ d _) (I5 _ d _))
mutual
theorem GG:∀t:Tm,t.dp<=t.wt
 | .mk op n l=>by
  have:=dpL_wt l
  simp only [Tm.dp,Tm.wt];omega
theorem dpL_wt:∀l:List Tm,Tm.dpL l<=Tm.wtL l
 | []=>by simp [Tm.dpL]
 | t::l=>by
  have h1:=GG t;have h2:=dpL_wt l;simp only [Tm.dpL,Tm.wtL];omega
end
abbrev Bb:=List (Int×Tm)
def v1 (p:Int×Tm):FV:=.agg [.int .i64 p.1,.int .i64 p.2.op,.int .i64 p.2.n,.sl (p.2.kids.map Tm.enc)]
def A6 (g:Bb):FV:=.sl (g.map v1)
structure GOk (e:Nat) (g:Bb):Prop where
 len:g.length+2 * e<=60
 ok:∀(i:Nat) (p:Int×Tm),g[i]?=some p->p.2.sc i/\p.2.wt<=100000000000/\p.2.dp<=6000
theorem A0 {e e':Nat} {g:Bb} (h:e'<=e) (hg:GOk e g):GOk e' g:=⟨by have:=hg.len;omega,hg.ok⟩
theorem Du {e:Nat} {g:Bb} {s:Int} {a:Tm} (hg:GOk (e+1) g) (h1:a.sc g.length) (h2:a.wt<=100000000000) (h3:a.dp<=6000):GOk e (g++[(s,a)]):=by
 refine ⟨by have:=hg.len;simp;omega,?_⟩;intro i p hp;by_cases hi:i<g.length
 ·rw [List.getElem?_append_left hi] at hp;exact hg.ok i p hp
 ·rw [List.getElem?_append_right (by omega)] at hp;have hi2:i - g.length=0:=by
   cases h:i - g.length with
   | zero=>rfl
   | succ j=>rw [h] at hp;simp at hp
  rw [hi2] at hp;simp only [List.getElem?_cons_zero,AB5] at hp;subst hp;rw [show i=g.length by omega]
  exact ⟨h1,h2,h3⟩
def Wg (e:Nat):Nat:=8000 * 4 ^ e
def Dg (e:Nat):Nat:=200+10 * e
theorem Na (e:Nat):Wg (e+1)=4 * Wg e:=by unfold Wg;rw [Nat.pow_succ];omega
theorem M5 (e:Nat):8000<=Wg e:=by
 have:1<=4 ^ e:=Nat.one_le_pow _ _ (by decide)
 unfold Wg;omega
theorem UE {e e':Nat} (h:e<=e'):Wg e<=Wg e':=by
 unfold Wg;exact Nat.mul_le_mul_left _ (Nat.pow_le_pow_right (by decide) h)
theorem O3 {e:Nat} (h:e<=10):Wg e<=21000000000:=Nat.le_trans (UE h) (by decide)
structure TOk (k e:Nat) (t:Tm):Prop where
 sc:t.sc k
 wt:t.wt<=Wg e
 dp:t.dp<=Dg e
theorem Wy {k e e':Nat} {t:Tm} (h:e<=e') (ht:TOk k e t):TOk k e' t:=⟨ht.sc,Nat.le_trans ht.wt (UE h),by have:=ht.dp;unfold Dg at *;omega⟩
structure AOk (k:Nat) (a:Tm):Prop where
 sc:a.sc k
 wt:a.wt<=1000000000000000
 dp:a.dp<=10000
structure NOk (k:Nat) (a:Tm):Prop where
 sc:a.sc k
 wt:a.wt<=3000
 dp:a.dp<=120
theorem BG {k:Nat} {a:Tm} (h:NOk k a):AOk k a:=⟨h.sc,by have:=h.wt;omega,by have:=h.dp;omega⟩
def Tm.badR:Tm->Bool
 | .mk op _ [_,z,_,_]=>decide (op=13) && (decide (z.op=19) || z.badR)
 | _=>false
theorem AnQ {t:Tm} (h:t.badR=true):t.op=13:=by
 unfold Tm.badR at h;split at h
 ·rename_i he;simp only [Bool.and_eq_true,decide_eq_true_eq] at h;exact h.1
 ·cases h
def Awz (op n:Int) (ks:List Tm):Prop :=
 ar op=some ks.length/\(op=1->0<=n/\n<=1000000)/\(op=13->n=0)/\(op=5->∃m a b x,ks=[.mk 4 m [a,b],x])/\(op=8\/op=9->∃m a x y,ks=[.mk 7 m [a,x,y]]) /\
 (op=19->∀x∈ks,x.op≠19/\x.op≠13)/\(op=30->∀x∈ks,x.op≠30)/\(op=13->∀a b c d,ks=[a,b,c,d]->b.op≠30/\(d.op≠19/\d.op≠30)/\d.badR=false)
mutual
def Tm.good:Tm->Prop
 | .mk op n ks=>Awz op n ks/\Tm.goodL ks
def Tm.goodL:List Tm->Prop
 | []=>True
 | t::l=>t.good/\Tm.goodL l
end
theorem RE:∀{l:List Tm} {t:Tm},Tm.goodL l->t∈l->t.good
 | x::l,t,h,hm=>by
  rw [Tm.goodL] at h;rcases List.mem_cons.1 hm with rfl | hm
  ·exact h.1
  ·exact RE h.2 hm
theorem Hg (ev:Int->Int->Tm->Option (RV×Int×Int)) (hev:∀s e t v s',ev s e t=some (v,s',0)->e=0) (op:Int) (env:List RV):∀(l:List Tm) (i:Nat) (s e:Int) (vs:List RV) (s':Int),AW ev op env i l s e=some (vs,s',0)->e=0
 | [],i,s,e,vs,s',h=>by
  simp only [AW,AB5,AB6] at h;exact h.2.2
 | t::l,i,s,e,vs,s',h=>by
  simp only [AW] at h;split at h
  ·cases hk:AW ev op env (i+1) l s e with
   | none=>rw [hk] at h;cases h
   | some q =>
    obtain ⟨vs1,s1,e1⟩:=q;rw [hk] at h;simp only [AB8,AB5,AB6] at h;rw [h.2.2] at hk;exact Hg ev hev op env l _ _ _ _ _ hk
  ·split at h
   ·cases h
   ·rename_i v s1 e1 he;cases hk:AW ev op env (i+1) l s1 e1 with
    | none=>rw [hk] at h;cases h
    | some q =>
     obtain ⟨vs2,s2,e2⟩:=q;rw [hk] at h;simp only [AB8,AB5,AB6] at h;rw [h.2.2] at hk
     have:=Hg ev hev op env l _ _ _ _ _ hk
     rw [this] at he;exact hev _ _ _ _ _ he
theorem Cy {f:Nat} {s e:Int} {t:Tm} {env:List RV} {v:RV} {s':Int} (h:AB f s e t env=some (v,s',0)):e=0:=by
 cases f with
 | zero=>rw [AB] at h;cases h
 | succ f =>
  obtain ⟨op,n,ks⟩:=t;rw [AB] at h;by_cases he:e=0
  ·exact he
  ·rw [if_pos he] at h;simp only [AB5,AB6] at h;exact h.2.2
theorem Iq {f:Nat} {s e:Int} {w v:RV} {s':Int} (h:headR f s e w=some (v,s',0)):e=0:=by
 cases f with
 | zero=>rw [headR] at h;cases h
 | succ f =>
  rw [headR] at h;by_cases he:e=0
  ·exact he
  ·rw [if_pos he] at h;simp only [AB5,AB6] at h;exact h.2.2
theorem Cs {α:Type} {l:List α} (h:l.length=1):∃a,l=[a]:=by
 match l,h with
 | [a],_=>exact ⟨a,rfl⟩
theorem Ml {α:Type} {l:List α} (h:l.length=2):∃a b,l=[a,b]:=by
 match l,h with
 | [a,b],_=>exact ⟨a,b,rfl⟩
theorem Arj {α:Type} {l:List α} (h:l.length=3):∃a b c,l=[a,b,c]:=by
 match l,h with
 | [a,b,c],_=>exact ⟨a,b,c,rfl⟩
theorem Nd {α:Type} {l:List α} (h:l.length=4):∃a b c d,l=[a,b,c,d]:=by
 match l,h with
 | [a,b,c,d],_=>exact ⟨a,b,c,d,rfl⟩
theorem AgJ {f:Nat} {s s2 m:Int} {a b:Tm} {env:List RV} {r:RV} (h:AB f s 0 (.mk 4 m [a,b]) env=some (r,s2,0)):∃va,r=.node 4 m [va,.clo env b]:=by
 cases f with
 | zero=>rw [AB] at h;cases h
 | succ f =>
  rw [AB] at h;rw [if_neg (by simp)] at h;split at h
  ·cases h
  rw [if_neg (by decide)] at h;split at h
  ·cases h
  split at h
  ·cases h
  split at h
  ·cases h
  rename_i vs s1 e1 hk;have he:=Iq h;subst he;simp only [AW] at hk;rw [if_neg (by decide)] at hk;split at hk
  ·cases hk
  rename_i va s3 e3 hva;rw [if_pos (by decide)] at hk;simp only [AB8,AB5,AB6] at hk;obtain ⟨rfl,rfl,rfl⟩:=hk;cases f with
  | zero=>rw [headR] at h;cases h
  | succ f =>
   rw [headR] at h;rw [if_neg (by simp)] at h;split at h
   ·cases h
   have hop:(RV.node 4 m [va,.clo env b]).op=4:=rfl;rw [hop,if_neg (by decide),if_neg (by decide),if_neg (by decide),if_neg (by decide),if_neg (by decide)] at h;simp only [AB5,AB6] at h;exact ⟨va,h.1.symm⟩
theorem Anr {f:Nat} {s s2 m:Int} {a x y:Tm} {env:List RV} {r:RV} (h:AB f s 0 (.mk 7 m [a,x,y]) env=some (r,s2,0)):∃va vx vy,r=.node 7 m [va,vx,vy]:=by
 cases f with
 | zero=>rw [AB] at h;cases h
 | succ f =>
  rw [AB] at h;rw [if_neg (by simp)] at h;split at h
  ·cases h
  rw [if_neg (by decide)] at h;split at h
  ·cases h
  split at h
  ·cases h
  split at h
  ·cases h
  rename_i vs s1 e1 hk;have he:=Iq h;subst he;have hl:∃va vx vy,vs=[va,vx,vy]:=by
   simp only [AW] at hk;rw [if_neg (by decide)] at hk;split at hk
   ·cases hk
   rename_i va s3 e3 hva;rw [if_neg (by decide)] at hk;split at hk
   ·cases hk
   rename_i vx s4 e4 hvx;rw [if_neg (by decide)] at hk;split at hk
   ·cases hk
   rename_i vy s5 e5 hvy;simp only [AB8,AB5,AB6] at hk;exact ⟨va,vx,vy,hk.1.symm⟩
  obtain ⟨va,vx,vy,rfl⟩:=hl;cases f with
  | zero=>rw [headR] at h;cases h
  | succ f =>
   rw [headR] at h;rw [if_neg (by simp)] at h;split at h
   ·cases h
   have hop:(RV.node 7 m [va,vx,vy]).op=7:=rfl;rw [hop,if_neg (by decide),if_neg (by decide),if_neg (by decide),if_neg (by decide),if_neg (by decide)] at h;simp only [AB5,AB6] at h;exact ⟨va,vx,vy,h.1.symm⟩
theorem Dx {f:Nat} {s nd e:Int} {v:RV} {u d:Int} {t:Tm} {s' nd':Int} (h:AL f s nd e v u d=some (t,s',nd',0)):e=0:=by
 cases f with
 | zero=>rw [AL] at h;cases h
 | succ f =>
  rw [AL] at h;split at h
  ·cases h
  by_cases he:e=0
  ·exact he
  ·rw [if_neg (show ¬ (e=0/\(3000<nd+1\/120<d)) from fun h=>he h.1),if_pos he] at h
   simp only [AB5,AB6] at h;exact h.2.2.2
abbrev Mv:=List (List Nat×Nat)
inductive Rule:Int->Nat->Mv->Prop
 | natT:Rule 10 10 []
 | natU:Rule 10 2 []
 | tyT:Rule 14 11 []
 | tyU:Rule 14 2 []
 | uT:Rule 2 12 []
 | uU:Rule 2 2 []
 | liftT:Rule 18 13 [([],1)]
 | liftU:Rule 18 2 [([],1)]
 | piT (a b:Nat) (ha:a<6) (hb:b<6):Rule 3 14 [([],10+a),([a],10+b)]
 | piU (a:Nat) (ha:a<10):Rule 3 2 [([],2),([a],2)]
 | sigT (a b:Nat) (ha:a<6) (hb:b<6):Rule 6 15 [([],10+a),([a],10+b)]
 | sigU (a s0 s1:Nat) (ha:a<10) (hs:s0=2/\s1=2\/10<=s0/\10<=s1):Rule 6 2 [([],s0),([a],s1)]
 | lam (a s s0:Nat) (ha:a<10):Rule 4 4 [([],s0),([a],s)]
 | pair (s0 s1 s2:Nat):Rule 7 5 [([],s0),([],s1),([],s2)]
 | zero:Rule 11 0 []
 | suc:Rule 12 0 [([],0)]
 | recR (s:Nat) (hs:s<6):Rule 13 s [([0],10+s),([],s),([s,0],s),([],0)]
 | tint:Rule 15 1 []
 | tfun:Rule 16 1 [([],1),([],1)]
 | tpro:Rule 17 1 [([],1),([],1)]
 | quo:Rule 19 3 [([],6)]
 | spl:Rule 30 6 [([],3)]
 | olam:Rule 20 6 [([],1),([6],6)]
 | oapp:Rule 21 6 [([],6),([],6)]
 | opair:Rule 22 6 [([],6),([],6)]
 | ofst:Rule 23 6 [([],6)]
 | osnd:Rule 24 6 [([],6)]
 | oint:Rule 25 6 []
 | oprim:Rule 26 6 [([],6),([],6)]
 | oif:Rule 27 6 [([],6),([],6),([],6)]
 | olet:Rule 28 6 [([],6),([6],6)]
 | ofix:Rule 29 6 [([],1),([6],6)]
def Fs {op:Int} {s:Nat} {sg:Mv} (h:Rule op s sg):op≠1/\op≠5/\op≠8/\op≠9:=by
 cases h<;>decide
def G8 {op:Int} {s:Nat} {sg:Mv} (h:Rule op s sg) {i:Nat} {bs:List Nat} {s':Nat} (hi:sg[i]?=some (bs,s')):bs.length=Ae op i/\∀x∈bs,x<10:=by
 have hlt:=(List.getElem?_eq_some_iff.1 hi).1;have h4:i<4:=by cases h<;>simp only [AB9,List.length_nil] at hlt<;>omega
 have hi4:i=0\/i=1\/i=2\/i=3:=by omega
 cases h<;>rcases hi4 with rfl | rfl | rfl | rfl<;>simp only [List.getElem?_cons_zero,List.getElem?_cons_succ,List.getElem?_nil,AB5,AB6,reduceCtorEq] at hi<;>(obtain ⟨rfl,rfl⟩:=hi;refine ⟨rfl,?_⟩;simp;try omega)
inductive HasT:List Nat->Tm->Nat->Prop
 | var (G:List Nat) (n:Int) (s:Nat) (h0:0<=n) (h:G[n.toNat]?=some s) (hs:s<10):HasT G (.mk 1 n []) s
 | node (G:List Nat) (op n:Int) (ks:List Tm) (s:Nat) (sg:Mv) (hr:Rule op s sg) (hl:ks.length=sg.length) (hk:∀(i:Nat) t bs s',ks[i]?=some t->sg[i]?=some (bs,s')->HasT (bs++G) t s'):HasT G (.mk op n ks) s
 | app (G:List Nat) (n m:Int) (a b x:Tm) (y s s0:Nat) (hs:s<10) (hy:y<10) (ha:HasT G a s0) (hb:HasT (y::G) b s) (hx:HasT G x y):HasT G (.mk 5 n [.mk 4 m [a,b],x]) s
 | fst (G:List Nat) (n m:Int) (a x y:Tm) (s s1 s0:Nat) (hs:s<10) (ha:HasT G a s0) (hx:HasT G x s) (hy:HasT G y s1):HasT G (.mk 8 n [.mk 7 m [a,x,y]]) s
 | snd (G:List Nat) (n m:Int) (a x y:Tm) (s s1 s0:Nat) (hs:s<10) (ha:HasT G a s0) (hx:HasT G x s1) (hy:HasT G y s):HasT G (.mk 9 n [.mk 7 m [a,x,y]]) s
theorem Kr (op d c:Int):∀(l:List Tm) (i j:Nat),(Tm.shiftL op i l d c)[j]?=(l[j]?).map fun t=>t.shift d (c+Ae op (i+j))
 | [],_,_=>by simp [Tm.shiftL]
 | t::l,i,0=>by simp [Tm.shiftL]
 | t::l,i,j+1=>by
  simp only [Tm.shiftL,List.getElem?_cons_succ];rw [Kr op d c l (i+1) j,show i+1+j=i+(j+1) by omega]
theorem PW (op n d:Int) (u:Tm):∀(l:List Tm) (i j:Nat),(Tm.substL op i l n d u)[j]?=(l[j]?).map fun t=>t.subst (n+Ae op (i+j)) (d+Ae op (i+j)) u
 | [],_,_=>by simp [Tm.substL]
 | t::l,i,0=>by simp [Tm.substL]
 | t::l,i,j+1=>by
  simp only [Tm.substL,List.getElem?_cons_succ];rw [PW op n d u l (i+1) j,show i+1+j=i+(j+1) by omega]
theorem Ke:∀{l:List Tm} {j:Nat} {t:Tm},l[j]?=some t->t.wt<=Tm.wtL l
 | [],_,_,h=>by simp at h
 | x::l,0,t,h=>by
  simp only [List.getElem?_cons_zero,AB5] at h;subst h;simp only [Tm.wtL];omega
 | x::l,j+1,t,h=>by
  simp only [List.getElem?_cons_succ] at h
  have:=Ke h
  simp only [Tm.wtL];omega
def AoZ {G1 D G2:List Nat} {n:Nat} (h:G1.length<=n):(G1++D++G2)[n+D.length]?=(G1++G2)[n]?:=by
 rw [List.append_assoc,List.getElem?_append_right (by omega),List.getElem?_append_right (by omega),List.getElem?_append_right h];congr 1;omega
def An5 {G1 D G2:List Nat} {n:Nat} (h:n<G1.length):(G1++D++G2)[n]?=(G1++G2)[n]?:=by
 rw [List.append_assoc,List.getElem?_append_left h,List.getElem?_append_left h]
theorem Yw {G:List Nat} {t:Tm} {s:Nat} (h:HasT G t s):∀(G1 D G2:List Nat),G=G1++G2->G1.length+G2.length+D.length+2 * t.wt<=9000000000000000000->HasT (G1++D++G2) (t.shift D.length G1.length) s:=by
 induction h with
 | var G n s h0 h hs =>
  intro G1 D G2 hG hb;subst hG;have hn:n.toNat<(G1++G2).length:=(List.getElem?_eq_some_iff.1 h).1;rw [List.length_append] at hn;rw [Tm.shift,Tm.shiftL];by_cases hc:(G1.length:Int)<=n
  ·rw [if_pos ⟨rfl,hc⟩,Av (by omega) (by omega)];refine HasT.var _ _ _ (by omega) ?_ hs;rw [show (n+(D.length:Int)).toNat=n.toNat+D.length by omega,AoZ (by omega)]
   exact h
  ·rw [if_neg (fun h=>hc h.2)];refine HasT.var _ _ _ h0 ?_ hs;rw [An5 (by omega)];exact h
 | node G op n ks s sg hr hl hk ih =>
  intro G1 D G2 hG hb;rw [Tm.shift,if_neg (fun h=>(Fs hr).1 h.1)];refine HasT.node _ _ _ _ _ sg hr (by rw [Ew];exact hl) ?_;intro i t bs s' ht hs;rw [Kr,Nat.zero_add] at ht;cases hx:ks[i]? with
  | none=>rw [hx] at ht;cases ht
  | some x =>
   rw [hx] at ht;simp only [AB8,AB5] at ht;subst ht;have h1:=G8 hr hs;have h2:=Bo op i;have h3:=Ke hx;simp only [Tm.wt] at hb
   have:=ih i x bs s' hx hs (bs++G1) D G2 (by rw [hG,List.append_assoc]) (by rw [List.length_append];omega)
   rw [List.length_append,h1.1] at this;rw [show (G1.length:Int)+(Ae op i:Int)=((Ae op i+G1.length:Nat):Int) by omega]
   simpa using this
 | app G n m a b x y s s0 hs hy ha hb hx iha ihb ihx =>
  intro G1 D G2 hG hbd;simp only [Tm.wt,Tm.wtL] at hbd;have h1:=iha G1 D G2 hG (by omega);have h2:=ihb (y::G1) D G2 (by rw [hG];rfl) (by simp only [AB9];omega);have h3:=ihx G1 D G2 hG (by omega);simp only [Tm.shift,Tm.shiftL];rw [if_neg (by omega),if_neg (by omega)];refine HasT.app _ _ _ _ _ _ y s s0 hs hy ?_ ?_ ?_
  ·simpa [Ae] using h1
  ·simpa [Ae] using h2
  ·simpa [Ae] using h3
 | fst G n m a x y s s1 s0 hs ha hx hy iha ihx ihy =>
  intro G1 D G2 hG hbd;simp only [Tm.wt,Tm.wtL] at hbd;have h1:=iha G1 D G2 hG (by omega);have h2:=ihx G1 D G2 hG (by omega);have h3:=ihy G1 D G2 hG (by omega);simp only [Tm.shift,Tm.shiftL];rw [if_neg (by omega),if_neg (by omega)];refine HasT.fst _ _ _ _ _ _ s s1 s0 hs ?_ ?_ ?_
  ·simpa [Ae] using h1
  ·simpa [Ae] using h2
  ·simpa [Ae] using h3
 | snd G n m a x y s s1 s0 hs ha hx hy iha ihx ihy =>
  intro G1 D G2 hG hbd;simp only [Tm.wt,Tm.wtL] at hbd;have h1:=iha G1 D G2 hG (by omega);have h2:=ihx G1 D G2 hG (by omega);have h3:=ihy G1 D G2 hG (by omega);simp only [Tm.shift,Tm.shiftL];rw [if_neg (by omega),if_neg (by omega)];refine HasT.snd _ _ _ _ _ _ s s1 s0 hs ?_ ?_ ?_
  ·simpa [Ae] using h1
  ·simpa [Ae] using h2
  ·simpa [Ae] using h3
def Gt {G:List Nat} {t:Tm} {s:Nat} (h:HasT G t s) (D:List Nat) (hb:G.length+D.length+2 * t.wt<=9000000000000000000):HasT (D++G) (t.shift D.length 0) s:=by
 have:=Yw h [] D G rfl (by simp only [List.length_nil];omega)
 simpa using this
theorem Qi {G:List Nat} {t:Tm} {s:Nat} (h:HasT G t s):∀(G1 G2:List Nat) (y:Nat) (u:Tm),G=G1++y::G2->HasT G2 u y->G1.length+G2.length+2 * t.wt+2 * u.wt<=4000000000000000000->HasT (G1++G2) (t.subst G1.length G1.length u) s:=by
 induction h with
 | var G n s h0 h hs =>
  intro G1 G2 y u hG hu hb;subst hG;have hn:n.toNat<(G1++y::G2).length:=(List.getElem?_eq_some_iff.1 h).1;simp only [List.length_append,AB9] at hn;rw [Tm.subst,if_pos rfl];by_cases h1:n=(G1.length:Int)
  ·rw [if_pos h1];rw [show n.toNat=G1.length by omega,List.getElem?_append_right (Nat.le_refl _),Nat.sub_self] at h
   simp only [List.getElem?_cons_zero,AB5] at h;subst h
   have:=Gt hu G1 (by omega)
   exact this
  ·rw [if_neg h1];by_cases h2:(G1.length:Int)<n
   ·rw [if_pos h2,Av (by omega) (by omega)];refine HasT.var _ _ _ (by omega) ?_ hs;rw [List.getElem?_append_right (by omega)] at h ⊢;rw [show n.toNat - G1.length=((n - 1).toNat - G1.length)+1 by omega,List.getElem?_cons_succ] at h
    exact h
   ·rw [if_neg h2];refine HasT.var _ _ _ h0 ?_ hs;rw [List.getElem?_append_left (by omega)] at h ⊢;exact h
 | node G op n ks s sg hr hl hk ih =>
  intro G1 G2 y u hG hu hb;rw [Tm.subst,if_neg (Fs hr).1];refine HasT.node _ _ _ _ _ sg hr (by rw [Ht];exact hl) ?_;intro i t bs s' ht hs;rw [PW,Nat.zero_add] at ht;cases hx:ks[i]? with
  | none=>rw [hx] at ht;cases ht
  | some x =>
   rw [hx] at ht;simp only [AB8,AB5] at ht;subst ht;have h1:=G8 hr hs;have h2:=Bo op i;have h3:=Ke hx;simp only [Tm.wt] at hb
   have:=ih i x bs s' hx hs (bs++G1) G2 y u (by rw [hG,List.append_assoc]) hu (by rw [List.length_append];omega)
   rw [List.length_append,h1.1] at this;rw [show (G1.length:Int)+(Ae op i:Int)=((Ae op i+G1.length:Nat):Int) by omega]
   simpa using this
 | app G n m a b x y s s0 hs hy ha hb hx iha ihb ihx =>
  intro G1 G2 z u hG hu hbd;simp only [Tm.wt,Tm.wtL] at hbd;have h1:=iha G1 G2 z u hG hu (by omega);have h2:=ihb (y::G1) G2 z u (by rw [hG];rfl) hu (by simp only [AB9];omega);have h3:=ihx G1 G2 z u hG hu (by omega);simp only [Tm.subst,Tm.substL];rw [if_neg (by omega),if_neg (by omega)];refine HasT.app _ _ _ _ _ _ y s s0 hs hy ?_ ?_ ?_
  ·simpa [Ae] using h1
  ·simpa [Ae] using h2
  ·simpa [Ae] using h3
 | fst G n m a x y s s1 s0 hs ha hx hy iha ihx ihy =>
  intro G1 G2 z u hG hu hbd;simp only [Tm.wt,Tm.wtL] at hbd;have h1:=iha G1 G2 z u hG hu (by omega);have h2:=ihx G1 G2 z u hG hu (by omega);have h3:=ihy G1 G2 z u hG hu (by omega);simp only [Tm.subst,Tm.substL];rw [if_neg (by omega),if_neg (by omega)];refine HasT.fst _ _ _ _ _ _ s s1 s0 hs ?_ ?_ ?_
  ·simpa [Ae] using h1
  ·simpa [Ae] using h2
  ·simpa [Ae] using h3
 | snd G n m a x y s s1 s0 hs ha hx hy iha ihx ihy =>
  intro G1 G2 z u hG hu hbd;simp only [Tm.wt,Tm.wtL] at hbd;have h1:=iha G1 G2 z u hG hu (by omega);have h2:=ihx G1 G2 z u hG hu (by omega);have h3:=ihy G1 G2 z u hG hu (by omega);simp only [Tm.subst,Tm.substL];rw [if_neg (by omega),if_neg (by omega)];refine HasT.snd _ _ _ _ _ _ s s1 s0 hs ?_ ?_ ?_
  ·simpa [Ae] using h1
  ·simpa [Ae] using h2
  ·simpa [Ae] using h3
def Mb (op:Int):Option Nat:=if op=10 then some 0 else if op=14 then some 1 else if op=2 then some 2 else if op=18 then some 3 else if op=3 then some 4 else if op=6 then some 5 else none
def ApQ {op:Int} {s:Nat} {sg:Mv} (h:Rule op s sg) (hs:10<=s):Mb op=some (s - 10)/\s<16:=by
 cases h<;>first | omega | exact ⟨rfl,by omega⟩
theorem BF {G:List Nat} {t:Tm} {s:Nat} (h:HasT G t (10+s)):Mb t.op=some s/\s<6:=by
 generalize hq:10+s=q at h;cases h with
 | node _ op n ks _ sg hr hl hk =>
  have:=ApQ hr (by omega)
  rw [Tm.op,this.1];exact ⟨by congr 1;omega,by omega⟩
 | _=>omega
theorem Ln {G:List Nat} {t:Tm} {s:Nat} (h:HasT G t s):(s≠3->t.op≠19)/\(s≠6->t.op≠30):=by
 cases h with
 | var=>simp only [Tm.op];omega
 | node _ op n ks _ sg hr hl hk =>
  simp only [Tm.op];cases hr<;>refine ⟨?_,?_⟩<;>intro h1<;>first | decide | exact absurd rfl h1
 | app=>simp only [Tm.op];omega
 | fst=>simp only [Tm.op];omega
 | snd=>simp only [Tm.op];omega
theorem VL:∀{l:List Tm},(∀(i:Nat) t,l[i]?=some t->t.good)->Tm.goodL l
 | [],_=>by rw [Tm.goodL];trivial
 | x::l,h=>by
  rw [Tm.goodL];exact ⟨h 0 x rfl,VL fun i t hi=>h (i+1) t (by simpa using hi)⟩
def Sq {α:Type} {l:List α} {x:α} (h:x∈l):∃i:Nat,l[i]?=some x:=by
 obtain ⟨i,hi,he⟩:=List.mem_iff_getElem.1 h;exact ⟨i,by rw [List.getElem?_eq_getElem hi,he]⟩
theorem Anl {G:List Nat} {t:Tm} {s:Nat} (h:HasT G t s):t.op=13->s<6:=by
 intro ho;cases h with
 | var=>simp [Tm.op] at ho
 | node _ op n ks _ sg hr hl hk =>
  simp only [Tm.op] at ho;subst ho;cases hr with
  | recR s hs=>exact hs
 | app=>simp [Tm.op] at ho
 | fst=>simp [Tm.op] at ho
 | snd=>simp [Tm.op] at ho
theorem AnK {G:List Nat} {t:Tm} {s:Nat} (h:HasT G t s):t.badR=true->s=3:=by
 induction h with
 | var=>intro h;simp [Tm.badR] at h
 | node G op n ks s sg hr hl hk ih =>
  intro hb;unfold Tm.badR at hb;split at hb
  ·rename_i o n' a z c d he;simp only [Tm.mk.injEq] at he;obtain ⟨rfl,rfl,rfl⟩:=he;simp only [Bool.and_eq_true,Bool.or_eq_true,decide_eq_true_eq] at hb;obtain ⟨rfl,hb⟩:=hb;cases hr with
   | recR s hs =>
    rcases hb with hb | hb
    ·have:=(Ln (hk 1 z [] s rfl rfl)).1
     exact Decidable.byContradiction fun h=>this h hb
    ·exact ih 1 z [] s rfl rfl hb
  ·cases hb
 | app=>intro h;simp [Tm.badR] at h
 | fst=>intro h;simp [Tm.badR] at h
 | snd=>intro h;simp [Tm.badR] at h
theorem Ajo {G:List Nat} {t:Tm} {s:Nat} (h:HasT G t s):∀k,t.sc k->k+2 * t.wt<=1000000->t.good:=by
 induction h with
 | var G n s h0 h hs =>
  intro k hsc hk;rw [Tm.sc,if_pos rfl] at hsc;rw [Tm.good,Tm.goodL];refine ⟨⟨rfl,fun _=>⟨h0,by simp only [Tm.wt,Tm.wtL] at hk;omega⟩,?_⟩,trivial⟩;exact ⟨by omega,by omega,by omega,by omega,by omega,by omega⟩
 | node G op n ks s sg hr hl hk ih =>
  intro k hsc hb;have h0:=hsc;rw [Tm.sc,if_neg (Fs hr).1] at hsc;obtain ⟨h1,h2,h3⟩:=hsc;obtain ⟨o1,o5,o8,o9⟩:=Fs hr;have hkid:∀(i:Nat) t,ks[i]?=some t->∃bs s',sg[i]?=some (bs,s'):=by
   intro i t hi
   have:i<sg.length:=by rw [<- hl];exact (List.getElem?_eq_some_iff.1 hi).1
   exact ⟨_,_,List.getElem?_eq_getElem this⟩
  rw [Tm.good];refine ⟨⟨h1,fun h=>absurd h o1,?_,fun h=>absurd h o5,fun h=>by omega,?_,?_,?_⟩,VL ?_⟩
  ·rintro rfl;simpa [BJ] using h2
  ·rintro rfl x hx;obtain ⟨i,hi⟩:=Sq hx;cases hr;have hi0:i=0:=by
    have:=(List.getElem?_eq_some_iff.1 hi).1
    simp only [AB9,List.length_nil] at hl;omega
   subst hi0;have hx:=hk 0 x [] 6 hi rfl;exact ⟨(Ln hx).1 (by decide),fun h=>by have:=Anl hx h;omega⟩
  ·rintro rfl x hx;obtain ⟨i,hi⟩:=Sq hx;cases hr;have hi0:i=0:=by
    have:=(List.getElem?_eq_some_iff.1 hi).1
    simp only [AB9,List.length_nil] at hl;omega
   subst hi0;exact (Ln (hk 0 x [] 3 hi rfl)).2 (by decide)
  ·rintro rfl a b c d rfl;cases hr with
   | recR s hs =>
    have hb:=Ln (hk 1 b [] s rfl rfl);have hd:=Ln (hk 3 d [] 0 rfl rfl);refine ⟨hb.2 (by omega),⟨hd.1 (by decide),hd.2 (by decide)⟩,?_⟩;cases hbd:d.badR
    ·rfl
    ·have:=AnK (hk 3 d [] 0 rfl rfl) hbd
     omega
  ·intro i t hi;obtain ⟨bs,s',hs⟩:=hkid i t hi;have hw:=Ke hi;have hbn:=Bo op i;simp only [Tm.wt] at hb
   have:=Qh h3 hi
   rw [Nat.zero_add] at this;exact ih i t bs s' hi hs _ this (by omega)
 | app G n m a b x y s s0 hs hy ha hb hx iha ihb ihx =>
  intro k hsc hbd;simp only [Tm.wt,Tm.wtL] at hbd;simp only [Tm.sc,Tm.scL] at hsc;obtain ⟨q1,q2,⟨q3,q4,q5,q6,_⟩,q7,_⟩:=hsc;simp only [show Ae 5 0=0 from rfl,show Ae 5 1=0 from rfl,show Ae 4 0=0 from rfl,show Ae 4 1=1 from rfl,Nat.zero_add] at q5 q6 q7
  have g1:=iha _ q5 (by omega);have g2:=ihb _ q6 (by omega);have g3:=ihx _ q7 (by omega);simp only [Tm.good,Tm.goodL];refine ⟨⟨rfl,by omega,by omega,fun _=>⟨m,a,b,x,rfl⟩,by omega,by omega,by omega,by omega⟩,⟨⟨rfl,by omega,by omega,by omega,by omega,by omega,by omega,by omega⟩,g1,g2,trivial⟩,g3,trivial⟩
 | fst G n m a x y s s1 s0 hs ha hx hy iha ihx ihy =>
  intro k hsc hbd;simp only [Tm.wt,Tm.wtL] at hbd;simp only [Tm.sc,Tm.scL] at hsc;obtain ⟨q1,q2,⟨q3,q4,q5,q6,q7,_⟩,_⟩:=hsc;simp only [show Ae 8 0=0 from rfl,show Ae 7 0=0 from rfl,show Ae 7 (0+1)=0 from rfl,show Ae 7 (0+1+1)=0 from rfl] at q5 q6 q7
  have g1:=iha _ q5 (by omega);have g2:=ihx _ q6 (by omega);have g3:=ihy _ q7 (by omega);simp only [Tm.good,Tm.goodL];refine ⟨⟨rfl,by omega,by omega,by omega,fun _=>⟨m,a,x,y,rfl⟩,by omega,by omega,by omega⟩,⟨⟨rfl,by omega,by omega,by omega,by omega,by omega,by omega,by omega⟩,g1,g2,g3,trivial⟩,trivial⟩
 | snd G n m a x y s s1 s0 hs ha hx hy iha ihx ihy =>
  intro k hsc hbd;simp only [Tm.wt,Tm.wtL] at hbd;simp only [Tm.sc,Tm.scL] at hsc;obtain ⟨q1,q2,⟨q3,q4,q5,q6,q7,_⟩,_⟩:=hsc;simp only [show Ae 9 0=0 from rfl,show Ae 7 0=0 from rfl,show Ae 7 (0+1)=0 from rfl,show Ae 7 (0+1+1)=0 from rfl] at q5 q6 q7
  have g1:=iha _ q5 (by omega);have g2:=ihx _ q6 (by omega);have g3:=ihy _ q7 (by omega);simp only [Tm.good,Tm.goodL];refine ⟨⟨rfl,by omega,by omega,by omega,fun _=>⟨m,a,x,y,rfl⟩,by omega,by omega,by omega⟩,⟨⟨rfl,by omega,by omega,by omega,by omega,by omega,by omega,by omega⟩,g1,g2,g3,trivial⟩,trivial⟩
def YH (op:Int) (k:List RV):Prop:=(op=30->∀k0,k[0]?=some k0->k0.op≠19)/\(op=19->∀k0,k[0]?=some k0->k0.op≠30)/\(op=13->∀k3,k[3]?=some k3->k3.op≠11/\k3.op≠12)
def Alu (op:Int) (k:List Tm):Prop:=(op=30->∀k0,k[0]?=some k0->k0.op≠19)/\(op=19->∀k0,k[0]?=some k0->k0.op≠30)/\(op=13->∀k3,k[3]?=some k3->k3.op≠11/\k3.op≠12)
inductive VT (G0:List Nat):List Nat->RV->Nat->Prop
 | var (L:List Nat) (n:Int) (s:Nat) (env:List RV) (b:Tm) (h:0<=n/\L[n.toNat]?=some s\/n<0/\G0[(-1 - n).toNat]?=some s) (hs:s<10):VT G0 L (.mk 1 n [] env b) s
 | node (L:List Nat) (op n:Int) (k env:List RV) (b:Tm) (s:Nat) (sg:Mv) (D:Nat->List Nat) (hr:Rule op s sg) (hl:k.length=sg.length) (hst:YH op k)
   (hk:∀(i:Nat) v s',k[i]?=some v->sg[i]?=some ([],s')->VT G0 L v s')
   (hc:∀(i:Nat) (v:RV) bs s',k[i]?=some v->sg[i]?=some (bs,s')->bs≠[]->(D i).length=v.env.length/\HasT (bs++(D i++G0)) v.b s')
   (he:∀(i:Nat) (v:RV) bs s' (j:Nat) x y,k[i]?=some v->sg[i]?=some (bs,s')->bs≠[]->v.env.reverse[j]?=some x->(D i)[j]?=some y->VT G0 L x y):VT G0 L (.mk op n k env b) s
structure NodeT (G0 L:List Nat) (op:Int) (k:List RV) (s:Nat) (sg:Mv) (D:Nat->List Nat):Prop where
 hr:Rule op s sg
 hl:k.length=sg.length
 hk:∀(i:Nat) v s',k[i]?=some v->sg[i]?=some ([],s')->VT G0 L v s'
 hc:∀(i:Nat) (v:RV) bs s',k[i]?=some v->sg[i]?=some (bs,s')->bs≠[]->(D i).length=v.env.length/\HasT (bs++(D i++G0)) v.b s'
 he:∀(i:Nat) (v:RV) bs s' (j:Nat) x y,k[i]?=some v->sg[i]?=some (bs,s')->bs≠[]->v.env.reverse[j]?=some x->(D i)[j]?=some y->VT G0 L x y
def Oj {G0 L:List Nat} {op n:Int} {k:List RV} {s:Nat} {sg:Mv} {D:Nat->List Nat} (h:NodeT G0 L op k s sg D) (hst:YH op k):VT G0 L (.node op n k) s :=
 .node _ _ _ _ _ _ _ _ _ h.hr h.hl hst h.hk h.hc h.he
theorem XS {G0 L:List Nat} {v:RV} {s:Nat} (h:VT G0 L v s) (h1:v.op≠1):YH v.op v.k/\∃sg D,NodeT G0 L v.op v.k s sg D:=by
 cases h with
 | var=>exact absurd rfl h1
 | node op n k env b s sg D hr hl hst hk hc he=>exact ⟨hst,sg,D,hr,hl,hk,hc,he⟩
theorem Ao9 {G0 L:List Nat} {v:RV} {s:Nat} (h:VT G0 L v s):∀M,VT G0 (L++M) v s:=by
 induction h with
 | var n s env b h hs =>
  intro M;refine .var _ _ _ _ _ ?_ hs;rcases h with ⟨h1,h2⟩ | h
  ·exact .inl ⟨h1,by rw [List.getElem?_append_left (List.getElem?_eq_some_iff.1 h2).1];exact h2⟩
  ·exact .inr h
 | node op n k env b s sg D hr hl hst hk hc he ihk ihe =>
  intro M;exact .node _ _ _ _ _ _ _ sg D hr hl hst (fun i v s' a b=>ihk i v s' a b M) hc (fun i v bs s' j x y a b c d e=>ihe i v bs s' j x y a b c d e M)
def Sx (G0 L:List Nat) (env:List RV) (D:List Nat):Prop:=D.length=env.length/\∀(j:Nat) x y,env.reverse[j]?=some x->D[j]?=some y->VT G0 L x y
def Wr {G0 L D bs:List Nat} {env l:List RV} (h:Sx G0 L env D) (hl:bs.length=l.length) (hx:∀(j:Nat) x y,l.reverse[j]?=some x->bs[j]?=some y->VT G0 L x y):Sx G0 L (env++l) (bs++D):=by
 refine ⟨by simp only [List.length_append,h.1,hl];omega,?_⟩;intro j x y h1 h2;rw [List.reverse_append] at h1;by_cases hj:j<bs.length
 ·rw [List.getElem?_append_left (by rw [List.length_reverse];omega)] at h1;rw [List.getElem?_append_left hj] at h2;exact hx j x y h1 h2
 ·rw [List.getElem?_append_right (by rw [List.length_reverse];omega),List.length_reverse] at h1;rw [List.getElem?_append_right (by omega),hl] at h2;exact h.2 _ x y h1 h2
theorem Agq {ev:Int->Int->Tm->Option (RV×Int×Int)} {G0 L D:List Nat} {env:List RV} (hev:∀s t v s' σ,ev s 0 t=some (v,s',0)->HasT (D++G0) t σ->VT G0 L v σ) (herr:∀s e t v s',ev s e t=some (v,s',0)->e=0) (op:Int) :
  ∀(l:List Tm) (i:Nat) (sg:Mv) (s:Int) (vs:List RV) (s':Int),AW ev op env i l s 0=some (vs,s',0)->l.length=sg.length->(∀(j:Nat) bs s1,sg[j]?=some (bs,s1)->bs.length=Ae op (i+j)) ->
   (∀(j:Nat) t bs s1,l[j]?=some t->sg[j]?=some (bs,s1)->HasT (bs++(D++G0)) t s1) ->
   vs.length=l.length/\∀(j:Nat) (v:RV) bs s1,vs[j]?=some v->sg[j]?=some (bs,s1)->(bs=[]->VT G0 L v s1)/\(bs≠[]->v.env=env/\HasT (bs++(D++G0)) v.b s1)
 | [],i,sg,s,vs,s',h,hl,hb,ht=>by
  simp only [AW,AB5,AB6] at h;obtain ⟨rfl,_,_⟩:=h;exact ⟨rfl,fun j v bs s1 h=>by simp at h⟩
 | t::l,i,[],s,vs,s',h,hl,hb,ht=>by simp at hl
 | t::l,i,(b0,σ0)::sg,s,vs,s',h,hl,hb,ht=>by
  have hb0:=hb 0 b0 σ0 rfl;have ht0:=ht 0 t b0 σ0 rfl rfl;rw [Nat.add_zero] at hb0;have next:=fun (s:Int) (vs:List RV) (h:AW ev op env (i+1) l s 0=some (vs,s',0))=>Agq hev herr op l (i+1) sg s vs s' h (by simpa using hl) (fun j bs s1 hj=>by rw [hb (j+1) bs s1 (by simpa using hj)];congr 1;omega) (fun j t bs s1 h1 h2=>ht (j+1) t bs s1 (by simpa using h1) (by simpa using h2));simp only [AW] at h;by_cases hc:0<Ae op i
  ·rw [if_pos hc] at h;cases hk:AW ev op env (i+1) l s 0 with
   | none=>rw [hk] at h;cases h
   | some q =>
    obtain ⟨us,s2,e2⟩:=q;rw [hk] at h;simp only [AB8,AB5,AB6] at h;obtain ⟨rfl,rfl,rfl⟩:=h;obtain ⟨n1,n2⟩:=next s us hk;refine ⟨by simp [n1],?_⟩;intro j v bs s1 h1 h2;cases j with
    | zero =>
     simp only [List.getElem?_cons_zero,AB5,AB6] at h1 h2;obtain ⟨rfl,rfl⟩:=h2;subst h1;exact ⟨fun h=>by rw [h] at hb0;simp at hb0;omega,fun _=>⟨rfl,ht0⟩⟩
    | succ j =>
     simp only [List.getElem?_cons_succ] at h1 h2;exact n2 j v bs s1 h1 h2
  ·rw [if_neg hc] at h;have hbe:b0=[]:=List.eq_nil_of_length_eq_zero (by omega);subst hbe;split at h
   ·cases h
   rename_i v0 s1 e1 hv;cases hk:AW ev op env (i+1) l s1 e1 with
   | none=>rw [hk] at h;cases h
   | some q =>
    obtain ⟨us,s2,e2⟩:=q;rw [hk] at h;simp only [AB8,AB5,AB6] at h;obtain ⟨rfl,rfl,rfl⟩:=h;have he1:=Hg ev herr op env l _ _ _ _ _ hk;subst he1;obtain ⟨n1,n2⟩:=next s1 us hk;refine ⟨by simp [n1],?_⟩;intro j v bs s3 h1 h2;cases j with
    | zero =>
     simp only [List.getElem?_cons_zero,AB5,AB6] at h1 h2;obtain ⟨rfl,rfl⟩:=h2;subst h1;exact ⟨fun _=>hev _ _ _ _ _ hv (by simpa using ht0),fun h=>absurd rfl h⟩
    | succ j =>
     simp only [List.getElem?_cons_succ] at h1 h2;exact n2 j v bs s3 h1 h2
def HU {f:Nat} {s:Int} {op n:Int} {ks:List Tm} {env:List RV} {v:RV} {s':Int} (h:AB (f+1) s 0 (.mk op n ks) env=some (v,s',0)) (h1:op≠1) :
  ∃vs s1,AW (fun s e t=>AB f s e t env) op env 0 ks s 0=some (vs,s1,0)/\headR f s1 0 (.node op n vs)=some (v,s',0):=by
 rw [AB] at h;rw [if_neg (by simp)] at h;split at h
 ·cases h
 first | rw [if_neg h1] at h | skip
 split at h
 ·cases h
 split at h
 ·cases h
 split at h
 ·cases h
 rename_i vs s1 e1 hk;have he:=Iq h;subst he;exact ⟨vs,s1,hk,h⟩
theorem Kd {f:Nat} {s:Int} {op n:Int} {k:List RV} {v:RV} {s':Int} (h:headR f s 0 (.node op n k)=some (v,s',0)) (h0:¬ (op=5\/op=8\/op=9\/op=13\/op=19\/op=30)):v=.node op n k/\s'=s:=by
 cases f with
 | zero=>rw [headR] at h;cases h
 | succ f =>
  rw [headR] at h;rw [if_neg (by simp)] at h;split at h
  ·cases h
  have hop:(RV.node op n k).op=op:=rfl;rw [hop,if_neg (by omega),if_neg (by omega),if_neg (by omega),if_neg (by omega),if_neg (by omega)] at h;simp only [AB5,AB6] at h;exact ⟨h.1.symm,h.2.1.symm⟩
def MK {f:Nat} {G0 L D:List Nat} {env:List RV} (ih:∀s t v s' σ,AB f s 0 t env=some (v,s',0)->HasT (D++G0) t σ->VT G0 L v σ) (henv:Sx G0 L env D) {op:Int} {ks:List Tm} {σ:Nat} {sg:Mv} {s s1:Int} {vs:List RV}
  (hr:Rule op σ sg) (hl:ks.length=sg.length) (hk:∀(i:Nat) t bs s',ks[i]?=some t->sg[i]?=some (bs,s')->HasT (bs++(D++G0)) t s') (h:AW (fun s e t=>AB f s e t env) op env 0 ks s 0=some (vs,s1,0)):NodeT G0 L op vs σ sg (fun _=>D):=by
 obtain ⟨n1,n2⟩:=Agq (G0:=G0) (L:=L) (D:=D) ih (fun s e t v s' h=>Cy h) op ks 0 sg s vs s1 h hl (fun j bs s1 hj=>by rw [Nat.zero_add];exact (G8 hr hj).1) hk;refine ⟨hr,by rw [n1];exact hl,?_,?_,?_⟩
 ·intro i v s' a b;exact (n2 i v [] s' a b).1 rfl
 ·intro i v bs s' a b c;obtain ⟨q1,q2⟩:=(n2 i v bs s' a b).2 c;exact ⟨by rw [q1];exact henv.1,q2⟩
 ·intro i v bs s' j x y a b c d e;obtain ⟨q1,q2⟩:=(n2 i v bs s' a b).2 c;rw [q1] at d;exact henv.2 j x y d e
def Ako {f:Nat} {s n m:Int} {va x:RV} {env:List RV} {b:Tm} {v:RV} {s':Int} (h:headR (f+1) s 0 (.node 5 n [.node 4 m [va,.clo env b],x])=some (v,s',0)):AB f (s+1) 0 b (env++[x])=some (v,s',0):=by
 rw [headR,if_neg (by simp)] at h;by_cases hs:s<0\/1000000<s
 ·rw [if_pos hs] at h;cases h
 rw [if_neg hs,if_pos (show RV.op (.node 5 n [.node 4 m [va,.clo env b],x])=5 from rfl)] at h
 simp only [RV.node,RV.k,List.getElem?_cons_zero] at h;rw [if_pos (show RV.op (.mk 4 m [va,.clo env b] [] .z)=4 from rfl)] at h
 by_cases h1:s+1<=1000
 ·rw [if_pos h1] at h;simp only [List.getElem?_cons_zero,List.getElem?_cons_succ] at h;rw [show (RV.clo env b).env=env from rfl,show (RV.clo env b).b=b from rfl] at h
  by_cases h2:900000<env.length
  ·rw [if_pos h2] at h;cases h
  ·rw [if_neg h2] at h;exact h
 ·rw [if_neg h1] at h;simp at h
def Ajk {f:Nat} {s op n m:Int} {ws:List RV} {v:RV} {s':Int} (ho:op=8\/op=9) (h:headR (f+1) s 0 (.node op n [.node 7 m ws])=some (v,s',0)):ws[(1+op - 8).toNat]?=some v:=by
 rw [headR,if_neg (by simp)] at h;by_cases hs:s<0\/1000000<s
 ·rw [if_pos hs] at h;cases h
 have hop:RV.op (.node op n [.node 7 m ws])=op:=rfl;rw [if_neg hs,hop,if_neg (by omega),if_pos ho] at h;simp only [RV.node,RV.k,List.getElem?_cons_zero] at h;rw [if_pos (show RV.op (.mk 7 m ws [] .z)=7 from rfl)] at h
 by_cases h1:s+1<=1000
 ·rw [if_pos h1] at h;cases hw:ws[(1+op - 8).toNat]? with
  | none=>rw [hw] at h;cases h
  | some w =>
   rw [hw] at h;simp only [AB8,AB5,AB6] at h;rw [h.1]
 ·rw [if_neg h1] at h;simp at h
def WC {f:Nat} {s n:Int} {k0 v:RV} {s':Int} (h:headR (f+1) s 0 (.node 30 n [k0])=some (v,s',0)):k0.op=19/\k0.k[0]?=some v\/k0.op≠19/\v=.node 30 n [k0]:=by
 rw [headR,if_neg (by simp)] at h;by_cases hs:s<0\/1000000<s
 ·rw [if_pos hs] at h;cases h
 have hop:RV.op (.node 30 n [k0])=30:=rfl;rw [if_neg hs,hop,if_neg (by decide),if_neg (by decide),if_pos rfl,show RV.k (.node 30 n [k0])=[k0] from rfl] at h
 simp only [List.getElem?_cons_zero] at h;by_cases h0:k0.op=19
 ·rw [if_pos h0] at h;by_cases h1:s+1<=1000
  ·rw [if_pos h1] at h;cases hw:k0.k[0]? with
   | none=>rw [hw] at h;cases h
   | some w =>
    rw [hw] at h;simp only [AB8,AB5,AB6] at h;rw [<- h.1];exact .inl ⟨h0,rfl⟩
  ·rw [if_neg h1] at h;simp at h
 ·rw [if_neg h0] at h;simp only [AB5,AB6] at h;exact .inr ⟨h0,h.1.symm⟩
def W1 {f:Nat} {s n:Int} {k0 v:RV} {s':Int} (h:headR (f+1) s 0 (.node 19 n [k0])=some (v,s',0)):k0.op=30/\k0.k[0]?=some v\/k0.op≠30/\v=.node 19 n [k0]:=by
 rw [headR,if_neg (by simp)] at h;by_cases hs:s<0\/1000000<s
 ·rw [if_pos hs] at h;cases h
 have hop:RV.op (.node 19 n [k0])=19:=rfl;rw [if_neg hs,hop,if_neg (by decide),if_neg (by decide),if_neg (by decide),if_pos rfl,show RV.k (.node 19 n [k0])=[k0] from rfl] at h
 simp only [List.getElem?_cons_zero] at h;by_cases h0:k0.op=30
 ·rw [if_pos h0] at h;by_cases h1:s+1<=1000
  ·rw [if_pos h1] at h;cases hw:k0.k[0]? with
   | none=>rw [hw] at h;cases h
   | some w =>
    rw [hw] at h;simp only [AB8,AB5,AB6] at h;rw [<- h.1];exact .inl ⟨h0,rfl⟩
  ·rw [if_neg h1] at h;simp at h
 ·rw [if_neg h0] at h;simp only [AB5,AB6] at h;exact .inr ⟨h0,h.1.symm⟩
def W7 {f:Nat} {s n:Int} {k0 k1 k2 k3 v:RV} {s':Int} (h:headR (f+1) s 0 (.node 13 n [k0,k1,k2,k3])=some (v,s',0)) :
  k3.op=11/\v=k1\/k3.op=12/\(∃x w s1,k3.k[0]?=some x/\headR f (s+1) 0 (.node 13 0 [k0,k1,k2,x])=some (w,s1,0)/\AB f s1 0 k2.b (k2.env++[x,w])=some (v,s',0))\/(k3.op≠11/\k3.op≠12)/\v=.node 13 n [k0,k1,k2,k3]:=by
 rw [headR,if_neg (by simp)] at h;by_cases hs:s<0\/1000000<s
 ·rw [if_pos hs] at h;cases h
 have hop:RV.op (.node 13 n [k0,k1,k2,k3])=13:=rfl;have hk:RV.k (.node 13 n [k0,k1,k2,k3])=[k0,k1,k2,k3]:=rfl;rw [if_neg hs,hop,if_neg (by decide),if_neg (by decide),if_neg (by decide),if_neg (by decide),if_pos rfl,hk] at h;simp only [List.getElem?_cons_zero,List.getElem?_cons_succ] at h;by_cases h11:k3.op=11
 ·rw [if_pos h11] at h;by_cases h1:s+1<=1000
  ·rw [if_pos h1] at h;simp only [AB5,AB6] at h;exact .inl ⟨h11,h.1.symm⟩
  ·rw [if_neg h1] at h;simp at h
 rw [if_neg h11] at h;by_cases h12:k3.op=12
 ·rw [if_pos h12] at h;by_cases h1:s+1<=1000
  ·rw [if_pos h1] at h;cases hx:k3.k[0]? with
   | none=>rw [hx] at h;cases h
   | some x =>
    rw [hx] at h;simp only at h;cases hw:headR f (s+1) 0 (.node 13 0 [k0,k1,k2,x]) with
    | none=>rw [hw] at h;cases h
    | some q =>
     obtain ⟨w,s1,e1⟩:=q;rw [hw] at h;simp only at h;by_cases h2:900000<k2.env.length
     ·rw [if_pos h2] at h;cases h
     ·rw [if_neg h2] at h;have he:=Cy h;subst he;exact .inr (.inl ⟨h12,x,w,s1,rfl,hw,h⟩)
  ·rw [if_neg h1] at h;simp at h
 ·rw [if_neg h12] at h;simp only [AB5,AB6] at h;exact .inr (.inr ⟨⟨h11,h12⟩,h.1.symm⟩)
def Aci {f:Nat} {s n:Int} {ks:List Tm} {env:List RV} {v:RV} {s':Int} (h:AB (f+1) s 0 (.mk 1 n ks) env=some (v,s',0)) (h0:0<=n):(n<env.length/\env.reverse[n.toNat]?=some v\/¬ n<env.length/\v=.var (env.length - 1 - n))/\s'=s:=by
 rw [AB,if_neg (by simp)] at h;by_cases h9:900000<env.length
 ·rw [if_pos h9] at h;cases h
 rw [if_neg h9,if_pos rfl] at h;by_cases hm:n<env.length
 ·rw [if_pos hm,if_pos h0] at h;cases hx:env[((env.length:Int) - 1 - n).toNat]? with
  | none=>rw [hx] at h;cases h
  | some x =>
   rw [hx] at h;simp only [AB8,AB5,AB6] at h;obtain ⟨rfl,rfl,_⟩:=h;refine ⟨.inl ⟨hm,?_⟩,rfl⟩;rw [List.getElem?_reverse (by omega),show env.length - 1 - n.toNat=((env.length:Int) - 1 - n).toNat by omega]
   exact hx
 ·rw [if_neg hm] at h;by_cases h4:n<=4611686018427387904
  ·rw [if_pos h4] at h;simp only [AB5,AB6] at h;exact ⟨.inr ⟨hm,h.1.symm⟩,h.2.1.symm⟩
  ·rw [if_neg h4] at h;cases h
theorem Ap0 {f:Nat} {s n m:Int} {a b x:Tm} {env:List RV} {v:RV} {s':Int} (h:AB (f+1) s 0 (.mk 5 n [.mk 4 m [a,b],x]) env=some (v,s',0)):∃f' s1 s2 vx,f'<=f/\AB f s1 0 x env=some (vx,s2,0)/\AB f' (s2+1) 0 b (env++[vx])=some (v,s',0):=by
 obtain ⟨vs,s2,h1,h2⟩:=HU h (by decide);simp only [AW] at h1;rw [if_neg (by decide)] at h1;cases hv0:AB f s 0 (.mk 4 m [a,b]) env with
 | none=>rw [hv0] at h1;cases h1
 | some q =>
  obtain ⟨v0,s3,e3⟩:=q;rw [hv0] at h1;simp only at h1;rw [if_neg (by decide)] at h1;cases hv1:AB f s3 e3 x env with
  | none=>rw [hv1] at h1;cases h1
  | some q =>
   obtain ⟨v1,s4,e4⟩:=q;rw [hv1] at h1;simp only [AB8,AB5,AB6] at h1;obtain ⟨rfl,rfl,rfl⟩:=h1;have e3:=Cy hv1;subst e3;obtain ⟨va,rfl⟩:=AgJ hv0;cases f with
   | zero=>rw [headR] at h2;cases h2
   | succ f=>exact ⟨f,s3,s4,v1,by omega,hv1,Ako h2⟩
theorem WZ {f:Nat} {s op n m:Int} {a x y:Tm} {env:List RV} {v:RV} {s':Int} (ho:op=8\/op=9) (h:AB (f+1) s 0 (.mk op n [.mk 7 m [a,x,y]]) env=some (v,s',0)):∃f' ws s1,f'<=f/\AW (fun s e t=>AB f' s e t env) 7 env 0 [a,x,y] s 0=some (ws,s1,0)/\ws[(1+op - 8).toNat]?=some v:=by
 obtain ⟨vs,s2,h1,h2⟩:=HU h (by omega);have hb:Ae op 0=0:=by rcases ho with rfl | rfl<;>rfl
 simp only [AW] at h1;rw [if_neg (by omega)] at h1;cases hv0:AB f s 0 (.mk 7 m [a,x,y]) env with
 | none=>rw [hv0] at h1;cases h1
 | some q =>
  obtain ⟨v0,s3,e3⟩:=q;rw [hv0] at h1;simp only [AB8,AB5,AB6] at h1;obtain ⟨rfl,rfl,rfl⟩:=h1;cases f with
  | zero=>rw [headR] at h2;cases h2
  | succ f =>
   obtain ⟨ws,s4,q1,q2⟩:=HU hv0 (by decide);obtain ⟨rfl,rfl⟩:=Kd q2 (by decide);exact ⟨f,ws,s3,by omega,q1,Ajk ho h2⟩
def VV {f:Nat} {s nd u d:Int} {v:RV} {t:Tm} {s' nd':Int} (h:AL (f+1) s nd 0 v u d=some (t,s',nd',0)) :
  v.op=1/\t=.mk 1 (u - 1 - v.n) []\/v.op≠1/\∃ts,Ba (fun s nd e k u=>AL f s nd e k u (d+1)) f v.op u 0 v.k s (nd+1) 0=some (ts,s',nd',0)/\t=.mk v.op v.n ts:=by
 rw [AL] at h;by_cases hb:nd<0\/1000000<nd\/u<0\/1000000<u\/d<0\/1000000<d\/v.n < -2305843009213693952\/2305843009213693952<v.n\/f<=v.k.length\/900000<v.k.length\/f<=3
 ·rw [if_pos hb] at h;cases h
 rw [if_neg hb] at h;by_cases h3:(0:Int)=0/\(3000<nd+1\/120<d)
 ·rw [if_pos h3,if_pos (by decide)] at h;simp at h
 rw [if_neg h3,if_neg (by simp)] at h;by_cases h1:v.op=1
 ·rw [if_pos h1] at h;simp only [AB5,AB6] at h;exact .inl ⟨h1,h.1.symm⟩
 ·rw [if_neg h1] at h;cases hrk:Ba (fun s nd e k u=>AL f s nd e k u (d+1)) f v.op u 0 v.k s (nd+1) 0 with
  | none=>rw [hrk] at h;cases h
  | some q =>
   obtain ⟨ts,s1,nd1,e1⟩:=q;rw [hrk] at h;simp only [AB8,AB5,AB6] at h;obtain ⟨rfl,rfl,rfl,rfl⟩:=h;exact .inr ⟨h1,ts,rfl,rfl⟩
def EvT (G0 L:List Nat) (f:Nat):Prop:=∀s t env v s' D σ,AB f s 0 t env=some (v,s',0)->HasT (D++G0) t σ->Sx G0 L env D->VT G0 L v σ
def HdT (G0 L:List Nat) (f:Nat):Prop:=∀s op n k v s' σ sg D,headR f s 0 (.node op n k)=some (v,s',0)->NodeT G0 L op k σ sg D->VT G0 L v σ
theorem Auv {G0 L D:List Nat} {env:List RV} (h:Sx G0 L env D) {x:RV} {y:Nat} (hx:VT G0 L x y):Sx G0 L (env++[x]) (y::D):=by
 refine Wr (bs:=[y]) h rfl ?_;intro j x' y' a b;cases j with
 | zero =>
  simp only [List.reverse_cons,List.reverse_nil,List.nil_append,List.getElem?_cons_zero,AB5] at a b;subst a b;exact hx
 | succ j=>simp at a
def Azo {G0 L D:List Nat} {env:List RV} (h:Sx G0 L env D) {x w:RV} {y z:Nat} (hx:VT G0 L x y) (hw:VT G0 L w z):Sx G0 L (env++[x,w]) (z::y::D):=by
 have:=Auv (Auv h hx) hw
 rw [List.append_assoc] at this;exact this
theorem AqW {G:List Nat} {a x y:Tm} {s0 s1 s2:Nat} (ha:HasT G a s0) (hx:HasT G x s1) (hy:HasT G y s2):∀(i:Nat) t bs s',[a,x,y][i]?=some t->[(([]:List Nat),s0),([],s1),([],s2)][i]?=some (bs,s')->HasT (bs++G) t s':=by
 intro i t bs s' a1 a2
 match i with
 | 0=>simp at a1 a2;obtain ⟨rfl,rfl⟩:=a2;subst a1;exact ha
 | 1=>simp at a1 a2;obtain ⟨rfl,rfl⟩:=a2;subst a1;exact hx
 | 2=>simp at a1 a2;obtain ⟨rfl,rfl⟩:=a2;subst a1;exact hy
 | i+3=>simp at a1
theorem AvG {G0 L:List Nat} {f:Nat} (ihE:∀g,g<=f->EvT G0 L g) (ihH:HdT G0 L f):EvT G0 L (f+1):=by
 intro s t env v s' D σ h ht henv;generalize hG:D++G0=G at ht;cases ht with
 | var _ n _ h0 hg hs =>
  subst hG;rcases (Aci h h0).1 with ⟨h1,h2⟩ | ⟨h1,rfl⟩
  ·refine henv.2 n.toNat v σ h2 ?_;rw [List.getElem?_append_left (by have:=henv.1;omega)] at hg;exact hg
  ·refine .var _ _ _ _ _ (.inr ⟨by omega,?_⟩) hs;rw [List.getElem?_append_right (by have:=henv.1;omega),henv.1] at hg;rw [show (-1 - ((env.length:Int) - 1 - n)).toNat=n.toNat - env.length by omega]
   exact hg
 | node _ op n ks _ sg hr hl hk =>
  subst hG;obtain ⟨vs,s1,h1,h2⟩:=HU h (Fs hr).1;exact ihH _ _ _ _ _ _ _ _ _ h2 (MK (fun s t v s' σ a b=>ihE f (Nat.le_refl _) s t env v s' D σ a b henv) henv hr hl hk h1)
 | app _ n m a b x y _ s1 hs hy ha hb hx =>
  subst hG;obtain ⟨f',s1,s2,vx,hf,h1,h2⟩:=Ap0 h;exact ihE f' hf _ _ _ _ _ (y::D) σ h2 hb (Auv henv (ihE f (Nat.le_refl _) _ _ _ _ _ D y h1 hx henv))
 | fst _ n m a x y _ s1 s0 hs ha hx hy =>
  subst hG;obtain ⟨f',ws,s2,hf,h1,h2⟩:=WZ (.inl rfl) h;have hn:=MK (fun s t v s' σ a b=>ihE f' hf s t env v s' D σ a b henv) henv (Rule.pair s0 σ s1) rfl (AqW ha hx hy) h1;exact hn.hk 1 v σ h2 rfl
 | snd _ n m a x y _ s1 s0 hs ha hx hy =>
  subst hG;obtain ⟨f',ws,s2,hf,h1,h2⟩:=WZ (.inr rfl) h;have hn:=MK (fun s t v s' σ a b=>ihE f' hf s t env v s' D σ a b henv) henv (Rule.pair s0 s1 σ) rfl (AqW ha hx hy) h1;exact hn.hk 2 v σ h2 rfl
def AkY {G0 L:List Nat} {k0 k1 k2 k3 x:RV} {σ s0:Nat} {D:Nat->List Nat} (hn:NodeT G0 L 13 [k0,k1,k2,k3] σ [([0],s0),([],σ),([σ,0],σ),([],0)] D) (hx:VT G0 L x 0):NodeT G0 L 13 [k0,k1,k2,x] σ [([0],s0),([],σ),([σ,0],σ),([],0)] D:=by
 refine ⟨hn.hr,rfl,?_,?_,?_⟩
 ·intro i v s' a b
  match i with
  | 0=>exact hn.hk 0 v s' a b
  | 1=>exact hn.hk 1 v s' a b
  | 2=>exact hn.hk 2 v s' a b
  | 3 =>
   simp at a b;subst a b;exact hx
  | i+4=>simp at a
 ·intro i v bs s' a b c
  match i with
  | 0=>exact hn.hc 0 v bs s' a b c
  | 1=>exact hn.hc 1 v bs s' a b c
  | 2=>exact hn.hc 2 v bs s' a b c
  | 3=>simp at b;exact absurd b.1 c
  | i+4=>simp at a
 ·intro i v bs s' j x' y' a b c d e
  match i with
  | 0=>exact hn.he 0 v bs s' j x' y' a b c d e
  | 1=>exact hn.he 1 v bs s' j x' y' a b c d e
  | 2=>exact hn.he 2 v bs s' j x' y' a b c d e
  | 3=>simp at b;exact absurd b.1 c
  | i+4=>simp at a
def Awb {G0 L:List Nat} {f:Nat} (ihE:EvT G0 L f) (ihH:HdT G0 L f):HdT G0 L (f+1):=by
 intro s op n k v s' σ sg D h hn;obtain ⟨o1,o5,o8,o9⟩:=Fs hn.hr;by_cases h30:op=30
 ·subst h30;have hr:=hn.hr;cases hr;obtain ⟨k0,rfl⟩:=Cs hn.hl;have hk0:=hn.hk 0 k0 3 rfl rfl;rcases WC h with ⟨h19,hx⟩ | ⟨h19,rfl⟩
  ·obtain ⟨_,sg2,D2,hn2⟩:=XS hk0 (by omega);rw [h19] at hn2;have hr2:=hn2.hr;cases hr2;exact hn2.hk 0 v 6 hx rfl
  ·refine Oj hn ⟨fun _ k1 hk1=>?_,by omega,by omega⟩;simp only [List.getElem?_cons_zero,AB5] at hk1;subst hk1;exact h19
 by_cases h19:op=19
 ·subst h19;have hr:=hn.hr;cases hr;obtain ⟨k0,rfl⟩:=Cs hn.hl;have hk0:=hn.hk 0 k0 6 rfl rfl;rcases W1 h with ⟨h19,hx⟩ | ⟨h19,rfl⟩
  ·obtain ⟨_,sg2,D2,hn2⟩:=XS hk0 (by omega);rw [h19] at hn2;have hr2:=hn2.hr;cases hr2;exact hn2.hk 0 v 3 hx rfl
  ·refine Oj hn ⟨by omega,fun _ k1 hk1=>?_,by omega⟩;simp only [List.getElem?_cons_zero,AB5] at hk1;subst hk1;exact h19
 by_cases h13:op=13
 ·subst h13;have hr:=hn.hr;cases hr with
  | recR _ hs =>
  obtain ⟨k0,k1,k2,k3,rfl⟩:=Nd hn.hl;have hk1:=hn.hk 1 k1 σ rfl rfl;have hk3:=hn.hk 3 k3 0 rfl rfl;have hc2:=hn.hc 2 k2 [σ,0] σ rfl rfl (by simp);have he2:=fun (j:Nat) x y=>hn.he 2 k2 [σ,0] σ j x y rfl rfl (by simp);rcases W7 h with ⟨h11,rfl⟩ | ⟨h12,x,w,s1,hx,hw,hv⟩ | ⟨h3,rfl⟩
  ·exact hk1
  ·obtain ⟨_,sg2,D2,hn2⟩:=XS hk3 (by omega);rw [h12] at hn2;have hr2:=hn2.hr;cases hr2;have hxv:=hn2.hk 0 x 0 hx rfl;have hwv:=ihH _ _ _ _ _ _ _ _ _ hw (AkY hn hxv);exact ihE _ _ _ _ _ (σ::0::D 2) σ hv hc2.2 (Azo ⟨hc2.1,he2⟩ hxv hwv)
  ·refine Oj hn ⟨by omega,by omega,fun _ q hq=>?_⟩;simp at hq;subst hq;exact h3
 obtain ⟨rfl,_⟩:=Kd h (by omega);exact Oj hn ⟨by omega,by omega,by omega⟩
theorem Ahs (G0 L:List Nat):∀f,EvT G0 L f/\HdT G0 L f:=by
 intro f
 induction f using Nat.strongRecOn with
 | _ f ih =>
 cases f with
 | zero=>exact ⟨(by intro s t env v s' D σ h;rw [AB] at h;cases h),(by intro s op n k v s' σ sg D h;rw [headR] at h;cases h)⟩
 | succ f=>exact ⟨AvG (fun g hg=>(ih g (by omega)).1) (ih f (by omega)).2,Awb (ih f (by omega)).1 (ih f (by omega)).2⟩
inductive NfT:List Nat->Tm->Nat->Prop
 | var (G:List Nat) (n:Int) (s:Nat) (h0:0<=n) (h:G[n.toNat]?=some s) (hs:s<10):NfT G (.mk 1 n []) s
 | node (G:List Nat) (op n:Int) (ks:List Tm) (s:Nat) (sg:Mv) (hr:Rule op s sg) (hl:ks.length=sg.length) (hst:Alu op ks) (hk:∀(i:Nat) t bs s',ks[i]?=some t->sg[i]?=some (bs,s')->NfT (bs++G) t s'):NfT G (.mk op n ks) s
theorem AN {G:List Nat} {t:Tm} {s:Nat} (h:NfT G t s):HasT G t s:=by
 induction h with
 | var G n s h0 h hs=>exact .var _ _ _ h0 h hs
 | node G op n ks s sg hr hl hst hk ih=>exact .node _ _ _ _ _ sg hr hl ih
theorem Mf {rd:Int->Int->Int->RV->Int->Option (Tm×Int×Int×Int)} {f:Nat} (herr:∀s nd e v u t s' nd',rd s nd e v u=some (t,s',nd',0)->e=0) (op u:Int) :
  ∀(l:List RV) (i:Nat) (s nd e:Int) (ts:List Tm) (s' nd':Int),Ba rd f op u i l s nd e=some (ts,s',nd',0)->ts.length=l.length/\∀(j:Nat) k t,l[j]?=some k->ts[j]?=some t ->
   ∃s1 nd1 k' s2 nd2,((0<Ae op (i+j)->∃s0,AB f s0 0 k.b (k.env++Fo u (Ae op (i+j)))=some (k',s1,0))/\(Ae op (i+j)=0->k'=k))/\rd s1 nd1 0 k' (u+Ae op (i+j))=some (t,s2,nd2,0)
 | [],i,s,nd,e,ts,s',nd',h=>by
  simp only [Ba,AB5,AB6] at h;obtain ⟨rfl,_⟩:=h;exact ⟨rfl,fun j k t h=>by simp at h⟩
 | k::l,i,s,nd,e,ts,s',nd',h=>by
  simp only [Ba] at h;split at h
  ·cases h
  rename_i k' s1 e1 hk;split at h
  ·cases h
  rename_i t s2 nd2 e2 ht;cases hr:Ba rd f op u (i+1) l s2 nd2 e2 with
  | none=>rw [hr] at h;cases h
  | some q =>
   obtain ⟨us,s3,nd3,e3⟩:=q;rw [hr] at h;simp only [AB8,AB5,AB6] at h;obtain ⟨rfl,rfl,rfl,rfl⟩:=h;have he2:e2=0:=by
    cases l with
    | nil=>simp only [Ba,AB5,AB6] at hr;exact hr.2.2.2
    | cons k2 l2 =>
     simp only [Ba] at hr;split at hr
     ·cases hr
     rename_i k2' s5 e5 hk2;split at hr
     ·cases hr
     rename_i t2 s6 nd6 e6 ht2;cases hr2:Ba rd f op u (i+1+1) l2 s6 nd6 e6 with
     | none=>rw [hr2] at hr;cases hr
     | some q =>
      obtain ⟨ws,s7,nd7,e7⟩:=q;rw [hr2] at hr;simp only [AB8,AB5,AB6] at hr;obtain ⟨_,_,_,rfl⟩:=hr;have h6:e6=0:=readK_err herr op u l2 _ _ _ _ _ _ _ hr2;subst h6;have h5:=herr _ _ _ _ _ _ _ _ ht2;subst h5;split at hk2
      ·split at hk2
       ·cases hk2
       exact Cy hk2
      ·simp only [AB5,AB6] at hk2;exact hk2.2.2
   subst he2;have he1:=herr _ _ _ _ _ _ _ _ ht;subst he1;obtain ⟨n1,n2⟩:=Mf herr op u l (i+1) s2 nd2 0 us s3 nd3 hr;refine ⟨by simp [n1],?_⟩;intro j k2 t2 a b;cases j with
   | zero =>
    simp only [List.getElem?_cons_zero,AB5] at a b;subst a b;rw [Nat.add_zero];refine ⟨s1,nd,k',s2,nd2,⟨fun hb=>?_,fun hb=>?_⟩,ht⟩
    ·rw [if_pos hb] at hk;split at hk
     ·cases hk
     have:=Cy hk
     subst this;exact ⟨s,hk⟩
    ·rw [if_neg (by omega)] at hk;simp only [AB5,AB6] at hk;exact hk.1.symm
   | succ j =>
    simp only [List.getElem?_cons_succ] at a b
    have:=n2 j k2 t2 a b
    rw [show i+1+j=i+(j+1) by omega] at this
    exact this
where
 readK_err {rd:Int->Int->Int->RV->Int->Option (Tm×Int×Int×Int)} {f:Nat} (herr:∀s nd e v u t s' nd',rd s nd e v u=some (t,s',nd',0)->e=0) (op u:Int) :
   ∀(l:List RV) (i:Nat) (s nd e:Int) (ts:List Tm) (s' nd':Int),Ba rd f op u i l s nd e=some (ts,s',nd',0)->e=0
  | [],i,s,nd,e,ts,s',nd',h=>by
   simp only [Ba,AB5,AB6] at h;exact h.2.2.2
  | k::l,i,s,nd,e,ts,s',nd',hr=>by
   simp only [Ba] at hr;split at hr
   ·cases hr
   rename_i k2' s5 e5 hk2;split at hr
   ·cases hr
   rename_i t2 s6 nd6 e6 ht2;cases hr2:Ba rd f op u (i+1) l s6 nd6 e6 with
   | none=>rw [hr2] at hr;cases hr
   | some q =>
    obtain ⟨ws,s7,nd7,e7⟩:=q;rw [hr2] at hr;simp only [AB8,AB5,AB6] at hr;obtain ⟨_,_,_,rfl⟩:=hr;have h6:e6=0:=readK_err herr op u l _ _ _ _ _ _ _ hr2;subst h6;have h5:=herr _ _ _ _ _ _ _ _ ht2;subst h5;split at hk2
    ·split at hk2
     ·cases hk2
     exact Cy hk2
    ·simp only [AB5,AB6] at hk2;exact hk2.2.2
def UL (u:Int) (b j:Nat) (h:j<b):(Fo u b)[j]?=some (.var (u+j)):=by
 simp [Fo,h]
def AeO (u:Int) (b j:Nat) {x:RV} (h:(Fo u b).reverse[j]?=some x):j<b/\x=.var (u+((b - 1 - j:Nat):Int)):=by
 have hj:j<b:=by
  have:=(List.getElem?_eq_some_iff.1 h).1
  rw [List.length_reverse,B1] at this;exact this
 rw [List.getElem?_reverse (by rw [B1];exact hj),B1,UL _ _ _ (by omega),AB5] at h;exact ⟨hj,h.symm⟩
theorem AoM (G0:List Nat):∀(f:Nat) (L:List Nat) (s nd:Int) (v:RV) (d:Int) (t:Tm) (s' nd':Int) (σ:Nat),AL f s nd 0 v L.length d=some (t,s',nd',0)->VT G0 L v σ->NfT (L.reverse++G0) t σ/\t.op=v.op:=by
 intro f
 induction f with
 | zero=>intro L s nd v d t s' nd' σ h;rw [AL] at h;cases h
 | succ f ih =>
  intro L s nd v d t s' nd' σ h hv;have hri:=VV h;cases hv with
  | var n _ env b h1 hs =>
   rcases hri with ⟨_,rfl⟩ | ⟨hne,_⟩
   case inr=>exact absurd rfl hne
   refine ⟨.var _ _ _ ?_ ?_ hs,rfl⟩
   ·rcases h1 with ⟨h1,h2⟩ | ⟨h1,h2⟩
    ·have:=(List.getElem?_eq_some_iff.1 h2).1
     simp only [RV.n];omega
    ·simp only [RV.n];omega
   ·simp only [RV.n];rcases h1 with ⟨h1,h2⟩ | ⟨h1,h2⟩
    ·have hlt:=(List.getElem?_eq_some_iff.1 h2).1;rw [List.getElem?_append_left (by rw [List.length_reverse];omega),List.getElem?_reverse (by omega)];rw [show L.length - 1 - ((L.length:Int) - 1 - n).toNat=n.toNat by omega]
     exact h2
    ·rw [List.getElem?_append_right (by rw [List.length_reverse];omega),List.length_reverse];rw [show ((L.length:Int) - 1 - n).toNat - L.length=(-1 - n).toNat by omega]
     exact h2
  | node op n k env b _ sg D hr hl hst hk hc he =>
   rcases hri with ⟨he1,_⟩ | ⟨_,ts,hrk,rfl⟩
   case inl=>exact absurd he1 (Fs hr).1
   ·simp only [RV.op,RV.n,RV.k] at hrk ⊢;obtain ⟨n1,n2⟩:=Mf (fun s nd e v u t s' nd' h=>Dx h) op L.length k 0 s (nd+1) 0 ts s' nd' hrk;have key:∀(i:Nat) t bs s',ts[i]?=some t->sg[i]?=some (bs,s')->NfT (bs++(L.reverse++G0)) t s'/\(bs=[]->∀kv,k[i]?=some kv->t.op=kv.op):=by
     intro i t bs s' a b;have hi:i<k.length:=by rw [<- n1];exact (List.getElem?_eq_some_iff.1 a).1
     have hki:=List.getElem?_eq_getElem hi;obtain ⟨q1,q2,k',q3,q4,⟨q5,q6⟩,q7⟩:=n2 i _ t hki a;rw [Nat.zero_add] at q5 q6 q7;have hbn:=(G8 hr b).1;cases bs with
     | nil =>
      simp only [List.length_nil] at hbn;rw [<- hbn] at q6 q7
      have:=q6 rfl
      subst this;simp only [Int.ofNat_zero,Int.add_zero] at q7;have hv:=hk i _ s' hki b;have h3:=ih L _ _ _ _ _ _ _ _ q7 hv;refine ⟨by simpa using h3.1,fun _ kv hkv=>?_⟩;rw [hki,AB5] at hkv;rw [<- hkv];exact h3.2
     | cons b0 bs =>
      have hlb:=hbn;rw [AB9] at hbn;obtain ⟨s0,hev⟩:=q5 (by omega);obtain ⟨c1,c2⟩:=hc i _ _ s' hki b (by simp);have henv:Sx G0 (L++(b0::bs).reverse) (k[i].env++Fo L.length (Ae op i)) ((b0::bs)++D i):=by
       refine Wr ⟨c1,fun j x y p q=>Ao9 (he i _ _ s' j x y hki b (by simp) p q) _⟩ (by rw [B1];exact hlb) ?_;intro j x y p q;obtain ⟨hj,rfl⟩:=AeO _ _ _ p;have hjl:j<(b0::bs).length:=by rw [hlb];exact hj
       refine .var _ _ _ _ _ (.inl ⟨by omega,?_⟩) ?_
       ·rw [show ((L.length:Int)+((Ae op i - 1 - j:Nat):Int)).toNat=L.length+(Ae op i - 1 - j) by omega]
        rw [List.getElem?_append_right (by omega),Nat.add_sub_cancel_left,<- hlb,List.getElem?_reverse (by omega)];rw [show (b0::bs).length - 1 - ((b0::bs).length - 1 - j)=j by omega]
        exact q
       ·exact (G8 hr b).2 y (List.mem_of_getElem? q)
      have hvt:=(Ahs G0 (L++(b0::bs).reverse) f).1 _ _ _ _ _ _ _ hev (by rw [List.append_assoc];exact c2) henv;rw [<- hlb] at q7;have hlen:((L.length:Int)+((b0::bs).length:Int))=((L++(b0::bs).reverse).length:Int):=by
       rw [List.length_append,List.length_reverse];omega
      rw [hlen] at q7;have h3:=ih _ _ _ _ _ _ _ _ _ q7 hvt;refine ⟨?_,fun h=>by cases h⟩
      have:=h3.1
      rw [List.reverse_append,List.reverse_reverse,List.append_assoc] at this;exact this
    refine ⟨.node _ _ _ _ _ sg hr (by rw [n1];exact hl) ?_ (fun i t bs s' a b=>(key i t bs s' a b).1),rfl⟩;refine ⟨fun ho k0 hk0=>?_,fun ho k0 hk0=>?_,fun ho k3 hk3=>?_⟩
    ·subst ho;cases hr;obtain ⟨w,hw⟩:=Cs hl
     have:=(key 0 k0 [] 3 hk0 rfl).2 rfl w (by rw [hw];rfl)
     rw [this];exact hst.1 rfl w (by rw [hw];rfl)
    ·subst ho;cases hr;obtain ⟨w,hw⟩:=Cs hl
     have:=(key 0 k0 [] 6 hk0 rfl).2 rfl w (by rw [hw];rfl)
     rw [this];exact hst.2.1 rfl w (by rw [hw];rfl)
    ·subst ho;cases hr;obtain ⟨w0,w1,w2,w3,hw⟩:=Nd hl
     have:=(key 3 k3 [] 0 hk3 rfl).2 rfl w3 (by rw [hw];rfl)
     rw [this];exact hst.2.2 rfl w3 (by rw [hw];rfl)
def BU {f:Nat} {t u:Tm} {G:List Nat} {s:Nat} (h:AF f t=some (u,0)) (ht:HasT G t s):NfT G u s:=by
 rw [AF] at h;split at h
 ·cases h
 rename_i v s1 e1 he;split at h
 ·cases h
 rename_i w s2 nd2 e2 hr;simp only [AB5] at h;by_cases h2:e2=0
 ·subst h2;rw [if_neg (by simp)] at h;simp only [AB6,and_true] at h;subst h;have h1:=Dx hr;subst h1;have hv:=(Ahs G [] f).1 0 t [] v s1 [] s he ht ⟨rfl,fun j x y a=>by simp at a⟩
  have:=AoM G f [] s1 0 v 1 w s2 nd2 s hr hv
  simpa using this.1
 ·rw [if_pos h2] at h;simp only [AB6] at h;exact absurd h.2 h2
def An2 (op:Int) (ks:List Tm):Prop:=Alu op ks/\(op=5->∀k0,ks[0]?=some k0->k0.op≠4)/\(op=8\/op=9->∀k0,ks[0]?=some k0->k0.op≠7)
mutual
def Tm.stl:Tm->Prop
 | .mk op _ ks=>An2 op ks/\Tm.stlL ks
def Tm.stlL:List Tm->Prop
 | []=>True
 | t::l=>t.stl/\Tm.stlL l
end
theorem AdK:∀{l:List Tm},(∀(i:Nat) t,l[i]?=some t->t.stl)->Tm.stlL l
 | [],_=>by rw [Tm.stlL];trivial
 | x::l,h=>by
  rw [Tm.stlL];exact ⟨h 0 x rfl,AdK fun i t hi=>h (i+1) t (by simpa using hi)⟩
theorem H0:∀{l:List Tm} {t:Tm},Tm.stlL l->t∈l->t.stl
 | x::l,t,h,hm=>by
  rw [Tm.stlL] at h;rcases List.mem_cons.1 hm with rfl | hm
  ·exact h.1
  ·exact H0 h.2 hm
theorem BC {G:List Nat} {t:Tm} {s:Nat} (h:NfT G t s):t.stl:=by
 induction h with
 | var G n s h0 h hs =>
  rw [Tm.stl,Tm.stlL];exact ⟨⟨⟨by omega,by omega,by omega⟩,by omega,by omega⟩,trivial⟩
 | node G op n ks s sg hr hl hst hk ih =>
  rw [Tm.stl];obtain ⟨o1,o5,o8,o9⟩:=Fs hr;refine ⟨⟨hst,fun h=>absurd h o5,by omega⟩,AdK fun i t hi=>?_⟩
  have:i<sg.length:=by rw [<- hl];exact (List.getElem?_eq_some_iff.1 hi).1
  exact ih i t _ _ hi (List.getElem?_eq_getElem this)
mutual
def Tm.val:Tm->Nat->RV
 | .mk op n ks,u=>if op=1 then .var ((u:Int) - 1 - n) else .node op n (Tm.valL op 0 ks u)
def Tm.valL:Int->Nat->List Tm->Nat->List RV
 | _,_,[],_=>[]
 | op,i,t::l,u=>(if 0<Ae op i then .clo (Fo 0 u) t else t.val u)::Tm.valL op (i+1) l u
end
theorem Pe (t:Tm) (u:Nat):(t.val u).op=t.op:=by
 obtain ⟨op,n,ks⟩:=t;rw [Tm.val];split
 ·rename_i h;subst h;rfl
 ·rfl
theorem VW (op:Int) (u:Nat):∀(l:List Tm) (i:Nat),(Tm.valL op i l u).length=l.length
 | [],_=>rfl
 | t::l,i=>by simp only [Tm.valL,AB9,VW op u l]
theorem VF (op:Int) (u:Nat):∀(l:List Tm) (i j:Nat),(Tm.valL op i l u)[j]?=(l[j]?).map fun t=>if 0<Ae op (i+j) then .clo (Fo 0 u) t else t.val u
 | [],_,_=>by simp [Tm.valL]
 | t::l,i,0=>by simp [Tm.valL]
 | t::l,i,j+1=>by
  simp only [Tm.valL,List.getElem?_cons_succ];rw [VF op u l (i+1) j,show i+1+j=i+(j+1) by omega]
theorem AjO {s:Int} (h0:0<=s) (h1:s<=1000000) {op n:Int} {ks:List Tm} (har:ar op=some ks.length) (hst:An2 op ks) (u:Nat):headR 1 s 0 (.node op n (Tm.valL op 0 ks u))=some (.node op n (Tm.valL op 0 ks u),s,0):=by
 obtain ⟨⟨a1,a2,a3⟩,a4,a5⟩:=hst;have kid:∀(j:Nat) k,ks[j]?=some k->Ae op j=0->(Tm.valL op 0 ks u)[j]?=some (k.val u):=by
  intro j k hk hb;rw [VF,hk,Nat.zero_add,hb];rfl
 rw [headR,if_neg (by simp),if_neg (by omega)];have hop:(RV.node op n (Tm.valL op 0 ks u)).op=op:=rfl;have hk:(RV.node op n (Tm.valL op 0 ks u)).k=Tm.valL op 0 ks u:=rfl;rw [hop,hk];by_cases h5:op=5
 ·subst h5;obtain ⟨x,y,rfl⟩:=Ml (Option.some.inj har.symm:ks.length=2);rw [if_pos rfl,kid 0 x rfl rfl];simp only;rw [if_neg (by rw [Pe];exact a4 rfl x rfl)]
 rw [if_neg h5];by_cases h89:op=8\/op=9
 ·have hl:ks.length=1:=by
   rcases h89 with rfl | rfl<;>exact (Option.some.inj har.symm)
  obtain ⟨x,rfl⟩:=Cs hl;rw [if_pos h89,kid 0 x rfl (by rcases h89 with rfl | rfl<;>rfl)];simp only;rw [if_neg (by rw [Pe];exact a5 h89 x rfl)]
 rw [if_neg h89];by_cases h30:op=30
 ·subst h30;obtain ⟨x,rfl⟩:=Cs (Option.some.inj har.symm:ks.length=1);rw [if_pos rfl,kid 0 x rfl rfl];simp only;rw [if_neg (by rw [Pe];exact a1 rfl x rfl)]
 rw [if_neg h30];by_cases h19:op=19
 ·subst h19;obtain ⟨x,rfl⟩:=Cs (Option.some.inj har.symm:ks.length=1);rw [if_pos rfl,kid 0 x rfl rfl];simp only;rw [if_neg (by rw [Pe];exact a2 rfl x rfl)]
 rw [if_neg h19];by_cases h13:op=13
 ·subst h13;obtain ⟨x,y,z,w,rfl⟩:=Nd (Option.some.inj har.symm:ks.length=4);rw [if_pos rfl];have q:=a3 rfl w rfl;simp only [Tm.valL,List.getElem?_cons_zero,List.getElem?_cons_succ,show Ae 13 0=1 from rfl,show Ae 13 (0+1)=0 from rfl,show Ae 13 (0+1+1)=2 from rfl,show Ae 13 (0+1+1+1)=0 from rfl,Nat.lt_irrefl,if_false,Pe]
  rw [if_neg q.1,if_neg q.2]
 rw [if_neg h13]
theorem Ru {s:Int} {env:List RV} {u:Nat} (henv:env=Fo 0 u) (op:Int):∀(l:List Tm) (i:Nat),(∀(j:Nat) t,l[j]?=some t->Ae op (i+j)=0->∃f,AB f s 0 t env=some (t.val u,s,0))->∃f,AW (fun s e t=>AB f s e t env) op env i l s 0=some (Tm.valL op i l u,s,0)
 | [],i,_=>⟨0,rfl⟩
 | t::l,i,h=>by
  obtain ⟨f,hf⟩:=Ru henv op l (i+1) (fun j t a b=>h (j+1) t (by simpa using a) (by rw [<- b];congr 1;omega));by_cases hb:0<Ae op i
  ·refine ⟨f,?_⟩;rw [AW,if_pos hb,hf,Tm.valL,if_pos hb,henv];rfl
  ·obtain ⟨g,hg⟩:=h 0 t rfl (by rw [Nat.add_zero];omega);refine ⟨f+g,?_⟩;rw [AW,if_neg hb];simp only [BZ (show g<=f+g by omega) hg]
   rw [Dc (ev:=fun s e t=>AB f s e t env) (fun s e t r h=>BZ (by omega) h) op env l (i+1) s 0 _ hf,Tm.valL,if_neg hb];rfl
theorem IK {s:Int} (h0:0<=s) (h1:s<=1000000) (k0:Nat):∀(m:Nat) (t:Tm) (u:Nat),t.wt<m->t.stl->t.sc (k0+u)->k0+u+2 * t.wt<=900000->∃f,AB f s 0 t (Fo 0 u)=some (t.val u,s,0):=by
 intro m
 induction m with
 | zero=>intro t u h;omega
 | succ m ih =>
  intro t u hw hst hsc hb;obtain ⟨op,n,ks⟩:=t;rw [Tm.stl] at hst;rw [Tm.sc] at hsc;simp only [Tm.wt] at hw hb;by_cases h1o:op=1
  ·subst h1o;rw [if_pos rfl] at hsc;refine ⟨1,?_⟩;rw [AB,if_neg (by simp),if_neg (by rw [B1];omega),if_pos rfl,Tm.val,if_pos rfl,B1];by_cases hn:n<u
   ·rw [if_pos hn,if_pos hsc.2.1.1,UL _ _ _ (by omega)];simp only [AB8,AB5,AB6,and_true];congr 1;omega
   ·rw [if_neg hn,if_pos (by omega)]
  ·rw [if_neg h1o] at hsc;obtain ⟨f,hf⟩:=Ru (s:=s) (u:=u) rfl op ks 0 (fun j t a b=>by
    rw [Nat.zero_add] at b;have hwt:=Ke a
    have:=Qh hsc.2.2 a
    rw [Nat.zero_add,b,Nat.add_zero] at this;exact ih t u (by omega) (H0 hst.2 (List.mem_of_getElem? a)) this (by omega))
   have har:=WJ hsc.1;refine ⟨f+10+1,?_⟩;rw [AB,if_neg (by simp),if_neg (by rw [B1];omega),if_neg h1o,if_neg (by omega),if_neg (by omega)];rw [Dc (ev:=fun s e t=>AB f s e t (Fo 0 u)) (fun s e t r h=>BZ (by omega) h) op (Fo 0 u) ks 0 s 0 _ hf];simp only;rw [SD (show 1<=f+10 by omega) (AjO h0 h1 hsc.1 hst.1 u),Tm.val,if_neg h1o]
theorem Afv (u b:Nat):Fo 0 u++Fo (u:Int) b=Fo 0 (u+b):=by
 induction b with
 | zero=>simp [Fo]
 | succ b ih =>
  rw [L9,<- List.append_assoc,ih,<- Nat.add_assoc,L9];congr 2;simp
theorem PO {s:Int} {u:Nat} {d:Int} (op:Int):∀(l:List Tm) (i:Nat) (nd:Int),0<=nd->u<=800000 ->
  (∀(j:Nat) t,l[j]?=some t->∀nd:Int,0<=nd->nd+t.wt<=3000->∃f,(0<Ae op (i+j)->AB f s 0 t (Fo 0 (u+Ae op (i+j)))=some (t.val (u+Ae op (i+j)),s,0))/\AL f s nd 0 (t.val (u+Ae op (i+j))) ((u:Int)+Ae op (i+j)) d=some (t,s,nd+t.wt,0)) ->
  nd+Tm.wtL l<=3000->∃f,Ba (fun s nd e k u=>AL f s nd e k u d) f op u i (Tm.valL op i l u) s nd 0=some (l,s,nd+Tm.wtL l,0)
 | [],i,nd,_,_,_,_=>⟨0,by simp [Tm.valL,Ba,Tm.wtL]⟩
 | t::l,i,nd,hnd,hu,h,hw=>by
  simp only [Tm.wtL] at hw;obtain ⟨g,hg1,hg2⟩:=h 0 t rfl nd hnd (by omega);rw [Nat.add_zero] at hg1 hg2;obtain ⟨f,hf⟩:=PO (s:=s) (u:=u) (d:=d) op l (i+1) (nd+t.wt) (by omega) hu (fun j t a nd b c=>by
   obtain ⟨f,q1,q2⟩:=h (j+1) t (by simpa using a) nd b c;rw [show i+(j+1)=i+1+j by omega] at q1 q2
   exact ⟨f,q1,q2⟩) (by omega)
  refine ⟨f+g,?_⟩;rw [Tm.valL,Ba];have hbn:=Bo op i;have hr:=D0 (show g<=f+g by omega) hg2
  have hk:=Er (f:=f) (g:=f+g) (by omega) (rd:=fun s nd e k u=>AL f s nd e k u d) (rd':=fun s nd e k u=>AL (f+g) s nd e k u d) (fun s nd e k u r h=>D0 (by omega) h) op u _ _ _ _ _ _ hf;by_cases hb:0<Ae op i
  ·rw [if_pos hb,if_pos hb];rw [show (RV.clo (Fo 0 u) t).env=Fo 0 u from rfl,show (RV.clo (Fo 0 u) t).b=t from rfl]
   rw [if_neg (by rw [B1];omega),Afv,BZ (show g<=f+g by omega) (hg1 hb)]
   simp only;rw [hr];simp only;rw [hk];simp only [AB8,Tm.wtL,AB5,AB6,true_and,and_true];omega
  ·have hb0:Ae op i=0:=by omega
   rw [hb0] at hr;rw [if_neg hb,if_neg hb,hb0];simp only;simp only [Nat.add_zero] at hr;rw [hr];simp only;rw [hk];simp only [AB8,Tm.wtL,AB5,AB6,true_and,and_true];omega
theorem AfP:∀{l:List Tm} {j:Nat} {t:Tm},l[j]?=some t->t.dp<=Tm.dpL l
 | [],_,_,h=>by simp at h
 | x::l,0,t,h=>by
  simp only [List.getElem?_cons_zero,AB5] at h;subst h;simp only [Tm.dpL];omega
 | x::l,j+1,t,h=>by
  simp only [List.getElem?_cons_succ] at h
  have:=AfP h
  simp only [Tm.dpL];omega
theorem AiD {s:Int} (h0:0<=s) (h1:s<=1000000) (k0:Nat):∀(m:Nat) (t:Tm) (u:Nat) (nd d:Int),t.wt<m->t.stl->t.sc (k0+u)->k0+u+2 * t.wt<=800000->0<=nd->nd+t.wt<=3000->1<=d->d+t.dp<=121->∃f,AL f s nd 0 (t.val u) u d=some (t,s,nd+t.wt,0):=by
 intro m
 induction m with
 | zero=>intro t u nd d h;omega
 | succ m ih =>
  intro t u nd d hw hst hsc hb hnd hnw hd hdd;obtain ⟨op,n,ks⟩:=t;rw [Tm.stl] at hst;rw [Tm.sc] at hsc;simp only [Tm.wt] at hw hb hnw;simp only [Tm.dp] at hdd;have har:=WJ hsc.1;by_cases h1o:op=1
  ·subst h1o;rw [if_pos rfl] at hsc;have hks:ks=[]:=List.eq_nil_of_length_eq_zero (Option.some.inj hsc.1.symm);subst hks;refine ⟨5,?_⟩;rw [Tm.val,if_pos rfl,AL];rw [show (RV.var ((u:Int) - 1 - n)).n=(u:Int) - 1 - n from rfl,show (RV.var ((u:Int) - 1 - n)).k=[] from rfl,show (RV.var ((u:Int) - 1 - n)).op=1 from rfl,List.length_nil]
   rw [if_neg (by omega)];have hc:(if (0:Int)=0/\(3000<nd+1\/120<d) then (5:Int) else 0)=0:=if_neg (by simp only [Tm.wtL] at hnw;omega);rw [hc,if_neg (by simp),if_pos rfl];simp only [AB5,AB6,Tm.mk.injEq,Tm.wt,Tm.wtL,true_and,and_true];omega
  ·rw [if_neg h1o] at hsc;have hnum:=Al2 hsc.2.1;obtain ⟨f,hf⟩:=PO (s:=s) (u:=u) (d:=d+1) op ks 0 (nd+1) (by omega) (by omega) (fun j t a nd b c=>by
    have hwt:=Ke a;have hdt:=AfP a;have hsk:=Qh hsc.2.2 a;have hbn:=Bo op j;rw [Nat.zero_add] at hsk ⊢;have hstl:=H0 hst.2 (List.mem_of_getElem? a);obtain ⟨f1,hf1⟩:=ih t (u+Ae op j) nd (d+1) (by omega) hstl (by rw [<- Nat.add_assoc];exact hsk) (by omega) b c (by omega) (by omega);obtain ⟨f2,hf2⟩:=IK h0 h1 k0 (t.wt+1) t (u+Ae op j) (by omega) hstl (by rw [<- Nat.add_assoc];exact hsk) (by omega);refine ⟨f1+f2,fun _=>BZ (by omega) hf2,?_⟩
    have:=D0 (show f1<=f1+f2 by omega) hf1
    rw [show ((u+Ae op j:Nat):Int)=(u:Int)+(Ae op j:Int) by omega] at this
    exact this) (by omega)
   refine ⟨f+10+1,?_⟩;rw [Tm.val,if_neg h1o,AL];rw [show (RV.node op n (Tm.valL op 0 ks u)).n=n from rfl,show (RV.node op n (Tm.valL op 0 ks u)).k=Tm.valL op 0 ks u from rfl,show (RV.node op n (Tm.valL op 0 ks u)).op=op from rfl]
   rw [if_neg (by rw [VW];omega)];have hc:(if (0:Int)=0/\(3000<nd+1\/120<d) then (5:Int) else 0)=0:=if_neg (by omega);rw [hc,if_neg (by simp),if_neg h1o];rw [Er (f:=f) (g:=f+10) (by omega) (rd:=fun s nd e k u=>AL f s nd e k u (d+1)) (rd':=fun s nd e k u=>AL (f+10) s nd e k u (d+1)) (fun s nd e k u r h=>D0 (by omega) h) op u _ _ _ _ _ _ hf];simp only [AB8,AB5,AB6,Tm.wt,true_and,and_true];omega
theorem GA {t:Tm} {k:Nat} (hst:t.stl) (hsc:t.sc k) (hk:k<=700000) (hw:t.wt<=3000) (hd:t.dp<=120):∃f,AF f t=some (t,0):=by
 obtain ⟨f1,h1⟩:=IK (s:=0) (by omega) (by omega) k (t.wt+1) t 0 (by omega) hst (by simpa using hsc) (by omega);obtain ⟨f2,h2⟩:=AiD (s:=0) (by omega) (by omega) k (t.wt+1) t 0 0 1 (by omega) hst (by simpa using hsc) (by omega) (by omega) (by omega) (by omega) (by omega);refine ⟨f1+f2,?_⟩;have e0:Fo 0 0=[]:=rfl;rw [e0] at h1
 have:=D0 (show f2<=f1+f2 by omega) h2
 rw [AF,BZ (show f1<=f1+f2 by omega) h1]
 simp only;rw [show ((0:Nat):Int)=0 from rfl] at this
 rw [this];simp
theorem Ph {f g:Nat} (hfg:f<=g) {t:Tm} {r:Tm×Int} (h:AF f t=some r):AF g t=some r:=by
 rw [AF] at h ⊢;split at h
 ·cases h
 rename_i v s e he;rw [BZ hfg he];split at h
 ·cases h
 rename_i w s2 nd2 e2 hr;rw [<- h];simp only;rw [D0 hfg hr]
theorem CJ {f g:Nat} {t:Tm} {r r':Tm×Int} (h:AF f t=some r) (h':AF g t=some r'):r=r':=by
 have h1:=Ph (show f<=f+g by omega) h
 have h2:=Ph (show g<=f+g by omega) h'
 rw [h1] at h2;exact Option.some.inj h2
mutual
def Tm.vb:Tm->Prop
 | .mk op n ks=>(op=1->n<=4000000000000000000)/\Tm.vbL ks
def Tm.vbL:List Tm->Prop
 | []=>True
 | t::l=>t.vb/\Tm.vbL l
end
mutual
theorem Le:∀(t:Tm) (k:Nat),t.sc k->k+2 * t.wt<=4000000000000000000->t.vb
 | .mk op n ks,k,h,hk=>by
  rw [Tm.sc] at h;rw [Tm.wt] at hk;rw [Tm.vb];refine ⟨fun h1=>?_,scL_vb ks op 0 k h.2.2 (by omega)⟩
  have:=h.2.1
  rw [if_pos h1] at this;omega
theorem scL_vb:∀(l:List Tm) (op:Int) (i k:Nat),Tm.scL op i l k->k+2+2 * Tm.wtL l<=4000000000000000000->Tm.vbL l
 | [],_,_,_,_,_=>by rw [Tm.vbL];trivial
 | t::l,op,i,k,h,hk=>by
  rw [Tm.scL] at h;simp only [Tm.wtL] at hk
  have:=Bo op i
  rw [Tm.vbL];exact ⟨Le t _ h.1 (by omega),scL_vb l op (i+1) k h.2 (by omega)⟩
end
inductive ShR (d:Nat):RV->RV->Prop
 | neg (n:Int) (h:n<0):ShR d (.var n) (.var (n - d))
 | pos (n:Int) (h:0<=n):ShR d (.var n) (.var n)
 | node (op n:Int) (k k':List RV) (h1:op≠1) (hl:k'.length=k.length)
   (hk:∀(i:Nat) v v',Ae op i=0->k[i]?=some v->k'[i]?=some v'->ShR d v v')
   (hc:∀(i:Nat) (v v':RV),0<Ae op i->k[i]?=some v->k'[i]?=some v'->v'.b=v.b.shift d (v.env.length+Ae op i:Nat)/\v'.env.length=v.env.length/\v.b.vb)
   (he:∀(i:Nat) (v v':RV) (j:Nat) x x',0<Ae op i->k[i]?=some v->k'[i]?=some v'->v.env[j]?=some x->v'.env[j]?=some x'->ShR d x x'):ShR d (.node op n k) (.node op n k')
def WL (d:Nat) (env env':List RV):Prop:=env'.length=env.length/\∀(j:Nat) x x',env[j]?=some x->env'[j]?=some x'->ShR d x x'
theorem PM {d:Nat} {env env' l l':List RV} (h:WL d env env') (hl:l'.length=l.length) (hx:∀(j:Nat) x x',l[j]?=some x->l'[j]?=some x'->ShR d x x'):WL d (env++l) (env'++l'):=by
 refine ⟨by simp [h.1,hl],?_⟩;intro j x x' a b;by_cases hj:j<env.length
 ·rw [List.getElem?_append_left hj] at a;rw [List.getElem?_append_left (by rw [h.1];exact hj)] at b;exact h.2 j x x' a b
 ·rw [List.getElem?_append_right (by omega)] at a;rw [List.getElem?_append_right (by rw [h.1];omega),h.1] at b;exact hx _ x x' a b
theorem IF {d:Nat} {v v':RV} (h:ShR d v v'):v'.op=v.op/\(v.op≠1->v'.n=v.n/\v'.k.length=v.k.length/\v=.node v.op v.n v.k/\v'=.node v.op v.n v'.k /\
  (∀(i:Nat) x x',Ae v.op i=0->v.k[i]?=some x->v'.k[i]?=some x'->ShR d x x') /\
  (∀(i:Nat) (x x':RV),0<Ae v.op i->v.k[i]?=some x->v'.k[i]?=some x'->(x'.b=x.b.shift d (x.env.length+Ae v.op i:Nat)/\x.b.vb)/\WL d x.env x'.env)):=by
 cases h with
 | neg n h=>exact ⟨rfl,fun h=>absurd rfl h⟩
 | pos n h=>exact ⟨rfl,fun h=>absurd rfl h⟩
 | node op n k k' h1 hl hk hc he =>
  refine ⟨rfl,fun _=>⟨rfl,hl,rfl,rfl,hk,fun i x x' a b c=>?_⟩⟩;obtain ⟨q1,q2,q3⟩:=hc i x x' a b c;exact ⟨⟨q1,q3⟩,q2,fun j y y' p q=>he i x x' j y y' a b c p q⟩
theorem PQ {d:Nat} {op n:Int} {k k':List RV} (h1:op≠1) (hl:k'.length=k.length) (hk:∀(i:Nat) v v',Ae op i=0->k[i]?=some v->k'[i]?=some v'->ShR d v v')
  (hc:∀(i:Nat) (x x':RV),0<Ae op i->k[i]?=some x->k'[i]?=some x'->(x'.b=x.b.shift d (x.env.length+Ae op i:Nat)/\x.b.vb)/\WL d x.env x'.env):ShR d (.node op n k) (.node op n k') :=
 .node op n k k' h1 hl hk (fun i v v' a b c=>⟨(hc i v v' a b c).1.1,(hc i v v' a b c).2.1,(hc i v v' a b c).1.2⟩) (fun i v v' j x x' a b c e f=>(hc i v v' a b c).2.2 j x x' e f)
theorem Cf {l l':List RV} (h:l'.length=l.length) {j:Nat} {x':RV} (hx:l'[j]?=some x'):∃x,l[j]?=some x :=
 ⟨_,List.getElem?_eq_getElem (by rw [<- h];exact (List.getElem?_eq_some_iff.1 hx).1)⟩
theorem Uz {d:Nat} {env env':List RV} {ev ev':Int->Int->Tm->Option (RV×Int×Int)} (henv:WL d env env') (op:Int)
  (hev:∀s e t v' s' e',ev' s e (t.shift d env.length)=some (v',s',e')->t.vb->∃v,ev s e t=some (v,s',e')/\ShR d v v') :
  ∀(l:List Tm) (i:Nat) (s e:Int) (vs':List RV) (s' e':Int),AW ev' op env' i (Tm.shiftL op i l d env.length) s e=some (vs',s',e')->Tm.vbL l ->
   ∃vs,AW ev op env i l s e=some (vs,s',e')/\vs'.length=vs.length/\(∀(j:Nat) v v',Ae op (i+j)=0->vs[j]?=some v->vs'[j]?=some v'->ShR d v v') /\
    (∀(j:Nat) (x x':RV),0<Ae op (i+j)->vs[j]?=some x->vs'[j]?=some x'->(x'.b=x.b.shift d (x.env.length+Ae op (i+j):Nat)/\x.b.vb)/\WL d x.env x'.env)
 | [],i,s,e,vs',s',e',h,hv=>by
  simp only [Tm.shiftL,AW,AB5,AB6] at h;obtain ⟨rfl,rfl,rfl⟩:=h;exact ⟨[],rfl,rfl,fun j v v' _ h=>by simp at h,fun j v v' _ h=>by simp at h⟩
 | t::l,i,s,e,vs',s',e',h,hv=>by
  rw [Tm.vbL] at hv;rw [Tm.shiftL,AW] at h;by_cases hb:0<Ae op i
  ·rw [if_pos hb] at h;cases hk:AW ev' op env' (i+1) (Tm.shiftL op (i+1) l d env.length) s e with
   | none=>rw [hk] at h;cases h
   | some q =>
    obtain ⟨us',s1,e1⟩:=q;rw [hk] at h;simp only [AB8,AB5,AB6] at h;obtain ⟨rfl,rfl,rfl⟩:=h;obtain ⟨us,q1,q2,q3,q4⟩:=Uz henv op hev l (i+1) s e us' s1 e1 hk hv.2;refine ⟨.clo env t::us,by rw [AW,if_pos hb,q1];rfl,by simp [q2],?_,?_⟩
    ·intro j v v' h0 a b;cases j with
     | zero=>rw [Nat.add_zero] at h0;omega
     | succ j =>
      simp only [List.getElem?_cons_succ] at a b;exact q3 j v v' (by rw [<- h0];congr 1;omega) a b
    ·intro j x x' h0 a b;cases j with
     | zero =>
      simp only [List.getElem?_cons_zero,AB5] at a b;subst a b;simp only [Nat.add_zero,RV.clo,RV.b,RV.env];exact ⟨⟨by congr 1,hv.1⟩,henv⟩
     | succ j =>
      simp only [List.getElem?_cons_succ] at a b
      have:=q4 j x x' (by rw [show i+1+j=i+(j+1) by omega];exact h0) a b
      rw [show i+1+j=i+(j+1) by omega] at this
      exact this
  ·rw [if_neg hb] at h;have hb0:Ae op i=0:=by omega
   rw [hb0] at h;simp only [Int.ofNat_zero,Int.add_zero] at h;split at h
   ·cases h
   rename_i v0' s1 e1 hv0;obtain ⟨v0,p1,p2⟩:=hev s e t v0' s1 e1 (by simpa using hv0) hv.1;cases hk:AW ev' op env' (i+1) (Tm.shiftL op (i+1) l d env.length) s1 e1 with
   | none=>rw [hk] at h;cases h
   | some q =>
    obtain ⟨us',s2,e2⟩:=q;rw [hk] at h;simp only [AB8,AB5,AB6] at h;obtain ⟨rfl,rfl,rfl⟩:=h;obtain ⟨us,q1,q2,q3,q4⟩:=Uz henv op hev l (i+1) s1 e1 us' s2 e2 hk hv.2;refine ⟨v0::us,by rw [AW,if_neg hb,p1];simp only;rw [q1];rfl,by simp [q2],?_,?_⟩
    ·intro j v v' h0 a b;cases j with
     | zero =>
      simp only [List.getElem?_cons_zero,AB5] at a b;subst a b;exact p2
     | succ j =>
      simp only [List.getElem?_cons_succ] at a b;exact q3 j v v' (by rw [<- h0];congr 1;omega) a b
    ·intro j x x' h0 a b;cases j with
     | zero=>rw [Nat.add_zero] at h0;omega
     | succ j =>
      simp only [List.getElem?_cons_succ] at a b
      have:=q4 j x x' (by rw [show i+1+j=i+(j+1) by omega];exact h0) a b
      rw [show i+1+j=i+(j+1) by omega] at this
      exact this
theorem Pu {d f:Nat} {s:Int} {v v' w':RV} {s' e':Int} (hb:Ae v.op 0=0) (hs:ShR d v v') (hv1:v.op≠1) (i:Nat) (o:Int) (ho1:o≠1) (hbi:Ae o i=0)
  (h:(match v'.k[0]? with
   | none=>none
   | some k0=>if k0.op=o then (if s+1<=1000 then (k0.k[i]?).map fun x=>(x,s+1,(0:Int)) else some (v',s+1,17)) else some (v',s,0))=some (w',s',e')) :
  ∃w,(match v.k[0]? with
   | none=>none
   | some k0=>if k0.op=o then (if s+1<=1000 then (k0.k[i]?).map fun x=>(x,s+1,(0:Int)) else some (v,s+1,17)) else some (v,s,0))=some (w,s',e')/\ShR d w w':=by
 obtain ⟨_,a2⟩:=IF hs;obtain ⟨a3,a4,a5,a6,a7,a8⟩:=a2 hv1;cases hk:v'.k[0]? with
 | none=>rw [hk] at h;cases h
 | some k0' =>
  rw [hk] at h;obtain ⟨k0,hk0⟩:=Cf a4 hk;have hr:=a7 0 k0 k0' hb hk0 hk;obtain ⟨b1,b2⟩:=IF hr;rw [hk0];simp only at h ⊢;rw [b1] at h;by_cases hop:k0.op=o
  ·rw [if_pos hop] at h ⊢;by_cases hq:s+1<=1000
   ·rw [if_pos hq] at h ⊢;obtain ⟨b3,b4,b5,b6,b7,b8⟩:=b2 (by rw [hop];exact ho1);cases hx:k0'.k[i]? with
    | none=>rw [hx] at h;cases h
    | some x' =>
     rw [hx] at h;simp only [AB8,AB5,AB6] at h;obtain ⟨rfl,rfl,rfl⟩:=h;obtain ⟨x,hx0⟩:=Cf b4 hx;rw [hx0];exact ⟨x,rfl,b7 i x x' (by rw [hop];exact hbi) hx0 hx⟩
   ·rw [if_neg hq] at h ⊢;simp only [AB5,AB6] at h;obtain ⟨rfl,rfl,rfl⟩:=h;exact ⟨v,rfl,hs⟩
  ·rw [if_neg hop] at h ⊢;simp only [AB5,AB6] at h;obtain ⟨rfl,rfl,rfl⟩:=h;exact ⟨v,rfl,hs⟩
theorem Acx (d:Nat) (hd:d<=1000000):∀f,(∀s e t env env' v' s' e',AB f s e (t.shift d env.length) env'=some (v',s',e')->t.vb->WL d env env'->∃v,AB f s e t env=some (v,s',e')/\ShR d v v') /\
  (∀s e v v' w' s' e',headR f s e v'=some (w',s',e')->ShR d v v'->v.op≠1->∃w,headR f s e v=some (w,s',e')/\ShR d w w'):=by
 intro f
 induction f with
 | zero=>exact ⟨(by intro s e t env env' v' s' e' h;rw [AB] at h;cases h),(by intro s e v v' w' s' e' h;rw [headR] at h;cases h)⟩
 | succ f ih =>
  refine ⟨?_,?_⟩
  ·intro s e t env env' v' s' e' h hvb henv;obtain ⟨op,m,ks⟩:=t;rw [Tm.vb] at hvb;rw [Tm.shift] at h;obtain ⟨m',hm'⟩:∃m':Int,m'=(if op=1/\(env.length:Int)<=m then BM (m+d) else m):=⟨_,rfl⟩;rw [<- hm',AB] at h;rw [AB];by_cases he:e≠0
   ·rw [if_pos he] at h ⊢;simp only [AB5,AB6] at h;obtain ⟨rfl,rfl,rfl⟩:=h;exact ⟨_,rfl,PQ (by decide) rfl (fun i v v' _ h=>by simp at h) (fun i v v' _ h=>by simp at h)⟩
   rw [if_neg he] at h ⊢;rw [henv.1] at h;by_cases hl:900000<env.length
   ·rw [if_pos hl] at h;cases h
   rw [if_neg hl] at h ⊢;by_cases h1:op=1
   ·rw [if_pos h1] at h ⊢;by_cases hm:(env.length:Int)<=m
    ·have hw:BM (m+d)=m+d:=by rw [Av (by omega) (by have:=hvb.1 h1;omega)]
     rw [if_pos ⟨h1,hm⟩,hw] at hm';rw [if_neg (by omega)] at h;rw [if_neg (by omega)];split at h
     ·simp only [AB5,AB6] at h;obtain ⟨rfl,rfl,rfl⟩:=h;rw [if_pos (by omega),hm'];refine ⟨_,rfl,?_⟩
      have:=ShR.neg (d:=d) ((env.length:Int) - 1 - m) (by omega)
      rw [show (env.length:Int) - 1 - m - d=(env.length:Int) - 1 - (m+d) by omega] at this
      exact this
     ·cases h
    ·rw [if_neg (fun h=>hm h.2)] at hm';rw [hm'] at h;rw [if_pos (by omega)] at h;rw [if_pos (by omega)];split at h
     ·rename_i h0;rw [if_pos h0];cases hx:env'[((env.length:Int) - 1 - m).toNat]? with
      | none=>rw [hx] at h;cases h
      | some x' =>
       rw [hx] at h;simp only [AB8,AB5,AB6] at h;obtain ⟨rfl,rfl,rfl⟩:=h;obtain ⟨x,hx0⟩:=Cf henv.1 hx;rw [hx0];exact ⟨x,rfl,henv.2 _ x x' hx0 hx⟩
     ·cases h
   ·rw [if_neg h1] at h ⊢;rw [if_neg (fun h=>h1 h.1)] at hm';rw [hm'] at h;rw [Ew] at h;split at h
    ·cases h
    rename_i h2;rw [if_neg h2];split at h
    ·cases h
    rename_i h3;rw [if_neg h3];split at h
    ·cases h
    rename_i vs' s1 e1 hk;obtain ⟨vs,q1,q2,q3,q4⟩:=Uz (ev:=fun s e t=>AB f s e t env) henv op (fun s e t v' s' e' a b=>ih.1 s e t env env' v' s' e' a b henv) ks 0 s e vs' s1 e1 hk hvb.2;rw [q1];simp only;simp only [Nat.zero_add] at q3 q4;exact ih.2 _ _ _ _ _ _ _ h (PQ h1 q2 q3 q4) h1
  ·intro s e v v' w' s' e' h hs hv1;obtain ⟨a1,a2⟩:=IF hs;obtain ⟨a3,a4,a5,a6,a7,a8⟩:=a2 hv1;rw [headR] at h ⊢;rw [a1] at h;by_cases he:e≠0
   ·rw [if_pos he] at h ⊢;simp only [AB5,AB6] at h;obtain ⟨rfl,rfl,rfl⟩:=h;exact ⟨v,rfl,hs⟩
   rw [if_neg he] at h ⊢;have he0:e=0:=by omega
   subst he0;split at h
   ·cases h
   rename_i hsb;rw [if_neg hsb];by_cases h5:v.op=5
   ·rw [if_pos h5] at h ⊢;cases hk:v'.k[0]? with
    | none=>rw [hk] at h;cases h
    | some k0' =>
     rw [hk] at h;obtain ⟨k0,hk0⟩:=Cf a4 hk;have hr:=a7 0 k0 k0' (by rw [h5];rfl) hk0 hk;obtain ⟨b1,b2⟩:=IF hr;rw [hk0];simp only at h ⊢;rw [b1] at h;by_cases hop:k0.op=4
     ·rw [if_pos hop] at h ⊢;by_cases hq:s+1<=1000
      ·rw [if_pos hq] at h ⊢;obtain ⟨b3,b4,b5,b6,b7,b8⟩:=b2 (by rw [hop];decide);cases hc:k0'.k[1]? with
       | none=>rw [hc] at h;cases h
       | some c' =>
       cases hx:v'.k[1]? with
       | none=>rw [hc,hx] at h;cases h
       | some x' =>
        rw [hc,hx] at h;obtain ⟨c,hc0⟩:=Cf b4 hc;obtain ⟨x,hx0⟩:=Cf a4 hx;have hxr:=a7 1 x x' (by rw [h5];rfl) hx0 hx;obtain ⟨⟨c1,c2⟩,c3⟩:=b8 1 c c' (by rw [hop];decide) hc0 hc;rw [hc0,hx0];simp only at h ⊢;rw [c3.1] at h;split at h
        ·cases h
        rename_i hcl;rw [if_neg hcl];rw [hop,show Ae 4 1=1 from rfl] at c1
        rw [c1] at h;have henv:=PM (l:=[x]) (l':=[x']) c3 rfl (fun j y y' a b=>by
         cases j with
         | zero =>
          simp only [List.getElem?_cons_zero,AB5] at a b;subst a b;exact hxr
         | succ j=>simp at a)
        exact ih.1 _ _ c.b (c.env++[x]) _ _ _ _ (by rw [List.length_append];exact h) c2 henv
      ·rw [if_neg hq] at h ⊢;simp only [AB5,AB6] at h;obtain ⟨rfl,rfl,rfl⟩:=h;exact ⟨v,rfl,hs⟩
     ·rw [if_neg hop] at h ⊢;simp only [AB5,AB6] at h;obtain ⟨rfl,rfl,rfl⟩:=h;exact ⟨v,rfl,hs⟩
   rw [if_neg h5] at h ⊢;by_cases h89:v.op=8\/v.op=9
   ·rw [if_pos h89] at h ⊢;exact Pu (f:=f) (by rcases h89 with h | h<;>rw [h]<;>rfl) hs hv1 (1+v.op - 8).toNat 7 (by decide) (by simp [Ae]) h
   rw [if_neg h89] at h ⊢;by_cases h30:v.op=30
   ·rw [if_pos h30] at h ⊢;exact Pu (f:=f) (by rw [h30];rfl) hs hv1 0 19 (by decide) rfl h
   rw [if_neg h30] at h ⊢;by_cases h19:v.op=19
   ·rw [if_pos h19] at h ⊢;exact Pu (f:=f) (by rw [h19];rfl) hs hv1 0 30 (by decide) rfl h
   rw [if_neg h19] at h ⊢;by_cases h13:v.op=13
   ·rw [if_pos h13] at h ⊢;cases hk0:v'.k[0]? with
    | none=>rw [hk0] at h;cases h
    | some k0' =>
    cases hk1:v'.k[1]? with
    | none=>rw [hk0,hk1] at h;cases h
    | some k1' =>
    cases hk2:v'.k[2]? with
    | none=>rw [hk0,hk1,hk2] at h;cases h
    | some k2' =>
    cases hk3:v'.k[3]? with
    | none=>rw [hk0,hk1,hk2,hk3] at h;cases h
    | some k3' =>
     rw [hk0,hk1,hk2,hk3] at h;obtain ⟨k0,g0⟩:=Cf a4 hk0;obtain ⟨k1,g1⟩:=Cf a4 hk1;obtain ⟨k2,g2⟩:=Cf a4 hk2;obtain ⟨k3,g3⟩:=Cf a4 hk3;rw [g0,g1,g2,g3];simp only at h ⊢;have r1:=a7 1 k1 k1' (by rw [h13];rfl) g1 hk1;have r3:=a7 3 k3 k3' (by rw [h13];rfl) g3 hk3;obtain ⟨b1,b2⟩:=IF r3;rw [b1] at h;split at h
     ·rename_i h11;rw [if_pos h11];split at h
      ·rename_i hq;rw [if_pos hq];simp only [AB5,AB6] at h;obtain ⟨rfl,rfl,rfl⟩:=h;exact ⟨k1,rfl,r1⟩
      ·rename_i hq;rw [if_neg hq];simp only [AB5,AB6] at h;obtain ⟨rfl,rfl,rfl⟩:=h;exact ⟨v,rfl,hs⟩
     ·rename_i h11;rw [if_neg h11];split at h
      ·rename_i h12;rw [if_pos h12];split at h
       ·rename_i hq;rw [if_pos hq];obtain ⟨b3,b4,b5,b6,b7,b8⟩:=b2 (by rw [h12];decide);cases hx:k3'.k[0]? with
        | none=>rw [hx] at h;cases h
        | some x' =>
         rw [hx] at h;obtain ⟨x,hx0⟩:=Cf b4 hx;have rx:=b7 0 x x' (by rw [h12];rfl) hx0 hx;rw [hx0];simp only at h ⊢;split at h
         ·cases h
         rename_i w2' s5 e5 hw;obtain ⟨⟨c1,c2⟩,c3⟩:=a8 2 k2 k2' (by rw [h13];decide) g2 hk2;have c0:=a8 0 k0 k0' (by rw [h13];decide) g0 hk0;rw [h13] at c0 c1;have hn:ShR d (.node 13 0 [k0,k1,k2,x]) (.node 13 0 [k0',k1',k2',x']):=by
          refine PQ (by decide) rfl ?_ ?_
          ·intro i y y' hb a b
           match i with
           | 0=>exact absurd hb (by decide)
           | 1=>simp at a b;subst a b;exact r1
           | 2=>exact absurd hb (by decide)
           | 3=>simp at a b;subst a b;exact rx
           | i+4=>simp at a
          ·intro i y y' hb a b
           match i with
           | 0=>simp at a b;subst a b;exact c0
           | 1=>exact absurd hb (by decide)
           | 2=>simp at a b;subst a b;exact ⟨⟨c1,c2⟩,c3⟩
           | 3=>exact absurd hb (by decide)
           | i+4=>simp at a
         obtain ⟨w2,p1,p2⟩:=ih.2 _ _ _ _ _ _ _ hw hn (by simp [RV.node,RV.op]);rw [p1];simp only;rw [c3.1] at h;split at h
         ·cases h
         rename_i hcl;rw [if_neg hcl];rw [c1] at h;have henv:=PM (l:=[x,w2]) (l':=[x',w2']) c3 rfl (fun j y y' a b=>by
          match j with
          | 0=>simp at a b;subst a b;exact rx
          | 1=>simp at a b;subst a b;exact p2
          | j+2=>simp at a)
         exact ih.1 _ _ k2.b (k2.env++[x,w2]) _ _ _ _ (by rw [List.length_append];exact h) c2 henv
       ·rename_i hq;rw [if_neg hq];simp only [AB5,AB6] at h;obtain ⟨rfl,rfl,rfl⟩:=h;exact ⟨v,rfl,hs⟩
      ·rename_i h12;rw [if_neg h12];simp only [AB5,AB6] at h;obtain ⟨rfl,rfl,rfl⟩:=h;exact ⟨v,rfl,hs⟩
   rw [if_neg h13] at h ⊢;simp only [AB5,AB6] at h;obtain ⟨rfl,rfl,rfl⟩:=h;exact ⟨v,rfl,hs⟩
theorem WY {d f:Nat} (hd:d<=1000000) {rd:Int->Int->Int->RV->Int->Option (Tm×Int×Int×Int)} {u:Nat}
  (hrd:∀s nd e v v' (u:Nat) t' s' nd' e',rd s nd e v' u=some (t',s',nd',e')->ShR d v v'->∃t,rd s nd e v u=some (t,s',nd',e')/\t'=t.shift d u) (op:Int) :
  ∀(l l':List RV) (i:Nat) (s nd e:Int) (ts':List Tm) (s' nd' e':Int),Ba rd f op u i l' s nd e=some (ts',s',nd',e')->l'.length=l.length ->
   (∀(j:Nat) v v',Ae op (i+j)=0->l[j]?=some v->l'[j]?=some v'->ShR d v v') ->
   (∀(j:Nat) (x x':RV),0<Ae op (i+j)->l[j]?=some x->l'[j]?=some x'->(x'.b=x.b.shift d (x.env.length+Ae op (i+j):Nat)/\x.b.vb)/\WL d x.env x'.env) ->
   ∃ts,Ba rd f op u i l s nd e=some (ts,s',nd',e')/\ts'=Tm.shiftL op i ts d u
 | [],[],i,s,nd,e,ts',s',nd',e',h,_,_,_=>by
  simp only [Ba,AB5,AB6] at h;obtain ⟨rfl,rfl,rfl,rfl⟩:=h;exact ⟨[],rfl,rfl⟩
 | k::l,k'::l',i,s,nd,e,ts',s',nd',e',h,hl,hk,hc=>by
  simp only [Ba] at h ⊢;split at h
  ·cases h
  rename_i y' s1 e1 hy;split at h
  ·cases h
  rename_i t' s2 nd2 e2 ht;have hkey:∃y,(if 0<Ae op i then (if 900000<k.env.length then none else AB f s e k.b (k.env++Fo u (Ae op i))) else some (k,s,e))=some (y,s1,e1)/\ShR d y y':=by
   by_cases hb:0<Ae op i
   ·rw [if_pos hb] at hy ⊢;obtain ⟨⟨c1,c2⟩,c3⟩:=hc 0 k k' (by rw [Nat.add_zero];exact hb) rfl rfl;rw [c3.1] at hy;split at hy
    ·cases hy
    rename_i hcl;rw [if_neg hcl];rw [c1,Nat.add_zero] at hy;have henv:=PM (l:=Fo u (Ae op i)) (l':=Fo u (Ae op i)) c3 rfl (fun j y y' a b=>by
     have hj:j<Ae op i:=by
      have:=(List.getElem?_eq_some_iff.1 a).1
      rw [B1] at this;exact this
     rw [UL _ _ _ hj,AB5] at a b;subst a b;exact .pos _ (by omega))
    exact (Acx d hd f).1 _ _ k.b (k.env++Fo u (Ae op i)) _ _ _ _ (by rw [List.length_append,B1];exact hy) c2 henv
   ·rw [if_neg hb] at hy ⊢;simp only [AB5,AB6] at hy;obtain ⟨rfl,rfl,rfl⟩:=hy;exact ⟨k,rfl,hk 0 k k' (by rw [Nat.add_zero];omega) rfl rfl⟩
  obtain ⟨y,p1,p2⟩:=hkey;rw [p1];simp only;obtain ⟨t,q1,q2⟩:=hrd _ _ _ y y' (u+Ae op i) t' s2 nd2 e2 (by rw [show ((u+Ae op i:Nat):Int)=(u:Int)+(Ae op i:Int) by omega];exact ht) p2
  rw [show ((u+Ae op i:Nat):Int)=(u:Int)+(Ae op i:Int) by omega] at q1
  rw [q1];simp only;cases hr:Ba rd f op u (i+1) l' s2 nd2 e2 with
  | none=>rw [hr] at h;cases h
  | some q =>
   obtain ⟨us',s3,nd3,e3⟩:=q;rw [hr] at h;simp only [AB8,AB5,AB6] at h;obtain ⟨rfl,rfl,rfl,rfl⟩:=h;obtain ⟨us,r1,r2⟩:=WY hd hrd op l l' (i+1) s2 nd2 e2 us' s3 nd3 e3 hr (by simpa using hl) (fun j v v' a b c=>hk (j+1) v v' (by rw [<- a];congr 1;omega) (by simpa using b) (by simpa using c)) (fun j x x' a b c=>by
    have:=hc (j+1) x x' (by rw [show i+(j+1)=i+1+j by omega];exact a) (by simpa using b) (by simpa using c)
    rw [show i+(j+1)=i+1+j by omega] at this
    exact this)
   rw [r1];refine ⟨t::us,rfl,?_⟩;rw [Tm.shiftL,r2,q2];rw [show ((u+Ae op i:Nat):Int)=(u:Int)+(Ae op i:Int) by omega]
 | [],_::_,_,_,_,_,_,_,_,_,_,hl,_,_=>by simp at hl
 | _::_,[],_,_,_,_,_,_,_,_,_,hl,_,_=>by simp at hl
theorem AoJ (d:Nat) (hd:d<=1000000):∀f s nd e v v' (u:Nat) dd t' s' nd' e',AL f s nd e v' u dd=some (t',s',nd',e')->ShR d v v'->∃t,AL f s nd e v u dd=some (t,s',nd',e')/\t'=t.shift d u:=by
 intro f
 induction f with
 | zero=>intro s nd e v v' u dd t' s' nd' e' h;rw [AL] at h;cases h
 | succ f ih =>
  intro s nd e v v' u dd t' s' nd' e' h hs;rw [AL] at h ⊢;by_cases h1:v.op=1
  ·obtain ⟨n,n',rfl,rfl,hn⟩:∃n n':Int,v=.var n/\v'=.var n'/\(n<0/\n'=n - d\/0<=n/\n'=n):=by
    cases hs with
    | neg n hn=>exact ⟨n,_,rfl,rfl,.inl ⟨hn,rfl⟩⟩
    | pos n hn=>exact ⟨n,n,rfl,rfl,.inr ⟨hn,rfl⟩⟩
    | node op n k k' h1'=>exact absurd h1 h1'
   rw [show (RV.var n').n=n' from rfl,show (RV.var n').k=[] from rfl,show (RV.var n').op=1 from rfl,List.length_nil] at h
   rw [show (RV.var n).n=n from rfl,show (RV.var n).k=[] from rfl,show (RV.var n).op=1 from rfl,List.length_nil]
   by_cases hb:nd<0\/1000000<nd\/(u:Int)<0\/1000000<(u:Int)\/dd<0\/1000000<dd\/n' < -2305843009213693952\/2305843009213693952<n'\/f<=0\/900000<0\/f<=3
   ·rw [if_pos hb] at h;cases h
   rw [if_neg hb] at h;rw [if_neg (by omega)];by_cases hne:(if e=0/\(3000<nd+1\/120<dd) then (5:Int) else e)≠0
   ·rw [if_pos hne] at h ⊢;simp only [AB5,AB6] at h;obtain ⟨rfl,rfl,rfl,rfl⟩:=h;exact ⟨_,rfl,rfl⟩
   ·rw [if_neg hne,if_pos rfl] at h ⊢;simp only [AB5,AB6] at h;obtain ⟨rfl,rfl,rfl,rfl⟩:=h;refine ⟨_,rfl,?_⟩;rw [Tm.shift,Tm.shiftL];rcases hn with ⟨hn,rfl⟩ | ⟨hn,rfl⟩
    ·rw [if_pos ⟨rfl,by omega⟩,Av (by omega) (by omega)];congr 1;omega
    ·rw [if_neg (by omega)]
  obtain ⟨a1,a2⟩:=IF hs;rw [a1] at h;split at h
  ·cases h
  rename_i hbad
  ·obtain ⟨a3,a4,a5,a6,a7,a8⟩:=a2 h1
   first | rw [if_neg h1] at h | skip
   rw [if_neg h1];rw [a3,a4] at hbad;rw [a3] at h;rw [if_neg hbad];by_cases hne:(if e=0/\(3000<nd+1\/120<dd) then (5:Int) else e)≠0
   ·rw [if_pos hne] at h ⊢;simp only [AB5,AB6] at h;obtain ⟨rfl,rfl,rfl,rfl⟩:=h;exact ⟨_,rfl,rfl⟩
   ·rw [if_neg hne] at h ⊢;cases hr:Ba (fun s nd e k u=>AL f s nd e k u (dd+1)) f v.op u 0 v'.k s (nd+1) 0 with
    | none=>rw [hr] at h;cases h
    | some q =>
     obtain ⟨us',s3,nd3,e3⟩:=q;rw [hr] at h;simp only [AB8,AB5,AB6] at h;obtain ⟨rfl,rfl,rfl,rfl⟩:=h;obtain ⟨us,r1,r2⟩:=WY hd (rd:=fun s nd e k u=>AL f s nd e k u (dd+1)) (fun s nd e v v' u t' s' nd' e' a b=>ih s nd e v v' u (dd+1) t' s' nd' e' a b) v.op v.k v'.k 0 s (nd+1) 0 us' s3 nd3 e3 hr a4 (fun j x x' a b c=>a7 j x x' (by rw [<- a];congr 1;omega) b c) (fun j x x' a b c=>by
      rw [Nat.zero_add] at a ⊢;exact a8 j x x' a b c)
     rw [r1];refine ⟨_,rfl,?_⟩;rw [Tm.shift,if_neg (fun h=>h1 h.1),r2]
theorem Rs {d:Nat} (hd:d<=1000000) {f:Nat} {t u':Tm} {e':Int} (h:AF f (t.shift d 0)=some (u',e')) (hvb:t.vb):∃u,AF f t=some (u,e')/\u'=u.shift d 0:=by
 rw [AF] at h ⊢;split at h
 ·cases h
 rename_i v' s e he;obtain ⟨v,p1,p2⟩:=(Acx d hd f).1 0 0 t [] [] v' s e (by simpa using he) hvb ⟨rfl,fun j x x' a=>by simp at a⟩;rw [p1];simp only;split at h
 ·cases h
 rename_i w' s2 nd2 e2 hr;obtain ⟨w,q1,q2⟩:=AoJ d hd f s 0 e v v' 0 1 w' s2 nd2 e2 (by simpa using hr) p2;rw [show ((0:Nat):Int)=0 from rfl] at q1 q2
 rw [q1];simp only [AB5] at h ⊢;by_cases h2:e2≠0
 ·rw [if_pos h2] at h ⊢;simp only [AB6] at h;obtain ⟨rfl,rfl⟩:=h;exact ⟨_,rfl,rfl⟩
 ·rw [if_neg h2] at h ⊢;simp only [AB6] at h;obtain ⟨rfl,rfl⟩:=h;exact ⟨_,rfl,q2⟩
end Idl
end Go.Proofs.Ytkfecngimlcfoaa

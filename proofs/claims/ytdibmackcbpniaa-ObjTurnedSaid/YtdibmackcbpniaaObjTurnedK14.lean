/-
  Texts of a proof, part 14: an ideal semantics of the program, its functions in shallow form, contracts of them. No statement of the seat is proved here.
-/
import Derived.Test.YtdibmackcbpniaaObjTurnedK13
set_option linter.all false
set_option maxRecDepth 20000
set_option maxHeartbeats 16000000
noncomputable section
namespace Go.Proofs.Ytdibmackcbpniaa
namespace Idl
mutual
def Tm.swapM:Tm->Int->Tm->Tm
 | .mk op n l,at_,u=>if at_=0 then u else .mk op n (Tm.swapL l (at_ - 1) u)
def Tm.swapL:List Tm->Int->Tm->List Tm
 | [],_,_=>[]
 | t::l,at_,u=>(if 0<=at_/\at_<t.wt then t.swapM at_ u else t)::Tm.swapL l (at_ - t.wt) u
end
theorem Oq (a b:List Tm):Bn (a++b)=Bn a++Bn b:=by
 induction a with
 | nil=>rfl
 | cons x a ih=>obtain ⟨o,n,k⟩:=x;simp only [List.cons_append,Bn,ih]
theorem XG (ks:List Tm):(ks.map Tm.enc).flatMap FV.cells=Bn ks:=by
 induction ks with
 | nil=>rfl
 | cons x l ih=>obtain ⟨o,n,k⟩:=x;rw [AzK,List.flatMap_cons,ih,Ah];rfl
theorem Avf {β:Type} (pre rest:List Tm) (x:Tm) (o n:Int) (ks:List FV) (y:Tm) (hy:y.enc=.agg [.int .i64 o,.int .i64 n,.sl ks]) (k:List IV->Option β) :
  Dn ((Bn (pre++x::rest)).map .fv) (pre.length * 3) [.int .i64 o,.int .i64 n,.sl ks] k=k ((Bn (pre++y::rest)).map .fv):=by
 obtain ⟨ox,nx,kx⟩:=x;obtain ⟨oy,ny,ky⟩:=y;rw [Ah] at hy;simp only [FV.agg.injEq,List.cons.injEq,FV.int.injEq,true_and,FV.sl.injEq,and_true] at hy;obtain ⟨rfl,rfl,rfl⟩:=hy;have h:=La (β:=β) ((Bn pre).map .fv) (.fv (.int .i64 ox)) (.fv (.int .i64 nx)) (.fv (.sl (kx.map Tm.enc))) ((Bn rest).map .fv) (.int .i64 oy) (.int .i64 ny) (.sl (ky.map Tm.enc)) k;rw [List.length_map,GJ,Nat.mul_comm] at h;simp only [Oq,Bn,List.map_append,AzK];exact h
theorem Zq {β α:Type}:∀(A B:List α) (k:List α->Option β),EH (A++B) A.length k=k B
 | [],B,k=>d0 B k
 | a::A,B,k=>by
  show EH (A++B) A.length k=_
  exact Zq A B k
theorem AvM {β:Type} (pre rest:List Tm) (o n:Int) (ks:List Tm) (k:List IV->Option β):EH ((Bn (pre++.mk o n ks::rest)).map IV.fv) (pre.length * 3) k=k (iv o::iv n :: .fv (.sl (ks.map Tm.enc))::(Bn rest).map .fv):=by
 have h:=Zq ((Bn pre).map IV.fv) (iv o::iv n :: .fv (.sl (ks.map Tm.enc))::(Bn rest).map .fv) k;rw [List.length_map,GJ,Nat.mul_comm] at h;simp only [Oq,Bn,List.map_append,AzK];exact h
theorem Mi {β:Type} (r:Ref) (s n:Nat) (k:IV->Option β):BF (.slc r s n) k=k (iv n):=by
 show (DU n fun n=>k (.fv (.int .i64 (Int.ofNat n))))=_
 rw [BS];rfl
abbrev Hsw (op m:Int) (ks done:List Tm) (o n:Int) (k:List Tm):Hp :=
 ⟨[(23068672,.row [iv op,iv m,.fv (.sl (ks.map Tm.enc))] false),(23068673,.row [iv o,iv n,.fv (.sl (k.map Tm.enc))] false),(23068674,.row [iv 0,iv 0,.nils] false),
  (23072775,.row ((Bn done).map .fv) false),(23072777,.row [iv op,iv m,.slc (.own 23072775) 3 ks.length] false)],[]⟩
theorem Aoc (u:Tm):∀(n:Nat) (t:Tm) (at_:Int),2 * t.wt+3<n->t.shp->t.wt<=1000000->0<=at_->at_<=1000000->WM (SS dt n 22 [.fv t.enc,iv at_,.fv u.enc] ⟨[],[]⟩) (t.swapM at_ u).enc:=by
 intro n
 induction n using Nat.strongRecOn with
 | ind n ih =>
  intro t at_ hn hs hw h0 h1;obtain ⟨op,m,ks⟩:=t;simp only [Tm.wt] at hn hw;rw [Tm.shp] at hs;obtain ⟨hk,_,hsl⟩:=hs;have hk4:=Gy op;obtain ⟨n,rfl⟩:∃k,n=k+1:=⟨n - 1,by omega⟩;have hlen:=DB ks;rw [c22,Tm.swapM];by_cases hz:at_=0
  ·rw [if_pos hz];obtain ⟨o,p,k⟩:=u;simp only [Ah];simp only [JS,Ko,JM,Kt,Kw,Kl,KE,Kn,JB,JU,Kr,J3,JE,Jy,S22,↓XX,XY,↓reduceIte,Nat.reduceBEq,Nat.reduceAdd,Int.reduceEq,Int.reduceLT,Int.reduceLE,hz];exact AoQ _ _
  rw [if_neg hz];have w1:BD (at_ - 1)=at_ - 1:=by rw [Az]<;>omega
  cases ks with
  | nil =>
   have hre:=fun {β:Type}=>As3 (β:=β) (E:=EE) sTm (.sl []);obtain ⟨o,p,k⟩:=u;simp only [Tm.swapL,Ah,AzJ];simp only [JS,Ko,JM,Kt,Kw,Kl,KE,Kn,JB,JU,Kr,J3,JE,Jy,S22,↓XX,XY,↓reduceIte,Nat.reduceBEq,Nat.reduceAdd,Int.reduceEq,Int.reduceLT,Int.reduceLE,hz,w1,↓ZM,↓hre];refine Bc (Q:=fun r=>WM r _) (fun k' V H=>V=[iv (at_ - 1),.ptr (.own 23068673) 0,.ptr (.own 23068674) 0,.ptr (.own 23072777) 0,iv 0] /\
    H=⟨[(23068672,.row [iv op,iv m,.fv (.sl [])] false),(23068673,.row [iv o,iv p,.fv (.sl (k.map Tm.enc))] false),(23068674,.row [iv 0,iv 0,.nils] false),(23072777,.row [iv op,iv m,.clip []] false)],[]⟩) ?_ n 0 _ _ (by omega) ⟨rfl,rfl⟩
   rintro k' V H rec ⟨rfl,rfl⟩ hrec;simp only [↓Aiq,↓XX,XY,↓reduceIte,Nat.reduceBEq,Nat.reduceAdd,Int.reduceEq,Int.reduceLT,Int.reduceLE];exact ⟨_,_,rfl,[],[],fun e K=>Np _ _ e K rfl⟩
  | cons t0 ks0 =>
   generalize hks:t0::ks0=ks at *;have hne:ks≠[]:=by rw [<- hks];simp
   have happ:=fun {β:Type}=>AoW (β:=β) sTm (.sl (ks.map Tm.enc)) (CO ks) (by cases ks with | nil=>exact absurd rfl hne | cons _ _=>rfl) (by simp;omega);simp only [XG,List.length_map] at happ;obtain ⟨o,p,k⟩:=u;rw [Ah,Ah,Ah];simp only [JS,Ko,JM,Kt,Kw,Kl,KE,Kn,JB,JU,Kr,J3,JE,Jy,S22,↓XX,XY,↓reduceIte,Nat.reduceBEq,Nat.reduceAdd,Int.reduceEq,Int.reduceLT,Int.reduceLE,hz,w1,↓ZM,↓happ];refine Bc (Q:=fun r=>WM r _) (fun k' V H=>∃(pre rest done:List Tm) (at':Int),ks=pre++rest/\rest.length=k'/\done.length=pre.length/\Tm.shpL rest/\-1000001<=at' - Tm.wtL rest/\at'<=1000000 /\
     V=[iv at',.ptr (.own 23068673) 0,.ptr (.own 23068674) 0,.ptr (.own 23072777) 0,iv pre.length]/\H=Hsw op m ks (done++rest) o p k/\done++Tm.swapL rest at' (.mk o p k)=Tm.swapL ks (at_ - 1) (.mk o p k))
    ?_ n ks.length _ _ (by omega) ⟨[],ks,[],at_ - 1,rfl,rfl,rfl,hsl,by omega,by omega,rfl,rfl,rfl⟩
   rintro k' V H rec ⟨pre,rest,done,at',hpk,hl,hdl,hsr,hb1,hb2,rfl,rfl,hts⟩ hrec;have hkl:ks.length=pre.length+rest.length:=by rw [hpk];simp
   cases rest with
   | nil =>
    have hno:¬ ((pre.length:Int)<ks.length):=by rw [hkl];simp
    rw [Tm.swapL,List.append_nil] at hts;rw [<- hts];simp only [↓Aiq,↓XX,XY,↓reduceIte,Nat.reduceBEq,Nat.reduceAdd,Int.reduceEq,Int.reduceLT,Int.reduceLE,hno,↓Mi,List.append_nil];rw [show ks.length=done.length by rw [hdl,hkl];simp]
    exact ⟨_,_,rfl,_,_,fun e0 K=>ApA (ts:=done) (by simp [Ca,Lz,Aw];rfl) (by simp only [List.length_nil] at hkl;omega) [] e0 K⟩
   | cons x rest =>
    have hi:(pre.length:Int)<ks.length:=by rw [hkl];simp;omega
    have hin:pre.length<ks.length:=by omega
    have hxw:=CL (t:=x) (l:=ks) (by rw [hpk];simp);have hsz:=VY n x (by omega) (by omega);have hwi:BD ((pre.length:Int)+1)=((pre++[x]).length:Int):=(Az (by omega) (by omega)).trans (by simp);have hpx:=Cv x;have hwL:Tm.wtL (x::rest)=x.wt+Tm.wtL rest:=rfl;rw [hwL] at hb1;have hws:BD (at' - x.wt)=at' - x.wt:=by rw [Az]<;>omega
    rw [Tm.swapL] at hts;simp only [AzI] at hl;have h9:=fun (y:Tm) (e:y=if 0<=at'/\at' < x.wt then x.swapM at' (.mk o p k) else x)=>hrec rest.length [iv (at' - x.wt),.ptr (.own 23068673) 0,.ptr (.own 23068674) 0,.ptr (.own 23072777) 0,iv (pre++[x]).length] (Hsw op m ks ((done++[y])++rest) o p k) (by omega)
     ⟨pre++[x],rest,done++[y],at' - x.wt,by rw [hpk];simp,rfl,by simp [hdl],hsr.2,by omega,by omega,rfl,rfl,by rw [<- hts,e];simp⟩
    have hdm:=fun {β:Type}=>AvM (β:=β) done rest x.op x.n x.kids;have hsm:=fun {β:Type} (y:Tm)=>Avf (β:=β) done rest x y.op y.n (y.kids.map Tm.enc) y (by obtain ⟨o,n,k⟩:=y;exact Ah _ _ _);rw [hdl] at hdm hsm;by_cases c1:0<=at'/\at' < x.wt
    ·have hs:=ih n (by omega) x at' (by omega) hsr.1 (by omega) c1.1 (by omega);rw [if_pos c1] at h9;have h9:=h9 _ rfl;have hsm:=fun {β:Type}=>hsm (β:=β) (x.swapM at' (.mk o p k));generalize x.swapM at' (.mk o p k)=y at hs h9 hsm;generalize x.wt=q at hsz c1 hws h9;obtain ⟨o2,p2,l2⟩:=x;obtain ⟨o3,p3,l3⟩:=y;simp only [Ah,Tm.op,Tm.n,Tm.kids] at hsz hs hdm hsm;simp only [↓Aiq,↓XX,XY,↓reduceIte,Nat.reduceBEq,Nat.reduceAdd,Int.reduceEq,Int.reduceLT,Int.reduceLE,↓Mi,hi,↓Qd hin,↓hdm,↓Av hsz,c1.1,c1.2,↓AF (AoY hs),↓hsm,hws,hwi];simp only [List.append_assoc,List.cons_append,List.nil_append] at h9;exact h9
    ·rw [if_neg c1] at h9;have h9:=h9 _ rfl;generalize x.wt=q at hsz c1 hws h9;obtain ⟨o2,p2,l2⟩:=x;simp only [Ah,Tm.op,Tm.n,Tm.kids] at hsz hdm;by_cases c2:0<=at'
     ·have c3:¬ at' < q:=fun h=>c1 ⟨c2,h⟩;simp only [↓Aiq,↓XX,XY,↓reduceIte,Nat.reduceBEq,Nat.reduceAdd,Int.reduceEq,Int.reduceLT,Int.reduceLE,↓Mi,hi,↓Qd hin,↓hdm,↓Av hsz,c2,c3,hws,hwi];simp only [List.append_assoc,List.cons_append,List.nil_append] at h9;exact h9
     ·simp only [↓Aiq,↓XX,XY,↓reduceIte,Nat.reduceBEq,Nat.reduceAdd,Int.reduceEq,Int.reduceLT,Int.reduceLE,↓Mi,hi,↓Qd hin,↓hdm,↓Av hsz,c2,hws,hwi];simp only [List.append_assoc,List.cons_append,List.nil_append] at h9;exact h9
structure OkT (P:Tm):Prop where
 pt:PT P
 w:P.wt<=3000
 d:P.dp<=120
inductive OK7:List Tm->Tm->Tm->Prop
 | var (g:List Tm) (i:Nat) (P:Tm) (hP:OkT P) (hi:i<g.length) (h:g[g.length - 1 - i]?=some P):OK7 g (.mk 1 (i:Int) []) P
 | oint (g:List Tm) (n:Int):OK7 g (.mk 25 n []) G9
 | oprim (g:List Tm) (n:Int) (a b:Tm) (ha:OK7 g a G9) (hb:OK7 g b G9):OK7 g (.mk 26 n [a,b]) G9
 | olam (g:List Tm) (n:Int) (a b c:Tm) (hP:OkT (.mk 16 0 [a,c])) (hb:OK7 (g++[a]) b c):OK7 g (.mk 20 n [a,b]) (.mk 16 0 [a,c])
 | oapp (g:List Tm) (n:Int) (f x a c:Tm) (hf:OK7 g f (.mk 16 0 [a,c])) (hx:OK7 g x a):OK7 g (.mk 21 n [f,x]) c
 | opair (g:List Tm) (n:Int) (x y a b:Tm) (hP:OkT (.mk 17 0 [a,b])) (hx:OK7 g x a) (hy:OK7 g y b):OK7 g (.mk 22 n [x,y]) (.mk 17 0 [a,b])
 | ofst (g:List Tm) (n:Int) (x a b:Tm) (hx:OK7 g x (.mk 17 0 [a,b])):OK7 g (.mk 23 n [x]) a
 | osnd (g:List Tm) (n:Int) (x a b:Tm) (hx:OK7 g x (.mk 17 0 [a,b])):OK7 g (.mk 24 n [x]) b
 | oif (g:List Tm) (n:Int) (c x y a:Tm) (hc:OK7 g c G9) (hx:OK7 g x a) (hy:OK7 g y a):OK7 g (.mk 27 n [c,x,y]) a
 | olet (g:List Tm) (n:Int) (x y a b:Tm) (hx:OK7 g x a) (hy:OK7 (g++[a]) y b):OK7 g (.mk 28 n [x,y]) b
 | ofix (g:List Tm) (n:Int) (a x:Tm) (hP:OkT a) (hx:OK7 (g++[a]) x a):OK7 g (.mk 29 n [a,x]) a
theorem Kz:OkT G9:=⟨.int,by simp [G9,Tm.wt,Tm.wtL],by simp [G9,Tm.dp,Tm.dpL]⟩
theorem Km {op n:Int} {a b:Tm} (h:OkT (.mk op n [a,b])):OkT a/\OkT b:=by
 obtain ⟨p,w,d⟩:=h;obtain ⟨q1,q2,_⟩:=WL p;simp only [Tm.wt,Tm.wtL] at w;simp only [Tm.dp,Tm.dpL] at d;exact ⟨⟨q1,by omega,by omega⟩,⟨q2,by omega,by omega⟩⟩
theorem JW {g:List Tm} {c P:Tm} (h:OK7 g c P):OkT P:=by
 induction h with
 | var g i P hP hi h=>exact hP
 | oint=>exact Kz
 | oprim g n a b ha hb iha ihb=>exact Kz
 | olam g n a b c hP hb ih=>exact hP
 | oapp g n f x a c hf hx ihf ihx=>exact (Km ihf).2
 | opair g n x y a b hP hx hy ihx ihy=>exact hP
 | ofst g n x a b hx ih=>exact (Km ih).1
 | osnd g n x a b hx ih=>exact (Km ih).2
 | oif g n c x y a hc hx hy i1 i2 i3=>exact i2
 | olet g n x y a b hx hy i1 i2=>exact i2
 | ofix g n a x hP hx ih=>exact hP
theorem Avu {t:Tm} {n d:Int} (h:(t.chk n d).2=0):d<=120:=by
 obtain ⟨op,m,l⟩:=t;rw [Tm.chk] at h;split at h
 ·cases h
 ·rename_i h1;omega
mutual
theorem WH:∀(t:Tm) (n d:Int),(t.chk n d).2=0->d+t.dp<=121
 | .mk op m l,n,d,h=>by
  have h0:=Avu h;rw [Tm.chk] at h;split at h
  ·cases h
  ·split at h
   ·cases h
   ·have:=chkL_dp l (n+1) (d+1) h
    rw [Tm.dp];by_cases hl:l=[]
    ·subst hl;simp only [Tm.dpL];omega
    ·have:=this hl;omega
theorem chkL_dp:∀(l:List Tm) (n d:Int),(Tm.chkL l n d).2=0->l≠[]->d+Tm.dpL l<=121
 | [],_,_,_,h=>absurd rfl h
 | t::l,n,d,h,_=>by
  rw [Tm.chkL] at h;split at h
  ·rename_i h1;have h2:=WH t n d h1;rw [Tm.dpL];by_cases hl:l=[]
   ·subst hl;simp only [Tm.dpL];omega
   ·have:=chkL_dp l _ d h hl;omega
  ·rename_i h1;exact absurd h h1
end
mutual
theorem Ta:∀(t:Tm) (n d:Int),(t.chk n d).2=0->t.okn=true
 | .mk op m l,n,d,h=>by
  rw [Tm.chk] at h;split at h
  ·cases h
  ·split at h
   ·cases h
   ·rename_i h1 h2;have h3:AY op=(l.length:Int):=Classical.byContradiction fun e=>h2 (.inl e);have h4:Fc op m=true:=by cases hb:Fc op m with
     | true=>rfl
     | false=>exact absurd (.inr hb) h2
    rw [Tm.okn,h4,chkL_okn' l _ _ h];simp [h3]
theorem chkL_okn':∀(l:List Tm) (n d:Int),(Tm.chkL l n d).2=0->Tm.oknL l=true
 | [],_,_,_=>rfl
 | t::l,n,d,h=>by
  rw [Tm.chkL] at h;split at h
  ·rename_i h1;rw [Tm.oknL,Ta t _ _ h1,chkL_okn' l _ _ h];rfl
  ·rename_i h1;exact absurd h h1
end
theorem Oh:∀(n:Nat) (t:Tm),t.wt<n->t.typed=true->t.okn=true->PT t
 | 0,t,h,_,_=>by omega
 | n+1,t,hn,ht,ho=>by
  obtain ⟨op,m,l⟩:=t;rw [Tm.okn] at ho;simp only [Bool.and_eq_true,decide_eq_true_eq] at ho;rcases J0 ht with ⟨h1,h2⟩ | ⟨h1,a,b,h2,ta,tb⟩
  ·simp only [Tm.op,Tm.kids] at h1 h2;subst h1;subst h2;have hm:m=0:=by have:=ho.2.1;simpa [Fc] using this
   rw [hm];exact .int
  ·simp only [Tm.op,Tm.kids] at h1 h2;subst h2;simp only [Tm.wt,Tm.wtL] at hn;have hm:m=0:=by have:=ho.2.1;rcases h1 with rfl | rfl<;>simpa [Fc] using this
   have ho2:=ho.2.2;simp only [Tm.oknL,Bool.and_eq_true,and_true] at ho2;rw [hm];exact .bin op a b h1 (Oh n a (by omega) ta ho2.1) (Oh n b (by omega) tb ho2.2)
theorem Gl {r:Int×Tm} {a:Tm} (h:CB r a=0):r=(0,a):=by
 obtain ⟨h1,h2⟩:=Ap8 h;obtain ⟨r1,r2⟩:=r;simp only at h1 h2;rw [h1,h2]
theorem PH {op:Int} {a P:Tm} {r:Int×Tm} (h:G5 op a r=(0,P)):r.1=0/\P=.mk op 0 [a,r.2]/\P.wt<=3000/\P.dp<=120:=by
 unfold G5 at h;split at h
 ·rename_i h1;simp only [AzF] at h;obtain ⟨h2,rfl⟩:=h
  have:=WH _ _ _ h2
  exact ⟨h1,rfl,Dw h2,by omega⟩
 ·rename_i h1;simp only [AzF] at h;exact absurd h.1 h1
theorem JH {r:Int×Tm} (h:r.1=0):r=(0,r.2):=by obtain ⟨a,b⟩:=r;simp only at h;rw [h]
theorem GI:∀(n:Nat) (u:Tm) (g:List Tm) (P:Tm),u.wt<n->u.okn=true->u.wt<=3000->u.dp<=120->(∀x∈g,OkT x)->u.inf g=(0,P)->OK7 g u P
 | 0,u,_,_,h,_,_,_,_,_=>by omega
 | n+1,.mk op m l,g,P,hn,ho,hw,hd,hg,h=>by
  rw [Tm.okn] at ho;simp only [Bool.and_eq_true,decide_eq_true_eq] at ho;obtain ⟨hk,hm,hl⟩:=ho;simp only [Tm.wt] at hn hw;simp only [Tm.dp] at hd
  match l,h,hk,hl,hn,hw,hd with
  | [],h,hk,hl,hn,hw,hd =>
   rw [Tm.inf] at h;by_cases h1:op=1
   ·subst h1;rw [if_pos rfl] at h;by_cases h2:(g.length:Int)<=m
    ·rw [if_pos h2] at h;simp at h
    ·rw [if_neg h2] at h;simp only [AzF,true_and] at h;have hm0:0<=m:=by have:=hm;simp [Fc] at this;omega
     obtain ⟨i,rfl⟩:∃i:Nat,m=i:=⟨m.toNat,by omega⟩;have hi:i<g.length:=by omega
     have hget:g[g.length - 1 - i]?=some P:=by
      rw [Int.toNat_natCast,List.getD_eq_getElem?_getD,List.getElem?_eq_getElem (by omega),Option.getD_some] at h;rw [List.getElem?_eq_getElem (by omega),h]
     exact .var g i P (hg P (List.mem_of_getElem? hget)) hi hget
   ·rw [if_neg h1] at h;by_cases h2:op=25
    ·subst h2;rw [if_pos rfl] at h;simp only [AzF,true_and] at h;subst h;exact .oint g m
    ·rw [if_neg h2] at h;simp at h
  | [a],h,hk,hl,hn,hw,hd =>
   simp only [Tm.oknL,Bool.and_eq_true,and_true] at hl;simp only [Tm.wtL] at hn hw;simp only [Tm.dpL] at hd;have IH:=fun Q=>GI n a g Q (by omega) hl (by omega) (by omega) hg;rw [Tm.inf] at h;have fin:∀k,(if (a.inf g).1=0 then (if (a.inf g).2.op=17 then ((0:Int),(a.inf g).2.kid k) else (12,.z)) else ((a.inf g).1,.z))=(0,P)->∃x y,a.inf g=(0,.mk 17 0 [x,y])/\P=(Tm.mk 17 0 [x,y]).kid k:=by
    intro k hh;by_cases h1:(a.inf g).1=0
    ·rw [if_pos h1] at hh;by_cases h2:(a.inf g).2.op=17
     ·rw [if_pos h2] at hh;simp only [AzF,true_and] at hh;have q:=IH _ (JH h1);obtain ⟨pt,_,_⟩:=JW q;have e0:=JH h1;generalize (a.inf g).2=T at *;cases pt with
      | int=>simp [Tm.op] at h2
      | bin o x y ho hx hy =>
       simp only [Tm.op] at h2;subst h2;exact ⟨x,y,e0,hh.symm⟩
     ·rw [if_neg h2] at hh;simp at hh
    ·rw [if_neg h1] at hh;simp only [AzF] at hh;exact absurd hh.1 h1
   by_cases h1:op=23
   ·subst h1;rw [if_pos rfl] at h;obtain ⟨x,y,e,hp⟩:=fin 0 h;rw [show P=x from hp]
    exact .ofst g m a x y (IH _ e)
   ·rw [if_neg h1] at h;by_cases h2:op=24
    ·subst h2;rw [if_pos rfl] at h;obtain ⟨x,y,e,hp⟩:=fin 1 h;rw [show P=y from hp]
     exact .osnd g m a x y (IH _ e)
    ·rw [if_neg h2] at h;simp at h
  | [a,b],h,hk,hl,hn,hw,hd =>
   simp only [Tm.oknL,Bool.and_eq_true,and_true] at hl;simp only [Tm.wtL] at hn hw;simp only [Tm.dpL] at hd;have IA:=fun g' Q hg'=>GI n a g' Q (by omega) hl.1 (by omega) (by omega) hg';have IB:=fun g' Q hg'=>GI n b g' Q (by omega) hl.2 (by omega) (by omega) hg';have ext:∀x,OkT x->∀y∈g++[x],OkT y:=by
    intro x hx y hy;rcases List.mem_append.1 hy with hy | hy
    ·exact hg y hy
    ·rw [List.mem_singleton.1 hy];exact hx
   have tA:a.typed=true->OkT a:=fun ht=>⟨Oh (a.wt+1) a (by omega) ht hl.1,by omega,by omega⟩;rw [Tm.inf] at h;by_cases h1:op=26
   ·subst h1;rw [if_pos rfl] at h;by_cases c1:CB (a.inf g) tI=0
    ·rw [if_pos c1] at h;simp only [AzF] at h;obtain ⟨c2,rfl⟩:=h;exact .oprim g m a b (IA g _ hg (Gl c1)) (IB g _ hg (Gl c2))
    ·rw [if_neg c1] at h;simp only [AzF] at h;exact absurd h.1 c1
   rw [if_neg h1] at h;by_cases h2:op=20
   ·subst h2;rw [if_pos rfl] at h;by_cases c1:a.typed=true
    ·rw [if_pos c1] at h;obtain ⟨q1,rfl,q3,q4⟩:=PH h;have hb:=IB (g++[a]) _ (ext a (tA c1)) (JH q1);exact .olam g m a b _ ⟨.bin 16 a _ (by omega) (tA c1).pt (JW hb).pt,q3,q4⟩ hb
    ·rw [if_neg c1] at h;simp at h
   rw [if_neg h2] at h;by_cases h3:op=29
   ·subst h3;rw [if_pos rfl] at h;by_cases c1:a.typed=true
    ·rw [if_pos c1] at h;simp only [AzF] at h;obtain ⟨c2,rfl⟩:=h;exact .ofix g m a b (tA c1) (IB _ _ (ext a (tA c1)) (Gl c2))
    ·rw [if_neg c1] at h;simp at h
   rw [if_neg h3] at h;by_cases h4:op=28
   ·subst h4;rw [if_pos rfl] at h;by_cases c1:(a.inf g).1=0
    ·rw [if_pos c1] at h;have hx:=IA g _ hg (JH c1);exact .olet g m a b _ P hx (IB _ _ (ext _ (JW hx)) h)
    ·rw [if_neg c1] at h;simp only [AzF] at h;exact absurd h.1 c1
   rw [if_neg h4] at h;by_cases h5:op=22
   ·subst h5;rw [if_pos rfl] at h;by_cases c1:(a.inf g).1=0
    ·rw [if_pos c1] at h;obtain ⟨q1,rfl,q3,q4⟩:=PH h;have hx:=IA g _ hg (JH c1);have hy:=IB g _ hg (JH q1);exact .opair g m a b _ _ ⟨.bin 17 _ _ (by omega) (JW hx).pt (JW hy).pt,q3,q4⟩ hx hy
    ·rw [if_neg c1] at h;simp only [AzF] at h;exact absurd h.1 c1
   rw [if_neg h5] at h;by_cases h6:op=21
   ·subst h6;rw [if_pos rfl] at h;by_cases c1:(a.inf g).1=0
    ·rw [if_pos c1] at h;by_cases c2:(a.inf g).2.op=16
     ·rw [if_pos c2] at h;simp only [AzF] at h;obtain ⟨c3,hp⟩:=h;have hf:=IA g _ hg (JH c1);obtain ⟨pt,_,_⟩:=JW hf;generalize (a.inf g).2=T at *;cases pt with
      | int=>simp [Tm.op] at c2
      | bin o x y ho hx hy =>
       simp only [Tm.op] at c2;subst c2;have e1:(Tm.mk 16 0 [x,y]).kid 0=x:=rfl;have e2:(Tm.mk 16 0 [x,y]).kid 1=y:=rfl;rw [e1] at c3;rw [e2] at hp;subst hp;exact .oapp g m a b x y hf (IB g _ hg (Gl c3))
     ·rw [if_neg c2] at h;simp at h
    ·rw [if_neg c1] at h;simp only [AzF] at h;exact absurd h.1 c1
   rw [if_neg h6] at h;simp at h
  | [a,b,c],h,hk,hl,hn,hw,hd =>
   simp only [Tm.oknL,Bool.and_eq_true,and_true] at hl;simp only [Tm.wtL] at hn hw;simp only [Tm.dpL] at hd;have IA:=fun Q=>GI n a g Q (by omega) hl.1 (by omega) (by omega) hg;have IB:=fun Q=>GI n b g Q (by omega) hl.2.1 (by omega) (by omega) hg;have IC:=fun Q=>GI n c g Q (by omega) hl.2.2 (by omega) (by omega) hg;rw [Tm.inf] at h;by_cases h1:op=27
   ·subst h1;rw [if_pos rfl] at h;by_cases c1:CB (a.inf g) tI=0
    ·rw [if_pos c1] at h;by_cases c2:(b.inf g).1=0
     ·rw [if_pos c2] at h;simp only [AzF] at h;obtain ⟨c3,rfl⟩:=h;exact .oif g m a b c _ (IA _ (Gl c1)) (IB _ (JH c2)) (IC _ (Gl c3))
     ·rw [if_neg c2] at h;simp only [AzF] at h;exact absurd h.1 c2
    ·rw [if_neg c1] at h;simp only [AzF] at h;exact absurd h.1 c1
   ·rw [if_neg h1] at h;simp at h
  | _::_::_::_::_,h,hk,hl,hn,hw,hd=>rw [Tm.inf.eq_def] at h;simp at h
theorem AiW {n:Nat} (g:Ci) (st:Int) (a:Tm) (hg:g.length<=100000) (hn:0<n):AS (SS dt n 84 [.fv (A4 g),iv st,.fv a.enc] ⟨[],[]⟩) (A4 (g++[(st,a)])):=by
 obtain ⟨n,rfl⟩:∃k,n=k+1:=⟨n - 1,by omega⟩;rw [c84];rw [A4,A4,List.map_append,AzK,AzJ];cases g with
 | nil =>
  have h0:=fun {β:Type}=>Aca (β:=β) (E:=EE) sV1 (.sl []) (s0:=.clip []) (.inr rfl);have happ:=fun {β:Type}=>F5 (β:=β) sV1 (.clip [v1 (st,a)]) (FJ [(st,a)]) rfl (by simp) (s0:=.clip []) (.inr rfl);obtain ⟨o,p,k⟩:=a;simp only [v1,Tm.op,Tm.n,Tm.kids] at happ ⊢;rw [Ah];simp only [WI,WK,S84,↓XX,XY,↓reduceIte,Nat.reduceBEq,Nat.reduceAdd,Int.reduceEq,Int.reduceLT,Int.reduceLE,↓RD,↓h0,↓QS,↓happ];exact A3 rfl _
 | cons t g =>
  have h0:=fun {β:Type}=>F5 (β:=β) sV1 (.sl ((t::g).map v1)) (FJ (t::g)) rfl (by simp at hg ⊢;omega) (s0:=.clip []) (.inr rfl);have happ:=fun {β:Type}=>Nn (β:=β) sV1 (es:=(t::g).map v1) (es2:=[v1 (st,a)]) (.clip _) (FJ [(st,a)]) (FJ (t::g)) (Aiz [(st,a)]) (by simp at hg ⊢;omega);obtain ⟨o,p,k⟩:=a;simp only [AzK,List.length_map,AzI,List.length_nil,List.cons_append] at h0 happ ⊢;simp only [v1,Tm.op,Tm.n,Tm.kids] at h0 happ ⊢;rw [Ah];simp only [WI,WK,S84,↓XX,XY,↓reduceIte,Nat.reduceBEq,Nat.reduceAdd,Int.reduceEq,Int.reduceLT,Int.reduceLE,↓RD,↓h0,↓QS,↓happ,FR];exact A3 rfl _
theorem NU {p:Tm} (h:PT p):∀k,p.sc k:=by
 induction h with
 | int=>intro k;exact Ch (by decide) (by decide) (BC (by decide) (by decide) (by decide))
 | bin op a b ho ha hb iha ihb=>intro k;rcases ho with rfl | rfl<;>exact Cp rfl (by decide) (BC (by decide) (by decide) (by decide)) (iha _) (ihb _)
theorem Aqf {p:Tm} (h:PT p):p.eta=p:=by
 induction h with
 | int=>exact Gq (by decide) (by simp)
 | bin op a b ho ha hb iha ihb =>
  refine Gq (by omega) fun t ht=>?_;simp only [List.mem_cons,List.not_mem_nil,or_false] at ht;rcases ht with rfl | rfl
  ·exact iha
  ·exact ihb
theorem Alw {p:Tm} (h:PT p):∀c,p.free c=false:=by
 induction h with
 | int=>intro c;rw [Tm.free,Tm.freeL];rfl
 | bin op a b ho ha hb iha ihb =>
  intro c;have h1:op≠1:=by omega
  rw [Tm.free];simp [Tm.freeL,iha,ihb,h1]
theorem VX {p:Tm} (h:PT p) (hw:p.wt<=1000000) (d:Nat) (hd:d<=1000000):p.shift d 0=p:=by
 rw [Fk (NU h 0) d (by omega),Ht h]
theorem Aj0 {p:Tm} (h:PT p) (hw:p.wt<=1000000) {u:Tm} (hu:u.sc 0) (huw:u.wt<=1000000):p.subst 0 0 u=p:=by
 have e:=PE p 0 0 u (NU h _) hu (by omega);rw [show ((0:Nat):Int)=0 from rfl] at e
 rw [e,Yd h]
theorem Aiy {X:Tm} (hst:X.stl) (hsc:X.sc 0) (hw:X.wt<=3000) (hd:X.dp<=120):Ev 58 [.fv X.enc] (.tuple [X.enc,.int .i64 0]):=by
 obtain ⟨f,hf⟩:=Vk hst hsc (by omega) hw hd;exact ⟨f+2,fun n hn=>Po f X X 0 hf n hn⟩
theorem Apv {X:Tm} (hst:X.stl) (hsc:X.sc 0) (hw:X.wt<=3000) (hd:X.dp<=120) (he:X.eta=X):Ev 87 [.fv X.enc,.fv X.enc] (.tuple [.bool true,.int .i64 0]):=by
 obtain ⟨N,h⟩:=Aiy hst hsc hw hd;refine ⟨N+100000,fun n hn=>?_⟩;obtain ⟨n,rfl⟩:∃k,n=k+1:=⟨n - 1,by omega⟩;have h1:=h n (by omega);have e1:=QB n X 0 hsc (by omega) (by omega);have s1:=GG n X X (by omega) (by omega);rw [(Ik X X).2 rfl] at s1;rw [he] at e1;rw [c87];obtain ⟨o1,p1,k1⟩:=X;simp only [Ah] at h1 e1 s1 ⊢;simp only [AjO,Ajf,Aky,Ak8,Aia,S87,↓XX,XY,↓reduceIte,Nat.reduceBEq,Nat.reduceAdd,Int.reduceEq,Int.reduceLT,Int.reduceLE,↓Av h1,↓Av e1,↓Ag s1]
 first | exact Al _ _ | exact Au rfl (by simp) _
theorem MD {P:Tm} (h:OkT P):Ev 58 [.fv P.enc] (.tuple [P.enc,.int .i64 0]):=Aiy (Gi h.pt) (NU h.pt 0) h.w h.d
theorem Ln {P:Tm} (h:OkT P):Ev 87 [.fv P.enc,.fv P.enc] (.tuple [.bool true,.int .i64 0]):=Apv (Gi h.pt) (NU h.pt 0) h.w h.d (Aqf h.pt)
theorem Akb:Ev 87 [.fv tyT.enc,.fv tyT.enc] (.tuple [.bool true,.int .i64 0]):=Apv Iy (Ch (by decide) (by decide) (BC (by decide) (by decide) (by decide))) (by simp [tyT,Tm.wt,Tm.wtL]) (by simp [tyT,Tm.dp,Tm.dpL]) (Gq (by decide) (by simp))
theorem Arf {n:Nat} {G:FV} {st:Int} {t b:Tm} (h:AS (SS dt n 26 [.fv G,iv st,.fv t.enc] ⟨[],[]⟩) (.tuple [b.enc,.int .i64 0])) (he:AS (SS dt n 87 [.fv b.enc,.fv b.enc] ⟨[],[]⟩) (.tuple [.bool true,.int .i64 0])) :
  AS (SS dt (n+1) 61 [.fv G,iv st,.fv t.enc,.fv b.enc] ⟨[],[]⟩) (.int .i64 0):=by
 rw [c61];obtain ⟨o,p,k⟩:=t;obtain ⟨o2,p2,k2⟩:=b;simp only [Ah] at h he ⊢;simp only [AhK,Ajo,Ajg,S61,↓XX,XY,↓reduceIte,Nat.reduceBEq,Nat.reduceAdd,Int.reduceEq,Int.reduceLT,Int.reduceLE,↓AF h,↓Ag he];exact Al _ _
theorem Awe {n:Nat} {G:FV} {st op:Int} {t a:Tm} (h:AS (SS dt n 26 [.fv G,iv st,.fv t.enc] ⟨[],[]⟩) (.tuple [a.enc,.int .i64 0])) (ho:a.op=op) :
  AS (SS dt (n+1) 85 [.fv G,iv st,.fv t.enc,iv op] ⟨[],[]⟩) (.tuple [a.enc,.int .i64 0]):=by
 rw [c85];subst ho;obtain ⟨o,p,k⟩:=t;obtain ⟨o2,p2,k2⟩:=a;simp only [Ah,Tm.op] at h ⊢;simp only [Aj2,Aii,Ai3,Alf,Ain,S85,↓XX,XY,↓reduceIte,Nat.reduceBEq,Nat.reduceAdd,Int.reduceEq,Int.reduceLT,Int.reduceLE,↓AF h];first | exact Al _ _ | exact Au rfl (by simp) _
theorem AhX {n:Nat} {G:FV} {st:Int} {a:Tm} (ks:List Tm) (hl:ks.length<=1000) (hn:ks.length<n) (h:∀t∈ks,AS (SS dt n 61 [.fv G,iv st,.fv t.enc,.fv a.enc] ⟨[],[]⟩) (.int .i64 0)) :
  AS (SS dt (n+1) 62 [.fv G,iv st,.fv (.sl (ks.map Tm.enc)),.fv a.enc] ⟨[],[]⟩) (.int .i64 0):=by
 rw [c62];obtain ⟨oa,na,ka⟩:=a;simp only [Ah] at h ⊢;simp only [Q2,Qr,P6,S62,↓XX,XY,↓reduceIte,Nat.reduceBEq,Nat.reduceAdd,Int.reduceEq,Int.reduceLT,Int.reduceLE];refine Bc (Q:=fun r=>AS r _) (fun k V H=>∃pre rest,ks=pre++rest/\rest.length=k/\V=[.fv G,iv st,.fv (.sl (ks.map Tm.enc)),.ptr (.own 65011712) 0,iv pre.length] /\
  H=⟨[(65011712,.row [iv oa,iv na,.fv (.sl (ka.map Tm.enc))] false)],[]⟩) ?_ n ks.length _ _ (by omega) ⟨[],ks,rfl,rfl,rfl,rfl⟩
 rintro k V H rec ⟨pre,rest,hk,hkl,rfl,rfl⟩ hrec;have hkk:ks.length=pre.length+rest.length:=by rw [hk];simp
 cases rest with
 | nil =>
  have hno:¬ ((pre.length:Int)<ks.length):=by rw [hkk];simp
  simp only [Q2,Qr,P6,WF,S62,↓XX,XY,↓reduceIte,Nat.reduceBEq,Nat.reduceAdd,Int.reduceEq,Int.reduceLT,Int.reduceLE,hno];exact Al _ _
 | cons t rest =>
  have hi:(pre.length:Int)<ks.length:=by rw [hkk];simp;omega
  have hg:=Cw hk;have hc:=h t (by rw [hk];simp);have hwi:BD ((pre.length:Int)+1)=((pre++[t]).length:Int):=(Az (by omega) (by omega)).trans (by simp);simp only [AzI] at hkl;have h9:=hrec rest.length [.fv G,iv st,.fv (.sl (ks.map Tm.enc)),.ptr (.own 65011712) 0,iv (pre++[t]).length] _ (by omega) ⟨pre++[t],rest,by rw [hk];simp,rfl,rfl,rfl⟩;obtain ⟨o,p,l⟩:=t;rw [Ah] at hc;simp only [Q2,Qr,P6,WF,S62,↓XX,XY,↓reduceIte,Nat.reduceBEq,Nat.reduceAdd,Int.reduceEq,Int.reduceLT,Int.reduceLE,hi,↓Bs (AN hg) (Bb _ _ _),↓Cg,↓AC hc,hwi];exact h9
theorem Ak5 {P:Tm} (h:PT P) (G:FV):Ev 26 [.fv G,iv 1,.fv P.enc] (.tuple [tyT.enc,.int .i64 0]):=by
 obtain ⟨Ne,he⟩:=Akb
 induction h with
 | int =>
  refine ⟨Ne+100,fun n hn=>?_⟩;obtain ⟨n,rfl⟩:∃k,n=k+2:=⟨n - 2,by omega⟩;have hc:=AhX (n:=n) (G:=G) (st:=1) (a:=tyT) [] (by simp) (by simp;omega) (fun t ht=>by simp at ht);have t14:=BI (n:=n+1) (by omega) 14;rw [c26];simp only [tyT,Ah,AzJ] at hc t14 ⊢;simp only [↓AiY,↓XX,XY,↓reduceIte,Nat.reduceBEq,Nat.reduceAdd,Int.reduceEq,Int.reduceLT,Int.reduceLE,↓Ag t14,↓AC hc];first | exact Al _ _ | exact Au rfl (by simp) _
 | bin op a b ho ha hb iha ihb =>
  obtain ⟨N1,h1⟩:=iha;obtain ⟨N2,h2⟩:=ihb;refine ⟨Ne+N1+N2+100,fun n hn=>?_⟩;obtain ⟨n,rfl⟩:∃k,n=k+3:=⟨n - 3,by omega⟩;have hc:=AhX (n:=n+1) (G:=G) (st:=1) (a:=tyT) [a,b] (by simp) (by simp;omega) (fun t ht=>by
   simp only [List.mem_cons,List.not_mem_nil,or_false] at ht;rcases ht with rfl | rfl
   ·exact Arf (h1 n (by omega)) (he n (by omega))
   ·exact Arf (h2 n (by omega)) (he n (by omega)))
  have t14:=BI (n:=n+2) (by omega) 14;rw [c26];obtain ⟨o1,p1,k1⟩:=a;obtain ⟨o2,p2,k2⟩:=b;simp only [tyT,Ah,AzJ,AzK] at hc t14 ⊢;rcases ho with rfl | rfl
  ·simp only [↓AiY,↓XX,XY,↓reduceIte,Nat.reduceBEq,Nat.reduceAdd,Int.reduceEq,Int.reduceLT,Int.reduceLE,↓Ag t14,↓AC hc];first | exact Al _ _ | exact Au rfl (by simp) _
  ·simp only [↓AiY,↓XX,XY,↓reduceIte,Nat.reduceBEq,Nat.reduceAdd,Int.reduceEq,Int.reduceLT,Int.reduceLE,↓Ag t14,↓AC hc];first | exact Al _ _ | exact Au rfl (by simp) _
theorem Aup {n:Nat} {c:Tm} (h:PT c) (hw:c.wt<=3000) (hn:100000<=n):AS (SS dt (n+1) 111 [.fv c.enc] ⟨[],[]⟩) (.tuple [c.enc,.int .i64 0]):=by
 have hf:=Abo n c 0 (by omega) (by omega) (by omega) (by omega);rw [Alw h] at hf;have z:=BI (n:=n) (by omega) 11;have hz:(Tm.mk 11 0 []).sc 0:=Ch (by decide) (by decide) (BC (by decide) (by decide) (by decide));have hs:=NK (n:=n) c (.mk 11 0 []) 0 (EB _ 0 hz) (by simp [Tm.wt,Tm.wtL]) (by simp [Tm.wt,Tm.wtL];omega) (EB c 0 (NU h 0)) (by omega) (by omega) (by omega);rw [Aj0 h (by omega) hz (by simp [Tm.wt,Tm.wtL])] at hs;rw [AwW];obtain ⟨o1,p1,k1⟩:=c;simp only [Ah,AzJ] at hf z hs ⊢;simp only [Yy,AbT,Aa8,AiR,↓XX,XY,↓reduceIte,Nat.reduceBEq,Nat.reduceAdd,Int.reduceEq,Int.reduceLT,Int.reduceLE,↓Ag hf,↓Ag z,↓AF hs];first | exact Al _ _ | exact Au rfl (by simp) _
theorem Ar9 {n:Nat} {G G':FV} {a b c:Tm} (hb:AS (SS dt n 84 [.fv G,iv 0,.fv a.enc] ⟨[],[]⟩) G') (hi:AS (SS dt n 26 [.fv G',iv 0,.fv b.enc] ⟨[],[]⟩) (.tuple [c.enc,.int .i64 0])) (hd:AS (SS dt n 111 [.fv c.enc] ⟨[],[]⟩) (.tuple [c.enc,.int .i64 0])) :
  AS (SS dt (n+1) 83 [.fv G,.fv a.enc,.fv b.enc] ⟨[],[]⟩) (.tuple [c.enc,.int .i64 0]):=by
 rw [c83];obtain ⟨o1,p1,k1⟩:=a;obtain ⟨o2,p2,k2⟩:=b;obtain ⟨o3,p3,k3⟩:=c;simp only [Ah] at hb hi hd ⊢;simp only [AiP,Ai2,AjY,Akw,AjW,S83,↓XX,XY,↓reduceIte,Nat.reduceBEq,Nat.reduceAdd,Int.reduceEq,Int.reduceLT,Int.reduceLE,↓AF hb,↓AF hi,↓Av hd];first | exact Al _ _ | exact Au rfl (by simp) _
theorem Aql {n:Nat} (hn:100<n) {G:FV} {m:Int} {f x a c:Tm} (hs:AS (SS dt n 85 [.fv G,iv 0,.fv f.enc,iv 16] ⟨[],[]⟩) (.tuple [(Tm.mk 16 0 [a,c]).enc,.int .i64 0])) (hc:AS (SS dt n 61 [.fv G,iv 0,.fv x.enc,.fv a.enc] ⟨[],[]⟩) (.int .i64 0)) :
  AS (SS dt (n+1) 86 [.fv G,.fv (Tm.mk 21 m [f,x]).enc] ⟨[],[]⟩) (.tuple [(c).enc,.int .i64 0]):=by
 rw [c86];obtain ⟨of,nf,kf⟩:=f;obtain ⟨ox,nx,kx⟩:=x;obtain ⟨oa,na,ka⟩:=a;obtain ⟨oc,nc,kc⟩:=c;simp only [Ah,AzK,AzJ,G9,tyT] at hs hc  ⊢;simp (maxSteps:=1000000) only [↓Ajp,↓XX,XY,↓reduceIte,Nat.reduceBEq,Nat.reduceAdd,Int.reduceEq,Int.reduceLT,Int.reduceLE,↓AC hs,↓AC hc];first | exact Al _ _ | exact Au rfl (by simp) _
theorem Anf {n:Nat} (hn:100<n) {G:FV} {m:Int} {x y a b:Tm} (h1:AS (SS dt n 26 [.fv G,iv 0,.fv x.enc] ⟨[],[]⟩) (.tuple [a.enc,.int .i64 0])) (h2:AS (SS dt n 26 [.fv G,iv 0,.fv y.enc] ⟨[],[]⟩) (.tuple [b.enc,.int .i64 0])) (hN:AS (SS dt n 58 [.fv (Tm.mk 17 0 [a,b]).enc] ⟨[],[]⟩) (.tuple [(Tm.mk 17 0 [a,b]).enc,.int .i64 0])) :
  AS (SS dt (n+1) 86 [.fv G,.fv (Tm.mk 22 m [x,y]).enc] ⟨[],[]⟩) (.tuple [(Tm.mk 17 0 [a,b]).enc,.int .i64 0]):=by
 have t17:=CP (n:=n) (by omega) 17 [a,b];rw [c86];obtain ⟨ox,nx,kx⟩:=x;obtain ⟨oy,ny,ky⟩:=y;obtain ⟨oa,na,ka⟩:=a;obtain ⟨ob,nb,kb⟩:=b;simp only [Ah,AzK,AzJ,G9,tyT] at h1 h2 hN t17 ⊢;simp (maxSteps:=1000000) only [↓Ajp,↓XX,XY,↓reduceIte,Nat.reduceBEq,Nat.reduceAdd,Int.reduceEq,Int.reduceLT,Int.reduceLE,↓AF h1,↓AF h2,↓CA,↓Ag t17,↓Av hN];first | exact Al _ _ | exact Au rfl (by simp) _
theorem Ap5 {n:Nat} (hn:100<n) {G:FV} {m:Int} {x a b:Tm} (hs:AS (SS dt n 85 [.fv G,iv 0,.fv x.enc,iv 17] ⟨[],[]⟩) (.tuple [(Tm.mk 17 0 [a,b]).enc,.int .i64 0])) :
  AS (SS dt (n+1) 86 [.fv G,.fv (Tm.mk 23 m [x]).enc] ⟨[],[]⟩) (.tuple [(a).enc,.int .i64 0]):=by
 rw [c86];obtain ⟨ox,nx,kx⟩:=x;obtain ⟨oa,na,ka⟩:=a;obtain ⟨ob,nb,kb⟩:=b;simp only [Ah,AzK,AzJ,G9,tyT] at hs  ⊢;simp (maxSteps:=1000000) only [↓Ajp,↓XX,XY,↓reduceIte,Nat.reduceBEq,Nat.reduceAdd,Int.reduceEq,Int.reduceLT,Int.reduceLE,↓AC hs];first | exact Al _ _ | exact Au rfl (by simp) _
theorem ArE {n:Nat} (hn:100<n) {G:FV} {m:Int} {x a b:Tm} (hs:AS (SS dt n 85 [.fv G,iv 0,.fv x.enc,iv 17] ⟨[],[]⟩) (.tuple [(Tm.mk 17 0 [a,b]).enc,.int .i64 0])) :
  AS (SS dt (n+1) 86 [.fv G,.fv (Tm.mk 24 m [x]).enc] ⟨[],[]⟩) (.tuple [(b).enc,.int .i64 0]):=by
 rw [c86];obtain ⟨ox,nx,kx⟩:=x;obtain ⟨oa,na,ka⟩:=a;obtain ⟨ob,nb,kb⟩:=b;simp only [Ah,AzK,AzJ,G9,tyT] at hs  ⊢;simp (maxSteps:=1000000) only [↓Ajp,↓XX,XY,↓reduceIte,Nat.reduceBEq,Nat.reduceAdd,Int.reduceEq,Int.reduceLT,Int.reduceLE,↓AC hs];first | exact Al _ _ | exact Au rfl (by simp) _
theorem AvE {n:Nat} (hn:100<n) {G:FV} {m:Int} {c x y a:Tm} (hc:AS (SS dt n 61 [.fv G,iv 0,.fv c.enc,.fv G9.enc] ⟨[],[]⟩) (.int .i64 0)) (h1:AS (SS dt n 26 [.fv G,iv 0,.fv x.enc] ⟨[],[]⟩) (.tuple [a.enc,.int .i64 0])) (h2:AS (SS dt n 61 [.fv G,iv 0,.fv y.enc,.fv a.enc] ⟨[],[]⟩) (.int .i64 0)) :
  AS (SS dt (n+1) 86 [.fv G,.fv (Tm.mk 27 m [c,x,y]).enc] ⟨[],[]⟩) (.tuple [(a).enc,.int .i64 0]):=by
 have t15:=BI (n:=n) (by omega) 15;rw [c86];obtain ⟨oc,nc,kc⟩:=c;obtain ⟨ox,nx,kx⟩:=x;obtain ⟨oy,ny,ky⟩:=y;obtain ⟨oa,na,ka⟩:=a;simp only [Ah,AzK,AzJ,G9,tyT] at hc h1 h2 t15 ⊢;simp (maxSteps:=1000000) only [↓Ajp,↓XX,XY,↓reduceIte,Nat.reduceBEq,Nat.reduceAdd,Int.reduceEq,Int.reduceLT,Int.reduceLE,↓Ag t15,↓AC hc,↓AF h1,↓AC h2];first | exact Al _ _ | exact Au rfl (by simp) _
theorem Aot {n:Nat} (hn:100<n) {G:FV} {m:Int} {a b:Tm} (hc:AS (SS dt n 62 [.fv G,iv 0,.fv (.sl [a.enc,b.enc]),.fv G9.enc] ⟨[],[]⟩) (.int .i64 0)) :
  AS (SS dt (n+1) 59 [.fv G,.fv (Tm.mk 26 m [a,b]).enc] ⟨[],[]⟩) (.tuple [(G9).enc,.int .i64 0]):=by
 have t14:=BI (n:=n) (by omega) 14;have t15:=BI (n:=n) (by omega) 15;rw [c59];obtain ⟨oa,na,ka⟩:=a;obtain ⟨ob,nb,kb⟩:=b;simp only [Ah,AzK,AzJ,G9,tyT] at hc t14 t15 ⊢;simp (maxSteps:=1000000) only [↓Ahq,↓XX,XY,↓reduceIte,Nat.reduceBEq,Nat.reduceAdd,Int.reduceEq,Int.reduceLT,Int.reduceLE,↓Ag t14,↓Ag t15,↓AC hc];first | exact Al _ _ | exact Au rfl (by simp) _
theorem AsZ {n:Nat} (hn:100<n) {G:FV} {m:Int} {a b c:Tm} (hk:AS (SS dt n 61 [.fv G,iv 1,.fv a.enc,.fv tyT.enc] ⟨[],[]⟩) (.int .i64 0)) (hu:AS (SS dt n 83 [.fv G,.fv a.enc,.fv b.enc] ⟨[],[]⟩) (.tuple [c.enc,.int .i64 0])) (hN:AS (SS dt n 58 [.fv (Tm.mk 16 0 [a,c]).enc] ⟨[],[]⟩) (.tuple [(Tm.mk 16 0 [a,c]).enc,.int .i64 0])) :
  AS (SS dt (n+1) 59 [.fv G,.fv (Tm.mk 20 m [a,b]).enc] ⟨[],[]⟩) (.tuple [(Tm.mk 16 0 [a,c]).enc,.int .i64 0]):=by
 have t14:=BI (n:=n) (by omega) 14;have t15:=BI (n:=n) (by omega) 15;have t16:=CP (n:=n) (by omega) 16 [a,c];rw [c59];obtain ⟨oa,na,ka⟩:=a;obtain ⟨ob,nb,kb⟩:=b;obtain ⟨oc,nc,kc⟩:=c;simp only [Ah,AzK,AzJ,G9,tyT] at hk hu hN t14 t15 t16 ⊢;simp (maxSteps:=1000000) only [↓Ahq,↓XX,XY,↓reduceIte,Nat.reduceBEq,Nat.reduceAdd,Int.reduceEq,Int.reduceLT,Int.reduceLE,↓Ag t14,↓Ag t15,↓AC hk,↓AF hu,↓CA,↓Ag t16,↓Av hN];first | exact Al _ _ | exact Au rfl (by simp) _
theorem Aqe {n:Nat} (hn:100<n) {G:FV} {m:Int} {G':FV} {a x:Tm} (hk:AS (SS dt n 61 [.fv G,iv 1,.fv a.enc,.fv tyT.enc] ⟨[],[]⟩) (.int .i64 0)) (hb:AS (SS dt n 84 [.fv G,iv 0,.fv a.enc] ⟨[],[]⟩) (G')) (hs:AS (SS dt n 28 [.fv a.enc,iv 1,iv 0] ⟨[],[]⟩) (a.enc)) (hc:AS (SS dt n 61 [.fv G',iv 0,.fv x.enc,.fv a.enc] ⟨[],[]⟩) (.int .i64 0)) (hN:AS (SS dt n 58 [.fv a.enc] ⟨[],[]⟩) (.tuple [a.enc,.int .i64 0])) :
  AS (SS dt (n+1) 59 [.fv G,.fv (Tm.mk 29 m [a,x]).enc] ⟨[],[]⟩) (.tuple [(a).enc,.int .i64 0]):=by
 have t14:=BI (n:=n) (by omega) 14;have t15:=BI (n:=n) (by omega) 15;rw [c59];obtain ⟨oa,na,ka⟩:=a;obtain ⟨ox,nx,kx⟩:=x;simp only [Ah,AzK,AzJ,G9,tyT] at hk hb hs hc hN t14 t15 ⊢;simp (maxSteps:=1000000) only [↓Ahq,↓XX,XY,↓reduceIte,Nat.reduceBEq,Nat.reduceAdd,Int.reduceEq,Int.reduceLT,Int.reduceLE,↓Ag t14,↓Ag t15,↓AC hk,↓AF hb,↓AF hs,↓AC hc,↓Av hN];first | exact Al _ _ | exact Au rfl (by simp) _
theorem AqT {n:Nat} (hn:100<n) {G:FV} {m:Int} {x y a b:Tm} (h1:AS (SS dt n 26 [.fv G,iv 0,.fv x.enc] ⟨[],[]⟩) (.tuple [a.enc,.int .i64 0])) (hu:AS (SS dt n 83 [.fv G,.fv a.enc,.fv y.enc] ⟨[],[]⟩) (.tuple [b.enc,.int .i64 0])) :
  AS (SS dt (n+1) 59 [.fv G,.fv (Tm.mk 28 m [x,y]).enc] ⟨[],[]⟩) (.tuple [(b).enc,.int .i64 0]):=by
 have t14:=BI (n:=n) (by omega) 14;have t15:=BI (n:=n) (by omega) 15;rw [c59];obtain ⟨ox,nx,kx⟩:=x;obtain ⟨oy,ny,ky⟩:=y;obtain ⟨oa,na,ka⟩:=a;obtain ⟨ob,nb,kb⟩:=b;simp only [Ah,AzK,AzJ,G9,tyT] at h1 hu t14 t15 ⊢;simp (maxSteps:=1000000) only [↓Ahq,↓XX,XY,↓reduceIte,Nat.reduceBEq,Nat.reduceAdd,Int.reduceEq,Int.reduceLT,Int.reduceLE,↓Ag t14,↓Ag t15,↓AF h1,↓AF hu];first | exact Al _ _ | exact Au rfl (by simp) _
theorem Arc {n:Nat} (hn:100<n) {G:FV} {m:Int}:AS (SS dt (n+1) 59 [.fv G,.fv (Tm.mk 25 m []).enc] ⟨[],[]⟩) (.tuple [G9.enc,.int .i64 0]):=by
 have t14:=BI (n:=n) (by omega) 14;have t15:=BI (n:=n) (by omega) 15;rw [c59];simp only [Ah,AzJ,G9] at t14 t15 ⊢;simp (maxSteps:=1000000) only [↓Ahq,↓XX,XY,↓reduceIte,Nat.reduceBEq,Nat.reduceAdd,Int.reduceEq,Int.reduceLT,Int.reduceLE,↓Ag t14,↓Ag t15];first | exact Al _ _ | exact Au rfl (by simp) _
theorem Hh {n:Nat} (hn:100<n) {G:FV} {op m:Int} {ks:List Tm} {P:Tm} (ho:op=21\/op=22\/op=23\/op=24\/op=27) (h:AS (SS dt n 86 [.fv G,.fv (Tm.mk op m ks).enc] ⟨[],[]⟩) (.tuple [P.enc,.int .i64 0])):AS (SS dt (n+1) 59 [.fv G,.fv (Tm.mk op m ks).enc] ⟨[],[]⟩) (.tuple [P.enc,.int .i64 0]):=by
 have t14:=BI (n:=n) (by omega) 14;have t15:=BI (n:=n) (by omega) 15;rw [c59];obtain ⟨oP,nP,kP⟩:=P;rcases ho with rfl | rfl | rfl | rfl | rfl
 all_goals
  simp only [Ah,AzJ] at t14 t15 h ⊢;simp (maxSteps:=1000000) only [↓Ahq,↓XX,XY,↓reduceIte,Nat.reduceBEq,Nat.reduceAdd,Int.reduceEq,Int.reduceLT,Int.reduceLE,↓Ag t14,↓Ag t15,↓Ag h];first | exact Al _ _ | exact Au rfl (by simp) _
theorem Gc {n:Nat} {G:FV} {op m:Int} {ks:List Tm} {P:Tm} (ho:20<=op) (h:AS (SS dt n 59 [.fv G,.fv (Tm.mk op m ks).enc] ⟨[],[]⟩) (.tuple [P.enc,.int .i64 0])):AS (SS dt (n+1) 26 [.fv G,iv 0,.fv (Tm.mk op m ks).enc] ⟨[],[]⟩) (.tuple [P.enc,.int .i64 0]):=by
 rw [c26];obtain ⟨oP,nP,kP⟩:=P;have h1:op≠1:=by omega
 have h20:(20:Int)<=op:=ho;simp only [Ah] at h ⊢;simp (maxSteps:=1000000) only [↓AiY,↓XX,XY,↓reduceIte,Nat.reduceBEq,Nat.reduceAdd,Int.reduceEq,Int.reduceLT,Int.reduceLE,h1,h20,↓Ag h];first | exact Al _ _ | exact Au rfl (by simp) _
def gO (g:List Tm):Ci:=g.map fun T=>((0:Int),T)
theorem Arj {n:Nat} {g:List Tm} {i:Nat} {T:Tm} (hi:i<g.length) (hl:g.length<=100000) (hg:g[g.length - 1 - i]?=some T) (hs:AS (SS dt n 28 [.fv T.enc,iv ((i:Int)+1),iv 0] ⟨[],[]⟩) T.enc) (hN:AS (SS dt n 58 [.fv T.enc] ⟨[],[]⟩) (.tuple [T.enc,.int .i64 0])) :
  AS (SS dt (n+1) 26 [.fv (A4 (gO g)),iv 0,.fv (Tm.mk 1 (i:Int) []).enc] ⟨[],[]⟩) (.tuple [T.enc,.int .i64 0]):=by
 rw [c26];have hget:((gO g).map v1)[g.length - 1 - i]?=some (v1 (0,T)):=by rw [gO,List.map_map,List.getElem?_map,hg];rfl
 have hix:=fun {β:Type}=>Bs (β:=β) (size:=4) hget rfl;have hlen:((gO g).map v1).length=g.length:=by rw [gO,List.map_map,List.length_map]
 have w1:BD ((g.length:Int) - 1)=(g.length:Int) - 1:=by rw [Az]<;>omega
 have w2:BD ((g.length:Int) - 1 - i)=((g.length - 1 - i:Nat):Int):=by rw [Az (by omega) (by omega)];omega
 have wi:BD ((i:Int)+1)=(i:Int)+1:=by rw [Az]<;>omega
 have hno:¬ ((g.length:Int)<=i):=by omega
 obtain ⟨oT,nT,kT⟩:=T;simp only [A4,Ah,AzJ,v1,Tm.op,Tm.n,Tm.kids] at hix hs hN ⊢;simp (maxSteps:=1000000) only [↓AiY,↓XX,XY,↓reduceIte,Nat.reduceBEq,Nat.reduceAdd,Int.reduceEq,Int.reduceLT,Int.reduceLE,hlen,hno,w1,w2,wi,↓hix,FV.cells,↓AF hs,↓Av hN]
 first | exact Al _ _ | exact Au rfl (by simp) _
theorem Aih (g:List Tm) (a:Tm):gO g++[(0,a)]=gO (g++[a]):=by simp [gO]
theorem Ais (g:List Tm):(gO g).length=g.length:=by simp [gO]
theorem TY {g:List Tm} {a b c:Tm} (hl:g.length<=90000) (hc:OkT c) (h:Ev 26 [.fv (A4 (gO (g++[a]))),iv 0,.fv b.enc] (.tuple [c.enc,.int .i64 0])):Ev 83 [.fv (A4 (gO g)),.fv a.enc,.fv b.enc] (.tuple [c.enc,.int .i64 0]):=by
 obtain ⟨N,h⟩:=h;refine ⟨N+200000,fun n hn=>?_⟩;obtain ⟨n,rfl⟩:∃k,n=k+2:=⟨n - 2,by omega⟩;have hb:=AiW (n:=n+1) (gO g) 0 a (by rw [Ais];omega) (by omega);rw [Aih] at hb;exact Ar9 hb (h (n+1) (by omega)) (Aup hc.pt hc.w (by omega))
theorem Hb {G:FV} {st:Int} {t b:Tm} (h:Ev 26 [.fv G,iv st,.fv t.enc] (.tuple [b.enc,.int .i64 0])) (he:Ev 87 [.fv b.enc,.fv b.enc] (.tuple [.bool true,.int .i64 0])):Ev 61 [.fv G,iv st,.fv t.enc,.fv b.enc] (.int .i64 0):=by
 obtain ⟨N,h⟩:=h;obtain ⟨M,he⟩:=he;refine ⟨N+M+1,fun n hn=>?_⟩;obtain ⟨n,rfl⟩:∃k,n=k+1:=⟨n - 1,by omega⟩;exact Arf (h n (by omega)) (he n (by omega))
theorem X5 {G:FV} {st op:Int} {t a:Tm} (h:Ev 26 [.fv G,iv st,.fv t.enc] (.tuple [a.enc,.int .i64 0])) (ho:a.op=op):Ev 85 [.fv G,iv st,.fv t.enc,iv op] (.tuple [a.enc,.int .i64 0]):=by
 obtain ⟨N,h⟩:=h;refine ⟨N+1,fun n hn=>?_⟩;obtain ⟨n,rfl⟩:∃k,n=k+1:=⟨n - 1,by omega⟩;exact Awe (h n (by omega)) ho
theorem Auu {g:List Tm} {u P:Tm} (h:OK7 g u P):g.length+u.wt<=80000->Ev 26 [.fv (A4 (gO g)),iv 0,.fv u.enc] (.tuple [P.enc,.int .i64 0]):=by
 induction h with
 | var g i P hP hi h =>
  intro hl;obtain ⟨N,hN⟩:=MD hP;have hw:=hP.w;refine ⟨N+100000,fun n hn=>?_⟩;obtain ⟨n,rfl⟩:∃k,n=k+1:=⟨n - 1,by omega⟩;have hs:=CK n P ((i+1:Nat):Int) 0 (by omega) (EB P 0 (NU hP.pt 0)) (by omega) (by omega);rw [VX hP.pt (by omega) (i+1) (by omega),show ((i+1:Nat):Int)=(i:Int)+1 by omega] at hs
  exact Arj hi (by omega) h hs (hN n (by omega))
 | oint g m =>
  intro hl;refine ⟨200,fun n hn=>?_⟩;obtain ⟨n,rfl⟩:∃k,n=k+2:=⟨n - 2,by omega⟩;exact Gc (by omega) (Arc (by omega))
 | oprim g m a b ha hb iha ihb =>
  intro hl;simp only [Tm.wt,Tm.wtL] at hl;obtain ⟨N1,h1⟩:=Hb (iha (by omega)) (Ln Kz);obtain ⟨N2,h2⟩:=Hb (ihb (by omega)) (Ln Kz);refine ⟨N1+N2+200,fun n hn=>?_⟩;obtain ⟨n,rfl⟩:∃k,n=k+3:=⟨n - 3,by omega⟩;have hc:=AhX (n:=n) [a,b] (by simp) (by simp;omega) (fun t ht=>by
   simp only [List.mem_cons,List.not_mem_nil,or_false] at ht;rcases ht with rfl | rfl
   ·exact h1 n (by omega)
   ·exact h2 n (by omega))
  exact Gc (by omega) (Aot (by omega) hc)
 | olam g m a b c hP hb ih =>
  intro hl;simp only [Tm.wt,Tm.wtL] at hl;obtain ⟨pa,pc⟩:=Km hP;obtain ⟨N1,h1⟩:=Hb (Ak5 pa.pt (A4 (gO g))) Akb;obtain ⟨N2,h2⟩:=TY (a:=a) (by omega) pc (ih (by simp only [List.length_append,AzI,List.length_nil];omega));obtain ⟨N3,h3⟩:=MD hP;refine ⟨N1+N2+N3+200,fun n hn=>?_⟩;obtain ⟨n,rfl⟩:∃k,n=k+2:=⟨n - 2,by omega⟩;exact Gc (by omega) (AsZ (by omega) (h1 n (by omega)) (h2 n (by omega)) (h3 n (by omega)))
 | oapp g m f x a c hf hx ihf ihx =>
  intro hl;simp only [Tm.wt,Tm.wtL] at hl;obtain ⟨pa,pc⟩:=Km (JW hf);obtain ⟨N1,h1⟩:=X5 (op:=16) (ihf (by omega)) rfl;obtain ⟨N2,h2⟩:=Hb (ihx (by omega)) (Ln pa);refine ⟨N1+N2+200,fun n hn=>?_⟩;obtain ⟨n,rfl⟩:∃k,n=k+3:=⟨n - 3,by omega⟩;exact Gc (by omega) (Hh (by omega) (by omega) (Aql (by omega) (h1 n (by omega)) (h2 n (by omega))))
 | opair g m x y a b hP hx hy ihx ihy =>
  intro hl;simp only [Tm.wt,Tm.wtL] at hl;obtain ⟨N1,h1⟩:=ihx (by omega);obtain ⟨N2,h2⟩:=ihy (by omega);obtain ⟨N3,h3⟩:=MD hP;refine ⟨N1+N2+N3+200,fun n hn=>?_⟩;obtain ⟨n,rfl⟩:∃k,n=k+3:=⟨n - 3,by omega⟩;exact Gc (by omega) (Hh (by omega) (by omega) (Anf (by omega) (h1 n (by omega)) (h2 n (by omega)) (h3 n (by omega))))
 | ofst g m x a b hx ih =>
  intro hl;simp only [Tm.wt,Tm.wtL] at hl;obtain ⟨N1,h1⟩:=X5 (op:=17) (ih (by omega)) rfl;refine ⟨N1+200,fun n hn=>?_⟩;obtain ⟨n,rfl⟩:∃k,n=k+3:=⟨n - 3,by omega⟩;exact Gc (by omega) (Hh (by omega) (by omega) (Ap5 (by omega) (h1 n (by omega))))
 | osnd g m x a b hx ih =>
  intro hl;simp only [Tm.wt,Tm.wtL] at hl;obtain ⟨N1,h1⟩:=X5 (op:=17) (ih (by omega)) rfl;refine ⟨N1+200,fun n hn=>?_⟩;obtain ⟨n,rfl⟩:∃k,n=k+3:=⟨n - 3,by omega⟩;exact Gc (by omega) (Hh (by omega) (by omega) (ArE (by omega) (h1 n (by omega))))
 | oif g m c x y a hc hx hy i1 i2 i3 =>
  intro hl;simp only [Tm.wt,Tm.wtL] at hl;obtain ⟨N1,h1⟩:=Hb (i1 (by omega)) (Ln Kz);obtain ⟨N2,h2⟩:=i2 (by omega);obtain ⟨N3,h3⟩:=Hb (i3 (by omega)) (Ln (JW hx));refine ⟨N1+N2+N3+200,fun n hn=>?_⟩;obtain ⟨n,rfl⟩:∃k,n=k+3:=⟨n - 3,by omega⟩;exact Gc (by omega) (Hh (by omega) (by omega) (AvE (by omega) (h1 n (by omega)) (h2 n (by omega)) (h3 n (by omega))))
 | olet g m x y a b hx hy i1 i2 =>
  intro hl;simp only [Tm.wt,Tm.wtL] at hl;obtain ⟨N1,h1⟩:=i1 (by omega);obtain ⟨N2,h2⟩:=TY (a:=a) (by omega) (JW hy) (i2 (by simp only [List.length_append,AzI,List.length_nil];have:=Cv x;omega));refine ⟨N1+N2+200,fun n hn=>?_⟩;obtain ⟨n,rfl⟩:∃k,n=k+2:=⟨n - 2,by omega⟩;exact Gc (by omega) (AqT (by omega) (h1 n (by omega)) (h2 n (by omega)))
 | ofix g m a x hP hx ih =>
  intro hl;simp only [Tm.wt,Tm.wtL] at hl;have hw:=hP.w;obtain ⟨N1,h1⟩:=Hb (Ak5 hP.pt (A4 (gO g))) Akb;obtain ⟨N2,h2⟩:=Hb (ih (by simp only [List.length_append,AzI,List.length_nil];have:=Cv a;omega)) (Ln hP);obtain ⟨N3,h3⟩:=MD hP;refine ⟨N1+N2+N3+100000,fun n hn=>?_⟩;obtain ⟨n,rfl⟩:∃k,n=k+2:=⟨n - 2,by omega⟩;have hb:=AiW (n:=n) (gO g) 0 a (by rw [Ais];omega) (by omega);rw [Aih] at hb;have hs:=CK n a ((1:Nat):Int) 0 (by omega) (EB a 0 (NU hP.pt 0)) (by omega) (by omega);rw [VX hP.pt (by omega) 1 (by omega)] at hs;exact Gc (by omega) (Aqe (by omega) (h1 n (by omega)) hb hs (h2 n (by omega)) (h3 n (by omega)))
structure TurnF (n:Nat) (c s m u R:Tm) (at_ w ck e:Int):Prop where
 hz:AS (SS dt n 24 [.fv c.enc] ⟨[],[]⟩) (.int .i64 c.wt)
 hw:AS (SS dt n 23 [iv at_,iv c.wt] ⟨[],[]⟩) (.int .i64 w)
 hm:AS (SS dt n 16 [.fv s.enc,iv 2,iv 1] ⟨[],[]⟩) m.enc
 hs:AS (SS dt n 22 [.fv c.enc,iv w,.fv m.enc] ⟨[],[]⟩) u.enc
 hck:AS (SS dt n 25 [.fv u.enc] ⟨[],[]⟩) (.int .i64 ck)
 hp:ck=0->AS (SS dt n 17 [.fv (.sl []),.fv u.enc] ⟨[],[]⟩) (.tuple [R.enc,.int .i64 e])
 hr:ck=0->AS (SS dt n 19 [.fv (.sl []),.fv u.enc] ⟨[],[]⟩) (.tuple [R.enc,.int .i64 e])
 hsm:ck=0->AS (SS dt n 18 [.fv R.enc,.fv R.enc] ⟨[],[]⟩) (.bool true)
 h7:ck=0->e=0->AS (SS dt n 26 [.fv (.sl []),iv 0,.fv u.enc] ⟨[],[]⟩) (.tuple [R.enc,.int .i64 0])
 hv:AS (SS dt n 27 [iv 0] ⟨[],[]⟩) (.bool false)
theorem AoB {n:Nat} {r q s:Tm} {at_:Int} {br bq bs:Bool} (hno:¬ (br=true/\bq=true/\bs=true)) (hk:AS (SS dt n 11 [] ⟨[],[]⟩) (.bool true))
  (fr:AS (SS dt n 12 [.fv r.enc] ⟨[],[]⟩) (.bool br)) (fq:AS (SS dt n 12 [.fv q.enc] ⟨[],[]⟩) (.bool bq)) (fs:AS (SS dt n 12 [.fv s.enc] ⟨[],[]⟩) (.bool bs)) :
  AmL (SS dt (n+1) 4 [.fv r.enc,.fv q.enc,.fv s.enc,iv at_] ⟨[],[]⟩) (.bool true):=by
 rw [c4];obtain ⟨o1,p1,k1⟩:=r;obtain ⟨o2,p2,k2⟩:=q;obtain ⟨o3,p3,k3⟩:=s;simp only [Ah] at fr fq fs ⊢;cases br
 ·simp (maxSteps:=1000000) only [↓UU1,↓XX,XY,↓reduceIte,Nat.reduceBEq,Nat.reduceAdd,Int.reduceEq,Int.reduceLT,Int.reduceLE,↓EL hk,↓Av fr];exact Wr
 cases bq
 ·simp (maxSteps:=1000000) only [↓UU1,↓XX,XY,↓reduceIte,Nat.reduceBEq,Nat.reduceAdd,Int.reduceEq,Int.reduceLT,Int.reduceLE,↓EL hk,↓Av fr,↓Av fq];exact Wr
 cases bs
 ·simp (maxSteps:=1000000) only [↓UU1,↓XX,XY,↓reduceIte,Nat.reduceBEq,Nat.reduceAdd,Int.reduceEq,Int.reduceLT,Int.reduceLE,↓EL hk,↓Av fr,↓Av fq,↓Av fs];exact Wr
 exact absurd ⟨rfl,rfl,rfl⟩ hno
theorem Auz {n:Nat} {r q s c a m u R:Tm} {at_ w ck e:Int} {is:Bool} (hk:AS (SS dt n 11 [] ⟨[],[]⟩) (.bool true))
  (fr:AS (SS dt n 12 [.fv r.enc] ⟨[],[]⟩) (.bool true)) (fq:AS (SS dt n 12 [.fv q.enc] ⟨[],[]⟩) (.bool true)) (fs:AS (SS dt n 12 [.fv s.enc] ⟨[],[]⟩) (.bool true))
  (hC:AS (SS dt n 15 [.fv r.enc,.fv q.enc] ⟨[],[]⟩) (.tuple [c.enc,a.enc,.bool is])) (hF:is=true->TurnF n c s m u R at_ w ck e) :
  AmL (SS dt (n+1) 4 [.fv r.enc,.fv q.enc,.fv s.enc,iv at_] ⟨[],[]⟩) (.bool true):=by
 rw [c4];cases is
 ·clear hF;obtain ⟨o1,p1,k1⟩:=r;obtain ⟨o2,p2,k2⟩:=q;obtain ⟨o3,p3,k3⟩:=s;obtain ⟨o4,p4,k4⟩:=c;obtain ⟨o5,p5,k5⟩:=a;simp only [Ah] at fr fq fs hC ⊢;simp (maxSteps:=1000000) only [↓UU1,↓XX,XY,↓reduceIte,Nat.reduceBEq,Nat.reduceAdd,Int.reduceEq,Int.reduceLT,Int.reduceLE,↓EL hk,↓Av fr,↓Av fq,↓Av fs,↓Ag hC];exact Wr
 obtain ⟨hz,hw,hm,hs,hck,hp,hr,hsm,h7,hv⟩:=hF rfl;generalize c.wt=W at hz hw;obtain ⟨o1,p1,k1⟩:=r;obtain ⟨o2,p2,k2⟩:=q;obtain ⟨o3,p3,k3⟩:=s;obtain ⟨o4,p4,k4⟩:=c;obtain ⟨o5,p5,k5⟩:=a;obtain ⟨o6,p6,k6⟩:=m;obtain ⟨o7,p7,k7⟩:=u;obtain ⟨o8,p8,k8⟩:=R;simp only [Ah] at fr fq fs hC hz hm hs hck hp hr hsm h7 ⊢;by_cases h0:ck=0
 ·have hp:=hp h0;have hr:=hr h0;have hsm:=hsm h0;have h7:=h7 h0;by_cases he:e=0
  ·have h7':=h7 he;clear h7;subst he;simp (maxSteps:=1000000) only [↓UU1,↓XX,XY,↓reduceIte,Nat.reduceBEq,Nat.reduceAdd,Int.reduceEq,Int.reduceLT,Int.reduceLE,↓EL hk,↓Av fr,↓Av fq,↓Av fs,↓Ag hC,↓Av hz,↓Ag hw,↓AF hm,↓AF hs,↓Av hck,h0,↓Ag hp,↓Ag hr,↓Ag hsm,↓AF h7',↓Av hv];exact Wr
  ·simp (maxSteps:=1000000) only [↓UU1,↓XX,XY,↓reduceIte,Nat.reduceBEq,Nat.reduceAdd,Int.reduceEq,Int.reduceLT,Int.reduceLE,↓EL hk,↓Av fr,↓Av fq,↓Av fs,↓Ag hC,↓Av hz,↓Ag hw,↓AF hm,↓AF hs,↓Av hck,h0,↓Ag hp,↓Ag hr,↓Ag hsm,he];exact Wr
 ·simp (maxSteps:=1000000) only [↓UU1,↓XX,XY,↓reduceIte,Nat.reduceBEq,Nat.reduceAdd,Int.reduceEq,Int.reduceLT,Int.reduceLE,↓EL hk,↓Av fr,↓Av fq,↓Av fs,↓Ag hC,↓Av hz,↓Ag hw,↓AF hm,↓AF hs,↓Av hck,h0];exact Wr
theorem P8 (r q s:Tm) (at_:Int):∃N,AmL (SS dt N 4 [.fv r.enc,.fv q.enc,.fv s.enc,.fv (.int .i64 at_)] ⟨[],[]⟩) (.bool true):=by
 by_cases hb:decide (r.count 300<300)=true/\decide (q.count 300<300)=true/\decide (s.count 300<300)=true
 case neg =>
  obtain ⟨m,hm⟩:∃m,m=r.wt+q.wt+s.wt+10000000000:=⟨_,rfl⟩;exact ⟨m+1+1,AoB hb (Us (by omega)) (Lj r (by omega)) (Lj q (by omega)) (Lj s (by omega))⟩
 obtain ⟨b1,b2,b3⟩:=hb;obtain ⟨c,a,b,⟨N0,h0⟩,hC⟩:=Aoo r q;obtain ⟨mk,⟨N1,hM⟩,mw,mo,md⟩:=Amc 2 (by omega) s 1 (by omega) (by omega);obtain ⟨u,hu⟩:∃u,u=c.swapM (at_ % c.wt) mk:=⟨_,rfl⟩;obtain ⟨R,hR⟩:∃R,R=if (u.inf []).1=0 then (u.inf []).2 else Tm.z:=⟨_,rfl⟩;have K7:∃N,(u.chk 0 1).2=0->(u.inf []).1=0->∀n,N<=n->AS (SS dt n 26 [.fv (.sl []),iv 0,.fv u.enc] ⟨[],[]⟩) (.tuple [R.enc,.int .i64 0]):=by
  by_cases hh:(u.chk 0 1).2=0/\(u.inf []).1=0
  ·obtain ⟨hc,hi⟩:=hh;have hw:=Dw hc;have hd:=WH u 0 1 hc;have h7:=GI (u.wt+1) u [] _ (by omega) (Ta u 0 1 hc) hw (by omega) (by simp) (JH hi);obtain ⟨N,hN⟩:=Auu h7 (by simp;omega);rw [if_pos hi] at hR;rw [hR];exact ⟨N,fun _ _ n hn=>hN n hn⟩
  ·exact ⟨0,fun a b=>absurd ⟨a,b⟩ hh⟩
 obtain ⟨N2,h7⟩:=K7;obtain ⟨m,hm⟩:∃m,m=N0+N1+N2+r.wt+q.wt+s.wt+u.wt+u.wt+10000000000:=⟨_,rfl⟩;have fr:=Lj (n:=m) r (by omega);have fq:=Lj (n:=m) q (by omega);have fs:=Lj (n:=m) s (by omega);rw [b1] at fr;rw [b2] at fq;rw [b3] at fs;refine ⟨m+1+1,Auz (c:=c) (a:=a) (m:=mk) (u:=u) (R:=R) (w:=at_ % c.wt) (ck:=(u.chk 0 1).2) (e:=(u.inf []).1) (Us (by omega)) fr fq fs (h0 _ (by omega)) fun hb=>?_⟩;obtain ⟨ha,ot,nok,hchk⟩:=hC hb;have hcw:=nok.wt;have hcp:=Cv c;have e1:=Int.emod_nonneg at_ (show (c.wt:Int)≠0 by omega)
 have e2:=Int.emod_lt_of_pos at_ (show (0:Int)<c.wt by omega)
 have hS:=Aoc mk (m+1) c (at_ % c.wt) (by omega) (If c 0 1 hchk) (by omega) e1 (by omega);rw [<- hu] at hS;have F:=fun hc=>Aww (n:=m+1) (gs:=[]) (t:=u) (by simp) (by simp) hc (by omega);have hp:(u.chk 0 1).2=0->AS (SS dt (m+1) 17 [.fv (.sl []),.fv u.enc] ⟨[],[]⟩) (.tuple [R.enc,.int .i64 (u.inf []).1]):=fun hc=>by
  have:=PG 3000 (by omega) (by omega) (m+1) u [] (Dw hc) (by simp) (by have:=Dw hc;simp;omega) (by have:=Dw hc;simp;omega)
  have hi:u.infer []=(R,(u.inf []).1):=by
   unfold Tm.infer;rw [if_pos hc,hR];by_cases h:(u.inf []).1=0
   ·rw [if_pos h,if_pos h,h]
   ·rw [if_neg h,if_neg h]
  rwa [hi] at this
 have hr:(u.chk 0 1).2=0->AS (SS dt (m+1) 19 [.fv (.sl []),.fv u.enc] ⟨[],[]⟩) (.tuple [R.enc,.int .i64 (u.inf []).1]):=fun hc=>by
  have:=PF 3000 (by omega) (by omega) (m+1) u [] (If u 0 1 hc) (Dw hc) (by simp) (by have:=Dw hc;simp;omega) (by have:=Dw hc;omega)
  rwa [<- hR] at this
 have hsm:(u.chk 0 1).2=0->AS (SS dt (m+1) 18 [.fv R.enc,.fv R.enc] ⟨[],[]⟩) (.bool true):=fun hc=>by
  have hRw:R.wt<=3000:=by
   rw [hR];split
   ·rename_i h;exact (GB 3000 (by omega) (u.wt+1) u [] (by omega) (Dw hc) (by simp) (If u 0 1 hc) h).2
   ·simp [Tm.z,Tm.wt,Tm.wtL]
  have:=GG (m+1) R R (by omega) (by omega)
  rwa [(Ik R R).2 rfl] at this
 exact ⟨VY _ c (by omega) (by omega),SK (by omega) at_ (by omega) (by omega),hM _ (by omega),AoY hS,KA u (by omega),hp,hr,hsm,fun hc he=>h7 hc he _ (by omega),Ajt (by omega) 0⟩
end Idl
end Go.Proofs.Ytdibmackcbpniaa

/-
  Texts of a proof, part 11: an ideal semantics of the program, its functions in shallow form, contracts of them. No statement of the seat is proved here.
-/
import Derived.Test.YtkfecngimlcfoaaStagePlainK10
set_option linter.all false
noncomputable section
namespace Go.Proofs.Ytkfecngimlcfoaa
namespace Idl
def A0 (ev:Int→Int→Tm→Option (RV×Int×Int)) (op:Int) (env:List RV):Nat→List Tm→Int→Int→Option (List RV×Int×Int)
 | _,[],s,e=>some ([],s,e)
 | i,t::l,s,e=>if 0<Am op i then (A0 ev op env (i+1) l s e).map fun (vs,s,e)=>(.clo env t::vs,s,e) else
  match ev s e t with
  | none=>none
  | some (v,s,e)=>(A0 ev op env (i+1) l s e).map fun (vs,s,e)=>(v::vs,s,e)
mutual
def AE:Nat→Int→Int→Tm→List RV→Option (RV×Int×Int)
 | 0,_,_,_,_=>none
 | f+1,s,e,.mk op m ks,env =>
  if e≠0 then some (.zero,s,e) else if 900000<env.length then none else
  if op=1 then
   if m<env.length then (if 0≤m then (env[(env.length - 1 - m).toNat]?).map fun v=>(v,s,e) else none)
   else if m≤4611686018427387904 then some (.var (env.length - 1 - m),s,e) else none
  else if f≤ks.length then none else if 900000<ks.length then none else
  match A0 (fun s e t=>AE f s e t env) op env 0 ks s e with
  | none=>none
  | some (vs,s,e)=>headR f s e (.node op m vs)
def headR:Nat→Int→Int→RV→Option (RV×Int×Int)
 | 0,_,_,_=>none
 | f+1,s,e,v =>
  if e≠0 then some (v,s,e) else if s<0∨1000000<s then none else
  if v.op=5 then (match v.k[0]? with
   | none=>none
   | some k0=>if k0.op=4 then
     (if s+1≤1000 then (match k0.k[1]?,v.k[1]? with
      | some c,some x=>if 900000<c.env.length then none else AE f (s+1) 0 c.b (c.env++[x])
      | _,_=>none) else some (v,s+1,17))
    else some (v,s,e))
  else if v.op=8∨v.op=9 then (match v.k[0]? with
   | none=>none
   | some k0=>if k0.op=7 then
     (if s+1≤1000 then (k0.k[(1+v.op - 8).toNat]?).map fun x=>(x,s+1,0) else some (v,s+1,17))
    else some (v,s,e))
  else if v.op=30 then (match v.k[0]? with
   | none=>none
   | some k0=>if k0.op=19 then
     (if s+1≤1000 then (k0.k[0]?).map fun x=>(x,s+1,0) else some (v,s+1,17))
    else some (v,s,e))
  else if v.op=19 then (match v.k[0]? with
   | none=>none
   | some k0=>if k0.op=30 then
     (if s+1≤1000 then (k0.k[0]?).map fun x=>(x,s+1,0) else some (v,s+1,17))
    else some (v,s,e))
  else if v.op=13 then (match v.k[0]?,v.k[1]?,v.k[2]?,v.k[3]? with
   | some k0,some k1,some k2,some k3 =>
    if k3.op=11 then (if s+1≤1000 then some (k1,s+1,0) else some (v,s+1,17))
    else if k3.op=12 then
     (if s+1≤1000 then (match k3.k[0]? with
      | none=>none
      | some x=>(match headR f (s+1) 0 (.node 13 0 [k0,k1,k2,x]) with
       | none=>none
       | some (h,s,e)=>if 900000<k2.env.length then none else AE f s e k2.b (k2.env++[x,h])))
     else some (v,s+1,17))
    else some (v,s,e)
   | _,_,_,_=>none)
  else some (v,s,e)
end
theorem U3 {β:Type} {l:List RV} {i:Nat} {v:RV} (h:l[i]?=some v) (k:IV→Option β):AT 1 (.fv (.sl (l.map RV.enc))) (iv i) k=k (.fv (.fp [v.enc] 0)):=by
 have h1:(l.map RV.enc)[i]?=some v.enc:=by rw [List.getElem?_map,h];rfl
 rw [Bz h1 (Nj v),Acx]
def P5 (f:Nat):Prop:=∀(s e:Int) (t:Tm) (env:List RV) (v:RV) (s' e' nd:Int),AE f s e t env=some (v,s',e')→∀n,f+1≤n →
 Bm (SS dt n 62 [.ptr (.ext 0) 0,.fv t.enc,.fv (.sl (env.map RV.enc))] ⟨[],[.row [iv s,iv nd,iv e] false]⟩) v.enc [.row [iv s',iv nd,iv e'] false]
def QN (f:Nat):Prop:=∀(s e:Int) (v w:RV) (s' e' nd:Int),headR f s e v=some (w,s',e')→∀n,f+1≤n →
 Bm (SS dt n 88 [.ptr (.ext 0) 0,.fv v.enc] ⟨[],[.row [iv s,iv nd,iv e] false]⟩) w.enc [.row [iv s',iv nd,iv e'] false]
abbrev W7 (op m:Int) (ks:List Tm) (K:IV) (tok:List (Nat×Blk)) (s nd e:Int):Hp :=
 ⟨(65011712,.row [iv op,iv m,.fv (.sl (ks.map Tm.enc))] false)::(65018885,.row [iv op,iv m,K,.nils,iv 0,iv 0,.nils] false)::tok,[.row [iv s,iv nd,iv e] false]⟩
theorem ArG {op m:Int} (l:List RV):(RV.node op m l).enc=.fp [.int .i64 op,.int .i64 m,.sl (l.map RV.enc),.sl [],.int .i64 0,.int .i64 0,.sl []] 0:=by rw [RV.node,Tm.z,Ix];rfl
theorem AcL {f:Nat} (he:P5 f) (hh:QN f):P5 (f+1):=by
 intro s e t env v s' e' nd hev n hn;obtain ⟨n,rfl⟩:∃k,n=k+1:=⟨n - 1,by omega⟩;rw [c62];obtain ⟨op,m,ks⟩:=t;rw [An];rw [AE] at hev;by_cases h0:e≠0
 ·rw [if_pos h0] at hev;simp only [Axa,Axb] at hev;obtain ⟨rfl,rfl,rfl⟩:=hev;simp only [HL,Iw,HQ,HS,IY,IT,I3,Ij,HO,IL,HK,II,Iq,IW,H7,HP,Ih,HY,HU,IR,HT,Is,S62,↓XX,XY,↓reduceIte,Nat.reduceBEq,Nat.reduceAdd,Int.reduceEq,Int.reduceLT,Int.reduceLE,h0];exact ⟨_,_,rfl,_,_,fun _ _=>rfl⟩
 ·have h0':e=0:=by omega
  subst h0';rw [if_neg h0] at hev;by_cases hlen:900000<env.length
  ·rw [if_pos hlen] at hev;cases hev
  ·rw [if_neg hlen] at hev;by_cases h1:op=1
   ·rw [if_pos h1] at hev;subst h1;by_cases h2:m<env.length
    ·rw [if_pos h2] at hev;by_cases h3:0≤m
     ·rw [if_pos h3] at hev;cases hg:env[(env.length - 1 - m).toNat]? with
      | none=>rw [hg] at hev;cases hev
      | some u =>
       rw [hg] at hev;simp only [Axd,Axa,Axb] at hev;obtain ⟨rfl,rfl,rfl⟩:=hev;have e1:BA ((env.length:Int) - 1)=env.length - 1:=by rw [Ax]<;>omega
       have e2:BA ((env.length:Int) - 1 - m)=(((env.length:Int) - 1 - m).toNat:Int):=by rw [Ax]<;>omega
       simp only [HL,Iw,HQ,HS,IY,IT,I3,Ij,HO,IL,HK,II,Iq,IW,H7,HP,Ih,HY,HU,IR,HT,Is,S62,↓XX,XY,↓reduceIte,Nat.reduceBEq,Nat.reduceAdd,Int.reduceEq,Int.reduceLT,Int.reduceLE,h2,e1,e2,↓U3 hg];exact AG _ _ _
     ·rw [if_neg h3] at hev;cases hev
    ·rw [if_neg h2] at hev;by_cases h3:m≤4611686018427387904
     ·rw [if_pos h3] at hev;simp only [Axa,Axb] at hev;obtain ⟨rfl,rfl,rfl⟩:=hev;have e1:BA ((env.length:Int) - 1)=env.length - 1:=by rw [Ax]<;>omega
      have e2:BA ((env.length:Int) - 1 - m)=(env.length:Int) - 1 - m:=by rw [Ax]<;>omega
      simp only [HL,Iw,HQ,HS,IY,IT,I3,Ij,HO,IL,HK,II,Iq,IW,H7,HP,Ih,HY,HU,IR,HT,Is,S62,↓XX,XY,↓reduceIte,Nat.reduceBEq,Nat.reduceAdd,Int.reduceEq,Int.reduceLT,Int.reduceLE,h2,e1,e2];exact ⟨_,_,rfl,_,_,fun _ _=>rfl⟩
     ·rw [if_neg h3] at hev;cases hev
   ·rw [if_neg h1] at hev;by_cases hf:f≤ks.length
    ·rw [if_pos hf] at hev;cases hev
    ·rw [if_neg hf] at hev;by_cases hk9:900000<ks.length
     ·rw [if_pos hk9] at hev;cases hev
     ·rw [if_neg hk9] at hev;cases hkg:A0 (fun s e t=>AE f s e t env) op env 0 ks s 0 with
      | none=>rw [hkg] at hev;cases hev
      | some q =>
      obtain ⟨vs,s1,e1⟩:=q;rw [hkg] at hev;simp only at hev;simp only [HL,Iw,HQ,HS,IY,IT,I3,Ij,HO,IL,HK,II,Iq,IW,H7,HP,Ih,HY,HU,IR,HT,Is,S62,↓XX,XY,↓reduceIte,Nat.reduceBEq,Nat.reduceAdd,Int.reduceEq,Int.reduceLT,Int.reduceLE,h1,↓AJ,XD,heldB,AL,XE];refine Bb (Q:=fun r=>Bm r _ _) (fun k V H=>∃pre rest done s2 e2 us s3 e3,ks=pre++rest∧rest.length=k∧done.length=pre.length∧V=[.ptr (.ext 0) 0,.fv (.sl (env.map RV.enc)),.ptr (.own 65011712) 0,.ptr (.own 65018885) 0,iv pre.length] ∧
       (
        (pre=[]∧H=W7 op m ks .nils [] s2 nd e2) ∨
        (∃r,(r=65024014∨r=65025038)∧pre≠[]∧H=W7 op m ks (.app (.own r) (done.map RV.enc)) [(r,.tok done.length 1)] s2 nd e2)) ∧
       A0 (fun s e t=>AE f s e t env) op env pre.length rest s2 e2=some (us,s3,e3)∧headR f s3 e3 (.node op m (done++us))=some (v,s',e'))
       ?_ n ks.length _ _ (by omega) ⟨[],ks,[],s,0,vs,s1,e1,rfl,rfl,rfl,rfl,.inl ⟨rfl,rfl⟩,hkg,hev⟩
      rintro k V H rec ⟨pre,rest,done,s2,e2,us,s3,e3,hk,hl,hdl,rfl,hH,hkids,hhead⟩ hrec;have hkl:ks.length=pre.length+rest.length:=by rw [hk];simp
      have zenc:∀l:List RV,(RV.node op m l).enc=.fp [.int .i64 op,.int .i64 m,.sl (l.map RV.enc),.sl [],.int .i64 0,.int .i64 0,.sl []] 0:=fun l=>ArG l;cases rest with
      | nil =>
       simp only [A0,Axa,Axb] at hkids;obtain ⟨rfl,rfl,rfl⟩:=hkids;rw [List.append_nil] at hhead;have hc:=hh s2 e2 _ v s' e' nd hhead n (by omega);rw [zenc] at hc;have hpre:ks=pre:=by simpa using hk
       subst hpre;rcases hH with ⟨rfl,rfl⟩ | ⟨r,hr,hne,rfl⟩
       ·have hd:done=[]:=List.length_eq_zero_iff.1 hdl;subst hd;have hcall:=fun k=>R7 (k:=k) (own:=[(65011712,.row [iv op,iv m,.fv (.sl (([]:List Tm).map Tm.enc))] false),(65018885,.row [iv op,iv m,.nils,.nils,iv 0,iv 0,.nils] false)])
         (cells:=[iv op,iv m,.nils,.nils,iv 0,iv 0,.nils]) (ro:=false) (s:=65018885) hc (Ck ..) (by simp [Aq]) rfl (by simp)
        simp only [↓TX,↓XX,XY,↓reduceIte,Nat.reduceBEq,Nat.reduceAdd,Int.reduceEq,Int.reduceLT,Int.reduceLE,Int.lt_irrefl,↓hcall];exact AG _ _ _
       ·have hcall:=fun k=>R7 (k:=k) (own:=[(65011712,.row [iv op,iv m,.fv (.sl (ks.map Tm.enc))] false),(65018885,.row [iv op,iv m,.app (.own r) (done.map RV.enc),.nils,iv 0,iv 0,.nils] false),(r,.tok done.length 1)])
         (cells:=[iv op,iv m,.app (.own r) (done.map RV.enc),.nils,iv 0,iv 0,.nils]) (ro:=false) (s:=65018885) hc (Ck ..) (by simp [Aq]) rfl (by simp)
        simp only [↓TX,↓XX,XY,↓reduceIte,Nat.reduceBEq,Nat.reduceAdd,Int.reduceEq,Int.reduceLT,Int.reduceLE,Int.lt_irrefl,↓hcall];exact AG _ _ _
      | cons t rest =>
       have hi:(pre.length:Int)<ks.length:=by rw [hkl];simp;omega
       have hg:=Cu hk;have hb:=Eg (n:=n) (by omega) op pre.length;have hwi:BA ((pre.length:Int)+1)=((pre++[t]).length:Int):=(Ax (by omega) (by omega)).trans (by simp);have hbi:(0<(Am op pre.length:Int)) ↔ 0<Am op pre.length:=by omega
       have hd9:done.length+1≤1000000:=by omega
       simp only [A0] at hkids;simp only [Axe] at hl;by_cases hbp:0<Am op pre.length
       ·rw [if_pos hbp] at hkids;cases hkk:A0 (fun s e t=>AE f s e t env) op env (pre.length+1) rest s2 e2 with
        | none=>rw [hkk] at hkids;cases hkids
        | some q =>
        obtain ⟨us',s4,e4⟩:=q;rw [hkk] at hkids;simp only [Axd,Axa,Axb] at hkids;obtain ⟨rfl,rfl,rfl⟩:=hkids;have hbp':0<(Am op pre.length:Int):=by omega
        have hce:(RV.clo env t).enc=.fp [.int .i64 0,.int .i64 0,.sl [],.sl (env.map RV.enc),.int .i64 t.op,.int .i64 t.n,.sl (t.kids.map Tm.enc)] 0:=by rw [Mv];rfl
        have hnext:∀tk,(tk=65024014∨tk=65025038)→Bm (rec [.ptr (.ext 0) 0,.fv (.sl (env.map RV.enc)),.ptr (.own 65011712) 0,.ptr (.own 65018885) 0,iv (pre++[t]).length]
          (W7 op m ks (.app (.own tk) ((done++[RV.clo env t]).map RV.enc)) [(tk,.tok (done++[RV.clo env t]).length 1)] s2 nd e2)) v.enc [.row [iv s',iv nd,iv e'] false]:=fun tk htk =>
         hrec rest.length _ _ (by omega) ⟨pre++[t],rest,done++[.clo env t],s2,e2,us',s4,e4,by rw [hk];simp,rfl,by simp [hdl],rfl,.inr ⟨tk,htk,by simp,rfl⟩,by simpa using hkk,by simpa using hhead⟩
        obtain ⟨o,p,l⟩:=t;simp only [Tm.op,Tm.n,Tm.kids] at hce;have ha0:=fun {s own ext k}=>Ad7 (RV.clo env (.mk o p l)) s own ext k;have ha1:=fun {r s own ext k}=>UB hd9 (RV.clo env (.mk o p l)) r s own ext k;rw [hce] at ha0 ha1;have hbs:=fun (tl:List (Nat×Blk)) (K:IV) (own:List (Nat×Blk)) (hown:own=(65011712,.row [iv op,iv m,.fv (.sl (ks.map Tm.enc))] false)::(65018885,.row [iv op,iv m,K,.nils,iv 0,iv 0,.nils] false)::tl) (hl:Aq 65024012 own=some (.row [iv 0,iv 0,.nils,.fv (.sl (env.map RV.enc)),iv o,iv p,.fv (.sl (l.map Tm.enc))] false)) (own':List (Nat×Blk)) (ho) s ext (k:IV→Hp→List Ref→List Ref→Option (IV×Hp)) =>
         Asw (E:=EE) (own:=own) (own':=own') tVs tVp rfl ⟨_,rfl⟩ hl (fc:=[.int .i64 0,.int .i64 0,.sl [],.sl (env.map RV.enc),.int .i64 o,.int .i64 p,.sl (l.map Tm.enc)]) rfl (by simp) ho s ext k
        rcases hH with ⟨hp0,rfl⟩ | ⟨r,hr,hne,rfl⟩
        ·have hd0:done=[]:=List.length_eq_zero_iff.1 (by rw [hdl,hp0];rfl);subst hd0;have h9:=hnext _ (.inl rfl);simp only [List.nil_append,Axg,Axf,Axe,List.length_nil] at h9;rw [hce] at h9;have hb0:=fun s ext k=>hbs [(65024012,.row [iv 0,iv 0,.nils,.fv (.sl (env.map RV.enc)),iv o,iv p,.fv (.sl (l.map Tm.enc))] false)] .nils _ rfl (by simp [Aq])
          [(65011712,.row [iv op,iv m,.fv (.sl (ks.map Tm.enc))] false),(65018885,.row [iv op,iv m,.nils,.nils,iv 0,iv 0,.nils] false),(65024012,.row [iv 0,iv 0,.nils,.fv (.sl (env.map RV.enc)),iv o,iv p,.fv (.sl (l.map Tm.enc))] true)] (by simp [AO]) s ext k
         simp only [↓TX,↓XX,XY,↓reduceIte,Nat.reduceBEq,Nat.reduceAdd,Int.reduceEq,Int.reduceLT,Int.reduceLE,hi,↓Bz (AQ hg) (Bg _ _ _),↓Cb,↓Aj hb,hbp',hwi,↓hb0,↓ha0,↓AJ,XD,heldB,AL,XE];exact h9
        ·have h9:=hnext r hr;rw [show (done++[RV.clo env (Tm.mk o p l)]).length=done.length+1 by simp] at h9
         simp only [List.map_append,Axg,Axf] at h9;rw [hce] at h9;simp only [List.map_append,Axg,Axf] at ha1;rw [hce] at ha1;have hb0:=fun s ext k=>hbs [(r,.tok done.length 1),(65024012,.row [iv 0,iv 0,.nils,.fv (.sl (env.map RV.enc)),iv o,iv p,.fv (.sl (l.map Tm.enc))] false)] (.app (.own r) (done.map RV.enc)) _ rfl (by rcases hr with rfl | rfl<;>simp [Aq])
          [(65011712,.row [iv op,iv m,.fv (.sl (ks.map Tm.enc))] false),(65018885,.row [iv op,iv m,.app (.own r) (done.map RV.enc),.nils,iv 0,iv 0,.nils] false),(r,.tok done.length 1),(65024012,.row [iv 0,iv 0,.nils,.fv (.sl (env.map RV.enc)),iv o,iv p,.fv (.sl (l.map Tm.enc))] true)]
          (by rcases hr with rfl | rfl<;>simp [AO]) s ext k
         rcases hr with rfl | rfl
         ·simp only [↓TX,↓XX,XY,↓reduceIte,Nat.reduceBEq,Nat.reduceAdd,Int.reduceEq,Int.reduceLT,Int.reduceLE,hi,↓Bz (AQ hg) (Bg _ _ _),↓Cb,↓Aj hb,hbp',hwi,↓hb0,↓ha1,↓Hd,↓AJ,XD,heldB,AL,XE];exact h9
         ·simp only [↓TX,↓XX,XY,↓reduceIte,Nat.reduceBEq,Nat.reduceAdd,Int.reduceEq,Int.reduceLT,Int.reduceLE,hi,↓Bz (AQ hg) (Bg _ _ _),↓Cb,↓Aj hb,hbp',hwi,↓hb0,↓ha1,↓Hd,↓AJ,XD,heldB,AL,XE];exact h9
       ·rw [if_neg hbp] at hkids;have hbp':¬ 0<(Am op pre.length:Int):=by omega
        cases hev1:AE f s2 e2 t env with
        | none=>rw [hev1] at hkids;cases hkids
        | some q =>
        obtain ⟨v1,s4,e4⟩:=q;rw [hev1] at hkids;simp only at hkids;cases hkk:A0 (fun s e t=>AE f s e t env) op env (pre.length+1) rest s4 e4 with
        | none=>rw [hkk] at hkids;cases hkids
        | some q =>
        obtain ⟨us',s5,e5⟩:=q;rw [hkk] at hkids;simp only [Axd,Axa,Axb] at hkids;obtain ⟨rfl,rfl,rfl⟩:=hkids;have hc:=he s2 e2 t env v1 s4 e4 nd hev1 n (by omega);have hnext:∀tk,(tk=65024014∨tk=65025038)→Bm (rec [.ptr (.ext 0) 0,.fv (.sl (env.map RV.enc)),.ptr (.own 65011712) 0,.ptr (.own 65018885) 0,iv (pre++[t]).length]
          (W7 op m ks (.app (.own tk) ((done++[v1]).map RV.enc)) [(tk,.tok (done++[v1]).length 1)] s4 nd e4)) v.enc [.row [iv s',iv nd,iv e'] false]:=fun tk htk =>
         hrec rest.length _ _ (by omega) ⟨pre++[t],rest,done++[v1],s4,e4,us',s5,e5,by rw [hk];simp,rfl,by simp [hdl],rfl,.inr ⟨tk,htk,by simp,rfl⟩,by simpa using hkk,by simpa using hhead⟩
        obtain ⟨o,p,l⟩:=t;rw [An] at hc;rcases hH with ⟨hp0,rfl⟩ | ⟨r,hr,hne,rfl⟩
        ·have hd0:done=[]:=List.length_eq_zero_iff.1 (by rw [hdl,hp0];rfl);subst hd0;have h9:=hnext _ (.inr rfl);simp only [List.nil_append,Axg,Axf,Axe,List.length_nil] at h9;simp only [↓TX,↓XX,XY,↓reduceIte,Nat.reduceBEq,Nat.reduceAdd,Int.reduceEq,Int.reduceLT,Int.reduceLE,hi,↓Bz (AQ hg) (Bg _ _ _),↓Cb,↓Aj hb,hbp',hwi,↓Jl hc (Ck _ _ _ _ _ _),↓Up,↓Ad7,↓AJ,XD,heldB,AL,XE];exact h9
        ·have h9:=hnext r hr;rw [show (done++[v1]).length=done.length+1 by simp] at h9
         rcases hr with rfl | rfl
         ·simp only [↓TX,↓XX,XY,↓reduceIte,Nat.reduceBEq,Nat.reduceAdd,Int.reduceEq,Int.reduceLT,Int.reduceLE,hi,↓Bz (AQ hg) (Bg _ _ _),↓Cb,↓Aj hb,hbp',hwi,↓Jl hc (Ck _ _ _ _ _ _),↓Up,↓UB hd9,↓Hd,↓AJ,XD,heldB,AL,XE];exact h9
         ·simp only [↓TX,↓XX,XY,↓reduceIte,Nat.reduceBEq,Nat.reduceAdd,Int.reduceEq,Int.reduceLT,Int.reduceLE,hi,↓Bz (AQ hg) (Bg _ _ _),↓Cb,↓Aj hb,hbp',hwi,↓Jl hc (Ck _ _ _ _ _ _),↓Up,↓UB hd9,↓Hd,↓AJ,XD,heldB,AL,XE];exact h9
def RV.cl (v:RV):List FV:=[.int .i64 v.op,.int .i64 v.n,.sl (v.k.map RV.enc),.sl (v.env.map RV.enc),.int .i64 v.b.op,.int .i64 v.b.n,.sl (v.b.kids.map Tm.enc)]
section
variable {β:Type} (v:RV)
theorem Ast (k:IV→Option β):AH (.fv v.enc) k=k (.fv v.enc):=by rw [Mv];rfl
theorem Aum (o:Nat) (k:IV→Option β):Ab o (.fv v.enc) k=k (.fv (.fp v.cl o)):=by rw [Mv,Arv];rfl
theorem nc0 (k:FV→Option β):DJ v.cl 0 k=k (.int .i64 v.op):=rfl
theorem nc1 (k:FV→Option β):DJ v.cl 1 k=k (.int .i64 v.n):=rfl
theorem nc2 (k:FV→Option β):DJ v.cl 2 k=k (.sl (v.k.map RV.enc)):=rfl
theorem nc3 (k:FV→Option β):DJ v.cl 3 k=k (.sl (v.env.map RV.enc)):=rfl
theorem dc4 (k:List FV→Option β):FA v.cl 4 k=k [.int .i64 v.b.op,.int .i64 v.b.n,.sl (v.b.kids.map Tm.enc)]:=rfl
end
theorem GR {β:Type} {l:List RV} {v:RV} (h:l[0]?=some v) (k:IV→Option β):AT 1 (.fv (.sl (l.map RV.enc))) (iv 0) k=k (.fv (.fp [v.enc] 0)):=U3 (i:=0) h k
theorem Aey {β:Type} {l:List RV} {v:RV} (h:l[1]?=some v) (k:IV→Option β):AT 1 (.fv (.sl (l.map RV.enc))) (iv 1) k=k (.fv (.fp [v.enc] 0)):=U3 (i:=1) h k
theorem Atf {β:Type} {l:List RV} {v:RV} (h:l[2]?=some v) (k:IV→Option β):AT 1 (.fv (.sl (l.map RV.enc))) (iv 2) k=k (.fv (.fp [v.enc] 0)):=U3 (i:=2) h k
theorem Aev {β:Type} {l:List RV} {v:RV} (h:l[3]?=some v) (k:IV→Option β):AT 1 (.fv (.sl (l.map RV.enc))) (iv 3) k=k (.fv (.fp [v.enc] 0)):=U3 (i:=3) h k
def XV:=Aw9 @Ast<|Aw9 @Aum<|Aw9 @nc0<|Aw9 @nc1<|Aw9 @nc2<|Aw9 @nc3 @dc4
set_option maxHeartbeats 1000000 in
set_option maxRecDepth 20000 in
theorem Ac3 {f:Nat} (he:P5 f) (hh:QN f):QN (f+1):=by
 intro s e v w s' e' nd hev n hn;obtain ⟨n,rfl⟩:∃k,n=k+1:=⟨n - 1,by omega⟩;rw [c88];rw [headR] at hev;by_cases h0:e≠0
 ·rw [if_pos h0] at hev;simp only [Axa,Axb] at hev;obtain ⟨rfl,rfl,rfl⟩:=hev;simp only [↓FO,↓XX,XY,↓reduceIte,Nat.reduceBEq,Nat.reduceAdd,Int.reduceEq,Int.reduceLT,Int.reduceLE,h0];exact AG _ _ _
 ·have h0':e=0:=by omega
  subst h0';rw [if_neg h0] at hev;by_cases hs:s<0∨1000000<s
  ·rw [if_pos hs] at hev;cases hev
  ·rw [if_neg hs] at hev;have hst:=Af4 (n:=n) (by omega) s nd (by omega) (by omega);have Cj:∀{x:RV} {a b:Int},some (x,a,b)=some (w,s',e')→x=w∧a=s'∧b=e':=by
    intro x a b h;simp only [Axa,Axb] at h;exact h
   by_cases h5:v.op=5
   ·rw [if_pos h5] at hev;cases hk0:v.k[0]? with
    | none=>rw [hk0] at hev;cases hev
    | some k0 =>
     rw [hk0] at hev;simp only at hev;by_cases h4:k0.op=4
     ·rw [if_pos h4] at hev;by_cases hq:s+1≤1000
      ·rw [if_pos hq] at hev;simp only [hq,decide_true,if_true] at hst;cases hc:k0.k[1]? with
       | none=>rw [hc] at hev;cases hev
       | some c =>
        cases hx:v.k[1]? with
        | none=>rw [hc,hx] at hev;cases hev
        | some x =>
         rw [hc,hx] at hev;simp only at hev;by_cases hl:900000<c.env.length
         ·rw [if_pos hl] at hev;cases hev
         ·rw [if_neg hl] at hev;have hcall:=he (s+1) 0 c.b (c.env++[x]) w s' e' nd hev n (by omega);rw [UG] at hcall;have hp:=Sl (n:=n) (by omega) c.env [x] (by simp) (by simp;omega);simp only [Axg,Axf] at hp;simp only [↓FO,↓XX,XY,↓reduceIte,Nat.reduceBEq,Nat.reduceAdd,Int.reduceEq,Int.reduceLT,Int.reduceLE,↓XV,h5,↓GR hk0,h4,↓Do hst (Ck _ _ _ _ _ _),↓Aey hc,↓Aey hx,↓Up,↓Aj hp,↓Jl hcall (Ck _ _ _ _ _ _)];exact AG _ _ _
      ·rw [if_neg hq] at hev;obtain ⟨rfl,rfl,rfl⟩:=Cj hev;simp only [hq,decide_false,if_false] at hst;simp only [↓FO,↓XX,XY,↓reduceIte,Nat.reduceBEq,Nat.reduceAdd,Int.reduceEq,Int.reduceLT,Int.reduceLE,↓XV,h5,↓GR hk0,h4,↓Do hst (Ck _ _ _ _ _ _)];exact AG _ _ _
     ·rw [if_neg h4] at hev;obtain ⟨rfl,rfl,rfl⟩:=Cj hev;simp only [↓FO,↓XX,XY,↓reduceIte,Nat.reduceBEq,Nat.reduceAdd,Int.reduceEq,Int.reduceLT,Int.reduceLE,↓XV,h5,↓GR hk0,h4];exact AG _ _ _
   ·rw [if_neg h5] at hev;by_cases h89:v.op=8∨v.op=9
    ·rw [if_pos h89] at hev;cases hk0:v.k[0]? with
     | none=>rw [hk0] at hev;cases hev
     | some k0 =>
      rw [hk0] at hev;simp only at hev;by_cases h7:k0.op=7
      ·rw [if_pos h7] at hev;by_cases hq:s+1≤1000
       ·rw [if_pos hq] at hev;simp only [hq,decide_true,if_true] at hst;cases hx:k0.k[(1+v.op - 8).toNat]? with
        | none=>rw [hx] at hev;cases hev
        | some x =>
         rw [hx] at hev;obtain ⟨rfl,rfl,rfl⟩:=Cj hev;rcases h89 with h8 | h9
         ·rw [h8] at hx;have hw1:BA (1+8)=9:=by decide
          have hw2:BA (9 - 8)=1:=by decide
          simp only [↓FO,↓XX,XY,↓reduceIte,Nat.reduceBEq,Nat.reduceAdd,Int.reduceEq,Int.reduceLT,Int.reduceLE,↓XV,h8,↓GR hk0,h7,↓Do hst (Ck _ _ _ _ _ _),hw1,hw2,↓Aey (l:=k0.k) (v:=x) hx];exact AG _ _ _
         ·rw [h9] at hx;have hw1:BA (1+9)=10:=by decide
          have hw2:BA (10 - 8)=2:=by decide
          simp only [↓FO,↓XX,XY,↓reduceIte,Nat.reduceBEq,Nat.reduceAdd,Int.reduceEq,Int.reduceLT,Int.reduceLE,↓XV,h9,↓GR hk0,h7,↓Do hst (Ck _ _ _ _ _ _),hw1,hw2,↓Atf (l:=k0.k) (v:=x) hx];exact AG _ _ _
       ·rw [if_neg hq] at hev;obtain ⟨rfl,rfl,rfl⟩:=Cj hev;simp only [hq,decide_false,if_false] at hst;rcases h89 with h8 | h9
        ·simp only [↓FO,↓XX,XY,↓reduceIte,Nat.reduceBEq,Nat.reduceAdd,Int.reduceEq,Int.reduceLT,Int.reduceLE,↓XV,h8,↓GR hk0,h7,↓Do hst (Ck _ _ _ _ _ _)];exact AG _ _ _
        ·simp only [↓FO,↓XX,XY,↓reduceIte,Nat.reduceBEq,Nat.reduceAdd,Int.reduceEq,Int.reduceLT,Int.reduceLE,↓XV,h9,↓GR hk0,h7,↓Do hst (Ck _ _ _ _ _ _)];exact AG _ _ _
      ·rw [if_neg h7] at hev;obtain ⟨rfl,rfl,rfl⟩:=Cj hev;rcases h89 with h8 | h9
       ·simp only [↓FO,↓XX,XY,↓reduceIte,Nat.reduceBEq,Nat.reduceAdd,Int.reduceEq,Int.reduceLT,Int.reduceLE,↓XV,h8,↓GR hk0,h7];exact AG _ _ _
       ·simp only [↓FO,↓XX,XY,↓reduceIte,Nat.reduceBEq,Nat.reduceAdd,Int.reduceEq,Int.reduceLT,Int.reduceLE,↓XV,h9,↓GR hk0,h7];exact AG _ _ _
    ·rw [if_neg h89] at hev;have h8:¬ v.op=8:=fun e=>h89 (.inl e);have h9:¬ v.op=9:=fun e=>h89 (.inr e);by_cases h30:v.op=30
     ·rw [if_pos h30] at hev;cases hk0:v.k[0]? with
      | none=>rw [hk0] at hev;cases hev
      | some k0 =>
       rw [hk0] at hev;simp only at hev;by_cases h7:k0.op=19
       ·rw [if_pos h7] at hev;by_cases hq:s+1≤1000
        ·rw [if_pos hq] at hev;simp only [hq,decide_true,if_true] at hst;cases hx:k0.k[0]? with
         | none=>rw [hx] at hev;cases hev
         | some x =>
          rw [hx] at hev;obtain ⟨rfl,rfl,rfl⟩:=Cj hev;simp only [↓FO,↓XX,XY,↓reduceIte,Nat.reduceBEq,Nat.reduceAdd,Int.reduceEq,Int.reduceLT,Int.reduceLE,↓XV,h30,↓GR hk0,h7,↓Do hst (Ck _ _ _ _ _ _),↓GR hx];exact AG _ _ _
        ·rw [if_neg hq] at hev;obtain ⟨rfl,rfl,rfl⟩:=Cj hev;simp only [hq,decide_false,if_false] at hst;simp only [↓FO,↓XX,XY,↓reduceIte,Nat.reduceBEq,Nat.reduceAdd,Int.reduceEq,Int.reduceLT,Int.reduceLE,↓XV,h30,↓GR hk0,h7,↓Do hst (Ck _ _ _ _ _ _)];exact AG _ _ _
       ·rw [if_neg h7] at hev;obtain ⟨rfl,rfl,rfl⟩:=Cj hev;simp only [↓FO,↓XX,XY,↓reduceIte,Nat.reduceBEq,Nat.reduceAdd,Int.reduceEq,Int.reduceLT,Int.reduceLE,↓XV,h30,↓GR hk0,h7];exact AG _ _ _
     ·rw [if_neg h30] at hev;by_cases h19:v.op=19
      ·rw [if_pos h19] at hev;cases hk0:v.k[0]? with
       | none=>rw [hk0] at hev;cases hev
       | some k0 =>
        rw [hk0] at hev;simp only at hev;by_cases h7:k0.op=30
        ·rw [if_pos h7] at hev;by_cases hq:s+1≤1000
         ·rw [if_pos hq] at hev;simp only [hq,decide_true,if_true] at hst;cases hx:k0.k[0]? with
          | none=>rw [hx] at hev;cases hev
          | some x =>
           rw [hx] at hev;obtain ⟨rfl,rfl,rfl⟩:=Cj hev;simp only [↓FO,↓XX,XY,↓reduceIte,Nat.reduceBEq,Nat.reduceAdd,Int.reduceEq,Int.reduceLT,Int.reduceLE,↓XV,h19,↓GR hk0,h7,↓Do hst (Ck _ _ _ _ _ _),↓GR hx];exact AG _ _ _
         ·rw [if_neg hq] at hev;obtain ⟨rfl,rfl,rfl⟩:=Cj hev;simp only [hq,decide_false,if_false] at hst;simp only [↓FO,↓XX,XY,↓reduceIte,Nat.reduceBEq,Nat.reduceAdd,Int.reduceEq,Int.reduceLT,Int.reduceLE,↓XV,h19,↓GR hk0,h7,↓Do hst (Ck _ _ _ _ _ _)];exact AG _ _ _
        ·rw [if_neg h7] at hev;obtain ⟨rfl,rfl,rfl⟩:=Cj hev;simp only [↓FO,↓XX,XY,↓reduceIte,Nat.reduceBEq,Nat.reduceAdd,Int.reduceEq,Int.reduceLT,Int.reduceLE,↓XV,h19,↓GR hk0,h7];exact AG _ _ _
      ·rw [if_neg h19] at hev;by_cases h13:v.op=13
       ·rw [if_pos h13] at hev;cases hk0:v.k[0]? with
        | none=>rw [hk0] at hev;cases hev
        | some k0 =>
        cases hk1:v.k[1]? with
        | none=>rw [hk0,hk1] at hev;cases hev
        | some k1 =>
        cases hk2:v.k[2]? with
        | none=>rw [hk0,hk1,hk2] at hev;cases hev
        | some k2 =>
        cases hk3:v.k[3]? with
        | none=>rw [hk0,hk1,hk2,hk3] at hev;cases hev
        | some k3 =>
        rw [hk0,hk1,hk2,hk3] at hev;simp only at hev;by_cases h11:k3.op=11
        ·rw [if_pos h11] at hev;by_cases hq:s+1≤1000
         ·rw [if_pos hq] at hev;obtain ⟨rfl,rfl,rfl⟩:=Cj hev;simp only [hq,decide_true,if_true] at hst;simp only [↓FO,↓XX,XY,↓reduceIte,Nat.reduceBEq,Nat.reduceAdd,Int.reduceEq,Int.reduceLT,Int.reduceLE,↓XV,h13,↓Aev hk3,h11,↓Do hst (Ck _ _ _ _ _ _),↓Aey hk1];exact AG _ _ _
         ·rw [if_neg hq] at hev;obtain ⟨rfl,rfl,rfl⟩:=Cj hev;simp only [hq,decide_false,if_false] at hst;simp only [↓FO,↓XX,XY,↓reduceIte,Nat.reduceBEq,Nat.reduceAdd,Int.reduceEq,Int.reduceLT,Int.reduceLE,↓XV,h13,↓Aev hk3,h11,↓Do hst (Ck _ _ _ _ _ _)];exact AG _ _ _
        ·rw [if_neg h11] at hev;by_cases h12:k3.op=12
         ·rw [if_pos h12] at hev;by_cases hq:s+1≤1000
          ·rw [if_pos hq] at hev;simp only [hq,decide_true,if_true] at hst;cases hx:k3.k[0]? with
           | none=>rw [hx] at hev;cases hev
           | some x =>
           rw [hx] at hev;simp only at hev;cases hd:headR f (s+1) 0 (.node 13 0 [k0,k1,k2,x]) with
           | none=>rw [hd] at hev;cases hev
           | some q =>
           obtain ⟨h,s2,e2⟩:=q;rw [hd] at hev;simp only at hev;by_cases hl:900000<k2.env.length
           ·rw [if_pos hl] at hev;cases hev
           ·rw [if_neg hl] at hev;have hcall:=he s2 e2 k2.b (k2.env++[x,h]) w s' e' nd hev n (by omega);rw [UG] at hcall;have hcall2:=hh (s+1) 0 _ h s2 e2 nd hd n (by omega);rw [ArG] at hcall2;simp only [Axg,Axf] at hcall2;have hp:=Sl (n:=n) (by omega) k2.env [x,h] (by simp) (by simp;omega);simp only [Axg,Axf] at hp;have hcall3:=fun k=>R7 (k:=k) (own:=[(92295190,.row [iv 13,iv 0,.clip [k0.enc,k1.enc,k2.enc,x.enc],.nils,iv 0,iv 0,.nils] false)])
             (cells:=[iv 13,iv 0,.clip [k0.enc,k1.enc,k2.enc,x.enc],.nils,iv 0,iv 0,.nils]) (ro:=false) (s:=92295190) hcall2 (Ck ..) (by simp [Aq]) rfl (by simp)
            simp only [↓FO,↓XX,XY,↓reduceIte,Nat.reduceBEq,Nat.reduceAdd,Int.reduceEq,Int.reduceLT,Int.reduceLE,↓XV,h13,↓Aev hk3,h11,h12,↓Do hst (Ck _ _ _ _ _ _),↓GR hx,↓GR hk0,↓Aey hk1,↓Atf hk2,↓Arz,↓hcall3,↓Atb,↓Aj hp,↓Jl hcall (Ck _ _ _ _ _ _)];exact AG _ _ _
          ·rw [if_neg hq] at hev;obtain ⟨rfl,rfl,rfl⟩:=Cj hev;simp only [hq,decide_false,if_false] at hst;simp only [↓FO,↓XX,XY,↓reduceIte,Nat.reduceBEq,Nat.reduceAdd,Int.reduceEq,Int.reduceLT,Int.reduceLE,↓XV,h13,↓Aev hk3,h11,h12,↓Do hst (Ck _ _ _ _ _ _)];exact AG _ _ _
         ·rw [if_neg h12] at hev;obtain ⟨rfl,rfl,rfl⟩:=Cj hev;simp only [↓FO,↓XX,XY,↓reduceIte,Nat.reduceBEq,Nat.reduceAdd,Int.reduceEq,Int.reduceLT,Int.reduceLE,↓XV,h13,↓Aev hk3,h11,h12];exact AG _ _ _
       ·rw [if_neg h13] at hev;obtain ⟨rfl,rfl,rfl⟩:=Cj hev;simp only [↓FO,↓XX,XY,↓reduceIte,Nat.reduceBEq,Nat.reduceAdd,Int.reduceEq,Int.reduceLT,Int.reduceLE,↓XV,h5,h8,h9,h30,h19,h13];exact AG _ _ _
theorem Wd:∀f,P5 f∧QN f:=by
 intro f
 induction f with
 | zero=>exact ⟨(by intro s e t env v s' e' nd h;rw [AE] at h;cases h),(by intro s e v w s' e' nd h;rw [headR] at h;cases h)⟩
 | succ f ih=>exact ⟨AcL ih.1 ih.2,Ac3 ih.1 ih.2⟩
end Idl
end Go.Proofs.Ytkfecngimlcfoaa
namespace Go.Proofs.Ytkfecngimlcfoaa
namespace Idl
def FK (u:Int) (b:Nat):List RV:=(List.range b).map fun (j:Nat)=>RV.var (u+(j:Int))
theorem K3 (u:Int) (b:Nat):FK u (b+1)=FK u b++[RV.var (u+b)]:=by simp [FK,List.range_succ]
theorem Cp (u:Int) (b:Nat):(FK u b).length=b:=by simp [FK]
def Bc (rd:Int→Int→Int→RV→Int→Option (Tm×Int×Int×Int)) (f:Nat) (op u:Int):Nat→List RV→Int→Int→Int→Option (List Tm×Int×Int×Int)
 | _,[],s,nd,e=>some ([],s,nd,e)
 | i,k::l,s,nd,e =>
  match (if 0<Am op i then (if 900000<k.env.length then none else AE f s e k.b (k.env++FK u (Am op i))) else some (k,s,e)) with
  | none=>none
  | some (k',s1,e1)=>match rd s1 nd e1 k' (u+Am op i) with
   | none=>none
   | some (t,s2,nd2,e2)=>(Bc rd f op u (i+1) l s2 nd2 e2).map fun (ts,s,nd,e)=>(t::ts,s,nd,e)
def AV:Nat→Int→Int→Int→RV→Int→Int→Option (Tm×Int×Int×Int)
 | 0,_,_,_,_,_,_=>none
 | f+1,s,nd,e,v,u,d =>
  if nd<0∨1000000<nd∨u<0∨1000000<u∨d<0∨1000000<d∨v.n < -2305843009213693952∨2305843009213693952<v.n∨f≤v.k.length∨900000<v.k.length∨f≤3 then none else
  if (if e=0∧(3000<nd+1∨120<d) then 5 else e)≠0 then some (.z,s,nd+1,(if e=0∧(3000<nd+1∨120<d) then 5 else e))
  else if v.op=1 then some (.mk 1 (u - 1 - v.n) [],s,nd+1,0)
  else (Bc (fun s nd e k u=>AV f s nd e k u (d+1)) f v.op u 0 v.k s (nd+1) 0).map fun (ts,s,nd,e)=>(.mk v.op v.n ts,s,nd,e)
def VO (f:Nat):Prop:=∀(s nd e:Int) (v:RV) (u d:Int) (t:Tm) (s' nd' e':Int),AV f s nd e v u d=some (t,s',nd',e')→∀n,f+1≤n →
 Bm (SS dt n 61 [.ptr (.ext 0) 0,.fv v.enc,iv u,iv d] ⟨[],[.row [iv s,iv nd,iv e] false]⟩) t.enc [.row [iv s',iv nd',iv e'] false]
abbrev LO (op m:Int) (K:IV) (tok:List (Nat×Blk)) (s nd e:Int):Hp :=
 ⟨(63963136,.row [iv 0,iv 0,.nils] false)::(63971337,.row [iv op,iv m,K] false)::tok,[.row [iv s,iv nd,iv e] false]⟩
theorem Aap {cells:List IV} {fc:List FV} (hz:C1 cells=some fc) (hn:cells.length≤100) (s:Nat) (h:Hp) (k:IV→Hp→List Ref→List Ref→Option (IV×Hp)):fzS (KE true s (.agg cells)) s (.agg cells) h k=k (.fv (.fp fc 0)) h [] []:=by
 have:KE true s (.agg cells)=.ret { eff:={ val:=.fv (.fp fc 0),upd:=[] } }:=by
  simp only [KE,IV.alive,Bool.true_eq_false,if_false,if_true,IV.cells,WU cells 4096 (by omega) hz,Rd.bind]
 unfold fzS;rw [this,UW];exact JB _ s h k
theorem WI (n:Int):(RV.var n).enc=.fp [.int .i64 1,.int .i64 n,.sl [],.sl [],.int .i64 0,.int .i64 0,.sl []] 0:=by rw [RV.var,Tm.z,Ix];rfl
set_option maxRecDepth 20000 in
set_option maxHeartbeats 1000000 in
theorem AcT {f:Nat} (hr:VO f):VO (f+1):=by
 intro s nd e v u d t s' nd' e' hev n hn;obtain ⟨n,rfl⟩:∃k,n=k+1:=⟨n - 1,by omega⟩;rw [c61];rw [AV] at hev;by_cases hbad:nd<0∨1000000<nd∨u<0∨1000000<u∨d<0∨1000000<d∨v.n < -2305843009213693952∨2305843009213693952<v.n∨f≤v.k.length∨900000<v.k.length∨f≤3
 ·rw [if_pos hbad] at hev;cases hev
 ·rw [if_neg hbad] at hev;have wnd:BA (nd+1)=nd+1:=by rw [Ax]<;>omega
  have wd:BA (d+1)=d+1:=by rw [Ax]<;>omega
  have wu:BA (u - 1)=u - 1:=by rw [Ax]<;>omega
  have wv:BA (u - 1 - v.n)=u - 1 - v.n:=by rw [Ax]<;>omega
  by_cases he:e=0
  ·subst he;by_cases h3:3000<nd+1
   ·have e5:(if (0:Int)=0∧(3000<nd+1∨120<d) then (5:Int) else 0)=5:=if_pos ⟨rfl,.inl h3⟩;rw [e5,if_pos (by decide)] at hev;simp only [Axa,Axb] at hev;obtain ⟨rfl,rfl,rfl,rfl⟩:=hev;simp only [↓AfH,↓XX,XY,↓reduceIte,Nat.reduceBEq,Nat.reduceAdd,Int.reduceEq,Int.reduceLT,Int.reduceLE,wnd,h3];exact EV rfl _ _
   ·by_cases h4:120<d
    ·have e5:(if (0:Int)=0∧(3000<nd+1∨120<d) then (5:Int) else 0)=5:=if_pos ⟨rfl,.inr h4⟩;rw [e5,if_pos (by decide)] at hev;simp only [Axa,Axb] at hev;obtain ⟨rfl,rfl,rfl,rfl⟩:=hev;simp only [↓AfH,↓XX,XY,↓reduceIte,Nat.reduceBEq,Nat.reduceAdd,Int.reduceEq,Int.reduceLT,Int.reduceLE,wnd,h3,h4];exact EV rfl _ _
    ·have e5:(if (0:Int)=0∧(3000<nd+1∨120<d) then (5:Int) else 0)=0:=if_neg (by omega);rw [e5,if_neg (by decide)] at hev;by_cases h1:v.op=1
     ·rw [if_pos h1] at hev;simp only [Axa,Axb] at hev;obtain ⟨rfl,rfl,rfl,rfl⟩:=hev;have hv:=Aqx (n:=n) (by omega) (u - 1 - v.n);rw [An] at hv ⊢;simp only [↓AfH,↓XX,XY,↓reduceIte,Nat.reduceBEq,Nat.reduceAdd,Int.reduceEq,Int.reduceLT,Int.reduceLE,↓XV,wnd,h3,h4,h1,wu,wv,↓Av hv];exact EV rfl _ _
     ·rw [if_neg h1] at hev;cases hrk:Bc (fun s nd e k u=>AV f s nd e k u (d+1)) f v.op u 0 v.k s (nd+1) 0 with
      | none=>rw [hrk] at hev;cases hev
      | some q =>
      obtain ⟨ts,s1,nd1,e1⟩:=q;rw [hrk] at hev;simp only [Axd,Axa,Axb] at hev;obtain ⟨rfl,rfl,rfl,rfl⟩:=hev;simp only [↓AfH,↓XX,XY,↓reduceIte,Nat.reduceBEq,Nat.reduceAdd,Int.reduceEq,Int.reduceLT,Int.reduceLE,↓XV,wnd,h3,h4,h1,↓AJ,XD,heldB,AL,XE];refine Bb (Q:=fun r=>Bm r _ _) (fun k V H=>∃(pre rest:List RV) (done:List Tm) (s2 nd2 e2:Int) (us:List Tm),v.k=pre++rest∧rest.length=k∧done.length=pre.length∧V=[.ptr (.ext 0) 0,.fv v.enc,iv u,iv d,.ptr (.own 63963136) 0,.ptr (.own 63971337) 0,iv pre.length] ∧
       (
        (pre=[]∧H=LO v.op v.n .nils [] s2 nd2 e2) ∨
        (pre≠[]∧H=LO v.op v.n (.app (.own 63984651) (done.map Tm.enc)) [(63984651,.tok done.length 3)] s2 nd2 e2)) ∧
       Bc (fun s nd e k u=>AV f s nd e k u (d+1)) f v.op u pre.length rest s2 nd2 e2=some (us,s1,nd1,e1)∧done++us=ts)
       ?_ n v.k.length _ _ (by omega) ⟨[],v.k,[],s,nd+1,0,ts,rfl,rfl,rfl,rfl,.inl ⟨rfl,rfl⟩,hrk,rfl⟩
      rintro k V H rec ⟨pre,rest,done,s2,nd2,e2,us,hk,hl,hdl,rfl,hH,hkids,hts⟩ hrec;have hkl:v.k.length=pre.length+rest.length:=by rw [hk];simp
      cases rest with
      | nil =>
       simp only [Bc,Axa,Axb] at hkids;obtain ⟨rfl,rfl,rfl,rfl⟩:=hkids;rw [List.append_nil] at hts;subst hts;have hno:¬ ((pre.length:Int)<v.k.length):=by rw [hkl];simp
       rcases hH with ⟨hp0,rfl⟩ | ⟨hne,rfl⟩
       ·have hd0:done=[]:=List.length_eq_zero_iff.1 (by rw [hdl,hp0];rfl);subst hd0;simp only [EO,EA,En,EP,Ek,Ew,G9,Ep,EJ,EH,EN,EF,GS,Ej,Et,EQ,Ez,Eo,EL,Ei,E9,Eu,EI,EB,EM,EK,Em,EC,Es,ED,Ey,S61,↓XX,XY,↓reduceIte,Nat.reduceBEq,Nat.reduceAdd,Int.reduceEq,Int.reduceLT,Int.reduceLE,↓XV,hno,An];exact EV rfl _ _
       ·simp only [EO,EA,En,EP,Ek,Ew,G9,Ep,EJ,EH,EN,EF,GS,Ej,Et,EQ,Ez,Eo,EL,Ei,E9,Eu,EI,EB,EM,EK,Em,EC,Es,ED,Ey,S61,↓XX,XY,↓reduceIte,Nat.reduceBEq,Nat.reduceAdd,Int.reduceEq,Int.reduceLT,Int.reduceLE,↓XV,hno,An];exact EV rfl _ _
      | cons x rest =>
       have hi:(pre.length:Int)<v.k.length:=by rw [hkl];simp;omega
       have hg:=Cu hk;have hb:=Eg (n:=n) (by omega) v.op pre.length;have hble:=Bi v.op pre.length;have hwi:BA ((pre.length:Int)+1)=((pre++[x]).length:Int):=(Ax (by omega) (by omega)).trans (by simp);have hwb:BA (u+(Am v.op pre.length:Int))=u+Am v.op pre.length:=by rw [Ax]<;>omega
       have hd9:done.length+1≤1000000:=by omega
       simp only [Bc] at hkids;simp only [Axe] at hl;have behind:∀(y:RV) (s3 e3:Int),(match AV f s3 nd2 e3 y (u+Am v.op pre.length) (d+1) with
          | none=>none
          | some (t,s2,nd2,e2)=>(Bc (fun s nd e k u=>AV f s nd e k u (d+1)) f v.op u (pre.length+1) rest s2 nd2 e2).map fun (ts,s,nd,e)=>(t::ts,s,nd,e))=some (us,s1,nd1,e1) →
         ∀K tk,((pre=[]∧K=.nils∧tk=[])∨(pre≠[]∧K=.app (.own 63984651) (done.map Tm.enc)∧tk=[(63984651,.tok done.length 3)])) →
         Bm (G9 (.ptr (.own 63971337) 0) (LO v.op v.n K tk s3 nd2 e3) (iv u) (iv (Am v.op pre.length)) (iv d) (SS dt n) (.ptr (.ext 0) 0) (.fv y.enc) (iv pre.length) ⟨[],[.row [iv s,iv nd,iv 0] false]⟩ (.fv v.enc) (.ptr (.own 63963136) 0) rec)
          (Tm.mk v.op v.n ts).enc [.row [iv s1,iv nd1,iv e1] false]:=by
        intro y s3 e3 hy K tk hK;cases hrd:AV f s3 nd2 e3 y (u+Am v.op pre.length) (d+1) with
        | none=>rw [hrd] at hy;cases hy
        | some q =>
        obtain ⟨t4,s4,nd4,e4⟩:=q;rw [hrd] at hy;simp only at hy;cases hkk:Bc (fun s nd e k u=>AV f s nd e k u (d+1)) f v.op u (pre.length+1) rest s4 nd4 e4 with
        | none=>rw [hkk] at hy;cases hy
        | some q =>
        obtain ⟨us',s5,nd5,e5'⟩:=q;rw [hkk] at hy;simp only [Axd,Axa,Axb] at hy;obtain ⟨rfl,rfl,rfl,rfl⟩:=hy;have hc:=hr s3 nd2 e3 y (u+Am v.op pre.length) (d+1) t4 s4 nd4 e4 hrd n (by omega);have h9:Bm (rec [.ptr (.ext 0) 0,.fv v.enc,iv u,iv d,.ptr (.own 63963136) 0,.ptr (.own 63971337) 0,iv (pre++[x]).length]
          (LO v.op v.n (.app (.own 63984651) ((done++[t4]).map Tm.enc)) [(63984651,.tok (done.length+1) 3)] s4 nd4 e4)) (Tm.mk v.op v.n ts).enc [.row [iv s5,iv nd5,iv e5'] false] :=
         hrec rest.length _ _ (by omega) ⟨pre++[x],rest,done++[t4],s4,nd4,e4,us',by rw [hk];simp,rfl,by simp [hdl],rfl,.inr ⟨by simp,by simp⟩,by simpa using hkk,by rw [← hts];simp⟩
        rcases hK with ⟨hp0,rfl,rfl⟩ | ⟨hne,rfl,rfl⟩
        ·have hd0:done=[]:=List.length_eq_zero_iff.1 (by rw [hdl,hp0];rfl);subst hd0;simp only [List.nil_append,Axg,Axf,List.length_nil] at h9;simp only [EO,EA,En,EP,Ek,Ew,G9,Ep,EJ,EH,EN,EF,GS,Ej,Et,EQ,Ez,Eo,EL,Ei,E9,Eu,EI,EB,EM,EK,Em,EC,Es,ED,Ey,S61,↓XX,XY,↓reduceIte,Nat.reduceBEq,Nat.reduceAdd,Int.reduceEq,Int.reduceLT,Int.reduceLE,↓XV,hwb,wd,hwi,↓AgJ hc (Ck _ _ _ _ _ _),↓Jn,↓SD,↓AJ,XD,heldB,AL,XE];exact h9
        ·simp only [EO,EA,En,EP,Ek,Ew,G9,Ep,EJ,EH,EN,EF,GS,Ej,Et,EQ,Ez,Eo,EL,Ei,E9,Eu,EI,EB,EM,EK,Em,EC,Es,ED,Ey,S61,↓XX,XY,↓reduceIte,Nat.reduceBEq,Nat.reduceAdd,Int.reduceEq,Int.reduceLT,Int.reduceLE,↓XV,hwb,wd,hwi,↓AgJ hc (Ck _ _ _ _ _ _),↓Jn,↓MD hd9,↓Hd,↓AJ,XD,heldB,AL,XE];exact h9
       have heads:∃K tk,((pre=[]∧K=.nils∧tk=[])∨(pre≠[]∧K=.app (.own 63984651) (done.map Tm.enc)∧tk=[(63984651,.tok done.length 3)]))∧H=LO v.op v.n K tk s2 nd2 e2:=by
        rcases hH with ⟨a,b⟩ | ⟨a,b⟩
        ·exact ⟨_,_,.inl ⟨a,rfl,rfl⟩,b⟩
        ·exact ⟨_,_,.inr ⟨a,rfl,rfl⟩,b⟩
       obtain ⟨K,tk,hK,rfl⟩:=heads;by_cases hbp:0<Am v.op pre.length
       ·rw [if_pos hbp] at hkids;by_cases hxe:900000<x.env.length
        ·rw [if_pos hxe] at hkids;cases hkids
        ·rw [if_neg hxe] at hkids;have hbp':0<(Am v.op pre.length:Int):=by omega
         cases hev1:AE f s2 e2 x.b (x.env++FK u (Am v.op pre.length)) with
         | none=>rw [hev1] at hkids;cases hkids
         | some q =>
         obtain ⟨y,s3,e3⟩:=q;rw [hev1] at hkids;have hB:=behind y s3 e3 hkids K tk hK;have hc:=(Wd f).1 s2 e2 x.b _ y s3 e3 nd2 hev1 n (by omega);rw [UG] at hc;have hdrop:∀(vals:List IV),vals.all Fl=true→∀k:Hp→Option (IV×Hp),Bs [] [63982597] vals (LO v.op v.n K tk s2 nd2 e2) k=k (LO v.op v.n K tk s2 nd2 e2):=by
          intro vals hv k;rcases hK with ⟨_,rfl,rfl⟩ | ⟨_,rfl,rfl⟩<;>simp only [↓XX,XY,↓reduceIte,Nat.reduceBEq,Nat.reduceAdd,Int.reduceEq,Int.reduceLT,Int.reduceLE,↓AJ,XD,heldB,AL,XE,hv]
         simp only [EO,EA,En,EP,Ek,Ew,Ep,EJ,EH,EN,EF,Ej,Et,EQ,Ez,Eo,EL,Ei,E9,Eu,EI,EB,EM,EK,Em,EC,Es,ED,Ey,S61,↓XX,XY,↓reduceIte,Nat.reduceBEq,Nat.reduceAdd,Int.reduceEq,Int.reduceLT,Int.reduceLE,↓XV,hi,↓U3 hg,↓Aj hb,hbp',↓hdrop,↓AJ,XD,heldB,AL,XE];refine Bb (Q:=fun r=>Bm r _ _) (fun k V H=>∃j,j+k=Am v.op pre.length∧V=[.ptr (.ext 0) 0,.fv v.enc,iv u,iv d,.ptr (.own 63963136) 0,.ptr (.own 63971337) 0,iv pre.length,iv (Am v.op pre.length),.fv x.enc,.fv (.sl ((x.env++FK u j).map RV.enc)),iv j] ∧
          H=LO v.op v.n K tk s2 nd2 e2) ?_ n (Am v.op pre.length) _ _ (by omega) ?_
         rotate_left
         ·exact ⟨0,by omega,by simp [FK],rfl⟩
         rintro k2 V2 H2 rec2 ⟨j,hj,rfl,rfl⟩ hrec2;cases k2 with
         | zero =>
          have hjb:j=Am v.op pre.length:=by omega
          subst hjb;simp only [EO,EA,En,EP,Ek,Ew,Ep,EJ,EH,EN,EF,GS,Ej,Et,EQ,Ez,Eo,EL,Ei,E9,Eu,EI,EB,EM,EK,Em,EC,Es,ED,Ey,S61,↓XX,XY,↓reduceIte,Nat.reduceBEq,Nat.reduceAdd,Int.reduceEq,Int.reduceLT,Int.reduceLE,↓XV,Int.lt_irrefl,↓Jl hc (Ck _ _ _ _ _ _)];exact hB
         | succ k2 =>
          have hjb:(j:Int)<Am v.op pre.length:=by omega
          have hwj:BA (u+(j:Int))=u+j:=by rw [Ax]<;>omega
          have hwj1:BA ((j:Int)+1)=((j+1:Nat):Int):=by rw [Ax]<;>omega
          have hp:=Sl (n:=n) (by omega) (x.env++FK u j) [RV.var (u+j)] (by simp) (by simp [Cp];omega);simp only [Axg,Axf,WI] at hp;rw [List.append_assoc,← K3] at hp;have hbv:=fun s h k=>Up (RV.var (u+j)) s h k;simp only [WI] at hbv;have hfz:=fun s h (k:IV→Hp→List Ref→List Ref→Option (IV×Hp))=>Aap (cells:=[.fv (.int .i64 1),iv (u+j),.nils,.nils,.fv (.int .i64 0),.fv (.int .i64 0),.nils]) (fc:=[.int .i64 1,.int .i64 (u+j),.sl [],.sl [],.int .i64 0,.int .i64 0,.sl []]) rfl (by simp) s h k;have h9:=hrec2 k2 _ _ (by omega) ⟨j+1,by omega,rfl,rfl⟩;simp only [EO,EA,En,EP,Ek,Ew,Ep,EJ,EH,EN,EF,GS,Ej,Et,EQ,Ez,Eo,EL,Ei,E9,Eu,EI,EB,EM,EK,Em,EC,Es,ED,Ey,S61,↓XX,XY,↓reduceIte,Nat.reduceBEq,Nat.reduceAdd,Int.reduceEq,Int.reduceLT,Int.reduceLE,↓XV,hjb,hwj,hwj1,↓hfz,↓hbv,↓Aj hp,↓hdrop,↓AJ,XD,heldB,AL,XE];exact h9
       ·rw [if_neg hbp] at hkids;have hbp':¬ 0<(Am v.op pre.length:Int):=by omega
        have hB:=behind x s2 e2 hkids K tk hK;simp only [EO,EA,En,EP,Ek,Ew,Ep,EJ,EH,EN,EF,Ej,Et,EQ,Ez,Eo,EL,Ei,E9,Eu,EI,EB,EM,EK,Em,EC,Es,ED,Ey,S61,↓XX,XY,↓reduceIte,Nat.reduceBEq,Nat.reduceAdd,Int.reduceEq,Int.reduceLT,Int.reduceLE,↓XV,hi,↓U3 hg,↓Aj hb,hbp',↓AJ,XD,heldB,AL,XE];exact hB
  ·have e5:(if e=0∧(3000<nd+1∨120<d) then (5:Int) else e)=e:=if_neg (by omega);rw [e5,if_pos he] at hev;simp only [Axa,Axb] at hev;obtain ⟨rfl,rfl,rfl,rfl⟩:=hev;simp only [↓AfH,↓XX,XY,↓reduceIte,Nat.reduceBEq,Nat.reduceAdd,Int.reduceEq,Int.reduceLT,Int.reduceLE,wnd,he];exact EV rfl _ _
theorem Aid:∀f,VO f:=by
 intro f
 induction f with
 | zero=>intro s nd e v u d t s' nd' e' h;rw [AV] at h;cases h
 | succ f ih=>exact AcT ih
def A5 (f:Nat) (t:Tm):Option (Tm×Int):=match AE f 0 0 t [] with
 | none=>none
 | some (v,s,e)=>match AV f s 0 e v 0 1 with
  | none=>none
  | some (u,_,_,e)=>some (if e≠0 then (.z,e) else (u,0))
theorem Adg (f:Nat) (t u:Tm) (e:Int) (h:A5 f t=some (u,e)) (n:Nat) (hn:f+2≤n):BE (SS dt n 34 [.fv t.enc] ⟨[],[]⟩) (.tuple [u.enc,.int .i64 e]):=by
 obtain ⟨n,rfl⟩:∃k,n=k+1:=⟨n - 1,by omega⟩;rw [c34];unfold A5 at h;cases he:AE f 0 0 t [] with
 | none=>rw [he] at h;cases h
 | some q =>
 obtain ⟨v,s1,e1⟩:=q;rw [he] at h;simp only at h;cases hr:AV f s1 0 e1 v 0 1 with
 | none=>rw [hr] at h;cases h
 | some q =>
 obtain ⟨w,s2,nd2,e2⟩:=q;rw [hr] at h;simp only [Axa] at h;have h1:=(Wd f).1 0 0 t [] v s1 e1 0 he n (by omega);have h2:=Aid f s1 0 e1 v 0 1 w s2 nd2 e2 hr n (by omega);obtain ⟨op,m,ks⟩:=t;rw [An] at h1 ⊢;simp only [Axf] at h1;have c1:=fun k=>Aqu (k:=k) h1 (x:=.fv (.agg [.int .i64 op,.int .i64 m,.sl (ks.map Tm.enc)])) (y:=.nils) (s:=35652609) rfl rfl
  (own:=[(35651584,.row [iv op,iv m,.fv (.sl (ks.map Tm.enc))] false),(35651585,.row [iv 0,iv 0,.nils] false),(35652609,.row [iv 0,iv 0,iv 0] false)])
  (own':=[(35651584,.row [iv op,iv m,.fv (.sl (ks.map Tm.enc))] false),(35651585,.row [iv 0,iv 0,.nils] false),(35652609,.row [iv s1,iv 0,iv e1] false)]) (by simp [Aq]) (by simp [AO])
 have c2:=fun k=>Ao9 (k:=k) h2 (x:=.fv v.enc) (y:=iv 0) (z:=iv 1) (s:=35652609) rfl rfl rfl
  (own:=[(35651584,.row [iv op,iv m,.fv (.sl (ks.map Tm.enc))] false),(35651585,.row [iv 0,iv 0,.nils] false),(35652609,.row [iv s1,iv 0,iv e1] false)])
  (own':=[(35651584,.row [iv op,iv m,.fv (.sl (ks.map Tm.enc))] false),(35651585,.row [iv 0,iv 0,.nils] false),(35652609,.row [iv s2,iv nd2,iv e2] false)]) (by simp [Aq]) (by simp [AO])
 obtain ⟨wo,wn,wk⟩:=w;rw [An] at c2;by_cases hz:e2=0
 ·rw [if_neg (by simp [hz])] at h;simp only [Axb] at h;obtain ⟨rfl,rfl⟩:=h;subst hz;simp only [VC,VL,Vg,Wb,Vw,S34,↓XX,XY,↓reduceIte,Nat.reduceBEq,Nat.reduceAdd,Int.reduceEq,Int.reduceLT,Int.reduceLE,↓c1,↓c2,An];exact Ao _ _
 ·rw [if_pos hz] at h;simp only [Axb] at h;obtain ⟨rfl,rfl⟩:=h;simp only [VC,VL,Vg,Wb,Vw,S34,↓XX,XY,↓reduceIte,Nat.reduceBEq,Nat.reduceAdd,Int.reduceEq,Int.reduceLT,Int.reduceLE,↓c1,↓c2,hz,Tm.z,An];exact AR rfl (by simp) _
theorem CY {ev ev':Int→Int→Tm→Option (RV×Int×Int)} (h:∀s e t r,ev s e t=some r→ev' s e t=some r) (op:Int) (env:List RV):∀(l:List Tm) (i:Nat) (s e:Int) (r:List RV×Int×Int),A0 ev op env i l s e=some r→A0 ev' op env i l s e=some r
 | [],i,s,e,r,hr=>hr
 | t::l,i,s,e,r,hr=>by
  simp only [A0] at hr ⊢;by_cases hb:0<Am op i
  ·rw [if_pos hb] at hr ⊢;cases hk:A0 ev op env (i+1) l s e with
   | none=>rw [hk] at hr;cases hr
   | some q=>rw [hk] at hr;rw [CY h op env l (i+1) s e q hk];exact hr
  ·rw [if_neg hb] at hr ⊢;cases he:ev s e t with
   | none=>rw [he] at hr;cases hr
   | some q =>
    obtain ⟨v,s1,e1⟩:=q;rw [he] at hr;rw [h _ _ _ _ he];simp only at hr ⊢;cases hk:A0 ev op env (i+1) l s1 e1 with
    | none=>rw [hk] at hr;cases hr
    | some q=>rw [hk] at hr;rw [CY h op env l (i+1) s1 e1 q hk];exact hr
theorem Pt:∀f,(∀s e t env r,AE f s e t env=some r→AE (f+1) s e t env=some r)∧(∀s e v r,headR f s e v=some r→headR (f+1) s e v=some r):=by
 intro f
 induction f with
 | zero=>exact ⟨(by intro s e t env r h;rw [AE] at h;cases h),(by intro s e v r h;rw [headR] at h;cases h)⟩
 | succ f ih =>
  refine ⟨?_,?_⟩
  ·intro s e t env r h;obtain ⟨op,m,ks⟩:=t;rw [AE] at h ⊢;split at h
   ·rename_i h0;rw [if_pos h0];exact h
   ·rename_i h0;rw [if_neg h0];split at h
    ·cases h
    ·rename_i h1;rw [if_neg h1];split at h
     ·rename_i h2;rw [if_pos h2];exact h
     ·rename_i h2;rw [if_neg h2];split at h
      ·cases h
      ·rename_i h3;rw [if_neg (by omega)];split at h
       ·cases h
       ·rename_i h4;rw [if_neg h4];split at h
        ·cases h
        ·rename_i vs s1 e1 hk;rw [CY (ev':=fun s e t=>AE (f+1) s e t env) (fun s e t r=>ih.1 s e t env r) op env ks 0 s e _ hk];exact ih.2 _ _ _ _ h
  ·intro s e v r h;rw [headR] at h ⊢;by_cases h0:e≠0
   ·rw [if_pos h0] at h ⊢;exact h
   rw [if_neg h0] at h ⊢;by_cases h1:s<0∨1000000<s
   ·rw [if_pos h1] at h;cases h
   rw [if_neg h1] at h ⊢;by_cases h5:v.op=5
   ·rw [if_pos h5] at h ⊢;cases hk:v.k[0]? with
    | none=>rw [hk] at h;cases h
    | some k0 =>
     rw [hk] at h;simp only at h ⊢;by_cases h4:k0.op=4
     ·rw [if_pos h4] at h ⊢;by_cases hq:s+1≤1000
      ·rw [if_pos hq] at h ⊢;cases hc:k0.k[1]? with
       | none=>rw [hc] at h;cases h
       | some c =>
        cases hx:v.k[1]? with
        | none=>rw [hc,hx] at h;cases h
        | some x =>
         rw [hc,hx] at h;simp only at h ⊢;by_cases hl:900000<c.env.length
         ·rw [if_pos hl] at h;cases h
         ·rw [if_neg hl] at h ⊢;exact ih.1 _ _ _ _ _ h
      ·rw [if_neg hq] at h ⊢;exact h
     ·rw [if_neg h4] at h ⊢;exact h
   rw [if_neg h5] at h ⊢;by_cases h89:v.op=8∨v.op=9
   ·rw [if_pos h89] at h ⊢;exact h
   rw [if_neg h89] at h ⊢;by_cases h30:v.op=30
   ·rw [if_pos h30] at h ⊢;exact h
   rw [if_neg h30] at h ⊢;by_cases h19:v.op=19
   ·rw [if_pos h19] at h ⊢;exact h
   rw [if_neg h19] at h ⊢;by_cases h13:v.op=13
   ·rw [if_pos h13] at h ⊢;cases hk0:v.k[0]? with
    | none=>rw [hk0] at h;cases h
    | some k0 =>
    cases hk1:v.k[1]? with
    | none=>rw [hk0,hk1] at h;cases h
    | some k1 =>
    cases hk2:v.k[2]? with
    | none=>rw [hk0,hk1,hk2] at h;cases h
    | some k2 =>
    cases hk3:v.k[3]? with
    | none=>rw [hk0,hk1,hk2,hk3] at h;cases h
    | some k3 =>
    rw [hk0,hk1,hk2,hk3] at h;simp only at h ⊢;by_cases h11:k3.op=11
    ·rw [if_pos h11] at h ⊢;exact h
    rw [if_neg h11] at h ⊢;by_cases h12:k3.op=12
    ·rw [if_pos h12] at h ⊢;by_cases hq:s+1≤1000
     ·rw [if_pos hq] at h ⊢;cases hx:k3.k[0]? with
      | none=>rw [hx] at h;cases h
      | some x =>
       rw [hx] at h;simp only at h ⊢;cases hd:headR f (s+1) 0 (.node 13 0 [k0,k1,k2,x]) with
       | none=>rw [hd] at h;cases h
       | some q =>
        obtain ⟨w,s2,e2⟩:=q;rw [hd] at h;rw [ih.2 _ _ _ _ hd];simp only at h ⊢;by_cases hl:900000<k2.env.length
        ·rw [if_pos hl] at h;cases h
        ·rw [if_neg hl] at h ⊢;exact ih.1 _ _ _ _ _ h
     ·rw [if_neg hq] at h ⊢;exact h
    ·rw [if_neg h12] at h ⊢;exact h
   rw [if_neg h13] at h ⊢;exact h
theorem Cf {f g:Nat} (hfg:f≤g) {s e:Int} {t:Tm} {env:List RV} {r:RV×Int×Int} (h:AE f s e t env=some r):AE g s e t env=some r:=by
 induction hfg with
 | refl=>exact h
 | step _ ih=>exact (Pt _).1 _ _ _ _ _ ih
theorem PX {f g:Nat} (hfg:f≤g) {s e:Int} {v:RV} {r:RV×Int×Int} (h:headR f s e v=some r):headR g s e v=some r:=by
 induction hfg with
 | refl=>exact h
 | step _ ih=>exact (Pt _).2 _ _ _ _ ih
def ar (op:Int):Option Nat :=
 if op=0∨op=1∨op=2∨op=10∨op=11∨op=14∨op=15∨op=25 then some 0
 else if op=8∨op=9∨op=12∨op=18∨op=19∨op=23∨op=24∨op=30 then some 1
 else if op=3∨op=4∨op=5∨op=6∨op=16∨op=17∨op=20∨op=21∨op=22∨op=26∨op=28∨op=29 then some 2
 else if op=7∨op=27 then some 3 else if op=13 then some 4 else none
def BK (op n:Int):Prop:=if op=2 then 0≤n∧n≤2 else if op=26 then 0≤n∧n≤4 else if op=25 then -2305843009213693952≤n∧n≤2305843009213693952 else n=0
mutual
def Tm.sc:Tm→Nat→Prop
 | .mk op n ks,k=>ar op=some ks.length∧(if op=1 then 0≤n∧n<k else BK op n)∧Tm.scL op 0 ks k
def Tm.scL:Int→Nat→List Tm→Nat→Prop
 | _,_,[],_=>True
 | op,i,t::l,k=>t.sc (k+Am op i)∧Tm.scL op (i+1) l k
end
mutual
def Tm.bd:Tm→Nat
 | .mk op _ ks=>Tm.bdL op 0 ks
def Tm.bdL:Int→Nat→List Tm→Nat
 | _,_,[]=>0
 | op,i,t::l=>max (Am op i+t.bd) (Tm.bdL op (i+1) l)
end
section
variable (k0 D:Nat) (L:Int)
mutual
def RV.ok:RV→Prop
 | .mk op n k _ _=>if op=1 then -(k0:Int)≤n∧n<L∧k=[] else ar op=some k.length∧BK op n∧RV.okL op 0 k
def RV.okL:Int→Nat→List RV→Prop
 | _,_,[]=>True
 | op,i,v::l=>(if 0<Am op i then RV.okC (Am op i) v else RV.ok v)∧RV.okL op (i+1) l
def RV.okC:Nat→RV→Prop
 | b,.mk _ _ _ env bd=>RV.okE env∧bd.sc (k0+env.length+b)∧env.length+b+bd.bd≤D
def RV.okE:List RV→Prop
 | []=>True
 | v::l=>RV.ok v∧RV.okE l
end
end
end Idl
end Go.Proofs.Ytkfecngimlcfoaa
namespace Go.Proofs.Ytkfecngimlcfoaa
namespace Idl
theorem SU {op:Int} {n:Nat} (h:ar op=some n):n≤4:=by
 unfold ar at h
 repeat' split at h
 all_goals first | (simp only [Axa] at h;omega) | cases h
section
variable {k0 D:Nat} {L:Int}
theorem YV:∀{l:List RV},RV.okE k0 D L l→∀{i:Nat} {v:RV},l[i]?=some v→RV.ok k0 D L v
 | [],_,i,v,h=>by simp at h
 | a::l,ho,i,v,h=>by
  rw [RV.okE] at ho;cases i with
  | zero=>simp at h;subst h;exact ho.1
  | succ i=>simp at h;exact YV ho.2 h
theorem J7:∀{l l':List RV},RV.okE k0 D L l→RV.okE k0 D L l'→RV.okE k0 D L (l++l')
 | [],l',_,h=>h
 | a::l,l',h,h'=>by
  rw [RV.okE] at h;rw [List.cons_append,RV.okE];exact ⟨h.1,J7 h.2 h'⟩
theorem Rj {v:RV} (h:RV.ok k0 D L v):RV.okE k0 D L [v]:=by rw [RV.okE,RV.okE];exact ⟨h,trivial⟩
theorem AlG {v w:RV} (h:RV.ok k0 D L v) (h':RV.ok k0 D L w):RV.okE k0 D L [v,w]:=by rw [RV.okE];exact ⟨h,Rj h'⟩
theorem JH:∀{l:List RV} {op:Int} {i:Nat},RV.okL k0 D L op i l→∀{j:Nat} {v:RV},l[j]?=some v→(if 0<Am op (i+j) then RV.okC k0 D L (Am op (i+j)) v else RV.ok k0 D L v)
 | [],op,i,_,j,v,h=>by simp at h
 | a::l,op,i,ho,j,v,h=>by
  rw [RV.okL] at ho;cases j with
  | zero=>simp at h;subst h;exact ho.1
  | succ j =>
   simp at h
   have:=JH ho.2 h
   rw [show i+1+j=i+(j+1) by omega] at this
   exact this
theorem Yk {op n:Int} {k:List RV} (h1:op≠1) (ha:ar op=some k.length) (hn:BK op n) (hk:RV.okL k0 D L op 0 k):RV.ok k0 D L (.node op n k):=by
 rw [RV.node,RV.ok,if_neg h1];exact ⟨ha,hn,hk⟩
theorem Fh {v:RV} (h:RV.ok k0 D L v) (h1:v.op≠1):ar v.op=some v.k.length∧BK v.op v.n∧RV.okL k0 D L v.op 0 v.k:=by
 obtain ⟨op,n,k,env,b⟩:=v;rw [RV.ok] at h;have h1:op≠1:=h1;rw [if_neg h1] at h;exact h
theorem RB:RV.ok k0 D L .zero:=by
 rw [RV.zero,RV.ok,if_neg (by decide)];exact ⟨by decide,by simp [BK],by rw [RV.okL];trivial⟩
theorem Fv {v:RV} (h:RV.ok k0 D L v) (h1:v.op≠1) {j:Nat} (hj:j<v.k.length) (hb:Am v.op j=0):∃w,v.k[j]?=some w∧RV.ok k0 D L w:=by
 obtain ⟨_,_,hl⟩:=Fh h h1;refine ⟨v.k[j],List.getElem?_eq_getElem hj,?_⟩
 have:=JH hl (List.getElem?_eq_getElem hj)
 rw [Nat.zero_add,if_neg (by omega)] at this;exact this
theorem VU {v:RV} (h:RV.ok k0 D L v) (h1:v.op≠1) {j:Nat} (hj:j<v.k.length) (hb:0<Am v.op j):∃w,v.k[j]?=some w∧RV.okE k0 D L w.env∧w.b.sc (k0+w.env.length+Am v.op j)∧w.env.length+Am v.op j+w.b.bd≤D:=by
 obtain ⟨_,_,hl⟩:=Fh h h1;refine ⟨v.k[j],List.getElem?_eq_getElem hj,?_⟩
 have:=JH hl (List.getElem?_eq_getElem hj)
 rw [Nat.zero_add,if_pos hb] at this;generalize v.k[j]=w at this ⊢;obtain ⟨op,n,k,env,b⟩:=w;rw [RV.okC] at this;exact this
def Rl (s s' e':Int):Prop:=s≤s'∧(e'=0∧s'≤1000∨e'=17∧s'=1001)
def Ac7 (k0 D:Nat) (L:Int) (c:Nat):Prop:=∀(v:RV) (s:Int),v.op≠1→RV.ok k0 D L v→0≤s→s≤1000→1000≤s+c→∃f w s' e',headR f s 0 v=some (w,s',e')∧RV.ok k0 D L w∧Rl s s' e'
def ApJ (k0 D:Nat) (L:Int) (c:Nat):Prop:=∀(t:Tm) (env:List RV) (s:Int),RV.okE k0 D L env→t.sc (k0+env.length)→env.length+t.bd≤D→0≤s→s≤1000→1000≤s+c→∃f v s' e',AE f s 0 t env=some (v,s',e')∧RV.ok k0 D L v∧Rl s s' e'
theorem MW (s e:Int) (h:e≠0) (t:Tm) (env:List RV):AE 1 s e t env=some (.zero,s,e):=by
 obtain ⟨op,m,ks⟩:=t;rw [AE,if_pos h]
theorem AeY {c:Nat} (h:ApJ k0 D L c) {t:Tm} {env:List RV} {s e:Int} (h1:RV.okE k0 D L env) (h2:t.sc (k0+env.length)) (h3:env.length+t.bd≤D) (h0:0≤s) (he:e=0∧s≤1000∨e=17∧s=1001) (hc:1000≤s+c) :
  ∃f v s' e',AE f s e t env=some (v,s',e')∧RV.ok k0 D L v∧Rl s s' e':=by
 rcases he with ⟨rfl,hs⟩ | ⟨rfl,hs⟩
 ·exact h t env s h1 h2 h3 h0 hs hc
 ·exact ⟨1,_,_,_,MW s 17 (by decide) t env,RB,by omega,.inr ⟨rfl,hs⟩⟩
theorem Pr (hD:D≤900000) (c:Nat) (he:∀c',c=c'+1→ApJ k0 D L c') (hh:∀c',c=c'+1→Ac7 k0 D L c'):Ac7 k0 D L c:=by
 intro v s h1 ho hs0 hs1 hsc;obtain ⟨ha,hn,hl⟩:=Fh ho h1;have stop:Rl s s 0:=⟨by omega,.inl ⟨rfl,hs1⟩⟩;by_cases h5:v.op=5
 ·have hlen:v.k.length=2:=by rw [h5] at ha;simpa [ar] using ha.symm
  obtain ⟨k0',hk0,ok0⟩:=Fv ho h1 (j:=0) (by omega) (by rw [h5];rfl);obtain ⟨k1,hk1,ok1⟩:=Fv ho h1 (j:=1) (by omega) (by rw [h5];rfl);by_cases h4:k0'.op=4
  ·by_cases hq:s+1≤1000
   ·obtain ⟨c',rfl⟩:∃c',c=c'+1:=⟨c - 1,by omega⟩;obtain ⟨ha4,_,_⟩:=Fh ok0 (by omega);have hlen4:k0'.k.length=2:=by rw [h4] at ha4;simpa [ar] using ha4.symm
    obtain ⟨w,hw,w1,w2,w3⟩:=VU ok0 (by omega) (j:=1) (by omega) (by rw [h4];decide);have hb1:Am k0'.op 1=1:=by rw [h4];rfl
    rw [hb1] at w2 w3;obtain ⟨f,x,s',e',hx,hxo,hxe⟩:=he c' rfl w.b (w.env++[k1]) (s+1) (J7 w1 (Rj ok1)) (by simpa [Nat.add_assoc] using w2) (by simp;omega) (by omega) hq (by omega);refine ⟨f+1,x,s',e',?_,hxo,?_⟩
    ·rw [headR,if_neg (by decide),if_neg (by omega),if_pos h5,hk0];simp only [h4,hq,hw,hk1,if_true];rw [if_neg (by omega)];exact hx
    ·exact ⟨by have:=hxe.1;omega,hxe.2⟩
   ·refine ⟨1,v,s+1,17,?_,ho,by omega,.inr ⟨rfl,by omega⟩⟩;rw [headR,if_neg (by decide),if_neg (by omega),if_pos h5,hk0];simp only [h4,hq,if_true,if_false]
  ·refine ⟨1,v,s,0,?_,ho,stop⟩;rw [headR,if_neg (by decide),if_neg (by omega),if_pos h5,hk0];simp only [h4,if_false]
 by_cases h89:v.op=8∨v.op=9
 ·have hlen:v.k.length=1:=by rcases h89 with h | h<;>(rw [h] at ha;simpa [ar] using ha.symm)
  obtain ⟨k0',hk0,ok0⟩:=Fv ho h1 (j:=0) (by omega) (by rcases h89 with h | h<;>(rw [h];rfl));by_cases h7:k0'.op=7
  ·by_cases hq:s+1≤1000
   ·obtain ⟨ha7,_,_⟩:=Fh ok0 (by omega);have hlen7:k0'.k.length=3:=by rw [h7] at ha7;simpa [ar] using ha7.symm
    obtain ⟨x,hx,okx⟩:=Fv ok0 (by omega) (j:=(1+v.op - 8).toNat) (by omega) (by rw [h7];rcases h89 with h | h<;>(rw [h];rfl));refine ⟨1,x,s+1,0,?_,okx,by omega,.inl ⟨rfl,hq⟩⟩;rw [headR,if_neg (by decide),if_neg (by omega),if_neg h5,if_pos h89,hk0];simp only [h7,hq,if_true,hx,Axd]
   ·refine ⟨1,v,s+1,17,?_,ho,by omega,.inr ⟨rfl,by omega⟩⟩;rw [headR,if_neg (by decide),if_neg (by omega),if_neg h5,if_pos h89,hk0];simp only [h7,hq,if_true,if_false]
  ·refine ⟨1,v,s,0,?_,ho,stop⟩;rw [headR,if_neg (by decide),if_neg (by omega),if_neg h5,if_pos h89,hk0];simp only [h7,if_false]
 by_cases h30:v.op=30
 ·have hlen:v.k.length=1:=by rw [h30] at ha;simpa [ar] using ha.symm
  obtain ⟨k0',hk0,ok0⟩:=Fv ho h1 (j:=0) (by omega) (by rw [h30];rfl);by_cases h7:k0'.op=19
  ·by_cases hq:s+1≤1000
   ·obtain ⟨ha7,_,_⟩:=Fh ok0 (by omega);have hlen7:k0'.k.length=1:=by rw [h7] at ha7;simpa [ar] using ha7.symm
    obtain ⟨x,hx,okx⟩:=Fv ok0 (by omega) (j:=0) (by omega) (by rw [h7];rfl);refine ⟨1,x,s+1,0,?_,okx,by omega,.inl ⟨rfl,hq⟩⟩;rw [headR,if_neg (by decide),if_neg (by omega),if_neg h5,if_neg h89,if_pos h30,hk0];simp only [h7,hq,if_true,hx,Axd]
   ·refine ⟨1,v,s+1,17,?_,ho,by omega,.inr ⟨rfl,by omega⟩⟩;rw [headR,if_neg (by decide),if_neg (by omega),if_neg h5,if_neg h89,if_pos h30,hk0];simp only [h7,hq,if_true,if_false]
  ·refine ⟨1,v,s,0,?_,ho,stop⟩;rw [headR,if_neg (by decide),if_neg (by omega),if_neg h5,if_neg h89,if_pos h30,hk0];simp only [h7,if_false]
 by_cases h19:v.op=19
 ·have hlen:v.k.length=1:=by rw [h19] at ha;simpa [ar] using ha.symm
  obtain ⟨k0',hk0,ok0⟩:=Fv ho h1 (j:=0) (by omega) (by rw [h19];rfl);by_cases h7:k0'.op=30
  ·by_cases hq:s+1≤1000
   ·obtain ⟨ha7,_,_⟩:=Fh ok0 (by omega);have hlen7:k0'.k.length=1:=by rw [h7] at ha7;simpa [ar] using ha7.symm
    obtain ⟨x,hx,okx⟩:=Fv ok0 (by omega) (j:=0) (by omega) (by rw [h7];rfl);refine ⟨1,x,s+1,0,?_,okx,by omega,.inl ⟨rfl,hq⟩⟩;rw [headR,if_neg (by decide),if_neg (by omega),if_neg h5,if_neg h89,if_neg h30,if_pos h19,hk0];simp only [h7,hq,if_true,hx,Axd]
   ·refine ⟨1,v,s+1,17,?_,ho,by omega,.inr ⟨rfl,by omega⟩⟩;rw [headR,if_neg (by decide),if_neg (by omega),if_neg h5,if_neg h89,if_neg h30,if_pos h19,hk0];simp only [h7,hq,if_true,if_false]
  ·refine ⟨1,v,s,0,?_,ho,stop⟩;rw [headR,if_neg (by decide),if_neg (by omega),if_neg h5,if_neg h89,if_neg h30,if_pos h19,hk0];simp only [h7,if_false]
 by_cases h13:v.op=13
 ·have hlen:v.k.length=4:=by rw [h13] at ha;simpa [ar] using ha.symm
  obtain ⟨a0,hk0,c0⟩:=VU ho h1 (j:=0) (by omega) (by rw [h13];decide);obtain ⟨a1,hk1,ok1⟩:=Fv ho h1 (j:=1) (by omega) (by rw [h13];rfl);obtain ⟨a2,hk2,w1,w2,w3⟩:=VU ho h1 (j:=2) (by omega) (by rw [h13];decide);obtain ⟨a3,hk3,ok3⟩:=Fv ho h1 (j:=3) (by omega) (by rw [h13];rfl);have hb2:Am v.op 2=2:=by rw [h13];rfl
  rw [hb2] at w2 w3;by_cases h11:a3.op=11
  ·by_cases hq:s+1≤1000
   ·refine ⟨1,a1,s+1,0,?_,ok1,by omega,.inl ⟨rfl,hq⟩⟩;rw [headR,if_neg (by decide),if_neg (by omega),if_neg h5,if_neg h89,if_neg h30,if_neg h19,if_pos h13,hk0,hk1,hk2,hk3];simp only [h11,hq,if_true]
   ·refine ⟨1,v,s+1,17,?_,ho,by omega,.inr ⟨rfl,by omega⟩⟩;rw [headR,if_neg (by decide),if_neg (by omega),if_neg h5,if_neg h89,if_neg h30,if_neg h19,if_pos h13,hk0,hk1,hk2,hk3];simp only [h11,hq,if_true,if_false]
  by_cases h12:a3.op=12
  ·by_cases hq:s+1≤1000
   ·obtain ⟨c',rfl⟩:∃c',c=c'+1:=⟨c - 1,by omega⟩;obtain ⟨ha12,_,_⟩:=Fh ok3 (by omega);have hlen12:a3.k.length=1:=by rw [h12] at ha12;simpa [ar] using ha12.symm
    obtain ⟨x,hx,okx⟩:=Fv ok3 (by omega) (j:=0) (by omega) (by rw [h12];rfl);have hrec:RV.ok k0 D L (.node 13 0 [a0,a1,a2,x]):=by
     refine Yk (by decide) rfl (by simp [BK]) ?_;have e0:=JH hl hk0;have e2:=JH hl hk2;rw [h13] at e0 e2;simp only [RV.okL];exact ⟨e0,ok1,e2,okx,trivial⟩
    obtain ⟨f,h,s2,e2,hd,hdo,hde⟩:=hh c' rfl _ (s+1) (by simp [RV.node,RV.op]) hrec (by omega) hq (by omega);obtain ⟨g,y,s3,e3,hy,hyo,hye⟩:=AeY (he c' rfl) (t:=a2.b) (env:=a2.env++[x,h]) (s:=s2) (e:=e2) (J7 w1 (AlG okx hdo)) (by simpa [Nat.add_assoc] using w2) (by simp;omega) (by have:=hde.1;omega) hde.2 (by have:=hde.1;omega);refine ⟨f+g+1,y,s3,e3,?_,hyo,by have:=hde.1;have:=hye.1;omega,hye.2⟩;rw [headR,if_neg (by decide),if_neg (by omega),if_neg h5,if_neg h89,if_neg h30,if_neg h19,if_pos h13,hk0,hk1,hk2,hk3];simp only [h12,hq,if_true,hx,PX (show f≤f+g by omega) hd]
    rw [if_neg (by decide),if_neg (by omega)];exact Cf (by omega) hy
   ·refine ⟨1,v,s+1,17,?_,ho,by omega,.inr ⟨rfl,by omega⟩⟩;rw [headR,if_neg (by decide),if_neg (by omega),if_neg h5,if_neg h89,if_neg h30,if_neg h19,if_pos h13,hk0,hk1,hk2,hk3];simp only [h12,hq,if_true,if_false];rw [if_neg (by decide)]
  ·refine ⟨1,v,s,0,?_,ho,stop⟩;rw [headR,if_neg (by decide),if_neg (by omega),if_neg h5,if_neg h89,if_neg h30,if_neg h19,if_pos h13,hk0,hk1,hk2,hk3];simp only [h11,h12,if_false]
 ·refine ⟨1,v,s,0,?_,ho,stop⟩;rw [headR,if_neg (by decide),if_neg (by omega),if_neg h5,if_neg h89,if_neg h30,if_neg h19,if_neg h13]
end
end Idl
end Go.Proofs.Ytkfecngimlcfoaa
namespace Go.Proofs.Ytkfecngimlcfoaa
namespace Idl
section
variable {k0 D:Nat} {L:Int}
theorem MZ {c:Nat} {env:List RV} (henv:RV.okE k0 D L env) (op:Int):∀(l:List Tm) (i:Nat) (s e:Int),
  (∀t∈l,∀s:Int,t.sc (k0+env.length)→env.length+t.bd≤D→0≤s→s≤1000→1000≤s+c→∃f v s' e',AE f s 0 t env=some (v,s',e')∧RV.ok k0 D L v∧Rl s s' e') →
  Tm.scL op i l (k0+env.length)→env.length+Tm.bdL op i l≤D→0≤s→(e=0∧s≤1000∨e=17∧s=1001)→1000≤s+c →
  ∃f vs s' e',A0 (fun s e t=>AE f s e t env) op env i l s e=some (vs,s',e')∧RV.okL k0 D L op i vs∧vs.length=l.length∧Rl s s' e'
 | [],i,s,e,_,_,_,h0,he,_=>⟨0,[],s,e,rfl,by rw [RV.okL];trivial,rfl,by omega,he⟩
 | t::l,i,s,e,hev,hsc,hbd,h0,he,hc=>by
  rw [Tm.scL] at hsc;rw [Tm.bdL] at hbd;by_cases hb:0<Am op i
  ·obtain ⟨f,vs,s',e',hk,hok,hlen,hend⟩:=MZ henv op l (i+1) s e (fun u hu=>hev u (List.mem_cons_of_mem _ hu)) hsc.2 (by omega) h0 he hc;refine ⟨f,.clo env t::vs,s',e',?_,?_,by simp [hlen],hend⟩
   ·rw [A0,if_pos hb,hk];rfl
   ·rw [RV.okL,if_pos hb,RV.clo,RV.okC];exact ⟨⟨henv,hsc.1,by omega⟩,hok⟩
  ·have hb0:Am op i=0:=by omega
   rw [hb0] at hsc hbd;have h1:∃f v s' e',AE f s e t env=some (v,s',e')∧RV.ok k0 D L v∧Rl s s' e':=by
    rcases he with ⟨rfl,hs⟩ | ⟨rfl,hs⟩
    ·exact hev t List.mem_cons_self s (by simpa using hsc.1) (by omega) h0 hs hc
    ·exact ⟨1,_,_,_,MW s 17 (by decide) t env,RB,by omega,.inr ⟨rfl,hs⟩⟩
   obtain ⟨f,v,s1,e1,hv,hvo,hve⟩:=h1;obtain ⟨g,vs,s',e',hk,hok,hlen,hend⟩:=MZ henv op l (i+1) s1 e1 (fun u hu=>hev u (List.mem_cons_of_mem _ hu)) hsc.2 (by omega) (by have:=hve.1;omega) hve.2 (by have:=hve.1;omega);refine ⟨f+g,v::vs,s',e',?_,?_,by simp [hlen],by have:=hve.1;have:=hend.1;omega,hend.2⟩
   ·rw [A0,if_neg hb];simp only [Cf (show f≤f+g by omega) hv]
    rw [CY (ev:=fun s e t=>AE g s e t env) (fun s e t r h=>Cf (by omega) h) op env l (i+1) s1 e1 _ hk];rfl
   ·rw [RV.okL,if_neg hb];exact ⟨hvo,hok⟩
theorem O7 (hD:D≤900000) (hL:0≤L) (hk0:k0≤900000) {c:Nat} (hh:Ac7 k0 D L c):∀(m:Nat) (t:Tm) (env:List RV) (s:Int),t.wt<m→RV.okE k0 D L env→t.sc (k0+env.length)→env.length+t.bd≤D→0≤s→s≤1000→1000≤s+c →
  ∃f v s' e',AE f s 0 t env=some (v,s',e')∧RV.ok k0 D L v∧Rl s s' e':=by
 intro m
 induction m with
 | zero=>intro t env s h;omega
 | succ m ih =>
  intro t env s hw henv hsc hbd h0 h1 hc;obtain ⟨op,n,ks⟩:=t;rw [Tm.sc] at hsc;rw [Tm.bd] at hbd;simp only [Tm.wt] at hw;by_cases hop:op=1
  ·subst hop;rw [if_pos rfl] at hsc;have hkl:ks=[]:=by
    have:=hsc.1
    simp [ar] at this;exact List.length_eq_zero_iff.1 this.symm
   by_cases hm:n<env.length
   ·have hlt:((env.length:Int) - 1 - n).toNat<env.length:=by omega
    refine ⟨1,env[((env.length:Int) - 1 - n).toNat],s,0,?_,YV henv (List.getElem?_eq_getElem hlt),by omega,.inl ⟨rfl,h1⟩⟩;rw [AE,if_neg (by decide),if_neg (by omega),if_pos rfl,if_pos hm,if_pos hsc.2.1.1,List.getElem?_eq_getElem hlt];rfl
   ·refine ⟨1,.var (env.length - 1 - n),s,0,?_,?_,by omega,.inl ⟨rfl,h1⟩⟩
    ·rw [AE,if_neg (by decide),if_neg (by omega),if_pos rfl,if_neg hm,if_pos (by have:=hsc.2.1.2;omega)]
    ·rw [RV.var,RV.ok,if_pos rfl]
     have:=hsc.2.1.2
     exact ⟨by omega,by omega,rfl⟩
  ·rw [if_neg hop] at hsc;obtain ⟨f,vs,s1,e1,hk,hok,hlen,hend⟩:=MZ (c:=c) henv op ks 0 s 0 (fun t ht s=>fun a b c' d e=>ih t env s (by have:=CX ht;omega) henv a b c' d e) hsc.2.2 hbd h0 (.inl ⟨rfl,h1⟩) hc;have hnode:RV.ok k0 D L (.node op n vs):=Yk hop (by rw [hlen];exact hsc.1) hsc.2.1 hok;have har:=SU hsc.1;have h2:∃g w s' e',headR g s1 e1 (.node op n vs)=some (w,s',e')∧RV.ok k0 D L w∧Rl s1 s' e':=by
    rcases hend.2 with ⟨he,hs⟩ | ⟨he,hs⟩
    ·subst he;exact hh _ s1 (by simpa [RV.node,RV.op] using hop) hnode (by have:=hend.1;omega) hs (by have:=hend.1;omega)
    ·subst he;refine ⟨1,_,s1,17,by rw [headR,if_pos (by decide)],hnode,by omega,.inr ⟨rfl,hs⟩⟩
   obtain ⟨g,w,s',e',hw2,hwo,hwe⟩:=h2;refine ⟨f+g+5+1,w,s',e',?_,hwo,by have:=hend.1;have:=hwe.1;omega,hwe.2⟩;rw [AE,if_neg (by decide),if_neg (by omega),if_neg hop,if_neg (by omega),if_neg (by omega)];rw [CY (ev:=fun s e t=>AE f s e t env) (fun s e t r h=>Cf (by omega) h) op env ks 0 s 0 _ hk];exact PX (by omega) hw2
theorem tot (hD:D≤900000) (hL:0≤L) (hk0:k0≤900000):∀c,Ac7 k0 D L c∧ApJ k0 D L c:=by
 intro c
 induction c with
 | zero =>
  have hH:Ac7 k0 D L 0:=Pr hD 0 (fun c' h=>by omega) (fun c' h=>by omega);exact ⟨hH,fun t env s a b c d e f=>O7 hD hL hk0 hH (t.wt+1) t env s (by omega) a b c d e f⟩
 | succ c ih =>
  have hH:Ac7 k0 D L (c+1):=Pr hD (c+1) (fun c' h=>by cases h;exact ih.2) (fun c' h=>by cases h;exact ih.1);exact ⟨hH,fun t env s a b c d e f=>O7 hD hL hk0 hH (t.wt+1) t env s (by omega) a b c d e f⟩
end
end Idl
end Go.Proofs.Ytkfecngimlcfoaa
namespace Go.Proofs.Ytkfecngimlcfoaa
namespace Idl
section
variable {k0 D:Nat} {L L':Int}
mutual
theorem QP (h:L≤L'):∀v:RV,RV.ok k0 D L v→RV.ok k0 D L' v
 | .mk op n k env b,hv=>by
  rw [RV.ok] at hv ⊢;by_cases h1:op=1
  ·rw [if_pos h1] at hv ⊢;exact ⟨hv.1,by omega,hv.2.2⟩
  ·rw [if_neg h1] at hv ⊢;exact ⟨hv.1,hv.2.1,okL_mono h k op 0 hv.2.2⟩
theorem okL_mono (h:L≤L'):∀(l:List RV) (op:Int) (i:Nat),RV.okL k0 D L op i l→RV.okL k0 D L' op i l
 | [],op,i,_=>by rw [RV.okL];trivial
 | v::l,op,i,hv=>by
  rw [RV.okL] at hv ⊢;refine ⟨?_,okL_mono h l op (i+1) hv.2⟩;by_cases hb:0<Am op i
  ·rw [if_pos hb]
   have:=hv.1
   rw [if_pos hb] at this;exact okC_mono h v (Am op i) this
  ·rw [if_neg hb]
   have:=hv.1
   rw [if_neg hb] at this;exact QP h v this
theorem okC_mono (h:L≤L'):∀(v:RV) (b:Nat),RV.okC k0 D L b v→RV.okC k0 D L' b v
 | .mk op n k env bd,b,hv=>by
  rw [RV.okC] at hv ⊢;exact ⟨okE_mono h env hv.1,hv.2⟩
theorem okE_mono (h:L≤L'):∀(l:List RV),RV.okE k0 D L l→RV.okE k0 D L' l
 | [],_=>by rw [RV.okE];trivial
 | v::l,hv=>by
  rw [RV.okE] at hv ⊢;exact ⟨QP h v hv.1,okE_mono h l hv.2⟩
end
theorem AfX (u:Nat):∀b:Nat,RV.okE k0 D ((u+b:Nat):Int) (FK u b)
 | 0=>by simp only [FK,List.range_zero,Axf];rw [RV.okE];trivial
 | b+1=>by
  rw [K3];refine J7 (okE_mono (by omega) _ (AfX u b)) (Rj ?_);rw [RV.var,RV.ok,if_pos rfl];exact ⟨by omega,by omega,rfl⟩
end
theorem Ec {f g:Nat} (hfg:f≤g) {rd rd':Int→Int→Int→RV→Int→Option (Tm×Int×Int×Int)} (h:∀s nd e k u r,rd s nd e k u=some r→rd' s nd e k u=some r) (op u:Int):∀(l:List RV) (i:Nat) (s nd e:Int) (r:List Tm×Int×Int×Int),
  Bc rd f op u i l s nd e=some r→Bc rd' g op u i l s nd e=some r
 | [],i,s,nd,e,r,hr=>hr
 | k::l,i,s,nd,e,r,hr=>by
  simp only [Bc] at hr ⊢;have key:∀q,(if 0<Am op i then (if 900000<k.env.length then none else AE f s e k.b (k.env++FK u (Am op i))) else some (k,s,e))=some q →
    (if 0<Am op i then (if 900000<k.env.length then none else AE g s e k.b (k.env++FK u (Am op i))) else some (k,s,e))=some q:=by
   intro q hq;by_cases hb:0<Am op i
   ·rw [if_pos hb] at hq ⊢;by_cases hl:900000<k.env.length
    ·rw [if_pos hl] at hq;cases hq
    ·rw [if_neg hl] at hq ⊢;exact Cf hfg hq
   ·rw [if_neg hb] at hq ⊢;exact hq
  cases hq:(if 0<Am op i then (if 900000<k.env.length then none else AE f s e k.b (k.env++FK u (Am op i))) else some (k,s,e)) with
  | none=>rw [hq] at hr;cases hr
  | some q =>
   rw [key q hq];rw [hq] at hr;obtain ⟨y,s1,e1⟩:=q;simp only at hr ⊢;cases hd:rd s1 nd e1 y (u+Am op i) with
   | none=>rw [hd] at hr;cases hr
   | some q =>
    obtain ⟨t,s2,nd2,e2⟩:=q;rw [hd] at hr;rw [h _ _ _ _ _ _ hd];simp only at hr ⊢;cases hk:Bc rd f op u (i+1) l s2 nd2 e2 with
    | none=>rw [hk] at hr;cases hr
    | some q=>rw [hk] at hr;rw [Ec hfg h op u l (i+1) s2 nd2 e2 q hk];exact hr
theorem Adq:∀f s nd e v u d r,AV f s nd e v u d=some r→AV (f+1) s nd e v u d=some r:=by
 intro f
 induction f with
 | zero=>intro s nd e v u d r h;rw [AV] at h;cases h
 | succ f ih =>
  intro s nd e v u d r h;rw [AV] at h ⊢;by_cases hbad:nd<0∨1000000<nd∨u<0∨1000000<u∨d<0∨1000000<d∨v.n < -2305843009213693952∨2305843009213693952<v.n∨f≤v.k.length∨900000<v.k.length∨f≤3
  ·rw [if_pos hbad] at h;cases h
  ·rw [if_neg hbad] at h;rw [if_neg (by omega)];generalize (if e=0∧(3000<nd+1∨120<d) then (5:Int) else e)=e1 at h ⊢;by_cases he:e1≠0
   ·rw [if_pos he] at h ⊢;exact h
   ·rw [if_neg he] at h ⊢;by_cases h1:v.op=1
    ·rw [if_pos h1] at h ⊢;exact h
    ·rw [if_neg h1] at h ⊢;cases hk:Bc (fun s nd e k u=>AV f s nd e k u (d+1)) f v.op u 0 v.k s (nd+1) 0 with
     | none=>rw [hk] at h;cases h
     | some q =>
      rw [hk] at h;rw [Ec (g:=f+1) (rd':=fun s nd e k u=>AV (f+1) s nd e k u (d+1)) (by omega) (fun s nd e k u r hr=>ih _ _ _ _ _ _ _ hr) v.op u v.k 0 s (nd+1) 0 q hk];exact h
theorem Df {f g:Nat} (hfg:f≤g) {s nd e u d:Int} {v:RV} {r:Tm×Int×Int×Int} (h:AV f s nd e v u d=some r):AV g s nd e v u d=some r:=by
 induction hfg with
 | refl=>exact h
 | step _ ih=>exact Adq _ _ _ _ _ _ _ _ ih
mutual
def Tm.dp:Tm→Nat
 | .mk _ _ ks=>1+Tm.dpL ks
def Tm.dpL:List Tm→Nat
 | []=>0
 | t::l=>max t.dp (Tm.dpL l)
end
def MSt (s e:Int):Prop:=0≤s∧(e=0∧s≤1000∨e=17∧s=1001∨e=5∧s≤1001)
theorem AeA {op n:Int} (h:BK op n):-2305843009213693952≤n∧n≤2305843009213693952:=by
 unfold BK at h
 repeat' split at h
 all_goals omega
def Red (k0:Nat) (u d:Nat) (nd:Int) (t:Tm) (s' nd' e':Int):Prop :=
 MSt s' e'∧(e'=0→nd'≤3000∧t.sc (k0+u)∧(t.wt:Int)=nd' - nd∧t.dp+d≤121)∧nd'≤3001+3 * (121 - (d:Int))∧nd≤nd'
section
variable {k0 D:Nat}
theorem Ue (s nd e u d:Int) (v:RV) (he:e≠0) (h1:0≤nd) (h2:nd≤1000000) (h3:0≤u) (h4:u≤1000000) (h5:0≤d) (h6:d≤1000000) (h7:-2305843009213693952≤v.n) (h8:v.n≤2305843009213693952) (h9:v.k.length≤900000) :
  AV (v.k.length+10) s nd e v u d=some (.z,s,nd+1,e):=by
 rw [show v.k.length+10=(v.k.length+9)+1 by omega,AV,if_neg (by omega)]
 have:(if e=0∧(3000<nd+1∨120<d) then (5:Int) else e)=e:=if_neg (by omega)
 rw [this,if_pos he]
def AsI (k0 D c:Nat):Prop:=∀(v:RV) (s nd:Int) (u d:Nat),RV.ok k0 D u v→0≤s→s≤1000→0≤nd→nd≤3000→3001≤nd+c→u≤2 * d→1≤d→d≤121 →
 ∃f t s' nd' e',AV f s nd 0 v u d=some (t,s',nd',e')∧Red k0 u d nd t s' nd' e'
theorem Oh {L:Int} {v:RV} (hL:L≤1000000) (hk:k0≤900000) (h:RV.ok k0 D L v):-2305843009213693952≤v.n∧v.n≤2305843009213693952∧v.k.length≤4:=by
 obtain ⟨op,n,k,env,b⟩:=v;rw [RV.ok] at h;by_cases h1:op=1
 ·rw [if_pos h1] at h;refine ⟨?_,?_,?_⟩
  ·show _≤n;omega
  ·show n≤_;omega
  ·show k.length≤4;rw [h.2.2];simp
 ·rw [if_neg h1] at h
  have:=AeA h.2.1
  exact ⟨this.1,this.2,SU h.1⟩
theorem Pz (hD:D≤800000) (hk:k0≤800000) {c:Nat} (hr:AsI k0 D c) (op:Int) (u d:Nat) (hu:u≤2 * d) (hd1:1≤d) (hd:d≤120):∀(l:List RV) (i:Nat) (s nd e:Int),RV.okL k0 D u op i l→MSt s e→0≤nd→nd+l.length≤5000→l.length≤4→(e=0→nd≤3000∧3001≤nd+c) →
  ∃f ts s' nd' e',Bc (fun s nd e k u=>AV f s nd e k u ((d:Int)+1)) f op u i l s nd e=some (ts,s',nd',e')∧MSt s' e'∧nd≤nd' ∧
   (e'=0→e=0∧nd'≤3000∧Tm.scL op i ts (k0+u)∧ts.length=l.length∧(Tm.wtL ts:Int)=nd' - nd∧Tm.dpL ts+d+1≤121) ∧
   (e=0→nd'≤3000∨nd'+1≤3001+3 * (120 - (d:Int))+l.length)∧(e≠0→nd'=nd+l.length)
 | [],i,s,nd,e,_,hst,h0,h5,_,he=>by
  refine ⟨0,[],s,nd,e,rfl,hst,Int.le_refl _,fun h=>⟨h,(he h).1,by rw [Tm.scL];trivial,rfl,by simp [Tm.wtL],by simp only [Tm.dpL];omega⟩,fun h=>.inl (he h).1,fun _=>by simp⟩
 | k::l,i,s,nd,e,hl,hst,h0,h5,hl4,he=>by
  rw [RV.okL] at hl;simp only [Axe] at hl4 h5;have hbl:=Bi op i;have h1:∃f y s1 e1,(if 0<Am op i then (if 900000<k.env.length then none else AE f s e k.b (k.env++FK u (Am op i))) else some (k,s,e))=some (y,s1,e1)∧RV.ok k0 D ((u+Am op i:Nat):Int) y∧MSt s1 e1∧(e≠0→e1≠0):=by
   by_cases hb:0<Am op i
   ·have hc:=hl.1;rw [if_pos hb] at hc;have hce:RV.okE k0 D u k.env∧k.b.sc (k0+k.env.length+Am op i)∧k.env.length+Am op i+k.b.bd≤D:=by
     obtain ⟨_,_,_,env,b⟩:=k;rw [RV.okC] at hc;exact hc
    by_cases he0:e=0
    ·subst he0;have hs:s≤1000:=by rcases hst.2 with ⟨_,h⟩ | ⟨h,_⟩ | ⟨h,_⟩<;>omega
     obtain ⟨f,y,s1,e1,hy,hyo,hye⟩:=(tot (k0:=k0) (D:=D) (L:=((u+Am op i:Nat):Int)) (by omega) (by omega) (by omega) 1000).2 k.b (k.env++FK u (Am op i)) s
      (J7 (okE_mono (by omega) _ hce.1) (AfX u _)) (by rw [List.length_append,Cp,← Nat.add_assoc];exact hce.2.1) (by rw [List.length_append,Cp];omega) hst.1 hs (by have:=hst.1;omega)
     refine ⟨f,y,s1,e1,?_,hyo,⟨by have:=hye.1;have:=hst.1;omega,?_⟩,fun h=>absurd rfl h⟩
     ·rw [if_pos hb,if_neg (by omega)];exact hy
     ·rcases hye.2 with h | h
      ·exact .inl h
      ·exact .inr (.inl h)
    ·refine ⟨1,.zero,s,e,?_,RB,hst,fun h=>h⟩;rw [if_pos hb,if_neg (by omega),MW s e he0]
   ·have hc:=hl.1;rw [if_neg hb] at hc;refine ⟨0,k,s,e,by rw [if_neg hb],QP (by omega) _ hc,hst,fun h=>h⟩
  obtain ⟨f1,y,s1,e1,hy,hyo,hst1,hee⟩:=h1;have hsm:=Oh (by omega) (by omega) hyo;have h2:∃f t s2 nd2 e2,AV f s1 nd e1 y ((u+Am op i:Nat):Int) ((d:Int)+1)=some (t,s2,nd2,e2)∧MSt s2 e2∧nd≤nd2 ∧
    (e2=0→e1=0∧nd2≤3000∧t.sc (k0+u+Am op i)∧(t.wt:Int)=nd2 - nd∧t.dp+d+1≤121∧nd+1≤nd2)∧(e1=0→nd2≤3001+3 * (120 - (d:Int)))∧(e1≠0→nd2=nd+1):=by
   by_cases he1:e1=0
   ·subst he1;have he0:e=0:=Classical.byContradiction fun h=>hee h rfl;have hn:=he he0;have hs:s1≤1000:=by rcases hst1.2 with ⟨_,h⟩ | ⟨h,_⟩ | ⟨h,_⟩<;>omega
    obtain ⟨f,t,s2,nd2,e2,ht,hR⟩:=hr y s1 nd (u+Am op i) (d+1) hyo hst1.1 hs h0 hn.1 hn.2 (by omega) (by omega) (by omega);refine ⟨f,t,s2,nd2,e2,by simpa using ht,hR.1,hR.2.2.2,fun h=>?_,fun _=>by have:=hR.2.2.1;omega,fun h=>absurd rfl h⟩
    have:=hR.2.1 h
    have hw:=Jm t;exact ⟨rfl,this.1,by rw [Nat.add_assoc];exact this.2.1,this.2.2.1,by omega,by omega⟩
   ·refine ⟨y.k.length+10,.z,s1,nd+1,e1,Ue s1 nd e1 _ _ y he1 h0 (by omega) (by omega) (by omega) (by omega) (by omega) hsm.1 hsm.2.1 (by omega),hst1,by omega,fun h=>absurd h he1,fun h=>absurd h he1,fun _=>rfl⟩
  obtain ⟨f2,t,s2,nd2,e2,ht,hst2,hle,hok,hbd,her⟩:=h2;obtain ⟨f3,ts,s3,nd3,e3,hk3,hst3,hle3,hok3,hbd3,her3⟩:=Pz hD hk hr op u d hu hd1 hd l (i+1) s2 nd2 e2 hl.2 hst2 (by omega) (by
    by_cases he1:e1=0
    ·have:=hbd he1;omega
    ·have:=her he1
     by_cases he0:e=0
     ·have:=(he he0).1;omega
     ·omega) (by omega) (fun h=>by
    have h2:=hok h;have he0:e=0:=Classical.byContradiction fun h'=>hee h' h2.1
    have:=he he0
    omega)
  refine ⟨f1+f2+f3,t::ts,s3,nd3,e3,?_,hst3,by omega,fun h=>?_,fun h=>?_,fun h=>?_⟩
  ·have hy':(if 0<Am op i then (if 900000<k.env.length then none else AE (f1+f2+f3) s e k.b (k.env++FK u (Am op i))) else some (k,s,e))=some (y,s1,e1):=by
    by_cases hb:0<Am op i
    ·rw [if_pos hb] at hy ⊢;by_cases hl:900000<k.env.length
     ·rw [if_pos hl] at hy;cases hy
     ·rw [if_neg hl] at hy ⊢;exact Cf (by omega) hy
    ·rw [if_neg hb] at hy ⊢;exact hy
   rw [Bc,hy'];simp only;rw [show (u:Int)+(Am op i:Int)=((u+Am op i:Nat):Int) by omega,Df (show f2≤f1+f2+f3 by omega) ht]
   simp only;rw [Ec (f:=f3) (rd:=fun s nd e k u=>AV f3 s nd e k u ((d:Int)+1)) (by omega) (fun s nd e k u r h=>Df (by omega) h) op u l (i+1) s2 nd2 e2 _ hk3];rfl
  ·have h3:=hok3 h;have h2:=hok h3.1;have he0:e=0:=Classical.byContradiction fun h'=>hee h' h2.1;refine ⟨he0,h3.2.1,?_,by simp [h3.2.2.2.1],?_,?_⟩
   ·rw [Tm.scL];exact ⟨h2.2.2.1,h3.2.2.1⟩
   ·simp only [Tm.wtL];have:=h2.2.2.2.1;have:=h3.2.2.2.2.1;omega
   ·simp only [Tm.dpL];have:=h2.2.2.2.2.1;have:=h3.2.2.2.2.2;omega
  ·simp only [Axe];by_cases he1:e1=0
   ·by_cases he2:e2=0
    ·have:=hbd3 he2;omega
    ·have:=her3 he2;have:=hbd he1;omega
   ·have h6:=her he1;have h7:e2≠0:=fun h'=>he1 (hok h').1
    have:=her3 h7
    have:=(he h).1
    omega
  ·simp only [Axe];have he1:=hee h;have h7:e2≠0:=fun h'=>he1 (hok h').1
   have:=her3 h7
   have:=her he1
   omega
theorem AdZ (hD:D≤800000) (hk:k0≤800000):∀c,AsI k0 D c:=by
 intro c
 induction c with
 | zero=>intro v s nd u d _ _ _ _ h1 h2;omega
 | succ c ih =>
  intro v s nd u d hv h0 hs hn0 hn hc hu hd1 hd;have hsm:=Oh (by omega) (by omega) hv;have hst:MSt s 0:=⟨h0,.inl ⟨rfl,hs⟩⟩;by_cases h3:3000<nd+1∨120<(d:Int)
  ·refine ⟨v.k.length+10,.z,s,nd+1,5,?_,⟨h0,.inr (.inr ⟨rfl,by omega⟩)⟩,(fun h=>absurd h (by decide)),by omega,by omega⟩;rw [show v.k.length+10=(v.k.length+9)+1 by omega,AV,if_neg (by omega)]
   have e5:(if (0:Int)=0∧(3000<nd+1∨120<(d:Int)) then (5:Int) else 0)=5:=if_pos ⟨rfl,h3⟩;rw [e5,if_pos (by decide)]
  ·have e5:(if (0:Int)=0∧(3000<nd+1∨120<(d:Int)) then (5:Int) else 0)=0:=if_neg (fun h=>h3 h.2);by_cases h1:v.op=1
   ·have hvn:-(k0:Int)≤v.n∧v.n<u:=by
     obtain ⟨op,n,k,env,b⟩:=v;have h1':op=1:=h1;rw [RV.ok,if_pos h1'] at hv;exact ⟨hv.1,hv.2.1⟩
    refine ⟨v.k.length+10,.mk 1 (u - 1 - v.n) [],s,nd+1,0,?_,hst,fun _=>⟨by omega,?_,by simp only [Tm.wt,Tm.wtL];omega,by simp only [Tm.dp,Tm.dpL];omega⟩,by omega,by omega⟩
    ·rw [show v.k.length+10=(v.k.length+9)+1 by omega,AV,if_neg (by omega),e5,if_neg (by decide),if_pos h1]
    ·rw [Tm.sc,if_pos rfl,Tm.scL];exact ⟨rfl,by omega,trivial⟩
   ·obtain ⟨ha,hnum,hl⟩:=Fh hv h1;obtain ⟨f,ts,s',nd',e',hk2,hst',hle,hok,hbd,_⟩:=Pz hD hk ih v.op u d hu hd1 (by omega) v.k 0 s (nd+1) 0 hl hst (by omega) (by omega) (by omega) (fun _=>by omega);refine ⟨f+v.k.length+10,.mk v.op v.n ts,s',nd',e',?_,hst',fun h=>?_,by have:=hbd rfl;omega,by omega⟩
    ·rw [show f+v.k.length+10=(f+v.k.length+9)+1 by omega,AV,if_neg (by omega),e5,if_neg (by decide),if_neg h1]
     rw [Ec (f:=f) (rd:=fun s nd e k u=>AV f s nd e k u ((d:Int)+1)) (by omega) (fun s nd e k u r h=>Df (by omega) h) v.op u v.k 0 s (nd+1) 0 _ hk2];rfl
    ·have:=hok h
     refine ⟨this.2.1,?_,?_,?_⟩
     ·rw [Tm.sc,if_neg h1];exact ⟨by rw [this.2.2.2.1];exact ha,hnum,this.2.2.1⟩
     ·simp only [Tm.wt];have:=this.2.2.2.2.1;omega
     ·simp only [Tm.dp];have:=this.2.2.2.2.2;omega
end
theorem VP {k:Nat} (hk:k≤800000) {t:Tm} (hsc:t.sc k) (hb:t.bd≤800000):∃f u e,A5 f t=some (u,e)∧(e=0∧u.sc k∧u.wt≤3000∧u.dp≤120∨(e=5∨e=17)∧u=.z):=by
 obtain ⟨f,v,s1,e1,hv,hvo,hve⟩:=(tot (k0:=k) (D:=800000) (L:=0) (by omega) (by omega) (by omega) 1000).2 t [] 0 (by rw [RV.okE];trivial) (by simpa using hsc) (by simp;omega) (by omega) (by omega) (by omega);have hsm:=Oh (by omega) (by omega) hvo;rcases hve.2 with ⟨rfl,hs⟩ | ⟨rfl,hs⟩
 ·obtain ⟨g,u,s2,nd2,e2,hu,hR⟩:=AdZ (k0:=k) (D:=800000) (by omega) hk 3001 v s1 0 0 1 (by simpa using hvo) (by have:=hve.1;omega) hs (by omega) (by omega) (by omega) (by omega) (by omega) (by omega);have hn:A5 (f+g) t=some (if e2≠0 then (.z,e2) else (u,0)):=by
   rw [A5,Cf (by omega) hv];simp only;rw [Df (show g≤f+g by omega) (by simpa using hu)]
  by_cases h2:e2=0
  ·rw [if_neg (by simp [h2])] at hn
   have:=hR.2.1 h2
   exact ⟨_,_,_,hn,.inl ⟨rfl,by simpa using this.2.1,by omega,by omega⟩⟩
  ·rw [if_pos h2] at hn;refine ⟨_,_,_,hn,.inr ⟨?_,rfl⟩⟩;rcases hR.1.2 with ⟨h,_⟩ | ⟨h,_⟩ | ⟨h,_⟩
   ·exact absurd h h2
   ·exact .inr h
   ·exact .inl h
 ·have hn:A5 (f+v.k.length+10) t=some (.z,17):=by
   rw [A5,Cf (by omega) hv];simp only;rw [Df (show v.k.length+10≤f+v.k.length+10 by omega) (Ue s1 0 17 0 1 v (by decide) (by omega) (by omega) (by omega) (by omega) (by omega) (by omega) hsm.1 hsm.2.1 (by omega))]
   rfl
  exact ⟨_,_,_,hn,.inr ⟨.inr rfl,rfl⟩⟩
end Idl
end Go.Proofs.Ytkfecngimlcfoaa
namespace Go.Proofs.Ytkfecngimlcfoaa
namespace Idl
mutual
theorem GI:∀(t:Tm) (k:Nat),t.sc k→t.wk
 | .mk op n ks,k,h=>by
  rw [Tm.sc] at h;rw [Tm.wk];exact ⟨SU h.1,scL_wk ks op 0 k h.2.2⟩
theorem scL_wk:∀(l:List Tm) (op:Int) (i k:Nat),Tm.scL op i l k→Tm.wkL l
 | [],_,_,_,_=>by rw [Tm.wkL];trivial
 | t::l,op,i,k,h=>by
  rw [Tm.scL] at h;rw [Tm.wkL];exact ⟨GI t _ h.1,scL_wk l op (i+1) k h.2⟩
end
mutual
theorem Fo:∀(t:Tm) (d c:Int),(t.shift d c).wt=t.wt
 | .mk op n ks,d,c=>by simp only [Tm.shift,Tm.wt,shiftL_wt ks op 0 d c]
theorem shiftL_wt:∀(l:List Tm) (op:Int) (i:Nat) (d c:Int),Tm.wtL (Tm.shiftL op i l d c)=Tm.wtL l
 | [],_,_,_,_=>rfl
 | t::l,op,i,d,c=>by simp only [Tm.shiftL,Tm.wtL,Fo t,shiftL_wt l]
end
mutual
theorem FF:∀(t:Tm) (d c:Int),(t.shift d c).dp=t.dp
 | .mk op n ks,d,c=>by simp only [Tm.shift,Tm.dp,shiftL_dp ks op 0 d c]
theorem shiftL_dp:∀(l:List Tm) (op:Int) (i:Nat) (d c:Int),Tm.dpL (Tm.shiftL op i l d c)=Tm.dpL l
 | [],_,_,_,_=>rfl
 | t::l,op,i,d,c=>by simp only [Tm.shiftL,Tm.dpL,FF t,shiftL_dp l]
end
mutual
theorem GP:∀(t:Tm) (d c k:Nat),t.sc k→k+2 * t.wt+d≤9000000000000000000→(t.shift d c).sc (k+d)
 | .mk op n ks,d,c,k,h,hk=>by
  rw [Tm.sc] at h;rw [Tm.wt] at hk;rw [Tm.shift,Tm.sc,Ed];refine ⟨h.1,?_,shiftL_sc ks op 0 d c k h.2.2 (by omega)⟩;by_cases h1:op=1
  ·have:=h.2.1
   rw [if_pos h1] at this ⊢;by_cases h2:(c:Int)≤n
   ·rw [if_pos ⟨h1,h2⟩,Ax (by omega) (by omega)];omega
   ·rw [if_neg (fun h=>h2 h.2)];omega
  ·have:=h.2.1
   rw [if_neg h1] at this ⊢;rw [if_neg (fun h=>h1 h.1)];exact this
theorem shiftL_sc:∀(l:List Tm) (op:Int) (i:Nat) (d c k:Nat),Tm.scL op i l k→k+2+2 * Tm.wtL l+d≤9000000000000000000→Tm.scL op i (Tm.shiftL op i l d c) (k+d)
 | [],_,_,_,_,_,_,_=>by rw [Tm.shiftL,Tm.scL];trivial
 | t::l,op,i,d,c,k,h,hk=>by
  rw [Tm.scL] at h;simp only [Tm.wtL] at hk;rw [Tm.shiftL,Tm.scL];refine ⟨?_,shiftL_sc l op (i+1) d c k h.2 (by omega)⟩;rw [show k+d+Am op i=(k+Am op i)+d by omega]
  have:=Bi op i
  exact GP t d (c+Am op i) (k+Am op i) h.1 (by omega)
end
mutual
theorem Np:∀(t u:Tm) (j k:Nat),t.sc (k+1+j)→u.sc k→k+j+2 * t.wt+2 * u.wt≤4000000000000000000→(t.subst j j u).sc (k+j)
 | .mk op n ks,u,j,k,h,hu,hk=>by
  rw [Tm.sc] at h;rw [Tm.wt] at hk;rw [Tm.subst];by_cases h1:op=1
  ·rw [if_pos h1];have h2:=h.2.1;rw [if_pos h1] at h2;by_cases h3:n=j
   ·rw [if_pos h3];exact GP u j 0 k hu (by omega)
   ·rw [if_neg h3];by_cases h4:(j:Int)<n
    ·rw [if_pos h4,Tm.sc,if_pos rfl,Tm.scL,Ax (by omega) (by omega)];exact ⟨rfl,by omega,trivial⟩
    ·rw [if_neg h4,Tm.sc,if_pos h1];have hks:ks=[]:=by
      have:=h.1
      rw [h1] at this;simp [ar] at this;exact List.length_eq_zero_iff.1 this.symm
     subst hks;exact ⟨h.1,by omega,by rw [Tm.scL];trivial⟩
  ·rw [if_neg h1,Tm.sc,if_neg h1,GV];have h2:=h.2.1;rw [if_neg h1] at h2;exact ⟨h.1,h2,substL_sc ks u op 0 j k h.2.2 hu (by omega)⟩
theorem substL_sc:∀(l:List Tm) (u:Tm) (op:Int) (i j k:Nat),Tm.scL op i l (k+1+j)→u.sc k→k+j+2+2 * Tm.wtL l+2 * u.wt≤4000000000000000000→Tm.scL op i (Tm.substL op i l j j u) (k+j)
 | [],_,_,_,_,_,_,_,_=>by rw [Tm.substL,Tm.scL];trivial
 | t::l,u,op,i,j,k,h,hu,hk=>by
  rw [Tm.scL] at h;simp only [Tm.wtL] at hk;rw [Tm.substL,Tm.scL];refine ⟨?_,substL_sc l u op (i+1) j k h.2 hu (by omega)⟩
  have:=Bi op i
  have h1:=Np t u (j+Am op i) k (by rw [← Nat.add_assoc];exact h.1) hu (by omega);rw [Nat.add_assoc];exact h1
end
mutual
theorem NZ:∀(t u:Tm) (c d:Int),(t.subst c d u).wt≤t.wt * u.wt
 | .mk op n ks,u,c,d=>by
  have hu:=Jm u;rw [Tm.subst];by_cases h1:op=1
  ·rw [if_pos h1];have key:u.wt≤(Tm.mk op n ks).wt * u.wt:=Nat.le_mul_of_pos_left _ (Jm _);by_cases h3:n=c
   ·rw [if_pos h3,Fo];exact key
   ·rw [if_neg h3];by_cases h4:c<n
    ·rw [if_pos h4];simp only [Tm.wt,Tm.wtL] at key ⊢;omega
    ·rw [if_neg h4];exact Nat.le_mul_of_pos_right _ hu
  ·rw [if_neg h1]
   have:=substL_wt ks u op 0 c d
   simp only [Tm.wt];rw [Nat.add_mul];omega
theorem substL_wt:∀(l:List Tm) (u:Tm) (op:Int) (i:Nat) (c d:Int),Tm.wtL (Tm.substL op i l c d u)≤Tm.wtL l * u.wt
 | [],_,_,_,_,_=>by simp [Tm.substL,Tm.wtL]
 | t::l,u,op,i,c,d=>by
  have h1:=NZ t u (c+Am op i) (d+Am op i);have h2:=substL_wt l u op (i+1) c d;simp only [Tm.substL,Tm.wtL];rw [Nat.add_mul];omega
end
mutual
theorem S8:∀(t u:Tm) (c d:Int),(t.subst c d u).dp≤t.dp+u.dp
 | .mk op n ks,u,c,d=>by
  rw [Tm.subst];by_cases h1:op=1
  ·rw [if_pos h1];by_cases h3:n=c
   ·rw [if_pos h3,FF];omega
   ·rw [if_neg h3];by_cases h4:c<n
    ·rw [if_pos h4];simp only [Tm.dp,Tm.dpL];omega
    ·rw [if_neg h4];omega
  ·rw [if_neg h1]
   have:=substL_dp ks u op 0 c d
   simp only [Tm.dp];omega
theorem substL_dp:∀(l:List Tm) (u:Tm) (op:Int) (i:Nat) (c d:Int),Tm.dpL (Tm.substL op i l c d u)≤Tm.dpL l+u.dp
 | [],_,_,_,_,_=>by simp [Tm.substL,Tm.dpL]
 | t::l,u,op,i,c,d=>by
  have h1:=S8 t u (c+Am op i) (d+Am op i);have h2:=substL_dp l u op (i+1) c d;simp only [Tm.substL,Tm.dpL];omega
end
mutual
theorem AmI:∀(t:Tm),t.bd≤2 * t.dp
 | .mk op n ks=>by
  have:=bdL_dp ks op 0
  simp only [Tm.bd,Tm.dp];omega
theorem bdL_dp:∀(l:List Tm) (op:Int) (i:Nat),Tm.bdL op i l≤2+2 * Tm.dpL l
 | [],_,_=>by simp [Tm.bdL]
 | t::l,op,i=>by
  have h1:=AmI t;have h2:=bdL_dp l op (i+1);have h3:=Bi op i;simp only [Tm.bdL,Tm.dpL];omega
end
theorem Lq:∀{op:Int} {i j:Nat} {ks:List Tm} {k:Nat} {t:Tm},Tm.scL op i ks k→ks[j]?=some t→t.sc (k+Am op (i+j))
 | op,i,0,x::l,k,t,h,hg=>by
  rw [Tm.scL] at h;simp only [List.getElem?_cons_zero,Axa] at hg;subst hg;exact h.1
 | op,i,j+1,x::l,k,t,h,hg=>by
  rw [Tm.scL] at h;rw [List.getElem?_cons_succ] at hg
  have:=Lq h.2 hg
  rwa [show i+1+j=i+(j+1) by omega] at this
 | _,_,_,[],_,_,_,hg=>by simp at hg
def A8:Tm:=.mk 11 0 []
def fnP (t:Tm):Tm:=match t with
 | .mk _ _ [_,.mk o1 _ [f,.mk o2 n2 _]]=>if o1=5∧o2=1∧n2=0∧f.free 0=false then f.subst 0 0 A8 else t
 | _=>t
def prP (t:Tm):Tm:=match t with
 | .mk _ _ [_,.mk o1 _ [x],.mk o2 _ [y]]=>if o1=8∧o2=9∧x.same y=true then x else t
 | _=>t
theorem Aqt {op m:Int} {z b:Tm} (h:b.op≠5):fnP (.mk op m [z,b])=.mk op m [z,b]:=by
 unfold fnP;split
 ·rename_i h1;simp only [Tm.mk.injEq,List.cons.injEq,and_true] at h1;obtain ⟨_,_,_,rfl⟩:=h1;rw [if_neg (fun h2=>h h2.1)]
 ·rfl
theorem JY (k:Nat):A8.sc k:=by
 rw [A8,Tm.sc];exact ⟨by decide,by rw [if_neg (by decide),BK,if_neg (by decide),if_neg (by decide),if_neg (by decide)],trivial⟩
theorem AfZ {op m:Int} {z a b:Tm} (h:¬ (a.op=8∧b.op=9)):prP (.mk op m [z,a,b])=.mk op m [z,a,b]:=by
 unfold prP;split
 ·rename_i h1;simp only [Tm.mk.injEq,List.cons.injEq,and_true] at h1;obtain ⟨_,_,_,rfl,rfl⟩:=h1;rw [if_neg (fun h2=>h ⟨h2.1,h2.2.1⟩)]
 ·rfl
theorem JS {t:Tm} {k:Nat} {o:Int} {r:Nat} (h:t.sc k) (ho:t.op=o) (hr:ar o=some r):t.kids.length=r:=by
 obtain ⟨op,m,ks⟩:=t;simp only [Tm.op] at ho;subst ho;rw [Tm.sc,hr] at h
 have:=h.1
 simp only [Axa] at this;exact this.symm
def Adw:List Tm→List Tm
 | []=>[]
 | _::l=>A8::l
mutual
def Tm.eta:Tm→Tm
 | .mk op m ks=>if op=4 then fnP (.mk 4 m (Adw (Tm.etaL ks))) else if op=7 then prP (.mk 7 m (Adw (Tm.etaL ks))) else .mk op m (Tm.etaL ks)
def Tm.etaL:List Tm→List Tm
 | []=>[]
 | t::l=>t.eta::Tm.etaL l
end
theorem N8:∀l:List Tm,(Tm.etaL l).length=l.length
 | []=>rfl
 | _::l=>by simp only [Tm.etaL,Axe,N8 l]
theorem AnC {m:Int} {z b:Tm} {k:Nat} (hz:z.sc k) (hb:b.sc (k+1)) (hm:m=0) (hw:k+2 * b.wt≤1000000000):(fnP (.mk 4 m [z,b])).sc k∧(fnP (.mk 4 m [z,b])).wt≤1+z.wt+b.wt:=by
 have h0:(Tm.mk 4 m [z,b]).sc k:=by
  rw [Tm.sc];refine ⟨rfl,?_,hz,hb,trivial⟩;rw [if_neg (by decide),BK,if_neg (by decide),if_neg (by decide),if_neg (by decide)];exact hm
 have h1:(Tm.mk 4 m [z,b]).wt=1+z.wt+b.wt:=by simp only [Tm.wt,Tm.wtL];omega
 unfold fnP;split
 ·rename_i o1 n1 f o2 n2 k2 heq;simp only [Tm.mk.injEq,List.cons.injEq,and_true] at heq;obtain ⟨_,_,rfl,rfl⟩:=heq;split
  ·rename_i hc;obtain ⟨rfl,_,_,_⟩:=hc;rw [Tm.sc] at hb;have hf:f.sc (k+1):=by
    have:=hb.2.2
    rw [Tm.scL] at this;exact this.1
   simp only [Tm.wt,Tm.wtL] at hw h1 ⊢;have hs:=Np f A8 0 k hf (JY k) (by simp only [A8,Tm.wt,Tm.wtL];omega);have hwt:=NZ f A8 0 0;have hz1:A8.wt=1:=rfl;rw [hz1,Nat.mul_one] at hwt;exact ⟨hs,by omega⟩
  ·exact ⟨h0,by rw [h1];exact Nat.le_refl _⟩
 ·exact ⟨h0,by rw [h1];exact Nat.le_refl _⟩
theorem Aqf {m:Int} {z a b:Tm} {k:Nat} (hz:z.sc k) (ha:a.sc k) (hb:b.sc k) (hm:m=0):(prP (.mk 7 m [z,a,b])).sc k∧(prP (.mk 7 m [z,a,b])).wt≤1+z.wt+a.wt+b.wt:=by
 have h0:(Tm.mk 7 m [z,a,b]).sc k:=by
  rw [Tm.sc];refine ⟨rfl,?_,hz,ha,hb,trivial⟩;rw [if_neg (by decide),BK,if_neg (by decide),if_neg (by decide),if_neg (by decide)];exact hm
 have h1:(Tm.mk 7 m [z,a,b]).wt=1+z.wt+a.wt+b.wt:=by simp only [Tm.wt,Tm.wtL];omega
 unfold prP;split
 ·rename_i o1 n1 x o2 n2 y heq;simp only [Tm.mk.injEq,List.cons.injEq,and_true] at heq;obtain ⟨_,_,rfl,rfl,rfl⟩:=heq;split
  ·rename_i hc;obtain ⟨rfl,_,_⟩:=hc;rw [Tm.sc] at ha;have hf:x.sc k:=by
    have:=ha.2.2
    rw [Tm.scL] at this;exact this.1
   simp only [Tm.wt,Tm.wtL] at h1 ⊢;exact ⟨hf,by omega⟩
  ·exact ⟨h0,by rw [h1];exact Nat.le_refl _⟩
 ·exact ⟨h0,by rw [h1];exact Nat.le_refl _⟩
mutual
theorem AdK:∀(t:Tm) (k:Nat),t.sc k→k+2 * t.wt≤1000000000→t.eta.sc k∧t.eta.wt≤t.wt
 | .mk op m ks,k,h,hw=>by
  rw [Tm.sc] at h;rw [Tm.wt] at hw;have hl:=etaL_sc op 0 ks k h.2.2 (by omega);have hll:=N8 ks;rw [Tm.eta];by_cases h4:op=4
  ·subst h4;rw [if_pos rfl];have h9:ar 4=some 2:=by decide
   rw [h9,if_neg (by decide),BK,if_neg (by decide),if_neg (by decide),if_neg (by decide)] at h
   match ks,h,hl,hw with
   | [a,b],h,hl,hw =>
    simp only [Tm.etaL,Adw];simp only [Tm.etaL,Tm.scL,Tm.wtL] at hl;simp only [Tm.wtL] at hw;have hb1:Am 4 1=1:=by decide
    have hr:=AnC (m:=m) (z:=A8) (b:=b.eta) (k:=k) (JY k) (by have:=hl.1.2.1;rwa [hb1] at this) h.2.1 (by omega);have hz1:A8.wt=1:=rfl;have hp:=Jm a;have hp2:=Jm a.eta;rw [hz1] at hr;simp only [Tm.wt,Tm.wtL];exact ⟨hr.1,by omega⟩
   | [],h,_,_=>simp at h
   | [_],h,_,_=>simp at h
   | _::_::_::_,h,_,_=>simp at h
  ·rw [if_neg h4];by_cases h7:op=7
   ·subst h7;rw [if_pos rfl];have h9:ar 7=some 3:=by decide
    rw [h9,if_neg (by decide),BK,if_neg (by decide),if_neg (by decide),if_neg (by decide)] at h
    match ks,h,hl,hw with
    | [a,b,c],h,hl,hw =>
     simp only [Tm.etaL,Adw];simp only [Tm.etaL,Tm.scL,Tm.wtL] at hl;simp only [Tm.wtL] at hw;have hb1:Am 7 1=0:=by decide
     have hb2:Am 7 2=0:=by decide
     have hr:=Aqf (m:=m) (z:=A8) (a:=b.eta) (b:=c.eta) (k:=k) (JY k) (by have:=hl.1.2.1;rwa [hb1] at this) (by have:=hl.1.2.2.1;rwa [hb2] at this) h.2.1;have hz1:A8.wt=1:=rfl;have hp:=Jm a;have hp2:=Jm a.eta;rw [hz1] at hr;simp only [Tm.wt,Tm.wtL];exact ⟨hr.1,by omega⟩
    | [],h,_,_=>simp at h
    | [_],h,_,_=>simp at h
    | [_,_],h,_,_=>simp at h
    | _::_::_::_::_,h,_,_=>simp at h
   ·rw [if_neg h7,Tm.sc];refine ⟨⟨by rw [hll];exact h.1,h.2.1,hl.1⟩,?_⟩;simp only [Tm.wt];omega
theorem etaL_sc:∀(op:Int) (i:Nat) (l:List Tm) (k:Nat),Tm.scL op i l k→k+2+2 * Tm.wtL l≤1000000000→Tm.scL op i (Tm.etaL l) k∧Tm.wtL (Tm.etaL l)≤Tm.wtL l
 | _,_,[],_,_,_=>by simp only [Tm.etaL,Tm.scL,true_and];exact Nat.le_refl _
 | op,i,t::l,k,h,hw=>by
  rw [Tm.scL] at h;rw [Tm.wtL] at hw;have hb:=Bi op i;have h1:=AdK t (k+Am op i) h.1 (by omega);have h2:=etaL_sc op (i+1) l k h.2 (by omega);rw [Tm.etaL,Tm.scL,Tm.wtL,Tm.wtL];exact ⟨⟨h1.1,h2.1⟩,by omega⟩
end
abbrev Hre (op m:Int) (ks:List Tm) (K:IV) (tok:List (Nat×Blk)):Hp :=
 ⟨(90177536,.row [iv op,iv m,.fv (.sl (ks.map Tm.enc))] false)::(90177537,.row [iv 0,iv 0,.nils] false)::(90178565,.row [iv op,iv m,K] false)::tok,[]⟩
def CO (op:Int):Nat→List Tm→List Tm
 | _,[]=>[]
 | i,t::l=>(if i=0∧(op=4∨op=7) then A8 else t.eta)::CO op (i+1) l
theorem U1 (o p:Int) (l:List FV) (s:Nat) (own:List (Nat×Blk)) (ext:List Blk) (k:IV→Hp→List Ref→List Ref→Option (IV×Hp)) :
  Ay (AS EE s false .append [28,28] [.nils,.clip [.agg [.int .i64 o,.int .i64 p,.sl l]]]) s ⟨own,ext⟩ k=CF own s (A2 own s (.tok 1 3) fun own=>k (.app (.own s) [.agg [.int .i64 o,.int .i64 p,.sl l]]) ⟨own,ext⟩ [] [.own s]) :=
 KG sTm (.clip _) rfl rfl (by simp) (.inl rfl) s own ext k
theorem OX (op:Int) (x:Tm):∀(i:Nat) (l:List Tm),CO op i (l++[x])=CO op i l++[if i+l.length=0∧(op=4∨op=7) then A8 else x.eta]
 | i,[]=>by simp [CO]
 | i,t::l=>by
  simp only [List.cons_append,CO,OX op x (i+1) l,Axe];rw [show i+1+l.length=i+(l.length+1) by omega]
theorem Pc (op:Int):∀(i:Nat) (l:List Tm),(CO op i l).length=l.length
 | _,[]=>rfl
 | i,t::l=>by simp only [CO,Axe,Pc op (i+1) l]
set_option maxRecDepth 20000 in
set_option maxHeartbeats 1000000 in
theorem AcY {n:Nat} {op m:Int} {ks:List Tm} {w:FV} (h4:ks.length≤4) (hn:ks.length+3<n)
  (ih:∀x∈ks,BE (SS dt n 86 [.fv x.enc] ⟨[],[]⟩) x.eta.enc)
  (hend:∀(K:IV) (tok:List (Nat×Blk)) (rec:List IV→Hp→Option (IV×Hp)),((ks=[]∧K=.nils∧tok=[])∨(ks≠[]∧K=.app (.own 90185732) ((CO op 0 ks).map Tm.enc)∧tok=[(90185732,.tok ks.length 3)])) →
   BE (IA [.ptr (.own 90177536) 0,.ptr (.own 90177537) 0,.ptr (.own 90178565) 0,iv ks.length] (Hre op m ks K tok) (SS dt n) ⟨[],[]⟩ rec) w) :
  BE (SS dt (n+1) 86 [.fv (Tm.mk op m ks).enc] ⟨[],[]⟩) w:=by
 rw [c86,An];simp only [QF,SE,Qk,Rw,Sj,RS,RW,Qr,RD,Qd,Q6,QH,Qn,RY,Rh,RQ,PT,PH,Sz,Sk,RR,SC,R9,QS,Sw,Q3,PM,Qu,PK,RO,Sb,QW,Qo,S86,↓XX,XY,↓reduceIte,Nat.reduceBEq,Nat.reduceAdd,Int.reduceEq,Int.reduceLT,Int.reduceLE,↓AJ,XD,heldB,AL,XE];refine Bb (Q:=fun r=>BE r _) (fun j V H=>∃(pre rest:List Tm) (K:IV) (tok:List (Nat×Blk)),ks=pre++rest∧rest.length=j∧V=[.ptr (.own 90177536) 0,.ptr (.own 90177537) 0,.ptr (.own 90178565) 0,iv pre.length]∧H=Hre op m ks K tok ∧
   ((pre=[]∧K=.nils∧tok=[])∨(pre≠[]∧K=.app (.own 90185732) ((CO op 0 pre).map Tm.enc)∧tok=[(90185732,.tok pre.length 3)])))
  ?_ n ks.length _ _ (by omega) ⟨[],ks,.nils,[],rfl,rfl,rfl,rfl,.inl ⟨rfl,rfl,rfl⟩⟩
 rintro j V H rec ⟨pre,rest,K,tok,hks,hl,rfl,rfl,hK⟩ hrec;have hkl:ks.length=pre.length+rest.length:=by rw [hks];simp
 cases rest with
 | nil =>
  rw [List.append_nil] at hks;subst hks;exact hend K tok rec hK
 | cons x rest =>
  have hi:(pre.length:Int)<ks.length:=by rw [hkl];simp;omega
  have hg2:=Cu hks;have hc:=ih x (by rw [hks];simp);have hwi:BA ((pre.length:Int)+1)=((pre++[x]).length:Int):=(Ax (by omega) (by omega)).trans (by simp);have h0:=D3 (n:=n) (by omega) 11;have hi0:(0:Int)<ks.length:=by omega
  have hw01:BA (0+1)=1:=by decide
  simp only [Axe] at hl hkl;rcases hK with ⟨rfl,rfl,rfl⟩ | ⟨hne,rfl,rfl⟩
  ·have hz:∀y,((op=4∨op=7)→y=A8)→(¬ (op=4∨op=7)→y=x.eta)→CO op 0 [x]=[y]:=by
    intro y h1 h2;by_cases h:op=4∨op=7
    ·simp [CO,h,h1 h]
    ·simp [CO,h,h2 h]
   have h9:∀y,CO op 0 [x]=[y]→BE (rec [.ptr (.own 90177536) 0,.ptr (.own 90177537) 0,.ptr (.own 90178565) 0,iv 1] (Hre op m ks (.app (.own 90185732) [y.enc]) [(90185732,.tok 1 3)])) w:=by
    intro y hy;exact hrec rest.length _ _ (by omega) ⟨[x],rest,_,_,by rw [hks];simp,rfl,rfl,rfl,.inr ⟨by simp,by rw [List.nil_append] at *;rw [hy];rfl,rfl⟩⟩
   by_cases hop:op=4
   ·have h8:=h9 A8 (hz _ (fun _=>rfl) (fun h=>absurd (.inl hop) h));subst hop;generalize x.eta=y at hc;obtain ⟨o,p,l⟩:=x;obtain ⟨o2,p2,l2⟩:=y;rw [An,An] at hc;rw [An] at h0;have hze:A8.enc=.agg [.int .i64 11,.int .i64 0,.sl []]:=rfl;rw [hze] at h8;simp only [↓VG,↓XX,XY,↓reduceIte,Nat.reduceBEq,Nat.reduceAdd,Int.reduceEq,Int.reduceLT,Int.reduceLE,hi,↓Bz (AQ hg2) (Bg _ _ _),↓Cb,↓Av hc,↓Aj h0,hi0,hw01,↓D1,↓U1,↓AJ,XD,heldB,AL,XE];exact h8
   ·by_cases hop7:op=7
    ·have h8:=h9 A8 (hz _ (fun _=>rfl) (fun h=>absurd (.inr hop7) h));subst hop7;generalize x.eta=y at hc;obtain ⟨o,p,l⟩:=x;obtain ⟨o2,p2,l2⟩:=y;rw [An,An] at hc;rw [An] at h0;have hze:A8.enc=.agg [.int .i64 11,.int .i64 0,.sl []]:=rfl;rw [hze] at h8;simp only [↓VG,↓XX,XY,↓reduceIte,Nat.reduceBEq,Nat.reduceAdd,Int.reduceEq,Int.reduceLT,Int.reduceLE,hi,↓Bz (AQ hg2) (Bg _ _ _),↓Cb,↓Av hc,↓Aj h0,hi0,hw01,↓D1,↓U1,↓AJ,XD,heldB,AL,XE];exact h8
    ·have h8:=h9 x.eta (hz _ (fun h=>absurd h (by omega)) (fun _=>rfl));generalize x.eta=y at hc h8;obtain ⟨o,p,l⟩:=x;obtain ⟨o2,p2,l2⟩:=y;rw [An,An] at hc;rw [An] at h8;simp only [↓VG,↓XX,XY,↓reduceIte,Nat.reduceBEq,Nat.reduceAdd,Int.reduceEq,Int.reduceLT,Int.reduceLE,hi,hop,hop7,↓Bz (AQ hg2) (Bg _ _ _),↓Cb,↓Av hc,hi0,hw01,↓D1,↓U1,↓AJ,XD,heldB,AL,XE];exact h8
  ·have hp0:¬ (pre.length:Int)=0:=by
    have:=List.length_pos_iff.2 hne
    omega
   have h8:=hrec rest.length _ _ (by omega) ⟨pre++[x],rest,_,_,by rw [hks];simp,rfl,rfl,rfl,.inr ⟨by simp,by rw [OX,if_neg (by rintro ⟨h,_⟩;omega)],rfl⟩⟩;have hlen:=Pc op 0 pre;generalize CO op 0 pre=D at h8 hlen;generalize x.eta=y at hc h8;obtain ⟨o,p,l⟩:=x;obtain ⟨o2,p2,l2⟩:=y;have happ:=fun {own:List (Nat×Blk)} {ext:List Blk} (r s:Nat) (k:IV→Hp→List Ref→List Ref→Option (IV×Hp))=>MD (es:=D) (by omega) (.mk o2 p2 l2) r s own ext k;rw [hlen] at happ;rw [An,An] at hc;simp only [An] at happ;simp only [↓VG,↓XX,XY,↓reduceIte,Nat.reduceBEq,Nat.reduceAdd,Int.reduceEq,Int.reduceLT,Int.reduceLE,hi,hp0,↓Bz (AQ hg2) (Bg _ _ _),↓Cb,↓Av hc,hwi,↓D1,↓happ,↓Hd,↓AJ,XD,heldB,AL,XE];have e9:(pre++[Tm.mk o p l]).length=pre.length+1:=by simp
   rw [e9] at h8 ⊢;exact h8
theorem Kr {β:Type} (r:Ref) (es:List FV) (x:IV) (k:IV→Option β):AT 3 (.app r es) x k=AT 3 (.fv (.sl es)) x k:=rfl
theorem ZQ (op:Int) (h:op=4∨op=7):∀ks:List Tm,CO op 0 ks=Adw (Tm.etaL ks)
 | []=>rfl
 | t::l=>by
  have:∀(i:Nat) (l:List Tm),CO op (i+1) l=Tm.etaL l:=by
   intro i l
   induction l generalizing i with
   | nil=>rfl
   | cons a l ih=>rw [CO,if_neg (by omega),ih,Tm.etaL]
  rw [CO,if_pos ⟨rfl,h⟩,this 0,Tm.etaL,Adw]
theorem YM (op:Int) (h:¬ (op=4∨op=7)):∀(i:Nat) (ks:List Tm),CO op i ks=Tm.etaL ks
 | _,[]=>rfl
 | i,t::l=>by rw [CO,if_neg (fun h'=>h h'.2),YM op h (i+1) l,Tm.etaL]
set_option maxRecDepth 20000 in
set_option maxHeartbeats 1000000 in
theorem VY {n:Nat} {op m:Int} {ks:List Tm} (h:¬ (op=4∨op=7)) (rec:List IV→Hp→Option (IV×Hp)) {K:IV} {tok:List (Nat×Blk)}
  (hK:(ks=[]∧K=.nils∧tok=[])∨(ks≠[]∧K=.app (.own 90185732) ((CO op 0 ks).map Tm.enc)∧tok=[(90185732,.tok ks.length 3)])) :
  BE (IA [.ptr (.own 90177536) 0,.ptr (.own 90177537) 0,.ptr (.own 90178565) 0,iv ks.length] (Hre op m ks K tok) (SS dt n) ⟨[],[]⟩ rec) (Tm.mk op m (Tm.etaL ks)).enc:=by
 have hno:¬ ((ks.length:Int)<ks.length):=by omega
 have h4:¬ op=4:=fun h'=>h (.inl h');have h7:¬ op=7:=fun h'=>h (.inr h');rw [An];rcases hK with ⟨rfl,rfl,rfl⟩ | ⟨hne,rfl,rfl⟩
 ·simp only [↓VG,↓XX,XY,↓reduceIte,Nat.reduceBEq,Nat.reduceAdd,Int.reduceEq,Int.reduceLT,Int.reduceLE,hno,h4,h7];exact Ba rfl _
 ·rw [YM op h];simp only [↓VG,↓XX,XY,↓reduceIte,Nat.reduceBEq,Nat.reduceAdd,Int.reduceEq,Int.reduceLT,Int.reduceLE,hno,h4,h7];exact Ba rfl _
set_option maxRecDepth 20000 in
set_option maxHeartbeats 1000000 in
theorem Apv {n:Nat} {m:Int} {ks:List Tm} {a b:Tm} (rec:List IV→Hp→Option (IV×Hp)) (h3:ks.length=3) (hn:a.wt+10<n) (haw:a.wt≤100000000) (hka:a.op=8→∃x,a.kids=[x]) (hkb:b.op=9→∃y,b.kids=[y]) :
  BE (IA [.ptr (.own 90177536) 0,.ptr (.own 90177537) 0,.ptr (.own 90178565) 0,iv ks.length] (Hre 7 m ks (.app (.own 90185732) ([A8,a,b].map Tm.enc)) [(90185732,.tok ks.length 3)]) (SS dt n) ⟨[],[]⟩ rec) (prP (.mk 7 m [A8,a,b])).enc:=by
 have hno:¬ ((ks.length:Int)<ks.length):=by omega
 have hze:A8.enc=.agg [.int .i64 11,.int .i64 0,.sl []]:=rfl;obtain ⟨o1,n1,k1⟩:=a;obtain ⟨o2,n2,k2⟩:=b;by_cases h8:o1=8
 ·by_cases h9:o2=9
  ·subst h8 h9;obtain ⟨x,hx⟩:=hka rfl;obtain ⟨y,hy⟩:=hkb rfl;simp only [Tm.kids] at hx hy;subst hx hy;simp only [Tm.wt,Tm.wtL] at hn haw;have hs:=MA n x y (by omega) (by omega);rw [prP];generalize x.same y=v at hs;obtain ⟨o3,n3,k3⟩:=x;obtain ⟨o4,n4,k4⟩:=y;simp only [An] at hs;cases v
   ·rw [if_neg (by simp)];simp only [An,hze,Axg,Axf];simp only [↓VG,↓XX,XY,↓reduceIte,Nat.reduceBEq,Nat.reduceAdd,Int.reduceEq,Int.reduceLT,Int.reduceLE,hno,↓Kr,↓He,↓HE,↓L3,↓Aj hs];exact Ba rfl _
   ·rw [if_pos ⟨rfl,rfl,rfl⟩];simp only [An,hze,Axg,Axf];simp only [↓VG,↓XX,XY,↓reduceIte,Nat.reduceBEq,Nat.reduceAdd,Int.reduceEq,Int.reduceLT,Int.reduceLE,hno,↓Kr,↓He,↓HE,↓L3,↓Aj hs];exact Ao _ _
  ·rw [AfZ (by simp [Tm.op,h9])];simp only [An,hze,Axg,Axf];simp only [↓VG,↓XX,XY,↓reduceIte,Nat.reduceBEq,Nat.reduceAdd,Int.reduceEq,Int.reduceLT,Int.reduceLE,hno,↓Kr,↓He,↓HE,↓L3,h8,h9];exact Ba rfl _
 ·rw [AfZ (by simp [Tm.op,h8])];simp only [An,hze,Axg,Axf];simp only [↓VG,↓XX,XY,↓reduceIte,Nat.reduceBEq,Nat.reduceAdd,Int.reduceEq,Int.reduceLT,Int.reduceLE,hno,↓Kr,↓He,↓HE,↓L3,h8];exact Ba rfl _
set_option maxRecDepth 20000 in
set_option maxHeartbeats 1000000 in
theorem AoS {n:Nat} {m:Int} {ks:List Tm} {b:Tm} {K:Nat} (rec:List IV→Hp→Option (IV×Hp)) (h3:ks.length=2) (hn:b.wt+20<n) (hbw:b.wt≤100000000) (hs:b.sc K) :
  BE (IA [.ptr (.own 90177536) 0,.ptr (.own 90177537) 0,.ptr (.own 90178565) 0,iv ks.length] (Hre 4 m ks (.app (.own 90185732) ([A8,b].map Tm.enc)) [(90185732,.tok ks.length 3)]) (SS dt n) ⟨[],[]⟩ rec) (fnP (.mk 4 m [A8,b])).enc:=by
 have hno:¬ ((ks.length:Int)<ks.length):=by omega
 have hze:A8.enc=.agg [.int .i64 11,.int .i64 0,.sl []]:=rfl;have hwk:=GI b K hs;obtain ⟨o1,n1,k1⟩:=b;by_cases h5:o1=5
 ·subst h5;have hl2:=JS hs rfl (show ar 5=some 2 by decide)
  simp only [Tm.kids] at hl2
  match k1,hl2 with
  | [f,x],_ =>
  rw [Tm.sc] at hs;have hsf:=hs.2.2.1;have hsx:=hs.2.2.2.1;simp only [Tm.wt,Tm.wtL] at hn hbw;rw [Tm.wk] at hwk;have hfw:f.wk:=SG hwk.2 (by simp);have hv0:=Aqx (n:=n) (by omega) 0;have hsame:=MA n x (.mk 1 0 []) (by omega) (by omega);have hfree:=Amc n f 0 (by omega) (by omega) (by omega) (by omega);have h0:=D3 (n:=n) (by omega) 11;have hsub:=Tl (n:=n) f A8 0 (by simp [A8,Tm.wk,Tm.wkL]) (by simp [A8,Tm.wt,Tm.wtL]) (by simp only [A8,Tm.wt,Tm.wtL];omega) hfw (by omega) (by omega) (by omega);obtain ⟨o2,n2,k2⟩:=x;have hx:(Tm.mk o2 n2 k2).same (.mk 1 0 [])=(decide (o2=1) && decide (n2=0)):=by
   rw [Tm.same];by_cases h1:o2=1
   ·subst h1;have hk2:k2.length=0:=by
     have:=JS hsx rfl (show ar 1=some 0 by decide)
     simpa [Tm.kids] using this
    have hk3:k2=[]:=List.length_eq_zero_iff.1 hk2;subst hk3;simp [Tm.sameL]
   ·simp [h1]
  rw [hx] at hsame;rw [fnP];generalize hr:f.subst 0 0 A8=u at hsub;generalize f.free 0=fr at hfree;obtain ⟨o4,n4,k4⟩:=u;obtain ⟨o3,n3,k3⟩:=f;rw [hze] at hsub;simp only [An,Axf] at hfree hsub hv0 hsame h0;by_cases h1:o2=1
  ·by_cases h2:n2=0
   ·rw [h1,h2] at hsame;simp only [decide_true,Bool.and_self] at hsame;cases fr
    ·rw [if_pos ⟨rfl,h1,h2,rfl⟩];simp only [An,hze,Axg,Axf];simp only [↓VG,↓XX,XY,↓reduceIte,Nat.reduceBEq,Nat.reduceAdd,Int.reduceEq,Int.reduceLT,Int.reduceLE,hno,↓Kr,↓He,↓HE,↓L3,h1,h2,↓Av hv0,↓Aj hsame,↓Aj hfree,↓Aj h0,↓AZ hsub];exact Ao _ _
    ·rw [if_neg (by simp)];simp only [An,hze,Axg,Axf];simp only [↓VG,↓XX,XY,↓reduceIte,Nat.reduceBEq,Nat.reduceAdd,Int.reduceEq,Int.reduceLT,Int.reduceLE,hno,↓Kr,↓He,↓HE,↓L3,h1,h2,↓Av hv0,↓Aj hsame,↓Aj hfree];exact Ba rfl _
   ·rw [if_neg (by simp [h2])];rw [h1,decide_eq_true (rfl:(1:Int)=1),decide_eq_false h2,Bool.and_false] at hsame;simp only [An,hze,Axg,Axf];simp only [↓VG,↓XX,XY,↓reduceIte,Nat.reduceBEq,Nat.reduceAdd,Int.reduceEq,Int.reduceLT,Int.reduceLE,hno,↓Kr,↓He,↓HE,↓L3,h1,↓Av hv0,↓Aj hsame];exact Ba rfl _
  ·rw [if_neg (by simp [h1])];rw [decide_eq_false h1,Bool.false_and] at hsame;simp only [An,hze,Axg,Axf];simp only [↓VG,↓XX,XY,↓reduceIte,Nat.reduceBEq,Nat.reduceAdd,Int.reduceEq,Int.reduceLT,Int.reduceLE,hno,↓Kr,↓He,↓HE,↓L3,↓Av hv0,↓Aj hsame];exact Ba rfl _
 ·rw [Aqt (by simpa [Tm.op] using h5)];simp only [An,hze,Axg,Axf];simp only [↓VG,↓XX,XY,↓reduceIte,Nat.reduceBEq,Nat.reduceAdd,Int.reduceEq,Int.reduceLT,Int.reduceLE,hno,↓Kr,↓He,↓HE,↓L3,h5];exact Ba rfl _
theorem Wo:∀(n:Nat) (t:Tm) (k:Nat),t.sc k→2 * t.wt+40<n→k+2 * t.wt≤90000000→BE (SS dt n 86 [.fv t.enc] ⟨[],[]⟩) t.eta.enc:=by
 intro n
 induction n with
 | zero=>intro t k _ h;omega
 | succ n ih =>
  intro t k hs hn hw;have hwk:=GI t k hs;obtain ⟨op,m,ks⟩:=t;rw [Tm.sc] at hs;rw [Tm.wk] at hwk;simp only [Tm.wt] at hn hw;have hlen:=EW ks;have hkd:=etaL_sc op 0 ks k hs.2.2 (by omega);have hdl:=N8 ks;refine AcY hwk.1 (by omega) (fun x hx=>?_) (fun K tok rec hK=>?_)
  ·have hxw:=CX hx;obtain ⟨i,hi⟩:=List.getElem?_of_mem hx;have hxs:=Lq hs.2.2 hi;have hble:=Bi op (0+i);exact ih x _ hxs (by omega) (by omega)
  ·rw [Tm.eta];by_cases h4:op=4
   ·subst h4;rw [if_pos rfl];have h2:ks.length=2:=by have:=hs.1;rw [show ar 4=some 2 by decide] at this;simp only [Axa] at this;omega
    have hne:ks≠[]:=by intro h;rw [h] at h2;cases h2
    rw [ZQ 4 (.inl rfl)] at hK;rcases hK with ⟨h,_⟩ | ⟨_,rfl,rfl⟩
    ·exact absurd h hne
    ·generalize Tm.etaL ks=D at hkd hdl;have hd2:D.length=2:=by omega
     match D,hd2,hkd with
     | [a,b],_,hkd =>
      simp only [Tm.scL,Tm.wtL] at hkd;exact AoS rec h2 (by omega) (by omega) hkd.1.2.1
   ·rw [if_neg h4];by_cases h7:op=7
    ·subst h7;rw [if_pos rfl];have h2:ks.length=3:=by have:=hs.1;rw [show ar 7=some 3 by decide] at this;simp only [Axa] at this;omega
     have hne:ks≠[]:=by intro h;rw [h] at h2;cases h2
     rw [ZQ 7 (.inr rfl)] at hK;rcases hK with ⟨h,_⟩ | ⟨_,rfl,rfl⟩
     ·exact absurd h hne
     ·generalize Tm.etaL ks=D at hkd hdl;have hd2:D.length=3:=by omega
      match D,hd2,hkd with
      | [a,b,c],_,hkd =>
       simp only [Tm.scL,Tm.wtL] at hkd;refine Apv rec h2 (by omega) (by omega) (fun h5=>?_) (fun h5=>?_)
       ·have:=JS hkd.1.2.1 h5 (show ar 8=some 1 by decide)
        match hbk:b.kids,this with
        | [f],_=>exact ⟨f,rfl⟩
       ·have:=JS hkd.1.2.2.1 h5 (show ar 9=some 1 by decide)
        match hbk:c.kids,this with
        | [f],_=>exact ⟨f,rfl⟩
    ·rw [if_neg h7];exact VY (by omega) rec hK
mutual
def Tm.count:Tm→Int→Int
 | .mk _ _ l,most=>Tm.countL l 1 most
def Tm.countL:List Tm→Int→Int→Int
 | [],n,_=>n
 | t::l,n,most=>if n<most then Tm.countL l (n+t.count (most - n)) most else n
end
mutual
theorem TJ:∀(t:Tm) (m:Int),1≤t.count m∧(1≤m→t.count m≤m)
 | .mk _ _ l,m=>by
  have:=countL_le l 1 m
  simp only [Tm.count];omega
theorem countL_le:∀(l:List Tm) (n m:Int),n≤Tm.countL l n m∧(n≤m→Tm.countL l n m≤m)
 | [],n,m=>by simp only [Tm.countL];omega
 | t::l,n,m=>by
  simp only [Tm.countL];split
  ·have h1:=TJ t (m - n);have h2:=countL_le l (n+t.count (m - n)) m;omega
  ·omega
end
theorem Ae0:∀(n:Nat) (t:Tm) (most:Int),t.wt<n→most≤4611686018427387904→-4611686018427387904≤most→BE (SS dt n 36 [.fv t.enc,iv most] ⟨[],[]⟩) (.int .i64 (t.count most)):=by
 intro n
 induction n with
 | zero=>intro t most h;omega
 | succ n ih =>
  intro t most h hm hm';obtain ⟨op,m,ks⟩:=t;simp only [Tm.wt] at h;rw [c36,An];simp only [NF,M9,Oj,NP,S36,↓XX,XY,↓reduceIte,Nat.reduceBEq,Nat.reduceAdd,Int.reduceEq,Int.reduceLT,Int.reduceLE,Tm.count];refine Bb (Q:=fun r=>BE r _) (fun k V H=>∃rest pre acc,ks=pre++rest∧rest.length=k∧(pre.length:Int)<acc∧(acc≤1∨acc≤most)∧V=[iv most,.ptr (.own 37748736) 0,iv acc,iv pre.length] ∧
   H=⟨[(37748736,.row [iv op,iv m,.fv (.sl (ks.map Tm.enc))] false)],[]⟩∧Tm.countL rest acc most=Tm.countL ks 1 most) ?_ n ks.length _ _ (by have:=EW ks;omega) ⟨ks,[],1,rfl,rfl,by simp,.inl (by omega),rfl,rfl,rfl⟩
  rintro k V H rec ⟨rest,pre,acc,hk,hl,hpre,hacc,rfl,rfl,ht⟩ hrec;have hlen:ks.length=pre.length+rest.length:=by rw [hk];simp
  cases rest with
  | nil =>
   rw [← ht];simp only [NF,M9,Oj,NP,Q8,S36,↓XX,XY,↓reduceIte,Nat.reduceBEq,Nat.reduceAdd,Int.reduceEq,Int.reduceLT,Int.reduceLE,List.length_map,show ¬ ((pre.length:Int)<ks.length) by simp [hlen],Tm.countL]
   exact Ao _ _
  | cons t rest =>
   have hi:(pre.length:Int)<ks.length:=by rw [hlen];simp;omega
   by_cases ha:acc<most
   ·have hg:=Cu hk;obtain ⟨o,p,l⟩:=t;have hb:=TJ (.mk o p l) (most - acc);have hc:=ih (.mk o p l) (most - acc) (by have:=CX (t:=.mk o p l) (l:=ks) (by rw [hk];simp);omega) (by omega) (by omega);rw [An] at hc;simp only [NF,M9,Oj,NP,Q8,S36,↓XX,XY,↓reduceIte,Nat.reduceBEq,Nat.reduceAdd,Int.reduceEq,Int.reduceLT,Int.reduceLE,List.length_map,hi,ha,↓Bz (AQ hg) (Bg _ _ _),↓Cb,Ax (show -9223372036854775808≤most - acc by omega) (show most - acc≤9223372036854775807 by omega),↓Aj hc,
     Ax (show -9223372036854775808≤acc+(Tm.mk o p l).count (most - acc) by omega) (show acc+(Tm.mk o p l).count (most - acc)≤9223372036854775807 by omega),Ax (show -9223372036854775808≤(pre.length:Int)+1 by omega) (show (pre.length:Int)+1≤9223372036854775807 by omega)]
    simp only [Axe] at hl;refine hrec rest.length _ _ (by omega) ?_;refine ⟨rest,pre++[.mk o p l],acc+(Tm.mk o p l).count (most - acc),by rw [hk];simp,rfl,by simp;omega,.inr (by omega),by simp,rfl,?_⟩;rw [← ht];simp only [Tm.countL,if_pos ha]
   ·rw [← ht];simp only [NF,M9,Oj,NP,Q8,S36,↓XX,XY,↓reduceIte,Nat.reduceBEq,Nat.reduceAdd,Int.reduceEq,Int.reduceLT,Int.reduceLE,List.length_map,hi,ha,Tm.countL];exact Ao _ _
theorem VW {n:Nat} (t:Tm) (h:t.wt<n):BE (SS dt (n+1) 12 [.fv t.enc] ⟨[],[]⟩) (.bool (decide (t.count 300<300))):=by
 rw [c12];have hc:=Ae0 n t 300 h (by omega) (by omega);obtain ⟨op,m,ks⟩:=t;rw [An] at hc ⊢;simp only [S12,↓XX,XY,↓reduceIte,Nat.reduceBEq,Nat.reduceAdd,Int.reduceEq,Int.reduceLT,Int.reduceLE,↓Aj hc];exact Ao _ _
def Tm.plainT:Nat→Tm→Tm
 | 0,_=>.mk 15 0 []
 | d+1,r=>if r.n % 4<2 then .mk 15 0 [] else .mk (16+r.n % 4 - 2) 0 [plainT d (r.pick 0),plainT d (r.pick 1)]
theorem Lx:∀(d n:Nat) (r:Tm),d+1<n→d≤1000→BE (SS dt n 28 [.fv r.enc,iv d] ⟨[],[]⟩) (r.plainT d).enc:=by
 intro d
 induction d with
 | zero =>
  intro n r hn _;obtain ⟨n,rfl⟩:∃k,n=k+1:=⟨n - 1,by omega⟩;rw [c28];have hw:=Au (n:=n) (by omega) r.n (m:=4) (by omega) (by omega);obtain ⟨op,m,ks⟩:=r;rw [An];simp only [Tm.n] at hw;simp only [P8,PG,Sv,R6,Se,Ru,Qj,S28,↓XX,XY,↓reduceIte,Nat.reduceBEq,Nat.reduceAdd,Int.reduceEq,Int.reduceLT,Int.reduceLE,↓Aj hw,↓Aj (D3 (n:=n) (by omega) 15),Tm.plainT,An];exact Ba rfl _
 | succ d ih =>
  intro n r hn hd;obtain ⟨n,rfl⟩:∃k,n=k+1:=⟨n - 1,by omega⟩;rw [c28];have hw:=Au (n:=n) (by omega) r.n (m:=4) (by omega) (by omega);have h0:=ih n (r.pick 0) (by omega) (by omega);have h1:=ih n (r.pick 1) (by omega) (by omega);have p0:=AM (n:=n) (by omega) r 0;have p1:=AM (n:=n) (by omega) r 1;have ht:=C4 (n:=n) (by omega) (16+r.n % 4 - 2) [(r.pick 0).plainT d,(r.pick 1).plainT d];have hb0:¬ ((d+1:Nat):Int)≤0:=by omega
  have hm:BA (((d+1:Nat):Int) - 1)=d:=by rw [Ax]<;>omega
  have hr:=Int.emod_nonneg r.n (show (4:Int)≠0 by decide)
  have hr2:=Int.emod_lt_of_pos r.n (show (0:Int)<4 by decide)
  have e1:BA (16+r.n % 4)=16+r.n % 4:=by rw [Ax]<;>omega
  have e2:BA (16+r.n % 4 - 2)=16+r.n % 4 - 2:=by rw [Ax]<;>omega
  simp only [Axg,Axf] at ht;rw [Tm.plainT];obtain ⟨op,m,ks⟩:=r;rw [An] at p0 p1 ⊢;simp only [Tm.n] at *;by_cases hk:m % 4<2
  ·simp only [P8,PG,Sv,R6,Se,Ru,Qj,S28,↓XX,XY,↓reduceIte,Nat.reduceBEq,Nat.reduceAdd,Int.reduceEq,Int.reduceLT,Int.reduceLE,↓Aj hw,Tm.n,↓Aj (D3 (n:=n) (by omega) 15),hb0,hk,An];exact Ba rfl _
  ·simp only [P8,PG,Sv,R6,Se,Ru,Qj,S28,↓XX,XY,↓reduceIte,Nat.reduceBEq,Nat.reduceAdd,Int.reduceEq,Int.reduceLT,Int.reduceLE,↓Aj hw,hb0,hk,e1,e2,hm,↓Aj p0,↓Aj p1,↓Aj h0,↓Aj h1,↓Ape,↓Aj ht];simp only [↓XX,XY,↓reduceIte,Nat.reduceBEq,Nat.reduceAdd,Int.reduceEq,Int.reduceLT,Int.reduceLE,An];exact Ba rfl _
theorem GH:∀(d:Nat) (r:Tm),(r.plainT d).wt≤2 ^ (d+1) - 1
 | 0,r=>by simp [Tm.plainT,Tm.wt,Tm.wtL]
 | d+1,r=>by
  have h1:=GH d (r.pick 0);have h2:=GH d (r.pick 1);have h3:0<2 ^ (d+1):=Nat.pow_pos (by decide);simp only [Tm.plainT];split
  ·simp only [Tm.wt,Tm.wtL,Nat.pow_succ] at *;omega
  ·simp only [Tm.wt,Tm.wtL,Nat.pow_succ] at *;omega
theorem DR {op n:Int} {k:Nat} (h:ar op=some 0) (h1:op≠1) (hn:BK op n):(Tm.mk op n []).sc k:=by
 rw [Tm.sc];exact ⟨h,by rw [if_neg h1];exact hn,trivial⟩
theorem Gt {op n:Int} {k:Nat} {a:Tm} (h:ar op=some 1) (h1:op≠1) (hn:BK op n) (ha:a.sc (k+Am op 0)):(Tm.mk op n [a]).sc k:=by
 rw [Tm.sc];exact ⟨h,by rw [if_neg h1];exact hn,ha,trivial⟩
theorem Cw {op n:Int} {k:Nat} {a b:Tm} (h:ar op=some 2) (h1:op≠1) (hn:BK op n) (ha:a.sc (k+Am op 0)) (hb:b.sc (k+Am op 1)):(Tm.mk op n [a,b]).sc k:=by
 rw [Tm.sc];exact ⟨h,by rw [if_neg h1];exact hn,ha,hb,trivial⟩
theorem VE {op n:Int} {k:Nat} {a b c:Tm} (h:ar op=some 3) (h1:op≠1) (hn:BK op n) (ha:a.sc (k+Am op 0)) (hb:b.sc (k+Am op 1)) (hc:c.sc (k+Am op 2)):(Tm.mk op n [a,b,c]).sc k:=by
 rw [Tm.sc];exact ⟨h,by rw [if_neg h1];exact hn,ha,hb,hc,trivial⟩
theorem Aqq {op n:Int} {k:Nat} {a b c d:Tm} (h:ar op=some 4) (h1:op≠1) (hn:BK op n) (ha:a.sc (k+Am op 0)) (hb:b.sc (k+Am op 1)) (hc:c.sc (k+Am op 2)) (hd:d.sc (k+Am op 3)):(Tm.mk op n [a,b,c,d]).sc k:=by
 rw [Tm.sc];exact ⟨h,by rw [if_neg h1];exact hn,ha,hb,hc,hd,trivial⟩
theorem Ao1 {n:Int} {k:Nat} (h:0≤n) (h2:n<k):(Tm.mk 1 n []).sc k:=by
 rw [Tm.sc];exact ⟨by decide,by rw [if_pos rfl];exact ⟨h,h2⟩,trivial⟩
theorem B3 {op:Int} (h2:op≠2) (h26:op≠26) (h25:op≠25):BK op 0:=by
 rw [BK,if_neg h2,if_neg h26,if_neg h25]
theorem Ap5 (k:Nat):Tm.z.sc k:=DR (by decide) (by decide) (B3 (by decide) (by decide) (by decide))
theorem Ags (k:Nat):∀n,(Hu n).sc k
 | 0=>DR (by decide) (by decide) (B3 (by decide) (by decide) (by decide))
 | n+1=>Gt (by decide) (by decide) (B3 (by decide) (by decide) (by decide)) (Ags _ n)
theorem GQ (k:Nat):∀(d:Nat) (r:Tm),(r.plainT d).sc k
 | 0,r=>by rw [Tm.plainT];exact DR (by decide) (by decide) (B3 (by decide) (by decide) (by decide))
 | d+1,r=>by
  have h1:=Int.emod_nonneg r.n (show (4:Int)≠0 by decide)
  have h2:=Int.emod_lt_of_pos r.n (show (0:Int)<4 by decide)
  rw [Tm.plainT];split
  ·exact DR (by decide) (by decide) (B3 (by decide) (by decide) (by decide))
  ·have h3:16+r.n % 4 - 2=16∨16+r.n % 4 - 2=17:=by omega
   rcases h3 with h3 | h3<;>(rw [h3];exact Cw (by decide) (by decide) (B3 (by decide) (by decide) (by decide)) (GQ _ d _) (GQ _ d _))
mutual
theorem Uk:∀t:Tm,t.dp≤t.wt
 | .mk op n l=>by
  have:=dpL_wt l
  simp only [Tm.dp,Tm.wt];omega
theorem dpL_wt:∀l:List Tm,Tm.dpL l≤Tm.wtL l
 | []=>by simp [Tm.dpL]
 | t::l=>by
  have h1:=Uk t;have h2:=dpL_wt l;simp only [Tm.dpL,Tm.wtL];omega
end
abbrev Cd:=List (Int×Tm)
def v1 (p:Int×Tm):FV:=.agg [.int .i64 p.1,.int .i64 p.2.op,.int .i64 p.2.n,.sl (p.2.kids.map Tm.enc)]
def Be (g:Cd):FV:=.sl (g.map v1)
structure GOk (e:Nat) (g:Cd):Prop where
 len:g.length+2 * e≤60
 ok:∀(i:Nat) (p:Int×Tm),g[i]?=some p→p.2.sc i∧p.2.wt≤100000000000∧p.2.dp≤6000
theorem AU {e e':Nat} {g:Cd} (h:e'≤e) (hg:GOk e g):GOk e' g:=⟨by have:=hg.len;omega,hg.ok⟩
theorem CN {e:Nat} {g:Cd} {s:Int} {a:Tm} (hg:GOk (e+1) g) (h1:a.sc g.length) (h2:a.wt≤100000000000) (h3:a.dp≤6000):GOk e (g++[(s,a)]):=by
 refine ⟨by have:=hg.len;simp;omega,?_⟩;intro i p hp;by_cases hi:i<g.length
 ·rw [List.getElem?_append_left hi] at hp;exact hg.ok i p hp
 ·rw [List.getElem?_append_right (by omega)] at hp;have hi2:i - g.length=0:=by
   cases h:i - g.length with
   | zero=>rfl
   | succ j=>rw [h] at hp;simp at hp
  rw [hi2] at hp;simp only [List.getElem?_cons_zero,Axa] at hp;subst hp;rw [show i=g.length by omega]
  exact ⟨h1,h2,h3⟩
def Wg (e:Nat):Nat:=8000 * 4 ^ e
def Dg (e:Nat):Nat:=200+10 * e
theorem L0 (e:Nat):Wg (e+1)=4 * Wg e:=by unfold Wg;rw [Nat.pow_succ];omega
theorem L4 (e:Nat):8000≤Wg e:=by
 have:1≤4 ^ e:=Nat.one_le_pow _ _ (by decide)
 unfold Wg;omega
theorem PZ {e e':Nat} (h:e≤e'):Wg e≤Wg e':=by
 unfold Wg;exact Nat.mul_le_mul_left _ (Nat.pow_le_pow_right (by decide) h)
theorem Nu {e:Nat} (h:e≤10):Wg e≤21000000000:=Nat.le_trans (PZ h) (by decide)
structure TOk (k e:Nat) (t:Tm):Prop where
 sc:t.sc k
 wt:t.wt≤Wg e
 dp:t.dp≤Dg e
theorem SY {k e e':Nat} {t:Tm} (h:e≤e') (ht:TOk k e t):TOk k e' t:=⟨ht.sc,Nat.le_trans ht.wt (PZ h),by have:=ht.dp;unfold Dg at *;omega⟩
structure AOk (k:Nat) (a:Tm):Prop where
 sc:a.sc k
 wt:a.wt≤1000000000000000
 dp:a.dp≤10000
structure NOk (k:Nat) (a:Tm):Prop where
 sc:a.sc k
 wt:a.wt≤3000
 dp:a.dp≤120
theorem Bx {k:Nat} {a:Tm} (h:NOk k a):AOk k a:=⟨h.sc,by have:=h.wt;omega,by have:=h.dp;omega⟩
theorem Fj {n:Nat} (hn:0<n) (x:Int) {m:Int} (h1:0<m) (h2:m≤4611686018427387904):BE (SS dt n 51 [iv x,iv m] ⟨[],[]⟩) (.int .i64 (x % m)):=by
 obtain ⟨n,rfl⟩:=Nat.exists_eq_add_of_lt hn;rw [Nat.zero_add,c51];simp only [S51,↓XX,XY,↓reduceIte,Nat.reduceBEq,Nat.reduceAdd,Int.reduceEq,Int.reduceLT,Int.reduceLE,↓Nl (show m≠0 by omega)]
 rw [← AeW h1 h2];by_cases hc:x.tmod m<0<;>simp only [hc,if_true,if_false]<;>exact Ao _ _
def Tm.kidT (r:Tm) (i:Nat):Tm:=match r.kids[i]? with
 | some k=>k
 | none=>.mk 0 (BA (r.n+i)) []
theorem Alu {n:Nat} (hn:0<n) (r:Tm) (i:Nat):BE (SS dt n 53 [.fv r.enc,iv i] ⟨[],[]⟩) (r.kidT i).enc:=by
 obtain ⟨n,rfl⟩:=Nat.exists_eq_add_of_lt hn;rw [Nat.zero_add,c53];obtain ⟨op,m,ks⟩:=r;rw [An];simp only [Tm.kidT,Tm.kids,Tm.n];cases hk:ks[i]? with
 | some k =>
  have hi:(i:Int)<ks.length:=by have:=(List.getElem?_eq_some_iff.1 hk).1;omega
  obtain ⟨o,p,l⟩:=k;simp only [UQ,UH,Vl,S53,↓XX,XY,↓reduceIte,Nat.reduceBEq,Nat.reduceAdd,Int.reduceEq,Int.reduceLT,Int.reduceLE,hi,↓Bz (AQ hk) (Bg _ _ _),↓Cb,An]
  first | exact Ao _ _ | exact Ba rfl _
 | none =>
  have hi:¬ (i:Int)<ks.length:=by have:=List.getElem?_eq_none_iff.1 hk;omega
  simp only [UQ,UH,Vl,S53,↓XX,XY,↓reduceIte,Nat.reduceBEq,Nat.reduceAdd,Int.reduceEq,Int.reduceLT,Int.reduceLE,hi,An,Axf]
  first | exact Ao _ _ | exact Ba rfl _
theorem An8 {P:Nat→Nat→Prop}:∀m,(∀i,i<m→∃N,∀n,N≤n→P i n)→∃N,∀i,i<m→∀n,N≤n→P i n:=by
 intro m
 induction m with
 | zero=>intro _;exact ⟨0,fun i hi=>by omega⟩
 | succ m ih =>
  intro h;obtain ⟨N1,h1⟩:=ih fun i hi=>h i (by omega);obtain ⟨N2,h2⟩:=h m (by omega);refine ⟨N1+N2,fun i hi n hn=>?_⟩;by_cases him:i=m
  ·subst him;exact h2 n (by omega)
  ·exact h1 i (by omega) n (by omega)
def mkW:Nat→Nat
 | 0=>1
 | d+1=>1+4 * mkW d
def Asd (d:Nat):Prop:=∀(r:Tm) (vars:Int),0≤vars→vars≤1000 - 3 * d→∃t,Ev 21 [.fv r.enc,iv d,iv vars] (Tm.enc t)∧t.wt≤mkW d
abbrev HMk (r:Tm) (op m:Int) (K:IV) (tok:List (Nat×Blk)):Hp :=
 ⟨(22020096,.row [iv r.op,iv r.n,.fv (.sl (r.kids.map Tm.enc))] false)::(22020097,.row [iv 0,iv 0,.nils] false)::(22024194,.row [iv op,iv m,K] false)::tok,[]⟩
set_option maxRecDepth 20000 in
set_option maxHeartbeats 8000000 in
theorem AcW {n:Nat} (r:Tm) (d:Int) (vars op m:Int) (K:Nat) (hK:Bo op=K) (T:Nat→Tm) (hv:0≤vars∧vars≤2000) (hd:0<K→0<d∧d≤1000) (hn:10<n) (hT:∀i,i<K→BE (SS dt n 21 [.fv (r.kidT i).enc,iv (d - 1),iv (vars+Am op i)] ⟨[],[]⟩) (T i).enc) :
  BE (By n (fun q l h=>If l (SS dt n) h ⟨[],[]⟩ q) [iv d,iv vars,.ptr (.own 22020096) 0,.ptr (.own 22020097) 0,iv op,.ptr (.own 22024194) 0,iv 0] (HMk r op m .nils [])) (Tm.mk op m ((List.range K).map T)).enc:=by
 have hK4:=KC op;rw [hK] at hK4;refine Bb (Q:=fun r=>BE r _) (fun k V H=>∃i:Nat,i+k=K∧V=[iv d,iv vars,.ptr (.own 22020096) 0,.ptr (.own 22020097) 0,iv op,.ptr (.own 22024194) 0,iv i] ∧
   (i=0∧H=HMk r op m .nils []∨0<i∧H=HMk r op m (.app (.own 22037518) (((List.range i).map T).map Tm.enc)) [(22037518,.tok i 3)]))
  ?_ n K _ _ (by omega) ⟨0,by omega,rfl,.inl ⟨rfl,rfl⟩⟩
 rintro k V H rec ⟨i,hik,rfl,hH⟩ hrec;have ha:=NO (n:=n) (by omega) op;rw [hK] at ha;obtain ⟨ro,rn,rk⟩:=r;cases k with
 | zero =>
  have hiK:i=K:=by omega
  subst hiK;have hno:¬ ((i:Int)<i):=by omega
  rw [An];rcases hH with ⟨rfl,rfl⟩ | ⟨h0,rfl⟩
  ·simp only [HMk,Tm.op,Tm.n,Tm.kids,List.range_zero,Axf];simp (maxSteps:=1000000) only [H3,IG,IX,HZ,In,Ik,H4,If,It,I4,Im,HV,Iu,HN,Ie,GY,E0,Fb,Fg,S21,↓XX,XY,↓reduceIte,Nat.reduceBEq,Nat.reduceAdd,Int.reduceEq,Int.reduceLT,Int.reduceLE,↓Av ha,Int.lt_irrefl]
   first | exact Ao _ _ | exact Ba rfl _
  ·simp only [HMk,Tm.op,Tm.n,Tm.kids];simp (maxSteps:=1000000) only [H3,IG,IX,HZ,In,Ik,H4,If,It,I4,Im,HV,Iu,HN,Ie,GY,E0,Fb,Fg,S21,↓XX,XY,↓reduceIte,Nat.reduceBEq,Nat.reduceAdd,Int.reduceEq,Int.reduceLT,Int.reduceLE,↓Av ha,hno]
   first | exact Ao _ _ | exact Ba rfl _
 | succ k =>
  have hiK:i<K:=by omega
  have hlt:(i:Int)<K:=by omega
  have hk1:=Alu (n:=n) (by omega) (.mk ro rn rk) i;have hb:=Eg (n:=n) (by omega) op i;have hbl:=Bi op i;have hTi:=hT i hiK;have wd:BA (d - 1)=d - 1:=by rw [Ax]<;>(have:=hd (by omega);omega)
  have wv:BA (vars+Am op i)=vars+Am op i:=by rw [Ax]<;>omega
  have wi:BA ((i:Int)+1)=((i+1:Nat):Int):=(Ax (by omega) (by omega)).trans (by omega);have h9:=hrec k [iv d,iv vars,.ptr (.own 22020096) 0,.ptr (.own 22020097) 0,iv op,.ptr (.own 22024194) 0,iv (i+1:Nat)] _ (by omega) ⟨i+1,by omega,rfl,.inr ⟨by omega,rfl⟩⟩;have hlist:(List.range (i+1)).map T=(List.range i).map T++[T i]:=by rw [List.range_succ,List.map_append];rfl
  rw [hlist] at h9;rw [← wd,← wv] at hTi;clear hT hrec hlist;generalize T i=ti at hTi h9;generalize (Tm.mk ro rn rk).kidT i=ki at hk1 hTi;rcases hH with ⟨rfl,rfl⟩ | ⟨h0,rfl⟩
  ·have h0':=fun {β:Type}=>KG (β:=β) sTm (.clip [ti.enc]) (IH [ti]) rfl (by simp) (s0:=.nils) (.inl rfl);obtain ⟨oi,pi,li⟩:=ti;obtain ⟨o,p,lx⟩:=ki;have hlt0:(0:Int)<K:=by omega
   have w01:BA (0+1)=1:=by rw [Ax]<;>omega
   simp only [HMk,Tm.op,Tm.n,Tm.kids,List.range_zero,Axf,List.nil_append,Axg,Axe,List.length_nil,Nat.zero_add,Int.natCast_zero,Int.natCast_one,An] at h9 h0' hTi hk1 hb ⊢;simp (maxSteps:=1000000) only [H3,IG,IX,HZ,In,Ik,H4,If,It,I4,Im,HV,Iu,HN,Ie,GY,E0,Fb,Fg,S21,↓XX,XY,↓reduceIte,Nat.reduceBEq,Nat.reduceAdd,Int.reduceEq,Int.reduceLT,Int.reduceLE,↓Av ha,hlt0,↓Aj hk1,↓Aj hb,↓AZ hTi,↓D1,↓h0',w01,↓AJ,XD,heldB,AL,XE];exact h9
  ·have h1':=fun {β:Type}=>Po (β:=β) sTm (es:=((List.range i).map T).map Tm.enc) (es2:=[ti.enc]) (.clip _) (IH [ti]) (IH _) (by simp [Yd]) (by simp;omega);obtain ⟨oi,pi,li⟩:=ti;obtain ⟨o,p,lx⟩:=ki;simp only [HMk,Tm.op,Tm.n,Tm.kids,List.length_nil,List.length_map,List.length_range,Axf,List.map_append,Axg,Axe,An,Nat.zero_add] at h9 h1' hTi hk1 hb ⊢;simp (maxSteps:=1000000) only [H3,IG,IX,HZ,In,Ik,H4,If,It,I4,Im,HV,Iu,HN,Ie,GY,E0,Fb,Fg,S21,↓XX,XY,↓reduceIte,Nat.reduceBEq,Nat.reduceAdd,Int.reduceEq,Int.reduceLT,Int.reduceLE,↓Av ha,hlt,↓Aj hk1,↓Aj hb,↓AZ hTi,↓D1,↓h1',Hd,wi,↓AJ,XD,heldB,AL,XE];exact h9
def K0 (r:Tm) (op vars:Int):Int:=if op=1 then r.n % (BA (vars+1)) else if op=2 then r.n % 3 else if op=26 then r.n % 5 else if op=25 then r.n else 0
set_option maxRecDepth 20000 in
set_option maxHeartbeats 8000000 in
theorem Ade {n:Nat} (r:Tm) (d:Nat) (vars op:Int) (hop:1≤op∧op≤30) (hv:0≤vars∧vars≤1000) (hd:0<Bo op→0<d) (hd2:d≤1000) (hn:10<n) (T:Nat→Tm)
  (hT:∀i:Nat,(i:Int)<Bo op→BE (SS dt n 21 [.fv (r.kidT i).enc,iv ((d:Int) - 1),iv (vars+Am op i)] ⟨[],[]⟩) (T i).enc) :
  BE (GY (iv op) ⟨[(22020096,.row [iv r.op,iv r.n,.fv (.sl (r.kids.map Tm.enc))] false),(22020097,.row [iv 0,iv 0,.nils] false)],[]⟩ ⟨[],[]⟩ (iv d) (iv vars) (.ptr (.own 22020096) 0) (.ptr (.own 22020097) 0) n (SS dt n)) (Tm.mk op (K0 r op vars) ((List.range (Bo op).toNat).map T)).enc:=by
 have hK0:0≤Bo op:=XS (P:=fun op=>1≤op→0≤Bo op) (by
  intro k hk
  have:∀k:Fin 31,1≤(k.val:Int)→0≤Bo (k.val:Int):=by decide
  exact this ⟨k,hk⟩) ⟨by omega,hop.2⟩ hop.1
 have key:=fun m=>AcW (n:=n) r d vars op m (Bo op).toNat (by omega) T ⟨hv.1,by omega⟩ (fun h=>by have:=hd (by omega);omega) hn (fun i hi=>hT i (by omega));have wv:BA (vars+1)=vars+1:=by rw [Ax]<;>omega
 have q1:=Fj (n:=n) (by omega) r.n (m:=vars+1) (by omega) (by omega);have q2:=Fj (n:=n) (by omega) r.n (m:=3) (by omega) (by omega);have q3:=Fj (n:=n) (by omega) r.n (m:=5) (by omega) (by omega);rw [← wv] at q1;clear hT;obtain ⟨ro,rn,rk⟩:=r;simp only [Tm.n] at q1 q2 q3;simp only [HMk,Tm.op,Tm.n,Tm.kids] at key ⊢;by_cases c1:op=1
 ·have hm:K0 (.mk ro rn rk) op vars=rn % (BA (vars+1)):=by rw [K0,if_pos c1];rfl
  rw [hm];clear hm;have k:=key (rn % (BA (vars+1)));generalize rn % (BA (vars+1))=mm at k q1 ⊢;subst c1;simp (maxSteps:=1000000) only [↓UU4,↓XX,XY,↓reduceIte,Nat.reduceBEq,Nat.reduceAdd,Int.reduceEq,Int.reduceLT,Int.reduceLE,↓Aj q1,↓AJ,XD,heldB,AL,XE];exact k
 by_cases c2:op=2
 ·have hm:K0 (.mk ro rn rk) op vars=rn % 3:=by rw [K0,if_neg c1,if_pos c2];rfl
  rw [hm];clear hm;have k:=key (rn % 3);generalize rn % 3=mm at k q2 ⊢;subst c2;simp (maxSteps:=1000000) only [↓UU4,↓XX,XY,↓reduceIte,Nat.reduceBEq,Nat.reduceAdd,Int.reduceEq,Int.reduceLT,Int.reduceLE,↓Aj q2,↓AJ,XD,heldB,AL,XE];exact k
 by_cases c26:op=26
 ·have hm:K0 (.mk ro rn rk) op vars=rn % 5:=by rw [K0,if_neg c1,if_neg c2,if_pos c26];rfl
  rw [hm];clear hm;have k:=key (rn % 5);generalize rn % 5=mm at k q3 ⊢;subst c26;simp (maxSteps:=1000000) only [↓UU4,↓XX,XY,↓reduceIte,Nat.reduceBEq,Nat.reduceAdd,Int.reduceEq,Int.reduceLT,Int.reduceLE,↓Aj q3,↓AJ,XD,heldB,AL,XE];exact k
 by_cases c25:op=25
 ·have hm:K0 (.mk ro rn rk) op vars=rn:=by rw [K0,if_neg c1,if_neg c2,if_neg c26,if_pos c25];rfl
  rw [hm];clear hm;have k:=key rn;subst c25;simp (maxSteps:=1000000) only [↓UU4,↓XX,XY,↓reduceIte,Nat.reduceBEq,Nat.reduceAdd,Int.reduceEq,Int.reduceLT,Int.reduceLE,↓AJ,XD,heldB,AL,XE];exact k
 ·have hm:K0 (.mk ro rn rk) op vars=0:=by rw [K0,if_neg c1,if_neg c2,if_neg c26,if_neg c25]
  rw [hm];clear hm;have k:=key 0;simp (maxSteps:=1000000) only [↓UU4,↓XX,XY,↓reduceIte,Nat.reduceBEq,Nat.reduceAdd,Int.reduceEq,Int.reduceLT,Int.reduceLE,c1,c2,c25,c26,↓AJ,XD,heldB,AL,XE];exact k
theorem Asb (a b c d e:Int) (s:Nat) (h:Hp) (k:IV→Hp→List Ref→List Ref→Option (IV×Hp)):Ay (Ak EE 75 5 [(0,iv a),(1,iv b),(2,iv c),(3,iv d),(4,iv e)]) s h k=k (.clip [.int .i64 a,.int .i64 b,.int .i64 c,.int .i64 d,.int .i64 e]) h [] [] :=
 Cl (by kernel_rfl:EE.T 75=some ⟨1,24,.slice 3,[.nils]⟩) (by kernel_rfl:EE.T 3=some ⟨1,8,.int .i64,[.fv (.int .i64 0)]⟩) (by decide) (cells:=[.int .i64 a,.int .i64 b,.int .i64 c,.int .i64 d,.int .i64 e]) rfl k
theorem ix5 {β:Type} (j:Nat) (a b c d e x:Int) (h:[a,b,c,d,e][j]?=some x) (k:IV→Option β):AT 1 (.clip [.int .i64 a,.int .i64 b,.int .i64 c,.int .i64 d,.int .i64 e]) (iv j) k=k (.fv (.fp [.int .i64 x] 0)):=by
 have:AT 1 (.clip [.int .i64 a,.int .i64 b,.int .i64 c,.int .i64 d,.int .i64 e]) (iv j) k=AT 1 (.fv (.sl ([a,b,c,d,e].map fun x=>FV.int .i64 x))) (iv j) k:=rfl
 rw [this];exact Bz (el:=.int .i64 x) (by rw [List.getElem?_map,h];rfl) rfl k
theorem Pf {n:Nat} (r:Tm) (d:Nat) (vars op:Int) (hv:0≤vars∧vars≤1000) (hd2:d≤1000) (hn:100<n) (hop:∃j x,r.op % 5=((j:Nat):Int)∧[(1:Int),11,25,15,10][j]?=some x∧op=if d=0∧0<Bo (1+r.op % 30) then x else 1+r.op % 30)
  (h1:1≤op∧op≤30) (hd:0<Bo op→0<d) (T:Nat→Tm) (hT:∀i:Nat,(i:Int)<Bo op→BE (SS dt n 21 [.fv (r.kidT i).enc,iv ((d:Int) - 1),iv (vars+Am op i)] ⟨[],[]⟩) (T i).enc) :
  BE (SS dt (n+1) 21 [.fv r.enc,iv d,iv vars] ⟨[],[]⟩) (Tm.mk op (K0 r op vars) ((List.range (Bo op).toNat).map T)).enc:=by
 obtain ⟨j,x,hj,hx,hop⟩:=hop;have hk1:=Int.emod_nonneg r.op (show (30:Int)≠0 by decide)
 have hk2:=Int.emod_lt_of_pos r.op (show (0:Int)<30 by decide)
 have ht:=Ade (n:=n) r d vars op h1 hv hd hd2 (by omega) T hT;have q1:=Fj (n:=n) (by omega) r.op (m:=30) (by omega) (by omega);have q2:=Fj (n:=n) (by omega) r.op (m:=5) (by omega) (by omega);rw [hj] at q2;have w1:BA (1+r.op % 30)=1+r.op % 30:=by rw [Ax]<;>omega
 have ha:=NO (n:=n) (by omega) (1+r.op % 30);rw [c21];rw [← w1] at ha;have hi5:=fun {β:Type}=>ix5 (β:=β) j 1 11 25 15 10 x hx;rw [← w1] at hop;clear hT h1 hd w1;by_cases hp:d=0∧0<Bo (BA (1+r.op % 30))
 ·rw [if_pos hp] at hop;subst hop;obtain ⟨rfl,hp⟩:=hp;generalize r.op % 30=r30 at q1 ha hp;obtain ⟨ro,rn,rk⟩:=r;have hle:((0:Nat):Int)≤0:=by omega
  simp only [Tm.op,Tm.n,Tm.kids,An] at ht q1 q2 ⊢;simp (maxSteps:=1000000) only [S21,Fg,Fb,E0,↓XX,XY,↓reduceIte,Nat.reduceBEq,Nat.reduceAdd,Int.reduceEq,Int.reduceLT,Int.reduceLE,↓Aj q1,↓Av ha,hp,↓Asb,↓Aj q2,↓hi5,Int.le_refl] at ht ⊢;exact ht
 ·rw [if_neg hp] at hop;subst hop;obtain ⟨ro,rn,rk⟩:=r;simp only [Tm.op,Tm.n,Tm.kids,An] at ht q1 q2 hp ha ⊢;by_cases hd0:d=0
  ·subst hd0;have hp2:¬ 0<Bo (BA (1+ro % 30)):=fun h=>hp ⟨rfl,h⟩;simp (maxSteps:=1000000) only [S21,Fg,Fb,E0,↓XX,XY,↓reduceIte,Nat.reduceBEq,Nat.reduceAdd,Int.reduceEq,Int.reduceLT,Int.reduceLE,↓Aj q1,↓Av ha,hp2,Int.le_refl] at ht ⊢;exact ht
  ·have hle:¬ ((d:Int)≤0):=by omega
   simp (maxSteps:=1000000) only [S21,Fg,Fb,E0,↓XX,XY,↓reduceIte,Nat.reduceBEq,Nat.reduceAdd,Int.reduceEq,Int.reduceLT,Int.reduceLE,↓Aj q1,hle];exact ht
theorem Ano {K W:Nat} {T:Nat→Tm} (h:∀i,i<K→(T i).wt≤W):Tm.wtL ((List.range K).map T)≤K * W:=by
 induction K with
 | zero=>simp [Tm.wtL]
 | succ K ih =>
  have h1:=ih (fun i hi=>h i (by omega));have h2:=h K (by omega);have e:∀(l:List Tm) (x:Tm),Tm.wtL (l++[x])=Tm.wtL l+x.wt:=by
   intro l x
   induction l with
   | nil=>simp [Tm.wtL]
   | cons a l ih=>simp only [List.cons_append,Tm.wtL,ih];omega
  rw [List.range_succ,List.map_append,Axg,Axf,e,Nat.add_mul];omega
theorem AiQ:∀d,d≤100→Asd d:=by
 intro d
 induction d with
 | zero =>
  intro _ r vars h0 h1;have hk1:=Int.emod_nonneg r.op (show (30:Int)≠0 by decide)
  have hk2:=Int.emod_lt_of_pos r.op (show (0:Int)<30 by decide)
  have hj1:=Int.emod_nonneg r.op (show (5:Int)≠0 by decide)
  have hj2:=Int.emod_lt_of_pos r.op (show (0:Int)<5 by decide)
  obtain ⟨j,hj⟩:∃j:Nat,r.op % 5=j:=⟨(r.op % 5).toNat,by omega⟩;obtain ⟨x,hx,hx0⟩:∃x:Int,[(1:Int),11,25,15,10][j]?=some x∧(x=1∨x=11∨x=25∨x=15∨x=10):=by
   have:j=0∨j=1∨j=2∨j=3∨j=4:=by omega
   rcases this with rfl | rfl | rfl | rfl | rfl
   ·exact ⟨1,rfl,by simp⟩
   ·exact ⟨11,rfl,by simp⟩
   ·exact ⟨25,rfl,by simp⟩
   ·exact ⟨15,rfl,by simp⟩
   ·exact ⟨10,rfl,by simp⟩
  have hx1:Bo x=0∧1≤x∧x≤30:=by rcases hx0 with rfl | rfl | rfl | rfl | rfl<;>decide
  obtain ⟨op,hop⟩:∃op:Int,op=if (0:Nat)=0∧0<Bo (1+r.op % 30) then x else 1+r.op % 30:=⟨_,rfl⟩;have hop2:¬ 0<Bo op∧1≤op∧op≤30:=by
   rw [hop];split
   ·omega
   ·rename_i h;exact ⟨fun h2=>h ⟨rfl,h2⟩,by omega,by omega⟩
  have hK:(Bo op).toNat=0:=by omega
  refine ⟨.mk op (K0 r op vars) ((List.range (Bo op).toNat).map fun _=>Tm.z),⟨200,fun n hn=>?_⟩,?_⟩
  ·obtain ⟨n,rfl⟩:∃k,n=k+1:=⟨n - 1,by omega⟩;exact Pf r 0 vars op ⟨h0,by omega⟩ (by omega) (by omega) ⟨j,x,hj,hx,hop⟩ hop2.2 (fun h=>absurd h hop2.1) _ (fun i hi=>absurd (show 0<Bo op by omega) hop2.1)
  ·rw [hK];simp [Tm.wt,Tm.wtL,mkW]
 | succ d ih =>
  intro hd r vars h0 h1;have hk1:=Int.emod_nonneg r.op (show (30:Int)≠0 by decide)
  have hk2:=Int.emod_lt_of_pos r.op (show (0:Int)<30 by decide)
  have hj1:=Int.emod_nonneg r.op (show (5:Int)≠0 by decide)
  have hj2:=Int.emod_lt_of_pos r.op (show (0:Int)<5 by decide)
  obtain ⟨j,hj⟩:∃j:Nat,r.op % 5=j:=⟨(r.op % 5).toNat,by omega⟩;obtain ⟨x,hx⟩:∃x:Int,[(1:Int),11,25,15,10][j]?=some x:=⟨_,List.getElem?_eq_getElem (by simp;omega)⟩;obtain ⟨op,hop⟩:∃op:Int,op=1+r.op % 30:=⟨_,rfl⟩;have hop1:op=if d+1=0∧0<Bo (1+r.op % 30) then x else 1+r.op % 30:=by rw [if_neg (by omega)];exact hop
  have hex:∀i:Nat,∃t:Tm,Ev 21 [.fv (r.kidT i).enc,iv d,iv (vars+Am op i)] (Tm.enc t)∧t.wt≤mkW d:=fun i=>by
   have:=Bi op i
   exact ih (by omega) (r.kidT i) (vars+Am op i) (by omega) (by omega)
  obtain ⟨T,hT⟩:=Classical.axiomOfChoice hex;obtain ⟨N,hN⟩:=An8 (P:=fun i n=>BE (SS dt n 21 [.fv (r.kidT i).enc,iv d,iv (vars+Am op i)] ⟨[],[]⟩) (Tm.enc (T i))) (Bo op).toNat (fun i _=>(hT i).1);refine ⟨.mk op (K0 r op vars) ((List.range (Bo op).toNat).map T),⟨N+200,fun n hn=>?_⟩,?_⟩
  ·obtain ⟨n,rfl⟩:∃k,n=k+1:=⟨n - 1,by omega⟩;exact Pf r (d+1) vars op ⟨h0,by omega⟩ (by omega) (by omega) ⟨j,x,hj,hx,hop1⟩ ⟨by omega,by omega⟩ (fun _=>by omega) T (fun i hi=>by
    have:=hN i (by omega) n (by omega)
    rw [show ((d+1:Nat):Int) - 1=d by omega]
    exact this)
  ·have h4:=KC op
   have:=Ano (K:=(Bo op).toNat) (W:=mkW d) (T:=T) (fun i _=>(hT i).2)
   have h5:(Bo op).toNat * mkW d≤4 * mkW d:=Nat.mul_le_mul_right _ (by omega);simp only [Tm.wt,mkW];omega
theorem Ant {ks:List Bool} {ih:Aa} {f:FuncId} {args:List IV} {vs:List FV} {w:FV} {u:List (Ref×Blk)} {lg:List Ref} {own own':List (Nat×Blk)}
  (hz:∀(e:Option (IV×Hp)) (k:List IV→List Ref→List (Ref×Blk)→List Ref→Option (IV×Hp)),SX args ks ⟨own,[]⟩ [] e k=k (vs.map .fv) [] u lg)
  (hr:Agy (ih f (vs.map .fv) ⟨[],[]⟩) w) (hlay:∀k:Hp→Option (IV×Hp),Ll u ⟨own,[]⟩ k=k ⟨own',[]⟩) (k:IV→Hp→List Ref→List Ref→Option (IV×Hp)) :
  Ah ks false false ih f args ⟨own,[]⟩ k=k (.fv w) ⟨own',[]⟩ lg (Bq u):=by
 rw [J5,hz,AsN hr,hlay]
theorem As2 {g:FuncId} (h:EE.pol.inl g=false) (h1:EE.pol.keep g=[]) (h2:EE.pol.split g=false) (h3:EE.pol.raw g=false) (caps:List FV) (ih:Aa) (xs:List IV) (h0:Hp) (k:IV→Hp→List Ref→List Ref→Option (IV×Hp)) :
  Fs EE ih (.fv (.func (.func g) [] caps)) xs h0 k=Ah [] false false ih g (xs++caps.map .fv) h0 k:=by
 unfold Fs;simp only [callee,h,cond_false,AdP,h1,h2,h3,Axf,List.nil_append]
theorem ApK (fn:Fn) (r:Ref) (o:Nat):CV fn [] [.ptr r o]=.func fn [] [.ptr r o]:=rfl
theorem Arn {d s:Nat} {cs:List FV} {ro:Bool} {own:List (Nat×Blk)} {ext:List Blk} (hl:Aq s own=some (.row (cs.map .fv) ro)) (hn:cs.length≤300) (lg:List Ref) (e:Option (IV×Hp)) (k:FV→List (Ref×Blk)→List Ref→Option (IV×Hp)) :
  EU (d+2) (.ptr (.own s) 0) ⟨own,ext⟩ lg e k=k (.fp cs 0) [(.own s,.row (cs.map .fv) true)] (.own s::lg):=by
 show (C5 (.own s) ⟨own,ext⟩ fun b=>D7 b fun cells=>cond (Nat.ble cells.length 300) (C3 (EU (d+1)) cells ⟨own,ext⟩ (.own s::lg) e fun cs u lg=>k (.fp cs 0) ((.own s,.row cells true)::u) lg) e)=_
 rw [LV,BB,hl];simp only [Option.bind_some,Js,List.length_map];rw [Bl,decide_eq_true hn,c_t,P3]
theorem Ao4 {s1:Nat} {c1:List FV} {r1:Bool} {fn:Fn} {own:List (Nat×Blk)} {ext:List Blk} (h1:Aq s1 own=some (.row (c1.map .fv) r1)) (n1:c1.length≤300)
  (lg:List Ref) (e:Option (IV×Hp)) (k:FV→List (Ref×Blk)→List Ref→Option (IV×Hp)) :
  EU 12 (.func fn [] [.ptr (.own s1) 0]) ⟨own,ext⟩ lg e k=k (.func fn [] [.fp c1 0]) [(.own s1,.row (c1.map .fv) true)] (.own s1::lg):=by
 show (C3 (EU 11) [] ⟨own,ext⟩ lg e fun x u lg=>C3 (EU 11) [.ptr (.own s1) 0] ⟨own,ext⟩ lg e fun y v lg=>OJ u v fun w=>k (.func fn x y) w lg)=_
 rw [fl0,fl1,Arn (d:=9) h1 n1,fl0];rfl
theorem ApF {ih:Aa} {f:FuncId} {x w:FV} {a:IV} {fn:Fn} {s1:Nat} {c1:List FV} {r1:Bool} {own own':List (Nat×Blk)} (hr:Agy (ih f [.fv x,.fv (.func fn [] [.fp c1 0])] ⟨[],[]⟩) w) (ha:A6 a=some x)
  (h1:Aq s1 own=some (.row (c1.map .fv) r1)) (n1:c1.length≤300) (ho:AO s1 (.row (c1.map .fv) true) own=own') (k:IV→Hp→List Ref→List Ref→Option (IV×Hp)) :
  Ah [] false false ih f [a,.func fn [] [.ptr (.own s1) 0]] ⟨own,[]⟩ k=k (.fv w) ⟨own',[]⟩ [.own s1] [.own s1]:=by
 subst ho;refine Ant (vs:=[x,.func fn [] [.fp c1 0]]) (u:=[(.own s1,.row (c1.map .fv) true)]) (lg:=[.own s1]) ?_ hr ?_ k
 ·intro e k;rw [fz1,KU _ _ e _ ha,fz1,Ao4 h1 n1,fz0];rfl
 ·intro k
  show (Gu own s1 fun _=>A2 own s1 (.row (c1.map .fv) true) fun own=>k ⟨own,_⟩)=_
  rw [BB,h1,Option.bind_some,BV]
theorem ArI {g:FuncId} (h:EE.pol.inl g=false) (h1:EE.pol.keep g=[]) (h2:EE.pol.split g=false) (h3:EE.pol.raw g=false) (p:FV) (ih:Aa) (xs:List IV) (h0:Hp) (k:IV→Hp→List Ref→List Ref→Option (IV×Hp)) :
  Fs EE ih (.fv (.func (.func g) [p] [])) xs h0 k=Ah [] false false ih g (.fv p::xs) h0 k:=by
 unfold Fs;simp only [callee,h,cond_false,AdP,h1,h2,h3,Axf,Axg,List.append_nil,List.cons_append,List.nil_append]
theorem Ati (fn:Fn) (p:FV):CV fn [.fv p] []=.fv (.func fn [p] []):=rfl
def okP (op:Int):Bool:=(decide (op=1) || (decide (op=15) || (decide (op=16) || decide (op=17)))) || (decide (20≤op) && decide (op≤29))
mutual
def Tm.plainP:Tm→Bool
 | .mk op _ l=>okP op && Tm.plainPL l
def Tm.plainPL:List Tm→Bool
 | []=>true
 | t::l=>t.plainP && Tm.plainPL l
end
abbrev pF:FV:=.agg [.int .i64 20,.int .i64 29]
abbrev Qc:FV:=.func (.func 42) [pF] []
abbrev Pg:FV:=.func (.func 74) [] [.fp [Qc] 0]
theorem Anp (ih:Aa) (xs:List IV) (h0:Hp) (k:IV→Hp→List Ref→List Ref→Option (IV×Hp)):Fs EE ih (.fv (.func (.func 42) [.agg [.int .i64 20,.int .i64 29]] [])) xs h0 k=Ah [] false false ih 42 (.fv pF::xs) h0 k :=
 ArI (by kernel_rfl) (by kernel_rfl) (by kernel_rfl) (by kernel_rfl) ..
theorem Aac (ih:Aa) (xs:List IV) (h0:Hp) (k:IV→Hp→List Ref→List Ref→Option (IV×Hp)):Fs EE ih (.fv Pg) xs h0 k=Ah [] false false ih 74 (xs++[.fv (.fp [Qc] 0)]) h0 k :=
 As2 (by kernel_rfl) (by kernel_rfl) (by kernel_rfl) (by kernel_rfl) _ ..
theorem AiI {n:Nat} (t:Tm) (b:Bool) (h:BE (SS dt n 42 [.fv pF,.fv t.enc] ⟨[],[]⟩) (.bool b)):BE (SS dt (n+1) 74 [.fv t.enc,.fv (.fp [Qc] 0)] ⟨[],[]⟩) (.bool (!b)):=by
 rw [c74];obtain ⟨o,p,l⟩:=t;rw [An] at h ⊢;simp only [S74,↓XX,XY,↓reduceIte,Nat.reduceBEq,Nat.reduceAdd,Int.reduceEq,Int.reduceLT,Int.reduceLE,↓Anp,↓Aj h];exact Ao _ _
theorem Ads {n:Nat} (ks:List Tm) (hl:ks.length≤900000) (hn:ks.length<n) (h:∀t∈ks,BE (SS dt n 74 [.fv t.enc,.fv (.fp [Qc] 0)] ⟨[],[]⟩) (.bool (!t.plainP))) :
  ∃j:Int,BE (SS dt (n+1) 104 [.fv (.sl (ks.map Tm.enc)),.fv Pg] ⟨[],[]⟩) (.int .i64 j)∧(decide (0≤j)=!Tm.plainPL ks):=by
 rw [At9];simp only [J2,Ko,Tx,↓XX,XY,↓reduceIte,Nat.reduceBEq,Nat.reduceAdd,Int.reduceEq,Int.reduceLT,Int.reduceLE];refine Bb (Q:=fun r=>∃j:Int,BE r (.int .i64 j)∧(decide (0≤j)=!Tm.plainPL ks)) (fun k V H=>∃(pre rest:List Tm),ks=pre++rest∧rest.length=k∧Tm.plainPL rest=Tm.plainPL ks ∧
   V=[.fv (.sl (ks.map Tm.enc)),.fv Pg,iv ks.length,iv pre.length]∧H=⟨[],[]⟩)
  ?_ n ks.length _ _ (by omega) ⟨[],ks,rfl,rfl,rfl,rfl,rfl⟩
 rintro k V H rec ⟨pre,rest,hks,hkl,hr,rfl,rfl⟩ hrec;have hkk:ks.length=pre.length+rest.length:=by rw [hks];simp
 cases rest with
 | nil =>
  have hno:¬ ((pre.length:Int)<ks.length):=by rw [hkk];simp
  refine ⟨-1,?_,by rw [← hr];rfl⟩;simp only [J2,Ko,Mu,Tx,↓XX,XY,↓reduceIte,Nat.reduceBEq,Nat.reduceAdd,Int.reduceEq,Int.reduceLT,Int.reduceLE,hno];exact Ao _ _
 | cons x rest =>
  have hi:(pre.length:Int)<ks.length:=by rw [hkk];simp;omega
  have hg2:=Cu hks;have hs:=h x (by rw [hks];simp);have hwi:BA ((pre.length:Int)+1)=((pre++[x]).length:Int):=(Ax (by omega) (by omega)).trans (by simp);rw [Tm.plainPL] at hr;have h9:=fun e=>hrec rest.length [.fv (.sl (ks.map Tm.enc)),.fv Pg,iv ks.length,iv (pre++[x]).length] _ (by simp only [Axe] at hkl;omega) ⟨pre++[x],rest,by rw [hks];simp,rfl,e,rfl,rfl⟩;generalize x.plainP=b at hs hr;cases b
  ·rw [Bool.false_and] at hr;refine ⟨pre.length,?_,by rw [← hr];simp⟩;obtain ⟨o,p,l⟩:=x;rw [An] at hs;simp only [J2,Ko,Mu,Tx,↓XX,XY,↓reduceIte,Nat.reduceBEq,Nat.reduceAdd,Int.reduceEq,Int.reduceLT,Int.reduceLE,hi,↓Bz (AQ hg2) (Bg _ _ _),↓Cb,↓Aac,List.cons_append,List.nil_append,↓Aj hs];exact Ao _ _
  ·rw [Bool.true_and] at hr;have h9:=h9 hr;obtain ⟨o,p,l⟩:=x;rw [An] at hs;simp only [J2,Ko,Mu,Tx,↓XX,XY,↓reduceIte,Nat.reduceBEq,Nat.reduceAdd,Int.reduceEq,Int.reduceLT,Int.reduceLE,hi,↓Bz (AQ hg2) (Bg _ _ _),↓Cb,↓Aac,List.cons_append,List.nil_append,↓Aj hs,hwi];exact h9
theorem AnB:∀(n:Nat) (t:Tm),4 * t.wt+4<n→t.wt≤900000→BE (SS dt n 42 [.fv pF,.fv t.enc] ⟨[],[]⟩) (.bool t.plainP):=by
 intro n
 induction n using Nat.strongRecOn with
 | ind n ih =>
  intro t hn hw;obtain ⟨op,m,ks⟩:=t;simp only [Tm.wt] at hn hw;obtain ⟨n,rfl⟩:∃k,n=k+1+1+1+1:=⟨n - 4,by omega⟩;have hlen:=EW ks;rw [c42,An,Tm.plainP];obtain ⟨j,hj,hjb⟩:=Ads (n:=n+1) ks (by omega) (by omega) (fun t ht=>AiI t _ (ih n (by omega) t (by have:=CX ht;omega) (by have:=CX ht;omega)));have hc:BE (SS dt (n+1+1+1) 73 [.fv (.sl (ks.map Tm.enc)),.fv Pg] ⟨[],[]⟩) (.bool (!Tm.plainPL ks)):=by
   rw [c73,← hjb];simp only [S73,↓XX,XY,↓reduceIte,Nat.reduceBEq,Nat.reduceAdd,Int.reduceEq,Int.reduceLT,Int.reduceLE,↓Aj hj];exact Ao _ _
  have hcf:Agy (SS dt (n+1+1+1) 73 [.fv (.sl (ks.map Tm.enc)),.fv Pg] ⟨[],[]⟩) (.bool (!Tm.plainPL ks)):=by
   rw [c73,← hjb];simp only [S73,↓XX,XY,↓reduceIte,Nat.reduceBEq,Nat.reduceAdd,Int.reduceEq,Int.reduceLT,Int.reduceLE,↓Aj hj];exact Aka _ _
  cases ho:okP op
  ·rw [Bool.false_and];simp only [okP,Bool.or_eq_false_iff,Bool.and_eq_false_iff,decide_eq_false_iff_not] at ho;obtain ⟨⟨h1,h2,h3,h4⟩,h5⟩:=ho;by_cases h6:op<20
   ·simp only [Ol,M0,Nf,Ov,Oq,OA,MV,S42,↓XX,XY,↓reduceIte,Nat.reduceBEq,Nat.reduceAdd,Int.reduceEq,Int.reduceLT,Int.reduceLE,h1,h2,h3,h4,h6];exact Ao _ _
   ·have h7:29<op:=by omega
    simp only [Ol,M0,Nf,Ov,Oq,OA,MV,S42,↓XX,XY,↓reduceIte,Nat.reduceBEq,Nat.reduceAdd,Int.reduceEq,Int.reduceLT,Int.reduceLE,h1,h2,h3,h4,h6,h7];exact Ao _ _
  ·rw [Bool.true_and];simp only [okP,Bool.or_eq_true,Bool.and_eq_true,decide_eq_true_eq] at ho;have hrest:BE (M0 ⟨[(44040192,.row [iv 20,iv 29] false),(44040193,.row [iv op,iv m,.fv (.sl (ks.map Tm.enc))] false)],[]⟩ (.ptr (.own 44040192) 0) (.ptr (.own 44040193) 0) (SS dt (n+1+1+1))) (.bool (Tm.plainPL ks)):=by
    simp only [Ol,M0,Nf,Ov,Oq,OA,MV,S42,↓XX,XY,↓reduceIte,Nat.reduceBEq,Nat.reduceAdd,Int.reduceEq,Int.reduceLT,Int.reduceLE,Ati,ApK];rw [ApF hcf rfl (by rfl) (by simp) rfl];simp only [↓XX,XY,↓reduceIte,Nat.reduceBEq,Nat.reduceAdd,Int.reduceEq,Int.reduceLT,Int.reduceLE,Bool.not_not];exact Ao _ _
   by_cases h1:op=1
   ·simp only [↓AeV,↓XX,XY,↓reduceIte,Nat.reduceBEq,Nat.reduceAdd,Int.reduceEq,Int.reduceLT,Int.reduceLE,h1];rw [h1] at hrest;exact hrest
   by_cases h2:op=15
   ·simp only [↓AeV,↓XX,XY,↓reduceIte,Nat.reduceBEq,Nat.reduceAdd,Int.reduceEq,Int.reduceLT,Int.reduceLE,h2];rw [h2] at hrest;exact hrest
   by_cases h3:op=16
   ·simp only [↓AeV,↓XX,XY,↓reduceIte,Nat.reduceBEq,Nat.reduceAdd,Int.reduceEq,Int.reduceLT,Int.reduceLE,h3];rw [h3] at hrest;exact hrest
   by_cases h4:op=17
   ·simp only [↓AeV,↓XX,XY,↓reduceIte,Nat.reduceBEq,Nat.reduceAdd,Int.reduceEq,Int.reduceLT,Int.reduceLE,h4];rw [h4] at hrest;exact hrest
   have h5:¬ op<20:=by omega
   have h6:¬ 29<op:=by omega
   simp only [↓AeV,↓XX,XY,↓reduceIte,Nat.reduceBEq,Nat.reduceAdd,Int.reduceEq,Int.reduceLT,Int.reduceLE,h1,h2,h3,h4,h5,h6];exact hrest
theorem Pd {n:Nat} (t:Tm) (hn:4 * t.wt+5<n) (hw:t.wt≤900000):BE (SS dt n 18 [.fv t.enc] ⟨[],[]⟩) (.bool t.plainP):=by
 obtain ⟨n,rfl⟩:∃k,n=k+1:=⟨n - 1,by omega⟩;rw [c18];have h:=AnB n t (by omega) hw;obtain ⟨o,p,l⟩:=t;rw [An] at h ⊢;simp only [S18,↓XX,XY,↓reduceIte,Nat.reduceBEq,Nat.reduceAdd,Int.reduceEq,Int.reduceLT,Int.reduceLE,↓Aj h];exact Ao _ _
def Asz (op n:Int) (ks:List Tm):Prop :=
 ar op=some ks.length∧(op=1→0≤n∧n≤1000000)∧(op=13→n=0)∧(op=5→∃m a b x,ks=[.mk 4 m [a,b],x])∧(op=8∨op=9→∃m a x y,ks=[.mk 7 m [a,x,y]]) ∧
 (op=19→∀x∈ks,x.op≠19)∧(op=30→∀x∈ks,x.op≠30)∧(op=13→∀a b c d,ks=[a,b,c,d]→(b.op≠19∧b.op≠30)∧d.op≠19∧d.op≠30)
mutual
def Tm.good:Tm→Prop
 | .mk op n ks=>Asz op n ks∧Tm.goodL ks
def Tm.goodL:List Tm→Prop
 | []=>True
 | t::l=>t.good∧Tm.goodL l
end
theorem Pj:∀{l:List Tm} {t:Tm},Tm.goodL l→t∈l→t.good
 | x::l,t,h,hm=>by
  rw [Tm.goodL] at h;rcases List.mem_cons.1 hm with rfl | hm
  ·exact h.1
  ·exact Pj h.2 hm
theorem Hz (ev:Int→Int→Tm→Option (RV×Int×Int)) (hev:∀s e t v s',ev s e t=some (v,s',0)→e=0) (op:Int) (env:List RV):∀(l:List Tm) (i:Nat) (s e:Int) (vs:List RV) (s':Int),A0 ev op env i l s e=some (vs,s',0)→e=0
 | [],i,s,e,vs,s',h=>by
  simp only [A0,Axa,Axb] at h;exact h.2.2
 | t::l,i,s,e,vs,s',h=>by
  simp only [A0] at h;split at h
  ·cases hk:A0 ev op env (i+1) l s e with
   | none=>rw [hk] at h;cases h
   | some q =>
    obtain ⟨vs1,s1,e1⟩:=q;rw [hk] at h;simp only [Axd,Axa,Axb] at h;rw [h.2.2] at hk;exact Hz ev hev op env l _ _ _ _ _ hk
  ·split at h
   ·cases h
   ·rename_i v s1 e1 he;cases hk:A0 ev op env (i+1) l s1 e1 with
    | none=>rw [hk] at h;cases h
    | some q =>
     obtain ⟨vs2,s2,e2⟩:=q;rw [hk] at h;simp only [Axd,Axa,Axb] at h;rw [h.2.2] at hk
     have:=Hz ev hev op env l _ _ _ _ _ hk
     rw [this] at he;exact hev _ _ _ _ _ he
theorem Cr {f:Nat} {s e:Int} {t:Tm} {env:List RV} {v:RV} {s':Int} (h:AE f s e t env=some (v,s',0)):e=0:=by
 cases f with
 | zero=>rw [AE] at h;cases h
 | succ f =>
  obtain ⟨op,n,ks⟩:=t;rw [AE] at h;by_cases he:e=0
  ·exact he
  ·rw [if_pos he] at h;simp only [Axa,Axb] at h;exact h.2.2
theorem HB {f:Nat} {s e:Int} {w v:RV} {s':Int} (h:headR f s e w=some (v,s',0)):e=0:=by
 cases f with
 | zero=>rw [headR] at h;cases h
 | succ f =>
  rw [headR] at h;by_cases he:e=0
  ·exact he
  ·rw [if_pos he] at h;simp only [Axa,Axb] at h;exact h.2.2
theorem FN {α:Type} {l:List α} (h:l.length=1):∃a,l=[a]:=by
 match l,h with
 | [a],_=>exact ⟨a,rfl⟩
theorem AiG {α:Type} {l:List α} (h:l.length=2):∃a b,l=[a,b]:=by
 match l,h with
 | [a,b],_=>exact ⟨a,b,rfl⟩
theorem AtH {α:Type} {l:List α} (h:l.length=3):∃a b c,l=[a,b,c]:=by
 match l,h with
 | [a,b,c],_=>exact ⟨a,b,c,rfl⟩
theorem Ux {α:Type} {l:List α} (h:l.length=4):∃a b c d,l=[a,b,c,d]:=by
 match l,h with
 | [a,b,c,d],_=>exact ⟨a,b,c,d,rfl⟩
theorem Y3 {f:Nat} {s s2 m:Int} {a b:Tm} {env:List RV} {r:RV} (h:AE f s 0 (.mk 4 m [a,b]) env=some (r,s2,0)):∃va,r=.node 4 m [va,.clo env b]:=by
 cases f with
 | zero=>rw [AE] at h;cases h
 | succ f =>
  rw [AE] at h;rw [if_neg (by simp)] at h;split at h
  ·cases h
  rw [if_neg (by decide)] at h;split at h
  ·cases h
  split at h
  ·cases h
  split at h
  ·cases h
  rename_i vs s1 e1 hk;have he:=HB h;subst he;simp only [A0] at hk;rw [if_neg (by decide)] at hk;split at hk
  ·cases hk
  rename_i va s3 e3 hva;rw [if_pos (by decide)] at hk;simp only [Axd,Axa,Axb] at hk;obtain ⟨rfl,rfl,rfl⟩:=hk;cases f with
  | zero=>rw [headR] at h;cases h
  | succ f =>
   rw [headR] at h;rw [if_neg (by simp)] at h;split at h
   ·cases h
   have hop:(RV.node 4 m [va,.clo env b]).op=4:=rfl;rw [hop,if_neg (by decide),if_neg (by decide),if_neg (by decide),if_neg (by decide),if_neg (by decide)] at h;simp only [Axa,Axb] at h;exact ⟨va,h.1.symm⟩
theorem Aeb {f:Nat} {s s2 m:Int} {a x y:Tm} {env:List RV} {r:RV} (h:AE f s 0 (.mk 7 m [a,x,y]) env=some (r,s2,0)):∃va vx vy,r=.node 7 m [va,vx,vy]:=by
 cases f with
 | zero=>rw [AE] at h;cases h
 | succ f =>
  rw [AE] at h;rw [if_neg (by simp)] at h;split at h
  ·cases h
  rw [if_neg (by decide)] at h;split at h
  ·cases h
  split at h
  ·cases h
  split at h
  ·cases h
  rename_i vs s1 e1 hk;have he:=HB h;subst he;have hl:∃va vx vy,vs=[va,vx,vy]:=by
   simp only [A0] at hk;rw [if_neg (by decide)] at hk;split at hk
   ·cases hk
   rename_i va s3 e3 hva;rw [if_neg (by decide)] at hk;split at hk
   ·cases hk
   rename_i vx s4 e4 hvx;rw [if_neg (by decide)] at hk;split at hk
   ·cases hk
   rename_i vy s5 e5 hvy;simp only [Axd,Axa,Axb] at hk;exact ⟨va,vx,vy,hk.1.symm⟩
  obtain ⟨va,vx,vy,rfl⟩:=hl;cases f with
  | zero=>rw [headR] at h;cases h
  | succ f =>
   rw [headR] at h;rw [if_neg (by simp)] at h;split at h
   ·cases h
   have hop:(RV.node 7 m [va,vx,vy]).op=7:=rfl;rw [hop,if_neg (by decide),if_neg (by decide),if_neg (by decide),if_neg (by decide),if_neg (by decide)] at h;simp only [Axa,Axb] at h;exact ⟨va,vx,vy,h.1.symm⟩
theorem Hw {f:Nat} {s nd e:Int} {v:RV} {u d:Int} {t:Tm} {s' nd':Int} (h:AV f s nd e v u d=some (t,s',nd',0)):e=0:=by
 cases f with
 | zero=>rw [AV] at h;cases h
 | succ f =>
  rw [AV] at h;split at h
  ·cases h
  by_cases he:e=0
  ·exact he
  ·rw [if_neg (show ¬ (e=0∧(3000<nd+1∨120<d)) from fun h=>he h.1),if_pos he] at h
   simp only [Axa,Axb] at h;exact h.2.2.2
abbrev Lv:=List (List Nat×Nat)
inductive Rule:Int→Nat→Lv→Prop
 | natT:Rule 10 10 []
 | natU:Rule 10 2 []
 | tyT:Rule 14 11 []
 | tyU:Rule 14 2 []
 | uT:Rule 2 12 []
 | uU:Rule 2 2 []
 | liftT:Rule 18 13 [([],1)]
 | liftU:Rule 18 2 [([],1)]
 | piT (a b:Nat) (ha:a<6) (hb:b<6):Rule 3 14 [([],10+a),([a],10+b)]
 | piU (a:Nat) (ha:a<10):Rule 3 2 [([],2),([a],2)]
 | sigT (a b:Nat) (ha:a<6) (hb:b<6):Rule 6 15 [([],10+a),([a],10+b)]
 | sigU (a s0 s1:Nat) (ha:a<10):Rule 6 2 [([],s0),([a],s1)]
 | lam (a s s0:Nat) (ha:a<10):Rule 4 4 [([],s0),([a],s)]
 | pair (s0 s1 s2:Nat):Rule 7 5 [([],s0),([],s1),([],s2)]
 | zero:Rule 11 0 []
 | suc:Rule 12 0 [([],0)]
 | recR (s s0:Nat) (hs:s=0∨s=1):Rule 13 s [([0],s0),([],s),([s,0],s),([],0)]
 | tint:Rule 15 1 []
 | tfun:Rule 16 1 [([],1),([],1)]
 | tpro:Rule 17 1 [([],1),([],1)]
 | quo:Rule 19 3 [([],6)]
 | spl:Rule 30 6 [([],3)]
 | olam:Rule 20 6 [([],1),([6],6)]
 | oapp:Rule 21 6 [([],6),([],6)]
 | opair:Rule 22 6 [([],6),([],6)]
 | ofst:Rule 23 6 [([],6)]
 | osnd:Rule 24 6 [([],6)]
 | oint:Rule 25 6 []
 | oprim:Rule 26 6 [([],6),([],6)]
 | oif:Rule 27 6 [([],6),([],6),([],6)]
 | olet:Rule 28 6 [([],6),([6],6)]
 | ofix:Rule 29 6 [([],1),([6],6)]
theorem El {op:Int} {s:Nat} {sg:Lv} (h:Rule op s sg):op≠1∧op≠5∧op≠8∧op≠9:=by
 cases h<;>decide
theorem GN {op:Int} {s:Nat} {sg:Lv} (h:Rule op s sg) {i:Nat} {bs:List Nat} {s':Nat} (hi:sg[i]?=some (bs,s')):bs.length=Am op i∧∀x∈bs,x<10:=by
 have hlt:=(List.getElem?_eq_some_iff.1 hi).1;have h4:i<4:=by cases h<;>simp only [Axe,List.length_nil] at hlt<;>omega
 have hi4:i=0∨i=1∨i=2∨i=3:=by omega
 cases h<;>rcases hi4 with rfl | rfl | rfl | rfl<;>simp only [List.getElem?_cons_zero,List.getElem?_cons_succ,List.getElem?_nil,Axa,Axb,reduceCtorEq] at hi<;>(obtain ⟨rfl,rfl⟩:=hi;refine ⟨rfl,?_⟩;simp;try omega)
inductive HasT:List Nat→Tm→Nat→Prop
 | var (G:List Nat) (n:Int) (s:Nat) (h0:0≤n) (h:G[n.toNat]?=some s) (hs:s<10):HasT G (.mk 1 n []) s
 | node (G:List Nat) (op n:Int) (ks:List Tm) (s:Nat) (sg:Lv) (hr:Rule op s sg) (hl:ks.length=sg.length) (hk:∀(i:Nat) t bs s',ks[i]?=some t→sg[i]?=some (bs,s')→HasT (bs++G) t s'):HasT G (.mk op n ks) s
 | app (G:List Nat) (n m:Int) (a b x:Tm) (y s s0:Nat) (hs:s<10) (hy:y<10) (ha:HasT G a s0) (hb:HasT (y::G) b s) (hx:HasT G x y):HasT G (.mk 5 n [.mk 4 m [a,b],x]) s
 | fst (G:List Nat) (n m:Int) (a x y:Tm) (s s1 s0:Nat) (hs:s<10) (ha:HasT G a s0) (hx:HasT G x s) (hy:HasT G y s1):HasT G (.mk 8 n [.mk 7 m [a,x,y]]) s
 | snd (G:List Nat) (n m:Int) (a x y:Tm) (s s1 s0:Nat) (hs:s<10) (ha:HasT G a s0) (hx:HasT G x s1) (hy:HasT G y s):HasT G (.mk 9 n [.mk 7 m [a,x,y]]) s
theorem Nk (op d c:Int):∀(l:List Tm) (i j:Nat),(Tm.shiftL op i l d c)[j]?=(l[j]?).map fun t=>t.shift d (c+Am op (i+j))
 | [],_,_=>by simp [Tm.shiftL]
 | t::l,i,0=>by simp [Tm.shiftL]
 | t::l,i,j+1=>by
  simp only [Tm.shiftL,List.getElem?_cons_succ];rw [Nk op d c l (i+1) j,show i+1+j=i+(j+1) by omega]
theorem Nb (op n d:Int) (u:Tm):∀(l:List Tm) (i j:Nat),(Tm.substL op i l n d u)[j]?=(l[j]?).map fun t=>t.subst (n+Am op (i+j)) (d+Am op (i+j)) u
 | [],_,_=>by simp [Tm.substL]
 | t::l,i,0=>by simp [Tm.substL]
 | t::l,i,j+1=>by
  simp only [Tm.substL,List.getElem?_cons_succ];rw [Nb op n d u l (i+1) j,show i+1+j=i+(j+1) by omega]
theorem Jo:∀{l:List Tm} {j:Nat} {t:Tm},l[j]?=some t→t.wt≤Tm.wtL l
 | [],_,_,h=>by simp at h
 | x::l,0,t,h=>by
  simp only [List.getElem?_cons_zero,Axa] at h;subst h;simp only [Tm.wtL];omega
 | x::l,j+1,t,h=>by
  simp only [List.getElem?_cons_succ] at h
  have:=Jo h
  simp only [Tm.wtL];omega
theorem Ai8 {G1 D G2:List Nat} {n:Nat} (h:G1.length≤n):(G1++D++G2)[n+D.length]?=(G1++G2)[n]?:=by
 rw [List.append_assoc,List.getElem?_append_right (by omega),List.getElem?_append_right (by omega),List.getElem?_append_right h];congr 1;omega
theorem AkU {G1 D G2:List Nat} {n:Nat} (h:n<G1.length):(G1++D++G2)[n]?=(G1++G2)[n]?:=by
 rw [List.append_assoc,List.getElem?_append_left h,List.getElem?_append_left h]
theorem U2 {G:List Nat} {t:Tm} {s:Nat} (h:HasT G t s):∀(G1 D G2:List Nat),G=G1++G2→G1.length+G2.length+D.length+2 * t.wt≤9000000000000000000→HasT (G1++D++G2) (t.shift D.length G1.length) s:=by
 induction h with
 | var G n s h0 h hs =>
  intro G1 D G2 hG hb;subst hG;have hn:n.toNat<(G1++G2).length:=(List.getElem?_eq_some_iff.1 h).1;rw [List.length_append] at hn;rw [Tm.shift,Tm.shiftL];by_cases hc:(G1.length:Int)≤n
  ·rw [if_pos ⟨rfl,hc⟩,Ax (by omega) (by omega)];refine HasT.var _ _ _ (by omega) ?_ hs;rw [show (n+(D.length:Int)).toNat=n.toNat+D.length by omega,Ai8 (by omega)]
   exact h
  ·rw [if_neg (fun h=>hc h.2)];refine HasT.var _ _ _ h0 ?_ hs;rw [AkU (by omega)];exact h
 | node G op n ks s sg hr hl hk ih =>
  intro G1 D G2 hG hb;rw [Tm.shift,if_neg (fun h=>(El hr).1 h.1)];refine HasT.node _ _ _ _ _ sg hr (by rw [Ed];exact hl) ?_;intro i t bs s' ht hs;rw [Nk,Nat.zero_add] at ht;cases hx:ks[i]? with
  | none=>rw [hx] at ht;cases ht
  | some x =>
   rw [hx] at ht;simp only [Axd,Axa] at ht;subst ht;have h1:=GN hr hs;have h2:=Bi op i;have h3:=Jo hx;simp only [Tm.wt] at hb
   have:=ih i x bs s' hx hs (bs++G1) D G2 (by rw [hG,List.append_assoc]) (by rw [List.length_append];omega)
   rw [List.length_append,h1.1] at this;rw [show (G1.length:Int)+(Am op i:Int)=((Am op i+G1.length:Nat):Int) by omega]
   simpa using this
 | app G n m a b x y s s0 hs hy ha hb hx iha ihb ihx =>
  intro G1 D G2 hG hbd;simp only [Tm.wt,Tm.wtL] at hbd;have h1:=iha G1 D G2 hG (by omega);have h2:=ihb (y::G1) D G2 (by rw [hG];rfl) (by simp only [Axe];omega);have h3:=ihx G1 D G2 hG (by omega);simp only [Tm.shift,Tm.shiftL];rw [if_neg (by omega),if_neg (by omega)];refine HasT.app _ _ _ _ _ _ y s s0 hs hy ?_ ?_ ?_
  ·simpa [Am] using h1
  ·simpa [Am] using h2
  ·simpa [Am] using h3
 | fst G n m a x y s s1 s0 hs ha hx hy iha ihx ihy =>
  intro G1 D G2 hG hbd;simp only [Tm.wt,Tm.wtL] at hbd;have h1:=iha G1 D G2 hG (by omega);have h2:=ihx G1 D G2 hG (by omega);have h3:=ihy G1 D G2 hG (by omega);simp only [Tm.shift,Tm.shiftL];rw [if_neg (by omega),if_neg (by omega)];refine HasT.fst _ _ _ _ _ _ s s1 s0 hs ?_ ?_ ?_
  ·simpa [Am] using h1
  ·simpa [Am] using h2
  ·simpa [Am] using h3
 | snd G n m a x y s s1 s0 hs ha hx hy iha ihx ihy =>
  intro G1 D G2 hG hbd;simp only [Tm.wt,Tm.wtL] at hbd;have h1:=iha G1 D G2 hG (by omega);have h2:=ihx G1 D G2 hG (by omega);have h3:=ihy G1 D G2 hG (by omega);simp only [Tm.shift,Tm.shiftL];rw [if_neg (by omega),if_neg (by omega)];refine HasT.snd _ _ _ _ _ _ s s1 s0 hs ?_ ?_ ?_
  ·simpa [Am] using h1
  ·simpa [Am] using h2
  ·simpa [Am] using h3
theorem PJ {G:List Nat} {t:Tm} {s:Nat} (h:HasT G t s) (D:List Nat) (hb:G.length+D.length+2 * t.wt≤9000000000000000000):HasT (D++G) (t.shift D.length 0) s:=by
 have:=U2 h [] D G rfl (by simp only [List.length_nil];omega)
 simpa using this
theorem VF {G:List Nat} {t:Tm} {s:Nat} (h:HasT G t s):∀(G1 G2:List Nat) (y:Nat) (u:Tm),G=G1++y::G2→HasT G2 u y→G1.length+G2.length+2 * t.wt+2 * u.wt≤4000000000000000000→HasT (G1++G2) (t.subst G1.length G1.length u) s:=by
 induction h with
 | var G n s h0 h hs =>
  intro G1 G2 y u hG hu hb;subst hG;have hn:n.toNat<(G1++y::G2).length:=(List.getElem?_eq_some_iff.1 h).1;simp only [List.length_append,Axe] at hn;rw [Tm.subst,if_pos rfl];by_cases h1:n=(G1.length:Int)
  ·rw [if_pos h1];rw [show n.toNat=G1.length by omega,List.getElem?_append_right (Nat.le_refl _),Nat.sub_self] at h
   simp only [List.getElem?_cons_zero,Axa] at h;subst h
   have:=PJ hu G1 (by omega)
   exact this
  ·rw [if_neg h1];by_cases h2:(G1.length:Int)<n
   ·rw [if_pos h2,Ax (by omega) (by omega)];refine HasT.var _ _ _ (by omega) ?_ hs;rw [List.getElem?_append_right (by omega)] at h ⊢;rw [show n.toNat - G1.length=((n - 1).toNat - G1.length)+1 by omega,List.getElem?_cons_succ] at h
    exact h
   ·rw [if_neg h2];refine HasT.var _ _ _ h0 ?_ hs;rw [List.getElem?_append_left (by omega)] at h ⊢;exact h
 | node G op n ks s sg hr hl hk ih =>
  intro G1 G2 y u hG hu hb;rw [Tm.subst,if_neg (El hr).1];refine HasT.node _ _ _ _ _ sg hr (by rw [GV];exact hl) ?_;intro i t bs s' ht hs;rw [Nb,Nat.zero_add] at ht;cases hx:ks[i]? with
  | none=>rw [hx] at ht;cases ht
  | some x =>
   rw [hx] at ht;simp only [Axd,Axa] at ht;subst ht;have h1:=GN hr hs;have h2:=Bi op i;have h3:=Jo hx;simp only [Tm.wt] at hb
   have:=ih i x bs s' hx hs (bs++G1) G2 y u (by rw [hG,List.append_assoc]) hu (by rw [List.length_append];omega)
   rw [List.length_append,h1.1] at this;rw [show (G1.length:Int)+(Am op i:Int)=((Am op i+G1.length:Nat):Int) by omega]
   simpa using this
 | app G n m a b x y s s0 hs hy ha hb hx iha ihb ihx =>
  intro G1 G2 z u hG hu hbd;simp only [Tm.wt,Tm.wtL] at hbd;have h1:=iha G1 G2 z u hG hu (by omega);have h2:=ihb (y::G1) G2 z u (by rw [hG];rfl) hu (by simp only [Axe];omega);have h3:=ihx G1 G2 z u hG hu (by omega);simp only [Tm.subst,Tm.substL];rw [if_neg (by omega),if_neg (by omega)];refine HasT.app _ _ _ _ _ _ y s s0 hs hy ?_ ?_ ?_
  ·simpa [Am] using h1
  ·simpa [Am] using h2
  ·simpa [Am] using h3
 | fst G n m a x y s s1 s0 hs ha hx hy iha ihx ihy =>
  intro G1 G2 z u hG hu hbd;simp only [Tm.wt,Tm.wtL] at hbd;have h1:=iha G1 G2 z u hG hu (by omega);have h2:=ihx G1 G2 z u hG hu (by omega);have h3:=ihy G1 G2 z u hG hu (by omega);simp only [Tm.subst,Tm.substL];rw [if_neg (by omega),if_neg (by omega)];refine HasT.fst _ _ _ _ _ _ s s1 s0 hs ?_ ?_ ?_
  ·simpa [Am] using h1
  ·simpa [Am] using h2
  ·simpa [Am] using h3
 | snd G n m a x y s s1 s0 hs ha hx hy iha ihx ihy =>
  intro G1 G2 z u hG hu hbd;simp only [Tm.wt,Tm.wtL] at hbd;have h1:=iha G1 G2 z u hG hu (by omega);have h2:=ihx G1 G2 z u hG hu (by omega);have h3:=ihy G1 G2 z u hG hu (by omega);simp only [Tm.subst,Tm.substL];rw [if_neg (by omega),if_neg (by omega)];refine HasT.snd _ _ _ _ _ _ s s1 s0 hs ?_ ?_ ?_
  ·simpa [Am] using h1
  ·simpa [Am] using h2
  ·simpa [Am] using h3
def PD (op:Int):Option Nat:=if op=10 then some 0 else if op=14 then some 1 else if op=2 then some 2 else if op=18 then some 3 else if op=3 then some 4 else if op=6 then some 5 else none
theorem Akp {op:Int} {s:Nat} {sg:Lv} (h:Rule op s sg) (hs:10≤s):PD op=some (s - 10)∧s<16:=by
 cases h<;>first | omega | exact ⟨rfl,by omega⟩
theorem Cg {G:List Nat} {t:Tm} {s:Nat} (h:HasT G t (10+s)):PD t.op=some s∧s<6:=by
 generalize hq:10+s=q at h;cases h with
 | node _ op n ks _ sg hr hl hk =>
  have:=Akp hr (by omega)
  rw [Tm.op,this.1];exact ⟨by congr 1;omega,by omega⟩
 | _=>omega
theorem Mi {G:List Nat} {t:Tm} {s:Nat} (h:HasT G t s):(s≠3→t.op≠19)∧(s≠6→t.op≠30):=by
 cases h with
 | var=>simp only [Tm.op];omega
 | node _ op n ks _ sg hr hl hk =>
  simp only [Tm.op];cases hr<;>refine ⟨?_,?_⟩<;>intro h1<;>first | decide | exact absurd rfl h1
 | app=>simp only [Tm.op];omega
 | fst=>simp only [Tm.op];omega
 | snd=>simp only [Tm.op];omega
theorem S0:∀{l:List Tm},(∀(i:Nat) t,l[i]?=some t→t.good)→Tm.goodL l
 | [],_=>by rw [Tm.goodL];trivial
 | x::l,h=>by
  rw [Tm.goodL];exact ⟨h 0 x rfl,S0 fun i t hi=>h (i+1) t (by simpa using hi)⟩
theorem Zr {α:Type} {l:List α} {x:α} (h:x∈l):∃i:Nat,l[i]?=some x:=by
 obtain ⟨i,hi,he⟩:=List.mem_iff_getElem.1 h;exact ⟨i,by rw [List.getElem?_eq_getElem hi,he]⟩
theorem Adl {G:List Nat} {t:Tm} {s:Nat} (h:HasT G t s):∀k,t.sc k→k+2 * t.wt≤1000000→t.good:=by
 induction h with
 | var G n s h0 h hs =>
  intro k hsc hk;rw [Tm.sc,if_pos rfl] at hsc;rw [Tm.good,Tm.goodL];refine ⟨⟨rfl,fun _=>⟨h0,by simp only [Tm.wt,Tm.wtL] at hk;omega⟩,?_⟩,trivial⟩;exact ⟨by omega,by omega,by omega,by omega,by omega,by omega⟩
 | node G op n ks s sg hr hl hk ih =>
  intro k hsc hb;have h0:=hsc;rw [Tm.sc,if_neg (El hr).1] at hsc;obtain ⟨h1,h2,h3⟩:=hsc;obtain ⟨o1,o5,o8,o9⟩:=El hr;have hkid:∀(i:Nat) t,ks[i]?=some t→∃bs s',sg[i]?=some (bs,s'):=by
   intro i t hi
   have:i<sg.length:=by rw [← hl];exact (List.getElem?_eq_some_iff.1 hi).1
   exact ⟨_,_,List.getElem?_eq_getElem this⟩
  rw [Tm.good];refine ⟨⟨h1,fun h=>absurd h o1,?_,fun h=>absurd h o5,fun h=>by omega,?_,?_,?_⟩,S0 ?_⟩
  ·rintro rfl;simpa [BK] using h2
  ·rintro rfl x hx;obtain ⟨i,hi⟩:=Zr hx;cases hr;have hi0:i=0:=by
    have:=(List.getElem?_eq_some_iff.1 hi).1
    simp only [Axe,List.length_nil] at hl;omega
   subst hi0;exact (Mi (hk 0 x [] 6 hi rfl)).1 (by decide)
  ·rintro rfl x hx;obtain ⟨i,hi⟩:=Zr hx;cases hr;have hi0:i=0:=by
    have:=(List.getElem?_eq_some_iff.1 hi).1
    simp only [Axe,List.length_nil] at hl;omega
   subst hi0;exact (Mi (hk 0 x [] 3 hi rfl)).2 (by decide)
  ·rintro rfl a b c d rfl;cases hr with
   | recR s s0 hs =>
    have hb:=Mi (hk 1 b [] s rfl rfl);have hd:=Mi (hk 3 d [] 0 rfl rfl);exact ⟨⟨hb.1 (by omega),hb.2 (by omega)⟩,hd.1 (by decide),hd.2 (by decide)⟩
  ·intro i t hi;obtain ⟨bs,s',hs⟩:=hkid i t hi;have hw:=Jo hi;have hbn:=Bi op i;simp only [Tm.wt] at hb
   have:=Lq h3 hi
   rw [Nat.zero_add] at this;exact ih i t bs s' hi hs _ this (by omega)
 | app G n m a b x y s s0 hs hy ha hb hx iha ihb ihx =>
  intro k hsc hbd;simp only [Tm.wt,Tm.wtL] at hbd;simp only [Tm.sc,Tm.scL] at hsc;obtain ⟨q1,q2,⟨q3,q4,q5,q6,_⟩,q7,_⟩:=hsc;simp only [show Am 5 0=0 from rfl,show Am 5 1=0 from rfl,show Am 4 0=0 from rfl,show Am 4 1=1 from rfl,Nat.zero_add] at q5 q6 q7
  have g1:=iha _ q5 (by omega);have g2:=ihb _ q6 (by omega);have g3:=ihx _ q7 (by omega);simp only [Tm.good,Tm.goodL];refine ⟨⟨rfl,by omega,by omega,fun _=>⟨m,a,b,x,rfl⟩,by omega,by omega,by omega,by omega⟩,⟨⟨rfl,by omega,by omega,by omega,by omega,by omega,by omega,by omega⟩,g1,g2,trivial⟩,g3,trivial⟩
 | fst G n m a x y s s1 s0 hs ha hx hy iha ihx ihy =>
  intro k hsc hbd;simp only [Tm.wt,Tm.wtL] at hbd;simp only [Tm.sc,Tm.scL] at hsc;obtain ⟨q1,q2,⟨q3,q4,q5,q6,q7,_⟩,_⟩:=hsc;simp only [show Am 8 0=0 from rfl,show Am 7 0=0 from rfl,show Am 7 (0+1)=0 from rfl,show Am 7 (0+1+1)=0 from rfl] at q5 q6 q7
  have g1:=iha _ q5 (by omega);have g2:=ihx _ q6 (by omega);have g3:=ihy _ q7 (by omega);simp only [Tm.good,Tm.goodL];refine ⟨⟨rfl,by omega,by omega,by omega,fun _=>⟨m,a,x,y,rfl⟩,by omega,by omega,by omega⟩,⟨⟨rfl,by omega,by omega,by omega,by omega,by omega,by omega,by omega⟩,g1,g2,g3,trivial⟩,trivial⟩
 | snd G n m a x y s s1 s0 hs ha hx hy iha ihx ihy =>
  intro k hsc hbd;simp only [Tm.wt,Tm.wtL] at hbd;simp only [Tm.sc,Tm.scL] at hsc;obtain ⟨q1,q2,⟨q3,q4,q5,q6,q7,_⟩,_⟩:=hsc;simp only [show Am 9 0=0 from rfl,show Am 7 0=0 from rfl,show Am 7 (0+1)=0 from rfl,show Am 7 (0+1+1)=0 from rfl] at q5 q6 q7
  have g1:=iha _ q5 (by omega);have g2:=ihx _ q6 (by omega);have g3:=ihy _ q7 (by omega);simp only [Tm.good,Tm.goodL];refine ⟨⟨rfl,by omega,by omega,by omega,fun _=>⟨m,a,x,y,rfl⟩,by omega,by omega,by omega⟩,⟨⟨rfl,by omega,by omega,by omega,by omega,by omega,by omega,by omega⟩,g1,g2,g3,trivial⟩,trivial⟩
end Idl
end Go.Proofs.Ytkfecngimlcfoaa

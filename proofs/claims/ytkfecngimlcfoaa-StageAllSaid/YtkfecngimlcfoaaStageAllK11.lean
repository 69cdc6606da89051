/-
  Texts of a proof, part 11: an ideal semantics of the program, its functions in shallow form, contracts of them. No statement of the seat is proved here.
-/
import Derived.Test.YtkfecngimlcfoaaStageAllK10
set_option linter.all false
set_option maxRecDepth 20000
set_option maxHeartbeats 16000000
noncomputable section
namespace Go.Proofs.Ytkfecngimlcfoaa
namespace Idl
theorem ixg {β:Type} {l:List FV} {i:Nat} {x:FV} (h:l[i]?=some x) (hx:x.cells=[x]) (k:IV->Option β):AN 1 (.fv (.sl l)) (iv i) k=k (.fv (.fp [x] 0)):=by
 rw [Bt h (by rw [hx];rfl),hx]
section
variable {β:Type} (a b c:FV) (l:List FV) (cs:List FV) (o:Nat) (v:PV) (k:IV->Option β)
theorem AzA:AN 1 (.fv (.sl (.fp cs o::l))) (iv 0) k=k (.fv (.fp [.fp cs o] 0)):=ixg (i:=0) rfl rfl k
theorem AyX:AN 1 (.fv (.sl (v.enc::l))) (iv 0) k=k (.fv (.fp [v.enc] 0)):=ixg (i:=0) rfl (Ew v) k
theorem Azs:AN 1 (.fv (.sl (a :: .fp cs o::l))) (iv 1) k=k (.fv (.fp [.fp cs o] 0)):=ixg (i:=1) rfl rfl k
theorem Azy:AN 1 (.fv (.sl (a::v.enc::l))) (iv 1) k=k (.fv (.fp [v.enc] 0)):=ixg (i:=1) rfl (Ew v) k
theorem Azm:AN 1 (.fv (.sl (a::b :: .fp cs o::l))) (iv 2) k=k (.fv (.fp [.fp cs o] 0)):=ixg (i:=2) rfl rfl k
theorem Azi:AN 1 (.fv (.sl (a::b::v.enc::l))) (iv 2) k=k (.fv (.fp [v.enc] 0)):=ixg (i:=2) rfl (Ew v) k
theorem Ayl:AN 1 (.fv (.sl (a::b::c :: .fp cs o::l))) (iv 3) k=k (.fv (.fp [.fp cs o] 0)):=ixg (i:=3) rfl rfl k
theorem AyT:AN 1 (.fv (.sl (a::b::c::v.enc::l))) (iv 3) k=k (.fv (.fp [v.enc] 0)):=ixg (i:=3) rfl (Ew v) k
end
def XI:=ABY @AzA<|ABY @Azs<|ABY @Azm<|ABY @Ayl<|ABY @AyX<|ABY @Azy<|ABY @Azi @AyT
theorem AwO {β:Type} (o p:Nat) (cs:List FV) (k:IV->Option β):Ac o (.fv (.fp cs p)) k=k (.fv (.fp cs (p+o))):=by rw [QF]
theorem AtB (s:Nat) (b:Blk) (l:List (Nat×Blk)):Ao s ((s,b)::l)=some b:=by simp only [Ao,if_true]
theorem AnX {f:Nat} (he:Aot f):Alw (f+1):=by
 intro v u i l m m' hev r n hn;obtain ⟨n,rfl⟩:∃k,n=k+1:=⟨n - 1,by omega⟩;rw [Azc];cases v with
 | nil=>rw [opP] at hev;cases hev
 | mk op nn k t e =>
 obtain ⟨bo,bn,bk⟩:=t;rw [opP] at hev;split at hev
 ·cases hev
 ·rename_i hf;cases hb:bk[i]? with
  | none=>rw [hb] at hev;cases hev
  | some b =>
   rw [hb] at hev;simp only at hev;have hw:=Ask (n:=n) e l (by omega) (by omega);have hc:=he _ _ _ _ _ hev r n (by omega);rw [AV];obtain ⟨b1,b2,b3⟩:=b;have hg:=AM hb;rw [Am] at hc;simp only [AaF,ZJ,AqF,↓XX,XY,↓reduceIte,Nat.reduceBEq,Nat.reduceAdd,Int.reduceEq,Int.reduceLT,Int.reduceLE,↓Ag hw,↓Bt hg (Bg _ _ _),↓Cd,↓AwO,↓All _ _ hc];exact AG _ _ _
theorem Um {n:Nat} (hn:0<n) (op nn:Int) (o0 n0:Int) (k0:List PV) (t0:Tm) (e0:List PV) (t:Tm) (e:List PV) (want:Int) (hk:o0=want->∃x,k0=[x]) :
  AZ (SS dt n 109 [.fv (PV.mk op nn [.mk o0 n0 k0 t0 e0] t e).enc,iv want] ⟨[],[]⟩) (if o0=want then k0.headD .nil else .nil).enc:=by
 obtain ⟨n,rfl⟩:∃k,n=k+1:=⟨n - 1,by omega⟩;rw [Azo];obtain ⟨bo,bn,bk⟩:=t;obtain ⟨co,cn,ck⟩:=t0;rw [AV,AB5,AB4,AV];by_cases h:o0=want
 ·obtain ⟨x,rfl⟩:=hk h;rw [if_pos h];simp only [SO,RY,RO,Aju,↓XX,XY,↓reduceIte,Nat.reduceBEq,Nat.reduceAdd,Int.reduceEq,Int.reduceLT,Int.reduceLE,↓XI,h,List.headD_cons];exact An _ _
 ·rw [if_neg h,Hj];simp only [SO,RY,RO,Aju,↓XX,XY,↓reduceIte,Nat.reduceBEq,Nat.reduceAdd,Int.reduceEq,Int.reduceLT,Int.reduceLE,↓XI,h];exact An _ _
theorem AoT {f:Nat} (hc:Aob f) (ho:Alw f):Auz (f+1):=by
 intro v u m m' hr hev r n hn;obtain ⟨n,rfl⟩:∃k,n=k+1:=⟨n - 1,by omega⟩;cases v with
 | nil=>rw [stP] at hev;cases hev
 | mk op nn k t e =>
 obtain ⟨bo,bn,bk⟩:=t;rw [stP.eq_def] at hev;simp only at hev;simp only [PV.op] at hr ⊢;by_cases h5:op=5
 ·subst h5;rw [if_pos rfl] at hev;rw [show JJ 5=94 from rfl,c94]
  match k,hev with
  | [.mk o0 n0 k0 t0 e0,x],hev =>
   simp only at hev;obtain ⟨co,cn,ck⟩:=t0;by_cases h4:o0=4
   ·subst h4;rw [if_pos rfl] at hev;have hq:=ho _ _ _ _ _ _ hev r n (by omega);rw [AV] at hq ⊢;simp only [AB5,AB4,AV] at hq ⊢;simp only [Wt,Xb,W9,S94,↓XX,XY,↓reduceIte,Nat.reduceBEq,Nat.reduceAdd,Int.reduceEq,Int.reduceLT,Int.reduceLE,↓XI,↓Awz,↓TS _ _ hq];exact AG _ _ _
   ·rw [if_neg h4] at hev;simp only [ABZ,AB0] at hev;obtain ⟨rfl,rfl⟩:=hev;rw [AV];simp only [AB5,AB4,AV,Hj];simp only [Wt,Xb,W9,S94,↓XX,XY,↓reduceIte,Nat.reduceBEq,Nat.reduceAdd,Int.reduceEq,Int.reduceLT,Int.reduceLE,↓XI,h4];exact AG _ _ _
 ·rw [if_neg h5] at hev;by_cases h8:op=8\/op=9
  ·rw [if_pos h8] at hev;rw [show JJ op=95 by rcases h8 with rfl | rfl<;>rfl,c95]
   match k,hev with
   | [.mk o0 n0 k0 t0 e0],hev =>
    simp only at hev;obtain ⟨co,cn,ck⟩:=t0;by_cases h7:o0=7
    ·subst h7;rw [if_pos rfl] at hev
     match k0,hev with
     | [w,x,y],hev =>
      simp only [ABZ,AB0] at hev;obtain ⟨rfl,rfl⟩:=hev;rw [AV];simp only [AB5,AB4,AV];rcases h8 with rfl | rfl
      ·simp only [QR,RH,RB,Q3,S95,↓XX,XY,↓reduceIte,Nat.reduceBEq,Nat.reduceAdd,Int.reduceEq,Int.reduceLT,Int.reduceLE,↓XI];exact AG _ _ _
      ·simp only [QR,RH,RB,Q3,S95,↓XX,XY,↓reduceIte,Nat.reduceBEq,Nat.reduceAdd,Int.reduceEq,Int.reduceLT,Int.reduceLE,↓XI];exact AG _ _ _
    ·rw [if_neg h7] at hev;simp only [ABZ,AB0] at hev;obtain ⟨rfl,rfl⟩:=hev;rw [AV];simp only [AB5,AB4,AV,Hj];simp only [QR,RH,RB,Q3,S95,↓XX,XY,↓reduceIte,Nat.reduceBEq,Nat.reduceAdd,Int.reduceEq,Int.reduceLT,Int.reduceLE,↓XI,h7];exact AG _ _ _
  ·rw [if_neg h8] at hev;by_cases h13:op=13
   ·subst h13;rw [if_pos rfl] at hev;rw [show JJ 13=96 from rfl,c96]
    match k,hev with
    | [p0,z,p2,.mk o3 n3 k3 t3 e3],hev =>
     simp only at hev;obtain ⟨co,cn,ck⟩:=t3;by_cases h11:o3=11
     ·subst h11;rw [if_pos rfl] at hev;simp only [ABZ,AB0] at hev;obtain ⟨rfl,rfl⟩:=hev;rw [AV];simp only [AB5,AB4,AV];simp only [Q9,Rl,Sn,T8,Ro,RX,SU,RI,Ra,Rr,S96,↓XX,XY,↓reduceIte,Nat.reduceBEq,Nat.reduceAdd,Int.reduceEq,Int.reduceLT,Int.reduceLE,↓XI];exact AG _ _ _
     ·rw [if_neg h11] at hev;by_cases h12:o3=12
      ·subst h12;rw [if_pos rfl] at hev
       match k3,hev with
       | [x],hev =>
        simp only at hev;cases hcc:ctP f (.mk 13 nn [.nil,z,.nil,x] (.mk bo bn bk) e) m with
        | none=>rw [hcc] at hev;cases hev
        | some q =>
         obtain ⟨h,m1⟩:=q;rw [hcc] at hev;have hq1:=hc _ _ _ _ hcc r n (by omega);have hq2:=ho _ _ _ _ _ _ hev r n (by omega);rw [AV] at hq1 hq2 ⊢;simp only [AB5,AB4,AV,Hj] at hq1 hq2 ⊢;simp only [Q9,Rl,Sn,T8,Ro,RX,SU,RI,Ra,Rr,S96,↓XX,XY,↓reduceIte,Nat.reduceBEq,Nat.reduceAdd,Int.reduceEq,Int.reduceLT,Int.reduceLE,↓XI,↓Axw,↓Avo]
         (try unfold is0);rw [Ap2 hq1 (s0:=100669443) (AtB ..) rfl (by simp)]
         simp only [↓XX,XY,↓reduceIte,Nat.reduceBEq,Nat.reduceAdd,Int.reduceEq,Int.reduceLT,Int.reduceLE,↓Avy,↓TS _ _ hq2];exact AG _ _ _
      ·rw [if_neg h12] at hev;simp only [ABZ,AB0] at hev;obtain ⟨rfl,rfl⟩:=hev;rw [AV];simp only [AB5,AB4,AV,Hj];simp only [Q9,Rl,Sn,T8,Ro,RX,SU,RI,Ra,Rr,S96,↓XX,XY,↓reduceIte,Nat.reduceBEq,Nat.reduceAdd,Int.reduceEq,Int.reduceLT,Int.reduceLE,↓XI,h11,h12];exact AG _ _ _
   ·rw [if_neg h13] at hev
    match k,hev with
    | [.mk o0 n0 k0 t0 e0],hev =>
     simp only at hev;have h30:op=30\/op=19:=by
      simp only [CW,Bool.or_eq_true,beq_iff_eq] at hr;omega
     have hu:((o0=(if op=30 then 19 else 30)->∃x,k0=[x])/\(if o0=(if op=30 then 19 else 30) then k0.headD .nil else .nil)=u/\m=m'):=by
      by_cases ho0:o0=(if op=30 then 19 else 30)
      ·rw [if_pos ho0] at hev
       match k0,hev with
       | [x],hev =>
        simp only [ABZ,AB0] at hev;obtain ⟨rfl,rfl⟩:=hev;exact ⟨fun _=>⟨_,rfl⟩,by rw [if_pos ho0];rfl,rfl⟩
      ·rw [if_neg ho0] at hev;simp only [ABZ,AB0] at hev;obtain ⟨rfl,rfl⟩:=hev;exact ⟨fun h=>absurd h ho0,by rw [if_neg ho0],rfl⟩
     obtain ⟨hu1,rfl,rfl⟩:=hu;rcases h30 with rfl | rfl
     ·rw [show JJ 30=97 from rfl,c97]
      rw [show (if (30:Int)=30 then (19:Int) else 30)=19 from rfl] at hu1 ⊢
      have hw:=Um (n:=n) (by omega) 30 nn o0 n0 k0 t0 e0 (.mk bo bn bk) e 19 hu1;simp only [S97,↓XX,XY,↓reduceIte,Nat.reduceBEq,Nat.reduceAdd,Int.reduceEq,Int.reduceLT,Int.reduceLE,↓Ag hw];exact AG _ _ _
     ·rw [show JJ 19=98 from rfl,c98]
      rw [show (if (19:Int)=30 then (19:Int) else 30)=30 from rfl] at hu1 ⊢
      have hw:=Um (n:=n) (by omega) 19 nn o0 n0 k0 t0 e0 (.mk bo bn bk) e 30 hu1;simp only [S98,↓XX,XY,↓reduceIte,Nat.reduceBEq,Nat.reduceAdd,Int.reduceEq,Int.reduceLT,Int.reduceLE,↓Ag hw];exact AG _ _ _
end Idl
end Go.Proofs.Ytkfecngimlcfoaa
namespace Go.Proofs.Ytkfecngimlcfoaa
namespace Idl
theorem AnE (ih:Aj) (xs:List IV) (h0:Hp) (k:IV->Hp->List Ref->List Ref->Option (IV×Hp)):FN EE ih (.fv (.func (.func 110) [] [])) xs h0 k=A0 [] false false ih 110 xs h0 k :=
 AvW (by kernel_rfl) (by kernel_rfl) (by kernel_rfl) (by kernel_rfl) ..
theorem Ah5 {n:Nat} (hn:0<n) (op:Int) (i:Nat):AZ (SS dt n 110 [iv op,iv i] ⟨[],[]⟩) (.int .i64 (Af op i)):=by
 obtain ⟨n,rfl⟩:∃k,n=k+1:=⟨n - 1,by omega⟩;rw [Ayu];unfold Af;by_cases h:op=3\/op=4\/op=6\/op=20\/op=28\/op=29
 ·rw [if_pos h];by_cases hi:i=1
  ·subst hi;rcases h with rfl | rfl | rfl | rfl | rfl | rfl<;>(simp only [↓UU8,↓XX,XY,↓reduceIte,Nat.reduceBEq,Nat.reduceAdd,Int.reduceEq,Int.reduceLT,Int.reduceLE];exact An _ _)
  ·have hi':¬ (i:Int)=1:=by omega
   rcases h with rfl | rfl | rfl | rfl | rfl | rfl<;>(simp only [↓UU8,↓XX,XY,↓reduceIte,Nat.reduceBEq,Nat.reduceAdd,Int.reduceEq,Int.reduceLT,Int.reduceLE,hi',hi];exact An _ _)
 ·rw [if_neg h];have h3:¬ op=3:=fun e=>h (by simp [e]);have h4:¬ op=4:=fun e=>h (by simp [e]);have h6:¬ op=6:=fun e=>h (by simp [e]);have h20:¬ op=20:=fun e=>h (by simp [e]);have h28:¬ op=28:=fun e=>h (by simp [e]);have h29:¬ op=29:=fun e=>h (by simp [e]);by_cases h13:op=13
  ·subst h13;by_cases h0:i=0
   ·subst h0;simp only [↓UU8,↓XX,XY,↓reduceIte,Nat.reduceBEq,Nat.reduceAdd,Int.reduceEq,Int.reduceLT,Int.reduceLE];exact An _ _
   ·have h0':¬ (i:Int)=0:=by omega
    by_cases h2:i=2
    ·subst h2;simp only [↓UU8,↓XX,XY,↓reduceIte,Nat.reduceBEq,Nat.reduceAdd,Int.reduceEq,Int.reduceLT,Int.reduceLE];exact An _ _
    ·have h2':¬ (i:Int)=2:=by omega
     simp only [↓UU8,↓XX,XY,↓reduceIte,Nat.reduceBEq,Nat.reduceAdd,Int.reduceEq,Int.reduceLT,Int.reduceLE,h0,h0',h2,h2'];exact An _ _
  ·simp only [↓UU8,↓XX,XY,↓reduceIte,Nat.reduceBEq,Nat.reduceAdd,Int.reduceEq,Int.reduceLT,Int.reduceLE,h3,h4,h6,h20,h28,h29,h13];exact An _ _
theorem Ug {n:Nat} (hn:1<n) (op:Int) (i:Nat):AZ (SS dt n 101 [iv op,iv i] ⟨[],[]⟩) (.int .i64 (Af op i)):=by
 obtain ⟨n,rfl⟩:∃k,n=k+1:=⟨n - 1,by omega⟩;rw [Azb];have h:=Ah5 (n:=n) (by omega) op i;simp only [AoI,↓XX,XY,↓reduceIte,Nat.reduceBEq,Nat.reduceAdd,Int.reduceEq,Int.reduceLT,Int.reduceLE,↓AnE,↓Ag h];exact An _ _
theorem Akk {β:Type}:∀(l:List IV) (i:Nat) (x:IV) (k:List IV->Option β),i<l.length->Hn l i x k=k (l.set i x)
 | [],i,x,k,h=>absurd h (by simp)
 | y::l,0,x,k,_=>rfl
 | y::l,i+1,x,k,h=>by
  show Hn l i x (fun t=>k (y::t))=_
  rw [Akk l i x _ (by simpa using h)];rfl
def nils (n:Nat):List PV:=List.replicate n .nil
theorem Am6 (n:Nat):PF n [IV.fv .nilp]=((nils n).map PV.enc).map IV.fv:=by
 induction n with
 | zero=>rfl
 | succ n ih=>rw [PF,ih];rfl
theorem AsK {n:Nat} (hn:n<=1000) (s:Nat) (own:List (Nat×Blk)) (ext:List Blk) (k:IV->Hp->List Ref->List Ref->Option (IV×Hp)) :
  Ay (BW EE s 127 (iv n) (iv n)) s ⟨own,ext⟩ k=C0 own s (A4 own s (.row (((nils n).map PV.enc).map IV.fv) false) fun own=>k (.slc (.own s) 1 n) ⟨own,ext⟩ [] [.own s]):=by
 have:BW EE s 127 (iv n) (iv n)=.ret { eff:={ val:=.slc (.own s) 1 n },new:=some (.row (((nils n).map PV.enc).map IV.fv) false) }:=by
  simp only [BW,tPs,tPp,W7];rw [if_pos ⟨by omega,by omega,by omega,by decide,by decide⟩,Int.toNat_natCast,Am6]
 rw [this];unfold Ay;simp only [Rd.runLog,J8,C1,Cy];rfl
theorem AtX (v:PV):IV.one (.fv v.enc)=true:=by
 cases v with
 | nil=>rfl
 | mk op n k t e=>obtain ⟨bo,bn,bk⟩:=t;rw [AV];rfl
theorem AqI {β:Type} {n i:Nat} (h:i<n) (r:Ref) (k:IV->Option β):AN 1 (.slc r 1 n) (iv i) k=k (.ptr r i):=by
 have e1:Nat.ble (Nat.succ i) n=true:=by rw [Bl];exact decide_eq_true h
 show (AhM (iv i) fun n'=>cond (and (Nat.ble (Nat.succ n') n) (Nat.beq 1 1)) (Ek (n' * 1) fun o=>k (.ptr r o)) none)=_
 show (cond (and (Nat.ble (Nat.succ i) n) (Nat.beq 1 1)) (Ek (i * 1) fun o=>k (.ptr r o)) none)=_
 rw [e1];simp only [BQ,Nat.mul_one];rfl
theorem AqJ {done:List PV} {r:Nat} {β:Type} (v:PV) (k:List IV->Option β):Hn (((done++nils (r+1)).map PV.enc).map IV.fv) done.length (.fv v.enc) k=k ((((done++[v])++nils r).map PV.enc).map IV.fv):=by
 rw [Akk _ _ _ _ (by simp [nils])];congr 1;simp only [nils,List.replicate_succ,List.map_append,AB5,List.append_assoc,List.cons_append,List.nil_append,AB4];rw [List.set_append_right _ _ (by simp)];simp
abbrev Hev (op m:Int) (ks:List Tm) (env kk:List PV) (ro:Bool) (s w r e:Int):Hp :=
 ⟨[(74448896,.row [iv op,iv m,.fv (.sl (ks.map Tm.enc))] false),(74452999,.row ((kk.map PV.enc).map .fv) ro),(74453003,.row [iv op,iv m,.slc (.own 74452999) 1 ks.length,iv op,iv m,.fv (.sl (ks.map Tm.enc)),.fv (PV.encEnv env)] ro)],MX s w r e⟩
theorem GO {base rm:List Nat} {vals:List IV} {own:List (Nat×Blk)} {s w r e:Int} (hb:rm.any base.contains=false) (hf:AR rm vals own []=true) (k:Hp->Option (IV×Hp)) :
  Bx base rm vals ⟨own,MX s w r e⟩ k=k ⟨Ik rm vals own [],MX s w r e⟩:=Alh (fun j=>An0 s w r e j) hb hf k
theorem Ajz {op m:Int} {ks:List Tm} {env kk:List PV} {s w r e:Int} (hl:kk.length=ks.length) (h3:ks.length<=300):Bm (some (.ptr (.own 74453003) 0,Hev op m ks env kk false s w r e)) (PV.mk op m kk (.mk op m ks) env).enc (MX s w r e):=by
 rw [AV];have hl':ks.length=(kk.map PV.enc).length:=by simp [hl]
 have:=fun (e0:Option (IV×Hp)) (K:FV->List (Ref×Blk)->List Ref->Option (IV×Hp))=>Aw8 (s:=74453003) (s2:=74452999) (own:=(Hev op m ks env kk false s w r e).own) (ext:=MX s w r e) (es:=kk.map PV.enc) (ro:=false) (ro2:=false) (a:=.int .i64 op) (b:=.int .i64 m) (c:=.int .i64 op) (d:=.int .i64 m) (t:=.sl (ks.map Tm.enc)) (x:=PV.encEnv env)
  (by rw [<- hl'];rfl) (by rfl) (by simp [hl];omega) (by simp only [List.mem_map];rintro x ⟨v,_,rfl⟩;exact Ov v) [] e0 K
 exact ⟨_,_,rfl,_,_,this⟩
theorem Rw {ev:Tm->M3->Option (PV×M3)} {op:Int}:∀{i:Nat} {l:List Tm} {m:M3} {vs:List PV} {m':M3},R2 ev op i l m=some (vs,m')->vs.length=l.length
 | _,[],m,vs,m',h=>by simp only [R2,ABZ,AB0] at h;rw [<- h.1];rfl
 | i,t::l,m,vs,m',h=>by
  rw [R2] at h;split at h
  ·cases hk:R2 ev op (i+1) l m with
   | none=>rw [hk] at h;cases h
   | some q =>
    rw [hk] at h;simp only [AB2,ABZ,AB0] at h;rw [<- h.1,AB3,AB3,Rw (vs:=q.1) (m':=q.2) hk]
  ·split at h
   ·cases h
   ·rename_i v m2 _;cases hk:R2 ev op (i+1) l m2 with
    | none=>rw [hk] at h;cases h
    | some q =>
     rw [hk] at h;simp only [AB2,ABZ,AB0] at h;rw [<- h.1,AB3,AB3,Rw (vs:=q.1) (m':=q.2) hk]
theorem AoE {f:Nat} (he:Aot f) (hc:Aob f):Aot (f+1):=by
 intro env t m0 m' v hev r n hn;obtain ⟨n,rfl⟩:∃k,n=k+1:=⟨n - 1,by omega⟩;rw [c71];obtain ⟨op,m,ks⟩:=t;rw [Am];rw [RU] at hev;cases ht:HY m0 with
 | none=>rw [ht] at hev;cases hev
 | some m1 =>
 rw [ht] at hev;simp only at hev;have hc1:=Sg ht r (n:=n) (by omega);by_cases h1:op=1
 ·rw [if_pos h1] at hev;split at hev
  ·rename_i hv;simp only [ABZ,AB0] at hev;obtain ⟨rfl,rfl⟩:=hev;have hvar:=Wq (n:=n) env m hv.1 hv.2.1 (by omega);simp only [↓UU9,↓XX,XY,↓reduceIte,Nat.reduceBEq,Nat.reduceAdd,Int.reduceEq,Int.reduceLT,Int.reduceLE,↓FI _ _ hc1,h1,↓Ag hvar];exact AG _ _ _
  ·cases hev
 ·rw [if_neg h1] at hev;split at hev
  ·cases hev
  rename_i hb;have hk3:ks.length<=300:=by omega
  by_cases h2:m1.e≠0
  ·rw [if_pos h2] at hev;simp only [ABZ,AB0] at hev;obtain ⟨rfl,rfl⟩:=hev;simp only [M2,M6,Ni,Ny,MS,M1,MU,Nq,Nd,M7,Nn,Nf,Na,MZ,S71,↓XX,XY,↓reduceIte,Nat.reduceBEq,Nat.reduceAdd,Int.reduceEq,Int.reduceLT,Int.reduceLE,↓FI _ _ hc1,h1,h2,↓AsK (show ks.length<=1000 by omega),↓Ak1]
   exact Ajz (kk:=nils ks.length) (by simp [nils]) hk3
  ·rw [if_neg h2] at hev;have h2:m1.e=0:=by simpa using h2
   ·
    cases hkk:R2 (fun t m=>RU f env t m) op 0 ks m1 with
    | none=>rw [hkk] at hev;cases hev
    | some q =>
    obtain ⟨vs,m2⟩:=q;rw [hkk] at hev;simp only at hev;simp only [h2] at hc1;simp only [M2,M6,Ni,Ny,MS,M1,MU,Nq,Nd,M7,Nn,Nf,Na,MZ,S71,↓XX,XY,↓reduceIte,Nat.reduceBEq,Nat.reduceAdd,Int.reduceEq,Int.reduceLT,Int.reduceLE,↓FI _ _ hc1,h1,h2,↓AsK (show ks.length<=1000 by omega),↓Ak1,↓GO,↓AI,XD,heldB,AR,XE,FB,DQ]
    have hlen:=Rw hkk;refine Bc (Q:=fun r=>Bm r _ _) (fun k V H=>∃(pre rest:List Tm) (done:List PV) (m3:M3) (us:List PV),ks=pre++rest/\rest.length=k/\done.length=pre.length /\
      V=[.ptr (.ext 0) 0,.fv (PV.encEnv env),.ptr (.own 74448896) 0,.ptr (.own 74453003) 0,.fv (.sl (ks.map Tm.enc)),iv ks.length,iv pre.length] /\
      H=Hev op m ks env (done++nils rest.length) false m3.s m3.w r m3.e /\
      R2 (fun t m=>RU f env t m) op pre.length rest m3=some (us,m2)/\done++us=vs)
     ?_ n ks.length _ _ (by omega) ⟨[],ks,[],m1,vs,rfl,rfl,rfl,rfl,by rw [h2];rfl,hkk,rfl⟩
    rintro k V H rec ⟨pre,rest,done,m3,us,hk,hl,hdl,rfl,rfl,hkids,hvs⟩ hrec;have hkl:ks.length=pre.length+rest.length:=by rw [hk];simp
    cases rest with
    | nil =>
     simp only [R2,ABZ,AB0] at hkids;obtain ⟨rfl,rfl⟩:=hkids;rw [List.append_nil] at hvs;subst hvs;have hno:¬ ((pre.length:Int)<ks.length):=by rw [hkl];simp
     have hz:done++nils ([]:List Tm).length=done:=by simp [nils]
     rw [hz];by_cases h4:m3.e≠0
     ·rw [if_pos h4] at hev;simp only [ABZ,AB0] at hev;obtain ⟨rfl,rfl⟩:=hev;simp only [↓UU9,↓XX,XY,↓reduceIte,Nat.reduceBEq,Nat.reduceAdd,Int.reduceEq,Int.reduceLT,Int.reduceLE,hno,h4];exact Ajz hlen hk3
     ·rw [if_neg h4] at hev;have h4:m3.e=0:=by simpa using h4
      have hcc:=hc _ _ _ _ hev r n (by omega);rw [AV] at hcc;simp only [h4] at hcc;have hlm:(done.map PV.enc).length=ks.length:=by simp [hlen]
      simp only [↓UU9,↓XX,XY,↓reduceIte,Nat.reduceBEq,Nat.reduceAdd,Int.reduceEq,Int.reduceLT,Int.reduceLE,hno,h4]
      (try unfold is0);rw [Anm hcc (s0:=74453003) (s2:=74452999) (own':=(Hev op m ks env done true m3.s m3.w r 0).own) (by rfl) (by rfl) hlm (by decide) (by omega) (by simp only [List.mem_map];rintro x ⟨v,_,rfl⟩;exact Ov v) (by rfl)]
      exact AG _ _ _
    | cons x rest =>
     have hi:(pre.length:Int)<ks.length:=by rw [hkl];simp;omega
     have hg:=CC hk;have hb:=Ug (n:=n) (by omega) op pre.length;have hwi:BK ((pre.length:Int)+1)=((pre++[x]).length:Int):=(Av (by omega) (by omega)).trans (by simp);simp only [R2] at hkids;simp only [AB3] at hl;by_cases hbn:0<Af op pre.length
     ·rw [if_pos hbn] at hkids;have hbn':¬ ((Af op pre.length:Nat):Int)=0:=by omega
      obtain ⟨o,p,l⟩:=x;simp only [↓UU9,↓XX,XY,↓reduceIte,Nat.reduceBEq,Nat.reduceAdd,Int.reduceEq,Int.reduceLT,Int.reduceLE,hi,↓Bt (AM hg) (Bg _ _ _),↓Cd,↓Ag hb,hbn',hwi,↓GO,↓AI,XD,heldB,AR,XE,FB,DQ];cases hkk2:R2 (fun t m=>RU f env t m) op (pre.length+1) rest m3 with
      | none=>rw [hkk2] at hkids;cases hkids
      | some q =>
      obtain ⟨us',m4⟩:=q;rw [hkk2] at hkids;simp only [AB2,ABZ,AB0] at hkids;obtain ⟨rfl,rfl⟩:=hkids;refine hrec rest.length _ _ (by omega) ⟨pre++[.mk o p l],rest,done++[.nil],m3,us',by rw [hk];simp,rfl,by simp [hdl],rfl,?_,by simpa using hkk2,by rw [<- hvs];simp⟩;rw [show done++[.nil]++nils rest.length=done++nils (rest.length+1) by simp [nils,List.replicate_succ]]
     ·rw [if_neg hbn] at hkids;have hbn':((Af op pre.length:Nat):Int)=0:=by omega
      cases hev2:RU f env x m3 with
      | none=>rw [hev2] at hkids;cases hkids
      | some q =>
      obtain ⟨y,m4⟩:=q;rw [hev2] at hkids;simp only at hkids;cases hkk2:R2 (fun t m=>RU f env t m) op (pre.length+1) rest m4 with
      | none=>rw [hkk2] at hkids;cases hkids
      | some q =>
      obtain ⟨us',m5⟩:=q;rw [hkk2] at hkids;simp only [AB2,ABZ,AB0] at hkids;obtain ⟨rfl,rfl⟩:=hkids;have hce:=he _ _ _ _ _ hev2 r n (by omega);obtain ⟨o,p,l⟩:=x;rw [Am] at hce;have hin:pre.length<ks.length:=by omega
      have hoff:=fun {β:Type}=>AqJ (done:=done) (r:=rest.length) (β:=β);rw [hdl] at hoff;simp only [↓UU9,↓XX,XY,↓reduceIte,Nat.reduceBEq,Nat.reduceAdd,Int.reduceEq,Int.reduceLT,Int.reduceLE,hi,↓Bt (AM hg) (Bg _ _ _),↓Cd,↓Ag hb,hbn',hwi,↓All _ _ hce,↓AqI hin,↓AtX,↓hoff,↓GO,↓AI,XD,heldB,AR,XE,FB,DQ];exact hrec rest.length _ _ (by omega) ⟨pre++[.mk o p l],rest,done++[y],m4,us',by rw [hk];simp,rfl,by simp [hdl],rfl,rfl,by simpa using hkk2,by rw [<- hvs];simp⟩
theorem MC:∀f,Aot f/\Aob f/\Auz f/\Alw f
 | 0=>⟨(fun _ _ _ _ _ h=>by rw [RU.eq_def] at h;cases h),(fun _ _ _ _ h=>by rw [ctP.eq_def] at h;cases h),(fun _ _ _ _ _ h=>by rw [stP.eq_def] at h;cases h),(fun _ _ _ _ _ _ h=>by rw [opP.eq_def] at h;cases h)⟩
 | f+1=>⟨AoE (MC f).1 (MC f).2.1,Ap4 (MC f).2.2.1,AoT (MC f).2.1 (MC f).2.2.2,AnX (MC f).1⟩
def Uf (below:Int) (b:Nat):List PV:=(List.range b).map fun (j:Nat)=>PV.var (below+(j:Int))
theorem AjL (u:Int) (b:Nat):Uf u (b+1)=Uf u b++[PV.var (u+b)]:=by simp [Uf,List.range_succ]
theorem Kl (u:Int) (b:Nat):(Uf u b).length=b:=by simp [Uf]
def bkK (bk:PV->Int->M3->Int->Option (Tm×M3×Int)) (opn:Nat->List PV->M3->Option (PV×M3)) (op below:Int):Nat->List PV->M3->Int->Option (Option (List Tm)×M3×Int)
 | _,[],m,r=>some (some [],m,r)
 | i,x::l,m,r=>match (if 0<Af op i then opn i (Uf below (Af op i)) m else some (x,m)) with
  | none=>none
  | some (y,m)=>if m.e≠0 then some (none,m,r) else match bk y (below+Af op i) m r with
   | none=>none
   | some (t,m,r)=>(bkK bk opn op below (i+1) l m r).map fun (ts,m,r)=>(ts.map (t::·),m,r)
def Ve:Nat->PV->Int->Int->M3->Int->Option (Tm×M3×Int)
 | 0,_,_,_,_,_=>none
 | f+1,v,below,deep,m,r =>
  if r<0\/1000000000<r\/below<0\/1000000<below\/deep<0\/1000000<deep then none else
  match HY ⟨m.s,m.w,if m.e=0/\(3000<r+1\/120<deep) then 5 else m.e⟩ with
  | none=>none
  | some m=>if m.e≠0 then some (.z,m,r+1) else match v with
   | .nil=>none
   | .mk op n k t e=>if op=1 then (if n < -2305843009213693952\/2305843009213693952<n then none else some (.mk 1 (below - 1 - n) [],m,r+1))
    else if f<=k.length+4\/100<k.length then none
    else match bkK (fun v below m r=>Ve f v below (deep+1) m r) (fun i l m=>opP f (.mk op n k t e) i l m) op below 0 k m (r+1) with
     | none=>none
     | some (none,m,r)=>some (.z,m,r)
     | some (some ts,m,r)=>some (.mk op n ts,m,r)
def Aqk (f:Nat):Prop:=∀(v:PV) (below deep:Int) (m:M3) (r:Int) (t:Tm) (m':M3) (r':Int),Ve f v below deep m r=some (t,m',r')->∀n,f+1<=n ->
 Bm (SS dt n 72 [.ptr (.ext 0) 0,.fv v.enc,iv below,iv deep] ⟨[],MX m.s m.w r m.e⟩) t.enc (MX m'.s m'.w r' m'.e)
theorem IA (j:Nat) (v:FV):FK (.ext j) (.fv v)=true:=rfl
theorem AmG {ih:Aj} {n:Nat} {v w:FV} {below deep s u r e e1:Int} {ext:List Blk} (hr:0<=r) (hr2:r<=1000000000) (he1:(if e=0/\(3000<r+1\/120<deep) then (5:Int) else e)=e1)
  (h:Bm (Fu ih ⟨[(75497472,.row [iv 0,iv 0,.nils] false)],MX s u (r+1) e1⟩ (.ptr (.ext 0) 0) (.ptr (.own 75497472) 0) (.fv v) (iv below) ⟨[],MX s u r e⟩ (iv deep) n) w ext) :
  Bm (S72 ih n (.ptr (.ext 0) 0) (.fv v) (iv below) (iv deep) ⟨[],MX s u r e⟩) w ext:=by
 have wr:BK (r+1)=r+1:=by rw [Av]<;>omega
 have key:S72 ih n (.ptr (.ext 0) 0) (.fv v) (iv below) (iv deep) ⟨[],MX s u r e⟩=Fu ih ⟨[(75497472,.row [iv 0,iv 0,.nils] false)],MX s u (r+1) e1⟩ (.ptr (.ext 0) 0) (.ptr (.own 75497472) 0) (.fv v) (iv below) ⟨[],MX s u r e⟩ (iv deep) n:=by
  by_cases h0:e=0
  ·by_cases h3:3000<r+1
   ·rw [if_pos ⟨h0,.inl h3⟩] at he1;subst he1;simp only [D0,Dw,D7,Ds,D6,DJ,CP,D9,DW,DR,DI,D1,Fy,Eb,D8,Du,D5,DB,Ec,DE,DX,D3,Fp,Dy,DL,DU,Dv,Dt,DY,DO,DK,Dx,S72,↓XX,XY,↓reduceIte,Nat.reduceBEq,Nat.reduceAdd,Int.reduceEq,Int.reduceLT,Int.reduceLE,↓IA,wr,h0,h3]
   ·by_cases h4:120<deep
    ·rw [if_pos ⟨h0,.inr h4⟩] at he1;subst he1;simp only [D0,Dw,D7,Ds,D6,DJ,CP,D9,DW,DR,DI,D1,Fy,Eb,D8,Du,D5,DB,Ec,DE,DX,D3,Fp,Dy,DL,DU,Dv,Dt,DY,DO,DK,Dx,S72,↓XX,XY,↓reduceIte,Nat.reduceBEq,Nat.reduceAdd,Int.reduceEq,Int.reduceLT,Int.reduceLE,↓IA,wr,h0,h3,h4]
    ·rw [if_neg (by omega)] at he1;subst he1;simp only [D0,Dw,D7,Ds,D6,DJ,CP,D9,DW,DR,DI,D1,Fy,Eb,D8,Du,D5,DB,Ec,DE,DX,D3,Fp,Dy,DL,DU,Dv,Dt,DY,DO,DK,Dx,S72,↓XX,XY,↓reduceIte,Nat.reduceBEq,Nat.reduceAdd,Int.reduceEq,Int.reduceLT,Int.reduceLE,↓IA,wr,h0,h3,h4]
  ·rw [if_neg (by omega)] at he1;subst he1;simp only [D0,Dw,D7,Ds,D6,DJ,CP,D9,DW,DR,DI,D1,Fy,Eb,D8,Du,D5,DB,Ec,DE,DX,D3,Fp,Dy,DL,DU,Dv,Dt,DY,DO,DK,Dx,S72,↓XX,XY,↓reduceIte,Nat.reduceBEq,Nat.reduceAdd,Int.reduceEq,Int.reduceLT,Int.reduceLE,↓IA,wr,h0]
 rw [key];exact h
def AU (ev:Int->Int->Tm->Option (RV×Int×Int)) (op:Int) (env:List RV):Nat->List Tm->Int->Int->Option (List RV×Int×Int)
 | _,[],s,e=>some ([],s,e)
 | i,t::l,s,e=>if 0<Af op i then (AU ev op env (i+1) l s e).map fun (vs,s,e)=>(.clo env t::vs,s,e) else
  match ev s e t with
  | none=>none
  | some (v,s,e)=>(AU ev op env (i+1) l s e).map fun (vs,s,e)=>(v::vs,s,e)
mutual
def AA:Nat->Int->Int->Tm->List RV->Option (RV×Int×Int)
 | 0,_,_,_,_=>none
 | f+1,s,e,.mk op m ks,env =>
  if e≠0 then some (.zero,s,e) else if 900000<env.length then none else
  if op=1 then
   if m<env.length then (if 0<=m then (env[(env.length - 1 - m).toNat]?).map fun v=>(v,s,e) else none)
   else if m<=4611686018427387904 then some (.var (env.length - 1 - m),s,e) else none
  else if f<=ks.length then none else if 900000<ks.length then none else
  match AU (fun s e t=>AA f s e t env) op env 0 ks s e with
  | none=>none
  | some (vs,s,e)=>headR f s e (.node op m vs)
def headR:Nat->Int->Int->RV->Option (RV×Int×Int)
 | 0,_,_,_=>none
 | f+1,s,e,v =>
  if e≠0 then some (v,s,e) else if s<0\/1000000<s then none else
  if v.op=5 then (match v.k[0]? with
   | none=>none
   | some k0=>if k0.op=4 then
     (if s+1<=1000 then (match k0.k[1]?,v.k[1]? with
      | some c,some x=>if 900000<c.env.length then none else AA f (s+1) 0 c.b (c.env++[x])
      | _,_=>none) else some (v,s+1,17))
    else some (v,s,e))
  else if v.op=8\/v.op=9 then (match v.k[0]? with
   | none=>none
   | some k0=>if k0.op=7 then
     (if s+1<=1000 then (k0.k[(1+v.op - 8).toNat]?).map fun x=>(x,s+1,0) else some (v,s+1,17))
    else some (v,s,e))
  else if v.op=30 then (match v.k[0]? with
   | none=>none
   | some k0=>if k0.op=19 then
     (if s+1<=1000 then (k0.k[0]?).map fun x=>(x,s+1,0) else some (v,s+1,17))
    else some (v,s,e))
  else if v.op=19 then (match v.k[0]? with
   | none=>none
   | some k0=>if k0.op=30 then
     (if s+1<=1000 then (k0.k[0]?).map fun x=>(x,s+1,0) else some (v,s+1,17))
    else some (v,s,e))
  else if v.op=13 then (match v.k[0]?,v.k[1]?,v.k[2]?,v.k[3]? with
   | some k0,some k1,some k2,some k3 =>
    if k3.op=11 then (if s+1<=1000 then some (k1,s+1,0) else some (v,s+1,17))
    else if k3.op=12 then
     (if s+1<=1000 then (match k3.k[0]? with
      | none=>none
      | some x=>(match headR f (s+1) 0 (.node 13 0 [k0,k1,k2,x]) with
       | none=>none
       | some (h,s,e)=>if 900000<k2.env.length then none else AA f s e k2.b (k2.env++[x,h])))
     else some (v,s+1,17))
    else some (v,s,e)
   | _,_,_,_=>none)
  else some (v,s,e)
end
theorem Wz {β:Type} {l:List RV} {i:Nat} {v:RV} (h:l[i]?=some v) (k:IV->Option β):AN 1 (.fv (.sl (l.map RV.enc))) (iv i) k=k (.fv (.fp [v.enc] 0)):=by
 have h1:(l.map RV.enc)[i]?=some v.enc:=by rw [List.getElem?_map,h];rfl
 rw [Bt h1 (OR v),AhO]
def R1 (f:Nat):Prop:=∀(s e:Int) (t:Tm) (env:List RV) (v:RV) (s' e' nd:Int),AA f s e t env=some (v,s',e')->∀n,f+1<=n ->
 Bm (SS dt n 62 [.ptr (.ext 0) 0,.fv t.enc,.fv (.sl (env.map RV.enc))] ⟨[],[.row [iv s,iv nd,iv e] false]⟩) v.enc [.row [iv s',iv nd,iv e'] false]
def Tc (f:Nat):Prop:=∀(s e:Int) (v w:RV) (s' e' nd:Int),headR f s e v=some (w,s',e')->∀n,f+1<=n ->
 Bm (SS dt n 88 [.ptr (.ext 0) 0,.fv v.enc] ⟨[],[.row [iv s,iv nd,iv e] false]⟩) w.enc [.row [iv s',iv nd,iv e'] false]
abbrev Aci (op m:Int) (ks:List Tm) (K:IV) (tok:List (Nat×Blk)) (s nd e:Int):Hp :=
 ⟨(65011712,.row [iv op,iv m,.fv (.sl (ks.map Tm.enc))] false)::(65018885,.row [iv op,iv m,K,.nils,iv 0,iv 0,.nils] false)::tok,[.row [iv s,iv nd,iv e] false]⟩
theorem Axl {op m:Int} (l:List RV):(RV.node op m l).enc=.fp [.int .i64 op,.int .i64 m,.sl (l.map RV.enc),.sl [],.int .i64 0,.int .i64 0,.sl []] 0:=by rw [RV.node,Tm.z,I3];rfl
theorem Ahr {f:Nat} (he:R1 f) (hh:Tc f):R1 (f+1):=by
 intro s e t env v s' e' nd hev n hn;obtain ⟨n,rfl⟩:∃k,n=k+1:=⟨n - 1,by omega⟩;rw [c62];obtain ⟨op,m,ks⟩:=t;rw [Am];rw [AA] at hev;by_cases h0:e≠0
 ·rw [if_pos h0] at hev;simp only [ABZ,AB0] at hev;obtain ⟨rfl,rfl,rfl⟩:=hev;simp only [Ji,Je,I9,Jk,I2,JA,Jt,IZ,Jl,Jn,Jr,IW,II,IH,Jy,Ja,IJ,IM,IR,Ju,JH,Jz,S62,↓XX,XY,↓reduceIte,Nat.reduceBEq,Nat.reduceAdd,Int.reduceEq,Int.reduceLT,Int.reduceLE,h0];exact ⟨_,_,rfl,_,_,fun _ _=>rfl⟩
 ·have h0':e=0:=by omega
  subst h0';rw [if_neg h0] at hev;by_cases hlen:900000<env.length
  ·rw [if_pos hlen] at hev;cases hev
  ·rw [if_neg hlen] at hev;by_cases h1:op=1
   ·rw [if_pos h1] at hev;subst h1;by_cases h2:m<env.length
    ·rw [if_pos h2] at hev;by_cases h3:0<=m
     ·rw [if_pos h3] at hev;cases hg:env[(env.length - 1 - m).toNat]? with
      | none=>rw [hg] at hev;cases hev
      | some u =>
       rw [hg] at hev;simp only [AB2,ABZ,AB0] at hev;obtain ⟨rfl,rfl,rfl⟩:=hev;have e1:BK ((env.length:Int) - 1)=env.length - 1:=by rw [Av]<;>omega
       have e2:BK ((env.length:Int) - 1 - m)=(((env.length:Int) - 1 - m).toNat:Int):=by rw [Av]<;>omega
       simp only [Ji,Je,I9,Jk,I2,JA,Jt,IZ,Jl,Jn,Jr,IW,II,IH,Jy,Ja,IJ,IM,IR,Ju,JH,Jz,S62,↓XX,XY,↓reduceIte,Nat.reduceBEq,Nat.reduceAdd,Int.reduceEq,Int.reduceLT,Int.reduceLE,h2,e1,e2,↓Wz hg];exact AG _ _ _
     ·rw [if_neg h3] at hev;cases hev
    ·rw [if_neg h2] at hev;by_cases h3:m<=4611686018427387904
     ·rw [if_pos h3] at hev;simp only [ABZ,AB0] at hev;obtain ⟨rfl,rfl,rfl⟩:=hev;have e1:BK ((env.length:Int) - 1)=env.length - 1:=by rw [Av]<;>omega
      have e2:BK ((env.length:Int) - 1 - m)=(env.length:Int) - 1 - m:=by rw [Av]<;>omega
      simp only [Ji,Je,I9,Jk,I2,JA,Jt,IZ,Jl,Jn,Jr,IW,II,IH,Jy,Ja,IJ,IM,IR,Ju,JH,Jz,S62,↓XX,XY,↓reduceIte,Nat.reduceBEq,Nat.reduceAdd,Int.reduceEq,Int.reduceLT,Int.reduceLE,h2,e1,e2];exact ⟨_,_,rfl,_,_,fun _ _=>rfl⟩
     ·rw [if_neg h3] at hev;cases hev
   ·rw [if_neg h1] at hev;by_cases hf:f<=ks.length
    ·rw [if_pos hf] at hev;cases hev
    ·rw [if_neg hf] at hev;by_cases hk9:900000<ks.length
     ·rw [if_pos hk9] at hev;cases hev
     ·rw [if_neg hk9] at hev;cases hkg:AU (fun s e t=>AA f s e t env) op env 0 ks s 0 with
      | none=>rw [hkg] at hev;cases hev
      | some q =>
      obtain ⟨vs,s1,e1⟩:=q;rw [hkg] at hev;simp only at hev;simp only [Ji,Je,I9,Jk,I2,JA,Jt,IZ,Jl,Jn,Jr,IW,II,IH,Jy,Ja,IJ,IM,IR,Ju,JH,Jz,S62,↓XX,XY,↓reduceIte,Nat.reduceBEq,Nat.reduceAdd,Int.reduceEq,Int.reduceLT,Int.reduceLE,h1,↓AI,XD,heldB,AR,XE];refine Bc (Q:=fun r=>Bm r _ _) (fun k V H=>∃pre rest done s2 e2 us s3 e3,ks=pre++rest/\rest.length=k/\done.length=pre.length/\V=[.ptr (.ext 0) 0,.fv (.sl (env.map RV.enc)),.ptr (.own 65011712) 0,.ptr (.own 65018885) 0,iv pre.length] /\
       (
        (pre=[]/\H=Aci op m ks .nils [] s2 nd e2) \/
        (∃r,(r=65024014\/r=65025038)/\pre≠[]/\H=Aci op m ks (.app (.own r) (done.map RV.enc)) [(r,.tok done.length 1)] s2 nd e2)) /\
       AU (fun s e t=>AA f s e t env) op env pre.length rest s2 e2=some (us,s3,e3)/\headR f s3 e3 (.node op m (done++us))=some (v,s',e'))
       ?_ n ks.length _ _ (by omega) ⟨[],ks,[],s,0,vs,s1,e1,rfl,rfl,rfl,rfl,.inl ⟨rfl,rfl⟩,hkg,hev⟩
      rintro k V H rec ⟨pre,rest,done,s2,e2,us,s3,e3,hk,hl,hdl,rfl,hH,hkids,hhead⟩ hrec;have hkl:ks.length=pre.length+rest.length:=by rw [hk];simp
      have zenc:∀l:List RV,(RV.node op m l).enc=.fp [.int .i64 op,.int .i64 m,.sl (l.map RV.enc),.sl [],.int .i64 0,.int .i64 0,.sl []] 0:=fun l=>Axl l;cases rest with
      | nil =>
       simp only [AU,ABZ,AB0] at hkids;obtain ⟨rfl,rfl,rfl⟩:=hkids;rw [List.append_nil] at hhead;have hc:=hh s2 e2 _ v s' e' nd hhead n (by omega);rw [zenc] at hc;have hpre:ks=pre:=by simpa using hk
       subst hpre;rcases hH with ⟨rfl,rfl⟩ | ⟨r,hr,hne,rfl⟩
       ·have hd:done=[]:=List.length_eq_zero_iff.1 hdl;subst hd;have hcall:=fun k=>Rt (k:=k) (own:=[(65011712,.row [iv op,iv m,.fv (.sl (([]:List Tm).map Tm.enc))] false),(65018885,.row [iv op,iv m,.nils,.nils,iv 0,iv 0,.nils] false)])
         (cells:=[iv op,iv m,.nils,.nils,iv 0,iv 0,.nils]) (ro:=false) (s:=65018885) hc (Ct ..) (by simp [Ao]) rfl (by simp)
        simp only [↓Vm,↓XX,XY,↓reduceIte,Nat.reduceBEq,Nat.reduceAdd,Int.reduceEq,Int.reduceLT,Int.reduceLE,Int.lt_irrefl,↓hcall];exact AG _ _ _
       ·have hcall:=fun k=>Rt (k:=k) (own:=[(65011712,.row [iv op,iv m,.fv (.sl (ks.map Tm.enc))] false),(65018885,.row [iv op,iv m,.app (.own r) (done.map RV.enc),.nils,iv 0,iv 0,.nils] false),(r,.tok done.length 1)])
         (cells:=[iv op,iv m,.app (.own r) (done.map RV.enc),.nils,iv 0,iv 0,.nils]) (ro:=false) (s:=65018885) hc (Ct ..) (by simp [Ao]) rfl (by simp)
        simp only [↓Vm,↓XX,XY,↓reduceIte,Nat.reduceBEq,Nat.reduceAdd,Int.reduceEq,Int.reduceLT,Int.reduceLE,Int.lt_irrefl,↓hcall];exact AG _ _ _
      | cons t rest =>
       have hi:(pre.length:Int)<ks.length:=by rw [hkl];simp;omega
       have hg:=CC hk;have hb:=F6 (n:=n) (by omega) op pre.length;have hwi:BK ((pre.length:Int)+1)=((pre++[t]).length:Int):=(Av (by omega) (by omega)).trans (by simp);have hbi:(0<(Af op pre.length:Int)) ↔ 0<Af op pre.length:=by omega
       have hd9:done.length+1<=1000000:=by omega
       simp only [AU] at hkids;simp only [AB3] at hl;by_cases hbp:0<Af op pre.length
       ·rw [if_pos hbp] at hkids;cases hkk:AU (fun s e t=>AA f s e t env) op env (pre.length+1) rest s2 e2 with
        | none=>rw [hkk] at hkids;cases hkids
        | some q =>
        obtain ⟨us',s4,e4⟩:=q;rw [hkk] at hkids;simp only [AB2,ABZ,AB0] at hkids;obtain ⟨rfl,rfl,rfl⟩:=hkids;have hbp':0<(Af op pre.length:Int):=by omega
        have hce:(RV.clo env t).enc=.fp [.int .i64 0,.int .i64 0,.sl [],.sl (env.map RV.enc),.int .i64 t.op,.int .i64 t.n,.sl (t.kids.map Tm.enc)] 0:=by rw [Ng];rfl
        have hnext:∀tk,(tk=65024014\/tk=65025038)->Bm (rec [.ptr (.ext 0) 0,.fv (.sl (env.map RV.enc)),.ptr (.own 65011712) 0,.ptr (.own 65018885) 0,iv (pre++[t]).length]
          (Aci op m ks (.app (.own tk) ((done++[RV.clo env t]).map RV.enc)) [(tk,.tok (done++[RV.clo env t]).length 1)] s2 nd e2)) v.enc [.row [iv s',iv nd,iv e'] false]:=fun tk htk =>
         hrec rest.length _ _ (by omega) ⟨pre++[t],rest,done++[.clo env t],s2,e2,us',s4,e4,by rw [hk];simp,rfl,by simp [hdl],rfl,.inr ⟨tk,htk,by simp,rfl⟩,by simpa using hkk,by simpa using hhead⟩
        obtain ⟨o,p,l⟩:=t;simp only [Tm.op,Tm.n,Tm.kids] at hce;have ha0:=fun {s own ext k}=>Amq (RV.clo env (.mk o p l)) s own ext k;have ha1:=fun {r s own ext k}=>Wm hd9 (RV.clo env (.mk o p l)) r s own ext k;rw [hce] at ha0 ha1;have hbs:=fun (tl:List (Nat×Blk)) (K:IV) (own:List (Nat×Blk)) (hown:own=(65011712,.row [iv op,iv m,.fv (.sl (ks.map Tm.enc))] false)::(65018885,.row [iv op,iv m,K,.nils,iv 0,iv 0,.nils] false)::tl) (hl:Ao 65024012 own=some (.row [iv 0,iv 0,.nils,.fv (.sl (env.map RV.enc)),iv o,iv p,.fv (.sl (l.map Tm.enc))] false)) (own':List (Nat×Blk)) (ho) s ext (k:IV->Hp->List Ref->List Ref->Option (IV×Hp)) =>
         AwJ (E:=EE) (own:=own) (own':=own') tVs tVp rfl ⟨_,rfl⟩ hl (fc:=[.int .i64 0,.int .i64 0,.sl [],.sl (env.map RV.enc),.int .i64 o,.int .i64 p,.sl (l.map Tm.enc)]) rfl (by simp) ho s ext k
        rcases hH with ⟨hp0,rfl⟩ | ⟨r,hr,hne,rfl⟩
        ·have hd0:done=[]:=List.length_eq_zero_iff.1 (by rw [hdl,hp0];rfl);subst hd0;have h9:=hnext _ (.inl rfl);simp only [List.nil_append,AB5,AB4,AB3,List.length_nil] at h9;rw [hce] at h9;have hb0:=fun s ext k=>hbs [(65024012,.row [iv 0,iv 0,.nils,.fv (.sl (env.map RV.enc)),iv o,iv p,.fv (.sl (l.map Tm.enc))] false)] .nils _ rfl (by simp [Ao])
          [(65011712,.row [iv op,iv m,.fv (.sl (ks.map Tm.enc))] false),(65018885,.row [iv op,iv m,.nils,.nils,iv 0,iv 0,.nils] false),(65024012,.row [iv 0,iv 0,.nils,.fv (.sl (env.map RV.enc)),iv o,iv p,.fv (.sl (l.map Tm.enc))] true)] (by simp [AP]) s ext k
         simp only [↓Vm,↓XX,XY,↓reduceIte,Nat.reduceBEq,Nat.reduceAdd,Int.reduceEq,Int.reduceLT,Int.reduceLE,hi,↓Bt (AM hg) (Bg _ _ _),↓Cd,↓Ag hb,hbp',hwi,↓hb0,↓ha0,↓AI,XD,heldB,AR,XE];exact h9
        ·have h9:=hnext r hr;rw [show (done++[RV.clo env (Tm.mk o p l)]).length=done.length+1 by simp] at h9
         simp only [List.map_append,AB5,AB4] at h9;rw [hce] at h9;simp only [List.map_append,AB5,AB4] at ha1;rw [hce] at ha1;have hb0:=fun s ext k=>hbs [(r,.tok done.length 1),(65024012,.row [iv 0,iv 0,.nils,.fv (.sl (env.map RV.enc)),iv o,iv p,.fv (.sl (l.map Tm.enc))] false)] (.app (.own r) (done.map RV.enc)) _ rfl (by rcases hr with rfl | rfl<;>simp [Ao])
          [(65011712,.row [iv op,iv m,.fv (.sl (ks.map Tm.enc))] false),(65018885,.row [iv op,iv m,.app (.own r) (done.map RV.enc),.nils,iv 0,iv 0,.nils] false),(r,.tok done.length 1),(65024012,.row [iv 0,iv 0,.nils,.fv (.sl (env.map RV.enc)),iv o,iv p,.fv (.sl (l.map Tm.enc))] true)]
          (by rcases hr with rfl | rfl<;>simp [AP]) s ext k
         rcases hr with rfl | rfl
         ·simp only [↓Vm,↓XX,XY,↓reduceIte,Nat.reduceBEq,Nat.reduceAdd,Int.reduceEq,Int.reduceLT,Int.reduceLE,hi,↓Bt (AM hg) (Bg _ _ _),↓Cd,↓Ag hb,hbp',hwi,↓hb0,↓ha1,↓Hl,↓AI,XD,heldB,AR,XE];exact h9
         ·simp only [↓Vm,↓XX,XY,↓reduceIte,Nat.reduceBEq,Nat.reduceAdd,Int.reduceEq,Int.reduceLT,Int.reduceLE,hi,↓Bt (AM hg) (Bg _ _ _),↓Cd,↓Ag hb,hbp',hwi,↓hb0,↓ha1,↓Hl,↓AI,XD,heldB,AR,XE];exact h9
       ·rw [if_neg hbp] at hkids;have hbp':¬ 0<(Af op pre.length:Int):=by omega
        cases hev1:AA f s2 e2 t env with
        | none=>rw [hev1] at hkids;cases hkids
        | some q =>
        obtain ⟨v1,s4,e4⟩:=q;rw [hev1] at hkids;simp only at hkids;cases hkk:AU (fun s e t=>AA f s e t env) op env (pre.length+1) rest s4 e4 with
        | none=>rw [hkk] at hkids;cases hkids
        | some q =>
        obtain ⟨us',s5,e5⟩:=q;rw [hkk] at hkids;simp only [AB2,ABZ,AB0] at hkids;obtain ⟨rfl,rfl,rfl⟩:=hkids;have hc:=he s2 e2 t env v1 s4 e4 nd hev1 n (by omega);have hnext:∀tk,(tk=65024014\/tk=65025038)->Bm (rec [.ptr (.ext 0) 0,.fv (.sl (env.map RV.enc)),.ptr (.own 65011712) 0,.ptr (.own 65018885) 0,iv (pre++[t]).length]
          (Aci op m ks (.app (.own tk) ((done++[v1]).map RV.enc)) [(tk,.tok (done++[v1]).length 1)] s4 nd e4)) v.enc [.row [iv s',iv nd,iv e'] false]:=fun tk htk =>
         hrec rest.length _ _ (by omega) ⟨pre++[t],rest,done++[v1],s4,e4,us',s5,e5,by rw [hk];simp,rfl,by simp [hdl],rfl,.inr ⟨tk,htk,by simp,rfl⟩,by simpa using hkk,by simpa using hhead⟩
        obtain ⟨o,p,l⟩:=t;rw [Am] at hc;rcases hH with ⟨hp0,rfl⟩ | ⟨r,hr,hne,rfl⟩
        ·have hd0:done=[]:=List.length_eq_zero_iff.1 (by rw [hdl,hp0];rfl);subst hd0;have h9:=hnext _ (.inr rfl);simp only [List.nil_append,AB5,AB4,AB3,List.length_nil] at h9;simp only [↓Vm,↓XX,XY,↓reduceIte,Nat.reduceBEq,Nat.reduceAdd,Int.reduceEq,Int.reduceLT,Int.reduceLE,hi,↓Bt (AM hg) (Bg _ _ _),↓Cd,↓Ag hb,hbp',hwi,↓Ke hc (Ct _ _ _ _ _ _),↓VQ,↓Amq,↓AI,XD,heldB,AR,XE];exact h9
        ·have h9:=hnext r hr;rw [show (done++[v1]).length=done.length+1 by simp] at h9
         rcases hr with rfl | rfl
         ·simp only [↓Vm,↓XX,XY,↓reduceIte,Nat.reduceBEq,Nat.reduceAdd,Int.reduceEq,Int.reduceLT,Int.reduceLE,hi,↓Bt (AM hg) (Bg _ _ _),↓Cd,↓Ag hb,hbp',hwi,↓Ke hc (Ct _ _ _ _ _ _),↓VQ,↓Wm hd9,↓Hl,↓AI,XD,heldB,AR,XE];exact h9
         ·simp only [↓Vm,↓XX,XY,↓reduceIte,Nat.reduceBEq,Nat.reduceAdd,Int.reduceEq,Int.reduceLT,Int.reduceLE,hi,↓Bt (AM hg) (Bg _ _ _),↓Cd,↓Ag hb,hbp',hwi,↓Ke hc (Ct _ _ _ _ _ _),↓VQ,↓Wm hd9,↓Hl,↓AI,XD,heldB,AR,XE];exact h9
def RV.cl (v:RV):List FV:=[.int .i64 v.op,.int .i64 v.n,.sl (v.k.map RV.enc),.sl (v.env.map RV.enc),.int .i64 v.b.op,.int .i64 v.b.n,.sl (v.b.kids.map Tm.enc)]
section
variable {β:Type} (v:RV)
theorem AvR (k:IV->Option β):AH (.fv v.enc) k=k (.fv v.enc):=by rw [Ng];rfl
theorem AyO (o:Nat) (k:IV->Option β):Ac o (.fv v.enc) k=k (.fv (.fp v.cl o)):=by rw [Ng,AvX];rfl
theorem nc0 (k:FV->Option β):DS v.cl 0 k=k (.int .i64 v.op):=rfl
theorem nc1 (k:FV->Option β):DS v.cl 1 k=k (.int .i64 v.n):=rfl
theorem nc2 (k:FV->Option β):DS v.cl 2 k=k (.sl (v.k.map RV.enc)):=rfl
theorem nc3 (k:FV->Option β):DS v.cl 3 k=k (.sl (v.env.map RV.enc)):=rfl
theorem dc4 (k:List FV->Option β):FX v.cl 4 k=k [.int .i64 v.b.op,.int .i64 v.b.n,.sl (v.b.kids.map Tm.enc)]:=rfl
end
theorem HQ {β:Type} {l:List RV} {v:RV} (h:l[0]?=some v) (k:IV->Option β):AN 1 (.fv (.sl (l.map RV.enc))) (iv 0) k=k (.fv (.fp [v.enc] 0)):=Wz (i:=0) h k
theorem AjJ {β:Type} {l:List RV} {v:RV} (h:l[1]?=some v) (k:IV->Option β):AN 1 (.fv (.sl (l.map RV.enc))) (iv 1) k=k (.fv (.fp [v.enc] 0)):=Wz (i:=1) h k
theorem Av3 {β:Type} {l:List RV} {v:RV} (h:l[2]?=some v) (k:IV->Option β):AN 1 (.fv (.sl (l.map RV.enc))) (iv 2) k=k (.fv (.fp [v.enc] 0)):=Wz (i:=2) h k
theorem AjT {β:Type} {l:List RV} {v:RV} (h:l[3]?=some v) (k:IV->Option β):AN 1 (.fv (.sl (l.map RV.enc))) (iv 3) k=k (.fv (.fp [v.enc] 0)):=Wz (i:=3) h k
def XV:=ABY @AvR<|ABY @AyO<|ABY @nc0<|ABY @nc1<|ABY @nc2<|ABY @nc3 @dc4
theorem Ahu {f:Nat} (he:R1 f) (hh:Tc f):Tc (f+1):=by
 intro s e v w s' e' nd hev n hn;obtain ⟨n,rfl⟩:∃k,n=k+1:=⟨n - 1,by omega⟩;rw [c88];rw [headR] at hev;by_cases h0:e≠0
 ·rw [if_pos h0] at hev;simp only [ABZ,AB0] at hev;obtain ⟨rfl,rfl,rfl⟩:=hev;simp only [↓Gj,↓XX,XY,↓reduceIte,Nat.reduceBEq,Nat.reduceAdd,Int.reduceEq,Int.reduceLT,Int.reduceLE,h0];exact AG _ _ _
 ·have h0':e=0:=by omega
  subst h0';rw [if_neg h0] at hev;by_cases hs:s<0\/1000000<s
  ·rw [if_pos hs] at hev;cases hev
  ·rw [if_neg hs] at hev;have hst:=Ajv (n:=n) (by omega) s nd (by omega) (by omega);have Cw:∀{x:RV} {a b:Int},some (x,a,b)=some (w,s',e')->x=w/\a=s'/\b=e':=by
    intro x a b h;simp only [ABZ,AB0] at h;exact h
   by_cases h5:v.op=5
   ·rw [if_pos h5] at hev;cases hk0:v.k[0]? with
    | none=>rw [hk0] at hev;cases hev
    | some k0 =>
     rw [hk0] at hev;simp only at hev;by_cases h4:k0.op=4
     ·rw [if_pos h4] at hev;by_cases hq:s+1<=1000
      ·rw [if_pos hq] at hev;simp only [hq,decide_true,if_true] at hst;cases hc:k0.k[1]? with
       | none=>rw [hc] at hev;cases hev
       | some c =>
        cases hx:v.k[1]? with
        | none=>rw [hc,hx] at hev;cases hev
        | some x =>
         rw [hc,hx] at hev;simp only at hev;by_cases hl:900000<c.env.length
         ·rw [if_pos hl] at hev;cases hev
         ·rw [if_neg hl] at hev;have hcall:=he (s+1) 0 c.b (c.env++[x]) w s' e' nd hev n (by omega);rw [W8] at hcall;have hp:=RN (n:=n) (by omega) c.env [x] (by simp) (by simp;omega);simp only [AB5,AB4] at hp;simp only [↓Gj,↓XX,XY,↓reduceIte,Nat.reduceBEq,Nat.reduceAdd,Int.reduceEq,Int.reduceLT,Int.reduceLE,↓XV,h5,↓HQ hk0,h4,↓DD hst (Ct _ _ _ _ _ _),↓AjJ hc,↓AjJ hx,↓VQ,↓Ag hp,↓Ke hcall (Ct _ _ _ _ _ _)];exact AG _ _ _
      ·rw [if_neg hq] at hev;obtain ⟨rfl,rfl,rfl⟩:=Cw hev;simp only [hq,decide_false,if_false] at hst;simp only [↓Gj,↓XX,XY,↓reduceIte,Nat.reduceBEq,Nat.reduceAdd,Int.reduceEq,Int.reduceLT,Int.reduceLE,↓XV,h5,↓HQ hk0,h4,↓DD hst (Ct _ _ _ _ _ _)];exact AG _ _ _
     ·rw [if_neg h4] at hev;obtain ⟨rfl,rfl,rfl⟩:=Cw hev;simp only [↓Gj,↓XX,XY,↓reduceIte,Nat.reduceBEq,Nat.reduceAdd,Int.reduceEq,Int.reduceLT,Int.reduceLE,↓XV,h5,↓HQ hk0,h4];exact AG _ _ _
   ·rw [if_neg h5] at hev;by_cases h89:v.op=8\/v.op=9
    ·rw [if_pos h89] at hev;cases hk0:v.k[0]? with
     | none=>rw [hk0] at hev;cases hev
     | some k0 =>
      rw [hk0] at hev;simp only at hev;by_cases h7:k0.op=7
      ·rw [if_pos h7] at hev;by_cases hq:s+1<=1000
       ·rw [if_pos hq] at hev;simp only [hq,decide_true,if_true] at hst;cases hx:k0.k[(1+v.op - 8).toNat]? with
        | none=>rw [hx] at hev;cases hev
        | some x =>
         rw [hx] at hev;obtain ⟨rfl,rfl,rfl⟩:=Cw hev;rcases h89 with h8 | h9
         ·rw [h8] at hx;have hw1:BK (1+8)=9:=by decide
          have hw2:BK (9 - 8)=1:=by decide
          simp only [↓Gj,↓XX,XY,↓reduceIte,Nat.reduceBEq,Nat.reduceAdd,Int.reduceEq,Int.reduceLT,Int.reduceLE,↓XV,h8,↓HQ hk0,h7,↓DD hst (Ct _ _ _ _ _ _),hw1,hw2,↓AjJ (l:=k0.k) (v:=x) hx];exact AG _ _ _
         ·rw [h9] at hx;have hw1:BK (1+9)=10:=by decide
          have hw2:BK (10 - 8)=2:=by decide
          simp only [↓Gj,↓XX,XY,↓reduceIte,Nat.reduceBEq,Nat.reduceAdd,Int.reduceEq,Int.reduceLT,Int.reduceLE,↓XV,h9,↓HQ hk0,h7,↓DD hst (Ct _ _ _ _ _ _),hw1,hw2,↓Av3 (l:=k0.k) (v:=x) hx];exact AG _ _ _
       ·rw [if_neg hq] at hev;obtain ⟨rfl,rfl,rfl⟩:=Cw hev;simp only [hq,decide_false,if_false] at hst;rcases h89 with h8 | h9
        ·simp only [↓Gj,↓XX,XY,↓reduceIte,Nat.reduceBEq,Nat.reduceAdd,Int.reduceEq,Int.reduceLT,Int.reduceLE,↓XV,h8,↓HQ hk0,h7,↓DD hst (Ct _ _ _ _ _ _)];exact AG _ _ _
        ·simp only [↓Gj,↓XX,XY,↓reduceIte,Nat.reduceBEq,Nat.reduceAdd,Int.reduceEq,Int.reduceLT,Int.reduceLE,↓XV,h9,↓HQ hk0,h7,↓DD hst (Ct _ _ _ _ _ _)];exact AG _ _ _
      ·rw [if_neg h7] at hev;obtain ⟨rfl,rfl,rfl⟩:=Cw hev;rcases h89 with h8 | h9
       ·simp only [↓Gj,↓XX,XY,↓reduceIte,Nat.reduceBEq,Nat.reduceAdd,Int.reduceEq,Int.reduceLT,Int.reduceLE,↓XV,h8,↓HQ hk0,h7];exact AG _ _ _
       ·simp only [↓Gj,↓XX,XY,↓reduceIte,Nat.reduceBEq,Nat.reduceAdd,Int.reduceEq,Int.reduceLT,Int.reduceLE,↓XV,h9,↓HQ hk0,h7];exact AG _ _ _
    ·rw [if_neg h89] at hev;have h8:¬ v.op=8:=fun e=>h89 (.inl e);have h9:¬ v.op=9:=fun e=>h89 (.inr e);by_cases h30:v.op=30
     ·rw [if_pos h30] at hev;cases hk0:v.k[0]? with
      | none=>rw [hk0] at hev;cases hev
      | some k0 =>
       rw [hk0] at hev;simp only at hev;by_cases h7:k0.op=19
       ·rw [if_pos h7] at hev;by_cases hq:s+1<=1000
        ·rw [if_pos hq] at hev;simp only [hq,decide_true,if_true] at hst;cases hx:k0.k[0]? with
         | none=>rw [hx] at hev;cases hev
         | some x =>
          rw [hx] at hev;obtain ⟨rfl,rfl,rfl⟩:=Cw hev;simp only [↓Gj,↓XX,XY,↓reduceIte,Nat.reduceBEq,Nat.reduceAdd,Int.reduceEq,Int.reduceLT,Int.reduceLE,↓XV,h30,↓HQ hk0,h7,↓DD hst (Ct _ _ _ _ _ _),↓HQ hx];exact AG _ _ _
        ·rw [if_neg hq] at hev;obtain ⟨rfl,rfl,rfl⟩:=Cw hev;simp only [hq,decide_false,if_false] at hst;simp only [↓Gj,↓XX,XY,↓reduceIte,Nat.reduceBEq,Nat.reduceAdd,Int.reduceEq,Int.reduceLT,Int.reduceLE,↓XV,h30,↓HQ hk0,h7,↓DD hst (Ct _ _ _ _ _ _)];exact AG _ _ _
       ·rw [if_neg h7] at hev;obtain ⟨rfl,rfl,rfl⟩:=Cw hev;simp only [↓Gj,↓XX,XY,↓reduceIte,Nat.reduceBEq,Nat.reduceAdd,Int.reduceEq,Int.reduceLT,Int.reduceLE,↓XV,h30,↓HQ hk0,h7];exact AG _ _ _
     ·rw [if_neg h30] at hev;by_cases h19:v.op=19
      ·rw [if_pos h19] at hev;cases hk0:v.k[0]? with
       | none=>rw [hk0] at hev;cases hev
       | some k0 =>
        rw [hk0] at hev;simp only at hev;by_cases h7:k0.op=30
        ·rw [if_pos h7] at hev;by_cases hq:s+1<=1000
         ·rw [if_pos hq] at hev;simp only [hq,decide_true,if_true] at hst;cases hx:k0.k[0]? with
          | none=>rw [hx] at hev;cases hev
          | some x =>
           rw [hx] at hev;obtain ⟨rfl,rfl,rfl⟩:=Cw hev;simp only [↓Gj,↓XX,XY,↓reduceIte,Nat.reduceBEq,Nat.reduceAdd,Int.reduceEq,Int.reduceLT,Int.reduceLE,↓XV,h19,↓HQ hk0,h7,↓DD hst (Ct _ _ _ _ _ _),↓HQ hx];exact AG _ _ _
         ·rw [if_neg hq] at hev;obtain ⟨rfl,rfl,rfl⟩:=Cw hev;simp only [hq,decide_false,if_false] at hst;simp only [↓Gj,↓XX,XY,↓reduceIte,Nat.reduceBEq,Nat.reduceAdd,Int.reduceEq,Int.reduceLT,Int.reduceLE,↓XV,h19,↓HQ hk0,h7,↓DD hst (Ct _ _ _ _ _ _)];exact AG _ _ _
        ·rw [if_neg h7] at hev;obtain ⟨rfl,rfl,rfl⟩:=Cw hev;simp only [↓Gj,↓XX,XY,↓reduceIte,Nat.reduceBEq,Nat.reduceAdd,Int.reduceEq,Int.reduceLT,Int.reduceLE,↓XV,h19,↓HQ hk0,h7];exact AG _ _ _
      ·rw [if_neg h19] at hev;by_cases h13:v.op=13
       ·rw [if_pos h13] at hev;cases hk0:v.k[0]? with
        | none=>rw [hk0] at hev;cases hev
        | some k0 =>
        cases hk1:v.k[1]? with
        | none=>rw [hk0,hk1] at hev;cases hev
        | some k1 =>
        cases hk2:v.k[2]? with
        | none=>rw [hk0,hk1,hk2] at hev;cases hev
        | some k2 =>
        cases hk3:v.k[3]? with
        | none=>rw [hk0,hk1,hk2,hk3] at hev;cases hev
        | some k3 =>
        rw [hk0,hk1,hk2,hk3] at hev;simp only at hev;by_cases h11:k3.op=11
        ·rw [if_pos h11] at hev;by_cases hq:s+1<=1000
         ·rw [if_pos hq] at hev;obtain ⟨rfl,rfl,rfl⟩:=Cw hev;simp only [hq,decide_true,if_true] at hst;simp only [↓Gj,↓XX,XY,↓reduceIte,Nat.reduceBEq,Nat.reduceAdd,Int.reduceEq,Int.reduceLT,Int.reduceLE,↓XV,h13,↓AjT hk3,h11,↓DD hst (Ct _ _ _ _ _ _),↓AjJ hk1];exact AG _ _ _
         ·rw [if_neg hq] at hev;obtain ⟨rfl,rfl,rfl⟩:=Cw hev;simp only [hq,decide_false,if_false] at hst;simp only [↓Gj,↓XX,XY,↓reduceIte,Nat.reduceBEq,Nat.reduceAdd,Int.reduceEq,Int.reduceLT,Int.reduceLE,↓XV,h13,↓AjT hk3,h11,↓DD hst (Ct _ _ _ _ _ _)];exact AG _ _ _
        ·rw [if_neg h11] at hev;by_cases h12:k3.op=12
         ·rw [if_pos h12] at hev;by_cases hq:s+1<=1000
          ·rw [if_pos hq] at hev;simp only [hq,decide_true,if_true] at hst;cases hx:k3.k[0]? with
           | none=>rw [hx] at hev;cases hev
           | some x =>
           rw [hx] at hev;simp only at hev;cases hd:headR f (s+1) 0 (.node 13 0 [k0,k1,k2,x]) with
           | none=>rw [hd] at hev;cases hev
           | some q =>
           obtain ⟨h,s2,e2⟩:=q;rw [hd] at hev;simp only at hev;by_cases hl:900000<k2.env.length
           ·rw [if_pos hl] at hev;cases hev
           ·rw [if_neg hl] at hev;have hcall:=he s2 e2 k2.b (k2.env++[x,h]) w s' e' nd hev n (by omega);rw [W8] at hcall;have hcall2:=hh (s+1) 0 _ h s2 e2 nd hd n (by omega);rw [Axl] at hcall2;simp only [AB5,AB4] at hcall2;have hp:=RN (n:=n) (by omega) k2.env [x,h] (by simp) (by simp;omega);simp only [AB5,AB4] at hp;have hcall3:=fun k=>Rt (k:=k) (own:=[(92295190,.row [iv 13,iv 0,.clip [k0.enc,k1.enc,k2.enc,x.enc],.nils,iv 0,iv 0,.nils] false)])
             (cells:=[iv 13,iv 0,.clip [k0.enc,k1.enc,k2.enc,x.enc],.nils,iv 0,iv 0,.nils]) (ro:=false) (s:=92295190) hcall2 (Ct ..) (by simp [Ao]) rfl (by simp)
            simp only [↓Gj,↓XX,XY,↓reduceIte,Nat.reduceBEq,Nat.reduceAdd,Int.reduceEq,Int.reduceLT,Int.reduceLE,↓XV,h13,↓AjT hk3,h11,h12,↓DD hst (Ct _ _ _ _ _ _),↓HQ hx,↓HQ hk0,↓AjJ hk1,↓Av3 hk2,↓Axp,↓hcall3,↓AvS,↓Ag hp,↓Ke hcall (Ct _ _ _ _ _ _)];exact AG _ _ _
          ·rw [if_neg hq] at hev;obtain ⟨rfl,rfl,rfl⟩:=Cw hev;simp only [hq,decide_false,if_false] at hst;simp only [↓Gj,↓XX,XY,↓reduceIte,Nat.reduceBEq,Nat.reduceAdd,Int.reduceEq,Int.reduceLT,Int.reduceLE,↓XV,h13,↓AjT hk3,h11,h12,↓DD hst (Ct _ _ _ _ _ _)];exact AG _ _ _
         ·rw [if_neg h12] at hev;obtain ⟨rfl,rfl,rfl⟩:=Cw hev;simp only [↓Gj,↓XX,XY,↓reduceIte,Nat.reduceBEq,Nat.reduceAdd,Int.reduceEq,Int.reduceLT,Int.reduceLE,↓XV,h13,↓AjT hk3,h11,h12];exact AG _ _ _
       ·rw [if_neg h13] at hev;obtain ⟨rfl,rfl,rfl⟩:=Cw hev;simp only [↓Gj,↓XX,XY,↓reduceIte,Nat.reduceBEq,Nat.reduceAdd,Int.reduceEq,Int.reduceLT,Int.reduceLE,↓XV,h5,h8,h9,h30,h19,h13];exact AG _ _ _
theorem Ye:∀f,R1 f/\Tc f:=by
 intro f
 induction f with
 | zero=>exact ⟨(by intro s e t env v s' e' nd h;rw [AA] at h;cases h),(by intro s e v w s' e' nd h;rw [headR] at h;cases h)⟩
 | succ f ih=>exact ⟨Ahr ih.1 ih.2,Ahu ih.1 ih.2⟩
end Idl
end Go.Proofs.Ytkfecngimlcfoaa
namespace Go.Proofs.Ytkfecngimlcfoaa
namespace Idl
def Gf (u:Int) (b:Nat):List RV:=(List.range b).map fun (j:Nat)=>RV.var (u+(j:Int))
theorem LR (u:Int) (b:Nat):Gf u (b+1)=Gf u b++[RV.var (u+b)]:=by simp [Gf,List.range_succ]
theorem B7 (u:Int) (b:Nat):(Gf u b).length=b:=by simp [Gf]
def Bf (rd:Int->Int->Int->RV->Int->Option (Tm×Int×Int×Int)) (f:Nat) (op u:Int):Nat->List RV->Int->Int->Int->Option (List Tm×Int×Int×Int)
 | _,[],s,nd,e=>some ([],s,nd,e)
 | i,k::l,s,nd,e =>
  match (if 0<Af op i then (if 900000<k.env.length then none else AA f s e k.b (k.env++Gf u (Af op i))) else some (k,s,e)) with
  | none=>none
  | some (k',s1,e1)=>match rd s1 nd e1 k' (u+Af op i) with
   | none=>none
   | some (t,s2,nd2,e2)=>(Bf rd f op u (i+1) l s2 nd2 e2).map fun (ts,s,nd,e)=>(t::ts,s,nd,e)
def AS:Nat->Int->Int->Int->RV->Int->Int->Option (Tm×Int×Int×Int)
 | 0,_,_,_,_,_,_=>none
 | f+1,s,nd,e,v,u,d =>
  if nd<0\/1000000<nd\/u<0\/1000000<u\/d<0\/1000000<d\/v.n < -2305843009213693952\/2305843009213693952<v.n\/f<=v.k.length\/900000<v.k.length\/f<=3 then none else
  if (if e=0/\(3000<nd+1\/120<d) then 5 else e)≠0 then some (.z,s,nd+1,(if e=0/\(3000<nd+1\/120<d) then 5 else e))
  else if v.op=1 then some (.mk 1 (u - 1 - v.n) [],s,nd+1,0)
  else (Bf (fun s nd e k u=>AS f s nd e k u (d+1)) f v.op u 0 v.k s (nd+1) 0).map fun (ts,s,nd,e)=>(.mk v.op v.n ts,s,nd,e)
def Xm (f:Nat):Prop:=∀(s nd e:Int) (v:RV) (u d:Int) (t:Tm) (s' nd' e':Int),AS f s nd e v u d=some (t,s',nd',e')->∀n,f+1<=n ->
 Bm (SS dt n 61 [.ptr (.ext 0) 0,.fv v.enc,iv u,iv d] ⟨[],[.row [iv s,iv nd,iv e] false]⟩) t.enc [.row [iv s',iv nd',iv e'] false]
abbrev MI (op m:Int) (K:IV) (tok:List (Nat×Blk)) (s nd e:Int):Hp :=
 ⟨(63963136,.row [iv 0,iv 0,.nils] false)::(63971337,.row [iv op,iv m,K] false)::tok,[.row [iv s,iv nd,iv e] false]⟩
theorem Agp {cells:List IV} {fc:List FV} (hz:Do cells=some fc) (hn:cells.length<=100) (s:Nat) (h:Hp) (k:IV->Hp->List Ref->List Ref->Option (IV×Hp)):fzS (K5 true s (.agg cells)) s (.agg cells) h k=k (.fv (.fp fc 0)) h [] []:=by
 have:K5 true s (.agg cells)=.ret { eff:={ val:=.fv (.fp fc 0),upd:=[] } }:=by
  simp only [K5,IV.alive,Bool.true_eq_false,if_false,if_true,IV.cells,YO cells 4096 (by omega) hz,Rd.bind]
 unfold fzS;rw [this,XQ];exact Kz _ s h k
theorem AgY (n:Int):(RV.var n).enc=.fp [.int .i64 1,.int .i64 n,.sl [],.sl [],.int .i64 0,.int .i64 0,.sl []] 0:=by rw [RV.var,Tm.z,I3];rfl
theorem AhC {f:Nat} (hr:Xm f):Xm (f+1):=by
 intro s nd e v u d t s' nd' e' hev n hn;obtain ⟨n,rfl⟩:∃k,n=k+1:=⟨n - 1,by omega⟩;rw [c61];rw [AS] at hev;by_cases hbad:nd<0\/1000000<nd\/u<0\/1000000<u\/d<0\/1000000<d\/v.n < -2305843009213693952\/2305843009213693952<v.n\/f<=v.k.length\/900000<v.k.length\/f<=3
 ·rw [if_pos hbad] at hev;cases hev
 ·rw [if_neg hbad] at hev;have wnd:BK (nd+1)=nd+1:=by rw [Av]<;>omega
  have wd:BK (d+1)=d+1:=by rw [Av]<;>omega
  have wu:BK (u - 1)=u - 1:=by rw [Av]<;>omega
  have wv:BK (u - 1 - v.n)=u - 1 - v.n:=by rw [Av]<;>omega
  by_cases he:e=0
  ·subst he;by_cases h3:3000<nd+1
   ·have e5:(if (0:Int)=0/\(3000<nd+1\/120<d) then (5:Int) else 0)=5:=if_pos ⟨rfl,.inl h3⟩;rw [e5,if_pos (by decide)] at hev;simp only [ABZ,AB0] at hev;obtain ⟨rfl,rfl,rfl,rfl⟩:=hev;simp only [↓AkK,↓XX,XY,↓reduceIte,Nat.reduceBEq,Nat.reduceAdd,Int.reduceEq,Int.reduceLT,Int.reduceLE,wnd,h3];exact Fk rfl _ _
   ·by_cases h4:120<d
    ·have e5:(if (0:Int)=0/\(3000<nd+1\/120<d) then (5:Int) else 0)=5:=if_pos ⟨rfl,.inr h4⟩;rw [e5,if_pos (by decide)] at hev;simp only [ABZ,AB0] at hev;obtain ⟨rfl,rfl,rfl,rfl⟩:=hev;simp only [↓AkK,↓XX,XY,↓reduceIte,Nat.reduceBEq,Nat.reduceAdd,Int.reduceEq,Int.reduceLT,Int.reduceLE,wnd,h3,h4];exact Fk rfl _ _
    ·have e5:(if (0:Int)=0/\(3000<nd+1\/120<d) then (5:Int) else 0)=0:=if_neg (by omega);rw [e5,if_neg (by decide)] at hev;by_cases h1:v.op=1
     ·rw [if_pos h1] at hev;simp only [ABZ,AB0] at hev;obtain ⟨rfl,rfl,rfl,rfl⟩:=hev;have hv:=Arq (n:=n) (by omega) (u - 1 - v.n);rw [Am] at hv ⊢;simp only [↓AkK,↓XX,XY,↓reduceIte,Nat.reduceBEq,Nat.reduceAdd,Int.reduceEq,Int.reduceLT,Int.reduceLE,↓XV,wnd,h3,h4,h1,wu,wv,↓Aw hv];exact Fk rfl _ _
     ·rw [if_neg h1] at hev;cases hrk:Bf (fun s nd e k u=>AS f s nd e k u (d+1)) f v.op u 0 v.k s (nd+1) 0 with
      | none=>rw [hrk] at hev;cases hev
      | some q =>
      obtain ⟨ts,s1,nd1,e1⟩:=q;rw [hrk] at hev;simp only [AB2,ABZ,AB0] at hev;obtain ⟨rfl,rfl,rfl,rfl⟩:=hev;simp only [↓AkK,↓XX,XY,↓reduceIte,Nat.reduceBEq,Nat.reduceAdd,Int.reduceEq,Int.reduceLT,Int.reduceLE,↓XV,wnd,h3,h4,h1,↓AI,XD,heldB,AR,XE];refine Bc (Q:=fun r=>Bm r _ _) (fun k V H=>∃(pre rest:List RV) (done:List Tm) (s2 nd2 e2:Int) (us:List Tm),v.k=pre++rest/\rest.length=k/\done.length=pre.length/\V=[.ptr (.ext 0) 0,.fv v.enc,iv u,iv d,.ptr (.own 63963136) 0,.ptr (.own 63971337) 0,iv pre.length] /\
       (
        (pre=[]/\H=MI v.op v.n .nils [] s2 nd2 e2) \/
        (pre≠[]/\H=MI v.op v.n (.app (.own 63984651) (done.map Tm.enc)) [(63984651,.tok done.length 3)] s2 nd2 e2)) /\
       Bf (fun s nd e k u=>AS f s nd e k u (d+1)) f v.op u pre.length rest s2 nd2 e2=some (us,s1,nd1,e1)/\done++us=ts)
       ?_ n v.k.length _ _ (by omega) ⟨[],v.k,[],s,nd+1,0,ts,rfl,rfl,rfl,rfl,.inl ⟨rfl,rfl⟩,hrk,rfl⟩
      rintro k V H rec ⟨pre,rest,done,s2,nd2,e2,us,hk,hl,hdl,rfl,hH,hkids,hts⟩ hrec;have hkl:v.k.length=pre.length+rest.length:=by rw [hk];simp
      cases rest with
      | nil =>
       simp only [Bf,ABZ,AB0] at hkids;obtain ⟨rfl,rfl,rfl,rfl⟩:=hkids;rw [List.append_nil] at hts;subst hts;have hno:¬ ((pre.length:Int)<v.k.length):=by rw [hkl];simp
       rcases hH with ⟨hp0,rfl⟩ | ⟨hne,rfl⟩
       ·have hd0:done=[]:=List.length_eq_zero_iff.1 (by rw [hdl,hp0];rfl);subst hd0;simp only [EZ,ED,E7,ES,E6,EW,Hz,EX,ER,E8,EO,EN,Hw,EG,E0,EJ,EL,EF,E3,EK,FC,EU,EQ,Fa,EH,EP,EM,E9,E5,ET,EY,S61,↓XX,XY,↓reduceIte,Nat.reduceBEq,Nat.reduceAdd,Int.reduceEq,Int.reduceLT,Int.reduceLE,↓XV,hno,Am];exact Fk rfl _ _
       ·simp only [EZ,ED,E7,ES,E6,EW,Hz,EX,ER,E8,EO,EN,Hw,EG,E0,EJ,EL,EF,E3,EK,FC,EU,EQ,Fa,EH,EP,EM,E9,E5,ET,EY,S61,↓XX,XY,↓reduceIte,Nat.reduceBEq,Nat.reduceAdd,Int.reduceEq,Int.reduceLT,Int.reduceLE,↓XV,hno,Am];exact Fk rfl _ _
      | cons x rest =>
       have hi:(pre.length:Int)<v.k.length:=by rw [hkl];simp;omega
       have hg:=CC hk;have hb:=F6 (n:=n) (by omega) v.op pre.length;have hble:=Bj v.op pre.length;have hwi:BK ((pre.length:Int)+1)=((pre++[x]).length:Int):=(Av (by omega) (by omega)).trans (by simp);have hwb:BK (u+(Af v.op pre.length:Int))=u+Af v.op pre.length:=by rw [Av]<;>omega
       have hd9:done.length+1<=1000000:=by omega
       simp only [Bf] at hkids;simp only [AB3] at hl;have behind:∀(y:RV) (s3 e3:Int),(match AS f s3 nd2 e3 y (u+Af v.op pre.length) (d+1) with
          | none=>none
          | some (t,s2,nd2,e2)=>(Bf (fun s nd e k u=>AS f s nd e k u (d+1)) f v.op u (pre.length+1) rest s2 nd2 e2).map fun (ts,s,nd,e)=>(t::ts,s,nd,e))=some (us,s1,nd1,e1) ->
         ∀K tk,((pre=[]/\K=.nils/\tk=[])\/(pre≠[]/\K=.app (.own 63984651) (done.map Tm.enc)/\tk=[(63984651,.tok done.length 3)])) ->
         Bm (Hz (.ptr (.own 63971337) 0) (MI v.op v.n K tk s3 nd2 e3) (iv u) (iv (Af v.op pre.length)) (iv d) (SS dt n) (.ptr (.ext 0) 0) (.fv y.enc) (iv pre.length) ⟨[],[.row [iv s,iv nd,iv 0] false]⟩ (.fv v.enc) (.ptr (.own 63963136) 0) rec)
          (Tm.mk v.op v.n ts).enc [.row [iv s1,iv nd1,iv e1] false]:=by
        intro y s3 e3 hy K tk hK;cases hrd:AS f s3 nd2 e3 y (u+Af v.op pre.length) (d+1) with
        | none=>rw [hrd] at hy;cases hy
        | some q =>
        obtain ⟨t4,s4,nd4,e4⟩:=q;rw [hrd] at hy;simp only at hy;cases hkk:Bf (fun s nd e k u=>AS f s nd e k u (d+1)) f v.op u (pre.length+1) rest s4 nd4 e4 with
        | none=>rw [hkk] at hy;cases hy
        | some q =>
        obtain ⟨us',s5,nd5,e5'⟩:=q;rw [hkk] at hy;simp only [AB2,ABZ,AB0] at hy;obtain ⟨rfl,rfl,rfl,rfl⟩:=hy;have hc:=hr s3 nd2 e3 y (u+Af v.op pre.length) (d+1) t4 s4 nd4 e4 hrd n (by omega);have h9:Bm (rec [.ptr (.ext 0) 0,.fv v.enc,iv u,iv d,.ptr (.own 63963136) 0,.ptr (.own 63971337) 0,iv (pre++[x]).length]
          (MI v.op v.n (.app (.own 63984651) ((done++[t4]).map Tm.enc)) [(63984651,.tok (done.length+1) 3)] s4 nd4 e4)) (Tm.mk v.op v.n ts).enc [.row [iv s5,iv nd5,iv e5'] false] :=
         hrec rest.length _ _ (by omega) ⟨pre++[x],rest,done++[t4],s4,nd4,e4,us',by rw [hk];simp,rfl,by simp [hdl],rfl,.inr ⟨by simp,by simp⟩,by simpa using hkk,by rw [<- hts];simp⟩
        rcases hK with ⟨hp0,rfl,rfl⟩ | ⟨hne,rfl,rfl⟩
        ·have hd0:done=[]:=List.length_eq_zero_iff.1 (by rw [hdl,hp0];rfl);subst hd0;simp only [List.nil_append,AB5,AB4,List.length_nil] at h9;simp only [EZ,ED,E7,ES,E6,EW,Hz,EX,ER,E8,EO,EN,Hw,EG,E0,EJ,EL,EF,E3,EK,FC,EU,EQ,Fa,EH,EP,EM,E9,E5,ET,EY,S61,↓XX,XY,↓reduceIte,Nat.reduceBEq,Nat.reduceAdd,Int.reduceEq,Int.reduceLT,Int.reduceLE,↓XV,hwb,wd,hwi,↓AiS hc (Ct _ _ _ _ _ _),↓Kf,↓Sz,↓AI,XD,heldB,AR,XE];exact h9
        ·simp only [EZ,ED,E7,ES,E6,EW,Hz,EX,ER,E8,EO,EN,Hw,EG,E0,EJ,EL,EF,E3,EK,FC,EU,EQ,Fa,EH,EP,EM,E9,E5,ET,EY,S61,↓XX,XY,↓reduceIte,Nat.reduceBEq,Nat.reduceAdd,Int.reduceEq,Int.reduceLT,Int.reduceLE,↓XV,hwb,wd,hwi,↓AiS hc (Ct _ _ _ _ _ _),↓Kf,↓Kq hd9,↓Hl,↓AI,XD,heldB,AR,XE];exact h9
       have heads:∃K tk,((pre=[]/\K=.nils/\tk=[])\/(pre≠[]/\K=.app (.own 63984651) (done.map Tm.enc)/\tk=[(63984651,.tok done.length 3)]))/\H=MI v.op v.n K tk s2 nd2 e2:=by
        rcases hH with ⟨a,b⟩ | ⟨a,b⟩
        ·exact ⟨_,_,.inl ⟨a,rfl,rfl⟩,b⟩
        ·exact ⟨_,_,.inr ⟨a,rfl,rfl⟩,b⟩
       obtain ⟨K,tk,hK,rfl⟩:=heads;by_cases hbp:0<Af v.op pre.length
       ·rw [if_pos hbp] at hkids;by_cases hxe:900000<x.env.length
        ·rw [if_pos hxe] at hkids;cases hkids
        ·rw [if_neg hxe] at hkids;have hbp':0<(Af v.op pre.length:Int):=by omega
         cases hev1:AA f s2 e2 x.b (x.env++Gf u (Af v.op pre.length)) with
         | none=>rw [hev1] at hkids;cases hkids
         | some q =>
         obtain ⟨y,s3,e3⟩:=q;rw [hev1] at hkids;have hB:=behind y s3 e3 hkids K tk hK;have hc:=(Ye f).1 s2 e2 x.b _ y s3 e3 nd2 hev1 n (by omega);rw [W8] at hc;have hdrop:∀(vals:List IV),vals.all Gb=true->∀k:Hp->Option (IV×Hp),Bx [] [63982597] vals (MI v.op v.n K tk s2 nd2 e2) k=k (MI v.op v.n K tk s2 nd2 e2):=by
          intro vals hv k;rcases hK with ⟨_,rfl,rfl⟩ | ⟨_,rfl,rfl⟩<;>simp only [↓XX,XY,↓reduceIte,Nat.reduceBEq,Nat.reduceAdd,Int.reduceEq,Int.reduceLT,Int.reduceLE,↓AI,XD,heldB,AR,XE,hv]
         simp only [EZ,ED,E7,ES,E6,EW,EX,ER,E8,EO,EN,EG,E0,EJ,EL,EF,E3,EK,FC,EU,EQ,Fa,EH,EP,EM,E9,E5,ET,EY,S61,↓XX,XY,↓reduceIte,Nat.reduceBEq,Nat.reduceAdd,Int.reduceEq,Int.reduceLT,Int.reduceLE,↓XV,hi,↓Wz hg,↓Ag hb,hbp',↓hdrop,↓AI,XD,heldB,AR,XE];refine Bc (Q:=fun r=>Bm r _ _) (fun k V H=>∃j,j+k=Af v.op pre.length/\V=[.ptr (.ext 0) 0,.fv v.enc,iv u,iv d,.ptr (.own 63963136) 0,.ptr (.own 63971337) 0,iv pre.length,iv (Af v.op pre.length),.fv x.enc,.fv (.sl ((x.env++Gf u j).map RV.enc)),iv j] /\
          H=MI v.op v.n K tk s2 nd2 e2) ?_ n (Af v.op pre.length) _ _ (by omega) ?_
         rotate_left
         ·exact ⟨0,by omega,by simp [Gf],rfl⟩
         rintro k2 V2 H2 rec2 ⟨j,hj,rfl,rfl⟩ hrec2;cases k2 with
         | zero =>
          have hjb:j=Af v.op pre.length:=by omega
          subst hjb;simp only [EZ,ED,E7,ES,E6,EW,EX,ER,E8,EO,EN,Hw,EG,E0,EJ,EL,EF,E3,EK,FC,EU,EQ,Fa,EH,EP,EM,E9,E5,ET,EY,S61,↓XX,XY,↓reduceIte,Nat.reduceBEq,Nat.reduceAdd,Int.reduceEq,Int.reduceLT,Int.reduceLE,↓XV,Int.lt_irrefl,↓Ke hc (Ct _ _ _ _ _ _)];exact hB
         | succ k2 =>
          have hjb:(j:Int)<Af v.op pre.length:=by omega
          have hwj:BK (u+(j:Int))=u+j:=by rw [Av]<;>omega
          have hwj1:BK ((j:Int)+1)=((j+1:Nat):Int):=by rw [Av]<;>omega
          have hp:=RN (n:=n) (by omega) (x.env++Gf u j) [RV.var (u+j)] (by simp) (by simp [B7];omega);simp only [AB5,AB4,AgY] at hp;rw [List.append_assoc,<- LR] at hp;have hbv:=fun s h k=>VQ (RV.var (u+j)) s h k;simp only [AgY] at hbv;have hfz:=fun s h (k:IV->Hp->List Ref->List Ref->Option (IV×Hp))=>Agp (cells:=[.fv (.int .i64 1),iv (u+j),.nils,.nils,.fv (.int .i64 0),.fv (.int .i64 0),.nils]) (fc:=[.int .i64 1,.int .i64 (u+j),.sl [],.sl [],.int .i64 0,.int .i64 0,.sl []]) rfl (by simp) s h k;have h9:=hrec2 k2 _ _ (by omega) ⟨j+1,by omega,rfl,rfl⟩;simp only [EZ,ED,E7,ES,E6,EW,EX,ER,E8,EO,EN,Hw,EG,E0,EJ,EL,EF,E3,EK,FC,EU,EQ,Fa,EH,EP,EM,E9,E5,ET,EY,S61,↓XX,XY,↓reduceIte,Nat.reduceBEq,Nat.reduceAdd,Int.reduceEq,Int.reduceLT,Int.reduceLE,↓XV,hjb,hwj,hwj1,↓hfz,↓hbv,↓Ag hp,↓hdrop,↓AI,XD,heldB,AR,XE];exact h9
       ·rw [if_neg hbp] at hkids;have hbp':¬ 0<(Af v.op pre.length:Int):=by omega
        have hB:=behind x s2 e2 hkids K tk hK;simp only [EZ,ED,E7,ES,E6,EW,EX,ER,E8,EO,EN,EG,E0,EJ,EL,EF,E3,EK,FC,EU,EQ,Fa,EH,EP,EM,E9,E5,ET,EY,S61,↓XX,XY,↓reduceIte,Nat.reduceBEq,Nat.reduceAdd,Int.reduceEq,Int.reduceLT,Int.reduceLE,↓XV,hi,↓Wz hg,↓Ag hb,hbp',↓AI,XD,heldB,AR,XE];exact hB
  ·have e5:(if e=0/\(3000<nd+1\/120<d) then (5:Int) else e)=e:=if_neg (by omega);rw [e5,if_pos he] at hev;simp only [ABZ,AB0] at hev;obtain ⟨rfl,rfl,rfl,rfl⟩:=hev;simp only [↓AkK,↓XX,XY,↓reduceIte,Nat.reduceBEq,Nat.reduceAdd,Int.reduceEq,Int.reduceLT,Int.reduceLE,wnd,he];exact Fk rfl _ _
theorem Aqy:∀f,Xm f:=by
 intro f
 induction f with
 | zero=>intro s nd e v u d t s' nd' e' h;rw [AS] at h;cases h
 | succ f ih=>exact AhC ih
abbrev Hbk (done:List Tm) (rest:Nat) (more:List (Nat×Blk)) (s w r e:Int):Hp :=
 ⟨(75497472,.row [iv 0,iv 0,.nils] false)::(75506693,.row (Cf done rest) false)::more,MX s w r e⟩
theorem Aor {ih:Aj} {f:FuncId} {w x y:FV} {a b:IV} {s0 len:Nat} {s u r e s' u' r' e':Int} {own own':List (Nat×Blk)} {es:List FV} {ro:Bool} (hr:Bm (ih f [.ptr (.ext 0) 0,.fv x,.fv y,.fv (.sl es)] ⟨[],MX s u r e⟩) w (MX s' u' r' e'))
  (ha:Ba a=some x) (hb:Ba b=some y) (hl:Ao s0 own=some (.row (es.map .fv) ro)) (hlen:es.length=len) (hn:es.length<=300) (hag:∀x∈es,∀l,x≠.agg l) (ho:AP s0 (.row (es.map .fv) true) own=own')
  (k:IV->Hp->List Ref->List Ref->Option (IV×Hp)) :
  A0 [true,false,false,false] false false ih f [.ptr (.ext 0) 0,a,b,.slc (.own s0) 1 len] ⟨own,MX s u r e⟩ k=k (.fv w) ⟨own',MX s' u' r' e'⟩ [.ext 1,.ext 0,.own s0] [.own s0,.ext 0,.ext 1]:=by
 subst ho hlen;refine Afw (ks:=[false,false,false]) (vs:=[x,y,.sl es]) (u:=[(.own s0,.row (es.map .fv) true)]) (lg:=[.own s0]) ?_ (Aqh ..) hr ?_ k
 ·intro e k;rw [TD,LP _ _ e _ ha,TD,LP _ _ e _ hb,TD,Ama (d:=10) hl hn hag,fz0];rfl
 ·intro k
  show (G6 own s0 fun _=>A4 own s0 (.row (es.map .fv) true) fun own=>k ⟨own,_⟩)=_
  rw [BC,hl,Option.bind_some,BZ]
def AnU (op n:Int) (done:List Tm):Option (List Tm)->Tm
 | none=>.z
 | some ts=>.mk op n (done++ts)
theorem As4 {n:Nat} {op nn bo bn below deep:Int} {k e:List PV} {bk:List Tm} {done:List Tm} {s w r er:Int} (h4:Hp) {rec:List IV->Hp->Option (IV×Hp)} (hd:done.length=k.length) (hk:k.length<=100) :
  Bm (Fp [.ptr (.ext 0) 0,.fv (PV.mk op nn k (.mk bo bn bk) e).enc,iv below,iv deep,.ptr (.own 75497472) 0,.slc (.own 75506693) 3 k.length,iv k.length,iv k.length] (Hbk done 0 [] s w r er) (SS dt n) h4 rec n)
   (Tm.mk op nn done).enc (MX s w r er):=by
 rw [AV,Am];have hno:¬ ((k.length:Int)<k.length):=by omega
 simp only [D0,Dw,D7,Ds,D6,DJ,CP,D9,DW,DR,DI,D1,Fy,Eb,D8,Du,D5,DB,Ec,DE,DX,D3,Fp,Dy,DL,DU,Dv,Fu,Dt,DY,DO,DK,Dx,S72,↓XX,XY,↓reduceIte,Nat.reduceBEq,Nat.reduceAdd,Int.reduceEq,Int.reduceLT,Int.reduceLE,↓IA,hno];rw [<- hd];exact ⟨_,_,rfl,_,_,fun e0 K=>AxD (by rfl) (by omega) [] e0 K⟩
def Al8 (more:List (Nat×Blk)):Prop:=more=[]\/∃(l:List FV) (ro:Bool),more=[(75512833,.row (l.map .fv) ro)]
theorem Axh {n:Nat} {v y:FV} {below deep b len i:IV} {done:List Tm} {rest kl:Nat} {more:List (Nat×Blk)} {s w r e:Int} (hM:Al8 more) (h4:Hp) {rec:List IV->Hp->Option (IV×Hp)} (he:e≠0) :
  Bm (CP (.ptr (.ext 0) 0) (Hbk done rest more s w r e) (.ptr (.own 75497472) 0) below b deep (SS dt n) (.fv y) (.slc (.own 75506693) 3 kl) i i h4 (.fv v) len rec) Tm.z.enc (MX s w r e):=by
 rcases hM with rfl | ⟨l,ro,rfl⟩
 ·simp only [↓UU7,↓XX,XY,↓reduceIte,Nat.reduceBEq,Nat.reduceAdd,Int.reduceEq,Int.reduceLT,Int.reduceLE,↓IA,he];exact Fk rfl _ _
 ·simp only [↓UU7,↓XX,XY,↓reduceIte,Nat.reduceBEq,Nat.reduceAdd,Int.reduceEq,Int.reduceLT,Int.reduceLE,↓IA,he];exact Fk rfl _ _
theorem Av1 {f n:Nat} {v:FV} {y:PV} {below deep:Int} {b:Nat} {len:Int} {done:List Tm} {rest kl:Nat} {more:List (Nat×Blk)} {m m5:M3} {r r5:Int} {t5:Tm} {w:FV} {ext:List Blk} (hb:Aqk f) (hn:f+1<=n) (hM:Al8 more) (ext4:List Blk)
  {rec:List IV->Hp->Option (IV×Hp)} (he:m.e=0) (hbk:Ve f y (below+b) (deep+1) m r=some (t5,m5,r5)) (hb1:0<=below) (hb2:below<=1000000) (hb3:b<=10) (hd1:0<=deep) (hd2:deep<=1000000) (hkl:done.length<kl) (hkl2:kl<=100)
  (h:Bm (rec [.ptr (.ext 0) 0,.fv v,iv below,iv deep,.ptr (.own 75497472) 0,.slc (.own 75506693) 3 kl,iv len,iv (done++[t5]).length] (Hbk (done++[t5]) rest [] m5.s m5.w r5 m5.e)) w ext) :
  Bm (CP (.ptr (.ext 0) 0) (Hbk done (rest+1) more m.s m.w r m.e) (.ptr (.own 75497472) 0) (iv below) (iv b) (iv deep) (SS dt n) (.fv y.enc) (.slc (.own 75506693) 3 kl) (iv done.length) (iv done.length) ⟨[],ext4⟩ (.fv v) (iv len) rec) w ext:=by
 have hc:=hb _ _ _ _ _ _ _ _ hbk n hn;have wb:BK (below+b)=below+b:=by rw [Av]<;>omega
 have wd:BK (deep+1)=deep+1:=by rw [Av]<;>omega
 have wi:BK ((done.length:Int)+1)=((done++[t5]).length:Int):=(Av (by omega) (by omega)).trans (by simp);obtain ⟨o,p,ks⟩:=t5;rw [Am] at hc;simp only [he] at hc ⊢;rcases hM with rfl | ⟨l,ro,rfl⟩
 ·simp only [↓UU7,↓XX,XY,↓reduceIte,Nat.reduceBEq,Nat.reduceAdd,Int.reduceEq,Int.reduceLT,Int.reduceLE,↓IA,wb,wd,↓TS _ _ hc,↓AkE hkl,↓AqL,wi,↓GO,↓AI,XD,heldB,AR,XE,FB,DQ,NQ,Ld];exact h
 ·simp only [↓UU7,↓XX,XY,↓reduceIte,Nat.reduceBEq,Nat.reduceAdd,Int.reduceEq,Int.reduceLT,Int.reduceLE,↓IA,wb,wd,↓TS _ _ hc,↓AkE hkl,↓AqL,wi,↓GO,↓AI,XD,heldB,AR,XE,FB,DQ,NQ,Ld];exact h
theorem Av9 {f n:Nat} {v y:PV} {below deep:Int} {i b kl:Nat} {len:Int} {done:List Tm} {rest:Nat} {m m4:M3} {r:Int} {w:FV} {ext:List Blk} (hn:f+1<=n) (h3:3<=n) (ext4:List Blk)
  {j:IV->IV->IV->IV->IV->IV->IV->IV->IV->IV->IV->Hp->Option (IV×Hp)} (hb:b<=2) (hb1:0<=below) (hb2:below<=1000000) (hop:opP f v i (Uf below b) m=some (y,m4))
  (hj:Bm (j (.ptr (.ext 0) 0) (.fv v.enc) (iv below) (iv deep) (.ptr (.own 75497472) 0) (.slc (.own 75506693) 3 kl) (iv i) (.fv y.enc) (iv b) (iv len) (iv i)
   (Hbk done rest [(75512833,.row (((Uf below b).map PV.enc).map .fv) true)] m4.s m4.w r m4.e)) w ext) :
  Bm (BH n (fun q119 l120 h121=>Fy l120 h121 ⟨[],ext4⟩ q119 (SS dt n) j) [.ptr (.ext 0) 0,.fv v.enc,iv below,iv deep,.ptr (.own 75497472) 0,.slc (.own 75506693) 3 kl,iv i,iv b,.slc (.own 75512833) 1 b,iv len,iv i,iv b,iv 0]
   (Hbk done rest [(75512833,.row (((nils b).map PV.enc).map .fv) false)] m.s m.w r m.e)) w ext:=by
 refine Bc (Q:=fun r=>Bm r _ _) (fun t V H=>∃(k:Nat),k+t=b /\
   V=[.ptr (.ext 0) 0,.fv v.enc,iv below,iv deep,.ptr (.own 75497472) 0,.slc (.own 75506693) 3 kl,iv i,iv b,.slc (.own 75512833) 1 b,iv len,iv i,iv b,iv k] /\
   H=Hbk done rest [(75512833,.row (((Uf below k++nils t).map PV.enc).map .fv) false)] m.s m.w r m.e) ?_ n b _ _ (by omega) ⟨0,by omega,rfl,rfl⟩
 rintro t V H rec ⟨k,hkt,rfl,rfl⟩ hrec;cases t with
 | zero =>
  have hkb:k=b:=by omega
  subst hkb;have hno:¬ ((k:Int)<k):=by omega
  have hc:=(MC f).2.2.2 _ _ _ _ _ _ hop r n hn;rw [show Uf below k++nils 0=Uf below k by simp [nils]]
  simp only [D0,Dw,D7,Ds,D6,DJ,CP,D9,DW,DR,DI,D1,Eb,D8,Du,D5,DB,Ec,DE,DX,D3,Dy,DL,DU,Dv,Fu,Dt,DY,DO,DK,Dx,S72,Fy,↓XX,XY,↓reduceIte,Nat.reduceBEq,Nat.reduceAdd,Int.reduceEq,Int.reduceLT,Int.reduceLE,↓IA,hno]
  (try unfold is0);rw [Aor hc rfl rfl (s0:=75512833) (own':=(Hbk done rest [(75512833,.row (((Uf below k).map PV.enc).map .fv) true)] m4.s m4.w r m4.e).own) (by rfl) (by simp [Kl]) (by simp [Kl];omega) (by simp only [List.mem_map];rintro x ⟨v,_,rfl⟩;exact Ov v) (by rfl)]
  exact hj
 | succ t =>
  have hlt:(k:Int)<b:=by omega
  have hkb:k<b:=by omega
  have wk:BK ((k:Int)+1)=((k+1:Nat):Int):=(Av (by omega) (by omega)).trans (by simp);have wbk:BK (below+(k:Int))=below+k:=by rw [Av]<;>omega
  have hoff:=fun {β:Type}=>AqJ (done:=Uf below k) (r:=t) (β:=β) (PV.var (below+k));rw [Kl,VP] at hoff;simp only [D0,Dw,D7,Ds,D6,DJ,CP,D9,DW,DR,DI,D1,Eb,D8,Du,D5,DB,Ec,DE,DX,D3,Dy,DL,DU,Dv,Fu,Dt,DY,DO,DK,Dx,S72,Fy,↓XX,XY,↓reduceIte,Nat.reduceBEq,Nat.reduceAdd,Int.reduceEq,Int.reduceLT,Int.reduceLE,↓IA,hlt,wbk];rw [Agp (fc:=[.int .i64 1,.int .i64 (below+k),.sl [],.int .i64 0,.int .i64 0,.sl [],.nilp]) rfl (by simp)];simp only [↓XX,XY,↓reduceIte,Nat.reduceBEq,Nat.reduceAdd,Int.reduceEq,Int.reduceLT,Int.reduceLE,↓IA,↓AqI hkb,↓hoff,wk,↓GO,↓AI,XD,heldB,AR,XE,FB,DQ,NQ,Ld];exact hrec t _ _ (by omega) ⟨k+1,by omega,rfl,by rw [AjL]⟩
theorem AnS {f:Nat} (hb:Aqk f):Aqk (f+1):=by
 intro v below deep m r t m' r' hev n hn;obtain ⟨n,rfl⟩:∃k,n=k+1:=⟨n - 1,by omega⟩;rw [c72];rw [Ve.eq_def] at hev;simp only at hev;split at hev
 ·cases hev
 rename_i hbad;have wd:BK (deep+1)=deep+1:=by rw [Av]<;>omega
 have wb1:BK (below - 1)=below - 1:=by rw [Av]<;>omega
 generalize he1:(if m.e=0/\(3000<r+1\/120<deep) then (5:Int) else m.e)=e1 at hev;cases ht:HY ⟨m.s,m.w,e1⟩ with
 | none=>rw [ht] at hev;cases hev
 | some m1 =>
 rw [ht] at hev;simp only at hev;have hc1:=Sg ht (r+1) (n:=n) (by omega);simp only at hc1;refine AmG (by omega) (by omega) he1 ?_;by_cases h1:m1.e≠0
 ·rw [if_pos h1] at hev;simp only [ABZ,AB0] at hev;obtain ⟨rfl,rfl,rfl⟩:=hev;simp only [↓UU7,↓XX,XY,↓reduceIte,Nat.reduceBEq,Nat.reduceAdd,Int.reduceEq,Int.reduceLT,Int.reduceLE,↓IA,↓FI _ _ hc1,h1];exact Fk rfl _ _
 ·rw [if_neg h1] at hev;have h1:m1.e=0:=by simpa using h1
  cases v with
  | nil=>cases hev
  | mk op nn k t0 e =>
  obtain ⟨bo,bn,bk⟩:=t0;simp only at hev;by_cases h2:op=1
  ·rw [if_pos h2] at hev;split at hev
   ·cases hev
   rename_i hnn;simp only [ABZ,AB0] at hev;obtain ⟨rfl,rfl,rfl⟩:=hev;have wb2:BK (below - 1 - nn)=below - 1 - nn:=by rw [Av]<;>omega
   rw [AV];simp only [↓UU7,↓XX,XY,↓reduceIte,Nat.reduceBEq,Nat.reduceAdd,Int.reduceEq,Int.reduceLT,Int.reduceLE,↓IA,↓FI _ _ hc1,h1,h2,wb1,wb2];exact Fk rfl _ _
  ·rw [if_neg h2] at hev;split at hev
   ·cases hev
   rename_i hk100;have hk100:k.length<=100:=by omega
   cases hkk:bkK (fun v below m r=>Ve f v below (deep+1) m r) (fun i l m=>opP f (.mk op nn k (.mk bo bn bk) e) i l m) op below 0 k m1 (r+1) with
   | none=>rw [hkk] at hev;cases hev
   | some q =>
   obtain ⟨res,m2,r2⟩:=q;rw [hkk] at hev;have hres:t=AnU op nn [] res/\m'=m2/\r'=r2:=by
    cases res with
    | none=>simp only [ABZ,AB0] at hev;exact ⟨hev.1.symm,hev.2.1.symm,hev.2.2.symm⟩
    | some ts=>simp only [ABZ,AB0] at hev;exact ⟨hev.1.symm,hev.2.1.symm,hev.2.2.symm⟩
   obtain ⟨ht5,rfl,rfl⟩:=hres;generalize hV:PV.mk op nn k (.mk bo bn bk) e=V5 at *;have hVe:V5.enc=.fp [.int .i64 op,.int .i64 nn,.sl (k.map PV.enc),.int .i64 bo,.int .i64 bn,.sl (bk.map Tm.enc),PV.encEnv e] 0:=by rw [<- hV,AV]
   rw [hVe];simp only [↓UU7,↓XX,XY,↓reduceIte,Nat.reduceBEq,Nat.reduceAdd,Int.reduceEq,Int.reduceLT,Int.reduceLE,↓IA,↓FI _ _ hc1,h1,h2,↓Ay3 (show k.length<=1000 by omega),↓GO,↓AI,XD,heldB,AR,XE,FB,DQ,NQ,Ld]
   refine Bc (Q:=fun r=>Bm r _ _) (fun j V H=>∃(pre rest:List PV) (done:List Tm) (m3:M3) (r3:Int) (res3:Option (List Tm)),k=pre++rest/\rest.length=j/\done.length=pre.length /\
     V=[.ptr (.ext 0) 0,.fv V5.enc,iv below,iv deep,.ptr (.own 75497472) 0,.slc (.own 75506693) 3 k.length,iv k.length,iv pre.length] /\
     H=Hbk done rest.length [] m3.s m3.w r3 m3.e /\
     bkK (fun v below m r=>Ve f v below (deep+1) m r) (fun i l m=>opP f V5 i l m) op below pre.length rest m3 r3=some (res3,m',r')/\AnU op nn done res3=t)
    ?_ n k.length _ _ (by omega) ⟨[],k,[],m1,r+1,res,rfl,rfl,rfl,by rw [hVe];rfl,by rw [h1],hkk,ht5.symm⟩
   rintro j V H rec ⟨pre,rest,done,m3,r3,res3,hk,hl,hdl,rfl,rfl,hkids,hts⟩ hrec;have hkl:k.length=pre.length+rest.length:=by rw [hk];simp
   cases rest with
   | nil =>
    simp only [bkK,ABZ,AB0] at hkids;obtain ⟨rfl,rfl,rfl⟩:=hkids;rw [List.length_nil,Nat.add_zero] at hkl;rw [<- hts,<- hV,AnU,List.append_nil,<- hkl];exact As4 _ (by omega) hk100
   | cons x rest =>
    have hi:(pre.length:Int)<k.length:=by rw [hkl];simp;omega
    have hg:=CC hk;have hbn:=Ug (n:=n) (by omega) op pre.length;have hble:=Bj op pre.length;simp only [bkK] at hkids;simp only [AB3] at hl hkl;have behind:∀(y:PV) (m4:M3) (more:List (Nat×Blk)),Al8 more->(if m4.e≠0 then some (none,m4,r3) else match Ve f y (below+Af op pre.length) (deep+1) m4 r3 with
       | none=>none
       | some (t,m,r)=>(bkK (fun v below m r=>Ve f v below (deep+1) m r) (fun i l m=>opP f V5 i l m) op below (pre.length+1) rest m r).map fun (ts,m,r)=>(ts.map (t::·),m,r))=some (res3,m',r') ->
      Bm (CP (.ptr (.ext 0) 0) (Hbk done (rest.length+1) more m4.s m4.w r3 m4.e) (.ptr (.own 75497472) 0) (iv below) (iv (Af op pre.length)) (iv deep) (SS dt n) (.fv y.enc) (.slc (.own 75506693) 3 k.length) (iv pre.length) (iv pre.length) ⟨[],MX m.s m.w r m.e⟩ (.fv V5.enc) (iv k.length) rec)
       t.enc (MX m'.s m'.w r' m'.e):=by
     intro y m4 more hM hy;by_cases h4:m4.e≠0
     ·rw [if_pos h4] at hy;simp only [ABZ,AB0] at hy;obtain ⟨rfl,rfl,rfl⟩:=hy;rw [<- hts];exact Axh hM _ h4
     ·rw [if_neg h4] at hy;have h4:m4.e=0:=by simpa using h4
      cases hbk:Ve f y (below+Af op pre.length) (deep+1) m4 r3 with
      | none=>rw [hbk] at hy;cases hy
      | some q =>
      obtain ⟨t5,m5,r5⟩:=q;rw [hbk] at hy;simp only at hy;cases hk2:bkK (fun v below m r=>Ve f v below (deep+1) m r) (fun i l m=>opP f V5 i l m) op below (pre.length+1) rest m5 r5 with
      | none=>rw [hk2] at hy;cases hy
      | some q =>
      obtain ⟨res6,m6,r6⟩:=q;rw [hk2] at hy;simp only [AB2,ABZ,AB0] at hy;obtain ⟨rfl,rfl,rfl⟩:=hy;rw [<- hdl];refine Av1 hb (by omega) hM _ h4 (by rw [hdl];exact hbk) (by omega) (by omega) (by rw [hdl];omega) (by omega) (by omega) (by omega) hk100 ?_;refine hrec rest.length _ _ (by omega) ⟨pre++[x],rest,done++[t5],m5,r5,res6,by rw [hk];simp,rfl,by simp [hdl],by simp [hdl],rfl,by simpa using hk2,?_⟩;rw [<- hts];cases res6 with
      | none=>rfl
      | some ts=>simp [AnU]
    rw [hVe];by_cases hb0:0<Af op pre.length
    ·rw [if_pos hb0] at hkids;have hb0':(0:Int)<Af op pre.length:=by omega
     cases hop:opP f V5 pre.length (Uf below (Af op pre.length)) m3 with
     | none=>rw [hop] at hkids;cases hkids
     | some q =>
     obtain ⟨y,m4⟩:=q;rw [hop] at hkids;have h9:=behind y m4 [(75512833,.row (((Uf below (Af op pre.length)).map PV.enc).map .fv) true)] (.inr ⟨_,_,rfl⟩) hkids;have hin:=Av9 (f:=f) (n:=n) (v:=V5) (y:=y) (below:=below) (deep:=deep) (i:=pre.length) (b:=Af op pre.length) (kl:=k.length) (len:=k.length) (done:=done) (rest:=rest.length+1) (m:=m3) (m4:=m4) (r:=r3) (w:=t.enc) (ext:=MX m'.s m'.w r' m'.e) (by omega) (by omega) (MX m.s m.w r m.e)
      (j:=fun x79 x80 x81 x82 x83 x84 x85 x86 x87 x88 x89 h90=>CP x79 h90 x83 x81 x87 x82 (SS dt n) x86 x84 x85 x89 ⟨[],MX m.s m.w r m.e⟩ x80 x88 rec) (by omega) (by omega) (by omega) hop h9
     simp only [D0,Dw,D7,Ds,D6,DJ,D9,DW,DR,DI,D1,Eb,D8,Du,D5,DB,Ec,DE,DX,D3,Fp,Dy,DL,DU,Dv,Fu,Dt,DY,DO,DK,Dx,S72,↓XX,XY,↓reduceIte,Nat.reduceBEq,Nat.reduceAdd,Int.reduceEq,Int.reduceLT,Int.reduceLE,↓IA,hi,↓ArK hg,↓Ag hbn,hb0',↓AsK (show Af op pre.length<=1000 by omega),↓GO,↓AI,XD,heldB,AR,XE,FB,DQ,NQ,Ld]
     rw [hVe] at hin;exact hin
    ·rw [if_neg hb0] at hkids;have hb0':¬ (0:Int)<Af op pre.length:=by omega
     have h9:=behind x m3 [] (.inl rfl) hkids;simp only [D0,Dw,D7,Ds,D6,DJ,D9,DW,DR,DI,D1,Eb,D8,Du,D5,DB,Ec,DE,DX,D3,Fp,Dy,DL,DU,Dv,Fu,Dt,DY,DO,DK,Dx,S72,↓XX,XY,↓reduceIte,Nat.reduceBEq,Nat.reduceAdd,Int.reduceEq,Int.reduceLT,Int.reduceLE,↓IA,hi,↓ArK hg,↓Ag hbn,hb0'];rw [hVe] at h9;exact h9
theorem AqZ:∀f,Aqk f
 | 0=>(fun _ _ _ _ _ _ _ _ h=>by rw [Ve.eq_def] at h;cases h)
 | f+1=>AnS (AqZ f)
abbrev Fl (mb:Nat) (f:FuncId):IV:=.agg [.func (.func f) [.ptr (.own mb) 0] []]
abbrev Di (mb:Nat):List (Int×IV):=[(5,Fl mb 94),(8,Fl mb 95),(9,Fl mb 95),(13,Fl mb 96),(30,Fl mb 97),(19,Fl mb 98)]
theorem Ao1 (r:Ref):IV.one (.mapr r)=true:=rfl
theorem Al3 {β:Type} (l:List IV) (e:Option β) (k:List FV->Option β):CD (.dead::l) e k=e:=rfl
theorem of4 {β:Type} (x y z u v b:IV) (l:List IV) (k:List IV->Option β):Hn (x::y::z::u::v::l) 4 b k=k (x::y::z::u::b::l):=rfl
theorem Ay4 (s:Nat) (own:List (Nat×Blk)) (ext:List Blk) (k:IV->Hp->List Ref->List Ref->Option (IV×Hp)):Ay (Hd s) s ⟨own,ext⟩ k=C0 own s (A4 own s (.map []) fun own=>k (.mapr (.own s)) ⟨own,ext⟩ [] [.own s]):=by
 unfold Ay;simp only [Hd,Rd.runLog,J8,C1,Cy];rfl
def Axq (b:Blk) (k:List (Int×IV)->Option (IV×Hp)):Option (IV×Hp):=match b with
 | .map es=>k es
 | _=>none
theorem AkQ (es:List (Int×IV)) (k:List (Int×IV)->Option (IV×Hp)):Axq (.map es) k=k es:=rfl
theorem Axb (m j:Nat) (v:IV) (hv:v.alive=true) (n:Int) (s:Nat) (own:List (Nat×Blk)) (ext:List Blk) (k:IV->Hp->List Ref->List Ref->Option (IV×Hp)) :
  Ay (Cc EE 98 (.mapr (.own m)) (iv n) v) s ⟨own,ext⟩ k=G6 own m fun b=>Axq b fun es=>A4 own m (.map (CB n v es)) fun own=>k .dead ⟨own,ext⟩ [.own m] [.own m]:=by
 have h1:=tMk;have h2:=tIk;cases hm:EE.T 98 with
 | none=>rw [hm] at h1;cases h1
 | some ti =>
  cases hi:EE.T 3 with
  | none=>rw [hi] at h2;cases h2
  | some ii =>
   rw [hm] at h1;rw [hi] at h2;obtain ⟨a,b,kd,z⟩:=ti;obtain ⟨a2,b2,kd2,z2⟩:=ii;simp only [AB2,ABZ] at h1 h2;subst h1 h2;rw [BC];unfold Ay;cases hl:Ao m own with
   | none=>simp only [Cc,hm,hi,W7,Rd.runLog,Hp.get,hl];rfl
   | some bl =>
    cases bl with
    | row c ro=>simp only [Cc,hm,hi,W7,Rd.runLog,Hp.get,hl];rfl
    | tok a b=>simp only [Cc,hm,hi,W7,Rd.runLog,Hp.get,hl];rfl
    | map es =>
     simp only [Cc,hm,hi,W7,Rd.runLog,Hp.get,hl,Amr,hv,and_self,if_true,Option.bind_some,AkQ]
     show (fRf (.own m) fun q=>Dp q ⟨own,ext⟩ fun _=>fBk (.map (CB n v es)) fun b=>Gg q b ⟨own,ext⟩ fun h=>J8 none s h fun h=>fV 3 .dead fun v=>k v h [.own m] ([.own m]++[]))=_
     simp only [Pt,C1,Cy,J8,Gg,Dp];rw [BC,hl];rfl
theorem As0 {ks:List Bool} (hks:∀b∈ks,b=false) {ih:Aj} {f:FuncId} {args:List IV} {vs:List FV} {w:FV} {mb mp:Nat} {own:List (Nat×Blk)} {s u r e s' u' r' e':Int} (hz:BL args=some vs) (hne:mb≠mp)
  (hl1:Ao mb own=some (.row [iv s,iv u,iv r,iv e,.mapr (.own mp)] false)) (hl2:Ao mp own=some (.map (Di mb))) (hr:Bm (ih f (.ptr (.ext 0) 0::vs.map .fv) ⟨[],MX s u r e⟩) w (MX s' u' r' e')) (k:IV->Hp->List Ref->List Ref->Option (IV×Hp)) :
  A0 (true::ks) false false ih f (.ptr (.own mb) 0::args) ⟨own,[]⟩ k=k (.fv w) ⟨AP mp (.map (Di mb)) (AP mb (.row [iv s',iv u',iv r',iv e',.mapr (.own mp)] false) own),[]⟩ [.own mp,.own mb] [.own mb,.own mp]:=by
 obtain ⟨v,own',e1,hfz⟩:=hr;obtain ⟨uu,hu⟩:=Pa hfz;have hD:FE (true::ks) false false ih f (.ptr (.own mb) 0::args) ⟨own,[]⟩ k=k (.fv w) ⟨AP mp (.map (Di mb)) (AP mb (.row [iv s',iv u',iv r',iv e',.mapr (.own mp)] false) own),[]⟩ [.own mp,.own mb] [.own mb,.own mp]:=by
  have h1:Bn (true::ks) (.ptr (.own mb) 0::args)=.ret (.ptr (.own mb) 0::vs.map .fv,[.own mb],[]):=by
   simp only [Bn,Jf args ks hks hz,Rd.bind,IV.refs];rfl
  have hn1:¬ (Ref.own mp=Ref.own mb):=by intro h;cases h;exact hne rfl
  have h2:(B2 4096 [.own mb] []).runLog ⟨own,[]⟩ []=some ([(.own mb,.row [iv s,iv u,iv r,iv e,.mapr (.own mp)] false),(.own mp,.map (Di mb))],[.own mp,.own mb]):=by
   show (B2 (4087+1+1+1+1+1+1+1+1+1) [.own mb] []).runLog ⟨own,[]⟩ []=_
   simp only [B2,hasRef,Bool.false_eq_true,if_false,Rd.runLog,Hp.get,hl1,hl2,Blk.refs,IV.refs.refsL,IV.refs,List.append_nil,List.nil_append,List.cons_append,AB5,AB4,hn1,decide_false,decide_true,Bool.or_false,Bool.true_or,if_true]
  have p1:Dr [(.own mb,.row [iv s,iv u,iv r,iv e,.mapr (.own mp)] false),(.own mp,.map (Di mb))] (.own mb)=some (.ext 0):=by simp [Dr,Ck]
  have p2:Dr [(.own mb,.row [iv s,iv u,iv r,iv e,.mapr (.own mp)] false),(.own mp,.map (Di mb))] (.own mp)=some (.ext 1):=by simp [Dr,Ck,hn1]
  have h3:IV.ren.renL (Dr [(.own mb,.row [iv s,iv u,iv r,iv e,.mapr (.own mp)] false),(.own mp,.map (Di mb))]) (.ptr (.own mb) 0::vs.map .fv)=some (.ptr (.ext 0) 0::vs.map .fv):=by
   simp only [IV.ren.renL,IV.ren,p1,AB2,Option.bind_some,Fw]
  have h4:A5 (Dr [(.own mb,.row [iv s,iv u,iv r,iv e,.mapr (.own mp)] false),(.own mp,.map (Di mb))]) [.row [iv s,iv u,iv r,iv e,.mapr (.own mp)] false,.map (Di mb)]=some (MX s u r e):=by
   simp only [A5,Blk.ren,IV.ren.renL,IV.ren,p1,p2,AB2,Option.bind_some,AB5,AB4,List.zip_cons_cons,List.zip_nil_left]
  have h5:A5 (Cw [(.own mb,.row [iv s,iv u,iv r,iv e,.mapr (.own mp)] false),(.own mp,.map (Di mb))]) (MX s' u' r' e')=some [.row [iv s',iv u',iv r',iv e',.mapr (.own mp)] false,.map (Di mb)]:=by
   simp only [A5,Blk.ren,IV.ren.renL,IV.ren,Cw,List.getElem?_cons_zero,List.getElem?_cons_succ,AB2,Option.bind_some,AB5,AB4,List.zip_cons_cons,List.zip_nil_left]
  unfold FE;simp only [h1,Rd.runLog,h2,h3,AB5,AB4,h4,DG (Cy 3),DG C1,JU,Bool.false_eq_true,if_false,e1,hu,AB2,IV.ren,h5,AB3,List.length_nil,Bq,List.all_nil,and_self,if_true,List.nil_append,List.zip_cons_cons,List.zip_nil_left];have hl3:Ao mp (AP mb (.row [iv s',iv u',iv r',iv e',.mapr (.own mp)] false) own)=some (.map (Di mb)):=by
   rw [<- hl2];clear hl1 hl2 h2 e1 hu hfz
   induction own with
   | nil=>simp only [AP,Ao,if_neg (fun h=>hne (Eq.symm h))]
   | cons p l ih =>
    obtain ⟨j,c⟩:=p;simp only [AP];split
    ·rename_i h;subst h;simp only [Ao,if_neg (fun h=>hne (Eq.symm h))]
    ·simp only [Ao,ih]
  have h6:laid ⟨own,[]⟩ [(.own mb,.row [iv s',iv u',iv r',iv e',.mapr (.own mp)] false),(.own mp,.map (Di mb))]=some ⟨AP mp (.map (Di mb)) (AP mb (.row [iv s',iv u',iv r',iv e',.mapr (.own mp)] false) own),[]⟩:=by
   simp only [laid,Hp.get,hl1,Hp.set,hl3]
  simp only [h6,MG,Cy]
 rw [Ku,WT,TY,O2 0 args _ _ _ _ ks hks hz];simp only [SN,Td,cond_false];exact hD
def HH (op:Int):Int:=if op=8\/op=9\/op=12\/op=19\/op=30 then 1 else if op=4\/op=5 then 2 else if op=7 then 3 else if op=13 then 4 else -1
theorem Ann {n:Nat} (hn:0<n) (op:Int):AZ (SS dt n 93 [iv op] ⟨[],[]⟩) (.int .i64 (HH op)):=by
 obtain ⟨n,rfl⟩:∃k,n=k+1:=⟨n - 1,by omega⟩;rw [c93];unfold HH;by_cases h:op=8\/op=9\/op=12\/op=19\/op=30
 ·rw [if_pos h];rcases h with rfl | rfl | rfl | rfl | rfl<;>(simp only [↓UU5,↓XX,XY,↓reduceIte,Nat.reduceBEq,Nat.reduceAdd,Int.reduceEq,Int.reduceLT,Int.reduceLE];exact An _ _)
 ·rw [if_neg h];have h8:¬ op=8:=fun e=>h (by simp [e]);have h9:¬ op=9:=fun e=>h (by simp [e]);have h12:¬ op=12:=fun e=>h (by simp [e]);have h19:¬ op=19:=fun e=>h (by simp [e]);have h30:¬ op=30:=fun e=>h (by simp [e]);by_cases h2:op=4\/op=5
  ·rw [if_pos h2];rcases h2 with rfl | rfl<;>(simp only [↓UU5,↓XX,XY,↓reduceIte,Nat.reduceBEq,Nat.reduceAdd,Int.reduceEq,Int.reduceLT,Int.reduceLE];exact An _ _)
  ·rw [if_neg h2];have h4:¬ op=4:=fun e=>h2 (by simp [e]);have h5:¬ op=5:=fun e=>h2 (by simp [e]);by_cases h7:op=7
   ·subst h7;simp only [↓UU5,↓XX,XY,↓reduceIte,Nat.reduceBEq,Nat.reduceAdd,Int.reduceEq,Int.reduceLT,Int.reduceLE];exact An _ _
   ·by_cases h13:op=13
    ·subst h13;simp only [↓UU5,↓XX,XY,↓reduceIte,Nat.reduceBEq,Nat.reduceAdd,Int.reduceEq,Int.reduceLT,Int.reduceLE];exact An _ _
    ·simp only [↓UU5,↓XX,XY,↓reduceIte,Nat.reduceBEq,Nat.reduceAdd,Int.reduceEq,Int.reduceLT,Int.reduceLE,h4,h5,h7,h8,h9,h12,h13,h19,h30];exact An _ _
mutual
def Tm.shaped:Tm->Bool
 | .mk op n ks=>!(decide (0<=HH op/\HH op≠ks.length) || decide (op=1/\n<0)) && Tm.shapedL ks
def Tm.shapedL:List Tm->Bool
 | []=>true
 | t::l=>t.shaped && Tm.shapedL l
end
theorem Aik:∀(n:Nat) (t:Tm),t.wt+1<n->t.wt<=1152921504606846976->AZ (SS dt n 69 [.fv t.enc] ⟨[],[]⟩) (.bool t.shaped):=by
 intro n
 induction n with
 | zero=>intro t h;omega
 | succ n ih =>
  intro t h hw;obtain ⟨op,m,ks⟩:=t;simp only [Tm.wt] at h hw;rw [c69,Am];have hlen:=Fj ks;have hk:=Ann (n:=n) (by omega) op;rw [Tm.shaped];have wl:∀j:Nat,j<=ks.length->BK (j:Int)=j:=fun j hj=>Av (by omega) (by omega);have loop:AZ (BH n (fun q99 l100 h101=>Ko l100 h101 (SS dt n) ⟨[],[]⟩ q99) [.fv (.sl (ks.map Tm.enc)),iv ks.length,iv 0] ⟨[(72351744,.row [iv op,iv m,.fv (.sl (ks.map Tm.enc))] false)],[]⟩) (.bool (Tm.shapedL ks)):=by
   refine Bc (Q:=fun r=>AZ r _) (fun k V H=>∃pre rest,ks=pre++rest/\rest.length=k/\V=[.fv (.sl (ks.map Tm.enc)),iv ks.length,iv pre.length]/\H=⟨[(72351744,.row [iv op,iv m,.fv (.sl (ks.map Tm.enc))] false)],[]⟩/\Tm.shapedL rest=Tm.shapedL ks)
    ?_ n ks.length _ _ (by omega) ⟨[],ks,rfl,rfl,rfl,rfl,rfl⟩
   rintro k V H rec ⟨pre,rest,hk,hl,rfl,rfl,ht⟩ hrec;have hkl:ks.length=pre.length+rest.length:=by rw [hk];simp
   cases rest with
   | nil =>
    have hno:¬ ((pre.length:Int)<ks.length):=by rw [hkl];simp
    rw [<- ht];simp only [KC,LM,KE,Ko,LI,Lp,KA,Le,S69,↓XX,XY,↓reduceIte,Nat.reduceBEq,Nat.reduceAdd,Int.reduceEq,Int.reduceLT,Int.reduceLE,hno,Tm.shapedL];exact An _ _
   | cons t rest =>
    have hi:(pre.length:Int)<ks.length:=by rw [hkl];simp;omega
    have hg:=CC hk;have htw:=CZ (t:=t) (l:=ks) (by rw [hk];simp);have hs:=ih t (by omega) (by omega);have hwi:BK ((pre.length:Int)+1)=((pre++[t]).length:Int):=(Av (by omega) (by omega)).trans (by simp);simp only [Tm.shapedL] at ht;generalize t.shaped=v at hs ht;obtain ⟨o,p,l⟩:=t;simp only [AB3] at hl;rw [Am] at hs;cases v
    ·rw [<- ht];simp only [KC,LM,KE,Ko,LI,Lp,KA,Le,S69,↓XX,XY,↓reduceIte,Nat.reduceBEq,Nat.reduceAdd,Int.reduceEq,Int.reduceLT,Int.reduceLE,hi,↓Bt (AM hg) (Bg _ _ _),↓Cd,hwi,↓Aw hs,Bool.false_and];exact An _ _
    ·simp only [KC,LM,KE,Ko,LI,Lp,KA,Le,S69,↓XX,XY,↓reduceIte,Nat.reduceBEq,Nat.reduceAdd,Int.reduceEq,Int.reduceLT,Int.reduceLE,hi,↓Bt (AM hg) (Bg _ _ _),↓Cd,hwi,↓Aw hs,↓AI,XD,heldB,AR,XE];refine hrec rest.length _ _ (by omega) ?_;exact ⟨pre++[.mk o p l],rest,by rw [hk];simp,rfl,rfl,rfl,by simpa using ht⟩
  by_cases h0:0<=HH op
  ·by_cases h1:HH op=ks.length
   ·by_cases h2:op=1
    ·exfalso;subst h2;revert h0;decide
    ·have e1:(!(decide (0<=HH op/\HH op≠ks.length) || decide (op=1/\m<0)) && Tm.shapedL ks)=Tm.shapedL ks:=by simp [h1,h2]
     rw [e1];have h0':(0:Int)<=ks.length:=by omega
     rw [h1] at hk;simp only [↓UU6,↓XX,XY,↓reduceIte,Nat.reduceBEq,Nat.reduceAdd,Int.reduceEq,Int.reduceLT,Int.reduceLE,↓Aw hk,h0',h2,↓AI,XD,heldB,AR,XE];exact loop
   ·have e1:(!(decide (0<=HH op/\HH op≠ks.length) || decide (op=1/\m<0)) && Tm.shapedL ks)=false:=by simp [h0,h1]
    rw [e1];simp only [↓UU6,↓XX,XY,↓reduceIte,Nat.reduceBEq,Nat.reduceAdd,Int.reduceEq,Int.reduceLT,Int.reduceLE,↓Aw hk,h0,h1];exact An _ _
  ·by_cases h2:op=1
   ·subst h2;by_cases h3:m<0
    ·have e1:(!(decide (0<=HH 1/\HH 1≠ks.length) || decide ((1:Int)=1/\m<0)) && Tm.shapedL ks)=false:=by simp [h3]
     rw [e1];simp only [↓UU6,↓XX,XY,↓reduceIte,Nat.reduceBEq,Nat.reduceAdd,Int.reduceEq,Int.reduceLT,Int.reduceLE,↓Aw hk,h0,h3];exact An _ _
    ·have e1:(!(decide (0<=HH 1/\HH 1≠ks.length) || decide ((1:Int)=1/\m<0)) && Tm.shapedL ks)=Tm.shapedL ks:=by simp [h0,h3]
     rw [e1];simp only [↓UU6,↓XX,XY,↓reduceIte,Nat.reduceBEq,Nat.reduceAdd,Int.reduceEq,Int.reduceLT,Int.reduceLE,↓Aw hk,h0,h3,↓AI,XD,heldB,AR,XE];exact loop
   ·have e1:(!(decide (0<=HH op/\HH op≠ks.length) || decide (op=1/\m<0)) && Tm.shapedL ks)=Tm.shapedL ks:=by simp [h0,h2]
    rw [e1];simp only [↓UU6,↓XX,XY,↓reduceIte,Nat.reduceBEq,Nat.reduceAdd,Int.reduceEq,Int.reduceLT,Int.reduceLE,↓Aw hk,h0,h2,↓AI,XD,heldB,AR,XE];exact loop
def U9 (f:Nat) (t:Tm):Option (Tm×Int) :=
 if t.shaped=false then some (.z,1) else match RU f [] t ⟨100000,5000000,0⟩ with
 | none=>none
 | some (v,m)=>if m.e≠0 then some (.z,m.e) else match Ve f v 0 1 m 0 with
  | none=>none
  | some (u,m,_)=>if m.e≠0 then some (.z,m.e) else some (u,0)
theorem AiC {ih:Aj} {f:FuncId} {args:List IV} {h h':Hp} {v:IV} (hr:ih f args h=some (v,h')) (k:IV->Hp->List Ref->List Ref->Option (IV×Hp)):AjO ih f args h k=k v h' [] []:=by
 unfold AjO;rw [hr]
abbrev Hnm (a b:Blk) (s u r e:Int):Hp :=
 ⟨[(42991616,a),(42991617,b),(73401345,.row [iv s,iv u,iv r,iv e,.mapr (.own 73402369)] false),(73402369,.map (Di 73401345))],[]⟩
abbrev Hbg (a b:Blk) (es:List (Int×IV)):Hp :=
 ⟨[(42991616,a),(42991617,b),(73401345,.row [iv 100000,iv 5000000,iv 0,iv 0,.dead] false),(73402369,.map es)],[]⟩
abbrev fnO (g:FuncId):IV:=.func (.func g) [.ptr (.own 73401345) 0] []
theorem Qx (a b:Blk) (es:List (Int×IV)) (g:FuncId) (n:Int) (s:Nat) (k:IV->Hp->List Ref->List Ref->Option (IV×Hp)) :
  Ay (Cc EE 98 (.mapr (.own 73402369)) (iv n) (Fl 73401345 g)) s (Hbg a b es) k=k .dead (Hbg a b (CB n (Fl 73401345 g) es)) [.own 73402369] [.own 73402369]:=by
 rw [Axb _ 0 _ rfl,BC];rw [show Ao 73402369 (Hbg a b es).own=some (.map es) from rfl,Option.bind_some,AkQ,BZ]
 rfl
theorem P4 (g:FuncId) (k:IV->Option (IV×Hp)):By [.fv .nilf] [(0,1,fnO g)] k=k (Fl 73401345 g):=rfl
theorem Ak7 (a b:Blk) (es:List (Int×IV)):RR (.ptr (.own 73401345) 0) (Hbg a b es) (.mapr (.own 73402369))=some (.ptr (.own 73401345) 0,⟨[(42991616,a),(42991617,b),(73401345,.row [iv 100000,iv 5000000,iv 0,iv 0,.mapr (.own 73402369)] false),(73402369,.map es)],[]⟩):=by
 simp only [RR,↓XX,XY,↓reduceIte,Nat.reduceBEq,Nat.reduceAdd,Int.reduceEq,Int.reduceLT,Int.reduceLE,↓Ao1,↓of4]
theorem Ms (g:FuncId) (s:Nat) (h:Hp) (k:IV->Hp->List Ref->List Ref->Option (IV×Hp)):Ay (Idl.val (Dk (.func g) [.ptr (.own 73401345) 0] [])) s h k=k (fnO g) h [] []:=gen_val' _ _ _ _
theorem Ajo (a b:Blk) (es:List (Int×IV)):TA (fnO 97) (Hbg a b es) (.mapr (.own 73402369)) (.ptr (.own 73401345) 0) =
  RR (.ptr (.own 73401345) 0) (Hbg a b (CB 19 (Fl 73401345 98) (CB 30 (Fl 73401345 97) es))) (.mapr (.own 73402369)):=by
 unfold TA;rw [P4,Qx,Ms,P4,Qx]
theorem Ajn (a b:Blk) (es:List (Int×IV)):SZ (Hbg a b es) (.mapr (.own 73402369)) (Fl 73401345 95) (.ptr (.own 73401345) 0) =
  TA (fnO 97) (Hbg a b (CB 13 (Fl 73401345 96) (CB 9 (Fl 73401345 95) es))) (.mapr (.own 73402369)) (.ptr (.own 73401345) 0):=by
 unfold SZ;rw [Qx,Ms,P4,Qx,Ms]
theorem Amk (a b:Blk) (es:List (Int×IV)):Xz (Hbg a b es) (.ptr (.own 73401345) 0) (.mapr (.own 73402369)) =
  SZ (Hbg a b (CB 8 (Fl 73401345 95) es)) (.mapr (.own 73402369)) (Fl 73401345 95) (.ptr (.own 73401345) 0):=by
 unfold Xz;rw [Ms,P4,Qx,Ms,P4]
theorem Axr (k:IV->Option (IV×Hp)):By [.fv (.int .i64 0),.fv (.int .i64 0),.fv (.int .i64 0),.fv (.int .i64 0),.dead] [(0,1,.fv (.int .i64 100000)),(1,1,.fv (.int .i64 5000000))] k=k (.agg [iv 100000,iv 5000000,iv 0,iv 0,.dead]):=by
 simp only [↓XX,XY,↓reduceIte,Nat.reduceBEq,Nat.reduceAdd,Int.reduceEq,Int.reduceLT,Int.reduceLE,↓Al3]
theorem T6 {n:Nat} (hn:0<n) (a b:Blk):SS dt n 70 [] ⟨[(42991616,a),(42991617,b)],[]⟩=some (.ptr (.own 73401345) 0,Hnm a b 100000 5000000 0 0):=by
 obtain ⟨n,rfl⟩:∃k,n=k+1:=⟨n - 1,by omega⟩;rw [c70];unfold S70;rw [Axr,VW];have e1:∀k:IV->Hp->List Ref->List Ref->Option (IV×Hp),GY 73401345 (.row [iv 100000,iv 5000000,iv 0,iv 0,.dead] false) (.ptr (.own 73401345) 0) ⟨[(42991616,a),(42991617,b)],[]⟩ k =
   k (.ptr (.own 73401345) 0) ⟨[(42991616,a),(42991617,b),(73401345,.row [iv 100000,iv 5000000,iv 0,iv 0,.dead] false)],[]⟩ [] [.own 73401345]:=by
  intro k;simp only [↓XX,XY,↓reduceIte,Nat.reduceBEq,Nat.reduceAdd,Int.reduceEq,Int.reduceLT,Int.reduceLE]
 rw [e1];have e2:∀k:IV->Hp->List Ref->List Ref->Option (IV×Hp),Ay (Hd 73402369) 73402369 ⟨[(42991616,a),(42991617,b),(73401345,.row [iv 100000,iv 5000000,iv 0,iv 0,.dead] false)],[]⟩ k =
   k (.mapr (.own 73402369)) (Hbg a b []) [] [.own 73402369]:=by
  intro k;rw [Ay4];simp only [↓XX,XY,↓reduceIte,Nat.reduceBEq,Nat.reduceAdd,Int.reduceEq,Int.reduceLT,Int.reduceLE]
 rw [e2,Ms,P4,Qx,Amk,Ajn,Ajo,Ak7];rfl
section
variable {ih:Aj} {f:FuncId} {w:FV} {a b:Blk} {s u r e s' u' r' e':Int} (k:IV->Hp->List Ref->List Ref->Option (IV×Hp))
theorem AqV (args:List IV) (ks:List Bool) (hks:∀b∈ks,b=false) {vs:List FV} (hz:BL args=some vs) (hr:Bm (ih f (.ptr (.ext 0) 0::vs.map .fv) ⟨[],MX s u r e⟩) w (MX s' u' r' e')) :
  A0 (true::ks) false false ih f (.ptr (.own 73401345) 0::args) (Hnm a b s u r e) k=k (.fv w) (Hnm a b s' u' r' e') [.own 73402369,.own 73401345] [.own 73401345,.own 73402369]:=by
 (try unfold is0);rw [As0 hks hz (mp:=73402369) (by decide) (by rfl) (by rfl) hr]
 rfl
theorem Wr {x y:IV} {vx vy:FV} (hr:Bm (ih f [.ptr (.ext 0) 0,.fv vx,.fv vy] ⟨[],MX s u r e⟩) w (MX s' u' r' e')) (hx:Ba x=some vx) (hy:Ba y=some vy) :
  A0 [true,false,false] false false ih f [.ptr (.own 73401345) 0,x,y] (Hnm a b s u r e) k=k (.fv w) (Hnm a b s' u' r' e') [.own 73402369,.own 73401345] [.own 73401345,.own 73402369] :=
 AqV k [x,y] [false,false] (by simp) (WJ hx hy) hr
theorem Ams {x y z:IV} {vx vy vz:FV} (hr:Bm (ih f [.ptr (.ext 0) 0,.fv vx,.fv vy,.fv vz] ⟨[],MX s u r e⟩) w (MX s' u' r' e')) (hx:Ba x=some vx) (hy:Ba y=some vy) (hz:Ba z=some vz) :
  A0 [true,false,false,false] false false ih f [.ptr (.own 73401345) 0,x,y,z] (Hnm a b s u r e) k=k (.fv w) (Hnm a b s' u' r' e') [.own 73402369,.own 73401345] [.own 73401345,.own 73402369] :=
 AqV k [x,y,z] [false,false,false] (by simp) (Ahq hx hy hz) hr
end
theorem AlL {f n:Nat} {t u:Tm} {e:Int} (h:U9 f t=some (u,e)) (hn:f+3<=n) (hw:t.wt+3<n) (hw2:t.wt<=1152921504606846976):AZ (SS dt n 41 [.fv t.enc] ⟨[],[]⟩) (.tuple [u.enc,.int .i64 e]):=by
 obtain ⟨n,rfl⟩:∃k,n=k+1:=⟨n - 1,by omega⟩;rw [c41];have hs:=Aik n t (by omega) hw2;unfold U9 at h;obtain ⟨op,m,ks⟩:=t;rw [Am] at hs ⊢;by_cases h0:(Tm.mk op m ks).shaped=false
 ·rw [if_pos h0] at h;simp only [ABZ,AB0] at h;obtain ⟨rfl,rfl⟩:=h;rw [h0] at hs;simp only [NW,OA,Ox,O7,Pe,Pl,Ol,NI,OU,NT,S41,↓XX,XY,↓reduceIte,Nat.reduceBEq,Nat.reduceAdd,Int.reduceEq,Int.reduceLT,Int.reduceLE,↓Aw hs];exact Ax rfl (by simp) _
 ·rw [if_neg h0] at h;have h0:(Tm.mk op m ks).shaped=true:=by simpa using h0
  rw [h0] at hs;cases hev:RU f [] (.mk op m ks) ⟨100000,5000000,0⟩ with
  | none=>rw [hev] at h;cases h
  | some q =>
   obtain ⟨v,m1⟩:=q;rw [hev] at h;simp only at h;have hc1:=(MC f).1 _ _ _ _ _ hev 0 n (by omega);rw [Am,Up] at hc1;by_cases h1:m1.e=0
   ·rw [if_neg (by simpa using h1)] at h;simp only [h1] at hc1;cases hbk:Ve f v 0 1 m1 0 with
    | none=>rw [hbk] at h;cases h
    | some q =>
     obtain ⟨u1,m2,r2⟩:=q;rw [hbk] at h;simp only at h;have hc2:=AqZ f _ _ _ _ _ _ _ _ hbk n (by omega);obtain ⟨o1,n1,k1⟩:=u1;rw [Am] at hc2;simp only [h1] at hc2;by_cases h2:m2.e=0
     ·rw [if_neg (by simpa using h2)] at h;simp only [ABZ,AB0] at h;obtain ⟨rfl,rfl⟩:=h;rw [Am];simp only [NW,OA,Ox,O7,Pe,Pl,Ol,NI,OU,NT,S41,↓XX,XY,↓reduceIte,Nat.reduceBEq,Nat.reduceAdd,Int.reduceEq,Int.reduceLT,Int.reduceLE,↓Aw hs,↓AiC (T6 (n:=n) (by omega) _ _),↓Wr _ hc1,↓Ams _ hc2,h1,h2];exact An _ _
     ·rw [if_pos h2] at h;simp only [ABZ,AB0] at h;obtain ⟨rfl,rfl⟩:=h;simp only [NW,OA,Ox,O7,Pe,Pl,Ol,NI,OU,NT,S41,↓XX,XY,↓reduceIte,Nat.reduceBEq,Nat.reduceAdd,Int.reduceEq,Int.reduceLT,Int.reduceLE,↓Aw hs,↓AiC (T6 (n:=n) (by omega) _ _),↓Wr _ hc1,↓Ams _ hc2,h1,h2];exact Ax rfl (by simp) _
   ·rw [if_pos h1] at h;simp only [ABZ,AB0] at h;obtain ⟨rfl,rfl⟩:=h;simp only [NW,OA,Ox,O7,Pe,Pl,Ol,NI,OU,NT,S41,↓XX,XY,↓reduceIte,Nat.reduceBEq,Nat.reduceAdd,Int.reduceEq,Int.reduceLT,Int.reduceLE,↓Aw hs,↓AiC (T6 (n:=n) (by omega) _ _),↓Wr _ hc1,h1];exact Ax rfl (by simp) _
end Idl
end Go.Proofs.Ytkfecngimlcfoaa
namespace Go.Proofs.Ytkfecngimlcfoaa
namespace Idl
theorem gb1 (a:FV):Pw 400 [.ext 0] 0 [.row [.fv a] false]=true:=TZ [a]
theorem ob1 (a:FV):okB 1 [.row [.fv a] false]=true:=SK [a]
theorem AqM (a a':FV):OneX [.row [.fv a] false] [.row [.fv a'] false]:=⟨gb1 ..,rfl,rfl,ob1 ..⟩
theorem Aue {ks:List Bool} (hks:∀b∈ks,b=false) {ih:Aj} {f:FuncId} {a0:IV} {x0:FV} {args:List IV} {vs:List FV} {w:FV} {ext ext':List Blk} (h0:Ba a0=some x0) (hz:BL args=some vs) (X:OneX ext ext') (hr:Bm (ih f (.fv x0 :: .ptr (.ext 0) 0::vs.map .fv) ⟨[],ext⟩) w ext')
  (own:List (Nat×Blk)) (k:IV->Hp->List Ref->List Ref->Option (IV×Hp)):A0 (false::true::ks) false false ih f (a0 :: .ptr (.ext 0) 0::args) ⟨own,ext⟩ k=k (.fv w) ⟨own,ext'⟩ [.ext 0] [.ext 0]:=by
 rw [Ku,TD,LP _ _ _ _ h0,WT,TY,O2 0 args _ _ _ _ ks hks hz]
 have:=RC (r1:=.ext 0) (rs1:=[]) hr X.g (by rw [X.l,X.l']) (by rw [X.l];exact X.o) own (ih f (.fv x0 :: .ptr (.ext 0) 0::vs.map .fv) ⟨[],[]⟩) [] [] (FE (false::true::ks) false false ih f (a0 :: .ptr (.ext 0) 0::args) ⟨own,ext⟩ k) k
 refine this.trans ?_;rw [X.l];rfl
theorem Zo {ih:Aj} {f:FuncId} {a b:IV} {x y w:FV} {ext ext':List Blk} (hr:Bm (ih f [.fv x,.ptr (.ext 0) 0,.fv y] ⟨[],ext⟩) w ext') (X:OneX ext ext') (ha:Ba a=some x) (hb:Ba b=some y) (own:List (Nat×Blk))
  (k:IV->Hp->List Ref->List Ref->Option (IV×Hp)):A0 [false,true,false] false false ih f [a,.ptr (.ext 0) 0,b] ⟨own,ext⟩ k=k (.fv w) ⟨own,ext'⟩ [.ext 0] [.ext 0]:=Aue (ks:=[false]) (by simp) ha (Amv hb) X hr own k
theorem Ars {ks:List Bool} (hks:∀b∈ks,b=false) {ih:Aj} {f:FuncId} {a0:IV} {x0:FV} {args:List IV} {vs:List FV} {w:FV} {s:Nat} {st st':List FV} {own:List (Nat×Blk)} (h0:Ba a0=some x0) (hz:BL args=some vs) (hl:Ao s own=some (.row (st.map .fv) false))
  (hr:Bm (ih f (.fv x0 :: .ptr (.ext 0) 0::vs.map .fv) ⟨[],[.row (st.map .fv) false]⟩) w [.row (st'.map .fv) false]) (k:IV->Hp->List Ref->List Ref->Option (IV×Hp)) :
  A0 (false::true::ks) false false ih f (a0 :: .ptr (.own s) 0::args) ⟨own,[]⟩ k=k (.fv w) ⟨AP s (.row (st'.map .fv) false) own,[]⟩ [.own s] [.own s]:=by
 obtain ⟨v,own',e1,hfz⟩:=hr;obtain ⟨u,hu⟩:=Pa hfz;have hD:FE (false::true::ks) false false ih f (a0 :: .ptr (.own s) 0::args) ⟨own,[]⟩ k=k (.fv w) ⟨AP s (.row (st'.map .fv) false) own,[]⟩ [.own s] [.own s]:=by
  have h1:Bn (false::true::ks) (a0 :: .ptr (.own s) 0::args)=.ret (.fv x0 :: .ptr (.own s) 0::vs.map .fv,[.own s],[]):=by
   simp only [Bn,frp 4096 (by omega) h0,Jf args ks hks hz,Rd.bind,IV.refs];rfl
  have h2:(B2 4096 [.own s] []).runLog ⟨own,[]⟩ []=some ([(.own s,.row (st.map .fv) false)],[.own s]):=by
   show (B2 (4094+1+1) [.own s] []).runLog ⟨own,[]⟩ []=_
   simp only [B2,hasRef,Bool.false_eq_true,if_false,Rd.runLog,Hp.get,hl,Blk.refs,On,List.append_nil,List.nil_append]
  have h3:IV.ren.renL (Dr [(.own s,.row (st.map .fv) false)]) (.fv x0 :: .ptr (.own s) 0::vs.map .fv)=some (.fv x0 :: .ptr (.ext 0) 0::vs.map .fv):=by
   simp only [IV.ren.renL,IV.ren,Dr,Ck,if_true,AB2,Option.bind_some,Fw]
  have h4:A5 (Dr [(.own s,.row (st.map .fv) false)]) [.row (st.map .fv) false]=some [.row (st.map .fv) false]:=by
   simp only [A5,Blk.ren,Fw,AB2,Option.bind_some]
  have h5:A5 (Cw [(.own s,.row (st.map .fv) false)]) [.row (st'.map .fv) false]=some [.row (st'.map .fv) false]:=by
   simp only [A5,Blk.ren,Fw,AB2,Option.bind_some]
  unfold FE;simp only [h1,Rd.runLog,h2,h3,AB5,AB4,h4,DG (Cy 3),DG C1,JU,Bool.false_eq_true,if_false,e1,hu,AB2,IV.ren,h5,AB3,List.length_nil,Bq,List.all_nil,and_self,if_true,List.nil_append,List.zip_cons_cons,List.zip_nil_left];have h6:laid ⟨own,[]⟩ [(.own s,.row (st'.map .fv) false)]=some ⟨AP s (.row (st'.map .fv) false) own,[]⟩:=by
   simp only [laid,Hp.get,hl,Hp.set]
  simp only [h6,MG,Cy]
 rw [Ku,TD,LP _ _ _ _ h0,WT,TY,O2 0 args _ _ _ _ ks hks hz];simp only [SN,Td,cond_false];exact hD
theorem An6 {ih:Aj} {f:FuncId} {x y:IV} {vx vy w:FV} {s:Nat} {a a':FV} {own own':List (Nat×Blk)} (hr:Bm (ih f [.fv vx,.ptr (.ext 0) 0,.fv vy] ⟨[],[.row [.fv a] false]⟩) w [.row [.fv a'] false])
  (hx:Ba x=some vx) (hy:Ba y=some vy) (hl:Ao s own=some (.row [.fv a] false)) (ho:AP s (.row [.fv a'] false) own=own') (k:IV->Hp->List Ref->List Ref->Option (IV×Hp)) :
  A0 [false,true,false] false false ih f [x,.ptr (.own s) 0,y] ⟨own,[]⟩ k=k (.fv w) ⟨own',[]⟩ [.own s] [.own s]:=by
 subst ho;exact Ars (ks:=[false]) (by simp) (st:=[a]) (st':=[a']) hx (Amv hy) hl hr k
def C4 (op:Int):Int:=if op<0 then -1 else ([-1,0,0,2,2,2,2,3,1,1,0,0,1,4,0,0,2,2,1,1,2,2,2,1,1,0,2,3,2,2,1]:List Int).getD op.toNat (-1)
theorem OF (op:Int):(0<=op/\op<=30)\/op<0\/30<op:=by omega
theorem Mg {op:Int} (h:op<0\/30<op):C4 op=-1:=by
 unfold C4;split
 ·rfl
 ·rw [List.getD_eq_getElem?_getD,List.getElem?_eq_none (by simp;omega)];rfl
theorem AjU {P:Int->Prop} (h:∀k:Nat,k<31->P k) {op:Int} (h1:0<=op/\op<=30):P op:=by
 have:=h op.toNat (by omega)
 rwa [Int.toNat_of_nonneg h1.1] at this
theorem Ake {n:Nat} (hn:0<n) (op:Int):AZ (SS dt n 52 [iv op] ⟨[],[]⟩) (.int .i64 (C4 op)):=by
 obtain ⟨n,rfl⟩:∃k,n=k+1:=⟨n - 1,by omega⟩;rw [c52];rcases OF op with h | h
 ·revert op
  refine fun op h=>AjU (P:=fun op=>AZ (S52 (SS dt n) n (iv op) ⟨[],[]⟩) (.int .i64 (C4 op))) ?_ h;intro k hk;rcases k with _ | k
  ·simp only [Ry,Si,RW,SA,Q8,Rg,Sy,Rj,Ta,SX,TU,Sc,Tt,Ti,SW,RQ,SF,R7,S52,↓XX,XY,↓reduceIte,Nat.reduceBEq,Nat.reduceAdd,Int.reduceEq,Int.reduceLT,Int.reduceLE];exact An _ _
  iterate 30 (rcases k with _ | k;· simp only [Ry,Si,RW,SA,Q8,Rg,Sy,Rj,Ta,SX,TU,Sc,Tt,Ti,SW,RQ,SF,R7,S52,↓XX,XY,↓reduceIte,Nat.reduceBEq,Nat.reduceAdd,Int.reduceEq,Int.reduceLT,Int.reduceLE];exact An _ _)
  omega
 ·rw [Mg h];have q1:op≠1:=by omega
  have q2:op≠2:=by omega
  have q3:op≠3:=by omega
  have q4:op≠4:=by omega
  have q5:op≠5:=by omega
  have q6:op≠6:=by omega
  have q7:op≠7:=by omega
  have q8:op≠8:=by omega
  have q9:op≠9:=by omega
  have q10:op≠10:=by omega
  have q11:op≠11:=by omega
  have q12:op≠12:=by omega
  have q13:op≠13:=by omega
  have q14:op≠14:=by omega
  have q15:op≠15:=by omega
  have q16:op≠16:=by omega
  have q17:op≠17:=by omega
  have q18:op≠18:=by omega
  have q19:op≠19:=by omega
  have q20:op≠20:=by omega
  have q21:op≠21:=by omega
  have q22:op≠22:=by omega
  have q23:op≠23:=by omega
  have q24:op≠24:=by omega
  have q25:op≠25:=by omega
  have q26:op≠26:=by omega
  have q27:op≠27:=by omega
  have q28:op≠28:=by omega
  have q29:op≠29:=by omega
  have q30:op≠30:=by omega
  simp only [Ry,Si,RW,SA,Q8,Rg,Sy,Rj,Ta,SX,TU,Sc,Tt,Ti,SW,RQ,SF,R7,S52,↓XX,XY,↓reduceIte,Nat.reduceBEq,Nat.reduceAdd,Int.reduceEq,Int.reduceLT,Int.reduceLE,q1,q2,q3,q4,q5,q6,q7,q8,q9,q10,q11,q12,q13,q14,q15,q16,q17,q18,q19,q20,q21,q22,q23,q24,q25,q26,q27,q28,q29,q30];exact An _ _
def J9 (op n:Int):Bool:=if op=1 then decide (0<=n) && decide (n<=3000) else if op=2 then decide (0<=n) && decide (n<=2) else if op=26 then decide (0<=n) && decide (n<=4) else if op=25 then true else decide (n=0)
theorem Aht {n:Nat} (hn:0<n) (op m:Int):AZ (SS dt n 89 [iv op,iv m] ⟨[],[]⟩) (.bool (J9 op m)):=by
 obtain ⟨n,rfl⟩:∃k,n=k+1:=⟨n - 1,by omega⟩;rw [c89];unfold J9;by_cases h1:op=1
 ·by_cases h0:0<=m<;>simp only [↓AlM,↓XX,XY,↓reduceIte,Nat.reduceBEq,Nat.reduceAdd,Int.reduceEq,Int.reduceLT,Int.reduceLE,h0,h1]<;>exact An _ _
 by_cases h2:op=2
 ·by_cases h0:0<=m<;>simp only [↓AlM,↓XX,XY,↓reduceIte,Nat.reduceBEq,Nat.reduceAdd,Int.reduceEq,Int.reduceLT,Int.reduceLE,h0,h2]<;>exact An _ _
 by_cases h3:op=26
 ·by_cases h0:0<=m<;>simp only [↓AlM,↓XX,XY,↓reduceIte,Nat.reduceBEq,Nat.reduceAdd,Int.reduceEq,Int.reduceLT,Int.reduceLE,h0,h3]<;>exact An _ _
 by_cases h4:op=25
 ·simp only [↓AlM,↓XX,XY,↓reduceIte,Nat.reduceBEq,Nat.reduceAdd,Int.reduceEq,Int.reduceLT,Int.reduceLE,h4];exact An _ _
 simp only [↓AlM,↓XX,XY,↓reduceIte,Nat.reduceBEq,Nat.reduceAdd,Int.reduceEq,Int.reduceLT,Int.reduceLE,h1,h2,h3,h4];exact An _ _
theorem XF {n:Nat} (hn:0<n) (op m:Int):AZ (SS dt n 92 [iv op,iv m] ⟨[],[]⟩) (.bool (J9 op m)):=by
 obtain ⟨n,rfl⟩:∃k,n=k+1:=⟨n - 1,by omega⟩;rw [c92];unfold J9;by_cases h1:op=1
 ·by_cases h0:0<=m<;>simp only [↓Ai3,↓XX,XY,↓reduceIte,Nat.reduceBEq,Nat.reduceAdd,Int.reduceEq,Int.reduceLT,Int.reduceLE,h0,h1]<;>exact An _ _
 by_cases h2:op=2
 ·by_cases h0:0<=m<;>simp only [↓Ai3,↓XX,XY,↓reduceIte,Nat.reduceBEq,Nat.reduceAdd,Int.reduceEq,Int.reduceLT,Int.reduceLE,h0,h2]<;>exact An _ _
 by_cases h3:op=26
 ·by_cases h0:0<=m<;>simp only [↓Ai3,↓XX,XY,↓reduceIte,Nat.reduceBEq,Nat.reduceAdd,Int.reduceEq,Int.reduceLT,Int.reduceLE,h0,h3]<;>exact An _ _
 by_cases h4:op=25
 ·simp only [↓Ai3,↓XX,XY,↓reduceIte,Nat.reduceBEq,Nat.reduceAdd,Int.reduceEq,Int.reduceLT,Int.reduceLE,h4];exact An _ _
 simp only [↓Ai3,↓XX,XY,↓reduceIte,Nat.reduceBEq,Nat.reduceAdd,Int.reduceEq,Int.reduceLT,Int.reduceLE,h1,h2,h3,h4];exact An _ _
mutual
def Tm.chk:Tm->Int->Int->Int×Int
 | .mk op m l,n,d=>if 3000<n+1\/120<d then (n+1,5) else if C4 op≠(l.length:Int)\/J9 op m=false then (n+1,1) else Tm.chkL l (n+1) (d+1)
def Tm.chkL:List Tm->Int->Int->Int×Int
 | [],n,_=>(n,0)
 | t::l,n,d=>if (t.chk n d).2=0 then Tm.chkL l (t.chk n d).1 d else t.chk n d
end
mutual
theorem PP:∀(t:Tm) (n d:Int),n<=3000->n<=(t.chk n d).1/\(t.chk n d).1<=3001/\((t.chk n d).2=0->(t.chk n d).1=n+t.wt/\(t.chk n d).1<=3000/\d<=120)
 | .mk op m l,n,d,hn=>by
  rw [Tm.chk];split
  ·simp;omega
  ·split
   ·simp;omega
   ·have:=chkL_b l (n+1) (d+1) (by omega)
    simp only [Tm.wt];omega
theorem chkL_b:∀(l:List Tm) (n d:Int),n<=3000->n<=(Tm.chkL l n d).1/\(Tm.chkL l n d).1<=3001/\((Tm.chkL l n d).2=0->(Tm.chkL l n d).1=n+Tm.wtL l/\(Tm.chkL l n d).1<=3000)
 | [],n,d,hn=>by simp [Tm.chkL,Tm.wtL];omega
 | t::l,n,d,hn=>by
  have h1:=PP t n d hn;rw [Tm.chkL];split
  ·rename_i h0;have h2:=chkL_b l (t.chk n d).1 d (by omega);simp only [Tm.wtL];omega
  ·rename_i h0;simp only [Tm.wtL];omega
end
abbrev HW (op m:Int) (ks:List Tm) (N E:Int):Hp:=⟨[(66060288,.row [iv op,iv m,.fv (.sl (ks.map Tm.enc))] false)],[.row [iv N,iv E] false]⟩
theorem UZ (op:Int):C4 op<=4:=by
 rcases OF op with h | h
 ·exact AjU (P:=fun op=>C4 op<=4) (by
                         intro k hk;have:∀k:Fin 31,C4 (k.val:Int)<=4:=by decide
                         exact this ⟨k,hk⟩) h
 ·rw [Mg h];omega
theorem AqE:∀(n:Nat) (t:Tm) (N d:Int),2 * t.wt+2<n->0<=N->N<=3000->0<=d->d<=121 ->
  Bm (SS dt n 63 [.ptr (.ext 0) 0,.fv t.enc,iv d] ⟨[],[.row [iv N,iv 0] false]⟩) (.tuple []) [.row [iv (t.chk N d).1,iv (t.chk N d).2] false]:=by
 intro n
 induction n using Nat.strongRecOn with
 | ind n ih =>
  intro t N d hn h0 hN hd0 hd;obtain ⟨op,m,ks⟩:=t;simp only [Tm.wt] at hn;obtain ⟨n,rfl⟩:∃k,n=k+1:=⟨n - 1,by omega⟩;rw [c63,Am];have hlen:=Fj ks;have hw:BK (N+1)=N+1:=by rw [Av]<;>omega
  have hwd:BK (d+1)=d+1:=by rw [Av]<;>omega
  have ha:=Ake (n:=n) (by omega) op;have hb:=Aht (n:=n) (by omega) op m;have hl:∀(N' E':Int) (r:Int×Int),N'<=3000\/E'≠0->0<=N'->(E'=0->ks.length<=4/\r=Tm.chkL ks N' (d+1)/\d<=120)->(E'≠0->r=(N',E')) ->
    Bm (BH n (fun q20 l21 h22=>KQ l21 h22 (SS dt n) q20) [.ptr (.ext 0) 0,iv d,.ptr (.own 66060288) 0,iv 0] (HW op m ks N' E')) (.tuple []) [.row [iv r.1,iv r.2] false]:=by
   intro N' E' r hN' hN0 h1 h2;refine Bc (Q:=fun r'=>Bm r' _ _) (fun k V H=>∃pre rest N2 E2,ks=pre++rest/\rest.length=k/\V=[.ptr (.ext 0) 0,iv d,.ptr (.own 66060288) 0,iv pre.length]/\H=HW op m ks N2 E2 /\
    0<=N2/\(E2=0->N2<=3000/\ks.length<=4/\r=Tm.chkL rest N2 (d+1)/\d<=120)/\(E2≠0->r=(N2,E2))) ?_ n ks.length _ _ (by omega) ⟨[],ks,N',E',rfl,rfl,rfl,rfl,hN0,fun e=>⟨by rcases hN' with h | h;exact h;exact absurd e h,h1 e⟩,h2⟩
   rintro k V H rec ⟨pre,rest,N2,E2,hk,hkl,rfl,rfl,hN2,hok,hbad⟩ hrec;have hkk:ks.length=pre.length+rest.length:=by rw [hk];simp
   cases rest with
   | nil =>
    have hno:¬ ((pre.length:Int)<ks.length):=by rw [hkk];simp
    have:r=(N2,E2):=by
     by_cases he:E2=0
     ·rw [(hok he).2.2.1,he];rfl
     ·exact hbad he
    rw [this];simp only [Kx,KH,KB,Lv,KQ,Lu,LA,Lh,LC,LH,LB,KW,Lo,Lc,KO,S63,↓XX,XY,↓reduceIte,Nat.reduceBEq,Nat.reduceAdd,Int.reduceEq,Int.reduceLT,Int.reduceLE,hno];exact Fk rfl _ _
   | cons t rest =>
    have hi:(pre.length:Int)<ks.length:=by rw [hkk];simp;omega
    by_cases he:E2=0
    ·subst he;obtain ⟨hb1,hb2,hr,hd2⟩:=hok rfl;have hg:=CC hk;have htw:=CZ (t:=t) (l:=ks) (by rw [hk];simp);have hc:=ih n (by omega) t N2 (d+1) (by omega) hN2 hb1 (by omega) (by omega);have hcb:=PP t N2 (d+1) hb1;have hwi:BK ((pre.length:Int)+1)=((pre++[t]).length:Int):=(Av (by omega) (by omega)).trans (by simp);rw [Tm.chkL] at hr;have h9:=hrec rest.length [.ptr (.ext 0) 0,iv d,.ptr (.own 66060288) 0,iv (pre++[t]).length] (HW op m ks (t.chk N2 (d+1)).1 (t.chk N2 (d+1)).2) (by simp only [AB3] at hkl;omega)
      ⟨pre++[t],rest,_,_,by rw [hk];simp,rfl,rfl,rfl,by omega,fun e=>⟨(hcb.2.2 e).2.1,hb2,by rw [hr,if_pos e],hd2⟩,fun e=>by rw [hr,if_neg e]⟩
     generalize t.chk N2 (d+1)=q at hc h9;obtain ⟨o,p,l⟩:=t;rw [Am] at hc;simp only [Kx,KH,KB,Lv,KQ,Lu,LA,Lh,LC,LH,LB,KW,Lo,Lc,KO,S63,↓XX,XY,↓reduceIte,Nat.reduceBEq,Nat.reduceAdd,Int.reduceEq,Int.reduceLT,Int.reduceLE,hi,↓Bt (AM hg) (Bg _ _ _),↓Cd,hwd,↓Ke hc (AxA _ _ _ _),hwi];exact h9
    ·rw [hbad he];simp only [Kx,KH,KB,Lv,KQ,Lu,LA,Lh,LC,LH,LB,KW,Lo,Lc,KO,S63,↓XX,XY,↓reduceIte,Nat.reduceBEq,Nat.reduceAdd,Int.reduceEq,Int.reduceLT,Int.reduceLE,hi,he];exact Fk rfl _ _
  rw [Tm.chk];by_cases c1:3000<N+1
  ·have hx:=hl (N+1) 5 (N+1,5) (.inr (by decide)) (by omega) (fun e=>absurd e (by decide)) (fun _=>rfl);rw [if_pos (.inl c1)];simp only [↓AkV,↓XX,XY,↓reduceIte,Nat.reduceBEq,Nat.reduceAdd,Int.reduceEq,Int.reduceLT,Int.reduceLE,hw,c1];exact hx
  ·by_cases c2:120<d
   ·have hx:=hl (N+1) 5 (N+1,5) (.inr (by decide)) (by omega) (fun e=>absurd e (by decide)) (fun _=>rfl);rw [if_pos (.inr c2)];simp only [↓AkV,↓XX,XY,↓reduceIte,Nat.reduceBEq,Nat.reduceAdd,Int.reduceEq,Int.reduceLT,Int.reduceLE,hw,c1,c2];exact hx
   ·rw [if_neg (by omega)];by_cases c3:C4 op=(ks.length:Int)
    ·have hx1:=hl (N+1) 1 (N+1,1) (.inr (by decide)) (by omega) (fun e=>absurd e (by decide)) (fun _=>rfl);have hk4:=UZ op;have hx0:=hl (N+1) 0 (Tm.chkL ks (N+1) (d+1)) (.inl (by omega)) (by omega) (fun _=>⟨by omega,rfl,by omega⟩) (fun e=>absurd rfl e);cases hnb:J9 op m
     ·rw [hnb] at hb;rw [if_pos (.inr rfl)];simp only [↓AkV,↓XX,XY,↓reduceIte,Nat.reduceBEq,Nat.reduceAdd,Int.reduceEq,Int.reduceLT,Int.reduceLE,hw,c1,c2,↓Aw ha,c3,↓Ag hb];exact hx1
     ·rw [hnb] at hb;rw [if_neg (by simp [c3])];simp only [↓AkV,↓XX,XY,↓reduceIte,Nat.reduceBEq,Nat.reduceAdd,Int.reduceEq,Int.reduceLT,Int.reduceLE,hw,c1,c2,↓Aw ha,c3,↓Ag hb];exact hx0
    ·have hx1:=hl (N+1) 1 (N+1,1) (.inr (by decide)) (by omega) (fun e=>absurd e (by decide)) (fun _=>rfl);rw [if_pos (.inl c3)];simp only [↓AkV,↓XX,XY,↓reduceIte,Nat.reduceBEq,Nat.reduceAdd,Int.reduceEq,Int.reduceLT,Int.reduceLE,hw,c1,c2,↓Aw ha,c3];exact hx1
theorem Pf {n:Nat} (t:Tm) (hn:2 * t.wt+3<n):AZ (SS dt n 35 [.fv t.enc] ⟨[],[]⟩) (.int .i64 (t.chk 0 1).2):=by
 obtain ⟨n,rfl⟩:∃k,n=k+1:=⟨n - 1,by omega⟩;rw [c35];have h:=AqE n t 0 1 (by omega) (by omega) (by omega) (by omega) (by omega);generalize t.chk 0 1=q at h;obtain ⟨op,m,ks⟩:=t;rw [Am] at h ⊢;have c2:=fun k=>Ao4 (k:=k) h (x:=.fv (.agg [.int .i64 op,.int .i64 m,.sl (ks.map Tm.enc)])) (y:=iv 1) (s:=36701185) rfl rfl
  (own:=[(36700160,.row [iv op,iv m,.fv (.sl (ks.map Tm.enc))] false),(36701185,.row [iv 0,iv 0] false)])
  (own':=[(36700160,.row [iv op,iv m,.fv (.sl (ks.map Tm.enc))] false),(36701185,.row [iv q.1,iv q.2] false)]) (by simp [Ao]) (by simp [AP])
 simp only [Ak2,S35,↓XX,XY,↓reduceIte,Nat.reduceBEq,Nat.reduceAdd,Int.reduceEq,Int.reduceLT,Int.reduceLE,↓c2];exact An _ _
theorem VU (s:Nat) (h:Hp) (k:IV->Hp->List Ref->List Ref->Option (IV×Hp)):Ay (Ns EE 132 [(0,.fv (.int .i64 (-1))),(1,.fv (.int .i64 0)),(2,.fv (.int .i64 0)),(3,.fv (.int .i64 2)),(4,.fv (.int .i64 2)),(5,.fv (.int .i64 2)),(6,.fv (.int .i64 2)),(7,.fv (.int .i64 3)),(8,.fv (.int .i64 1)),(9,.fv (.int .i64 1)),(10,.fv (.int .i64 0)),(11,.fv (.int .i64 0)),(12,.fv (.int .i64 1)),(13,.fv (.int .i64 4)),(14,.fv (.int .i64 0)),(15,.fv (.int .i64 0)),(16,.fv (.int .i64 2)),(17,.fv (.int .i64 2)),(18,.fv (.int .i64 1)),(19,.fv (.int .i64 1)),(20,.fv (.int .i64 2)),(21,.fv (.int .i64 2)),(22,.fv (.int .i64 2)),(23,.fv (.int .i64 1)),(24,.fv (.int .i64 1)),(25,.fv (.int .i64 0)),(26,.fv (.int .i64 2)),(27,.fv (.int .i64 3)),(28,.fv (.int .i64 2)),(29,.fv (.int .i64 2)),(30,.fv (.int .i64 1))]) s h k=k (.fv (.agg [.int .i64 (-1),.int .i64 0,.int .i64 0,.int .i64 2,.int .i64 2,.int .i64 2,.int .i64 2,.int .i64 3,.int .i64 1,.int .i64 1,.int .i64 0,.int .i64 0,.int .i64 1,.int .i64 4,.int .i64 0,.int .i64 0,.int .i64 2,.int .i64 2,.int .i64 1,.int .i64 1,.int .i64 2,.int .i64 2,.int .i64 2,.int .i64 1,.int .i64 1,.int .i64 0,.int .i64 2,.int .i64 3,.int .i64 2,.int .i64 2,.int .i64 1])) h [] []:=by
 have:Ns EE 132 [(0,.fv (.int .i64 (-1))),(1,.fv (.int .i64 0)),(2,.fv (.int .i64 0)),(3,.fv (.int .i64 2)),(4,.fv (.int .i64 2)),(5,.fv (.int .i64 2)),(6,.fv (.int .i64 2)),(7,.fv (.int .i64 3)),(8,.fv (.int .i64 1)),(9,.fv (.int .i64 1)),(10,.fv (.int .i64 0)),(11,.fv (.int .i64 0)),(12,.fv (.int .i64 1)),(13,.fv (.int .i64 4)),(14,.fv (.int .i64 0)),(15,.fv (.int .i64 0)),(16,.fv (.int .i64 2)),(17,.fv (.int .i64 2)),(18,.fv (.int .i64 1)),(19,.fv (.int .i64 1)),(20,.fv (.int .i64 2)),(21,.fv (.int .i64 2)),(22,.fv (.int .i64 2)),(23,.fv (.int .i64 1)),(24,.fv (.int .i64 1)),(25,.fv (.int .i64 0)),(26,.fv (.int .i64 2)),(27,.fv (.int .i64 3)),(28,.fv (.int .i64 2)),(29,.fv (.int .i64 2)),(30,.fv (.int .i64 1))]=Idl.val (.fv (.agg [.int .i64 (-1),.int .i64 0,.int .i64 0,.int .i64 2,.int .i64 2,.int .i64 2,.int .i64 2,.int .i64 3,.int .i64 1,.int .i64 1,.int .i64 0,.int .i64 0,.int .i64 1,.int .i64 4,.int .i64 0,.int .i64 0,.int .i64 2,.int .i64 2,.int .i64 1,.int .i64 1,.int .i64 2,.int .i64 2,.int .i64 2,.int .i64 1,.int .i64 1,.int .i64 0,.int .i64 2,.int .i64 3,.int .i64 2,.int .i64 2,.int .i64 1])):=by kernel_rfl
 rw [this];exact gen_val' _ _ _ _
theorem AjP {n:Nat} {op:Int} (h:op<0\/30<op):AZ (SS dt (n+1) 91 [iv op] ⟨[],[]⟩) (.int .i64 (-1)):=by
 rw [c91];by_cases h1:op<0
 ·simp only [Xd,S91,↓XX,XY,↓reduceIte,Nat.reduceBEq,Nat.reduceAdd,Int.reduceEq,Int.reduceLT,Int.reduceLE,↓VU,h1];exact An _ _
 ·have h2:31<=op:=by omega
  simp only [Xd,S91,↓XX,XY,↓reduceIte,Nat.reduceBEq,Nat.reduceAdd,Int.reduceEq,Int.reduceLT,Int.reduceLE,↓VU,h1,h2];exact An _ _
def AiO (k:Int) (o:Option (IV×Hp)):Bool:=match o with
 | some (.fv (.int .i64 m),⟨_,[]⟩)=>decide (m=k)
 | _=>false
theorem Akc {k:Int} {o:Option (IV×Hp)} (h:AiO k o=true):AZ o (.int .i64 k):=by
 unfold AiO at h;split at h
 ·have:=of_decide_eq_true h
  subst this;exact An _ _
 ·cases h
theorem AlU {n:Nat} (hn:0<n) (op:Int):AZ (SS dt n 91 [iv op] ⟨[],[]⟩) (.int .i64 (C4 op)):=by
 obtain ⟨n,rfl⟩:∃k,n=k+1:=⟨n - 1,by omega⟩;rcases OF op with h | h
 ·revert op
  refine fun op h=>AjU (P:=fun op=>AZ (SS dt (n+1) 91 [iv op] ⟨[],[]⟩) (.int .i64 (C4 op))) ?_ h;intro k hk
  iterate 31 (rcases k with _ | k;· exact Akc (by kernel_rfl))
  omega
 ·rw [Mg h];exact AjP h
abbrev HC (op m:Int) (ks:List Tm) (N:Int):Hp:=⟨[(71303168,.row [iv op,iv m,.fv (.sl (ks.map Tm.enc))] false)],[.row [iv N] false]⟩
theorem AdJ {base rm:List Nat} {vals:List IV} {own:List (Nat×Blk)} {a:FV} (hb:rm.any base.contains=false) (hf:AR rm vals own []=true) (k:Hp->Option (IV×Hp)) :
  Bx base rm vals ⟨own,[.row [.fv a] false]⟩ k=k ⟨Ik rm vals own [],[.row [.fv a] false]⟩:=Alh (by intro s;simp [Blk.refs,IV.refs.refsL,IV.refs]) hb hf k
theorem Ahx:∀(n:Nat) (t:Tm) (N d:Int),2 * t.wt+2<n->0<=N->N<=3000->0<=d->d<=121 ->
  Bm (SS dt n 68 [.fv t.enc,.ptr (.ext 0) 0,iv d] ⟨[],[.row [iv N] false]⟩) (.int .i64 (t.chk N d).2) [.row [iv (t.chk N d).1] false]:=by
 intro n
 induction n using Nat.strongRecOn with
 | ind n ih =>
  intro t N d hn h0 hN hd0 hd;obtain ⟨op,m,ks⟩:=t;simp only [Tm.wt] at hn;obtain ⟨n,rfl⟩:∃k,n=k+1:=⟨n - 1,by omega⟩;rw [c68,Am];have hlen:=Fj ks;have hw:BK (N+1)=N+1:=by rw [Av]<;>omega
  have hwd:BK (d+1)=d+1:=by rw [Av]<;>omega
  have ha:=AlU (n:=n) (by omega) op;have hb:=XF (n:=n) (by omega) op m;rw [Tm.chk];by_cases c1:3000<N+1
  ·rw [if_pos (.inl c1)];simp only [↓Ws,↓XX,XY,↓reduceIte,Nat.reduceBEq,Nat.reduceAdd,Int.reduceEq,Int.reduceLT,Int.reduceLE,hw,c1];exact AG _ _ _
  by_cases c2:120<d
  ·rw [if_pos (.inr c2)];simp only [↓Ws,↓XX,XY,↓reduceIte,Nat.reduceBEq,Nat.reduceAdd,Int.reduceEq,Int.reduceLT,Int.reduceLE,hw,c1,c2];exact AG _ _ _
  rw [if_neg (by omega)];by_cases c3:C4 op=(ks.length:Int)
  ·cases hnb:J9 op m
   ·rw [hnb] at hb;rw [if_pos (.inr rfl)];simp only [↓Ws,↓XX,XY,↓reduceIte,Nat.reduceBEq,Nat.reduceAdd,Int.reduceEq,Int.reduceLT,Int.reduceLE,hw,c1,c2,↓Aw ha,c3,↓Ag hb];exact AG _ _ _
   ·rw [hnb] at hb;have hk4:=UZ op;rw [if_neg (by simp [c3])];simp only [QM,Q4,Sl,Se,RG,Sk,SL,RE,R4,Su,S68,↓XX,XY,↓reduceIte,Nat.reduceBEq,Nat.reduceAdd,Int.reduceEq,Int.reduceLT,Int.reduceLE,hw,c1,c2,↓Aw ha,c3,↓Ag hb,↓AdJ,↓AI,XD,heldB,AR,XE];refine Bc (Q:=fun r'=>Bm r' _ _) (fun k V H=>∃pre rest N2,ks=pre++rest/\rest.length=k/\V=[.ptr (.ext 0) 0,iv d,.fv (.sl (ks.map Tm.enc)),iv ks.length,iv pre.length]/\H=HC op m ks N2 /\
     0<=N2/\N2<=3000/\Tm.chkL rest N2 (d+1)=Tm.chkL ks (N+1) (d+1)) ?_ n ks.length _ _ (by omega) ⟨[],ks,N+1,rfl,rfl,rfl,rfl,by omega,by omega,rfl⟩
    rintro k V H rec ⟨pre,rest,N2,hk,hkl,rfl,rfl,hN2,hN3,hr⟩ hrec;have hkk:ks.length=pre.length+rest.length:=by rw [hk];simp
    cases rest with
    | nil =>
     have hno:¬ ((pre.length:Int)<ks.length):=by rw [hkk];simp
     rw [<- hr];simp only [↓Ws,↓XX,XY,↓reduceIte,Nat.reduceBEq,Nat.reduceAdd,Int.reduceEq,Int.reduceLT,Int.reduceLE,hno,Tm.chkL];exact AG _ _ _
    | cons t rest =>
     have hi:(pre.length:Int)<ks.length:=by rw [hkk];simp;omega
     have hg:=CC hk;have htw:=CZ (t:=t) (l:=ks) (by rw [hk];simp);have hc:=ih n (by omega) t N2 (d+1) (by omega) hN2 hN3 (by omega) (by omega);have hcb:=PP t N2 (d+1) hN3;have hwi:BK ((pre.length:Int)+1)=((pre++[t]).length:Int):=(Av (by omega) (by omega)).trans (by simp);rw [Tm.chkL] at hr;rw [<- hr];have h9:=fun e=>hrec rest.length [.ptr (.ext 0) 0,iv d,.fv (.sl (ks.map Tm.enc)),iv ks.length,iv (pre++[t]).length] (HC op m ks (t.chk N2 (d+1)).1) (by simp only [AB3] at hkl;omega)
      ⟨pre++[t],rest,_,by rw [hk];simp,rfl,rfl,rfl,by omega,(hcb.2.2 e).2.1,by rw [<- hr,if_pos e]⟩
     rw [<- hr] at h9;generalize t.chk N2 (d+1)=q at hc h9 ⊢;obtain ⟨q1,q2⟩:=q;simp only at hc h9 ⊢;obtain ⟨o,p,l⟩:=t;rw [Am] at hc;by_cases he:q2=0
     ·subst he;simp only [if_true] at h9 ⊢;simp only [↓Ws,↓XX,XY,↓reduceIte,Nat.reduceBEq,Nat.reduceAdd,Int.reduceEq,Int.reduceLT,Int.reduceLE,hi,↓Bt (AM hg) (Bg _ _ _),↓Cd,hwd,↓Zo hc (AqM _ _),hwi,↓AdJ,↓AI,XD,heldB,AR,XE];exact h9 trivial
     ·rw [if_neg he];simp only [↓Ws,↓XX,XY,↓reduceIte,Nat.reduceBEq,Nat.reduceAdd,Int.reduceEq,Int.reduceLT,Int.reduceLE,hi,↓Bt (AM hg) (Bg _ _ _),↓Cd,hwd,↓Zo hc (AqM _ _),he];exact AG _ _ _
  ·rw [if_pos (.inl c3)];simp only [↓Ws,↓XX,XY,↓reduceIte,Nat.reduceBEq,Nat.reduceAdd,Int.reduceEq,Int.reduceLT,Int.reduceLE,hw,c1,c2,↓Aw ha,c3];exact AG _ _ _
theorem AhR {n:Nat} (t:Tm) (hn:2 * t.wt+3<n):AZ (SS dt n 40 [.fv t.enc] ⟨[],[]⟩) (.int .i64 (t.chk 0 1).2):=by
 obtain ⟨n,rfl⟩:∃k,n=k+1:=⟨n - 1,by omega⟩;rw [c40];have h:=Ahx n t 0 1 (by omega) (by omega) (by omega) (by omega) (by omega);generalize t.chk 0 1=q at h;obtain ⟨op,m,ks⟩:=t;rw [Am] at h ⊢;have c2:=fun k=>An6 (k:=k) h (x:=.fv (.agg [.int .i64 op,.int .i64 m,.sl (ks.map Tm.enc)])) (y:=iv 1) (s:=41944065) rfl rfl
  (own:=[(41943040,.row [iv op,iv m,.fv (.sl (ks.map Tm.enc))] false),(41944065,.row [iv 0] false)])
  (own':=[(41943040,.row [iv op,iv m,.fv (.sl (ks.map Tm.enc))] false),(41944065,.row [iv q.1] false)]) (by simp [Ao]) (by simp [AP])
 simp only [S40,↓XX,XY,↓reduceIte,Nat.reduceBEq,Nat.reduceAdd,Int.reduceEq,Int.reduceLT,Int.reduceLE,↓c2];exact An _ _
theorem AkF {f n:Nat} {t u:Tm} (hc:(t.chk 0 1).2=0) (h:U9 f t=some (u,0)) (hp:u.plainP=true) (hn:f+4<=n) (h2:2 * t.wt+4<n) (h3:4 * u.wt+6<n) (h4:u.wt<=900000) :
  AZ (SS dt n 16 [.fv t.enc] ⟨[],[]⟩) (.tuple [u.enc,.int .i64 0]):=by
 obtain ⟨n,rfl⟩:∃k,n=k+1:=⟨n - 1,by omega⟩;rw [c16];have h1:=AhR (n:=n) t (by omega);have hw:=PP t 0 1 (by omega);have hN:=AlL (n:=n) h (by omega) (by omega) (by have:=hw.2.2 hc;omega);have hP:=QC (n:=n) u (by omega) h4;rw [hc] at h1;rw [hp] at hP;obtain ⟨o1,n1,k1⟩:=t;obtain ⟨o2,n2,k2⟩:=u;simp only [Am] at h1 hN hP ⊢;simp only [AlD,Ai1,Ajj,AiQ,Alo,Ajp,Ajt,S16,↓XX,XY,↓reduceIte,Nat.reduceBEq,Nat.reduceAdd,Int.reduceEq,Int.reduceLT,Int.reduceLE,↓Aw h1,↓Aw hN,↓Aw hP];first | exact An _ _ | exact Ax rfl (by simp) _
theorem AuJ {n:Nat} (k:Nat) (hn:k+3<n) (hk:k<=1000000):AZ (SS dt n 27 [iv k] ⟨[],[]⟩) (CM k).enc:=by
 obtain ⟨n,rfl⟩:∃j,n=j+1:=⟨n - 1,by omega⟩;rw [c27];have h0:=BE (n:=n) (by omega) 11;rw [Am] at h0;simp only [Rq,RM,Tj,S27,↓XX,XY,↓reduceIte,Nat.reduceBEq,Nat.reduceAdd,Int.reduceEq,Int.reduceLT,Int.reduceLE,↓Ag h0];refine Bc (Q:=fun r=>AZ r _) (fun j V H=>∃(i:Nat),i+j=k/\V=[iv k,.ptr (.own 28311552) 0,.ptr (.own 28312577) 0,iv i] /\
   H=⟨[(28311552,.row [iv 0,iv 0,.nils] false),(28312577,.row [iv (CM i).op,iv (CM i).n,.fv (.sl ((CM i).kids.map Tm.enc))] false)],[]⟩) ?_ n k _ _ (by omega) ⟨0,by omega,rfl,rfl⟩
 rintro j V H rec ⟨i,hi,rfl,rfl⟩ hrec;cases j with
 | zero =>
  have:i=k:=by omega
  subst this;have hno:¬ ((i:Int)<i):=by omega
  generalize CM i=t;obtain ⟨o,p,l⟩:=t;rw [Am];simp only [Rq,RM,Tj,XS,S27,↓XX,XY,↓reduceIte,Nat.reduceBEq,Nat.reduceAdd,Int.reduceEq,Int.reduceLT,Int.reduceLE,hno,Tm.op,Tm.n,Tm.kids];exact An _ _
 | succ j =>
  have hlt:(i:Int)<k:=by omega
  have hw:BK ((i:Int)+1)=((i+1:Nat):Int):=(Av (by omega) (by omega)).trans (by simp);have ht:=CO (n:=n) (by omega) 12 [CM i];have h9:=hrec j ([iv k,.ptr (.own 28311552) 0,.ptr (.own 28312577) 0,iv (i+1:Nat)]) (⟨[(28311552,.row [iv 0,iv 0,.nils] false),(28312577,.row [iv 12,iv 0,.fv (.sl ([CM i].map Tm.enc))] false)],[]⟩) (by omega) ⟨i+1,by omega,rfl,rfl⟩;generalize CM i=t at *;obtain ⟨o,p,l⟩:=t;simp only [AB5,AB4,Am] at ht h9;simp only [Rq,RM,Tj,XS,S27,↓XX,XY,↓reduceIte,Nat.reduceBEq,Nat.reduceAdd,Int.reduceEq,Int.reduceLT,Int.reduceLE,hlt,Tm.op,Tm.n,Tm.kids,↓Apt,↓Ag ht,hw];exact h9
theorem Rm (n:Nat):RT (SS dt (n+60) 11 [] ⟨[],[]⟩)=true:=by kernel_rfl
theorem MK {n:Nat} (h:60<=n):AZ (SS dt n 11 [] ⟨[],[]⟩) (.bool true):=by
 obtain ⟨k,rfl⟩:∃k,n=k+60:=⟨n - 60,by omega⟩;exact AhG (Rm k)
def AX (f:Nat) (t:Tm):Option (Tm×Int):=match AA f 0 0 t [] with
 | none=>none
 | some (v,s,e)=>match AS f s 0 e v 0 1 with
  | none=>none
  | some (u,_,_,e)=>some (if e≠0 then (.z,e) else (u,0))
theorem UF {n:Nat} (hn:0<n) (e:Int):AZ (SS dt n 15 [iv e] ⟨[],[]⟩) (.bool (decide (e=17) || decide (e=5))):=by
 obtain ⟨n,rfl⟩:∃k,n=k+1:=⟨n - 1,by omega⟩;rw [c15];by_cases h1:e=17
 ·simp only [S15,↓XX,XY,↓reduceIte,Nat.reduceBEq,Nat.reduceAdd,Int.reduceEq,Int.reduceLT,Int.reduceLE,h1,Bool.true_or];exact An _ _
 ·simp only [S15,↓XX,XY,↓reduceIte,Nat.reduceBEq,Nat.reduceAdd,Int.reduceEq,Int.reduceLT,Int.reduceLE,h1,Bool.false_or];exact An _ _
theorem Qt (f:Nat) (t u:Tm) (e:Int) (h:AX f t=some (u,e)) (n:Nat) (hn:f+2<=n):AZ (SS dt n 34 [.fv t.enc] ⟨[],[]⟩) (.tuple [u.enc,.int .i64 e]):=by
 obtain ⟨n,rfl⟩:∃k,n=k+1:=⟨n - 1,by omega⟩;rw [c34];unfold AX at h;cases he:AA f 0 0 t [] with
 | none=>rw [he] at h;cases h
 | some q =>
 obtain ⟨v,s1,e1⟩:=q;rw [he] at h;simp only at h;cases hr:AS f s1 0 e1 v 0 1 with
 | none=>rw [hr] at h;cases h
 | some q =>
 obtain ⟨w,s2,nd2,e2⟩:=q;rw [hr] at h;simp only [ABZ] at h;have h1:=(Ye f).1 0 0 t [] v s1 e1 0 he n (by omega);have h2:=Aqy f s1 0 e1 v 0 1 w s2 nd2 e2 hr n (by omega);obtain ⟨op,m,ks⟩:=t;rw [Am] at h1 ⊢;simp only [AB4] at h1;have c1:=fun k=>ArR (k:=k) h1 (x:=.fv (.agg [.int .i64 op,.int .i64 m,.sl (ks.map Tm.enc)])) (y:=.nils) (s:=35652609) rfl rfl
  (own:=[(35651584,.row [iv op,iv m,.fv (.sl (ks.map Tm.enc))] false),(35651585,.row [iv 0,iv 0,.nils] false),(35652609,.row [iv 0,iv 0,iv 0] false)])
  (own':=[(35651584,.row [iv op,iv m,.fv (.sl (ks.map Tm.enc))] false),(35651585,.row [iv 0,iv 0,.nils] false),(35652609,.row [iv s1,iv 0,iv e1] false)]) (by simp [Ao]) (by simp [AP])
 have c2:=fun k=>Aui (k:=k) h2 (x:=.fv v.enc) (y:=iv 0) (z:=iv 1) (s:=35652609) rfl rfl rfl
  (own:=[(35651584,.row [iv op,iv m,.fv (.sl (ks.map Tm.enc))] false),(35651585,.row [iv 0,iv 0,.nils] false),(35652609,.row [iv s1,iv 0,iv e1] false)])
  (own':=[(35651584,.row [iv op,iv m,.fv (.sl (ks.map Tm.enc))] false),(35651585,.row [iv 0,iv 0,.nils] false),(35652609,.row [iv s2,iv nd2,iv e2] false)]) (by simp [Ao]) (by simp [AP])
 obtain ⟨wo,wn,wk⟩:=w;rw [Am] at c2;by_cases hz:e2=0
 ·rw [if_neg (by simp [hz])] at h;simp only [AB0] at h;obtain ⟨rfl,rfl⟩:=h;subst hz;simp only [Xu,XR,WX,Xv,WZ,S34,↓XX,XY,↓reduceIte,Nat.reduceBEq,Nat.reduceAdd,Int.reduceEq,Int.reduceLT,Int.reduceLE,↓c1,↓c2,Am];exact An _ _
 ·rw [if_pos hz] at h;simp only [AB0] at h;obtain ⟨rfl,rfl⟩:=h;simp only [Xu,XR,WX,Xv,WZ,S34,↓XX,XY,↓reduceIte,Nat.reduceBEq,Nat.reduceAdd,Int.reduceEq,Int.reduceLT,Int.reduceLE,↓c1,↓c2,hz,Tm.z,Am];exact Ax rfl (by simp) _
theorem Dj {ev ev':Int->Int->Tm->Option (RV×Int×Int)} (h:∀s e t r,ev s e t=some r->ev' s e t=some r) (op:Int) (env:List RV):∀(l:List Tm) (i:Nat) (s e:Int) (r:List RV×Int×Int),AU ev op env i l s e=some r->AU ev' op env i l s e=some r
 | [],i,s,e,r,hr=>hr
 | t::l,i,s,e,r,hr=>by
  simp only [AU] at hr ⊢;by_cases hb:0<Af op i
  ·rw [if_pos hb] at hr ⊢;cases hk:AU ev op env (i+1) l s e with
   | none=>rw [hk] at hr;cases hr
   | some q=>rw [hk] at hr;rw [Dj h op env l (i+1) s e q hk];exact hr
  ·rw [if_neg hb] at hr ⊢;cases he:ev s e t with
   | none=>rw [he] at hr;cases hr
   | some q =>
    obtain ⟨v,s1,e1⟩:=q;rw [he] at hr;rw [h _ _ _ _ he];simp only at hr ⊢;cases hk:AU ev op env (i+1) l s1 e1 with
    | none=>rw [hk] at hr;cases hr
    | some q=>rw [hk] at hr;rw [Dj h op env l (i+1) s1 e1 q hk];exact hr
theorem Qn:∀f,(∀s e t env r,AA f s e t env=some r->AA (f+1) s e t env=some r)/\(∀s e v r,headR f s e v=some r->headR (f+1) s e v=some r):=by
 intro f
 induction f with
 | zero=>exact ⟨(by intro s e t env r h;rw [AA] at h;cases h),(by intro s e v r h;rw [headR] at h;cases h)⟩
 | succ f ih =>
  refine ⟨?_,?_⟩
  ·intro s e t env r h;obtain ⟨op,m,ks⟩:=t;rw [AA] at h ⊢;split at h
   ·rename_i h0;rw [if_pos h0];exact h
   ·rename_i h0;rw [if_neg h0];split at h
    ·cases h
    ·rename_i h1;rw [if_neg h1];split at h
     ·rename_i h2;rw [if_pos h2];exact h
     ·rename_i h2;rw [if_neg h2];split at h
      ·cases h
      ·rename_i h3;rw [if_neg (by omega)];split at h
       ·cases h
       ·rename_i h4;rw [if_neg h4];split at h
        ·cases h
        ·rename_i vs s1 e1 hk;rw [Dj (ev':=fun s e t=>AA (f+1) s e t env) (fun s e t r=>ih.1 s e t env r) op env ks 0 s e _ hk];exact ih.2 _ _ _ _ h
  ·intro s e v r h;rw [headR] at h ⊢;by_cases h0:e≠0
   ·rw [if_pos h0] at h ⊢;exact h
   rw [if_neg h0] at h ⊢;by_cases h1:s<0\/1000000<s
   ·rw [if_pos h1] at h;cases h
   rw [if_neg h1] at h ⊢;by_cases h5:v.op=5
   ·rw [if_pos h5] at h ⊢;cases hk:v.k[0]? with
    | none=>rw [hk] at h;cases h
    | some k0 =>
     rw [hk] at h;simp only at h ⊢;by_cases h4:k0.op=4
     ·rw [if_pos h4] at h ⊢;by_cases hq:s+1<=1000
      ·rw [if_pos hq] at h ⊢;cases hc:k0.k[1]? with
       | none=>rw [hc] at h;cases h
       | some c =>
        cases hx:v.k[1]? with
        | none=>rw [hc,hx] at h;cases h
        | some x =>
         rw [hc,hx] at h;simp only at h ⊢;by_cases hl:900000<c.env.length
         ·rw [if_pos hl] at h;cases h
         ·rw [if_neg hl] at h ⊢;exact ih.1 _ _ _ _ _ h
      ·rw [if_neg hq] at h ⊢;exact h
     ·rw [if_neg h4] at h ⊢;exact h
   rw [if_neg h5] at h ⊢;by_cases h89:v.op=8\/v.op=9
   ·rw [if_pos h89] at h ⊢;exact h
   rw [if_neg h89] at h ⊢;by_cases h30:v.op=30
   ·rw [if_pos h30] at h ⊢;exact h
   rw [if_neg h30] at h ⊢;by_cases h19:v.op=19
   ·rw [if_pos h19] at h ⊢;exact h
   rw [if_neg h19] at h ⊢;by_cases h13:v.op=13
   ·rw [if_pos h13] at h ⊢;cases hk0:v.k[0]? with
    | none=>rw [hk0] at h;cases h
    | some k0 =>
    cases hk1:v.k[1]? with
    | none=>rw [hk0,hk1] at h;cases h
    | some k1 =>
    cases hk2:v.k[2]? with
    | none=>rw [hk0,hk1,hk2] at h;cases h
    | some k2 =>
    cases hk3:v.k[3]? with
    | none=>rw [hk0,hk1,hk2,hk3] at h;cases h
    | some k3 =>
    rw [hk0,hk1,hk2,hk3] at h;simp only at h ⊢;by_cases h11:k3.op=11
    ·rw [if_pos h11] at h ⊢;exact h
    rw [if_neg h11] at h ⊢;by_cases h12:k3.op=12
    ·rw [if_pos h12] at h ⊢;by_cases hq:s+1<=1000
     ·rw [if_pos hq] at h ⊢;cases hx:k3.k[0]? with
      | none=>rw [hx] at h;cases h
      | some x =>
       rw [hx] at h;simp only at h ⊢;cases hd:headR f (s+1) 0 (.node 13 0 [k0,k1,k2,x]) with
       | none=>rw [hd] at h;cases h
       | some q =>
        obtain ⟨w,s2,e2⟩:=q;rw [hd] at h;rw [ih.2 _ _ _ _ hd];simp only at h ⊢;by_cases hl:900000<k2.env.length
        ·rw [if_pos hl] at h;cases h
        ·rw [if_neg hl] at h ⊢;exact ih.1 _ _ _ _ _ h
     ·rw [if_neg hq] at h ⊢;exact h
    ·rw [if_neg h12] at h ⊢;exact h
   rw [if_neg h13] at h ⊢;exact h
theorem Cn {f g:Nat} (hfg:f<=g) {s e:Int} {t:Tm} {env:List RV} {r:RV×Int×Int} (h:AA f s e t env=some r):AA g s e t env=some r:=by
 induction hfg with
 | refl=>exact h
 | step _ ih=>exact (Qn _).1 _ _ _ _ _ ih
theorem Tu {f g:Nat} (hfg:f<=g) {s e:Int} {v:RV} {r:RV×Int×Int} (h:headR f s e v=some r):headR g s e v=some r:=by
 induction hfg with
 | refl=>exact h
 | step _ ih=>exact (Qn _).2 _ _ _ _ ih
def ar (op:Int):Option Nat :=
 if op=0\/op=1\/op=2\/op=10\/op=11\/op=14\/op=15\/op=25 then some 0
 else if op=8\/op=9\/op=12\/op=18\/op=19\/op=23\/op=24\/op=30 then some 1
 else if op=3\/op=4\/op=5\/op=6\/op=16\/op=17\/op=20\/op=21\/op=22\/op=26\/op=28\/op=29 then some 2
 else if op=7\/op=27 then some 3 else if op=13 then some 4 else none
def BJ (op n:Int):Prop:=if op=2 then 0<=n/\n<=2 else if op=26 then 0<=n/\n<=4 else if op=25 then -2305843009213693952<=n/\n<=2305843009213693952 else n=0
mutual
def Tm.sc:Tm->Nat->Prop
 | .mk op n ks,k=>ar op=some ks.length/\(if op=1 then 0<=n/\n<k else BJ op n)/\Tm.scL op 0 ks k
def Tm.scL:Int->Nat->List Tm->Nat->Prop
 | _,_,[],_=>True
 | op,i,t::l,k=>t.sc (k+Af op i)/\Tm.scL op (i+1) l k
end
mutual
def Tm.bd:Tm->Nat
 | .mk op _ ks=>Tm.bdL op 0 ks
def Tm.bdL:Int->Nat->List Tm->Nat
 | _,_,[]=>0
 | op,i,t::l=>max (Af op i+t.bd) (Tm.bdL op (i+1) l)
end
section
variable (k0 D:Nat) (L:Int)
mutual
def RV.ok:RV->Prop
 | .mk op n k _ _=>if op=1 then -(k0:Int)<=n/\n<L/\k=[] else ar op=some k.length/\BJ op n/\RV.okL op 0 k
def RV.okL:Int->Nat->List RV->Prop
 | _,_,[]=>True
 | op,i,v::l=>(if 0<Af op i then RV.okC (Af op i) v else RV.ok v)/\RV.okL op (i+1) l
def RV.okC:Nat->RV->Prop
 | b,.mk _ _ _ env bd=>RV.okE env/\bd.sc (k0+env.length+b)/\env.length+b+bd.bd<=D
def RV.okE:List RV->Prop
 | []=>True
 | v::l=>RV.ok v/\RV.okE l
end
end
end Idl
end Go.Proofs.Ytkfecngimlcfoaa
namespace Go.Proofs.Ytkfecngimlcfoaa
namespace Idl
theorem UC {op:Int} {n:Nat} (h:ar op=some n):n<=4:=by
 unfold ar at h
 repeat' split at h
 all_goals first | (simp only [ABZ] at h;omega) | cases h
section
variable {k0 D:Nat} {L:Int}
theorem ZT:∀{l:List RV},RV.okE k0 D L l->∀{i:Nat} {v:RV},l[i]?=some v->RV.ok k0 D L v
 | [],_,i,v,h=>by simp at h
 | a::l,ho,i,v,h=>by
  rw [RV.okE] at ho;cases i with
  | zero=>simp at h;subst h;exact ho.1
  | succ i=>simp at h;exact ZT ho.2 h
theorem LL:∀{l l':List RV},RV.okE k0 D L l->RV.okE k0 D L l'->RV.okE k0 D L (l++l')
 | [],l',_,h=>h
 | a::l,l',h,h'=>by
  rw [RV.okE] at h;rw [List.cons_append,RV.okE];exact ⟨h.1,LL h.2 h'⟩
theorem R3 {v:RV} (h:RV.ok k0 D L v):RV.okE k0 D L [v]:=by rw [RV.okE,RV.okE];exact ⟨h,trivial⟩
theorem Apd {v w:RV} (h:RV.ok k0 D L v) (h':RV.ok k0 D L w):RV.okE k0 D L [v,w]:=by rw [RV.okE];exact ⟨h,R3 h'⟩
theorem LO:∀{l:List RV} {op:Int} {i:Nat},RV.okL k0 D L op i l->∀{j:Nat} {v:RV},l[j]?=some v->(if 0<Af op (i+j) then RV.okC k0 D L (Af op (i+j)) v else RV.ok k0 D L v)
 | [],op,i,_,j,v,h=>by simp at h
 | a::l,op,i,ho,j,v,h=>by
  rw [RV.okL] at ho;cases j with
  | zero=>simp at h;subst h;exact ho.1
  | succ j =>
   simp at h
   have:=LO ho.2 h
   rw [show i+1+j=i+(j+1) by omega] at this
   exact this
theorem Abp {op n:Int} {k:List RV} (h1:op≠1) (ha:ar op=some k.length) (hn:BJ op n) (hk:RV.okL k0 D L op 0 k):RV.ok k0 D L (.node op n k):=by
 rw [RV.node,RV.ok,if_neg h1];exact ⟨ha,hn,hk⟩
theorem FA {v:RV} (h:RV.ok k0 D L v) (h1:v.op≠1):ar v.op=some v.k.length/\BJ v.op v.n/\RV.okL k0 D L v.op 0 v.k:=by
 obtain ⟨op,n,k,env,b⟩:=v;rw [RV.ok] at h;have h1:op≠1:=h1;rw [if_neg h1] at h;exact h
theorem Tw:RV.ok k0 D L .zero:=by
 rw [RV.zero,RV.ok,if_neg (by decide)];exact ⟨by decide,by simp [BJ],by rw [RV.okL];trivial⟩
theorem FP {v:RV} (h:RV.ok k0 D L v) (h1:v.op≠1) {j:Nat} (hj:j<v.k.length) (hb:Af v.op j=0):∃w,v.k[j]?=some w/\RV.ok k0 D L w:=by
 obtain ⟨_,_,hl⟩:=FA h h1;refine ⟨v.k[j],List.getElem?_eq_getElem hj,?_⟩
 have:=LO hl (List.getElem?_eq_getElem hj)
 rw [Nat.zero_add,if_neg (by omega)] at this;exact this
theorem Xa {v:RV} (h:RV.ok k0 D L v) (h1:v.op≠1) {j:Nat} (hj:j<v.k.length) (hb:0<Af v.op j):∃w,v.k[j]?=some w/\RV.okE k0 D L w.env/\w.b.sc (k0+w.env.length+Af v.op j)/\w.env.length+Af v.op j+w.b.bd<=D:=by
 obtain ⟨_,_,hl⟩:=FA h h1;refine ⟨v.k[j],List.getElem?_eq_getElem hj,?_⟩
 have:=LO hl (List.getElem?_eq_getElem hj)
 rw [Nat.zero_add,if_pos hb] at this;generalize v.k[j]=w at this ⊢;obtain ⟨op,n,k,env,b⟩:=w;rw [RV.okC] at this;exact this
def Tf (s s' e':Int):Prop:=s<=s'/\(e'=0/\s'<=1000\/e'=17/\s'=1001)
def Aiu (k0 D:Nat) (L:Int) (c:Nat):Prop:=∀(v:RV) (s:Int),v.op≠1->RV.ok k0 D L v->0<=s->s<=1000->1000<=s+c->∃f w s' e',headR f s 0 v=some (w,s',e')/\RV.ok k0 D L w/\Tf s s' e'
def Ari (k0 D:Nat) (L:Int) (c:Nat):Prop:=∀(t:Tm) (env:List RV) (s:Int),RV.okE k0 D L env->t.sc (k0+env.length)->env.length+t.bd<=D->0<=s->s<=1000->1000<=s+c->∃f v s' e',AA f s 0 t env=some (v,s',e')/\RV.ok k0 D L v/\Tf s s' e'
theorem Pn (s e:Int) (h:e≠0) (t:Tm) (env:List RV):AA 1 s e t env=some (.zero,s,e):=by
 obtain ⟨op,m,ks⟩:=t;rw [AA,if_pos h]
theorem AiY {c:Nat} (h:Ari k0 D L c) {t:Tm} {env:List RV} {s e:Int} (h1:RV.okE k0 D L env) (h2:t.sc (k0+env.length)) (h3:env.length+t.bd<=D) (h0:0<=s) (he:e=0/\s<=1000\/e=17/\s=1001) (hc:1000<=s+c) :
  ∃f v s' e',AA f s e t env=some (v,s',e')/\RV.ok k0 D L v/\Tf s s' e':=by
 rcases he with ⟨rfl,hs⟩ | ⟨rfl,hs⟩
 ·exact h t env s h1 h2 h3 h0 hs hc
 ·exact ⟨1,_,_,_,Pn s 17 (by decide) t env,Tw,by omega,.inr ⟨rfl,hs⟩⟩
theorem Qb (hD:D<=900000) (c:Nat) (he:∀c',c=c'+1->Ari k0 D L c') (hh:∀c',c=c'+1->Aiu k0 D L c'):Aiu k0 D L c:=by
 intro v s h1 ho hs0 hs1 hsc;obtain ⟨ha,hn,hl⟩:=FA ho h1;have stop:Tf s s 0:=⟨by omega,.inl ⟨rfl,hs1⟩⟩;by_cases h5:v.op=5
 ·have hlen:v.k.length=2:=by rw [h5] at ha;simpa [ar] using ha.symm
  obtain ⟨k0',hk0,ok0⟩:=FP ho h1 (j:=0) (by omega) (by rw [h5];rfl);obtain ⟨k1,hk1,ok1⟩:=FP ho h1 (j:=1) (by omega) (by rw [h5];rfl);by_cases h4:k0'.op=4
  ·by_cases hq:s+1<=1000
   ·obtain ⟨c',rfl⟩:∃c',c=c'+1:=⟨c - 1,by omega⟩;obtain ⟨ha4,_,_⟩:=FA ok0 (by omega);have hlen4:k0'.k.length=2:=by rw [h4] at ha4;simpa [ar] using ha4.symm
    obtain ⟨w,hw,w1,w2,w3⟩:=Xa ok0 (by omega) (j:=1) (by omega) (by rw [h4];decide);have hb1:Af k0'.op 1=1:=by rw [h4];rfl
    rw [hb1] at w2 w3;obtain ⟨f,x,s',e',hx,hxo,hxe⟩:=he c' rfl w.b (w.env++[k1]) (s+1) (LL w1 (R3 ok1)) (by simpa [Nat.add_assoc] using w2) (by simp;omega) (by omega) hq (by omega);refine ⟨f+1,x,s',e',?_,hxo,?_⟩
    ·rw [headR,if_neg (by decide),if_neg (by omega),if_pos h5,hk0];simp only [h4,hq,hw,hk1,if_true];rw [if_neg (by omega)];exact hx
    ·exact ⟨by have:=hxe.1;omega,hxe.2⟩
   ·refine ⟨1,v,s+1,17,?_,ho,by omega,.inr ⟨rfl,by omega⟩⟩;rw [headR,if_neg (by decide),if_neg (by omega),if_pos h5,hk0];simp only [h4,hq,if_true,if_false]
  ·refine ⟨1,v,s,0,?_,ho,stop⟩;rw [headR,if_neg (by decide),if_neg (by omega),if_pos h5,hk0];simp only [h4,if_false]
 by_cases h89:v.op=8\/v.op=9
 ·have hlen:v.k.length=1:=by rcases h89 with h | h<;>(rw [h] at ha;simpa [ar] using ha.symm)
  obtain ⟨k0',hk0,ok0⟩:=FP ho h1 (j:=0) (by omega) (by rcases h89 with h | h<;>(rw [h];rfl));by_cases h7:k0'.op=7
  ·by_cases hq:s+1<=1000
   ·obtain ⟨ha7,_,_⟩:=FA ok0 (by omega);have hlen7:k0'.k.length=3:=by rw [h7] at ha7;simpa [ar] using ha7.symm
    obtain ⟨x,hx,okx⟩:=FP ok0 (by omega) (j:=(1+v.op - 8).toNat) (by omega) (by rw [h7];rcases h89 with h | h<;>(rw [h];rfl));refine ⟨1,x,s+1,0,?_,okx,by omega,.inl ⟨rfl,hq⟩⟩;rw [headR,if_neg (by decide),if_neg (by omega),if_neg h5,if_pos h89,hk0];simp only [h7,hq,if_true,hx,AB2]
   ·refine ⟨1,v,s+1,17,?_,ho,by omega,.inr ⟨rfl,by omega⟩⟩;rw [headR,if_neg (by decide),if_neg (by omega),if_neg h5,if_pos h89,hk0];simp only [h7,hq,if_true,if_false]
  ·refine ⟨1,v,s,0,?_,ho,stop⟩;rw [headR,if_neg (by decide),if_neg (by omega),if_neg h5,if_pos h89,hk0];simp only [h7,if_false]
 by_cases h30:v.op=30
 ·have hlen:v.k.length=1:=by rw [h30] at ha;simpa [ar] using ha.symm
  obtain ⟨k0',hk0,ok0⟩:=FP ho h1 (j:=0) (by omega) (by rw [h30];rfl);by_cases h7:k0'.op=19
  ·by_cases hq:s+1<=1000
   ·obtain ⟨ha7,_,_⟩:=FA ok0 (by omega);have hlen7:k0'.k.length=1:=by rw [h7] at ha7;simpa [ar] using ha7.symm
    obtain ⟨x,hx,okx⟩:=FP ok0 (by omega) (j:=0) (by omega) (by rw [h7];rfl);refine ⟨1,x,s+1,0,?_,okx,by omega,.inl ⟨rfl,hq⟩⟩;rw [headR,if_neg (by decide),if_neg (by omega),if_neg h5,if_neg h89,if_pos h30,hk0];simp only [h7,hq,if_true,hx,AB2]
   ·refine ⟨1,v,s+1,17,?_,ho,by omega,.inr ⟨rfl,by omega⟩⟩;rw [headR,if_neg (by decide),if_neg (by omega),if_neg h5,if_neg h89,if_pos h30,hk0];simp only [h7,hq,if_true,if_false]
  ·refine ⟨1,v,s,0,?_,ho,stop⟩;rw [headR,if_neg (by decide),if_neg (by omega),if_neg h5,if_neg h89,if_pos h30,hk0];simp only [h7,if_false]
 by_cases h19:v.op=19
 ·have hlen:v.k.length=1:=by rw [h19] at ha;simpa [ar] using ha.symm
  obtain ⟨k0',hk0,ok0⟩:=FP ho h1 (j:=0) (by omega) (by rw [h19];rfl);by_cases h7:k0'.op=30
  ·by_cases hq:s+1<=1000
   ·obtain ⟨ha7,_,_⟩:=FA ok0 (by omega);have hlen7:k0'.k.length=1:=by rw [h7] at ha7;simpa [ar] using ha7.symm
    obtain ⟨x,hx,okx⟩:=FP ok0 (by omega) (j:=0) (by omega) (by rw [h7];rfl);refine ⟨1,x,s+1,0,?_,okx,by omega,.inl ⟨rfl,hq⟩⟩;rw [headR,if_neg (by decide),if_neg (by omega),if_neg h5,if_neg h89,if_neg h30,if_pos h19,hk0];simp only [h7,hq,if_true,hx,AB2]
   ·refine ⟨1,v,s+1,17,?_,ho,by omega,.inr ⟨rfl,by omega⟩⟩;rw [headR,if_neg (by decide),if_neg (by omega),if_neg h5,if_neg h89,if_neg h30,if_pos h19,hk0];simp only [h7,hq,if_true,if_false]
  ·refine ⟨1,v,s,0,?_,ho,stop⟩;rw [headR,if_neg (by decide),if_neg (by omega),if_neg h5,if_neg h89,if_neg h30,if_pos h19,hk0];simp only [h7,if_false]
 by_cases h13:v.op=13
 ·have hlen:v.k.length=4:=by rw [h13] at ha;simpa [ar] using ha.symm
  obtain ⟨a0,hk0,c0⟩:=Xa ho h1 (j:=0) (by omega) (by rw [h13];decide);obtain ⟨a1,hk1,ok1⟩:=FP ho h1 (j:=1) (by omega) (by rw [h13];rfl);obtain ⟨a2,hk2,w1,w2,w3⟩:=Xa ho h1 (j:=2) (by omega) (by rw [h13];decide);obtain ⟨a3,hk3,ok3⟩:=FP ho h1 (j:=3) (by omega) (by rw [h13];rfl);have hb2:Af v.op 2=2:=by rw [h13];rfl
  rw [hb2] at w2 w3;by_cases h11:a3.op=11
  ·by_cases hq:s+1<=1000
   ·refine ⟨1,a1,s+1,0,?_,ok1,by omega,.inl ⟨rfl,hq⟩⟩;rw [headR,if_neg (by decide),if_neg (by omega),if_neg h5,if_neg h89,if_neg h30,if_neg h19,if_pos h13,hk0,hk1,hk2,hk3];simp only [h11,hq,if_true]
   ·refine ⟨1,v,s+1,17,?_,ho,by omega,.inr ⟨rfl,by omega⟩⟩;rw [headR,if_neg (by decide),if_neg (by omega),if_neg h5,if_neg h89,if_neg h30,if_neg h19,if_pos h13,hk0,hk1,hk2,hk3];simp only [h11,hq,if_true,if_false]
  by_cases h12:a3.op=12
  ·by_cases hq:s+1<=1000
   ·obtain ⟨c',rfl⟩:∃c',c=c'+1:=⟨c - 1,by omega⟩;obtain ⟨ha12,_,_⟩:=FA ok3 (by omega);have hlen12:a3.k.length=1:=by rw [h12] at ha12;simpa [ar] using ha12.symm
    obtain ⟨x,hx,okx⟩:=FP ok3 (by omega) (j:=0) (by omega) (by rw [h12];rfl);have hrec:RV.ok k0 D L (.node 13 0 [a0,a1,a2,x]):=by
     refine Abp (by decide) rfl (by simp [BJ]) ?_;have e0:=LO hl hk0;have e2:=LO hl hk2;rw [h13] at e0 e2;simp only [RV.okL];exact ⟨e0,ok1,e2,okx,trivial⟩
    obtain ⟨f,h,s2,e2,hd,hdo,hde⟩:=hh c' rfl _ (s+1) (by simp [RV.node,RV.op]) hrec (by omega) hq (by omega);obtain ⟨g,y,s3,e3,hy,hyo,hye⟩:=AiY (he c' rfl) (t:=a2.b) (env:=a2.env++[x,h]) (s:=s2) (e:=e2) (LL w1 (Apd okx hdo)) (by simpa [Nat.add_assoc] using w2) (by simp;omega) (by have:=hde.1;omega) hde.2 (by have:=hde.1;omega);refine ⟨f+g+1,y,s3,e3,?_,hyo,by have:=hde.1;have:=hye.1;omega,hye.2⟩;rw [headR,if_neg (by decide),if_neg (by omega),if_neg h5,if_neg h89,if_neg h30,if_neg h19,if_pos h13,hk0,hk1,hk2,hk3];simp only [h12,hq,if_true,hx,Tu (show f<=f+g by omega) hd]
    rw [if_neg (by decide),if_neg (by omega)];exact Cn (by omega) hy
   ·refine ⟨1,v,s+1,17,?_,ho,by omega,.inr ⟨rfl,by omega⟩⟩;rw [headR,if_neg (by decide),if_neg (by omega),if_neg h5,if_neg h89,if_neg h30,if_neg h19,if_pos h13,hk0,hk1,hk2,hk3];simp only [h12,hq,if_true,if_false];rw [if_neg (by decide)]
  ·refine ⟨1,v,s,0,?_,ho,stop⟩;rw [headR,if_neg (by decide),if_neg (by omega),if_neg h5,if_neg h89,if_neg h30,if_neg h19,if_pos h13,hk0,hk1,hk2,hk3];simp only [h11,h12,if_false]
 ·refine ⟨1,v,s,0,?_,ho,stop⟩;rw [headR,if_neg (by decide),if_neg (by omega),if_neg h5,if_neg h89,if_neg h30,if_neg h19,if_neg h13]
end
end Idl
end Go.Proofs.Ytkfecngimlcfoaa
namespace Go.Proofs.Ytkfecngimlcfoaa
namespace Idl
section
variable {k0 D:Nat} {L:Int}
theorem OL {c:Nat} {env:List RV} (henv:RV.okE k0 D L env) (op:Int):∀(l:List Tm) (i:Nat) (s e:Int),
  (∀t∈l,∀s:Int,t.sc (k0+env.length)->env.length+t.bd<=D->0<=s->s<=1000->1000<=s+c->∃f v s' e',AA f s 0 t env=some (v,s',e')/\RV.ok k0 D L v/\Tf s s' e') ->
  Tm.scL op i l (k0+env.length)->env.length+Tm.bdL op i l<=D->0<=s->(e=0/\s<=1000\/e=17/\s=1001)->1000<=s+c ->
  ∃f vs s' e',AU (fun s e t=>AA f s e t env) op env i l s e=some (vs,s',e')/\RV.okL k0 D L op i vs/\vs.length=l.length/\Tf s s' e'
 | [],i,s,e,_,_,_,h0,he,_=>⟨0,[],s,e,rfl,by rw [RV.okL];trivial,rfl,by omega,he⟩
 | t::l,i,s,e,hev,hsc,hbd,h0,he,hc=>by
  rw [Tm.scL] at hsc;rw [Tm.bdL] at hbd;by_cases hb:0<Af op i
  ·obtain ⟨f,vs,s',e',hk,hok,hlen,hend⟩:=OL henv op l (i+1) s e (fun u hu=>hev u (List.mem_cons_of_mem _ hu)) hsc.2 (by omega) h0 he hc;refine ⟨f,.clo env t::vs,s',e',?_,?_,by simp [hlen],hend⟩
   ·rw [AU,if_pos hb,hk];rfl
   ·rw [RV.okL,if_pos hb,RV.clo,RV.okC];exact ⟨⟨henv,hsc.1,by omega⟩,hok⟩
  ·have hb0:Af op i=0:=by omega
   rw [hb0] at hsc hbd;have h1:∃f v s' e',AA f s e t env=some (v,s',e')/\RV.ok k0 D L v/\Tf s s' e':=by
    rcases he with ⟨rfl,hs⟩ | ⟨rfl,hs⟩
    ·exact hev t List.mem_cons_self s (by simpa using hsc.1) (by omega) h0 hs hc
    ·exact ⟨1,_,_,_,Pn s 17 (by decide) t env,Tw,by omega,.inr ⟨rfl,hs⟩⟩
   obtain ⟨f,v,s1,e1,hv,hvo,hve⟩:=h1;obtain ⟨g,vs,s',e',hk,hok,hlen,hend⟩:=OL henv op l (i+1) s1 e1 (fun u hu=>hev u (List.mem_cons_of_mem _ hu)) hsc.2 (by omega) (by have:=hve.1;omega) hve.2 (by have:=hve.1;omega);refine ⟨f+g,v::vs,s',e',?_,?_,by simp [hlen],by have:=hve.1;have:=hend.1;omega,hend.2⟩
   ·rw [AU,if_neg hb];simp only [Cn (show f<=f+g by omega) hv]
    rw [Dj (ev:=fun s e t=>AA g s e t env) (fun s e t r h=>Cn (by omega) h) op env l (i+1) s1 e1 _ hk];rfl
   ·rw [RV.okL,if_neg hb];exact ⟨hvo,hok⟩
theorem QA (hD:D<=900000) (hL:0<=L) (hk0:k0<=900000) {c:Nat} (hh:Aiu k0 D L c):∀(m:Nat) (t:Tm) (env:List RV) (s:Int),t.wt<m->RV.okE k0 D L env->t.sc (k0+env.length)->env.length+t.bd<=D->0<=s->s<=1000->1000<=s+c ->
  ∃f v s' e',AA f s 0 t env=some (v,s',e')/\RV.ok k0 D L v/\Tf s s' e':=by
 intro m
 induction m with
 | zero=>intro t env s h;omega
 | succ m ih =>
  intro t env s hw henv hsc hbd h0 h1 hc;obtain ⟨op,n,ks⟩:=t;rw [Tm.sc] at hsc;rw [Tm.bd] at hbd;simp only [Tm.wt] at hw;by_cases hop:op=1
  ·subst hop;rw [if_pos rfl] at hsc;have hkl:ks=[]:=by
    have:=hsc.1
    simp [ar] at this;exact List.length_eq_zero_iff.1 this.symm
   by_cases hm:n<env.length
   ·have hlt:((env.length:Int) - 1 - n).toNat<env.length:=by omega
    refine ⟨1,env[((env.length:Int) - 1 - n).toNat],s,0,?_,ZT henv (List.getElem?_eq_getElem hlt),by omega,.inl ⟨rfl,h1⟩⟩;rw [AA,if_neg (by decide),if_neg (by omega),if_pos rfl,if_pos hm,if_pos hsc.2.1.1,List.getElem?_eq_getElem hlt];rfl
   ·refine ⟨1,.var (env.length - 1 - n),s,0,?_,?_,by omega,.inl ⟨rfl,h1⟩⟩
    ·rw [AA,if_neg (by decide),if_neg (by omega),if_pos rfl,if_neg hm,if_pos (by have:=hsc.2.1.2;omega)]
    ·rw [RV.var,RV.ok,if_pos rfl]
     have:=hsc.2.1.2
     exact ⟨by omega,by omega,rfl⟩
  ·rw [if_neg hop] at hsc;obtain ⟨f,vs,s1,e1,hk,hok,hlen,hend⟩:=OL (c:=c) henv op ks 0 s 0 (fun t ht s=>fun a b c' d e=>ih t env s (by have:=CZ ht;omega) henv a b c' d e) hsc.2.2 hbd h0 (.inl ⟨rfl,h1⟩) hc;have hnode:RV.ok k0 D L (.node op n vs):=Abp hop (by rw [hlen];exact hsc.1) hsc.2.1 hok;have har:=UC hsc.1;have h2:∃g w s' e',headR g s1 e1 (.node op n vs)=some (w,s',e')/\RV.ok k0 D L w/\Tf s1 s' e':=by
    rcases hend.2 with ⟨he,hs⟩ | ⟨he,hs⟩
    ·subst he;exact hh _ s1 (by simpa [RV.node,RV.op] using hop) hnode (by have:=hend.1;omega) hs (by have:=hend.1;omega)
    ·subst he;refine ⟨1,_,s1,17,by rw [headR,if_pos (by decide)],hnode,by omega,.inr ⟨rfl,hs⟩⟩
   obtain ⟨g,w,s',e',hw2,hwo,hwe⟩:=h2;refine ⟨f+g+5+1,w,s',e',?_,hwo,by have:=hend.1;have:=hwe.1;omega,hwe.2⟩;rw [AA,if_neg (by decide),if_neg (by omega),if_neg hop,if_neg (by omega),if_neg (by omega)];rw [Dj (ev:=fun s e t=>AA f s e t env) (fun s e t r h=>Cn (by omega) h) op env ks 0 s 0 _ hk];exact Tu (by omega) hw2
theorem tot (hD:D<=900000) (hL:0<=L) (hk0:k0<=900000):∀c,Aiu k0 D L c/\Ari k0 D L c:=by
 intro c
 induction c with
 | zero =>
  have hH:Aiu k0 D L 0:=Qb hD 0 (fun c' h=>by omega) (fun c' h=>by omega);exact ⟨hH,fun t env s a b c d e f=>QA hD hL hk0 hH (t.wt+1) t env s (by omega) a b c d e f⟩
 | succ c ih =>
  have hH:Aiu k0 D L (c+1):=Qb hD (c+1) (fun c' h=>by cases h;exact ih.2) (fun c' h=>by cases h;exact ih.1);exact ⟨hH,fun t env s a b c d e f=>QA hD hL hk0 hH (t.wt+1) t env s (by omega) a b c d e f⟩
end
end Idl
end Go.Proofs.Ytkfecngimlcfoaa
namespace Go.Proofs.Ytkfecngimlcfoaa
namespace Idl
section
variable {k0 D:Nat} {L L':Int}
mutual
theorem TO (h:L<=L'):∀v:RV,RV.ok k0 D L v->RV.ok k0 D L' v
 | .mk op n k env b,hv=>by
  rw [RV.ok] at hv ⊢;by_cases h1:op=1
  ·rw [if_pos h1] at hv ⊢;exact ⟨hv.1,by omega,hv.2.2⟩
  ·rw [if_neg h1] at hv ⊢;exact ⟨hv.1,hv.2.1,okL_mono h k op 0 hv.2.2⟩
theorem okL_mono (h:L<=L'):∀(l:List RV) (op:Int) (i:Nat),RV.okL k0 D L op i l->RV.okL k0 D L' op i l
 | [],op,i,_=>by rw [RV.okL];trivial
 | v::l,op,i,hv=>by
  rw [RV.okL] at hv ⊢;refine ⟨?_,okL_mono h l op (i+1) hv.2⟩;by_cases hb:0<Af op i
  ·rw [if_pos hb]
   have:=hv.1
   rw [if_pos hb] at this;exact okC_mono h v (Af op i) this
  ·rw [if_neg hb]
   have:=hv.1
   rw [if_neg hb] at this;exact TO h v this
theorem okC_mono (h:L<=L'):∀(v:RV) (b:Nat),RV.okC k0 D L b v->RV.okC k0 D L' b v
 | .mk op n k env bd,b,hv=>by
  rw [RV.okC] at hv ⊢;exact ⟨okE_mono h env hv.1,hv.2⟩
theorem okE_mono (h:L<=L'):∀(l:List RV),RV.okE k0 D L l->RV.okE k0 D L' l
 | [],_=>by rw [RV.okE];trivial
 | v::l,hv=>by
  rw [RV.okE] at hv ⊢;exact ⟨TO h v hv.1,okE_mono h l hv.2⟩
end
theorem AlP (u:Nat):∀b:Nat,RV.okE k0 D ((u+b:Nat):Int) (Gf u b)
 | 0=>by simp only [Gf,List.range_zero,AB4];rw [RV.okE];trivial
 | b+1=>by
  rw [LR];refine LL (okE_mono (by omega) _ (AlP u b)) (R3 ?_);rw [RV.var,RV.ok,if_pos rfl];exact ⟨by omega,by omega,rfl⟩
end
theorem Es {f g:Nat} (hfg:f<=g) {rd rd':Int->Int->Int->RV->Int->Option (Tm×Int×Int×Int)} (h:∀s nd e k u r,rd s nd e k u=some r->rd' s nd e k u=some r) (op u:Int):∀(l:List RV) (i:Nat) (s nd e:Int) (r:List Tm×Int×Int×Int),
  Bf rd f op u i l s nd e=some r->Bf rd' g op u i l s nd e=some r
 | [],i,s,nd,e,r,hr=>hr
 | k::l,i,s,nd,e,r,hr=>by
  simp only [Bf] at hr ⊢;have key:∀q,(if 0<Af op i then (if 900000<k.env.length then none else AA f s e k.b (k.env++Gf u (Af op i))) else some (k,s,e))=some q ->
    (if 0<Af op i then (if 900000<k.env.length then none else AA g s e k.b (k.env++Gf u (Af op i))) else some (k,s,e))=some q:=by
   intro q hq;by_cases hb:0<Af op i
   ·rw [if_pos hb] at hq ⊢;by_cases hl:900000<k.env.length
    ·rw [if_pos hl] at hq;cases hq
    ·rw [if_neg hl] at hq ⊢;exact Cn hfg hq
   ·rw [if_neg hb] at hq ⊢;exact hq
  cases hq:(if 0<Af op i then (if 900000<k.env.length then none else AA f s e k.b (k.env++Gf u (Af op i))) else some (k,s,e)) with
  | none=>rw [hq] at hr;cases hr
  | some q =>
   rw [key q hq];rw [hq] at hr;obtain ⟨y,s1,e1⟩:=q;simp only at hr ⊢;cases hd:rd s1 nd e1 y (u+Af op i) with
   | none=>rw [hd] at hr;cases hr
   | some q =>
    obtain ⟨t,s2,nd2,e2⟩:=q;rw [hd] at hr;rw [h _ _ _ _ _ _ hd];simp only at hr ⊢;cases hk:Bf rd f op u (i+1) l s2 nd2 e2 with
    | none=>rw [hk] at hr;cases hr
    | some q=>rw [hk] at hr;rw [Es hfg h op u l (i+1) s2 nd2 e2 q hk];exact hr
theorem Aif:∀f s nd e v u d r,AS f s nd e v u d=some r->AS (f+1) s nd e v u d=some r:=by
 intro f
 induction f with
 | zero=>intro s nd e v u d r h;rw [AS] at h;cases h
 | succ f ih =>
  intro s nd e v u d r h;rw [AS] at h ⊢;by_cases hbad:nd<0\/1000000<nd\/u<0\/1000000<u\/d<0\/1000000<d\/v.n < -2305843009213693952\/2305843009213693952<v.n\/f<=v.k.length\/900000<v.k.length\/f<=3
  ·rw [if_pos hbad] at h;cases h
  ·rw [if_neg hbad] at h;rw [if_neg (by omega)];generalize (if e=0/\(3000<nd+1\/120<d) then (5:Int) else e)=e1 at h ⊢;by_cases he:e1≠0
   ·rw [if_pos he] at h ⊢;exact h
   ·rw [if_neg he] at h ⊢;by_cases h1:v.op=1
    ·rw [if_pos h1] at h ⊢;exact h
    ·rw [if_neg h1] at h ⊢;cases hk:Bf (fun s nd e k u=>AS f s nd e k u (d+1)) f v.op u 0 v.k s (nd+1) 0 with
     | none=>rw [hk] at h;cases h
     | some q =>
      rw [hk] at h;rw [Es (g:=f+1) (rd':=fun s nd e k u=>AS (f+1) s nd e k u (d+1)) (by omega) (fun s nd e k u r hr=>ih _ _ _ _ _ _ _ hr) v.op u v.k 0 s (nd+1) 0 q hk];exact h
theorem Ei {f g:Nat} (hfg:f<=g) {s nd e u d:Int} {v:RV} {r:Tm×Int×Int×Int} (h:AS f s nd e v u d=some r):AS g s nd e v u d=some r:=by
 induction hfg with
 | refl=>exact h
 | step _ ih=>exact Aif _ _ _ _ _ _ _ _ ih
mutual
def Tm.dp:Tm->Nat
 | .mk _ _ ks=>1+Tm.dpL ks
def Tm.dpL:List Tm->Nat
 | []=>0
 | t::l=>max t.dp (Tm.dpL l)
end
def MSt (s e:Int):Prop:=0<=s/\(e=0/\s<=1000\/e=17/\s=1001\/e=5/\s<=1001)
theorem AlY {op n:Int} (h:BJ op n):-2305843009213693952<=n/\n<=2305843009213693952:=by
 unfold BJ at h
 repeat' split at h
 all_goals omega
def Red (k0:Nat) (u d:Nat) (nd:Int) (t:Tm) (s' nd' e':Int):Prop :=
 MSt s' e'/\(e'=0->nd'<=3000/\t.sc (k0+u)/\(t.wt:Int)=nd' - nd/\t.dp+d<=121)/\nd'<=3001+3 * (121 - (d:Int))/\nd<=nd'
section
variable {k0 D:Nat}
theorem UY (s nd e u d:Int) (v:RV) (he:e≠0) (h1:0<=nd) (h2:nd<=1000000) (h3:0<=u) (h4:u<=1000000) (h5:0<=d) (h6:d<=1000000) (h7:-2305843009213693952<=v.n) (h8:v.n<=2305843009213693952) (h9:v.k.length<=900000) :
  AS (v.k.length+10) s nd e v u d=some (.z,s,nd+1,e):=by
 rw [show v.k.length+10=(v.k.length+9)+1 by omega,AS,if_neg (by omega)]
 have:(if e=0/\(3000<nd+1\/120<d) then (5:Int) else e)=e:=if_neg (by omega)
 rw [this,if_pos he]
def Avn (k0 D c:Nat):Prop:=∀(v:RV) (s nd:Int) (u d:Nat),RV.ok k0 D u v->0<=s->s<=1000->0<=nd->nd<=3000->3001<=nd+c->u<=2 * d->1<=d->d<=121 ->
 ∃f t s' nd' e',AS f s nd 0 v u d=some (t,s',nd',e')/\Red k0 u d nd t s' nd' e'
theorem OP {L:Int} {v:RV} (hL:L<=1000000) (hk:k0<=900000) (h:RV.ok k0 D L v):-2305843009213693952<=v.n/\v.n<=2305843009213693952/\v.k.length<=4:=by
 obtain ⟨op,n,k,env,b⟩:=v;rw [RV.ok] at h;by_cases h1:op=1
 ·rw [if_pos h1] at h;refine ⟨?_,?_,?_⟩
  ·show _<=n;omega
  ·show n<=_;omega
  ·show k.length<=4;rw [h.2.2];simp
 ·rw [if_neg h1] at h
  have:=AlY h.2.1
  exact ⟨this.1,this.2,UC h.1⟩
theorem Qs (hD:D<=800000) (hk:k0<=800000) {c:Nat} (hr:Avn k0 D c) (op:Int) (u d:Nat) (hu:u<=2 * d) (hd1:1<=d) (hd:d<=120):∀(l:List RV) (i:Nat) (s nd e:Int),RV.okL k0 D u op i l->MSt s e->0<=nd->nd+l.length<=5000->l.length<=4->(e=0->nd<=3000/\3001<=nd+c) ->
  ∃f ts s' nd' e',Bf (fun s nd e k u=>AS f s nd e k u ((d:Int)+1)) f op u i l s nd e=some (ts,s',nd',e')/\MSt s' e'/\nd<=nd' /\
   (e'=0->e=0/\nd'<=3000/\Tm.scL op i ts (k0+u)/\ts.length=l.length/\(Tm.wtL ts:Int)=nd' - nd/\Tm.dpL ts+d+1<=121) /\
   (e=0->nd'<=3000\/nd'+1<=3001+3 * (120 - (d:Int))+l.length)/\(e≠0->nd'=nd+l.length)
 | [],i,s,nd,e,_,hst,h0,h5,_,he=>by
  refine ⟨0,[],s,nd,e,rfl,hst,Int.le_refl _,fun h=>⟨h,(he h).1,by rw [Tm.scL];trivial,rfl,by simp [Tm.wtL],by simp only [Tm.dpL];omega⟩,fun h=>.inl (he h).1,fun _=>by simp⟩
 | k::l,i,s,nd,e,hl,hst,h0,h5,hl4,he=>by
  rw [RV.okL] at hl;simp only [AB3] at hl4 h5;have hbl:=Bj op i;have h1:∃f y s1 e1,(if 0<Af op i then (if 900000<k.env.length then none else AA f s e k.b (k.env++Gf u (Af op i))) else some (k,s,e))=some (y,s1,e1)/\RV.ok k0 D ((u+Af op i:Nat):Int) y/\MSt s1 e1/\(e≠0->e1≠0):=by
   by_cases hb:0<Af op i
   ·have hc:=hl.1;rw [if_pos hb] at hc;have hce:RV.okE k0 D u k.env/\k.b.sc (k0+k.env.length+Af op i)/\k.env.length+Af op i+k.b.bd<=D:=by
     obtain ⟨_,_,_,env,b⟩:=k;rw [RV.okC] at hc;exact hc
    by_cases he0:e=0
    ·subst he0;have hs:s<=1000:=by rcases hst.2 with ⟨_,h⟩ | ⟨h,_⟩ | ⟨h,_⟩<;>omega
     obtain ⟨f,y,s1,e1,hy,hyo,hye⟩:=(tot (k0:=k0) (D:=D) (L:=((u+Af op i:Nat):Int)) (by omega) (by omega) (by omega) 1000).2 k.b (k.env++Gf u (Af op i)) s
      (LL (okE_mono (by omega) _ hce.1) (AlP u _)) (by rw [List.length_append,B7,<- Nat.add_assoc];exact hce.2.1) (by rw [List.length_append,B7];omega) hst.1 hs (by have:=hst.1;omega)
     refine ⟨f,y,s1,e1,?_,hyo,⟨by have:=hye.1;have:=hst.1;omega,?_⟩,fun h=>absurd rfl h⟩
     ·rw [if_pos hb,if_neg (by omega)];exact hy
     ·rcases hye.2 with h | h
      ·exact .inl h
      ·exact .inr (.inl h)
    ·refine ⟨1,.zero,s,e,?_,Tw,hst,fun h=>h⟩;rw [if_pos hb,if_neg (by omega),Pn s e he0]
   ·have hc:=hl.1;rw [if_neg hb] at hc;refine ⟨0,k,s,e,by rw [if_neg hb],TO (by omega) _ hc,hst,fun h=>h⟩
  obtain ⟨f1,y,s1,e1,hy,hyo,hst1,hee⟩:=h1;have hsm:=OP (by omega) (by omega) hyo;have h2:∃f t s2 nd2 e2,AS f s1 nd e1 y ((u+Af op i:Nat):Int) ((d:Int)+1)=some (t,s2,nd2,e2)/\MSt s2 e2/\nd<=nd2 /\
    (e2=0->e1=0/\nd2<=3000/\t.sc (k0+u+Af op i)/\(t.wt:Int)=nd2 - nd/\t.dp+d+1<=121/\nd+1<=nd2)/\(e1=0->nd2<=3001+3 * (120 - (d:Int)))/\(e1≠0->nd2=nd+1):=by
   by_cases he1:e1=0
   ·subst he1;have he0:e=0:=Classical.byContradiction fun h=>hee h rfl;have hn:=he he0;have hs:s1<=1000:=by rcases hst1.2 with ⟨_,h⟩ | ⟨h,_⟩ | ⟨h,_⟩<;>omega
    obtain ⟨f,t,s2,nd2,e2,ht,hR⟩:=hr y s1 nd (u+Af op i) (d+1) hyo hst1.1 hs h0 hn.1 hn.2 (by omega) (by omega) (by omega);refine ⟨f,t,s2,nd2,e2,by simpa using ht,hR.1,hR.2.2.2,fun h=>?_,fun _=>by have:=hR.2.2.1;omega,fun h=>absurd rfl h⟩
    have:=hR.2.1 h
    have hw:=DV t;exact ⟨rfl,this.1,by rw [Nat.add_assoc];exact this.2.1,this.2.2.1,by omega,by omega⟩
   ·refine ⟨y.k.length+10,.z,s1,nd+1,e1,UY s1 nd e1 _ _ y he1 h0 (by omega) (by omega) (by omega) (by omega) (by omega) hsm.1 hsm.2.1 (by omega),hst1,by omega,fun h=>absurd h he1,fun h=>absurd h he1,fun _=>rfl⟩
  obtain ⟨f2,t,s2,nd2,e2,ht,hst2,hle,hok,hbd,her⟩:=h2;obtain ⟨f3,ts,s3,nd3,e3,hk3,hst3,hle3,hok3,hbd3,her3⟩:=Qs hD hk hr op u d hu hd1 hd l (i+1) s2 nd2 e2 hl.2 hst2 (by omega) (by
    by_cases he1:e1=0
    ·have:=hbd he1;omega
    ·have:=her he1
     by_cases he0:e=0
     ·have:=(he he0).1;omega
     ·omega) (by omega) (fun h=>by
    have h2:=hok h;have he0:e=0:=Classical.byContradiction fun h'=>hee h' h2.1
    have:=he he0
    omega)
  refine ⟨f1+f2+f3,t::ts,s3,nd3,e3,?_,hst3,by omega,fun h=>?_,fun h=>?_,fun h=>?_⟩
  ·have hy':(if 0<Af op i then (if 900000<k.env.length then none else AA (f1+f2+f3) s e k.b (k.env++Gf u (Af op i))) else some (k,s,e))=some (y,s1,e1):=by
    by_cases hb:0<Af op i
    ·rw [if_pos hb] at hy ⊢;by_cases hl:900000<k.env.length
     ·rw [if_pos hl] at hy;cases hy
     ·rw [if_neg hl] at hy ⊢;exact Cn (by omega) hy
    ·rw [if_neg hb] at hy ⊢;exact hy
   rw [Bf,hy'];simp only;rw [show (u:Int)+(Af op i:Int)=((u+Af op i:Nat):Int) by omega,Ei (show f2<=f1+f2+f3 by omega) ht]
   simp only;rw [Es (f:=f3) (rd:=fun s nd e k u=>AS f3 s nd e k u ((d:Int)+1)) (by omega) (fun s nd e k u r h=>Ei (by omega) h) op u l (i+1) s2 nd2 e2 _ hk3];rfl
  ·have h3:=hok3 h;have h2:=hok h3.1;have he0:e=0:=Classical.byContradiction fun h'=>hee h' h2.1;refine ⟨he0,h3.2.1,?_,by simp [h3.2.2.2.1],?_,?_⟩
   ·rw [Tm.scL];exact ⟨h2.2.2.1,h3.2.2.1⟩
   ·simp only [Tm.wtL];have:=h2.2.2.2.1;have:=h3.2.2.2.2.1;omega
   ·simp only [Tm.dpL];have:=h2.2.2.2.2.1;have:=h3.2.2.2.2.2;omega
  ·simp only [AB3];by_cases he1:e1=0
   ·by_cases he2:e2=0
    ·have:=hbd3 he2;omega
    ·have:=her3 he2;have:=hbd he1;omega
   ·have h6:=her he1;have h7:e2≠0:=fun h'=>he1 (hok h').1
    have:=her3 h7
    have:=(he h).1
    omega
  ·simp only [AB3];have he1:=hee h;have h7:e2≠0:=fun h'=>he1 (hok h').1
   have:=her3 h7
   have:=her he1
   omega
theorem Ajw (hD:D<=800000) (hk:k0<=800000):∀c,Avn k0 D c:=by
 intro c
 induction c with
 | zero=>intro v s nd u d _ _ _ _ h1 h2;omega
 | succ c ih =>
  intro v s nd u d hv h0 hs hn0 hn hc hu hd1 hd;have hsm:=OP (by omega) (by omega) hv;have hst:MSt s 0:=⟨h0,.inl ⟨rfl,hs⟩⟩;by_cases h3:3000<nd+1\/120<(d:Int)
  ·refine ⟨v.k.length+10,.z,s,nd+1,5,?_,⟨h0,.inr (.inr ⟨rfl,by omega⟩)⟩,(fun h=>absurd h (by decide)),by omega,by omega⟩;rw [show v.k.length+10=(v.k.length+9)+1 by omega,AS,if_neg (by omega)]
   have e5:(if (0:Int)=0/\(3000<nd+1\/120<(d:Int)) then (5:Int) else 0)=5:=if_pos ⟨rfl,h3⟩;rw [e5,if_pos (by decide)]
  ·have e5:(if (0:Int)=0/\(3000<nd+1\/120<(d:Int)) then (5:Int) else 0)=0:=if_neg (fun h=>h3 h.2);by_cases h1:v.op=1
   ·have hvn:-(k0:Int)<=v.n/\v.n<u:=by
     obtain ⟨op,n,k,env,b⟩:=v;have h1':op=1:=h1;rw [RV.ok,if_pos h1'] at hv;exact ⟨hv.1,hv.2.1⟩
    refine ⟨v.k.length+10,.mk 1 (u - 1 - v.n) [],s,nd+1,0,?_,hst,fun _=>⟨by omega,?_,by simp only [Tm.wt,Tm.wtL];omega,by simp only [Tm.dp,Tm.dpL];omega⟩,by omega,by omega⟩
    ·rw [show v.k.length+10=(v.k.length+9)+1 by omega,AS,if_neg (by omega),e5,if_neg (by decide),if_pos h1]
    ·rw [Tm.sc,if_pos rfl,Tm.scL];exact ⟨rfl,by omega,trivial⟩
   ·obtain ⟨ha,hnum,hl⟩:=FA hv h1;obtain ⟨f,ts,s',nd',e',hk2,hst',hle,hok,hbd,_⟩:=Qs hD hk ih v.op u d hu hd1 (by omega) v.k 0 s (nd+1) 0 hl hst (by omega) (by omega) (by omega) (fun _=>by omega);refine ⟨f+v.k.length+10,.mk v.op v.n ts,s',nd',e',?_,hst',fun h=>?_,by have:=hbd rfl;omega,by omega⟩
    ·rw [show f+v.k.length+10=(f+v.k.length+9)+1 by omega,AS,if_neg (by omega),e5,if_neg (by decide),if_neg h1]
     rw [Es (f:=f) (rd:=fun s nd e k u=>AS f s nd e k u ((d:Int)+1)) (by omega) (fun s nd e k u r h=>Ei (by omega) h) v.op u v.k 0 s (nd+1) 0 _ hk2];rfl
    ·have:=hok h
     refine ⟨this.2.1,?_,?_,?_⟩
     ·rw [Tm.sc,if_neg h1];exact ⟨by rw [this.2.2.2.1];exact ha,hnum,this.2.2.1⟩
     ·simp only [Tm.wt];have:=this.2.2.2.2.1;omega
     ·simp only [Tm.dp];have:=this.2.2.2.2.2;omega
end
theorem Xt {k:Nat} (hk:k<=800000) {t:Tm} (hsc:t.sc k) (hb:t.bd<=800000):∃f u e,AX f t=some (u,e)/\(e=0/\u.sc k/\u.wt<=3000/\u.dp<=120\/(e=5\/e=17)/\u=.z):=by
 obtain ⟨f,v,s1,e1,hv,hvo,hve⟩:=(tot (k0:=k) (D:=800000) (L:=0) (by omega) (by omega) (by omega) 1000).2 t [] 0 (by rw [RV.okE];trivial) (by simpa using hsc) (by simp;omega) (by omega) (by omega) (by omega);have hsm:=OP (by omega) (by omega) hvo;rcases hve.2 with ⟨rfl,hs⟩ | ⟨rfl,hs⟩
 ·obtain ⟨g,u,s2,nd2,e2,hu,hR⟩:=Ajw (k0:=k) (D:=800000) (by omega) hk 3001 v s1 0 0 1 (by simpa using hvo) (by have:=hve.1;omega) hs (by omega) (by omega) (by omega) (by omega) (by omega) (by omega);have hn:AX (f+g) t=some (if e2≠0 then (.z,e2) else (u,0)):=by
   rw [AX,Cn (by omega) hv];simp only;rw [Ei (show g<=f+g by omega) (by simpa using hu)]
  by_cases h2:e2=0
  ·rw [if_neg (by simp [h2])] at hn
   have:=hR.2.1 h2
   exact ⟨_,_,_,hn,.inl ⟨rfl,by simpa using this.2.1,by omega,by omega⟩⟩
  ·rw [if_pos h2] at hn;refine ⟨_,_,_,hn,.inr ⟨?_,rfl⟩⟩;rcases hR.1.2 with ⟨h,_⟩ | ⟨h,_⟩ | ⟨h,_⟩
   ·exact absurd h h2
   ·exact .inr h
   ·exact .inl h
 ·have hn:AX (f+v.k.length+10) t=some (.z,17):=by
   rw [AX,Cn (by omega) hv];simp only;rw [Ei (show v.k.length+10<=f+v.k.length+10 by omega) (UY s1 0 17 0 1 v (by decide) (by omega) (by omega) (by omega) (by omega) (by omega) (by omega) hsm.1 hsm.2.1 (by omega))]
   rfl
  exact ⟨_,_,_,hn,.inr ⟨.inr rfl,rfl⟩⟩
end Idl
end Go.Proofs.Ytkfecngimlcfoaa
namespace Go.Proofs.Ytkfecngimlcfoaa
namespace Idl
mutual
theorem Fd:∀(t:Tm) (k:Nat),t.sc k->t.wk
 | .mk op n ks,k,h=>by
  rw [Tm.sc] at h;rw [Tm.wk];exact ⟨UC h.1,scL_wk ks op 0 k h.2.2⟩
theorem scL_wk:∀(l:List Tm) (op:Int) (i k:Nat),Tm.scL op i l k->Tm.wkL l
 | [],_,_,_,_=>by rw [Tm.wkL];trivial
 | t::l,op,i,k,h=>by
  rw [Tm.scL] at h;rw [Tm.wkL];exact ⟨Fd t _ h.1,scL_wk l op (i+1) k h.2⟩
end
mutual
theorem BF:∀(t:Tm) (d c:Int),(t.shift d c).wt=t.wt
 | .mk op n ks,d,c=>by simp only [Tm.shift,Tm.wt,shiftL_wt ks op 0 d c]
theorem shiftL_wt:∀(l:List Tm) (op:Int) (i:Nat) (d c:Int),Tm.wtL (Tm.shiftL op i l d c)=Tm.wtL l
 | [],_,_,_,_=>rfl
 | t::l,op,i,d,c=>by simp only [Tm.shiftL,Tm.wtL,BF t,shiftL_wt l]
end
mutual
theorem FZ:∀(t:Tm) (d c:Int),(t.shift d c).dp=t.dp
 | .mk op n ks,d,c=>by simp only [Tm.shift,Tm.dp,shiftL_dp ks op 0 d c]
theorem shiftL_dp:∀(l:List Tm) (op:Int) (i:Nat) (d c:Int),Tm.dpL (Tm.shiftL op i l d c)=Tm.dpL l
 | [],_,_,_,_=>rfl
 | t::l,op,i,d,c=>by simp only [Tm.shiftL,Tm.dpL,FZ t,shiftL_dp l]
end
mutual
theorem B3:∀(t:Tm) (d c k:Nat),t.sc k->k+2 * t.wt+d<=9000000000000000000->(t.shift d c).sc (k+d)
 | .mk op n ks,d,c,k,h,hk=>by
  rw [Tm.sc] at h;rw [Tm.wt] at hk;rw [Tm.shift,Tm.sc,EA];refine ⟨h.1,?_,shiftL_sc ks op 0 d c k h.2.2 (by omega)⟩;by_cases h1:op=1
  ·have:=h.2.1
   rw [if_pos h1] at this ⊢;by_cases h2:(c:Int)<=n
   ·rw [if_pos ⟨h1,h2⟩,Av (by omega) (by omega)];omega
   ·rw [if_neg (fun h=>h2 h.2)];omega
  ·have:=h.2.1
   rw [if_neg h1] at this ⊢;rw [if_neg (fun h=>h1 h.1)];exact this
theorem shiftL_sc:∀(l:List Tm) (op:Int) (i:Nat) (d c k:Nat),Tm.scL op i l k->k+2+2 * Tm.wtL l+d<=9000000000000000000->Tm.scL op i (Tm.shiftL op i l d c) (k+d)
 | [],_,_,_,_,_,_,_=>by rw [Tm.shiftL,Tm.scL];trivial
 | t::l,op,i,d,c,k,h,hk=>by
  rw [Tm.scL] at h;simp only [Tm.wtL] at hk;rw [Tm.shiftL,Tm.scL];refine ⟨?_,shiftL_sc l op (i+1) d c k h.2 (by omega)⟩;rw [show k+d+Af op i=(k+Af op i)+d by omega]
  have:=Bj op i
  exact B3 t d (c+Af op i) (k+Af op i) h.1 (by omega)
end
mutual
theorem O3:∀(t u:Tm) (j k:Nat),t.sc (k+1+j)->u.sc k->k+j+2 * t.wt+2 * u.wt<=4000000000000000000->(t.subst j j u).sc (k+j)
 | .mk op n ks,u,j,k,h,hu,hk=>by
  rw [Tm.sc] at h;rw [Tm.wt] at hk;rw [Tm.subst];by_cases h1:op=1
  ·rw [if_pos h1];have h2:=h.2.1;rw [if_pos h1] at h2;by_cases h3:n=j
   ·rw [if_pos h3];exact B3 u j 0 k hu (by omega)
   ·rw [if_neg h3];by_cases h4:(j:Int)<n
    ·rw [if_pos h4,Tm.sc,if_pos rfl,Tm.scL,Av (by omega) (by omega)];exact ⟨rfl,by omega,trivial⟩
    ·rw [if_neg h4,Tm.sc,if_pos h1];have hks:ks=[]:=by
      have:=h.1
      rw [h1] at this;simp [ar] at this;exact List.length_eq_zero_iff.1 this.symm
     subst hks;exact ⟨h.1,by omega,by rw [Tm.scL];trivial⟩
  ·rw [if_neg h1,Tm.sc,if_neg h1,Hy];have h2:=h.2.1;rw [if_neg h1] at h2;exact ⟨h.1,h2,substL_sc ks u op 0 j k h.2.2 hu (by omega)⟩
theorem substL_sc:∀(l:List Tm) (u:Tm) (op:Int) (i j k:Nat),Tm.scL op i l (k+1+j)->u.sc k->k+j+2+2 * Tm.wtL l+2 * u.wt<=4000000000000000000->Tm.scL op i (Tm.substL op i l j j u) (k+j)
 | [],_,_,_,_,_,_,_,_=>by rw [Tm.substL,Tm.scL];trivial
 | t::l,u,op,i,j,k,h,hu,hk=>by
  rw [Tm.scL] at h;simp only [Tm.wtL] at hk;rw [Tm.substL,Tm.scL];refine ⟨?_,substL_sc l u op (i+1) j k h.2 hu (by omega)⟩
  have:=Bj op i
  have h1:=O3 t u (j+Af op i) k (by rw [<- Nat.add_assoc];exact h.1) hu (by omega);rw [Nat.add_assoc];exact h1
end
mutual
theorem Od:∀(t u:Tm) (c d:Int),(t.subst c d u).wt<=t.wt * u.wt
 | .mk op n ks,u,c,d=>by
  have hu:=DV u;rw [Tm.subst];by_cases h1:op=1
  ·rw [if_pos h1];have key:u.wt<=(Tm.mk op n ks).wt * u.wt:=Nat.le_mul_of_pos_left _ (DV _);by_cases h3:n=c
   ·rw [if_pos h3,BF];exact key
   ·rw [if_neg h3];by_cases h4:c<n
    ·rw [if_pos h4];simp only [Tm.wt,Tm.wtL] at key ⊢;omega
    ·rw [if_neg h4];exact Nat.le_mul_of_pos_right _ hu
  ·rw [if_neg h1]
   have:=substL_wt ks u op 0 c d
   simp only [Tm.wt];rw [Nat.add_mul];omega
theorem substL_wt:∀(l:List Tm) (u:Tm) (op:Int) (i:Nat) (c d:Int),Tm.wtL (Tm.substL op i l c d u)<=Tm.wtL l * u.wt
 | [],_,_,_,_,_=>by simp [Tm.substL,Tm.wtL]
 | t::l,u,op,i,c,d=>by
  have h1:=Od t u (c+Af op i) (d+Af op i);have h2:=substL_wt l u op (i+1) c d;simp only [Tm.substL,Tm.wtL];rw [Nat.add_mul];omega
end
mutual
theorem VF:∀(t u:Tm) (c d:Int),(t.subst c d u).dp<=t.dp+u.dp
 | .mk op n ks,u,c,d=>by
  rw [Tm.subst];by_cases h1:op=1
  ·rw [if_pos h1];by_cases h3:n=c
   ·rw [if_pos h3,FZ];omega
   ·rw [if_neg h3];by_cases h4:c<n
    ·rw [if_pos h4];simp only [Tm.dp,Tm.dpL];omega
    ·rw [if_neg h4];omega
  ·rw [if_neg h1]
   have:=substL_dp ks u op 0 c d
   simp only [Tm.dp];omega
theorem substL_dp:∀(l:List Tm) (u:Tm) (op:Int) (i:Nat) (c d:Int),Tm.dpL (Tm.substL op i l c d u)<=Tm.dpL l+u.dp
 | [],_,_,_,_,_=>by simp [Tm.substL,Tm.dpL]
 | t::l,u,op,i,c,d=>by
  have h1:=VF t u (c+Af op i) (d+Af op i);have h2:=substL_dp l u op (i+1) c d;simp only [Tm.substL,Tm.dpL];omega
end
mutual
theorem AqU:∀(t:Tm),t.bd<=2 * t.dp
 | .mk op n ks=>by
  have:=bdL_dp ks op 0
  simp only [Tm.bd,Tm.dp];omega
theorem bdL_dp:∀(l:List Tm) (op:Int) (i:Nat),Tm.bdL op i l<=2+2 * Tm.dpL l
 | [],_,_=>by simp [Tm.bdL]
 | t::l,op,i=>by
  have h1:=AqU t;have h2:=bdL_dp l op (i+1);have h3:=Bj op i;simp only [Tm.bdL,Tm.dpL];omega
end
theorem LV:∀{op:Int} {i j:Nat} {ks:List Tm} {k:Nat} {t:Tm},Tm.scL op i ks k->ks[j]?=some t->t.sc (k+Af op (i+j))
 | op,i,0,x::l,k,t,h,hg=>by
  rw [Tm.scL] at h;simp only [List.getElem?_cons_zero,ABZ] at hg;subst hg;exact h.1
 | op,i,j+1,x::l,k,t,h,hg=>by
  rw [Tm.scL] at h;rw [List.getElem?_cons_succ] at hg
  have:=LV h.2 hg
  rwa [show i+1+j=i+(j+1) by omega] at this
 | _,_,_,[],_,_,_,hg=>by simp at hg
def A9:Tm:=.mk 11 0 []
def fnP (t:Tm):Tm:=match t with
 | .mk _ _ [_,.mk o1 _ [f,.mk o2 n2 _]]=>if o1=5/\o2=1/\n2=0/\f.free 0=false then f.subst 0 0 A9 else t
 | _=>t
def prP (t:Tm):Tm:=match t with
 | .mk _ _ [_,.mk o1 _ [x],.mk o2 _ [y]]=>if o1=8/\o2=9/\x.same y=true then x else t
 | _=>t
theorem At2 {op m:Int} {z b:Tm} (h:b.op≠5):fnP (.mk op m [z,b])=.mk op m [z,b]:=by
 unfold fnP;split
 ·rename_i h1;simp only [Tm.mk.injEq,List.cons.injEq,and_true] at h1;obtain ⟨_,_,_,rfl⟩:=h1;rw [if_neg (fun h2=>h h2.1)]
 ·rfl
theorem KV (k:Nat):A9.sc k:=by
 rw [A9,Tm.sc];exact ⟨by decide,by rw [if_neg (by decide),BJ,if_neg (by decide),if_neg (by decide),if_neg (by decide)],trivial⟩
theorem AjF {op m:Int} {z a b:Tm} (h:¬ (a.op=8/\b.op=9)):prP (.mk op m [z,a,b])=.mk op m [z,a,b]:=by
 unfold prP;split
 ·rename_i h1;simp only [Tm.mk.injEq,List.cons.injEq,and_true] at h1;obtain ⟨_,_,_,rfl,rfl⟩:=h1;rw [if_neg (fun h2=>h ⟨h2.1,h2.2.1⟩)]
 ·rfl
theorem K2 {t:Tm} {k:Nat} {o:Int} {r:Nat} (h:t.sc k) (ho:t.op=o) (hr:ar o=some r):t.kids.length=r:=by
 obtain ⟨op,m,ks⟩:=t;simp only [Tm.op] at ho;subst ho;rw [Tm.sc,hr] at h
 have:=h.1
 simp only [ABZ] at this;exact this.symm
def AhI:List Tm->List Tm
 | []=>[]
 | _::l=>A9::l
mutual
def Tm.eta:Tm->Tm
 | .mk op m ks=>if op=4 then fnP (.mk 4 m (AhI (Tm.etaL ks))) else if op=7 then prP (.mk 7 m (AhI (Tm.etaL ks))) else .mk op m (Tm.etaL ks)
def Tm.etaL:List Tm->List Tm
 | []=>[]
 | t::l=>t.eta::Tm.etaL l
end
theorem OX:∀l:List Tm,(Tm.etaL l).length=l.length
 | []=>rfl
 | _::l=>by simp only [Tm.etaL,AB3,OX l]
theorem Auq {m:Int} {z b:Tm} {k:Nat} (hz:z.sc k) (hb:b.sc (k+1)) (hm:m=0) (hw:k+2 * b.wt<=1000000000):(fnP (.mk 4 m [z,b])).sc k/\(fnP (.mk 4 m [z,b])).wt<=1+z.wt+b.wt:=by
 have h0:(Tm.mk 4 m [z,b]).sc k:=by
  rw [Tm.sc];refine ⟨rfl,?_,hz,hb,trivial⟩;rw [if_neg (by decide),BJ,if_neg (by decide),if_neg (by decide),if_neg (by decide)];exact hm
 have h1:(Tm.mk 4 m [z,b]).wt=1+z.wt+b.wt:=by simp only [Tm.wt,Tm.wtL];omega
 unfold fnP;split
 ·rename_i o1 n1 f o2 n2 k2 heq;simp only [Tm.mk.injEq,List.cons.injEq,and_true] at heq;obtain ⟨_,_,rfl,rfl⟩:=heq;split
  ·rename_i hc;obtain ⟨rfl,_,_,_⟩:=hc;rw [Tm.sc] at hb;have hf:f.sc (k+1):=by
    have:=hb.2.2
    rw [Tm.scL] at this;exact this.1
   simp only [Tm.wt,Tm.wtL] at hw h1 ⊢;have hs:=O3 f A9 0 k hf (KV k) (by simp only [A9,Tm.wt,Tm.wtL];omega);have hwt:=Od f A9 0 0;have hz1:A9.wt=1:=rfl;rw [hz1,Nat.mul_one] at hwt;exact ⟨hs,by omega⟩
  ·exact ⟨h0,by rw [h1];exact Nat.le_refl _⟩
 ·exact ⟨h0,by rw [h1];exact Nat.le_refl _⟩
theorem Asd {m:Int} {z a b:Tm} {k:Nat} (hz:z.sc k) (ha:a.sc k) (hb:b.sc k) (hm:m=0):(prP (.mk 7 m [z,a,b])).sc k/\(prP (.mk 7 m [z,a,b])).wt<=1+z.wt+a.wt+b.wt:=by
 have h0:(Tm.mk 7 m [z,a,b]).sc k:=by
  rw [Tm.sc];refine ⟨rfl,?_,hz,ha,hb,trivial⟩;rw [if_neg (by decide),BJ,if_neg (by decide),if_neg (by decide),if_neg (by decide)];exact hm
 have h1:(Tm.mk 7 m [z,a,b]).wt=1+z.wt+a.wt+b.wt:=by simp only [Tm.wt,Tm.wtL];omega
 unfold prP;split
 ·rename_i o1 n1 x o2 n2 y heq;simp only [Tm.mk.injEq,List.cons.injEq,and_true] at heq;obtain ⟨_,_,rfl,rfl,rfl⟩:=heq;split
  ·rename_i hc;obtain ⟨rfl,_,_⟩:=hc;rw [Tm.sc] at ha;have hf:x.sc k:=by
    have:=ha.2.2
    rw [Tm.scL] at this;exact this.1
   simp only [Tm.wt,Tm.wtL] at h1 ⊢;exact ⟨hf,by omega⟩
  ·exact ⟨h0,by rw [h1];exact Nat.le_refl _⟩
 ·exact ⟨h0,by rw [h1];exact Nat.le_refl _⟩
mutual
theorem AkG:∀(t:Tm) (k:Nat),t.sc k->k+2 * t.wt<=1000000000->t.eta.sc k/\t.eta.wt<=t.wt
 | .mk op m ks,k,h,hw=>by
  rw [Tm.sc] at h;rw [Tm.wt] at hw;have hl:=etaL_sc op 0 ks k h.2.2 (by omega);have hll:=OX ks;rw [Tm.eta];by_cases h4:op=4
  ·subst h4;rw [if_pos rfl];have h9:ar 4=some 2:=by decide
   rw [h9,if_neg (by decide),BJ,if_neg (by decide),if_neg (by decide),if_neg (by decide)] at h
   match ks,h,hl,hw with
   | [a,b],h,hl,hw =>
    simp only [Tm.etaL,AhI];simp only [Tm.etaL,Tm.scL,Tm.wtL] at hl;simp only [Tm.wtL] at hw;have hb1:Af 4 1=1:=by decide
    have hr:=Auq (m:=m) (z:=A9) (b:=b.eta) (k:=k) (KV k) (by have:=hl.1.2.1;rwa [hb1] at this) h.2.1 (by omega);have hz1:A9.wt=1:=rfl;have hp:=DV a;have hp2:=DV a.eta;rw [hz1] at hr;simp only [Tm.wt,Tm.wtL];exact ⟨hr.1,by omega⟩
   | [],h,_,_=>simp at h
   | [_],h,_,_=>simp at h
   | _::_::_::_,h,_,_=>simp at h
  ·rw [if_neg h4];by_cases h7:op=7
   ·subst h7;rw [if_pos rfl];have h9:ar 7=some 3:=by decide
    rw [h9,if_neg (by decide),BJ,if_neg (by decide),if_neg (by decide),if_neg (by decide)] at h
    match ks,h,hl,hw with
    | [a,b,c],h,hl,hw =>
     simp only [Tm.etaL,AhI];simp only [Tm.etaL,Tm.scL,Tm.wtL] at hl;simp only [Tm.wtL] at hw;have hb1:Af 7 1=0:=by decide
     have hb2:Af 7 2=0:=by decide
     have hr:=Asd (m:=m) (z:=A9) (a:=b.eta) (b:=c.eta) (k:=k) (KV k) (by have:=hl.1.2.1;rwa [hb1] at this) (by have:=hl.1.2.2.1;rwa [hb2] at this) h.2.1;have hz1:A9.wt=1:=rfl;have hp:=DV a;have hp2:=DV a.eta;rw [hz1] at hr;simp only [Tm.wt,Tm.wtL];exact ⟨hr.1,by omega⟩
    | [],h,_,_=>simp at h
    | [_],h,_,_=>simp at h
    | [_,_],h,_,_=>simp at h
    | _::_::_::_::_,h,_,_=>simp at h
   ·rw [if_neg h7,Tm.sc];refine ⟨⟨by rw [hll];exact h.1,h.2.1,hl.1⟩,?_⟩;simp only [Tm.wt];omega
theorem etaL_sc:∀(op:Int) (i:Nat) (l:List Tm) (k:Nat),Tm.scL op i l k->k+2+2 * Tm.wtL l<=1000000000->Tm.scL op i (Tm.etaL l) k/\Tm.wtL (Tm.etaL l)<=Tm.wtL l
 | _,_,[],_,_,_=>by simp only [Tm.etaL,Tm.scL,true_and];exact Nat.le_refl _
 | op,i,t::l,k,h,hw=>by
  rw [Tm.scL] at h;rw [Tm.wtL] at hw;have hb:=Bj op i;have h1:=AkG t (k+Af op i) h.1 (by omega);have h2:=etaL_sc op (i+1) l k h.2 (by omega);rw [Tm.etaL,Tm.scL,Tm.wtL,Tm.wtL];exact ⟨⟨h1.1,h2.1⟩,by omega⟩
end
end Idl
end Go.Proofs.Ytkfecngimlcfoaa

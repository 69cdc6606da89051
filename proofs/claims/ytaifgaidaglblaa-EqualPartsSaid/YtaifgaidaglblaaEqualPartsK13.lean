/-
  Texts of a proof, part 13: an ideal semantics of the program, its functions in shallow form, contracts of them. No statement of the seat is proved here.
-/
import Derived.Test.YtaifgaidaglblaaEqualPartsK12
set_option linter.all false
noncomputable section
namespace Go.Proofs.Ytaifgaidaglblaa
namespace Idl
theorem ixg {β:Type} {l:List FV} {i:Nat} {x:FV} (h:l[i]?=some x) (hx:x.cells=[x]) (k:IV→Option β):A8 1 (.fv (.sl l)) (iv i) k=k (.fv (.fp [x] 0)):=by
 rw [Bq h (by rw [hx];rfl),hx]
section
variable {β:Type} (a b c:FV) (l:List FV) (cs:List FV) (o:Nat) (v:PV) (k:IV→Option β)
theorem AtD:A8 1 (.fv (.sl (.fp cs o::l))) (iv 0) k=k (.fv (.fp [.fp cs o] 0)):=ixg (i:=0) rfl rfl k
theorem Aul:A8 1 (.fv (.sl (v.enc::l))) (iv 0) k=k (.fv (.fp [v.enc] 0)):=ixg (i:=0) rfl (Ei v) k
theorem Auf:A8 1 (.fv (.sl (a :: .fp cs o::l))) (iv 1) k=k (.fv (.fp [.fp cs o] 0)):=ixg (i:=1) rfl rfl k
theorem Auv:A8 1 (.fv (.sl (a::v.enc::l))) (iv 1) k=k (.fv (.fp [v.enc] 0)):=ixg (i:=1) rfl (Ei v) k
theorem AtM:A8 1 (.fv (.sl (a::b :: .fp cs o::l))) (iv 2) k=k (.fv (.fp [.fp cs o] 0)):=ixg (i:=2) rfl rfl k
theorem Att:A8 1 (.fv (.sl (a::b::v.enc::l))) (iv 2) k=k (.fv (.fp [v.enc] 0)):=ixg (i:=2) rfl (Ei v) k
theorem Auk:A8 1 (.fv (.sl (a::b::c :: .fp cs o::l))) (iv 3) k=k (.fv (.fp [.fp cs o] 0)):=ixg (i:=3) rfl rfl k
theorem AtA:A8 1 (.fv (.sl (a::b::c::v.enc::l))) (iv 3) k=k (.fv (.fp [v.enc] 0)):=ixg (i:=3) rfl (Ei v) k
end
def XI:=AwV @AtD<|AwV @Auf<|AwV @AtM<|AwV @Auk<|AwV @Aul<|AwV @Auv<|AwV @Att @AtA
theorem Asz {β:Type} (o p:Nat) (cs:List FV) (k:IV→Option β):Ac o (.fv (.fp cs p)) k=k (.fv (.fp cs (p+o))):=by rw [Qy]
theorem AnZ (s:Nat) (b:Blk) (l:List (Nat×Blk)):Ap s ((s,b)::l)=some b:=by simp only [Ap,if_true]
theorem AkV {f:Nat} (he:Alg f):Agr (f+1):=by
 intro v u i l m m' hev r n hn;obtain ⟨n,rfl⟩:∃k,n=k+1:=⟨n - 1,by omega⟩;rw [c81];cases v with
 | nil=>rw [opP] at hev;cases hev
 | mk op nn k t e =>
 obtain ⟨bo,bn,bk⟩:=t;rw [opP] at hev;split at hev
 ·cases hev
 ·rename_i hf;cases hb:bk[i]? with
  | none=>rw [hb] at hev;cases hev
  | some b =>
   rw [hb] at hev;simp only at hev;have hw:=An2 (n:=n) e l (by omega) (by omega);have hc:=he _ _ _ _ _ hev r n (by omega);rw [AZ];obtain ⟨b1,b2,b3⟩:=b;have hg:=AP hb;rw [Ai] at hc;simp only [Agl,AiH,S81,↓XX,XY,↓reduceIte,Nat.reduceBEq,Nat.reduceAdd,Int.reduceEq,Int.reduceLT,Int.reduceLE,↓Ag hw,↓Bq hg (Ba _ _ _),↓Ce,↓Asz,↓Agu _ _ hc];exact AM _ _ _
theorem U6 {n:Nat} (hn:0<n) (op nn:Int) (o0 n0:Int) (k0:List PV) (t0:Tm) (e0:List PV) (t:Tm) (e:List PV) (want:Int) (hk:o0=want→∃x,k0=[x]) :
  Bl (SS dt n 84 [.fv (PV.mk op nn [.mk o0 n0 k0 t0 e0] t e).enc,iv want] ⟨[],[]⟩) (if o0=want then k0.headD .nil else .nil).enc:=by
 obtain ⟨n,rfl⟩:∃k,n=k+1:=⟨n - 1,by omega⟩;rw [c84];obtain ⟨bo,bn,bk⟩:=t;obtain ⟨co,cn,ck⟩:=t0;rw [AZ,Aw2,Aw1,AZ];by_cases h:o0=want
 ·obtain ⟨x,rfl⟩:=hk h;rw [if_pos h];simp only [WT,V8,Wl,S84,↓XX,XY,↓reduceIte,Nat.reduceBEq,Nat.reduceAdd,Int.reduceEq,Int.reduceLT,Int.reduceLE,↓XI,h,List.headD_cons];exact Ao _ _
 ·rw [if_neg h,G5];simp only [WT,V8,Wl,S84,↓XX,XY,↓reduceIte,Nat.reduceBEq,Nat.reduceAdd,Int.reduceEq,Int.reduceLT,Int.reduceLE,↓XI,h];exact Ao _ _
theorem Aj4 {f:Nat} (hc:Akx f) (ho:Agr f):Am7 (f+1):=by
 intro v u m m' hr hev r n hn;obtain ⟨n,rfl⟩:∃k,n=k+1:=⟨n - 1,by omega⟩;cases v with
 | nil=>rw [stP] at hev;cases hev
 | mk op nn k t e =>
 obtain ⟨bo,bn,bk⟩:=t;rw [stP.eq_def] at hev;simp only at hev;simp only [PV.op] at hr ⊢;by_cases h5:op=5
 ·subst h5;rw [if_pos rfl] at hev;rw [show Jx 5=72 from rfl,c72]
  match k,hev with
  | [.mk o0 n0 k0 t0 e0,x],hev =>
   simp only at hev;obtain ⟨co,cn,ck⟩:=t0;by_cases h4:o0=4
   ·subst h4;rw [if_pos rfl] at hev;have hq:=ho _ _ _ _ _ _ hev r n (by omega);rw [AZ] at hq ⊢;simp only [Aw2,Aw1,AZ] at hq ⊢;simp only [Xt,Ww,Wc,S72,↓XX,XY,↓reduceIte,Nat.reduceBEq,Nat.reduceAdd,Int.reduceEq,Int.reduceLT,Int.reduceLE,↓XI,↓Asc,↓SL _ _ hq];exact AM _ _ _
   ·rw [if_neg h4] at hev;simp only [AwW,AwX] at hev;obtain ⟨rfl,rfl⟩:=hev;rw [AZ];simp only [Aw2,Aw1,AZ,G5];simp only [Xt,Ww,Wc,S72,↓XX,XY,↓reduceIte,Nat.reduceBEq,Nat.reduceAdd,Int.reduceEq,Int.reduceLT,Int.reduceLE,↓XI,h4];exact AM _ _ _
 ·rw [if_neg h5] at hev;by_cases h8:op=8∨op=9
  ·rw [if_pos h8] at hev;rw [show Jx op=73 by rcases h8 with rfl | rfl<;>rfl,c73]
   match k,hev with
   | [.mk o0 n0 k0 t0 e0],hev =>
    simp only at hev;obtain ⟨co,cn,ck⟩:=t0;by_cases h7:o0=7
    ·subst h7;rw [if_pos rfl] at hev
     match k0,hev with
     | [w,x,y],hev =>
      simp only [AwW,AwX] at hev;obtain ⟨rfl,rfl⟩:=hev;rw [AZ];simp only [Aw2,Aw1,AZ];rcases h8 with rfl | rfl
      ·simp only [Rw,TA,Tz,Si,S73,↓XX,XY,↓reduceIte,Nat.reduceBEq,Nat.reduceAdd,Int.reduceEq,Int.reduceLT,Int.reduceLE,↓XI];exact AM _ _ _
      ·simp only [Rw,TA,Tz,Si,S73,↓XX,XY,↓reduceIte,Nat.reduceBEq,Nat.reduceAdd,Int.reduceEq,Int.reduceLT,Int.reduceLE,↓XI];exact AM _ _ _
    ·rw [if_neg h7] at hev;simp only [AwW,AwX] at hev;obtain ⟨rfl,rfl⟩:=hev;rw [AZ];simp only [Aw2,Aw1,AZ,G5];simp only [Rw,TA,Tz,Si,S73,↓XX,XY,↓reduceIte,Nat.reduceBEq,Nat.reduceAdd,Int.reduceEq,Int.reduceLT,Int.reduceLE,↓XI,h7];exact AM _ _ _
  ·rw [if_neg h8] at hev;by_cases h13:op=13
   ·subst h13;rw [if_pos rfl] at hev;rw [show Jx 13=74 from rfl,c74]
    match k,hev with
    | [p0,z,p2,.mk o3 n3 k3 t3 e3],hev =>
     simp only at hev;obtain ⟨co,cn,ck⟩:=t3;by_cases h11:o3=11
     ·subst h11;rw [if_pos rfl] at hev;simp only [AwW,AwX] at hev;obtain ⟨rfl,rfl⟩:=hev;rw [AZ];simp only [Aw2,Aw1,AZ];simp only [SV,S9,Sy,Tu,Tp,Q8,RC,Ti,Sg,T5,S74,↓XX,XY,↓reduceIte,Nat.reduceBEq,Nat.reduceAdd,Int.reduceEq,Int.reduceLT,Int.reduceLE,↓XI];exact AM _ _ _
     ·rw [if_neg h11] at hev;by_cases h12:o3=12
      ·subst h12;rw [if_pos rfl] at hev
       match k3,hev with
       | [x],hev =>
        simp only at hev;cases hcc:ctP f (.mk 13 nn [.nil,z,.nil,x] (.mk bo bn bk) e) m with
        | none=>rw [hcc] at hev;cases hev
        | some q =>
         obtain ⟨h,m1⟩:=q;rw [hcc] at hev;have hq1:=hc _ _ _ _ hcc r n (by omega);have hq2:=ho _ _ _ _ _ _ hev r n (by omega);rw [AZ] at hq1 hq2 ⊢;simp only [Aw2,Aw1,AZ,G5] at hq1 hq2 ⊢;simp only [SV,S9,Sy,Tu,Tp,Q8,RC,Ti,Sg,T5,S74,↓XX,XY,↓reduceIte,Nat.reduceBEq,Nat.reduceAdd,Int.reduceEq,Int.reduceLT,Int.reduceLE,↓XI,↓AsB,↓As1];rw [Akv hq1 (s0:=77600771) (AnZ ..) rfl (by simp)];simp only [↓XX,XY,↓reduceIte,Nat.reduceBEq,Nat.reduceAdd,Int.reduceEq,Int.reduceLT,Int.reduceLE,↓Ar3,↓SL _ _ hq2];exact AM _ _ _
      ·rw [if_neg h12] at hev;simp only [AwW,AwX] at hev;obtain ⟨rfl,rfl⟩:=hev;rw [AZ];simp only [Aw2,Aw1,AZ,G5];simp only [SV,S9,Sy,Tu,Tp,Q8,RC,Ti,Sg,T5,S74,↓XX,XY,↓reduceIte,Nat.reduceBEq,Nat.reduceAdd,Int.reduceEq,Int.reduceLT,Int.reduceLE,↓XI,h11,h12];exact AM _ _ _
   ·rw [if_neg h13] at hev
    match k,hev with
    | [.mk o0 n0 k0 t0 e0],hev =>
     simp only at hev;have h30:op=30∨op=19:=by
      simp only [CO,Bool.or_eq_true,beq_iff_eq] at hr;omega
     have hu:((o0=(if op=30 then 19 else 30)→∃x,k0=[x])∧(if o0=(if op=30 then 19 else 30) then k0.headD .nil else .nil)=u∧m=m'):=by
      by_cases ho0:o0=(if op=30 then 19 else 30)
      ·rw [if_pos ho0] at hev
       match k0,hev with
       | [x],hev =>
        simp only [AwW,AwX] at hev;obtain ⟨rfl,rfl⟩:=hev;exact ⟨fun _=>⟨_,rfl⟩,by rw [if_pos ho0];rfl,rfl⟩
      ·rw [if_neg ho0] at hev;simp only [AwW,AwX] at hev;obtain ⟨rfl,rfl⟩:=hev;exact ⟨fun h=>absurd h ho0,by rw [if_neg ho0],rfl⟩
     obtain ⟨hu1,rfl,rfl⟩:=hu;rcases h30 with rfl | rfl
     ·rw [show Jx 30=75 from rfl,c75]
      rw [show (if (30:Int)=30 then (19:Int) else 30)=19 from rfl] at hu1 ⊢
      have hw:=U6 (n:=n) (by omega) 30 nn o0 n0 k0 t0 e0 (.mk bo bn bk) e 19 hu1;simp only [S75,↓XX,XY,↓reduceIte,Nat.reduceBEq,Nat.reduceAdd,Int.reduceEq,Int.reduceLT,Int.reduceLE,↓Ag hw];exact AM _ _ _
     ·rw [show Jx 19=76 from rfl,c76]
      rw [show (if (19:Int)=30 then (19:Int) else 30)=30 from rfl] at hu1 ⊢
      have hw:=U6 (n:=n) (by omega) 19 nn o0 n0 k0 t0 e0 (.mk bo bn bk) e 30 hu1;simp only [S76,↓XX,XY,↓reduceIte,Nat.reduceBEq,Nat.reduceAdd,Int.reduceEq,Int.reduceLT,Int.reduceLE,↓Ag hw];exact AM _ _ _
end Idl
end Go.Proofs.Ytaifgaidaglblaa
namespace Go.Proofs.Ytaifgaidaglblaa
namespace Idl
theorem Aly (ih:Aa) (xs:List IV) (h0:Hp) (k:IV→Hp→List Ref→List Ref→Option (IV×Hp)):Ed EE ih (.fv (.func (.func 85) [] [])) xs h0 k=Al [] false false ih 85 xs h0 k :=
 Agc (by kernel_rfl) (by kernel_rfl) (by kernel_rfl) (by kernel_rfl) ..
theorem Afe {n:Nat} (hn:0<n) (op:Int) (i:Nat):Bl (SS dt n 85 [iv op,iv i] ⟨[],[]⟩) (.int .i64 (Ae op i)):=by
 obtain ⟨n,rfl⟩:∃k,n=k+1:=⟨n - 1,by omega⟩;rw [c85];unfold Ae;by_cases h:op=3∨op=4∨op=6∨op=20∨op=28∨op=29
 ·rw [if_pos h];by_cases hi:i=1
  ·subst hi;rcases h with rfl | rfl | rfl | rfl | rfl | rfl<;>(simp only [↓Afo,↓XX,XY,↓reduceIte,Nat.reduceBEq,Nat.reduceAdd,Int.reduceEq,Int.reduceLT,Int.reduceLE];exact Ao _ _)
  ·have hi':¬ (i:Int)=1:=by omega
   rcases h with rfl | rfl | rfl | rfl | rfl | rfl<;>(simp only [↓Afo,↓XX,XY,↓reduceIte,Nat.reduceBEq,Nat.reduceAdd,Int.reduceEq,Int.reduceLT,Int.reduceLE,hi',hi];exact Ao _ _)
 ·rw [if_neg h];have h3:¬ op=3:=fun e=>h (by simp [e]);have h4:¬ op=4:=fun e=>h (by simp [e]);have h6:¬ op=6:=fun e=>h (by simp [e]);have h20:¬ op=20:=fun e=>h (by simp [e]);have h28:¬ op=28:=fun e=>h (by simp [e]);have h29:¬ op=29:=fun e=>h (by simp [e]);by_cases h13:op=13
  ·subst h13;by_cases h0:i=0
   ·subst h0;simp only [↓Afo,↓XX,XY,↓reduceIte,Nat.reduceBEq,Nat.reduceAdd,Int.reduceEq,Int.reduceLT,Int.reduceLE];exact Ao _ _
   ·have h0':¬ (i:Int)=0:=by omega
    by_cases h2:i=2
    ·subst h2;simp only [↓Afo,↓XX,XY,↓reduceIte,Nat.reduceBEq,Nat.reduceAdd,Int.reduceEq,Int.reduceLT,Int.reduceLE];exact Ao _ _
    ·have h2':¬ (i:Int)=2:=by omega
     simp only [↓Afo,↓XX,XY,↓reduceIte,Nat.reduceBEq,Nat.reduceAdd,Int.reduceEq,Int.reduceLT,Int.reduceLE,h0,h0',h2,h2'];exact Ao _ _
  ·simp only [↓Afo,↓XX,XY,↓reduceIte,Nat.reduceBEq,Nat.reduceAdd,Int.reduceEq,Int.reduceLT,Int.reduceLE,h3,h4,h6,h20,h28,h29,h13];exact Ao _ _
theorem LZ {n:Nat} (hn:1<n) (op:Int) (i:Nat):Bl (SS dt n 79 [iv op,iv i] ⟨[],[]⟩) (.int .i64 (Ae op i)):=by
 obtain ⟨n,rfl⟩:∃k,n=k+1:=⟨n - 1,by omega⟩;rw [c79];have h:=Afe (n:=n) (by omega) op i;simp only [S79,↓XX,XY,↓reduceIte,Nat.reduceBEq,Nat.reduceAdd,Int.reduceEq,Int.reduceLT,Int.reduceLE,↓Aly,↓Ag h];exact Ao _ _
theorem AgV {β:Type}:∀(l:List IV) (i:Nat) (x:IV) (k:List IV→Option β),i<l.length→GQ l i x k=k (l.set i x)
 | [],i,x,k,h=>absurd h (by simp)
 | y::l,0,x,k,_=>rfl
 | y::l,i+1,x,k,h=>by
  show GQ l i x (fun t=>k (y::t))=_
  rw [AgV l i x _ (by simpa using h)];rfl
def nils (n:Nat):List PV:=List.replicate n .nil
theorem Ak9 (n:Nat):PU n [IV.fv .nilp]=((nils n).map PV.enc).map IV.fv:=by
 induction n with
 | zero=>rfl
 | succ n ih=>rw [PU,ih];rfl
theorem Aog {n:Nat} (hn:n≤1000) (s:Nat) (own:List (Nat×Blk)) (ext:List Blk) (k:IV→Hp→List Ref→List Ref→Option (IV×Hp)) :
  Az (Bn EE s 110 (iv n) (iv n)) s ⟨own,ext⟩ k=CT own s (A2 own s (.row (((nils n).map PV.enc).map IV.fv) false) fun own=>k (.slc (.own s) 1 n) ⟨own,ext⟩ [] [.own s]):=by
 have:Bn EE s 110 (iv n) (iv n)=.ret { eff:={ val:=.slc (.own s) 1 n },new:=some (.row (((nils n).map PV.enc).map IV.fv) false) }:=by
  simp only [Bn,tPs,tPp,WP];rw [if_pos ⟨by omega,by omega,by omega,by decide,by decide⟩,Int.toNat_natCast,Ak9]
 rw [this];unfold Az;simp only [Rd.runLog,J3,C6,CD];rfl
theorem Aoz (v:PV):IV.one (.fv v.enc)=true:=by
 cases v with
 | nil=>rfl
 | mk op n k t e=>obtain ⟨bo,bn,bk⟩:=t;rw [AZ];rfl
theorem AmV {β:Type} {n i:Nat} (h:i<n) (r:Ref) (k:IV→Option β):A8 1 (.slc r 1 n) (iv i) k=k (.ptr r i):=by
 have e1:Nat.ble (Nat.succ i) n=true:=by rw [Bb];exact decide_eq_true h
 show (Afu (iv i) fun n'=>cond (and (Nat.ble (Nat.succ n') n) (Nat.beq 1 1)) (Ec (n' * 1) fun o=>k (.ptr r o)) none)=_
 show (cond (and (Nat.ble (Nat.succ i) n) (Nat.beq 1 1)) (Ec (i * 1) fun o=>k (.ptr r o)) none)=_
 rw [e1];simp only [BW,Nat.mul_one];rfl
theorem AmH {done:List PV} {r:Nat} {β:Type} (v:PV) (k:List IV→Option β):GQ (((done++nils (r+1)).map PV.enc).map IV.fv) done.length (.fv v.enc) k=k ((((done++[v])++nils r).map PV.enc).map IV.fv):=by
 rw [AgV _ _ _ _ (by simp [nils])];congr 1;simp only [nils,List.replicate_succ,List.map_append,Aw2,List.append_assoc,List.cons_append,List.nil_append,Aw1];rw [List.set_append_right _ _ (by simp)];simp
abbrev Hev (op m:Int) (ks:List Tm) (env kk:List PV) (ro:Bool) (s w r e:Int):Hp :=
 ⟨[(68157440,.row [iv op,iv m,.fv (.sl (ks.map Tm.enc))] false),(68161543,.row ((kk.map PV.enc).map .fv) ro),(68161547,.row [iv op,iv m,.slc (.own 68161543) 1 ks.length,iv op,iv m,.fv (.sl (ks.map Tm.enc)),.fv (PV.encEnv env)] ro)],MX s w r e⟩
theorem Gz {base rm:List Nat} {vals:List IV} {own:List (Nat×Blk)} {s w r e:Int} (hb:rm.any base.contains=false) (hf:AN rm vals own []=true) (k:Hp→Option (IV×Hp)) :
  Bf base rm vals ⟨own,MX s w r e⟩ k=k ⟨JA rm vals own [],MX s w r e⟩:=Apm (fun j=>AlV s w r e j) hb hf k
theorem AiS {op m:Int} {ks:List Tm} {env kk:List PV} {s w r e:Int} (hl:kk.length=ks.length) (h3:ks.length≤300):Bx (some (.ptr (.own 68161547) 0,Hev op m ks env kk false s w r e)) (PV.mk op m kk (.mk op m ks) env).enc (MX s w r e):=by
 rw [AZ];have hl':ks.length=(kk.map PV.enc).length:=by simp [hl]
 have:=fun (e0:Option (IV×Hp)) (K:FV→List (Ref×Blk)→List Ref→Option (IV×Hp))=>As6 (s:=68161547) (s2:=68161543) (own:=(Hev op m ks env kk false s w r e).own) (ext:=MX s w r e) (es:=kk.map PV.enc) (ro:=false) (ro2:=false) (a:=.int .i64 op) (b:=.int .i64 m) (c:=.int .i64 op) (d:=.int .i64 m) (t:=.sl (ks.map Tm.enc)) (x:=PV.encEnv env)
  (by rw [← hl'];rfl) (by rfl) (by simp [hl];omega) (by simp only [List.mem_map];rintro x ⟨v,_,rfl⟩;exact PI v) [] e0 K
 exact ⟨_,_,rfl,_,_,this⟩
theorem S0 {ev:Tm→M3→Option (PV×M3)} {op:Int}:∀{i:Nat} {l:List Tm} {m:M3} {vs:List PV} {m':M3},SR ev op i l m=some (vs,m')→vs.length=l.length
 | _,[],m,vs,m',h=>by simp only [SR,AwW,AwX] at h;rw [← h.1];rfl
 | i,t::l,m,vs,m',h=>by
  rw [SR] at h;split at h
  ·cases hk:SR ev op (i+1) l m with
   | none=>rw [hk] at h;cases h
   | some q =>
    rw [hk] at h;simp only [AwZ,AwW,AwX] at h;rw [← h.1,Aw0,Aw0,S0 (vs:=q.1) (m':=q.2) hk]
  ·split at h
   ·cases h
   ·rename_i v m2 _;cases hk:SR ev op (i+1) l m2 with
    | none=>rw [hk] at h;cases h
    | some q =>
     rw [hk] at h;simp only [AwZ,AwW,AwX] at h;rw [← h.1,Aw0,Aw0,S0 (vs:=q.1) (m':=q.2) hk]
set_option maxRecDepth 20000 in
set_option maxHeartbeats 1000000 in
theorem AlM {f:Nat} (he:Alg f) (hc:Akx f):Alg (f+1):=by
 intro env t m0 m' v hev r n hn;obtain ⟨n,rfl⟩:∃k,n=k+1:=⟨n - 1,by omega⟩;rw [c65];obtain ⟨op,m,ks⟩:=t;rw [Ai];rw [SC] at hev;cases ht:HN m0 with
 | none=>rw [ht] at hev;cases hev
 | some m1 =>
 rw [ht] at hev;simp only at hev;have hc1:=Rg ht r (n:=n) (by omega);by_cases h1:op=1
 ·rw [if_pos h1] at hev;split at hev
  ·rename_i hv;simp only [AwW,AwX] at hev;obtain ⟨rfl,rfl⟩:=hev;have hvar:=WL (n:=n) env m hv.1 hv.2.1 (by omega);simp only [↓AhH,↓XX,XY,↓reduceIte,Nat.reduceBEq,Nat.reduceAdd,Int.reduceEq,Int.reduceLT,Int.reduceLE,↓FY _ _ hc1,h1,↓Ag hvar];exact AM _ _ _
  ·cases hev
 ·rw [if_neg h1] at hev;split at hev
  ·cases hev
  rename_i hb;have hk3:ks.length≤300:=by omega
  by_cases h2:m1.e≠0
  ·rw [if_pos h2] at hev;simp only [AwW,AwX] at hev;obtain ⟨rfl,rfl⟩:=hev;simp only [NJ,NP,N6,NL,Nz,NC,NB,NA,NR,NE,NW,Nv,NY,NI,S65,↓XX,XY,↓reduceIte,Nat.reduceBEq,Nat.reduceAdd,Int.reduceEq,Int.reduceLT,Int.reduceLE,↓FY _ _ hc1,h1,h2,↓Aog (show ks.length≤1000 by omega),↓AgY]
   exact AiS (kk:=nils ks.length) (by simp [nils]) hk3
  ·rw [if_neg h2] at hev;have h2:m1.e=0:=by simpa using h2
   ·
    cases hkk:SR (fun t m=>SC f env t m) op 0 ks m1 with
    | none=>rw [hkk] at hev;cases hev
    | some q =>
    obtain ⟨vs,m2⟩:=q;rw [hkk] at hev;simp only at hev;simp only [h2] at hc1;simp only [NJ,NP,N6,NL,Nz,NC,NB,NA,NR,NE,NW,Nv,NY,NI,S65,↓XX,XY,↓reduceIte,Nat.reduceBEq,Nat.reduceAdd,Int.reduceEq,Int.reduceLT,Int.reduceLE,↓FY _ _ hc1,h1,h2,↓Aog (show ks.length≤1000 by omega),↓AgY,↓Gz,↓AC,XD,heldB,AN,XE,Fq,D0]
    have hlen:=S0 hkk;refine A7 (Q:=fun r=>Bx r _ _) (fun k V H=>∃(pre rest:List Tm) (done:List PV) (m3:M3) (us:List PV),ks=pre++rest∧rest.length=k∧done.length=pre.length ∧
      V=[.ptr (.ext 0) 0,.fv (PV.encEnv env),.ptr (.own 68157440) 0,.ptr (.own 68161547) 0,.fv (.sl (ks.map Tm.enc)),iv ks.length,iv pre.length] ∧
      H=Hev op m ks env (done++nils rest.length) false m3.s m3.w r m3.e ∧
      SR (fun t m=>SC f env t m) op pre.length rest m3=some (us,m2)∧done++us=vs)
     ?_ n ks.length _ _ (by omega) ⟨[],ks,[],m1,vs,rfl,rfl,rfl,rfl,by rw [h2];rfl,hkk,rfl⟩
    rintro k V H rec ⟨pre,rest,done,m3,us,hk,hl,hdl,rfl,rfl,hkids,hvs⟩ hrec;have hkl:ks.length=pre.length+rest.length:=by rw [hk];simp
    cases rest with
    | nil =>
     simp only [SR,AwW,AwX] at hkids;obtain ⟨rfl,rfl⟩:=hkids;rw [List.append_nil] at hvs;subst hvs;have hno:¬ ((pre.length:Int)<ks.length):=by rw [hkl];simp
     have hz:done++nils ([]:List Tm).length=done:=by simp [nils]
     rw [hz];by_cases h4:m3.e≠0
     ·rw [if_pos h4] at hev;simp only [AwW,AwX] at hev;obtain ⟨rfl,rfl⟩:=hev;simp only [↓AhH,↓XX,XY,↓reduceIte,Nat.reduceBEq,Nat.reduceAdd,Int.reduceEq,Int.reduceLT,Int.reduceLE,hno,h4];exact AiS hlen hk3
     ·rw [if_neg h4] at hev;have h4:m3.e=0:=by simpa using h4
      have hcc:=hc _ _ _ _ hev r n (by omega);rw [AZ] at hcc;simp only [h4] at hcc;have hlm:(done.map PV.enc).length=ks.length:=by simp [hlen]
      simp only [↓AhH,↓XX,XY,↓reduceIte,Nat.reduceBEq,Nat.reduceAdd,Int.reduceEq,Int.reduceLT,Int.reduceLE,hno,h4];rw [AkK hcc (s0:=68161547) (s2:=68161543) (own':=(Hev op m ks env done true m3.s m3.w r 0).own) (by rfl) (by rfl) hlm (by decide) (by omega) (by simp only [List.mem_map];rintro x ⟨v,_,rfl⟩;exact PI v) (by rfl)];exact AM _ _ _
    | cons x rest =>
     have hi:(pre.length:Int)<ks.length:=by rw [hkl];simp;omega
     have hg:=Cg hk;have hb:=LZ (n:=n) (by omega) op pre.length;have hwi:BI ((pre.length:Int)+1)=((pre++[x]).length:Int):=(Av (by omega) (by omega)).trans (by simp);simp only [SR] at hkids;simp only [Aw0] at hl;by_cases hbn:0<Ae op pre.length
     ·rw [if_pos hbn] at hkids;have hbn':¬ ((Ae op pre.length:Nat):Int)=0:=by omega
      obtain ⟨o,p,l⟩:=x;simp only [↓AhH,↓XX,XY,↓reduceIte,Nat.reduceBEq,Nat.reduceAdd,Int.reduceEq,Int.reduceLT,Int.reduceLE,hi,↓Bq (AP hg) (Ba _ _ _),↓Ce,↓Ag hb,hbn',hwi,↓Gz,↓AC,XD,heldB,AN,XE,Fq,D0];cases hkk2:SR (fun t m=>SC f env t m) op (pre.length+1) rest m3 with
      | none=>rw [hkk2] at hkids;cases hkids
      | some q =>
      obtain ⟨us',m4⟩:=q;rw [hkk2] at hkids;simp only [AwZ,AwW,AwX] at hkids;obtain ⟨rfl,rfl⟩:=hkids;refine hrec rest.length _ _ (by omega) ⟨pre++[.mk o p l],rest,done++[.nil],m3,us',by rw [hk];simp,rfl,by simp [hdl],rfl,?_,by simpa using hkk2,by rw [← hvs];simp⟩;rw [show done++[.nil]++nils rest.length=done++nils (rest.length+1) by simp [nils,List.replicate_succ]]
     ·rw [if_neg hbn] at hkids;have hbn':((Ae op pre.length:Nat):Int)=0:=by omega
      cases hev2:SC f env x m3 with
      | none=>rw [hev2] at hkids;cases hkids
      | some q =>
      obtain ⟨y,m4⟩:=q;rw [hev2] at hkids;simp only at hkids;cases hkk2:SR (fun t m=>SC f env t m) op (pre.length+1) rest m4 with
      | none=>rw [hkk2] at hkids;cases hkids
      | some q =>
      obtain ⟨us',m5⟩:=q;rw [hkk2] at hkids;simp only [AwZ,AwW,AwX] at hkids;obtain ⟨rfl,rfl⟩:=hkids;have hce:=he _ _ _ _ _ hev2 r n (by omega);obtain ⟨o,p,l⟩:=x;rw [Ai] at hce;have hin:pre.length<ks.length:=by omega
      have hoff:=fun {β:Type}=>AmH (done:=done) (r:=rest.length) (β:=β);rw [hdl] at hoff;simp only [↓AhH,↓XX,XY,↓reduceIte,Nat.reduceBEq,Nat.reduceAdd,Int.reduceEq,Int.reduceLT,Int.reduceLE,hi,↓Bq (AP hg) (Ba _ _ _),↓Ce,↓Ag hb,hbn',hwi,↓Agu _ _ hce,↓AmV hin,↓Aoz,↓hoff,↓Gz,↓AC,XD,heldB,AN,XE,Fq,D0];exact hrec rest.length _ _ (by omega) ⟨pre++[.mk o p l],rest,done++[y],m4,us',by rw [hk];simp,rfl,by simp [hdl],rfl,rfl,by simpa using hkk2,by rw [← hvs];simp⟩
theorem M6:∀f,Alg f∧Akx f∧Am7 f∧Agr f
 | 0=>⟨(fun _ _ _ _ _ h=>by rw [SC.eq_def] at h;cases h),(fun _ _ _ _ h=>by rw [ctP.eq_def] at h;cases h),(fun _ _ _ _ _ h=>by rw [stP.eq_def] at h;cases h),(fun _ _ _ _ _ _ h=>by rw [opP.eq_def] at h;cases h)⟩
 | f+1=>⟨AlM (M6 f).1 (M6 f).2.1,Alh (M6 f).2.2.1,Aj4 (M6 f).2.1 (M6 f).2.2.2,AkV (M6 f).1⟩
def Up (below:Int) (b:Nat):List PV:=(List.range b).map fun (j:Nat)=>PV.var (below+(j:Int))
theorem AhF (u:Int) (b:Nat):Up u (b+1)=Up u b++[PV.var (u+b)]:=by simp [Up,List.range_succ]
theorem Le (u:Int) (b:Nat):(Up u b).length=b:=by simp [Up]
def bkK (bk:PV→Int→M3→Int→Option (Tm×M3×Int)) (opn:Nat→List PV→M3→Option (PV×M3)) (op below:Int):Nat→List PV→M3→Int→Option (Option (List Tm)×M3×Int)
 | _,[],m,r=>some (some [],m,r)
 | i,x::l,m,r=>match (if 0<Ae op i then opn i (Up below (Ae op i)) m else some (x,m)) with
  | none=>none
  | some (y,m)=>if m.e≠0 then some (none,m,r) else match bk y (below+Ae op i) m r with
   | none=>none
   | some (t,m,r)=>(bkK bk opn op below (i+1) l m r).map fun (ts,m,r)=>(ts.map (t::·),m,r)
def Ve:Nat→PV→Int→Int→M3→Int→Option (Tm×M3×Int)
 | 0,_,_,_,_,_=>none
 | f+1,v,below,deep,m,r =>
  if r<0∨1000000000<r∨below<0∨1000000<below∨deep<0∨1000000<deep then none else
  match HN ⟨m.s,m.w,if m.e=0∧(3000<r+1∨120<deep) then 5 else m.e⟩ with
  | none=>none
  | some m=>if m.e≠0 then some (.z,m,r+1) else match v with
   | .nil=>none
   | .mk op n k t e=>if op=1 then (if n < -2305843009213693952∨2305843009213693952<n then none else some (.mk 1 (below - 1 - n) [],m,r+1))
    else if f≤k.length+4∨100<k.length then none
    else match bkK (fun v below m r=>Ve f v below (deep+1) m r) (fun i l m=>opP f (.mk op n k t e) i l m) op below 0 k m (r+1) with
     | none=>none
     | some (none,m,r)=>some (.z,m,r)
     | some (some ts,m,r)=>some (.mk op n ts,m,r)
def AkC (f:Nat):Prop:=∀(v:PV) (below deep:Int) (m:M3) (r:Int) (t:Tm) (m':M3) (r':Int),Ve f v below deep m r=some (t,m',r')→∀n,f+1≤n →
 Bx (SS dt n 66 [.ptr (.ext 0) 0,.fv v.enc,iv below,iv deep] ⟨[],MX m.s m.w r m.e⟩) t.enc (MX m'.s m'.w r' m'.e)
theorem HI (j:Nat) (v:FV):FI (.ext j) (.fv v)=true:=rfl
theorem Aio {ih:Aa} {n:Nat} {v w:FV} {below deep s u r e e1:Int} {ext:List Blk} (hr:0≤r) (hr2:r≤1000000000) (he1:(if e=0∧(3000<r+1∨120<deep) then (5:Int) else e)=e1)
  (h:Bx (Fv ih ⟨[(69206016,.row [iv 0,iv 0,.nils] false)],MX s u (r+1) e1⟩ (.ptr (.ext 0) 0) (.ptr (.own 69206016) 0) (.fv v) (iv below) ⟨[],MX s u r e⟩ (iv deep) n) w ext) :
  Bx (S66 ih n (.ptr (.ext 0) 0) (.fv v) (iv below) (iv deep) ⟨[],MX s u r e⟩) w ext:=by
 have wr:BI (r+1)=r+1:=by rw [Av]<;>omega
 have key:S66 ih n (.ptr (.ext 0) 0) (.fv v) (iv below) (iv deep) ⟨[],MX s u r e⟩=Fv ih ⟨[(69206016,.row [iv 0,iv 0,.nils] false)],MX s u (r+1) e1⟩ (.ptr (.ext 0) 0) (.ptr (.own 69206016) 0) (.fv v) (iv below) ⟨[],MX s u r e⟩ (iv deep) n:=by
  by_cases h0:e=0
  ·by_cases h3:3000<r+1
   ·rw [if_pos ⟨h0,.inl h3⟩] at he1;subst he1;simp only [DR,DZ,DN,DF,Dj,Dx,CI,DA,D3,DD,DI,Dl,Fp,Do,DB,Dk,Dp,DJ,DO,D6,DQ,Ds,Fy,DU,Du,Dq,DC,DS,Dy,Dz,DX,DM,S66,↓XX,XY,↓reduceIte,Nat.reduceBEq,Nat.reduceAdd,Int.reduceEq,Int.reduceLT,Int.reduceLE,↓HI,wr,h0,h3]
   ·by_cases h4:120<deep
    ·rw [if_pos ⟨h0,.inr h4⟩] at he1;subst he1;simp only [DR,DZ,DN,DF,Dj,Dx,CI,DA,D3,DD,DI,Dl,Fp,Do,DB,Dk,Dp,DJ,DO,D6,DQ,Ds,Fy,DU,Du,Dq,DC,DS,Dy,Dz,DX,DM,S66,↓XX,XY,↓reduceIte,Nat.reduceBEq,Nat.reduceAdd,Int.reduceEq,Int.reduceLT,Int.reduceLE,↓HI,wr,h0,h3,h4]
    ·rw [if_neg (by omega)] at he1;subst he1;simp only [DR,DZ,DN,DF,Dj,Dx,CI,DA,D3,DD,DI,Dl,Fp,Do,DB,Dk,Dp,DJ,DO,D6,DQ,Ds,Fy,DU,Du,Dq,DC,DS,Dy,Dz,DX,DM,S66,↓XX,XY,↓reduceIte,Nat.reduceBEq,Nat.reduceAdd,Int.reduceEq,Int.reduceLT,Int.reduceLE,↓HI,wr,h0,h3,h4]
  ·rw [if_neg (by omega)] at he1;subst he1;simp only [DR,DZ,DN,DF,Dj,Dx,CI,DA,D3,DD,DI,Dl,Fp,Do,DB,Dk,Dp,DJ,DO,D6,DQ,Ds,Fy,DU,Du,Dq,DC,DS,Dy,Dz,DX,DM,S66,↓XX,XY,↓reduceIte,Nat.reduceBEq,Nat.reduceAdd,Int.reduceEq,Int.reduceLT,Int.reduceLE,↓HI,wr,h0]
 rw [key];exact h
abbrev Hbk (done:List Tm) (rest:Nat) (more:List (Nat×Blk)) (s w r e:Int):Hp :=
 ⟨(69206016,.row [iv 0,iv 0,.nils] false)::(69215237,.row (BG done rest) false)::more,MX s w r e⟩
theorem Alp {ih:Aa} {f:FuncId} {w x y:FV} {a b:IV} {s0 len:Nat} {s u r e s' u' r' e':Int} {own own':List (Nat×Blk)} {es:List FV} {ro:Bool} (hr:Bx (ih f [.ptr (.ext 0) 0,.fv x,.fv y,.fv (.sl es)] ⟨[],MX s u r e⟩) w (MX s' u' r' e'))
  (ha:A9 a=some x) (hb:A9 b=some y) (hl:Ap s0 own=some (.row (es.map .fv) ro)) (hlen:es.length=len) (hn:es.length≤300) (hag:∀x∈es,∀l,x≠.agg l) (ho:AO s0 (.row (es.map .fv) true) own=own')
  (k:IV→Hp→List Ref→List Ref→Option (IV×Hp)) :
  Al [true,false,false,false] false false ih f [.ptr (.ext 0) 0,a,b,.slc (.own s0) 1 len] ⟨own,MX s u r e⟩ k=k (.fv w) ⟨own',MX s' u' r' e'⟩ [.ext 1,.ext 0,.own s0] [.own s0,.ext 0,.ext 1]:=by
 subst ho hlen;refine Zm (ks:=[false,false,false]) (vs:=[x,y,.sl es]) (u:=[(.own s0,.row (es.map .fv) true)]) (lg:=[.own s0]) ?_ (AkT ..) hr ?_ k
 ·intro e k;rw [WM,JC _ _ e _ ha,WM,JC _ _ e _ hb,WM,AhJ (d:=10) hl hn hag,fz0];rfl
 ·intro k
  show (Fj own s0 fun _=>A2 own s0 (.row (es.map .fv) true) fun own=>k ⟨own,_⟩)=_
  rw [Bk,hl,Option.bind_some,Bt]
def Aka (op n:Int) (done:List Tm):Option (List Tm)→Tm
 | none=>.z
 | some ts=>.mk op n (done++ts)
set_option maxRecDepth 20000 in
set_option maxHeartbeats 1000000 in
theorem Apd {n:Nat} {op nn bo bn below deep:Int} {k e:List PV} {bk:List Tm} {done:List Tm} {s w r er:Int} (h4:Hp) {rec:List IV→Hp→Option (IV×Hp)} (hd:done.length=k.length) (hk:k.length≤100) :
  Bx (Fy [.ptr (.ext 0) 0,.fv (PV.mk op nn k (.mk bo bn bk) e).enc,iv below,iv deep,.ptr (.own 69206016) 0,.slc (.own 69215237) 3 k.length,iv k.length,iv k.length] (Hbk done 0 [] s w r er) (SS dt n) h4 rec n)
   (Tm.mk op nn done).enc (MX s w r er):=by
 rw [AZ,Ai];have hno:¬ ((k.length:Int)<k.length):=by omega
 simp only [DR,DZ,DN,DF,Dj,Dx,CI,DA,D3,DD,DI,Dl,Fp,Do,DB,Dk,Dp,DJ,DO,D6,DQ,Ds,Fy,DU,Du,Dq,DC,Fv,DS,Dy,Dz,DX,DM,S66,↓XX,XY,↓reduceIte,Nat.reduceBEq,Nat.reduceAdd,Int.reduceEq,Int.reduceLT,Int.reduceLE,↓HI,hno];rw [← hd];exact ⟨_,_,rfl,_,_,fun e0 K=>AjF (by rfl) (by omega) [] e0 K⟩
def AhQ (more:List (Nat×Blk)):Prop:=more=[]∨∃(l:List FV) (ro:Bool),more=[(69221377,.row (l.map .fv) ro)]
set_option maxRecDepth 20000 in
set_option maxHeartbeats 1000000 in
theorem Arm {n:Nat} {v y:FV} {below deep b len i:IV} {done:List Tm} {rest kl:Nat} {more:List (Nat×Blk)} {s w r e:Int} (hM:AhQ more) (h4:Hp) {rec:List IV→Hp→Option (IV×Hp)} (he:e≠0) :
  Bx (CI (.ptr (.ext 0) 0) (Hbk done rest more s w r e) (.ptr (.own 69206016) 0) below b deep (SS dt n) (.fv y) (.slc (.own 69215237) 3 kl) i i h4 (.fv v) len rec) Tm.z.enc (MX s w r e):=by
 rcases hM with rfl | ⟨l,ro,rfl⟩
 ·simp only [↓Xr,↓XX,XY,↓reduceIte,Nat.reduceBEq,Nat.reduceAdd,Int.reduceEq,Int.reduceLT,Int.reduceLE,↓HI,he];exact Ff rfl _ _
 ·simp only [↓Xr,↓XX,XY,↓reduceIte,Nat.reduceBEq,Nat.reduceAdd,Int.reduceEq,Int.reduceLT,Int.reduceLE,↓HI,he];exact Ff rfl _ _
set_option maxRecDepth 20000 in
set_option maxHeartbeats 1000000 in
theorem Ara {f n:Nat} {v:FV} {y:PV} {below deep:Int} {b:Nat} {len:Int} {done:List Tm} {rest kl:Nat} {more:List (Nat×Blk)} {m m5:M3} {r r5:Int} {t5:Tm} {w:FV} {ext:List Blk} (hb:AkC f) (hn:f+1≤n) (hM:AhQ more) (ext4:List Blk)
  {rec:List IV→Hp→Option (IV×Hp)} (he:m.e=0) (hbk:Ve f y (below+b) (deep+1) m r=some (t5,m5,r5)) (hb1:0≤below) (hb2:below≤1000000) (hb3:b≤10) (hd1:0≤deep) (hd2:deep≤1000000) (hkl:done.length<kl) (hkl2:kl≤100)
  (h:Bx (rec [.ptr (.ext 0) 0,.fv v,iv below,iv deep,.ptr (.own 69206016) 0,.slc (.own 69215237) 3 kl,iv len,iv (done++[t5]).length] (Hbk (done++[t5]) rest [] m5.s m5.w r5 m5.e)) w ext) :
  Bx (CI (.ptr (.ext 0) 0) (Hbk done (rest+1) more m.s m.w r m.e) (.ptr (.own 69206016) 0) (iv below) (iv b) (iv deep) (SS dt n) (.fv y.enc) (.slc (.own 69215237) 3 kl) (iv done.length) (iv done.length) ⟨[],ext4⟩ (.fv v) (iv len) rec) w ext:=by
 have hc:=hb _ _ _ _ _ _ _ _ hbk n hn;have wb:BI (below+b)=below+b:=by rw [Av]<;>omega
 have wd:BI (deep+1)=deep+1:=by rw [Av]<;>omega
 have wi:BI ((done.length:Int)+1)=((done++[t5]).length:Int):=(Av (by omega) (by omega)).trans (by simp);obtain ⟨o,p,ks⟩:=t5;rw [Ai] at hc;simp only [he] at hc ⊢;rcases hM with rfl | ⟨l,ro,rfl⟩
 ·simp only [↓Xr,↓XX,XY,↓reduceIte,Nat.reduceBEq,Nat.reduceAdd,Int.reduceEq,Int.reduceLT,Int.reduceLE,↓HI,wb,wd,↓SL _ _ hc,↓Oi hkl,↓X6,wi,↓Gz,↓AC,XD,heldB,AN,XE,Fq,D0,Hl,Fo];exact h
 ·simp only [↓Xr,↓XX,XY,↓reduceIte,Nat.reduceBEq,Nat.reduceAdd,Int.reduceEq,Int.reduceLT,Int.reduceLE,↓HI,wb,wd,↓SL _ _ hc,↓Oi hkl,↓X6,wi,↓Gz,↓AC,XD,heldB,AN,XE,Fq,D0,Hl,Fo];exact h
set_option maxRecDepth 20000 in
set_option maxHeartbeats 1000000 in
theorem Asn {f n:Nat} {v y:PV} {below deep:Int} {i b kl:Nat} {len:Int} {done:List Tm} {rest:Nat} {m m4:M3} {r:Int} {w:FV} {ext:List Blk} (hn:f+1≤n) (h3:3≤n) (ext4:List Blk)
  {j:IV→IV→IV→IV→IV→IV→IV→IV→IV→IV→IV→Hp→Option (IV×Hp)} (hb:b≤2) (hb1:0≤below) (hb2:below≤1000000) (hop:opP f v i (Up below b) m=some (y,m4))
  (hj:Bx (j (.ptr (.ext 0) 0) (.fv v.enc) (iv below) (iv deep) (.ptr (.own 69206016) 0) (.slc (.own 69215237) 3 kl) (iv i) (.fv y.enc) (iv b) (iv len) (iv i)
   (Hbk done rest [(69221377,.row (((Up below b).map PV.enc).map .fv) true)] m4.s m4.w r m4.e)) w ext) :
  Bx (BF n (fun q119 l120 h121=>Fp l120 h121 ⟨[],ext4⟩ q119 (SS dt n) j) [.ptr (.ext 0) 0,.fv v.enc,iv below,iv deep,.ptr (.own 69206016) 0,.slc (.own 69215237) 3 kl,iv i,iv b,.slc (.own 69221377) 1 b,iv len,iv i,iv b,iv 0]
   (Hbk done rest [(69221377,.row (((nils b).map PV.enc).map .fv) false)] m.s m.w r m.e)) w ext:=by
 refine A7 (Q:=fun r=>Bx r _ _) (fun t V H=>∃(k:Nat),k+t=b ∧
   V=[.ptr (.ext 0) 0,.fv v.enc,iv below,iv deep,.ptr (.own 69206016) 0,.slc (.own 69215237) 3 kl,iv i,iv b,.slc (.own 69221377) 1 b,iv len,iv i,iv b,iv k] ∧
   H=Hbk done rest [(69221377,.row (((Up below k++nils t).map PV.enc).map .fv) false)] m.s m.w r m.e) ?_ n b _ _ (by omega) ⟨0,by omega,rfl,rfl⟩
 rintro t V H rec ⟨k,hkt,rfl,rfl⟩ hrec;cases t with
 | zero =>
  have hkb:k=b:=by omega
  subst hkb;have hno:¬ ((k:Int)<k):=by omega
  have hc:=(M6 f).2.2.2 _ _ _ _ _ _ hop r n hn;rw [show Up below k++nils 0=Up below k by simp [nils]]
  simp only [DR,DZ,DN,DF,Dj,Dx,CI,DA,D3,DD,DI,Dl,Do,DB,Dk,Dp,DJ,DO,D6,DQ,Ds,DU,Du,Dq,DC,Fv,DS,Dy,Dz,DX,DM,S66,Fp,↓XX,XY,↓reduceIte,Nat.reduceBEq,Nat.reduceAdd,Int.reduceEq,Int.reduceLT,Int.reduceLE,↓HI,hno];rw [Alp hc rfl rfl (s0:=69221377) (own':=(Hbk done rest [(69221377,.row (((Up below k).map PV.enc).map .fv) true)] m4.s m4.w r m4.e).own) (by rfl) (by simp [Le]) (by simp [Le];omega) (by simp only [List.mem_map];rintro x ⟨v,_,rfl⟩;exact PI v) (by rfl)];exact hj
 | succ t =>
  have hlt:(k:Int)<b:=by omega
  have hkb:k<b:=by omega
  have wk:BI ((k:Int)+1)=((k+1:Nat):Int):=(Av (by omega) (by omega)).trans (by simp);have wbk:BI (below+(k:Int))=below+k:=by rw [Av]<;>omega
  have hoff:=fun {β:Type}=>AmH (done:=Up below k) (r:=t) (β:=β) (PV.var (below+k));rw [Le,UC] at hoff;simp only [DR,DZ,DN,DF,Dj,Dx,CI,DA,D3,DD,DI,Dl,Do,DB,Dk,Dp,DJ,DO,D6,DQ,Ds,DU,Du,Dq,DC,Fv,DS,Dy,Dz,DX,DM,S66,Fp,↓XX,XY,↓reduceIte,Nat.reduceBEq,Nat.reduceAdd,Int.reduceEq,Int.reduceLT,Int.reduceLE,↓HI,hlt,wbk];rw [Ad8 (fc:=[.int .i64 1,.int .i64 (below+k),.sl [],.int .i64 0,.int .i64 0,.sl [],.nilp]) rfl (by simp)];simp only [↓XX,XY,↓reduceIte,Nat.reduceBEq,Nat.reduceAdd,Int.reduceEq,Int.reduceLT,Int.reduceLE,↓HI,↓AmV hkb,↓hoff,wk,↓Gz,↓AC,XD,heldB,AN,XE,Fq,D0,Hl,Fo];exact hrec t _ _ (by omega) ⟨k+1,by omega,rfl,by rw [AhF]⟩
set_option maxRecDepth 20000 in
set_option maxHeartbeats 1000000 in
theorem AlC {f:Nat} (hb:AkC f):AkC (f+1):=by
 intro v below deep m r t m' r' hev n hn;obtain ⟨n,rfl⟩:∃k,n=k+1:=⟨n - 1,by omega⟩;rw [c66];rw [Ve.eq_def] at hev;simp only at hev;split at hev
 ·cases hev
 rename_i hbad;have wd:BI (deep+1)=deep+1:=by rw [Av]<;>omega
 have wb1:BI (below - 1)=below - 1:=by rw [Av]<;>omega
 generalize he1:(if m.e=0∧(3000<r+1∨120<deep) then (5:Int) else m.e)=e1 at hev;cases ht:HN ⟨m.s,m.w,e1⟩ with
 | none=>rw [ht] at hev;cases hev
 | some m1 =>
 rw [ht] at hev;simp only at hev;have hc1:=Rg ht (r+1) (n:=n) (by omega);simp only at hc1;refine Aio (by omega) (by omega) he1 ?_;by_cases h1:m1.e≠0
 ·rw [if_pos h1] at hev;simp only [AwW,AwX] at hev;obtain ⟨rfl,rfl,rfl⟩:=hev;simp only [↓Xr,↓XX,XY,↓reduceIte,Nat.reduceBEq,Nat.reduceAdd,Int.reduceEq,Int.reduceLT,Int.reduceLE,↓HI,↓FY _ _ hc1,h1];exact Ff rfl _ _
 ·rw [if_neg h1] at hev;have h1:m1.e=0:=by simpa using h1
  cases v with
  | nil=>cases hev
  | mk op nn k t0 e =>
  obtain ⟨bo,bn,bk⟩:=t0;simp only at hev;by_cases h2:op=1
  ·rw [if_pos h2] at hev;split at hev
   ·cases hev
   rename_i hnn;simp only [AwW,AwX] at hev;obtain ⟨rfl,rfl,rfl⟩:=hev;have wb2:BI (below - 1 - nn)=below - 1 - nn:=by rw [Av]<;>omega
   rw [AZ];simp only [↓Xr,↓XX,XY,↓reduceIte,Nat.reduceBEq,Nat.reduceAdd,Int.reduceEq,Int.reduceLT,Int.reduceLE,↓HI,↓FY _ _ hc1,h1,h2,wb1,wb2];exact Ff rfl _ _
  ·rw [if_neg h2] at hev;split at hev
   ·cases hev
   rename_i hk100;have hk100:k.length≤100:=by omega
   cases hkk:bkK (fun v below m r=>Ve f v below (deep+1) m r) (fun i l m=>opP f (.mk op nn k (.mk bo bn bk) e) i l m) op below 0 k m1 (r+1) with
   | none=>rw [hkk] at hev;cases hev
   | some q =>
   obtain ⟨res,m2,r2⟩:=q;rw [hkk] at hev;have hres:t=Aka op nn [] res∧m'=m2∧r'=r2:=by
    cases res with
    | none=>simp only [AwW,AwX] at hev;exact ⟨hev.1.symm,hev.2.1.symm,hev.2.2.symm⟩
    | some ts=>simp only [AwW,AwX] at hev;exact ⟨hev.1.symm,hev.2.1.symm,hev.2.2.symm⟩
   obtain ⟨ht5,rfl,rfl⟩:=hres;generalize hV:PV.mk op nn k (.mk bo bn bk) e=V5 at *;have hVe:V5.enc=.fp [.int .i64 op,.int .i64 nn,.sl (k.map PV.enc),.int .i64 bo,.int .i64 bn,.sl (bk.map Tm.enc),PV.encEnv e] 0:=by rw [← hV,AZ]
   rw [hVe];simp only [↓Xr,↓XX,XY,↓reduceIte,Nat.reduceBEq,Nat.reduceAdd,Int.reduceEq,Int.reduceLT,Int.reduceLE,↓HI,↓FY _ _ hc1,h1,h2,↓Aop (show k.length≤1000 by omega),↓Gz,↓AC,XD,heldB,AN,XE,Fq,D0,Hl,Fo]
   refine A7 (Q:=fun r=>Bx r _ _) (fun j V H=>∃(pre rest:List PV) (done:List Tm) (m3:M3) (r3:Int) (res3:Option (List Tm)),k=pre++rest∧rest.length=j∧done.length=pre.length ∧
     V=[.ptr (.ext 0) 0,.fv V5.enc,iv below,iv deep,.ptr (.own 69206016) 0,.slc (.own 69215237) 3 k.length,iv k.length,iv pre.length] ∧
     H=Hbk done rest.length [] m3.s m3.w r3 m3.e ∧
     bkK (fun v below m r=>Ve f v below (deep+1) m r) (fun i l m=>opP f V5 i l m) op below pre.length rest m3 r3=some (res3,m',r')∧Aka op nn done res3=t)
    ?_ n k.length _ _ (by omega) ⟨[],k,[],m1,r+1,res,rfl,rfl,rfl,by rw [hVe];rfl,by rw [h1],hkk,ht5.symm⟩
   rintro j V H rec ⟨pre,rest,done,m3,r3,res3,hk,hl,hdl,rfl,rfl,hkids,hts⟩ hrec;have hkl:k.length=pre.length+rest.length:=by rw [hk];simp
   cases rest with
   | nil =>
    simp only [bkK,AwW,AwX] at hkids;obtain ⟨rfl,rfl,rfl⟩:=hkids;rw [List.length_nil,Nat.add_zero] at hkl;rw [← hts,← hV,Aka,List.append_nil,← hkl];exact Apd _ (by omega) hk100
   | cons x rest =>
    have hi:(pre.length:Int)<k.length:=by rw [hkl];simp;omega
    have hg:=Cg hk;have hbn:=LZ (n:=n) (by omega) op pre.length;have hble:=AY op pre.length;simp only [bkK] at hkids;simp only [Aw0] at hl hkl;have behind:∀(y:PV) (m4:M3) (more:List (Nat×Blk)),AhQ more→(if m4.e≠0 then some (none,m4,r3) else match Ve f y (below+Ae op pre.length) (deep+1) m4 r3 with
       | none=>none
       | some (t,m,r)=>(bkK (fun v below m r=>Ve f v below (deep+1) m r) (fun i l m=>opP f V5 i l m) op below (pre.length+1) rest m r).map fun (ts,m,r)=>(ts.map (t::·),m,r))=some (res3,m',r') →
      Bx (CI (.ptr (.ext 0) 0) (Hbk done (rest.length+1) more m4.s m4.w r3 m4.e) (.ptr (.own 69206016) 0) (iv below) (iv (Ae op pre.length)) (iv deep) (SS dt n) (.fv y.enc) (.slc (.own 69215237) 3 k.length) (iv pre.length) (iv pre.length) ⟨[],MX m.s m.w r m.e⟩ (.fv V5.enc) (iv k.length) rec)
       t.enc (MX m'.s m'.w r' m'.e):=by
     intro y m4 more hM hy;by_cases h4:m4.e≠0
     ·rw [if_pos h4] at hy;simp only [AwW,AwX] at hy;obtain ⟨rfl,rfl,rfl⟩:=hy;rw [← hts];exact Arm hM _ h4
     ·rw [if_neg h4] at hy;have h4:m4.e=0:=by simpa using h4
      cases hbk:Ve f y (below+Ae op pre.length) (deep+1) m4 r3 with
      | none=>rw [hbk] at hy;cases hy
      | some q =>
      obtain ⟨t5,m5,r5⟩:=q;rw [hbk] at hy;simp only at hy;cases hk2:bkK (fun v below m r=>Ve f v below (deep+1) m r) (fun i l m=>opP f V5 i l m) op below (pre.length+1) rest m5 r5 with
      | none=>rw [hk2] at hy;cases hy
      | some q =>
      obtain ⟨res6,m6,r6⟩:=q;rw [hk2] at hy;simp only [AwZ,AwW,AwX] at hy;obtain ⟨rfl,rfl,rfl⟩:=hy;rw [← hdl];refine Ara hb (by omega) hM _ h4 (by rw [hdl];exact hbk) (by omega) (by omega) (by rw [hdl];omega) (by omega) (by omega) (by omega) hk100 ?_;refine hrec rest.length _ _ (by omega) ⟨pre++[x],rest,done++[t5],m5,r5,res6,by rw [hk];simp,rfl,by simp [hdl],by simp [hdl],rfl,by simpa using hk2,?_⟩;rw [← hts];cases res6 with
      | none=>rfl
      | some ts=>simp [Aka]
    rw [hVe];by_cases hb0:0<Ae op pre.length
    ·rw [if_pos hb0] at hkids;have hb0':(0:Int)<Ae op pre.length:=by omega
     cases hop:opP f V5 pre.length (Up below (Ae op pre.length)) m3 with
     | none=>rw [hop] at hkids;cases hkids
     | some q =>
     obtain ⟨y,m4⟩:=q;rw [hop] at hkids;have h9:=behind y m4 [(69221377,.row (((Up below (Ae op pre.length)).map PV.enc).map .fv) true)] (.inr ⟨_,_,rfl⟩) hkids;have hin:=Asn (f:=f) (n:=n) (v:=V5) (y:=y) (below:=below) (deep:=deep) (i:=pre.length) (b:=Ae op pre.length) (kl:=k.length) (len:=k.length) (done:=done) (rest:=rest.length+1) (m:=m3) (m4:=m4) (r:=r3) (w:=t.enc) (ext:=MX m'.s m'.w r' m'.e) (by omega) (by omega) (MX m.s m.w r m.e)
      (j:=fun x79 x80 x81 x82 x83 x84 x85 x86 x87 x88 x89 h90=>CI x79 h90 x83 x81 x87 x82 (SS dt n) x86 x84 x85 x89 ⟨[],MX m.s m.w r m.e⟩ x80 x88 rec) (by omega) (by omega) (by omega) hop h9
     simp only [DR,DZ,DN,DF,Dj,Dx,DA,D3,DD,DI,Dl,Do,DB,Dk,Dp,DJ,DO,D6,DQ,Ds,Fy,DU,Du,Dq,DC,Fv,DS,Dy,Dz,DX,DM,S66,↓XX,XY,↓reduceIte,Nat.reduceBEq,Nat.reduceAdd,Int.reduceEq,Int.reduceLT,Int.reduceLE,↓HI,hi,↓ApF hg,↓Ag hbn,hb0',↓Aog (show Ae op pre.length≤1000 by omega),↓Gz,↓AC,XD,heldB,AN,XE,Fq,D0,Hl,Fo]
     rw [hVe] at hin;exact hin
    ·rw [if_neg hb0] at hkids;have hb0':¬ (0:Int)<Ae op pre.length:=by omega
     have h9:=behind x m3 [] (.inl rfl) hkids;simp only [DR,DZ,DN,DF,Dj,Dx,DA,D3,DD,DI,Dl,Do,DB,Dk,Dp,DJ,DO,D6,DQ,Ds,Fy,DU,Du,Dq,DC,Fv,DS,Dy,Dz,DX,DM,S66,↓XX,XY,↓reduceIte,Nat.reduceBEq,Nat.reduceAdd,Int.reduceEq,Int.reduceLT,Int.reduceLE,↓HI,hi,↓ApF hg,↓Ag hbn,hb0'];rw [hVe] at h9;exact h9
theorem AmC:∀f,AkC f
 | 0=>(fun _ _ _ _ _ _ _ _ h=>by rw [Ve.eq_def] at h;cases h)
 | f+1=>AlC (AmC f)
abbrev Fg (mb:Nat) (f:FuncId):IV:=.agg [.func (.func f) [.ptr (.own mb) 0] []]
abbrev C4 (mb:Nat):List (Int×IV):=[(5,Fg mb 72),(8,Fg mb 73),(9,Fg mb 73),(13,Fg mb 74),(30,Fg mb 75),(19,Fg mb 76)]
theorem Alm (r:Ref):IV.one (.mapr r)=true:=rfl
theorem Aji {β:Type} (l:List IV) (e:Option β) (k:List FV→Option β):Ct (.dead::l) e k=e:=rfl
theorem of4 {β:Type} (x y z u v b:IV) (l:List IV) (k:List IV→Option β):GQ (x::y::z::u::v::l) 4 b k=k (x::y::z::u::b::l):=rfl
theorem Aur (s:Nat) (own:List (Nat×Blk)) (ext:List Blk) (k:IV→Hp→List Ref→List Ref→Option (IV×Hp)):Az (GW s) s ⟨own,ext⟩ k=CT own s (A2 own s (.map []) fun own=>k (.mapr (.own s)) ⟨own,ext⟩ [] [.own s]):=by
 unfold Az;simp only [GW,Rd.runLog,J3,C6,CD];rfl
def As5 (b:Blk) (k:List (Int×IV)→Option (IV×Hp)):Option (IV×Hp):=match b with
 | .map es=>k es
 | _=>none
theorem Ahx (es:List (Int×IV)) (k:List (Int×IV)→Option (IV×Hp)):As5 (.map es) k=k es:=rfl
theorem ArM (m j:Nat) (v:IV) (hv:v.alive=true) (n:Int) (s:Nat) (own:List (Nat×Blk)) (ext:List Blk) (k:IV→Hp→List Ref→List Ref→Option (IV×Hp)) :
  Az (Cc EE 100 (.mapr (.own m)) (iv n) v) s ⟨own,ext⟩ k=Fj own m fun b=>As5 b fun es=>A2 own m (.map (Cr n v es)) fun own=>k .dead ⟨own,ext⟩ [.own m] [.own m]:=by
 have h1:=tMk;have h2:=tIk;cases hm:EE.T 100 with
 | none=>rw [hm] at h1;cases h1
 | some ti =>
  cases hi:EE.T 3 with
  | none=>rw [hi] at h2;cases h2
  | some ii =>
   rw [hm] at h1;rw [hi] at h2;obtain ⟨a,b,kd,z⟩:=ti;obtain ⟨a2,b2,kd2,z2⟩:=ii;simp only [AwZ,AwW] at h1 h2;subst h1 h2;rw [Bk];unfold Az;cases hl:Ap m own with
   | none=>simp only [Cc,hm,hi,WP,Rd.runLog,Hp.get,hl];rfl
   | some bl =>
    cases bl with
    | row c ro=>simp only [Cc,hm,hi,WP,Rd.runLog,Hp.get,hl];rfl
    | tok a b=>simp only [Cc,hm,hi,WP,Rd.runLog,Hp.get,hl];rfl
    | map es =>
     simp only [Cc,hm,hi,WP,Rd.runLog,Hp.get,hl,Ajq,hv,and_self,if_true,Option.bind_some,Ahx]
     show (fRf (.own m) fun q=>Da q ⟨own,ext⟩ fun _=>fBk (.map (Cr n v es)) fun b=>F9 q b ⟨own,ext⟩ fun h=>J3 none s h fun h=>fV 3 .dead fun v=>k v h [.own m] ([.own m]++[]))=_
     simp only [Pv,C6,CD,J3,F9,Da];rw [Bk,hl];rfl
theorem Aqm {ks:List Bool} (hks:∀b∈ks,b=false) {ih:Aa} {f:FuncId} {args:List IV} {vs:List FV} {w:FV} {mb mp:Nat} {own:List (Nat×Blk)} {s u r e s' u' r' e':Int} (hz:By args=some vs) (hne:mb≠mp)
  (hl1:Ap mb own=some (.row [iv s,iv u,iv r,iv e,.mapr (.own mp)] false)) (hl2:Ap mp own=some (.map (C4 mb))) (hr:Bx (ih f (.ptr (.ext 0) 0::vs.map .fv) ⟨[],MX s u r e⟩) w (MX s' u' r' e')) (k:IV→Hp→List Ref→List Ref→Option (IV×Hp)) :
  Al (true::ks) false false ih f (.ptr (.own mb) 0::args) ⟨own,[]⟩ k=k (.fv w) ⟨AO mp (.map (C4 mb)) (AO mb (.row [iv s',iv u',iv r',iv e',.mapr (.own mp)] false) own),[]⟩ [.own mp,.own mb] [.own mb,.own mp]:=by
 obtain ⟨v,own',e1,hfz⟩:=hr;obtain ⟨uu,hu⟩:=Uv hfz;have hD:GL (true::ks) false false ih f (.ptr (.own mb) 0::args) ⟨own,[]⟩ k=k (.fv w) ⟨AO mp (.map (C4 mb)) (AO mb (.row [iv s',iv u',iv r',iv e',.mapr (.own mp)] false) own),[]⟩ [.own mp,.own mb] [.own mb,.own mp]:=by
  have h1:Bv (true::ks) (.ptr (.own mb) 0::args)=.ret (.ptr (.own mb) 0::vs.map .fv,[.own mb],[]):=by
   simp only [Bv,MG args ks hks hz,Rd.bind,IV.refs];rfl
  have hn1:¬ (Ref.own mp=Ref.own mb):=by intro h;cases h;exact hne rfl
  have h2:(Ck 4096 [.own mb] []).runLog ⟨own,[]⟩ []=some ([(.own mb,.row [iv s,iv u,iv r,iv e,.mapr (.own mp)] false),(.own mp,.map (C4 mb))],[.own mp,.own mb]):=by
   show (Ck (4087+1+1+1+1+1+1+1+1+1) [.own mb] []).runLog ⟨own,[]⟩ []=_
   simp only [Ck,hasRef,Bool.false_eq_true,if_false,Rd.runLog,Hp.get,hl1,hl2,Blk.refs,IV.refs.refsL,IV.refs,List.append_nil,List.nil_append,List.cons_append,Aw2,Aw1,hn1,decide_false,decide_true,Bool.or_false,Bool.true_or,if_true]
  have p1:E6 [(.own mb,.row [iv s,iv u,iv r,iv e,.mapr (.own mp)] false),(.own mp,.map (C4 mb))] (.own mb)=some (.ext 0):=by simp [E6,Cm]
  have p2:E6 [(.own mb,.row [iv s,iv u,iv r,iv e,.mapr (.own mp)] false),(.own mp,.map (C4 mb))] (.own mp)=some (.ext 1):=by simp [E6,Cm,hn1]
  have h3:IV.ren.renL (E6 [(.own mb,.row [iv s,iv u,iv r,iv e,.mapr (.own mp)] false),(.own mp,.map (C4 mb))]) (.ptr (.own mb) 0::vs.map .fv)=some (.ptr (.ext 0) 0::vs.map .fv):=by
   simp only [IV.ren.renL,IV.ren,p1,AwZ,Option.bind_some,IU]
  have h4:Bc (E6 [(.own mb,.row [iv s,iv u,iv r,iv e,.mapr (.own mp)] false),(.own mp,.map (C4 mb))]) [.row [iv s,iv u,iv r,iv e,.mapr (.own mp)] false,.map (C4 mb)]=some (MX s u r e):=by
   simp only [Bc,Blk.ren,IV.ren.renL,IV.ren,p1,p2,AwZ,Option.bind_some,Aw2,Aw1,List.zip_cons_cons,List.zip_nil_left]
  have h5:Bc (Cq [(.own mb,.row [iv s,iv u,iv r,iv e,.mapr (.own mp)] false),(.own mp,.map (C4 mb))]) (MX s' u' r' e')=some [.row [iv s',iv u',iv r',iv e',.mapr (.own mp)] false,.map (C4 mb)]:=by
   simp only [Bc,Blk.ren,IV.ren.renL,IV.ren,Cq,List.getElem?_cons_zero,List.getElem?_cons_succ,AwZ,Option.bind_some,Aw2,Aw1,List.zip_cons_cons,List.zip_nil_left]
  unfold GL;simp only [h1,Rd.runLog,h2,h3,Aw2,Aw1,h4,E9 (CD 3),E9 C6,Mf,Bool.false_eq_true,if_false,e1,hu,AwZ,IV.ren,h5,Aw0,List.length_nil,Bs,List.all_nil,and_self,if_true,List.nil_append,List.zip_cons_cons,List.zip_nil_left];have hl3:Ap mp (AO mb (.row [iv s',iv u',iv r',iv e',.mapr (.own mp)] false) own)=some (.map (C4 mb)):=by
   rw [← hl2];clear hl1 hl2 h2 e1 hu hfz
   induction own with
   | nil=>simp only [AO,Ap,if_neg (fun h=>hne (Eq.symm h))]
   | cons p l ih =>
    obtain ⟨j,c⟩:=p;simp only [AO];split
    ·rename_i h;subst h;simp only [Ap,if_neg (fun h=>hne (Eq.symm h))]
    ·simp only [Ap,ih]
  have h6:laid ⟨own,[]⟩ [(.own mb,.row [iv s',iv u',iv r',iv e',.mapr (.own mp)] false),(.own mp,.map (C4 mb))]=some ⟨AO mp (.map (C4 mb)) (AO mb (.row [iv s',iv u',iv r',iv e',.mapr (.own mp)] false) own),[]⟩:=by
   simp only [laid,Hp.get,hl1,Hp.set,hl3]
  simp only [h6,Oz,CD]
 rw [Ph,Aif,Xk,U7 0 args _ _ _ _ ks hks hz];simp only [U9,AdX,cond_false];exact hD
def Hx (op:Int):Int:=if op=8∨op=9∨op=12∨op=19∨op=30 then 1 else if op=4∨op=5 then 2 else if op=7 then 3 else if op=13 then 4 else -1
theorem Ame {n:Nat} (hn:0<n) (op:Int):Bl (SS dt n 71 [iv op] ⟨[],[]⟩) (.int .i64 (Hx op)):=by
 obtain ⟨n,rfl⟩:∃k,n=k+1:=⟨n - 1,by omega⟩;rw [c71];unfold Hx;by_cases h:op=8∨op=9∨op=12∨op=19∨op=30
 ·rw [if_pos h];rcases h with rfl | rfl | rfl | rfl | rfl<;>(simp only [↓Ajs,↓XX,XY,↓reduceIte,Nat.reduceBEq,Nat.reduceAdd,Int.reduceEq,Int.reduceLT,Int.reduceLE];exact Ao _ _)
 ·rw [if_neg h];have h8:¬ op=8:=fun e=>h (by simp [e]);have h9:¬ op=9:=fun e=>h (by simp [e]);have h12:¬ op=12:=fun e=>h (by simp [e]);have h19:¬ op=19:=fun e=>h (by simp [e]);have h30:¬ op=30:=fun e=>h (by simp [e]);by_cases h2:op=4∨op=5
  ·rw [if_pos h2];rcases h2 with rfl | rfl<;>(simp only [↓Ajs,↓XX,XY,↓reduceIte,Nat.reduceBEq,Nat.reduceAdd,Int.reduceEq,Int.reduceLT,Int.reduceLE];exact Ao _ _)
  ·rw [if_neg h2];have h4:¬ op=4:=fun e=>h2 (by simp [e]);have h5:¬ op=5:=fun e=>h2 (by simp [e]);by_cases h7:op=7
   ·subst h7;simp only [↓Ajs,↓XX,XY,↓reduceIte,Nat.reduceBEq,Nat.reduceAdd,Int.reduceEq,Int.reduceLT,Int.reduceLE];exact Ao _ _
   ·by_cases h13:op=13
    ·subst h13;simp only [↓Ajs,↓XX,XY,↓reduceIte,Nat.reduceBEq,Nat.reduceAdd,Int.reduceEq,Int.reduceLT,Int.reduceLE];exact Ao _ _
    ·simp only [↓Ajs,↓XX,XY,↓reduceIte,Nat.reduceBEq,Nat.reduceAdd,Int.reduceEq,Int.reduceLT,Int.reduceLE,h4,h5,h7,h8,h9,h12,h13,h19,h30];exact Ao _ _
mutual
def Tm.shaped:Tm→Bool
 | .mk op n ks=>!(decide (0≤Hx op∧Hx op≠ks.length) || decide (op=1∧n<0)) && Tm.shapedL ks
def Tm.shapedL:List Tm→Bool
 | []=>true
 | t::l=>t.shaped && Tm.shapedL l
end
set_option maxHeartbeats 1000000 in
theorem QA:∀(n:Nat) (t:Tm),t.wt+1<n→t.wt≤1152921504606846976→Bl (SS dt n 63 [.fv t.enc] ⟨[],[]⟩) (.bool t.shaped):=by
 intro n
 induction n with
 | zero=>intro t h;omega
 | succ n ih =>
  intro t h hw;obtain ⟨op,m,ks⟩:=t;simp only [Tm.wt] at h hw;rw [c63,Ai];have hlen:=C5 ks;have hk:=Ame (n:=n) (by omega) op;rw [Tm.shaped];have wl:∀j:Nat,j≤ks.length→BI (j:Int)=j:=fun j hj=>Av (by omega) (by omega);have loop:Bl (BF n (fun q99 l100 h101=>Lu l100 h101 (SS dt n) ⟨[],[]⟩ q99) [.fv (.sl (ks.map Tm.enc)),iv ks.length,iv 0] ⟨[(66060288,.row [iv op,iv m,.fv (.sl (ks.map Tm.enc))] false)],[]⟩) (.bool (Tm.shapedL ks)):=by
   refine A7 (Q:=fun r=>Bl r _) (fun k V H=>∃pre rest,ks=pre++rest∧rest.length=k∧V=[.fv (.sl (ks.map Tm.enc)),iv ks.length,iv pre.length]∧H=⟨[(66060288,.row [iv op,iv m,.fv (.sl (ks.map Tm.enc))] false)],[]⟩∧Tm.shapedL rest=Tm.shapedL ks)
    ?_ n ks.length _ _ (by omega) ⟨[],ks,rfl,rfl,rfl,rfl,rfl⟩
   rintro k V H rec ⟨pre,rest,hk,hl,rfl,rfl,ht⟩ hrec;have hkl:ks.length=pre.length+rest.length:=by rw [hk];simp
   cases rest with
   | nil =>
    have hno:¬ ((pre.length:Int)<ks.length):=by rw [hkl];simp
    rw [← ht];simp only [KZ,Kd,K4,Lu,KA,LF,Lv,Lq,S63,↓XX,XY,↓reduceIte,Nat.reduceBEq,Nat.reduceAdd,Int.reduceEq,Int.reduceLT,Int.reduceLE,hno,Tm.shapedL];exact Ao _ _
   | cons t rest =>
    have hi:(pre.length:Int)<ks.length:=by rw [hkl];simp;omega
    have hg:=Cg hk;have htw:=BO (t:=t) (l:=ks) (by rw [hk];simp);have hs:=ih t (by omega) (by omega);have hwi:BI ((pre.length:Int)+1)=((pre++[t]).length:Int):=(Av (by omega) (by omega)).trans (by simp);simp only [Tm.shapedL] at ht;generalize t.shaped=v at hs ht;obtain ⟨o,p,l⟩:=t;simp only [Aw0] at hl;rw [Ai] at hs;cases v
    ·rw [← ht];simp only [KZ,Kd,K4,Lu,KA,LF,Lv,Lq,S63,↓XX,XY,↓reduceIte,Nat.reduceBEq,Nat.reduceAdd,Int.reduceEq,Int.reduceLT,Int.reduceLE,hi,↓Bq (AP hg) (Ba _ _ _),↓Ce,hwi,↓As hs,Bool.false_and];exact Ao _ _
    ·simp only [KZ,Kd,K4,Lu,KA,LF,Lv,Lq,S63,↓XX,XY,↓reduceIte,Nat.reduceBEq,Nat.reduceAdd,Int.reduceEq,Int.reduceLT,Int.reduceLE,hi,↓Bq (AP hg) (Ba _ _ _),↓Ce,hwi,↓As hs,↓AC,XD,heldB,AN,XE];refine hrec rest.length _ _ (by omega) ?_;exact ⟨pre++[.mk o p l],rest,by rw [hk];simp,rfl,rfl,rfl,by simpa using ht⟩
  by_cases h0:0≤Hx op
  ·by_cases h1:Hx op=ks.length
   ·by_cases h2:op=1
    ·exfalso;subst h2;revert h0;decide
    ·have e1:(!(decide (0≤Hx op∧Hx op≠ks.length) || decide (op=1∧m<0)) && Tm.shapedL ks)=Tm.shapedL ks:=by simp [h1,h2]
     rw [e1];have h0':(0:Int)≤ks.length:=by omega
     rw [h1] at hk;simp only [↓Ahe,↓XX,XY,↓reduceIte,Nat.reduceBEq,Nat.reduceAdd,Int.reduceEq,Int.reduceLT,Int.reduceLE,↓As hk,h0',h2,↓AC,XD,heldB,AN,XE];exact loop
   ·have e1:(!(decide (0≤Hx op∧Hx op≠ks.length) || decide (op=1∧m<0)) && Tm.shapedL ks)=false:=by simp [h0,h1]
    rw [e1];simp only [↓Ahe,↓XX,XY,↓reduceIte,Nat.reduceBEq,Nat.reduceAdd,Int.reduceEq,Int.reduceLT,Int.reduceLE,↓As hk,h0,h1];exact Ao _ _
  ·by_cases h2:op=1
   ·subst h2;by_cases h3:m<0
    ·have e1:(!(decide (0≤Hx 1∧Hx 1≠ks.length) || decide ((1:Int)=1∧m<0)) && Tm.shapedL ks)=false:=by simp [h3]
     rw [e1];simp only [↓Ahe,↓XX,XY,↓reduceIte,Nat.reduceBEq,Nat.reduceAdd,Int.reduceEq,Int.reduceLT,Int.reduceLE,↓As hk,h0,h3];exact Ao _ _
    ·have e1:(!(decide (0≤Hx 1∧Hx 1≠ks.length) || decide ((1:Int)=1∧m<0)) && Tm.shapedL ks)=Tm.shapedL ks:=by simp [h0,h3]
     rw [e1];simp only [↓Ahe,↓XX,XY,↓reduceIte,Nat.reduceBEq,Nat.reduceAdd,Int.reduceEq,Int.reduceLT,Int.reduceLE,↓As hk,h0,h3,↓AC,XD,heldB,AN,XE];exact loop
   ·have e1:(!(decide (0≤Hx op∧Hx op≠ks.length) || decide (op=1∧m<0)) && Tm.shapedL ks)=Tm.shapedL ks:=by simp [h0,h2]
    rw [e1];simp only [↓Ahe,↓XX,XY,↓reduceIte,Nat.reduceBEq,Nat.reduceAdd,Int.reduceEq,Int.reduceLT,Int.reduceLE,↓As hk,h0,h2,↓AC,XD,heldB,AN,XE];exact loop
theorem AkH {op:Int} {r:Nat} (h:ar op=some r):¬ (0≤Hx op∧Hx op≠(r:Int)):=by
 unfold Hx;by_cases h1:op=8∨op=9∨op=12∨op=19∨op=30
 ·rw [if_pos h1];rcases h1 with rfl | rfl | rfl | rfl | rfl<;>(cases (show r=1 from by have:=h;revert this;simp [ar];omega);decide)
 ·rw [if_neg h1];by_cases h2:op=4∨op=5
  ·rw [if_pos h2];rcases h2 with rfl | rfl<;>(cases (show r=2 from by have:=h;revert this;simp [ar];omega);decide)
  ·rw [if_neg h2];by_cases h7:op=7
   ·subst h7;cases (show r=3 from by have:=h;revert this;simp [ar];omega);decide
   ·rw [if_neg h7];by_cases h13:op=13
    ·subst h13;cases (show r=4 from by have:=h;revert this;simp [ar];omega);decide
    ·rw [if_neg h13];omega
mutual
theorem Mq:∀(t:Tm) (k:Nat),t.sc k→t.shaped=true
 | .mk op n ks,k,h=>by
  rw [Tm.sc] at h;rw [Tm.shaped,scL_shaped op 0 ks k h.2.2];have h1:=AkH h.1;have h2:¬ (op=1∧n<0):=by
   rintro ⟨rfl,h3⟩
   have:=h.2.1
   rw [if_pos rfl] at this;omega
  rw [decide_eq_false h1,decide_eq_false h2];rfl
theorem scL_shaped:∀(op:Int) (i:Nat) (l:List Tm) (k:Nat),Tm.scL op i l k→Tm.shapedL l=true
 | _,_,[],_,_=>by rw [Tm.shapedL]
 | op,i,t::l,k,h=>by
  rw [Tm.scL] at h;rw [Tm.shapedL,Mq t _ h.1,scL_shaped op (i+1) l k h.2];rfl
end
def Y4 (f:Nat) (t:Tm):Option (Tm×Int) :=
 if t.shaped=false then some (.z,1) else match SC f [] t ⟨100000,5000000,0⟩ with
 | none=>none
 | some (v,m)=>if m.e≠0 then some (.z,m.e) else match Ve f v 0 1 m 0 with
  | none=>none
  | some (u,m,_)=>if m.e≠0 then some (.z,m.e) else some (u,0)
theorem Aib {ih:Aa} {f:FuncId} {args:List IV} {h h':Hp} {v:IV} (hr:ih f args h=some (v,h')) (k:IV→Hp→List Ref→List Ref→Option (IV×Hp)):AgC ih f args h k=k v h' [] []:=by
 unfold AgC;rw [hr]
abbrev Hnm (a b:Blk) (s u r e:Int):Hp :=
 ⟨[(57671680,a),(57671681,b),(67109889,.row [iv s,iv u,iv r,iv e,.mapr (.own 67110913)] false),(67110913,.map (C4 67109889))],[]⟩
abbrev Hbg (a b:Blk) (es:List (Int×IV)):Hp :=
 ⟨[(57671680,a),(57671681,b),(67109889,.row [iv 100000,iv 5000000,iv 0,iv 0,.dead] false),(67110913,.map es)],[]⟩
abbrev fnO (g:FuncId):IV:=.func (.func g) [.ptr (.own 67109889) 0] []
theorem Qi (a b:Blk) (es:List (Int×IV)) (g:FuncId) (n:Int) (s:Nat) (k:IV→Hp→List Ref→List Ref→Option (IV×Hp)) :
  Az (Cc EE 100 (.mapr (.own 67110913)) (iv n) (Fg 67109889 g)) s (Hbg a b es) k=k .dead (Hbg a b (Cr n (Fg 67109889 g) es)) [.own 67110913] [.own 67110913]:=by
 rw [ArM _ 0 _ rfl,Bk];rw [show Ap 67110913 (Hbg a b es).own=some (.map es) from rfl,Option.bind_some,Ahx,Bt]
 rfl
theorem Qf (g:FuncId) (k:IV→Option (IV×Hp)):BD [.fv .nilf] [(0,1,fnO g)] k=k (Fg 67109889 g):=rfl
theorem AhB (a b:Blk) (es:List (Int×IV)):Ub (.ptr (.own 67109889) 0) (Hbg a b es) (.mapr (.own 67110913))=some (.ptr (.own 67109889) 0,⟨[(57671680,a),(57671681,b),(67109889,.row [iv 100000,iv 5000000,iv 0,iv 0,.mapr (.own 67110913)] false),(67110913,.map es)],[]⟩):=by
 simp only [Ub,↓XX,XY,↓reduceIte,Nat.reduceBEq,Nat.reduceAdd,Int.reduceEq,Int.reduceLT,Int.reduceLE,↓Alm,↓of4]
theorem Ms (g:FuncId) (s:Nat) (h:Hp) (k:IV→Hp→List Ref→List Ref→Option (IV×Hp)):Az (Idl.val (CR (.func g) [.ptr (.own 67109889) 0] [])) s h k=k (fnO g) h [] []:=gen_val' _ _ _ _
theorem Aij (a b:Blk) (es:List (Int×IV)):TX (fnO 75) (Hbg a b es) (.mapr (.own 67110913)) (.ptr (.own 67109889) 0) =
  Ub (.ptr (.own 67109889) 0) (Hbg a b (Cr 19 (Fg 67109889 76) (Cr 30 (Fg 67109889 75) es))) (.mapr (.own 67110913)):=by
 unfold TX;rw [Qf,Qi,Ms,Qf,Qi]
theorem Ai5 (a b:Blk) (es:List (Int×IV)):SF (Hbg a b es) (.mapr (.own 67110913)) (Fg 67109889 73) (.ptr (.own 67109889) 0) =
  TX (fnO 75) (Hbg a b (Cr 13 (Fg 67109889 74) (Cr 9 (Fg 67109889 73) es))) (.mapr (.own 67110913)) (.ptr (.own 67109889) 0):=by
 unfold SF;rw [Qi,Ms,Qf,Qi,Ms]
theorem Ajp (a b:Blk) (es:List (Int×IV)):Wo (Hbg a b es) (.ptr (.own 67109889) 0) (.mapr (.own 67110913)) =
  SF (Hbg a b (Cr 8 (Fg 67109889 73) es)) (.mapr (.own 67110913)) (Fg 67109889 73) (.ptr (.own 67109889) 0):=by
 unfold Wo;rw [Ms,Qf,Qi,Ms,Qf]
theorem Asj (k:IV→Option (IV×Hp)):BD [.fv (.int .i64 0),.fv (.int .i64 0),.fv (.int .i64 0),.fv (.int .i64 0),.dead] [(0,1,.fv (.int .i64 100000)),(1,1,.fv (.int .i64 5000000))] k=k (.agg [iv 100000,iv 5000000,iv 0,iv 0,.dead]):=by
 simp only [↓XX,XY,↓reduceIte,Nat.reduceBEq,Nat.reduceAdd,Int.reduceEq,Int.reduceLT,Int.reduceLE,↓Aji]
theorem R6 {n:Nat} (hn:0<n) (a b:Blk):SS dt n 64 [] ⟨[(57671680,a),(57671681,b)],[]⟩=some (.ptr (.own 67109889) 0,Hnm a b 100000 5000000 0 0):=by
 obtain ⟨n,rfl⟩:∃k,n=k+1:=⟨n - 1,by omega⟩;rw [c64];unfold S64;rw [Asj,VN];have e1:∀k:IV→Hp→List Ref→List Ref→Option (IV×Hp),AJ 67109889 (.row [iv 100000,iv 5000000,iv 0,iv 0,.dead] false) (.ptr (.own 67109889) 0) ⟨[(57671680,a),(57671681,b)],[]⟩ k =
   k (.ptr (.own 67109889) 0) ⟨[(57671680,a),(57671681,b),(67109889,.row [iv 100000,iv 5000000,iv 0,iv 0,.dead] false)],[]⟩ [] [.own 67109889]:=by
  intro k;simp only [↓XX,XY,↓reduceIte,Nat.reduceBEq,Nat.reduceAdd,Int.reduceEq,Int.reduceLT,Int.reduceLE]
 rw [e1];have e2:∀k:IV→Hp→List Ref→List Ref→Option (IV×Hp),Az (GW 67110913) 67110913 ⟨[(57671680,a),(57671681,b),(67109889,.row [iv 100000,iv 5000000,iv 0,iv 0,.dead] false)],[]⟩ k =
   k (.mapr (.own 67110913)) (Hbg a b []) [] [.own 67110913]:=by
  intro k;rw [Aur];simp only [↓XX,XY,↓reduceIte,Nat.reduceBEq,Nat.reduceAdd,Int.reduceEq,Int.reduceLT,Int.reduceLE]
 rw [e2,Ms,Qf,Qi,Ajp,Ai5,Aij,AhB];rfl
section
variable {ih:Aa} {f:FuncId} {w:FV} {a b:Blk} {s u r e s' u' r' e':Int} (k:IV→Hp→List Ref→List Ref→Option (IV×Hp))
theorem AmT (args:List IV) (ks:List Bool) (hks:∀b∈ks,b=false) {vs:List FV} (hz:By args=some vs) (hr:Bx (ih f (.ptr (.ext 0) 0::vs.map .fv) ⟨[],MX s u r e⟩) w (MX s' u' r' e')) :
  Al (true::ks) false false ih f (.ptr (.own 67109889) 0::args) (Hnm a b s u r e) k=k (.fv w) (Hnm a b s' u' r' e') [.own 67110913,.own 67109889] [.own 67109889,.own 67110913]:=by
 rw [Aqm hks hz (mp:=67110913) (by decide) (by rfl) (by rfl) hr];rfl
theorem WK {x y:IV} {vx vy:FV} (hr:Bx (ih f [.ptr (.ext 0) 0,.fv vx,.fv vy] ⟨[],MX s u r e⟩) w (MX s' u' r' e')) (hx:A9 x=some vx) (hy:A9 y=some vy) :
  Al [true,false,false] false false ih f [.ptr (.own 67109889) 0,x,y] (Hnm a b s u r e) k=k (.fv w) (Hnm a b s' u' r' e') [.own 67110913,.own 67109889] [.own 67109889,.own 67110913] :=
 AmT k [x,y] [false,false] (by simp) (WU hx hy) hr
theorem AiT {x y z:IV} {vx vy vz:FV} (hr:Bx (ih f [.ptr (.ext 0) 0,.fv vx,.fv vy,.fv vz] ⟨[],MX s u r e⟩) w (MX s' u' r' e')) (hx:A9 x=some vx) (hy:A9 y=some vy) (hz:A9 z=some vz) :
  Al [true,false,false,false] false false ih f [.ptr (.own 67109889) 0,x,y,z] (Hnm a b s u r e) k=k (.fv w) (Hnm a b s' u' r' e') [.own 67110913,.own 67109889] [.own 67109889,.own 67110913] :=
 AmT k [x,y,z] [false,false,false] (by simp) (Ae2 hx hy hz) hr
end
set_option maxRecDepth 20000 in
set_option maxHeartbeats 1000000 in
theorem AiQ {f n:Nat} {t u:Tm} {e:Int} (h:Y4 f t=some (u,e)) (hn:f+3≤n) (hw:t.wt+3<n) (hw2:t.wt≤1152921504606846976):Bl (SS dt n 55 [.fv t.enc] ⟨[],[]⟩) (.tuple [u.enc,.int .i64 e]):=by
 obtain ⟨n,rfl⟩:∃k,n=k+1:=⟨n - 1,by omega⟩;rw [c55];have hs:=QA n t (by omega) hw2;unfold Y4 at h;obtain ⟨op,m,ks⟩:=t;rw [Ai] at hs ⊢;by_cases h0:(Tm.mk op m ks).shaped=false
 ·rw [if_pos h0] at h;simp only [AwW,AwX] at h;obtain ⟨rfl,rfl⟩:=h;rw [h0] at hs;simp only [Pu,Pb,Oq,Pg,Oj,Pw,OF,OI,Px,OP,S55,↓XX,XY,↓reduceIte,Nat.reduceBEq,Nat.reduceAdd,Int.reduceEq,Int.reduceLT,Int.reduceLE,↓As hs];exact AV rfl (by simp) _
 ·rw [if_neg h0] at h;have h0:(Tm.mk op m ks).shaped=true:=by simpa using h0
  rw [h0] at hs;cases hev:SC f [] (.mk op m ks) ⟨100000,5000000,0⟩ with
  | none=>rw [hev] at h;cases h
  | some q =>
   obtain ⟨v,m1⟩:=q;rw [hev] at h;simp only at h;have hc1:=(M6 f).1 _ _ _ _ _ hev 0 n (by omega);rw [Ai,Vm] at hc1;by_cases h1:m1.e=0
   ·rw [if_neg (by simpa using h1)] at h;simp only [h1] at hc1;cases hbk:Ve f v 0 1 m1 0 with
    | none=>rw [hbk] at h;cases h
    | some q =>
     obtain ⟨u1,m2,r2⟩:=q;rw [hbk] at h;simp only at h;have hc2:=AmC f _ _ _ _ _ _ _ _ hbk n (by omega);obtain ⟨o1,n1,k1⟩:=u1;rw [Ai] at hc2;simp only [h1] at hc2;by_cases h2:m2.e=0
     ·rw [if_neg (by simpa using h2)] at h;simp only [AwW,AwX] at h;obtain ⟨rfl,rfl⟩:=h;rw [Ai];simp only [Pu,Pb,Oq,Pg,Oj,Pw,OF,OI,Px,OP,S55,↓XX,XY,↓reduceIte,Nat.reduceBEq,Nat.reduceAdd,Int.reduceEq,Int.reduceLT,Int.reduceLE,↓As hs,↓Aib (R6 (n:=n) (by omega) _ _),↓WK _ hc1,↓AiT _ hc2,h1,h2];exact Ao _ _
     ·rw [if_pos h2] at h;simp only [AwW,AwX] at h;obtain ⟨rfl,rfl⟩:=h;simp only [Pu,Pb,Oq,Pg,Oj,Pw,OF,OI,Px,OP,S55,↓XX,XY,↓reduceIte,Nat.reduceBEq,Nat.reduceAdd,Int.reduceEq,Int.reduceLT,Int.reduceLE,↓As hs,↓Aib (R6 (n:=n) (by omega) _ _),↓WK _ hc1,↓AiT _ hc2,h1,h2];exact AV rfl (by simp) _
   ·rw [if_pos h1] at h;simp only [AwW,AwX] at h;obtain ⟨rfl,rfl⟩:=h;simp only [Pu,Pb,Oq,Pg,Oj,Pw,OF,OI,Px,OP,S55,↓XX,XY,↓reduceIte,Nat.reduceBEq,Nat.reduceAdd,Int.reduceEq,Int.reduceLT,Int.reduceLE,↓As hs,↓Aib (R6 (n:=n) (by omega) _ _),↓WK _ hc1,h1];exact AV rfl (by simp) _
end Idl
end Go.Proofs.Ytaifgaidaglblaa
namespace Go.Proofs.Ytaifgaidaglblaa
namespace Idl
mutual
def Tm.surf:Tm→Nat
 | .mk op _ ks=>1+Tm.surfL op 0 ks
def Tm.surfL:Int→Nat→List Tm→Nat
 | _,_,[]=>0
 | op,i,t::l=>(if 0<Ae op i then 0 else t.surf)+Tm.surfL op (i+1) l
end
mutual
def Tm.inn:Tm→Nat
 | .mk op _ ks=>Tm.innL op 0 ks
def Tm.innL:Int→Nat→List Tm→Nat
 | _,_,[]=>0
 | op,i,t::l=>(if 0<Ae op i then t.wt else t.inn)+Tm.innL op (i+1) l
end
mutual
theorem OV:∀t:Tm,t.surf+t.inn=t.wt
 | .mk op n ks=>by
  have:=surfL_innL op 0 ks
  simp only [Tm.surf,Tm.inn,Tm.wt];omega
theorem surfL_innL:∀(op:Int) (i:Nat) (l:List Tm),Tm.surfL op i l+Tm.innL op i l=Tm.wtL l
 | _,_,[]=>rfl
 | op,i,t::l=>by
  have h1:=OV t;have h2:=surfL_innL op (i+1) l;simp only [Tm.surfL,Tm.innL,Tm.wtL];split<;>omega
end
mutual
def RV.vsz:RV→Nat
 | .mk op _ k _ _=>1+RV.vszL op 0 k
def RV.vszL:Int→Nat→List RV→Nat
 | _,_,[]=>0
 | op,i,v::l=>(if 0<Ae op i then 0 else v.vsz)+RV.vszL op (i+1) l
end
theorem Yi (v:RV):1≤v.vsz:=by obtain ⟨op,n,k,env,b⟩:=v;rw [RV.vsz];omega
inductive Rel (B:Nat):PV→RV→Prop
 | var (n:Int):Rel B (.var n) (.var n)
 | node (op n n':Int) (kp:List PV) (kr:List RV) (ts:List Tm) (e:List PV) (env:List RV) (h1:op≠1) (har:ar op=some ts.length) (hl:kp.length=ts.length) (hl2:kr.length=ts.length)
   (hk:∀i p r,Ae op i=0→kp[i]?=some p→kr[i]?=some r→Rel B p r)
   (hb:∀i b,0<Ae op i→ts[i]?=some b→(b.good∧b.wt≤B)∧kp[i]?=some .nil∧kr[i]?=some (.clo env b))
   (hel:e.length=env.length) (he:∀(i:Nat) p r,e[i]?=some p→env.reverse[i]?=some r→Rel B p r):Rel B (.mk op n kp (.mk op n' ts) e) (.node op n kr)
def GI (B:Nat) (e:List PV) (env:List RV):Prop:=e.length=env.length∧∀(i:Nat) p r,e[i]?=some p→env.reverse[i]?=some r→Rel B p r
theorem Oa {B:Nat} {p:PV} {r:RV} (h:Rel B p r):∃op n k t e,p=.mk op n k t e∧r.op=op∧r.n=n:=by
 cases h with
 | var n=>exact ⟨_,_,_,_,_,rfl,rfl,rfl⟩
 | node=>exact ⟨_,_,_,_,_,rfl,rfl,rfl⟩
theorem Xw (B:Nat):GI B [] []:=⟨rfl,fun i p r h=>by simp at h⟩
theorem W9 {B:Nat} {e l:List PV} {env l':List RV} (h:GI B e env) (hl:l.length=l'.length) (hr:∀(i:Nat) p r,l[i]?=some p→l'[i]?=some r→Rel B p r):GI B (l.reverse++e) (env++l'):=by
 refine ⟨by simp [h.1,hl,Nat.add_comm],?_⟩;intro i p r hp hr';rw [List.reverse_append] at hr';by_cases hi:i<l.length
 ·rw [List.getElem?_append_left (by simpa using hi),List.getElem?_reverse hi] at hp;rw [List.getElem?_append_left (by simp;omega),List.getElem?_reverse (by omega)] at hr';exact hr _ _ _ hp (by rw [hl];exact hr')
 ·rw [List.getElem?_append_right (by simp;omega),List.length_reverse] at hp;rw [List.getElem?_append_right (by simp;omega),List.length_reverse,← hl] at hr';exact h.2 _ _ _ hp hr'
theorem AkS {B:Nat} {e:List PV} {env:List RV} (h:GI B e env) {m:Int} (h0:0≤m) (hm:m<env.length) {r:RV} (hr:env[(env.length - 1 - m).toNat]?=some r):Rel B (Gg e m) r:=by
 rw [Gg,if_pos (by rw [h.1];exact hm)];have hi:m.toNat<e.length:=by rw [h.1];omega
 rw [List.getD_eq_getElem?_getD,List.getElem?_eq_getElem hi];refine h.2 m.toNat _ _ (List.getElem?_eq_getElem hi) ?_;rw [List.getElem?_reverse (by omega),show env.length - 1 - m.toNat=(env.length - 1 - m).toNat by omega]
 exact hr
def sl (t:Tm) (v:RV):Nat:=if t.op=19∧v.op=19 then 1 else if t.op=30∧v.op=30 then 0 else if t.badR=true then 2 else 3
theorem V9 (t:Tm) (v:RV):sl t v≤3:=by unfold sl;split;omega;split;omega;split<;>omega
structure Cost (t:Tm) (v:RV) (k c u:Nat):Prop where
 le:c≤t.surf+k * t.inn
 p:5 * u≤3 * c+10 * k
 q:5 * u+sl t v≤3 * c+10 * k
 v:k=0→t.surf≤v.vsz
structure MOk (m:M3) (k T:Nat):Prop where
 e:m.e=0
 w:(T:Int)≤m.w
 w2:m.w≤5000000
 s:(k:Int)≤m.s
 s2:m.s≤100000
def GO (m:M3) (k T:Nat):M3:=⟨m.s - k,m.w - T,0⟩
theorem Fr (m:M3) (k1 T1 k2 T2:Nat):GO (GO m k1 T1) k2 T2=GO m (k1+k2) (T1+T2):=by
 simp only [GO,M3.mk.injEq,and_true];omega
theorem Pc {m:M3} {k1 T1 k2 T2:Nat} (h:MOk m (k1+k2) (T1+T2)):MOk m k1 T1:=⟨h.e,by have:=h.w;omega,h.w2,by have:=h.s;omega,h.s2⟩
theorem JB {m:M3} {k1 T1 k2 T2:Nat} (h:MOk m (k1+k2) (T1+T2)):MOk (GO m k1 T1) k2 T2:=⟨rfl,by have:=h.w;simp only [GO];omega,by have:=h.w2;simp only [GO];omega,by have:=h.s;simp only [GO];omega,by have:=h.s2;simp only [GO];omega⟩
theorem OM {m:M3} {k T:Nat} (h:MOk m k (1+T)):HN m=some (GO m 0 1):=by
 have h1:=h.w;have h2:=h.w2;have h3:=h.e;rw [HN,if_neg (by omega),if_neg (by omega),h3];simp only [GO,AwW,M3.mk.injEq,and_true];omega
def AgD (B:Nat) (e:List PV) (t:Tm) (v:RV) (k T:Nat):Prop:=∃v',Rel B v' v∧∃F,∀f,F≤f→∀m,MOk m k T→SC f e t m=some (v',GO m k T)
def ZS (B f:Nat):Prop:=∀(s:Int) (t:Tm) (env:List RV) (v:RV) (s':Int),Au f s 0 t env=some (v,s',0)→t.good→t.wt≤B→∀e,GI B e env→∃k c u T:Nat,s'=s+k∧Cost t v k c u∧T≤c+u+2 * k∧AgD B e t v k T
def He (op:Int):Nat→List Tm→List RV→Nat
 | _,[],_=>0
 | _,_::_,[]=>0
 | i,t::l,v::vs=>(if 0<Ae op i then 0 else sl t v)+He op (i+1) l vs
theorem Yn (k1 k2 a b:Nat):k1 * a+k2 * b≤(k1+k2) * (a+b):=by
 rw [Nat.add_mul,Nat.mul_add,Nat.mul_add];have h1:0≤k1 * b:=Nat.zero_le _;have h2:0≤k2 * a:=Nat.zero_le _;omega
theorem Ox {B f:Nat} (ih:ZS B f) (op:Int) (env:List RV) (e:List PV) (he:GI B e env):∀(l:List Tm) (i:Nat) (s:Int) (vs:List RV) (s':Int),AL (fun s e t=>Au f s e t env) op env i l s 0=some (vs,s',0)→Tm.goodL l→Tm.wtL l≤B →
  ∃k c u T:Nat,s'=s+k∧c≤Tm.surfL op i l+k * Tm.innL op i l∧5 * u+He op i l vs≤3 * c+10 * k∧(k=0→Tm.surfL op i l≤RV.vszL op i vs)∧T≤c+u+2 * k∧vs.length=l.length ∧
   ∃ps:List PV,ps.length=l.length∧(∀j t,l[j]?=some t→0<Ae op (i+j)→ps[j]?=some .nil∧vs[j]?=some (.clo env t))∧(∀j p r,Ae op (i+j)=0→ps[j]?=some p→vs[j]?=some r→Rel B p r) ∧
    (∀j t r,l[j]?=some t→Ae op (i+j)=0→vs[j]?=some r→∃s1 s2,Au f s1 0 t env=some (r,s2,0))∧∃F,∀g,F≤g→∀m,MOk m k T→SR (fun t m=>SC g e t m) op i l m=some (ps,GO m k T)
 | [],i,s,vs,s',h,_,_=>by
  simp only [AL,AwW,AwX] at h;obtain ⟨rfl,rfl,_⟩:=h;refine ⟨0,0,0,0,by omega,by omega,by rw [He];omega,fun _=>by rw [Tm.surfL,RV.vszL];omega,by omega,rfl,[],rfl,fun j t h=>by simp at h,fun j p r _ h=>by simp at h,fun j t r h=>by simp at h,0,fun g _ m hm=>?_⟩
  have:GO m 0 0=m:=by
   obtain ⟨a,b,c⟩:=m
   have:=hm.e
   simp only at this;subst this;simp [GO]
  rw [SR,this]
 | t::l,i,s,vs,s',h,hg,hw=>by
  rw [Tm.goodL] at hg;rw [Tm.wtL] at hw;simp only [AL] at h;by_cases hb:0<Ae op i
  ·rw [if_pos hb] at h;cases hk:AL (fun s e t=>Au f s e t env) op env (i+1) l s 0 with
   | none=>rw [hk] at h;cases h
   | some q =>
    obtain ⟨vs1,s1,e1⟩:=q;rw [hk] at h;simp only [AwZ,AwW,AwX] at h;obtain ⟨rfl,rfl,rfl⟩:=h;obtain ⟨k,c,u,T,h1,h2,h3,h4,h5,h6,ps,h7,h8,h9,h10,F,h11⟩:=Ox ih op env e he l (i+1) s vs1 s1 hk hg.2 (by omega);refine ⟨k,c,u,T,h1,?_,?_,?_,h5,by simp [h6],.nil::ps,by simp [h7],?_,?_,?_,F,?_⟩
    ·rw [Tm.surfL,Tm.innL,if_pos hb,if_pos hb]
     have:=Yn 0 k t.wt (Tm.innL op (i+1) l)
     rw [Nat.zero_mul,Nat.zero_add,Nat.zero_add] at this;omega
    ·rw [He,if_pos hb];omega
    ·intro hk0;rw [Tm.surfL,RV.vszL,if_pos hb,if_pos hb]
     have:=h4 hk0
     omega
    ·intro j x hj hbj;cases j with
     | zero =>
      simp only [List.getElem?_cons_zero,AwW] at hj;subst hj;exact ⟨rfl,rfl⟩
     | succ j =>
      rw [List.getElem?_cons_succ] at hj;rw [List.getElem?_cons_succ,List.getElem?_cons_succ];exact h8 j x hj (by rwa [show i+1+j=i+(j+1) by omega])
    ·intro j p r hbj hp hr;cases j with
     | zero=>rw [Nat.add_zero] at hbj;omega
     | succ j =>
      rw [List.getElem?_cons_succ] at hp hr;exact h9 j p r (by rwa [show i+1+j=i+(j+1) by omega]) hp hr
    ·intro j x r hj hbj hr;cases j with
     | zero=>rw [Nat.add_zero] at hbj;omega
     | succ j =>
      rw [List.getElem?_cons_succ] at hj hr;exact h10 j x r hj (by rwa [show i+1+j=i+(j+1) by omega]) hr
    ·intro g hgF m hm;rw [SR,if_pos hb,h11 g hgF m hm];rfl
  ·rw [if_neg hb] at h;split at h
   ·cases h
   ·rename_i v s1 e1 hev;cases hk:AL (fun s e t=>Au f s e t env) op env (i+1) l s1 e1 with
    | none=>rw [hk] at h;cases h
    | some q =>
     obtain ⟨vs1,s2,e2⟩:=q;rw [hk] at h;simp only [AwZ,AwW,AwX] at h;obtain ⟨rfl,rfl,rfl⟩:=h;have h0:=Fa _ (fun s e t v s' h=>B4 h) op env l _ _ _ _ _ hk;subst h0;obtain ⟨k1,c1,u1,T1,a1,a2,a3,p1,a4,F1,a5⟩:=ih s t env v s1 hev hg.1 (by omega) e he;obtain ⟨k,c,u,T,h1,h2,h3,h4,h5,h6,ps,h7,h8,h9,h10,F,h11⟩:=Ox ih op env e he l (i+1) s1 vs1 s2 hk hg.2 (by omega);have ac:=a2.le;have ap:=a2.p;have aq:=a2.q;refine ⟨k1+k,c1+c,u1+u,T1+T,by omega,?_,?_,?_,by omega,by simp [h6],p1::ps,by simp [h7],?_,?_,?_,F1+F,?_⟩
     ·rw [Tm.surfL,Tm.innL,if_neg hb,if_neg hb]
      have:=Yn k1 k t.inn (Tm.innL op (i+1) l)
      omega
     ·rw [He,if_neg hb];omega
     ·intro hk0;rw [Tm.surfL,RV.vszL,if_neg hb,if_neg hb]
      have:=h4 (by omega)
      have:=a2.v (by omega)
      omega
     ·intro j x hj hbj;cases j with
      | zero=>rw [Nat.add_zero] at hbj;exact absurd hbj hb
      | succ j =>
       rw [List.getElem?_cons_succ] at hj;rw [List.getElem?_cons_succ,List.getElem?_cons_succ];exact h8 j x hj (by rwa [show i+1+j=i+(j+1) by omega])
     ·intro j p r hbj hp hr;cases j with
      | zero =>
       simp only [List.getElem?_cons_zero,AwW] at hp hr;subst hp hr;exact a4
      | succ j =>
       rw [List.getElem?_cons_succ] at hp hr;exact h9 j p r (by rwa [show i+1+j=i+(j+1) by omega]) hp hr
     ·intro j x r hj hbj hr;cases j with
      | zero =>
       simp only [List.getElem?_cons_zero,AwW] at hj hr;subst hj hr;exact ⟨_,_,hev⟩
      | succ j =>
       rw [List.getElem?_cons_succ] at hj hr;exact h10 j x r hj (by rwa [show i+1+j=i+(j+1) by omega]) hr
     ·intro g hgF m hm;rw [SR,if_neg hb,a5 g (by omega) m (Pc hm)];simp only;rw [h11 g (by omega) _ (JB hm),Fr];rfl
theorem I8 {B:Nat} {p:PV} {r:RV} (h:Rel B p r) (h1:r.op≠1):∃n' kp ts e env,p=.mk r.op r.n kp (.mk r.op n' ts) e∧ar r.op=some ts.length∧kp.length=ts.length∧r.k.length=ts.length ∧
  (∀i p' r',Ae r.op i=0→kp[i]?=some p'→r.k[i]?=some r'→Rel B p' r') ∧
  (∀i b,0<Ae r.op i→ts[i]?=some b→(b.good∧b.wt≤B)∧kp[i]?=some .nil∧r.k[i]?=some (.clo env b))∧GI B e env:=by
 cases h with
 | var n=>exact absurd rfl h1
 | node op n n' kp kr ts e env h1 har hl hl2 hk hb hel he=>exact ⟨n',kp,ts,e,env,rfl,har,hl,hl2,hk,hb,hel,he⟩
theorem QR {m:M3} (h:m.e=0):GO m 0 0=m:=by
 obtain ⟨a,b,c⟩:=m;simp only at h;subst h;simp [GO]
theorem AhE {op:Int} {r:Nat} (h:ar op=some r):r≤4:=by
 unfold ar at h
 repeat' split at h
 all_goals first | (simp only [AwW] at h;omega) | cases h
theorem At9 (g:Nat) (n:Int) (o0 n0:Int) (k0:List PV) (t0:Tm) (e0:List PV) (x:PV) (t:Tm) (e:List PV) (m:M3):stP (g+1) (.mk 5 n [.mk o0 n0 k0 t0 e0,x] t e) m=if o0=4 then opP g (.mk o0 n0 k0 t0 e0) 1 [x] m else some (.nil,m):=by
 rw [stP.eq_def];simp only [if_true]
theorem Asu (g:Nat) (op n:Int) (h:op=8∨op=9) (n0:Int) (a x y:PV) (t0:Tm) (e0:List PV) (t:Tm) (e:List PV) (m:M3):stP (g+1) (.mk op n [.mk 7 n0 [a,x,y] t0 e0] t e) m=some (if op=8 then x else y,m):=by
 rw [stP.eq_def];simp only;rw [if_neg (by omega),if_pos h,if_true]
theorem Api (g:Nat) (n:Int) (p0 z p2:PV) (n3:Int) (k3:List PV) (t3:Tm) (e3:List PV) (t:Tm) (e:List PV) (m:M3):stP (g+1) (.mk 13 n [p0,z,p2,.mk 11 n3 k3 t3 e3] t e) m=some (z,m):=by
 rw [stP.eq_def];simp only [Int.reduceEq,if_false,if_true,or_self]
theorem ApY {g:Nat} {n:Int} {p0 z p2:PV} {n3:Int} {x y:PV} {t3:Tm} {e3:List PV} {t:Tm} {e:List PV} {m m':M3} (hc:ctP g (.mk 13 n [.nil,z,.nil,x] t e) m=some (y,m')):stP (g+1) (.mk 13 n [p0,z,p2,.mk 12 n3 [x] t3 e3] t e) m=opP g (.mk 13 n [p0,z,p2,.mk 12 n3 [x] t3 e3] t e) 2 [x,y] m':=by
 rw [stP.eq_def];simp only [Int.reduceEq,if_false,if_true,or_self,hc]
theorem ApU (g:Nat) (n:Int) (p0 z p2:PV) (o3 n3:Int) (k3:List PV) (t3:Tm) (e3:List PV) (t:Tm) (e:List PV) (m:M3) (h11:o3≠11) (h12:o3≠12):stP (g+1) (.mk 13 n [p0,z,p2,.mk o3 n3 k3 t3 e3] t e) m=some (.nil,m):=by
 rw [stP.eq_def];simp only [Int.reduceEq,if_false,if_true,or_self,h11,h12]
theorem Ari (g:Nat) (n:Int) (n0:Int) (x:PV) (t0:Tm) (e0:List PV) (t:Tm) (e:List PV) (m:M3):stP (g+1) (.mk 30 n [.mk 19 n0 [x] t0 e0] t e) m=some (x,m):=by
 rw [stP.eq_def];simp only [Int.reduceEq,if_false,if_true,or_self]
theorem AqD (g:Nat) (n:Int) (o0 n0:Int) (k0:List PV) (t0:Tm) (e0:List PV) (t:Tm) (e:List PV) (m:M3) (h:o0≠19):stP (g+1) (.mk 30 n [.mk o0 n0 k0 t0 e0] t e) m=some (.nil,m):=by
 rw [stP.eq_def];simp only [Int.reduceEq,if_false,if_true,or_self,h]
theorem ArW (g:Nat) (n:Int) (n0:Int) (x:PV) (t0:Tm) (e0:List PV) (t:Tm) (e:List PV) (m:M3):stP (g+1) (.mk 19 n [.mk 30 n0 [x] t0 e0] t e) m=some (x,m):=by
 rw [stP.eq_def];simp only [Int.reduceEq,if_false,if_true,or_self]
theorem Aqg (g:Nat) (n:Int) (o0 n0:Int) (k0:List PV) (t0:Tm) (e0:List PV) (t:Tm) (e:List PV) (m:M3) (h:o0≠30):stP (g+1) (.mk 19 n [.mk o0 n0 k0 t0 e0] t e) m=some (.nil,m):=by
 rw [stP.eq_def];simp only [Int.reduceEq,if_false,if_true,or_self,h]
def HZ (op n:Int) (ps:List PV) (t:Tm) (e:List PV) (v':PV) (k T:Nat):Prop:=∃F,∀g,F≤g→∀m,MOk m k T→ctP g (.mk op n ps t e) m=some (v',GO m k T)
theorem Asr {op n:Int} {ps:List PV} {t:Tm} {e:List PV} (h:CO op=false):HZ op n ps t e (.mk op n ps t e) 0 0:=by
 refine ⟨1,fun g hg m hm=>?_⟩;obtain ⟨g,rfl⟩:∃k,g=k+1:=⟨g - 1,by omega⟩;rw [ctP,h,QR hm.e];rfl
theorem Ou {op n:Int} {ps:List PV} {t:Tm} {e:List PV} (h:CO op=true) (hs:∃F,∀g,F≤g→∀m,stP g (.mk op n ps t e) m=some (.nil,m)):HZ op n ps t e (.mk op n ps t e) 0 1:=by
 obtain ⟨F,hs⟩:=hs;refine ⟨F+2,fun g hg m hm=>?_⟩;obtain ⟨g,rfl⟩:∃k,g=k+1:=⟨g - 1,by omega⟩;rw [ctP,if_pos h,if_neg (fun h=>h hm.e),if_neg (by omega),OM (k:=0) (T:=0) hm];simp only;rw [if_neg (by simp [GO]),hs g (by omega)]
theorem G6 {op n:Int} {ps:List PV} {t:Tm} {e:List PV} {v':PV} {k T:Nat} (h:CO op=true) (hv:v'≠.nil) (hs:∃F,∀g,F≤g→∀m,MOk m k T→stP g (.mk op n ps t e) m=some (v',GO m k T)):HZ op n ps t e v' (k+1) (1+T):=by
 obtain ⟨F,hs⟩:=hs;refine ⟨F+2,fun g hg m hm=>?_⟩;obtain ⟨g,rfl⟩:∃k,g=k+1:=⟨g - 1,by omega⟩;have hm':MOk (GO m 0 1) k T:=JB (k1:=0) (k2:=k) ⟨hm.e,hm.w,hm.w2,by have:=hm.s;omega,hm.s2⟩;rw [ctP,if_pos h,if_neg (fun h=>h hm.e),if_neg (by omega),OM hm];simp only;rw [if_neg (by simp [GO]),hs g (by omega) _ hm',Fr];have h1:=hm.s;have h2:=hm.s2;cases v' with
 | nil=>exact absurd rfl hv
 | mk o1 n1 k1 t1 e1 =>
  simp only;rw [if_neg (by simp [GO]),if_neg (by simp only [GO];omega),if_neg (by simp only [GO];omega)];simp only [GO,AwW,AwX,true_and,M3.mk.injEq,and_true];omega
theorem Xa {B:Nat} {op n n':Int} {ps:List PV} {ts:List Tm} {e:List PV} {i:Nat} {b:Tm} {l:List PV} {v:RV} {k T:Nat} (hb:ts[i]?=some b) (hl:l.length≤2) (h:AgD B (l.reverse++e) b v k T) :
  ∃v',Rel B v' v∧∃F,∀g,F≤g→∀m,MOk m k T→opP g (.mk op n ps (.mk op n' ts) e) i l m=some (v',GO m k T):=by
 obtain ⟨v',hr,F,h⟩:=h;refine ⟨v',hr,F+10,fun g hg m hm=>?_⟩;obtain ⟨g,rfl⟩:∃k,g=k+1:=⟨g - 1,by omega⟩;rw [opP];rw [if_neg (by omega),hb];exact h g (by omega) m hm
theorem MM {B:Nat} {p:PV} {r:RV} (h:Rel B p r):p≠.nil:=by
 obtain ⟨op,n,k,t,e,rfl,_⟩:=Oa h;exact fun h=>by cases h
theorem PL {B f:Nat} (ih:ZS B f) {e l:List PV} {env l':List RV} (he:GI B e env) (hl:l.length=l'.length) (hr:∀(i:Nat) p r,l[i]?=some p→l'[i]?=some r→Rel B p r) {b:Tm} (hg:b.good) (hw:b.wt≤B) {s s':Int} {v:RV}
  (h:Au f s 0 b (env++l')=some (v,s',0)):∃k c u T:Nat,s'=s+k∧Cost b v k c u∧T≤c+u+2 * k∧AgD B (l.reverse++e) b v k T :=
 ih s b _ v s' h hg hw _ (W9 he hl hr)
theorem SD {b:Tm} {v:RV} {k c u:Nat} (h:Cost b v k c u):c≤(k+1) * b.wt:=by
 have h1:=h.le;have h2:=OV b;have h3:k * b.inn≤k * b.wt:=Nat.mul_le_mul_left _ (by omega);rw [Nat.add_mul,Nat.one_mul];omega
theorem AkW {B:Nat}:∀f,(∀g,g<f→ZS B g)→∀(s:Int) (n n0:Int) (env:List RV) (b0 b2:Tm) (vz vn w:RV) (s':Int) (e:List PV) (pz pn:PV) (n':Int) (ts:List Tm),headR f s 0 (.node 13 n0 [.clo env b0,vz,.clo env b2,vn])=some (w,s',0) →
  Rel B pz vz→Rel B pn vn→GI B e env→ts[2]?=some b2→b2.good→b2.wt≤B→(∀pw:PV,Rel B (.mk 13 n [.nil,pz,.nil,pn] (.mk 13 n' ts) e) (.node 13 n0 [.clo env b0,vz,.clo env b2,vn])) →
  (∀(px:PV) (vx:RV),Rel B px vx→Rel B (.mk 13 n [.nil,pz,.nil,px] (.mk 13 n' ts) e) (.node 13 0 [.clo env b0,vz,.clo env b2,vx])) →
  ∃k c u T:Nat,s'=s+k∧c≤k * b2.wt∧5 * u≤3 * c+10 * k∧T≤c+u+2 * k+(if k=0 then 1 else 0)∧(k=0→c=0∧u=0∧w=.node 13 n0 [.clo env b0,vz,.clo env b2,vn]) ∧
   ∃w',Rel B w' w∧HZ 13 n [.nil,pz,.nil,pn] (.mk 13 n' ts) e w' k T:=by
 intro f
 induction f with
 | zero=>intro _ s n n0 env b0 b2 vz vn w s' e pz pn n' ts h;rw [headR] at h;cases h
 | succ f ihf =>
  intro ih s n n0 env b0 b2 vz vn w s' e pz pn n' ts h hz hn he hb2 hg2 hw2 hself hless;obtain ⟨V,hV⟩:∃V,V=RV.node 13 n0 [.clo env b0,vz,.clo env b2,vn]:=⟨_,rfl⟩;have hop:V.op=13:=by rw [hV];rfl
  have hk0:V.k[0]?=some (.clo env b0):=by rw [hV];rfl
  have hk1:V.k[1]?=some vz:=by rw [hV];rfl
  have hk2:V.k[2]?=some (.clo env b2):=by rw [hV];rfl
  have hk3:V.k[3]?=some vn:=by rw [hV];rfl
  rw [← hV] at h hself ⊢;rw [headR] at h;rw [if_neg (by simp)] at h;split at h
  ·cases h
  simp only [hop,if_true] at h;rw [if_neg (by decide),if_neg (by decide),if_neg (by decide),if_neg (by decide),hk0,hk1,hk2,hk3] at h;simp only at h;obtain ⟨on,nn,kn,tn,en,hpn,hon,hnn⟩:=Oa hn;by_cases h11:vn.op=11
  ·rw [if_pos h11] at h;by_cases hs:s+1≤1000
   ·rw [if_pos hs] at h;simp only [AwW,AwX] at h;obtain ⟨rfl,rfl,_⟩:=h;refine ⟨1,0,0,1,rfl,by omega,by omega,by simp,fun h=>by omega,pz,hz,G6 (k:=0) (T:=0) (by decide) (MM hz) ⟨1,fun g hg m hm=>?_⟩⟩;obtain ⟨g,rfl⟩:∃k,g=k+1:=⟨g - 1,by omega⟩;rw [hpn,← hon,h11,Api,QR hm.e]
   ·rw [if_neg hs] at h;simp at h
  ·rw [if_neg h11] at h;by_cases h12:vn.op=12
   ·rw [if_pos h12] at h;by_cases hs:s+1≤1000
    ·rw [if_pos hs] at h;have hvn1:vn.op≠1:=by omega
     obtain ⟨nn',kp,ts',en',envn,hpn',har,hkl,hrl,hkk,_,_⟩:=I8 hn hvn1;rw [h12,show ar 12=some 1 by decide,AwW] at har
     obtain ⟨vx,hvx⟩:=Cu (l:=vn.k) (by omega);obtain ⟨px,hpx⟩:=Cu (l:=kp) (by omega);have hx:Rel B px vx:=hkk 0 px vx (by rw [h12];decide) (by rw [hpx];rfl) (by rw [hvx];rfl);have hv0:(RV.k vn)[0]?=some vx:=by rw [hvx];rfl
     obtain ⟨on2,nn2,kn2,envn2,bn2⟩:=vn;simp only [RV.k] at hv0 h;rw [hv0] at h;simp only at h;split at h
     ·cases h
     rename_i vh s2 e2 hh;split at h
     ·cases h
     rw [show (RV.clo env b2).env=env from rfl,show (RV.clo env b2).b=b2 from rfl] at h
     have he2:=B4 h;subst he2;obtain ⟨k1,c1,u1,T1,a1,a2,a3,a4,a5,w1,a6,F1,a7⟩:=ihf (fun g hg=>ih g (by omega)) (s+1) n 0 env b0 b2 vz vx vh s2 e pz px n' ts hh hz hx he hb2 hg2 hw2 (fun _=>hless px vx hx) hless;obtain ⟨k2,c2,u2,T2,d1,d2,d3,d4⟩:=PL (ih f (by omega)) (l:=[px,w1]) (l':=[vx,vh]) he rfl (by
      intro i p r hp hr
      match i with
      | 0=>simp only [List.getElem?_cons_zero,AwW] at hp hr;subst hp hr;exact hx
      | 1=>simp only [List.getElem?_cons_succ,List.getElem?_cons_zero,AwW] at hp hr;subst hp hr;exact a6
      | i+2=>simp at hp) hg2 hw2 h
     obtain ⟨w2,q1,F2,q2⟩:=Xa (op:=13) (n:=n) (n':=n') (ps:=[.nil,pz,.nil,pn]) hb2 (by simp) d4;have hd:=SD d2;have hdp:=d2.p;refine ⟨k1+k2+1,c1+c2,u1+u2,1+(T1+T2),by omega,?_,by omega,?_,fun h=>by omega,w2,q1,G6 (k:=k1+k2) (T:=T1+T2) (by decide) (MM q1) ⟨F1+F2+2,fun g hg m hm=>?_⟩⟩
     ·have e1:(k1+k2+1) * b2.wt=k1 * b2.wt+(k2+1) * b2.wt:=by rw [show k1+k2+1=k1+(k2+1) by omega,Nat.add_mul]
      omega
     ·rw [if_neg (by omega)];split at a4<;>omega
     ·obtain ⟨g,rfl⟩:∃k,g=k+1:=⟨g - 1,by omega⟩;simp only [RV.op] at h12;subst h12;rw [hpn',hpx];simp only [RV.op,RV.n];rw [ApY (a7 g (by omega) m (Pc hm))];rw [hpn',hpx] at q2;simp only [RV.op,RV.n] at q2;rw [q2 g (by omega) _ (JB hm),Fr]
    ·rw [if_neg hs] at h;simp at h
   ·rw [if_neg h12] at h;simp only [AwW,AwX] at h;obtain ⟨rfl,rfl,_⟩:=h;refine ⟨0,0,0,1,by omega,by omega,by omega,by simp,fun _=>⟨rfl,rfl,rfl⟩,_,hself pz,Ou (by decide) ⟨1,fun g hg m=>?_⟩⟩;obtain ⟨g,rfl⟩:∃k,g=k+1:=⟨g - 1,by omega⟩;rw [hpn,ApU _ _ _ _ _ _ _ _ _ _ _ _ _ (by rw [← hon];exact h11) (by rw [← hon];exact h12)]
theorem D8 {op n:Int} {ks:List Tm} {e ps:List PV} {k1 T1 kh Th:Nat} {v':PV} (h1:op≠1) (hks:ks.length≤4) (hK:∃F,∀g,F≤g→∀m,MOk m k1 T1→SR (fun t m=>SC g e t m) op 0 ks m=some (ps,GO m k1 T1)) (hH:HZ op n ps (.mk op n ks) e v' kh Th) :
  ∃F,∀g,F≤g→∀m,MOk m (k1+kh) (1+(T1+Th))→SC g e (.mk op n ks) m=some (v',GO m (k1+kh) (1+(T1+Th))):=by
 obtain ⟨F1,hK⟩:=hK;obtain ⟨F2,hH⟩:=hH;refine ⟨F1+F2+10,fun g hg m hm=>?_⟩;obtain ⟨g,rfl⟩:∃k,g=k+1:=⟨g - 1,by omega⟩;have hm':MOk (GO m 0 1) (k1+kh) (T1+Th):=JB (k1:=0) ⟨hm.e,hm.w,hm.w2,by have:=hm.s;omega,hm.s2⟩;rw [SC,OM hm];simp only;rw [if_neg h1,if_neg (by omega),if_neg (by simp [GO]),hK g (by omega) _ (Pc hm')];simp only;rw [if_neg (by simp [GO]),hH g (by omega) _ (JB hm'),Fr,Fr];congr 3
 all_goals omega
theorem Alf {op:Int} (h:¬ (op=5∨op=8∨op=9∨op=13∨op=19∨op=30)):CO op=false:=by
 have h1:¬ op=5:=fun e=>h (.inl e);have h2:¬ op=8:=fun e=>h (.inr (.inl e));have h3:¬ op=9:=fun e=>h (.inr (.inr (.inl e)));have h4:¬ op=13:=fun e=>h (.inr (.inr (.inr (.inl e))));have h5:¬ op=19:=fun e=>h (.inr (.inr (.inr (.inr (.inl e)))));have h6:¬ op=30:=fun e=>h (.inr (.inr (.inr (.inr (.inr e)))));simp [CO,h1,h2,h3,h4,h5,h6]
set_option maxHeartbeats 1000000 in
theorem UP (B:Nat):∀f,ZS B f:=by
 intro f
 induction f using Nat.strongRecOn with
 | _ f ih =>
 intro s t env v s' h hg hw e he;cases f with
 | zero=>rw [Au] at h;cases h
 | succ f =>
 obtain ⟨op,n,ks⟩:=t;rw [Au] at h;rw [if_neg (by simp)] at h;split at h
 ·cases h
 rename_i hel;rw [Tm.good] at hg;obtain ⟨hgn,hgl⟩:=hg;have har:=hgn.1;have hk4:=AhE har;rw [Tm.wt] at hw;by_cases h1:op=1
 ·subst h1;rw [if_pos rfl] at h;have hks:ks=[]:=by
   rw [show ar 1=some 0 by decide,AwW] at har
   exact List.eq_nil_of_length_eq_zero har.symm
  subst hks;have hn:=hgn.2.1 rfl;have hrun:∃F,∀g,F≤g→∀m,MOk m 0 1→SC g e (.mk 1 n []) m=some (Gg e n,GO m 0 1):=by
   refine ⟨e.length+10,fun g hg m hm=>?_⟩;obtain ⟨g,rfl⟩:∃k,g=k+1:=⟨g - 1,by omega⟩;rw [SC,OM (k:=0) (T:=0) hm];simp only;rw [if_pos trivial,if_pos ⟨by omega,by omega,by omega⟩]
  have hcost:∀v:RV,Cost (.mk 1 n []) v 0 1 0:=fun v=>⟨by simp [Tm.surf,Tm.surfL],by omega,Nat.le_trans (Nat.add_le_add_left (V9 _ _) _) (by omega),fun _=>by have:=Yi v;simp only [Tm.surf,Tm.surfL];omega⟩;by_cases hlt:n<env.length
  ·rw [if_pos hlt,if_pos hn.1] at h;cases hr:env[((env.length:Int) - 1 - n).toNat]? with
   | none=>rw [hr] at h;cases h
   | some r =>
    rw [hr] at h;simp only [AwZ,AwW,AwX] at h;obtain ⟨rfl,rfl,_⟩:=h;exact ⟨0,1,0,1,by omega,hcost _,by omega,_,AkS he hn.1 hlt hr,hrun⟩
  ·rw [if_neg hlt] at h;split at h
   ·simp only [AwW,AwX] at h;obtain ⟨rfl,rfl,_⟩:=h;refine ⟨0,1,0,1,by omega,hcost _,by omega,_,?_,hrun⟩;rw [Gg,if_neg (by rw [he.1];exact hlt),he.1];exact .var _
   ·cases h
 rw [if_neg h1] at h;split at h
 ·cases h
 split at h
 ·cases h
 split at h
 ·cases h
 rename_i vs s1 e1 hk;have he1:=G9 h;subst he1;obtain ⟨k1,c1,u1,T1,q1,q2,q3,q4,q5,q6,ps,q7,q8,q9,q10,q11⟩:=Ox (ih f (by omega)) op env e he ks 0 s vs s1 hk hgl (by omega);simp only [Nat.zero_add] at q8 q9 q10;have hnode:Rel B (.mk op n ps (.mk op n ks) e) (.node op n vs):=by
  refine .node op n n ps vs ks e env h1 har q7 q6 (fun i p r=>q9 i p r) ?_ he.1 he.2;intro i b hb hi;obtain ⟨a1,a2⟩:=q8 i b hi hb;have hm:=List.mem_of_getElem? hi
  have:=BO hm
  exact ⟨⟨Qj hgl hm,by omega⟩,a1,a2⟩
 obtain ⟨V,hV⟩:∃V,V=RV.node op n vs:=⟨_,rfl⟩;have hVo:V.op=op:=by rw [hV];rfl
 have hVk:V.k=vs:=by rw [hV];rfl
 have hVz:V.vsz=1+RV.vszL op 0 vs:=by rw [hV,RV.node,RV.vsz]
 rw [← hV] at h hnode;cases f with
 | zero=>rw [headR] at h;cases h
 | succ f =>
 have h00:=h;rw [headR] at h;rw [if_neg (by simp)] at h;split at h
 ·cases h
 by_cases hr:¬ (op=5∨op=8∨op=9∨op=13∨op=19∨op=30)
 ·rw [hVo,if_neg (by omega),if_neg (by omega),if_neg (by omega),if_neg (by omega),if_neg (by omega)] at h;simp only [AwW,AwX] at h;obtain ⟨rfl,rfl,_⟩:=h;refine ⟨k1,1+c1,u1,1+T1,q1,⟨?_,by omega,Nat.le_trans (Nat.add_le_add_left (V9 _ _) _) (by omega),fun h=>?_⟩,by omega,_,hnode,D8 (kh:=0) (Th:=0) h1 (by omega) q11 (Asr (Alf hr))⟩
  ·rw [Tm.surf,Tm.inn];omega
  ·have:=q4 h;rw [Tm.surf,hVz];omega
 have hrule:CO op=true:=by
  have:op=5∨op=8∨op=9∨op=13∨op=19∨op=30:=Decidable.byContradiction hr
  rcases this with rfl | rfl | rfl | rfl | rfl | rfl<;>rfl
 by_cases h5:op=5
 ·subst h5;obtain ⟨m0,a,b,x,rfl⟩:=hgn.2.2.2.1 rfl;obtain ⟨v0,vx,rfl⟩:=Ts q6;obtain ⟨p0,px,rfl⟩:=Ts q7;obtain ⟨t1,t2,hv0⟩:=q10 0 _ v0 rfl (by decide) rfl;obtain ⟨va,rfl⟩:=Tk hv0;have r0:=q9 0 p0 _ (by decide) rfl rfl;have rx:=q9 1 px vx (by decide) rfl rfl;obtain ⟨n',kp,ts,e0,env0,hp0,b1,b2,b3,b4,b5,b6⟩:=I8 r0 (by simp [RV.node,RV.op]);simp only [RV.node,RV.op,RV.n,RV.k] at hp0 b1 b3 b4 b5;rw [show ar 4=some 2 by decide,AwW] at b1
  obtain ⟨a',b',rfl⟩:=Ts b1.symm;obtain ⟨⟨g1,g2⟩,_,g3⟩:=b5 1 b' (by decide) rfl;simp only [List.getElem?_cons_succ,List.getElem?_cons_zero,AwW,RV.clo,RV.mk.injEq,true_and] at g3;obtain ⟨rfl,rfl⟩:=g3;rw [hVo,if_pos rfl,hVk] at h;simp only [List.getElem?_cons_succ,List.getElem?_cons_zero] at h;rw [show (RV.node 4 m0 [va,RV.clo env b]).op=4 from rfl,if_pos rfl] at h
  split at h
  ·rw [show (RV.node 4 m0 [va,RV.clo env b]).k[1]?=some (RV.clo env b) from rfl] at h
   simp only at h;split at h
   ·cases h
   rw [show (RV.clo env b).env=env from rfl,show (RV.clo env b).b=b from rfl] at h
   obtain ⟨k2,c2,u2,T2,d1,d2,d3,d4⟩:=PL (ih f (by omega)) (l:=[px]) (l':=[vx]) b6 rfl (by
    intro i p r hp hr
    match i with
    | 0=>simp only [List.getElem?_cons_zero,AwW] at hp hr;subst hp hr;exact rx
    | i+1=>simp at hp) g1 g2 h
   obtain ⟨w2,y1,F2,y2⟩:=Xa (op:=4) (n:=m0) (n':=n') (ps:=kp) (ts:=[a',b]) (i:=1) (b:=b) (l:=[px]) rfl (by simp) d4;have hd:=SD d2;have hdp:=d2.p;have hiw:b.wt≤Tm.innL 5 0 [.mk 4 m0 [a,b],x]:=by
    simp only [Tm.innL,Tm.inn];rw [if_neg (show ¬ 0<Ae 5 0 by decide),if_neg (show ¬ 0<Ae 4 0 by decide),if_pos (show 0<Ae 4 (0+1) by decide)]
    omega
   refine ⟨k1+(k2+1),1+(c1+c2),u1+u2,1+(T1+(1+T2)),by omega,⟨?_,by omega,Nat.le_trans (Nat.add_le_add_left (V9 _ _) _) (by omega),fun h=>by omega⟩,by omega,w2,y1,D8 h1 (by simp) q11 (G6 (k:=k2) (T:=T2) hrule (MM y1) ⟨F2+1,fun g hg m hm=>?_⟩)⟩
   ·rw [Tm.surf,Tm.inn];have e1:(k1+(k2+1)) * Tm.innL 5 0 [.mk 4 m0 [a,b],x]=k1 * Tm.innL 5 0 [.mk 4 m0 [a,b],x]+(k2+1) * Tm.innL 5 0 [.mk 4 m0 [a,b],x]:=by rw [Nat.add_mul]
    have e2:(k2+1) * b.wt≤(k2+1) * Tm.innL 5 0 [.mk 4 m0 [a,b],x]:=Nat.mul_le_mul_left _ hiw;omega
   ·obtain ⟨g,rfl⟩:∃k,g=k+1:=⟨g - 1,by omega⟩;rw [hp0,At9,if_pos rfl];exact y2 g (by omega) m hm
  ·simp at h
 by_cases h89:op=8∨op=9
 ·obtain ⟨m0,a,x,y,rfl⟩:=hgn.2.2.2.2.1 h89;obtain ⟨v0,rfl⟩:=Cu q6;obtain ⟨p0,rfl⟩:=Cu q7;have hb0:Ae op 0=0:=by rcases h89 with rfl | rfl<;>decide
  obtain ⟨t1,t2,hv0⟩:=q10 0 _ v0 rfl hb0 rfl;obtain ⟨va,vx,vy,rfl⟩:=Ahw hv0;have r0:=q9 0 p0 _ hb0 rfl rfl;obtain ⟨n',kp,ts,e0,env0,hp0,b1,b2,b3,b4,b5,b6⟩:=I8 r0 (by simp [RV.node,RV.op]);simp only [RV.node,RV.op,RV.n,RV.k] at hp0 b1 b3 b4 b5;rw [show ar 7=some 3 by decide,AwW] at b1
  obtain ⟨pa,px,py,rfl⟩:=Apa (b2.trans b1.symm);have rx:=b4 1 px vx (by decide) rfl rfl;have ry:=b4 2 py vy (by decide) rfl rfl;rw [hVo,if_neg h5,if_pos h89,hVk] at h;simp only [List.getElem?_cons_zero] at h;rw [show (RV.node 7 m0 [va,vx,vy]).op=7 from rfl,if_pos rfl] at h
  split at h
  ·obtain ⟨w',hw',hvv⟩:∃w',w'=(if op=8 then px else py)∧Rel B w' v∧s'=s1+1:=by
    rcases h89 with rfl | rfl
    ·rw [show (RV.node 7 m0 [va,vx,vy]).k[(1+8 - 8:Int).toNat]?=some vx from rfl] at h
     simp only [AwZ,AwW,AwX] at h;obtain ⟨rfl,rfl,_⟩:=h;exact ⟨px,rfl,rx,rfl⟩
    ·rw [show (RV.node 7 m0 [va,vx,vy]).k[(1+9 - 8:Int).toNat]?=some vy from rfl] at h
     simp only [AwZ,AwW,AwX] at h;obtain ⟨rfl,rfl,_⟩:=h;exact ⟨py,rfl,ry,rfl⟩
   obtain ⟨hrel,rfl⟩:=hvv;refine ⟨k1+1,1+c1,u1,1+(T1+1),by omega,⟨?_,by omega,Nat.le_trans (Nat.add_le_add_left (V9 _ _) _) (by omega),fun h=>by omega⟩,by omega,w',hrel,D8 h1 (by simp) q11 (G6 (k:=0) (T:=0) hrule (MM hrel) ⟨1,fun g hg m hm=>?_⟩)⟩
   ·rw [Tm.surf,Tm.inn,Nat.add_mul];omega
   ·obtain ⟨g,rfl⟩:∃k,g=k+1:=⟨g - 1,by omega⟩;rw [hp0,Asu _ _ _ h89,QR hm.e,hw']
  ·simp at h
 by_cases h30:op=30
 ·subst h30;rw [show ar 30=some 1 by decide,AwW] at har
  obtain ⟨x,rfl⟩:=Cu har.symm;obtain ⟨v0,rfl⟩:=Cu q6;obtain ⟨p0,rfl⟩:=Cu q7;have r0:=q9 0 p0 v0 (by decide) rfl rfl;have hx:=hgn.2.2.2.2.2.2.1 rfl x (by simp);rw [hVo,if_neg h5,if_neg h89,if_pos rfl,hVk] at h;simp only [List.getElem?_cons_zero] at h;simp only [He] at q3;rw [if_neg (by decide)] at q3;by_cases h19:v0.op=19
  ·rw [if_pos h19] at h;obtain ⟨n',kp,ts,e0,env0,hp0,b1,b2,b3,b4,b5,b6⟩:=I8 r0 (by rw [h19];decide);rw [h19,show ar 19=some 1 by decide,AwW] at b1
   obtain ⟨y,hy⟩:=Cu (b3.trans b1.symm);obtain ⟨py,rfl⟩:=Cu (b2.trans b1.symm);have ry:=b4 0 py y (by rw [h19];decide) rfl (by rw [hy];rfl);rw [hy] at h;simp only [List.getElem?_cons_zero,AwZ] at h;split at h
   ·simp only [AwW,AwX] at h;obtain ⟨rfl,rfl,_⟩:=h;refine ⟨k1+1,1+c1,u1,1+(T1+1),by omega,⟨?_,by omega,Nat.le_trans (Nat.add_le_add_left (V9 _ _) _) (by omega),fun h=>by omega⟩,by omega,py,ry,D8 h1 (by simp) q11 (G6 (k:=0) (T:=0) hrule (MM ry) ⟨1,fun g hg m hm=>?_⟩)⟩
    ·rw [Tm.surf,Tm.inn,Nat.add_mul];omega
    ·obtain ⟨g,rfl⟩:∃k,g=k+1:=⟨g - 1,by omega⟩;rw [hp0,h19,Ari,QR hm.e]
   ·simp at h
  ·rw [if_neg h19] at h;simp only [AwW,AwX] at h;obtain ⟨rfl,rfl,_⟩:=h;obtain ⟨o0,n0,k0,t0,e0,hp0,ho0,_⟩:=Oa r0;have hns:2≤sl x v0:=by
    unfold sl;rw [if_neg (fun h=>h19 h.2),if_neg (fun h=>hx h.1)];split<;>omega
   have hn0:sl (.mk 30 n [x]) V=0:=by
    unfold sl;rw [if_neg (by simp [Tm.op]),if_pos ⟨rfl,hVo⟩]
   refine ⟨k1,1+c1,u1+1,1+(T1+1),q1,⟨?_,by omega,by rw [hn0];omega,fun h=>?_⟩,by omega,_,hnode,D8 (kh:=0) h1 (by simp) q11 (Ou hrule ⟨1,fun g hg m=>?_⟩)⟩
   ·rw [Tm.surf,Tm.inn];omega
   ·have:=q4 h;rw [Tm.surf,hVz];omega
   ·obtain ⟨g,rfl⟩:∃k,g=k+1:=⟨g - 1,by omega⟩;rw [hp0,AqD _ _ _ _ _ _ _ _ _ _ (by rw [← ho0];exact h19)]
 by_cases h19:op=19
 ·subst h19;rw [show ar 19=some 1 by decide,AwW] at har
  obtain ⟨x,rfl⟩:=Cu har.symm;obtain ⟨v0,rfl⟩:=Cu q6;obtain ⟨p0,rfl⟩:=Cu q7;have r0:=q9 0 p0 v0 (by decide) rfl rfl;have hx:=hgn.2.2.2.2.2.1 rfl x (by simp);rw [hVo,if_neg h5,if_neg h89,if_neg h30,if_pos rfl,hVk] at h;simp only [List.getElem?_cons_zero] at h;simp only [He] at q3;rw [if_neg (by decide)] at q3;by_cases hv30:v0.op=30
  ·rw [if_pos hv30] at h;obtain ⟨n',kp,ts,e0,env0,hp0,b1,b2,b3,b4,b5,b6⟩:=I8 r0 (by rw [hv30];decide);rw [hv30,show ar 30=some 1 by decide,AwW] at b1
   obtain ⟨y,hy⟩:=Cu (b3.trans b1.symm);obtain ⟨py,rfl⟩:=Cu (b2.trans b1.symm);have ry:=b4 0 py y (by rw [hv30];decide) rfl (by rw [hy];rfl);rw [hy] at h;simp only [List.getElem?_cons_zero,AwZ] at h;split at h
   ·simp only [AwW,AwX] at h;obtain ⟨rfl,rfl,_⟩:=h;refine ⟨k1+1,1+c1,u1,1+(T1+1),by omega,⟨?_,by omega,Nat.le_trans (Nat.add_le_add_left (V9 _ _) _) (by omega),fun h=>by omega⟩,by omega,py,ry,D8 h1 (by simp) q11 (G6 (k:=0) (T:=0) hrule (MM ry) ⟨1,fun g hg m hm=>?_⟩)⟩
    ·rw [Tm.surf,Tm.inn,Nat.add_mul];omega
    ·obtain ⟨g,rfl⟩:∃k,g=k+1:=⟨g - 1,by omega⟩;rw [hp0,hv30,ArW,QR hm.e]
   ·simp at h
  ·rw [if_neg hv30] at h;simp only [AwW,AwX] at h;obtain ⟨rfl,rfl,_⟩:=h;obtain ⟨o0,n0,k0,t0,e0,hp0,ho0,_⟩:=Oa r0;have hns:sl x v0=3:=by
    unfold sl;rw [if_neg (fun h=>hx.1 h.1),if_neg (fun h=>hv30 h.2),if_neg (fun h=>hx.2 (AlR h))]
   have hn0:sl (.mk 19 n [x]) V=1:=by
    unfold sl;rw [if_pos ⟨rfl,hVo⟩]
   refine ⟨k1,1+c1,u1+1,1+(T1+1),q1,⟨?_,by omega,by rw [hn0];omega,fun h=>?_⟩,by omega,_,hnode,D8 (kh:=0) h1 (by simp) q11 (Ou hrule ⟨1,fun g hg m=>?_⟩)⟩
   ·rw [Tm.surf,Tm.inn];omega
   ·have:=q4 h;rw [Tm.surf,hVz];omega
   ·obtain ⟨g,rfl⟩:∃k,g=k+1:=⟨g - 1,by omega⟩;rw [hp0,Aqg _ _ _ _ _ _ _ _ _ _ (by rw [← ho0];exact hv30)]
 have h13:op=13:=by omega
 subst h13;rw [show ar 13=some 4 by decide,AwW] at har
 obtain ⟨b0,z,b2,nn,rfl⟩:=PS har.symm;obtain ⟨w0,vz,w2,vn,rfl⟩:=PS q6;obtain ⟨p0,pz,p2,pn,rfl⟩:=PS q7;obtain ⟨x0,y0⟩:=q8 0 b0 rfl (by decide);obtain ⟨x2,y2⟩:=q8 2 b2 rfl (by decide);simp only [List.getElem?_cons_succ,List.getElem?_cons_zero,AwW] at x0 y0 x2 y2;subst x0 y0 x2 y2;have rz:=q9 1 pz vz (by decide) rfl rfl;have rn:=q9 3 pn vn (by decide) rfl rfl;have hgd:=hgn.2.2.2.2.2.2.2 rfl b0 z b2 nn rfl;have hn0:=hgn.2.2.1 rfl;simp only [Tm.goodL,and_true] at hgl;simp only [Tm.wtL] at hw;rw [hV] at h00 hnode;obtain ⟨kr,cr,ur,Tr,a1,a2,a3,a4,a5,w',a6,a7⟩:=AkW (f+1) (fun g hg=>ih g (by omega)) s1 n n env b0 b2 vz vn v s' e pz pn n [b0,z,b2,nn] h00 rz rn he rfl hgl.2.2.1 (by omega) (fun _=>hnode) (by
  intro px vx hx;rw [hn0];refine .node 13 0 0 [.nil,pz,.nil,px] [.clo env b0,vz,.clo env b2,vx] [b0,z,b2,nn] e env (by decide) (show ar 13=some 4 by decide) rfl rfl ?_ ?_ he.1 he.2
  ·intro i p r hb hp hr
   match i with
   | 0=>exact absurd hb (by decide)
   | 1=>simp only [List.getElem?_cons_succ,List.getElem?_cons_zero,AwW] at hp hr;subst hp hr;exact rz
   | 2=>exact absurd hb (by decide)
   | 3=>simp only [List.getElem?_cons_succ,List.getElem?_cons_zero,AwW] at hp hr;subst hp hr;exact hx
   | i+4=>simp at hp
  ·intro i b hb hi
   match i with
   | 0=>simp only [List.getElem?_cons_zero,AwW] at hi;subst hi;exact ⟨⟨hgl.1,by omega⟩,rfl,rfl⟩
   | 1=>exact absurd hb (by decide)
   | 2=>simp only [List.getElem?_cons_succ,List.getElem?_cons_zero,AwW] at hi;subst hi;exact ⟨⟨hgl.2.2.1,by omega⟩,rfl,rfl⟩
   | 3=>exact absurd hb (by decide)
   | i+4=>simp at hi)
 have hiw:b2.wt≤Tm.innL 13 0 [b0,z,b2,nn]:=by
  simp only [Tm.innL];rw [if_pos (by decide),if_neg (by decide),if_pos (by decide),if_neg (by decide)];omega
 have hsl:He 13 0 [b0,z,b2,nn] [.clo env b0,vz,.clo env b2,vn]=sl z vz+sl nn vn:=by
  simp only [He];rw [if_pos (show 0<Ae 13 0 by decide),if_neg (show ¬ 0<Ae 13 (0+1) by decide),if_pos (show 0<Ae 13 (0+1+1) by decide),if_neg (show ¬ 0<Ae 13 (0+1+1+1) by decide)]
  omega
 have hsn:sl nn vn=3:=by
  unfold sl;rw [if_neg (fun h=>hgd.2.1.1 h.1),if_neg (fun h=>hgd.2.1.2 h.1),if_neg (by rw [hgd.2.2];decide)]
 have hsz:1≤sl z vz:=by
  unfold sl;split
  ·omega
  ·rw [if_neg (fun h=>hgd.1 h.1)];split<;>omega
 have hst:sl (.mk 13 n [b0,z,b2,nn]) V+2≤sl z vz+sl nn vn:=by
  have e1:sl (.mk 13 n [b0,z,b2,nn]) V=if (Tm.mk 13 n [b0,z,b2,nn]).badR=true then 2 else 3:=by
   unfold sl;rw [if_neg (by simp [Tm.op]),if_neg (by simp [Tm.op])]
  rw [e1];split
  ·omega
  ·rename_i hnb;have hb:¬ (z.op=19∨z.badR=true):=by
    intro h;apply hnb;rw [Tm.badR];simpa using h
   have:sl z vz=3:=by
    unfold sl;rw [if_neg (fun h=>hb (.inl h.1)),if_neg (fun h=>hgd.1 h.1),if_neg (fun h=>hb (.inr h))]
   omega
 have hle:1+(c1+cr)≤(Tm.mk 13 n [b0,z,b2,nn]).surf+(k1+kr) * (Tm.mk 13 n [b0,z,b2,nn]).inn:=by
  rw [Tm.surf,Tm.inn,Nat.add_mul];have e2:kr * b2.wt≤kr * Tm.innL 13 0 [b0,z,b2,nn]:=Nat.mul_le_mul_left _ hiw;omega
 by_cases hk0:kr=0
 ·obtain ⟨z1,z2,z3⟩:=a5 hk0;subst hk0 z1 z2;rw [if_pos rfl] at a4;refine ⟨k1+0,1+(c1+0),u1+1,1+(T1+Tr),by omega,⟨hle,by omega,by rw [z3,← hV];omega,fun h=>?_⟩,by omega,w',a6,D8 h1 (by simp) q11 a7⟩
  have:=q4 (by omega)
  rw [z3,← hV,Tm.surf,hVz];omega
 ·rw [if_neg hk0] at a4;exact ⟨k1+kr,1+(c1+cr),u1+ur,1+(T1+Tr),by omega,⟨hle,by omega,Nat.le_trans (Nat.add_le_add_left (V9 _ _) _) (by omega),fun h=>by omega⟩,by omega,w',a6,D8 h1 (by simp) q11 a7⟩
theorem TU {f:Nat} (op:Int) (env:List RV) (ih:∀s t v s',Au f s 0 t env=some (v,s',0)→s≤1000→s'≤1000):∀(l:List Tm) (i:Nat) (s:Int) (vs:List RV) (s':Int),AL (fun s e t=>Au f s e t env) op env i l s 0=some (vs,s',0)→s≤1000→s'≤1000
 | [],i,s,vs,s',h,hs=>by
  simp only [AL,AwW,AwX] at h;omega
 | t::l,i,s,vs,s',h,hs=>by
  simp only [AL] at h;split at h
  ·cases hk:AL (fun s e t=>Au f s e t env) op env (i+1) l s 0 with
   | none=>rw [hk] at h;cases h
   | some q =>
    obtain ⟨vs1,s1,e1⟩:=q;rw [hk] at h;simp only [AwZ,AwW,AwX] at h;obtain ⟨_,rfl,rfl⟩:=h;exact TU op env ih l _ _ _ _ hk hs
  ·split at h
   ·cases h
   ·rename_i v s1 e1 he;cases hk:AL (fun s e t=>Au f s e t env) op env (i+1) l s1 e1 with
    | none=>rw [hk] at h;cases h
    | some q =>
     obtain ⟨vs2,s2,e2⟩:=q;rw [hk] at h;simp only [AwZ,AwW,AwX] at h;obtain ⟨_,rfl,rfl⟩:=h;have h0:=Fa _ (fun s e t v s' h=>B4 h) op env l _ _ _ _ _ hk;subst h0;exact TU op env ih l _ _ _ _ hk (ih _ _ _ _ he hs)
theorem UB:∀f,(
           ∀s t env v s',Au f s 0 t env=some (v,s',0)→s≤1000→s'≤1000)∧(∀s v w s',headR f s 0 v=some (w,s',0)→s≤1000→s'≤1000):=by
 intro f
 induction f with
 | zero=>exact ⟨(by intro s t env v s' h;rw [Au] at h;cases h),(by intro s v w s' h;rw [headR] at h;cases h)⟩
 | succ f ih =>
  refine ⟨?_,?_⟩
  ·intro s t env v s' h hs;obtain ⟨op,n,ks⟩:=t;rw [Au] at h;rw [if_neg (by simp)] at h;split at h
   ·cases h
   split at h
   ·split at h
    ·split at h
     ·cases hr:env[((env.length:Int) - 1 - n).toNat]? with
      | none=>rw [hr] at h;cases h
      | some r =>
       rw [hr] at h;simp only [AwZ,AwW,AwX] at h;omega
     ·cases h
    ·split at h
     ·simp only [AwW,AwX] at h;omega
     ·cases h
   split at h
   ·cases h
   split at h
   ·cases h
   split at h
   ·cases h
   rename_i vs s1 e1 hk;have he:=G9 h;subst he;exact ih.2 _ _ _ _ h (TU op env (fun s t v s'=>ih.1 s t env v s') ks _ _ _ _ hk hs)
  ·intro s v w s' h hs;rw [headR] at h;rw [if_neg (by simp)] at h;split at h
   ·cases h
   split at h
   ·split at h
    ·cases h
    ·split at h
     ·split at h
      ·split at h
       ·split at h
        ·cases h
        ·exact ih.1 _ _ _ _ _ h (by omega)
       ·cases h
      ·simp at h
     ·simp only [AwW,AwX] at h;omega
   split at h
   ·split at h
    ·cases h
    ·rename_i k0 _;split at h
     ·split at h
      ·cases hx:k0.k[(1+v.op - 8).toNat]? with
       | none=>rw [hx] at h;cases h
       | some x=>rw [hx] at h;simp only [AwZ,AwW,AwX] at h;omega
      ·simp at h
     ·simp only [AwW,AwX] at h;omega
   split at h
   ·split at h
    ·cases h
    ·rename_i k0 _;split at h
     ·split at h
      ·cases hx:k0.k[0]? with
       | none=>rw [hx] at h;cases h
       | some x=>rw [hx] at h;simp only [AwZ,AwW,AwX] at h;omega
      ·simp at h
     ·simp only [AwW,AwX] at h;omega
   split at h
   ·split at h
    ·cases h
    ·rename_i k0 _;split at h
     ·split at h
      ·cases hx:k0.k[0]? with
       | none=>rw [hx] at h;cases h
       | some x=>rw [hx] at h;simp only [AwZ,AwW,AwX] at h;omega
      ·simp at h
     ·simp only [AwW,AwX] at h;omega
   split at h
   ·split at h
    ·split at h
     ·split at h
      ·simp only [AwW,AwX] at h;omega
      ·simp at h
     ·split at h
      ·split at h
       ·split at h
        ·cases h
        ·split at h
         ·cases h
         ·rename_i vh s2 e2 hh;split at h
          ·cases h
          ·have he:=B4 h;subst he;exact ih.1 _ _ _ _ _ h (ih.2 _ _ _ _ hh (by omega))
       ·simp at h
      ·simp only [AwW,AwX] at h;omega
    ·cases h
   ·simp only [AwW,AwX] at h;omega
theorem I1 {f:Nat} {op u d:Int}:∀(l:List RV) (i:Nat) (s nd e:Int) (ts:List Tm) (s' nd':Int),AU (fun s nd e k u=>AI f s nd e k u d) f op u i l s nd e=some (ts,s',nd',0)→e=0
 | [],i,s,nd,e,ts,s',nd',h=>by
  simp only [AU,AwW,AwX] at h;exact h.2.2.2
 | k::l,i,s,nd,e,ts,s',nd',h=>by
  simp only [AU] at h;split at h
  ·cases h
  rename_i k1 s1 e1 hk;split at h
  ·cases h
  rename_i t s2 nd2 e2 hr;cases hrest:AU (fun s nd e k u=>AI f s nd e k u d) f op u (i+1) l s2 nd2 e2 with
  | none=>rw [hrest] at h;cases h
  | some q =>
   obtain ⟨ts2,s3,nd3,e3⟩:=q;rw [hrest] at h;simp only [AwZ,AwW,AwX] at h;obtain ⟨_,_,_,rfl⟩:=h
   have:=I1 l _ _ _ _ _ _ _ hrest
   subst this
   have:=CV hr
   subst this;split at hk
   ·split at hk
    ·cases hk
    ·exact B4 hk
   ·simp only [AwW,AwX] at hk;exact hk.2.2
def Amz (B f:Nat):Prop:=∀(s nd:Int) (v:RV) (u d:Int) (t:Tm) (s' nd':Int),AI f s nd 0 v u d=some (t,s',nd',0)→0≤nd→∀v',Rel B v' v→∃k c uu T N:Nat,s'=s+k∧nd'=nd+N∧nd'≤3000∧(s≤1000→s'≤1000)∧c+v.vsz≤N+B * k∧5 * uu≤3 * c+10 * k∧T≤N+c+uu+2 * k ∧
 ∃F,∀g,F≤g→∀m,MOk m k T→Ve g v' u d m nd=some (t,GO m k T,nd')
theorem AoU {B:Nat} (u:Int) (b:Nat):∀(i:Nat) p r,(Up u b)[i]?=some p→(FA u b)[i]?=some r→Rel B p r:=by
 intro i p r hp hr;rw [Up,List.getElem?_map] at hp;rw [FA,List.getElem?_map] at hr;cases hx:(List.range b)[i]? with
 | none=>rw [hx] at hp;cases hp
 | some j =>
  rw [hx] at hp hr;simp only [AwZ,AwW] at hp hr;subst hp hr;exact .var _
set_option maxHeartbeats 1000000 in
theorem Xp {B f:Nat} (ih:Amz B f) (op u d n n':Int) (kp0:List PV) (ts:List Tm) (e:List PV) (env:List RV) (he:GI B e env):∀(l:List RV) (lp:List PV) (i:Nat) (s nd:Int) (rs:List Tm) (s' nd':Int),AU (fun s nd e k u=>AI f s nd e k u (d+1)) f op u i l s nd 0=some (rs,s',nd',0)→0≤nd→nd≤3000→lp.length=l.length →
  (∀j p r,Ae op (i+j)=0→lp[j]?=some p→l[j]?=some r→Rel B p r)→(∀j r,0<Ae op (i+j)→l[j]?=some r→∃b,ts[i+j]?=some b∧b.good∧b.wt≤B∧r=.clo env b) →
  ∃k c uu T N:Nat,s'=s+k∧nd'=nd+N∧nd'≤3000∧(s≤1000→s'≤1000)∧c+RV.vszL op i l≤N+B * k∧5 * uu≤3 * c+10 * k∧T≤N+c+uu+2 * k ∧
   ∃F,∀g,F≤g→∀m,MOk m k T→bkK (fun v below m r=>Ve g v below (d+1) m r) (fun i l m=>opP g (.mk op n kp0 (.mk op n' ts) e) i l m) op u i lp m nd=some (some rs,GO m k T,nd')
 | [],lp,i,s,nd,rs,s',nd',h,h0,h3,hl,_,_=>by
  simp only [AU,AwW,AwX] at h;obtain ⟨rfl,rfl,rfl,_⟩:=h
  have:lp=[]:=List.eq_nil_of_length_eq_zero hl
  subst this;refine ⟨0,0,0,0,0,by omega,by omega,h3,id,by simp [RV.vszL],by omega,by omega,0,fun g _ m hm=>?_⟩;rw [bkK,QR hm.e]
 | k::l,lp,i,s,nd,rs,s',nd',h,h0,h3,hl,hA,hB=>by
  obtain ⟨p,lp,rfl⟩:∃p lp',lp=p::lp':=by
   cases lp with
   | nil=>cases hl
   | cons p lp=>exact ⟨p,lp,rfl⟩
  simp only [AU] at h;split at h
  ·cases h
  rename_i k1 s1 e1 hk;split at h
  ·cases h
  rename_i t s2 nd2 e2 hr;cases hrest:AU (fun s nd e k u=>AI f s nd e k u (d+1)) f op u (i+1) l s2 nd2 e2 with
  | none=>rw [hrest] at h;cases h
  | some q =>
  obtain ⟨ts2,s3,nd3,e3⟩:=q;rw [hrest] at h;simp only [AwZ,AwW,AwX] at h;obtain ⟨rfl,rfl,rfl,rfl⟩:=h;have h2:=I1 l _ _ _ _ _ _ _ hrest;subst h2;have h1:=CV hr;subst h1;have hA':∀j p r,Ae op (i+1+j)=0→lp[j]?=some p→l[j]?=some r→Rel B p r:=fun j p r a b c=>hA (j+1) p r (by rwa [show i+(j+1)=i+1+j by omega]) b c
  have hB':∀j r,0<Ae op (i+1+j)→l[j]?=some r→∃b,ts[i+1+j]?=some b∧b.good∧b.wt≤B∧r=.clo env b:=fun j r a b=>by
   obtain ⟨x,y⟩:=hB (j+1) r (by rwa [show i+(j+1)=i+1+j by omega]) b
   exact ⟨x,by rwa [show i+1+j=i+(j+1) by omega]⟩
  by_cases hb:0<Ae op i
  ·rw [if_pos hb] at hk;split at hk
   ·cases hk
   obtain ⟨b,hb1,hb2,hb3,rfl⟩:=hB 0 k (by simpa using hb) rfl;rw [Nat.add_zero] at hb1;rw [show (RV.clo env b).env=env from rfl,show (RV.clo env b).b=b from rfl] at hk
   have hb22:=AY op i;obtain ⟨ke,ce,ue,Te,d1,d2,d3,d4⟩:=PL (UP B f) (l:=Up u (Ae op i)) (l':=FA u (Ae op i)) he (by rw [Le,B6]) (AoU u _) hb2 hb3 hk;obtain ⟨w1,y1,F1,y2⟩:=Xa (op:=op) (n:=n) (n':=n') (ps:=kp0) hb1 (by rw [Le];exact hb22) d4;have hsle:=(UB f).1 _ _ _ _ _ hk;obtain ⟨kr,cr,ur,Tr,Nr,r1,r2,r3,r4,r5,r6,r7,F2,r8⟩:=ih s1 nd k1 _ _ t s2 nd2 hr h0 w1 y1;obtain ⟨kk,cc,uu,TT,NN,q1,q2,q3,q4,q5,q6,q7,F3,q8⟩:=Xp ih op u d n n' kp0 ts e env he l lp (i+1) s2 nd2 ts2 s3 nd3 hrest (by omega) (by omega) (by simpa using hl) hA' hB';have hde:=d2.le;have hdp:=d2.p;have hsi:=OV b;refine ⟨ke+(kr+kk),ce+(cr+cc),ue+(ur+uu),Te+(Tr+TT),Nr+NN,by omega,by omega,q3,fun h=>q4 (r4 (hsle h)),?_,by omega,by omega,F1+F2+F3,fun g hg m hm=>?_⟩
   ·rw [RV.vszL,if_pos hb,Nat.mul_add,Nat.mul_add];have hce:ce≤k1.vsz+B * ke:=by
     cases hke:ke with
     | zero =>
      have:=d2.v hke
      rw [hke] at hde;omega
     | succ k' =>
      rw [hke] at hde;have e1:(k'+1) * b.wt≤(k'+1) * B:=Nat.mul_le_mul_left _ hb3;have e2:(k'+1) * b.wt=(k'+1) * b.surf+(k'+1) * b.inn:=by rw [← hsi,Nat.mul_add]
      have e3:b.surf≤(k'+1) * b.surf:=Nat.le_mul_of_pos_left _ (by omega);rw [Nat.mul_comm B];omega
    omega
   ·rw [bkK,if_pos hb,y2 g (by omega) m (Pc hm)];have hm2:=JB hm;simp only;rw [if_neg (by simp [GO]),r8 g (by omega) _ (Pc hm2)];simp only;rw [q8 g (by omega) _ (JB hm2),Fr,Fr];simp only [AwZ]
  ·rw [if_neg hb] at hk;simp only [AwW,AwX] at hk;obtain ⟨rfl,rfl,_⟩:=hk;have hb0:Ae op i=0:=by omega
   have hrel:=hA 0 p k (by simpa using hb0) rfl rfl;obtain ⟨kr,cr,ur,Tr,Nr,r1,r2,r3,r4,r5,r6,r7,F2,r8⟩:=ih s nd k _ _ t s2 nd2 hr h0 p hrel;obtain ⟨kk,cc,uu,TT,NN,q1,q2,q3,q4,q5,q6,q7,F3,q8⟩:=Xp ih op u d n n' kp0 ts e env he l lp (i+1) s2 nd2 ts2 s3 nd3 hrest (by omega) (by omega) (by simpa using hl) hA' hB';refine ⟨kr+kk,cr+cc,ur+uu,Tr+TT,Nr+NN,by omega,by omega,q3,fun h=>q4 (r4 h),?_,by omega,by omega,F2+F3,fun g hg m hm=>?_⟩
   ·rw [RV.vszL,if_neg hb,Nat.mul_add];omega
   ·rw [bkK,if_neg hb];simp only;rw [if_neg (fun h=>h hm.e),r8 g (by omega) _ (Pc hm)];simp only;rw [q8 g (by omega) _ (JB hm),Fr];simp only [AwZ]
theorem AgJ (B:Nat):∀f,Amz B f:=by
 intro f
 induction f with
 | zero=>intro s nd v u d t s' nd' h;rw [AI] at h;cases h
 | succ f ih =>
  intro s nd v u d t s' nd' h h0 v' hv;rw [AI] at h;split at h
  ·cases h
  rename_i hr;by_cases hbig:3000<nd+1∨120<d
  ·rw [if_pos (show (0:Int)=0∧(3000<nd+1∨120<d) from ⟨rfl,hbig⟩)] at h
   simp at h
  rw [if_neg (show ¬ ((0:Int)=0∧(3000<nd+1∨120<d)) from fun h=>hbig h.2),if_neg (by simp)] at h
  have htick:∀{m:M3} {k T:Nat},MOk m k (1+T)→HN ⟨m.s,m.w,if m.e=0∧(3000<nd+1∨120<d) then 5 else m.e⟩=some (GO m 0 1):=by
   intro m k T hm;rw [if_neg (fun h=>hbig h.2)];exact OM hm
  by_cases h1:v.op=1
  ·rw [if_pos h1] at h;simp only [AwW,AwX] at h;obtain ⟨rfl,rfl,rfl,_⟩:=h;obtain ⟨op,n,k,t0,e0,rfl,ho,hn⟩:=Oa hv;have hvz:v.vsz=1:=by
    cases hv with
    | var n=>simp [RV.var,RV.vsz,RV.vszL]
    | node op n n' kp kr ts e env h1'=>exact absurd h1 h1'
   refine ⟨0,0,0,1,1,by omega,by omega,by omega,id,by omega,by omega,by omega,1,fun g hg m hm=>?_⟩;obtain ⟨g,rfl⟩:∃k,g=k+1:=⟨g - 1,by omega⟩;rw [Ve,if_neg (by omega),htick (k:=0) (T:=0) hm];simp only;rw [if_neg (by simp [GO]),if_pos (by rw [← ho];exact h1),if_neg (by rw [← hn];omega),hn]
  ·rw [if_neg h1] at h;obtain ⟨n',kp,ts,e,env,rfl,b1,b2,b3,b4,b5,b6⟩:=I8 hv h1;have b14:=AhE b1;cases hk:AU (fun s nd e k u=>AI f s nd e k u (d+1)) f v.op u 0 v.k s (nd+1) 0 with
   | none=>rw [hk] at h;cases h
   | some q =>
   obtain ⟨rs,s1,nd1,e1⟩:=q;rw [hk] at h;simp only [AwZ,AwW,AwX] at h;obtain ⟨rfl,rfl,rfl,rfl⟩:=h;obtain ⟨kk,cc,uu,TT,NN,q1,q2,q3,q4,q5,q6,q7,F3,q8⟩:=Xp ih v.op u d v.n n' kp ts e env b6 v.k kp 0 s (nd+1) rs s1 nd1 hk (by omega) (by omega) (by omega) (fun j p r a b c=>b4 j p r (by simpa using a) b c) (by
    intro j r a b;rw [Nat.zero_add] at a ⊢;have hj:j<ts.length:=by
     have:=(List.getElem?_eq_some_iff.1 b).1
     omega
    obtain ⟨⟨g1,g2⟩,_,g3⟩:=b5 j ts[j] a (List.getElem?_eq_getElem hj);rw [b,AwW] at g3;exact ⟨ts[j],List.getElem?_eq_getElem hj,g1,g2,g3⟩)
   have hvz:v.vsz=1+RV.vszL v.op 0 v.k:=by obtain ⟨a,b,c,d,e⟩:=v;rw [RV.vsz];rfl
   refine ⟨kk,cc,uu,1+TT,1+NN,q1,by omega,q3,q4,by omega,by omega,by omega,F3+20,fun g hg m hm=>?_⟩;obtain ⟨g,rfl⟩:∃k,g=k+1:=⟨g - 1,by omega⟩;have hm':MOk (GO m 0 1) kk TT:=JB (k1:=0) ⟨hm.e,hm.w,hm.w2,by have:=hm.s;omega,hm.s2⟩;rw [Ve,if_neg (by omega),htick hm];simp only;rw [if_neg (by simp [GO]),if_neg h1,if_neg (by omega),q8 g (by omega) _ hm',Fr];simp only [Nat.zero_add]
theorem Ag4 {f:Nat} {t u:Tm} (hg:t.good) (hw:t.wt≤3000) (hs:t.shaped=true) (h:AK f t=some (u,0)):∃F,∀g,F≤g→Y4 g t=some (u,0):=by
 rw [AK] at h;split at h
 ·cases h
 rename_i v s e he;split at h
 ·cases h
 rename_i w s2 nd2 e2 hr;simp only [AwW] at h;by_cases h2:e2=0
 ·subst h2;rw [if_neg (by simp)] at h;simp only [AwX,and_true] at h;subst h;have h1:=CV hr;subst h1;obtain ⟨k0,c0,u0,T0,a1,a2,a3,v',a4,F0,a5⟩:=UP 3000 f 0 t [] v s he hg hw [] (Xw _);obtain ⟨k1,c1,u1,T1,N,r1,r2,r3,r4,r5,r6,r7,F1,r8⟩:=AgJ 3000 f s 0 v 0 1 w s2 nd2 hr (by omega) v' a4;have hs1:=(UB f).1 _ _ _ _ _ he (by omega);have hs2:=r4 hs1;have hc:=SD a2;have hp:=a2.p;have hk:k0+k1≤1000:=by omega
  have hc2:(k0+1) * t.wt≤(k0+1) * 3000:=Nat.mul_le_mul_left _ hw;have hvp:=Yi v;refine ⟨F0+F1,fun g hg=>?_⟩;have hm:MOk ⟨100000,5000000,0⟩ (k0+k1) (T0+T1):=⟨rfl,by simp only;omega,by simp,by simp only;omega,by simp⟩;rw [Y4,if_neg (by rw [hs];simp),a5 g (by omega) _ (Pc hm)];simp only;rw [if_neg (by simp [GO]),r8 g (by omega) _ (JB hm)];simp only;rw [if_neg (by simp [GO])]
 ·rw [if_pos h2] at h;simp only [AwX] at h;exact absurd h.2 h2
theorem Apu {t:Tm} (h:(t.chk 0 1).2=0):t.wt≤3000∧(t.chk 0 1).1=t.wt:=by
 have:=(AgS t 0 1 (by omega)).2.2 h
 omega
theorem Ae6 {g:B8} {a t q:Tm} {object:Bool} (hC:CaseOk g a t true object) (hpl:object=true→a=q.plainT 2):∃G,CtxT g G∧(∃s,HasT G t s)∧t.wt≤3000∧(∃s,HasT G a s)∧a.wt≤3000:=by
 obtain ⟨G,hG⟩:=AlO hC.cg;have hw:=(Apu (hC.chk rfl)).1;have hgt:=hC.gt rfl;cases object
 ·have hga:=hC.ga rfl;obtain ⟨s,_,hs⟩:=(Qd hga G hG).1 rfl;have ht:=(Qd hgt G hG).2.1 rfl s hs
  have:=t_7 hga
  exact ⟨G,hG,⟨s,ht⟩,hw,⟨_,hs⟩,by omega⟩
 ·have ha:=hpl rfl;have hs:HasT G a 1:=by rw [ha];exact CG G 2 q
  have ht:=(Qd hgt G hG).2.2.1 rfl hs;have haw:a.wt≤20:=by have:=FB 2 q;rw [← ha] at this;simpa using Nat.le_trans this (by decide)
  exact ⟨G,hG,⟨6,ht⟩,hw,⟨1,hs⟩,by omega⟩
theorem AcP {G:List Nat} {t u:Tm} {s k f:Nat} (ht:HasT G t s) (hsc:t.sc k) (hk:k≤100000) (hw:t.wt≤3000) (h:AK f t=some (u,0)):Ev 55 [.fv t.enc] (.tuple [u.enc,.int .i64 0]):=by
 obtain ⟨F,hF⟩:=Ag4 (AeT ht k hsc (by omega)) hw (Mq t k hsc) h;exact ⟨F+10000,fun n hn=>AiQ (f:=F) (hF F (Nat.le_refl _)) (by omega) (by omega) (by omega)⟩
theorem AcI (ih:Aa) (xs:List IV) (h0:Hp) (k:IV→Hp→List Ref→List Ref→Option (IV×Hp)):Ed EE ih (.fv (.func (.func 57) [] [])) xs h0 k=Al [] false false ih 57 xs h0 k :=
 Agc (by kernel_rfl) (by kernel_rfl) (by kernel_rfl) (by kernel_rfl) ..
theorem Anb {n:Nat} (ka kb:List Tm) (hn:ka.length<n) (hl:ka.length≤1000000000) (ih:∀a∈ka,∀b∈kb,Bl (SS dt n 57 [.fv a.enc,.fv b.enc] ⟨[],[]⟩) (.bool (a.same b))) :
  Bl (SS dt (n+1) 69 [.fv (.sl (ka.map Tm.enc)),.fv (.sl (kb.map Tm.enc)),.fv (.func (.func 57) [] [])] ⟨[],[]⟩) (.bool (decide (ka.length=kb.length) && Tm.sameL ka kb)):=by
 rw [c69];by_cases h:ka.length=kb.length
 ·have h':(ka.length:Int)=kb.length:=by omega
  rw [decide_eq_true h,Bool.true_and];simp only [Mr,L2,MI,MK,MN,S69,↓XX,XY,↓reduceIte,Nat.reduceBEq,Nat.reduceAdd,Int.reduceEq,Int.reduceLT,Int.reduceLE,h',↓AC,XD,heldB,AN,XE];refine A7 (Q:=fun r=>Bl r _) (fun k V H=>∃pa ra pb rb,ka=pa++ra∧kb=pb++rb∧pa.length=pb.length∧ra.length=k∧V=[.fv (.sl (kb.map Tm.enc)),.fv (.func (.func 57) [] []),.fv (.sl (ka.map Tm.enc)),iv ka.length,iv pa.length]∧H=⟨[],[]⟩∧Tm.sameL ra rb=Tm.sameL ka kb)
   ?_ n ka.length _ _ hn ⟨[],ka,[],kb,rfl,rfl,rfl,rfl,by rw [h];rfl,rfl,rfl⟩
  rintro k V H rec ⟨pa,ra,pb,rb,hka,hkb,hpl,hk,rfl,rfl,hs⟩ hrec;have hal:ka.length=pa.length+ra.length:=by rw [hka];simp
  have hbl:kb.length=pb.length+rb.length:=by rw [hkb];simp
  cases ra with
  | nil =>
   have hno:¬ ((pa.length:Int)<ka.length):=by rw [hal];simp
   rw [← hs];simp only [Mr,L2,MI,MK,OK,MN,S69,↓XX,XY,↓reduceIte,Nat.reduceBEq,Nat.reduceAdd,Int.reduceEq,Int.reduceLT,Int.reduceLE,hno,Tm.sameL];exact Ao _ _
  | cons a ra =>
   simp only [Aw0] at hal hk;cases rb with
   | nil=>simp only [List.length_nil] at hbl;omega
   | cons b rb =>
    have hi:(pa.length:Int)<ka.length:=by omega
    have hga:=Cg hka;have hgb:=Cg hkb;rw [← hpl] at hgb;have hc:=ih a (by rw [hka];simp) b (by rw [hkb];simp);have hwi:BI ((pa.length:Int)+1)=((pa++[a]).length:Int):=(Av (by omega) (by omega)).trans (by simp);simp only [Tm.sameL] at hs;generalize a.same b=v at hc hs;obtain ⟨o,p,l⟩:=a;obtain ⟨o2,p2,l2⟩:=b;simp only [Ai] at hc;cases v
    ·rw [← hs];simp only [Mr,L2,MI,MK,OK,MN,S69,↓XX,XY,↓reduceIte,Nat.reduceBEq,Nat.reduceAdd,Int.reduceEq,Int.reduceLT,Int.reduceLE,hi,↓Bq (AP hga) (Ba _ _ _),↓Bq (AP hgb) (Ba _ _ _),↓Ce,↓AcI,↓Ag hc];exact Ao _ _
    ·simp only [Mr,L2,MI,MK,OK,MN,S69,↓XX,XY,↓reduceIte,Nat.reduceBEq,Nat.reduceAdd,Int.reduceEq,Int.reduceLT,Int.reduceLE,hi,↓Bq (AP hga) (Ba _ _ _),↓Bq (AP hgb) (Ba _ _ _),↓Ce,↓AcI,↓Ag hc,hwi,↓AC,XD,heldB,AN,XE];exact hrec ra.length _ _ (by omega) ⟨pa++[.mk o p l],ra,pb++[.mk o2 p2 l2],rb,by rw [hka];simp,by rw [hkb];simp,by simp [hpl],rfl,rfl,rfl,by simpa using hs⟩
 ·have h':¬ (ka.length:Int)=kb.length:=by omega
  rw [decide_eq_false h,Bool.false_and];simp only [Mr,L2,MI,MK,OK,MN,S69,↓XX,XY,↓reduceIte,Nat.reduceBEq,Nat.reduceAdd,Int.reduceEq,Int.reduceLT,Int.reduceLE,h'];exact Ao _ _
theorem Vo:∀(n:Nat) (a b:Tm),2 * a.wt+2<n→a.wt≤100000000→Bl (SS dt n 57 [.fv a.enc,.fv b.enc] ⟨[],[]⟩) (.bool (a.same b)):=by
 intro n
 induction n using Nat.strongRecOn with
 | ind n ih =>
  intro a b hn hw;obtain ⟨o,m,ka⟩:=a;obtain ⟨o',m',kb⟩:=b;simp only [Tm.wt] at hn hw;obtain ⟨n,rfl⟩:∃k,n=k+1+1:=⟨n - 2,by omega⟩;have hlen:=C5 ka;have hq:=Anb (n:=n) ka kb (by omega) (by omega) (fun a ha b _=>ih n (by omega) a b (by have:=BO ha;omega) (by have:=BO ha;omega));rw [c57,Ai,Ai,Tm.same];generalize (decide (ka.length=kb.length) && Tm.sameL ka kb)=v at hq;by_cases h1:o=o'
  ·by_cases h2:m=m'
   ·subst h1 h2;simp only [T6,Sf,Q5,S57,↓XX,XY,↓reduceIte,Nat.reduceBEq,Nat.reduceAdd,Int.reduceEq,Int.reduceLT,Int.reduceLE,↓AX hq];exact Ao _ _
   ·have h2':=decide_eq_false h2;subst h1;simp only [T6,Sf,Q5,S57,↓XX,XY,↓reduceIte,Nat.reduceBEq,Nat.reduceAdd,Int.reduceEq,Int.reduceLT,Int.reduceLE,h2];exact Ao _ _
  ·simp only [T6,Sf,Q5,S57,↓XX,XY,↓reduceIte,Nat.reduceBEq,Nat.reduceAdd,Int.reduceEq,Int.reduceLT,Int.reduceLE,h1];exact Ao _ _
theorem LH {n:Nat} (hn:0<n) (o m:Int) (ks:List Tm) (d:Int) (h1:-4611686018427387904≤m+d) (h2:m+d≤4611686018427387904):Bl (SS dt n 93 [.fv (Tm.mk o m ks).enc,iv d] ⟨[],[]⟩) (Tm.mk 1 (m+d) []).enc:=by
 obtain ⟨n,rfl⟩:∃k,n=k+1:=⟨n - 1,by omega⟩;rw [c93,Ai,Ai];have hw:BI (m+d)=m+d:=by rw [Av]<;>omega
 simp only [Aip,S93,↓XX,XY,↓reduceIte,Nat.reduceBEq,Nat.reduceAdd,Int.reduceEq,Int.reduceLT,Int.reduceLE,hw];exact Bg rfl _
theorem Xs {ks:List Bool} {ih:Aa} {f:FuncId} {args:List IV} {vs:List FV} {w:FV} {u:List (Ref×Blk)} {lg:List Ref} {own own':List (Nat×Blk)}
  (hz:∀(e:Option (IV×Hp)) (k:List IV→List Ref→List (Ref×Blk)→List Ref→Option (IV×Hp)),VQ args ks ⟨own,[]⟩ [] e k=k (vs.map .fv) [] u lg)
  (hr:JZ (ih f (vs.map .fv) ⟨[],[]⟩) w) (hlay:∀k:Hp→Option (IV×Hp),Mw u ⟨own,[]⟩ k=k ⟨own',[]⟩) (k:IV→Hp→List Ref→List Ref→Option (IV×Hp)) :
  Al ks false false ih f args ⟨own,[]⟩ k=k (.fv w) ⟨own',[]⟩ lg (Bs u):=by
 rw [Ph,hz,ArK hr,hlay]
theorem Aiq {g:FuncId} (h:EE.pol.inl g=false) (h1:EE.pol.keep g=[]) (h2:EE.pol.split g=false) (h3:EE.pol.raw g=false) (caps:List FV) (ih:Aa) (xs:List IV) (h0:Hp) (k:IV→Hp→List Ref→List Ref→Option (IV×Hp)) :
  Ed EE ih (.fv (.func (.func g) [] caps)) xs h0 k=Al [] false false ih g (xs++caps.map .fv) h0 k:=by
 unfold Ed;simp only [callee,h,cond_false,Ake,h1,h2,h3,Aw1,List.nil_append]
theorem S7 (s:Nat) (b c:Blk) (l:List (Nat×Blk)):AO s b ((s,c)::l)=(s,b)::l:=by simp only [AO,if_true]
theorem NM {s j:Nat} (h:(s == j)=false) (b c:Blk) (l:List (Nat×Blk)):AO s b ((j,c)::l)=(j,c)::AO s b l:=by
 have:¬ s=j:=by simpa using h
 simp only [AO,if_neg this]
theorem Amr (fn:Fn) (r r':Ref) (o o':Nat):CR fn [] [.ptr r o,.ptr r' o']=.func fn [] [.ptr r o,.ptr r' o']:=rfl
theorem Apj (fn:Fn) (r:Ref) (o:Nat):CR fn [] [.ptr r o]=.func fn [] [.ptr r o]:=rfl
theorem Ajh {d s:Nat} {cs:List FV} {ro:Bool} {own:List (Nat×Blk)} {ext:List Blk} (hl:Ap s own=some (.row (cs.map .fv) ro)) (hn:cs.length≤300) (lg:List Ref) (e:Option (IV×Hp)) (k:FV→List (Ref×Blk)→List Ref→Option (IV×Hp)) :
  Dh (d+2) (.ptr (.own s) 0) ⟨own,ext⟩ lg e k=k (.fp cs 0) [(.own s,.row (cs.map .fv) true)] (.own s::lg):=by
 show (Da (.own s) ⟨own,ext⟩ fun b=>DW b fun cells=>cond (Nat.ble cells.length 300) (Cy (Dh (d+1)) cells ⟨own,ext⟩ (.own s::lg) e fun cs u lg=>k (.fp cs 0) ((.own s,.row cells true)::u) lg) e)=_
 rw [LS,Bk,hl];simp only [Option.bind_some,H4,List.length_map];rw [Bb,decide_eq_true hn,c_t,O4]
theorem Anz {s1 s2:Nat} {c1 c2:List FV} {r1 r2:Bool} {fn:Fn} {own:List (Nat×Blk)} {ext:List Blk} (h1:Ap s1 own=some (.row (c1.map .fv) r1)) (h2:Ap s2 own=some (.row (c2.map .fv) r2)) (n1:c1.length≤300) (n2:c2.length≤300)
  (lg:List Ref) (e:Option (IV×Hp)) (k:FV→List (Ref×Blk)→List Ref→Option (IV×Hp)) :
  Dh 12 (.func fn [] [.ptr (.own s1) 0,.ptr (.own s2) 0]) ⟨own,ext⟩ lg e k=k (.func fn [] [.fp c1 0,.fp c2 0]) [(.own s1,.row (c1.map .fv) true),(.own s2,.row (c2.map .fv) true)] (.own s2 :: .own s1::lg):=by
 show (Cy (Dh 11) [] ⟨own,ext⟩ lg e fun x u lg=>Cy (Dh 11) [.ptr (.own s1) 0,.ptr (.own s2) 0] ⟨own,ext⟩ lg e fun y v lg=>Nn u v fun w=>k (.func fn x y) w lg)=_
 rw [fl0,VV,Ajh (d:=9) h1 n1,VV,Ajh (d:=9) h2 n2,fl0];rfl
theorem ApQ {s1:Nat} {c1:List FV} {r1:Bool} {fn:Fn} {own:List (Nat×Blk)} {ext:List Blk} (h1:Ap s1 own=some (.row (c1.map .fv) r1)) (n1:c1.length≤300)
  (lg:List Ref) (e:Option (IV×Hp)) (k:FV→List (Ref×Blk)→List Ref→Option (IV×Hp)) :
  Dh 12 (.func fn [] [.ptr (.own s1) 0]) ⟨own,ext⟩ lg e k=k (.func fn [] [.fp c1 0]) [(.own s1,.row (c1.map .fv) true)] (.own s1::lg):=by
 show (Cy (Dh 11) [] ⟨own,ext⟩ lg e fun x u lg=>Cy (Dh 11) [.ptr (.own s1) 0] ⟨own,ext⟩ lg e fun y v lg=>Nn u v fun w=>k (.func fn x y) w lg)=_
 rw [fl0,VV,Ajh (d:=9) h1 n1,fl0];rfl
theorem Acq {ih:Aa} {f:FuncId} {x y w:FV} {a b:IV} {fn:Fn} {s1 s2:Nat} {c1 c2:List FV} {r1 r2:Bool} {own own':List (Nat×Blk)} (hr:JZ (ih f [.fv x,.fv y,.fv (.func fn [] [.fp c1 0,.fp c2 0])] ⟨[],[]⟩) w) (ha:A9 a=some x) (hb:A9 b=some y)
  (h1:Ap s1 own=some (.row (c1.map .fv) r1)) (h2:Ap s2 own=some (.row (c2.map .fv) r2)) (h2':Ap s2 (AO s1 (.row (c1.map .fv) true) own)=some (.row (c2.map .fv) r2)) (n1:c1.length≤300) (n2:c2.length≤300)
  (ho:AO s2 (.row (c2.map .fv) true) (AO s1 (.row (c1.map .fv) true) own)=own') (k:IV→Hp→List Ref→List Ref→Option (IV×Hp)) :
  Al [] false false ih f [a,b,.func fn [] [.ptr (.own s1) 0,.ptr (.own s2) 0]] ⟨own,[]⟩ k=k (.fv w) ⟨own',[]⟩ [.own s2,.own s1] [.own s1,.own s2]:=by
 subst ho;refine Xs (vs:=[x,y,.func fn [] [.fp c1 0,.fp c2 0]]) (u:=[(.own s1,.row (c1.map .fv) true),(.own s2,.row (c2.map .fv) true)]) (lg:=[.own s2,.own s1]) ?_ hr ?_ k
 ·intro e k;rw [fz1,JC _ _ e _ ha,fz1,JC _ _ e _ hb,fz1,Anz h1 h2 n1 n2,fz0];rfl
 ·intro k
  show (Fj own s1 fun _=>A2 own s1 (.row (c1.map .fv) true) fun own=>Fj own s2 fun _=>A2 own s2 (.row (c2.map .fv) true) fun own=>k ⟨own,_⟩)=_
  rw [Bk,h1,Option.bind_some,Bt,Bk,h2',Option.bind_some,Bt]
theorem Amg {ih:Aa} {f:FuncId} {x y w:FV} {a b:IV} {fn:Fn} {s1:Nat} {c1:List FV} {r1:Bool} {own own':List (Nat×Blk)} (hr:JZ (ih f [.fv x,.fv y,.fv (.func fn [] [.fp c1 0])] ⟨[],[]⟩) w) (ha:A9 a=some x) (hb:A9 b=some y)
  (h1:Ap s1 own=some (.row (c1.map .fv) r1)) (n1:c1.length≤300) (ho:AO s1 (.row (c1.map .fv) true) own=own') (k:IV→Hp→List Ref→List Ref→Option (IV×Hp)) :
  Al [] false false ih f [a,b,.func fn [] [.ptr (.own s1) 0]] ⟨own,[]⟩ k=k (.fv w) ⟨own',[]⟩ [.own s1] [.own s1]:=by
 subst ho;refine Xs (vs:=[x,y,.func fn [] [.fp c1 0]]) (u:=[(.own s1,.row (c1.map .fv) true)]) (lg:=[.own s1]) ?_ hr ?_ k
 ·intro e k;rw [fz1,JC _ _ e _ ha,fz1,JC _ _ e _ hb,fz1,ApQ h1 n1,fz0];rfl
 ·intro k
  show (Fj own s1 fun _=>A2 own s1 (.row (c1.map .fv) true) fun own=>k ⟨own,_⟩)=_
  rw [Bk,h1,Option.bind_some,Bt]
mutual
def Tm.each (g:Tm→Int→Tm):Tm→Int→Tm
 | .mk op m ks,a=>if op=1 then g (.mk op m ks) a else .mk op m (Tm.eachL g op 0 ks a)
def Tm.eachL (g:Tm→Int→Tm):Int→Nat→List Tm→Int→List Tm
 | _,_,[],_=>[]
 | op,i,t::l,a=>t.each g (a+Ae op i)::Tm.eachL g op (i+1) l a
end
abbrev ArX (op m:Int) (ks done:List Tm) (r:Nat):Hp :=
 ⟨[(95420416,.row [iv op,iv m,.fv (.sl (ks.map Tm.enc))] false),(95420417,.row [iv 0,iv 0,.nils] false),(95423491,.row (BG done r) false)],[]⟩
set_option maxRecDepth 20000 in
set_option maxHeartbeats 1000000 in
theorem Yt {F:FuncId} {caps:List FV} {g:Tm→Int→Tm} {c:Nat} (hd:∀(ih:Aa) (xs:List IV) (h0:Hp) (k:IV→Hp→List Ref→List Ref→Option (IV×Hp)),Ed EE ih (.fv (.func (.func F) [] caps)) xs h0 k=Al [] false false ih F (xs++caps.map .fv) h0 k)
  (P:Tm→Int→Prop) (hP:∀op m ks a i t,P (.mk op m ks) a→ks[i]?=some t→op≠1→P t (a+Ae op i))
  (hg:∀n,c<n→∀m ks a,P (.mk 1 m ks) a→Bl (SS dt n F (.fv (Tm.mk 1 m ks).enc::iv a::caps.map .fv) ⟨[],[]⟩) (g (.mk 1 m ks) a).enc) :
  ∀(n:Nat) (t:Tm) (a:Int),t.wt+c+3<n→t.wk→0≤a→a+2 * t.wt≤1000000000→P t a→JZ (SS dt n 91 [.fv t.enc,iv a,.fv (.func (.func F) [] caps)] ⟨[],[]⟩) (t.each g a).enc:=by
 intro n
 induction n with
 | zero=>intro t a h;omega
 | succ n ih =>
  intro t a hn hk ha ha2 hPt;obtain ⟨op,m,ks⟩:=t;simp only [Tm.wt] at hn ha2;rw [c91];have hlen:=C5 ks;rw [Tm.wk] at hk;by_cases h1:op=1
  ·subst h1;rw [Tm.each,if_pos rfl];have hc:=hg n (by omega) m ks a hPt;generalize g (.mk 1 m ks) a=u at hc;obtain ⟨o,p,l⟩:=u;rw [Ai] at hc ⊢;rw [Ai] at hc ⊢;have hi:∀(own:List (Nat×Blk)) (k:IV→Hp→List Ref→List Ref→Option (IV×Hp)),Al [] false false (SS dt n) F ([.fv (.agg [.int .i64 1,.int .i64 m,.sl (ks.map Tm.enc)]),iv a]++caps.map .fv) ⟨own,[]⟩ k=k (.fv (.agg [.int .i64 o,.int .i64 p,.sl (l.map Tm.enc)])) ⟨own,[]⟩ [] []:=by
    intro own k;refine O7 (vs:=.agg [.int .i64 1,.int .i64 m,.sl (ks.map Tm.enc)] :: .int .i64 a::caps) ?_ hc ⟨own,[]⟩ k;have hcaps:∀l:List FV,By (l.map .fv)=some l:=by
     intro l
     induction l with
     | nil=>rfl
     | cons x l ih=>simp [By,ih,A9,F8]
    simp [By,hcaps,A9,F8,iv]
   simp only [KB,KQ,KW,Lo,K1,LD,LQ,K7,Ku,Kg,S91,↓XX,XY,↓reduceIte,Nat.reduceBEq,Nat.reduceAdd,Int.reduceEq,Int.reduceLT,Int.reduceLE,↓hd,↓hi];exact Co _ _
  ·rw [Tm.each,if_neg h1,Ai,Ai];simp only [KB,KQ,KW,Lo,K1,LD,LQ,K7,Ku,Kg,S91,↓XX,XY,↓reduceIte,Nat.reduceBEq,Nat.reduceAdd,Int.reduceEq,Int.reduceLT,Int.reduceLE,h1,↓Aop (show ks.length≤1000 by omega),↓AC,XD,heldB,AN,XE,Hl,Fo]
   refine A7 (Q:=fun r=>JZ r _) (fun k V H=>∃(pre rest done:List Tm),ks=pre++rest∧rest.length=k∧done.length=pre.length ∧
     V=[iv a,.fv (.func (.func F) [] caps),.ptr (.own 95420416) 0,.ptr (.own 95420417) 0,.slc (.own 95423491) 3 ks.length,.fv (.sl (ks.map Tm.enc)),iv ks.length,iv pre.length] ∧
     H=ArX op m ks done rest.length∧done++Tm.eachL g op pre.length rest a=Tm.eachL g op 0 ks a)
    ?_ n ks.length _ _ (by omega) ⟨[],ks,[],rfl,rfl,rfl,rfl,rfl,rfl⟩
   rintro k V H rec ⟨pre,rest,done,hks,hl,hdl,rfl,rfl,hts⟩ hrec;have hkl:ks.length=pre.length+rest.length:=by rw [hks];simp
   cases rest with
   | nil =>
    have hno:¬ ((pre.length:Int)<ks.length):=by rw [hkl];simp
    rw [Tm.eachL,List.append_nil] at hts;rw [← hts];simp only [KB,KQ,KW,Lo,K1,LD,LQ,K7,Sr,Ku,Kg,S91,↓XX,XY,↓reduceIte,Nat.reduceBEq,Nat.reduceAdd,Int.reduceEq,Int.reduceLT,Int.reduceLE,hno];rw [show ks.length=done.length by rw [hdl,hkl];simp]
    exact ⟨_,_,rfl,_,_,fun e0 K=>AjF (by rfl) (by simp only [List.length_nil] at hkl;omega) [] e0 K⟩
   | cons x rest =>
    have hi:(pre.length:Int)<ks.length:=by rw [hkl];simp;omega
    have hg2:=Cg hks;have hxw:=BO (t:=x) (l:=ks) (by rw [hks];simp);have hb:=LZ (n:=n) (by omega) op pre.length;have hble:=AY op pre.length;have hs:=ih x (a+Ae op pre.length) (by omega) (Ml hk.2 (by rw [hks];simp)) (by omega) (by omega) (hP _ _ _ _ _ _ hPt hg2 h1);have hwa:BI (a+Ae op pre.length)=a+Ae op pre.length:=by rw [Av]<;>omega
    have hwi:BI ((pre.length:Int)+1)=((pre++[x]).length:Int):=(Av (by omega) (by omega)).trans (by simp);have hin:pre.length<ks.length:=by omega
    rw [Tm.eachL] at hts;generalize x.each g (a+Ae op pre.length)=y at hs hts;have hst:=fun {β:Type}=>X6 (β:=β) done rest.length y.op y.n y.kids;rw [hdl] at hst;obtain ⟨o,p,l⟩:=x;obtain ⟨o2,p2,l2⟩:=y;simp only [Tm.op,Tm.n,Tm.kids] at hst;rw [Ai,Ai] at hs;simp only [Aw0] at hl;simp only [KB,KQ,KW,Lo,K1,LD,LQ,K7,Sr,Ku,Kg,S91,↓XX,XY,↓reduceIte,Nat.reduceBEq,Nat.reduceAdd,Int.reduceEq,Int.reduceLT,Int.reduceLE,hi,↓Bq (AP hg2) (Ba _ _ _),↓Ce,↓Ag hb,hwa,hwi,↓AX (Ag1 hs),↓Oi hin,↓hst,↓AC,XD,heldB,AN,XE,Hl,Fo];exact hrec rest.length _ _ (by omega) ⟨pre++[.mk o p l],rest,done++[.mk o2 p2 l2],by rw [hks];simp,rfl,by simp [hdl],rfl,rfl,by rw [← hts];simp⟩
def GJ (d c:Int):Tm→Int→Tm
 | .mk _ m _,a=>.mk 1 (if c≤m - a then m+d else m) []
def scP (K:Nat) (t:Tm) (a:Int):Prop:=0≤a∧∃k:Nat,t.sc k∧(k:Int)≤K+a
theorem TM {K:Nat} (op m:Int) (ks:List Tm) (a:Int) (i:Nat) (t:Tm) (h:scP K (.mk op m ks) a) (hg:ks[i]?=some t) (_:op≠1):scP K t (a+Ae op i):=by
 obtain ⟨h0,k,hk,hl⟩:=h;rw [Tm.sc] at hk
 have:=J0 hk.2.2 hg
 rw [Nat.zero_add] at this;exact ⟨by omega,_,this,by omega⟩
theorem TW {K:Nat} {m a:Int} {ks:List Tm} (h:scP K (.mk 1 m ks) a):ks=[]∧0≤m∧m<K+a∧0≤a:=by
 obtain ⟨h0,k,hk,hl⟩:=h;rw [Tm.sc,if_pos rfl] at hk;have h1:ar 1=some 0:=by decide
 rw [h1] at hk;have h2:ks.length=0:=by have:=hk.1;simp only [AwW] at this;omega
 exact ⟨List.length_eq_zero_iff.1 h2,hk.2.1.1,by omega,h0⟩
theorem AgG (caps:List FV) (ih:Aa) (xs:List IV) (h0:Hp) (k:IV→Hp→List Ref→List Ref→Option (IV×Hp)):Ed EE ih (.fv (.func (.func 95) [] caps)) xs h0 k=Al [] false false ih 95 (xs++caps.map .fv) h0 k :=
 Aiq (by kernel_rfl) (by kernel_rfl) (by kernel_rfl) (by kernel_rfl) caps ..
theorem AeX {n:Nat} (hn:1<n) (d c m a:Int) (ks:List Tm) (hm1:0≤m) (hm2:m≤100000000000) (ha:0≤a) (ha2:a≤100000000000) (hd1:-100000000000≤d) (hd2:d≤100000000000) :
  Bl (SS dt n 95 [.fv (Tm.mk 1 m ks).enc,iv a,.fv (.fp [.int .i64 c] 0),.fv (.fp [.int .i64 d] 0)] ⟨[],[]⟩) (GJ d c (.mk 1 m ks) a).enc:=by
 obtain ⟨n,rfl⟩:∃k,n=k+1:=⟨n - 1,by omega⟩;rw [c95];have hw:BI (m - a)=m - a:=by rw [Av]<;>omega
 have h1:=LH (n:=n) (by omega) 1 m ks d (by omega) (by omega);have h0:=LH (n:=n) (by omega) 1 m ks 0 (by omega) (by omega);rw [Ai] at h1 h0 ⊢;rw [GJ];by_cases h:c≤m - a
 ·rw [if_pos h];rw [Ai] at h1 ⊢;simp only [XH,XA,WD,S95,↓XX,XY,↓reduceIte,Nat.reduceBEq,Nat.reduceAdd,Int.reduceEq,Int.reduceLT,Int.reduceLE,hw,h,↓Ag h1];exact Ao _ _
 ·rw [if_neg h];rw [Int.add_zero,Ai] at h0;rw [Ai];simp only [XH,XA,WD,S95,↓XX,XY,↓reduceIte,Nat.reduceBEq,Nat.reduceAdd,Int.reduceEq,Int.reduceLT,Int.reduceLE,hw,h,↓Ag h0];exact Ao _ _
theorem AfK {n:Nat} {t:Tm} {d c:Int} {K:Nat} (hn:t.wt+6<n) (hw:t.wk) (h2:2 * t.wt≤1000000000) (hs:t.sc K) (hK:K≤1000000000) (hd1:-1000000000≤d) (hd2:d≤1000000000) :
  Bl (SS dt n 94 [.fv t.enc,iv d,iv c] ⟨[],[]⟩) (t.each (GJ d c) 0).enc:=by
 obtain ⟨n,rfl⟩:∃k,n=k+1:=⟨n - 1,by omega⟩;rw [c94];have hc:=Yt (F:=95) (caps:=[.fp [.int .i64 c] 0,.fp [.int .i64 d] 0]) (g:=GJ d c) (c:=1) (AgG _) (fun t a=>scP K t a∧a≤1000000000∧a+2 * t.wt≤1000000000)
  (fun op m ks a i t h hg ho=>⟨TM op m ks a i t h.1 hg ho,by
   have hb:=AY op i;have hwm:=BO (List.mem_of_getElem? hg)
   have:=h.2.2
   simp only [Tm.wt] at this;omega,by
   have hb:=AY op i;have hwm:=BO (List.mem_of_getElem? hg)
   have:=h.2.2
   simp only [Tm.wt] at this;omega⟩)
  (fun n hn m ks a h=>by
   obtain ⟨rfl,h1,h2,h3⟩:=TW h.1;exact AeX hn d c m a [] h1 (by omega) h3 (by omega) (by omega) (by omega))
  n t 0 (by omega) hw (by omega) (by omega) ⟨⟨by omega,K,hs,by omega⟩,by omega,by omega⟩
 generalize t.each (GJ d c) 0=y at hc;obtain ⟨o2,p2,l2⟩:=y;obtain ⟨o,p,l⟩:=t;rw [Ai,Ai] at hc;rw [Ai,Ai];simp only [Ajt,S94,↓XX,XY,↓reduceIte,Nat.reduceBEq,Nat.reduceAdd,Int.reduceEq,Int.reduceLT,Int.reduceLE,↓gen_val',↓Amr];rw [Acq hc rfl rfl (by rfl) (by rfl) (by rfl) (by simp) (by simp) rfl];simp only [↓XX,XY,↓reduceIte,Nat.reduceBEq,Nat.reduceAdd,Int.reduceEq,Int.reduceLT,Int.reduceLE,↓S7,↓NM];exact Ao _ _
mutual
theorem Po (d c:Int):∀(t:Tm) (k:Nat) (a:Int),t.sc k→k+2 * t.wt≤2000000000→-1000000000≤d→d≤1000000000→t.each (GJ d c) a=t.shift d (c+a)
 | .mk op m ks,k,a,h,hk,h1,h2=>by
  rw [Tm.sc] at h;rw [Tm.wt] at hk;by_cases ho:op=1
  ·subst ho;have h3:ar 1=some 0:=by decide
   rw [h3,if_pos rfl] at h;have h4:ks=[]:=List.length_eq_zero_iff.1 (by have:=h.1;simp only [AwW] at this;omega);subst h4;rw [Tm.each,if_pos rfl,GJ,Tm.shift,Tm.shiftL];have hw:BI (m+d)=m+d:=by
    have:=h.2.1
    rw [Av]<;>omega
   rw [hw];by_cases hc:c≤m - a
   ·rw [if_pos hc,if_pos ⟨rfl,by omega⟩]
   ·rw [if_neg hc,if_neg (fun h=>hc (by omega))]
  ·rw [Tm.each,if_neg ho,Tm.shift,if_neg (fun h=>ho h.1)];congr 1
   have:=eachL_shift d c op 0 ks k a h.2.2 (by omega) h1 h2
   exact this
theorem eachL_shift (d c:Int):∀(op:Int) (i:Nat) (l:List Tm) (k:Nat) (a:Int),Tm.scL op i l k→k+2+2 * Tm.wtL l≤2000000000→-1000000000≤d→d≤1000000000→Tm.eachL (GJ d c) op i l a=Tm.shiftL op i l d (c+a)
 | _,_,[],_,_,_,_,_,_=>by rw [Tm.eachL,Tm.shiftL]
 | op,i,t::l,k,a,h,hk,h1,h2=>by
  rw [Tm.scL] at h;rw [Tm.eachL,Tm.shiftL];have hb:=AY op i;rw [Tm.wtL] at hk;rw [Po d c t (k+Ae op i) (a+Ae op i) h.1 (by omega) h1 h2,eachL_shift d c op (i+1) l k a h.2 (by omega) h1 h2,Int.add_assoc]
end
def Ic (n:Int) (u:Tm):Tm→Int→Tm
 | .mk _ m _,a=>if n<m - a then .mk 1 (m+-1) [] else if m - a=n then u.each (GJ a 0) 0 else .mk 1 (m+0) []
theorem Apw (caps:List FV) (ih:Aa) (xs:List IV) (h0:Hp) (k:IV→Hp→List Ref→List Ref→Option (IV×Hp)):Ed EE ih (.fv (.func (.func 92) [] caps)) xs h0 k=Al [] false false ih 92 (xs++caps.map .fv) h0 k :=
 Aiq (by kernel_rfl) (by kernel_rfl) (by kernel_rfl) (by kernel_rfl) caps ..
theorem AlG {n:Nat} {v:Int} {u:Tm} {K:Nat} (m a:Int) (ks:List Tm) (hn:u.wt+8<n) (hw:u.wk) (h2:2 * u.wt≤1000000000) (hs:u.sc K) (hK:K≤1000000000) (hm1:0≤m) (hm2:m≤100000000000) (ha:0≤a) (ha2:a≤1000000000) :
  Bl (SS dt n 92 [.fv (Tm.mk 1 m ks).enc,iv a,.fv (.fp [.int .i64 v] 0),.fv (.fp [.int .i64 u.op,.int .i64 u.n,.sl (u.kids.map Tm.enc)] 0)] ⟨[],[]⟩) (Ic v u (.mk 1 m ks) a).enc:=by
 obtain ⟨n,rfl⟩:∃k,n=k+1:=⟨n - 1,by omega⟩;rw [c92];have hw1:BI (m - a)=m - a:=by rw [Av]<;>omega
 have h1:=LH (n:=n) (by omega) 1 m ks (-1) (by omega) (by omega);have h0:=LH (n:=n) (by omega) 1 m ks 0 (by omega) (by omega);have hsh:=AfK (n:=n) (d:=a) (c:=0) (by omega) hw h2 hs hK (by omega) (by omega);rw [Ai] at h1 h0 ⊢;rw [Ic];by_cases h:v<m - a
 ·rw [if_pos h];rw [Ai] at h1 ⊢;simp only [Rk,Tn,RK,Q3,Uj,S92,↓XX,XY,↓reduceIte,Nat.reduceBEq,Nat.reduceAdd,Int.reduceEq,Int.reduceLT,Int.reduceLE,hw1,h,↓Ag h1];exact Ao _ _
 ·rw [if_neg h];by_cases he:m - a=v
  ·have hwv:BI v=v:=by rw [← he];exact hw1
   rw [if_pos he];generalize u.each (GJ a 0) 0=y at hsh;obtain ⟨o2,p2,l2⟩:=y;obtain ⟨o,p,l⟩:=u;rw [Ai,Ai] at hsh;rw [Ai];simp only [Rk,Tn,RK,Q3,Uj,S92,↓XX,XY,↓reduceIte,Nat.reduceBEq,Nat.reduceAdd,Int.reduceEq,Int.reduceLT,Int.reduceLE,hw1,hwv,h,he,Tm.op,Tm.n,Tm.kids,↓AX hsh,Int.lt_irrefl];exact Ao _ _
  ·rw [if_neg he];rw [Ai] at h0 ⊢;simp only [Rk,Tn,RK,Q3,Uj,S92,↓XX,XY,↓reduceIte,Nat.reduceBEq,Nat.reduceAdd,Int.reduceEq,Int.reduceLT,Int.reduceLE,hw1,h,he,↓Ag h0];exact Ao _ _
theorem ApS {n:Nat} {t u:Tm} {v:Int} {K:Nat} (hn:t.wt+u.wt+14<n) (hw:t.wk) (h2:2 * t.wt≤1000000000) (hs:t.sc K) (hwu:u.wk) (hu2:2 * u.wt≤1000000000) (hsu:u.sc K) (hK:K≤1000000000) :
  Bl (SS dt n 88 [.fv t.enc,iv v,.fv u.enc] ⟨[],[]⟩) (t.each (Ic v u) 0).enc:=by
 obtain ⟨n,rfl⟩:∃k,n=k+1:=⟨n - 1,by omega⟩;rw [c88];have hc:=Yt (F:=92) (caps:=[.fp [.int .i64 v] 0,.fp [.int .i64 u.op,.int .i64 u.n,.sl (u.kids.map Tm.enc)] 0]) (g:=Ic v u) (c:=u.wt+8) (Apw _) (fun t a=>scP K t a∧a≤1000000000∧a+2 * t.wt≤1000000000)
  (fun op m ks a i t h hg ho=>⟨TM op m ks a i t h.1 hg ho,by
   have hb:=AY op i;have hwm:=BO (List.mem_of_getElem? hg)
   have:=h.2.2
   simp only [Tm.wt] at this;omega,by
   have hb:=AY op i;have hwm:=BO (List.mem_of_getElem? hg)
   have:=h.2.2
   simp only [Tm.wt] at this;omega⟩)
  (fun n hn m ks a h=>by
   obtain ⟨rfl,h1,h2,h3⟩:=TW h.1;exact AlG m a [] hn hwu hu2 hsu hK h1 (by omega) h3 (by omega))
  n t 0 (by omega) hw (by omega) (by omega) ⟨⟨by omega,K,hs,by omega⟩,by omega,by omega⟩
 generalize t.each (Ic v u) 0=y at hc;obtain ⟨o2,p2,l2⟩:=y;obtain ⟨o,p,l⟩:=t;obtain ⟨o3,p3,l3⟩:=u;rw [Ai,Ai] at hc;rw [Ai,Ai,Ai];simp only [Tm.op,Tm.n,Tm.kids] at hc;simp only [Af3,S88,↓XX,XY,↓reduceIte,Nat.reduceBEq,Nat.reduceAdd,Int.reduceEq,Int.reduceLT,Int.reduceLE,↓gen_val',↓Amr];rw [Acq hc rfl rfl (by rfl) (by rfl) (by rfl) (by simp) (by simp) rfl];simp only [↓XX,XY,↓reduceIte,Nat.reduceBEq,Nat.reduceAdd,Int.reduceEq,Int.reduceLT,Int.reduceLE,↓S7,↓NM];exact Ao _ _
mutual
def Tm.some1 (g:Int→Int→Bool):Tm→Int→Bool
 | .mk op m ks,a=>if op=1 then g m a else Tm.someL g op 0 ks a
def Tm.someL (g:Int→Int→Bool):Int→Nat→List Tm→Int→Bool
 | _,_,[],_=>false
 | op,i,t::l,a=>t.some1 g (a+Ae op i) || Tm.someL g op (i+1) l a
end
def PJ (v:Int) (m a:Int):Bool:=decide (m - a=v) && decide (a≤m)
theorem Al1 (caps:List FV) (ih:Aa) (xs:List IV) (h0:Hp) (k:IV→Hp→List Ref→List Ref→Option (IV×Hp)):Ed EE ih (.fv (.func (.func 90) [] caps)) xs h0 k=Al [] false false ih 90 (xs++caps.map .fv) h0 k :=
 Aiq (by kernel_rfl) (by kernel_rfl) (by kernel_rfl) (by kernel_rfl) caps ..
theorem Agx {n:Nat} (hn:0<n) (v m a:Int) (hm1:0≤m) (hm2:m≤100000000000) (ha:0≤a) (ha2:a≤1000000000):Bl (SS dt n 90 [iv m,iv a,.fv (.fp [.int .i64 v] 0)] ⟨[],[]⟩) (.bool (PJ v m a)):=by
 obtain ⟨n,rfl⟩:∃k,n=k+1:=⟨n - 1,by omega⟩;rw [c90];have hw1:BI (m - a)=m - a:=by rw [Av]<;>omega
 unfold PJ;by_cases h:m - a=v
 ·have hwv:BI v=v:=by rw [← h];exact hw1
  rw [decide_eq_true h];by_cases h':a≤m
  ·rw [decide_eq_true h'];simp only [TO,S90,↓XX,XY,↓reduceIte,Nat.reduceBEq,Nat.reduceAdd,Int.reduceEq,Int.reduceLT,Int.reduceLE,hw1,hwv,h,h'];exact Ao _ _
  ·rw [decide_eq_false h'];simp only [TO,S90,↓XX,XY,↓reduceIte,Nat.reduceBEq,Nat.reduceAdd,Int.reduceEq,Int.reduceLT,Int.reduceLE,hw1,hwv,h,h'];exact Ao _ _
 ·rw [decide_eq_false h];simp only [TO,S90,↓XX,XY,↓reduceIte,Nat.reduceBEq,Nat.reduceAdd,Int.reduceEq,Int.reduceLT,Int.reduceLE,hw1,h];exact Ao _ _
set_option maxRecDepth 20000 in
theorem Alk {F:FuncId} {caps:List FV} {g:Int→Int→Bool} {c:Nat} (hd:∀(ih:Aa) (xs:List IV) (h0:Hp) (k:IV→Hp→List Ref→List Ref→Option (IV×Hp)),Ed EE ih (.fv (.func (.func F) [] caps)) xs h0 k=Al [] false false ih F (xs++caps.map .fv) h0 k)
  (P:Tm→Int→Prop) (hP:∀op m ks a i t,P (.mk op m ks) a→ks[i]?=some t→op≠1→P t (a+Ae op i))
  (hg:∀n,c<n→∀m ks a,P (.mk 1 m ks) a→Bl (SS dt n F (iv m::iv a::caps.map .fv) ⟨[],[]⟩) (.bool (g m a))) :
  ∀(n:Nat) (t:Tm) (a:Int),t.wt+c+3<n→0≤a→a+2 * t.wt≤1000000000→P t a→JZ (SS dt n 89 [.fv t.enc,iv a,.fv (.func (.func F) [] caps)] ⟨[],[]⟩) (.bool (t.some1 g a)):=by
 intro n
 induction n with
 | zero=>intro t a h;omega
 | succ n ih =>
  intro t a hn ha ha2 hPt;obtain ⟨op,m,ks⟩:=t;simp only [Tm.wt] at hn ha2;rw [c89,Ai];have hlen:=C5 ks;by_cases h1:op=1
  ·subst h1;rw [Tm.some1,if_pos rfl];have hc:=hg n (by omega) m ks a hPt;have hi:∀(own:List (Nat×Blk)) (k:IV→Hp→List Ref→List Ref→Option (IV×Hp)),Al [] false false (SS dt n) F ([iv m,iv a]++caps.map .fv) ⟨own,[]⟩ k=k (.fv (.bool (g m a))) ⟨own,[]⟩ [] []:=by
    intro own k;refine O7 (vs:=.int .i64 m :: .int .i64 a::caps) ?_ hc ⟨own,[]⟩ k;have hcaps:∀l:List FV,By (l.map .fv)=some l:=by
     intro l
     induction l with
     | nil=>rfl
     | cons x l ih=>simp [By,ih,A9,F8]
    simp [By,hcaps,A9,F8,iv]
   simp only [L5,MS,Mb,Mg,Mm,Ma,Mc,S89,↓XX,XY,↓reduceIte,Nat.reduceBEq,Nat.reduceAdd,Int.reduceEq,Int.reduceLT,Int.reduceLE,↓hd,↓hi];exact Co _ _
  ·rw [Tm.some1,if_neg h1];simp only [L5,MS,Mb,Mg,Mm,Ma,Mc,S89,↓XX,XY,↓reduceIte,Nat.reduceBEq,Nat.reduceAdd,Int.reduceEq,Int.reduceLT,Int.reduceLE,h1,↓AC,XD,heldB,AN,XE];refine A7 (Q:=fun r=>JZ r _) (fun k V H=>∃(pre rest:List Tm),ks=pre++rest∧rest.length=k ∧
     V=[iv a,.fv (.func (.func F) [] caps),.ptr (.own 93323264) 0,.fv (.sl (ks.map Tm.enc)),iv ks.length,iv pre.length] ∧
     H=⟨[(93323264,.row [iv op,iv m,.fv (.sl (ks.map Tm.enc))] false)],[]⟩∧Tm.someL g op pre.length rest a=Tm.someL g op 0 ks a)
    ?_ n ks.length _ _ (by omega) ⟨[],ks,rfl,rfl,rfl,rfl,rfl⟩
   rintro k V H rec ⟨pre,rest,hks,hl,rfl,rfl,hts⟩ hrec;have hkl:ks.length=pre.length+rest.length:=by rw [hks];simp
   cases rest with
   | nil =>
    have hno:¬ ((pre.length:Int)<ks.length):=by rw [hkl];simp
    rw [Tm.someL] at hts;rw [← hts];simp only [L5,MS,Mb,Mg,Mm,Ma,Tb,Mc,S89,↓XX,XY,↓reduceIte,Nat.reduceBEq,Nat.reduceAdd,Int.reduceEq,Int.reduceLT,Int.reduceLE,hno];exact Co _ _
   | cons x rest =>
    have hi:(pre.length:Int)<ks.length:=by rw [hkl];simp;omega
    have hg2:=Cg hks;have hxw:=BO (t:=x) (l:=ks) (by rw [hks];simp);have hb:=LZ (n:=n) (by omega) op pre.length;have hble:=AY op pre.length;have hs:=ih x (a+Ae op pre.length) (by omega) (by omega) (by omega) (hP _ _ _ _ _ _ hPt hg2 h1);have hwa:BI (a+Ae op pre.length)=a+Ae op pre.length:=by rw [Av]<;>omega
    have hwi:BI ((pre.length:Int)+1)=((pre++[x]).length:Int):=(Av (by omega) (by omega)).trans (by simp);rw [Tm.someL] at hts;generalize x.some1 g (a+Ae op pre.length)=y at hs hts;obtain ⟨o,p,l⟩:=x;rw [Ai] at hs;simp only [Aw0] at hl;cases y
    ·simp only [L5,MS,Mb,Mg,Mm,Ma,Tb,Mc,S89,↓XX,XY,↓reduceIte,Nat.reduceBEq,Nat.reduceAdd,Int.reduceEq,Int.reduceLT,Int.reduceLE,hi,↓Bq (AP hg2) (Ba _ _ _),↓Ce,↓Ag hb,hwa,hwi,↓AX (Ag1 hs),↓AC,XD,heldB,AN,XE];exact hrec rest.length _ _ (by omega) ⟨pre++[.mk o p l],rest,by rw [hks];simp,rfl,rfl,rfl,by simpa using hts⟩
    ·rw [← hts];simp only [L5,MS,Mb,Mg,Mm,Ma,Tb,Mc,S89,↓XX,XY,↓reduceIte,Nat.reduceBEq,Nat.reduceAdd,Int.reduceEq,Int.reduceLT,Int.reduceLE,hi,↓Bq (AP hg2) (Ba _ _ _),↓Ce,↓Ag hb,hwa,hwi,↓AX (Ag1 hs),Bool.true_or];exact Co _ _
theorem Alb {n:Nat} {t:Tm} {v:Int} {K:Nat} (hn:t.wt+6<n) (h2:2 * t.wt≤1000000000) (hs:t.sc K) (hK:K≤1000000000):Bl (SS dt n 87 [.fv t.enc,iv v] ⟨[],[]⟩) (.bool (t.some1 (PJ v) 0)):=by
 obtain ⟨n,rfl⟩:∃k,n=k+1:=⟨n - 1,by omega⟩;rw [c87];have hc:=Alk (F:=90) (caps:=[.fp [.int .i64 v] 0]) (g:=PJ v) (c:=0) (Al1 _) (fun t a=>scP K t a∧a≤1000000000∧a+2 * t.wt≤1000000000)
  (fun op m ks a i t h hg ho=>⟨TM op m ks a i t h.1 hg ho,by
   have hb:=AY op i;have hwm:=BO (List.mem_of_getElem? hg)
   have:=h.2.2
   simp only [Tm.wt] at this;omega,by
   have hb:=AY op i;have hwm:=BO (List.mem_of_getElem? hg)
   have:=h.2.2
   simp only [Tm.wt] at this;omega⟩)
  (fun n hn m ks a h=>by
   obtain ⟨rfl,h1,h2,h3⟩:=TW h.1;exact Agx hn v m a h1 (by omega) h3 (by omega))
  n t 0 (by omega) (by omega) (by omega) ⟨⟨by omega,K,hs,by omega⟩,by omega,by omega⟩
 obtain ⟨o,p,l⟩:=t;rw [Ai] at hc ⊢;simp only [S87,↓XX,XY,↓reduceIte,Nat.reduceBEq,Nat.reduceAdd,Int.reduceEq,Int.reduceLT,Int.reduceLE,↓gen_val',↓Apj];rw [Amg hc rfl rfl (by rfl) (by simp) rfl];exact Ao _ _
mutual
theorem OD (v:Int) (u:Tm) {K:Nat} (hu:u.sc K) (huw:K+2 * u.wt≤1000000000):∀(t:Tm) (k:Nat) (a:Int),t.sc k→k+2 * t.wt≤1000000000→0≤a→a+2 * t.wt≤1000000000→t.each (Ic v u) a=t.subst (v+a) a u
 | .mk op m ks,k,a,h,hk,h1,h2=>by
  rw [Tm.sc] at h;rw [Tm.wt] at hk h2;by_cases ho:op=1
  ·subst ho;have h3:ar 1=some 0:=by decide
   rw [h3,if_pos rfl] at h;have h4:ks=[]:=List.length_eq_zero_iff.1 (by have:=h.1;simp only [AwW] at this;omega);subst h4;rw [Tm.each,if_pos rfl,Ic,Tm.subst,if_pos rfl];have hm:=h.2.1;by_cases hc:v<m - a
   ·rw [if_pos hc,if_neg (by omega),if_pos (by omega),Av (by omega) (by omega)];rfl
   ·rw [if_neg hc];by_cases he:m - a=v
    ·rw [if_pos he,if_pos (by omega),Po a 0 u K 0 hu (by omega) (by omega) (by omega)];rfl
    ·rw [if_neg he,if_neg (by omega),if_neg (by omega),Int.add_zero]
  ·rw [Tm.each,if_neg ho,Tm.subst,if_neg ho];rw [eachL_subst v u hu huw op 0 ks k a h.2.2 (by omega) h1 (by omega)]
theorem eachL_subst (v:Int) (u:Tm) {K:Nat} (hu:u.sc K) (huw:K+2 * u.wt≤1000000000):∀(op:Int) (i:Nat) (l:List Tm) (k:Nat) (a:Int),Tm.scL op i l k→k+2+2 * Tm.wtL l≤1000000000→0≤a→a+2+2 * Tm.wtL l≤1000000000→Tm.eachL (Ic v u) op i l a=Tm.substL op i l (v+a) a u
 | _,_,[],_,_,_,_,_,_=>by rw [Tm.eachL,Tm.substL]
 | op,i,t::l,k,a,h,hk,h1,h2=>by
  rw [Tm.scL] at h;rw [Tm.eachL,Tm.substL];have hb:=AY op i;rw [Tm.wtL] at hk h2;rw [OD v u hu huw t (k+Ae op i) (a+Ae op i) h.1 (by omega) (by omega) (by omega),eachL_subst v u hu huw op (i+1) l k a h.2 (by omega) h1 (by omega),Int.add_assoc]
end
mutual
theorem P9 (v:Int) (hv:0≤v):∀(t:Tm) (a:Int),0≤a→t.some1 (PJ v) a=t.free (v+a)
 | .mk op m ks,a,h1=>by
  by_cases ho:op=1
  ·subst ho;rw [Tm.some1,if_pos rfl,Tm.free,if_pos rfl,PJ];by_cases h:m=v+a
   ·rw [decide_eq_true h,decide_eq_true (by omega:m - a=v),decide_eq_true (by omega:a≤m)];rfl
   ·rw [decide_eq_false h,decide_eq_false (by omega:¬ m - a=v)];rfl
  ·rw [Tm.some1,if_neg ho,Tm.free,if_neg ho,someL_free v hv op 0 ks a h1]
theorem someL_free (v:Int) (hv:0≤v):∀(op:Int) (i:Nat) (l:List Tm) (a:Int),0≤a→Tm.someL (PJ v) op i l a=Tm.freeL op i l (v+a)
 | _,_,[],_,_=>by rw [Tm.someL,Tm.freeL]
 | op,i,t::l,a,h1=>by
  rw [Tm.someL,Tm.freeL,P9 v hv t (a+Ae op i) (by omega),someL_free v hv op (i+1) l a h1,Int.add_assoc]
end
set_option maxRecDepth 20000 in
theorem Ux {n:Nat} {K:Nat} {op m:Int} {z b:Tm} (hn:b.wt+20<n) (hk:b.op=5→∃f x,b.kids=[f,x]) (hw:b.wk) (h2:2 * b.wt≤100000000) (hs:b.sc K) (hK:K≤100000000) :
  JZ (SS dt n 82 [.fv (Tm.mk op m [z,b]).enc] ⟨[],[]⟩) (fnP (.mk op m [z,b])).enc:=by
 obtain ⟨n,rfl⟩:∃k,n=k+1:=⟨n - 1,by omega⟩;rw [c82];obtain ⟨o1,n1,k1⟩:=b;by_cases h5:o1=5
 ·subst h5;obtain ⟨f,x,hkk⟩:=hk rfl;simp only [Tm.kids] at hkk;subst hkk;obtain ⟨o2,n2,k2⟩:=x;rw [Tm.sc] at hs;have hf:f.sc K:=by
   have:=hs.2.2
   rw [Tm.scL] at this;exact this.1
  have hwf:f.wk:=by
   rw [Tm.wk] at hw;exact Ml hw.2 (by simp)
  simp only [Tm.wt,Tm.wtL] at hn h2;have hfree:=Alb (n:=n) (t:=f) (v:=0) (K:=K) (by omega) (by omega) hf (by omega);rw [P9 0 (by omega) f 0 (by omega)] at hfree;have hsub:=ApS (n:=n) (t:=f) (u:=AS) (v:=0) (K:=K) (by simp only [AS,Tm.wt,Tm.wtL];omega) hwf (by omega) hf (by simp [AS,Tm.wk,Tm.wkL]) (by simp [AS,Tm.wt,Tm.wtL]) (Hj K) (by omega);rw [OD 0 AS (K:=K) (Hj K) (by simp only [AS,Tm.wt,Tm.wtL];omega) f K 0 hf (by omega) (by omega) (by omega)] at hsub;simp only [Int.add_zero] at hfree hsub;rw [fnP];generalize hr:f.subst 0 0 AS=u at hsub;generalize f.free 0=fr at hfree;obtain ⟨o4,n4,k4⟩:=u;obtain ⟨o3,n3,k3⟩:=f;obtain ⟨oz,nz,kz⟩:=z;rw [AS] at hsub;simp only [Ai,Aw1] at hfree hsub;by_cases h1:o2=1
  ·by_cases h0:n2=0
   ·cases fr
    ·rw [if_pos ⟨rfl,h1,h0,rfl⟩];have hs3:=fun (own:List (Nat×Blk)) (k:IV→Hp→List Ref→List Ref→Option (IV×Hp))=>AX (a:=.fv (.agg [.int .i64 o3,.int .i64 n3,.sl (k3.map Tm.enc)])) (b:=iv 0) (c:=.agg [iv 11,iv 0,.nils]) hsub rfl rfl rfl ⟨own,[]⟩ k;simp only [Ai,Aw2,Aw1];simp only [↓Ai3,↓XX,XY,↓reduceIte,Nat.reduceBEq,Nat.reduceAdd,Int.reduceEq,Int.reduceLT,Int.reduceLE,↓Ew,↓Fd,↓GM,h1,h0,↓Ag hfree,↓hs3];exact Co _ _
    ·rw [if_neg (by simp)];simp only [Ai,Aw2,Aw1];simp only [↓Ai3,↓XX,XY,↓reduceIte,Nat.reduceBEq,Nat.reduceAdd,Int.reduceEq,Int.reduceLT,Int.reduceLE,↓Ew,↓Fd,↓GM,h1,h0,↓Ag hfree];exact Co _ _
   ·rw [if_neg (by simp [h0])];simp only [Ai,Aw2,Aw1];simp only [↓Ai3,↓XX,XY,↓reduceIte,Nat.reduceBEq,Nat.reduceAdd,Int.reduceEq,Int.reduceLT,Int.reduceLE,↓Ew,↓Fd,↓GM,h1,h0];exact Co _ _
  ·rw [if_neg (by simp [h1])];simp only [Ai,Aw2,Aw1];simp only [↓Ai3,↓XX,XY,↓reduceIte,Nat.reduceBEq,Nat.reduceAdd,Int.reduceEq,Int.reduceLT,Int.reduceLE,↓Ew,↓Fd,↓GM,h1];exact Co _ _
 ·rw [Aim (by simpa [Tm.op] using h5)];obtain ⟨oz,nz,kz⟩:=z;simp only [Ai,Aw2,Aw1];simp only [↓Ai3,↓XX,XY,↓reduceIte,Nat.reduceBEq,Nat.reduceAdd,Int.reduceEq,Int.reduceLT,Int.reduceLE,↓Ew,↓Fd,↓GM,h5];exact Co _ _
set_option maxRecDepth 20000 in
theorem AlT {n:Nat} {op m:Int} {z a b:Tm} (hn:2 * a.wt+10<n) (hka:a.op=8→∃x,a.kids=[x]) (hkb:b.op=9→∃y,b.kids=[y]) (h2:a.wt≤100000000) :
  JZ (SS dt n 83 [.fv (Tm.mk op m [z,a,b]).enc] ⟨[],[]⟩) (prP (.mk op m [z,a,b])).enc:=by
 obtain ⟨n,rfl⟩:∃k,n=k+1:=⟨n - 1,by omega⟩;rw [c83];obtain ⟨o1,n1,k1⟩:=a;obtain ⟨o2,n2,k2⟩:=b;obtain ⟨oz,nz,kz⟩:=z;by_cases h8:o1=8
 ·by_cases h9:o2=9
  ·subst h8 h9;obtain ⟨x,hx⟩:=hka rfl;obtain ⟨y,hy⟩:=hkb rfl;simp only [Tm.kids] at hx hy;subst hx hy;simp only [Tm.wt,Tm.wtL] at hn h2;have hs:=Vo n x y (by omega) (by omega);rw [prP];generalize x.same y=v at hs;obtain ⟨o3,n3,k3⟩:=x;obtain ⟨o4,n4,k4⟩:=y;simp only [Ai] at hs;cases v
   ·rw [if_neg (by simp)];simp only [Ai,Aw2,Aw1];simp only [Kc,K6,Kj,KK,Li,Lx,LC,KG,KF,LU,KL,S83,↓XX,XY,↓reduceIte,Nat.reduceBEq,Nat.reduceAdd,Int.reduceEq,Int.reduceLT,Int.reduceLE,↓Ew,↓Fd,↓GM,↓Ag hs];exact Co _ _
   ·rw [if_pos ⟨rfl,rfl,rfl⟩];simp only [Ai,Aw2,Aw1];simp only [Kc,K6,Kj,KK,Li,Lx,LC,KG,KF,LU,KL,S83,↓XX,XY,↓reduceIte,Nat.reduceBEq,Nat.reduceAdd,Int.reduceEq,Int.reduceLT,Int.reduceLE,↓Ew,↓Fd,↓GM,↓Ag hs];exact Co _ _
  ·rw [Rc (by simp [Tm.op,h9])];simp only [Ai,Aw2,Aw1];simp only [Kc,K6,Kj,KK,Li,Lx,LC,KG,KF,LU,KL,S83,↓XX,XY,↓reduceIte,Nat.reduceBEq,Nat.reduceAdd,Int.reduceEq,Int.reduceLT,Int.reduceLE,↓Ew,↓Fd,↓GM,h8,h9];exact Co _ _
 ·rw [Rc (by simp [Tm.op,h8])];simp only [Ai,Aw2,Aw1];simp only [Kc,K6,Kj,KK,Li,Lx,LC,KG,KF,LU,KL,S83,↓XX,XY,↓reduceIte,Nat.reduceBEq,Nat.reduceAdd,Int.reduceEq,Int.reduceLT,Int.reduceLE,↓Ew,↓Fd,↓GM,h8];exact Co _ _
theorem Arx {d:Nat} {l:List FV} (h:Hp) (lg:List Ref) (e:Option (IV×Hp)) (k:List FV→List (Ref×Blk)→List Ref→Option (IV×Hp)) :
  Cy (Dh (d+1)) (iv 11::iv 0 :: .nils::l.map .fv) h lg e k=k (.int .i64 11 :: .int .i64 0 :: .sl []::l) [] lg:=by
 show (Cy (Dh (d+1)) (l.map .fv) h lg e fun ys us lg=>Nn [] us fun w=>Nn [] w fun w=>Nn [] w fun w=>k (.int .i64 11 :: .int .i64 0 :: .sl []::ys) w lg)=_
 rw [O4];rfl
theorem ApJ {s:Nat} {l:List Tm} {ro:Bool} {a b:FV} {own:List (Nat×Blk)} {ext:List Blk} (hl:Ap s own=some (.row (iv 11::iv 0 :: .nils::(Bp l).map .fv) ro)) (hn:l.length≤90) (lg:List Ref) (e:Option (IV×Hp))
  (k:FV→List (Ref×Blk)→List Ref→Option (IV×Hp)):Dh 12 (.agg [.fv a,.fv b,.slc (.own s) 3 (l.length+1)]) ⟨own,ext⟩ lg e k =
   k (.agg [a,b,.sl ((AS::l).map Tm.enc)]) [(.own s,.row (iv 11::iv 0 :: .nils::(Bp l).map .fv) true)] (.own s::lg):=by
 have hz:∀(lg:List Ref) (k:FV→List (Ref×Blk)→List Ref→Option (IV×Hp)),Dh 11 (.slc (.own s) 3 (l.length+1)) ⟨own,ext⟩ lg e k=k (.sl ((AS::l).map Tm.enc)) [(.own s,.row (iv 11::iv 0 :: .nils::(Bp l).map .fv) true)] (.own s::lg):=by
  intro lg k;have hlen:(iv 11::iv 0 :: .nils::(Bp l).map IV.fv).length=3 * l.length+3:=by simp [Hi]
  show (Da (.own s) ⟨own,ext⟩ fun b=>DW b fun cells=>cond (Nat.ble cells.length 300) (cond (or (Nat.beq 3 0) (not (Nat.ble ((l.length+1) * 3) cells.length))) none
   (Cy (Dh 10) cells ⟨own,ext⟩ (.own s::lg) e fun cs u lg=>Xy 3 (l.length+1) cs fun els=>k (.sl els) ((.own s,.row cells true)::u) lg)) e)=_
  rw [LS,Bk,hl];simp only [Option.bind_some,H4];rw [hlen,Bb,decide_eq_true (by omega),c_t,Bb,decide_eq_true (by omega)];simp only [Bool.not_true]
  show (Cy (Dh (9+1)) (iv 11::iv 0 :: .nils::(Bp l).map IV.fv) ⟨own,ext⟩ (.own s::lg) e fun cs u lg=>Xy 3 (l.length+1) cs fun els=>k (.sl els) ((.own s,.row (iv 11::iv 0 :: .nils::(Bp l).map IV.fv) true)::u) lg)=_
  rw [Arx];exact Ao7 (AS::l) _
 rw [Ago,show Nat.ble [IV.fv a,.fv b,.slc (.own s) 3 (l.length+1)].length 300=true from rfl,c_t,VV,JG,VV,JG,VV,hz,fl0]
 rfl
theorem Ajd {ih:Aa} {f:FuncId} {w a b:FV} {s:Nat} {l:List Tm} {ro:Bool} {own own':List (Nat×Blk)} (hr:JZ (ih f [.fv (.agg [a,b,.sl ((AS::l).map Tm.enc)])] ⟨[],[]⟩) w) (hl:Ap s own=some (.row (iv 11::iv 0 :: .nils::(Bp l).map .fv) ro)) (hn:l.length≤90)
  (ho:AO s (.row (iv 11::iv 0 :: .nils::(Bp l).map .fv) true) own=own') (k:IV→Hp→List Ref→List Ref→Option (IV×Hp)) :
  Al [] false false ih f [.agg [.fv a,.fv b,.slc (.own s) 3 (l.length+1)]] ⟨own,[]⟩ k=k (.fv w) ⟨own',[]⟩ [.own s] [.own s]:=by
 subst ho;refine Xs (vs:=[.agg [a,b,.sl ((AS::l).map Tm.enc)]]) (u:=[(.own s,.row (iv 11::iv 0 :: .nils::(Bp l).map .fv) true)]) (lg:=[.own s]) ?_ hr ?_ k
 ·intro e k;rw [fz1,ApJ hl hn,fz0];rfl
 ·intro k
  show (Fj own s fun _=>A2 own s (.row (iv 11::iv 0 :: .nils::(Bp l).map .fv) true) fun own=>k ⟨own,_⟩)=_
  rw [Bk,hl,Option.bind_some,Bt]
theorem AdL {β:Type} {n:Nat} (h:0<n) (r:Ref) (k:IV→Option β):A8 3 (.slc r 3 n) (iv 0) k=k (.ptr r 0):=Oi (i:=0) h r k
theorem scz (x:Tm) (l:List Tm):A5 (BG (x::l) 0) 0 [iv 11,iv 0,.nils]=iv 11::iv 0 :: .nils::(Bp l).map .fv:=by
 obtain ⟨o,p,k⟩:=x;simp [BG,Bp,Lk,A5]
theorem blz (x:Tm) (l:List Tm):Nat.ble 3 (BG (x::l) 0).length=true:=by
 rw [Bb];apply decide_eq_true;simp [BG,Lk,Hi];omega
abbrev Atn (op m:Int) (ks done:List Tm) (r:Nat):Hp :=
 ⟨[(71303168,.row [iv op,iv m,.fv (.sl (ks.map Tm.enc))] false),(71303169,.row [iv 0,iv 0,.nils] false),(71304199,.row (BG done r) false),(71304201,.row [iv op,iv m,.slc (.own 71304199) 3 ks.length] false)],[]⟩
set_option maxRecDepth 20000 in
set_option maxHeartbeats 1000000 in
theorem Aox:∀(n:Nat) (t:Tm) (k:Nat),t.sc k→2 * t.wt+25<n→k+2 * t.wt≤90000000→JZ (SS dt n 68 [.fv t.enc] ⟨[],[]⟩) t.eta.enc:=by
 intro n
 induction n with
 | zero=>intro t k _ h;omega
 | succ n ih =>
  intro t k hs hn hw;have hes:=Sj t k hs (by omega);have hwk:=Fc t k hs;obtain ⟨op,m,ks⟩:=t;rw [Tm.sc] at hs;rw [Tm.wk] at hwk;simp only [Tm.wt] at hn hw;rw [c68,Ai];have hlen:=C5 ks;have hkd:=etaL_sc op 0 ks k hs.2.2 (by omega);simp only [Jg,I9,Js,IQ,IM,Je,Ir,Jp,IP,Ij,IL,IE,IY,Jd,I3,S68,↓XX,XY,↓reduceIte,Nat.reduceBEq,Nat.reduceAdd,Int.reduceEq,Int.reduceLT,Int.reduceLE,↓Aop (show ks.length≤1000 by omega),↓AC,XD,heldB,AN,XE,Hl,Fo]
  have hR:(Tm.mk op m ks).eta=if op=4 then fnP (.mk 4 m (PZ (Tm.etaL ks))) else if op=7 then prP (.mk 7 m (PZ (Tm.etaL ks))) else .mk op m (Tm.etaL ks):=by rw [Tm.eta]
  rw [hR];refine A7 (Q:=fun r=>JZ r _) (fun j V H=>∃(pre rest done:List Tm),ks=pre++rest∧rest.length=j∧done.length=pre.length ∧
    V=[.ptr (.own 71303168) 0,.ptr (.own 71303169) 0,.ptr (.own 71304201) 0,.fv (.sl (ks.map Tm.enc)),iv ks.length,iv pre.length] ∧
    H=Atn op m ks done rest.length∧done++Tm.etaL rest=Tm.etaL ks)
   ?_ n ks.length _ _ (by omega) ⟨[],ks,[],rfl,rfl,rfl,rfl,rfl,rfl⟩
  rintro j V H rec ⟨pre,rest,done,hks,hl,hdl,rfl,rfl,hts⟩ hrec;have hkl:ks.length=pre.length+rest.length:=by rw [hks];simp
  cases rest with
  | nil =>
   have hno:¬ ((pre.length:Int)<ks.length):=by rw [hkl];simp
   rw [Tm.etaL,List.append_nil] at hts;have hdk:ks.length=done.length:=by rw [hdl,hkl];simp
   rw [← hts] at hkd ⊢;rw [List.length_nil];by_cases h4:op=4
   ·subst h4;rw [if_pos rfl];have h2:ks.length=2:=by have:=hs.1;rw [show ar 4=some 2 by decide] at this;simp only [AwW] at this;omega
    have hd2:done.length=2:=by omega
    match done,hd2,hdk,hkd with
    | [a,b],_,hdk,hkd =>
     simp only [Tm.scL,Tm.wtL] at hkd;have hb1:Ae 4 1=1:=by decide
     have hbs:=hkd.1.2.1;rw [hb1] at hbs;have hfn:=Ux (n:=n) (K:=k+1) (op:=4) (m:=m) (z:=AS) (b:=b) (by omega) (fun h5=>by
      have:=Gy hbs h5 (show ar 5=some 2 by decide)
      match hbk:b.kids,this with
      | [f,x],_=>exact ⟨f,x,rfl⟩) (Fc b _ hbs) (by omega) hbs (by omega)
     rw [PZ];rw [Ai] at hfn;generalize fnP (.mk 4 m [AS,b])=y at hfn;obtain ⟨o5,p5,k5⟩:=y;rw [Ai] at hfn;rw [Ai];have h02:0<ks.length:=by omega
     have hi:=fun (own own':List (Nat×Blk)) (hlk:Ap 71304199 own=some (.row (iv 11::iv 0 :: .nils::(Bp [b]).map .fv) false)) (ho:AO 71304199 (.row (iv 11::iv 0 :: .nils::(Bp [b]).map .fv) true) own=own')=>Ajd hfn hlk (by simp) ho;simp only [Jg,I9,Js,IQ,IM,Je,Ir,Jp,IP,Ij,IL,Km,IE,IY,Jd,I3,S68,↓XX,XY,↓reduceIte,Nat.reduceBEq,Nat.reduceAdd,Int.reduceEq,Int.reduceLT,Int.reduceLE,hno,↓AdL h02,↓blz,↓scz];rw [show ks.length=[b].length+1 by rw [h2];rfl]
     rw [hi _ _ (by rfl) (by rfl)];simp only [↓XX,XY,↓reduceIte,Nat.reduceBEq,Nat.reduceAdd,Int.reduceEq,Int.reduceLT,Int.reduceLE,↓S7,↓NM];exact Co _ _
   ·rw [if_neg h4];by_cases h7:op=7
    ·subst h7;rw [if_pos rfl];have h2:ks.length=3:=by have:=hs.1;rw [show ar 7=some 3 by decide] at this;simp only [AwW] at this;omega
     have hd2:done.length=3:=by omega
     match done,hd2,hdk,hkd with
     | [a,b,c],_,hdk,hkd =>
      simp only [Tm.scL,Tm.wtL] at hkd;have hb1:Ae 7 1=0:=by decide
      have hb2:Ae 7 2=0:=by decide
      have hbs:=hkd.1.2.1;have hcs:=hkd.1.2.2.1;rw [hb1] at hbs;rw [hb2] at hcs;have hfn:=AlT (n:=n) (op:=7) (m:=m) (z:=AS) (a:=b) (b:=c) (by omega) (fun h5=>by
       have:=Gy hbs h5 (show ar 8=some 1 by decide)
       match hbk:b.kids,this with
       | [f],_=>exact ⟨f,rfl⟩) (fun h5=>by
       have:=Gy hcs h5 (show ar 9=some 1 by decide)
       match hbk:c.kids,this with
       | [f],_=>exact ⟨f,rfl⟩) (by omega)
      rw [PZ];rw [Ai] at hfn;generalize prP (.mk 7 m [AS,b,c])=y at hfn;obtain ⟨o5,p5,k5⟩:=y;rw [Ai] at hfn;rw [Ai];have h02:0<ks.length:=by omega
      have hi:=fun (own own':List (Nat×Blk)) (hlk:Ap 71304199 own=some (.row (iv 11::iv 0 :: .nils::(Bp [b,c]).map .fv) false)) (ho:AO 71304199 (.row (iv 11::iv 0 :: .nils::(Bp [b,c]).map .fv) true) own=own')=>Ajd hfn hlk (by simp) ho;simp only [Jg,I9,Js,IQ,IM,Je,Ir,Jp,IP,Ij,IL,Km,IE,IY,Jd,I3,S68,↓XX,XY,↓reduceIte,Nat.reduceBEq,Nat.reduceAdd,Int.reduceEq,Int.reduceLT,Int.reduceLE,hno,↓AdL h02,↓blz,↓scz];rw [show ks.length=[b,c].length+1 by rw [h2];rfl]
      rw [hi _ _ (by rfl) (by rfl)];simp only [↓XX,XY,↓reduceIte,Nat.reduceBEq,Nat.reduceAdd,Int.reduceEq,Int.reduceLT,Int.reduceLE,↓S7,↓NM];exact Co _ _
    ·rw [if_neg h7,Ai];simp only [Jg,I9,Js,IQ,IM,Je,Ir,Jp,IP,Ij,IL,Km,IE,IY,Jd,I3,S68,↓XX,XY,↓reduceIte,Nat.reduceBEq,Nat.reduceAdd,Int.reduceEq,Int.reduceLT,Int.reduceLE,hno,h4,h7];rw [hdk];exact ⟨_,_,rfl,_,_,fun e0 K=>AjF (by rfl) (by omega) [] e0 K⟩
  | cons x rest =>
   have hi:(pre.length:Int)<ks.length:=by rw [hkl];simp;omega
   have hg2:=Cg hks;have hxw:=BO (t:=x) (l:=ks) (by rw [hks];simp);have hxs:=J0 hs.2.2 hg2;rw [Nat.zero_add] at hxs;have hble:=AY op pre.length;have hs5:=ih x _ hxs (by omega) (by omega);have hwi:BI ((pre.length:Int)+1)=((pre++[x]).length:Int):=(Av (by omega) (by omega)).trans (by simp);have hin:pre.length<ks.length:=by omega
   rw [Tm.etaL] at hts;generalize x.eta=y at hs5 hts;have hst:=fun {β:Type}=>X6 (β:=β) done rest.length y.op y.n y.kids;rw [hdl] at hst;obtain ⟨o,p,l⟩:=x;obtain ⟨o2,p2,l2⟩:=y;simp only [Tm.op,Tm.n,Tm.kids] at hst;rw [Ai,Ai] at hs5;simp only [Aw0] at hl;simp only [Jg,I9,Js,IQ,IM,Je,Ir,Jp,IP,Ij,IL,Km,IE,IY,Jd,I3,S68,↓XX,XY,↓reduceIte,Nat.reduceBEq,Nat.reduceAdd,Int.reduceEq,Int.reduceLT,Int.reduceLE,hi,↓Bq (AP hg2) (Ba _ _ _),↓Ce,hwi,↓As (Ag1 hs5),↓Oi hin,↓hst,↓AC,XD,heldB,AN,XE,Hl,Fo];exact hrec rest.length _ _ (by omega) ⟨pre++[.mk o p l],rest,done++[.mk o2 p2 l2],by rw [hks];simp,rfl,by simp [hdl],rfl,rfl,by rw [← hts];simp⟩
theorem AkA {n:Nat} {t:Tm} {k:Nat} (hs:t.sc k) (hn:2 * t.wt+26<n) (hw:k+2 * t.wt≤90000000):Bl (SS dt n 56 [.fv t.enc] ⟨[],[]⟩) t.eta.enc:=by
 obtain ⟨n,rfl⟩:∃k,n=k+1:=⟨n - 1,by omega⟩;rw [c56];have h1:=QA n t (by omega) (by omega);rw [Mq t k hs] at h1;have h2:=Ag1 (Aox n t k hs (by omega) hw);generalize t.eta=y at h2;obtain ⟨o,p,l⟩:=t;obtain ⟨o2,p2,l2⟩:=y;rw [Ai] at h1;rw [Ai,Ai] at h2 ⊢;simp only [Aig,Ag3,S56,↓XX,XY,↓reduceIte,Nat.reduceBEq,Nat.reduceAdd,Int.reduceEq,Int.reduceLT,Int.reduceLE,↓As h1,↓As h2];exact Ao _ _
theorem Aje (ih:Aa) (xs:List IV) (h0:Hp) (k:IV→Hp→List Ref→List Ref→Option (IV×Hp)):Ed EE ih (.fv (.func (.func 40) [] [])) xs h0 k=Al [] false false ih 40 xs h0 k :=
 Agc (by kernel_rfl) (by kernel_rfl) (by kernel_rfl) (by kernel_rfl) ..
def AfB (u:Tm) (e:Int):FV:=.agg [.int .i64 u.op,.int .i64 u.n,.sl (u.kids.map Tm.enc),.int .i64 e]
theorem Ajn {n:Nat} (u v:Tm) (e1 e2:Int) (hn:2 * u.wt+4<n) (hw:u.wt≤100000000):Bl (SS dt n 40 [.fv (AfB u e1),.fv (AfB v e2)] ⟨[],[]⟩) (.bool (u.same v)):=by
 obtain ⟨n,rfl⟩:∃k,n=k+1:=⟨n - 1,by omega⟩;rw [c40];have h:=Vo n u v (by omega) hw;generalize u.same v=b at h ⊢;obtain ⟨o1,n1,k1⟩:=u;obtain ⟨o2,n2,k2⟩:=v;simp only [Ai,AfB,Tm.op,Tm.n,Tm.kids] at h ⊢;simp only [AiU,S40,↓XX,XY,↓reduceIte,Nat.reduceBEq,Nat.reduceAdd,Int.reduceEq,Int.reduceLT,Int.reduceLE,↓Ag h];exact Ao _ _
theorem Agd {n k:Nat} {t u:Tm} (hN:Bl (SS dt n 55 [.fv t.enc] ⟨[],[]⟩) (.tuple [u.enc,.int .i64 0])) (hu:u.sc k) (hk:k≤1000) (hw:u.wt≤3000) (hn:20000≤n):Bl (SS dt (n+1) 39 [.fv t.enc] ⟨[],[]⟩) (AfB u.eta 0):=by
 rw [c39];have hE:=AkA (n:=n) hu (by omega) (by omega);generalize u.eta=w at hE ⊢;obtain ⟨o1,n1,k1⟩:=t;obtain ⟨o2,n2,k2⟩:=u;obtain ⟨o3,n3,k3⟩:=w;simp only [Ai,AfB,Tm.op,Tm.n,Tm.kids] at hN hE ⊢;simp only [AgK,AgW,AjM,S39,↓XX,XY,↓reduceIte,Nat.reduceBEq,Nat.reduceAdd,Int.reduceEq,Int.reduceLT,Int.reduceLE,↓As hN,↓As hE];exact Ao _ _
theorem ME {n k:Nat} {t s u v:Tm} (hN1:Bl (SS dt n 55 [.fv t.enc] ⟨[],[]⟩) (.tuple [u.enc,.int .i64 0])) (hN2:Bl (SS dt n 55 [.fv s.enc] ⟨[],[]⟩) (.tuple [v.enc,.int .i64 0])) (hu:u.sc k) (hv:v.sc k) (hk:k≤1000) (hwu:u.wt≤3000) (hwv:v.wt≤3000) (hn:20000≤n) :
  Bl (SS dt (n+2) 16 [.fv t.enc,.fv s.enc] ⟨[],[]⟩) (.tuple [.bool (u.eta.same v.eta),.int .i64 0]):=by
 rw [c16];have a:=Agd hN1 hu hk hwu hn;have b:=Agd hN2 hv hk hwv hn;have hw:=(Sj u k hu (by omega)).2;have c:=Ajn (n:=n+1) u.eta v.eta 0 0 (by omega) (by omega);generalize u.eta.same v.eta=q at c ⊢;generalize u.eta=ue at a c;generalize v.eta=ve at b c;obtain ⟨o1,n1,k1⟩:=t;obtain ⟨o2,n2,k2⟩:=s;obtain ⟨o3,n3,k3⟩:=ue;obtain ⟨o4,n4,k4⟩:=ve;simp only [Ai,AfB,Tm.op,Tm.n,Tm.kids] at a b c ⊢;simp only [Agp,Agj,Aht,AfN,Ahs,Ag5,AiD,AhK,S16,↓XX,XY,↓reduceIte,Nat.reduceBEq,Nat.reduceAdd,Int.reduceEq,Int.reduceLT,Int.reduceLE,↓As a,↓As b,↓Aje,↓Ag c];first | exact Ao _ _ | exact AV rfl (by simp) _
def vT (i:Nat):Tm:=.mk 1 (i:Int) []
def Mp (k:Nat) (ρ:Nat→Nat):Nat→Nat:=fun i=>if i<k then i else ρ (i - k)+k
mutual
def Tm.ren:Tm→(Nat→Nat)→Tm
 | .mk op n ks,ρ=>if op=1 then (if n<0∨ks.isEmpty=false then .mk op n ks else vT (ρ n.toNat)) else .mk op n (Tm.renL op 0 ks ρ)
def Tm.renL:Int→Nat→List Tm→(Nat→Nat)→List Tm
 | _,_,[],_=>[]
 | op,i,t::l,ρ=>t.ren (Mp (Ae op i) ρ)::Tm.renL op (i+1) l ρ
end
def GF (k:Nat) (σ:Nat→Tm):Nat→Tm:=fun i=>if i<k then vT i else (σ (i - k)).ren (fun j=>j+k)
mutual
def Tm.sub:Tm→(Nat→Tm)→Tm
 | .mk op n ks,σ=>if op=1 then (if n<0∨ks.isEmpty=false then .mk op n ks else σ n.toNat) else .mk op n (Tm.subL op 0 ks σ)
def Tm.subL:Int→Nat→List Tm→(Nat→Tm)→List Tm
 | _,_,[],_=>[]
 | op,i,t::l,σ=>t.sub (GF (Ae op i) σ)::Tm.subL op (i+1) l σ
end
theorem Arq (i:Nat):¬ ((i:Int)<0∨([]:List Tm).isEmpty=false):=by
 rintro (h | h)
 ·omega
 ·cases h
theorem La (i:Nat) (ρ:Nat→Nat):(vT i).ren ρ=vT (ρ i):=by
 rw [vT,Tm.ren,if_pos rfl,if_neg (Arq i)];rfl
theorem Jy (i:Nat) (σ:Nat→Tm):(vT i).sub σ=σ i:=by
 rw [vT,Tm.sub,if_pos rfl,if_neg (Arq i)];rfl
theorem HT (op:Int) (ρ:Nat→Nat):∀(l:List Tm) (i:Nat),(Tm.renL op i l ρ).length=l.length
 | [],_=>rfl
 | _::l,i=>by simp only [Tm.renL,Aw0,HT op ρ l]
theorem LB (op:Int) (σ:Nat→Tm):∀(l:List Tm) (i:Nat),(Tm.subL op i l σ).length=l.length
 | [],_=>rfl
 | _::l,i=>by simp only [Tm.subL,Aw0,LB op σ l]
theorem NO (op:Int) (ρ:Nat→Nat):∀(l:List Tm) (i j:Nat),(Tm.renL op i l ρ)[j]?=(l[j]?).map fun t=>t.ren (Mp (Ae op (i+j)) ρ)
 | [],_,_=>by simp [Tm.renL]
 | t::l,i,0=>by simp [Tm.renL]
 | t::l,i,j+1=>by
  simp only [Tm.renL,List.getElem?_cons_succ];rw [NO op ρ l (i+1) j,show i+1+j=i+(j+1) by omega]
theorem VK (op:Int) (σ:Nat→Tm):∀(l:List Tm) (i j:Nat),(Tm.subL op i l σ)[j]?=(l[j]?).map fun t=>t.sub (GF (Ae op (i+j)) σ)
 | [],_,_=>by simp [Tm.subL]
 | t::l,i,0=>by simp [Tm.subL]
 | t::l,i,j+1=>by
  simp only [Tm.subL,List.getElem?_cons_succ];rw [VK op σ l (i+1) j,show i+1+j=i+(j+1) by omega]
theorem JS {k:Nat} {ρ:Nat→Nat} {i:Nat} (h:i<k):Mp k ρ i=i:=if_pos h
theorem HX {k:Nat} {ρ:Nat→Nat} {i:Nat} (h:¬ i<k):Mp k ρ i=ρ (i - k)+k:=if_neg h
theorem Hw {k:Nat} {σ:Nat→Tm} {i:Nat} (h:i<k):GF k σ i=vT i:=if_pos h
theorem Hf {k:Nat} {σ:Nat→Tm} {i:Nat} (h:¬ i<k):GF k σ i=(σ (i - k)).ren fun j=>j+k:=if_neg h
theorem Ahj (k:Nat) (ρ ρ':Nat→Nat):(fun i=>Mp k ρ' (Mp k ρ i))=Mp k (fun i=>ρ' (ρ i)):=by
 funext i
 by_cases h:i<k
 ·rw [JS (ρ:=ρ) h,JS h,JS h]
 ·rw [HX (ρ:=ρ) h,HX h,HX (by omega),Nat.add_sub_cancel]
mutual
theorem RX:∀(t:Tm) (ρ ρ':Nat→Nat),(t.ren ρ).ren ρ'=t.ren (fun i=>ρ' (ρ i))
 | .mk op n ks,ρ,ρ'=>by
  rw [Tm.ren,Tm.ren];by_cases h:op=1
  ·rw [if_pos h,if_pos h];by_cases hn:n<0∨ks.isEmpty=false
   ·rw [if_pos hn,if_pos hn,Tm.ren,if_pos h,if_pos hn]
   ·rw [if_neg hn,if_neg hn,La]
  ·rw [if_neg h,if_neg h,Tm.ren,if_neg h,renL_ren ks op 0 ρ ρ']
theorem renL_ren:∀(l:List Tm) (op:Int) (i:Nat) (ρ ρ':Nat→Nat),Tm.renL op i (Tm.renL op i l ρ) ρ'=Tm.renL op i l (fun i=>ρ' (ρ i))
 | [],_,_,_,_=>rfl
 | t::l,op,i,ρ,ρ'=>by simp only [Tm.renL,RX t,Ahj,renL_ren l]
end
theorem All (k:Nat) (ρ:Nat→Nat) (σ:Nat→Tm):(fun i=>GF k σ (Mp k ρ i))=GF k (fun i=>σ (ρ i)):=by
 funext i
 by_cases h:i<k
 ·rw [JS h,Hw h,Hw h]
 ·rw [HX h,Hf h,Hf (by omega),Nat.add_sub_cancel]
mutual
theorem Lb:∀(t:Tm) (ρ:Nat→Nat) (σ:Nat→Tm),(t.ren ρ).sub σ=t.sub (fun i=>σ (ρ i))
 | .mk op n ks,ρ,σ=>by
  rw [Tm.ren,Tm.sub];by_cases h:op=1
  ·rw [if_pos h,if_pos h];by_cases hn:n<0∨ks.isEmpty=false
   ·rw [if_pos hn,if_pos hn,Tm.sub,if_pos h,if_pos hn]
   ·rw [if_neg hn,if_neg hn,Jy]
  ·rw [if_neg h,if_neg h,Tm.sub,if_neg h,subL_ren ks op 0 ρ σ]
theorem subL_ren:∀(l:List Tm) (op:Int) (i:Nat) (ρ:Nat→Nat) (σ:Nat→Tm),Tm.subL op i (Tm.renL op i l ρ) σ=Tm.subL op i l (fun i=>σ (ρ i))
 | [],_,_,_,_=>rfl
 | t::l,op,i,ρ,σ=>by simp only [Tm.renL,Tm.subL,Lb t,All,subL_ren l]
end
theorem Acr (k:Nat) (σ:Nat→Tm) (ρ:Nat→Nat):(fun i=>(GF k σ i).ren (Mp k ρ))=GF k (fun i=>(σ i).ren ρ):=by
 funext i
 by_cases h:i<k
 ·rw [Hw h,Hw h,La,JS h]
 ·rw [Hf h,Hf h,RX,RX];congr 1
  funext j
  rw [HX (by omega),Nat.add_sub_cancel]
mutual
theorem Ld:∀(t:Tm) (σ:Nat→Tm) (ρ:Nat→Nat),(t.sub σ).ren ρ=t.sub (fun i=>(σ i).ren ρ)
 | .mk op n ks,σ,ρ=>by
  rw [Tm.sub,Tm.sub];by_cases h:op=1
  ·rw [if_pos h,if_pos h];by_cases hn:n<0∨ks.isEmpty=false
   ·rw [if_pos hn,if_pos hn,Tm.ren,if_pos h,if_pos hn]
   ·rw [if_neg hn,if_neg hn]
  ·rw [if_neg h,if_neg h,Tm.ren,if_neg h,renL_sub ks op 0 σ ρ]
theorem renL_sub:∀(l:List Tm) (op:Int) (i:Nat) (σ:Nat→Tm) (ρ:Nat→Nat),Tm.renL op i (Tm.subL op i l σ) ρ=Tm.subL op i l (fun i=>(σ i).ren ρ)
 | [],_,_,_,_=>rfl
 | t::l,op,i,σ,ρ=>by simp only [Tm.renL,Tm.subL,Ld t,Acr,renL_sub l]
end
theorem Aj6 (k:Nat) (σ τ:Nat→Tm):(fun i=>(GF k σ i).sub (GF k τ))=GF k (fun i=>(σ i).sub τ):=by
 funext i
 by_cases h:i<k
 ·rw [Hw h,Hw h,Jy,Hw h]
 ·rw [Hf h,Hf h,Lb,Ld];congr 1
  funext j
  rw [Hf (by omega),Nat.add_sub_cancel]
mutual
theorem HA:∀(t:Tm) (σ τ:Nat→Tm),(t.sub σ).sub τ=t.sub (fun i=>(σ i).sub τ)
 | .mk op n ks,σ,τ=>by
  rw [Tm.sub,Tm.sub];by_cases h:op=1
  ·rw [if_pos h,if_pos h];by_cases hn:n<0∨ks.isEmpty=false
   ·rw [if_pos hn,if_pos hn,Tm.sub,if_pos h,if_pos hn]
   ·rw [if_neg hn,if_neg hn]
  ·rw [if_neg h,if_neg h,Tm.sub,if_neg h,subL_sub ks op 0 σ τ]
theorem subL_sub:∀(l:List Tm) (op:Int) (i:Nat) (σ τ:Nat→Tm),Tm.subL op i (Tm.subL op i l σ) τ=Tm.subL op i l (fun i=>(σ i).sub τ)
 | [],_,_,_,_=>rfl
 | t::l,op,i,σ,τ=>by simp only [Tm.subL,HA t,Aj6,subL_sub l]
end
theorem Arc (k:Nat):GF k vT=vT:=by
 funext i
 by_cases h:i<k
 ·rw [Hw h]
 ·rw [Hf h,La,show i - k+k=i by omega]
theorem JL:∀(t:Tm) (ρ:Nat→Nat),t.ren ρ=t.sub (fun i=>vT (ρ i)):=by
 intro t ρ;have h:∀(k:Nat) (ρ:Nat→Nat),GF k (fun i=>vT (ρ i))=fun i=>vT (Mp k ρ i):=by
  intro k ρ
  funext i
  by_cases h:i<k
  ·rw [Hw h,JS h]
  ·rw [Hf h,HX h,La]
 exact go h t ρ
where
 go (
   h:∀(k:Nat) (ρ:Nat→Nat),GF k (fun i=>vT (ρ i))=fun i=>vT (Mp k ρ i)):∀(t:Tm) (ρ:Nat→Nat),t.ren ρ=t.sub (fun i=>vT (ρ i))
  | .mk op n ks,ρ=>by
   rw [Tm.ren,Tm.sub];by_cases ho:op=1
   ·rw [if_pos ho,if_pos ho]
   ·rw [if_neg ho,if_neg ho,goL h ks op 0 ρ]
 goL (h:∀(k:Nat) (ρ:Nat→Nat),GF k (fun i=>vT (ρ i))=fun i=>vT (Mp k ρ i)):∀(l:List Tm) (op:Int) (i:Nat) (ρ:Nat→Nat),Tm.renL op i l ρ=Tm.subL op i l (fun i=>vT (ρ i))
  | [],_,_,_=>rfl
  | t::l,op,i,ρ=>by simp only [Tm.renL,Tm.subL,go h t,goL h l,h]
mutual
theorem QS:∀(t:Tm),t.sub vT=t
 | .mk op n ks=>by
  rw [Tm.sub];by_cases ho:op=1
  ·rw [if_pos ho];by_cases hn:n<0∨ks.isEmpty=false
   ·rw [if_pos hn]
   ·rw [if_neg hn,vT,ho];have hk:ks=[]:=by
     cases ks with
     | nil=>rfl
     | cons a l=>exact absurd (.inr rfl) hn
    rw [hk];congr 1
    have:¬ n<0:=fun h=>hn (.inl h)
    omega
  ·rw [if_neg ho,subL_id ks op 0]
theorem subL_id:∀(l:List Tm) (op:Int) (i:Nat),Tm.subL op i l vT=l
 | [],_,_=>rfl
 | t::l,op,i=>by
  simp only [Tm.subL];rw [Arc,QS t,subL_id l op (i+1)]
end
mutual
theorem L1:∀(t:Tm) (d c k:Nat),t.sc k→k+2 * t.wt+d≤9000000000000000000→t.shift d c=t.ren (fun i=>if i<c then i else i+d)
 | .mk op n ks,d,c,k,h,hk=>by
  rw [Tm.sc] at h;rw [Tm.wt] at hk;rw [Tm.shift,Tm.ren];by_cases ho:op=1
  ·subst ho;have h2:=h.2.1;rw [if_pos rfl] at h2;have hks:ks=[]:=List.eq_nil_of_length_eq_zero (Option.some.inj h.1.symm);subst hks;have hv:¬ (n<0∨([]:List Tm).isEmpty=false):=by
    rintro (h | h)
    ·omega
    ·cases h
   rw [if_pos rfl,if_neg hv,vT,Tm.shiftL];by_cases hc:(c:Int)≤n
   ·rw [if_pos ⟨rfl,hc⟩,Av (by omega) (by omega),if_neg (by omega)];congr 1;omega
   ·rw [if_neg (fun h=>hc h.2),if_pos (by omega)];congr 1;omega
  ·rw [if_neg ho,if_neg (fun h=>ho h.1),shiftL_ren ks op 0 d c k h.2.2 (by omega)]
theorem shiftL_ren:∀(l:List Tm) (op:Int) (i d c k:Nat),Tm.scL op i l k→k+2+2 * Tm.wtL l+d≤9000000000000000000→Tm.shiftL op i l d c=Tm.renL op i l (fun i=>if i<c then i else i+d)
 | [],_,_,_,_,_,_,_=>rfl
 | t::l,op,i,d,c,k,h,hk=>by
  rw [Tm.scL] at h;simp only [Tm.wtL] at hk;have hb:=AY op i;simp only [Tm.shiftL,Tm.renL];have h1:=L1 t d (c+Ae op i) (k+Ae op i) h.1 (by omega);rw [show ((c+Ae op i:Nat):Int)=(c:Int)+(Ae op i:Int) by omega] at h1
  rw [h1,shiftL_ren l op (i+1) d c k h.2 (by omega)];congr 2
  funext j
  by_cases h1:j<Ae op i
  ·rw [JS h1,if_pos (by omega)]
  ·rw [HX h1];by_cases h2:j<c+Ae op i
   ·rw [if_pos h2,if_pos (by omega)];omega
   ·rw [if_neg h2,if_neg (by omega)];omega
end
end Idl
end Go.Proofs.Ytaifgaidaglblaa

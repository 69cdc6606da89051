/-
  Texts of a proof, part 13: an ideal semantics of the program, its functions in shallow form, contracts of them. No statement of the seat is proved here.
-/
import Derived.Test.YtaifgaidaglblaaEqualEtaK12
set_option linter.all false
noncomputable section
namespace Go.Proofs.Ytaifgaidaglblaa
namespace Idl
theorem Ak7 (ih:Aa) (xs:List IV) (h0:Hp) (k:IV→Hp→List Ref→List Ref→Option (IV×Hp)):D8 EE ih (.fv (.func (.func 85) [] [])) xs h0 k=Al [] false false ih 85 xs h0 k :=
 AiQ (by kernel_rfl) (by kernel_rfl) (by kernel_rfl) (by kernel_rfl) ..
theorem Afr {n:Nat} (hn:0<n) (op:Int) (i:Nat):Bc (SS dt n 85 [iv op,iv i] ⟨[],[]⟩) (.int .i64 (Ae op i)):=by
 obtain ⟨n,rfl⟩:∃k,n=k+1:=⟨n - 1,by omega⟩;rw [c85];unfold Ae;by_cases h:op=3∨op=4∨op=6∨op=20∨op=28∨op=29
 ·rw [if_pos h];by_cases hi:i=1
  ·subst hi;rcases h with rfl | rfl | rfl | rfl | rfl | rfl<;>(simp only [↓AeZ,↓XX,XY,↓reduceIte,Nat.reduceBEq,Nat.reduceAdd,Int.reduceEq,Int.reduceLT,Int.reduceLE];exact Ao _ _)
  ·have hi':¬ (i:Int)=1:=by omega
   rcases h with rfl | rfl | rfl | rfl | rfl | rfl<;>(simp only [↓AeZ,↓XX,XY,↓reduceIte,Nat.reduceBEq,Nat.reduceAdd,Int.reduceEq,Int.reduceLT,Int.reduceLE,hi',hi];exact Ao _ _)
 ·rw [if_neg h];have h3:¬ op=3:=fun e=>h (by simp [e]);have h4:¬ op=4:=fun e=>h (by simp [e]);have h6:¬ op=6:=fun e=>h (by simp [e]);have h20:¬ op=20:=fun e=>h (by simp [e]);have h28:¬ op=28:=fun e=>h (by simp [e]);have h29:¬ op=29:=fun e=>h (by simp [e]);by_cases h13:op=13
  ·subst h13;by_cases h0:i=0
   ·subst h0;simp only [↓AeZ,↓XX,XY,↓reduceIte,Nat.reduceBEq,Nat.reduceAdd,Int.reduceEq,Int.reduceLT,Int.reduceLE];exact Ao _ _
   ·have h0':¬ (i:Int)=0:=by omega
    by_cases h2:i=2
    ·subst h2;simp only [↓AeZ,↓XX,XY,↓reduceIte,Nat.reduceBEq,Nat.reduceAdd,Int.reduceEq,Int.reduceLT,Int.reduceLE];exact Ao _ _
    ·have h2':¬ (i:Int)=2:=by omega
     simp only [↓AeZ,↓XX,XY,↓reduceIte,Nat.reduceBEq,Nat.reduceAdd,Int.reduceEq,Int.reduceLT,Int.reduceLE,h0,h0',h2,h2'];exact Ao _ _
  ·simp only [↓AeZ,↓XX,XY,↓reduceIte,Nat.reduceBEq,Nat.reduceAdd,Int.reduceEq,Int.reduceLT,Int.reduceLE,h3,h4,h6,h20,h28,h29,h13];exact Ao _ _
theorem Le {n:Nat} (hn:1<n) (op:Int) (i:Nat):Bc (SS dt n 79 [iv op,iv i] ⟨[],[]⟩) (.int .i64 (Ae op i)):=by
 obtain ⟨n,rfl⟩:∃k,n=k+1:=⟨n - 1,by omega⟩;rw [c79];have h:=Afr (n:=n) (by omega) op i;simp only [S79,↓XX,XY,↓reduceIte,Nat.reduceBEq,Nat.reduceAdd,Int.reduceEq,Int.reduceLT,Int.reduceLE,↓Ak7,↓Ag h];exact Ao _ _
theorem Ahn {β:Type}:∀(l:List IV) (i:Nat) (x:IV) (k:List IV→Option β),i<l.length→G7 l i x k=k (l.set i x)
 | [],i,x,k,h=>absurd h (by simp)
 | y::l,0,x,k,_=>rfl
 | y::l,i+1,x,k,h=>by
  show G7 l i x (fun t=>k (y::t))=_
  rw [Ahn l i x _ (by simpa using h)];rfl
def nils (n:Nat):List PV:=List.replicate n .nil
theorem Alw (n:Nat):Qg n [IV.fv .nilp]=((nils n).map PV.enc).map IV.fv:=by
 induction n with
 | zero=>rfl
 | succ n ih=>rw [Qg,ih];rfl
theorem Ap2 {n:Nat} (hn:n≤1000) (s:Nat) (own:List (Nat×Blk)) (ext:List Blk) (k:IV→Hp→List Ref→List Ref→Option (IV×Hp)) :
  Ay (Bn EE s 110 (iv n) (iv n)) s ⟨own,ext⟩ k=CT own s (A0 own s (.row (((nils n).map PV.enc).map IV.fv) false) fun own=>k (.slc (.own s) 1 n) ⟨own,ext⟩ [] [.own s]):=by
 have:Bn EE s 110 (iv n) (iv n)=.ret { eff:={ val:=.slc (.own s) 1 n },new:=some (.row (((nils n).map PV.enc).map IV.fv) false) }:=by
  simp only [Bn,tPs,tPp,Xa];rw [if_pos ⟨by omega,by omega,by omega,by decide,by decide⟩,Int.toNat_natCast,Alw]
 rw [this];unfold Ay;simp only [Rd.runLog,J7,C8,CB];rfl
theorem Anf (v:PV):IV.one (.fv v.enc)=true:=by
 cases v with
 | nil=>rfl
 | mk op n k t e=>obtain ⟨bo,bn,bk⟩:=t;rw [AW];rfl
theorem Al8 {β:Type} {n i:Nat} (h:i<n) (r:Ref) (k:IV→Option β):A7 1 (.slc r 1 n) (iv i) k=k (.ptr r i):=by
 have e1:Nat.ble (Nat.succ i) n=true:=by rw [Bb];exact decide_eq_true h
 show (Afp (iv i) fun n'=>cond (and (Nat.ble (Nat.succ n') n) (Nat.beq 1 1)) (D7 (n' * 1) fun o=>k (.ptr r o)) none)=_
 show (cond (and (Nat.ble (Nat.succ i) n) (Nat.beq 1 1)) (D7 (i * 1) fun o=>k (.ptr r o)) none)=_
 rw [e1];simp only [BT,Nat.mul_one];rfl
theorem AmB {done:List PV} {r:Nat} {β:Type} (v:PV) (k:List IV→Option β):G7 (((done++nils (r+1)).map PV.enc).map IV.fv) done.length (.fv v.enc) k=k ((((done++[v])++nils r).map PV.enc).map IV.fv):=by
 rw [Ahn _ _ _ _ (by simp [nils])];congr 1;simp only [nils,List.replicate_succ,List.map_append,AwV,List.append_assoc,List.cons_append,List.nil_append,AwU];rw [List.set_append_right _ _ (by simp)];simp
abbrev Hev (op m:Int) (ks:List Tm) (env kk:List PV) (ro:Bool) (s w r e:Int):Hp :=
 ⟨[(68157440,.row [iv op,iv m,.fv (.sl (ks.map Tm.enc))] false),(68161543,.row ((kk.map PV.enc).map .fv) ro),(68161547,.row [iv op,iv m,.slc (.own 68161543) 1 ks.length,iv op,iv m,.fv (.sl (ks.map Tm.enc)),.fv (PV.encEnv env)] ro)],MX s w r e⟩
theorem GK {base rm:List Nat} {vals:List IV} {own:List (Nat×Blk)} {s w r e:Int} (hb:rm.any base.contains=false) (hf:AL rm vals own []=true) (k:Hp→Option (IV×Hp)) :
  Bg base rm vals ⟨own,MX s w r e⟩ k=k ⟨JJ rm vals own [],MX s w r e⟩:=Aqk (fun j=>Aka s w r e j) hb hf k
theorem AiL {op m:Int} {ks:List Tm} {env kk:List PV} {s w r e:Int} (hl:kk.length=ks.length) (h3:ks.length≤300):Bx (some (.ptr (.own 68161547) 0,Hev op m ks env kk false s w r e)) (PV.mk op m kk (.mk op m ks) env).enc (MX s w r e):=by
 rw [AW];have hl':ks.length=(kk.map PV.enc).length:=by simp [hl]
 have:=fun (e0:Option (IV×Hp)) (K:FV→List (Ref×Blk)→List Ref→Option (IV×Hp))=>ArA (s:=68161547) (s2:=68161543) (own:=(Hev op m ks env kk false s w r e).own) (ext:=MX s w r e) (es:=kk.map PV.enc) (ro:=false) (ro2:=false) (a:=.int .i64 op) (b:=.int .i64 m) (c:=.int .i64 op) (d:=.int .i64 m) (t:=.sl (ks.map Tm.enc)) (x:=PV.encEnv env)
  (by rw [← hl'];rfl) (by rfl) (by simp [hl];omega) (by simp only [List.mem_map];rintro x ⟨v,_,rfl⟩;exact O1 v) [] e0 K
 exact ⟨_,_,rfl,_,_,this⟩
theorem T6 {ev:Tm→M3→Option (PV×M3)} {op:Int}:∀{i:Nat} {l:List Tm} {m:M3} {vs:List PV} {m':M3},Nv ev op i l m=some (vs,m')→vs.length=l.length
 | _,[],m,vs,m',h=>by simp only [Nv,AwP,AwQ] at h;rw [← h.1];rfl
 | i,t::l,m,vs,m',h=>by
  rw [Nv] at h;split at h
  ·cases hk:Nv ev op (i+1) l m with
   | none=>rw [hk] at h;cases h
   | some q =>
    rw [hk] at h;simp only [AwS,AwP,AwQ] at h;rw [← h.1,AwT,AwT,T6 (vs:=q.1) (m':=q.2) hk]
  ·split at h
   ·cases h
   ·rename_i v m2 _;cases hk:Nv ev op (i+1) l m2 with
    | none=>rw [hk] at h;cases h
    | some q =>
     rw [hk] at h;simp only [AwS,AwP,AwQ] at h;rw [← h.1,AwT,AwT,T6 (vs:=q.1) (m':=q.2) hk]
set_option maxRecDepth 20000 in
set_option maxHeartbeats 1000000 in
theorem AkT {f:Nat} (he:AjY f) (hc:Akw f):AjY (f+1):=by
 intro env t m0 m' v hev r n hn;obtain ⟨n,rfl⟩:∃k,n=k+1:=⟨n - 1,by omega⟩;rw [c65];obtain ⟨op,m,ks⟩:=t;rw [Ai];rw [Qc] at hev;cases ht:HK m0 with
 | none=>rw [ht] at hev;cases hev
 | some m1 =>
 rw [ht] at hev;simp only at hev;have hc1:=U7 ht r (n:=n) (by omega);by_cases h1:op=1
 ·rw [if_pos h1] at hev;split at hev
  ·rename_i hv;simp only [AwP,AwQ] at hev;obtain ⟨rfl,rfl⟩:=hev;have hvar:=WJ (n:=n) env m hv.1 hv.2.1 (by omega);simp only [↓Ahl,↓XX,XY,↓reduceIte,Nat.reduceBEq,Nat.reduceAdd,Int.reduceEq,Int.reduceLT,Int.reduceLE,↓Gd _ _ hc1,h1,↓Ag hvar];exact AJ _ _ _
  ·cases hev
 ·rw [if_neg h1] at hev;split at hev
  ·cases hev
  rename_i hb;have hk3:ks.length≤300:=by omega
  by_cases h2:m1.e≠0
  ·rw [if_pos h2] at hev;simp only [AwP,AwQ] at hev;obtain ⟨rfl,rfl⟩:=hev;simp only [NU,NO,NT,Om,Oj,NG,NL,Od,Of,NV,NH,NE,NB,Oe,S65,↓XX,XY,↓reduceIte,Nat.reduceBEq,Nat.reduceAdd,Int.reduceEq,Int.reduceLT,Int.reduceLE,↓Gd _ _ hc1,h1,h2,↓Ap2 (show ks.length≤1000 by omega),↓AgH]
   exact AiL (kk:=nils ks.length) (by simp [nils]) hk3
  ·rw [if_neg h2] at hev;have h2:m1.e=0:=by simpa using h2
   ·
    cases hkk:Nv (fun t m=>Qc f env t m) op 0 ks m1 with
    | none=>rw [hkk] at hev;cases hev
    | some q =>
    obtain ⟨vs,m2⟩:=q;rw [hkk] at hev;simp only at hev;simp only [h2] at hc1;simp only [NU,NO,NT,Om,Oj,NG,NL,Od,Of,NV,NH,NE,NB,Oe,S65,↓XX,XY,↓reduceIte,Nat.reduceBEq,Nat.reduceAdd,Int.reduceEq,Int.reduceLT,Int.reduceLE,↓Gd _ _ hc1,h1,h2,↓Ap2 (show ks.length≤1000 by omega),↓AgH,↓GK,↓AD,XD,heldB,AL,XE,FE,D4]
    have hlen:=T6 hkk;refine A6 (Q:=fun r=>Bx r _ _) (fun k V H=>∃(pre rest:List Tm) (done:List PV) (m3:M3) (us:List PV),ks=pre++rest∧rest.length=k∧done.length=pre.length ∧
      V=[.ptr (.ext 0) 0,.fv (PV.encEnv env),.ptr (.own 68157440) 0,.ptr (.own 68161547) 0,.fv (.sl (ks.map Tm.enc)),iv ks.length,iv pre.length] ∧
      H=Hev op m ks env (done++nils rest.length) false m3.s m3.w r m3.e ∧
      Nv (fun t m=>Qc f env t m) op pre.length rest m3=some (us,m2)∧done++us=vs)
     ?_ n ks.length _ _ (by omega) ⟨[],ks,[],m1,vs,rfl,rfl,rfl,rfl,by rw [h2];rfl,hkk,rfl⟩
    rintro k V H rec ⟨pre,rest,done,m3,us,hk,hl,hdl,rfl,rfl,hkids,hvs⟩ hrec;have hkl:ks.length=pre.length+rest.length:=by rw [hk];simp
    cases rest with
    | nil =>
     simp only [Nv,AwP,AwQ] at hkids;obtain ⟨rfl,rfl⟩:=hkids;rw [List.append_nil] at hvs;subst hvs;have hno:¬ ((pre.length:Int)<ks.length):=by rw [hkl];simp
     have hz:done++nils ([]:List Tm).length=done:=by simp [nils]
     rw [hz];by_cases h4:m3.e≠0
     ·rw [if_pos h4] at hev;simp only [AwP,AwQ] at hev;obtain ⟨rfl,rfl⟩:=hev;simp only [↓Ahl,↓XX,XY,↓reduceIte,Nat.reduceBEq,Nat.reduceAdd,Int.reduceEq,Int.reduceLT,Int.reduceLE,hno,h4];exact AiL hlen hk3
     ·rw [if_neg h4] at hev;have h4:m3.e=0:=by simpa using h4
      have hcc:=hc _ _ _ _ hev r n (by omega);rw [AW] at hcc;simp only [h4] at hcc;have hlm:(done.map PV.enc).length=ks.length:=by simp [hlen]
      simp only [↓Ahl,↓XX,XY,↓reduceIte,Nat.reduceBEq,Nat.reduceAdd,Int.reduceEq,Int.reduceLT,Int.reduceLE,hno,h4];rw [AjX hcc (s0:=68161547) (s2:=68161543) (own':=(Hev op m ks env done true m3.s m3.w r 0).own) (by rfl) (by rfl) hlm (by decide) (by omega) (by simp only [List.mem_map];rintro x ⟨v,_,rfl⟩;exact O1 v) (by rfl)];exact AJ _ _ _
    | cons x rest =>
     have hi:(pre.length:Int)<ks.length:=by rw [hkl];simp;omega
     have hg:=Ce hk;have hb:=Le (n:=n) (by omega) op pre.length;have hwi:BI ((pre.length:Int)+1)=((pre++[x]).length:Int):=(As (by omega) (by omega)).trans (by simp);simp only [Nv] at hkids;simp only [AwT] at hl;by_cases hbn:0<Ae op pre.length
     ·rw [if_pos hbn] at hkids;have hbn':¬ ((Ae op pre.length:Nat):Int)=0:=by omega
      obtain ⟨o,p,l⟩:=x;simp only [↓Ahl,↓XX,XY,↓reduceIte,Nat.reduceBEq,Nat.reduceAdd,Int.reduceEq,Int.reduceLT,Int.reduceLE,hi,↓Bq (AO hg) (A9 _ _ _),↓Cb,↓Ag hb,hbn',hwi,↓GK,↓AD,XD,heldB,AL,XE,FE,D4];cases hkk2:Nv (fun t m=>Qc f env t m) op (pre.length+1) rest m3 with
      | none=>rw [hkk2] at hkids;cases hkids
      | some q =>
      obtain ⟨us',m4⟩:=q;rw [hkk2] at hkids;simp only [AwS,AwP,AwQ] at hkids;obtain ⟨rfl,rfl⟩:=hkids;refine hrec rest.length _ _ (by omega) ⟨pre++[.mk o p l],rest,done++[.nil],m3,us',by rw [hk];simp,rfl,by simp [hdl],rfl,?_,by simpa using hkk2,by rw [← hvs];simp⟩;rw [show done++[.nil]++nils rest.length=done++nils (rest.length+1) by simp [nils,List.replicate_succ]]
     ·rw [if_neg hbn] at hkids;have hbn':((Ae op pre.length:Nat):Int)=0:=by omega
      cases hev2:Qc f env x m3 with
      | none=>rw [hev2] at hkids;cases hkids
      | some q =>
      obtain ⟨y,m4⟩:=q;rw [hev2] at hkids;simp only at hkids;cases hkk2:Nv (fun t m=>Qc f env t m) op (pre.length+1) rest m4 with
      | none=>rw [hkk2] at hkids;cases hkids
      | some q =>
      obtain ⟨us',m5⟩:=q;rw [hkk2] at hkids;simp only [AwS,AwP,AwQ] at hkids;obtain ⟨rfl,rfl⟩:=hkids;have hce:=he _ _ _ _ _ hev2 r n (by omega);obtain ⟨o,p,l⟩:=x;rw [Ai] at hce;have hin:pre.length<ks.length:=by omega
      have hoff:=fun {β:Type}=>AmB (done:=done) (r:=rest.length) (β:=β);rw [hdl] at hoff;simp only [↓Ahl,↓XX,XY,↓reduceIte,Nat.reduceBEq,Nat.reduceAdd,Int.reduceEq,Int.reduceLT,Int.reduceLE,hi,↓Bq (AO hg) (A9 _ _ _),↓Cb,↓Ag hb,hbn',hwi,↓Agf _ _ hce,↓Al8 hin,↓Anf,↓hoff,↓GK,↓AD,XD,heldB,AL,XE,FE,D4];exact hrec rest.length _ _ (by omega) ⟨pre++[.mk o p l],rest,done++[y],m4,us',by rw [hk];simp,rfl,by simp [hdl],rfl,rfl,by simpa using hkk2,by rw [← hvs];simp⟩
theorem Np:∀f,AjY f∧Akw f∧AnB f∧AhZ f
 | 0=>⟨(fun _ _ _ _ _ h=>by rw [Qc.eq_def] at h;cases h),(fun _ _ _ _ h=>by rw [ctP.eq_def] at h;cases h),(fun _ _ _ _ _ h=>by rw [stP.eq_def] at h;cases h),(fun _ _ _ _ _ _ h=>by rw [opP.eq_def] at h;cases h)⟩
 | f+1=>⟨AkT (Np f).1 (Np f).2.1,AlO (Np f).2.2.1,AjR (Np f).2.1 (Np f).2.2.2,AkL (Np f).1⟩
def SH (below:Int) (b:Nat):List PV:=(List.range b).map fun (j:Nat)=>PV.var (below+(j:Int))
theorem AhN (u:Int) (b:Nat):SH u (b+1)=SH u b++[PV.var (u+b)]:=by simp [SH,List.range_succ]
theorem HJ (u:Int) (b:Nat):(SH u b).length=b:=by simp [SH]
def XS (bk:PV→Int→M3→Int→Option (Tm×M3×Int)) (opn:Nat→List PV→M3→Option (PV×M3)) (op below:Int):Nat→List PV→M3→Int→Option (Option (List Tm)×M3×Int)
 | _,[],m,r=>some (some [],m,r)
 | i,x::l,m,r=>match (if 0<Ae op i then opn i (SH below (Ae op i)) m else some (x,m)) with
  | none=>none
  | some (y,m)=>if m.e≠0 then some (none,m,r) else match bk y (below+Ae op i) m r with
   | none=>none
   | some (t,m,r)=>(XS bk opn op below (i+1) l m r).map fun (ts,m,r)=>(ts.map (t::·),m,r)
def Vb:Nat→PV→Int→Int→M3→Int→Option (Tm×M3×Int)
 | 0,_,_,_,_,_=>none
 | f+1,v,below,deep,m,r =>
  if r<0∨1000000000<r∨below<0∨1000000<below∨deep<0∨1000000<deep then none else
  match HK ⟨m.s,m.w,if m.e=0∧(3000<r+1∨120<deep) then 5 else m.e⟩ with
  | none=>none
  | some m=>if m.e≠0 then some (.z,m,r+1) else match v with
   | .nil=>none
   | .mk op n k t e=>if op=1 then (if n < -2305843009213693952∨2305843009213693952<n then none else some (.mk 1 (below - 1 - n) [],m,r+1))
    else if f≤k.length+4∨100<k.length then none
    else match XS (fun v below m r=>Vb f v below (deep+1) m r) (fun i l m=>opP f (.mk op n k t e) i l m) op below 0 k m (r+1) with
     | none=>none
     | some (none,m,r)=>some (.z,m,r)
     | some (some ts,m,r)=>some (.mk op n ts,m,r)
def Ak0 (f:Nat):Prop:=∀(v:PV) (below deep:Int) (m:M3) (r:Int) (t:Tm) (m':M3) (r':Int),Vb f v below deep m r=some (t,m',r')→∀n,f+1≤n →
 Bx (SS dt n 66 [.ptr (.ext 0) 0,.fv v.enc,iv below,iv deep] ⟨[],MX m.s m.w r m.e⟩) t.enc (MX m'.s m'.w r' m'.e)
theorem HZ (j:Nat) (v:FV):FG (.ext j) (.fv v)=true:=rfl
theorem AiF {ih:Aa} {n:Nat} {v w:FV} {below deep s u r e e1:Int} {ext:List Blk} (hr:0≤r) (hr2:r≤1000000000) (he1:(if e=0∧(3000<r+1∨120<deep) then (5:Int) else e)=e1)
  (h:Bx (Fr ih ⟨[(69206016,.row [iv 0,iv 0,.nils] false)],MX s u (r+1) e1⟩ (.ptr (.ext 0) 0) (.ptr (.own 69206016) 0) (.fv v) (iv below) ⟨[],MX s u r e⟩ (iv deep) n) w ext) :
  Bx (S66 ih n (.ptr (.ext 0) 0) (.fv v) (iv below) (iv deep) ⟨[],MX s u r e⟩) w ext:=by
 have wr:BI (r+1)=r+1:=by rw [As]<;>omega
 have key:S66 ih n (.ptr (.ext 0) 0) (.fv v) (iv below) (iv deep) ⟨[],MX s u r e⟩=Fr ih ⟨[(69206016,.row [iv 0,iv 0,.nils] false)],MX s u (r+1) e1⟩ (.ptr (.ext 0) 0) (.ptr (.own 69206016) 0) (.fv v) (iv below) ⟨[],MX s u r e⟩ (iv deep) n:=by
  by_cases h0:e=0
  ·by_cases h3:3000<r+1
   ·rw [if_pos ⟨h0,.inl h3⟩] at he1;subst he1;simp only [D6,DS,D3,Dw,DH,DD,CN,DX,DM,Dz,DV,Dr,Fx,Dy,DG,Dm,Dl,DI,DJ,DL,DU,DN,FD,Do,Dn,DR,Dt,Dx,DQ,Dk,DO,DP,S66,↓XX,XY,↓reduceIte,Nat.reduceBEq,Nat.reduceAdd,Int.reduceEq,Int.reduceLT,Int.reduceLE,↓HZ,wr,h0,h3]
   ·by_cases h4:120<deep
    ·rw [if_pos ⟨h0,.inr h4⟩] at he1;subst he1;simp only [D6,DS,D3,Dw,DH,DD,CN,DX,DM,Dz,DV,Dr,Fx,Dy,DG,Dm,Dl,DI,DJ,DL,DU,DN,FD,Do,Dn,DR,Dt,Dx,DQ,Dk,DO,DP,S66,↓XX,XY,↓reduceIte,Nat.reduceBEq,Nat.reduceAdd,Int.reduceEq,Int.reduceLT,Int.reduceLE,↓HZ,wr,h0,h3,h4]
    ·rw [if_neg (by omega)] at he1;subst he1;simp only [D6,DS,D3,Dw,DH,DD,CN,DX,DM,Dz,DV,Dr,Fx,Dy,DG,Dm,Dl,DI,DJ,DL,DU,DN,FD,Do,Dn,DR,Dt,Dx,DQ,Dk,DO,DP,S66,↓XX,XY,↓reduceIte,Nat.reduceBEq,Nat.reduceAdd,Int.reduceEq,Int.reduceLT,Int.reduceLE,↓HZ,wr,h0,h3,h4]
  ·rw [if_neg (by omega)] at he1;subst he1;simp only [D6,DS,D3,Dw,DH,DD,CN,DX,DM,Dz,DV,Dr,Fx,Dy,DG,Dm,Dl,DI,DJ,DL,DU,DN,FD,Do,Dn,DR,Dt,Dx,DQ,Dk,DO,DP,S66,↓XX,XY,↓reduceIte,Nat.reduceBEq,Nat.reduceAdd,Int.reduceEq,Int.reduceLT,Int.reduceLE,↓HZ,wr,h0]
 rw [key];exact h
abbrev Hbk (done:List Tm) (rest:Nat) (more:List (Nat×Blk)) (s w r e:Int):Hp :=
 ⟨(69206016,.row [iv 0,iv 0,.nils] false)::(69215237,.row (BG done rest) false)::more,MX s w r e⟩
theorem AlC {ih:Aa} {f:FuncId} {w x y:FV} {a b:IV} {s0 len:Nat} {s u r e s' u' r' e':Int} {own own':List (Nat×Blk)} {es:List FV} {ro:Bool} (hr:Bx (ih f [.ptr (.ext 0) 0,.fv x,.fv y,.fv (.sl es)] ⟨[],MX s u r e⟩) w (MX s' u' r' e'))
  (ha:A8 a=some x) (hb:A8 b=some y) (hl:Ap s0 own=some (.row (es.map .fv) ro)) (hlen:es.length=len) (hn:es.length≤300) (hag:∀x∈es,∀l,x≠.agg l) (ho:AN s0 (.row (es.map .fv) true) own=own')
  (k:IV→Hp→List Ref→List Ref→Option (IV×Hp)) :
  Al [true,false,false,false] false false ih f [.ptr (.ext 0) 0,a,b,.slc (.own s0) 1 len] ⟨own,MX s u r e⟩ k=k (.fv w) ⟨own',MX s' u' r' e'⟩ [.ext 1,.ext 0,.own s0] [.own s0,.ext 0,.ext 1]:=by
 subst ho hlen;refine AaR (ks:=[false,false,false]) (vs:=[x,y,.sl es]) (u:=[(.own s0,.row (es.map .fv) true)]) (lg:=[.own s0]) ?_ (Akv ..) hr ?_ k
 ·intro e k;rw [Xl,JP _ _ e _ ha,Xl,JP _ _ e _ hb,Xl,AiI (d:=10) hl hn hag,fz0];rfl
 ·intro k
  show (Fs own s0 fun _=>A0 own s0 (.row (es.map .fv) true) fun own=>k ⟨own,_⟩)=_
  rw [Bk,hl,Option.bind_some,Bu]
def AlE (op n:Int) (done:List Tm):Option (List Tm)→Tm
 | none=>.z
 | some ts=>.mk op n (done++ts)
set_option maxRecDepth 20000 in
set_option maxHeartbeats 1000000 in
theorem Apg {n:Nat} {op nn bo bn below deep:Int} {k e:List PV} {bk:List Tm} {done:List Tm} {s w r er:Int} (h4:Hp) {rec:List IV→Hp→Option (IV×Hp)} (hd:done.length=k.length) (hk:k.length≤100) :
  Bx (FD [.ptr (.ext 0) 0,.fv (PV.mk op nn k (.mk bo bn bk) e).enc,iv below,iv deep,.ptr (.own 69206016) 0,.slc (.own 69215237) 3 k.length,iv k.length,iv k.length] (Hbk done 0 [] s w r er) (SS dt n) h4 rec n)
   (Tm.mk op nn done).enc (MX s w r er):=by
 rw [AW,Ai];have hno:¬ ((k.length:Int)<k.length):=by omega
 simp only [D6,DS,D3,Dw,DH,DD,CN,DX,DM,Dz,DV,Dr,Fx,Dy,DG,Dm,Dl,DI,DJ,DL,DU,DN,FD,Do,Dn,DR,Dt,Fr,Dx,DQ,Dk,DO,DP,S66,↓XX,XY,↓reduceIte,Nat.reduceBEq,Nat.reduceAdd,Int.reduceEq,Int.reduceLT,Int.reduceLE,↓HZ,hno];rw [← hd];exact ⟨_,_,rfl,_,_,fun e0 K=>Af7 (by rfl) (by omega) [] e0 K⟩
def AgZ (more:List (Nat×Blk)):Prop:=more=[]∨∃(l:List FV) (ro:Bool),more=[(69221377,.row (l.map .fv) ro)]
set_option maxRecDepth 20000 in
set_option maxHeartbeats 1000000 in
theorem ArJ {n:Nat} {v y:FV} {below deep b len i:IV} {done:List Tm} {rest kl:Nat} {more:List (Nat×Blk)} {s w r e:Int} (hM:AgZ more) (h4:Hp) {rec:List IV→Hp→Option (IV×Hp)} (he:e≠0) :
  Bx (CN (.ptr (.ext 0) 0) (Hbk done rest more s w r e) (.ptr (.own 69206016) 0) below b deep (SS dt n) (.fv y) (.slc (.own 69215237) 3 kl) i i h4 (.fv v) len rec) Tm.z.enc (MX s w r e):=by
 rcases hM with rfl | ⟨l,ro,rfl⟩
 ·simp only [↓Yq,↓XX,XY,↓reduceIte,Nat.reduceBEq,Nat.reduceAdd,Int.reduceEq,Int.reduceLT,Int.reduceLE,↓HZ,he];exact Fl rfl _ _
 ·simp only [↓Yq,↓XX,XY,↓reduceIte,Nat.reduceBEq,Nat.reduceAdd,Int.reduceEq,Int.reduceLT,Int.reduceLE,↓HZ,he];exact Fl rfl _ _
set_option maxRecDepth 20000 in
set_option maxHeartbeats 1000000 in
theorem Arn {f n:Nat} {v:FV} {y:PV} {below deep:Int} {b:Nat} {len:Int} {done:List Tm} {rest kl:Nat} {more:List (Nat×Blk)} {m m5:M3} {r r5:Int} {t5:Tm} {w:FV} {ext:List Blk} (hb:Ak0 f) (hn:f+1≤n) (hM:AgZ more) (ext4:List Blk)
  {rec:List IV→Hp→Option (IV×Hp)} (he:m.e=0) (hbk:Vb f y (below+b) (deep+1) m r=some (t5,m5,r5)) (hb1:0≤below) (hb2:below≤1000000) (hb3:b≤10) (hd1:0≤deep) (hd2:deep≤1000000) (hkl:done.length<kl) (hkl2:kl≤100)
  (h:Bx (rec [.ptr (.ext 0) 0,.fv v,iv below,iv deep,.ptr (.own 69206016) 0,.slc (.own 69215237) 3 kl,iv len,iv (done++[t5]).length] (Hbk (done++[t5]) rest [] m5.s m5.w r5 m5.e)) w ext) :
  Bx (CN (.ptr (.ext 0) 0) (Hbk done (rest+1) more m.s m.w r m.e) (.ptr (.own 69206016) 0) (iv below) (iv b) (iv deep) (SS dt n) (.fv y.enc) (.slc (.own 69215237) 3 kl) (iv done.length) (iv done.length) ⟨[],ext4⟩ (.fv v) (iv len) rec) w ext:=by
 have hc:=hb _ _ _ _ _ _ _ _ hbk n hn;have wb:BI (below+b)=below+b:=by rw [As]<;>omega
 have wd:BI (deep+1)=deep+1:=by rw [As]<;>omega
 have wi:BI ((done.length:Int)+1)=((done++[t5]).length:Int):=(As (by omega) (by omega)).trans (by simp);obtain ⟨o,p,ks⟩:=t5;rw [Ai] at hc;simp only [he] at hc ⊢;rcases hM with rfl | ⟨l,ro,rfl⟩
 ·simp only [↓Yq,↓XX,XY,↓reduceIte,Nat.reduceBEq,Nat.reduceAdd,Int.reduceEq,Int.reduceLT,Int.reduceLE,↓HZ,wb,wd,↓S7 _ _ hc,↓O0 hkl,↓Acf,wi,↓GK,↓AD,XD,heldB,AL,XE,FE,D4,Hv,Fy];exact h
 ·simp only [↓Yq,↓XX,XY,↓reduceIte,Nat.reduceBEq,Nat.reduceAdd,Int.reduceEq,Int.reduceLT,Int.reduceLE,↓HZ,wb,wd,↓S7 _ _ hc,↓O0 hkl,↓Acf,wi,↓GK,↓AD,XD,heldB,AL,XE,FE,D4,Hv,Fy];exact h
set_option maxRecDepth 20000 in
set_option maxHeartbeats 1000000 in
theorem AqU {f n:Nat} {v y:PV} {below deep:Int} {i b kl:Nat} {len:Int} {done:List Tm} {rest:Nat} {m m4:M3} {r:Int} {w:FV} {ext:List Blk} (hn:f+1≤n) (h3:3≤n) (ext4:List Blk)
  {j:IV→IV→IV→IV→IV→IV→IV→IV→IV→IV→IV→Hp→Option (IV×Hp)} (hb:b≤2) (hb1:0≤below) (hb2:below≤1000000) (hop:opP f v i (SH below b) m=some (y,m4))
  (hj:Bx (j (.ptr (.ext 0) 0) (.fv v.enc) (iv below) (iv deep) (.ptr (.own 69206016) 0) (.slc (.own 69215237) 3 kl) (iv i) (.fv y.enc) (iv b) (iv len) (iv i)
   (Hbk done rest [(69221377,.row (((SH below b).map PV.enc).map .fv) true)] m4.s m4.w r m4.e)) w ext) :
  Bx (BE n (fun q119 l120 h121=>Fx l120 h121 ⟨[],ext4⟩ q119 (SS dt n) j) [.ptr (.ext 0) 0,.fv v.enc,iv below,iv deep,.ptr (.own 69206016) 0,.slc (.own 69215237) 3 kl,iv i,iv b,.slc (.own 69221377) 1 b,iv len,iv i,iv b,iv 0]
   (Hbk done rest [(69221377,.row (((nils b).map PV.enc).map .fv) false)] m.s m.w r m.e)) w ext:=by
 refine A6 (Q:=fun r=>Bx r _ _) (fun t V H=>∃(k:Nat),k+t=b ∧
   V=[.ptr (.ext 0) 0,.fv v.enc,iv below,iv deep,.ptr (.own 69206016) 0,.slc (.own 69215237) 3 kl,iv i,iv b,.slc (.own 69221377) 1 b,iv len,iv i,iv b,iv k] ∧
   H=Hbk done rest [(69221377,.row (((SH below k++nils t).map PV.enc).map .fv) false)] m.s m.w r m.e) ?_ n b _ _ (by omega) ⟨0,by omega,rfl,rfl⟩
 rintro t V H rec ⟨k,hkt,rfl,rfl⟩ hrec;cases t with
 | zero =>
  have hkb:k=b:=by omega
  subst hkb;have hno:¬ ((k:Int)<k):=by omega
  have hc:=(Np f).2.2.2 _ _ _ _ _ _ hop r n hn;rw [show SH below k++nils 0=SH below k by simp [nils]]
  simp only [D6,DS,D3,Dw,DH,DD,CN,DX,DM,Dz,DV,Dr,Dy,DG,Dm,Dl,DI,DJ,DL,DU,DN,Do,Dn,DR,Dt,Fr,Dx,DQ,Dk,DO,DP,S66,Fx,↓XX,XY,↓reduceIte,Nat.reduceBEq,Nat.reduceAdd,Int.reduceEq,Int.reduceLT,Int.reduceLE,↓HZ,hno];rw [AlC hc rfl rfl (s0:=69221377) (own':=(Hbk done rest [(69221377,.row (((SH below k).map PV.enc).map .fv) true)] m4.s m4.w r m4.e).own) (by rfl) (by simp [HJ]) (by simp [HJ];omega) (by simp only [List.mem_map];rintro x ⟨v,_,rfl⟩;exact O1 v) (by rfl)];exact hj
 | succ t =>
  have hlt:(k:Int)<b:=by omega
  have hkb:k<b:=by omega
  have wk:BI ((k:Int)+1)=((k+1:Nat):Int):=(As (by omega) (by omega)).trans (by simp);have wbk:BI (below+(k:Int))=below+k:=by rw [As]<;>omega
  have hoff:=fun {β:Type}=>AmB (done:=SH below k) (r:=t) (β:=β) (PV.var (below+k));rw [HJ,Wu] at hoff;simp only [D6,DS,D3,Dw,DH,DD,CN,DX,DM,Dz,DV,Dr,Dy,DG,Dm,Dl,DI,DJ,DL,DU,DN,Do,Dn,DR,Dt,Fr,Dx,DQ,Dk,DO,DP,S66,Fx,↓XX,XY,↓reduceIte,Nat.reduceBEq,Nat.reduceAdd,Int.reduceEq,Int.reduceLT,Int.reduceLE,↓HZ,hlt,wbk];rw [AeM (fc:=[.int .i64 1,.int .i64 (below+k),.sl [],.int .i64 0,.int .i64 0,.sl [],.nilp]) rfl (by simp)];simp only [↓XX,XY,↓reduceIte,Nat.reduceBEq,Nat.reduceAdd,Int.reduceEq,Int.reduceLT,Int.reduceLE,↓HZ,↓Al8 hkb,↓hoff,wk,↓GK,↓AD,XD,heldB,AL,XE,FE,D4,Hv,Fy];exact hrec t _ _ (by omega) ⟨k+1,by omega,rfl,by rw [AhN]⟩
set_option maxRecDepth 20000 in
set_option maxHeartbeats 1000000 in
theorem AlR {f:Nat} (hb:Ak0 f):Ak0 (f+1):=by
 intro v below deep m r t m' r' hev n hn;obtain ⟨n,rfl⟩:∃k,n=k+1:=⟨n - 1,by omega⟩;rw [c66];rw [Vb.eq_def] at hev;simp only at hev;split at hev
 ·cases hev
 rename_i hbad;have wd:BI (deep+1)=deep+1:=by rw [As]<;>omega
 have wb1:BI (below - 1)=below - 1:=by rw [As]<;>omega
 generalize he1:(if m.e=0∧(3000<r+1∨120<deep) then (5:Int) else m.e)=e1 at hev;cases ht:HK ⟨m.s,m.w,e1⟩ with
 | none=>rw [ht] at hev;cases hev
 | some m1 =>
 rw [ht] at hev;simp only at hev;have hc1:=U7 ht (r+1) (n:=n) (by omega);simp only at hc1;refine AiF (by omega) (by omega) he1 ?_;by_cases h1:m1.e≠0
 ·rw [if_pos h1] at hev;simp only [AwP,AwQ] at hev;obtain ⟨rfl,rfl,rfl⟩:=hev;simp only [↓Yq,↓XX,XY,↓reduceIte,Nat.reduceBEq,Nat.reduceAdd,Int.reduceEq,Int.reduceLT,Int.reduceLE,↓HZ,↓Gd _ _ hc1,h1];exact Fl rfl _ _
 ·rw [if_neg h1] at hev;have h1:m1.e=0:=by simpa using h1
  cases v with
  | nil=>cases hev
  | mk op nn k t0 e =>
  obtain ⟨bo,bn,bk⟩:=t0;simp only at hev;by_cases h2:op=1
  ·rw [if_pos h2] at hev;split at hev
   ·cases hev
   rename_i hnn;simp only [AwP,AwQ] at hev;obtain ⟨rfl,rfl,rfl⟩:=hev;have wb2:BI (below - 1 - nn)=below - 1 - nn:=by rw [As]<;>omega
   rw [AW];simp only [↓Yq,↓XX,XY,↓reduceIte,Nat.reduceBEq,Nat.reduceAdd,Int.reduceEq,Int.reduceLT,Int.reduceLE,↓HZ,↓Gd _ _ hc1,h1,h2,wb1,wb2];exact Fl rfl _ _
  ·rw [if_neg h2] at hev;split at hev
   ·cases hev
   rename_i hk100;have hk100:k.length≤100:=by omega
   cases hkk:XS (fun v below m r=>Vb f v below (deep+1) m r) (fun i l m=>opP f (.mk op nn k (.mk bo bn bk) e) i l m) op below 0 k m1 (r+1) with
   | none=>rw [hkk] at hev;cases hev
   | some q =>
   obtain ⟨res,m2,r2⟩:=q;rw [hkk] at hev;have hres:t=AlE op nn [] res∧m'=m2∧r'=r2:=by
    cases res with
    | none=>simp only [AwP,AwQ] at hev;exact ⟨hev.1.symm,hev.2.1.symm,hev.2.2.symm⟩
    | some ts=>simp only [AwP,AwQ] at hev;exact ⟨hev.1.symm,hev.2.1.symm,hev.2.2.symm⟩
   obtain ⟨ht5,rfl,rfl⟩:=hres;generalize hV:PV.mk op nn k (.mk bo bn bk) e=V5 at *;have hVe:V5.enc=.fp [.int .i64 op,.int .i64 nn,.sl (k.map PV.enc),.int .i64 bo,.int .i64 bn,.sl (bk.map Tm.enc),PV.encEnv e] 0:=by rw [← hV,AW]
   rw [hVe];simp only [↓Yq,↓XX,XY,↓reduceIte,Nat.reduceBEq,Nat.reduceAdd,Int.reduceEq,Int.reduceLT,Int.reduceLE,↓HZ,↓Gd _ _ hc1,h1,h2,↓Am2 (show k.length≤1000 by omega),↓GK,↓AD,XD,heldB,AL,XE,FE,D4,Hv,Fy]
   refine A6 (Q:=fun r=>Bx r _ _) (fun j V H=>∃(pre rest:List PV) (done:List Tm) (m3:M3) (r3:Int) (res3:Option (List Tm)),k=pre++rest∧rest.length=j∧done.length=pre.length ∧
     V=[.ptr (.ext 0) 0,.fv V5.enc,iv below,iv deep,.ptr (.own 69206016) 0,.slc (.own 69215237) 3 k.length,iv k.length,iv pre.length] ∧
     H=Hbk done rest.length [] m3.s m3.w r3 m3.e ∧
     XS (fun v below m r=>Vb f v below (deep+1) m r) (fun i l m=>opP f V5 i l m) op below pre.length rest m3 r3=some (res3,m',r')∧AlE op nn done res3=t)
    ?_ n k.length _ _ (by omega) ⟨[],k,[],m1,r+1,res,rfl,rfl,rfl,by rw [hVe];rfl,by rw [h1],hkk,ht5.symm⟩
   rintro j V H rec ⟨pre,rest,done,m3,r3,res3,hk,hl,hdl,rfl,rfl,hkids,hts⟩ hrec;have hkl:k.length=pre.length+rest.length:=by rw [hk];simp
   cases rest with
   | nil =>
    simp only [XS,AwP,AwQ] at hkids;obtain ⟨rfl,rfl,rfl⟩:=hkids;rw [List.length_nil,Nat.add_zero] at hkl;rw [← hts,← hV,AlE,List.append_nil,← hkl];exact Apg _ (by omega) hk100
   | cons x rest =>
    have hi:(pre.length:Int)<k.length:=by rw [hkl];simp;omega
    have hg:=Ce hk;have hbn:=Le (n:=n) (by omega) op pre.length;have hble:=AU op pre.length;simp only [XS] at hkids;simp only [AwT] at hl hkl;have behind:∀(y:PV) (m4:M3) (more:List (Nat×Blk)),AgZ more→(if m4.e≠0 then some (none,m4,r3) else match Vb f y (below+Ae op pre.length) (deep+1) m4 r3 with
       | none=>none
       | some (t,m,r)=>(XS (fun v below m r=>Vb f v below (deep+1) m r) (fun i l m=>opP f V5 i l m) op below (pre.length+1) rest m r).map fun (ts,m,r)=>(ts.map (t::·),m,r))=some (res3,m',r') →
      Bx (CN (.ptr (.ext 0) 0) (Hbk done (rest.length+1) more m4.s m4.w r3 m4.e) (.ptr (.own 69206016) 0) (iv below) (iv (Ae op pre.length)) (iv deep) (SS dt n) (.fv y.enc) (.slc (.own 69215237) 3 k.length) (iv pre.length) (iv pre.length) ⟨[],MX m.s m.w r m.e⟩ (.fv V5.enc) (iv k.length) rec)
       t.enc (MX m'.s m'.w r' m'.e):=by
     intro y m4 more hM hy;by_cases h4:m4.e≠0
     ·rw [if_pos h4] at hy;simp only [AwP,AwQ] at hy;obtain ⟨rfl,rfl,rfl⟩:=hy;rw [← hts];exact ArJ hM _ h4
     ·rw [if_neg h4] at hy;have h4:m4.e=0:=by simpa using h4
      cases hbk:Vb f y (below+Ae op pre.length) (deep+1) m4 r3 with
      | none=>rw [hbk] at hy;cases hy
      | some q =>
      obtain ⟨t5,m5,r5⟩:=q;rw [hbk] at hy;simp only at hy;cases hk2:XS (fun v below m r=>Vb f v below (deep+1) m r) (fun i l m=>opP f V5 i l m) op below (pre.length+1) rest m5 r5 with
      | none=>rw [hk2] at hy;cases hy
      | some q =>
      obtain ⟨res6,m6,r6⟩:=q;rw [hk2] at hy;simp only [AwS,AwP,AwQ] at hy;obtain ⟨rfl,rfl,rfl⟩:=hy;rw [← hdl];refine Arn hb (by omega) hM _ h4 (by rw [hdl];exact hbk) (by omega) (by omega) (by rw [hdl];omega) (by omega) (by omega) (by omega) hk100 ?_;refine hrec rest.length _ _ (by omega) ⟨pre++[x],rest,done++[t5],m5,r5,res6,by rw [hk];simp,rfl,by simp [hdl],by simp [hdl],rfl,by simpa using hk2,?_⟩;rw [← hts];cases res6 with
      | none=>rfl
      | some ts=>simp [AlE]
    rw [hVe];by_cases hb0:0<Ae op pre.length
    ·rw [if_pos hb0] at hkids;have hb0':(0:Int)<Ae op pre.length:=by omega
     cases hop:opP f V5 pre.length (SH below (Ae op pre.length)) m3 with
     | none=>rw [hop] at hkids;cases hkids
     | some q =>
     obtain ⟨y,m4⟩:=q;rw [hop] at hkids;have h9:=behind y m4 [(69221377,.row (((SH below (Ae op pre.length)).map PV.enc).map .fv) true)] (.inr ⟨_,_,rfl⟩) hkids;have hin:=AqU (f:=f) (n:=n) (v:=V5) (y:=y) (below:=below) (deep:=deep) (i:=pre.length) (b:=Ae op pre.length) (kl:=k.length) (len:=k.length) (done:=done) (rest:=rest.length+1) (m:=m3) (m4:=m4) (r:=r3) (w:=t.enc) (ext:=MX m'.s m'.w r' m'.e) (by omega) (by omega) (MX m.s m.w r m.e)
      (j:=fun x79 x80 x81 x82 x83 x84 x85 x86 x87 x88 x89 h90=>CN x79 h90 x83 x81 x87 x82 (SS dt n) x86 x84 x85 x89 ⟨[],MX m.s m.w r m.e⟩ x80 x88 rec) (by omega) (by omega) (by omega) hop h9
     simp only [D6,DS,D3,Dw,DH,DD,DX,DM,Dz,DV,Dr,Dy,DG,Dm,Dl,DI,DJ,DL,DU,DN,FD,Do,Dn,DR,Dt,Fr,Dx,DQ,Dk,DO,DP,S66,↓XX,XY,↓reduceIte,Nat.reduceBEq,Nat.reduceAdd,Int.reduceEq,Int.reduceLT,Int.reduceLE,↓HZ,hi,↓Apc hg,↓Ag hbn,hb0',↓Ap2 (show Ae op pre.length≤1000 by omega),↓GK,↓AD,XD,heldB,AL,XE,FE,D4,Hv,Fy]
     rw [hVe] at hin;exact hin
    ·rw [if_neg hb0] at hkids;have hb0':¬ (0:Int)<Ae op pre.length:=by omega
     have h9:=behind x m3 [] (.inl rfl) hkids;simp only [D6,DS,D3,Dw,DH,DD,DX,DM,Dz,DV,Dr,Dy,DG,Dm,Dl,DI,DJ,DL,DU,DN,FD,Do,Dn,DR,Dt,Fr,Dx,DQ,Dk,DO,DP,S66,↓XX,XY,↓reduceIte,Nat.reduceBEq,Nat.reduceAdd,Int.reduceEq,Int.reduceLT,Int.reduceLE,↓HZ,hi,↓Apc hg,↓Ag hbn,hb0'];rw [hVe] at h9;exact h9
theorem Amx:∀f,Ak0 f
 | 0=>(fun _ _ _ _ _ _ _ _ h=>by rw [Vb.eq_def] at h;cases h)
 | f+1=>AlR (Amx f)
abbrev Fp (mb:Nat) (f:FuncId):IV:=.agg [.func (.func f) [.ptr (.own mb) 0] []]
abbrev C9 (mb:Nat):List (Int×IV):=[(5,Fp mb 72),(8,Fp mb 73),(9,Fp mb 73),(13,Fp mb 74),(30,Fp mb 75),(19,Fp mb 76)]
theorem AkD (r:Ref):IV.one (.mapr r)=true:=rfl
theorem AfM {β:Type} (l:List IV) (e:Option β) (k:List FV→Option β):Ct (.dead::l) e k=e:=rfl
theorem of4 {β:Type} (x y z u v b:IV) (l:List IV) (k:List IV→Option β):G7 (x::y::z::u::v::l) 4 b k=k (x::y::z::u::b::l):=rfl
theorem AtI (s:Nat) (own:List (Nat×Blk)) (ext:List Blk) (k:IV→Hp→List Ref→List Ref→Option (IV×Hp)):Ay (GX s) s ⟨own,ext⟩ k=CT own s (A0 own s (.map []) fun own=>k (.mapr (.own s)) ⟨own,ext⟩ [] [.own s]):=by
 unfold Ay;simp only [GX,Rd.runLog,J7,C8,CB];rfl
def Aq2 (b:Blk) (k:List (Int×IV)→Option (IV×Hp)):Option (IV×Hp):=match b with
 | .map es=>k es
 | _=>none
theorem Ahb (es:List (Int×IV)) (k:List (Int×IV)→Option (IV×Hp)):Aq2 (.map es) k=k es:=rfl
theorem Asa (m j:Nat) (v:IV) (hv:v.alive=true) (n:Int) (s:Nat) (own:List (Nat×Blk)) (ext:List Blk) (k:IV→Hp→List Ref→List Ref→Option (IV×Hp)) :
  Ay (Ca EE 100 (.mapr (.own m)) (iv n) v) s ⟨own,ext⟩ k=Fs own m fun b=>Aq2 b fun es=>A0 own m (.map (Cv n v es)) fun own=>k .dead ⟨own,ext⟩ [.own m] [.own m]:=by
 have h1:=tMk;have h2:=tIk;cases hm:EE.T 100 with
 | none=>rw [hm] at h1;cases h1
 | some ti =>
  cases hi:EE.T 3 with
  | none=>rw [hi] at h2;cases h2
  | some ii =>
   rw [hm] at h1;rw [hi] at h2;obtain ⟨a,b,kd,z⟩:=ti;obtain ⟨a2,b2,kd2,z2⟩:=ii;simp only [AwS,AwP] at h1 h2;subst h1 h2;rw [Bk];unfold Ay;cases hl:Ap m own with
   | none=>simp only [Ca,hm,hi,Xa,Rd.runLog,Hp.get,hl];rfl
   | some bl =>
    cases bl with
    | row c ro=>simp only [Ca,hm,hi,Xa,Rd.runLog,Hp.get,hl];rfl
    | tok a b=>simp only [Ca,hm,hi,Xa,Rd.runLog,Hp.get,hl];rfl
    | map es =>
     simp only [Ca,hm,hi,Xa,Rd.runLog,Hp.get,hl,AiN,hv,and_self,if_true,Option.bind_some,Ahb]
     show (fRf (.own m) fun q=>Da q ⟨own,ext⟩ fun _=>fBk (.map (Cv n v es)) fun b=>Ge q b ⟨own,ext⟩ fun h=>J7 none s h fun h=>fV 3 .dead fun v=>k v h [.own m] ([.own m]++[]))=_
     simp only [OT,C8,CB,J7,Ge,Da];rw [Bk,hl];rfl
theorem AoJ {ks:List Bool} (hks:∀b∈ks,b=false) {ih:Aa} {f:FuncId} {args:List IV} {vs:List FV} {w:FV} {mb mp:Nat} {own:List (Nat×Blk)} {s u r e s' u' r' e':Int} (hz:Bz args=some vs) (hne:mb≠mp)
  (hl1:Ap mb own=some (.row [iv s,iv u,iv r,iv e,.mapr (.own mp)] false)) (hl2:Ap mp own=some (.map (C9 mb))) (hr:Bx (ih f (.ptr (.ext 0) 0::vs.map .fv) ⟨[],MX s u r e⟩) w (MX s' u' r' e')) (k:IV→Hp→List Ref→List Ref→Option (IV×Hp)) :
  Al (true::ks) false false ih f (.ptr (.own mb) 0::args) ⟨own,[]⟩ k=k (.fv w) ⟨AN mp (.map (C9 mb)) (AN mb (.row [iv s',iv u',iv r',iv e',.mapr (.own mp)] false) own),[]⟩ [.own mp,.own mb] [.own mb,.own mp]:=by
 obtain ⟨v,own',e1,hfz⟩:=hr;obtain ⟨uu,hu⟩:=Vy hfz;have hD:GU (true::ks) false false ih f (.ptr (.own mb) 0::args) ⟨own,[]⟩ k=k (.fv w) ⟨AN mp (.map (C9 mb)) (AN mb (.row [iv s',iv u',iv r',iv e',.mapr (.own mp)] false) own),[]⟩ [.own mp,.own mb] [.own mb,.own mp]:=by
  have h1:Bv (true::ks) (.ptr (.own mb) 0::args)=.ret (.ptr (.own mb) 0::vs.map .fv,[.own mb],[]):=by
   simp only [Bv,MQ args ks hks hz,Rd.bind,IV.refs];rfl
  have hn1:¬ (Ref.own mp=Ref.own mb):=by intro h;cases h;exact hne rfl
  have h2:(Ck 4096 [.own mb] []).runLog ⟨own,[]⟩ []=some ([(.own mb,.row [iv s,iv u,iv r,iv e,.mapr (.own mp)] false),(.own mp,.map (C9 mb))],[.own mp,.own mb]):=by
   show (Ck (4087+1+1+1+1+1+1+1+1+1) [.own mb] []).runLog ⟨own,[]⟩ []=_
   simp only [Ck,hasRef,Bool.false_eq_true,if_false,Rd.runLog,Hp.get,hl1,hl2,Blk.refs,IV.refs.refsL,IV.refs,List.append_nil,List.nil_append,List.cons_append,AwV,AwU,hn1,decide_false,decide_true,Bool.or_false,Bool.true_or,if_true]
  have p1:E9 [(.own mb,.row [iv s,iv u,iv r,iv e,.mapr (.own mp)] false),(.own mp,.map (C9 mb))] (.own mb)=some (.ext 0):=by simp [E9,Co]
  have p2:E9 [(.own mb,.row [iv s,iv u,iv r,iv e,.mapr (.own mp)] false),(.own mp,.map (C9 mb))] (.own mp)=some (.ext 1):=by simp [E9,Co,hn1]
  have h3:IV.ren.renL (E9 [(.own mb,.row [iv s,iv u,iv r,iv e,.mapr (.own mp)] false),(.own mp,.map (C9 mb))]) (.ptr (.own mb) 0::vs.map .fv)=some (.ptr (.ext 0) 0::vs.map .fv):=by
   simp only [IV.ren.renL,IV.ren,p1,AwS,Option.bind_some,It]
  have h4:Bd (E9 [(.own mb,.row [iv s,iv u,iv r,iv e,.mapr (.own mp)] false),(.own mp,.map (C9 mb))]) [.row [iv s,iv u,iv r,iv e,.mapr (.own mp)] false,.map (C9 mb)]=some (MX s u r e):=by
   simp only [Bd,Blk.ren,IV.ren.renL,IV.ren,p1,p2,AwS,Option.bind_some,AwV,AwU,List.zip_cons_cons,List.zip_nil_left]
  have h5:Bd (Cw [(.own mb,.row [iv s,iv u,iv r,iv e,.mapr (.own mp)] false),(.own mp,.map (C9 mb))]) (MX s' u' r' e')=some [.row [iv s',iv u',iv r',iv e',.mapr (.own mp)] false,.map (C9 mb)]:=by
   simp only [Bd,Blk.ren,IV.ren.renL,IV.ren,Cw,List.getElem?_cons_zero,List.getElem?_cons_succ,AwS,Option.bind_some,AwV,AwU,List.zip_cons_cons,List.zip_nil_left]
  unfold GU;simp only [h1,Rd.runLog,h2,h3,AwV,AwU,h4,E8 (CB 3),E8 C8,Mo,Bool.false_eq_true,if_false,e1,hu,AwS,IV.ren,h5,AwT,List.length_nil,Bw,List.all_nil,and_self,if_true,List.nil_append,List.zip_cons_cons,List.zip_nil_left];have hl3:Ap mp (AN mb (.row [iv s',iv u',iv r',iv e',.mapr (.own mp)] false) own)=some (.map (C9 mb)):=by
   rw [← hl2];clear hl1 hl2 h2 e1 hu hfz
   induction own with
   | nil=>simp only [AN,Ap,if_neg (fun h=>hne (Eq.symm h))]
   | cons p l ih =>
    obtain ⟨j,c⟩:=p;simp only [AN];split
    ·rename_i h;subst h;simp only [Ap,if_neg (fun h=>hne (Eq.symm h))]
    ·simp only [Ap,ih]
  have h6:laid ⟨own,[]⟩ [(.own mb,.row [iv s',iv u',iv r',iv e',.mapr (.own mp)] false),(.own mp,.map (C9 mb))]=some ⟨AN mp (.map (C9 mb)) (AN mb (.row [iv s',iv u',iv r',iv e',.mapr (.own mp)] false) own),[]⟩:=by
   simp only [laid,Hp.get,hl1,Hp.set,hl3]
  simp only [h6,ON,CB]
 rw [PY,Ajb,XF,Vo 0 args _ _ _ _ ks hks hz];simp only [VR,Aes,cond_false];exact hD
def Hs (op:Int):Int:=if op=8∨op=9∨op=12∨op=19∨op=30 then 1 else if op=4∨op=5 then 2 else if op=7 then 3 else if op=13 then 4 else -1
theorem Akx {n:Nat} (hn:0<n) (op:Int):Bc (SS dt n 71 [iv op] ⟨[],[]⟩) (.int .i64 (Hs op)):=by
 obtain ⟨n,rfl⟩:∃k,n=k+1:=⟨n - 1,by omega⟩;rw [c71];unfold Hs;by_cases h:op=8∨op=9∨op=12∨op=19∨op=30
 ·rw [if_pos h];rcases h with rfl | rfl | rfl | rfl | rfl<;>(simp only [↓AfU,↓XX,XY,↓reduceIte,Nat.reduceBEq,Nat.reduceAdd,Int.reduceEq,Int.reduceLT,Int.reduceLE];exact Ao _ _)
 ·rw [if_neg h];have h8:¬ op=8:=fun e=>h (by simp [e]);have h9:¬ op=9:=fun e=>h (by simp [e]);have h12:¬ op=12:=fun e=>h (by simp [e]);have h19:¬ op=19:=fun e=>h (by simp [e]);have h30:¬ op=30:=fun e=>h (by simp [e]);by_cases h2:op=4∨op=5
  ·rw [if_pos h2];rcases h2 with rfl | rfl<;>(simp only [↓AfU,↓XX,XY,↓reduceIte,Nat.reduceBEq,Nat.reduceAdd,Int.reduceEq,Int.reduceLT,Int.reduceLE];exact Ao _ _)
  ·rw [if_neg h2];have h4:¬ op=4:=fun e=>h2 (by simp [e]);have h5:¬ op=5:=fun e=>h2 (by simp [e]);by_cases h7:op=7
   ·subst h7;simp only [↓AfU,↓XX,XY,↓reduceIte,Nat.reduceBEq,Nat.reduceAdd,Int.reduceEq,Int.reduceLT,Int.reduceLE];exact Ao _ _
   ·by_cases h13:op=13
    ·subst h13;simp only [↓AfU,↓XX,XY,↓reduceIte,Nat.reduceBEq,Nat.reduceAdd,Int.reduceEq,Int.reduceLT,Int.reduceLE];exact Ao _ _
    ·simp only [↓AfU,↓XX,XY,↓reduceIte,Nat.reduceBEq,Nat.reduceAdd,Int.reduceEq,Int.reduceLT,Int.reduceLE,h4,h5,h7,h8,h9,h12,h13,h19,h30];exact Ao _ _
mutual
def Tm.shaped:Tm→Bool
 | .mk op n ks=>!(decide (0≤Hs op∧Hs op≠ks.length) || decide (op=1∧n<0)) && Tm.shapedL ks
def Tm.shapedL:List Tm→Bool
 | []=>true
 | t::l=>t.shaped && Tm.shapedL l
end
set_option maxHeartbeats 1000000 in
theorem Qv:∀(n:Nat) (t:Tm),t.wt+1<n→t.wt≤1152921504606846976→Bc (SS dt n 63 [.fv t.enc] ⟨[],[]⟩) (.bool t.shaped):=by
 intro n
 induction n with
 | zero=>intro t h;omega
 | succ n ih =>
  intro t h hw;obtain ⟨op,m,ks⟩:=t;simp only [Tm.wt] at h hw;rw [c63,Ai];have hlen:=Db ks;have hk:=Akx (n:=n) (by omega) op;rw [Tm.shaped];have wl:∀j:Nat,j≤ks.length→BI (j:Int)=j:=fun j hj=>As (by omega) (by omega);have loop:Bc (BE n (fun q99 l100 h101=>LX l100 h101 (SS dt n) ⟨[],[]⟩ q99) [.fv (.sl (ks.map Tm.enc)),iv ks.length,iv 0] ⟨[(66060288,.row [iv op,iv m,.fv (.sl (ks.map Tm.enc))] false)],[]⟩) (.bool (Tm.shapedL ks)):=by
   refine A6 (Q:=fun r=>Bc r _) (fun k V H=>∃pre rest,ks=pre++rest∧rest.length=k∧V=[.fv (.sl (ks.map Tm.enc)),iv ks.length,iv pre.length]∧H=⟨[(66060288,.row [iv op,iv m,.fv (.sl (ks.map Tm.enc))] false)],[]⟩∧Tm.shapedL rest=Tm.shapedL ks)
    ?_ n ks.length _ _ (by omega) ⟨[],ks,rfl,rfl,rfl,rfl,rfl⟩
   rintro k V H rec ⟨pre,rest,hk,hl,rfl,rfl,ht⟩ hrec;have hkl:ks.length=pre.length+rest.length:=by rw [hk];simp
   cases rest with
   | nil =>
    have hno:¬ ((pre.length:Int)<ks.length):=by rw [hkl];simp
    rw [← ht];simp only [KX,KL,Ku,LX,L4,Kw,L2,Kk,S63,↓XX,XY,↓reduceIte,Nat.reduceBEq,Nat.reduceAdd,Int.reduceEq,Int.reduceLT,Int.reduceLE,hno,Tm.shapedL];exact Ao _ _
   | cons t rest =>
    have hi:(pre.length:Int)<ks.length:=by rw [hkl];simp;omega
    have hg:=Ce hk;have htw:=BN (t:=t) (l:=ks) (by rw [hk];simp);have hs:=ih t (by omega) (by omega);have hwi:BI ((pre.length:Int)+1)=((pre++[t]).length:Int):=(As (by omega) (by omega)).trans (by simp);simp only [Tm.shapedL] at ht;generalize t.shaped=v at hs ht;obtain ⟨o,p,l⟩:=t;simp only [AwT] at hl;rw [Ai] at hs;cases v
    ·rw [← ht];simp only [KX,KL,Ku,LX,L4,Kw,L2,Kk,S63,↓XX,XY,↓reduceIte,Nat.reduceBEq,Nat.reduceAdd,Int.reduceEq,Int.reduceLT,Int.reduceLE,hi,↓Bq (AO hg) (A9 _ _ _),↓Cb,hwi,↓Av hs,Bool.false_and];exact Ao _ _
    ·simp only [KX,KL,Ku,LX,L4,Kw,L2,Kk,S63,↓XX,XY,↓reduceIte,Nat.reduceBEq,Nat.reduceAdd,Int.reduceEq,Int.reduceLT,Int.reduceLE,hi,↓Bq (AO hg) (A9 _ _ _),↓Cb,hwi,↓Av hs,↓AD,XD,heldB,AL,XE];refine hrec rest.length _ _ (by omega) ?_;exact ⟨pre++[.mk o p l],rest,by rw [hk];simp,rfl,rfl,rfl,by simpa using ht⟩
  by_cases h0:0≤Hs op
  ·by_cases h1:Hs op=ks.length
   ·by_cases h2:op=1
    ·exfalso;subst h2;revert h0;decide
    ·have e1:(!(decide (0≤Hs op∧Hs op≠ks.length) || decide (op=1∧m<0)) && Tm.shapedL ks)=Tm.shapedL ks:=by simp [h1,h2]
     rw [e1];have h0':(0:Int)≤ks.length:=by omega
     rw [h1] at hk;simp only [↓Ag5,↓XX,XY,↓reduceIte,Nat.reduceBEq,Nat.reduceAdd,Int.reduceEq,Int.reduceLT,Int.reduceLE,↓Av hk,h0',h2,↓AD,XD,heldB,AL,XE];exact loop
   ·have e1:(!(decide (0≤Hs op∧Hs op≠ks.length) || decide (op=1∧m<0)) && Tm.shapedL ks)=false:=by simp [h0,h1]
    rw [e1];simp only [↓Ag5,↓XX,XY,↓reduceIte,Nat.reduceBEq,Nat.reduceAdd,Int.reduceEq,Int.reduceLT,Int.reduceLE,↓Av hk,h0,h1];exact Ao _ _
  ·by_cases h2:op=1
   ·subst h2;by_cases h3:m<0
    ·have e1:(!(decide (0≤Hs 1∧Hs 1≠ks.length) || decide ((1:Int)=1∧m<0)) && Tm.shapedL ks)=false:=by simp [h3]
     rw [e1];simp only [↓Ag5,↓XX,XY,↓reduceIte,Nat.reduceBEq,Nat.reduceAdd,Int.reduceEq,Int.reduceLT,Int.reduceLE,↓Av hk,h0,h3];exact Ao _ _
    ·have e1:(!(decide (0≤Hs 1∧Hs 1≠ks.length) || decide ((1:Int)=1∧m<0)) && Tm.shapedL ks)=Tm.shapedL ks:=by simp [h0,h3]
     rw [e1];simp only [↓Ag5,↓XX,XY,↓reduceIte,Nat.reduceBEq,Nat.reduceAdd,Int.reduceEq,Int.reduceLT,Int.reduceLE,↓Av hk,h0,h3,↓AD,XD,heldB,AL,XE];exact loop
   ·have e1:(!(decide (0≤Hs op∧Hs op≠ks.length) || decide (op=1∧m<0)) && Tm.shapedL ks)=Tm.shapedL ks:=by simp [h0,h2]
    rw [e1];simp only [↓Ag5,↓XX,XY,↓reduceIte,Nat.reduceBEq,Nat.reduceAdd,Int.reduceEq,Int.reduceLT,Int.reduceLE,↓Av hk,h0,h2,↓AD,XD,heldB,AL,XE];exact loop
theorem AkI {op:Int} {r:Nat} (h:ar op=some r):¬ (0≤Hs op∧Hs op≠(r:Int)):=by
 unfold Hs;by_cases h1:op=8∨op=9∨op=12∨op=19∨op=30
 ·rw [if_pos h1];rcases h1 with rfl | rfl | rfl | rfl | rfl<;>(cases (show r=1 from by have:=h;revert this;simp [ar];omega);decide)
 ·rw [if_neg h1];by_cases h2:op=4∨op=5
  ·rw [if_pos h2];rcases h2 with rfl | rfl<;>(cases (show r=2 from by have:=h;revert this;simp [ar];omega);decide)
  ·rw [if_neg h2];by_cases h7:op=7
   ·subst h7;cases (show r=3 from by have:=h;revert this;simp [ar];omega);decide
   ·rw [if_neg h7];by_cases h13:op=13
    ·subst h13;cases (show r=4 from by have:=h;revert this;simp [ar];omega);decide
    ·rw [if_neg h13];omega
mutual
theorem G3:∀(t:Tm) (k:Nat),t.sc k→t.shaped=true
 | .mk op n ks,k,h=>by
  rw [Tm.sc] at h;rw [Tm.shaped,scL_shaped op 0 ks k h.2.2];have h1:=AkI h.1;have h2:¬ (op=1∧n<0):=by
   rintro ⟨rfl,h3⟩
   have:=h.2.1
   rw [if_pos rfl] at this;omega
  rw [decide_eq_false h1,decide_eq_false h2];rfl
theorem scL_shaped:∀(op:Int) (i:Nat) (l:List Tm) (k:Nat),Tm.scL op i l k→Tm.shapedL l=true
 | _,_,[],_,_=>by rw [Tm.shapedL]
 | op,i,t::l,k,h=>by
  rw [Tm.scL] at h;rw [Tm.shapedL,G3 t _ h.1,scL_shaped op (i+1) l k h.2];rfl
end
def Ns (f:Nat) (t:Tm):Option (Tm×Int) :=
 if t.shaped=false then some (.z,1) else match Qc f [] t ⟨100000,5000000,0⟩ with
 | none=>none
 | some (v,m)=>if m.e≠0 then some (.z,m.e) else match Vb f v 0 1 m 0 with
  | none=>none
  | some (u,m,_)=>if m.e≠0 then some (.z,m.e) else some (u,0)
theorem Aik {ih:Aa} {f:FuncId} {args:List IV} {h h':Hp} {v:IV} (hr:ih f args h=some (v,h')) (k:IV→Hp→List Ref→List Ref→Option (IV×Hp)):Ai6 ih f args h k=k v h' [] []:=by
 unfold Ai6;rw [hr]
abbrev Hnm (a b:Blk) (s u r e:Int):Hp :=
 ⟨[(57671680,a),(57671681,b),(67109889,.row [iv s,iv u,iv r,iv e,.mapr (.own 67110913)] false),(67110913,.map (C9 67109889))],[]⟩
abbrev Hbg (a b:Blk) (es:List (Int×IV)):Hp :=
 ⟨[(57671680,a),(57671681,b),(67109889,.row [iv 100000,iv 5000000,iv 0,iv 0,.dead] false),(67110913,.map es)],[]⟩
abbrev fnO (g:FuncId):IV:=.func (.func g) [.ptr (.own 67109889) 0] []
theorem QO (a b:Blk) (es:List (Int×IV)) (g:FuncId) (n:Int) (s:Nat) (k:IV→Hp→List Ref→List Ref→Option (IV×Hp)) :
  Ay (Ca EE 100 (.mapr (.own 67110913)) (iv n) (Fp 67109889 g)) s (Hbg a b es) k=k .dead (Hbg a b (Cv n (Fp 67109889 g) es)) [.own 67110913] [.own 67110913]:=by
 rw [Asa _ 0 _ rfl,Bk];rw [show Ap 67110913 (Hbg a b es).own=some (.map es) from rfl,Option.bind_some,Ahb,Bu]
 rfl
theorem QF (g:FuncId) (k:IV→Option (IV×Hp)):BA [.fv .nilf] [(0,1,fnO g)] k=k (Fp 67109889 g):=rfl
theorem Ah7 (a b:Blk) (es:List (Int×IV)):Rj (.ptr (.own 67109889) 0) (Hbg a b es) (.mapr (.own 67110913))=some (.ptr (.own 67109889) 0,⟨[(57671680,a),(57671681,b),(67109889,.row [iv 100000,iv 5000000,iv 0,iv 0,.mapr (.own 67110913)] false),(67110913,.map es)],[]⟩):=by
 simp only [Rj,↓XX,XY,↓reduceIte,Nat.reduceBEq,Nat.reduceAdd,Int.reduceEq,Int.reduceLT,Int.reduceLE,↓AkD,↓of4]
theorem Mk (g:FuncId) (s:Nat) (h:Hp) (k:IV→Hp→List Ref→List Ref→Option (IV×Hp)):Ay (Idl.val (CS (.func g) [.ptr (.own 67109889) 0] [])) s h k=k (fnO g) h [] []:=gen_val' _ _ _ _
theorem AgE (a b:Blk) (es:List (Int×IV)):Uc (fnO 75) (Hbg a b es) (.mapr (.own 67110913)) (.ptr (.own 67109889) 0) =
  Rj (.ptr (.own 67109889) 0) (Hbg a b (Cv 19 (Fp 67109889 76) (Cv 30 (Fp 67109889 75) es))) (.mapr (.own 67110913)):=by
 unfold Uc;rw [QF,QO,Mk,QF,QO]
theorem AhV (a b:Blk) (es:List (Int×IV)):Sd (Hbg a b es) (.mapr (.own 67110913)) (Fp 67109889 73) (.ptr (.own 67109889) 0) =
  Uc (fnO 75) (Hbg a b (Cv 13 (Fp 67109889 74) (Cv 9 (Fp 67109889 73) es))) (.mapr (.own 67110913)) (.ptr (.own 67109889) 0):=by
 unfold Sd;rw [QO,Mk,QF,QO,Mk]
theorem AgM (a b:Blk) (es:List (Int×IV)):Yh (Hbg a b es) (.ptr (.own 67109889) 0) (.mapr (.own 67110913)) =
  Sd (Hbg a b (Cv 8 (Fp 67109889 73) es)) (.mapr (.own 67110913)) (Fp 67109889 73) (.ptr (.own 67109889) 0):=by
 unfold Yh;rw [Mk,QF,QO,Mk,QF]
theorem AsM (k:IV→Option (IV×Hp)):BA [.fv (.int .i64 0),.fv (.int .i64 0),.fv (.int .i64 0),.fv (.int .i64 0),.dead] [(0,1,.fv (.int .i64 100000)),(1,1,.fv (.int .i64 5000000))] k=k (.agg [iv 100000,iv 5000000,iv 0,iv 0,.dead]):=by
 simp only [↓XX,XY,↓reduceIte,Nat.reduceBEq,Nat.reduceAdd,Int.reduceEq,Int.reduceLT,Int.reduceLE,↓AfM]
theorem UX {n:Nat} (hn:0<n) (a b:Blk):SS dt n 64 [] ⟨[(57671680,a),(57671681,b)],[]⟩=some (.ptr (.own 67109889) 0,Hnm a b 100000 5000000 0 0):=by
 obtain ⟨n,rfl⟩:∃k,n=k+1:=⟨n - 1,by omega⟩;rw [c64];unfold S64;rw [AsM,V1];have e1:∀k:IV→Hp→List Ref→List Ref→Option (IV×Hp),AH 67109889 (.row [iv 100000,iv 5000000,iv 0,iv 0,.dead] false) (.ptr (.own 67109889) 0) ⟨[(57671680,a),(57671681,b)],[]⟩ k =
   k (.ptr (.own 67109889) 0) ⟨[(57671680,a),(57671681,b),(67109889,.row [iv 100000,iv 5000000,iv 0,iv 0,.dead] false)],[]⟩ [] [.own 67109889]:=by
  intro k;simp only [↓XX,XY,↓reduceIte,Nat.reduceBEq,Nat.reduceAdd,Int.reduceEq,Int.reduceLT,Int.reduceLE]
 rw [e1];have e2:∀k:IV→Hp→List Ref→List Ref→Option (IV×Hp),Ay (GX 67110913) 67110913 ⟨[(57671680,a),(57671681,b),(67109889,.row [iv 100000,iv 5000000,iv 0,iv 0,.dead] false)],[]⟩ k =
   k (.mapr (.own 67110913)) (Hbg a b []) [] [.own 67110913]:=by
  intro k;rw [AtI];simp only [↓XX,XY,↓reduceIte,Nat.reduceBEq,Nat.reduceAdd,Int.reduceEq,Int.reduceLT,Int.reduceLE]
 rw [e2,Mk,QF,QO,AgM,AhV,AgE,Ah7];rfl
section
variable {ih:Aa} {f:FuncId} {w:FV} {a b:Blk} {s u r e s' u' r' e':Int} (k:IV→Hp→List Ref→List Ref→Option (IV×Hp))
theorem Amk (args:List IV) (ks:List Bool) (hks:∀b∈ks,b=false) {vs:List FV} (hz:Bz args=some vs) (hr:Bx (ih f (.ptr (.ext 0) 0::vs.map .fv) ⟨[],MX s u r e⟩) w (MX s' u' r' e')) :
  Al (true::ks) false false ih f (.ptr (.own 67109889) 0::args) (Hnm a b s u r e) k=k (.fv w) (Hnm a b s' u' r' e') [.own 67110913,.own 67109889] [.own 67109889,.own 67110913]:=by
 rw [AoJ hks hz (mp:=67110913) (by decide) (by rfl) (by rfl) hr];rfl
theorem X6 {x y:IV} {vx vy:FV} (hr:Bx (ih f [.ptr (.ext 0) 0,.fv vx,.fv vy] ⟨[],MX s u r e⟩) w (MX s' u' r' e')) (hx:A8 x=some vx) (hy:A8 y=some vy) :
  Al [true,false,false] false false ih f [.ptr (.own 67109889) 0,x,y] (Hnm a b s u r e) k=k (.fv w) (Hnm a b s' u' r' e') [.own 67110913,.own 67109889] [.own 67109889,.own 67110913] :=
 Amk k [x,y] [false,false] (by simp) (XJ hx hy) hr
theorem Agh {x y z:IV} {vx vy vz:FV} (hr:Bx (ih f [.ptr (.ext 0) 0,.fv vx,.fv vy,.fv vz] ⟨[],MX s u r e⟩) w (MX s' u' r' e')) (hx:A8 x=some vx) (hy:A8 y=some vy) (hz:A8 z=some vz) :
  Al [true,false,false,false] false false ih f [.ptr (.own 67109889) 0,x,y,z] (Hnm a b s u r e) k=k (.fv w) (Hnm a b s' u' r' e') [.own 67110913,.own 67109889] [.own 67109889,.own 67110913] :=
 Amk k [x,y,z] [false,false,false] (by simp) (Afe hx hy hz) hr
end
set_option maxRecDepth 20000 in
set_option maxHeartbeats 1000000 in
theorem Pb {f n:Nat} {t u:Tm} {e:Int} (h:Ns f t=some (u,e)) (hn:f+3≤n) (hw:t.wt+3<n) (hw2:t.wt≤1152921504606846976):Bc (SS dt n 55 [.fv t.enc] ⟨[],[]⟩) (.tuple [u.enc,.int .i64 e]):=by
 obtain ⟨n,rfl⟩:∃k,n=k+1:=⟨n - 1,by omega⟩;rw [c55];have hs:=Qv n t (by omega) hw2;unfold Ns at h;obtain ⟨op,m,ks⟩:=t;rw [Ai] at hs ⊢;by_cases h0:(Tm.mk op m ks).shaped=false
 ·rw [if_pos h0] at h;simp only [AwP,AwQ] at h;obtain ⟨rfl,rfl⟩:=h;rw [h0] at hs;simp only [P3,PK,PA,PD,PX,OI,Oq,OG,Pu,OY,S55,↓XX,XY,↓reduceIte,Nat.reduceBEq,Nat.reduceAdd,Int.reduceEq,Int.reduceLT,Int.reduceLE,↓Av hs];exact AX rfl (by simp) _
 ·rw [if_neg h0] at h;have h0:(Tm.mk op m ks).shaped=true:=by simpa using h0
  rw [h0] at hs;cases hev:Qc f [] (.mk op m ks) ⟨100000,5000000,0⟩ with
  | none=>rw [hev] at h;cases h
  | some q =>
   obtain ⟨v,m1⟩:=q;rw [hev] at h;simp only at h;have hc1:=(Np f).1 _ _ _ _ _ hev 0 n (by omega);rw [Ai,Wq] at hc1;by_cases h1:m1.e=0
   ·rw [if_neg (by simpa using h1)] at h;simp only [h1] at hc1;cases hbk:Vb f v 0 1 m1 0 with
    | none=>rw [hbk] at h;cases h
    | some q =>
     obtain ⟨u1,m2,r2⟩:=q;rw [hbk] at h;simp only at h;have hc2:=Amx f _ _ _ _ _ _ _ _ hbk n (by omega);obtain ⟨o1,n1,k1⟩:=u1;rw [Ai] at hc2;simp only [h1] at hc2;by_cases h2:m2.e=0
     ·rw [if_neg (by simpa using h2)] at h;simp only [AwP,AwQ] at h;obtain ⟨rfl,rfl⟩:=h;rw [Ai];simp only [P3,PK,PA,PD,PX,OI,Oq,OG,Pu,OY,S55,↓XX,XY,↓reduceIte,Nat.reduceBEq,Nat.reduceAdd,Int.reduceEq,Int.reduceLT,Int.reduceLE,↓Av hs,↓Aik (UX (n:=n) (by omega) _ _),↓X6 _ hc1,↓Agh _ hc2,h1,h2];exact Ao _ _
     ·rw [if_pos h2] at h;simp only [AwP,AwQ] at h;obtain ⟨rfl,rfl⟩:=h;simp only [P3,PK,PA,PD,PX,OI,Oq,OG,Pu,OY,S55,↓XX,XY,↓reduceIte,Nat.reduceBEq,Nat.reduceAdd,Int.reduceEq,Int.reduceLT,Int.reduceLE,↓Av hs,↓Aik (UX (n:=n) (by omega) _ _),↓X6 _ hc1,↓Agh _ hc2,h1,h2];exact AX rfl (by simp) _
   ·rw [if_pos h1] at h;simp only [AwP,AwQ] at h;obtain ⟨rfl,rfl⟩:=h;simp only [P3,PK,PA,PD,PX,OI,Oq,OG,Pu,OY,S55,↓XX,XY,↓reduceIte,Nat.reduceBEq,Nat.reduceAdd,Int.reduceEq,Int.reduceLT,Int.reduceLE,↓Av hs,↓Aik (UX (n:=n) (by omega) _ _),↓X6 _ hc1,h1];exact AX rfl (by simp) _
end Idl
end Go.Proofs.Ytaifgaidaglblaa
namespace Go.Proofs.Ytaifgaidaglblaa
namespace Idl
mutual
def Tm.surf:Tm→Nat
 | .mk op _ ks=>1+Tm.surfL op 0 ks
def Tm.surfL:Int→Nat→List Tm→Nat
 | _,_,[]=>0
 | op,i,t::l=>(if 0<Ae op i then 0 else t.surf)+Tm.surfL op (i+1) l
end
mutual
def Tm.inn:Tm→Nat
 | .mk op _ ks=>Tm.innL op 0 ks
def Tm.innL:Int→Nat→List Tm→Nat
 | _,_,[]=>0
 | op,i,t::l=>(if 0<Ae op i then t.wt else t.inn)+Tm.innL op (i+1) l
end
mutual
theorem Pq:∀t:Tm,t.surf+t.inn=t.wt
 | .mk op n ks=>by
  have:=surfL_innL op 0 ks
  simp only [Tm.surf,Tm.inn,Tm.wt];omega
theorem surfL_innL:∀(op:Int) (i:Nat) (l:List Tm),Tm.surfL op i l+Tm.innL op i l=Tm.wtL l
 | _,_,[]=>rfl
 | op,i,t::l=>by
  have h1:=Pq t;have h2:=surfL_innL op (i+1) l;simp only [Tm.surfL,Tm.innL,Tm.wtL];split<;>omega
end
mutual
def RV.vsz:RV→Nat
 | .mk op _ k _ _=>1+RV.vszL op 0 k
def RV.vszL:Int→Nat→List RV→Nat
 | _,_,[]=>0
 | op,i,v::l=>(if 0<Ae op i then 0 else v.vsz)+RV.vszL op (i+1) l
end
theorem ND (v:RV):1≤v.vsz:=by obtain ⟨op,n,k,env,b⟩:=v;rw [RV.vsz];omega
inductive Rel (B:Nat):PV→RV→Prop
 | var (n:Int):Rel B (.var n) (.var n)
 | node (op n n':Int) (kp:List PV) (kr:List RV) (ts:List Tm) (e:List PV) (env:List RV) (h1:op≠1) (har:ar op=some ts.length) (hl:kp.length=ts.length) (hl2:kr.length=ts.length)
   (hk:∀i p r,Ae op i=0→kp[i]?=some p→kr[i]?=some r→Rel B p r)
   (hb:∀i b,0<Ae op i→ts[i]?=some b→(b.good∧b.wt≤B)∧kp[i]?=some .nil∧kr[i]?=some (.clo env b))
   (hel:e.length=env.length) (he:∀(i:Nat) p r,e[i]?=some p→env.reverse[i]?=some r→Rel B p r):Rel B (.mk op n kp (.mk op n' ts) e) (.node op n kr)
def Em (B:Nat) (e:List PV) (env:List RV):Prop:=e.length=env.length∧∀(i:Nat) p r,e[i]?=some p→env.reverse[i]?=some r→Rel B p r
theorem J4 {B:Nat} {p:PV} {r:RV} (h:Rel B p r):∃op n k t e,p=.mk op n k t e∧r.op=op∧r.n=n:=by
 cases h with
 | var n=>exact ⟨_,_,_,_,_,rfl,rfl,rfl⟩
 | node=>exact ⟨_,_,_,_,_,rfl,rfl,rfl⟩
theorem Et (B:Nat):Em B [] []:=⟨rfl,fun i p r h=>by simp at h⟩
theorem PI {B:Nat} {e l:List PV} {env l':List RV} (h:Em B e env) (hl:l.length=l'.length) (hr:∀(i:Nat) p r,l[i]?=some p→l'[i]?=some r→Rel B p r):Em B (l.reverse++e) (env++l'):=by
 refine ⟨by simp [h.1,hl,Nat.add_comm],?_⟩;intro i p r hp hr';rw [List.reverse_append] at hr';by_cases hi:i<l.length
 ·rw [List.getElem?_append_left (by simpa using hi),List.getElem?_reverse hi] at hp;rw [List.getElem?_append_left (by simp;omega),List.getElem?_reverse (by omega)] at hr';exact hr _ _ _ hp (by rw [hl];exact hr')
 ·rw [List.getElem?_append_right (by simp;omega),List.length_reverse] at hp;rw [List.getElem?_append_right (by simp;omega),List.length_reverse,← hl] at hr';exact h.2 _ _ _ hp hr'
theorem Ak4 {B:Nat} {e:List PV} {env:List RV} (h:Em B e env) {m:Int} (h0:0≤m) (hm:m<env.length) {r:RV} (hr:env[(env.length - 1 - m).toNat]?=some r):Rel B (GG e m) r:=by
 rw [GG,if_pos (by rw [h.1];exact hm)];have hi:m.toNat<e.length:=by rw [h.1];omega
 rw [List.getD_eq_getElem?_getD,List.getElem?_eq_getElem hi];refine h.2 m.toNat _ _ (List.getElem?_eq_getElem hi) ?_;rw [List.getElem?_reverse (by omega),show env.length - 1 - m.toNat=(env.length - 1 - m).toNat by omega]
 exact hr
def sl (t:Tm) (v:RV):Nat:=if t.op=19∧v.op=19 then 1 else if t.op=30∧v.op=30 then 0 else if t.badR=true then 2 else 3
theorem Yv (t:Tm) (v:RV):sl t v≤3:=by unfold sl;split;omega;split;omega;split<;>omega
structure Cost (t:Tm) (v:RV) (k c u:Nat):Prop where
 le:c≤t.surf+k * t.inn
 p:5 * u≤3 * c+10 * k
 q:5 * u+sl t v≤3 * c+10 * k
 v:k=0→t.surf≤v.vsz
structure MOk (m:M3) (k T:Nat):Prop where
 e:m.e=0
 w:(T:Int)≤m.w
 w2:m.w≤5000000
 s:(k:Int)≤m.s
 s2:m.s≤100000
def Fe (m:M3) (k T:Nat):M3:=⟨m.s - k,m.w - T,0⟩
theorem EG (m:M3) (k1 T1 k2 T2:Nat):Fe (Fe m k1 T1) k2 T2=Fe m (k1+k2) (T1+T2):=by
 simp only [Fe,M3.mk.injEq,and_true];omega
theorem G9 {m:M3} {k1 T1 k2 T2:Nat} (h:MOk m (k1+k2) (T1+T2)):MOk m k1 T1:=⟨h.e,by have:=h.w;omega,h.w2,by have:=h.s;omega,h.s2⟩
theorem Dq {m:M3} {k1 T1 k2 T2:Nat} (h:MOk m (k1+k2) (T1+T2)):MOk (Fe m k1 T1) k2 T2:=⟨rfl,by have:=h.w;simp only [Fe];omega,by have:=h.w2;simp only [Fe];omega,by have:=h.s;simp only [Fe];omega,by have:=h.s2;simp only [Fe];omega⟩
theorem Ms {m:M3} {k T:Nat} (h:MOk m k (1+T)):HK m=some (Fe m 0 1):=by
 have h1:=h.w;have h2:=h.w2;have h3:=h.e;rw [HK,if_neg (by omega),if_neg (by omega),h3];simp only [Fe,AwP,M3.mk.injEq,and_true];omega
def Wv (B:Nat) (e:List PV) (t:Tm) (v:RV) (k T:Nat):Prop:=∃v',Rel B v' v∧∃F,∀f,F≤f→∀m,MOk m k T→Qc f e t m=some (v',Fe m k T)
def Zn (B f:Nat):Prop:=∀(s:Int) (t:Tm) (env:List RV) (v:RV) (s':Int),Au f s 0 t env=some (v,s',0)→t.good→t.wt≤B→∀e,Em B e env→∃k c u T:Nat,s'=s+k∧Cost t v k c u∧T≤c+u+2 * k∧Wv B e t v k T
def Hq (op:Int):Nat→List Tm→List RV→Nat
 | _,[],_=>0
 | _,_::_,[]=>0
 | i,t::l,v::vs=>(if 0<Ae op i then 0 else sl t v)+Hq op (i+1) l vs
theorem AbO (k1 k2 a b:Nat):k1 * a+k2 * b≤(k1+k2) * (a+b):=by
 rw [Nat.add_mul,Nat.mul_add,Nat.mul_add];have h1:0≤k1 * b:=Nat.zero_le _;have h2:0≤k2 * a:=Nat.zero_le _;omega
theorem Ii {B f:Nat} (ih:Zn B f) (op:Int) (env:List RV) (e:List PV) (he:Em B e env):∀(l:List Tm) (i:Nat) (s:Int) (vs:List RV) (s':Int),AR (fun s e t=>Au f s e t env) op env i l s 0=some (vs,s',0)→Tm.goodL l→Tm.wtL l≤B →
  ∃k c u T:Nat,s'=s+k∧c≤Tm.surfL op i l+k * Tm.innL op i l∧5 * u+Hq op i l vs≤3 * c+10 * k∧(k=0→Tm.surfL op i l≤RV.vszL op i vs)∧T≤c+u+2 * k∧vs.length=l.length ∧
   ∃ps:List PV,ps.length=l.length∧(∀j t,l[j]?=some t→0<Ae op (i+j)→ps[j]?=some .nil∧vs[j]?=some (.clo env t))∧(∀j p r,Ae op (i+j)=0→ps[j]?=some p→vs[j]?=some r→Rel B p r) ∧
    (∀j t r,l[j]?=some t→Ae op (i+j)=0→vs[j]?=some r→∃s1 s2,Au f s1 0 t env=some (r,s2,0))∧∃F,∀g,F≤g→∀m,MOk m k T→Nv (fun t m=>Qc g e t m) op i l m=some (ps,Fe m k T)
 | [],i,s,vs,s',h,_,_=>by
  simp only [AR,AwP,AwQ] at h;obtain ⟨rfl,rfl,_⟩:=h;refine ⟨0,0,0,0,by omega,by omega,by rw [Hq];omega,fun _=>by rw [Tm.surfL,RV.vszL];omega,by omega,rfl,[],rfl,fun j t h=>by simp at h,fun j p r _ h=>by simp at h,fun j t r h=>by simp at h,0,fun g _ m hm=>?_⟩
  have:Fe m 0 0=m:=by
   obtain ⟨a,b,c⟩:=m
   have:=hm.e
   simp only at this;subst this;simp [Fe]
  rw [Nv,this]
 | t::l,i,s,vs,s',h,hg,hw=>by
  rw [Tm.goodL] at hg;rw [Tm.wtL] at hw;simp only [AR] at h;by_cases hb:0<Ae op i
  ·rw [if_pos hb] at h;cases hk:AR (fun s e t=>Au f s e t env) op env (i+1) l s 0 with
   | none=>rw [hk] at h;cases h
   | some q =>
    obtain ⟨vs1,s1,e1⟩:=q;rw [hk] at h;simp only [AwS,AwP,AwQ] at h;obtain ⟨rfl,rfl,rfl⟩:=h;obtain ⟨k,c,u,T,h1,h2,h3,h4,h5,h6,ps,h7,h8,h9,h10,F,h11⟩:=Ii ih op env e he l (i+1) s vs1 s1 hk hg.2 (by omega);refine ⟨k,c,u,T,h1,?_,?_,?_,h5,by simp [h6],.nil::ps,by simp [h7],?_,?_,?_,F,?_⟩
    ·rw [Tm.surfL,Tm.innL,if_pos hb,if_pos hb]
     have:=AbO 0 k t.wt (Tm.innL op (i+1) l)
     rw [Nat.zero_mul,Nat.zero_add,Nat.zero_add] at this;omega
    ·rw [Hq,if_pos hb];omega
    ·intro hk0;rw [Tm.surfL,RV.vszL,if_pos hb,if_pos hb]
     have:=h4 hk0
     omega
    ·intro j x hj hbj;cases j with
     | zero =>
      simp only [List.getElem?_cons_zero,AwP] at hj;subst hj;exact ⟨rfl,rfl⟩
     | succ j =>
      rw [List.getElem?_cons_succ] at hj;rw [List.getElem?_cons_succ,List.getElem?_cons_succ];exact h8 j x hj (by rwa [show i+1+j=i+(j+1) by omega])
    ·intro j p r hbj hp hr;cases j with
     | zero=>rw [Nat.add_zero] at hbj;omega
     | succ j =>
      rw [List.getElem?_cons_succ] at hp hr;exact h9 j p r (by rwa [show i+1+j=i+(j+1) by omega]) hp hr
    ·intro j x r hj hbj hr;cases j with
     | zero=>rw [Nat.add_zero] at hbj;omega
     | succ j =>
      rw [List.getElem?_cons_succ] at hj hr;exact h10 j x r hj (by rwa [show i+1+j=i+(j+1) by omega]) hr
    ·intro g hgF m hm;rw [Nv,if_pos hb,h11 g hgF m hm];rfl
  ·rw [if_neg hb] at h;split at h
   ·cases h
   ·rename_i v s1 e1 hev;cases hk:AR (fun s e t=>Au f s e t env) op env (i+1) l s1 e1 with
    | none=>rw [hk] at h;cases h
    | some q =>
     obtain ⟨vs1,s2,e2⟩:=q;rw [hk] at h;simp only [AwS,AwP,AwQ] at h;obtain ⟨rfl,rfl,rfl⟩:=h;have h0:=Fj _ (fun s e t v s' h=>B4 h) op env l _ _ _ _ _ hk;subst h0;obtain ⟨k1,c1,u1,T1,a1,a2,a3,p1,a4,F1,a5⟩:=ih s t env v s1 hev hg.1 (by omega) e he;obtain ⟨k,c,u,T,h1,h2,h3,h4,h5,h6,ps,h7,h8,h9,h10,F,h11⟩:=Ii ih op env e he l (i+1) s1 vs1 s2 hk hg.2 (by omega);have ac:=a2.le;have ap:=a2.p;have aq:=a2.q;refine ⟨k1+k,c1+c,u1+u,T1+T,by omega,?_,?_,?_,by omega,by simp [h6],p1::ps,by simp [h7],?_,?_,?_,F1+F,?_⟩
     ·rw [Tm.surfL,Tm.innL,if_neg hb,if_neg hb]
      have:=AbO k1 k t.inn (Tm.innL op (i+1) l)
      omega
     ·rw [Hq,if_neg hb];omega
     ·intro hk0;rw [Tm.surfL,RV.vszL,if_neg hb,if_neg hb]
      have:=h4 (by omega)
      have:=a2.v (by omega)
      omega
     ·intro j x hj hbj;cases j with
      | zero=>rw [Nat.add_zero] at hbj;exact absurd hbj hb
      | succ j =>
       rw [List.getElem?_cons_succ] at hj;rw [List.getElem?_cons_succ,List.getElem?_cons_succ];exact h8 j x hj (by rwa [show i+1+j=i+(j+1) by omega])
     ·intro j p r hbj hp hr;cases j with
      | zero =>
       simp only [List.getElem?_cons_zero,AwP] at hp hr;subst hp hr;exact a4
      | succ j =>
       rw [List.getElem?_cons_succ] at hp hr;exact h9 j p r (by rwa [show i+1+j=i+(j+1) by omega]) hp hr
     ·intro j x r hj hbj hr;cases j with
      | zero =>
       simp only [List.getElem?_cons_zero,AwP] at hj hr;subst hj hr;exact ⟨_,_,hev⟩
      | succ j =>
       rw [List.getElem?_cons_succ] at hj hr;exact h10 j x r hj (by rwa [show i+1+j=i+(j+1) by omega]) hr
     ·intro g hgF m hm;rw [Nv,if_neg hb,a5 g (by omega) m (G9 hm)];simp only;rw [h11 g (by omega) _ (Dq hm),EG];rfl
theorem GH {B:Nat} {p:PV} {r:RV} (h:Rel B p r) (h1:r.op≠1):∃n' kp ts e env,p=.mk r.op r.n kp (.mk r.op n' ts) e∧ar r.op=some ts.length∧kp.length=ts.length∧r.k.length=ts.length ∧
  (∀i p' r',Ae r.op i=0→kp[i]?=some p'→r.k[i]?=some r'→Rel B p' r') ∧
  (∀i b,0<Ae r.op i→ts[i]?=some b→(b.good∧b.wt≤B)∧kp[i]?=some .nil∧r.k[i]?=some (.clo env b))∧Em B e env:=by
 cases h with
 | var n=>exact absurd rfl h1
 | node op n n' kp kr ts e env h1 har hl hl2 hk hb hel he=>exact ⟨n',kp,ts,e,env,rfl,har,hl,hl2,hk,hb,hel,he⟩
theorem Pm {m:M3} (h:m.e=0):Fe m 0 0=m:=by
 obtain ⟨a,b,c⟩:=m;simp only at h;subst h;simp [Fe]
theorem Ajk {op:Int} {r:Nat} (h:ar op=some r):r≤4:=by
 unfold ar at h
 repeat' split at h
 all_goals first | (simp only [AwP] at h;omega) | cases h
theorem An1 (g:Nat) (n:Int) (o0 n0:Int) (k0:List PV) (t0:Tm) (e0:List PV) (x:PV) (t:Tm) (e:List PV) (m:M3):stP (g+1) (.mk 5 n [.mk o0 n0 k0 t0 e0,x] t e) m=if o0=4 then opP g (.mk o0 n0 k0 t0 e0) 1 [x] m else some (.nil,m):=by
 rw [stP.eq_def];simp only [if_true]
theorem Ams (g:Nat) (op n:Int) (h:op=8∨op=9) (n0:Int) (a x y:PV) (t0:Tm) (e0:List PV) (t:Tm) (e:List PV) (m:M3):stP (g+1) (.mk op n [.mk 7 n0 [a,x,y] t0 e0] t e) m=some (if op=8 then x else y,m):=by
 rw [stP.eq_def];simp only;rw [if_neg (by omega),if_pos h,if_true]
theorem Apt (g:Nat) (n:Int) (p0 z p2:PV) (n3:Int) (k3:List PV) (t3:Tm) (e3:List PV) (t:Tm) (e:List PV) (m:M3):stP (g+1) (.mk 13 n [p0,z,p2,.mk 11 n3 k3 t3 e3] t e) m=some (z,m):=by
 rw [stP.eq_def];simp only [Int.reduceEq,if_false,if_true,or_self]
theorem AmT {g:Nat} {n:Int} {p0 z p2:PV} {n3:Int} {x y:PV} {t3:Tm} {e3:List PV} {t:Tm} {e:List PV} {m m':M3} (hc:ctP g (.mk 13 n [.nil,z,.nil,x] t e) m=some (y,m')):stP (g+1) (.mk 13 n [p0,z,p2,.mk 12 n3 [x] t3 e3] t e) m=opP g (.mk 13 n [p0,z,p2,.mk 12 n3 [x] t3 e3] t e) 2 [x,y] m':=by
 rw [stP.eq_def];simp only [Int.reduceEq,if_false,if_true,or_self,hc]
theorem Aox (g:Nat) (n:Int) (p0 z p2:PV) (o3 n3:Int) (k3:List PV) (t3:Tm) (e3:List PV) (t:Tm) (e:List PV) (m:M3) (h11:o3≠11) (h12:o3≠12):stP (g+1) (.mk 13 n [p0,z,p2,.mk o3 n3 k3 t3 e3] t e) m=some (.nil,m):=by
 rw [stP.eq_def];simp only [Int.reduceEq,if_false,if_true,or_self,h11,h12]
theorem AqM (g:Nat) (n:Int) (n0:Int) (x:PV) (t0:Tm) (e0:List PV) (t:Tm) (e:List PV) (m:M3):stP (g+1) (.mk 30 n [.mk 19 n0 [x] t0 e0] t e) m=some (x,m):=by
 rw [stP.eq_def];simp only [Int.reduceEq,if_false,if_true,or_self]
theorem Aqa (g:Nat) (n:Int) (o0 n0:Int) (k0:List PV) (t0:Tm) (e0:List PV) (t:Tm) (e:List PV) (m:M3) (h:o0≠19):stP (g+1) (.mk 30 n [.mk o0 n0 k0 t0 e0] t e) m=some (.nil,m):=by
 rw [stP.eq_def];simp only [Int.reduceEq,if_false,if_true,or_self,h]
theorem Arf (g:Nat) (n:Int) (n0:Int) (x:PV) (t0:Tm) (e0:List PV) (t:Tm) (e:List PV) (m:M3):stP (g+1) (.mk 19 n [.mk 30 n0 [x] t0 e0] t e) m=some (x,m):=by
 rw [stP.eq_def];simp only [Int.reduceEq,if_false,if_true,or_self]
theorem Ap0 (g:Nat) (n:Int) (o0 n0:Int) (k0:List PV) (t0:Tm) (e0:List PV) (t:Tm) (e:List PV) (m:M3) (h:o0≠30):stP (g+1) (.mk 19 n [.mk o0 n0 k0 t0 e0] t e) m=some (.nil,m):=by
 rw [stP.eq_def];simp only [Int.reduceEq,if_false,if_true,or_self,h]
def H6 (op n:Int) (ps:List PV) (t:Tm) (e:List PV) (v':PV) (k T:Nat):Prop:=∃F,∀g,F≤g→∀m,MOk m k T→ctP g (.mk op n ps t e) m=some (v',Fe m k T)
theorem AgL {op n:Int} {ps:List PV} {t:Tm} {e:List PV} (h:Cu op=false):H6 op n ps t e (.mk op n ps t e) 0 0:=by
 refine ⟨1,fun g hg m hm=>?_⟩;obtain ⟨g,rfl⟩:∃k,g=k+1:=⟨g - 1,by omega⟩;rw [ctP,h,Pm hm.e];rfl
theorem Ib {op n:Int} {ps:List PV} {t:Tm} {e:List PV} (h:Cu op=true) (hs:∃F,∀g,F≤g→∀m,stP g (.mk op n ps t e) m=some (.nil,m)):H6 op n ps t e (.mk op n ps t e) 0 1:=by
 obtain ⟨F,hs⟩:=hs;refine ⟨F+2,fun g hg m hm=>?_⟩;obtain ⟨g,rfl⟩:∃k,g=k+1:=⟨g - 1,by omega⟩;rw [ctP,if_pos h,if_neg (fun h=>h hm.e),if_neg (by omega),Ms (k:=0) (T:=0) hm];simp only;rw [if_neg (by simp [Fe]),hs g (by omega)]
theorem Fh {op n:Int} {ps:List PV} {t:Tm} {e:List PV} {v':PV} {k T:Nat} (h:Cu op=true) (hv:v'≠.nil) (hs:∃F,∀g,F≤g→∀m,MOk m k T→stP g (.mk op n ps t e) m=some (v',Fe m k T)):H6 op n ps t e v' (k+1) (1+T):=by
 obtain ⟨F,hs⟩:=hs;refine ⟨F+2,fun g hg m hm=>?_⟩;obtain ⟨g,rfl⟩:∃k,g=k+1:=⟨g - 1,by omega⟩;have hm':MOk (Fe m 0 1) k T:=Dq (k1:=0) (k2:=k) ⟨hm.e,hm.w,hm.w2,by have:=hm.s;omega,hm.s2⟩;rw [ctP,if_pos h,if_neg (fun h=>h hm.e),if_neg (by omega),Ms hm];simp only;rw [if_neg (by simp [Fe]),hs g (by omega) _ hm',EG];have h1:=hm.s;have h2:=hm.s2;cases v' with
 | nil=>exact absurd rfl hv
 | mk o1 n1 k1 t1 e1 =>
  simp only;rw [if_neg (by simp [Fe]),if_neg (by simp only [Fe];omega),if_neg (by simp only [Fe];omega)];simp only [Fe,AwP,AwQ,true_and,M3.mk.injEq,and_true];omega
theorem OV {B:Nat} {op n n':Int} {ps:List PV} {ts:List Tm} {e:List PV} {i:Nat} {b:Tm} {l:List PV} {v:RV} {k T:Nat} (hb:ts[i]?=some b) (hl:l.length≤2) (h:Wv B (l.reverse++e) b v k T) :
  ∃v',Rel B v' v∧∃F,∀g,F≤g→∀m,MOk m k T→opP g (.mk op n ps (.mk op n' ts) e) i l m=some (v',Fe m k T):=by
 obtain ⟨v',hr,F,h⟩:=h;refine ⟨v',hr,F+10,fun g hg m hm=>?_⟩;obtain ⟨g,rfl⟩:∃k,g=k+1:=⟨g - 1,by omega⟩;rw [opP];rw [if_neg (by omega),hb];exact h g (by omega) m hm
theorem Ie {B:Nat} {p:PV} {r:RV} (h:Rel B p r):p≠.nil:=by
 obtain ⟨op,n,k,t,e,rfl,_⟩:=J4 h;exact fun h=>by cases h
theorem KZ {B f:Nat} (ih:Zn B f) {e l:List PV} {env l':List RV} (he:Em B e env) (hl:l.length=l'.length) (hr:∀(i:Nat) p r,l[i]?=some p→l'[i]?=some r→Rel B p r) {b:Tm} (hg:b.good) (hw:b.wt≤B) {s s':Int} {v:RV}
  (h:Au f s 0 b (env++l')=some (v,s',0)):∃k c u T:Nat,s'=s+k∧Cost b v k c u∧T≤c+u+2 * k∧Wv B (l.reverse++e) b v k T :=
 ih s b _ v s' h hg hw _ (PI he hl hr)
theorem Jx {b:Tm} {v:RV} {k c u:Nat} (h:Cost b v k c u):c≤(k+1) * b.wt:=by
 have h1:=h.le;have h2:=Pq b;have h3:k * b.inn≤k * b.wt:=Nat.mul_le_mul_left _ (by omega);rw [Nat.add_mul,Nat.one_mul];omega
theorem Ak8 {B:Nat}:∀f,(∀g,g<f→Zn B g)→∀(s:Int) (n n0:Int) (env:List RV) (b0 b2:Tm) (vz vn w:RV) (s':Int) (e:List PV) (pz pn:PV) (n':Int) (ts:List Tm),headR f s 0 (.node 13 n0 [.clo env b0,vz,.clo env b2,vn])=some (w,s',0) →
  Rel B pz vz→Rel B pn vn→Em B e env→ts[2]?=some b2→b2.good→b2.wt≤B→(∀pw:PV,Rel B (.mk 13 n [.nil,pz,.nil,pn] (.mk 13 n' ts) e) (.node 13 n0 [.clo env b0,vz,.clo env b2,vn])) →
  (∀(px:PV) (vx:RV),Rel B px vx→Rel B (.mk 13 n [.nil,pz,.nil,px] (.mk 13 n' ts) e) (.node 13 0 [.clo env b0,vz,.clo env b2,vx])) →
  ∃k c u T:Nat,s'=s+k∧c≤k * b2.wt∧5 * u≤3 * c+10 * k∧T≤c+u+2 * k+(if k=0 then 1 else 0)∧(k=0→c=0∧u=0∧w=.node 13 n0 [.clo env b0,vz,.clo env b2,vn]) ∧
   ∃w',Rel B w' w∧H6 13 n [.nil,pz,.nil,pn] (.mk 13 n' ts) e w' k T:=by
 intro f
 induction f with
 | zero=>intro _ s n n0 env b0 b2 vz vn w s' e pz pn n' ts h;rw [headR] at h;cases h
 | succ f ihf =>
  intro ih s n n0 env b0 b2 vz vn w s' e pz pn n' ts h hz hn he hb2 hg2 hw2 hself hless;obtain ⟨V,hV⟩:∃V,V=RV.node 13 n0 [.clo env b0,vz,.clo env b2,vn]:=⟨_,rfl⟩;have hop:V.op=13:=by rw [hV];rfl
  have hk0:V.k[0]?=some (.clo env b0):=by rw [hV];rfl
  have hk1:V.k[1]?=some vz:=by rw [hV];rfl
  have hk2:V.k[2]?=some (.clo env b2):=by rw [hV];rfl
  have hk3:V.k[3]?=some vn:=by rw [hV];rfl
  rw [← hV] at h hself ⊢;rw [headR] at h;rw [if_neg (by simp)] at h;split at h
  ·cases h
  simp only [hop,if_true] at h;rw [if_neg (by decide),if_neg (by decide),if_neg (by decide),if_neg (by decide),hk0,hk1,hk2,hk3] at h;simp only at h;obtain ⟨on,nn,kn,tn,en,hpn,hon,hnn⟩:=J4 hn;by_cases h11:vn.op=11
  ·rw [if_pos h11] at h;by_cases hs:s+1≤1000
   ·rw [if_pos hs] at h;simp only [AwP,AwQ] at h;obtain ⟨rfl,rfl,_⟩:=h;refine ⟨1,0,0,1,rfl,by omega,by omega,by simp,fun h=>by omega,pz,hz,Fh (k:=0) (T:=0) (by decide) (Ie hz) ⟨1,fun g hg m hm=>?_⟩⟩;obtain ⟨g,rfl⟩:∃k,g=k+1:=⟨g - 1,by omega⟩;rw [hpn,← hon,h11,Apt,Pm hm.e]
   ·rw [if_neg hs] at h;simp at h
  ·rw [if_neg h11] at h;by_cases h12:vn.op=12
   ·rw [if_pos h12] at h;by_cases hs:s+1≤1000
    ·rw [if_pos hs] at h;have hvn1:vn.op≠1:=by omega
     obtain ⟨nn',kp,ts',en',envn,hpn',har,hkl,hrl,hkk,_,_⟩:=GH hn hvn1;rw [h12,show ar 12=some 1 by decide,AwP] at har
     obtain ⟨vx,hvx⟩:=Cf (l:=vn.k) (by omega);obtain ⟨px,hpx⟩:=Cf (l:=kp) (by omega);have hx:Rel B px vx:=hkk 0 px vx (by rw [h12];decide) (by rw [hpx];rfl) (by rw [hvx];rfl);have hv0:(RV.k vn)[0]?=some vx:=by rw [hvx];rfl
     obtain ⟨on2,nn2,kn2,envn2,bn2⟩:=vn;simp only [RV.k] at hv0 h;rw [hv0] at h;simp only at h;split at h
     ·cases h
     rename_i vh s2 e2 hh;split at h
     ·cases h
     rw [show (RV.clo env b2).env=env from rfl,show (RV.clo env b2).b=b2 from rfl] at h
     have he2:=B4 h;subst he2;obtain ⟨k1,c1,u1,T1,a1,a2,a3,a4,a5,w1,a6,F1,a7⟩:=ihf (fun g hg=>ih g (by omega)) (s+1) n 0 env b0 b2 vz vx vh s2 e pz px n' ts hh hz hx he hb2 hg2 hw2 (fun _=>hless px vx hx) hless;obtain ⟨k2,c2,u2,T2,d1,d2,d3,d4⟩:=KZ (ih f (by omega)) (l:=[px,w1]) (l':=[vx,vh]) he rfl (by
      intro i p r hp hr
      match i with
      | 0=>simp only [List.getElem?_cons_zero,AwP] at hp hr;subst hp hr;exact hx
      | 1=>simp only [List.getElem?_cons_succ,List.getElem?_cons_zero,AwP] at hp hr;subst hp hr;exact a6
      | i+2=>simp at hp) hg2 hw2 h
     obtain ⟨w2,q1,F2,q2⟩:=OV (op:=13) (n:=n) (n':=n') (ps:=[.nil,pz,.nil,pn]) hb2 (by simp) d4;have hd:=Jx d2;have hdp:=d2.p;refine ⟨k1+k2+1,c1+c2,u1+u2,1+(T1+T2),by omega,?_,by omega,?_,fun h=>by omega,w2,q1,Fh (k:=k1+k2) (T:=T1+T2) (by decide) (Ie q1) ⟨F1+F2+2,fun g hg m hm=>?_⟩⟩
     ·have e1:(k1+k2+1) * b2.wt=k1 * b2.wt+(k2+1) * b2.wt:=by rw [show k1+k2+1=k1+(k2+1) by omega,Nat.add_mul]
      omega
     ·rw [if_neg (by omega)];split at a4<;>omega
     ·obtain ⟨g,rfl⟩:∃k,g=k+1:=⟨g - 1,by omega⟩;simp only [RV.op] at h12;subst h12;rw [hpn',hpx];simp only [RV.op,RV.n];rw [AmT (a7 g (by omega) m (G9 hm))];rw [hpn',hpx] at q2;simp only [RV.op,RV.n] at q2;rw [q2 g (by omega) _ (Dq hm),EG]
    ·rw [if_neg hs] at h;simp at h
   ·rw [if_neg h12] at h;simp only [AwP,AwQ] at h;obtain ⟨rfl,rfl,_⟩:=h;refine ⟨0,0,0,1,by omega,by omega,by omega,by simp,fun _=>⟨rfl,rfl,rfl⟩,_,hself pz,Ib (by decide) ⟨1,fun g hg m=>?_⟩⟩;obtain ⟨g,rfl⟩:∃k,g=k+1:=⟨g - 1,by omega⟩;rw [hpn,Aox _ _ _ _ _ _ _ _ _ _ _ _ _ (by rw [← hon];exact h11) (by rw [← hon];exact h12)]
theorem B5 {op n:Int} {ks:List Tm} {e ps:List PV} {k1 T1 kh Th:Nat} {v':PV} (h1:op≠1) (hks:ks.length≤4) (hK:∃F,∀g,F≤g→∀m,MOk m k1 T1→Nv (fun t m=>Qc g e t m) op 0 ks m=some (ps,Fe m k1 T1)) (hH:H6 op n ps (.mk op n ks) e v' kh Th) :
  ∃F,∀g,F≤g→∀m,MOk m (k1+kh) (1+(T1+Th))→Qc g e (.mk op n ks) m=some (v',Fe m (k1+kh) (1+(T1+Th))):=by
 obtain ⟨F1,hK⟩:=hK;obtain ⟨F2,hH⟩:=hH;refine ⟨F1+F2+10,fun g hg m hm=>?_⟩;obtain ⟨g,rfl⟩:∃k,g=k+1:=⟨g - 1,by omega⟩;have hm':MOk (Fe m 0 1) (k1+kh) (T1+Th):=Dq (k1:=0) ⟨hm.e,hm.w,hm.w2,by have:=hm.s;omega,hm.s2⟩;rw [Qc,Ms hm];simp only;rw [if_neg h1,if_neg (by omega),if_neg (by simp [Fe]),hK g (by omega) _ (G9 hm')];simp only;rw [if_neg (by simp [Fe]),hH g (by omega) _ (Dq hm'),EG,EG];congr 3
 all_goals omega
theorem Rf {op:Int} (h:¬ (op=5∨op=8∨op=9∨op=13∨op=19∨op=30)):Cu op=false:=by
 have h1:¬ op=5:=fun e=>h (.inl e);have h2:¬ op=8:=fun e=>h (.inr (.inl e));have h3:¬ op=9:=fun e=>h (.inr (.inr (.inl e)));have h4:¬ op=13:=fun e=>h (.inr (.inr (.inr (.inl e))));have h5:¬ op=19:=fun e=>h (.inr (.inr (.inr (.inr (.inl e)))));have h6:¬ op=30:=fun e=>h (.inr (.inr (.inr (.inr (.inr e)))));simp [Cu,h1,h2,h3,h4,h5,h6]
set_option maxHeartbeats 1000000 in
theorem FW (B:Nat):∀f,Zn B f:=by
 intro f
 induction f using Nat.strongRecOn with
 | _ f ih =>
 intro s t env v s' h hg hw e he;cases f with
 | zero=>rw [Au] at h;cases h
 | succ f =>
 obtain ⟨op,n,ks⟩:=t;rw [Au] at h;rw [if_neg (by simp)] at h;split at h
 ·cases h
 rename_i hel;rw [Tm.good] at hg;obtain ⟨hgn,hgl⟩:=hg;have har:=hgn.1;have hk4:=Ajk har;rw [Tm.wt] at hw;by_cases h1:op=1
 ·subst h1;rw [if_pos rfl] at h;have hks:ks=[]:=by
   rw [show ar 1=some 0 by decide,AwP] at har
   exact List.eq_nil_of_length_eq_zero har.symm
  subst hks;have hn:=hgn.2.1 rfl;have hrun:∃F,∀g,F≤g→∀m,MOk m 0 1→Qc g e (.mk 1 n []) m=some (GG e n,Fe m 0 1):=by
   refine ⟨e.length+10,fun g hg m hm=>?_⟩;obtain ⟨g,rfl⟩:∃k,g=k+1:=⟨g - 1,by omega⟩;rw [Qc,Ms (k:=0) (T:=0) hm];simp only;rw [if_pos trivial,if_pos ⟨by omega,by omega,by omega⟩]
  have hcost:∀v:RV,Cost (.mk 1 n []) v 0 1 0:=fun v=>⟨by simp [Tm.surf,Tm.surfL],by omega,Nat.le_trans (Nat.add_le_add_left (Yv _ _) _) (by omega),fun _=>by have:=ND v;simp only [Tm.surf,Tm.surfL];omega⟩;by_cases hlt:n<env.length
  ·rw [if_pos hlt,if_pos hn.1] at h;cases hr:env[((env.length:Int) - 1 - n).toNat]? with
   | none=>rw [hr] at h;cases h
   | some r =>
    rw [hr] at h;simp only [AwS,AwP,AwQ] at h;obtain ⟨rfl,rfl,_⟩:=h;exact ⟨0,1,0,1,by omega,hcost _,by omega,_,Ak4 he hn.1 hlt hr,hrun⟩
  ·rw [if_neg hlt] at h;split at h
   ·simp only [AwP,AwQ] at h;obtain ⟨rfl,rfl,_⟩:=h;refine ⟨0,1,0,1,by omega,hcost _,by omega,_,?_,hrun⟩;rw [GG,if_neg (by rw [he.1];exact hlt),he.1];exact .var _
   ·cases h
 rw [if_neg h1] at h;split at h
 ·cases h
 split at h
 ·cases h
 split at h
 ·cases h
 rename_i vs s1 e1 hk;have he1:=F9 h;subst he1;obtain ⟨k1,c1,u1,T1,q1,q2,q3,q4,q5,q6,ps,q7,q8,q9,q10,q11⟩:=Ii (ih f (by omega)) op env e he ks 0 s vs s1 hk hgl (by omega);simp only [Nat.zero_add] at q8 q9 q10;have hnode:Rel B (.mk op n ps (.mk op n ks) e) (.node op n vs):=by
  refine .node op n n ps vs ks e env h1 har q7 q6 (fun i p r=>q9 i p r) ?_ he.1 he.2;intro i b hb hi;obtain ⟨a1,a2⟩:=q8 i b hi hb;have hm:=List.mem_of_getElem? hi
  have:=BN hm
  exact ⟨⟨QY hgl hm,by omega⟩,a1,a2⟩
 obtain ⟨V,hV⟩:∃V,V=RV.node op n vs:=⟨_,rfl⟩;have hVo:V.op=op:=by rw [hV];rfl
 have hVk:V.k=vs:=by rw [hV];rfl
 have hVz:V.vsz=1+RV.vszL op 0 vs:=by rw [hV,RV.node,RV.vsz]
 rw [← hV] at h hnode;cases f with
 | zero=>rw [headR] at h;cases h
 | succ f =>
 have h00:=h;rw [headR] at h;rw [if_neg (by simp)] at h;split at h
 ·cases h
 by_cases hr:¬ (op=5∨op=8∨op=9∨op=13∨op=19∨op=30)
 ·rw [hVo,if_neg (by omega),if_neg (by omega),if_neg (by omega),if_neg (by omega),if_neg (by omega)] at h;simp only [AwP,AwQ] at h;obtain ⟨rfl,rfl,_⟩:=h;refine ⟨k1,1+c1,u1,1+T1,q1,⟨?_,by omega,Nat.le_trans (Nat.add_le_add_left (Yv _ _) _) (by omega),fun h=>?_⟩,by omega,_,hnode,B5 (kh:=0) (Th:=0) h1 (by omega) q11 (AgL (Rf hr))⟩
  ·rw [Tm.surf,Tm.inn];omega
  ·have:=q4 h;rw [Tm.surf,hVz];omega
 have hrule:Cu op=true:=by
  have:op=5∨op=8∨op=9∨op=13∨op=19∨op=30:=Decidable.byContradiction hr
  rcases this with rfl | rfl | rfl | rfl | rfl | rfl<;>rfl
 by_cases h5:op=5
 ·subst h5;obtain ⟨m0,a,b,x,rfl⟩:=hgn.2.2.2.1 rfl;obtain ⟨v0,vx,rfl⟩:=MK q6;obtain ⟨p0,px,rfl⟩:=MK q7;obtain ⟨t1,t2,hv0⟩:=q10 0 _ v0 rfl (by decide) rfl;obtain ⟨va,rfl⟩:=AdC hv0;have r0:=q9 0 p0 _ (by decide) rfl rfl;have rx:=q9 1 px vx (by decide) rfl rfl;obtain ⟨n',kp,ts,e0,env0,hp0,b1,b2,b3,b4,b5,b6⟩:=GH r0 (by simp [RV.node,RV.op]);simp only [RV.node,RV.op,RV.n,RV.k] at hp0 b1 b3 b4 b5;rw [show ar 4=some 2 by decide,AwP] at b1
  obtain ⟨a',b',rfl⟩:=MK b1.symm;obtain ⟨⟨g1,g2⟩,_,g3⟩:=b5 1 b' (by decide) rfl;simp only [List.getElem?_cons_succ,List.getElem?_cons_zero,AwP,RV.clo,RV.mk.injEq,true_and] at g3;obtain ⟨rfl,rfl⟩:=g3;rw [hVo,if_pos rfl,hVk] at h;simp only [List.getElem?_cons_succ,List.getElem?_cons_zero] at h;rw [show (RV.node 4 m0 [va,RV.clo env b]).op=4 from rfl,if_pos rfl] at h
  split at h
  ·rw [show (RV.node 4 m0 [va,RV.clo env b]).k[1]?=some (RV.clo env b) from rfl] at h
   simp only at h;split at h
   ·cases h
   rw [show (RV.clo env b).env=env from rfl,show (RV.clo env b).b=b from rfl] at h
   obtain ⟨k2,c2,u2,T2,d1,d2,d3,d4⟩:=KZ (ih f (by omega)) (l:=[px]) (l':=[vx]) b6 rfl (by
    intro i p r hp hr
    match i with
    | 0=>simp only [List.getElem?_cons_zero,AwP] at hp hr;subst hp hr;exact rx
    | i+1=>simp at hp) g1 g2 h
   obtain ⟨w2,y1,F2,y2⟩:=OV (op:=4) (n:=m0) (n':=n') (ps:=kp) (ts:=[a',b]) (i:=1) (b:=b) (l:=[px]) rfl (by simp) d4;have hd:=Jx d2;have hdp:=d2.p;have hiw:b.wt≤Tm.innL 5 0 [.mk 4 m0 [a,b],x]:=by
    simp only [Tm.innL,Tm.inn];rw [if_neg (show ¬ 0<Ae 5 0 by decide),if_neg (show ¬ 0<Ae 4 0 by decide),if_pos (show 0<Ae 4 (0+1) by decide)]
    omega
   refine ⟨k1+(k2+1),1+(c1+c2),u1+u2,1+(T1+(1+T2)),by omega,⟨?_,by omega,Nat.le_trans (Nat.add_le_add_left (Yv _ _) _) (by omega),fun h=>by omega⟩,by omega,w2,y1,B5 h1 (by simp) q11 (Fh (k:=k2) (T:=T2) hrule (Ie y1) ⟨F2+1,fun g hg m hm=>?_⟩)⟩
   ·rw [Tm.surf,Tm.inn];have e1:(k1+(k2+1)) * Tm.innL 5 0 [.mk 4 m0 [a,b],x]=k1 * Tm.innL 5 0 [.mk 4 m0 [a,b],x]+(k2+1) * Tm.innL 5 0 [.mk 4 m0 [a,b],x]:=by rw [Nat.add_mul]
    have e2:(k2+1) * b.wt≤(k2+1) * Tm.innL 5 0 [.mk 4 m0 [a,b],x]:=Nat.mul_le_mul_left _ hiw;omega
   ·obtain ⟨g,rfl⟩:∃k,g=k+1:=⟨g - 1,by omega⟩;rw [hp0,An1,if_pos rfl];exact y2 g (by omega) m hm
  ·simp at h
 by_cases h89:op=8∨op=9
 ·obtain ⟨m0,a,x,y,rfl⟩:=hgn.2.2.2.2.1 h89;obtain ⟨v0,rfl⟩:=Cf q6;obtain ⟨p0,rfl⟩:=Cf q7;have hb0:Ae op 0=0:=by rcases h89 with rfl | rfl<;>decide
  obtain ⟨t1,t2,hv0⟩:=q10 0 _ v0 rfl hb0 rfl;obtain ⟨va,vx,vy,rfl⟩:=AhX hv0;have r0:=q9 0 p0 _ hb0 rfl rfl;obtain ⟨n',kp,ts,e0,env0,hp0,b1,b2,b3,b4,b5,b6⟩:=GH r0 (by simp [RV.node,RV.op]);simp only [RV.node,RV.op,RV.n,RV.k] at hp0 b1 b3 b4 b5;rw [show ar 7=some 3 by decide,AwP] at b1
  obtain ⟨pa,px,py,rfl⟩:=AiS (b2.trans b1.symm);have rx:=b4 1 px vx (by decide) rfl rfl;have ry:=b4 2 py vy (by decide) rfl rfl;rw [hVo,if_neg h5,if_pos h89,hVk] at h;simp only [List.getElem?_cons_zero] at h;rw [show (RV.node 7 m0 [va,vx,vy]).op=7 from rfl,if_pos rfl] at h
  split at h
  ·obtain ⟨w',hw',hvv⟩:∃w',w'=(if op=8 then px else py)∧Rel B w' v∧s'=s1+1:=by
    rcases h89 with rfl | rfl
    ·rw [show (RV.node 7 m0 [va,vx,vy]).k[(1+8 - 8:Int).toNat]?=some vx from rfl] at h
     simp only [AwS,AwP,AwQ] at h;obtain ⟨rfl,rfl,_⟩:=h;exact ⟨px,rfl,rx,rfl⟩
    ·rw [show (RV.node 7 m0 [va,vx,vy]).k[(1+9 - 8:Int).toNat]?=some vy from rfl] at h
     simp only [AwS,AwP,AwQ] at h;obtain ⟨rfl,rfl,_⟩:=h;exact ⟨py,rfl,ry,rfl⟩
   obtain ⟨hrel,rfl⟩:=hvv;refine ⟨k1+1,1+c1,u1,1+(T1+1),by omega,⟨?_,by omega,Nat.le_trans (Nat.add_le_add_left (Yv _ _) _) (by omega),fun h=>by omega⟩,by omega,w',hrel,B5 h1 (by simp) q11 (Fh (k:=0) (T:=0) hrule (Ie hrel) ⟨1,fun g hg m hm=>?_⟩)⟩
   ·rw [Tm.surf,Tm.inn,Nat.add_mul];omega
   ·obtain ⟨g,rfl⟩:∃k,g=k+1:=⟨g - 1,by omega⟩;rw [hp0,Ams _ _ _ h89,Pm hm.e,hw']
  ·simp at h
 by_cases h30:op=30
 ·subst h30;rw [show ar 30=some 1 by decide,AwP] at har
  obtain ⟨x,rfl⟩:=Cf har.symm;obtain ⟨v0,rfl⟩:=Cf q6;obtain ⟨p0,rfl⟩:=Cf q7;have r0:=q9 0 p0 v0 (by decide) rfl rfl;have hx:=hgn.2.2.2.2.2.2.1 rfl x (by simp);rw [hVo,if_neg h5,if_neg h89,if_pos rfl,hVk] at h;simp only [List.getElem?_cons_zero] at h;simp only [Hq] at q3;rw [if_neg (by decide)] at q3;by_cases h19:v0.op=19
  ·rw [if_pos h19] at h;obtain ⟨n',kp,ts,e0,env0,hp0,b1,b2,b3,b4,b5,b6⟩:=GH r0 (by rw [h19];decide);rw [h19,show ar 19=some 1 by decide,AwP] at b1
   obtain ⟨y,hy⟩:=Cf (b3.trans b1.symm);obtain ⟨py,rfl⟩:=Cf (b2.trans b1.symm);have ry:=b4 0 py y (by rw [h19];decide) rfl (by rw [hy];rfl);rw [hy] at h;simp only [List.getElem?_cons_zero,AwS] at h;split at h
   ·simp only [AwP,AwQ] at h;obtain ⟨rfl,rfl,_⟩:=h;refine ⟨k1+1,1+c1,u1,1+(T1+1),by omega,⟨?_,by omega,Nat.le_trans (Nat.add_le_add_left (Yv _ _) _) (by omega),fun h=>by omega⟩,by omega,py,ry,B5 h1 (by simp) q11 (Fh (k:=0) (T:=0) hrule (Ie ry) ⟨1,fun g hg m hm=>?_⟩)⟩
    ·rw [Tm.surf,Tm.inn,Nat.add_mul];omega
    ·obtain ⟨g,rfl⟩:∃k,g=k+1:=⟨g - 1,by omega⟩;rw [hp0,h19,AqM,Pm hm.e]
   ·simp at h
  ·rw [if_neg h19] at h;simp only [AwP,AwQ] at h;obtain ⟨rfl,rfl,_⟩:=h;obtain ⟨o0,n0,k0,t0,e0,hp0,ho0,_⟩:=J4 r0;have hns:2≤sl x v0:=by
    unfold sl;rw [if_neg (fun h=>h19 h.2),if_neg (fun h=>hx h.1)];split<;>omega
   have hn0:sl (.mk 30 n [x]) V=0:=by
    unfold sl;rw [if_neg (by simp [Tm.op]),if_pos ⟨rfl,hVo⟩]
   refine ⟨k1,1+c1,u1+1,1+(T1+1),q1,⟨?_,by omega,by rw [hn0];omega,fun h=>?_⟩,by omega,_,hnode,B5 (kh:=0) h1 (by simp) q11 (Ib hrule ⟨1,fun g hg m=>?_⟩)⟩
   ·rw [Tm.surf,Tm.inn];omega
   ·have:=q4 h;rw [Tm.surf,hVz];omega
   ·obtain ⟨g,rfl⟩:∃k,g=k+1:=⟨g - 1,by omega⟩;rw [hp0,Aqa _ _ _ _ _ _ _ _ _ _ (by rw [← ho0];exact h19)]
 by_cases h19:op=19
 ·subst h19;rw [show ar 19=some 1 by decide,AwP] at har
  obtain ⟨x,rfl⟩:=Cf har.symm;obtain ⟨v0,rfl⟩:=Cf q6;obtain ⟨p0,rfl⟩:=Cf q7;have r0:=q9 0 p0 v0 (by decide) rfl rfl;have hx:=hgn.2.2.2.2.2.1 rfl x (by simp);rw [hVo,if_neg h5,if_neg h89,if_neg h30,if_pos rfl,hVk] at h;simp only [List.getElem?_cons_zero] at h;simp only [Hq] at q3;rw [if_neg (by decide)] at q3;by_cases hv30:v0.op=30
  ·rw [if_pos hv30] at h;obtain ⟨n',kp,ts,e0,env0,hp0,b1,b2,b3,b4,b5,b6⟩:=GH r0 (by rw [hv30];decide);rw [hv30,show ar 30=some 1 by decide,AwP] at b1
   obtain ⟨y,hy⟩:=Cf (b3.trans b1.symm);obtain ⟨py,rfl⟩:=Cf (b2.trans b1.symm);have ry:=b4 0 py y (by rw [hv30];decide) rfl (by rw [hy];rfl);rw [hy] at h;simp only [List.getElem?_cons_zero,AwS] at h;split at h
   ·simp only [AwP,AwQ] at h;obtain ⟨rfl,rfl,_⟩:=h;refine ⟨k1+1,1+c1,u1,1+(T1+1),by omega,⟨?_,by omega,Nat.le_trans (Nat.add_le_add_left (Yv _ _) _) (by omega),fun h=>by omega⟩,by omega,py,ry,B5 h1 (by simp) q11 (Fh (k:=0) (T:=0) hrule (Ie ry) ⟨1,fun g hg m hm=>?_⟩)⟩
    ·rw [Tm.surf,Tm.inn,Nat.add_mul];omega
    ·obtain ⟨g,rfl⟩:∃k,g=k+1:=⟨g - 1,by omega⟩;rw [hp0,hv30,Arf,Pm hm.e]
   ·simp at h
  ·rw [if_neg hv30] at h;simp only [AwP,AwQ] at h;obtain ⟨rfl,rfl,_⟩:=h;obtain ⟨o0,n0,k0,t0,e0,hp0,ho0,_⟩:=J4 r0;have hns:sl x v0=3:=by
    unfold sl;rw [if_neg (fun h=>hx.1 h.1),if_neg (fun h=>hv30 h.2),if_neg (fun h=>hx.2 (AkU h))]
   have hn0:sl (.mk 19 n [x]) V=1:=by
    unfold sl;rw [if_pos ⟨rfl,hVo⟩]
   refine ⟨k1,1+c1,u1+1,1+(T1+1),q1,⟨?_,by omega,by rw [hn0];omega,fun h=>?_⟩,by omega,_,hnode,B5 (kh:=0) h1 (by simp) q11 (Ib hrule ⟨1,fun g hg m=>?_⟩)⟩
   ·rw [Tm.surf,Tm.inn];omega
   ·have:=q4 h;rw [Tm.surf,hVz];omega
   ·obtain ⟨g,rfl⟩:∃k,g=k+1:=⟨g - 1,by omega⟩;rw [hp0,Ap0 _ _ _ _ _ _ _ _ _ _ (by rw [← ho0];exact hv30)]
 have h13:op=13:=by omega
 subst h13;rw [show ar 13=some 4 by decide,AwP] at har
 obtain ⟨b0,z,b2,nn,rfl⟩:=OO har.symm;obtain ⟨w0,vz,w2,vn,rfl⟩:=OO q6;obtain ⟨p0,pz,p2,pn,rfl⟩:=OO q7;obtain ⟨x0,y0⟩:=q8 0 b0 rfl (by decide);obtain ⟨x2,y2⟩:=q8 2 b2 rfl (by decide);simp only [List.getElem?_cons_succ,List.getElem?_cons_zero,AwP] at x0 y0 x2 y2;subst x0 y0 x2 y2;have rz:=q9 1 pz vz (by decide) rfl rfl;have rn:=q9 3 pn vn (by decide) rfl rfl;have hgd:=hgn.2.2.2.2.2.2.2 rfl b0 z b2 nn rfl;have hn0:=hgn.2.2.1 rfl;simp only [Tm.goodL,and_true] at hgl;simp only [Tm.wtL] at hw;rw [hV] at h00 hnode;obtain ⟨kr,cr,ur,Tr,a1,a2,a3,a4,a5,w',a6,a7⟩:=Ak8 (f+1) (fun g hg=>ih g (by omega)) s1 n n env b0 b2 vz vn v s' e pz pn n [b0,z,b2,nn] h00 rz rn he rfl hgl.2.2.1 (by omega) (fun _=>hnode) (by
  intro px vx hx;rw [hn0];refine .node 13 0 0 [.nil,pz,.nil,px] [.clo env b0,vz,.clo env b2,vx] [b0,z,b2,nn] e env (by decide) (show ar 13=some 4 by decide) rfl rfl ?_ ?_ he.1 he.2
  ·intro i p r hb hp hr
   match i with
   | 0=>exact absurd hb (by decide)
   | 1=>simp only [List.getElem?_cons_succ,List.getElem?_cons_zero,AwP] at hp hr;subst hp hr;exact rz
   | 2=>exact absurd hb (by decide)
   | 3=>simp only [List.getElem?_cons_succ,List.getElem?_cons_zero,AwP] at hp hr;subst hp hr;exact hx
   | i+4=>simp at hp
  ·intro i b hb hi
   match i with
   | 0=>simp only [List.getElem?_cons_zero,AwP] at hi;subst hi;exact ⟨⟨hgl.1,by omega⟩,rfl,rfl⟩
   | 1=>exact absurd hb (by decide)
   | 2=>simp only [List.getElem?_cons_succ,List.getElem?_cons_zero,AwP] at hi;subst hi;exact ⟨⟨hgl.2.2.1,by omega⟩,rfl,rfl⟩
   | 3=>exact absurd hb (by decide)
   | i+4=>simp at hi)
 have hiw:b2.wt≤Tm.innL 13 0 [b0,z,b2,nn]:=by
  simp only [Tm.innL];rw [if_pos (by decide),if_neg (by decide),if_pos (by decide),if_neg (by decide)];omega
 have hsl:Hq 13 0 [b0,z,b2,nn] [.clo env b0,vz,.clo env b2,vn]=sl z vz+sl nn vn:=by
  simp only [Hq];rw [if_pos (show 0<Ae 13 0 by decide),if_neg (show ¬ 0<Ae 13 (0+1) by decide),if_pos (show 0<Ae 13 (0+1+1) by decide),if_neg (show ¬ 0<Ae 13 (0+1+1+1) by decide)]
  omega
 have hsn:sl nn vn=3:=by
  unfold sl;rw [if_neg (fun h=>hgd.2.1.1 h.1),if_neg (fun h=>hgd.2.1.2 h.1),if_neg (by rw [hgd.2.2];decide)]
 have hsz:1≤sl z vz:=by
  unfold sl;split
  ·omega
  ·rw [if_neg (fun h=>hgd.1 h.1)];split<;>omega
 have hst:sl (.mk 13 n [b0,z,b2,nn]) V+2≤sl z vz+sl nn vn:=by
  have e1:sl (.mk 13 n [b0,z,b2,nn]) V=if (Tm.mk 13 n [b0,z,b2,nn]).badR=true then 2 else 3:=by
   unfold sl;rw [if_neg (by simp [Tm.op]),if_neg (by simp [Tm.op])]
  rw [e1];split
  ·omega
  ·rename_i hnb;have hb:¬ (z.op=19∨z.badR=true):=by
    intro h;apply hnb;rw [Tm.badR];simpa using h
   have:sl z vz=3:=by
    unfold sl;rw [if_neg (fun h=>hb (.inl h.1)),if_neg (fun h=>hgd.1 h.1),if_neg (fun h=>hb (.inr h))]
   omega
 have hle:1+(c1+cr)≤(Tm.mk 13 n [b0,z,b2,nn]).surf+(k1+kr) * (Tm.mk 13 n [b0,z,b2,nn]).inn:=by
  rw [Tm.surf,Tm.inn,Nat.add_mul];have e2:kr * b2.wt≤kr * Tm.innL 13 0 [b0,z,b2,nn]:=Nat.mul_le_mul_left _ hiw;omega
 by_cases hk0:kr=0
 ·obtain ⟨z1,z2,z3⟩:=a5 hk0;subst hk0 z1 z2;rw [if_pos rfl] at a4;refine ⟨k1+0,1+(c1+0),u1+1,1+(T1+Tr),by omega,⟨hle,by omega,by rw [z3,← hV];omega,fun h=>?_⟩,by omega,w',a6,B5 h1 (by simp) q11 a7⟩
  have:=q4 (by omega)
  rw [z3,← hV,Tm.surf,hVz];omega
 ·rw [if_neg hk0] at a4;exact ⟨k1+kr,1+(c1+cr),u1+ur,1+(T1+Tr),by omega,⟨hle,by omega,Nat.le_trans (Nat.add_le_add_left (Yv _ _) _) (by omega),fun h=>by omega⟩,by omega,w',a6,B5 h1 (by simp) q11 a7⟩
theorem Tv {f:Nat} (op:Int) (env:List RV) (ih:∀s t v s',Au f s 0 t env=some (v,s',0)→s≤1000→s'≤1000):∀(l:List Tm) (i:Nat) (s:Int) (vs:List RV) (s':Int),AR (fun s e t=>Au f s e t env) op env i l s 0=some (vs,s',0)→s≤1000→s'≤1000
 | [],i,s,vs,s',h,hs=>by
  simp only [AR,AwP,AwQ] at h;omega
 | t::l,i,s,vs,s',h,hs=>by
  simp only [AR] at h;split at h
  ·cases hk:AR (fun s e t=>Au f s e t env) op env (i+1) l s 0 with
   | none=>rw [hk] at h;cases h
   | some q =>
    obtain ⟨vs1,s1,e1⟩:=q;rw [hk] at h;simp only [AwS,AwP,AwQ] at h;obtain ⟨_,rfl,rfl⟩:=h;exact Tv op env ih l _ _ _ _ hk hs
  ·split at h
   ·cases h
   ·rename_i v s1 e1 he;cases hk:AR (fun s e t=>Au f s e t env) op env (i+1) l s1 e1 with
    | none=>rw [hk] at h;cases h
    | some q =>
     obtain ⟨vs2,s2,e2⟩:=q;rw [hk] at h;simp only [AwS,AwP,AwQ] at h;obtain ⟨_,rfl,rfl⟩:=h;have h0:=Fj _ (fun s e t v s' h=>B4 h) op env l _ _ _ _ _ hk;subst h0;exact Tv op env ih l _ _ _ _ hk (ih _ _ _ _ he hs)
theorem VV:∀f,(
           ∀s t env v s',Au f s 0 t env=some (v,s',0)→s≤1000→s'≤1000)∧(∀s v w s',headR f s 0 v=some (w,s',0)→s≤1000→s'≤1000):=by
 intro f
 induction f with
 | zero=>exact ⟨(by intro s t env v s' h;rw [Au] at h;cases h),(by intro s v w s' h;rw [headR] at h;cases h)⟩
 | succ f ih =>
  refine ⟨?_,?_⟩
  ·intro s t env v s' h hs;obtain ⟨op,n,ks⟩:=t;rw [Au] at h;rw [if_neg (by simp)] at h;split at h
   ·cases h
   split at h
   ·split at h
    ·split at h
     ·cases hr:env[((env.length:Int) - 1 - n).toNat]? with
      | none=>rw [hr] at h;cases h
      | some r =>
       rw [hr] at h;simp only [AwS,AwP,AwQ] at h;omega
     ·cases h
    ·split at h
     ·simp only [AwP,AwQ] at h;omega
     ·cases h
   split at h
   ·cases h
   split at h
   ·cases h
   split at h
   ·cases h
   rename_i vs s1 e1 hk;have he:=F9 h;subst he;exact ih.2 _ _ _ _ h (Tv op env (fun s t v s'=>ih.1 s t env v s') ks _ _ _ _ hk hs)
  ·intro s v w s' h hs;rw [headR] at h;rw [if_neg (by simp)] at h;split at h
   ·cases h
   split at h
   ·split at h
    ·cases h
    ·split at h
     ·split at h
      ·split at h
       ·split at h
        ·cases h
        ·exact ih.1 _ _ _ _ _ h (by omega)
       ·cases h
      ·simp at h
     ·simp only [AwP,AwQ] at h;omega
   split at h
   ·split at h
    ·cases h
    ·rename_i k0 _;split at h
     ·split at h
      ·cases hx:k0.k[(1+v.op - 8).toNat]? with
       | none=>rw [hx] at h;cases h
       | some x=>rw [hx] at h;simp only [AwS,AwP,AwQ] at h;omega
      ·simp at h
     ·simp only [AwP,AwQ] at h;omega
   split at h
   ·split at h
    ·cases h
    ·rename_i k0 _;split at h
     ·split at h
      ·cases hx:k0.k[0]? with
       | none=>rw [hx] at h;cases h
       | some x=>rw [hx] at h;simp only [AwS,AwP,AwQ] at h;omega
      ·simp at h
     ·simp only [AwP,AwQ] at h;omega
   split at h
   ·split at h
    ·cases h
    ·rename_i k0 _;split at h
     ·split at h
      ·cases hx:k0.k[0]? with
       | none=>rw [hx] at h;cases h
       | some x=>rw [hx] at h;simp only [AwS,AwP,AwQ] at h;omega
      ·simp at h
     ·simp only [AwP,AwQ] at h;omega
   split at h
   ·split at h
    ·split at h
     ·split at h
      ·simp only [AwP,AwQ] at h;omega
      ·simp at h
     ·split at h
      ·split at h
       ·split at h
        ·cases h
        ·split at h
         ·cases h
         ·rename_i vh s2 e2 hh;split at h
          ·cases h
          ·have he:=B4 h;subst he;exact ih.1 _ _ _ _ _ h (ih.2 _ _ _ _ hh (by omega))
       ·simp at h
      ·simp only [AwP,AwQ] at h;omega
    ·cases h
   ·simp only [AwP,AwQ] at h;omega
theorem QG {f:Nat} {op u d:Int}:∀(l:List RV) (i:Nat) (s nd e:Int) (ts:List Tm) (s' nd':Int),Ba (fun s nd e k u=>AS f s nd e k u d) f op u i l s nd e=some (ts,s',nd',0)→e=0
 | [],i,s,nd,e,ts,s',nd',h=>by
  simp only [Ba,AwP,AwQ] at h;exact h.2.2.2
 | k::l,i,s,nd,e,ts,s',nd',h=>by
  simp only [Ba] at h;split at h
  ·cases h
  rename_i k1 s1 e1 hk;split at h
  ·cases h
  rename_i t s2 nd2 e2 hr;cases hrest:Ba (fun s nd e k u=>AS f s nd e k u d) f op u (i+1) l s2 nd2 e2 with
  | none=>rw [hrest] at h;cases h
  | some q =>
   obtain ⟨ts2,s3,nd3,e3⟩:=q;rw [hrest] at h;simp only [AwS,AwP,AwQ] at h;obtain ⟨_,_,_,rfl⟩:=h
   have:=QG l _ _ _ _ _ _ _ hrest
   subst this
   have:=Cr hr
   subst this;split at hk
   ·split at hk
    ·cases hk
    ·exact B4 hk
   ·simp only [AwP,AwQ] at hk;exact hk.2.2
def Amc (B f:Nat):Prop:=∀(s nd:Int) (v:RV) (u d:Int) (t:Tm) (s' nd':Int),AS f s nd 0 v u d=some (t,s',nd',0)→0≤nd→∀v',Rel B v' v→∃k c uu T N:Nat,s'=s+k∧nd'=nd+N∧nd'≤3000∧(s≤1000→s'≤1000)∧c+v.vsz≤N+B * k∧5 * uu≤3 * c+10 * k∧T≤N+c+uu+2 * k ∧
 ∃F,∀g,F≤g→∀m,MOk m k T→Vb g v' u d m nd=some (t,Fe m k T,nd')
theorem AfV {B:Nat} (u:Int) (b:Nat):∀(i:Nat) p r,(SH u b)[i]?=some p→(FK u b)[i]?=some r→Rel B p r:=by
 intro i p r hp hr;rw [SH,List.getElem?_map] at hp;rw [FK,List.getElem?_map] at hr;cases hx:(List.range b)[i]? with
 | none=>rw [hx] at hp;cases hp
 | some j =>
  rw [hx] at hp hr;simp only [AwS,AwP] at hp hr;subst hp hr;exact .var _
set_option maxHeartbeats 1000000 in
theorem XC {B f:Nat} (ih:Amc B f) (op u d n n':Int) (kp0:List PV) (ts:List Tm) (e:List PV) (env:List RV) (he:Em B e env):∀(l:List RV) (lp:List PV) (i:Nat) (s nd:Int) (rs:List Tm) (s' nd':Int),Ba (fun s nd e k u=>AS f s nd e k u (d+1)) f op u i l s nd 0=some (rs,s',nd',0)→0≤nd→nd≤3000→lp.length=l.length →
  (∀j p r,Ae op (i+j)=0→lp[j]?=some p→l[j]?=some r→Rel B p r)→(∀j r,0<Ae op (i+j)→l[j]?=some r→∃b,ts[i+j]?=some b∧b.good∧b.wt≤B∧r=.clo env b) →
  ∃k c uu T N:Nat,s'=s+k∧nd'=nd+N∧nd'≤3000∧(s≤1000→s'≤1000)∧c+RV.vszL op i l≤N+B * k∧5 * uu≤3 * c+10 * k∧T≤N+c+uu+2 * k ∧
   ∃F,∀g,F≤g→∀m,MOk m k T→XS (fun v below m r=>Vb g v below (d+1) m r) (fun i l m=>opP g (.mk op n kp0 (.mk op n' ts) e) i l m) op u i lp m nd=some (some rs,Fe m k T,nd')
 | [],lp,i,s,nd,rs,s',nd',h,h0,h3,hl,_,_=>by
  simp only [Ba,AwP,AwQ] at h;obtain ⟨rfl,rfl,rfl,_⟩:=h
  have:lp=[]:=List.eq_nil_of_length_eq_zero hl
  subst this;refine ⟨0,0,0,0,0,by omega,by omega,h3,id,by simp [RV.vszL],by omega,by omega,0,fun g _ m hm=>?_⟩;rw [XS,Pm hm.e]
 | k::l,lp,i,s,nd,rs,s',nd',h,h0,h3,hl,hA,hB=>by
  obtain ⟨p,lp,rfl⟩:∃p lp',lp=p::lp':=by
   cases lp with
   | nil=>cases hl
   | cons p lp=>exact ⟨p,lp,rfl⟩
  simp only [Ba] at h;split at h
  ·cases h
  rename_i k1 s1 e1 hk;split at h
  ·cases h
  rename_i t s2 nd2 e2 hr;cases hrest:Ba (fun s nd e k u=>AS f s nd e k u (d+1)) f op u (i+1) l s2 nd2 e2 with
  | none=>rw [hrest] at h;cases h
  | some q =>
  obtain ⟨ts2,s3,nd3,e3⟩:=q;rw [hrest] at h;simp only [AwS,AwP,AwQ] at h;obtain ⟨rfl,rfl,rfl,rfl⟩:=h;have h2:=QG l _ _ _ _ _ _ _ hrest;subst h2;have h1:=Cr hr;subst h1;have hA':∀j p r,Ae op (i+1+j)=0→lp[j]?=some p→l[j]?=some r→Rel B p r:=fun j p r a b c=>hA (j+1) p r (by rwa [show i+(j+1)=i+1+j by omega]) b c
  have hB':∀j r,0<Ae op (i+1+j)→l[j]?=some r→∃b,ts[i+1+j]?=some b∧b.good∧b.wt≤B∧r=.clo env b:=fun j r a b=>by
   obtain ⟨x,y⟩:=hB (j+1) r (by rwa [show i+(j+1)=i+1+j by omega]) b
   exact ⟨x,by rwa [show i+1+j=i+(j+1) by omega]⟩
  by_cases hb:0<Ae op i
  ·rw [if_pos hb] at hk;split at hk
   ·cases hk
   obtain ⟨b,hb1,hb2,hb3,rfl⟩:=hB 0 k (by simpa using hb) rfl;rw [Nat.add_zero] at hb1;rw [show (RV.clo env b).env=env from rfl,show (RV.clo env b).b=b from rfl] at hk
   have hb22:=AU op i;obtain ⟨ke,ce,ue,Te,d1,d2,d3,d4⟩:=KZ (FW B f) (l:=SH u (Ae op i)) (l':=FK u (Ae op i)) he (by rw [HJ,BW]) (AfV u _) hb2 hb3 hk;obtain ⟨w1,y1,F1,y2⟩:=OV (op:=op) (n:=n) (n':=n') (ps:=kp0) hb1 (by rw [HJ];exact hb22) d4;have hsle:=(VV f).1 _ _ _ _ _ hk;obtain ⟨kr,cr,ur,Tr,Nr,r1,r2,r3,r4,r5,r6,r7,F2,r8⟩:=ih s1 nd k1 _ _ t s2 nd2 hr h0 w1 y1;obtain ⟨kk,cc,uu,TT,NN,q1,q2,q3,q4,q5,q6,q7,F3,q8⟩:=XC ih op u d n n' kp0 ts e env he l lp (i+1) s2 nd2 ts2 s3 nd3 hrest (by omega) (by omega) (by simpa using hl) hA' hB';have hde:=d2.le;have hdp:=d2.p;have hsi:=Pq b;refine ⟨ke+(kr+kk),ce+(cr+cc),ue+(ur+uu),Te+(Tr+TT),Nr+NN,by omega,by omega,q3,fun h=>q4 (r4 (hsle h)),?_,by omega,by omega,F1+F2+F3,fun g hg m hm=>?_⟩
   ·rw [RV.vszL,if_pos hb,Nat.mul_add,Nat.mul_add];have hce:ce≤k1.vsz+B * ke:=by
     cases hke:ke with
     | zero =>
      have:=d2.v hke
      rw [hke] at hde;omega
     | succ k' =>
      rw [hke] at hde;have e1:(k'+1) * b.wt≤(k'+1) * B:=Nat.mul_le_mul_left _ hb3;have e2:(k'+1) * b.wt=(k'+1) * b.surf+(k'+1) * b.inn:=by rw [← hsi,Nat.mul_add]
      have e3:b.surf≤(k'+1) * b.surf:=Nat.le_mul_of_pos_left _ (by omega);rw [Nat.mul_comm B];omega
    omega
   ·rw [XS,if_pos hb,y2 g (by omega) m (G9 hm)];have hm2:=Dq hm;simp only;rw [if_neg (by simp [Fe]),r8 g (by omega) _ (G9 hm2)];simp only;rw [q8 g (by omega) _ (Dq hm2),EG,EG];simp only [AwS]
  ·rw [if_neg hb] at hk;simp only [AwP,AwQ] at hk;obtain ⟨rfl,rfl,_⟩:=hk;have hb0:Ae op i=0:=by omega
   have hrel:=hA 0 p k (by simpa using hb0) rfl rfl;obtain ⟨kr,cr,ur,Tr,Nr,r1,r2,r3,r4,r5,r6,r7,F2,r8⟩:=ih s nd k _ _ t s2 nd2 hr h0 p hrel;obtain ⟨kk,cc,uu,TT,NN,q1,q2,q3,q4,q5,q6,q7,F3,q8⟩:=XC ih op u d n n' kp0 ts e env he l lp (i+1) s2 nd2 ts2 s3 nd3 hrest (by omega) (by omega) (by simpa using hl) hA' hB';refine ⟨kr+kk,cr+cc,ur+uu,Tr+TT,Nr+NN,by omega,by omega,q3,fun h=>q4 (r4 h),?_,by omega,by omega,F2+F3,fun g hg m hm=>?_⟩
   ·rw [RV.vszL,if_neg hb,Nat.mul_add];omega
   ·rw [XS,if_neg hb];simp only;rw [if_neg (fun h=>h hm.e),r8 g (by omega) _ (G9 hm)];simp only;rw [q8 g (by omega) _ (Dq hm),EG];simp only [AwS]
theorem Ko (B:Nat):∀f,Amc B f:=by
 intro f
 induction f with
 | zero=>intro s nd v u d t s' nd' h;rw [AS] at h;cases h
 | succ f ih =>
  intro s nd v u d t s' nd' h h0 v' hv;rw [AS] at h;split at h
  ·cases h
  rename_i hr;by_cases hbig:3000<nd+1∨120<d
  ·rw [if_pos (show (0:Int)=0∧(3000<nd+1∨120<d) from ⟨rfl,hbig⟩)] at h
   simp at h
  rw [if_neg (show ¬ ((0:Int)=0∧(3000<nd+1∨120<d)) from fun h=>hbig h.2),if_neg (by simp)] at h
  have htick:∀{m:M3} {k T:Nat},MOk m k (1+T)→HK ⟨m.s,m.w,if m.e=0∧(3000<nd+1∨120<d) then 5 else m.e⟩=some (Fe m 0 1):=by
   intro m k T hm;rw [if_neg (fun h=>hbig h.2)];exact Ms hm
  by_cases h1:v.op=1
  ·rw [if_pos h1] at h;simp only [AwP,AwQ] at h;obtain ⟨rfl,rfl,rfl,_⟩:=h;obtain ⟨op,n,k,t0,e0,rfl,ho,hn⟩:=J4 hv;have hvz:v.vsz=1:=by
    cases hv with
    | var n=>simp [RV.var,RV.vsz,RV.vszL]
    | node op n n' kp kr ts e env h1'=>exact absurd h1 h1'
   refine ⟨0,0,0,1,1,by omega,by omega,by omega,id,by omega,by omega,by omega,1,fun g hg m hm=>?_⟩;obtain ⟨g,rfl⟩:∃k,g=k+1:=⟨g - 1,by omega⟩;rw [Vb,if_neg (by omega),htick (k:=0) (T:=0) hm];simp only;rw [if_neg (by simp [Fe]),if_pos (by rw [← ho];exact h1),if_neg (by rw [← hn];omega),hn]
  ·rw [if_neg h1] at h;obtain ⟨n',kp,ts,e,env,rfl,b1,b2,b3,b4,b5,b6⟩:=GH hv h1;have b14:=Ajk b1;cases hk:Ba (fun s nd e k u=>AS f s nd e k u (d+1)) f v.op u 0 v.k s (nd+1) 0 with
   | none=>rw [hk] at h;cases h
   | some q =>
   obtain ⟨rs,s1,nd1,e1⟩:=q;rw [hk] at h;simp only [AwS,AwP,AwQ] at h;obtain ⟨rfl,rfl,rfl,rfl⟩:=h;obtain ⟨kk,cc,uu,TT,NN,q1,q2,q3,q4,q5,q6,q7,F3,q8⟩:=XC ih v.op u d v.n n' kp ts e env b6 v.k kp 0 s (nd+1) rs s1 nd1 hk (by omega) (by omega) (by omega) (fun j p r a b c=>b4 j p r (by simpa using a) b c) (by
    intro j r a b;rw [Nat.zero_add] at a ⊢;have hj:j<ts.length:=by
     have:=(List.getElem?_eq_some_iff.1 b).1
     omega
    obtain ⟨⟨g1,g2⟩,_,g3⟩:=b5 j ts[j] a (List.getElem?_eq_getElem hj);rw [b,AwP] at g3;exact ⟨ts[j],List.getElem?_eq_getElem hj,g1,g2,g3⟩)
   have hvz:v.vsz=1+RV.vszL v.op 0 v.k:=by obtain ⟨a,b,c,d,e⟩:=v;rw [RV.vsz];rfl
   refine ⟨kk,cc,uu,1+TT,1+NN,q1,by omega,q3,q4,by omega,by omega,by omega,F3+20,fun g hg m hm=>?_⟩;obtain ⟨g,rfl⟩:∃k,g=k+1:=⟨g - 1,by omega⟩;have hm':MOk (Fe m 0 1) kk TT:=Dq (k1:=0) ⟨hm.e,hm.w,hm.w2,by have:=hm.s;omega,hm.s2⟩;rw [Vb,if_neg (by omega),htick hm];simp only;rw [if_neg (by simp [Fe]),if_neg h1,if_neg (by omega),q8 g (by omega) _ hm',EG];simp only [Nat.zero_add]
theorem Ah2 {f:Nat} {t u:Tm} (hg:t.good) (hw:t.wt≤3000) (hs:t.shaped=true) (h:AI f t=some (u,0)):∃F,∀g,F≤g→Ns g t=some (u,0):=by
 rw [AI] at h;split at h
 ·cases h
 rename_i v s e he;split at h
 ·cases h
 rename_i w s2 nd2 e2 hr;simp only [AwP] at h;by_cases h2:e2=0
 ·subst h2;rw [if_neg (by simp)] at h;simp only [AwQ,and_true] at h;subst h;have h1:=Cr hr;subst h1;obtain ⟨k0,c0,u0,T0,a1,a2,a3,v',a4,F0,a5⟩:=FW 3000 f 0 t [] v s he hg hw [] (Et _);obtain ⟨k1,c1,u1,T1,N,r1,r2,r3,r4,r5,r6,r7,F1,r8⟩:=Ko 3000 f s 0 v 0 1 w s2 nd2 hr (by omega) v' a4;have hs1:=(VV f).1 _ _ _ _ _ he (by omega);have hs2:=r4 hs1;have hc:=Jx a2;have hp:=a2.p;have hk:k0+k1≤1000:=by omega
  have hc2:(k0+1) * t.wt≤(k0+1) * 3000:=Nat.mul_le_mul_left _ hw;have hvp:=ND v;refine ⟨F0+F1,fun g hg=>?_⟩;have hm:MOk ⟨100000,5000000,0⟩ (k0+k1) (T0+T1):=⟨rfl,by simp only;omega,by simp,by simp only;omega,by simp⟩;rw [Ns,if_neg (by rw [hs];simp),a5 g (by omega) _ (G9 hm)];simp only;rw [if_neg (by simp [Fe]),r8 g (by omega) _ (Dq hm)];simp only;rw [if_neg (by simp [Fe])]
 ·rw [if_pos h2] at h;simp only [AwQ] at h;exact absurd h.2 h2
theorem Anb {t:Tm} (h:(t.chk 0 1).2=0):t.wt≤3000∧(t.chk 0 1).1=t.wt:=by
 have:=(AfS t 0 1 (by omega)).2.2 h
 omega
theorem Amf {G:List Nat} {t u:Tm} {s k f:Nat} (ht:HasT G t s) (hsc:t.sc k) (hk:k≤100000) (hw:t.wt≤3000) (h:AI f t=some (u,0)):Ev 55 [.fv t.enc] (.tuple [u.enc,.int .i64 0]):=by
 obtain ⟨F,hF⟩:=Ah2 (Hc ht k hsc (by omega)) hw (G3 t k hsc) h;exact ⟨F+10000,fun n hn=>Pb (f:=F) (hF F (Nat.le_refl _)) (by omega) (by omega) (by omega)⟩
theorem Adk (ih:Aa) (xs:List IV) (h0:Hp) (k:IV→Hp→List Ref→List Ref→Option (IV×Hp)):D8 EE ih (.fv (.func (.func 57) [] [])) xs h0 k=Al [] false false ih 57 xs h0 k :=
 AiQ (by kernel_rfl) (by kernel_rfl) (by kernel_rfl) (by kernel_rfl) ..
theorem AnG {n:Nat} (ka kb:List Tm) (hn:ka.length<n) (hl:ka.length≤1000000000) (ih:∀a∈ka,∀b∈kb,Bc (SS dt n 57 [.fv a.enc,.fv b.enc] ⟨[],[]⟩) (.bool (a.same b))) :
  Bc (SS dt (n+1) 69 [.fv (.sl (ka.map Tm.enc)),.fv (.sl (kb.map Tm.enc)),.fv (.func (.func 57) [] [])] ⟨[],[]⟩) (.bool (decide (ka.length=kb.length) && Tm.sameL ka kb)):=by
 rw [c69];by_cases h:ka.length=kb.length
 ·have h':(ka.length:Int)=kb.length:=by omega
  rw [decide_eq_true h,Bool.true_and];simp only [MR,Mg,Mi,Mt,MO,S69,↓XX,XY,↓reduceIte,Nat.reduceBEq,Nat.reduceAdd,Int.reduceEq,Int.reduceLT,Int.reduceLE,h',↓AD,XD,heldB,AL,XE];refine A6 (Q:=fun r=>Bc r _) (fun k V H=>∃pa ra pb rb,ka=pa++ra∧kb=pb++rb∧pa.length=pb.length∧ra.length=k∧V=[.fv (.sl (kb.map Tm.enc)),.fv (.func (.func 57) [] []),.fv (.sl (ka.map Tm.enc)),iv ka.length,iv pa.length]∧H=⟨[],[]⟩∧Tm.sameL ra rb=Tm.sameL ka kb)
   ?_ n ka.length _ _ hn ⟨[],ka,[],kb,rfl,rfl,rfl,rfl,by rw [h];rfl,rfl,rfl⟩
  rintro k V H rec ⟨pa,ra,pb,rb,hka,hkb,hpl,hk,rfl,rfl,hs⟩ hrec;have hal:ka.length=pa.length+ra.length:=by rw [hka];simp
  have hbl:kb.length=pb.length+rb.length:=by rw [hkb];simp
  cases ra with
  | nil =>
   have hno:¬ ((pa.length:Int)<ka.length):=by rw [hal];simp
   rw [← hs];simp only [MR,Mg,Mi,Mt,Pd,MO,S69,↓XX,XY,↓reduceIte,Nat.reduceBEq,Nat.reduceAdd,Int.reduceEq,Int.reduceLT,Int.reduceLE,hno,Tm.sameL];exact Ao _ _
  | cons a ra =>
   simp only [AwT] at hal hk;cases rb with
   | nil=>simp only [List.length_nil] at hbl;omega
   | cons b rb =>
    have hi:(pa.length:Int)<ka.length:=by omega
    have hga:=Ce hka;have hgb:=Ce hkb;rw [← hpl] at hgb;have hc:=ih a (by rw [hka];simp) b (by rw [hkb];simp);have hwi:BI ((pa.length:Int)+1)=((pa++[a]).length:Int):=(As (by omega) (by omega)).trans (by simp);simp only [Tm.sameL] at hs;generalize a.same b=v at hc hs;obtain ⟨o,p,l⟩:=a;obtain ⟨o2,p2,l2⟩:=b;simp only [Ai] at hc;cases v
    ·rw [← hs];simp only [MR,Mg,Mi,Mt,Pd,MO,S69,↓XX,XY,↓reduceIte,Nat.reduceBEq,Nat.reduceAdd,Int.reduceEq,Int.reduceLT,Int.reduceLE,hi,↓Bq (AO hga) (A9 _ _ _),↓Bq (AO hgb) (A9 _ _ _),↓Cb,↓Adk,↓Ag hc];exact Ao _ _
    ·simp only [MR,Mg,Mi,Mt,Pd,MO,S69,↓XX,XY,↓reduceIte,Nat.reduceBEq,Nat.reduceAdd,Int.reduceEq,Int.reduceLT,Int.reduceLE,hi,↓Bq (AO hga) (A9 _ _ _),↓Bq (AO hgb) (A9 _ _ _),↓Cb,↓Adk,↓Ag hc,hwi,↓AD,XD,heldB,AL,XE];exact hrec ra.length _ _ (by omega) ⟨pa++[.mk o p l],ra,pb++[.mk o2 p2 l2],rb,by rw [hka];simp,by rw [hkb];simp,by simp [hpl],rfl,rfl,rfl,by simpa using hs⟩
 ·have h':¬ (ka.length:Int)=kb.length:=by omega
  rw [decide_eq_false h,Bool.false_and];simp only [MR,Mg,Mi,Mt,Pd,MO,S69,↓XX,XY,↓reduceIte,Nat.reduceBEq,Nat.reduceAdd,Int.reduceEq,Int.reduceLT,Int.reduceLE,h'];exact Ao _ _
theorem VP:∀(n:Nat) (a b:Tm),2 * a.wt+2<n→a.wt≤100000000→Bc (SS dt n 57 [.fv a.enc,.fv b.enc] ⟨[],[]⟩) (.bool (a.same b)):=by
 intro n
 induction n using Nat.strongRecOn with
 | ind n ih =>
  intro a b hn hw;obtain ⟨o,m,ka⟩:=a;obtain ⟨o',m',kb⟩:=b;simp only [Tm.wt] at hn hw;obtain ⟨n,rfl⟩:∃k,n=k+1+1:=⟨n - 2,by omega⟩;have hlen:=Db ka;have hq:=AnG (n:=n) ka kb (by omega) (by omega) (fun a ha b _=>ih n (by omega) a b (by have:=BN ha;omega) (by have:=BN ha;omega));rw [c57,Ai,Ai,Tm.same];generalize (decide (ka.length=kb.length) && Tm.sameL ka kb)=v at hq;by_cases h1:o=o'
  ·by_cases h2:m=m'
   ·subst h1 h2;simp only [To,T9,Uv,S57,↓XX,XY,↓reduceIte,Nat.reduceBEq,Nat.reduceAdd,Int.reduceEq,Int.reduceLT,Int.reduceLE,↓AZ hq];exact Ao _ _
   ·have h2':=decide_eq_false h2;subst h1;simp only [To,T9,Uv,S57,↓XX,XY,↓reduceIte,Nat.reduceBEq,Nat.reduceAdd,Int.reduceEq,Int.reduceLT,Int.reduceLE,h2];exact Ao _ _
  ·simp only [To,T9,Uv,S57,↓XX,XY,↓reduceIte,Nat.reduceBEq,Nat.reduceAdd,Int.reduceEq,Int.reduceLT,Int.reduceLE,h1];exact Ao _ _
theorem Kr {n:Nat} (hn:0<n) (o m:Int) (ks:List Tm) (d:Int) (h1:-4611686018427387904≤m+d) (h2:m+d≤4611686018427387904):Bc (SS dt n 93 [.fv (Tm.mk o m ks).enc,iv d] ⟨[],[]⟩) (Tm.mk 1 (m+d) []).enc:=by
 obtain ⟨n,rfl⟩:∃k,n=k+1:=⟨n - 1,by omega⟩;rw [c93,Ai,Ai];have hw:BI (m+d)=m+d:=by rw [As]<;>omega
 simp only [AiH,S93,↓XX,XY,↓reduceIte,Nat.reduceBEq,Nat.reduceAdd,Int.reduceEq,Int.reduceLT,Int.reduceLE,hw];exact Bh rfl _
theorem W6 {ks:List Bool} {ih:Aa} {f:FuncId} {args:List IV} {vs:List FV} {w:FV} {u:List (Ref×Blk)} {lg:List Ref} {own own':List (Nat×Blk)}
  (hz:∀(e:Option (IV×Hp)) (k:List IV→List Ref→List (Ref×Blk)→List Ref→Option (IV×Hp)),Vg args ks ⟨own,[]⟩ [] e k=k (vs.map .fv) [] u lg)
  (hr:JV (ih f (vs.map .fv) ⟨[],[]⟩) w) (hlay:∀k:Hp→Option (IV×Hp),Mb u ⟨own,[]⟩ k=k ⟨own',[]⟩) (k:IV→Hp→List Ref→List Ref→Option (IV×Hp)) :
  Al ks false false ih f args ⟨own,[]⟩ k=k (.fv w) ⟨own',[]⟩ lg (Bw u):=by
 rw [PY,hz,AqX hr,hlay]
theorem Aim {g:FuncId} (h:EE.pol.inl g=false) (h1:EE.pol.keep g=[]) (h2:EE.pol.split g=false) (h3:EE.pol.raw g=false) (caps:List FV) (ih:Aa) (xs:List IV) (h0:Hp) (k:IV→Hp→List Ref→List Ref→Option (IV×Hp)) :
  D8 EE ih (.fv (.func (.func g) [] caps)) xs h0 k=Al [] false false ih g (xs++caps.map .fv) h0 k:=by
 unfold D8;simp only [callee,h,cond_false,AjZ,h1,h2,h3,AwU,List.nil_append]
theorem So (s:Nat) (b c:Blk) (l:List (Nat×Blk)):AN s b ((s,c)::l)=(s,b)::l:=by simp only [AN,if_true]
theorem NF {s j:Nat} (h:(s == j)=false) (b c:Blk) (l:List (Nat×Blk)):AN s b ((j,c)::l)=(j,c)::AN s b l:=by
 have:¬ s=j:=by simpa using h
 simp only [AN,if_neg this]
theorem Ame (fn:Fn) (r r':Ref) (o o':Nat):CS fn [] [.ptr r o,.ptr r' o']=.func fn [] [.ptr r o,.ptr r' o']:=rfl
theorem Aoh (fn:Fn) (r:Ref) (o:Nat):CS fn [] [.ptr r o]=.func fn [] [.ptr r o]:=rfl
theorem AiO {d s:Nat} {cs:List FV} {ro:Bool} {own:List (Nat×Blk)} {ext:List Blk} (hl:Ap s own=some (.row (cs.map .fv) ro)) (hn:cs.length≤300) (lg:List Ref) (e:Option (IV×Hp)) (k:FV→List (Ref×Blk)→List Ref→Option (IV×Hp)) :
  Dj (d+2) (.ptr (.own s) 0) ⟨own,ext⟩ lg e k=k (.fp cs 0) [(.own s,.row (cs.map .fv) true)] (.own s::lg):=by
 show (Da (.own s) ⟨own,ext⟩ fun b=>DB b fun cells=>cond (Nat.ble cells.length 300) (Cz (Dj (d+1)) cells ⟨own,ext⟩ (.own s::lg) e fun cs u lg=>k (.fp cs 0) ((.own s,.row cells true)::u) lg) e)=_
 rw [KS,Bk,hl];simp only [Option.bind_some,HS,List.length_map];rw [Bb,decide_eq_true hn,c_t,O2]
theorem AnA {s1 s2:Nat} {c1 c2:List FV} {r1 r2:Bool} {fn:Fn} {own:List (Nat×Blk)} {ext:List Blk} (h1:Ap s1 own=some (.row (c1.map .fv) r1)) (h2:Ap s2 own=some (.row (c2.map .fv) r2)) (n1:c1.length≤300) (n2:c2.length≤300)
  (lg:List Ref) (e:Option (IV×Hp)) (k:FV→List (Ref×Blk)→List Ref→Option (IV×Hp)) :
  Dj 12 (.func fn [] [.ptr (.own s1) 0,.ptr (.own s2) 0]) ⟨own,ext⟩ lg e k=k (.func fn [] [.fp c1 0,.fp c2 0]) [(.own s1,.row (c1.map .fv) true),(.own s2,.row (c2.map .fv) true)] (.own s2 :: .own s1::lg):=by
 show (Cz (Dj 11) [] ⟨own,ext⟩ lg e fun x u lg=>Cz (Dj 11) [.ptr (.own s1) 0,.ptr (.own s2) 0] ⟨own,ext⟩ lg e fun y v lg=>Nw u v fun w=>k (.func fn x y) w lg)=_
 rw [fl0,WF,AiO (d:=9) h1 n1,WF,AiO (d:=9) h2 n2,fl0];rfl
theorem AnU {s1:Nat} {c1:List FV} {r1:Bool} {fn:Fn} {own:List (Nat×Blk)} {ext:List Blk} (h1:Ap s1 own=some (.row (c1.map .fv) r1)) (n1:c1.length≤300)
  (lg:List Ref) (e:Option (IV×Hp)) (k:FV→List (Ref×Blk)→List Ref→Option (IV×Hp)) :
  Dj 12 (.func fn [] [.ptr (.own s1) 0]) ⟨own,ext⟩ lg e k=k (.func fn [] [.fp c1 0]) [(.own s1,.row (c1.map .fv) true)] (.own s1::lg):=by
 show (Cz (Dj 11) [] ⟨own,ext⟩ lg e fun x u lg=>Cz (Dj 11) [.ptr (.own s1) 0] ⟨own,ext⟩ lg e fun y v lg=>Nw u v fun w=>k (.func fn x y) w lg)=_
 rw [fl0,WF,AiO (d:=9) h1 n1,fl0];rfl
theorem AaA {ih:Aa} {f:FuncId} {x y w:FV} {a b:IV} {fn:Fn} {s1 s2:Nat} {c1 c2:List FV} {r1 r2:Bool} {own own':List (Nat×Blk)} (hr:JV (ih f [.fv x,.fv y,.fv (.func fn [] [.fp c1 0,.fp c2 0])] ⟨[],[]⟩) w) (ha:A8 a=some x) (hb:A8 b=some y)
  (h1:Ap s1 own=some (.row (c1.map .fv) r1)) (h2:Ap s2 own=some (.row (c2.map .fv) r2)) (h2':Ap s2 (AN s1 (.row (c1.map .fv) true) own)=some (.row (c2.map .fv) r2)) (n1:c1.length≤300) (n2:c2.length≤300)
  (ho:AN s2 (.row (c2.map .fv) true) (AN s1 (.row (c1.map .fv) true) own)=own') (k:IV→Hp→List Ref→List Ref→Option (IV×Hp)) :
  Al [] false false ih f [a,b,.func fn [] [.ptr (.own s1) 0,.ptr (.own s2) 0]] ⟨own,[]⟩ k=k (.fv w) ⟨own',[]⟩ [.own s2,.own s1] [.own s1,.own s2]:=by
 subst ho;refine W6 (vs:=[x,y,.func fn [] [.fp c1 0,.fp c2 0]]) (u:=[(.own s1,.row (c1.map .fv) true),(.own s2,.row (c2.map .fv) true)]) (lg:=[.own s2,.own s1]) ?_ hr ?_ k
 ·intro e k;rw [fz1,JP _ _ e _ ha,fz1,JP _ _ e _ hb,fz1,AnA h1 h2 n1 n2,fz0];rfl
 ·intro k
  show (Fs own s1 fun _=>A0 own s1 (.row (c1.map .fv) true) fun own=>Fs own s2 fun _=>A0 own s2 (.row (c2.map .fv) true) fun own=>k ⟨own,_⟩)=_
  rw [Bk,h1,Option.bind_some,Bu,Bk,h2',Option.bind_some,Bu]
theorem AjO {ih:Aa} {f:FuncId} {x y w:FV} {a b:IV} {fn:Fn} {s1:Nat} {c1:List FV} {r1:Bool} {own own':List (Nat×Blk)} (hr:JV (ih f [.fv x,.fv y,.fv (.func fn [] [.fp c1 0])] ⟨[],[]⟩) w) (ha:A8 a=some x) (hb:A8 b=some y)
  (h1:Ap s1 own=some (.row (c1.map .fv) r1)) (n1:c1.length≤300) (ho:AN s1 (.row (c1.map .fv) true) own=own') (k:IV→Hp→List Ref→List Ref→Option (IV×Hp)) :
  Al [] false false ih f [a,b,.func fn [] [.ptr (.own s1) 0]] ⟨own,[]⟩ k=k (.fv w) ⟨own',[]⟩ [.own s1] [.own s1]:=by
 subst ho;refine W6 (vs:=[x,y,.func fn [] [.fp c1 0]]) (u:=[(.own s1,.row (c1.map .fv) true)]) (lg:=[.own s1]) ?_ hr ?_ k
 ·intro e k;rw [fz1,JP _ _ e _ ha,fz1,JP _ _ e _ hb,fz1,AnU h1 n1,fz0];rfl
 ·intro k
  show (Fs own s1 fun _=>A0 own s1 (.row (c1.map .fv) true) fun own=>k ⟨own,_⟩)=_
  rw [Bk,h1,Option.bind_some,Bu]
mutual
def Tm.each (g:Tm→Int→Tm):Tm→Int→Tm
 | .mk op m ks,a=>if op=1 then g (.mk op m ks) a else .mk op m (Tm.eachL g op 0 ks a)
def Tm.eachL (g:Tm→Int→Tm):Int→Nat→List Tm→Int→List Tm
 | _,_,[],_=>[]
 | op,i,t::l,a=>t.each g (a+Ae op i)::Tm.eachL g op (i+1) l a
end
abbrev Asj (op m:Int) (ks done:List Tm) (r:Nat):Hp :=
 ⟨[(95420416,.row [iv op,iv m,.fv (.sl (ks.map Tm.enc))] false),(95420417,.row [iv 0,iv 0,.nils] false),(95423491,.row (BG done r) false)],[]⟩
set_option maxRecDepth 20000 in
set_option maxHeartbeats 1000000 in
theorem AeK {F:FuncId} {caps:List FV} {g:Tm→Int→Tm} {c:Nat} (hd:∀(ih:Aa) (xs:List IV) (h0:Hp) (k:IV→Hp→List Ref→List Ref→Option (IV×Hp)),D8 EE ih (.fv (.func (.func F) [] caps)) xs h0 k=Al [] false false ih F (xs++caps.map .fv) h0 k)
  (P:Tm→Int→Prop) (hP:∀op m ks a i t,P (.mk op m ks) a→ks[i]?=some t→op≠1→P t (a+Ae op i))
  (hg:∀n,c<n→∀m ks a,P (.mk 1 m ks) a→Bc (SS dt n F (.fv (Tm.mk 1 m ks).enc::iv a::caps.map .fv) ⟨[],[]⟩) (g (.mk 1 m ks) a).enc) :
  ∀(n:Nat) (t:Tm) (a:Int),t.wt+c+3<n→t.wk→0≤a→a+2 * t.wt≤1000000000→P t a→JV (SS dt n 91 [.fv t.enc,iv a,.fv (.func (.func F) [] caps)] ⟨[],[]⟩) (t.each g a).enc:=by
 intro n
 induction n with
 | zero=>intro t a h;omega
 | succ n ih =>
  intro t a hn hk ha ha2 hPt;obtain ⟨op,m,ks⟩:=t;simp only [Tm.wt] at hn ha2;rw [c91];have hlen:=Db ks;rw [Tm.wk] at hk;by_cases h1:op=1
  ·subst h1;rw [Tm.each,if_pos rfl];have hc:=hg n (by omega) m ks a hPt;generalize g (.mk 1 m ks) a=u at hc;obtain ⟨o,p,l⟩:=u;rw [Ai] at hc ⊢;rw [Ai] at hc ⊢;have hi:∀(own:List (Nat×Blk)) (k:IV→Hp→List Ref→List Ref→Option (IV×Hp)),Al [] false false (SS dt n) F ([.fv (.agg [.int .i64 1,.int .i64 m,.sl (ks.map Tm.enc)]),iv a]++caps.map .fv) ⟨own,[]⟩ k=k (.fv (.agg [.int .i64 o,.int .i64 p,.sl (l.map Tm.enc)])) ⟨own,[]⟩ [] []:=by
    intro own k;refine PN (vs:=.agg [.int .i64 1,.int .i64 m,.sl (ks.map Tm.enc)] :: .int .i64 a::caps) ?_ hc ⟨own,[]⟩ k;have hcaps:∀l:List FV,Bz (l.map .fv)=some l:=by
     intro l
     induction l with
     | nil=>rfl
     | cons x l ih=>simp [Bz,ih,A8,Gf]
    simp [Bz,hcaps,A8,Gf,iv]
   simp only [Kq,Kz,LH,KC,L0,KM,Li,LB,LG,Lq,S91,↓XX,XY,↓reduceIte,Nat.reduceBEq,Nat.reduceAdd,Int.reduceEq,Int.reduceLT,Int.reduceLE,↓hd,↓hi];exact Cp _ _
  ·rw [Tm.each,if_neg h1,Ai,Ai];simp only [Kq,Kz,LH,KC,L0,KM,Li,LB,LG,Lq,S91,↓XX,XY,↓reduceIte,Nat.reduceBEq,Nat.reduceAdd,Int.reduceEq,Int.reduceLT,Int.reduceLE,h1,↓Am2 (show ks.length≤1000 by omega),↓AD,XD,heldB,AL,XE,Hv,Fy]
   refine A6 (Q:=fun r=>JV r _) (fun k V H=>∃(pre rest done:List Tm),ks=pre++rest∧rest.length=k∧done.length=pre.length ∧
     V=[iv a,.fv (.func (.func F) [] caps),.ptr (.own 95420416) 0,.ptr (.own 95420417) 0,.slc (.own 95423491) 3 ks.length,.fv (.sl (ks.map Tm.enc)),iv ks.length,iv pre.length] ∧
     H=Asj op m ks done rest.length∧done++Tm.eachL g op pre.length rest a=Tm.eachL g op 0 ks a)
    ?_ n ks.length _ _ (by omega) ⟨[],ks,[],rfl,rfl,rfl,rfl,rfl,rfl⟩
   rintro k V H rec ⟨pre,rest,done,hks,hl,hdl,rfl,rfl,hts⟩ hrec;have hkl:ks.length=pre.length+rest.length:=by rw [hks];simp
   cases rest with
   | nil =>
    have hno:¬ ((pre.length:Int)<ks.length):=by rw [hkl];simp
    rw [Tm.eachL,List.append_nil] at hts;rw [← hts];simp only [Kq,Kz,LH,KC,L0,KM,Li,LB,Ri,LG,Lq,S91,↓XX,XY,↓reduceIte,Nat.reduceBEq,Nat.reduceAdd,Int.reduceEq,Int.reduceLT,Int.reduceLE,hno];rw [show ks.length=done.length by rw [hdl,hkl];simp]
    exact ⟨_,_,rfl,_,_,fun e0 K=>Af7 (by rfl) (by simp only [List.length_nil] at hkl;omega) [] e0 K⟩
   | cons x rest =>
    have hi:(pre.length:Int)<ks.length:=by rw [hkl];simp;omega
    have hg2:=Ce hks;have hxw:=BN (t:=x) (l:=ks) (by rw [hks];simp);have hb:=Le (n:=n) (by omega) op pre.length;have hble:=AU op pre.length;have hs:=ih x (a+Ae op pre.length) (by omega) (ME hk.2 (by rw [hks];simp)) (by omega) (by omega) (hP _ _ _ _ _ _ hPt hg2 h1);have hwa:BI (a+Ae op pre.length)=a+Ae op pre.length:=by rw [As]<;>omega
    have hwi:BI ((pre.length:Int)+1)=((pre++[x]).length:Int):=(As (by omega) (by omega)).trans (by simp);have hin:pre.length<ks.length:=by omega
    rw [Tm.eachL] at hts;generalize x.each g (a+Ae op pre.length)=y at hs hts;have hst:=fun {β:Type}=>Acf (β:=β) done rest.length y.op y.n y.kids;rw [hdl] at hst;obtain ⟨o,p,l⟩:=x;obtain ⟨o2,p2,l2⟩:=y;simp only [Tm.op,Tm.n,Tm.kids] at hst;rw [Ai,Ai] at hs;simp only [AwT] at hl;simp only [Kq,Kz,LH,KC,L0,KM,Li,LB,Ri,LG,Lq,S91,↓XX,XY,↓reduceIte,Nat.reduceBEq,Nat.reduceAdd,Int.reduceEq,Int.reduceLT,Int.reduceLE,hi,↓Bq (AO hg2) (A9 _ _ _),↓Cb,↓Ag hb,hwa,hwi,↓AZ (AhB hs),↓O0 hin,↓hst,↓AD,XD,heldB,AL,XE,Hv,Fy];exact hrec rest.length _ _ (by omega) ⟨pre++[.mk o p l],rest,done++[.mk o2 p2 l2],by rw [hks];simp,rfl,by simp [hdl],rfl,rfl,by rw [← hts];simp⟩
def GQ (d c:Int):Tm→Int→Tm
 | .mk _ m _,a=>.mk 1 (if c≤m - a then m+d else m) []
def scP (K:Nat) (t:Tm) (a:Int):Prop:=0≤a∧∃k:Nat,t.sc k∧(k:Int)≤K+a
theorem RE {K:Nat} (op m:Int) (ks:List Tm) (a:Int) (i:Nat) (t:Tm) (h:scP K (.mk op m ks) a) (hg:ks[i]?=some t) (_:op≠1):scP K t (a+Ae op i):=by
 obtain ⟨h0,k,hk,hl⟩:=h;rw [Tm.sc] at hk
 have:=JU hk.2.2 hg
 rw [Nat.zero_add] at this;exact ⟨by omega,_,this,by omega⟩
theorem Rg {K:Nat} {m a:Int} {ks:List Tm} (h:scP K (.mk 1 m ks) a):ks=[]∧0≤m∧m<K+a∧0≤a:=by
 obtain ⟨h0,k,hk,hl⟩:=h;rw [Tm.sc,if_pos rfl] at hk;have h1:ar 1=some 0:=by decide
 rw [h1] at hk;have h2:ks.length=0:=by have:=hk.1;simp only [AwP] at this;omega
 exact ⟨List.length_eq_zero_iff.1 h2,hk.2.1.1,by omega,h0⟩
theorem AhE (caps:List FV) (ih:Aa) (xs:List IV) (h0:Hp) (k:IV→Hp→List Ref→List Ref→Option (IV×Hp)):D8 EE ih (.fv (.func (.func 95) [] caps)) xs h0 k=Al [] false false ih 95 (xs++caps.map .fv) h0 k :=
 Aim (by kernel_rfl) (by kernel_rfl) (by kernel_rfl) (by kernel_rfl) caps ..
theorem Afg {n:Nat} (hn:1<n) (d c m a:Int) (ks:List Tm) (hm1:0≤m) (hm2:m≤100000000000) (ha:0≤a) (ha2:a≤100000000000) (hd1:-100000000000≤d) (hd2:d≤100000000000) :
  Bc (SS dt n 95 [.fv (Tm.mk 1 m ks).enc,iv a,.fv (.fp [.int .i64 c] 0),.fv (.fp [.int .i64 d] 0)] ⟨[],[]⟩) (GQ d c (.mk 1 m ks) a).enc:=by
 obtain ⟨n,rfl⟩:∃k,n=k+1:=⟨n - 1,by omega⟩;rw [c95];have hw:BI (m - a)=m - a:=by rw [As]<;>omega
 have h1:=Kr (n:=n) (by omega) 1 m ks d (by omega) (by omega);have h0:=Kr (n:=n) (by omega) 1 m ks 0 (by omega) (by omega);rw [Ai] at h1 h0 ⊢;rw [GQ];by_cases h:c≤m - a
 ·rw [if_pos h];rw [Ai] at h1 ⊢;simp only [Yu,X1,Xo,S95,↓XX,XY,↓reduceIte,Nat.reduceBEq,Nat.reduceAdd,Int.reduceEq,Int.reduceLT,Int.reduceLE,hw,h,↓Ag h1];exact Ao _ _
 ·rw [if_neg h];rw [Int.add_zero,Ai] at h0;rw [Ai];simp only [Yu,X1,Xo,S95,↓XX,XY,↓reduceIte,Nat.reduceBEq,Nat.reduceAdd,Int.reduceEq,Int.reduceLT,Int.reduceLE,hw,h,↓Ag h0];exact Ao _ _
theorem AgA {n:Nat} {t:Tm} {d c:Int} {K:Nat} (hn:t.wt+6<n) (hw:t.wk) (h2:2 * t.wt≤1000000000) (hs:t.sc K) (hK:K≤1000000000) (hd1:-1000000000≤d) (hd2:d≤1000000000) :
  Bc (SS dt n 94 [.fv t.enc,iv d,iv c] ⟨[],[]⟩) (t.each (GQ d c) 0).enc:=by
 obtain ⟨n,rfl⟩:∃k,n=k+1:=⟨n - 1,by omega⟩;rw [c94];have hc:=AeK (F:=95) (caps:=[.fp [.int .i64 c] 0,.fp [.int .i64 d] 0]) (g:=GQ d c) (c:=1) (AhE _) (fun t a=>scP K t a∧a≤1000000000∧a+2 * t.wt≤1000000000)
  (fun op m ks a i t h hg ho=>⟨RE op m ks a i t h.1 hg ho,by
   have hb:=AU op i;have hwm:=BN (List.mem_of_getElem? hg)
   have:=h.2.2
   simp only [Tm.wt] at this;omega,by
   have hb:=AU op i;have hwm:=BN (List.mem_of_getElem? hg)
   have:=h.2.2
   simp only [Tm.wt] at this;omega⟩)
  (fun n hn m ks a h=>by
   obtain ⟨rfl,h1,h2,h3⟩:=Rg h.1;exact Afg hn d c m a [] h1 (by omega) h3 (by omega) (by omega) (by omega))
  n t 0 (by omega) hw (by omega) (by omega) ⟨⟨by omega,K,hs,by omega⟩,by omega,by omega⟩
 generalize t.each (GQ d c) 0=y at hc;obtain ⟨o2,p2,l2⟩:=y;obtain ⟨o,p,l⟩:=t;rw [Ai,Ai] at hc;rw [Ai,Ai];simp only [Ahm,S94,↓XX,XY,↓reduceIte,Nat.reduceBEq,Nat.reduceAdd,Int.reduceEq,Int.reduceLT,Int.reduceLE,↓gen_val',↓Ame];rw [AaA hc rfl rfl (by rfl) (by rfl) (by rfl) (by simp) (by simp) rfl];simp only [↓XX,XY,↓reduceIte,Nat.reduceBEq,Nat.reduceAdd,Int.reduceEq,Int.reduceLT,Int.reduceLE,↓So,↓NF];exact Ao _ _
mutual
theorem Pe (d c:Int):∀(t:Tm) (k:Nat) (a:Int),t.sc k→k+2 * t.wt≤2000000000→-1000000000≤d→d≤1000000000→t.each (GQ d c) a=t.shift d (c+a)
 | .mk op m ks,k,a,h,hk,h1,h2=>by
  rw [Tm.sc] at h;rw [Tm.wt] at hk;by_cases ho:op=1
  ·subst ho;have h3:ar 1=some 0:=by decide
   rw [h3,if_pos rfl] at h;have h4:ks=[]:=List.length_eq_zero_iff.1 (by have:=h.1;simp only [AwP] at this;omega);subst h4;rw [Tm.each,if_pos rfl,GQ,Tm.shift,Tm.shiftL];have hw:BI (m+d)=m+d:=by
    have:=h.2.1
    rw [As]<;>omega
   rw [hw];by_cases hc:c≤m - a
   ·rw [if_pos hc,if_pos ⟨rfl,by omega⟩]
   ·rw [if_neg hc,if_neg (fun h=>hc (by omega))]
  ·rw [Tm.each,if_neg ho,Tm.shift,if_neg (fun h=>ho h.1)];congr 1
   have:=eachL_shift d c op 0 ks k a h.2.2 (by omega) h1 h2
   exact this
theorem eachL_shift (d c:Int):∀(op:Int) (i:Nat) (l:List Tm) (k:Nat) (a:Int),Tm.scL op i l k→k+2+2 * Tm.wtL l≤2000000000→-1000000000≤d→d≤1000000000→Tm.eachL (GQ d c) op i l a=Tm.shiftL op i l d (c+a)
 | _,_,[],_,_,_,_,_,_=>by rw [Tm.eachL,Tm.shiftL]
 | op,i,t::l,k,a,h,hk,h1,h2=>by
  rw [Tm.scL] at h;rw [Tm.eachL,Tm.shiftL];have hb:=AU op i;rw [Tm.wtL] at hk;rw [Pe d c t (k+Ae op i) (a+Ae op i) h.1 (by omega) h1 h2,eachL_shift d c op (i+1) l k a h.2 (by omega) h1 h2,Int.add_assoc]
end
def In (n:Int) (u:Tm):Tm→Int→Tm
 | .mk _ m _,a=>if n<m - a then .mk 1 (m+-1) [] else if m - a=n then u.each (GQ a 0) 0 else .mk 1 (m+0) []
theorem Ao9 (caps:List FV) (ih:Aa) (xs:List IV) (h0:Hp) (k:IV→Hp→List Ref→List Ref→Option (IV×Hp)):D8 EE ih (.fv (.func (.func 92) [] caps)) xs h0 k=Al [] false false ih 92 (xs++caps.map .fv) h0 k :=
 Aim (by kernel_rfl) (by kernel_rfl) (by kernel_rfl) (by kernel_rfl) caps ..
theorem All {n:Nat} {v:Int} {u:Tm} {K:Nat} (m a:Int) (ks:List Tm) (hn:u.wt+8<n) (hw:u.wk) (h2:2 * u.wt≤1000000000) (hs:u.sc K) (hK:K≤1000000000) (hm1:0≤m) (hm2:m≤100000000000) (ha:0≤a) (ha2:a≤1000000000) :
  Bc (SS dt n 92 [.fv (Tm.mk 1 m ks).enc,iv a,.fv (.fp [.int .i64 v] 0),.fv (.fp [.int .i64 u.op,.int .i64 u.n,.sl (u.kids.map Tm.enc)] 0)] ⟨[],[]⟩) (In v u (.mk 1 m ks) a).enc:=by
 obtain ⟨n,rfl⟩:∃k,n=k+1:=⟨n - 1,by omega⟩;rw [c92];have hw1:BI (m - a)=m - a:=by rw [As]<;>omega
 have h1:=Kr (n:=n) (by omega) 1 m ks (-1) (by omega) (by omega);have h0:=Kr (n:=n) (by omega) 1 m ks 0 (by omega) (by omega);have hsh:=AgA (n:=n) (d:=a) (c:=0) (by omega) hw h2 hs hK (by omega) (by omega);rw [Ai] at h1 h0 ⊢;rw [In];by_cases h:v<m - a
 ·rw [if_pos h];rw [Ai] at h1 ⊢;simp only [UR,RY,Tg,Se,Tu,S92,↓XX,XY,↓reduceIte,Nat.reduceBEq,Nat.reduceAdd,Int.reduceEq,Int.reduceLT,Int.reduceLE,hw1,h,↓Ag h1];exact Ao _ _
 ·rw [if_neg h];by_cases he:m - a=v
  ·have hwv:BI v=v:=by rw [← he];exact hw1
   rw [if_pos he];generalize u.each (GQ a 0) 0=y at hsh;obtain ⟨o2,p2,l2⟩:=y;obtain ⟨o,p,l⟩:=u;rw [Ai,Ai] at hsh;rw [Ai];simp only [UR,RY,Tg,Se,Tu,S92,↓XX,XY,↓reduceIte,Nat.reduceBEq,Nat.reduceAdd,Int.reduceEq,Int.reduceLT,Int.reduceLE,hw1,hwv,h,he,Tm.op,Tm.n,Tm.kids,↓AZ hsh,Int.lt_irrefl];exact Ao _ _
  ·rw [if_neg he];rw [Ai] at h0 ⊢;simp only [UR,RY,Tg,Se,Tu,S92,↓XX,XY,↓reduceIte,Nat.reduceBEq,Nat.reduceAdd,Int.reduceEq,Int.reduceLT,Int.reduceLE,hw1,h,he,↓Ag h0];exact Ao _ _
theorem Aqb {n:Nat} {t u:Tm} {v:Int} {K:Nat} (hn:t.wt+u.wt+14<n) (hw:t.wk) (h2:2 * t.wt≤1000000000) (hs:t.sc K) (hwu:u.wk) (hu2:2 * u.wt≤1000000000) (hsu:u.sc K) (hK:K≤1000000000) :
  Bc (SS dt n 88 [.fv t.enc,iv v,.fv u.enc] ⟨[],[]⟩) (t.each (In v u) 0).enc:=by
 obtain ⟨n,rfl⟩:∃k,n=k+1:=⟨n - 1,by omega⟩;rw [c88];have hc:=AeK (F:=92) (caps:=[.fp [.int .i64 v] 0,.fp [.int .i64 u.op,.int .i64 u.n,.sl (u.kids.map Tm.enc)] 0]) (g:=In v u) (c:=u.wt+8) (Ao9 _) (fun t a=>scP K t a∧a≤1000000000∧a+2 * t.wt≤1000000000)
  (fun op m ks a i t h hg ho=>⟨RE op m ks a i t h.1 hg ho,by
   have hb:=AU op i;have hwm:=BN (List.mem_of_getElem? hg)
   have:=h.2.2
   simp only [Tm.wt] at this;omega,by
   have hb:=AU op i;have hwm:=BN (List.mem_of_getElem? hg)
   have:=h.2.2
   simp only [Tm.wt] at this;omega⟩)
  (fun n hn m ks a h=>by
   obtain ⟨rfl,h1,h2,h3⟩:=Rg h.1;exact All m a [] hn hwu hu2 hsu hK h1 (by omega) h3 (by omega))
  n t 0 (by omega) hw (by omega) (by omega) ⟨⟨by omega,K,hs,by omega⟩,by omega,by omega⟩
 generalize t.each (In v u) 0=y at hc;obtain ⟨o2,p2,l2⟩:=y;obtain ⟨o,p,l⟩:=t;obtain ⟨o3,p3,l3⟩:=u;rw [Ai,Ai] at hc;rw [Ai,Ai,Ai];simp only [Tm.op,Tm.n,Tm.kids] at hc;simp only [Agj,S88,↓XX,XY,↓reduceIte,Nat.reduceBEq,Nat.reduceAdd,Int.reduceEq,Int.reduceLT,Int.reduceLE,↓gen_val',↓Ame];rw [AaA hc rfl rfl (by rfl) (by rfl) (by rfl) (by simp) (by simp) rfl];simp only [↓XX,XY,↓reduceIte,Nat.reduceBEq,Nat.reduceAdd,Int.reduceEq,Int.reduceLT,Int.reduceLE,↓So,↓NF];exact Ao _ _
mutual
def Tm.some1 (g:Int→Int→Bool):Tm→Int→Bool
 | .mk op m ks,a=>if op=1 then g m a else Tm.someL g op 0 ks a
def Tm.someL (g:Int→Int→Bool):Int→Nat→List Tm→Int→Bool
 | _,_,[],_=>false
 | op,i,t::l,a=>t.some1 g (a+Ae op i) || Tm.someL g op (i+1) l a
end
def Ou (v:Int) (m a:Int):Bool:=decide (m - a=v) && decide (a≤m)
theorem Alf (caps:List FV) (ih:Aa) (xs:List IV) (h0:Hp) (k:IV→Hp→List Ref→List Ref→Option (IV×Hp)):D8 EE ih (.fv (.func (.func 90) [] caps)) xs h0 k=Al [] false false ih 90 (xs++caps.map .fv) h0 k :=
 Aim (by kernel_rfl) (by kernel_rfl) (by kernel_rfl) (by kernel_rfl) caps ..
theorem Ai3 {n:Nat} (hn:0<n) (v m a:Int) (hm1:0≤m) (hm2:m≤100000000000) (ha:0≤a) (ha2:a≤1000000000):Bc (SS dt n 90 [iv m,iv a,.fv (.fp [.int .i64 v] 0)] ⟨[],[]⟩) (.bool (Ou v m a)):=by
 obtain ⟨n,rfl⟩:∃k,n=k+1:=⟨n - 1,by omega⟩;rw [c90];have hw1:BI (m - a)=m - a:=by rw [As]<;>omega
 unfold Ou;by_cases h:m - a=v
 ·have hwv:BI v=v:=by rw [← h];exact hw1
  rw [decide_eq_true h];by_cases h':a≤m
  ·rw [decide_eq_true h'];simp only [U1,S90,↓XX,XY,↓reduceIte,Nat.reduceBEq,Nat.reduceAdd,Int.reduceEq,Int.reduceLT,Int.reduceLE,hw1,hwv,h,h'];exact Ao _ _
  ·rw [decide_eq_false h'];simp only [U1,S90,↓XX,XY,↓reduceIte,Nat.reduceBEq,Nat.reduceAdd,Int.reduceEq,Int.reduceLT,Int.reduceLE,hw1,hwv,h,h'];exact Ao _ _
 ·rw [decide_eq_false h];simp only [U1,S90,↓XX,XY,↓reduceIte,Nat.reduceBEq,Nat.reduceAdd,Int.reduceEq,Int.reduceLT,Int.reduceLE,hw1,h];exact Ao _ _
set_option maxRecDepth 20000 in
theorem Als {F:FuncId} {caps:List FV} {g:Int→Int→Bool} {c:Nat} (hd:∀(ih:Aa) (xs:List IV) (h0:Hp) (k:IV→Hp→List Ref→List Ref→Option (IV×Hp)),D8 EE ih (.fv (.func (.func F) [] caps)) xs h0 k=Al [] false false ih F (xs++caps.map .fv) h0 k)
  (P:Tm→Int→Prop) (hP:∀op m ks a i t,P (.mk op m ks) a→ks[i]?=some t→op≠1→P t (a+Ae op i))
  (hg:∀n,c<n→∀m ks a,P (.mk 1 m ks) a→Bc (SS dt n F (iv m::iv a::caps.map .fv) ⟨[],[]⟩) (.bool (g m a))) :
  ∀(n:Nat) (t:Tm) (a:Int),t.wt+c+3<n→0≤a→a+2 * t.wt≤1000000000→P t a→JV (SS dt n 89 [.fv t.enc,iv a,.fv (.func (.func F) [] caps)] ⟨[],[]⟩) (.bool (t.some1 g a)):=by
 intro n
 induction n with
 | zero=>intro t a h;omega
 | succ n ih =>
  intro t a hn ha ha2 hPt;obtain ⟨op,m,ks⟩:=t;simp only [Tm.wt] at hn ha2;rw [c89,Ai];have hlen:=Db ks;by_cases h1:op=1
  ·subst h1;rw [Tm.some1,if_pos rfl];have hc:=hg n (by omega) m ks a hPt;have hi:∀(own:List (Nat×Blk)) (k:IV→Hp→List Ref→List Ref→Option (IV×Hp)),Al [] false false (SS dt n) F ([iv m,iv a]++caps.map .fv) ⟨own,[]⟩ k=k (.fv (.bool (g m a))) ⟨own,[]⟩ [] []:=by
    intro own k;refine PN (vs:=.int .i64 m :: .int .i64 a::caps) ?_ hc ⟨own,[]⟩ k;have hcaps:∀l:List FV,Bz (l.map .fv)=some l:=by
     intro l
     induction l with
     | nil=>rfl
     | cons x l ih=>simp [Bz,ih,A8,Gf]
    simp [Bz,hcaps,A8,Gf,iv]
   simp only [ML,MJ,MD,MN,MM,Mq,MY,S89,↓XX,XY,↓reduceIte,Nat.reduceBEq,Nat.reduceAdd,Int.reduceEq,Int.reduceLT,Int.reduceLE,↓hd,↓hi];exact Cp _ _
  ·rw [Tm.some1,if_neg h1];simp only [ML,MJ,MD,MN,MM,Mq,MY,S89,↓XX,XY,↓reduceIte,Nat.reduceBEq,Nat.reduceAdd,Int.reduceEq,Int.reduceLT,Int.reduceLE,h1,↓AD,XD,heldB,AL,XE];refine A6 (Q:=fun r=>JV r _) (fun k V H=>∃(pre rest:List Tm),ks=pre++rest∧rest.length=k ∧
     V=[iv a,.fv (.func (.func F) [] caps),.ptr (.own 93323264) 0,.fv (.sl (ks.map Tm.enc)),iv ks.length,iv pre.length] ∧
     H=⟨[(93323264,.row [iv op,iv m,.fv (.sl (ks.map Tm.enc))] false)],[]⟩∧Tm.someL g op pre.length rest a=Tm.someL g op 0 ks a)
    ?_ n ks.length _ _ (by omega) ⟨[],ks,rfl,rfl,rfl,rfl,rfl⟩
   rintro k V H rec ⟨pre,rest,hks,hl,rfl,rfl,hts⟩ hrec;have hkl:ks.length=pre.length+rest.length:=by rw [hks];simp
   cases rest with
   | nil =>
    have hno:¬ ((pre.length:Int)<ks.length):=by rw [hkl];simp
    rw [Tm.someL] at hts;rw [← hts];simp only [ML,MJ,MD,MN,MM,Mq,Ui,MY,S89,↓XX,XY,↓reduceIte,Nat.reduceBEq,Nat.reduceAdd,Int.reduceEq,Int.reduceLT,Int.reduceLE,hno];exact Cp _ _
   | cons x rest =>
    have hi:(pre.length:Int)<ks.length:=by rw [hkl];simp;omega
    have hg2:=Ce hks;have hxw:=BN (t:=x) (l:=ks) (by rw [hks];simp);have hb:=Le (n:=n) (by omega) op pre.length;have hble:=AU op pre.length;have hs:=ih x (a+Ae op pre.length) (by omega) (by omega) (by omega) (hP _ _ _ _ _ _ hPt hg2 h1);have hwa:BI (a+Ae op pre.length)=a+Ae op pre.length:=by rw [As]<;>omega
    have hwi:BI ((pre.length:Int)+1)=((pre++[x]).length:Int):=(As (by omega) (by omega)).trans (by simp);rw [Tm.someL] at hts;generalize x.some1 g (a+Ae op pre.length)=y at hs hts;obtain ⟨o,p,l⟩:=x;rw [Ai] at hs;simp only [AwT] at hl;cases y
    ·simp only [ML,MJ,MD,MN,MM,Mq,Ui,MY,S89,↓XX,XY,↓reduceIte,Nat.reduceBEq,Nat.reduceAdd,Int.reduceEq,Int.reduceLT,Int.reduceLE,hi,↓Bq (AO hg2) (A9 _ _ _),↓Cb,↓Ag hb,hwa,hwi,↓AZ (AhB hs),↓AD,XD,heldB,AL,XE];exact hrec rest.length _ _ (by omega) ⟨pre++[.mk o p l],rest,by rw [hks];simp,rfl,rfl,rfl,by simpa using hts⟩
    ·rw [← hts];simp only [ML,MJ,MD,MN,MM,Mq,Ui,MY,S89,↓XX,XY,↓reduceIte,Nat.reduceBEq,Nat.reduceAdd,Int.reduceEq,Int.reduceLT,Int.reduceLE,hi,↓Bq (AO hg2) (A9 _ _ _),↓Cb,↓Ag hb,hwa,hwi,↓AZ (AhB hs),Bool.true_or];exact Cp _ _
theorem AjJ {n:Nat} {t:Tm} {v:Int} {K:Nat} (hn:t.wt+6<n) (h2:2 * t.wt≤1000000000) (hs:t.sc K) (hK:K≤1000000000):Bc (SS dt n 87 [.fv t.enc,iv v] ⟨[],[]⟩) (.bool (t.some1 (Ou v) 0)):=by
 obtain ⟨n,rfl⟩:∃k,n=k+1:=⟨n - 1,by omega⟩;rw [c87];have hc:=Als (F:=90) (caps:=[.fp [.int .i64 v] 0]) (g:=Ou v) (c:=0) (Alf _) (fun t a=>scP K t a∧a≤1000000000∧a+2 * t.wt≤1000000000)
  (fun op m ks a i t h hg ho=>⟨RE op m ks a i t h.1 hg ho,by
   have hb:=AU op i;have hwm:=BN (List.mem_of_getElem? hg)
   have:=h.2.2
   simp only [Tm.wt] at this;omega,by
   have hb:=AU op i;have hwm:=BN (List.mem_of_getElem? hg)
   have:=h.2.2
   simp only [Tm.wt] at this;omega⟩)
  (fun n hn m ks a h=>by
   obtain ⟨rfl,h1,h2,h3⟩:=Rg h.1;exact Ai3 hn v m a h1 (by omega) h3 (by omega))
  n t 0 (by omega) (by omega) (by omega) ⟨⟨by omega,K,hs,by omega⟩,by omega,by omega⟩
 obtain ⟨o,p,l⟩:=t;rw [Ai] at hc ⊢;simp only [S87,↓XX,XY,↓reduceIte,Nat.reduceBEq,Nat.reduceAdd,Int.reduceEq,Int.reduceLT,Int.reduceLE,↓gen_val',↓Aoh];rw [AjO hc rfl rfl (by rfl) (by simp) rfl];exact Ao _ _
mutual
theorem PR (v:Int) (u:Tm) {K:Nat} (hu:u.sc K) (huw:K+2 * u.wt≤1000000000):∀(t:Tm) (k:Nat) (a:Int),t.sc k→k+2 * t.wt≤1000000000→0≤a→a+2 * t.wt≤1000000000→t.each (In v u) a=t.subst (v+a) a u
 | .mk op m ks,k,a,h,hk,h1,h2=>by
  rw [Tm.sc] at h;rw [Tm.wt] at hk h2;by_cases ho:op=1
  ·subst ho;have h3:ar 1=some 0:=by decide
   rw [h3,if_pos rfl] at h;have h4:ks=[]:=List.length_eq_zero_iff.1 (by have:=h.1;simp only [AwP] at this;omega);subst h4;rw [Tm.each,if_pos rfl,In,Tm.subst,if_pos rfl];have hm:=h.2.1;by_cases hc:v<m - a
   ·rw [if_pos hc,if_neg (by omega),if_pos (by omega),As (by omega) (by omega)];rfl
   ·rw [if_neg hc];by_cases he:m - a=v
    ·rw [if_pos he,if_pos (by omega),Pe a 0 u K 0 hu (by omega) (by omega) (by omega)];rfl
    ·rw [if_neg he,if_neg (by omega),if_neg (by omega),Int.add_zero]
  ·rw [Tm.each,if_neg ho,Tm.subst,if_neg ho];rw [eachL_subst v u hu huw op 0 ks k a h.2.2 (by omega) h1 (by omega)]
theorem eachL_subst (v:Int) (u:Tm) {K:Nat} (hu:u.sc K) (huw:K+2 * u.wt≤1000000000):∀(op:Int) (i:Nat) (l:List Tm) (k:Nat) (a:Int),Tm.scL op i l k→k+2+2 * Tm.wtL l≤1000000000→0≤a→a+2+2 * Tm.wtL l≤1000000000→Tm.eachL (In v u) op i l a=Tm.substL op i l (v+a) a u
 | _,_,[],_,_,_,_,_,_=>by rw [Tm.eachL,Tm.substL]
 | op,i,t::l,k,a,h,hk,h1,h2=>by
  rw [Tm.scL] at h;rw [Tm.eachL,Tm.substL];have hb:=AU op i;rw [Tm.wtL] at hk h2;rw [PR v u hu huw t (k+Ae op i) (a+Ae op i) h.1 (by omega) (by omega) (by omega),eachL_subst v u hu huw op (i+1) l k a h.2 (by omega) h1 (by omega),Int.add_assoc]
end
mutual
theorem Qz (v:Int) (hv:0≤v):∀(t:Tm) (a:Int),0≤a→t.some1 (Ou v) a=t.free (v+a)
 | .mk op m ks,a,h1=>by
  by_cases ho:op=1
  ·subst ho;rw [Tm.some1,if_pos rfl,Tm.free,if_pos rfl,Ou];by_cases h:m=v+a
   ·rw [decide_eq_true h,decide_eq_true (by omega:m - a=v),decide_eq_true (by omega:a≤m)];rfl
   ·rw [decide_eq_false h,decide_eq_false (by omega:¬ m - a=v)];rfl
  ·rw [Tm.some1,if_neg ho,Tm.free,if_neg ho,someL_free v hv op 0 ks a h1]
theorem someL_free (v:Int) (hv:0≤v):∀(op:Int) (i:Nat) (l:List Tm) (a:Int),0≤a→Tm.someL (Ou v) op i l a=Tm.freeL op i l (v+a)
 | _,_,[],_,_=>by rw [Tm.someL,Tm.freeL]
 | op,i,t::l,a,h1=>by
  rw [Tm.someL,Tm.freeL,Qz v hv t (a+Ae op i) (by omega),someL_free v hv op (i+1) l a h1,Int.add_assoc]
end
set_option maxRecDepth 20000 in
theorem VX {n:Nat} {K:Nat} {op m:Int} {z b:Tm} (hn:b.wt+20<n) (hk:b.op=5→∃f x,b.kids=[f,x]) (hw:b.wk) (h2:2 * b.wt≤100000000) (hs:b.sc K) (hK:K≤100000000) :
  JV (SS dt n 82 [.fv (Tm.mk op m [z,b]).enc] ⟨[],[]⟩) (Q3 (.mk op m [z,b])).enc:=by
 obtain ⟨n,rfl⟩:∃k,n=k+1:=⟨n - 1,by omega⟩;rw [c82];obtain ⟨o1,n1,k1⟩:=b;by_cases h5:o1=5
 ·subst h5;obtain ⟨f,x,hkk⟩:=hk rfl;simp only [Tm.kids] at hkk;subst hkk;obtain ⟨o2,n2,k2⟩:=x;rw [Tm.sc] at hs;have hf:f.sc K:=by
   have:=hs.2.2
   rw [Tm.scL] at this;exact this.1
  have hwf:f.wk:=by
   rw [Tm.wk] at hw;exact ME hw.2 (by simp)
  simp only [Tm.wt,Tm.wtL] at hn h2;have hfree:=AjJ (n:=n) (t:=f) (v:=0) (K:=K) (by omega) (by omega) hf (by omega);rw [Qz 0 (by omega) f 0 (by omega)] at hfree;have hsub:=Aqb (n:=n) (t:=f) (u:=AM) (v:=0) (K:=K) (by simp only [AM,Tm.wt,Tm.wtL];omega) hwf (by omega) hf (by simp [AM,Tm.wk,Tm.wkL]) (by simp [AM,Tm.wt,Tm.wtL]) (KU K) (by omega);rw [PR 0 AM (K:=K) (KU K) (by simp only [AM,Tm.wt,Tm.wtL];omega) f K 0 hf (by omega) (by omega) (by omega)] at hsub;simp only [Int.add_zero] at hfree hsub;rw [Q3];generalize hr:f.subst 0 0 AM=u at hsub;generalize f.free 0=fr at hfree;obtain ⟨o4,n4,k4⟩:=u;obtain ⟨o3,n3,k3⟩:=f;obtain ⟨oz,nz,kz⟩:=z;rw [AM] at hsub;simp only [Ai,AwU] at hfree hsub;by_cases h1:o2=1
  ·by_cases h0:n2=0
   ·cases fr
    ·rw [if_pos ⟨rfl,h1,h0,rfl⟩];have hs3:=fun (own:List (Nat×Blk)) (k:IV→Hp→List Ref→List Ref→Option (IV×Hp))=>AZ (a:=.fv (.agg [.int .i64 o3,.int .i64 n3,.sl (k3.map Tm.enc)])) (b:=iv 0) (c:=.agg [iv 11,iv 0,.nils]) hsub rfl rfl rfl ⟨own,[]⟩ k;simp only [Ai,AwV,AwU];simp only [↓Ahe,↓XX,XY,↓reduceIte,Nat.reduceBEq,Nat.reduceAdd,Int.reduceEq,Int.reduceLT,Int.reduceLE,↓Eg,↓Fk,↓GR,h1,h0,↓Ag hfree,↓hs3];exact Cp _ _
    ·rw [if_neg (by simp)];simp only [Ai,AwV,AwU];simp only [↓Ahe,↓XX,XY,↓reduceIte,Nat.reduceBEq,Nat.reduceAdd,Int.reduceEq,Int.reduceLT,Int.reduceLE,↓Eg,↓Fk,↓GR,h1,h0,↓Ag hfree];exact Cp _ _
   ·rw [if_neg (by simp [h0])];simp only [Ai,AwV,AwU];simp only [↓Ahe,↓XX,XY,↓reduceIte,Nat.reduceBEq,Nat.reduceAdd,Int.reduceEq,Int.reduceLT,Int.reduceLE,↓Eg,↓Fk,↓GR,h1,h0];exact Cp _ _
  ·rw [if_neg (by simp [h1])];simp only [Ai,AwV,AwU];simp only [↓Ahe,↓XX,XY,↓reduceIte,Nat.reduceBEq,Nat.reduceAdd,Int.reduceEq,Int.reduceLT,Int.reduceLE,↓Eg,↓Fk,↓GR,h1];exact Cp _ _
 ·rw [Aiz (by simpa [Tm.op] using h5)];obtain ⟨oz,nz,kz⟩:=z;simp only [Ai,AwV,AwU];simp only [↓Ahe,↓XX,XY,↓reduceIte,Nat.reduceBEq,Nat.reduceAdd,Int.reduceEq,Int.reduceLT,Int.reduceLE,↓Eg,↓Fk,↓GR,h5];exact Cp _ _
set_option maxRecDepth 20000 in
theorem AjQ {n:Nat} {op m:Int} {z a b:Tm} (hn:2 * a.wt+10<n) (hka:a.op=8→∃x,a.kids=[x]) (hkb:b.op=9→∃y,b.kids=[y]) (h2:a.wt≤100000000) :
  JV (SS dt n 83 [.fv (Tm.mk op m [z,a,b]).enc] ⟨[],[]⟩) (SO (.mk op m [z,a,b])).enc:=by
 obtain ⟨n,rfl⟩:∃k,n=k+1:=⟨n - 1,by omega⟩;rw [c83];obtain ⟨o1,n1,k1⟩:=a;obtain ⟨o2,n2,k2⟩:=b;obtain ⟨oz,nz,kz⟩:=z;by_cases h8:o1=8
 ·by_cases h9:o2=9
  ·subst h8 h9;obtain ⟨x,hx⟩:=hka rfl;obtain ⟨y,hy⟩:=hkb rfl;simp only [Tm.kids] at hx hy;subst hx hy;simp only [Tm.wt,Tm.wtL] at hn h2;have hs:=VP n x y (by omega) (by omega);rw [SO];generalize x.same y=v at hs;obtain ⟨o3,n3,k3⟩:=x;obtain ⟨o4,n4,k4⟩:=y;simp only [Ai] at hs;cases v
   ·rw [if_neg (by simp)];simp only [Ai,AwV,AwU];simp only [Lf,LA,Ld,K2,LJ,L3,LR,Ls,Kn,KW,Lh,S83,↓XX,XY,↓reduceIte,Nat.reduceBEq,Nat.reduceAdd,Int.reduceEq,Int.reduceLT,Int.reduceLE,↓Eg,↓Fk,↓GR,↓Ag hs];exact Cp _ _
   ·rw [if_pos ⟨rfl,rfl,rfl⟩];simp only [Ai,AwV,AwU];simp only [Lf,LA,Ld,K2,LJ,L3,LR,Ls,Kn,KW,Lh,S83,↓XX,XY,↓reduceIte,Nat.reduceBEq,Nat.reduceAdd,Int.reduceEq,Int.reduceLT,Int.reduceLE,↓Eg,↓Fk,↓GR,↓Ag hs];exact Cp _ _
  ·rw [RN (by simp [Tm.op,h9])];simp only [Ai,AwV,AwU];simp only [Lf,LA,Ld,K2,LJ,L3,LR,Ls,Kn,KW,Lh,S83,↓XX,XY,↓reduceIte,Nat.reduceBEq,Nat.reduceAdd,Int.reduceEq,Int.reduceLT,Int.reduceLE,↓Eg,↓Fk,↓GR,h8,h9];exact Cp _ _
 ·rw [RN (by simp [Tm.op,h8])];simp only [Ai,AwV,AwU];simp only [Lf,LA,Ld,K2,LJ,L3,LR,Ls,Kn,KW,Lh,S83,↓XX,XY,↓reduceIte,Nat.reduceBEq,Nat.reduceAdd,Int.reduceEq,Int.reduceLT,Int.reduceLE,↓Eg,↓Fk,↓GR,h8];exact Cp _ _
theorem Arj {d:Nat} {l:List FV} (h:Hp) (lg:List Ref) (e:Option (IV×Hp)) (k:List FV→List (Ref×Blk)→List Ref→Option (IV×Hp)) :
  Cz (Dj (d+1)) (iv 11::iv 0 :: .nils::l.map .fv) h lg e k=k (.int .i64 11 :: .int .i64 0 :: .sl []::l) [] lg:=by
 show (Cz (Dj (d+1)) (l.map .fv) h lg e fun ys us lg=>Nw [] us fun w=>Nw [] w fun w=>Nw [] w fun w=>k (.int .i64 11 :: .int .i64 0 :: .sl []::ys) w lg)=_
 rw [O2];rfl
theorem Aph {s:Nat} {l:List Tm} {ro:Bool} {a b:FV} {own:List (Nat×Blk)} {ext:List Blk} (hl:Ap s own=some (.row (iv 11::iv 0 :: .nils::(Bp l).map .fv) ro)) (hn:l.length≤90) (lg:List Ref) (e:Option (IV×Hp))
  (k:FV→List (Ref×Blk)→List Ref→Option (IV×Hp)):Dj 12 (.agg [.fv a,.fv b,.slc (.own s) 3 (l.length+1)]) ⟨own,ext⟩ lg e k =
   k (.agg [a,b,.sl ((AM::l).map Tm.enc)]) [(.own s,.row (iv 11::iv 0 :: .nils::(Bp l).map .fv) true)] (.own s::lg):=by
 have hz:∀(lg:List Ref) (k:FV→List (Ref×Blk)→List Ref→Option (IV×Hp)),Dj 11 (.slc (.own s) 3 (l.length+1)) ⟨own,ext⟩ lg e k=k (.sl ((AM::l).map Tm.enc)) [(.own s,.row (iv 11::iv 0 :: .nils::(Bp l).map .fv) true)] (.own s::lg):=by
  intro lg k;have hlen:(iv 11::iv 0 :: .nils::(Bp l).map IV.fv).length=3 * l.length+3:=by simp [Hr]
  show (Da (.own s) ⟨own,ext⟩ fun b=>DB b fun cells=>cond (Nat.ble cells.length 300) (cond (or (Nat.beq 3 0) (not (Nat.ble ((l.length+1) * 3) cells.length))) none
   (Cz (Dj 10) cells ⟨own,ext⟩ (.own s::lg) e fun cs u lg=>XU 3 (l.length+1) cs fun els=>k (.sl els) ((.own s,.row cells true)::u) lg)) e)=_
  rw [KS,Bk,hl];simp only [Option.bind_some,HS];rw [hlen,Bb,decide_eq_true (by omega),c_t,Bb,decide_eq_true (by omega)];simp only [Bool.not_true]
  show (Cz (Dj (9+1)) (iv 11::iv 0 :: .nils::(Bp l).map IV.fv) ⟨own,ext⟩ (.own s::lg) e fun cs u lg=>XU 3 (l.length+1) cs fun els=>k (.sl els) ((.own s,.row (iv 11::iv 0 :: .nils::(Bp l).map IV.fv) true)::u) lg)=_
  rw [Arj];exact Apr (AM::l) _
 rw [AgC,show Nat.ble [IV.fv a,.fv b,.slc (.own s) 3 (l.length+1)].length 300=true from rfl,c_t,WF,JL,WF,JL,WF,hz,fl0]
 rfl
theorem AiJ {ih:Aa} {f:FuncId} {w a b:FV} {s:Nat} {l:List Tm} {ro:Bool} {own own':List (Nat×Blk)} (hr:JV (ih f [.fv (.agg [a,b,.sl ((AM::l).map Tm.enc)])] ⟨[],[]⟩) w) (hl:Ap s own=some (.row (iv 11::iv 0 :: .nils::(Bp l).map .fv) ro)) (hn:l.length≤90)
  (ho:AN s (.row (iv 11::iv 0 :: .nils::(Bp l).map .fv) true) own=own') (k:IV→Hp→List Ref→List Ref→Option (IV×Hp)) :
  Al [] false false ih f [.agg [.fv a,.fv b,.slc (.own s) 3 (l.length+1)]] ⟨own,[]⟩ k=k (.fv w) ⟨own',[]⟩ [.own s] [.own s]:=by
 subst ho;refine W6 (vs:=[.agg [a,b,.sl ((AM::l).map Tm.enc)]]) (u:=[(.own s,.row (iv 11::iv 0 :: .nils::(Bp l).map .fv) true)]) (lg:=[.own s]) ?_ hr ?_ k
 ·intro e k;rw [fz1,Aph hl hn,fz0];rfl
 ·intro k
  show (Fs own s fun _=>A0 own s (.row (iv 11::iv 0 :: .nils::(Bp l).map .fv) true) fun own=>k ⟨own,_⟩)=_
  rw [Bk,hl,Option.bind_some,Bu]
theorem Adi {β:Type} {n:Nat} (h:0<n) (r:Ref) (k:IV→Option β):A7 3 (.slc r 3 n) (iv 0) k=k (.ptr r 0):=O0 (i:=0) h r k
theorem scz (x:Tm) (l:List Tm):A3 (BG (x::l) 0) 0 [iv 11,iv 0,.nils]=iv 11::iv 0 :: .nils::(Bp l).map .fv:=by
 obtain ⟨o,p,k⟩:=x;simp [BG,Bp,Lc,A3]
theorem blz (x:Tm) (l:List Tm):Nat.ble 3 (BG (x::l) 0).length=true:=by
 rw [Bb];apply decide_eq_true;simp [BG,Lc,Hr];omega
abbrev Atr (op m:Int) (ks done:List Tm) (r:Nat):Hp :=
 ⟨[(71303168,.row [iv op,iv m,.fv (.sl (ks.map Tm.enc))] false),(71303169,.row [iv 0,iv 0,.nils] false),(71304199,.row (BG done r) false),(71304201,.row [iv op,iv m,.slc (.own 71304199) 3 ks.length] false)],[]⟩
set_option maxRecDepth 20000 in
set_option maxHeartbeats 1000000 in
theorem Ap6:∀(n:Nat) (t:Tm) (k:Nat),t.sc k→2 * t.wt+25<n→k+2 * t.wt≤90000000→JV (SS dt n 68 [.fv t.enc] ⟨[],[]⟩) t.eta.enc:=by
 intro n
 induction n with
 | zero=>intro t k _ h;omega
 | succ n ih =>
  intro t k hs hn hw;have hes:=Oo t k hs (by omega);have hwk:=Fm t k hs;obtain ⟨op,m,ks⟩:=t;rw [Tm.sc] at hs;rw [Tm.wk] at hwk;simp only [Tm.wt] at hn hw;rw [c68,Ai];have hlen:=Db ks;have hkd:=etaL_sc op 0 ks k hs.2.2 (by omega);simp only [JB,IR,ID,Iu,IX,Jd,I3,IU,Iy,I6,JG,Jv,IY,Jo,I7,S68,↓XX,XY,↓reduceIte,Nat.reduceBEq,Nat.reduceAdd,Int.reduceEq,Int.reduceLT,Int.reduceLE,↓Am2 (show ks.length≤1000 by omega),↓AD,XD,heldB,AL,XE,Hv,Fy]
  have hR:(Tm.mk op m ks).eta=if op=4 then Q3 (.mk 4 m (Ny (Tm.etaL ks))) else if op=7 then SO (.mk 7 m (Ny (Tm.etaL ks))) else .mk op m (Tm.etaL ks):=by rw [Tm.eta]
  rw [hR];refine A6 (Q:=fun r=>JV r _) (fun j V H=>∃(pre rest done:List Tm),ks=pre++rest∧rest.length=j∧done.length=pre.length ∧
    V=[.ptr (.own 71303168) 0,.ptr (.own 71303169) 0,.ptr (.own 71304201) 0,.fv (.sl (ks.map Tm.enc)),iv ks.length,iv pre.length] ∧
    H=Atr op m ks done rest.length∧done++Tm.etaL rest=Tm.etaL ks)
   ?_ n ks.length _ _ (by omega) ⟨[],ks,[],rfl,rfl,rfl,rfl,rfl,rfl⟩
  rintro j V H rec ⟨pre,rest,done,hks,hl,hdl,rfl,rfl,hts⟩ hrec;have hkl:ks.length=pre.length+rest.length:=by rw [hks];simp
  cases rest with
  | nil =>
   have hno:¬ ((pre.length:Int)<ks.length):=by rw [hkl];simp
   rw [Tm.etaL,List.append_nil] at hts;have hdk:ks.length=done.length:=by rw [hdl,hkl];simp
   rw [← hts] at hkd ⊢;rw [List.length_nil];by_cases h4:op=4
   ·subst h4;rw [if_pos rfl];have h2:ks.length=2:=by have:=hs.1;rw [show ar 4=some 2 by decide] at this;simp only [AwP] at this;omega
    have hd2:done.length=2:=by omega
    match done,hd2,hdk,hkd with
    | [a,b],_,hdk,hkd =>
     simp only [Tm.scL,Tm.wtL] at hkd;have hb1:Ae 4 1=1:=by decide
     have hbs:=hkd.1.2.1;rw [hb1] at hbs;have hfn:=VX (n:=n) (K:=k+1) (op:=4) (m:=m) (z:=AM) (b:=b) (by omega) (fun h5=>by
      have:=EF hbs h5 (show ar 5=some 2 by decide)
      match hbk:b.kids,this with
      | [f,x],_=>exact ⟨f,x,rfl⟩) (Fm b _ hbs) (by omega) hbs (by omega)
     rw [Ny];rw [Ai] at hfn;generalize Q3 (.mk 4 m [AM,b])=y at hfn;obtain ⟨o5,p5,k5⟩:=y;rw [Ai] at hfn;rw [Ai];have h02:0<ks.length:=by omega
     have hi:=fun (own own':List (Nat×Blk)) (hlk:Ap 71304199 own=some (.row (iv 11::iv 0 :: .nils::(Bp [b]).map .fv) false)) (ho:AN 71304199 (.row (iv 11::iv 0 :: .nils::(Bp [b]).map .fv) true) own=own')=>AiJ hfn hlk (by simp) ho;simp only [JB,IR,ID,Iu,IX,Jd,I3,IU,Iy,I6,JG,KT,Jv,IY,Jo,I7,S68,↓XX,XY,↓reduceIte,Nat.reduceBEq,Nat.reduceAdd,Int.reduceEq,Int.reduceLT,Int.reduceLE,hno,↓Adi h02,↓blz,↓scz];rw [show ks.length=[b].length+1 by rw [h2];rfl]
     rw [hi _ _ (by rfl) (by rfl)];simp only [↓XX,XY,↓reduceIte,Nat.reduceBEq,Nat.reduceAdd,Int.reduceEq,Int.reduceLT,Int.reduceLE,↓So,↓NF];exact Cp _ _
   ·rw [if_neg h4];by_cases h7:op=7
    ·subst h7;rw [if_pos rfl];have h2:ks.length=3:=by have:=hs.1;rw [show ar 7=some 3 by decide] at this;simp only [AwP] at this;omega
     have hd2:done.length=3:=by omega
     match done,hd2,hdk,hkd with
     | [a,b,c],_,hdk,hkd =>
      simp only [Tm.scL,Tm.wtL] at hkd;have hb1:Ae 7 1=0:=by decide
      have hb2:Ae 7 2=0:=by decide
      have hbs:=hkd.1.2.1;have hcs:=hkd.1.2.2.1;rw [hb1] at hbs;rw [hb2] at hcs;have hfn:=AjQ (n:=n) (op:=7) (m:=m) (z:=AM) (a:=b) (b:=c) (by omega) (fun h5=>by
       have:=EF hbs h5 (show ar 8=some 1 by decide)
       match hbk:b.kids,this with
       | [f],_=>exact ⟨f,rfl⟩) (fun h5=>by
       have:=EF hcs h5 (show ar 9=some 1 by decide)
       match hbk:c.kids,this with
       | [f],_=>exact ⟨f,rfl⟩) (by omega)
      rw [Ny];rw [Ai] at hfn;generalize SO (.mk 7 m [AM,b,c])=y at hfn;obtain ⟨o5,p5,k5⟩:=y;rw [Ai] at hfn;rw [Ai];have h02:0<ks.length:=by omega
      have hi:=fun (own own':List (Nat×Blk)) (hlk:Ap 71304199 own=some (.row (iv 11::iv 0 :: .nils::(Bp [b,c]).map .fv) false)) (ho:AN 71304199 (.row (iv 11::iv 0 :: .nils::(Bp [b,c]).map .fv) true) own=own')=>AiJ hfn hlk (by simp) ho;simp only [JB,IR,ID,Iu,IX,Jd,I3,IU,Iy,I6,JG,KT,Jv,IY,Jo,I7,S68,↓XX,XY,↓reduceIte,Nat.reduceBEq,Nat.reduceAdd,Int.reduceEq,Int.reduceLT,Int.reduceLE,hno,↓Adi h02,↓blz,↓scz];rw [show ks.length=[b,c].length+1 by rw [h2];rfl]
      rw [hi _ _ (by rfl) (by rfl)];simp only [↓XX,XY,↓reduceIte,Nat.reduceBEq,Nat.reduceAdd,Int.reduceEq,Int.reduceLT,Int.reduceLE,↓So,↓NF];exact Cp _ _
    ·rw [if_neg h7,Ai];simp only [JB,IR,ID,Iu,IX,Jd,I3,IU,Iy,I6,JG,KT,Jv,IY,Jo,I7,S68,↓XX,XY,↓reduceIte,Nat.reduceBEq,Nat.reduceAdd,Int.reduceEq,Int.reduceLT,Int.reduceLE,hno,h4,h7];rw [hdk];exact ⟨_,_,rfl,_,_,fun e0 K=>Af7 (by rfl) (by omega) [] e0 K⟩
  | cons x rest =>
   have hi:(pre.length:Int)<ks.length:=by rw [hkl];simp;omega
   have hg2:=Ce hks;have hxw:=BN (t:=x) (l:=ks) (by rw [hks];simp);have hxs:=JU hs.2.2 hg2;rw [Nat.zero_add] at hxs;have hble:=AU op pre.length;have hs5:=ih x _ hxs (by omega) (by omega);have hwi:BI ((pre.length:Int)+1)=((pre++[x]).length:Int):=(As (by omega) (by omega)).trans (by simp);have hin:pre.length<ks.length:=by omega
   rw [Tm.etaL] at hts;generalize x.eta=y at hs5 hts;have hst:=fun {β:Type}=>Acf (β:=β) done rest.length y.op y.n y.kids;rw [hdl] at hst;obtain ⟨o,p,l⟩:=x;obtain ⟨o2,p2,l2⟩:=y;simp only [Tm.op,Tm.n,Tm.kids] at hst;rw [Ai,Ai] at hs5;simp only [AwT] at hl;simp only [JB,IR,ID,Iu,IX,Jd,I3,IU,Iy,I6,JG,KT,Jv,IY,Jo,I7,S68,↓XX,XY,↓reduceIte,Nat.reduceBEq,Nat.reduceAdd,Int.reduceEq,Int.reduceLT,Int.reduceLE,hi,↓Bq (AO hg2) (A9 _ _ _),↓Cb,hwi,↓Av (AhB hs5),↓O0 hin,↓hst,↓AD,XD,heldB,AL,XE,Hv,Fy];exact hrec rest.length _ _ (by omega) ⟨pre++[.mk o p l],rest,done++[.mk o2 p2 l2],by rw [hks];simp,rfl,by simp [hdl],rfl,rfl,by rw [← hts];simp⟩
theorem AkS {n:Nat} {t:Tm} {k:Nat} (hs:t.sc k) (hn:2 * t.wt+26<n) (hw:k+2 * t.wt≤90000000):Bc (SS dt n 56 [.fv t.enc] ⟨[],[]⟩) t.eta.enc:=by
 obtain ⟨n,rfl⟩:∃k,n=k+1:=⟨n - 1,by omega⟩;rw [c56];have h1:=Qv n t (by omega) (by omega);rw [G3 t k hs] at h1;have h2:=AhB (Ap6 n t k hs (by omega) hw);generalize t.eta=y at h2;obtain ⟨o,p,l⟩:=t;obtain ⟨o2,p2,l2⟩:=y;rw [Ai] at h1;rw [Ai,Ai] at h2 ⊢;simp only [AgD,AhL,S56,↓XX,XY,↓reduceIte,Nat.reduceBEq,Nat.reduceAdd,Int.reduceEq,Int.reduceLT,Int.reduceLE,↓Av h1,↓Av h2];exact Ao _ _
theorem Ajg (ih:Aa) (xs:List IV) (h0:Hp) (k:IV→Hp→List Ref→List Ref→Option (IV×Hp)):D8 EE ih (.fv (.func (.func 40) [] [])) xs h0 k=Al [] false false ih 40 xs h0 k :=
 AiQ (by kernel_rfl) (by kernel_rfl) (by kernel_rfl) (by kernel_rfl) ..
def AeQ (u:Tm) (e:Int):FV:=.agg [.int .i64 u.op,.int .i64 u.n,.sl (u.kids.map Tm.enc),.int .i64 e]
theorem Aji {n:Nat} (u v:Tm) (e1 e2:Int) (hn:2 * u.wt+4<n) (hw:u.wt≤100000000):Bc (SS dt n 40 [.fv (AeQ u e1),.fv (AeQ v e2)] ⟨[],[]⟩) (.bool (u.same v)):=by
 obtain ⟨n,rfl⟩:∃k,n=k+1:=⟨n - 1,by omega⟩;rw [c40];have h:=VP n u v (by omega) hw;generalize u.same v=b at h ⊢;obtain ⟨o1,n1,k1⟩:=u;obtain ⟨o2,n2,k2⟩:=v;simp only [Ai,AeQ,Tm.op,Tm.n,Tm.kids] at h ⊢;simp only [Agy,S40,↓XX,XY,↓reduceIte,Nat.reduceBEq,Nat.reduceAdd,Int.reduceEq,Int.reduceLT,Int.reduceLE,↓Ag h];exact Ao _ _
theorem AhD {n k:Nat} {t u:Tm} (hN:Bc (SS dt n 55 [.fv t.enc] ⟨[],[]⟩) (.tuple [u.enc,.int .i64 0])) (hu:u.sc k) (hk:k≤1000) (hw:u.wt≤3000) (hn:20000≤n):Bc (SS dt (n+1) 39 [.fv t.enc] ⟨[],[]⟩) (AeQ u.eta 0):=by
 rw [c39];have hE:=AkS (n:=n) hu (by omega) (by omega);generalize u.eta=w at hE ⊢;obtain ⟨o1,n1,k1⟩:=t;obtain ⟨o2,n2,k2⟩:=u;obtain ⟨o3,n3,k3⟩:=w;simp only [Ai,AeQ,Tm.op,Tm.n,Tm.kids] at hN hE ⊢;simp only [Ah8,Agu,Ag1,S39,↓XX,XY,↓reduceIte,Nat.reduceBEq,Nat.reduceAdd,Int.reduceEq,Int.reduceLT,Int.reduceLE,↓Av hN,↓Av hE];exact Ao _ _
theorem QU {n k:Nat} {t s u v:Tm} (hN1:Bc (SS dt n 55 [.fv t.enc] ⟨[],[]⟩) (.tuple [u.enc,.int .i64 0])) (hN2:Bc (SS dt n 55 [.fv s.enc] ⟨[],[]⟩) (.tuple [v.enc,.int .i64 0])) (hu:u.sc k) (hv:v.sc k) (hk:k≤1000) (hwu:u.wt≤3000) (hwv:v.wt≤3000) (hn:20000≤n) :
  Bc (SS dt (n+2) 16 [.fv t.enc,.fv s.enc] ⟨[],[]⟩) (.tuple [.bool (u.eta.same v.eta),.int .i64 0]):=by
 rw [c16];have a:=AhD hN1 hu hk hwu hn;have b:=AhD hN2 hv hk hwv hn;have hw:=(Oo u k hu (by omega)).2;have c:=Aji (n:=n+1) u.eta v.eta 0 0 (by omega) (by omega);generalize u.eta.same v.eta=q at c ⊢;generalize u.eta=ue at a c;generalize v.eta=ve at b c;obtain ⟨o1,n1,k1⟩:=t;obtain ⟨o2,n2,k2⟩:=s;obtain ⟨o3,n3,k3⟩:=ue;obtain ⟨o4,n4,k4⟩:=ve;simp only [Ai,AeQ,Tm.op,Tm.n,Tm.kids] at a b c ⊢;simp only [AiT,Agv,Ai1,Aix,AfT,Ag6,AfN,Ahi,S16,↓XX,XY,↓reduceIte,Nat.reduceBEq,Nat.reduceAdd,Int.reduceEq,Int.reduceLT,Int.reduceLE,↓Av a,↓Av b,↓Ajg,↓Ag c];first | exact Ao _ _ | exact AX rfl (by simp) _
def vT (i:Nat):Tm:=.mk 1 (i:Int) []
def MV (k:Nat) (ρ:Nat→Nat):Nat→Nat:=fun i=>if i<k then i else ρ (i - k)+k
mutual
def Tm.ren:Tm→(Nat→Nat)→Tm
 | .mk op n ks,ρ=>if op=1 then (if n<0∨ks.isEmpty=false then .mk op n ks else vT (ρ n.toNat)) else .mk op n (Tm.renL op 0 ks ρ)
def Tm.renL:Int→Nat→List Tm→(Nat→Nat)→List Tm
 | _,_,[],_=>[]
 | op,i,t::l,ρ=>t.ren (MV (Ae op i) ρ)::Tm.renL op (i+1) l ρ
end
def Gk (k:Nat) (σ:Nat→Tm):Nat→Tm:=fun i=>if i<k then vT i else (σ (i - k)).ren (fun j=>j+k)
mutual
def Tm.sub:Tm→(Nat→Tm)→Tm
 | .mk op n ks,σ=>if op=1 then (if n<0∨ks.isEmpty=false then .mk op n ks else σ n.toNat) else .mk op n (Tm.subL op 0 ks σ)
def Tm.subL:Int→Nat→List Tm→(Nat→Tm)→List Tm
 | _,_,[],_=>[]
 | op,i,t::l,σ=>t.sub (Gk (Ae op i) σ)::Tm.subL op (i+1) l σ
end
theorem Ash (i:Nat):¬ ((i:Int)<0∨([]:List Tm).isEmpty=false):=by
 rintro (h | h)
 ·omega
 ·cases h
theorem Lm (i:Nat) (ρ:Nat→Nat):(vT i).ren ρ=vT (ρ i):=by
 rw [vT,Tm.ren,if_pos rfl,if_neg (Ash i)];rfl
theorem JS (i:Nat) (σ:Nat→Tm):(vT i).sub σ=σ i:=by
 rw [vT,Tm.sub,if_pos rfl,if_neg (Ash i)];rfl
theorem HT (op:Int) (ρ:Nat→Nat):∀(l:List Tm) (i:Nat),(Tm.renL op i l ρ).length=l.length
 | [],_=>rfl
 | _::l,i=>by simp only [Tm.renL,AwT,HT op ρ l]
theorem KO (op:Int) (σ:Nat→Tm):∀(l:List Tm) (i:Nat),(Tm.subL op i l σ).length=l.length
 | [],_=>rfl
 | _::l,i=>by simp only [Tm.subL,AwT,KO op σ l]
theorem Og (op:Int) (ρ:Nat→Nat):∀(l:List Tm) (i j:Nat),(Tm.renL op i l ρ)[j]?=(l[j]?).map fun t=>t.ren (MV (Ae op (i+j)) ρ)
 | [],_,_=>by simp [Tm.renL]
 | t::l,i,0=>by simp [Tm.renL]
 | t::l,i,j+1=>by
  simp only [Tm.renL,List.getElem?_cons_succ];rw [Og op ρ l (i+1) j,show i+1+j=i+(j+1) by omega]
theorem Wo (op:Int) (σ:Nat→Tm):∀(l:List Tm) (i j:Nat),(Tm.subL op i l σ)[j]?=(l[j]?).map fun t=>t.sub (Gk (Ae op (i+j)) σ)
 | [],_,_=>by simp [Tm.subL]
 | t::l,i,0=>by simp [Tm.subL]
 | t::l,i,j+1=>by
  simp only [Tm.subL,List.getElem?_cons_succ];rw [Wo op σ l (i+1) j,show i+1+j=i+(j+1) by omega]
theorem J9 {k:Nat} {ρ:Nat→Nat} {i:Nat} (h:i<k):MV k ρ i=i:=if_pos h
theorem HX {k:Nat} {ρ:Nat→Nat} {i:Nat} (h:¬ i<k):MV k ρ i=ρ (i - k)+k:=if_neg h
theorem HB {k:Nat} {σ:Nat→Tm} {i:Nat} (h:i<k):Gk k σ i=vT i:=if_pos h
theorem Ho {k:Nat} {σ:Nat→Tm} {i:Nat} (h:¬ i<k):Gk k σ i=(σ (i - k)).ren fun j=>j+k:=if_neg h
theorem Ajq (k:Nat) (ρ ρ':Nat→Nat):(fun i=>MV k ρ' (MV k ρ i))=MV k (fun i=>ρ' (ρ i)):=by
 funext i
 by_cases h:i<k
 ·rw [J9 (ρ:=ρ) h,J9 h,J9 h]
 ·rw [HX (ρ:=ρ) h,HX h,HX (by omega),Nat.add_sub_cancel]
mutual
theorem Uu:∀(t:Tm) (ρ ρ':Nat→Nat),(t.ren ρ).ren ρ'=t.ren (fun i=>ρ' (ρ i))
 | .mk op n ks,ρ,ρ'=>by
  rw [Tm.ren,Tm.ren];by_cases h:op=1
  ·rw [if_pos h,if_pos h];by_cases hn:n<0∨ks.isEmpty=false
   ·rw [if_pos hn,if_pos hn,Tm.ren,if_pos h,if_pos hn]
   ·rw [if_neg hn,if_neg hn,Lm]
  ·rw [if_neg h,if_neg h,Tm.ren,if_neg h,renL_ren ks op 0 ρ ρ']
theorem renL_ren:∀(l:List Tm) (op:Int) (i:Nat) (ρ ρ':Nat→Nat),Tm.renL op i (Tm.renL op i l ρ) ρ'=Tm.renL op i l (fun i=>ρ' (ρ i))
 | [],_,_,_,_=>rfl
 | t::l,op,i,ρ,ρ'=>by simp only [Tm.renL,Uu t,Ajq,renL_ren l]
end
theorem AkA (k:Nat) (ρ:Nat→Nat) (σ:Nat→Tm):(fun i=>Gk k σ (MV k ρ i))=Gk k (fun i=>σ (ρ i)):=by
 funext i
 by_cases h:i<k
 ·rw [J9 h,HB h,HB h]
 ·rw [HX h,Ho h,Ho (by omega),Nat.add_sub_cancel]
mutual
theorem Iz:∀(t:Tm) (ρ:Nat→Nat) (σ:Nat→Tm),(t.ren ρ).sub σ=t.sub (fun i=>σ (ρ i))
 | .mk op n ks,ρ,σ=>by
  rw [Tm.ren,Tm.sub];by_cases h:op=1
  ·rw [if_pos h,if_pos h];by_cases hn:n<0∨ks.isEmpty=false
   ·rw [if_pos hn,if_pos hn,Tm.sub,if_pos h,if_pos hn]
   ·rw [if_neg hn,if_neg hn,JS]
  ·rw [if_neg h,if_neg h,Tm.sub,if_neg h,subL_ren ks op 0 ρ σ]
theorem subL_ren:∀(l:List Tm) (op:Int) (i:Nat) (ρ:Nat→Nat) (σ:Nat→Tm),Tm.subL op i (Tm.renL op i l ρ) σ=Tm.subL op i l (fun i=>σ (ρ i))
 | [],_,_,_,_=>rfl
 | t::l,op,i,ρ,σ=>by simp only [Tm.renL,Tm.subL,Iz t,AkA,subL_ren l]
end
theorem Aba (k:Nat) (σ:Nat→Tm) (ρ:Nat→Nat):(fun i=>(Gk k σ i).ren (MV k ρ))=Gk k (fun i=>(σ i).ren ρ):=by
 funext i
 by_cases h:i<k
 ·rw [HB h,HB h,Lm,J9 h]
 ·rw [Ho h,Ho h,Uu,Uu];congr 1
  funext j
  rw [HX (by omega),Nat.add_sub_cancel]
mutual
theorem KA:∀(t:Tm) (σ:Nat→Tm) (ρ:Nat→Nat),(t.sub σ).ren ρ=t.sub (fun i=>(σ i).ren ρ)
 | .mk op n ks,σ,ρ=>by
  rw [Tm.sub,Tm.sub];by_cases h:op=1
  ·rw [if_pos h,if_pos h];by_cases hn:n<0∨ks.isEmpty=false
   ·rw [if_pos hn,if_pos hn,Tm.ren,if_pos h,if_pos hn]
   ·rw [if_neg hn,if_neg hn]
  ·rw [if_neg h,if_neg h,Tm.ren,if_neg h,renL_sub ks op 0 σ ρ]
theorem renL_sub:∀(l:List Tm) (op:Int) (i:Nat) (σ:Nat→Tm) (ρ:Nat→Nat),Tm.renL op i (Tm.subL op i l σ) ρ=Tm.subL op i l (fun i=>(σ i).ren ρ)
 | [],_,_,_,_=>rfl
 | t::l,op,i,σ,ρ=>by simp only [Tm.renL,Tm.subL,KA t,Aba,renL_sub l]
end
theorem AjL (k:Nat) (σ τ:Nat→Tm):(fun i=>(Gk k σ i).sub (Gk k τ))=Gk k (fun i=>(σ i).sub τ):=by
 funext i
 by_cases h:i<k
 ·rw [HB h,HB h,JS,HB h]
 ·rw [Ho h,Ho h,Iz,KA];congr 1
  funext j
  rw [Ho (by omega),Nat.add_sub_cancel]
mutual
theorem Ht:∀(t:Tm) (σ τ:Nat→Tm),(t.sub σ).sub τ=t.sub (fun i=>(σ i).sub τ)
 | .mk op n ks,σ,τ=>by
  rw [Tm.sub,Tm.sub];by_cases h:op=1
  ·rw [if_pos h,if_pos h];by_cases hn:n<0∨ks.isEmpty=false
   ·rw [if_pos hn,if_pos hn,Tm.sub,if_pos h,if_pos hn]
   ·rw [if_neg hn,if_neg hn]
  ·rw [if_neg h,if_neg h,Tm.sub,if_neg h,subL_sub ks op 0 σ τ]
theorem subL_sub:∀(l:List Tm) (op:Int) (i:Nat) (σ τ:Nat→Tm),Tm.subL op i (Tm.subL op i l σ) τ=Tm.subL op i l (fun i=>(σ i).sub τ)
 | [],_,_,_,_=>rfl
 | t::l,op,i,σ,τ=>by simp only [Tm.subL,Ht t,AjL,subL_sub l]
end
theorem AsL (k:Nat):Gk k vT=vT:=by
 funext i
 by_cases h:i<k
 ·rw [HB h]
 ·rw [Ho h,Lm,show i - k+k=i by omega]
theorem J2:∀(t:Tm) (ρ:Nat→Nat),t.ren ρ=t.sub (fun i=>vT (ρ i)):=by
 intro t ρ;have h:∀(k:Nat) (ρ:Nat→Nat),Gk k (fun i=>vT (ρ i))=fun i=>vT (MV k ρ i):=by
  intro k ρ
  funext i
  by_cases h:i<k
  ·rw [HB h,J9 h]
  ·rw [Ho h,HX h,Lm]
 exact go h t ρ
where
 go (
   h:∀(k:Nat) (ρ:Nat→Nat),Gk k (fun i=>vT (ρ i))=fun i=>vT (MV k ρ i)):∀(t:Tm) (ρ:Nat→Nat),t.ren ρ=t.sub (fun i=>vT (ρ i))
  | .mk op n ks,ρ=>by
   rw [Tm.ren,Tm.sub];by_cases ho:op=1
   ·rw [if_pos ho,if_pos ho]
   ·rw [if_neg ho,if_neg ho,goL h ks op 0 ρ]
 goL (h:∀(k:Nat) (ρ:Nat→Nat),Gk k (fun i=>vT (ρ i))=fun i=>vT (MV k ρ i)):∀(l:List Tm) (op:Int) (i:Nat) (ρ:Nat→Nat),Tm.renL op i l ρ=Tm.subL op i l (fun i=>vT (ρ i))
  | [],_,_,_=>rfl
  | t::l,op,i,ρ=>by simp only [Tm.renL,Tm.subL,go h t,goL h l,h]
mutual
theorem PL:∀(t:Tm),t.sub vT=t
 | .mk op n ks=>by
  rw [Tm.sub];by_cases ho:op=1
  ·rw [if_pos ho];by_cases hn:n<0∨ks.isEmpty=false
   ·rw [if_pos hn]
   ·rw [if_neg hn,vT,ho];have hk:ks=[]:=by
     cases ks with
     | nil=>rfl
     | cons a l=>exact absurd (.inr rfl) hn
    rw [hk];congr 1
    have:¬ n<0:=fun h=>hn (.inl h)
    omega
  ·rw [if_neg ho,subL_id ks op 0]
theorem subL_id:∀(l:List Tm) (op:Int) (i:Nat),Tm.subL op i l vT=l
 | [],_,_=>rfl
 | t::l,op,i=>by
  simp only [Tm.subL];rw [AsL,PL t,subL_id l op (i+1)]
end
mutual
theorem Jw:∀(t:Tm) (d c k:Nat),t.sc k→k+2 * t.wt+d≤9000000000000000000→t.shift d c=t.ren (fun i=>if i<c then i else i+d)
 | .mk op n ks,d,c,k,h,hk=>by
  rw [Tm.sc] at h;rw [Tm.wt] at hk;rw [Tm.shift,Tm.ren];by_cases ho:op=1
  ·subst ho;have h2:=h.2.1;rw [if_pos rfl] at h2;have hks:ks=[]:=List.eq_nil_of_length_eq_zero (Option.some.inj h.1.symm);subst hks;have hv:¬ (n<0∨([]:List Tm).isEmpty=false):=by
    rintro (h | h)
    ·omega
    ·cases h
   rw [if_pos rfl,if_neg hv,vT,Tm.shiftL];by_cases hc:(c:Int)≤n
   ·rw [if_pos ⟨rfl,hc⟩,As (by omega) (by omega),if_neg (by omega)];congr 1;omega
   ·rw [if_neg (fun h=>hc h.2),if_pos (by omega)];congr 1;omega
  ·rw [if_neg ho,if_neg (fun h=>ho h.1),shiftL_ren ks op 0 d c k h.2.2 (by omega)]
theorem shiftL_ren:∀(l:List Tm) (op:Int) (i d c k:Nat),Tm.scL op i l k→k+2+2 * Tm.wtL l+d≤9000000000000000000→Tm.shiftL op i l d c=Tm.renL op i l (fun i=>if i<c then i else i+d)
 | [],_,_,_,_,_,_,_=>rfl
 | t::l,op,i,d,c,k,h,hk=>by
  rw [Tm.scL] at h;simp only [Tm.wtL] at hk;have hb:=AU op i;simp only [Tm.shiftL,Tm.renL];have h1:=Jw t d (c+Ae op i) (k+Ae op i) h.1 (by omega);rw [show ((c+Ae op i:Nat):Int)=(c:Int)+(Ae op i:Int) by omega] at h1
  rw [h1,shiftL_ren l op (i+1) d c k h.2 (by omega)];congr 2
  funext j
  by_cases h1:j<Ae op i
  ·rw [J9 h1,if_pos (by omega)]
  ·rw [HX h1];by_cases h2:j<c+Ae op i
   ·rw [if_pos h2,if_pos (by omega)];omega
   ·rw [if_neg h2,if_neg (by omega)];omega
end
def s1 (x:Tm):Nat→Tm
 | 0=>x
 | j+1=>vT j
def s2 (r k:Tm):Nat→Tm
 | 0=>r
 | 1=>k
 | j+2=>vT j
inductive Par:Tm→Tm→Prop
 | var (n:Int) (ks:List Tm):Par (.mk 1 n ks) (.mk 1 n ks)
 | node (op n:Int) (ks ks':List Tm) (h1:op≠1) (hl:ks'.length=ks.length) (hk:∀(i:Nat) a b,ks[i]?=some a→ks'[i]?=some b→Par a b):Par (.mk op n ks) (.mk op n ks')
 | beta (n m:Int) (a b b' x x':Tm) (hb:Par b b') (hx:Par x x'):Par (.mk 5 n [.mk 4 m [a,b],x]) (b'.sub (s1 x'))
 | fst (n m:Int) (a x x' y:Tm) (hx:Par x x'):Par (.mk 8 n [.mk 7 m [a,x,y]]) x'
 | snd (n m:Int) (a x y y':Tm) (hy:Par y y'):Par (.mk 9 n [.mk 7 m [a,x,y]]) y'
 | splq (c c':Tm) (hc:Par c c'):Par (.mk 30 0 [.mk 19 0 [c]]) c'
 | quos (c c':Tm) (hc:Par c c'):Par (.mk 19 0 [.mk 30 0 [c]]) c'
 | recz (n m:Int) (a z z' s:Tm) (l:List Tm) (hz:Par z z'):Par (.mk 13 n [a,z,s,.mk 11 m l]) z'
 | recs (n m:Int) (a a' z z' s s' k k':Tm) (ha:Par a a') (hz:Par z z') (hs:Par s s') (hk:Par k k'):Par (.mk 13 n [a,z,s,.mk 12 m [k]]) (s'.sub (s2 (.mk 13 0 [a',z',s',k']) k'))
theorem Ag3:∀(m:Nat) (t:Tm),t.wt<m→Par t t:=by
 intro m
 induction m with
 | zero=>intro t h;omega
 | succ m ih =>
  intro t h;obtain ⟨op,n,ks⟩:=t;simp only [Tm.wt] at h;by_cases h1:op=1
  ·subst h1;exact .var n ks
  ·exact .node op n ks ks h1 rfl (fun i a b ha hb=>by
    rw [ha] at hb;cases hb;exact ih a (by have:=HO ha;omega))
theorem Bl (t:Tm):Par t t:=Ag3 (t.wt+1) t (by omega)
theorem M9 (ρ:Nat→Nat):MV 0 ρ=ρ:=by
 funext i;simp [MV]
theorem Nd (σ:Nat→Tm):Gk 0 σ=σ:=by
 funext i
 simp only [Gk,Nat.not_lt_zero,if_false,Nat.sub_zero];rw [J2];exact PL _
theorem ApJ (x:Tm) (ρ:Nat→Nat):(fun i=>(s1 x i).ren ρ)=fun i=>s1 (x.ren ρ) (MV 1 ρ i):=by
 funext i
 cases i with
 | zero=>simp [s1,MV]
 | succ i=>simp [s1,MV,Lm]
theorem Aop (r k:Tm) (ρ:Nat→Nat):(fun i=>(s2 r k i).ren ρ)=fun i=>s2 (r.ren ρ) (k.ren ρ) (MV 2 ρ i):=by
 funext i
 match i with
 | 0=>simp [s2,MV]
 | 1=>simp [s2,MV]
 | i+2 =>
  show (vT i).ren ρ=s2 _ _ (MV 2 ρ (i+2))
  rw [HX (by omega),Lm,Nat.add_sub_cancel];rfl
theorem Lp (t:Tm) (k:Nat) (τ:Nat→Tm) (h:∀j,τ (j+k)=vT j):(t.ren fun j=>j+k).sub τ=t:=by
 rw [Iz]
 have:(fun i=>τ (i+k))=vT:=funext h
 rw [this,PL]
theorem Ap3 (x:Tm) (σ:Nat→Tm):(fun i=>(s1 x i).sub σ)=fun i=>(Gk 1 σ i).sub (s1 (x.sub σ)):=by
 funext i
 cases i with
 | zero=>simp [s1,Gk,JS]
 | succ i =>
  simp only [s1,Gk,JS];rw [if_neg (by omega),Nat.add_sub_cancel,Lp _ _ _ (fun j=>rfl)]
theorem AmK (r k:Tm) (σ:Nat→Tm):(fun i=>(s2 r k i).sub σ)=fun i=>(Gk 2 σ i).sub (s2 (r.sub σ) (k.sub σ)):=by
 funext i
 match i with
 | 0=>simp [s2,Gk,JS]
 | 1=>simp [s2,Gk,JS]
 | i+2 =>
  simp only [s2,Gk,JS];rw [if_neg (by omega),Nat.add_sub_cancel,Lp _ _ _ (fun j=>rfl)]
theorem AlV {t t':Tm} (h:Par t t'):∀ρ,Par (t.ren ρ) (t'.ren ρ):=by
 induction h with
 | var n ks=>intro ρ;exact Bl _
 | node op n ks ks' h1 hl hk ih =>
  intro ρ;rw [Tm.ren,if_neg h1,Tm.ren,if_neg h1];refine .node _ _ _ _ h1 (by rw [HT,HT,hl]) (fun i a b ha hb=>?_);rw [Og,Nat.zero_add] at ha hb;cases hx:ks[i]? with
  | none=>rw [hx] at ha;cases ha
  | some x =>
   cases hy:ks'[i]? with
   | none=>rw [hy] at hb;cases hb
   | some y =>
    rw [hx] at ha;rw [hy] at hb;simp only [AwS,AwP] at ha hb;subst ha hb;exact ih i x y hx hy _
 | beta n m a b b' x x' hb hx ihb ihx =>
  intro ρ
  have:=Par.beta n m (a.ren (MV 0 ρ)) _ _ _ _ (ihb (MV 1 ρ)) (ihx ρ)
  rw [KA,ApJ,← Iz];simp only [Tm.ren,Tm.renL];rw [if_neg (by omega),if_neg (by omega)];simpa [Ae,M9] using this
 | fst n m a x x' y hx ih =>
  intro ρ
  have:=Par.fst n m (a.ren ρ) _ _ (y.ren ρ) (ih ρ)
  simp only [Tm.ren,Tm.renL];rw [if_neg (by omega),if_neg (by omega)];simpa [Ae,M9] using this
 | snd n m a x y y' hy ih =>
  intro ρ
  have:=Par.snd n m (a.ren ρ) (x.ren ρ) _ _ (ih ρ)
  simp only [Tm.ren,Tm.renL];rw [if_neg (by omega),if_neg (by omega)];simpa [Ae,M9] using this
 | splq c c' hc ih =>
  intro ρ
  have:=Par.splq _ _ (ih ρ)
  simp only [Tm.ren,Tm.renL];rw [if_neg (by omega),if_neg (by omega)];simpa [Ae,M9] using this
 | quos c c' hc ih =>
  intro ρ
  have:=Par.quos _ _ (ih ρ)
  simp only [Tm.ren,Tm.renL];rw [if_neg (by omega),if_neg (by omega)];simpa [Ae,M9] using this
 | recz n m a z z' s l hz ih =>
  intro ρ
  have:=Par.recz n m (a.ren (MV 1 ρ)) _ _ (s.ren (MV 2 ρ)) (Tm.renL 11 0 l ρ) (ih ρ)
  simp only [Tm.ren,Tm.renL];rw [if_neg (by omega),if_neg (by omega)];simpa [Ae,M9] using this
 | recs n m a a' z z' s s' k k' ha hz hs hk iha ihz ihs ihk =>
  intro ρ
  have:=Par.recs n m _ _ _ _ _ _ _ _ (iha (MV 1 ρ)) (ihz ρ) (ihs (MV 2 ρ)) (ihk ρ)
  rw [KA,Aop,← Iz];simp only [Tm.ren,Tm.renL];rw [if_neg (by omega),if_neg (by omega),if_neg (by omega)];simpa [Ae,M9] using this
theorem NM {σ σ':Nat→Tm} (h:∀i,Par (σ i) (σ' i)) (k:Nat):∀i,Par (Gk k σ i) (Gk k σ' i):=by
 intro i;simp only [Gk];by_cases hi:i<k
 ·rw [if_pos hi,if_pos hi];exact Bl _
 ·rw [if_neg hi,if_neg hi];exact AlV (h _) _
theorem NW {t t':Tm} (h:Par t t'):∀σ σ',(∀i,Par (σ i) (σ' i))→Par (t.sub σ) (t'.sub σ'):=by
 induction h with
 | var n ks =>
  intro σ σ' hσ;rw [Tm.sub,if_pos rfl,Tm.sub,if_pos rfl];by_cases hn:n<0∨ks.isEmpty=false
  ·rw [if_pos hn,if_pos hn];exact Bl _
  ·rw [if_neg hn,if_neg hn];exact hσ _
 | node op n ks ks' h1 hl hk ih =>
  intro σ σ' hσ;rw [Tm.sub,if_neg h1,Tm.sub,if_neg h1];refine .node _ _ _ _ h1 (by rw [KO,KO,hl]) (fun i a b ha hb=>?_);rw [Wo,Nat.zero_add] at ha hb;cases hx:ks[i]? with
  | none=>rw [hx] at ha;cases ha
  | some x =>
   cases hy:ks'[i]? with
   | none=>rw [hy] at hb;cases hb
   | some y =>
    rw [hx] at ha;rw [hy] at hb;simp only [AwS,AwP] at ha hb;subst ha hb;exact ih i x y hx hy _ _ (NM hσ _)
 | beta n m a b b' x x' hb hx ihb ihx =>
  intro σ σ' hσ
  have:=Par.beta n m (a.sub σ) _ _ _ _ (ihb _ _ (NM hσ 1)) (ihx _ _ hσ)
  rw [Ht,Ap3,← Ht];simp only [Tm.sub,Tm.subL];rw [if_neg (by omega),if_neg (by omega)];simpa [Ae,Nd] using this
 | fst n m a x x' y hx ih =>
  intro σ σ' hσ
  have:=Par.fst n m (a.sub σ) _ _ (y.sub σ) (ih _ _ hσ)
  simp only [Tm.sub,Tm.subL];rw [if_neg (by omega),if_neg (by omega)];simpa [Ae,Nd] using this
 | snd n m a x y y' hy ih =>
  intro σ σ' hσ
  have:=Par.snd n m (a.sub σ) (x.sub σ) _ _ (ih _ _ hσ)
  simp only [Tm.sub,Tm.subL];rw [if_neg (by omega),if_neg (by omega)];simpa [Ae,Nd] using this
 | splq c c' hc ih =>
  intro σ σ' hσ
  have:=Par.splq _ _ (ih _ _ hσ)
  simp only [Tm.sub,Tm.subL];rw [if_neg (by omega),if_neg (by omega)];simpa [Ae,Nd] using this
 | quos c c' hc ih =>
  intro σ σ' hσ
  have:=Par.quos _ _ (ih _ _ hσ)
  simp only [Tm.sub,Tm.subL];rw [if_neg (by omega),if_neg (by omega)];simpa [Ae,Nd] using this
 | recz n m a z z' s l hz ih =>
  intro σ σ' hσ
  have:=Par.recz n m (a.sub (Gk 1 σ)) _ _ (s.sub (Gk 2 σ)) (Tm.subL 11 0 l σ) (ih _ _ hσ)
  simp only [Tm.sub,Tm.subL];rw [if_neg (by omega),if_neg (by omega)];simpa [Ae,Nd] using this
 | recs n m a a' z z' s s' k k' ha hz hs hk iha ihz ihs ihk =>
  intro σ σ' hσ
  have:=Par.recs n m _ _ _ _ _ _ _ _ (iha _ _ (NM hσ 1)) (ihz _ _ hσ) (ihs _ _ (NM hσ 2)) (ihk _ _ hσ)
  rw [Ht,AmK,← Ht];simp only [Tm.sub,Tm.subL];rw [if_neg (by omega),if_neg (by omega),if_neg (by omega)];simpa [Ae,Nd] using this
theorem Zp {Q:Tm→Tm→Prop}:∀(ks:List Tm),(∀a∈ks,∃d,Q a d)→∃ds:List Tm,ds.length=ks.length∧∀(i:Nat) a d,ks[i]?=some a→ds[i]?=some d→Q a d
 | [],_=>⟨[],rfl,fun i a d h=>by simp at h⟩
 | a::l,h=>by
  obtain ⟨d,hd⟩:=h a List.mem_cons_self;obtain ⟨ds,h1,h2⟩:=Zp l (fun a ha=>h a (List.mem_cons_of_mem _ ha));refine ⟨d::ds,by simp [h1],fun i x y hx hy=>?_⟩;cases i with
  | zero=>simp at hx hy;subst hx hy;exact hd
  | succ i=>simp at hx hy;exact h2 i x y hx hy
def Ana (op n:Int) (ks:List Tm):Prop:=(op=5∧∃m a b x,ks=[.mk 4 m [a,b],x])∨(op=8∧∃m a x y,ks=[.mk 7 m [a,x,y]])∨(op=9∧∃m a x y,ks=[.mk 7 m [a,x,y]])∨(op=30∧n=0∧∃c,ks=[.mk 19 0 [c]])∨(op=19∧n=0∧∃c,ks=[.mk 30 0 [c]]) ∨
 (op=13∧∃a z s m l,ks=[a,z,s,.mk 11 m l])∨(op=13∧∃a z s m k,ks=[a,z,s,.mk 12 m [k]])
theorem Amg {n op:Int} {x y:Tm} {t:Tm} (h:Par (.mk op n [x,y]) t) (ho:op≠1∧op≠5):∃x' y',t=.mk op n [x',y']∧Par x x'∧Par y y':=by
 cases h with
 | var=>exact absurd rfl ho.1
 | node _ _ _ ks' h1 hl hk =>
  obtain ⟨x',y',rfl⟩:=MK hl;exact ⟨x',y',rfl,hk 0 x x' rfl rfl,hk 1 y y' rfl rfl⟩
 | beta=>exact absurd rfl ho.2
theorem Ag8 {n op:Int} {x y z:Tm} {t:Tm} (h:Par (.mk op n [x,y,z]) t) (ho:op≠1):∃x' y' z',t=.mk op n [x',y',z']∧Par x x'∧Par y y'∧Par z z':=by
 cases h with
 | var=>exact absurd rfl ho
 | node _ _ _ ks' h1 hl hk =>
  obtain ⟨x',y',z',rfl⟩:=AiS hl;exact ⟨x',y',z',rfl,hk 0 x x' rfl rfl,hk 1 y y' rfl rfl,hk 2 z z' rfl rfl⟩
theorem dev:∀(m:Nat) (t:Tm),t.wt<m→∃d,∀t',Par t t'→Par t' d:=by
 intro m
 induction m with
 | zero=>intro t h;omega
 | succ m ih =>
  intro t hw;obtain ⟨op,n,ks⟩:=t;by_cases h1:op=1
  ·subst h1;refine ⟨.mk 1 n ks,fun t' h=>?_⟩;cases h with
   | var=>exact .var n ks
   | node _ _ _ _ h1=>exact absurd rfl h1
  by_cases hr:Ana op n ks
  ·rcases hr with ⟨rfl,m1,a,b,x,rfl⟩ | ⟨rfl,m1,a,x,y,rfl⟩ | ⟨rfl,m1,a,x,y,rfl⟩ | ⟨rfl,rfl,c,rfl⟩ | ⟨rfl,rfl,c,rfl⟩ | ⟨rfl,a,z,s,m1,l,rfl⟩ | ⟨rfl,a,z,s,m1,k,rfl⟩
   ·simp only [Tm.wt,Tm.wtL] at hw;obtain ⟨db,hb⟩:=ih b (by omega);obtain ⟨dx,hx⟩:=ih x (by omega);refine ⟨db.sub (s1 dx),fun t' h=>?_⟩;cases h with
    | node _ _ _ ks' _ hl hk =>
     obtain ⟨l',x',rfl⟩:=MK hl;obtain ⟨a',b',rfl,_,q2⟩:=Amg (hk 0 _ l' rfl rfl) (by decide);exact .beta n m1 a' b' db x' dx (hb b' q2) (hx x' (hk 1 x x' rfl rfl))
    | beta _ _ _ _ b' _ x' p1 p2 =>
     refine NW (hb b' p1) _ _ (fun i=>?_);cases i with
     | zero=>exact hx x' p2
     | succ i=>exact Bl _
   ·simp only [Tm.wt,Tm.wtL] at hw;obtain ⟨dx,hx⟩:=ih x (by omega);refine ⟨dx,fun t' h=>?_⟩;cases h with
    | node _ _ _ ks' _ hl hk =>
     obtain ⟨l',rfl⟩:=Cf hl;obtain ⟨a',x',y',rfl,_,q2,_⟩:=Ag8 (hk 0 _ l' rfl rfl) (by decide);exact .fst n m1 a' x' dx y' (hx x' q2)
    | fst _ _ _ _ _ _ p=>exact hx _ p
   ·simp only [Tm.wt,Tm.wtL] at hw;obtain ⟨dy,hy⟩:=ih y (by omega);refine ⟨dy,fun t' h=>?_⟩;cases h with
    | node _ _ _ ks' _ hl hk =>
     obtain ⟨l',rfl⟩:=Cf hl;obtain ⟨a',x',y',rfl,_,_,q3⟩:=Ag8 (hk 0 _ l' rfl rfl) (by decide);exact .snd n m1 a' x' y' dy (hy y' q3)
    | snd _ _ _ _ _ _ p=>exact hy _ p
   ·simp only [Tm.wt,Tm.wtL] at hw;obtain ⟨dc,hc⟩:=ih c (by omega);refine ⟨dc,fun t' h=>?_⟩;cases h with
    | node _ _ _ ks' _ hl hk =>
     obtain ⟨l',rfl⟩:=Cf hl;have hq:=hk 0 _ l' rfl rfl;cases hq with
     | node _ _ _ ks2 _ hl2 hk2 =>
      obtain ⟨c',rfl⟩:=Cf hl2;exact .splq c' dc (hc c' (hk2 0 c c' rfl rfl))
     | quos e _ he=>exact hc _ (.node 30 0 [e] [l'] (by decide) rfl (fun i a b ha hb=>by
       cases i with
       | zero=>simp at ha hb;subst ha hb;exact he
       | succ i=>simp at ha))
    | splq _ _ p=>exact hc _ p
   ·simp only [Tm.wt,Tm.wtL] at hw;obtain ⟨dc,hc⟩:=ih c (by omega);refine ⟨dc,fun t' h=>?_⟩;cases h with
    | node _ _ _ ks' _ hl hk =>
     obtain ⟨l',rfl⟩:=Cf hl;have hq:=hk 0 _ l' rfl rfl;cases hq with
     | node _ _ _ ks2 _ hl2 hk2 =>
      obtain ⟨c',rfl⟩:=Cf hl2;exact .quos c' dc (hc c' (hk2 0 c c' rfl rfl))
     | splq e _ he=>exact hc _ (.node 19 0 [e] [l'] (by decide) rfl (fun i a b ha hb=>by
       cases i with
       | zero=>simp at ha hb;subst ha hb;exact he
       | succ i=>simp at ha))
    | quos _ _ p=>exact hc _ p
   ·simp only [Tm.wt,Tm.wtL] at hw;obtain ⟨dz,hz⟩:=ih z (by omega);refine ⟨dz,fun t' h=>?_⟩;cases h with
    | node _ _ _ ks' _ hl hk =>
     obtain ⟨a',z',s',k',rfl⟩:=OO hl;have hq:=hk 3 _ k' rfl rfl;cases hq with
     | node _ _ _ l2 _ hl2 hk2=>exact .recz n m1 a' z' dz s' l2 (hz z' (hk 1 z z' rfl rfl))
    | recz _ _ _ _ _ _ _ p=>exact hz _ p
   ·simp only [Tm.wt,Tm.wtL] at hw;obtain ⟨da,ha⟩:=ih a (by omega);obtain ⟨dz,hz⟩:=ih z (by omega);obtain ⟨ds,hs⟩:=ih s (by omega);obtain ⟨dk,hk⟩:=ih k (by omega);refine ⟨ds.sub (s2 (.mk 13 0 [da,dz,ds,dk]) dk),fun t' h=>?_⟩;cases h with
    | node _ _ _ ks' _ hl hkk =>
     obtain ⟨a',z',s',k',rfl⟩:=OO hl;have hq:=hkk 3 _ k' rfl rfl;cases hq with
     | node _ _ _ l2 _ hl2 hk2 =>
      obtain ⟨k2,rfl⟩:=Cf hl2;exact .recs n m1 a' da z' dz s' ds k2 dk (ha a' (hkk 0 a a' rfl rfl)) (hz z' (hkk 1 z z' rfl rfl)) (hs s' (hkk 2 s s' rfl rfl)) (hk k2 (hk2 0 k k2 rfl rfl))
    | recs _ _ _ a' _ z' _ s' _ k' pa pz ps pk =>
     refine NW (hs s' ps) _ _ (fun i=>?_)
     match i with
     | 0 =>
      refine .node 13 0 _ _ (by decide) rfl (fun i a1 b1 e1 e2=>?_)
      match i with
      | 0=>simp at e1 e2;subst e1 e2;exact ha a' pa
      | 1=>simp at e1 e2;subst e1 e2;exact hz z' pz
      | 2=>simp at e1 e2;subst e1 e2;exact hs s' ps
      | 3=>simp at e1 e2;subst e1 e2;exact hk k' pk
      | i+4=>simp at e1
     | 1=>exact hk k' pk
     | i+2=>exact Bl _
  ·simp only [Tm.wt] at hw;obtain ⟨ds,hd1,hd2⟩:=Zp (Q:=fun a d=>∀t',Par a t'→Par t' d) ks (fun a ha=>ih a (by have:=BN ha;omega));refine ⟨.mk op n ds,fun t' h=>?_⟩;cases h with
   | var=>exact absurd rfl h1
   | node _ _ _ ks' _ hl hk =>
    refine .node op n ks' ds h1 (by rw [hd1,hl]) (fun i a b ha hb=>?_);have hi:i<ks.length:=by rw [← hl];exact (List.getElem?_eq_some_iff.1 ha).1
    have hx:=List.getElem?_eq_getElem hi;exact hd2 i _ b hx hb a (hk i _ a hx ha)
   | beta _ m1 a b b' x x'=>exact absurd (.inl ⟨rfl,m1,a,b,x,rfl⟩) hr
   | fst _ m1 a x x' y=>exact absurd (.inr (.inl ⟨rfl,m1,a,x,y,rfl⟩)) hr
   | snd _ m1 a x y y'=>exact absurd (.inr (.inr (.inl ⟨rfl,m1,a,x,y,rfl⟩))) hr
   | splq c c'=>exact absurd (.inr (.inr (.inr (.inl ⟨rfl,rfl,c,rfl⟩)))) hr
   | quos c c'=>exact absurd (.inr (.inr (.inr (.inr (.inl ⟨rfl,rfl,c,rfl⟩))))) hr
   | recz _ m1 a z z' s l=>exact absurd (.inr (.inr (.inr (.inr (.inr (.inl ⟨rfl,a,z,s,m1,l,rfl⟩)))))) hr
   | recs _ m1 a a' z z' s s' k k'=>exact absurd (.inr (.inr (.inr (.inr (.inr (.inr ⟨rfl,a,z,s,m1,k,rfl⟩)))))) hr
inductive Pars:Tm→Tm→Prop
 | refl (t:Tm):Pars t t
 | step {a b c:Tm} (h:Par a b) (hs:Pars b c):Pars a c
theorem Fd {a b:Tm} (h:Par a b):Pars a b:=.step h (.refl _)
theorem CJ {a b c:Tm} (h:Pars a b) (h2:Pars b c):Pars a c:=by
 induction h with
 | refl=>exact h2
 | step h _ ih=>exact .step h (ih h2)
theorem AqZ {a c:Tm} (h:Pars a c):∀{b:Tm},Par a b→∃d,Pars b d∧Par c d:=by
 induction h with
 | refl t=>intro b hb;exact ⟨b,.refl _,hb⟩
 | @step a b' c h _ ih =>
  intro b hb;obtain ⟨d,hd⟩:=dev (a.wt+1) a (by omega);obtain ⟨e,h1,h2⟩:=ih (hd _ h);exact ⟨e,.step (hd _ hb) h1,h2⟩
theorem Aiq {a b:Tm} (h:Pars a b):∀{c:Tm},Pars a c→∃d,Pars b d∧Pars c d:=by
 induction h with
 | refl t=>intro c hc;exact ⟨c,hc,.refl _⟩
 | step h _ ih =>
  intro c hc;obtain ⟨d,h1,h2⟩:=AqZ hc h;obtain ⟨e,h3,h4⟩:=ih h1;exact ⟨e,h3,.step h2 h4⟩
theorem AlP {t t':Tm} (h:Par t t'):t.stl→t'=t:=by
 induction h with
 | var=>intro _;rfl
 | node op n ks ks' h1 hl hk ih =>
  intro hs;rw [Tm.stl] at hs;congr 1;apply List.ext_getElem?;intro i;by_cases hi:i<ks.length
  ·have hx:=List.getElem?_eq_getElem hi;have hy:=List.getElem?_eq_getElem (show i<ks'.length by omega)
   rw [hx,hy,ih i _ _ hx hy (CE hs.2 (List.mem_of_getElem? hx))]
  ·rw [List.getElem?_eq_none (by omega),List.getElem?_eq_none (by omega)]
 | beta n m a b b' x x'=>intro hs;rw [Tm.stl] at hs;exact absurd rfl (hs.1.2.1 rfl _ rfl)
 | fst n m a x x' y=>intro hs;rw [Tm.stl] at hs;exact absurd rfl (hs.1.2.2 (.inl rfl) _ rfl)
 | snd n m a x y y'=>intro hs;rw [Tm.stl] at hs;exact absurd rfl (hs.1.2.2 (.inr rfl) _ rfl)
 | splq c c'=>intro hs;rw [Tm.stl] at hs;exact absurd rfl (hs.1.1.1 rfl _ rfl)
 | quos c c'=>intro hs;rw [Tm.stl] at hs;exact absurd rfl (hs.1.1.2.1 rfl _ rfl)
 | recz n m a z z' s l=>intro hs;rw [Tm.stl] at hs;exact absurd rfl (hs.1.1.2.2 rfl _ rfl).1
 | recs n m a a' z z' s s' k k'=>intro hs;rw [Tm.stl] at hs;exact absurd rfl (hs.1.1.2.2 rfl _ rfl).2
theorem Lj {t t':Tm} (h:Pars t t'):t.stl→t'=t:=by
 induction h with
 | refl=>intro _;rfl
 | step h _ ih =>
  intro hs
  have:=AlP h hs
  subst this;exact ih hs
theorem Ml {t u n m d:Tm} (h1:Pars t n) (h2:Pars u m) (h3:Pars t d) (h4:Pars u d) (hn:n.stl) (hm:m.stl):n=m:=by
 obtain ⟨e,a1,a2⟩:=Aiq h1 h3;obtain ⟨e',b1,b2⟩:=Aiq h2 h4
 have:=Lj a1 hn
 subst this
 have:=Lj b1 hm
 subst this;obtain ⟨x,c1,c2⟩:=Aiq a2 b2;rw [← Lj c1 hn,Lj c2 hm]
theorem Ix {op n:Int} (h1:op≠1):∀{ks ks':List Tm},ks'.length=ks.length→(∀(i:Nat) a b,ks[i]?=some a→ks'[i]?=some b→Pars a b)→Pars (.mk op n ks) (.mk op n ks'):=by
 have key:∀(
        pre ks ks':List Tm),ks'.length=ks.length→(∀(i:Nat) a b,ks[i]?=some a→ks'[i]?=some b→Pars a b)→Pars (.mk op n (pre++ks)) (.mk op n (pre++ks')):=by
  intro pre ks
  induction ks generalizing pre with
  | nil =>
   intro ks' hl _;rw [List.eq_nil_of_length_eq_zero hl];exact .refl _
  | cons a l ih =>
   intro ks' hl hk;cases ks' with
   | nil=>simp at hl
   | cons b l' =>
    have hab:=hk 0 a b rfl rfl;have hrest:=ih (pre++[b]) l' (by simpa using hl) (fun i x y hx hy=>hk (i+1) x y (by simpa using hx) (by simpa using hy));rw [List.append_assoc,List.append_assoc] at hrest;refine CJ ?_ hrest;have one:∀{x y:Tm},Pars x y→Pars (.mk op n (pre++x::l)) (.mk op n (pre++y::l)):=by
     intro x y h
     induction h with
     | refl=>exact .refl _
     | step h _ ih2 =>
      refine .step (.node op n _ _ h1 (by simp) (fun i p q hp hq=>?_)) ih2;by_cases hi:i<pre.length
      ·rw [List.getElem?_append_left hi] at hp hq;rw [hp] at hq;cases hq;exact Bl _
      ·rw [List.getElem?_append_right (by omega)] at hp hq;cases hd:i - pre.length with
       | zero =>
        rw [hd] at hp hq;simp at hp hq;subst hp hq;exact h
       | succ j =>
        rw [hd] at hp hq;simp at hp hq;rw [hp] at hq;cases hq;exact Bl _
    exact one hab
 intro ks ks' hl hk;exact key [] ks ks' hl hk
theorem Ag9 {t t':Tm} (h:Pars t t') (σ:Nat→Tm):Pars (t.sub σ) (t'.sub σ):=by
 induction h with
 | refl=>exact .refl _
 | step h _ ih=>exact .step (NW h σ σ (fun i=>Bl _)) ih
theorem Aj6 (t:Tm) (σ:Nat→Tm) (j:Nat) {x y:Tm} (h:Pars x y):Pars (t.sub fun i=>if i=j then x else σ i) (t.sub fun i=>if i=j then y else σ i):=by
 induction h with
 | refl=>exact .refl _
 | step h _ ih =>
  refine .step (NW (Bl t) _ _ (fun i=>?_)) ih;by_cases hi:i=j
  ·simp only [hi,if_true];exact h
  ·simp only [hi,if_false];exact Bl _
end Idl
end Go.Proofs.Ytaifgaidaglblaa

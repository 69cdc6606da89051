/-
  Texts of a proof, part 13: an ideal semantics of the program, its functions in shallow form, contracts of them. No statement of the seat is proved here.
-/
import Derived.Test.YtbkdidonegggdaaNormStepsK12
set_option linter.all false
noncomputable section
namespace Go.Proofs.Ytbkdidonegggdaa
namespace Idl
theorem AiW (ih:Aa) (xs:List IV) (h0:Hp) (k:IV→Hp→List Ref→List Ref→Option (IV×Hp)):Jo EE ih (.fv (.func (.func 88) [] [])) xs h0 k=Aj [] false false ih 88 xs h0 k :=
 AoO (by kernel_rfl) (by kernel_rfl) (by kernel_rfl) (by kernel_rfl) ..
theorem Ade {n:Nat} (hn:0<n) (op:Int) (i:Nat):Bk (SS dt n 88 [iv op,iv i] ⟨[],[]⟩) (.int .i64 (Af op i)):=by
 obtain ⟨n,rfl⟩:∃k,n=k+1:=⟨n - 1,by omega⟩;rw [c88];unfold Af;by_cases h:op=3∨op=4∨op=6∨op=20∨op=28∨op=29
 ·rw [if_pos h];by_cases hi:i=1
  ·subst hi;rcases h with rfl | rfl | rfl | rfl | rfl | rfl<;>(simp only [↓Adb,↓XX,XY,↓reduceIte,Nat.reduceBEq,Nat.reduceAdd,Int.reduceEq,Int.reduceLT,Int.reduceLE];exact Aq _ _)
  ·have hi':¬ (i:Int)=1:=by omega
   rcases h with rfl | rfl | rfl | rfl | rfl | rfl<;>(simp only [↓Adb,↓XX,XY,↓reduceIte,Nat.reduceBEq,Nat.reduceAdd,Int.reduceEq,Int.reduceLT,Int.reduceLE,hi',hi];exact Aq _ _)
 ·rw [if_neg h];have h3:¬ op=3:=fun e=>h (by simp [e]);have h4:¬ op=4:=fun e=>h (by simp [e]);have h6:¬ op=6:=fun e=>h (by simp [e]);have h20:¬ op=20:=fun e=>h (by simp [e]);have h28:¬ op=28:=fun e=>h (by simp [e]);have h29:¬ op=29:=fun e=>h (by simp [e]);by_cases h13:op=13
  ·subst h13;by_cases h0:i=0
   ·subst h0;simp only [↓Adb,↓XX,XY,↓reduceIte,Nat.reduceBEq,Nat.reduceAdd,Int.reduceEq,Int.reduceLT,Int.reduceLE];exact Aq _ _
   ·have h0':¬ (i:Int)=0:=by omega
    by_cases h2:i=2
    ·subst h2;simp only [↓Adb,↓XX,XY,↓reduceIte,Nat.reduceBEq,Nat.reduceAdd,Int.reduceEq,Int.reduceLT,Int.reduceLE];exact Aq _ _
    ·have h2':¬ (i:Int)=2:=by omega
     simp only [↓Adb,↓XX,XY,↓reduceIte,Nat.reduceBEq,Nat.reduceAdd,Int.reduceEq,Int.reduceLT,Int.reduceLE,h0,h0',h2,h2'];exact Aq _ _
  ·simp only [↓Adb,↓XX,XY,↓reduceIte,Nat.reduceBEq,Nat.reduceAdd,Int.reduceEq,Int.reduceLT,Int.reduceLE,h3,h4,h6,h20,h28,h29,h13];exact Aq _ _
theorem Uw {n:Nat} (hn:1<n) (op:Int) (i:Nat):Bk (SS dt n 79 [iv op,iv i] ⟨[],[]⟩) (.int .i64 (Af op i)):=by
 obtain ⟨n,rfl⟩:∃k,n=k+1:=⟨n - 1,by omega⟩;rw [c79];have h:=Ade (n:=n) (by omega) op i;simp only [S79,↓XX,XY,↓reduceIte,Nat.reduceBEq,Nat.reduceAdd,Int.reduceEq,Int.reduceLT,Int.reduceLE,↓AiW,↓Ad h];exact Aq _ _
theorem Ag3 {β:Type}:∀(l:List IV) (i:Nat) (x:IV) (k:List IV→Option β),i<l.length→GP l i x k=k (l.set i x)
 | [],i,x,k,h=>absurd h (by simp)
 | y::l,0,x,k,_=>rfl
 | y::l,i+1,x,k,h=>by
  show GP l i x (fun t=>k (y::t))=_
  rw [Ag3 l i x _ (by simpa using h)];rfl
def nils (n:Nat):List PV:=List.replicate n .nil
theorem Ahq (n:Nat):Ot n [IV.fv .nilp]=((nils n).map PV.enc).map IV.fv:=by
 induction n with
 | zero=>rfl
 | succ n ih=>rw [Ot,ih];rfl
theorem AmG {n:Nat} (hn:n≤1000) (s:Nat) (own:List (Nat×Blk)) (ext:List Blk) (k:IV→Hp→List Ref→List Ref→Option (IV×Hp)) :
  Aw (BP EE s 104 (iv n) (iv n)) s ⟨own,ext⟩ k=CO own s (A2 own s (.row (((nils n).map PV.enc).map IV.fv) false) fun own=>k (.slc (.own s) 1 n) ⟨own,ext⟩ [] [.own s]):=by
 have:BP EE s 104 (iv n) (iv n)=.ret { eff:={ val:=.slc (.own s) 1 n },new:=some (.row (((nils n).map PV.enc).map IV.fv) false) }:=by
  simp only [BP,tPs,tPp,Ws];rw [if_pos ⟨by omega,by omega,by omega,by decide,by decide⟩,Int.toNat_natCast,Ahq]
 rw [this];unfold Aw;simp only [Rd.runLog,Jl,C3,CB];rfl
theorem Aka (v:PV):IV.one (.fv v.enc)=true:=by
 cases v with
 | nil=>rfl
 | mk op n k t e=>obtain ⟨bo,bn,bk⟩:=t;rw [AR];rfl
theorem AjR {β:Type} {n i:Nat} (h:i<n) (r:Ref) (k:IV→Option β):Bc 1 (.slc r 1 n) (iv i) k=k (.ptr r i):=by
 have e1:Nat.ble (Nat.succ i) n=true:=by rw [Bi];exact decide_eq_true h
 show (AdJ (iv i) fun n'=>cond (and (Nat.ble (Nat.succ n') n) (Nat.beq 1 1)) (DZ (n' * 1) fun o=>k (.ptr r o)) none)=_
 show (cond (and (Nat.ble (Nat.succ i) n) (Nat.beq 1 1)) (DZ (i * 1) fun o=>k (.ptr r o)) none)=_
 rw [e1];simp only [BM,Nat.mul_one];rfl
theorem AjV {done:List PV} {r:Nat} {β:Type} (v:PV) (k:List IV→Option β):GP (((done++nils (r+1)).map PV.enc).map IV.fv) done.length (.fv v.enc) k=k ((((done++[v])++nils r).map PV.enc).map IV.fv):=by
 rw [Ag3 _ _ _ _ (by simp [nils])];congr 1;simp only [nils,List.replicate_succ,List.map_append,Ath,List.append_assoc,List.cons_append,List.nil_append,Atg];rw [List.set_append_right _ _ (by simp)];simp
abbrev Hev (op m:Int) (ks:List Tm) (env kk:List PV) (ro:Bool) (s w r e:Int):Hp :=
 ⟨[(54525952,.row [iv op,iv m,.fv (.sl (ks.map Tm.enc))] false),(54530055,.row ((kk.map PV.enc).map .fv) ro),(54530059,.row [iv op,iv m,.slc (.own 54530055) 1 ks.length,iv op,iv m,.fv (.sl (ks.map Tm.enc)),.fv (PV.encEnv env)] ro)],MX s w r e⟩
theorem FP {base rm:List Nat} {vals:List IV} {own:List (Nat×Blk)} {s w r e:Int} (hb:rm.any base.contains=false) (hf:AB rm vals own []=true) (k:Hp→Option (IV×Hp)) :
  BB base rm vals ⟨own,MX s w r e⟩ k=k ⟨Jb rm vals own [],MX s w r e⟩:=AlT (fun j=>AhX s w r e j) hb hf k
theorem AgR {op m:Int} {ks:List Tm} {env kk:List PV} {s w r e:Int} (hl:kk.length=ks.length) (h3:ks.length≤300):Bq (some (.ptr (.own 54530059) 0,Hev op m ks env kk false s w r e)) (PV.mk op m kk (.mk op m ks) env).enc (MX s w r e):=by
 rw [AR];have hl':ks.length=(kk.map PV.enc).length:=by simp [hl]
 have:=fun (e0:Option (IV×Hp)) (K:FV→List (Ref×Blk)→List Ref→Option (IV×Hp))=>ApF (s:=54530059) (s2:=54530055) (own:=(Hev op m ks env kk false s w r e).own) (ext:=MX s w r e) (es:=kk.map PV.enc) (ro:=false) (ro2:=false) (a:=.int .i64 op) (b:=.int .i64 m) (c:=.int .i64 op) (d:=.int .i64 m) (t:=.sl (ks.map Tm.enc)) (x:=PV.encEnv env)
  (by rw [← hl'];rfl) (by rfl) (by simp [hl];omega) (by simp only [List.mem_map];rintro x ⟨v,_,rfl⟩;exact MJ v) [] e0 K
 exact ⟨_,_,rfl,_,_,this⟩
theorem S8 {ev:Tm→M3→Option (PV×M3)} {op:Int}:∀{i:Nat} {l:List Tm} {m:M3} {vs:List PV} {m':M3},RT ev op i l m=some (vs,m')→vs.length=l.length
 | _,[],m,vs,m',h=>by simp only [RT,Atb,Atc] at h;rw [← h.1];rfl
 | i,t::l,m,vs,m',h=>by
  rw [RT] at h;split at h
  ·cases hk:RT ev op (i+1) l m with
   | none=>rw [hk] at h;cases h
   | some q =>
    rw [hk] at h;simp only [Ate,Atb,Atc] at h;rw [← h.1,Atf,Atf,S8 (vs:=q.1) (m':=q.2) hk]
  ·split at h
   ·cases h
   ·rename_i v m2 _;cases hk:RT ev op (i+1) l m2 with
    | none=>rw [hk] at h;cases h
    | some q =>
     rw [hk] at h;simp only [Ate,Atb,Atc] at h;rw [← h.1,Atf,Atf,S8 (vs:=q.1) (m':=q.2) hk]
set_option maxRecDepth 20000 in
set_option maxHeartbeats 1000000 in
theorem Aik {f:Nat} (he:AiT f) (hc:Ajs f):AiT (f+1):=by
 intro env t m0 m' v hev r n hn;obtain ⟨n,rfl⟩:∃k,n=k+1:=⟨n - 1,by omega⟩;rw [c52];obtain ⟨op,m,ks⟩:=t;rw [An];rw [SZ] at hev;cases ht:Hw m0 with
 | none=>rw [ht] at hev;cases hev
 | some m1 =>
 rw [ht] at hev;simp only at hev;have hc1:=QU ht r (n:=n) (by omega);by_cases h1:op=1
 ·rw [if_pos h1] at hev;split at hev
  ·rename_i hv;simp only [Atb,Atc] at hev;obtain ⟨rfl,rfl⟩:=hev;have hvar:=U4 (n:=n) env m hv.1 hv.2.1 (by omega);simp only [↓Agx,↓XX,XY,↓reduceIte,Nat.reduceBEq,Nat.reduceAdd,Int.reduceEq,Int.reduceLT,Int.reduceLE,↓FA _ _ hc1,h1,↓Ad hvar];exact AJ _ _ _
  ·cases hev
 ·rw [if_neg h1] at hev;split at hev
  ·cases hev
  rename_i hb;have hk3:ks.length≤300:=by omega
  by_cases h2:m1.e≠0
  ·rw [if_pos h2] at hev;simp only [Atb,Atc] at hev;obtain ⟨rfl,rfl⟩:=hev;simp only [Mw,L5,L9,MA,Mg,Mb,Mu,Mp,Ma,Mz,Mc,Mx,L8,Ms,S52,↓XX,XY,↓reduceIte,Nat.reduceBEq,Nat.reduceAdd,Int.reduceEq,Int.reduceLT,Int.reduceLE,↓FA _ _ hc1,h1,h2,↓AmG (show ks.length≤1000 by omega),↓AgE]
   exact AgR (kk:=nils ks.length) (by simp [nils]) hk3
  ·rw [if_neg h2] at hev;have h2:m1.e=0:=by simpa using h2
   ·
    cases hkk:RT (fun t m=>SZ f env t m) op 0 ks m1 with
    | none=>rw [hkk] at hev;cases hev
    | some q =>
    obtain ⟨vs,m2⟩:=q;rw [hkk] at hev;simp only at hev;simp only [h2] at hc1;simp only [Mw,L5,L9,MA,Mg,Mb,Mu,Mp,Ma,Mz,Mc,Mx,L8,Ms,S52,↓XX,XY,↓reduceIte,Nat.reduceBEq,Nat.reduceAdd,Int.reduceEq,Int.reduceLT,Int.reduceLE,↓FA _ _ hc1,h1,h2,↓AmG (show ks.length≤1000 by omega),↓AgE,↓FP,↓Av,XD,heldB,AB,XE,E8,Ds]
    have hlen:=S8 hkk;refine Bf (Q:=fun r=>Bq r _ _) (fun k V H=>∃(pre rest:List Tm) (done:List PV) (m3:M3) (us:List PV),ks=pre++rest∧rest.length=k∧done.length=pre.length ∧
      V=[.ptr (.ext 0) 0,.fv (PV.encEnv env),.ptr (.own 54525952) 0,.ptr (.own 54530059) 0,.fv (.sl (ks.map Tm.enc)),iv ks.length,iv pre.length] ∧
      H=Hev op m ks env (done++nils rest.length) false m3.s m3.w r m3.e ∧
      RT (fun t m=>SZ f env t m) op pre.length rest m3=some (us,m2)∧done++us=vs)
     ?_ n ks.length _ _ (by omega) ⟨[],ks,[],m1,vs,rfl,rfl,rfl,rfl,by rw [h2];rfl,hkk,rfl⟩
    rintro k V H rec ⟨pre,rest,done,m3,us,hk,hl,hdl,rfl,rfl,hkids,hvs⟩ hrec;have hkl:ks.length=pre.length+rest.length:=by rw [hk];simp
    cases rest with
    | nil =>
     simp only [RT,Atb,Atc] at hkids;obtain ⟨rfl,rfl⟩:=hkids;rw [List.append_nil] at hvs;subst hvs;have hno:¬ ((pre.length:Int)<ks.length):=by rw [hkl];simp
     have hz:done++nils ([]:List Tm).length=done:=by simp [nils]
     rw [hz];by_cases h4:m3.e≠0
     ·rw [if_pos h4] at hev;simp only [Atb,Atc] at hev;obtain ⟨rfl,rfl⟩:=hev;simp only [↓Agx,↓XX,XY,↓reduceIte,Nat.reduceBEq,Nat.reduceAdd,Int.reduceEq,Int.reduceLT,Int.reduceLE,hno,h4];exact AgR hlen hk3
     ·rw [if_neg h4] at hev;have h4:m3.e=0:=by simpa using h4
      have hcc:=hc _ _ _ _ hev r n (by omega);rw [AR] at hcc;simp only [h4] at hcc;have hlm:(done.map PV.enc).length=ks.length:=by simp [hlen]
      simp only [↓Agx,↓XX,XY,↓reduceIte,Nat.reduceBEq,Nat.reduceAdd,Int.reduceEq,Int.reduceLT,Int.reduceLE,hno,h4];rw [AhT hcc (s0:=54530059) (s2:=54530055) (own':=(Hev op m ks env done true m3.s m3.w r 0).own) (by rfl) (by rfl) hlm (by decide) (by omega) (by simp only [List.mem_map];rintro x ⟨v,_,rfl⟩;exact MJ v) (by rfl)];exact AJ _ _ _
    | cons x rest =>
     have hi:(pre.length:Int)<ks.length:=by rw [hkl];simp;omega
     have hg:=C2 hk;have hb:=Uw (n:=n) (by omega) op pre.length;have hwi:B0 ((pre.length:Int)+1)=((pre++[x]).length:Int):=(Ay (by omega) (by omega)).trans (by simp);simp only [RT] at hkids;simp only [Atf] at hl;by_cases hbn:0<Af op pre.length
     ·rw [if_pos hbn] at hkids;have hbn':¬ ((Af op pre.length:Nat):Int)=0:=by omega
      obtain ⟨o,p,l⟩:=x;simp only [↓Agx,↓XX,XY,↓reduceIte,Nat.reduceBEq,Nat.reduceAdd,Int.reduceEq,Int.reduceLT,Int.reduceLE,hi,↓BE (AQ hg) (Bo _ _ _),↓Cr,↓Ad hb,hbn',hwi,↓FP,↓Av,XD,heldB,AB,XE,E8,Ds];cases hkk2:RT (fun t m=>SZ f env t m) op (pre.length+1) rest m3 with
      | none=>rw [hkk2] at hkids;cases hkids
      | some q =>
      obtain ⟨us',m4⟩:=q;rw [hkk2] at hkids;simp only [Ate,Atb,Atc] at hkids;obtain ⟨rfl,rfl⟩:=hkids;refine hrec rest.length _ _ (by omega) ⟨pre++[.mk o p l],rest,done++[.nil],m3,us',by rw [hk];simp,rfl,by simp [hdl],rfl,?_,by simpa using hkk2,by rw [← hvs];simp⟩;rw [show done++[.nil]++nils rest.length=done++nils (rest.length+1) by simp [nils,List.replicate_succ]]
     ·rw [if_neg hbn] at hkids;have hbn':((Af op pre.length:Nat):Int)=0:=by omega
      cases hev2:SZ f env x m3 with
      | none=>rw [hev2] at hkids;cases hkids
      | some q =>
      obtain ⟨y,m4⟩:=q;rw [hev2] at hkids;simp only at hkids;cases hkk2:RT (fun t m=>SZ f env t m) op (pre.length+1) rest m4 with
      | none=>rw [hkk2] at hkids;cases hkids
      | some q =>
      obtain ⟨us',m5⟩:=q;rw [hkk2] at hkids;simp only [Ate,Atb,Atc] at hkids;obtain ⟨rfl,rfl⟩:=hkids;have hce:=he _ _ _ _ _ hev2 r n (by omega);obtain ⟨o,p,l⟩:=x;rw [An] at hce;have hin:pre.length<ks.length:=by omega
      have hoff:=fun {β:Type}=>AjV (done:=done) (r:=rest.length) (β:=β);rw [hdl] at hoff;simp only [↓Agx,↓XX,XY,↓reduceIte,Nat.reduceBEq,Nat.reduceAdd,Int.reduceEq,Int.reduceLT,Int.reduceLE,hi,↓BE (AQ hg) (Bo _ _ _),↓Cr,↓Ad hb,hbn',hwi,↓Ad8 _ _ hce,↓AjR hin,↓Aka,↓hoff,↓FP,↓Av,XD,heldB,AB,XE,E8,Ds];exact hrec rest.length _ _ (by omega) ⟨pre++[.mk o p l],rest,done++[y],m4,us',by rw [hk];simp,rfl,by simp [hdl],rfl,rfl,by simpa using hkk2,by rw [← hvs];simp⟩
theorem LU:∀f,AiT f∧Ajs f∧Alg f∧AgK f
 | 0=>⟨(fun _ _ _ _ _ h=>by rw [SZ.eq_def] at h;cases h),(fun _ _ _ _ h=>by rw [ctP.eq_def] at h;cases h),(fun _ _ _ _ _ h=>by rw [stP.eq_def] at h;cases h),(fun _ _ _ _ _ _ h=>by rw [opP.eq_def] at h;cases h)⟩
 | f+1=>⟨Aik (LU f).1 (LU f).2.1,Ai4 (LU f).2.2.1,Ai7 (LU f).2.1 (LU f).2.2.2,AhU (LU f).1⟩
def Tq (below:Int) (b:Nat):List PV:=(List.range b).map fun (j:Nat)=>PV.var (below+(j:Int))
theorem AfI (u:Int) (b:Nat):Tq u (b+1)=Tq u b++[PV.var (u+b)]:=by simp [Tq,List.range_succ]
theorem JE (u:Int) (b:Nat):(Tq u b).length=b:=by simp [Tq]
def bkK (bk:PV→Int→M3→Int→Option (Tm×M3×Int)) (opn:Nat→List PV→M3→Option (PV×M3)) (op below:Int):Nat→List PV→M3→Int→Option (Option (List Tm)×M3×Int)
 | _,[],m,r=>some (some [],m,r)
 | i,x::l,m,r=>match (if 0<Af op i then opn i (Tq below (Af op i)) m else some (x,m)) with
  | none=>none
  | some (y,m)=>if m.e≠0 then some (none,m,r) else match bk y (below+Af op i) m r with
   | none=>none
   | some (t,m,r)=>(bkK bk opn op below (i+1) l m r).map fun (ts,m,r)=>(ts.map (t::·),m,r)
def Tu:Nat→PV→Int→Int→M3→Int→Option (Tm×M3×Int)
 | 0,_,_,_,_,_=>none
 | f+1,v,below,deep,m,r =>
  if r<0∨1000000000<r∨below<0∨1000000<below∨deep<0∨1000000<deep then none else
  match Hw ⟨m.s,m.w,if m.e=0∧(3000<r+1∨120<deep) then 5 else m.e⟩ with
  | none=>none
  | some m=>if m.e≠0 then some (.z,m,r+1) else match v with
   | .nil=>none
   | .mk op n k t e=>if op=1 then (if n < -2305843009213693952∨2305843009213693952<n then none else some (.mk 1 (below - 1 - n) [],m,r+1))
    else if f≤k.length+4∨100<k.length then none
    else match bkK (fun v below m r=>Tu f v below (deep+1) m r) (fun i l m=>opP f (.mk op n k t e) i l m) op below 0 k m (r+1) with
     | none=>none
     | some (none,m,r)=>some (.z,m,r)
     | some (some ts,m,r)=>some (.mk op n ts,m,r)
def Aht (f:Nat):Prop:=∀(v:PV) (below deep:Int) (m:M3) (r:Int) (t:Tm) (m':M3) (r':Int),Tu f v below deep m r=some (t,m',r')→∀n,f+1≤n →
 Bq (SS dt n 53 [.ptr (.ext 0) 0,.fv v.enc,iv below,iv deep] ⟨[],MX m.s m.w r m.e⟩) t.enc (MX m'.s m'.w r' m'.e)
theorem HB (j:Nat) (v:FV):Fu (.ext j) (.fv v)=true:=rfl
theorem AfM {ih:Aa} {n:Nat} {v w:FV} {below deep s u r e e1:Int} {ext:List Blk} (hr:0≤r) (hr2:r≤1000000000) (he1:(if e=0∧(3000<r+1∨120<deep) then (5:Int) else e)=e1)
  (h:Bq (E6 ih ⟨[(55574528,.row [iv 0,iv 0,.nils] false)],MX s u (r+1) e1⟩ (.ptr (.ext 0) 0) (.ptr (.own 55574528) 0) (.fv v) (iv below) ⟨[],MX s u r e⟩ (iv deep) n) w ext) :
  Bq (S53 ih n (.ptr (.ext 0) 0) (.fv v) (iv below) (iv deep) ⟨[],MX s u r e⟩) w ext:=by
 have wr:B0 (r+1)=r+1:=by rw [Ay]<;>omega
 have key:S53 ih n (.ptr (.ext 0) 0) (.fv v) (iv below) (iv deep) ⟨[],MX s u r e⟩=E6 ih ⟨[(55574528,.row [iv 0,iv 0,.nils] false)],MX s u (r+1) e1⟩ (.ptr (.ext 0) 0) (.ptr (.own 55574528) 0) (.fv v) (iv below) ⟨[],MX s u r e⟩ (iv deep) n:=by
  by_cases h0:e=0
  ·by_cases h3:3000<r+1
   ·rw [if_pos ⟨h0,.inl h3⟩] at he1;subst he1;simp only [Dr,DS,Dj,DG,Dy,DO,CF,Di,DC,Dk,Dn,DR,E3,DE,DJ,DP,Du,Dt,DL,DM,Df,Dz,Fe,Dd,DW,DN,DB,Dl,DU,De,DD,DX,S53,↓XX,XY,↓reduceIte,Nat.reduceBEq,Nat.reduceAdd,Int.reduceEq,Int.reduceLT,Int.reduceLE,↓HB,wr,h0,h3]
   ·by_cases h4:120<deep
    ·rw [if_pos ⟨h0,.inr h4⟩] at he1;subst he1;simp only [Dr,DS,Dj,DG,Dy,DO,CF,Di,DC,Dk,Dn,DR,E3,DE,DJ,DP,Du,Dt,DL,DM,Df,Dz,Fe,Dd,DW,DN,DB,Dl,DU,De,DD,DX,S53,↓XX,XY,↓reduceIte,Nat.reduceBEq,Nat.reduceAdd,Int.reduceEq,Int.reduceLT,Int.reduceLE,↓HB,wr,h0,h3,h4]
    ·rw [if_neg (by omega)] at he1;subst he1;simp only [Dr,DS,Dj,DG,Dy,DO,CF,Di,DC,Dk,Dn,DR,E3,DE,DJ,DP,Du,Dt,DL,DM,Df,Dz,Fe,Dd,DW,DN,DB,Dl,DU,De,DD,DX,S53,↓XX,XY,↓reduceIte,Nat.reduceBEq,Nat.reduceAdd,Int.reduceEq,Int.reduceLT,Int.reduceLE,↓HB,wr,h0,h3,h4]
  ·rw [if_neg (by omega)] at he1;subst he1;simp only [Dr,DS,Dj,DG,Dy,DO,CF,Di,DC,Dk,Dn,DR,E3,DE,DJ,DP,Du,Dt,DL,DM,Df,Dz,Fe,Dd,DW,DN,DB,Dl,DU,De,DD,DX,S53,↓XX,XY,↓reduceIte,Nat.reduceBEq,Nat.reduceAdd,Int.reduceEq,Int.reduceLT,Int.reduceLE,↓HB,wr,h0]
 rw [key];exact h
abbrev Hbk (done:List Tm) (rest:Nat) (more:List (Nat×Blk)) (s w r e:Int):Hp :=
 ⟨(55574528,.row [iv 0,iv 0,.nils] false)::(55583749,.row (B8 done rest) false)::more,MX s w r e⟩
theorem AiL {ih:Aa} {f:FuncId} {w x y:FV} {a b:IV} {s0 len:Nat} {s u r e s' u' r' e':Int} {own own':List (Nat×Blk)} {es:List FV} {ro:Bool} (hr:Bq (ih f [.ptr (.ext 0) 0,.fv x,.fv y,.fv (.sl es)] ⟨[],MX s u r e⟩) w (MX s' u' r' e'))
  (ha:A6 a=some x) (hb:A6 b=some y) (hl:Ar s0 own=some (.row (es.map .fv) ro)) (hlen:es.length=len) (hn:es.length≤300) (hag:∀x∈es,∀l,x≠.agg l) (ho:AS s0 (.row (es.map .fv) true) own=own')
  (k:IV→Hp→List Ref→List Ref→Option (IV×Hp)) :
  Aj [true,false,false,false] false false ih f [.ptr (.ext 0) 0,a,b,.slc (.own s0) 1 len] ⟨own,MX s u r e⟩ k=k (.fv w) ⟨own',MX s' u' r' e'⟩ [.ext 1,.ext 0,.own s0] [.own s0,.ext 0,.ext 1]:=by
 subst ho hlen;refine Abk (ks:=[false,false,false]) (vs:=[x,y,.sl es]) (u:=[(.own s0,.row (es.map .fv) true)]) (lg:=[.own s0]) ?_ (Ai2 ..) hr ?_ k
 ·intro e k;rw [Vx,O2 _ _ e _ ha,Vx,O2 _ _ e _ hb,Vx,AeM (d:=10) hl hn hag,fz0];rfl
 ·intro k
  show (GC own s0 fun _=>A2 own s0 (.row (es.map .fv) true) fun own=>k ⟨own,_⟩)=_
  rw [BN,hl,Option.bind_some,B6]
def AiH (op n:Int) (done:List Tm):Option (List Tm)→Tm
 | none=>.z
 | some ts=>.mk op n (done++ts)
set_option maxRecDepth 20000 in
set_option maxHeartbeats 1000000 in
theorem Al6 {n:Nat} {op nn bo bn below deep:Int} {k e:List PV} {bk:List Tm} {done:List Tm} {s w r er:Int} (h4:Hp) {rec:List IV→Hp→Option (IV×Hp)} (hd:done.length=k.length) (hk:k.length≤100) :
  Bq (Fe [.ptr (.ext 0) 0,.fv (PV.mk op nn k (.mk bo bn bk) e).enc,iv below,iv deep,.ptr (.own 55574528) 0,.slc (.own 55583749) 3 k.length,iv k.length,iv k.length] (Hbk done 0 [] s w r er) (SS dt n) h4 rec n)
   (Tm.mk op nn done).enc (MX s w r er):=by
 rw [AR,An];have hno:¬ ((k.length:Int)<k.length):=by omega
 simp only [Dr,DS,Dj,DG,Dy,DO,CF,Di,DC,Dk,Dn,DR,E3,DE,DJ,DP,Du,Dt,DL,DM,Df,Dz,Fe,Dd,DW,DN,DB,E6,Dl,DU,De,DD,DX,S53,↓XX,XY,↓reduceIte,Nat.reduceBEq,Nat.reduceAdd,Int.reduceEq,Int.reduceLT,Int.reduceLE,↓HB,hno];rw [← hd];exact ⟨_,_,rfl,_,_,fun e0 K=>Aoh (by rfl) (by omega) [] e0 K⟩
def AeR (more:List (Nat×Blk)):Prop:=more=[]∨∃(l:List FV) (ro:Bool),more=[(55589889,.row (l.map .fv) ro)]
set_option maxRecDepth 20000 in
set_option maxHeartbeats 1000000 in
theorem AoY {n:Nat} {v y:FV} {below deep b len i:IV} {done:List Tm} {rest kl:Nat} {more:List (Nat×Blk)} {s w r e:Int} (hM:AeR more) (h4:Hp) {rec:List IV→Hp→Option (IV×Hp)} (he:e≠0) :
  Bq (CF (.ptr (.ext 0) 0) (Hbk done rest more s w r e) (.ptr (.own 55574528) 0) below b deep (SS dt n) (.fv y) (.slc (.own 55583749) 3 kl) i i h4 (.fv v) len rec) Tm.z.enc (MX s w r e):=by
 rcases hM with rfl | ⟨l,ro,rfl⟩
 ·simp only [↓VE,↓XX,XY,↓reduceIte,Nat.reduceBEq,Nat.reduceAdd,Int.reduceEq,Int.reduceLT,Int.reduceLE,↓HB,he];exact EW rfl _ _
 ·simp only [↓VE,↓XX,XY,↓reduceIte,Nat.reduceBEq,Nat.reduceAdd,Int.reduceEq,Int.reduceLT,Int.reduceLE,↓HB,he];exact EW rfl _ _
set_option maxRecDepth 20000 in
set_option maxHeartbeats 1000000 in
theorem ApA {f n:Nat} {v:FV} {y:PV} {below deep:Int} {b:Nat} {len:Int} {done:List Tm} {rest kl:Nat} {more:List (Nat×Blk)} {m m5:M3} {r r5:Int} {t5:Tm} {w:FV} {ext:List Blk} (hb:Aht f) (hn:f+1≤n) (hM:AeR more) (ext4:List Blk)
  {rec:List IV→Hp→Option (IV×Hp)} (he:m.e=0) (hbk:Tu f y (below+b) (deep+1) m r=some (t5,m5,r5)) (hb1:0≤below) (hb2:below≤1000000) (hb3:b≤10) (hd1:0≤deep) (hd2:deep≤1000000) (hkl:done.length<kl) (hkl2:kl≤100)
  (h:Bq (rec [.ptr (.ext 0) 0,.fv v,iv below,iv deep,.ptr (.own 55574528) 0,.slc (.own 55583749) 3 kl,iv len,iv (done++[t5]).length] (Hbk (done++[t5]) rest [] m5.s m5.w r5 m5.e)) w ext) :
  Bq (CF (.ptr (.ext 0) 0) (Hbk done (rest+1) more m.s m.w r m.e) (.ptr (.own 55574528) 0) (iv below) (iv b) (iv deep) (SS dt n) (.fv y.enc) (.slc (.own 55583749) 3 kl) (iv done.length) (iv done.length) ⟨[],ext4⟩ (.fv v) (iv len) rec) w ext:=by
 have hc:=hb _ _ _ _ _ _ _ _ hbk n hn;have wb:B0 (below+b)=below+b:=by rw [Ay]<;>omega
 have wd:B0 (deep+1)=deep+1:=by rw [Ay]<;>omega
 have wi:B0 ((done.length:Int)+1)=((done++[t5]).length:Int):=(Ay (by omega) (by omega)).trans (by simp);obtain ⟨o,p,ks⟩:=t5;rw [An] at hc;simp only [he] at hc ⊢;rcases hM with rfl | ⟨l,ro,rfl⟩
 ·simp only [↓VE,↓XX,XY,↓reduceIte,Nat.reduceBEq,Nat.reduceAdd,Int.reduceEq,Int.reduceLT,Int.reduceLE,↓HB,wb,wd,↓R4 _ _ hc,↓Af5 hkl,↓Aj9,wi,↓FP,↓Av,XD,heldB,AB,XE,E8,Ds,Og,JU];exact h
 ·simp only [↓VE,↓XX,XY,↓reduceIte,Nat.reduceBEq,Nat.reduceAdd,Int.reduceEq,Int.reduceLT,Int.reduceLE,↓HB,wb,wd,↓R4 _ _ hc,↓Af5 hkl,↓Aj9,wi,↓FP,↓Av,XD,heldB,AB,XE,E8,Ds,Og,JU];exact h
set_option maxRecDepth 20000 in
set_option maxHeartbeats 1000000 in
theorem Apf {f n:Nat} {v y:PV} {below deep:Int} {i b kl:Nat} {len:Int} {done:List Tm} {rest:Nat} {m m4:M3} {r:Int} {w:FV} {ext:List Blk} (hn:f+1≤n) (h3:3≤n) (ext4:List Blk)
  {j:IV→IV→IV→IV→IV→IV→IV→IV→IV→IV→IV→Hp→Option (IV×Hp)} (hb:b≤2) (hb1:0≤below) (hb2:below≤1000000) (hop:opP f v i (Tq below b) m=some (y,m4))
  (hj:Bq (j (.ptr (.ext 0) 0) (.fv v.enc) (iv below) (iv deep) (.ptr (.own 55574528) 0) (.slc (.own 55583749) 3 kl) (iv i) (.fv y.enc) (iv b) (iv len) (iv i)
   (Hbk done rest [(55589889,.row (((Tq below b).map PV.enc).map .fv) true)] m4.s m4.w r m4.e)) w ext) :
  Bq (BQ n (fun q119 l120 h121=>E3 l120 h121 ⟨[],ext4⟩ q119 (SS dt n) j) [.ptr (.ext 0) 0,.fv v.enc,iv below,iv deep,.ptr (.own 55574528) 0,.slc (.own 55583749) 3 kl,iv i,iv b,.slc (.own 55589889) 1 b,iv len,iv i,iv b,iv 0]
   (Hbk done rest [(55589889,.row (((nils b).map PV.enc).map .fv) false)] m.s m.w r m.e)) w ext:=by
 refine Bf (Q:=fun r=>Bq r _ _) (fun t V H=>∃(k:Nat),k+t=b ∧
   V=[.ptr (.ext 0) 0,.fv v.enc,iv below,iv deep,.ptr (.own 55574528) 0,.slc (.own 55583749) 3 kl,iv i,iv b,.slc (.own 55589889) 1 b,iv len,iv i,iv b,iv k] ∧
   H=Hbk done rest [(55589889,.row (((Tq below k++nils t).map PV.enc).map .fv) false)] m.s m.w r m.e) ?_ n b _ _ (by omega) ⟨0,by omega,rfl,rfl⟩
 rintro t V H rec ⟨k,hkt,rfl,rfl⟩ hrec;cases t with
 | zero =>
  have hkb:k=b:=by omega
  subst hkb;have hno:¬ ((k:Int)<k):=by omega
  have hc:=(LU f).2.2.2 _ _ _ _ _ _ hop r n hn;rw [show Tq below k++nils 0=Tq below k by simp [nils]]
  simp only [Dr,DS,Dj,DG,Dy,DO,CF,Di,DC,Dk,Dn,DR,DE,DJ,DP,Du,Dt,DL,DM,Df,Dz,Dd,DW,DN,DB,E6,Dl,DU,De,DD,DX,S53,E3,↓XX,XY,↓reduceIte,Nat.reduceBEq,Nat.reduceAdd,Int.reduceEq,Int.reduceLT,Int.reduceLE,↓HB,hno];rw [AiL hc rfl rfl (s0:=55589889) (own':=(Hbk done rest [(55589889,.row (((Tq below k).map PV.enc).map .fv) true)] m4.s m4.w r m4.e).own) (by rfl) (by simp [JE]) (by simp [JE];omega) (by simp only [List.mem_map];rintro x ⟨v,_,rfl⟩;exact MJ v) (by rfl)];exact hj
 | succ t =>
  have hlt:(k:Int)<b:=by omega
  have hkb:k<b:=by omega
  have wk:B0 ((k:Int)+1)=((k+1:Nat):Int):=(Ay (by omega) (by omega)).trans (by simp);have wbk:B0 (below+(k:Int))=below+k:=by rw [Ay]<;>omega
  have hoff:=fun {β:Type}=>AjV (done:=Tq below k) (r:=t) (β:=β) (PV.var (below+k));rw [JE,TH] at hoff;simp only [Dr,DS,Dj,DG,Dy,DO,CF,Di,DC,Dk,Dn,DR,DE,DJ,DP,Du,Dt,DL,DM,Df,Dz,Dd,DW,DN,DB,E6,Dl,DU,De,DD,DX,S53,E3,↓XX,XY,↓reduceIte,Nat.reduceBEq,Nat.reduceAdd,Int.reduceEq,Int.reduceLT,Int.reduceLE,↓HB,hlt,wbk];rw [Xf (fc:=[.int .i64 1,.int .i64 (below+k),.sl [],.int .i64 0,.int .i64 0,.sl [],.nilp]) rfl (by simp)];simp only [↓XX,XY,↓reduceIte,Nat.reduceBEq,Nat.reduceAdd,Int.reduceEq,Int.reduceLT,Int.reduceLE,↓HB,↓AjR hkb,↓hoff,wk,↓FP,↓Av,XD,heldB,AB,XE,E8,Ds,Og,JU];exact hrec t _ _ (by omega) ⟨k+1,by omega,rfl,by rw [AfI]⟩
set_option maxRecDepth 20000 in
set_option maxHeartbeats 1000000 in
theorem Aha {f:Nat} (hb:Aht f):Aht (f+1):=by
 intro v below deep m r t m' r' hev n hn;obtain ⟨n,rfl⟩:∃k,n=k+1:=⟨n - 1,by omega⟩;rw [c53];rw [Tu.eq_def] at hev;simp only at hev;split at hev
 ·cases hev
 rename_i hbad;have wd:B0 (deep+1)=deep+1:=by rw [Ay]<;>omega
 have wb1:B0 (below - 1)=below - 1:=by rw [Ay]<;>omega
 generalize he1:(if m.e=0∧(3000<r+1∨120<deep) then (5:Int) else m.e)=e1 at hev;cases ht:Hw ⟨m.s,m.w,e1⟩ with
 | none=>rw [ht] at hev;cases hev
 | some m1 =>
 rw [ht] at hev;simp only at hev;have hc1:=QU ht (r+1) (n:=n) (by omega);simp only at hc1;refine AfM (by omega) (by omega) he1 ?_;by_cases h1:m1.e≠0
 ·rw [if_pos h1] at hev;simp only [Atb,Atc] at hev;obtain ⟨rfl,rfl,rfl⟩:=hev;simp only [↓VE,↓XX,XY,↓reduceIte,Nat.reduceBEq,Nat.reduceAdd,Int.reduceEq,Int.reduceLT,Int.reduceLE,↓HB,↓FA _ _ hc1,h1];exact EW rfl _ _
 ·rw [if_neg h1] at hev;have h1:m1.e=0:=by simpa using h1
  cases v with
  | nil=>cases hev
  | mk op nn k t0 e =>
  obtain ⟨bo,bn,bk⟩:=t0;simp only at hev;by_cases h2:op=1
  ·rw [if_pos h2] at hev;split at hev
   ·cases hev
   rename_i hnn;simp only [Atb,Atc] at hev;obtain ⟨rfl,rfl,rfl⟩:=hev;have wb2:B0 (below - 1 - nn)=below - 1 - nn:=by rw [Ay]<;>omega
   rw [AR];simp only [↓VE,↓XX,XY,↓reduceIte,Nat.reduceBEq,Nat.reduceAdd,Int.reduceEq,Int.reduceLT,Int.reduceLE,↓HB,↓FA _ _ hc1,h1,h2,wb1,wb2];exact EW rfl _ _
  ·rw [if_neg h2] at hev;split at hev
   ·cases hev
   rename_i hk100;have hk100:k.length≤100:=by omega
   cases hkk:bkK (fun v below m r=>Tu f v below (deep+1) m r) (fun i l m=>opP f (.mk op nn k (.mk bo bn bk) e) i l m) op below 0 k m1 (r+1) with
   | none=>rw [hkk] at hev;cases hev
   | some q =>
   obtain ⟨res,m2,r2⟩:=q;rw [hkk] at hev;have hres:t=AiH op nn [] res∧m'=m2∧r'=r2:=by
    cases res with
    | none=>simp only [Atb,Atc] at hev;exact ⟨hev.1.symm,hev.2.1.symm,hev.2.2.symm⟩
    | some ts=>simp only [Atb,Atc] at hev;exact ⟨hev.1.symm,hev.2.1.symm,hev.2.2.symm⟩
   obtain ⟨ht5,rfl,rfl⟩:=hres;generalize hV:PV.mk op nn k (.mk bo bn bk) e=V5 at *;have hVe:V5.enc=.fp [.int .i64 op,.int .i64 nn,.sl (k.map PV.enc),.int .i64 bo,.int .i64 bn,.sl (bk.map Tm.enc),PV.encEnv e] 0:=by rw [← hV,AR]
   rw [hVe];simp only [↓VE,↓XX,XY,↓reduceIte,Nat.reduceBEq,Nat.reduceAdd,Int.reduceEq,Int.reduceLT,Int.reduceLE,↓HB,↓FA _ _ hc1,h1,h2,↓AqA (show k.length≤1000 by omega),↓FP,↓Av,XD,heldB,AB,XE,E8,Ds,Og,JU]
   refine Bf (Q:=fun r=>Bq r _ _) (fun j V H=>∃(pre rest:List PV) (done:List Tm) (m3:M3) (r3:Int) (res3:Option (List Tm)),k=pre++rest∧rest.length=j∧done.length=pre.length ∧
     V=[.ptr (.ext 0) 0,.fv V5.enc,iv below,iv deep,.ptr (.own 55574528) 0,.slc (.own 55583749) 3 k.length,iv k.length,iv pre.length] ∧
     H=Hbk done rest.length [] m3.s m3.w r3 m3.e ∧
     bkK (fun v below m r=>Tu f v below (deep+1) m r) (fun i l m=>opP f V5 i l m) op below pre.length rest m3 r3=some (res3,m',r')∧AiH op nn done res3=t)
    ?_ n k.length _ _ (by omega) ⟨[],k,[],m1,r+1,res,rfl,rfl,rfl,by rw [hVe];rfl,by rw [h1],hkk,ht5.symm⟩
   rintro j V H rec ⟨pre,rest,done,m3,r3,res3,hk,hl,hdl,rfl,rfl,hkids,hts⟩ hrec;have hkl:k.length=pre.length+rest.length:=by rw [hk];simp
   cases rest with
   | nil =>
    simp only [bkK,Atb,Atc] at hkids;obtain ⟨rfl,rfl,rfl⟩:=hkids;rw [List.length_nil,Nat.add_zero] at hkl;rw [← hts,← hV,AiH,List.append_nil,← hkl];exact Al6 _ (by omega) hk100
   | cons x rest =>
    have hi:(pre.length:Int)<k.length:=by rw [hkl];simp;omega
    have hg:=C2 hk;have hbn:=Uw (n:=n) (by omega) op pre.length;have hble:=Bv op pre.length;simp only [bkK] at hkids;simp only [Atf] at hl hkl;have behind:∀(y:PV) (m4:M3) (more:List (Nat×Blk)),AeR more→(if m4.e≠0 then some (none,m4,r3) else match Tu f y (below+Af op pre.length) (deep+1) m4 r3 with
       | none=>none
       | some (t,m,r)=>(bkK (fun v below m r=>Tu f v below (deep+1) m r) (fun i l m=>opP f V5 i l m) op below (pre.length+1) rest m r).map fun (ts,m,r)=>(ts.map (t::·),m,r))=some (res3,m',r') →
      Bq (CF (.ptr (.ext 0) 0) (Hbk done (rest.length+1) more m4.s m4.w r3 m4.e) (.ptr (.own 55574528) 0) (iv below) (iv (Af op pre.length)) (iv deep) (SS dt n) (.fv y.enc) (.slc (.own 55583749) 3 k.length) (iv pre.length) (iv pre.length) ⟨[],MX m.s m.w r m.e⟩ (.fv V5.enc) (iv k.length) rec)
       t.enc (MX m'.s m'.w r' m'.e):=by
     intro y m4 more hM hy;by_cases h4:m4.e≠0
     ·rw [if_pos h4] at hy;simp only [Atb,Atc] at hy;obtain ⟨rfl,rfl,rfl⟩:=hy;rw [← hts];exact AoY hM _ h4
     ·rw [if_neg h4] at hy;have h4:m4.e=0:=by simpa using h4
      cases hbk:Tu f y (below+Af op pre.length) (deep+1) m4 r3 with
      | none=>rw [hbk] at hy;cases hy
      | some q =>
      obtain ⟨t5,m5,r5⟩:=q;rw [hbk] at hy;simp only at hy;cases hk2:bkK (fun v below m r=>Tu f v below (deep+1) m r) (fun i l m=>opP f V5 i l m) op below (pre.length+1) rest m5 r5 with
      | none=>rw [hk2] at hy;cases hy
      | some q =>
      obtain ⟨res6,m6,r6⟩:=q;rw [hk2] at hy;simp only [Ate,Atb,Atc] at hy;obtain ⟨rfl,rfl,rfl⟩:=hy;rw [← hdl];refine ApA hb (by omega) hM _ h4 (by rw [hdl];exact hbk) (by omega) (by omega) (by rw [hdl];omega) (by omega) (by omega) (by omega) hk100 ?_;refine hrec rest.length _ _ (by omega) ⟨pre++[x],rest,done++[t5],m5,r5,res6,by rw [hk];simp,rfl,by simp [hdl],by simp [hdl],rfl,by simpa using hk2,?_⟩;rw [← hts];cases res6 with
      | none=>rfl
      | some ts=>simp [AiH]
    rw [hVe];by_cases hb0:0<Af op pre.length
    ·rw [if_pos hb0] at hkids;have hb0':(0:Int)<Af op pre.length:=by omega
     cases hop:opP f V5 pre.length (Tq below (Af op pre.length)) m3 with
     | none=>rw [hop] at hkids;cases hkids
     | some q =>
     obtain ⟨y,m4⟩:=q;rw [hop] at hkids;have h9:=behind y m4 [(55589889,.row (((Tq below (Af op pre.length)).map PV.enc).map .fv) true)] (.inr ⟨_,_,rfl⟩) hkids;have hin:=Apf (f:=f) (n:=n) (v:=V5) (y:=y) (below:=below) (deep:=deep) (i:=pre.length) (b:=Af op pre.length) (kl:=k.length) (len:=k.length) (done:=done) (rest:=rest.length+1) (m:=m3) (m4:=m4) (r:=r3) (w:=t.enc) (ext:=MX m'.s m'.w r' m'.e) (by omega) (by omega) (MX m.s m.w r m.e)
      (j:=fun x79 x80 x81 x82 x83 x84 x85 x86 x87 x88 x89 h90=>CF x79 h90 x83 x81 x87 x82 (SS dt n) x86 x84 x85 x89 ⟨[],MX m.s m.w r m.e⟩ x80 x88 rec) (by omega) (by omega) (by omega) hop h9
     simp only [Dr,DS,Dj,DG,Dy,DO,Di,DC,Dk,Dn,DR,DE,DJ,DP,Du,Dt,DL,DM,Df,Dz,Fe,Dd,DW,DN,DB,E6,Dl,DU,De,DD,DX,S53,↓XX,XY,↓reduceIte,Nat.reduceBEq,Nat.reduceAdd,Int.reduceEq,Int.reduceLT,Int.reduceLE,↓HB,hi,↓AmS hg,↓Ad hbn,hb0',↓AmG (show Af op pre.length≤1000 by omega),↓FP,↓Av,XD,heldB,AB,XE,E8,Ds,Og,JU]
     rw [hVe] at hin;exact hin
    ·rw [if_neg hb0] at hkids;have hb0':¬ (0:Int)<Af op pre.length:=by omega
     have h9:=behind x m3 [] (.inl rfl) hkids;simp only [Dr,DS,Dj,DG,Dy,DO,Di,DC,Dk,Dn,DR,DE,DJ,DP,Du,Dt,DL,DM,Df,Dz,Fe,Dd,DW,DN,DB,E6,Dl,DU,De,DD,DX,S53,↓XX,XY,↓reduceIte,Nat.reduceBEq,Nat.reduceAdd,Int.reduceEq,Int.reduceLT,Int.reduceLE,↓HB,hi,↓AmS hg,↓Ad hbn,hb0'];rw [hVe] at h9;exact h9
theorem AjF:∀f,Aht f
 | 0=>(fun _ _ _ _ _ _ _ _ h=>by rw [Tu.eq_def] at h;cases h)
 | f+1=>Aha (AjF f)
abbrev EX (mb:Nat) (f:FuncId):IV:=.agg [.func (.func f) [.ptr (.own mb) 0] []]
abbrev C4 (mb:Nat):List (Int×IV):=[(5,EX mb 72),(8,EX mb 73),(9,EX mb 73),(13,EX mb 74),(30,EX mb 75),(19,EX mb 76)]
theorem AhH (r:Ref):IV.one (.mapr r)=true:=rfl
theorem Ad3 {β:Type} (l:List IV) (e:Option β) (k:List FV→Option β):Cp (.dead::l) e k=e:=rfl
theorem of4 {β:Type} (x y z u v b:IV) (l:List IV) (k:List IV→Option β):GP (x::y::z::u::v::l) 4 b k=k (x::y::z::u::b::l):=rfl
theorem AqN (s:Nat) (own:List (Nat×Blk)) (ext:List Blk) (k:IV→Hp→List Ref→List Ref→Option (IV×Hp)):Aw (GM s) s ⟨own,ext⟩ k=CO own s (A2 own s (.map []) fun own=>k (.mapr (.own s)) ⟨own,ext⟩ [] [.own s]):=by
 unfold Aw;simp only [GM,Rd.runLog,Jl,C3,CB];rfl
def AnZ (b:Blk) (k:List (Int×IV)→Option (IV×Hp)):Option (IV×Hp):=match b with
 | .map es=>k es
 | _=>none
theorem AgA (es:List (Int×IV)) (k:List (Int×IV)→Option (IV×Hp)):AnZ (.map es) k=k es:=rfl
theorem AoI (m j:Nat) (v:IV) (hv:v.alive=true) (n:Int) (s:Nat) (own:List (Nat×Blk)) (ext:List Blk) (k:IV→Hp→List Ref→List Ref→Option (IV×Hp)) :
  Aw (B2 EE 78 (.mapr (.own m)) (iv n) v) s ⟨own,ext⟩ k=GC own m fun b=>AnZ b fun es=>A2 own m (.map (Co n v es)) fun own=>k .dead ⟨own,ext⟩ [.own m] [.own m]:=by
 have h1:=tMk;have h2:=tIk;cases hm:EE.T 78 with
 | none=>rw [hm] at h1;cases h1
 | some ti =>
  cases hi:EE.T 3 with
  | none=>rw [hi] at h2;cases h2
  | some ii =>
   rw [hm] at h1;rw [hi] at h2;obtain ⟨a,b,kd,z⟩:=ti;obtain ⟨a2,b2,kd2,z2⟩:=ii;simp only [Ate,Atb] at h1 h2;subst h1 h2;rw [BN];unfold Aw;cases hl:Ar m own with
   | none=>simp only [B2,hm,hi,Ws,Rd.runLog,Hp.get,hl];rfl
   | some bl =>
    cases bl with
    | row c ro=>simp only [B2,hm,hi,Ws,Rd.runLog,Hp.get,hl];rfl
    | tok a b=>simp only [B2,hm,hi,Ws,Rd.runLog,Hp.get,hl];rfl
    | map es =>
     simp only [B2,hm,hi,Ws,Rd.runLog,Hp.get,hl,Af0,hv,and_self,if_true,Option.bind_some,AgA]
     show (fRf (.own m) fun q=>Dp q ⟨own,ext⟩ fun _=>fBk (.map (Co n v es)) fun b=>FJ q b ⟨own,ext⟩ fun h=>Jl none s h fun h=>fV 3 .dead fun v=>k v h [.own m] ([.own m]++[]))=_
     simp only [M6,C3,CB,Jl,FJ,Dp];rw [BN,hl];rfl
theorem Aly {ks:List Bool} (hks:∀b∈ks,b=false) {ih:Aa} {f:FuncId} {args:List IV} {vs:List FV} {w:FV} {mb mp:Nat} {own:List (Nat×Blk)} {s u r e s' u' r' e':Int} (hz:BO args=some vs) (hne:mb≠mp)
  (hl1:Ar mb own=some (.row [iv s,iv u,iv r,iv e,.mapr (.own mp)] false)) (hl2:Ar mp own=some (.map (C4 mb))) (hr:Bq (ih f (.ptr (.ext 0) 0::vs.map .fv) ⟨[],MX s u r e⟩) w (MX s' u' r' e')) (k:IV→Hp→List Ref→List Ref→Option (IV×Hp)) :
  Aj (true::ks) false false ih f (.ptr (.own mb) 0::args) ⟨own,[]⟩ k=k (.fv w) ⟨AS mp (.map (C4 mb)) (AS mb (.row [iv s',iv u',iv r',iv e',.mapr (.own mp)] false) own),[]⟩ [.own mp,.own mb] [.own mb,.own mp]:=by
 obtain ⟨v,own',e1,hfz⟩:=hr;obtain ⟨uu,hu⟩:=T7 hfz;have hD:Gu (true::ks) false false ih f (.ptr (.own mb) 0::args) ⟨own,[]⟩ k=k (.fv w) ⟨AS mp (.map (C4 mb)) (AS mb (.row [iv s',iv u',iv r',iv e',.mapr (.own mp)] false) own),[]⟩ [.own mp,.own mb] [.own mb,.own mp]:=by
  have h1:Bp (true::ks) (.ptr (.own mb) 0::args)=.ret (.ptr (.own mb) 0::vs.map .fv,[.own mb],[]):=by
   simp only [Bp,Lq args ks hks hz,Rd.bind,IV.refs];rfl
  have hn1:¬ (Ref.own mp=Ref.own mb):=by intro h;cases h;exact hne rfl
  have h2:(Cc 4096 [.own mb] []).runLog ⟨own,[]⟩ []=some ([(.own mb,.row [iv s,iv u,iv r,iv e,.mapr (.own mp)] false),(.own mp,.map (C4 mb))],[.own mp,.own mb]):=by
   show (Cc (4087+1+1+1+1+1+1+1+1+1) [.own mb] []).runLog ⟨own,[]⟩ []=_
   simp only [Cc,hasRef,Bool.false_eq_true,if_false,Rd.runLog,Hp.get,hl1,hl2,Blk.refs,IV.refs.refsL,IV.refs,List.append_nil,List.nil_append,List.cons_append,Ath,Atg,hn1,decide_false,decide_true,Bool.or_false,Bool.true_or,if_true]
  have p1:EV [(.own mb,.row [iv s,iv u,iv r,iv e,.mapr (.own mp)] false),(.own mp,.map (C4 mb))] (.own mb)=some (.ext 0):=by simp [EV,Ch]
  have p2:EV [(.own mb,.row [iv s,iv u,iv r,iv e,.mapr (.own mp)] false),(.own mp,.map (C4 mb))] (.own mp)=some (.ext 1):=by simp [EV,Ch,hn1]
  have h3:IV.ren.renL (EV [(.own mb,.row [iv s,iv u,iv r,iv e,.mapr (.own mp)] false),(.own mp,.map (C4 mb))]) (.ptr (.own mb) 0::vs.map .fv)=some (.ptr (.ext 0) 0::vs.map .fv):=by
   simp only [IV.ren.renL,IV.ren,p1,Ate,Option.bind_some,IX]
  have h4:A4 (EV [(.own mb,.row [iv s,iv u,iv r,iv e,.mapr (.own mp)] false),(.own mp,.map (C4 mb))]) [.row [iv s,iv u,iv r,iv e,.mapr (.own mp)] false,.map (C4 mb)]=some (MX s u r e):=by
   simp only [A4,Blk.ren,IV.ren.renL,IV.ren,p1,p2,Ate,Option.bind_some,Ath,Atg,List.zip_cons_cons,List.zip_nil_left]
  have h5:A4 (Cq [(.own mb,.row [iv s,iv u,iv r,iv e,.mapr (.own mp)] false),(.own mp,.map (C4 mb))]) (MX s' u' r' e')=some [.row [iv s',iv u',iv r',iv e',.mapr (.own mp)] false,.map (C4 mb)]:=by
   simp only [A4,Blk.ren,IV.ren.renL,IV.ren,Cq,List.getElem?_cons_zero,List.getElem?_cons_succ,Ate,Option.bind_some,Ath,Atg,List.zip_cons_cons,List.zip_nil_left]
  unfold Gu;simp only [h1,Rd.runLog,h2,h3,Ath,Atg,h4,EU (CB 3),EU C3,Lr,Bool.false_eq_true,if_false,e1,hu,Ate,IV.ren,h5,Atf,List.length_nil,Bs,List.all_nil,and_self,if_true,List.nil_append,List.zip_cons_cons,List.zip_nil_left];have hl3:Ar mp (AS mb (.row [iv s',iv u',iv r',iv e',.mapr (.own mp)] false) own)=some (.map (C4 mb)):=by
   rw [← hl2];clear hl1 hl2 h2 e1 hu hfz
   induction own with
   | nil=>simp only [AS,Ar,if_neg (fun h=>hne (Eq.symm h))]
   | cons p l ih =>
    obtain ⟨j,c⟩:=p;simp only [AS];split
    ·rename_i h;subst h;simp only [Ar,if_neg (fun h=>hne (Eq.symm h))]
    ·simp only [Ar,ih]
  have h6:laid ⟨own,[]⟩ [(.own mb,.row [iv s',iv u',iv r',iv e',.mapr (.own mp)] false),(.own mp,.map (C4 mb))]=some ⟨AS mp (.map (C4 mb)) (AS mb (.row [iv s',iv u',iv r',iv e',.mapr (.own mp)] false) own),[]⟩:=by
   simp only [laid,Hp.get,hl1,Hp.set,hl3]
  simp only [h6,N8,CB]
 rw [OS,Ad1,Wf,UT 0 args _ _ _ _ ks hks hz];simp only [AdF,Ab4,cond_false];exact hD
def GY (op:Int):Int:=if op=8∨op=9∨op=12∨op=19∨op=30 then 1 else if op=4∨op=5 then 2 else if op=7 then 3 else if op=13 then 4 else -1
theorem Aje {n:Nat} (hn:0<n) (op:Int):Bk (SS dt n 71 [iv op] ⟨[],[]⟩) (.int .i64 (GY op)):=by
 obtain ⟨n,rfl⟩:∃k,n=k+1:=⟨n - 1,by omega⟩;rw [c71];unfold GY;by_cases h:op=8∨op=9∨op=12∨op=19∨op=30
 ·rw [if_pos h];rcases h with rfl | rfl | rfl | rfl | rfl<;>(simp only [↓AfO,↓XX,XY,↓reduceIte,Nat.reduceBEq,Nat.reduceAdd,Int.reduceEq,Int.reduceLT,Int.reduceLE];exact Aq _ _)
 ·rw [if_neg h];have h8:¬ op=8:=fun e=>h (by simp [e]);have h9:¬ op=9:=fun e=>h (by simp [e]);have h12:¬ op=12:=fun e=>h (by simp [e]);have h19:¬ op=19:=fun e=>h (by simp [e]);have h30:¬ op=30:=fun e=>h (by simp [e]);by_cases h2:op=4∨op=5
  ·rw [if_pos h2];rcases h2 with rfl | rfl<;>(simp only [↓AfO,↓XX,XY,↓reduceIte,Nat.reduceBEq,Nat.reduceAdd,Int.reduceEq,Int.reduceLT,Int.reduceLE];exact Aq _ _)
  ·rw [if_neg h2];have h4:¬ op=4:=fun e=>h2 (by simp [e]);have h5:¬ op=5:=fun e=>h2 (by simp [e]);by_cases h7:op=7
   ·subst h7;simp only [↓AfO,↓XX,XY,↓reduceIte,Nat.reduceBEq,Nat.reduceAdd,Int.reduceEq,Int.reduceLT,Int.reduceLE];exact Aq _ _
   ·by_cases h13:op=13
    ·subst h13;simp only [↓AfO,↓XX,XY,↓reduceIte,Nat.reduceBEq,Nat.reduceAdd,Int.reduceEq,Int.reduceLT,Int.reduceLE];exact Aq _ _
    ·simp only [↓AfO,↓XX,XY,↓reduceIte,Nat.reduceBEq,Nat.reduceAdd,Int.reduceEq,Int.reduceLT,Int.reduceLE,h4,h5,h7,h8,h9,h12,h13,h19,h30];exact Aq _ _
mutual
def Tm.shaped:Tm→Bool
 | .mk op n ks=>!(decide (0≤GY op∧GY op≠ks.length) || decide (op=1∧n<0)) && Tm.shapedL ks
def Tm.shapedL:List Tm→Bool
 | []=>true
 | t::l=>t.shaped && Tm.shapedL l
end
set_option maxHeartbeats 1000000 in
theorem AdO:∀(n:Nat) (t:Tm),t.wt+1<n→t.wt≤1152921504606846976→Bk (SS dt n 50 [.fv t.enc] ⟨[],[]⟩) (.bool t.shaped):=by
 intro n
 induction n with
 | zero=>intro t h;omega
 | succ n ih =>
  intro t h hw;obtain ⟨op,m,ks⟩:=t;simp only [Tm.wt] at h hw;rw [c50,An];have hlen:=Gx ks;have hk:=Aje (n:=n) (by omega) op;rw [Tm.shaped];have wl:∀j:Nat,j≤ks.length→B0 (j:Int)=j:=fun j hj=>Ay (by omega) (by omega);have loop:Bk (BQ n (fun q99 l100 h101=>JI l100 h101 (SS dt n) ⟨[],[]⟩ q99) [.fv (.sl (ks.map Tm.enc)),iv ks.length,iv 0] ⟨[(52428800,.row [iv op,iv m,.fv (.sl (ks.map Tm.enc))] false)],[]⟩) (.bool (Tm.shapedL ks)):=by
   refine Bf (Q:=fun r=>Bk r _) (fun k V H=>∃pre rest,ks=pre++rest∧rest.length=k∧V=[.fv (.sl (ks.map Tm.enc)),iv ks.length,iv pre.length]∧H=⟨[(52428800,.row [iv op,iv m,.fv (.sl (ks.map Tm.enc))] false)],[]⟩∧Tm.shapedL rest=Tm.shapedL ks)
    ?_ n ks.length _ _ (by omega) ⟨[],ks,rfl,rfl,rfl,rfl,rfl⟩
   rintro k V H rec ⟨pre,rest,hk,hl,rfl,rfl,ht⟩ hrec;have hkl:ks.length=pre.length+rest.length:=by rw [hk];simp
   cases rest with
   | nil =>
    have hno:¬ ((pre.length:Int)<ks.length):=by rw [hkl];simp
    rw [← ht];simp only [KU,Kd,Kq,JI,JZ,J0,Kn,Kl,S50,↓XX,XY,↓reduceIte,Nat.reduceBEq,Nat.reduceAdd,Int.reduceEq,Int.reduceLT,Int.reduceLE,hno,Tm.shapedL];exact Aq _ _
   | cons t rest =>
    have hi:(pre.length:Int)<ks.length:=by rw [hkl];simp;omega
    have hg:=C2 hk;have htw:=D8 (t:=t) (l:=ks) (by rw [hk];simp);have hs:=ih t (by omega) (by omega);have hwi:B0 ((pre.length:Int)+1)=((pre++[t]).length:Int):=(Ay (by omega) (by omega)).trans (by simp);simp only [Tm.shapedL] at ht;generalize t.shaped=v at hs ht;obtain ⟨o,p,l⟩:=t;simp only [Atf] at hl;rw [An] at hs;cases v
    ·rw [← ht];simp only [KU,Kd,Kq,JI,JZ,J0,Kn,Kl,S50,↓XX,XY,↓reduceIte,Nat.reduceBEq,Nat.reduceAdd,Int.reduceEq,Int.reduceLT,Int.reduceLE,hi,↓BE (AQ hg) (Bo _ _ _),↓Cr,hwi,↓Am hs,Bool.false_and];exact Aq _ _
    ·simp only [KU,Kd,Kq,JI,JZ,J0,Kn,Kl,S50,↓XX,XY,↓reduceIte,Nat.reduceBEq,Nat.reduceAdd,Int.reduceEq,Int.reduceLT,Int.reduceLE,hi,↓BE (AQ hg) (Bo _ _ _),↓Cr,hwi,↓Am hs,↓Av,XD,heldB,AB,XE];refine hrec rest.length _ _ (by omega) ?_;exact ⟨pre++[.mk o p l],rest,by rw [hk];simp,rfl,rfl,rfl,by simpa using ht⟩
  by_cases h0:0≤GY op
  ·by_cases h1:GY op=ks.length
   ·by_cases h2:op=1
    ·exfalso;subst h2;revert h0;decide
    ·have e1:(!(decide (0≤GY op∧GY op≠ks.length) || decide (op=1∧m<0)) && Tm.shapedL ks)=Tm.shapedL ks:=by simp [h1,h2]
     rw [e1];have h0':(0:Int)≤ks.length:=by omega
     rw [h1] at hk;simp only [↓Afh,↓XX,XY,↓reduceIte,Nat.reduceBEq,Nat.reduceAdd,Int.reduceEq,Int.reduceLT,Int.reduceLE,↓Am hk,h0',h2,↓Av,XD,heldB,AB,XE];exact loop
   ·have e1:(!(decide (0≤GY op∧GY op≠ks.length) || decide (op=1∧m<0)) && Tm.shapedL ks)=false:=by simp [h0,h1]
    rw [e1];simp only [↓Afh,↓XX,XY,↓reduceIte,Nat.reduceBEq,Nat.reduceAdd,Int.reduceEq,Int.reduceLT,Int.reduceLE,↓Am hk,h0,h1];exact Aq _ _
  ·by_cases h2:op=1
   ·subst h2;by_cases h3:m<0
    ·have e1:(!(decide (0≤GY 1∧GY 1≠ks.length) || decide ((1:Int)=1∧m<0)) && Tm.shapedL ks)=false:=by simp [h3]
     rw [e1];simp only [↓Afh,↓XX,XY,↓reduceIte,Nat.reduceBEq,Nat.reduceAdd,Int.reduceEq,Int.reduceLT,Int.reduceLE,↓Am hk,h0,h3];exact Aq _ _
    ·have e1:(!(decide (0≤GY 1∧GY 1≠ks.length) || decide ((1:Int)=1∧m<0)) && Tm.shapedL ks)=Tm.shapedL ks:=by simp [h0,h3]
     rw [e1];simp only [↓Afh,↓XX,XY,↓reduceIte,Nat.reduceBEq,Nat.reduceAdd,Int.reduceEq,Int.reduceLT,Int.reduceLE,↓Am hk,h0,h3,↓Av,XD,heldB,AB,XE];exact loop
   ·have e1:(!(decide (0≤GY op∧GY op≠ks.length) || decide (op=1∧m<0)) && Tm.shapedL ks)=Tm.shapedL ks:=by simp [h0,h2]
    rw [e1];simp only [↓Afh,↓XX,XY,↓reduceIte,Nat.reduceBEq,Nat.reduceAdd,Int.reduceEq,Int.reduceLT,Int.reduceLE,↓Am hk,h0,h2,↓Av,XD,heldB,AB,XE];exact loop
theorem Ahw {op:Int} {r:Nat} (h:ar op=some r):¬ (0≤GY op∧GY op≠(r:Int)):=by
 unfold GY;by_cases h1:op=8∨op=9∨op=12∨op=19∨op=30
 ·rw [if_pos h1];rcases h1 with rfl | rfl | rfl | rfl | rfl<;>(cases (show r=1 from by have:=h;revert this;simp [ar];omega);decide)
 ·rw [if_neg h1];by_cases h2:op=4∨op=5
  ·rw [if_pos h2];rcases h2 with rfl | rfl<;>(cases (show r=2 from by have:=h;revert this;simp [ar];omega);decide)
  ·rw [if_neg h2];by_cases h7:op=7
   ·subst h7;cases (show r=3 from by have:=h;revert this;simp [ar];omega);decide
   ·rw [if_neg h7];by_cases h13:op=13
    ·subst h13;cases (show r=4 from by have:=h;revert this;simp [ar];omega);decide
    ·rw [if_neg h13];omega
mutual
theorem OR:∀(t:Tm) (k:Nat),t.sc k→t.shaped=true
 | .mk op n ks,k,h=>by
  rw [Tm.sc] at h;rw [Tm.shaped,scL_shaped op 0 ks k h.2.2];have h1:=Ahw h.1;have h2:¬ (op=1∧n<0):=by
   rintro ⟨rfl,h3⟩
   have:=h.2.1
   rw [if_pos rfl] at this;omega
  rw [decide_eq_false h1,decide_eq_false h2];rfl
theorem scL_shaped:∀(op:Int) (i:Nat) (l:List Tm) (k:Nat),Tm.scL op i l k→Tm.shapedL l=true
 | _,_,[],_,_=>by rw [Tm.shapedL]
 | op,i,t::l,k,h=>by
  rw [Tm.scL] at h;rw [Tm.shapedL,OR t _ h.1,scL_shaped op (i+1) l k h.2];rfl
end
def Ab9 (f:Nat) (t:Tm):Option (Tm×Int) :=
 if t.shaped=false then some (.z,1) else match SZ f [] t ⟨100000,5000000,0⟩ with
 | none=>none
 | some (v,m)=>if m.e≠0 then some (.z,m.e) else match Tu f v 0 1 m 0 with
  | none=>none
  | some (u,m,_)=>if m.e≠0 then some (.z,m.e) else some (u,0)
theorem Afr {ih:Aa} {f:FuncId} {args:List IV} {h h':Hp} {v:IV} (hr:ih f args h=some (v,h')) (k:IV→Hp→List Ref→List Ref→Option (IV×Hp)):AeU ih f args h k=k v h' [] []:=by
 unfold AeU;rw [hr]
abbrev Hnm (a b:Blk) (s u r e:Int):Hp :=
 ⟨[(20971520,a),(20971521,b),(53478401,.row [iv s,iv u,iv r,iv e,.mapr (.own 53479425)] false),(53479425,.map (C4 53478401))],[]⟩
abbrev Hbg (a b:Blk) (es:List (Int×IV)):Hp :=
 ⟨[(20971520,a),(20971521,b),(53478401,.row [iv 100000,iv 5000000,iv 0,iv 0,.dead] false),(53479425,.map es)],[]⟩
abbrev fnO (g:FuncId):IV:=.func (.func g) [.ptr (.own 53478401) 0] []
theorem ON (a b:Blk) (es:List (Int×IV)) (g:FuncId) (n:Int) (s:Nat) (k:IV→Hp→List Ref→List Ref→Option (IV×Hp)) :
  Aw (B2 EE 78 (.mapr (.own 53479425)) (iv n) (EX 53478401 g)) s (Hbg a b es) k=k .dead (Hbg a b (Co n (EX 53478401 g) es)) [.own 53479425] [.own 53479425]:=by
 rw [AoI _ 0 _ rfl,BN];rw [show Ar 53479425 (Hbg a b es).own=some (.map es) from rfl,Option.bind_some,AgA,B6]
 rfl
theorem OF (g:FuncId) (k:IV→Option (IV×Hp)):Bz [.fv .nilf] [(0,1,fnO g)] k=k (EX 53478401 g):=rfl
theorem Afq (a b:Blk) (es:List (Int×IV)):RE (.ptr (.own 53478401) 0) (Hbg a b es) (.mapr (.own 53479425))=some (.ptr (.own 53478401) 0,⟨[(20971520,a),(20971521,b),(53478401,.row [iv 100000,iv 5000000,iv 0,iv 0,.mapr (.own 53479425)] false),(53479425,.map es)],[]⟩):=by
 simp only [RE,↓XX,XY,↓reduceIte,Nat.reduceBEq,Nat.reduceAdd,Int.reduceEq,Int.reduceLT,Int.reduceLE,↓AhH,↓of4]
theorem Lm (g:FuncId) (s:Nat) (h:Hp) (k:IV→Hp→List Ref→List Ref→Option (IV×Hp)):Aw (Idl.val (FH (.func g) [.ptr (.own 53478401) 0] [])) s h k=k (fnO g) h [] []:=gen_val' _ _ _ _
theorem Agi (a b:Blk) (es:List (Int×IV)):Td (fnO 75) (Hbg a b es) (.mapr (.own 53479425)) (.ptr (.own 53478401) 0) =
  RE (.ptr (.own 53478401) 0) (Hbg a b (Co 19 (EX 53478401 76) (Co 30 (EX 53478401 75) es))) (.mapr (.own 53479425)):=by
 unfold Td;rw [OF,ON,Lm,OF,ON]
theorem Agj (a b:Blk) (es:List (Int×IV)):PJ (Hbg a b es) (.mapr (.own 53479425)) (EX 53478401 73) (.ptr (.own 53478401) 0) =
  Td (fnO 75) (Hbg a b (Co 13 (EX 53478401 74) (Co 9 (EX 53478401 73) es))) (.mapr (.own 53479425)) (.ptr (.own 53478401) 0):=by
 unfold PJ;rw [ON,Lm,OF,ON,Lm]
theorem Agz (a b:Blk) (es:List (Int×IV)):V3 (Hbg a b es) (.ptr (.own 53478401) 0) (.mapr (.own 53479425)) =
  PJ (Hbg a b (Co 8 (EX 53478401 73) es)) (.mapr (.own 53479425)) (EX 53478401 73) (.ptr (.own 53478401) 0):=by
 unfold V3;rw [Lm,OF,ON,Lm,OF]
theorem AnK (k:IV→Option (IV×Hp)):Bz [.fv (.int .i64 0),.fv (.int .i64 0),.fv (.int .i64 0),.fv (.int .i64 0),.dead] [(0,1,.fv (.int .i64 100000)),(1,1,.fv (.int .i64 5000000))] k=k (.agg [iv 100000,iv 5000000,iv 0,iv 0,.dead]):=by
 simp only [↓XX,XY,↓reduceIte,Nat.reduceBEq,Nat.reduceAdd,Int.reduceEq,Int.reduceLT,Int.reduceLE,↓Ad3]
theorem Ss {n:Nat} (hn:0<n) (a b:Blk):SS dt n 51 [] ⟨[(20971520,a),(20971521,b)],[]⟩=some (.ptr (.own 53478401) 0,Hnm a b 100000 5000000 0 0):=by
 obtain ⟨n,rfl⟩:∃k,n=k+1:=⟨n - 1,by omega⟩;rw [c51];unfold S51;rw [AnK,TA];have e1:∀k:IV→Hp→List Ref→List Ref→Option (IV×Hp),AM 53478401 (.row [iv 100000,iv 5000000,iv 0,iv 0,.dead] false) (.ptr (.own 53478401) 0) ⟨[(20971520,a),(20971521,b)],[]⟩ k =
   k (.ptr (.own 53478401) 0) ⟨[(20971520,a),(20971521,b),(53478401,.row [iv 100000,iv 5000000,iv 0,iv 0,.dead] false)],[]⟩ [] [.own 53478401]:=by
  intro k;simp only [↓XX,XY,↓reduceIte,Nat.reduceBEq,Nat.reduceAdd,Int.reduceEq,Int.reduceLT,Int.reduceLE]
 rw [e1];have e2:∀k:IV→Hp→List Ref→List Ref→Option (IV×Hp),Aw (GM 53479425) 53479425 ⟨[(20971520,a),(20971521,b),(53478401,.row [iv 100000,iv 5000000,iv 0,iv 0,.dead] false)],[]⟩ k =
   k (.mapr (.own 53479425)) (Hbg a b []) [] [.own 53479425]:=by
  intro k;rw [AqN];simp only [↓XX,XY,↓reduceIte,Nat.reduceBEq,Nat.reduceAdd,Int.reduceEq,Int.reduceLT,Int.reduceLE]
 rw [e2,Lm,OF,ON,Agz,Agj,Agi,Afq];rfl
section
variable {ih:Aa} {f:FuncId} {w:FV} {a b:Blk} {s u r e s' u' r' e':Int} (k:IV→Hp→List Ref→List Ref→Option (IV×Hp))
theorem Aj7 (args:List IV) (ks:List Bool) (hks:∀b∈ks,b=false) {vs:List FV} (hz:BO args=some vs) (hr:Bq (ih f (.ptr (.ext 0) 0::vs.map .fv) ⟨[],MX s u r e⟩) w (MX s' u' r' e')) :
  Aj (true::ks) false false ih f (.ptr (.own 53478401) 0::args) (Hnm a b s u r e) k=k (.fv w) (Hnm a b s' u' r' e') [.own 53479425,.own 53478401] [.own 53478401,.own 53479425]:=by
 rw [Aly hks hz (mp:=53479425) (by decide) (by rfl) (by rfl) hr];rfl
theorem V9 {x y:IV} {vx vy:FV} (hr:Bq (ih f [.ptr (.ext 0) 0,.fv vx,.fv vy] ⟨[],MX s u r e⟩) w (MX s' u' r' e')) (hx:A6 x=some vx) (hy:A6 y=some vy) :
  Aj [true,false,false] false false ih f [.ptr (.own 53478401) 0,x,y] (Hnm a b s u r e) k=k (.fv w) (Hnm a b s' u' r' e') [.own 53479425,.own 53478401] [.own 53478401,.own 53479425] :=
 Aj7 k [x,y] [false,false] (by simp) (U7 hx hy) hr
theorem AgN {x y z:IV} {vx vy vz:FV} (hr:Bq (ih f [.ptr (.ext 0) 0,.fv vx,.fv vy,.fv vz] ⟨[],MX s u r e⟩) w (MX s' u' r' e')) (hx:A6 x=some vx) (hy:A6 y=some vy) (hz:A6 z=some vz) :
  Aj [true,false,false,false] false false ih f [.ptr (.own 53478401) 0,x,y,z] (Hnm a b s u r e) k=k (.fv w) (Hnm a b s' u' r' e') [.own 53479425,.own 53478401] [.own 53478401,.own 53479425] :=
 Aj7 k [x,y,z] [false,false,false] (by simp) (Ada hx hy hz) hr
end
set_option maxRecDepth 20000 in
set_option maxHeartbeats 1000000 in
theorem Afd {f n:Nat} {t u:Tm} {e:Int} (h:Ab9 f t=some (u,e)) (hn:f+3≤n) (hw:t.wt+3<n) (hw2:t.wt≤1152921504606846976):Bk (SS dt n 20 [.fv t.enc] ⟨[],[]⟩) (.tuple [u.enc,.int .i64 e]):=by
 obtain ⟨n,rfl⟩:∃k,n=k+1:=⟨n - 1,by omega⟩;rw [c20];have hs:=AdO n t (by omega) hw2;unfold Ab9 at h;obtain ⟨op,m,ks⟩:=t;rw [An] at hs ⊢;by_cases h0:(Tm.mk op m ks).shaped=false
 ·rw [if_pos h0] at h;simp only [Atb,Atc] at h;obtain ⟨rfl,rfl⟩:=h;rw [h0] at hs;simp only [NZ,MT,NR,MU,Nd,Nq,Nt,Nn,M4,NK,S20,↓XX,XY,↓reduceIte,Nat.reduceBEq,Nat.reduceAdd,Int.reduceEq,Int.reduceLT,Int.reduceLE,↓Am hs];exact AV rfl (by simp) _
 ·rw [if_neg h0] at h;have h0:(Tm.mk op m ks).shaped=true:=by simpa using h0
  rw [h0] at hs;cases hev:SZ f [] (.mk op m ks) ⟨100000,5000000,0⟩ with
  | none=>rw [hev] at h;cases h
  | some q =>
   obtain ⟨v,m1⟩:=q;rw [hev] at h;simp only at h;have hc1:=(LU f).1 _ _ _ _ _ hev 0 n (by omega);rw [An,Ty] at hc1;by_cases h1:m1.e=0
   ·rw [if_neg (by simpa using h1)] at h;simp only [h1] at hc1;cases hbk:Tu f v 0 1 m1 0 with
    | none=>rw [hbk] at h;cases h
    | some q =>
     obtain ⟨u1,m2,r2⟩:=q;rw [hbk] at h;simp only at h;have hc2:=AjF f _ _ _ _ _ _ _ _ hbk n (by omega);obtain ⟨o1,n1,k1⟩:=u1;rw [An] at hc2;simp only [h1] at hc2;by_cases h2:m2.e=0
     ·rw [if_neg (by simpa using h2)] at h;simp only [Atb,Atc] at h;obtain ⟨rfl,rfl⟩:=h;rw [An];simp only [NZ,MT,NR,MU,Nd,Nq,Nt,Nn,M4,NK,S20,↓XX,XY,↓reduceIte,Nat.reduceBEq,Nat.reduceAdd,Int.reduceEq,Int.reduceLT,Int.reduceLE,↓Am hs,↓Afr (Ss (n:=n) (by omega) _ _),↓V9 _ hc1,↓AgN _ hc2,h1,h2];exact Aq _ _
     ·rw [if_pos h2] at h;simp only [Atb,Atc] at h;obtain ⟨rfl,rfl⟩:=h;simp only [NZ,MT,NR,MU,Nd,Nq,Nt,Nn,M4,NK,S20,↓XX,XY,↓reduceIte,Nat.reduceBEq,Nat.reduceAdd,Int.reduceEq,Int.reduceLT,Int.reduceLE,↓Am hs,↓Afr (Ss (n:=n) (by omega) _ _),↓V9 _ hc1,↓AgN _ hc2,h1,h2];exact AV rfl (by simp) _
   ·rw [if_pos h1] at h;simp only [Atb,Atc] at h;obtain ⟨rfl,rfl⟩:=h;simp only [NZ,MT,NR,MU,Nd,Nq,Nt,Nn,M4,NK,S20,↓XX,XY,↓reduceIte,Nat.reduceBEq,Nat.reduceAdd,Int.reduceEq,Int.reduceLT,Int.reduceLE,↓Am hs,↓Afr (Ss (n:=n) (by omega) _ _),↓V9 _ hc1,h1];exact AV rfl (by simp) _
end Idl
end Go.Proofs.Ytbkdidonegggdaa
namespace Go.Proofs.Ytbkdidonegggdaa
namespace Idl
mutual
def Tm.surf:Tm→Nat
 | .mk op _ ks=>1+Tm.surfL op 0 ks
def Tm.surfL:Int→Nat→List Tm→Nat
 | _,_,[]=>0
 | op,i,t::l=>(if 0<Af op i then 0 else t.surf)+Tm.surfL op (i+1) l
end
mutual
def Tm.inn:Tm→Nat
 | .mk op _ ks=>Tm.innL op 0 ks
def Tm.innL:Int→Nat→List Tm→Nat
 | _,_,[]=>0
 | op,i,t::l=>(if 0<Af op i then t.wt else t.inn)+Tm.innL op (i+1) l
end
mutual
theorem ML:∀t:Tm,t.surf+t.inn=t.wt
 | .mk op n ks=>by
  have:=surfL_innL op 0 ks
  simp only [Tm.surf,Tm.inn,Tm.wt];omega
theorem surfL_innL:∀(op:Int) (i:Nat) (l:List Tm),Tm.surfL op i l+Tm.innL op i l=Tm.wtL l
 | _,_,[]=>rfl
 | op,i,t::l=>by
  have h1:=ML t;have h2:=surfL_innL op (i+1) l;simp only [Tm.surfL,Tm.innL,Tm.wtL];split<;>omega
end
mutual
def RV.vsz:RV→Nat
 | .mk op _ k _ _=>1+RV.vszL op 0 k
def RV.vszL:Int→Nat→List RV→Nat
 | _,_,[]=>0
 | op,i,v::l=>(if 0<Af op i then 0 else v.vsz)+RV.vszL op (i+1) l
end
theorem Acf (v:RV):1≤v.vsz:=by obtain ⟨op,n,k,env,b⟩:=v;rw [RV.vsz];omega
inductive Rel (B:Nat):PV→RV→Prop
 | var (n:Int):Rel B (.var n) (.var n)
 | node (op n n':Int) (kp:List PV) (kr:List RV) (ts:List Tm) (e:List PV) (env:List RV) (h1:op≠1) (har:ar op=some ts.length) (hl:kp.length=ts.length) (hl2:kr.length=ts.length)
   (hk:∀i p r,Af op i=0→kp[i]?=some p→kr[i]?=some r→Rel B p r)
   (hb:∀i b,0<Af op i→ts[i]?=some b→(b.good∧b.wt≤B)∧kp[i]?=some .nil∧kr[i]?=some (.clo env b))
   (hel:e.length=env.length) (he:∀(i:Nat) p r,e[i]?=some p→env.reverse[i]?=some r→Rel B p r):Rel B (.mk op n kp (.mk op n' ts) e) (.node op n kr)
def Gy (B:Nat) (e:List PV) (env:List RV):Prop:=e.length=env.length∧∀(i:Nat) p r,e[i]?=some p→env.reverse[i]?=some r→Rel B p r
theorem M0 {B:Nat} {p:PV} {r:RV} (h:Rel B p r):∃op n k t e,p=.mk op n k t e∧r.op=op∧r.n=n:=by
 cases h with
 | var n=>exact ⟨_,_,_,_,_,rfl,rfl,rfl⟩
 | node=>exact ⟨_,_,_,_,_,rfl,rfl,rfl⟩
theorem Wn (B:Nat):Gy B [] []:=⟨rfl,fun i p r h=>by simp at h⟩
theorem Vm {B:Nat} {e l:List PV} {env l':List RV} (h:Gy B e env) (hl:l.length=l'.length) (hr:∀(i:Nat) p r,l[i]?=some p→l'[i]?=some r→Rel B p r):Gy B (l.reverse++e) (env++l'):=by
 refine ⟨by simp [h.1,hl,Nat.add_comm],?_⟩;intro i p r hp hr';rw [List.reverse_append] at hr';by_cases hi:i<l.length
 ·rw [List.getElem?_append_left (by simpa using hi),List.getElem?_reverse hi] at hp;rw [List.getElem?_append_left (by simp;omega),List.getElem?_reverse (by omega)] at hr';exact hr _ _ _ hp (by rw [hl];exact hr')
 ·rw [List.getElem?_append_right (by simp;omega),List.length_reverse] at hp;rw [List.getElem?_append_right (by simp;omega),List.length_reverse,← hl] at hr';exact h.2 _ _ _ hp hr'
theorem Aji {B:Nat} {e:List PV} {env:List RV} (h:Gy B e env) {m:Int} (h0:0≤m) (hm:m<env.length) {r:RV} (hr:env[(env.length - 1 - m).toNat]?=some r):Rel B (FZ e m) r:=by
 rw [FZ,if_pos (by rw [h.1];exact hm)];have hi:m.toNat<e.length:=by rw [h.1];omega
 rw [List.getD_eq_getElem?_getD,List.getElem?_eq_getElem hi];refine h.2 m.toNat _ _ (List.getElem?_eq_getElem hi) ?_;rw [List.getElem?_reverse (by omega),show env.length - 1 - m.toNat=(env.length - 1 - m).toNat by omega]
 exact hr
def sl (t:Tm) (v:RV):Nat:=if t.op=19∧v.op=19 then 1 else if t.op=30∧v.op=30 then 0 else if t.badR=true then 2 else 3
theorem UY (t:Tm) (v:RV):sl t v≤3:=by unfold sl;split;omega;split;omega;split<;>omega
structure Cost (t:Tm) (v:RV) (k c u:Nat):Prop where
 le:c≤t.surf+k * t.inn
 p:5 * u≤3 * c+10 * k
 q:5 * u+sl t v≤3 * c+10 * k
 v:k=0→t.surf≤v.vsz
structure MOk (m:M3) (k T:Nat):Prop where
 e:m.e=0
 w:(T:Int)≤m.w
 w2:m.w≤5000000
 s:(k:Int)≤m.s
 s2:m.s≤100000
def GB (m:M3) (k T:Nat):M3:=⟨m.s - k,m.w - T,0⟩
theorem E5 (m:M3) (k1 T1 k2 T2:Nat):GB (GB m k1 T1) k2 T2=GB m (k1+k2) (T1+T2):=by
 simp only [GB,M3.mk.injEq,and_true];omega
theorem M1 {m:M3} {k1 T1 k2 T2:Nat} (h:MOk m (k1+k2) (T1+T2)):MOk m k1 T1:=⟨h.e,by have:=h.w;omega,h.w2,by have:=h.s;omega,h.s2⟩
theorem I3 {m:M3} {k1 T1 k2 T2:Nat} (h:MOk m (k1+k2) (T1+T2)):MOk (GB m k1 T1) k2 T2:=⟨rfl,by have:=h.w;simp only [GB];omega,by have:=h.w2;simp only [GB];omega,by have:=h.s;simp only [GB];omega,by have:=h.s2;simp only [GB];omega⟩
theorem Ni {m:M3} {k T:Nat} (h:MOk m k (1+T)):Hw m=some (GB m 0 1):=by
 have h1:=h.w;have h2:=h.w2;have h3:=h.e;rw [Hw,if_neg (by omega),if_neg (by omega),h3];simp only [GB,Atb,M3.mk.injEq,and_true];omega
def AdZ (B:Nat) (e:List PV) (t:Tm) (v:RV) (k T:Nat):Prop:=∃v',Rel B v' v∧∃F,∀f,F≤f→∀m,MOk m k T→SZ f e t m=some (v',GB m k T)
def Yr (B f:Nat):Prop:=∀(s:Int) (t:Tm) (env:List RV) (v:RV) (s':Int),AE f s 0 t env=some (v,s',0)→t.good→t.wt≤B→∀e,Gy B e env→∃k c u T:Nat,s'=s+k∧Cost t v k c u∧T≤c+u+2 * k∧AdZ B e t v k T
def GW (op:Int):Nat→List Tm→List RV→Nat
 | _,[],_=>0
 | _,_::_,[]=>0
 | i,t::l,v::vs=>(if 0<Af op i then 0 else sl t v)+GW op (i+1) l vs
theorem AaD (k1 k2 a b:Nat):k1 * a+k2 * b≤(k1+k2) * (a+b):=by
 rw [Nat.add_mul,Nat.mul_add,Nat.mul_add];have h1:0≤k1 * b:=Nat.zero_le _;have h2:0≤k2 * a:=Nat.zero_le _;omega
theorem M7 {B f:Nat} (ih:Yr B f) (op:Int) (env:List RV) (e:List PV) (he:Gy B e env):∀(l:List Tm) (i:Nat) (s:Int) (vs:List RV) (s':Int),AU (fun s e t=>AE f s e t env) op env i l s 0=some (vs,s',0)→Tm.goodL l→Tm.wtL l≤B →
  ∃k c u T:Nat,s'=s+k∧c≤Tm.surfL op i l+k * Tm.innL op i l∧5 * u+GW op i l vs≤3 * c+10 * k∧(k=0→Tm.surfL op i l≤RV.vszL op i vs)∧T≤c+u+2 * k∧vs.length=l.length ∧
   ∃ps:List PV,ps.length=l.length∧(∀j t,l[j]?=some t→0<Af op (i+j)→ps[j]?=some .nil∧vs[j]?=some (.clo env t))∧(∀j p r,Af op (i+j)=0→ps[j]?=some p→vs[j]?=some r→Rel B p r) ∧
    (∀j t r,l[j]?=some t→Af op (i+j)=0→vs[j]?=some r→∃s1 s2,AE f s1 0 t env=some (r,s2,0))∧∃F,∀g,F≤g→∀m,MOk m k T→RT (fun t m=>SZ g e t m) op i l m=some (ps,GB m k T)
 | [],i,s,vs,s',h,_,_=>by
  simp only [AU,Atb,Atc] at h;obtain ⟨rfl,rfl,_⟩:=h;refine ⟨0,0,0,0,by omega,by omega,by rw [GW];omega,fun _=>by rw [Tm.surfL,RV.vszL];omega,by omega,rfl,[],rfl,fun j t h=>by simp at h,fun j p r _ h=>by simp at h,fun j t r h=>by simp at h,0,fun g _ m hm=>?_⟩
  have:GB m 0 0=m:=by
   obtain ⟨a,b,c⟩:=m
   have:=hm.e
   simp only at this;subst this;simp [GB]
  rw [RT,this]
 | t::l,i,s,vs,s',h,hg,hw=>by
  rw [Tm.goodL] at hg;rw [Tm.wtL] at hw;simp only [AU] at h;by_cases hb:0<Af op i
  ·rw [if_pos hb] at h;cases hk:AU (fun s e t=>AE f s e t env) op env (i+1) l s 0 with
   | none=>rw [hk] at h;cases h
   | some q =>
    obtain ⟨vs1,s1,e1⟩:=q;rw [hk] at h;simp only [Ate,Atb,Atc] at h;obtain ⟨rfl,rfl,rfl⟩:=h;obtain ⟨k,c,u,T,h1,h2,h3,h4,h5,h6,ps,h7,h8,h9,h10,F,h11⟩:=M7 ih op env e he l (i+1) s vs1 s1 hk hg.2 (by omega);refine ⟨k,c,u,T,h1,?_,?_,?_,h5,by simp [h6],.nil::ps,by simp [h7],?_,?_,?_,F,?_⟩
    ·rw [Tm.surfL,Tm.innL,if_pos hb,if_pos hb]
     have:=AaD 0 k t.wt (Tm.innL op (i+1) l)
     rw [Nat.zero_mul,Nat.zero_add,Nat.zero_add] at this;omega
    ·rw [GW,if_pos hb];omega
    ·intro hk0;rw [Tm.surfL,RV.vszL,if_pos hb,if_pos hb]
     have:=h4 hk0
     omega
    ·intro j x hj hbj;cases j with
     | zero =>
      simp only [List.getElem?_cons_zero,Atb] at hj;subst hj;exact ⟨rfl,rfl⟩
     | succ j =>
      rw [List.getElem?_cons_succ] at hj;rw [List.getElem?_cons_succ,List.getElem?_cons_succ];exact h8 j x hj (by rwa [show i+1+j=i+(j+1) by omega])
    ·intro j p r hbj hp hr;cases j with
     | zero=>rw [Nat.add_zero] at hbj;omega
     | succ j =>
      rw [List.getElem?_cons_succ] at hp hr;exact h9 j p r (by rwa [show i+1+j=i+(j+1) by omega]) hp hr
    ·intro j x r hj hbj hr;cases j with
     | zero=>rw [Nat.add_zero] at hbj;omega
     | succ j =>
      rw [List.getElem?_cons_succ] at hj hr;exact h10 j x r hj (by rwa [show i+1+j=i+(j+1) by omega]) hr
    ·intro g hgF m hm;rw [RT,if_pos hb,h11 g hgF m hm];rfl
  ·rw [if_neg hb] at h;split at h
   ·cases h
   ·rename_i v s1 e1 hev;cases hk:AU (fun s e t=>AE f s e t env) op env (i+1) l s1 e1 with
    | none=>rw [hk] at h;cases h
    | some q =>
     obtain ⟨vs1,s2,e2⟩:=q;rw [hk] at h;simp only [Ate,Atb,Atc] at h;obtain ⟨rfl,rfl,rfl⟩:=h;have h0:=GS _ (fun s e t v s' h=>Cm h) op env l _ _ _ _ _ hk;subst h0;obtain ⟨k1,c1,u1,T1,a1,a2,a3,p1,a4,F1,a5⟩:=ih s t env v s1 hev hg.1 (by omega) e he;obtain ⟨k,c,u,T,h1,h2,h3,h4,h5,h6,ps,h7,h8,h9,h10,F,h11⟩:=M7 ih op env e he l (i+1) s1 vs1 s2 hk hg.2 (by omega);have ac:=a2.le;have ap:=a2.p;have aq:=a2.q;refine ⟨k1+k,c1+c,u1+u,T1+T,by omega,?_,?_,?_,by omega,by simp [h6],p1::ps,by simp [h7],?_,?_,?_,F1+F,?_⟩
     ·rw [Tm.surfL,Tm.innL,if_neg hb,if_neg hb]
      have:=AaD k1 k t.inn (Tm.innL op (i+1) l)
      omega
     ·rw [GW,if_neg hb];omega
     ·intro hk0;rw [Tm.surfL,RV.vszL,if_neg hb,if_neg hb]
      have:=h4 (by omega)
      have:=a2.v (by omega)
      omega
     ·intro j x hj hbj;cases j with
      | zero=>rw [Nat.add_zero] at hbj;exact absurd hbj hb
      | succ j =>
       rw [List.getElem?_cons_succ] at hj;rw [List.getElem?_cons_succ,List.getElem?_cons_succ];exact h8 j x hj (by rwa [show i+1+j=i+(j+1) by omega])
     ·intro j p r hbj hp hr;cases j with
      | zero =>
       simp only [List.getElem?_cons_zero,Atb] at hp hr;subst hp hr;exact a4
      | succ j =>
       rw [List.getElem?_cons_succ] at hp hr;exact h9 j p r (by rwa [show i+1+j=i+(j+1) by omega]) hp hr
     ·intro j x r hj hbj hr;cases j with
      | zero =>
       simp only [List.getElem?_cons_zero,Atb] at hj hr;subst hj hr;exact ⟨_,_,hev⟩
      | succ j =>
       rw [List.getElem?_cons_succ] at hj hr;exact h10 j x r hj (by rwa [show i+1+j=i+(j+1) by omega]) hr
     ·intro g hgF m hm;rw [RT,if_neg hb,a5 g (by omega) m (M1 hm)];simp only;rw [h11 g (by omega) _ (I3 hm),E5];rfl
theorem H6 {B:Nat} {p:PV} {r:RV} (h:Rel B p r) (h1:r.op≠1):∃n' kp ts e env,p=.mk r.op r.n kp (.mk r.op n' ts) e∧ar r.op=some ts.length∧kp.length=ts.length∧r.k.length=ts.length ∧
  (∀i p' r',Af r.op i=0→kp[i]?=some p'→r.k[i]?=some r'→Rel B p' r') ∧
  (∀i b,0<Af r.op i→ts[i]?=some b→(b.good∧b.wt≤B)∧kp[i]?=some .nil∧r.k[i]?=some (.clo env b))∧Gy B e env:=by
 cases h with
 | var n=>exact absurd rfl h1
 | node op n n' kp kr ts e env h1 har hl hl2 hk hb hel he=>exact ⟨n',kp,ts,e,env,rfl,har,hl,hl2,hk,hb,hel,he⟩
theorem Pd {m:M3} (h:m.e=0):GB m 0 0=m:=by
 obtain ⟨a,b,c⟩:=m;simp only at h;subst h;simp [GB]
theorem Aer {op:Int} {r:Nat} (h:ar op=some r):r≤4:=by
 unfold ar at h
 repeat' split at h
 all_goals first | (simp only [Atb] at h;omega) | cases h
theorem Aqs (g:Nat) (n:Int) (o0 n0:Int) (k0:List PV) (t0:Tm) (e0:List PV) (x:PV) (t:Tm) (e:List PV) (m:M3):stP (g+1) (.mk 5 n [.mk o0 n0 k0 t0 e0,x] t e) m=if o0=4 then opP g (.mk o0 n0 k0 t0 e0) 1 [x] m else some (.nil,m):=by
 rw [stP.eq_def];simp only [if_true]
theorem Aos (g:Nat) (op n:Int) (h:op=8∨op=9) (n0:Int) (a x y:PV) (t0:Tm) (e0:List PV) (t:Tm) (e:List PV) (m:M3):stP (g+1) (.mk op n [.mk 7 n0 [a,x,y] t0 e0] t e) m=some (if op=8 then x else y,m):=by
 rw [stP.eq_def];simp only;rw [if_neg (by omega),if_pos h,if_true]
theorem Ang (g:Nat) (n:Int) (p0 z p2:PV) (n3:Int) (k3:List PV) (t3:Tm) (e3:List PV) (t:Tm) (e:List PV) (m:M3):stP (g+1) (.mk 13 n [p0,z,p2,.mk 11 n3 k3 t3 e3] t e) m=some (z,m):=by
 rw [stP.eq_def];simp only [Int.reduceEq,if_false,if_true,or_self]
theorem AkW {g:Nat} {n:Int} {p0 z p2:PV} {n3:Int} {x y:PV} {t3:Tm} {e3:List PV} {t:Tm} {e:List PV} {m m':M3} (hc:ctP g (.mk 13 n [.nil,z,.nil,x] t e) m=some (y,m')):stP (g+1) (.mk 13 n [p0,z,p2,.mk 12 n3 [x] t3 e3] t e) m=opP g (.mk 13 n [p0,z,p2,.mk 12 n3 [x] t3 e3] t e) 2 [x,y] m':=by
 rw [stP.eq_def];simp only [Int.reduceEq,if_false,if_true,or_self,hc]
theorem AkM (g:Nat) (n:Int) (p0 z p2:PV) (o3 n3:Int) (k3:List PV) (t3:Tm) (e3:List PV) (t:Tm) (e:List PV) (m:M3) (h11:o3≠11) (h12:o3≠12):stP (g+1) (.mk 13 n [p0,z,p2,.mk o3 n3 k3 t3 e3] t e) m=some (.nil,m):=by
 rw [stP.eq_def];simp only [Int.reduceEq,if_false,if_true,or_self,h11,h12]
theorem Aob (g:Nat) (n:Int) (n0:Int) (x:PV) (t0:Tm) (e0:List PV) (t:Tm) (e:List PV) (m:M3):stP (g+1) (.mk 30 n [.mk 19 n0 [x] t0 e0] t e) m=some (x,m):=by
 rw [stP.eq_def];simp only [Int.reduceEq,if_false,if_true,or_self]
theorem Ak8 (g:Nat) (n:Int) (o0 n0:Int) (k0:List PV) (t0:Tm) (e0:List PV) (t:Tm) (e:List PV) (m:M3) (h:o0≠19):stP (g+1) (.mk 30 n [.mk o0 n0 k0 t0 e0] t e) m=some (.nil,m):=by
 rw [stP.eq_def];simp only [Int.reduceEq,if_false,if_true,or_self,h]
theorem ApB (g:Nat) (n:Int) (n0:Int) (x:PV) (t0:Tm) (e0:List PV) (t:Tm) (e:List PV) (m:M3):stP (g+1) (.mk 19 n [.mk 30 n0 [x] t0 e0] t e) m=some (x,m):=by
 rw [stP.eq_def];simp only [Int.reduceEq,if_false,if_true,or_self]
theorem AmY (g:Nat) (n:Int) (o0 n0:Int) (k0:List PV) (t0:Tm) (e0:List PV) (t:Tm) (e:List PV) (m:M3) (h:o0≠30):stP (g+1) (.mk 19 n [.mk o0 n0 k0 t0 e0] t e) m=some (.nil,m):=by
 rw [stP.eq_def];simp only [Int.reduceEq,if_false,if_true,or_self,h]
def HH (op n:Int) (ps:List PV) (t:Tm) (e:List PV) (v':PV) (k T:Nat):Prop:=∃F,∀g,F≤g→∀m,MOk m k T→ctP g (.mk op n ps t e) m=some (v',GB m k T)
theorem Ao6 {op n:Int} {ps:List PV} {t:Tm} {e:List PV} (h:CM op=false):HH op n ps t e (.mk op n ps t e) 0 0:=by
 refine ⟨1,fun g hg m hm=>?_⟩;obtain ⟨g,rfl⟩:∃k,g=k+1:=⟨g - 1,by omega⟩;rw [ctP,h,Pd hm.e];rfl
theorem NJ {op n:Int} {ps:List PV} {t:Tm} {e:List PV} (h:CM op=true) (hs:∃F,∀g,F≤g→∀m,stP g (.mk op n ps t e) m=some (.nil,m)):HH op n ps t e (.mk op n ps t e) 0 1:=by
 obtain ⟨F,hs⟩:=hs;refine ⟨F+2,fun g hg m hm=>?_⟩;obtain ⟨g,rfl⟩:∃k,g=k+1:=⟨g - 1,by omega⟩;rw [ctP,if_pos h,if_neg (fun h=>h hm.e),if_neg (by omega),Ni (k:=0) (T:=0) hm];simp only;rw [if_neg (by simp [GB]),hs g (by omega)]
theorem GG {op n:Int} {ps:List PV} {t:Tm} {e:List PV} {v':PV} {k T:Nat} (h:CM op=true) (hv:v'≠.nil) (hs:∃F,∀g,F≤g→∀m,MOk m k T→stP g (.mk op n ps t e) m=some (v',GB m k T)):HH op n ps t e v' (k+1) (1+T):=by
 obtain ⟨F,hs⟩:=hs;refine ⟨F+2,fun g hg m hm=>?_⟩;obtain ⟨g,rfl⟩:∃k,g=k+1:=⟨g - 1,by omega⟩;have hm':MOk (GB m 0 1) k T:=I3 (k1:=0) (k2:=k) ⟨hm.e,hm.w,hm.w2,by have:=hm.s;omega,hm.s2⟩;rw [ctP,if_pos h,if_neg (fun h=>h hm.e),if_neg (by omega),Ni hm];simp only;rw [if_neg (by simp [GB]),hs g (by omega) _ hm',E5];have h1:=hm.s;have h2:=hm.s2;cases v' with
 | nil=>exact absurd rfl hv
 | mk o1 n1 k1 t1 e1 =>
  simp only;rw [if_neg (by simp [GB]),if_neg (by simp only [GB];omega),if_neg (by simp only [GB];omega)];simp only [GB,Atb,Atc,true_and,M3.mk.injEq,and_true];omega
theorem VH {B:Nat} {op n n':Int} {ps:List PV} {ts:List Tm} {e:List PV} {i:Nat} {b:Tm} {l:List PV} {v:RV} {k T:Nat} (hb:ts[i]?=some b) (hl:l.length≤2) (h:AdZ B (l.reverse++e) b v k T) :
  ∃v',Rel B v' v∧∃F,∀g,F≤g→∀m,MOk m k T→opP g (.mk op n ps (.mk op n' ts) e) i l m=some (v',GB m k T):=by
 obtain ⟨v',hr,F,h⟩:=h;refine ⟨v',hr,F+10,fun g hg m hm=>?_⟩;obtain ⟨g,rfl⟩:∃k,g=k+1:=⟨g - 1,by omega⟩;rw [opP];rw [if_neg (by omega),hb];exact h g (by omega) m hm
theorem K3 {B:Nat} {p:PV} {r:RV} (h:Rel B p r):p≠.nil:=by
 obtain ⟨op,n,k,t,e,rfl,_⟩:=M0 h;exact fun h=>by cases h
theorem Oc {B f:Nat} (ih:Yr B f) {e l:List PV} {env l':List RV} (he:Gy B e env) (hl:l.length=l'.length) (hr:∀(i:Nat) p r,l[i]?=some p→l'[i]?=some r→Rel B p r) {b:Tm} (hg:b.good) (hw:b.wt≤B) {s s':Int} {v:RV}
  (h:AE f s 0 b (env++l')=some (v,s',0)):∃k c u T:Nat,s'=s+k∧Cost b v k c u∧T≤c+u+2 * k∧AdZ B (l.reverse++e) b v k T :=
 ih s b _ v s' h hg hw _ (Vm he hl hr)
theorem Sp {b:Tm} {v:RV} {k c u:Nat} (h:Cost b v k c u):c≤(k+1) * b.wt:=by
 have h1:=h.le;have h2:=ML b;have h3:k * b.inn≤k * b.wt:=Nat.mul_le_mul_left _ (by omega);rw [Nat.add_mul,Nat.one_mul];omega
theorem Ajo {B:Nat}:∀f,(∀g,g<f→Yr B g)→∀(s:Int) (n n0:Int) (env:List RV) (b0 b2:Tm) (vz vn w:RV) (s':Int) (e:List PV) (pz pn:PV) (n':Int) (ts:List Tm),headR f s 0 (.node 13 n0 [.clo env b0,vz,.clo env b2,vn])=some (w,s',0) →
  Rel B pz vz→Rel B pn vn→Gy B e env→ts[2]?=some b2→b2.good→b2.wt≤B→(∀pw:PV,Rel B (.mk 13 n [.nil,pz,.nil,pn] (.mk 13 n' ts) e) (.node 13 n0 [.clo env b0,vz,.clo env b2,vn])) →
  (∀(px:PV) (vx:RV),Rel B px vx→Rel B (.mk 13 n [.nil,pz,.nil,px] (.mk 13 n' ts) e) (.node 13 0 [.clo env b0,vz,.clo env b2,vx])) →
  ∃k c u T:Nat,s'=s+k∧c≤k * b2.wt∧5 * u≤3 * c+10 * k∧T≤c+u+2 * k+(if k=0 then 1 else 0)∧(k=0→c=0∧u=0∧w=.node 13 n0 [.clo env b0,vz,.clo env b2,vn]) ∧
   ∃w',Rel B w' w∧HH 13 n [.nil,pz,.nil,pn] (.mk 13 n' ts) e w' k T:=by
 intro f
 induction f with
 | zero=>intro _ s n n0 env b0 b2 vz vn w s' e pz pn n' ts h;rw [headR] at h;cases h
 | succ f ihf =>
  intro ih s n n0 env b0 b2 vz vn w s' e pz pn n' ts h hz hn he hb2 hg2 hw2 hself hless;obtain ⟨V,hV⟩:∃V,V=RV.node 13 n0 [.clo env b0,vz,.clo env b2,vn]:=⟨_,rfl⟩;have hop:V.op=13:=by rw [hV];rfl
  have hk0:V.k[0]?=some (.clo env b0):=by rw [hV];rfl
  have hk1:V.k[1]?=some vz:=by rw [hV];rfl
  have hk2:V.k[2]?=some (.clo env b2):=by rw [hV];rfl
  have hk3:V.k[3]?=some vn:=by rw [hV];rfl
  rw [← hV] at h hself ⊢;rw [headR] at h;rw [if_neg (by simp)] at h;split at h
  ·cases h
  simp only [hop,if_true] at h;rw [if_neg (by decide),if_neg (by decide),if_neg (by decide),if_neg (by decide),hk0,hk1,hk2,hk3] at h;simp only at h;obtain ⟨on,nn,kn,tn,en,hpn,hon,hnn⟩:=M0 hn;by_cases h11:vn.op=11
  ·rw [if_pos h11] at h;by_cases hs:s+1≤1000
   ·rw [if_pos hs] at h;simp only [Atb,Atc] at h;obtain ⟨rfl,rfl,_⟩:=h;refine ⟨1,0,0,1,rfl,by omega,by omega,by simp,fun h=>by omega,pz,hz,GG (k:=0) (T:=0) (by decide) (K3 hz) ⟨1,fun g hg m hm=>?_⟩⟩;obtain ⟨g,rfl⟩:∃k,g=k+1:=⟨g - 1,by omega⟩;rw [hpn,← hon,h11,Ang,Pd hm.e]
   ·rw [if_neg hs] at h;simp at h
  ·rw [if_neg h11] at h;by_cases h12:vn.op=12
   ·rw [if_pos h12] at h;by_cases hs:s+1≤1000
    ·rw [if_pos hs] at h;have hvn1:vn.op≠1:=by omega
     obtain ⟨nn',kp,ts',en',envn,hpn',har,hkl,hrl,hkk,_,_⟩:=H6 hn hvn1;rw [h12,show ar 12=some 1 by decide,Atb] at har
     obtain ⟨vx,hvx⟩:=CE (l:=vn.k) (by omega);obtain ⟨px,hpx⟩:=CE (l:=kp) (by omega);have hx:Rel B px vx:=hkk 0 px vx (by rw [h12];decide) (by rw [hpx];rfl) (by rw [hvx];rfl);have hv0:(RV.k vn)[0]?=some vx:=by rw [hvx];rfl
     obtain ⟨on2,nn2,kn2,envn2,bn2⟩:=vn;simp only [RV.k] at hv0 h;rw [hv0] at h;simp only at h;split at h
     ·cases h
     rename_i vh s2 e2 hh;split at h
     ·cases h
     rw [show (RV.clo env b2).env=env from rfl,show (RV.clo env b2).b=b2 from rfl] at h
     have he2:=Cm h;subst he2;obtain ⟨k1,c1,u1,T1,a1,a2,a3,a4,a5,w1,a6,F1,a7⟩:=ihf (fun g hg=>ih g (by omega)) (s+1) n 0 env b0 b2 vz vx vh s2 e pz px n' ts hh hz hx he hb2 hg2 hw2 (fun _=>hless px vx hx) hless;obtain ⟨k2,c2,u2,T2,d1,d2,d3,d4⟩:=Oc (ih f (by omega)) (l:=[px,w1]) (l':=[vx,vh]) he rfl (by
      intro i p r hp hr
      match i with
      | 0=>simp only [List.getElem?_cons_zero,Atb] at hp hr;subst hp hr;exact hx
      | 1=>simp only [List.getElem?_cons_succ,List.getElem?_cons_zero,Atb] at hp hr;subst hp hr;exact a6
      | i+2=>simp at hp) hg2 hw2 h
     obtain ⟨w2,q1,F2,q2⟩:=VH (op:=13) (n:=n) (n':=n') (ps:=[.nil,pz,.nil,pn]) hb2 (by simp) d4;have hd:=Sp d2;have hdp:=d2.p;refine ⟨k1+k2+1,c1+c2,u1+u2,1+(T1+T2),by omega,?_,by omega,?_,fun h=>by omega,w2,q1,GG (k:=k1+k2) (T:=T1+T2) (by decide) (K3 q1) ⟨F1+F2+2,fun g hg m hm=>?_⟩⟩
     ·have e1:(k1+k2+1) * b2.wt=k1 * b2.wt+(k2+1) * b2.wt:=by rw [show k1+k2+1=k1+(k2+1) by omega,Nat.add_mul]
      omega
     ·rw [if_neg (by omega)];split at a4<;>omega
     ·obtain ⟨g,rfl⟩:∃k,g=k+1:=⟨g - 1,by omega⟩;simp only [RV.op] at h12;subst h12;rw [hpn',hpx];simp only [RV.op,RV.n];rw [AkW (a7 g (by omega) m (M1 hm))];rw [hpn',hpx] at q2;simp only [RV.op,RV.n] at q2;rw [q2 g (by omega) _ (I3 hm),E5]
    ·rw [if_neg hs] at h;simp at h
   ·rw [if_neg h12] at h;simp only [Atb,Atc] at h;obtain ⟨rfl,rfl,_⟩:=h;refine ⟨0,0,0,1,by omega,by omega,by omega,by simp,fun _=>⟨rfl,rfl,rfl⟩,_,hself pz,NJ (by decide) ⟨1,fun g hg m=>?_⟩⟩;obtain ⟨g,rfl⟩:∃k,g=k+1:=⟨g - 1,by omega⟩;rw [hpn,AkM _ _ _ _ _ _ _ _ _ _ _ _ _ (by rw [← hon];exact h11) (by rw [← hon];exact h12)]
theorem Dx {op n:Int} {ks:List Tm} {e ps:List PV} {k1 T1 kh Th:Nat} {v':PV} (h1:op≠1) (hks:ks.length≤4) (hK:∃F,∀g,F≤g→∀m,MOk m k1 T1→RT (fun t m=>SZ g e t m) op 0 ks m=some (ps,GB m k1 T1)) (hH:HH op n ps (.mk op n ks) e v' kh Th) :
  ∃F,∀g,F≤g→∀m,MOk m (k1+kh) (1+(T1+Th))→SZ g e (.mk op n ks) m=some (v',GB m (k1+kh) (1+(T1+Th))):=by
 obtain ⟨F1,hK⟩:=hK;obtain ⟨F2,hH⟩:=hH;refine ⟨F1+F2+10,fun g hg m hm=>?_⟩;obtain ⟨g,rfl⟩:∃k,g=k+1:=⟨g - 1,by omega⟩;have hm':MOk (GB m 0 1) (k1+kh) (T1+Th):=I3 (k1:=0) ⟨hm.e,hm.w,hm.w2,by have:=hm.s;omega,hm.s2⟩;rw [SZ,Ni hm];simp only;rw [if_neg h1,if_neg (by omega),if_neg (by simp [GB]),hK g (by omega) _ (M1 hm')];simp only;rw [if_neg (by simp [GB]),hH g (by omega) _ (I3 hm'),E5,E5];congr 3
 all_goals omega
theorem AhW {op:Int} (h:¬ (op=5∨op=8∨op=9∨op=13∨op=19∨op=30)):CM op=false:=by
 have h1:¬ op=5:=fun e=>h (.inl e);have h2:¬ op=8:=fun e=>h (.inr (.inl e));have h3:¬ op=9:=fun e=>h (.inr (.inr (.inl e)));have h4:¬ op=13:=fun e=>h (.inr (.inr (.inr (.inl e))));have h5:¬ op=19:=fun e=>h (.inr (.inr (.inr (.inr (.inl e)))));have h6:¬ op=30:=fun e=>h (.inr (.inr (.inr (.inr (.inr e)))));simp [CM,h1,h2,h3,h4,h5,h6]
set_option maxHeartbeats 1000000 in
theorem Ue (B:Nat):∀f,Yr B f:=by
 intro f
 induction f using Nat.strongRecOn with
 | _ f ih =>
 intro s t env v s' h hg hw e he;cases f with
 | zero=>rw [AE] at h;cases h
 | succ f =>
 obtain ⟨op,n,ks⟩:=t;rw [AE] at h;rw [if_neg (by simp)] at h;split at h
 ·cases h
 rename_i hel;rw [Tm.good] at hg;obtain ⟨hgn,hgl⟩:=hg;have har:=hgn.1;have hk4:=Aer har;rw [Tm.wt] at hw;by_cases h1:op=1
 ·subst h1;rw [if_pos rfl] at h;have hks:ks=[]:=by
   rw [show ar 1=some 0 by decide,Atb] at har
   exact List.eq_nil_of_length_eq_zero har.symm
  subst hks;have hn:=hgn.2.1 rfl;have hrun:∃F,∀g,F≤g→∀m,MOk m 0 1→SZ g e (.mk 1 n []) m=some (FZ e n,GB m 0 1):=by
   refine ⟨e.length+10,fun g hg m hm=>?_⟩;obtain ⟨g,rfl⟩:∃k,g=k+1:=⟨g - 1,by omega⟩;rw [SZ,Ni (k:=0) (T:=0) hm];simp only;rw [if_pos trivial,if_pos ⟨by omega,by omega,by omega⟩]
  have hcost:∀v:RV,Cost (.mk 1 n []) v 0 1 0:=fun v=>⟨by simp [Tm.surf,Tm.surfL],by omega,Nat.le_trans (Nat.add_le_add_left (UY _ _) _) (by omega),fun _=>by have:=Acf v;simp only [Tm.surf,Tm.surfL];omega⟩;by_cases hlt:n<env.length
  ·rw [if_pos hlt,if_pos hn.1] at h;cases hr:env[((env.length:Int) - 1 - n).toNat]? with
   | none=>rw [hr] at h;cases h
   | some r =>
    rw [hr] at h;simp only [Ate,Atb,Atc] at h;obtain ⟨rfl,rfl,_⟩:=h;exact ⟨0,1,0,1,by omega,hcost _,by omega,_,Aji he hn.1 hlt hr,hrun⟩
  ·rw [if_neg hlt] at h;split at h
   ·simp only [Atb,Atc] at h;obtain ⟨rfl,rfl,_⟩:=h;refine ⟨0,1,0,1,by omega,hcost _,by omega,_,?_,hrun⟩;rw [FZ,if_neg (by rw [he.1];exact hlt),he.1];exact .var _
   ·cases h
 rw [if_neg h1] at h;split at h
 ·cases h
 split at h
 ·cases h
 split at h
 ·cases h
 rename_i vs s1 e1 hk;have he1:=HK h;subst he1;obtain ⟨k1,c1,u1,T1,q1,q2,q3,q4,q5,q6,ps,q7,q8,q9,q10,q11⟩:=M7 (ih f (by omega)) op env e he ks 0 s vs s1 hk hgl (by omega);simp only [Nat.zero_add] at q8 q9 q10;have hnode:Rel B (.mk op n ps (.mk op n ks) e) (.node op n vs):=by
  refine .node op n n ps vs ks e env h1 har q7 q6 (fun i p r=>q9 i p r) ?_ he.1 he.2;intro i b hb hi;obtain ⟨a1,a2⟩:=q8 i b hi hb;have hm:=List.mem_of_getElem? hi
  have:=D8 hm
  exact ⟨⟨OM hgl hm,by omega⟩,a1,a2⟩
 obtain ⟨V,hV⟩:∃V,V=RV.node op n vs:=⟨_,rfl⟩;have hVo:V.op=op:=by rw [hV];rfl
 have hVk:V.k=vs:=by rw [hV];rfl
 have hVz:V.vsz=1+RV.vszL op 0 vs:=by rw [hV,RV.node,RV.vsz]
 rw [← hV] at h hnode;cases f with
 | zero=>rw [headR] at h;cases h
 | succ f =>
 have h00:=h;rw [headR] at h;rw [if_neg (by simp)] at h;split at h
 ·cases h
 by_cases hr:¬ (op=5∨op=8∨op=9∨op=13∨op=19∨op=30)
 ·rw [hVo,if_neg (by omega),if_neg (by omega),if_neg (by omega),if_neg (by omega),if_neg (by omega)] at h;simp only [Atb,Atc] at h;obtain ⟨rfl,rfl,_⟩:=h;refine ⟨k1,1+c1,u1,1+T1,q1,⟨?_,by omega,Nat.le_trans (Nat.add_le_add_left (UY _ _) _) (by omega),fun h=>?_⟩,by omega,_,hnode,Dx (kh:=0) (Th:=0) h1 (by omega) q11 (Ao6 (AhW hr))⟩
  ·rw [Tm.surf,Tm.inn];omega
  ·have:=q4 h;rw [Tm.surf,hVz];omega
 have hrule:CM op=true:=by
  have:op=5∨op=8∨op=9∨op=13∨op=19∨op=30:=Decidable.byContradiction hr
  rcases this with rfl | rfl | rfl | rfl | rfl | rfl<;>rfl
 by_cases h5:op=5
 ·subst h5;obtain ⟨m0,a,b,x,rfl⟩:=hgn.2.2.2.1 rfl;obtain ⟨v0,vx,rfl⟩:=UM q6;obtain ⟨p0,px,rfl⟩:=UM q7;obtain ⟨t1,t2,hv0⟩:=q10 0 _ v0 rfl (by decide) rfl;obtain ⟨va,rfl⟩:=WZ hv0;have r0:=q9 0 p0 _ (by decide) rfl rfl;have rx:=q9 1 px vx (by decide) rfl rfl;obtain ⟨n',kp,ts,e0,env0,hp0,b1,b2,b3,b4,b5,b6⟩:=H6 r0 (by simp [RV.node,RV.op]);simp only [RV.node,RV.op,RV.n,RV.k] at hp0 b1 b3 b4 b5;rw [show ar 4=some 2 by decide,Atb] at b1
  obtain ⟨a',b',rfl⟩:=UM b1.symm;obtain ⟨⟨g1,g2⟩,_,g3⟩:=b5 1 b' (by decide) rfl;simp only [List.getElem?_cons_succ,List.getElem?_cons_zero,Atb,RV.clo,RV.mk.injEq,true_and] at g3;obtain ⟨rfl,rfl⟩:=g3;rw [hVo,if_pos rfl,hVk] at h;simp only [List.getElem?_cons_succ,List.getElem?_cons_zero] at h;rw [show (RV.node 4 m0 [va,RV.clo env b]).op=4 from rfl,if_pos rfl] at h
  split at h
  ·rw [show (RV.node 4 m0 [va,RV.clo env b]).k[1]?=some (RV.clo env b) from rfl] at h
   simp only at h;split at h
   ·cases h
   rw [show (RV.clo env b).env=env from rfl,show (RV.clo env b).b=b from rfl] at h
   obtain ⟨k2,c2,u2,T2,d1,d2,d3,d4⟩:=Oc (ih f (by omega)) (l:=[px]) (l':=[vx]) b6 rfl (by
    intro i p r hp hr
    match i with
    | 0=>simp only [List.getElem?_cons_zero,Atb] at hp hr;subst hp hr;exact rx
    | i+1=>simp at hp) g1 g2 h
   obtain ⟨w2,y1,F2,y2⟩:=VH (op:=4) (n:=m0) (n':=n') (ps:=kp) (ts:=[a',b]) (i:=1) (b:=b) (l:=[px]) rfl (by simp) d4;have hd:=Sp d2;have hdp:=d2.p;have hiw:b.wt≤Tm.innL 5 0 [.mk 4 m0 [a,b],x]:=by
    simp only [Tm.innL,Tm.inn];rw [if_neg (show ¬ 0<Af 5 0 by decide),if_neg (show ¬ 0<Af 4 0 by decide),if_pos (show 0<Af 4 (0+1) by decide)]
    omega
   refine ⟨k1+(k2+1),1+(c1+c2),u1+u2,1+(T1+(1+T2)),by omega,⟨?_,by omega,Nat.le_trans (Nat.add_le_add_left (UY _ _) _) (by omega),fun h=>by omega⟩,by omega,w2,y1,Dx h1 (by simp) q11 (GG (k:=k2) (T:=T2) hrule (K3 y1) ⟨F2+1,fun g hg m hm=>?_⟩)⟩
   ·rw [Tm.surf,Tm.inn];have e1:(k1+(k2+1)) * Tm.innL 5 0 [.mk 4 m0 [a,b],x]=k1 * Tm.innL 5 0 [.mk 4 m0 [a,b],x]+(k2+1) * Tm.innL 5 0 [.mk 4 m0 [a,b],x]:=by rw [Nat.add_mul]
    have e2:(k2+1) * b.wt≤(k2+1) * Tm.innL 5 0 [.mk 4 m0 [a,b],x]:=Nat.mul_le_mul_left _ hiw;omega
   ·obtain ⟨g,rfl⟩:∃k,g=k+1:=⟨g - 1,by omega⟩;rw [hp0,Aqs,if_pos rfl];exact y2 g (by omega) m hm
  ·simp at h
 by_cases h89:op=8∨op=9
 ·obtain ⟨m0,a,x,y,rfl⟩:=hgn.2.2.2.2.1 h89;obtain ⟨v0,rfl⟩:=CE q6;obtain ⟨p0,rfl⟩:=CE q7;have hb0:Af op 0=0:=by rcases h89 with rfl | rfl<;>decide
  obtain ⟨t1,t2,hv0⟩:=q10 0 _ v0 rfl hb0 rfl;obtain ⟨va,vx,vy,rfl⟩:=AeQ hv0;have r0:=q9 0 p0 _ hb0 rfl rfl;obtain ⟨n',kp,ts,e0,env0,hp0,b1,b2,b3,b4,b5,b6⟩:=H6 r0 (by simp [RV.node,RV.op]);simp only [RV.node,RV.op,RV.n,RV.k] at hp0 b1 b3 b4 b5;rw [show ar 7=some 3 by decide,Atb] at b1
  obtain ⟨pa,px,py,rfl⟩:=Amy (b2.trans b1.symm);have rx:=b4 1 px vx (by decide) rfl rfl;have ry:=b4 2 py vy (by decide) rfl rfl;rw [hVo,if_neg h5,if_pos h89,hVk] at h;simp only [List.getElem?_cons_zero] at h;rw [show (RV.node 7 m0 [va,vx,vy]).op=7 from rfl,if_pos rfl] at h
  split at h
  ·obtain ⟨w',hw',hvv⟩:∃w',w'=(if op=8 then px else py)∧Rel B w' v∧s'=s1+1:=by
    rcases h89 with rfl | rfl
    ·rw [show (RV.node 7 m0 [va,vx,vy]).k[(1+8 - 8:Int).toNat]?=some vx from rfl] at h
     simp only [Ate,Atb,Atc] at h;obtain ⟨rfl,rfl,_⟩:=h;exact ⟨px,rfl,rx,rfl⟩
    ·rw [show (RV.node 7 m0 [va,vx,vy]).k[(1+9 - 8:Int).toNat]?=some vy from rfl] at h
     simp only [Ate,Atb,Atc] at h;obtain ⟨rfl,rfl,_⟩:=h;exact ⟨py,rfl,ry,rfl⟩
   obtain ⟨hrel,rfl⟩:=hvv;refine ⟨k1+1,1+c1,u1,1+(T1+1),by omega,⟨?_,by omega,Nat.le_trans (Nat.add_le_add_left (UY _ _) _) (by omega),fun h=>by omega⟩,by omega,w',hrel,Dx h1 (by simp) q11 (GG (k:=0) (T:=0) hrule (K3 hrel) ⟨1,fun g hg m hm=>?_⟩)⟩
   ·rw [Tm.surf,Tm.inn,Nat.add_mul];omega
   ·obtain ⟨g,rfl⟩:∃k,g=k+1:=⟨g - 1,by omega⟩;rw [hp0,Aos _ _ _ h89,Pd hm.e,hw']
  ·simp at h
 by_cases h30:op=30
 ·subst h30;rw [show ar 30=some 1 by decide,Atb] at har
  obtain ⟨x,rfl⟩:=CE har.symm;obtain ⟨v0,rfl⟩:=CE q6;obtain ⟨p0,rfl⟩:=CE q7;have r0:=q9 0 p0 v0 (by decide) rfl rfl;have hx:=hgn.2.2.2.2.2.2.1 rfl x (by simp);rw [hVo,if_neg h5,if_neg h89,if_pos rfl,hVk] at h;simp only [List.getElem?_cons_zero] at h;simp only [GW] at q3;rw [if_neg (by decide)] at q3;by_cases h19:v0.op=19
  ·rw [if_pos h19] at h;obtain ⟨n',kp,ts,e0,env0,hp0,b1,b2,b3,b4,b5,b6⟩:=H6 r0 (by rw [h19];decide);rw [h19,show ar 19=some 1 by decide,Atb] at b1
   obtain ⟨y,hy⟩:=CE (b3.trans b1.symm);obtain ⟨py,rfl⟩:=CE (b2.trans b1.symm);have ry:=b4 0 py y (by rw [h19];decide) rfl (by rw [hy];rfl);rw [hy] at h;simp only [List.getElem?_cons_zero,Ate] at h;split at h
   ·simp only [Atb,Atc] at h;obtain ⟨rfl,rfl,_⟩:=h;refine ⟨k1+1,1+c1,u1,1+(T1+1),by omega,⟨?_,by omega,Nat.le_trans (Nat.add_le_add_left (UY _ _) _) (by omega),fun h=>by omega⟩,by omega,py,ry,Dx h1 (by simp) q11 (GG (k:=0) (T:=0) hrule (K3 ry) ⟨1,fun g hg m hm=>?_⟩)⟩
    ·rw [Tm.surf,Tm.inn,Nat.add_mul];omega
    ·obtain ⟨g,rfl⟩:∃k,g=k+1:=⟨g - 1,by omega⟩;rw [hp0,h19,Aob,Pd hm.e]
   ·simp at h
  ·rw [if_neg h19] at h;simp only [Atb,Atc] at h;obtain ⟨rfl,rfl,_⟩:=h;obtain ⟨o0,n0,k0,t0,e0,hp0,ho0,_⟩:=M0 r0;have hns:2≤sl x v0:=by
    unfold sl;rw [if_neg (fun h=>h19 h.2),if_neg (fun h=>hx h.1)];split<;>omega
   have hn0:sl (.mk 30 n [x]) V=0:=by
    unfold sl;rw [if_neg (by simp [Tm.op]),if_pos ⟨rfl,hVo⟩]
   refine ⟨k1,1+c1,u1+1,1+(T1+1),q1,⟨?_,by omega,by rw [hn0];omega,fun h=>?_⟩,by omega,_,hnode,Dx (kh:=0) h1 (by simp) q11 (NJ hrule ⟨1,fun g hg m=>?_⟩)⟩
   ·rw [Tm.surf,Tm.inn];omega
   ·have:=q4 h;rw [Tm.surf,hVz];omega
   ·obtain ⟨g,rfl⟩:∃k,g=k+1:=⟨g - 1,by omega⟩;rw [hp0,Ak8 _ _ _ _ _ _ _ _ _ _ (by rw [← ho0];exact h19)]
 by_cases h19:op=19
 ·subst h19;rw [show ar 19=some 1 by decide,Atb] at har
  obtain ⟨x,rfl⟩:=CE har.symm;obtain ⟨v0,rfl⟩:=CE q6;obtain ⟨p0,rfl⟩:=CE q7;have r0:=q9 0 p0 v0 (by decide) rfl rfl;have hx:=hgn.2.2.2.2.2.1 rfl x (by simp);rw [hVo,if_neg h5,if_neg h89,if_neg h30,if_pos rfl,hVk] at h;simp only [List.getElem?_cons_zero] at h;simp only [GW] at q3;rw [if_neg (by decide)] at q3;by_cases hv30:v0.op=30
  ·rw [if_pos hv30] at h;obtain ⟨n',kp,ts,e0,env0,hp0,b1,b2,b3,b4,b5,b6⟩:=H6 r0 (by rw [hv30];decide);rw [hv30,show ar 30=some 1 by decide,Atb] at b1
   obtain ⟨y,hy⟩:=CE (b3.trans b1.symm);obtain ⟨py,rfl⟩:=CE (b2.trans b1.symm);have ry:=b4 0 py y (by rw [hv30];decide) rfl (by rw [hy];rfl);rw [hy] at h;simp only [List.getElem?_cons_zero,Ate] at h;split at h
   ·simp only [Atb,Atc] at h;obtain ⟨rfl,rfl,_⟩:=h;refine ⟨k1+1,1+c1,u1,1+(T1+1),by omega,⟨?_,by omega,Nat.le_trans (Nat.add_le_add_left (UY _ _) _) (by omega),fun h=>by omega⟩,by omega,py,ry,Dx h1 (by simp) q11 (GG (k:=0) (T:=0) hrule (K3 ry) ⟨1,fun g hg m hm=>?_⟩)⟩
    ·rw [Tm.surf,Tm.inn,Nat.add_mul];omega
    ·obtain ⟨g,rfl⟩:∃k,g=k+1:=⟨g - 1,by omega⟩;rw [hp0,hv30,ApB,Pd hm.e]
   ·simp at h
  ·rw [if_neg hv30] at h;simp only [Atb,Atc] at h;obtain ⟨rfl,rfl,_⟩:=h;obtain ⟨o0,n0,k0,t0,e0,hp0,ho0,_⟩:=M0 r0;have hns:sl x v0=3:=by
    unfold sl;rw [if_neg (fun h=>hx.1 h.1),if_neg (fun h=>hv30 h.2),if_neg (fun h=>hx.2 (Ahl h))]
   have hn0:sl (.mk 19 n [x]) V=1:=by
    unfold sl;rw [if_pos ⟨rfl,hVo⟩]
   refine ⟨k1,1+c1,u1+1,1+(T1+1),q1,⟨?_,by omega,by rw [hn0];omega,fun h=>?_⟩,by omega,_,hnode,Dx (kh:=0) h1 (by simp) q11 (NJ hrule ⟨1,fun g hg m=>?_⟩)⟩
   ·rw [Tm.surf,Tm.inn];omega
   ·have:=q4 h;rw [Tm.surf,hVz];omega
   ·obtain ⟨g,rfl⟩:∃k,g=k+1:=⟨g - 1,by omega⟩;rw [hp0,AmY _ _ _ _ _ _ _ _ _ _ (by rw [← ho0];exact hv30)]
 have h13:op=13:=by omega
 subst h13;rw [show ar 13=some 4 by decide,Atb] at har
 obtain ⟨b0,z,b2,nn,rfl⟩:=QG har.symm;obtain ⟨w0,vz,w2,vn,rfl⟩:=QG q6;obtain ⟨p0,pz,p2,pn,rfl⟩:=QG q7;obtain ⟨x0,y0⟩:=q8 0 b0 rfl (by decide);obtain ⟨x2,y2⟩:=q8 2 b2 rfl (by decide);simp only [List.getElem?_cons_succ,List.getElem?_cons_zero,Atb] at x0 y0 x2 y2;subst x0 y0 x2 y2;have rz:=q9 1 pz vz (by decide) rfl rfl;have rn:=q9 3 pn vn (by decide) rfl rfl;have hgd:=hgn.2.2.2.2.2.2.2 rfl b0 z b2 nn rfl;have hn0:=hgn.2.2.1 rfl;simp only [Tm.goodL,and_true] at hgl;simp only [Tm.wtL] at hw;rw [hV] at h00 hnode;obtain ⟨kr,cr,ur,Tr,a1,a2,a3,a4,a5,w',a6,a7⟩:=Ajo (f+1) (fun g hg=>ih g (by omega)) s1 n n env b0 b2 vz vn v s' e pz pn n [b0,z,b2,nn] h00 rz rn he rfl hgl.2.2.1 (by omega) (fun _=>hnode) (by
  intro px vx hx;rw [hn0];refine .node 13 0 0 [.nil,pz,.nil,px] [.clo env b0,vz,.clo env b2,vx] [b0,z,b2,nn] e env (by decide) (show ar 13=some 4 by decide) rfl rfl ?_ ?_ he.1 he.2
  ·intro i p r hb hp hr
   match i with
   | 0=>exact absurd hb (by decide)
   | 1=>simp only [List.getElem?_cons_succ,List.getElem?_cons_zero,Atb] at hp hr;subst hp hr;exact rz
   | 2=>exact absurd hb (by decide)
   | 3=>simp only [List.getElem?_cons_succ,List.getElem?_cons_zero,Atb] at hp hr;subst hp hr;exact hx
   | i+4=>simp at hp
  ·intro i b hb hi
   match i with
   | 0=>simp only [List.getElem?_cons_zero,Atb] at hi;subst hi;exact ⟨⟨hgl.1,by omega⟩,rfl,rfl⟩
   | 1=>exact absurd hb (by decide)
   | 2=>simp only [List.getElem?_cons_succ,List.getElem?_cons_zero,Atb] at hi;subst hi;exact ⟨⟨hgl.2.2.1,by omega⟩,rfl,rfl⟩
   | 3=>exact absurd hb (by decide)
   | i+4=>simp at hi)
 have hiw:b2.wt≤Tm.innL 13 0 [b0,z,b2,nn]:=by
  simp only [Tm.innL];rw [if_pos (by decide),if_neg (by decide),if_pos (by decide),if_neg (by decide)];omega
 have hsl:GW 13 0 [b0,z,b2,nn] [.clo env b0,vz,.clo env b2,vn]=sl z vz+sl nn vn:=by
  simp only [GW];rw [if_pos (show 0<Af 13 0 by decide),if_neg (show ¬ 0<Af 13 (0+1) by decide),if_pos (show 0<Af 13 (0+1+1) by decide),if_neg (show ¬ 0<Af 13 (0+1+1+1) by decide)]
  omega
 have hsn:sl nn vn=3:=by
  unfold sl;rw [if_neg (fun h=>hgd.2.1.1 h.1),if_neg (fun h=>hgd.2.1.2 h.1),if_neg (by rw [hgd.2.2];decide)]
 have hsz:1≤sl z vz:=by
  unfold sl;split
  ·omega
  ·rw [if_neg (fun h=>hgd.1 h.1)];split<;>omega
 have hst:sl (.mk 13 n [b0,z,b2,nn]) V+2≤sl z vz+sl nn vn:=by
  have e1:sl (.mk 13 n [b0,z,b2,nn]) V=if (Tm.mk 13 n [b0,z,b2,nn]).badR=true then 2 else 3:=by
   unfold sl;rw [if_neg (by simp [Tm.op]),if_neg (by simp [Tm.op])]
  rw [e1];split
  ·omega
  ·rename_i hnb;have hb:¬ (z.op=19∨z.badR=true):=by
    intro h;apply hnb;rw [Tm.badR];simpa using h
   have:sl z vz=3:=by
    unfold sl;rw [if_neg (fun h=>hb (.inl h.1)),if_neg (fun h=>hgd.1 h.1),if_neg (fun h=>hb (.inr h))]
   omega
 have hle:1+(c1+cr)≤(Tm.mk 13 n [b0,z,b2,nn]).surf+(k1+kr) * (Tm.mk 13 n [b0,z,b2,nn]).inn:=by
  rw [Tm.surf,Tm.inn,Nat.add_mul];have e2:kr * b2.wt≤kr * Tm.innL 13 0 [b0,z,b2,nn]:=Nat.mul_le_mul_left _ hiw;omega
 by_cases hk0:kr=0
 ·obtain ⟨z1,z2,z3⟩:=a5 hk0;subst hk0 z1 z2;rw [if_pos rfl] at a4;refine ⟨k1+0,1+(c1+0),u1+1,1+(T1+Tr),by omega,⟨hle,by omega,by rw [z3,← hV];omega,fun h=>?_⟩,by omega,w',a6,Dx h1 (by simp) q11 a7⟩
  have:=q4 (by omega)
  rw [z3,← hV,Tm.surf,hVz];omega
 ·rw [if_neg hk0] at a4;exact ⟨k1+kr,1+(c1+cr),u1+ur,1+(T1+Tr),by omega,⟨hle,by omega,Nat.le_trans (Nat.add_le_add_left (UY _ _) _) (by omega),fun h=>by omega⟩,by omega,w',a6,Dx h1 (by simp) q11 a7⟩
theorem QW {f:Nat} (op:Int) (env:List RV) (ih:∀s t v s',AE f s 0 t env=some (v,s',0)→s≤1000→s'≤1000):∀(l:List Tm) (i:Nat) (s:Int) (vs:List RV) (s':Int),AU (fun s e t=>AE f s e t env) op env i l s 0=some (vs,s',0)→s≤1000→s'≤1000
 | [],i,s,vs,s',h,hs=>by
  simp only [AU,Atb,Atc] at h;omega
 | t::l,i,s,vs,s',h,hs=>by
  simp only [AU] at h;split at h
  ·cases hk:AU (fun s e t=>AE f s e t env) op env (i+1) l s 0 with
   | none=>rw [hk] at h;cases h
   | some q =>
    obtain ⟨vs1,s1,e1⟩:=q;rw [hk] at h;simp only [Ate,Atb,Atc] at h;obtain ⟨_,rfl,rfl⟩:=h;exact QW op env ih l _ _ _ _ hk hs
  ·split at h
   ·cases h
   ·rename_i v s1 e1 he;cases hk:AU (fun s e t=>AE f s e t env) op env (i+1) l s1 e1 with
    | none=>rw [hk] at h;cases h
    | some q =>
     obtain ⟨vs2,s2,e2⟩:=q;rw [hk] at h;simp only [Ate,Atb,Atc] at h;obtain ⟨_,rfl,rfl⟩:=h;have h0:=GS _ (fun s e t v s' h=>Cm h) op env l _ _ _ _ _ hk;subst h0;exact QW op env ih l _ _ _ _ hk (ih _ _ _ _ he hs)
theorem AjJ:∀f,(
           ∀s t env v s',AE f s 0 t env=some (v,s',0)→s≤1000→s'≤1000)∧(∀s v w s',headR f s 0 v=some (w,s',0)→s≤1000→s'≤1000):=by
 intro f
 induction f with
 | zero=>exact ⟨(by intro s t env v s' h;rw [AE] at h;cases h),(by intro s v w s' h;rw [headR] at h;cases h)⟩
 | succ f ih =>
  refine ⟨?_,?_⟩
  ·intro s t env v s' h hs;obtain ⟨op,n,ks⟩:=t;rw [AE] at h;rw [if_neg (by simp)] at h;split at h
   ·cases h
   split at h
   ·split at h
    ·split at h
     ·cases hr:env[((env.length:Int) - 1 - n).toNat]? with
      | none=>rw [hr] at h;cases h
      | some r =>
       rw [hr] at h;simp only [Ate,Atb,Atc] at h;omega
     ·cases h
    ·split at h
     ·simp only [Atb,Atc] at h;omega
     ·cases h
   split at h
   ·cases h
   split at h
   ·cases h
   split at h
   ·cases h
   rename_i vs s1 e1 hk;have he:=HK h;subst he;exact ih.2 _ _ _ _ h (QW op env (fun s t v s'=>ih.1 s t env v s') ks _ _ _ _ hk hs)
  ·intro s v w s' h hs;rw [headR] at h;rw [if_neg (by simp)] at h;split at h
   ·cases h
   split at h
   ·split at h
    ·cases h
    ·split at h
     ·split at h
      ·split at h
       ·split at h
        ·cases h
        ·exact ih.1 _ _ _ _ _ h (by omega)
       ·cases h
      ·simp at h
     ·simp only [Atb,Atc] at h;omega
   split at h
   ·split at h
    ·cases h
    ·rename_i k0 _;split at h
     ·split at h
      ·cases hx:k0.k[(1+v.op - 8).toNat]? with
       | none=>rw [hx] at h;cases h
       | some x=>rw [hx] at h;simp only [Ate,Atb,Atc] at h;omega
      ·simp at h
     ·simp only [Atb,Atc] at h;omega
   split at h
   ·split at h
    ·cases h
    ·rename_i k0 _;split at h
     ·split at h
      ·cases hx:k0.k[0]? with
       | none=>rw [hx] at h;cases h
       | some x=>rw [hx] at h;simp only [Ate,Atb,Atc] at h;omega
      ·simp at h
     ·simp only [Atb,Atc] at h;omega
   split at h
   ·split at h
    ·cases h
    ·rename_i k0 _;split at h
     ·split at h
      ·cases hx:k0.k[0]? with
       | none=>rw [hx] at h;cases h
       | some x=>rw [hx] at h;simp only [Ate,Atb,Atc] at h;omega
      ·simp at h
     ·simp only [Atb,Atc] at h;omega
   split at h
   ·split at h
    ·split at h
     ·split at h
      ·simp only [Atb,Atc] at h;omega
      ·simp at h
     ·split at h
      ·split at h
       ·split at h
        ·cases h
        ·split at h
         ·cases h
         ·rename_i vh s2 e2 hh;split at h
          ·cases h
          ·have he:=Cm h;subst he;exact ih.1 _ _ _ _ _ h (ih.2 _ _ _ _ hh (by omega))
       ·simp at h
      ·simp only [Atb,Atc] at h;omega
    ·cases h
   ·simp only [Atb,Atc] at h;omega
theorem OY {f:Nat} {op u d:Int}:∀(l:List RV) (i:Nat) (s nd e:Int) (ts:List Tm) (s' nd':Int),Ba (fun s nd e k u=>AX f s nd e k u d) f op u i l s nd e=some (ts,s',nd',0)→e=0
 | [],i,s,nd,e,ts,s',nd',h=>by
  simp only [Ba,Atb,Atc] at h;exact h.2.2.2
 | k::l,i,s,nd,e,ts,s',nd',h=>by
  simp only [Ba] at h;split at h
  ·cases h
  rename_i k1 s1 e1 hk;split at h
  ·cases h
  rename_i t s2 nd2 e2 hr;cases hrest:Ba (fun s nd e k u=>AX f s nd e k u d) f op u (i+1) l s2 nd2 e2 with
  | none=>rw [hrest] at h;cases h
  | some q =>
   obtain ⟨ts2,s3,nd3,e3⟩:=q;rw [hrest] at h;simp only [Ate,Atb,Atc] at h;obtain ⟨_,_,_,rfl⟩:=h
   have:=OY l _ _ _ _ _ _ _ hrest
   subst this
   have:=Fr hr
   subst this;split at hk
   ·split at hk
    ·cases hk
    ·exact Cm hk
   ·simp only [Atb,Atc] at hk;exact hk.2.2
def Ajy (B f:Nat):Prop:=∀(s nd:Int) (v:RV) (u d:Int) (t:Tm) (s' nd':Int),AX f s nd 0 v u d=some (t,s',nd',0)→0≤nd→∀v',Rel B v' v→∃k c uu T N:Nat,s'=s+k∧nd'=nd+N∧nd'≤3000∧(s≤1000→s'≤1000)∧c+v.vsz≤N+B * k∧5 * uu≤3 * c+10 * k∧T≤N+c+uu+2 * k ∧
 ∃F,∀g,F≤g→∀m,MOk m k T→Tu g v' u d m nd=some (t,GB m k T,nd')
theorem AkF {B:Nat} (u:Int) (b:Nat):∀(i:Nat) p r,(Tq u b)[i]?=some p→(I7 u b)[i]?=some r→Rel B p r:=by
 intro i p r hp hr;rw [Tq,List.getElem?_map] at hp;rw [I7,List.getElem?_map] at hr;cases hx:(List.range b)[i]? with
 | none=>rw [hx] at hp;cases hp
 | some j =>
  rw [hx] at hp hr;simp only [Ate,Atb] at hp hr;subst hp hr;exact .var _
set_option maxHeartbeats 1000000 in
theorem Va {B f:Nat} (ih:Ajy B f) (op u d n n':Int) (kp0:List PV) (ts:List Tm) (e:List PV) (env:List RV) (he:Gy B e env):∀(l:List RV) (lp:List PV) (i:Nat) (s nd:Int) (rs:List Tm) (s' nd':Int),Ba (fun s nd e k u=>AX f s nd e k u (d+1)) f op u i l s nd 0=some (rs,s',nd',0)→0≤nd→nd≤3000→lp.length=l.length →
  (∀j p r,Af op (i+j)=0→lp[j]?=some p→l[j]?=some r→Rel B p r)→(∀j r,0<Af op (i+j)→l[j]?=some r→∃b,ts[i+j]?=some b∧b.good∧b.wt≤B∧r=.clo env b) →
  ∃k c uu T N:Nat,s'=s+k∧nd'=nd+N∧nd'≤3000∧(s≤1000→s'≤1000)∧c+RV.vszL op i l≤N+B * k∧5 * uu≤3 * c+10 * k∧T≤N+c+uu+2 * k ∧
   ∃F,∀g,F≤g→∀m,MOk m k T→bkK (fun v below m r=>Tu g v below (d+1) m r) (fun i l m=>opP g (.mk op n kp0 (.mk op n' ts) e) i l m) op u i lp m nd=some (some rs,GB m k T,nd')
 | [],lp,i,s,nd,rs,s',nd',h,h0,h3,hl,_,_=>by
  simp only [Ba,Atb,Atc] at h;obtain ⟨rfl,rfl,rfl,_⟩:=h
  have:lp=[]:=List.eq_nil_of_length_eq_zero hl
  subst this;refine ⟨0,0,0,0,0,by omega,by omega,h3,id,by simp [RV.vszL],by omega,by omega,0,fun g _ m hm=>?_⟩;rw [bkK,Pd hm.e]
 | k::l,lp,i,s,nd,rs,s',nd',h,h0,h3,hl,hA,hB=>by
  obtain ⟨p,lp,rfl⟩:∃p lp',lp=p::lp':=by
   cases lp with
   | nil=>cases hl
   | cons p lp=>exact ⟨p,lp,rfl⟩
  simp only [Ba] at h;split at h
  ·cases h
  rename_i k1 s1 e1 hk;split at h
  ·cases h
  rename_i t s2 nd2 e2 hr;cases hrest:Ba (fun s nd e k u=>AX f s nd e k u (d+1)) f op u (i+1) l s2 nd2 e2 with
  | none=>rw [hrest] at h;cases h
  | some q =>
  obtain ⟨ts2,s3,nd3,e3⟩:=q;rw [hrest] at h;simp only [Ate,Atb,Atc] at h;obtain ⟨rfl,rfl,rfl,rfl⟩:=h;have h2:=OY l _ _ _ _ _ _ _ hrest;subst h2;have h1:=Fr hr;subst h1;have hA':∀j p r,Af op (i+1+j)=0→lp[j]?=some p→l[j]?=some r→Rel B p r:=fun j p r a b c=>hA (j+1) p r (by rwa [show i+(j+1)=i+1+j by omega]) b c
  have hB':∀j r,0<Af op (i+1+j)→l[j]?=some r→∃b,ts[i+1+j]?=some b∧b.good∧b.wt≤B∧r=.clo env b:=fun j r a b=>by
   obtain ⟨x,y⟩:=hB (j+1) r (by rwa [show i+(j+1)=i+1+j by omega]) b
   exact ⟨x,by rwa [show i+1+j=i+(j+1) by omega]⟩
  by_cases hb:0<Af op i
  ·rw [if_pos hb] at hk;split at hk
   ·cases hk
   obtain ⟨b,hb1,hb2,hb3,rfl⟩:=hB 0 k (by simpa using hb) rfl;rw [Nat.add_zero] at hb1;rw [show (RV.clo env b).env=env from rfl,show (RV.clo env b).b=b from rfl] at hk
   have hb22:=Bv op i;obtain ⟨ke,ce,ue,Te,d1,d2,d3,d4⟩:=Oc (Ue B f) (l:=Tq u (Af op i)) (l':=I7 u (Af op i)) he (by rw [JE,Cs]) (AkF u _) hb2 hb3 hk;obtain ⟨w1,y1,F1,y2⟩:=VH (op:=op) (n:=n) (n':=n') (ps:=kp0) hb1 (by rw [JE];exact hb22) d4;have hsle:=(AjJ f).1 _ _ _ _ _ hk;obtain ⟨kr,cr,ur,Tr,Nr,r1,r2,r3,r4,r5,r6,r7,F2,r8⟩:=ih s1 nd k1 _ _ t s2 nd2 hr h0 w1 y1;obtain ⟨kk,cc,uu,TT,NN,q1,q2,q3,q4,q5,q6,q7,F3,q8⟩:=Va ih op u d n n' kp0 ts e env he l lp (i+1) s2 nd2 ts2 s3 nd3 hrest (by omega) (by omega) (by simpa using hl) hA' hB';have hde:=d2.le;have hdp:=d2.p;have hsi:=ML b;refine ⟨ke+(kr+kk),ce+(cr+cc),ue+(ur+uu),Te+(Tr+TT),Nr+NN,by omega,by omega,q3,fun h=>q4 (r4 (hsle h)),?_,by omega,by omega,F1+F2+F3,fun g hg m hm=>?_⟩
   ·rw [RV.vszL,if_pos hb,Nat.mul_add,Nat.mul_add];have hce:ce≤k1.vsz+B * ke:=by
     cases hke:ke with
     | zero =>
      have:=d2.v hke
      rw [hke] at hde;omega
     | succ k' =>
      rw [hke] at hde;have e1:(k'+1) * b.wt≤(k'+1) * B:=Nat.mul_le_mul_left _ hb3;have e2:(k'+1) * b.wt=(k'+1) * b.surf+(k'+1) * b.inn:=by rw [← hsi,Nat.mul_add]
      have e3:b.surf≤(k'+1) * b.surf:=Nat.le_mul_of_pos_left _ (by omega);rw [Nat.mul_comm B];omega
    omega
   ·rw [bkK,if_pos hb,y2 g (by omega) m (M1 hm)];have hm2:=I3 hm;simp only;rw [if_neg (by simp [GB]),r8 g (by omega) _ (M1 hm2)];simp only;rw [q8 g (by omega) _ (I3 hm2),E5,E5];simp only [Ate]
  ·rw [if_neg hb] at hk;simp only [Atb,Atc] at hk;obtain ⟨rfl,rfl,_⟩:=hk;have hb0:Af op i=0:=by omega
   have hrel:=hA 0 p k (by simpa using hb0) rfl rfl;obtain ⟨kr,cr,ur,Tr,Nr,r1,r2,r3,r4,r5,r6,r7,F2,r8⟩:=ih s nd k _ _ t s2 nd2 hr h0 p hrel;obtain ⟨kk,cc,uu,TT,NN,q1,q2,q3,q4,q5,q6,q7,F3,q8⟩:=Va ih op u d n n' kp0 ts e env he l lp (i+1) s2 nd2 ts2 s3 nd3 hrest (by omega) (by omega) (by simpa using hl) hA' hB';refine ⟨kr+kk,cr+cc,ur+uu,Tr+TT,Nr+NN,by omega,by omega,q3,fun h=>q4 (r4 h),?_,by omega,by omega,F2+F3,fun g hg m hm=>?_⟩
   ·rw [RV.vszL,if_neg hb,Nat.mul_add];omega
   ·rw [bkK,if_neg hb];simp only;rw [if_neg (fun h=>h hm.e),r8 g (by omega) _ (M1 hm)];simp only;rw [q8 g (by omega) _ (I3 hm),E5];simp only [Ate]
theorem Agn (B:Nat):∀f,Ajy B f:=by
 intro f
 induction f with
 | zero=>intro s nd v u d t s' nd' h;rw [AX] at h;cases h
 | succ f ih =>
  intro s nd v u d t s' nd' h h0 v' hv;rw [AX] at h;split at h
  ·cases h
  rename_i hr;by_cases hbig:3000<nd+1∨120<d
  ·rw [if_pos (show (0:Int)=0∧(3000<nd+1∨120<d) from ⟨rfl,hbig⟩)] at h
   simp at h
  rw [if_neg (show ¬ ((0:Int)=0∧(3000<nd+1∨120<d)) from fun h=>hbig h.2),if_neg (by simp)] at h
  have htick:∀{m:M3} {k T:Nat},MOk m k (1+T)→Hw ⟨m.s,m.w,if m.e=0∧(3000<nd+1∨120<d) then 5 else m.e⟩=some (GB m 0 1):=by
   intro m k T hm;rw [if_neg (fun h=>hbig h.2)];exact Ni hm
  by_cases h1:v.op=1
  ·rw [if_pos h1] at h;simp only [Atb,Atc] at h;obtain ⟨rfl,rfl,rfl,_⟩:=h;obtain ⟨op,n,k,t0,e0,rfl,ho,hn⟩:=M0 hv;have hvz:v.vsz=1:=by
    cases hv with
    | var n=>simp [RV.var,RV.vsz,RV.vszL]
    | node op n n' kp kr ts e env h1'=>exact absurd h1 h1'
   refine ⟨0,0,0,1,1,by omega,by omega,by omega,id,by omega,by omega,by omega,1,fun g hg m hm=>?_⟩;obtain ⟨g,rfl⟩:∃k,g=k+1:=⟨g - 1,by omega⟩;rw [Tu,if_neg (by omega),htick (k:=0) (T:=0) hm];simp only;rw [if_neg (by simp [GB]),if_pos (by rw [← ho];exact h1),if_neg (by rw [← hn];omega),hn]
  ·rw [if_neg h1] at h;obtain ⟨n',kp,ts,e,env,rfl,b1,b2,b3,b4,b5,b6⟩:=H6 hv h1;have b14:=Aer b1;cases hk:Ba (fun s nd e k u=>AX f s nd e k u (d+1)) f v.op u 0 v.k s (nd+1) 0 with
   | none=>rw [hk] at h;cases h
   | some q =>
   obtain ⟨rs,s1,nd1,e1⟩:=q;rw [hk] at h;simp only [Ate,Atb,Atc] at h;obtain ⟨rfl,rfl,rfl,rfl⟩:=h;obtain ⟨kk,cc,uu,TT,NN,q1,q2,q3,q4,q5,q6,q7,F3,q8⟩:=Va ih v.op u d v.n n' kp ts e env b6 v.k kp 0 s (nd+1) rs s1 nd1 hk (by omega) (by omega) (by omega) (fun j p r a b c=>b4 j p r (by simpa using a) b c) (by
    intro j r a b;rw [Nat.zero_add] at a ⊢;have hj:j<ts.length:=by
     have:=(List.getElem?_eq_some_iff.1 b).1
     omega
    obtain ⟨⟨g1,g2⟩,_,g3⟩:=b5 j ts[j] a (List.getElem?_eq_getElem hj);rw [b,Atb] at g3;exact ⟨ts[j],List.getElem?_eq_getElem hj,g1,g2,g3⟩)
   have hvz:v.vsz=1+RV.vszL v.op 0 v.k:=by obtain ⟨a,b,c,d,e⟩:=v;rw [RV.vsz];rfl
   refine ⟨kk,cc,uu,1+TT,1+NN,q1,by omega,q3,q4,by omega,by omega,by omega,F3+20,fun g hg m hm=>?_⟩;obtain ⟨g,rfl⟩:∃k,g=k+1:=⟨g - 1,by omega⟩;have hm':MOk (GB m 0 1) kk TT:=I3 (k1:=0) ⟨hm.e,hm.w,hm.w2,by have:=hm.s;omega,hm.s2⟩;rw [Tu,if_neg (by omega),htick hm];simp only;rw [if_neg (by simp [GB]),if_neg h1,if_neg (by omega),q8 g (by omega) _ hm',E5];simp only [Nat.zero_add]
theorem Aek {f:Nat} {t u:Tm} (hg:t.good) (hw:t.wt≤3000) (hs:t.shaped=true) (h:AY f t=some (u,0)):∃F,∀g,F≤g→Ab9 g t=some (u,0):=by
 rw [AY] at h;split at h
 ·cases h
 rename_i v s e he;split at h
 ·cases h
 rename_i w s2 nd2 e2 hr;simp only [Atb] at h;by_cases h2:e2=0
 ·subst h2;rw [if_neg (by simp)] at h;simp only [Atc,and_true] at h;subst h;have h1:=Fr hr;subst h1;obtain ⟨k0,c0,u0,T0,a1,a2,a3,v',a4,F0,a5⟩:=Ue 3000 f 0 t [] v s he hg hw [] (Wn _);obtain ⟨k1,c1,u1,T1,N,r1,r2,r3,r4,r5,r6,r7,F1,r8⟩:=Agn 3000 f s 0 v 0 1 w s2 nd2 hr (by omega) v' a4;have hs1:=(AjJ f).1 _ _ _ _ _ he (by omega);have hs2:=r4 hs1;have hc:=Sp a2;have hp:=a2.p;have hk:k0+k1≤1000:=by omega
  have hc2:(k0+1) * t.wt≤(k0+1) * 3000:=Nat.mul_le_mul_left _ hw;have hvp:=Acf v;refine ⟨F0+F1,fun g hg=>?_⟩;have hm:MOk ⟨100000,5000000,0⟩ (k0+k1) (T0+T1):=⟨rfl,by simp only;omega,by simp,by simp only;omega,by simp⟩;rw [Ab9,if_neg (by rw [hs];simp),a5 g (by omega) _ (M1 hm)];simp only;rw [if_neg (by simp [GB]),r8 g (by omega) _ (I3 hm)];simp only;rw [if_neg (by simp [GB])]
 ·rw [if_pos h2] at h;simp only [Atc] at h;exact absurd h.2 h2
theorem AfS {t:Tm} (h:(t.chk 0 1).2=0):t.wt≤3000∧(t.chk 0 1).1=t.wt:=by
 have:=(Agv t 0 1 (by omega)).2.2 h
 omega
theorem AjD {G:List Nat} {t u:Tm} {s k f:Nat} (ht:HasT G t s) (hsc:t.sc k) (hk:k≤100000) (hw:t.wt≤3000) (h:AY f t=some (u,0)):Ev 20 [.fv t.enc] (.tuple [u.enc,.int .i64 0]):=by
 obtain ⟨F,hF⟩:=Aek (AdK ht k hsc (by omega)) hw (OR t k hsc) h;exact ⟨F+10000,fun n hn=>Afd (f:=F) (hF F (Nat.le_refl _)) (by omega) (by omega) (by omega)⟩
def vT (i:Nat):Tm:=.mk 1 (i:Int) []
def Lj (k:Nat) (ρ:Nat→Nat):Nat→Nat:=fun i=>if i<k then i else ρ (i - k)+k
mutual
def Tm.ren:Tm→(Nat→Nat)→Tm
 | .mk op n ks,ρ=>if op=1 then (if n<0∨ks.isEmpty=false then .mk op n ks else vT (ρ n.toNat)) else .mk op n (Tm.renL op 0 ks ρ)
def Tm.renL:Int→Nat→List Tm→(Nat→Nat)→List Tm
 | _,_,[],_=>[]
 | op,i,t::l,ρ=>t.ren (Lj (Af op i) ρ)::Tm.renL op (i+1) l ρ
end
def Gn (k:Nat) (σ:Nat→Tm):Nat→Tm:=fun i=>if i<k then vT i else (σ (i - k)).ren (fun j=>j+k)
mutual
def Tm.sub:Tm→(Nat→Tm)→Tm
 | .mk op n ks,σ=>if op=1 then (if n<0∨ks.isEmpty=false then .mk op n ks else σ n.toNat) else .mk op n (Tm.subL op 0 ks σ)
def Tm.subL:Int→Nat→List Tm→(Nat→Tm)→List Tm
 | _,_,[],_=>[]
 | op,i,t::l,σ=>t.sub (Gn (Af op i) σ)::Tm.subL op (i+1) l σ
end
theorem An7 (i:Nat):¬ ((i:Int)<0∨([]:List Tm).isEmpty=false):=by
 rintro (h | h)
 ·omega
 ·cases h
theorem Hz (i:Nat) (ρ:Nat→Nat):(vT i).ren ρ=vT (ρ i):=by
 rw [vT,Tm.ren,if_pos rfl,if_neg (An7 i)];rfl
theorem Hi (i:Nat) (σ:Nat→Tm):(vT i).sub σ=σ i:=by
 rw [vT,Tm.sub,if_pos rfl,if_neg (An7 i)];rfl
theorem Hv (op:Int) (ρ:Nat→Nat):∀(l:List Tm) (i:Nat),(Tm.renL op i l ρ).length=l.length
 | [],_=>rfl
 | _::l,i=>by simp only [Tm.renL,Atf,Hv op ρ l]
theorem Kz (op:Int) (σ:Nat→Tm):∀(l:List Tm) (i:Nat),(Tm.subL op i l σ).length=l.length
 | [],_=>rfl
 | _::l,i=>by simp only [Tm.subL,Atf,Kz op σ l]
theorem Mh (op:Int) (ρ:Nat→Nat):∀(l:List Tm) (i j:Nat),(Tm.renL op i l ρ)[j]?=(l[j]?).map fun t=>t.ren (Lj (Af op (i+j)) ρ)
 | [],_,_=>by simp [Tm.renL]
 | t::l,i,0=>by simp [Tm.renL]
 | t::l,i,j+1=>by
  simp only [Tm.renL,List.getElem?_cons_succ];rw [Mh op ρ l (i+1) j,show i+1+j=i+(j+1) by omega]
theorem T6 (op:Int) (σ:Nat→Tm):∀(l:List Tm) (i j:Nat),(Tm.subL op i l σ)[j]?=(l[j]?).map fun t=>t.sub (Gn (Af op (i+j)) σ)
 | [],_,_=>by simp [Tm.subL]
 | t::l,i,0=>by simp [Tm.subL]
 | t::l,i,j+1=>by
  simp only [Tm.subL,List.getElem?_cons_succ];rw [T6 op σ l (i+1) j,show i+1+j=i+(j+1) by omega]
theorem Jt {k:Nat} {ρ:Nat→Nat} {i:Nat} (h:i<k):Lj k ρ i=i:=if_pos h
theorem HF {k:Nat} {ρ:Nat→Nat} {i:Nat} (h:¬ i<k):Lj k ρ i=ρ (i - k)+k:=if_neg h
theorem Gw {k:Nat} {σ:Nat→Tm} {i:Nat} (h:i<k):Gn k σ i=vT i:=if_pos h
theorem Gt {k:Nat} {σ:Nat→Tm} {i:Nat} (h:¬ i<k):Gn k σ i=(σ (i - k)).ren fun j=>j+k:=if_neg h
theorem Afy (k:Nat) (ρ ρ':Nat→Nat):(fun i=>Lj k ρ' (Lj k ρ i))=Lj k (fun i=>ρ' (ρ i)):=by
 funext i
 by_cases h:i<k
 ·rw [Jt (ρ:=ρ) h,Jt h,Jt h]
 ·rw [HF (ρ:=ρ) h,HF h,HF (by omega),Nat.add_sub_cancel]
mutual
theorem MD:∀(t:Tm) (ρ ρ':Nat→Nat),(t.ren ρ).ren ρ'=t.ren (fun i=>ρ' (ρ i))
 | .mk op n ks,ρ,ρ'=>by
  rw [Tm.ren,Tm.ren];by_cases h:op=1
  ·rw [if_pos h,if_pos h];by_cases hn:n<0∨ks.isEmpty=false
   ·rw [if_pos hn,if_pos hn,Tm.ren,if_pos h,if_pos hn]
   ·rw [if_neg hn,if_neg hn,Hz]
  ·rw [if_neg h,if_neg h,Tm.ren,if_neg h,renL_ren ks op 0 ρ ρ']
theorem renL_ren:∀(l:List Tm) (op:Int) (i:Nat) (ρ ρ':Nat→Nat),Tm.renL op i (Tm.renL op i l ρ) ρ'=Tm.renL op i l (fun i=>ρ' (ρ i))
 | [],_,_,_,_=>rfl
 | t::l,op,i,ρ,ρ'=>by simp only [Tm.renL,MD t,Afy,renL_ren l]
end
theorem AhJ (k:Nat) (ρ:Nat→Nat) (σ:Nat→Tm):(fun i=>Gn k σ (Lj k ρ i))=Gn k (fun i=>σ (ρ i)):=by
 funext i
 by_cases h:i<k
 ·rw [Jt h,Gw h,Gw h]
 ·rw [HF h,Gt h,Gt (by omega),Nat.add_sub_cancel]
mutual
theorem JJ:∀(t:Tm) (ρ:Nat→Nat) (σ:Nat→Tm),(t.ren ρ).sub σ=t.sub (fun i=>σ (ρ i))
 | .mk op n ks,ρ,σ=>by
  rw [Tm.ren,Tm.sub];by_cases h:op=1
  ·rw [if_pos h,if_pos h];by_cases hn:n<0∨ks.isEmpty=false
   ·rw [if_pos hn,if_pos hn,Tm.sub,if_pos h,if_pos hn]
   ·rw [if_neg hn,if_neg hn,Hi]
  ·rw [if_neg h,if_neg h,Tm.sub,if_neg h,subL_ren ks op 0 ρ σ]
theorem subL_ren:∀(l:List Tm) (op:Int) (i:Nat) (ρ:Nat→Nat) (σ:Nat→Tm),Tm.subL op i (Tm.renL op i l ρ) σ=Tm.subL op i l (fun i=>σ (ρ i))
 | [],_,_,_,_=>rfl
 | t::l,op,i,ρ,σ=>by simp only [Tm.renL,Tm.subL,JJ t,AhJ,subL_ren l]
end
theorem AbS (k:Nat) (σ:Nat→Tm) (ρ:Nat→Nat):(fun i=>(Gn k σ i).ren (Lj k ρ))=Gn k (fun i=>(σ i).ren ρ):=by
 funext i
 by_cases h:i<k
 ·rw [Gw h,Gw h,Hz,Jt h]
 ·rw [Gt h,Gt h,MD,MD];congr 1
  funext j
  rw [HF (by omega),Nat.add_sub_cancel]
mutual
theorem KT:∀(t:Tm) (σ:Nat→Tm) (ρ:Nat→Nat),(t.sub σ).ren ρ=t.sub (fun i=>(σ i).ren ρ)
 | .mk op n ks,σ,ρ=>by
  rw [Tm.sub,Tm.sub];by_cases h:op=1
  ·rw [if_pos h,if_pos h];by_cases hn:n<0∨ks.isEmpty=false
   ·rw [if_pos hn,if_pos hn,Tm.ren,if_pos h,if_pos hn]
   ·rw [if_neg hn,if_neg hn]
  ·rw [if_neg h,if_neg h,Tm.ren,if_neg h,renL_sub ks op 0 σ ρ]
theorem renL_sub:∀(l:List Tm) (op:Int) (i:Nat) (σ:Nat→Tm) (ρ:Nat→Nat),Tm.renL op i (Tm.subL op i l σ) ρ=Tm.subL op i l (fun i=>(σ i).ren ρ)
 | [],_,_,_,_=>rfl
 | t::l,op,i,σ,ρ=>by simp only [Tm.renL,Tm.subL,KT t,AbS,renL_sub l]
end
theorem AhA (k:Nat) (σ τ:Nat→Tm):(fun i=>(Gn k σ i).sub (Gn k τ))=Gn k (fun i=>(σ i).sub τ):=by
 funext i
 by_cases h:i<k
 ·rw [Gw h,Gw h,Hi,Gw h]
 ·rw [Gt h,Gt h,JJ,KT];congr 1
  funext j
  rw [Gt (by omega),Nat.add_sub_cancel]
mutual
theorem FW:∀(t:Tm) (σ τ:Nat→Tm),(t.sub σ).sub τ=t.sub (fun i=>(σ i).sub τ)
 | .mk op n ks,σ,τ=>by
  rw [Tm.sub,Tm.sub];by_cases h:op=1
  ·rw [if_pos h,if_pos h];by_cases hn:n<0∨ks.isEmpty=false
   ·rw [if_pos hn,if_pos hn,Tm.sub,if_pos h,if_pos hn]
   ·rw [if_neg hn,if_neg hn]
  ·rw [if_neg h,if_neg h,Tm.sub,if_neg h,subL_sub ks op 0 σ τ]
theorem subL_sub:∀(l:List Tm) (op:Int) (i:Nat) (σ τ:Nat→Tm),Tm.subL op i (Tm.subL op i l σ) τ=Tm.subL op i l (fun i=>(σ i).sub τ)
 | [],_,_,_,_=>rfl
 | t::l,op,i,σ,τ=>by simp only [Tm.subL,FW t,AhA,subL_sub l]
end
theorem Aoj (k:Nat):Gn k vT=vT:=by
 funext i
 by_cases h:i<k
 ·rw [Gw h]
 ·rw [Gt h,Hz,show i - k+k=i by omega]
theorem NU:∀(t:Tm) (ρ:Nat→Nat),t.ren ρ=t.sub (fun i=>vT (ρ i)):=by
 intro t ρ;have h:∀(k:Nat) (ρ:Nat→Nat),Gn k (fun i=>vT (ρ i))=fun i=>vT (Lj k ρ i):=by
  intro k ρ
  funext i
  by_cases h:i<k
  ·rw [Gw h,Jt h]
  ·rw [Gt h,HF h,Hz]
 exact go h t ρ
where
 go (
   h:∀(k:Nat) (ρ:Nat→Nat),Gn k (fun i=>vT (ρ i))=fun i=>vT (Lj k ρ i)):∀(t:Tm) (ρ:Nat→Nat),t.ren ρ=t.sub (fun i=>vT (ρ i))
  | .mk op n ks,ρ=>by
   rw [Tm.ren,Tm.sub];by_cases ho:op=1
   ·rw [if_pos ho,if_pos ho]
   ·rw [if_neg ho,if_neg ho,goL h ks op 0 ρ]
 goL (h:∀(k:Nat) (ρ:Nat→Nat),Gn k (fun i=>vT (ρ i))=fun i=>vT (Lj k ρ i)):∀(l:List Tm) (op:Int) (i:Nat) (ρ:Nat→Nat),Tm.renL op i l ρ=Tm.subL op i l (fun i=>vT (ρ i))
  | [],_,_,_=>rfl
  | t::l,op,i,ρ=>by simp only [Tm.renL,Tm.subL,go h t,goL h l,h]
mutual
theorem M9:∀(t:Tm),t.sub vT=t
 | .mk op n ks=>by
  rw [Tm.sub];by_cases ho:op=1
  ·rw [if_pos ho];by_cases hn:n<0∨ks.isEmpty=false
   ·rw [if_pos hn]
   ·rw [if_neg hn,vT,ho];have hk:ks=[]:=by
     cases ks with
     | nil=>rfl
     | cons a l=>exact absurd (.inr rfl) hn
    rw [hk];congr 1
    have:¬ n<0:=fun h=>hn (.inl h)
    omega
  ·rw [if_neg ho,subL_id ks op 0]
theorem subL_id:∀(l:List Tm) (op:Int) (i:Nat),Tm.subL op i l vT=l
 | [],_,_=>rfl
 | t::l,op,i=>by
  simp only [Tm.subL];rw [Aoj,M9 t,subL_id l op (i+1)]
end
mutual
theorem LA:∀(t:Tm) (d c k:Nat),t.sc k→k+2 * t.wt+d≤9000000000000000000→t.shift d c=t.ren (fun i=>if i<c then i else i+d)
 | .mk op n ks,d,c,k,h,hk=>by
  rw [Tm.sc] at h;rw [Tm.wt] at hk;rw [Tm.shift,Tm.ren];by_cases ho:op=1
  ·subst ho;have h2:=h.2.1;rw [if_pos rfl] at h2;have hks:ks=[]:=List.eq_nil_of_length_eq_zero (Option.some.inj h.1.symm);subst hks;have hv:¬ (n<0∨([]:List Tm).isEmpty=false):=by
    rintro (h | h)
    ·omega
    ·cases h
   rw [if_pos rfl,if_neg hv,vT,Tm.shiftL];by_cases hc:(c:Int)≤n
   ·rw [if_pos ⟨rfl,hc⟩,Ay (by omega) (by omega),if_neg (by omega)];congr 1;omega
   ·rw [if_neg (fun h=>hc h.2),if_pos (by omega)];congr 1;omega
  ·rw [if_neg ho,if_neg (fun h=>ho h.1),shiftL_ren ks op 0 d c k h.2.2 (by omega)]
theorem shiftL_ren:∀(l:List Tm) (op:Int) (i d c k:Nat),Tm.scL op i l k→k+2+2 * Tm.wtL l+d≤9000000000000000000→Tm.shiftL op i l d c=Tm.renL op i l (fun i=>if i<c then i else i+d)
 | [],_,_,_,_,_,_,_=>rfl
 | t::l,op,i,d,c,k,h,hk=>by
  rw [Tm.scL] at h;simp only [Tm.wtL] at hk;have hb:=Bv op i;simp only [Tm.shiftL,Tm.renL];have h1:=LA t d (c+Af op i) (k+Af op i) h.1 (by omega);rw [show ((c+Af op i:Nat):Int)=(c:Int)+(Af op i:Int) by omega] at h1
  rw [h1,shiftL_ren l op (i+1) d c k h.2 (by omega)];congr 2
  funext j
  by_cases h1:j<Af op i
  ·rw [Jt h1,if_pos (by omega)]
  ·rw [HF h1];by_cases h2:j<c+Af op i
   ·rw [if_pos h2,if_pos (by omega)];omega
   ·rw [if_neg h2,if_neg (by omega)];omega
end
def VK (j:Nat) (u:Tm):Nat→Tm:=fun i=>if i<j then vT i else if i=j then u.ren (fun x=>x+j) else vT (i - 1)
mutual
theorem H4:∀(t:Tm) (j k:Nat) (u:Tm),t.sc (k+1+j)→u.sc k→k+j+2 * t.wt+2 * u.wt≤4000000000000000000→t.subst j j u=t.sub (VK j u)
 | .mk op n ks,j,k,u,h,hu,hk=>by
  rw [Tm.sc] at h;rw [Tm.wt] at hk;rw [Tm.subst,Tm.sub];by_cases ho:op=1
  ·subst ho;have h2:=h.2.1;rw [if_pos rfl] at h2;have hks:ks=[]:=List.eq_nil_of_length_eq_zero (Option.some.inj h.1.symm);subst hks;have hv:¬ (n<0∨([]:List Tm).isEmpty=false):=by
    rintro (h | h)
    ·omega
    ·cases h
   rw [if_pos rfl,if_pos rfl,if_neg hv,VK];by_cases h3:n=j
   ·rw [if_pos h3,if_neg (by omega),if_pos (by omega)]
    have:=LA u j 0 k hu (by omega)
    rw [show ((0:Nat):Int)=0 from rfl] at this
    rw [this];congr 1
   ·rw [if_neg h3];by_cases h4:(j:Int)<n
    ·rw [if_pos h4,if_neg (by omega),if_neg (by omega),vT,Ay (by omega) (by omega)];congr 1;omega
    ·rw [if_neg h4,if_pos (by omega),vT];congr 1;omega
  ·rw [if_neg ho,if_neg ho,substL_sub ks op 0 j k u h.2.2 hu (by omega)]
theorem substL_sub:∀(l:List Tm) (op:Int) (i j k:Nat) (u:Tm),Tm.scL op i l (k+1+j)→u.sc k→k+j+2+2 * Tm.wtL l+2 * u.wt≤4000000000000000000→Tm.substL op i l j j u=Tm.subL op i l (VK j u)
 | [],_,_,_,_,_,_,_,_=>rfl
 | t::l,op,i,j,k,u,h,hu,hk=>by
  rw [Tm.scL] at h;simp only [Tm.wtL] at hk;have hb:=Bv op i;simp only [Tm.substL,Tm.subL];have h1:=H4 t (j+Af op i) k u (by rw [← Nat.add_assoc];exact h.1) hu (by omega);rw [show ((j+Af op i:Nat):Int)=(j:Int)+(Af op i:Int) by omega] at h1
  rw [h1,substL_sub l op (i+1) j k u h.2 hu (by omega)];congr 2
  funext x
  by_cases h1:x<Af op i
  ·rw [Gw h1,VK,if_pos (by omega)]
  ·rw [Gt h1];simp only [VK];by_cases h2:x<j+Af op i
   ·rw [if_pos h2,if_pos (show x - Af op i<j by omega),Hz]
    congr 1;omega
   ·rw [if_neg h2,if_neg (show ¬ x - Af op i<j by omega)]
    by_cases h3:x=j+Af op i
    ·rw [if_pos h3,if_pos (show x - Af op i=j by omega),MD]
     congr 1
     funext y
     omega
    ·rw [if_neg h3,if_neg (show ¬ x - Af op i=j by omega),Hz]
     congr 1;omega
end
def s1 (x:Tm):Nat→Tm
 | 0=>x
 | j+1=>vT j
def s2 (r k:Tm):Nat→Tm
 | 0=>r
 | 1=>k
 | j+2=>vT j
inductive Par:Tm→Tm→Prop
 | var (n:Int) (ks:List Tm):Par (.mk 1 n ks) (.mk 1 n ks)
 | node (op n:Int) (ks ks':List Tm) (h1:op≠1) (hl:ks'.length=ks.length) (hk:∀(i:Nat) a b,ks[i]?=some a→ks'[i]?=some b→Par a b):Par (.mk op n ks) (.mk op n ks')
 | beta (n m:Int) (a b b' x x':Tm) (hb:Par b b') (hx:Par x x'):Par (.mk 5 n [.mk 4 m [a,b],x]) (b'.sub (s1 x'))
 | fst (n m:Int) (a x x' y:Tm) (hx:Par x x'):Par (.mk 8 n [.mk 7 m [a,x,y]]) x'
 | snd (n m:Int) (a x y y':Tm) (hy:Par y y'):Par (.mk 9 n [.mk 7 m [a,x,y]]) y'
 | splq (c c':Tm) (hc:Par c c'):Par (.mk 30 0 [.mk 19 0 [c]]) c'
 | quos (c c':Tm) (hc:Par c c'):Par (.mk 19 0 [.mk 30 0 [c]]) c'
 | recz (n m:Int) (a z z' s:Tm) (l:List Tm) (hz:Par z z'):Par (.mk 13 n [a,z,s,.mk 11 m l]) z'
 | recs (n m:Int) (a a' z z' s s' k k':Tm) (ha:Par a a') (hz:Par z z') (hs:Par s s') (hk:Par k k'):Par (.mk 13 n [a,z,s,.mk 12 m [k]]) (s'.sub (s2 (.mk 13 0 [a',z',s',k']) k'))
theorem Aeg:∀(m:Nat) (t:Tm),t.wt<m→Par t t:=by
 intro m
 induction m with
 | zero=>intro t h;omega
 | succ m ih =>
  intro t h;obtain ⟨op,n,ks⟩:=t;simp only [Tm.wt] at h;by_cases h1:op=1
  ·subst h1;exact .var n ks
  ·exact .node op n ks ks h1 rfl (fun i a b ha hb=>by
    rw [ha] at hb;cases hb;exact ih a (by have:=Ng ha;omega))
theorem A3 (t:Tm):Par t t:=Aeg (t.wt+1) t (by omega)
theorem LM (ρ:Nat→Nat):Lj 0 ρ=ρ:=by
 funext i;simp [Lj]
theorem LK (σ:Nat→Tm):Gn 0 σ=σ:=by
 funext i
 simp only [Gn,Nat.not_lt_zero,if_false,Nat.sub_zero];rw [NU];exact M9 _
theorem All (x:Tm) (ρ:Nat→Nat):(fun i=>(s1 x i).ren ρ)=fun i=>s1 (x.ren ρ) (Lj 1 ρ i):=by
 funext i
 cases i with
 | zero=>simp [s1,Lj]
 | succ i=>simp [s1,Lj,Hz]
theorem Akz (r k:Tm) (ρ:Nat→Nat):(fun i=>(s2 r k i).ren ρ)=fun i=>s2 (r.ren ρ) (k.ren ρ) (Lj 2 ρ i):=by
 funext i
 match i with
 | 0=>simp [s2,Lj]
 | 1=>simp [s2,Lj]
 | i+2 =>
  show (vT i).ren ρ=s2 _ _ (Lj 2 ρ (i+2))
  rw [HF (by omega),Hz,Nat.add_sub_cancel];rfl
theorem HX (t:Tm) (k:Nat) (τ:Nat→Tm) (h:∀j,τ (j+k)=vT j):(t.ren fun j=>j+k).sub τ=t:=by
 rw [JJ]
 have:(fun i=>τ (i+k))=vT:=funext h
 rw [this,M9]
theorem Am6 (x:Tm) (σ:Nat→Tm):(fun i=>(s1 x i).sub σ)=fun i=>(Gn 1 σ i).sub (s1 (x.sub σ)):=by
 funext i
 cases i with
 | zero=>simp [s1,Gn,Hi]
 | succ i =>
  simp only [s1,Gn,Hi];rw [if_neg (by omega),Nat.add_sub_cancel,HX _ _ _ (fun j=>rfl)]
theorem Amu (r k:Tm) (σ:Nat→Tm):(fun i=>(s2 r k i).sub σ)=fun i=>(Gn 2 σ i).sub (s2 (r.sub σ) (k.sub σ)):=by
 funext i
 match i with
 | 0=>simp [s2,Gn,Hi]
 | 1=>simp [s2,Gn,Hi]
 | i+2 =>
  simp only [s2,Gn,Hi];rw [if_neg (by omega),Nat.add_sub_cancel,HX _ _ _ (fun j=>rfl)]
theorem AiD {t t':Tm} (h:Par t t'):∀ρ,Par (t.ren ρ) (t'.ren ρ):=by
 induction h with
 | var n ks=>intro ρ;exact A3 _
 | node op n ks ks' h1 hl hk ih =>
  intro ρ;rw [Tm.ren,if_neg h1,Tm.ren,if_neg h1];refine .node _ _ _ _ h1 (by rw [Hv,Hv,hl]) (fun i a b ha hb=>?_);rw [Mh,Nat.zero_add] at ha hb;cases hx:ks[i]? with
  | none=>rw [hx] at ha;cases ha
  | some x =>
   cases hy:ks'[i]? with
   | none=>rw [hy] at hb;cases hb
   | some y =>
    rw [hx] at ha;rw [hy] at hb;simp only [Ate,Atb] at ha hb;subst ha hb;exact ih i x y hx hy _
 | beta n m a b b' x x' hb hx ihb ihx =>
  intro ρ
  have:=Par.beta n m (a.ren (Lj 0 ρ)) _ _ _ _ (ihb (Lj 1 ρ)) (ihx ρ)
  rw [KT,All,← JJ];simp only [Tm.ren,Tm.renL];rw [if_neg (by omega),if_neg (by omega)];simpa [Af,LM] using this
 | fst n m a x x' y hx ih =>
  intro ρ
  have:=Par.fst n m (a.ren ρ) _ _ (y.ren ρ) (ih ρ)
  simp only [Tm.ren,Tm.renL];rw [if_neg (by omega),if_neg (by omega)];simpa [Af,LM] using this
 | snd n m a x y y' hy ih =>
  intro ρ
  have:=Par.snd n m (a.ren ρ) (x.ren ρ) _ _ (ih ρ)
  simp only [Tm.ren,Tm.renL];rw [if_neg (by omega),if_neg (by omega)];simpa [Af,LM] using this
 | splq c c' hc ih =>
  intro ρ
  have:=Par.splq _ _ (ih ρ)
  simp only [Tm.ren,Tm.renL];rw [if_neg (by omega),if_neg (by omega)];simpa [Af,LM] using this
 | quos c c' hc ih =>
  intro ρ
  have:=Par.quos _ _ (ih ρ)
  simp only [Tm.ren,Tm.renL];rw [if_neg (by omega),if_neg (by omega)];simpa [Af,LM] using this
 | recz n m a z z' s l hz ih =>
  intro ρ
  have:=Par.recz n m (a.ren (Lj 1 ρ)) _ _ (s.ren (Lj 2 ρ)) (Tm.renL 11 0 l ρ) (ih ρ)
  simp only [Tm.ren,Tm.renL];rw [if_neg (by omega),if_neg (by omega)];simpa [Af,LM] using this
 | recs n m a a' z z' s s' k k' ha hz hs hk iha ihz ihs ihk =>
  intro ρ
  have:=Par.recs n m _ _ _ _ _ _ _ _ (iha (Lj 1 ρ)) (ihz ρ) (ihs (Lj 2 ρ)) (ihk ρ)
  rw [KT,Akz,← JJ];simp only [Tm.ren,Tm.renL];rw [if_neg (by omega),if_neg (by omega),if_neg (by omega)];simpa [Af,LM] using this
theorem Mn {σ σ':Nat→Tm} (h:∀i,Par (σ i) (σ' i)) (k:Nat):∀i,Par (Gn k σ i) (Gn k σ' i):=by
 intro i;simp only [Gn];by_cases hi:i<k
 ·rw [if_pos hi,if_pos hi];exact A3 _
 ·rw [if_neg hi,if_neg hi];exact AiD (h _) _
theorem Rx {t t':Tm} (h:Par t t'):∀σ σ',(∀i,Par (σ i) (σ' i))→Par (t.sub σ) (t'.sub σ'):=by
 induction h with
 | var n ks =>
  intro σ σ' hσ;rw [Tm.sub,if_pos rfl,Tm.sub,if_pos rfl];by_cases hn:n<0∨ks.isEmpty=false
  ·rw [if_pos hn,if_pos hn];exact A3 _
  ·rw [if_neg hn,if_neg hn];exact hσ _
 | node op n ks ks' h1 hl hk ih =>
  intro σ σ' hσ;rw [Tm.sub,if_neg h1,Tm.sub,if_neg h1];refine .node _ _ _ _ h1 (by rw [Kz,Kz,hl]) (fun i a b ha hb=>?_);rw [T6,Nat.zero_add] at ha hb;cases hx:ks[i]? with
  | none=>rw [hx] at ha;cases ha
  | some x =>
   cases hy:ks'[i]? with
   | none=>rw [hy] at hb;cases hb
   | some y =>
    rw [hx] at ha;rw [hy] at hb;simp only [Ate,Atb] at ha hb;subst ha hb;exact ih i x y hx hy _ _ (Mn hσ _)
 | beta n m a b b' x x' hb hx ihb ihx =>
  intro σ σ' hσ
  have:=Par.beta n m (a.sub σ) _ _ _ _ (ihb _ _ (Mn hσ 1)) (ihx _ _ hσ)
  rw [FW,Am6,← FW];simp only [Tm.sub,Tm.subL];rw [if_neg (by omega),if_neg (by omega)];simpa [Af,LK] using this
 | fst n m a x x' y hx ih =>
  intro σ σ' hσ
  have:=Par.fst n m (a.sub σ) _ _ (y.sub σ) (ih _ _ hσ)
  simp only [Tm.sub,Tm.subL];rw [if_neg (by omega),if_neg (by omega)];simpa [Af,LK] using this
 | snd n m a x y y' hy ih =>
  intro σ σ' hσ
  have:=Par.snd n m (a.sub σ) (x.sub σ) _ _ (ih _ _ hσ)
  simp only [Tm.sub,Tm.subL];rw [if_neg (by omega),if_neg (by omega)];simpa [Af,LK] using this
 | splq c c' hc ih =>
  intro σ σ' hσ
  have:=Par.splq _ _ (ih _ _ hσ)
  simp only [Tm.sub,Tm.subL];rw [if_neg (by omega),if_neg (by omega)];simpa [Af,LK] using this
 | quos c c' hc ih =>
  intro σ σ' hσ
  have:=Par.quos _ _ (ih _ _ hσ)
  simp only [Tm.sub,Tm.subL];rw [if_neg (by omega),if_neg (by omega)];simpa [Af,LK] using this
 | recz n m a z z' s l hz ih =>
  intro σ σ' hσ
  have:=Par.recz n m (a.sub (Gn 1 σ)) _ _ (s.sub (Gn 2 σ)) (Tm.subL 11 0 l σ) (ih _ _ hσ)
  simp only [Tm.sub,Tm.subL];rw [if_neg (by omega),if_neg (by omega)];simpa [Af,LK] using this
 | recs n m a a' z z' s s' k k' ha hz hs hk iha ihz ihs ihk =>
  intro σ σ' hσ
  have:=Par.recs n m _ _ _ _ _ _ _ _ (iha _ _ (Mn hσ 1)) (ihz _ _ hσ) (ihs _ _ (Mn hσ 2)) (ihk _ _ hσ)
  rw [FW,Amu,← FW];simp only [Tm.sub,Tm.subL];rw [if_neg (by omega),if_neg (by omega),if_neg (by omega)];simpa [Af,LK] using this
theorem WM {Q:Tm→Tm→Prop}:∀(ks:List Tm),(∀a∈ks,∃d,Q a d)→∃ds:List Tm,ds.length=ks.length∧∀(i:Nat) a d,ks[i]?=some a→ds[i]?=some d→Q a d
 | [],_=>⟨[],rfl,fun i a d h=>by simp at h⟩
 | a::l,h=>by
  obtain ⟨d,hd⟩:=h a List.mem_cons_self;obtain ⟨ds,h1,h2⟩:=WM l (fun a ha=>h a (List.mem_cons_of_mem _ ha));refine ⟨d::ds,by simp [h1],fun i x y hx hy=>?_⟩;cases i with
  | zero=>simp at hx hy;subst hx hy;exact hd
  | succ i=>simp at hx hy;exact h2 i x y hx hy
def AkI (op n:Int) (ks:List Tm):Prop:=(op=5∧∃m a b x,ks=[.mk 4 m [a,b],x])∨(op=8∧∃m a x y,ks=[.mk 7 m [a,x,y]])∨(op=9∧∃m a x y,ks=[.mk 7 m [a,x,y]])∨(op=30∧n=0∧∃c,ks=[.mk 19 0 [c]])∨(op=19∧n=0∧∃c,ks=[.mk 30 0 [c]]) ∨
 (op=13∧∃a z s m l,ks=[a,z,s,.mk 11 m l])∨(op=13∧∃a z s m k,ks=[a,z,s,.mk 12 m [k]])
theorem AoQ {n op:Int} {x y:Tm} {t:Tm} (h:Par (.mk op n [x,y]) t) (ho:op≠1∧op≠5):∃x' y',t=.mk op n [x',y']∧Par x x'∧Par y y':=by
 cases h with
 | var=>exact absurd rfl ho.1
 | node _ _ _ ks' h1 hl hk =>
  obtain ⟨x',y',rfl⟩:=UM hl;exact ⟨x',y',rfl,hk 0 x x' rfl rfl,hk 1 y y' rfl rfl⟩
 | beta=>exact absurd rfl ho.2
theorem AjW {n op:Int} {x y z:Tm} {t:Tm} (h:Par (.mk op n [x,y,z]) t) (ho:op≠1):∃x' y' z',t=.mk op n [x',y',z']∧Par x x'∧Par y y'∧Par z z':=by
 cases h with
 | var=>exact absurd rfl ho
 | node _ _ _ ks' h1 hl hk =>
  obtain ⟨x',y',z',rfl⟩:=Amy hl;exact ⟨x',y',z',rfl,hk 0 x x' rfl rfl,hk 1 y y' rfl rfl,hk 2 z z' rfl rfl⟩
theorem dev:∀(m:Nat) (t:Tm),t.wt<m→∃d,∀t',Par t t'→Par t' d:=by
 intro m
 induction m with
 | zero=>intro t h;omega
 | succ m ih =>
  intro t hw;obtain ⟨op,n,ks⟩:=t;by_cases h1:op=1
  ·subst h1;refine ⟨.mk 1 n ks,fun t' h=>?_⟩;cases h with
   | var=>exact .var n ks
   | node _ _ _ _ h1=>exact absurd rfl h1
  by_cases hr:AkI op n ks
  ·rcases hr with ⟨rfl,m1,a,b,x,rfl⟩ | ⟨rfl,m1,a,x,y,rfl⟩ | ⟨rfl,m1,a,x,y,rfl⟩ | ⟨rfl,rfl,c,rfl⟩ | ⟨rfl,rfl,c,rfl⟩ | ⟨rfl,a,z,s,m1,l,rfl⟩ | ⟨rfl,a,z,s,m1,k,rfl⟩
   ·simp only [Tm.wt,Tm.wtL] at hw;obtain ⟨db,hb⟩:=ih b (by omega);obtain ⟨dx,hx⟩:=ih x (by omega);refine ⟨db.sub (s1 dx),fun t' h=>?_⟩;cases h with
    | node _ _ _ ks' _ hl hk =>
     obtain ⟨l',x',rfl⟩:=UM hl;obtain ⟨a',b',rfl,_,q2⟩:=AoQ (hk 0 _ l' rfl rfl) (by decide);exact .beta n m1 a' b' db x' dx (hb b' q2) (hx x' (hk 1 x x' rfl rfl))
    | beta _ _ _ _ b' _ x' p1 p2 =>
     refine Rx (hb b' p1) _ _ (fun i=>?_);cases i with
     | zero=>exact hx x' p2
     | succ i=>exact A3 _
   ·simp only [Tm.wt,Tm.wtL] at hw;obtain ⟨dx,hx⟩:=ih x (by omega);refine ⟨dx,fun t' h=>?_⟩;cases h with
    | node _ _ _ ks' _ hl hk =>
     obtain ⟨l',rfl⟩:=CE hl;obtain ⟨a',x',y',rfl,_,q2,_⟩:=AjW (hk 0 _ l' rfl rfl) (by decide);exact .fst n m1 a' x' dx y' (hx x' q2)
    | fst _ _ _ _ _ _ p=>exact hx _ p
   ·simp only [Tm.wt,Tm.wtL] at hw;obtain ⟨dy,hy⟩:=ih y (by omega);refine ⟨dy,fun t' h=>?_⟩;cases h with
    | node _ _ _ ks' _ hl hk =>
     obtain ⟨l',rfl⟩:=CE hl;obtain ⟨a',x',y',rfl,_,_,q3⟩:=AjW (hk 0 _ l' rfl rfl) (by decide);exact .snd n m1 a' x' y' dy (hy y' q3)
    | snd _ _ _ _ _ _ p=>exact hy _ p
   ·simp only [Tm.wt,Tm.wtL] at hw;obtain ⟨dc,hc⟩:=ih c (by omega);refine ⟨dc,fun t' h=>?_⟩;cases h with
    | node _ _ _ ks' _ hl hk =>
     obtain ⟨l',rfl⟩:=CE hl;have hq:=hk 0 _ l' rfl rfl;cases hq with
     | node _ _ _ ks2 _ hl2 hk2 =>
      obtain ⟨c',rfl⟩:=CE hl2;exact .splq c' dc (hc c' (hk2 0 c c' rfl rfl))
     | quos e _ he=>exact hc _ (.node 30 0 [e] [l'] (by decide) rfl (fun i a b ha hb=>by
       cases i with
       | zero=>simp at ha hb;subst ha hb;exact he
       | succ i=>simp at ha))
    | splq _ _ p=>exact hc _ p
   ·simp only [Tm.wt,Tm.wtL] at hw;obtain ⟨dc,hc⟩:=ih c (by omega);refine ⟨dc,fun t' h=>?_⟩;cases h with
    | node _ _ _ ks' _ hl hk =>
     obtain ⟨l',rfl⟩:=CE hl;have hq:=hk 0 _ l' rfl rfl;cases hq with
     | node _ _ _ ks2 _ hl2 hk2 =>
      obtain ⟨c',rfl⟩:=CE hl2;exact .quos c' dc (hc c' (hk2 0 c c' rfl rfl))
     | splq e _ he=>exact hc _ (.node 19 0 [e] [l'] (by decide) rfl (fun i a b ha hb=>by
       cases i with
       | zero=>simp at ha hb;subst ha hb;exact he
       | succ i=>simp at ha))
    | quos _ _ p=>exact hc _ p
   ·simp only [Tm.wt,Tm.wtL] at hw;obtain ⟨dz,hz⟩:=ih z (by omega);refine ⟨dz,fun t' h=>?_⟩;cases h with
    | node _ _ _ ks' _ hl hk =>
     obtain ⟨a',z',s',k',rfl⟩:=QG hl;have hq:=hk 3 _ k' rfl rfl;cases hq with
     | node _ _ _ l2 _ hl2 hk2=>exact .recz n m1 a' z' dz s' l2 (hz z' (hk 1 z z' rfl rfl))
    | recz _ _ _ _ _ _ _ p=>exact hz _ p
   ·simp only [Tm.wt,Tm.wtL] at hw;obtain ⟨da,ha⟩:=ih a (by omega);obtain ⟨dz,hz⟩:=ih z (by omega);obtain ⟨ds,hs⟩:=ih s (by omega);obtain ⟨dk,hk⟩:=ih k (by omega);refine ⟨ds.sub (s2 (.mk 13 0 [da,dz,ds,dk]) dk),fun t' h=>?_⟩;cases h with
    | node _ _ _ ks' _ hl hkk =>
     obtain ⟨a',z',s',k',rfl⟩:=QG hl;have hq:=hkk 3 _ k' rfl rfl;cases hq with
     | node _ _ _ l2 _ hl2 hk2 =>
      obtain ⟨k2,rfl⟩:=CE hl2;exact .recs n m1 a' da z' dz s' ds k2 dk (ha a' (hkk 0 a a' rfl rfl)) (hz z' (hkk 1 z z' rfl rfl)) (hs s' (hkk 2 s s' rfl rfl)) (hk k2 (hk2 0 k k2 rfl rfl))
    | recs _ _ _ a' _ z' _ s' _ k' pa pz ps pk =>
     refine Rx (hs s' ps) _ _ (fun i=>?_)
     match i with
     | 0 =>
      refine .node 13 0 _ _ (by decide) rfl (fun i a1 b1 e1 e2=>?_)
      match i with
      | 0=>simp at e1 e2;subst e1 e2;exact ha a' pa
      | 1=>simp at e1 e2;subst e1 e2;exact hz z' pz
      | 2=>simp at e1 e2;subst e1 e2;exact hs s' ps
      | 3=>simp at e1 e2;subst e1 e2;exact hk k' pk
      | i+4=>simp at e1
     | 1=>exact hk k' pk
     | i+2=>exact A3 _
  ·simp only [Tm.wt] at hw;obtain ⟨ds,hd1,hd2⟩:=WM (Q:=fun a d=>∀t',Par a t'→Par t' d) ks (fun a ha=>ih a (by have:=D8 ha;omega));refine ⟨.mk op n ds,fun t' h=>?_⟩;cases h with
   | var=>exact absurd rfl h1
   | node _ _ _ ks' _ hl hk =>
    refine .node op n ks' ds h1 (by rw [hd1,hl]) (fun i a b ha hb=>?_);have hi:i<ks.length:=by rw [← hl];exact (List.getElem?_eq_some_iff.1 ha).1
    have hx:=List.getElem?_eq_getElem hi;exact hd2 i _ b hx hb a (hk i _ a hx ha)
   | beta _ m1 a b b' x x'=>exact absurd (.inl ⟨rfl,m1,a,b,x,rfl⟩) hr
   | fst _ m1 a x x' y=>exact absurd (.inr (.inl ⟨rfl,m1,a,x,y,rfl⟩)) hr
   | snd _ m1 a x y y'=>exact absurd (.inr (.inr (.inl ⟨rfl,m1,a,x,y,rfl⟩))) hr
   | splq c c'=>exact absurd (.inr (.inr (.inr (.inl ⟨rfl,rfl,c,rfl⟩)))) hr
   | quos c c'=>exact absurd (.inr (.inr (.inr (.inr (.inl ⟨rfl,rfl,c,rfl⟩))))) hr
   | recz _ m1 a z z' s l=>exact absurd (.inr (.inr (.inr (.inr (.inr (.inl ⟨rfl,a,z,s,m1,l,rfl⟩)))))) hr
   | recs _ m1 a a' z z' s s' k k'=>exact absurd (.inr (.inr (.inr (.inr (.inr (.inr ⟨rfl,a,z,s,m1,k,rfl⟩)))))) hr
inductive Pars:Tm→Tm→Prop
 | refl (t:Tm):Pars t t
 | step {a b c:Tm} (h:Par a b) (hs:Pars b c):Pars a c
theorem Cw {a b:Tm} (h:Par a b):Pars a b:=.step h (.refl _)
theorem Ee {a b c:Tm} (h:Pars a b) (h2:Pars b c):Pars a c:=by
 induction h with
 | refl=>exact h2
 | step h _ ih=>exact .step h (ih h2)
theorem An0 {a c:Tm} (h:Pars a c):∀{b:Tm},Par a b→∃d,Pars b d∧Par c d:=by
 induction h with
 | refl t=>intro b hb;exact ⟨b,.refl _,hb⟩
 | @step a b' c h _ ih =>
  intro b hb;obtain ⟨d,hd⟩:=dev (a.wt+1) a (by omega);obtain ⟨e,h1,h2⟩:=ih (hd _ h);exact ⟨e,.step (hd _ hb) h1,h2⟩
theorem AfB {a b:Tm} (h:Pars a b):∀{c:Tm},Pars a c→∃d,Pars b d∧Pars c d:=by
 induction h with
 | refl t=>intro c hc;exact ⟨c,hc,.refl _⟩
 | step h _ ih =>
  intro c hc;obtain ⟨d,h1,h2⟩:=An0 hc h;obtain ⟨e,h3,h4⟩:=ih h1;exact ⟨e,h3,.step h2 h4⟩
theorem AhO {t t':Tm} (h:Par t t'):t.stl→t'=t:=by
 induction h with
 | var=>intro _;rfl
 | node op n ks ks' h1 hl hk ih =>
  intro hs;rw [Tm.stl] at hs;congr 1;apply List.ext_getElem?;intro i;by_cases hi:i<ks.length
  ·have hx:=List.getElem?_eq_getElem hi;have hy:=List.getElem?_eq_getElem (show i<ks'.length by omega)
   rw [hx,hy,ih i _ _ hx hy (TO hs.2 (List.mem_of_getElem? hx))]
  ·rw [List.getElem?_eq_none (by omega),List.getElem?_eq_none (by omega)]
 | beta n m a b b' x x'=>intro hs;rw [Tm.stl] at hs;exact absurd rfl (hs.1.2.1 rfl _ rfl)
 | fst n m a x x' y=>intro hs;rw [Tm.stl] at hs;exact absurd rfl (hs.1.2.2 (.inl rfl) _ rfl)
 | snd n m a x y y'=>intro hs;rw [Tm.stl] at hs;exact absurd rfl (hs.1.2.2 (.inr rfl) _ rfl)
 | splq c c'=>intro hs;rw [Tm.stl] at hs;exact absurd rfl (hs.1.1.1 rfl _ rfl)
 | quos c c'=>intro hs;rw [Tm.stl] at hs;exact absurd rfl (hs.1.1.2.1 rfl _ rfl)
 | recz n m a z z' s l=>intro hs;rw [Tm.stl] at hs;exact absurd rfl (hs.1.1.2.2 rfl _ rfl).1
 | recs n m a a' z z' s s' k k'=>intro hs;rw [Tm.stl] at hs;exact absurd rfl (hs.1.1.2.2 rfl _ rfl).2
theorem KO {t t':Tm} (h:Pars t t'):t.stl→t'=t:=by
 induction h with
 | refl=>intro _;rfl
 | step h _ ih =>
  intro hs
  have:=AhO h hs
  subst this;exact ih hs
theorem AmA {t u n m d:Tm} (h1:Pars t n) (h2:Pars u m) (h3:Pars t d) (h4:Pars u d) (hn:n.stl) (hm:m.stl):n=m:=by
 obtain ⟨e,a1,a2⟩:=AfB h1 h3;obtain ⟨e',b1,b2⟩:=AfB h2 h4
 have:=KO a1 hn
 subst this
 have:=KO b1 hm
 subst this;obtain ⟨x,c1,c2⟩:=AfB a2 b2;rw [← KO c1 hn,KO c2 hm]
theorem OJ {op n:Int} (h1:op≠1):∀{ks ks':List Tm},ks'.length=ks.length→(∀(i:Nat) a b,ks[i]?=some a→ks'[i]?=some b→Pars a b)→Pars (.mk op n ks) (.mk op n ks'):=by
 have key:∀(
        pre ks ks':List Tm),ks'.length=ks.length→(∀(i:Nat) a b,ks[i]?=some a→ks'[i]?=some b→Pars a b)→Pars (.mk op n (pre++ks)) (.mk op n (pre++ks')):=by
  intro pre ks
  induction ks generalizing pre with
  | nil =>
   intro ks' hl _;rw [List.eq_nil_of_length_eq_zero hl];exact .refl _
  | cons a l ih =>
   intro ks' hl hk;cases ks' with
   | nil=>simp at hl
   | cons b l' =>
    have hab:=hk 0 a b rfl rfl;have hrest:=ih (pre++[b]) l' (by simpa using hl) (fun i x y hx hy=>hk (i+1) x y (by simpa using hx) (by simpa using hy));rw [List.append_assoc,List.append_assoc] at hrest;refine Ee ?_ hrest;have one:∀{x y:Tm},Pars x y→Pars (.mk op n (pre++x::l)) (.mk op n (pre++y::l)):=by
     intro x y h
     induction h with
     | refl=>exact .refl _
     | step h _ ih2 =>
      refine .step (.node op n _ _ h1 (by simp) (fun i p q hp hq=>?_)) ih2;by_cases hi:i<pre.length
      ·rw [List.getElem?_append_left hi] at hp hq;rw [hp] at hq;cases hq;exact A3 _
      ·rw [List.getElem?_append_right (by omega)] at hp hq;cases hd:i - pre.length with
       | zero =>
        rw [hd] at hp hq;simp at hp hq;subst hp hq;exact h
       | succ j =>
        rw [hd] at hp hq;simp at hp hq;rw [hp] at hq;cases hq;exact A3 _
    exact one hab
 intro ks ks' hl hk;exact key [] ks ks' hl hk
theorem AiY (t:Tm) (σ:Nat→Tm) (j:Nat) {x y:Tm} (h:Pars x y):Pars (t.sub fun i=>if i=j then x else σ i) (t.sub fun i=>if i=j then y else σ i):=by
 induction h with
 | refl=>exact .refl _
 | step h _ ih =>
  refine .step (Rx (A3 t) _ _ (fun i=>?_)) ih;by_cases hi:i=j
  ·simp only [hi,if_true];exact h
  ·simp only [hi,if_false];exact A3 _
mutual
def Tm.wa:Tm→Prop
 | .mk op n ks=>ar op=some ks.length∧((op=1→0≤n)∧(op=19∨op=30→n=0))∧Tm.waL ks
def Tm.waL:List Tm→Prop
 | []=>True
 | t::l=>t.wa∧Tm.waL l
end
mutual
theorem AjU:∀(t:Tm) (k:Nat),t.sc k→t.wa
 | .mk op n ks,k,h=>by
  rw [Tm.sc] at h;rw [Tm.wa];refine ⟨h.1,⟨fun h1=>?_,fun h9=>?_⟩,scL_wa ks op 0 k h.2.2⟩
  ·have:=h.2.1
   rw [if_pos h1] at this;exact this.1
  ·have:=h.2.1
   rw [if_neg (by omega)] at this;rcases h9 with rfl | rfl<;>simpa [BC] using this
theorem scL_wa:∀(l:List Tm) (op:Int) (i k:Nat),Tm.scL op i l k→Tm.waL l
 | [],_,_,_,_=>by rw [Tm.waL];trivial
 | t::l,op,i,k,h=>by
  rw [Tm.scL] at h;rw [Tm.waL];exact ⟨AjU t _ h.1,scL_wa l op (i+1) k h.2⟩
end
inductive Un:Nat→RV→Tm→Prop
 | var (u:Nat) (n:Int) (h:n<u):Un u (.var n) (.mk 1 ((u:Int) - 1 - n) [])
 | node (u:Nat) (op n:Int) (k:List RV) (ts:List Tm) (T:Nat→Nat→Tm) (h1:op≠1) (h9:op=19∨op=30→n=0) (har:ar op=some ts.length) (hl:k.length=ts.length)
   (hk:∀(i:Nat) v t,Af op i=0→k[i]?=some v→ts[i]?=some t→Un u v t)
   (hc:∀(i:Nat) (v:RV) t,0<Af op i→k[i]?=some v→ts[i]?=some t→t=v.b.sub (Gn (Af op i) (T i))∧v.b.wa)
   (hf:∀(i:Nat) (v:RV) (j:Nat),0<Af op i→k[i]?=some v→v.env.length≤j→T i j=vT (u+(j - v.env.length)))
   (he:∀(i:Nat) (v:RV) (j:Nat) x,0<Af op i→k[i]?=some v→v.env.reverse[j]?=some x→Un u x (T i j)):Un u (.node op n k) (.mk op n ts)
def UC (u:Nat) (env:List RV) (τ:Nat→Tm):Prop:=(∀(j:Nat) x,env.reverse[j]?=some x→Un u x (τ j))∧∀j,env.length≤j→τ j=vT (u+(j - env.length))
theorem Hs {u:Nat} {v:RV} {t:Tm} (h:Un u v t) (h1:v.op≠1):∃(ts:List Tm) (T:Nat→Nat→Tm),(v.op=19∨v.op=30→v.n=0)∧v=.node v.op v.n v.k∧t=.mk v.op v.n ts∧ar v.op=some ts.length∧v.k.length=ts.length∧(∀(i:Nat) x y,Af v.op i=0→v.k[i]?=some x→ts[i]?=some y→Un u x y) ∧
  (∀(i:Nat) (x:RV) y,0<Af v.op i→v.k[i]?=some x→ts[i]?=some y→y=x.b.sub (Gn (Af v.op i) (T i))∧x.b.wa∧UC u x.env (T i)):=by
 cases h with
 | var=>exact absurd rfl h1
 | node op n k ts T h1 h9 har hl hk hc hf he =>
  refine ⟨ts,T,h9,rfl,rfl,har,hl,hk,fun i x y a b c=>?_⟩;obtain ⟨q1,q2⟩:=hc i x y a b c;exact ⟨q1,q2,fun j z hz=>he i x j z a b hz,fun j hj=>hf i x j a b hj⟩
theorem ApL {u:Nat} {v:RV} {t:Tm} (h:Un u v t):∀d:Nat,Un (u+d) v (t.ren fun j=>j+d):=by
 induction h with
 | var n h =>
  intro d;have e:(Tm.mk 1 ((u:Int) - 1 - n) [])=vT ((u:Int) - 1 - n).toNat:=by rw [vT];congr 1;omega
  rw [e,Hz]
  have:=Un.var (u+d) n (by omega)
  have e2:vT (((u:Int) - 1 - n).toNat+d)=.mk 1 (((u+d:Nat):Int) - 1 - n) []:=by rw [vT];congr 1;omega
  rw [e2];exact this
 | node op n k ts T h1 h9 har hl hk hc hf he ihk ihe =>
  intro d;rw [Tm.ren,if_neg h1];refine .node (u+d) op n k _ (fun i j=>(T i j).ren fun x=>x+d) h1 h9 (by rw [Hv];exact har) (by rw [Hv];exact hl) ?_ ?_ ?_ ?_
  ·intro i v t hb hv ht;rw [Mh,Nat.zero_add] at ht;cases hx:ts[i]? with
   | none=>rw [hx] at ht;cases ht
   | some y =>
    rw [hx,hb,LM] at ht;simp only [Ate,Atb] at ht;subst ht;exact ihk i v y hb hv hx d
  ·intro i v t hb hv ht;rw [Mh,Nat.zero_add] at ht;cases hx:ts[i]? with
   | none=>rw [hx] at ht;cases ht
   | some y =>
    rw [hx] at ht;simp only [Ate,Atb] at ht;subst ht;obtain ⟨q1,q2⟩:=hc i v y hb hv hx;refine ⟨?_,q2⟩;rw [q1,KT,AbS]
  ·intro i v j hb hv hj;rw [hf i v j hb hv hj,Hz];congr 1;omega
  ·intro i v j x hb hv hx;exact ihe i v j x hb hv hx d
theorem AfR:UC 0 [] vT:=⟨fun j x h=>by simp at h,fun j _=>by simp⟩
theorem Nw {u:Nat} {env:List RV} {τ:Nat→Tm} (h:UC u env τ) {x:RV} {t:Tm} (hx:Un u x t):UC u (env++[x]) (fun i=>match i with | 0=>t | j+1=>τ j):=by
 refine ⟨fun j y hy=>?_,fun j hj=>?_⟩
 ·rw [List.reverse_append] at hy;cases j with
  | zero =>
   simp at hy;subst hy;exact hx
  | succ j =>
   simp only [List.reverse_cons,List.reverse_nil,List.nil_append,List.cons_append,List.getElem?_cons_succ] at hy;exact h.1 j y hy
 ·rw [List.length_append,Atf,List.length_nil] at hj ⊢;cases j with
  | zero=>omega
  | succ j =>
   simp only;rw [h.2 j (by omega)];congr 1;omega
theorem Ajj {u:Nat} {env:List RV} {τ:Nat→Tm} (h:UC u env τ) (b:Nat):UC (u+b) (env++I7 u b) (Gn b τ):=by
 refine ⟨fun j y hy=>?_,fun j hj=>?_⟩
 ·rw [List.reverse_append] at hy;by_cases hjb:j<b
  ·rw [List.getElem?_append_left (by rw [List.length_reverse,Cs];exact hjb)] at hy;obtain ⟨_,rfl⟩:=AbJ _ _ _ hy;simp only [Gn,if_pos hjb]
   have:=Un.var (u+b) ((u:Int)+((b - 1 - j:Nat):Int)) (by omega)
   have e:vT j=.mk 1 (((u+b:Nat):Int) - 1 - ((u:Int)+((b - 1 - j:Nat):Int))) []:=by rw [vT];congr 1;omega
   rw [e];exact this
  ·rw [List.getElem?_append_right (by rw [List.length_reverse,Cs];omega),List.length_reverse,Cs] at hy;simp only [Gn,if_neg hjb];exact ApL (h.1 _ _ hy) b
 ·rw [List.length_append,Cs] at hj ⊢;simp only [Gn];rw [if_neg (by omega),h.2 _ (by omega),Hz];congr 1;omega
theorem Adk {f:Nat} {s n:Int} {k0 x v:RV} {s':Int} (h:headR (f+1) s 0 (.node 5 n [k0,x])=some (v,s',0)):k0.op=4∧(∃c,k0.k[1]?=some c∧AE f (s+1) 0 c.b (c.env++[x])=some (v,s',0))∨k0.op≠4∧v=.node 5 n [k0,x]:=by
 rw [headR,if_neg (by simp)] at h;by_cases hs:s<0∨1000000<s
 ·rw [if_pos hs] at h;cases h
 rw [if_neg hs,if_pos (show RV.op (.node 5 n [k0,x])=5 from rfl),show RV.k (.node 5 n [k0,x])=[k0,x] from rfl] at h
 simp only [List.getElem?_cons_zero,List.getElem?_cons_succ] at h;by_cases h0:k0.op=4
 ·rw [if_pos h0] at h;by_cases h1:s+1≤1000
  ·rw [if_pos h1] at h;cases hc:k0.k[1]? with
   | none=>rw [hc] at h;cases h
   | some c =>
    rw [hc] at h;simp only at h;by_cases h2:900000<c.env.length
    ·rw [if_pos h2] at h;cases h
    ·rw [if_neg h2] at h;exact .inl ⟨h0,c,rfl,h⟩
  ·rw [if_neg h1] at h;simp at h
 ·rw [if_neg h0] at h;simp only [Atb,Atc] at h;exact .inr ⟨h0,h.1.symm⟩
theorem V4 {f:Nat} {s op n:Int} {k0 v:RV} {s':Int} (ho:op=8∨op=9) (h:headR (f+1) s 0 (.node op n [k0])=some (v,s',0)):k0.op=7∧k0.k[(1+op - 8).toNat]?=some v∨k0.op≠7∧v=.node op n [k0]:=by
 rw [headR,if_neg (by simp)] at h;by_cases hs:s<0∨1000000<s
 ·rw [if_pos hs] at h;cases h
 have hop:RV.op (.node op n [k0])=op:=rfl;rw [if_neg hs,hop,if_neg (by omega),if_pos ho,show RV.k (.node op n [k0])=[k0] from rfl] at h
 simp only [List.getElem?_cons_zero] at h;by_cases h0:k0.op=7
 ·rw [if_pos h0] at h;by_cases h1:s+1≤1000
  ·rw [if_pos h1] at h;cases hw:k0.k[(1+op - 8).toNat]? with
   | none=>rw [hw] at h;cases h
   | some w =>
    rw [hw] at h;simp only [Ate,Atb,Atc] at h;rw [← h.1];exact .inl ⟨h0,rfl⟩
  ·rw [if_neg h1] at h;simp at h
 ·rw [if_neg h0] at h;simp only [Atb,Atc] at h;exact .inr ⟨h0,h.1.symm⟩
theorem SI {ev:Int→Int→Tm→Option (RV×Int×Int)} {u:Nat} {env:List RV} {τ:Nat→Tm} (henv:UC u env τ) (hev:∀s t v s',ev s 0 t=some (v,s',0)→t.wa→∃w,Un u v w∧Pars (t.sub τ) w) (herr:∀s e t v s',ev s e t=some (v,s',0)→e=0) (op:Int) :
  ∀(l:List Tm) (i:Nat) (s:Int) (vs:List RV) (s':Int),AU ev op env i l s 0=some (vs,s',0)→Tm.waL l→∃ts:List Tm,ts.length=l.length∧vs.length=l.length∧(∀(j:Nat) a b,(Tm.subL op i l τ)[j]?=some a→ts[j]?=some b→Pars a b) ∧
   (∀(j:Nat) v t,Af op (i+j)=0→vs[j]?=some v→ts[j]?=some t→Un u v t)∧(∀(j:Nat) (v:RV) t,0<Af op (i+j)→vs[j]?=some v→ts[j]?=some t→t=v.b.sub (Gn (Af op (i+j)) τ)∧v.b.wa∧v.env=env)
 | [],i,s,vs,s',h,hw=>by
  simp only [AU,Atb,Atc] at h;obtain ⟨rfl,_⟩:=h;exact ⟨[],rfl,rfl,fun j a b h=>by simp [Tm.subL] at h,fun j v t _ h=>by simp at h,fun j v t _ h=>by simp at h⟩
 | t::l,i,s,vs,s',h,hw=>by
  rw [Tm.waL] at hw;simp only [AU] at h;by_cases hb:0<Af op i
  ·rw [if_pos hb] at h;cases hk:AU ev op env (i+1) l s 0 with
   | none=>rw [hk] at h;cases h
   | some q =>
    obtain ⟨us,s1,e1⟩:=q;rw [hk] at h;simp only [Ate,Atb,Atc] at h;obtain ⟨rfl,rfl,rfl⟩:=h;obtain ⟨ts,a1,a2,a3,a4,a5⟩:=SI henv hev herr op l (i+1) s us s1 hk hw.2;refine ⟨t.sub (Gn (Af op i) τ)::ts,by simp [a1],by simp [a2],?_,?_,?_⟩
    ·intro j a b ha hb';cases j with
     | zero =>
      simp only [Tm.subL,List.getElem?_cons_zero,Atb] at ha hb';subst ha hb';exact .refl _
     | succ j =>
      simp only [Tm.subL,List.getElem?_cons_succ] at ha hb';exact a3 j a b ha hb'
    ·intro j v x h0 hv hx;cases j with
     | zero=>rw [Nat.add_zero] at h0;omega
     | succ j =>
      simp only [List.getElem?_cons_succ] at hv hx;exact a4 j v x (by rw [← h0];congr 1;omega) hv hx
    ·intro j v x h0 hv hx;cases j with
     | zero =>
      simp only [List.getElem?_cons_zero,Atb] at hv hx;subst hv hx;exact ⟨rfl,hw.1,rfl⟩
     | succ j =>
      simp only [List.getElem?_cons_succ] at hv hx
      have:=a5 j v x (by rw [show i+1+j=i+(j+1) by omega];exact h0) hv hx
      rw [show i+1+j=i+(j+1) by omega] at this
      exact this
  ·rw [if_neg hb] at h;have hb0:Af op i=0:=by omega
   cases he:ev s 0 t with
   | none=>rw [he] at h;cases h
   | some q =>
    obtain ⟨v0,s1,e1⟩:=q;rw [he] at h;simp only at h;cases hk:AU ev op env (i+1) l s1 e1 with
    | none=>rw [hk] at h;cases h
    | some q =>
     obtain ⟨us,s3,e3⟩:=q;rw [hk] at h;simp only [Ate,Atb,Atc] at h;obtain ⟨rfl,rfl,rfl⟩:=h;have he1:=GS ev herr op env l _ _ _ _ _ hk;subst he1;obtain ⟨w,w1,w2⟩:=hev _ _ _ _ he hw.1;obtain ⟨ts,a1,a2,a3,a4,a5⟩:=SI henv hev herr op l (i+1) s1 us s3 hk hw.2;refine ⟨w::ts,by simp [a1],by simp [a2],?_,?_,?_⟩
     ·intro j a b ha hb';cases j with
      | zero =>
       simp only [Tm.subL,List.getElem?_cons_zero,Atb] at ha hb';subst ha hb';rw [hb0,LK];exact w2
      | succ j =>
       simp only [Tm.subL,List.getElem?_cons_succ] at ha hb';exact a3 j a b ha hb'
     ·intro j v x h0 hv hx;cases j with
      | zero =>
       simp only [List.getElem?_cons_zero,Atb] at hv hx;subst hv hx;exact w1
      | succ j =>
       simp only [List.getElem?_cons_succ] at hv hx;exact a4 j v x (by rw [← h0];congr 1;omega) hv hx
     ·intro j v x h0 hv hx;cases j with
      | zero=>rw [Nat.add_zero] at h0;omega
      | succ j =>
       simp only [List.getElem?_cons_succ] at hv hx
       have:=a5 j v x (by rw [show i+1+j=i+(j+1) by omega];exact h0) hv hx
       rw [show i+1+j=i+(j+1) by omega] at this
       exact this
def EvU (f:Nat):Prop:=∀s t env v s' u τ,AE f s 0 t env=some (v,s',0)→t.wa→UC u env τ→∃w,Un u v w∧Pars (t.sub τ) w
def HdU (f:Nat):Prop:=∀s op n k v s' u ts,headR f s 0 (.node op n k)=some (v,s',0)→op≠1→Un u (.node op n k) (.mk op n ts)→∃w,Un u v w∧Pars (.mk op n ts) w
theorem Aom {f:Nat} (ihE:EvU f) (ihH:HdU f):EvU (f+1):=by
 intro s t env v s' u τ h hw henv;obtain ⟨op,m,ks⟩:=t;rw [Tm.wa] at hw;by_cases h1:op=1
 ·subst h1;have hks:ks=[]:=List.eq_nil_of_length_eq_zero (Option.some.inj hw.1.symm);subst hks;have hm:=hw.2.1.1 rfl;have hv:¬ (m<0∨([]:List Tm).isEmpty=false):=by
   rintro (h | h)
   ·omega
   ·cases h
  rw [Tm.sub,if_pos rfl,if_neg hv];rcases (WT h hm).1 with ⟨a1,a2⟩ | ⟨a1,rfl⟩
  ·exact ⟨_,henv.1 _ _ a2,.refl _⟩
  ·refine ⟨_,?_,.refl _⟩;rw [henv.2 _ (by omega)]
   have:=Un.var u ((env.length:Int) - 1 - m) (by omega)
   have e:vT (u+(m.toNat - env.length))=.mk 1 ((u:Int) - 1 - ((env.length:Int) - 1 - m)) []:=by rw [vT];congr 1;omega
   rw [e];exact this
 ·obtain ⟨vs,s1,q1,q2⟩:=HE h h1;obtain ⟨ts,a1,a2,a3,a4,a5⟩:=SI henv (fun s t v s' a b=>ihE s t env v s' u τ a b henv) (fun s e t v s' a=>Cm a) op ks 0 s vs s1 q1 hw.2.2;simp only [Nat.zero_add] at a4 a5;have hun:Un u (.node op m vs) (.mk op m ts):=by
   refine .node u op m vs ts (fun _=>τ) h1 hw.2.1.2 (by rw [a1];exact hw.1) (by rw [a1,a2]) a4 (fun i v t b c d=>⟨(a5 i v t b c d).1,(a5 i v t b c d).2.1⟩) ?_ ?_
   ·intro i v j b c hj;have hi:i<ts.length:=by rw [a1,← a2];exact (List.getElem?_eq_some_iff.1 c).1
    have:=(a5 i v _ b c (List.getElem?_eq_getElem hi)).2.2
    rw [this] at hj ⊢;exact henv.2 j hj
   ·intro i v j x b c hx;have hi:i<ts.length:=by rw [a1,← a2];exact (List.getElem?_eq_some_iff.1 c).1
    have:=(a5 i v _ b c (List.getElem?_eq_getElem hi)).2.2
    rw [this] at hx;exact henv.1 j x hx
  obtain ⟨w,w1,w2⟩:=ihH _ _ _ _ _ _ u ts q2 h1 hun;refine ⟨w,w1,?_⟩;rw [Tm.sub,if_neg h1];exact Ee (OJ h1 (by rw [Kz,a1]) a3) w2
theorem ApJ {f:Nat} (ihE:EvU f) (ihH:HdU f):HdU (f+1):=by
 intro s op n k v s' u ts h h1 hun;obtain ⟨ts',T,hn9,_,e2,har,hl,hk,hc⟩:=Hs hun h1;simp only [RV.node,RV.op,RV.n,RV.k,Tm.mk.injEq,true_and] at e2 har hl hk hc hn9;subst e2;by_cases h5:op=5
 ·subst h5;obtain ⟨t0,tx,rfl⟩:=UM (Option.some.inj har.symm:ts.length=2);obtain ⟨k0,x,rfl⟩:=UM (hl.trans rfl:k.length=2);have u0:=hk 0 k0 t0 rfl rfl rfl;have ux:=hk 1 x tx rfl rfl rfl;rcases Adk h with ⟨h4,c,hcc,hev⟩ | ⟨_,rfl⟩
  ·obtain ⟨us,T0,n0,e0,rfl,Md,l0,_,c0⟩:=Hs u0 (by omega);rw [h4] at Md c0 ⊢;obtain ⟨ta,tb,rfl⟩:=UM (Option.some.inj Md.symm:us.length=2);obtain ⟨rfl,hwa,henv⟩:=c0 1 c tb (by decide) hcc rfl;obtain ⟨w,w1,w2⟩:=ihE _ _ _ _ _ u _ hev hwa (Nw henv ux);refine ⟨w,w1,.step (.beta n k0.n ta _ _ tx tx (A3 _) (A3 _)) ?_⟩;rw [FW]
   have:(fun i=>(Gn (Af 4 1) (T0 1) i).sub (s1 tx))=fun i=>match i with | 0=>tx | j+1=>T0 1 j:=by
    funext i
    cases i with
    | zero=>simp [Gn,Hi,s1,show Af 4 1=1 from rfl]
    | succ i =>
     simp only [Gn,show Af 4 1=1 from rfl]
     rw [if_neg (by omega),Nat.add_sub_cancel,HX _ _ _ (fun j=>rfl)]
   rw [this];exact w2
  ·exact ⟨_,hun,.refl _⟩
 by_cases h89:op=8∨op=9
 ·have hl1:ts.length=1:=by rcases h89 with rfl | rfl<;>exact Option.some.inj har.symm
  obtain ⟨t0,rfl⟩:=CE hl1;obtain ⟨k0,rfl⟩:=CE (hl.trans rfl:k.length=1);have u0:=hk 0 k0 t0 (by rcases h89 with rfl | rfl<;>rfl) rfl rfl;rcases V4 h89 h with ⟨h7,hx⟩ | ⟨_,rfl⟩
  ·obtain ⟨us,T0,n0,e0,rfl,Md,l0,hk0,_⟩:=Hs u0 (by omega);rw [h7] at Md hk0 ⊢;obtain ⟨ta,tb,tc,rfl⟩:=Amy (Option.some.inj Md.symm:us.length=3);rcases h89 with rfl | rfl
   ·exact ⟨tb,hk0 1 v tb rfl hx rfl,Cw (.fst n k0.n ta tb tb tc (A3 _))⟩
   ·exact ⟨tc,hk0 2 v tc rfl hx rfl,Cw (.snd n k0.n ta tb tc tc (A3 _))⟩
  ·exact ⟨_,hun,.refl _⟩
 by_cases h30:op=30
 ·subst h30;obtain ⟨t0,rfl⟩:=CE (Option.some.inj har.symm:ts.length=1);obtain ⟨k0,rfl⟩:=CE (hl.trans rfl:k.length=1);have u0:=hk 0 k0 t0 rfl rfl rfl;rcases Ud h with ⟨h7,hx⟩ | ⟨_,rfl⟩
  ·obtain ⟨us,T0,n0,e0,rfl,Md,l0,hk0,_⟩:=Hs u0 (by omega);rw [h7] at Md hk0 ⊢;obtain ⟨ta,rfl⟩:=CE (Option.some.inj Md.symm:us.length=1);exact ⟨ta,hk0 0 v ta rfl hx rfl,by rw [hn9 (.inr rfl),n0 (.inl h7)];exact Cw (.splq ta ta (A3 _))⟩
  ·exact ⟨_,hun,.refl _⟩
 by_cases h19:op=19
 ·subst h19;obtain ⟨t0,rfl⟩:=CE (Option.some.inj har.symm:ts.length=1);obtain ⟨k0,rfl⟩:=CE (hl.trans rfl:k.length=1);have u0:=hk 0 k0 t0 rfl rfl rfl;rcases Ut h with ⟨h7,hx⟩ | ⟨_,rfl⟩
  ·obtain ⟨us,T0,n0,e0,rfl,Md,l0,hk0,_⟩:=Hs u0 (by omega);rw [h7] at Md hk0 ⊢;obtain ⟨ta,rfl⟩:=CE (Option.some.inj Md.symm:us.length=1);exact ⟨ta,hk0 0 v ta rfl hx rfl,by rw [hn9 (.inl rfl),n0 (.inr h7)];exact Cw (.quos ta ta (A3 _))⟩
  ·exact ⟨_,hun,.refl _⟩
 by_cases h13:op=13
 ·subst h13;obtain ⟨t0,t1,t2,t3,rfl⟩:=QG (Option.some.inj har.symm:ts.length=4);obtain ⟨k0,k1,k2,k3,rfl⟩:=QG (hl.trans rfl:k.length=4);have u1:=hk 1 k1 t1 rfl rfl rfl;have u3:=hk 3 k3 t3 rfl rfl rfl;rcases TC h with ⟨h11,rfl⟩ | ⟨h12,x,w,s1',hx,hw,hv⟩ | ⟨_,rfl⟩
  ·obtain ⟨us,T0,n0,e0,rfl,Md,l0,hk0,_⟩:=Hs u3 (by omega);rw [h11];exact ⟨t1,u1,Cw (.recz n k3.n t0 t1 t1 t2 us (A3 _))⟩
  ·obtain ⟨us,T0,n0,e0,rfl,Md,l0,hk0,_⟩:=Hs u3 (by omega);rw [h12] at Md hk0 ⊢;obtain ⟨tk,rfl⟩:=CE (Option.some.inj Md.symm:us.length=1);have ux:=hk0 0 x tk rfl hx rfl;obtain ⟨c2,hwa2,henv2⟩:=hc 2 k2 t2 (by decide) rfl rfl;have hun2:Un u (.node 13 0 [k0,k1,k2,x]) (.mk 13 0 [t0,t1,t2,tk]):=by
    refine .node u 13 0 _ _ T (by decide) (by omega) rfl rfl ?_ ?_ ?_ ?_
    ·intro i v t hb a b
     match i with
     | 0=>exact absurd hb (by decide)
     | 1=>simp at a b;subst a b;exact u1
     | 2=>exact absurd hb (by decide)
     | 3=>simp at a b;subst a b;exact ux
     | i+4=>simp at a
    ·intro i v t hb a b
     match i with
     | 0=>simp at a b;subst a b;exact ⟨(hc 0 k0 t0 hb rfl rfl).1,(hc 0 k0 t0 hb rfl rfl).2.1⟩
     | 1=>exact absurd hb (by decide)
     | 2=>simp at a b;subst a b;exact ⟨(hc 2 k2 t2 hb rfl rfl).1,(hc 2 k2 t2 hb rfl rfl).2.1⟩
     | 3=>exact absurd hb (by decide)
     | i+4=>simp at a
    ·intro i v j hb a hj
     match i with
     | 0=>simp at a;subst a;exact (hc 0 k0 t0 hb rfl rfl).2.2.2 j hj
     | 1=>exact absurd hb (by decide)
     | 2=>simp at a;subst a;exact (hc 2 k2 t2 hb rfl rfl).2.2.2 j hj
     | 3=>exact absurd hb (by decide)
     | i+4=>simp at a
    ·intro i v j y hb a hy
     match i with
     | 0=>simp at a;subst a;exact (hc 0 k0 t0 hb rfl rfl).2.2.1 j y hy
     | 1=>exact absurd hb (by decide)
     | 2=>simp at a;subst a;exact (hc 2 k2 t2 hb rfl rfl).2.2.1 j y hy
     | 3=>exact absurd hb (by decide)
     | i+4=>simp at a
   obtain ⟨tw,w1,w2⟩:=ihH _ _ _ _ _ _ u _ hw (by decide) hun2;have henv3:=Nw (Nw henv2 ux) w1;rw [List.append_assoc] at henv3;obtain ⟨tv,v1,v2⟩:=ihE _ _ _ _ _ u _ hv hwa2 henv3;refine ⟨tv,v1,.step (.recs n k3.n t0 t0 t1 t1 t2 t2 tk tk (A3 _) (A3 _) (A3 _) (A3 _)) ?_⟩;have e2:t2=k2.b.sub (Gn 2 (T 2)):=c2;have e3:∀r:Tm,t2.sub (s2 r tk)=k2.b.sub (fun i=>if i=0 then r else (fun i=>match i with | 0=>tw | j+1=>(fun i=>match i with | 0=>tk | j+1=>T 2 j) j) i):=by
    intro r;rw [e2,FW];congr 1
    funext i
    match i with
    | 0=>simp [Gn,Hi,s2]
    | 1=>simp [Gn,Hi,s2]
    | i+2 =>
     simp only [Gn];rw [if_neg (by omega),if_neg (by omega),Nat.add_sub_cancel,HX _ _ _ (fun j=>rfl)]
   rw [e3];refine Ee (AiY k2.b _ 0 w2) ?_;have e4:(fun i=>if i=0 then tw else (fun i=>match i with | 0=>tw | j+1=>(fun i=>match i with | 0=>tk | j+1=>T 2 j) j) i)=(fun i=>match i with | 0=>tw | j+1=>(fun i=>match i with | 0=>tk | j+1=>T 2 j) j:Nat→Tm):=by
    funext i
    cases i with
    | zero=>simp
    | succ i=>simp
   rw [e4];exact v2
  ·exact ⟨_,hun,.refl _⟩
 obtain ⟨rfl,_⟩:=Jv h (by omega);exact ⟨_,hun,.refl _⟩
theorem YP:∀f,EvU f∧HdU f:=by
 intro f
 induction f with
 | zero=>exact ⟨(by intro s t env v s' u τ h;rw [AE] at h;cases h),(by intro s op n k v s' u ts h;rw [headR] at h;cases h)⟩
 | succ f ih=>exact ⟨Aom ih.1 ih.2,ApJ ih.1 ih.2⟩
theorem AiQ:∀(f:Nat) (s nd:Int) (v:RV) (u:Nat) (d:Int) (t:Tm) (s' nd':Int) (w:Tm),AX f s nd 0 v u d=some (t,s',nd',0)→Un u v w→Pars w t:=by
 intro f
 induction f with
 | zero=>intro s nd v u d t s' nd' w h;rw [AX] at h;cases h
 | succ f ih =>
  intro s nd v u d t s' nd' w h hun;rcases UQ h with ⟨h1,rfl⟩ | ⟨h1,ts,hrk,rfl⟩
  ·cases hun with
   | var=>exact .refl _
   | node op n k us T h2=>exact absurd h1 h2
  ·obtain ⟨us,T,_,e1,rfl,har,hl,hk,hc⟩:=Hs hun h1;obtain ⟨n1,n2⟩:=Lf (fun s nd e v u t s' nd' h=>Fr h) v.op u v.k 0 s (nd+1) 0 ts s' nd' hrk;refine OJ h1 (by rw [n1,hl]) (fun i a b ha hb=>?_);have hi:i<v.k.length:=by rw [hl];exact (List.getElem?_eq_some_iff.1 ha).1
   have hki:=List.getElem?_eq_getElem hi;obtain ⟨q1,q2,k',q3,q4,⟨q5,q6⟩,q7⟩:=n2 i _ b hki hb;rw [Nat.zero_add] at q5 q6 q7;by_cases hb0:Af v.op i=0
   ·have:=q6 hb0
    subst this;rw [hb0] at q7;simp only [Int.ofNat_zero,Int.add_zero] at q7;exact ih _ _ _ u _ _ _ _ a (by simpa using q7) (hk i _ a hb0 hki ha)
   ·have hbp:0<Af v.op i:=by omega
    obtain ⟨s0,hev⟩:=q5 hbp;obtain ⟨rfl,hwa,henv⟩:=hc i _ a hbp hki ha;obtain ⟨w',w1,w2⟩:=(YP f).1 _ _ _ _ _ (u+Af v.op i) _ hev hwa (Ajj henv _);rw [show (u:Int)+(Af v.op i:Int)=((u+Af v.op i:Nat):Int) by omega] at q7
    exact Ee w2 (ih q1 q2 k' (u+Af v.op i) (d+1) b q3 q4 w' q7 w1)
theorem Hh {f:Nat} {t n:Tm} {k:Nat} (h:AY f t=some (n,0)) (ht:t.sc k):Pars t n:=by
 rw [AY] at h;cases he:AE f 0 0 t [] with
 | none=>rw [he] at h;cases h
 | some q =>
  obtain ⟨v,s,e⟩:=q;rw [he] at h;simp only at h;cases hr:AX f s 0 e v 0 1 with
  | none=>rw [hr] at h;cases h
  | some q =>
   obtain ⟨w,s2,nd2,e2⟩:=q;rw [hr] at h;simp only [Atb] at h;by_cases h2:e2≠0
   ·rw [if_pos h2] at h;simp only [Atc] at h;exact absurd h.2 h2
   rw [if_neg h2] at h;simp only [Atc,and_true] at h;subst h;have he2:e2=0:=by omega
   subst he2;have he0:=Fr hr;subst he0;obtain ⟨x,x1,x2⟩:=(YP f).1 _ _ _ _ _ 0 vT he (AjU t k ht) AfR;rw [M9] at x2;exact Ee x2 (AiQ f s 0 v 0 1 w s2 nd2 x (by simpa using hr) x1)
theorem Ajk {f f':Nat} {t u n m:Tm} {k:Nat} {G G':List Nat} {s s':Nat} (h1:AY f t=some (n,0)) (h2:AY f' u=some (m,0)) (ht:t.sc k) (hu:u.sc k) (tt:HasT G t s) (tu:HasT G' u s') (h:Pars t u):n=m :=
 AmA (Hh h1 ht) (Hh h2 hu) (Ee h (Hh h2 hu)) (Hh h2 hu) (ZO (Fg h1 tt)) (ZO (Fg h2 tu))
theorem Af7 (t:Tm):t.ren (fun x=>x+0)=t:=by
 rw [NU];exact M9 t
theorem VS (x:Tm):VK 0 x=s1 x:=by
 funext i
 cases i with
 | zero =>
  show (if 0<0 then vT 0 else if 0=0 then x.ren (fun x=>x+0) else vT (0 - 1))=x
  rw [if_neg (by omega),if_pos rfl];exact Af7 x
 | succ i=>simp only [VK,s1];rw [if_neg (by omega),if_neg (by omega)];rfl
theorem Ac5 {G:List Nat} {a b x:Tm} {s y s0 k:Nat} (hs:s<10) (hy:y<10) (ha:HasT G a s0) (hb:HasT (y::G) b s) (hx:HasT G x y) (bsc:b.sc (k+1)) (xsc:x.sc k) (hG:G.length=k) (hk:k≤1000) (bw:b.wt≤1000000000000000) (xw:x.wt≤1000000000000000) :
  HasT G (.mk 5 0 [.mk 4 0 [a,b],x]) s∧HasT G (b.subst 0 0 x) s∧Pars (.mk 5 0 [.mk 4 0 [a,b],x]) (b.subst 0 0 x):=by
 refine ⟨.app G 0 0 a b x y s s0 hs hy ha hb hx,?_,?_⟩
 ·have:=G9 hb [] G y x rfl hx (by simp only [List.length_nil];omega)
  simpa using this
 ·have e:=H4 b 0 k x (by simpa using bsc) xsc (by omega);rw [show ((0:Nat):Int)=0 from rfl] at e
  rw [e,VS];exact Cw (.beta 0 0 a b b x x (A3 b) (A3 x))
theorem Adx {G:List Nat} {a x:Tm} {s k:Nat} (hs:s<6) (ha:HasT G a (10+s)) (hx:HasT G x s) (hG:G.length=k) (hk:k≤1000) (aw:a.wt≤1000000000000000) (xw:x.wt≤1000000000000000) :
  HasT G (.mk 13 0 [a.shift 1 0,x,x.shift 2 0,.mk 11 0 []]) s∧Pars (.mk 13 0 [a.shift 1 0,x,x.shift 2 0,.mk 11 0 []]) x:=by
 have h1:=G8 ha [0] (by simp only [Atf,List.length_nil];omega);have h2:=G8 hx [s,0] (by simp only [Atf,List.length_nil];omega);exact ⟨ht4 (.recR s (10+s) hs) h1 hx h2 (ht0 .zero),Cw (.recz 0 0 _ x x _ [] (A3 x))⟩
theorem Ac4 {G:List Nat} {a x h n:Tm} {s k:Nat} (hs:s<6) (ha:HasT G a (10+s)) (hx:HasT G x s) (hh:HasT (s::0::G) h s) (hn:HasT G n 0) (asc:a.sc k) (xsc:x.sc k) (hsc:h.sc (k+2)) (nsc:n.sc k) (hG:G.length=k) (hk:k≤1000)
  (aw:a.wt≤9000000) (xw:x.wt≤2100000000) (hw:h.wt≤525000000) (nw:n.wt≤525000000) :
  HasT G (.mk 13 0 [a.shift 1 0,x,h,.mk 12 0 [n]]) s∧HasT G ((h.subst 0 0 ((Tm.mk 13 0 [a.shift 1 0,x,h,n]).shift 1 0)).subst 0 0 n) s ∧
   Pars (.mk 13 0 [a.shift 1 0,x,h,.mk 12 0 [n]]) ((h.subst 0 0 ((Tm.mk 13 0 [a.shift 1 0,x,h,n]).shift 1 0)).subst 0 0 n) ∧
   (Tm.mk 13 0 [a.shift 1 0,x,h,n]).sc k∧(h.subst 0 0 ((Tm.mk 13 0 [a.shift 1 0,x,h,n]).shift 1 0)).sc (k+1)∧((h.subst 0 0 ((Tm.mk 13 0 [a.shift 1 0,x,h,n]).shift 1 0)).subst 0 0 n).sc k ∧
   (h.subst 0 0 ((Tm.mk 13 0 [a.shift 1 0,x,h,n]).shift 1 0)).wt≤1680000000000000000∧((Tm.mk 13 0 [a.shift 1 0,x,h,n]).shift 1 0).sc (k+1)∧((Tm.mk 13 0 [a.shift 1 0,x,h,n]).shift 1 0).wt≤3200000000:=by
 have h1:=G8 ha [0] (by simp only [Atf,List.length_nil];omega);have asc1:(a.shift 1 0).sc (k+1):=by have:=Ck a 1 0 k asc (by omega);simpa using this
 obtain ⟨R,hR⟩:∃R,R=Tm.mk 13 0 [a.shift 1 0,x,h,n]:=⟨_,rfl⟩;have hRT:HasT G R s:=by rw [hR];exact ht4 (.recR s (10+s) hs) h1 hx hh hn
 have hRw:R.wt≤3200000000:=by rw [hR];simp only [Tm.wt,Tm.wtL,Cl];omega
 have hRsc:R.sc k:=by
  rw [hR,Tm.sc];refine ⟨rfl,by rw [if_neg (by decide)];exact Bd (by decide) (by decide) (by decide),?_⟩;simp only [Tm.scL,show Af 13 0=1 from rfl,show Af 13 (0+1)=0 from rfl,show Af 13 (0+1+1)=2 from rfl,show Af 13 (0+1+1+1)=0 from rfl,Nat.add_zero,and_true]
  exact ⟨asc1,xsc,hsc,nsc⟩
 rw [← hR];have r1:HasT (0::G) (R.shift 1 0) s:=by
  have:=G8 hRT [0] (by simp only [Atf,List.length_nil];omega)
  simpa using this
 have r1sc:(R.shift 1 0).sc (k+1):=by have:=Ck R 1 0 k hRsc (by omega);simpa using this
 have r1w:(R.shift 1 0).wt≤3200000000:=by rw [Cl];exact hRw
 have e1:=H4 h 0 (k+1) (R.shift 1 0) (by simpa using hsc) r1sc (by omega);rw [show ((0:Nat):Int)=0 from rfl] at e1
 have m1:(h.subst 0 0 (R.shift 1 0)).sc (k+1):=by
  have:=ES h (R.shift 1 0) 0 (k+1) (by simpa using hsc) r1sc (by omega)
  rw [show ((0:Nat):Int)=0 from rfl] at this
  simpa using this
 have mw:(h.subst 0 0 (R.shift 1 0)).wt≤1680000000000000000:=Nat.le_trans (HM h (R.shift 1 0) 0 0) (Nat.le_trans (Nat.mul_le_mul hw r1w) (by decide));have mT:HasT (0::G) (h.subst 0 0 (R.shift 1 0)) s:=by
  have:=G9 hh [] (0::G) s (R.shift 1 0) rfl r1 (by simp only [List.length_nil,Atf];omega)
  simpa using this
 have e2:(h.subst 0 0 (R.shift 1 0)).subst 0 0 n=(h.subst 0 0 (R.shift 1 0)).sub (s1 n):=by
  have:=H4 (h.subst 0 0 (R.shift 1 0)) 0 k n (by simpa using m1) nsc (by omega)
  rw [show ((0:Nat):Int)=0 from rfl] at this
  rw [this,VS]
 have m2:((h.subst 0 0 (R.shift 1 0)).subst 0 0 n).sc k:=by
  have:=ES (h.subst 0 0 (R.shift 1 0)) n 0 k (by simpa using m1) nsc (by omega)
  rw [show ((0:Nat):Int)=0 from rfl] at this
  simpa using this
 have m2T:HasT G ((h.subst 0 0 (R.shift 1 0)).subst 0 0 n) s:=by
  have:=G9 mT [] G 0 n rfl hn (by simp only [List.length_nil];omega)
  simpa using this
 refine ⟨ht4 (.recR s (10+s) hs) h1 hx hh (ht1 .suc hn),m2T,?_,hRsc,m1,m2,mw,r1sc,r1w⟩;have er:R.shift 1 0=R.ren fun i=>i+1:=by
  have:=LA R 1 0 k hRsc (by omega)
  rw [show ((0:Nat):Int)=0 from rfl,show ((1:Nat):Int)=1 from rfl] at this
  rw [this];congr 1
 have fin:(h.subst 0 0 (R.shift 1 0)).subst 0 0 n=h.sub (s2 R n):=by
  rw [e2,e1,VS,FW];congr 1
  funext i
  match i with
  | 0 =>
   show (R.shift 1 0).sub (s1 n)=R
   rw [er];exact HX R 1 (s1 n) (fun j=>rfl)
  | 1=>exact Hi 0 (s1 n)
  | i+2=>exact Hi (i+1) (s1 n)
 rw [fin,hR];exact Cw (.recs 0 0 _ _ x x h h n n (A3 _) (A3 x) (A3 h) (A3 n))
end Idl
end Go.Proofs.Ytbkdidonegggdaa

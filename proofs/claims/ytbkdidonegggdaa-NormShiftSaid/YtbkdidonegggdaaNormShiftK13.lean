/-
  Texts of a proof, part 13: an ideal semantics of the program, its functions in shallow form, contracts of them. No statement of the seat is proved here.
-/
import Derived.Test.YtbkdidonegggdaaNormShiftK12
set_option linter.all false
namespace Go.Proofs.Ytbkdidonegggdaa
namespace Idl
theorem ixg {β:Type} {l:List FV} {i:Nat} {x:FV} (h:l[i]?=some x) (hx:x.cells=[x]) (k:IV→Option β):ixS 1 (.fv (.sl l)) (iv i) k=k (.fv (.fp [x] 0)):=by
 rw [ix_f h (by rw [hx];rfl),hx]
section
variable {β:Type} (a b c:FV) (l:List FV) (cs:List FV) (o:Nat) (v:PV) (k:IV→Option β)
theorem ixf0:ixS 1 (.fv (.sl (.fp cs o::l))) (iv 0) k=k (.fv (.fp [.fp cs o] 0)):=ixg (i:=0) rfl rfl k
theorem ixe0:ixS 1 (.fv (.sl (v.enc::l))) (iv 0) k=k (.fv (.fp [v.enc] 0)):=ixg (i:=0) rfl (penc_cells v) k
theorem ixf1:ixS 1 (.fv (.sl (a :: .fp cs o::l))) (iv 1) k=k (.fv (.fp [.fp cs o] 0)):=ixg (i:=1) rfl rfl k
theorem ixe1:ixS 1 (.fv (.sl (a::v.enc::l))) (iv 1) k=k (.fv (.fp [v.enc] 0)):=ixg (i:=1) rfl (penc_cells v) k
theorem ixf2:ixS 1 (.fv (.sl (a::b :: .fp cs o::l))) (iv 2) k=k (.fv (.fp [.fp cs o] 0)):=ixg (i:=2) rfl rfl k
theorem ixe2:ixS 1 (.fv (.sl (a::b::v.enc::l))) (iv 2) k=k (.fv (.fp [v.enc] 0)):=ixg (i:=2) rfl (penc_cells v) k
theorem ixf3:ixS 1 (.fv (.sl (a::b::c :: .fp cs o::l))) (iv 3) k=k (.fv (.fp [.fp cs o] 0)):=ixg (i:=3) rfl rfl k
theorem ixe3:ixS 1 (.fv (.sl (a::b::c::v.enc::l))) (iv 3) k=k (.fv (.fp [v.enc] 0)):=ixg (i:=3) rfl (penc_cells v) k
end
def XI:=And.intro @ixf0<|And.intro @ixf1<|And.intro @ixf2<|And.intro @ixf3<|And.intro @ixe0<|And.intro @ixe1<|And.intro @ixe2 @ixe3
theorem fa_fg {β:Type} (o p:Nat) (cs:List FV) (k:IV→Option β):faddrS o (.fv (.fp cs p)) k=k (.fv (.fp cs (p+o))):=by rw [x_faddr_f]
theorem lo_hit (s:Nat) (b:Blk) (l:List (Nat×Blk)):lookupOwn s ((s,b)::l)=some b:=by simp only [lookupOwn,if_true]
theorem op_step {f:Nat} (he:EvOk f):OpnOk (f+1):=by
 intro v u i l m m' hev r n hn;obtain ⟨n,rfl⟩:∃k,n=k+1:=⟨n - 1,by omega⟩;rw [c81];cases v with
 | nil=>rw [opP] at hev;cases hev
 | mk op nn k t e =>
 obtain ⟨bo,bn,bk⟩:=t;rw [opP] at hev;split at hev
 ·cases hev
 ·rename_i hf;cases hb:bk[i]? with
  | none=>rw [hb] at hev;cases hev
  | some b =>
   rw [hb] at hev;simp only at hev;have hw:=with_c (n:=n) e l (by omega) (by omega);have hc:=he _ _ _ _ _ hev r n (by omega);rw [penc_mk];obtain ⟨b1,b2,b3⟩:=b;have hg:=map_get hb;rw [enc_mk] at hc;simp only [S81_25,S81_26,S81,↓XX,XY,↓reduceIte,Nat.reduceBEq,Nat.reduceAdd,Int.cast_ofNat_Int,Int.reduceEq,Int.reduceLT,Int.reduceLE,↓iso_2 hw,↓ix_f hg (agg3l _ _ _),↓agg3,↓fa_fg,↓iso_x3 _ _ hc];exact ansx_fv _ _ _
theorem within_c {n:Nat} (hn:0<n) (op nn:Int) (o0 n0:Int) (k0:List PV) (t0:Tm) (e0:List PV) (t:Tm) (e:List PV) (want:Int) (hk:o0=want→∃x,k0=[x]) :
  Ans (SS dt n 87 [.fv (PV.mk op nn [.mk o0 n0 k0 t0 e0] t e).enc,iv want] ⟨[],[]⟩) (if o0=want then k0.headD .nil else .nil).enc:=by
 obtain ⟨n,rfl⟩:∃k,n=k+1:=⟨n - 1,by omega⟩;rw [c87];obtain ⟨bo,bn,bk⟩:=t;obtain ⟨co,cn,ck⟩:=t0;rw [penc_mk,List.map_cons,List.map_nil,penc_mk];by_cases h:o0=want
 ·obtain ⟨x,rfl⟩:=hk h;rw [if_pos h];simp only [S87_29,S87_30,S87_31,S87,↓XX,XY,↓reduceIte,Nat.reduceBEq,Nat.reduceAdd,Int.cast_ofNat_Int,Int.reduceEq,Int.reduceLT,Int.reduceLE,↓XI,h,List.headD_cons];exact ans_fv _ _
 ·rw [if_neg h,penc_nil];simp only [S87_29,S87_30,S87_31,S87,↓XX,XY,↓reduceIte,Nat.reduceBEq,Nat.reduceAdd,Int.cast_ofNat_Int,Int.reduceEq,Int.reduceLT,Int.reduceLE,↓XI,h];exact ans_fv _ _
theorem st_step {f:Nat} (hc:CtOk f) (ho:OpnOk f):StOk (f+1):=by
 intro v u m m' hr hev r n hn;obtain ⟨n,rfl⟩:∃k,n=k+1:=⟨n - 1,by omega⟩;cases v with
 | nil=>rw [stP] at hev;cases hev
 | mk op nn k t e =>
 obtain ⟨bo,bn,bk⟩:=t;rw [stP.eq_def] at hev;simp only at hev;simp only [PV.op] at hr ⊢;by_cases h5:op=5
 ·subst h5;rw [if_pos rfl] at hev;rw [show ruleF 5=72 from rfl,c72]
  match k,hev with
  | [.mk o0 n0 k0 t0 e0,x],hev =>
   simp only at hev;obtain ⟨co,cn,ck⟩:=t0;by_cases h4:o0=4
   ·subst h4;rw [if_pos rfl] at hev;have hq:=ho _ _ _ _ _ _ hev r n (by omega);rw [penc_mk] at hq ⊢;simp only [List.map_cons,List.map_nil,penc_mk] at hq ⊢;simp only [S72_30,S72_31,S72_32,S72,↓XX,XY,↓reduceIte,Nat.reduceBEq,Nat.reduceAdd,Int.cast_ofNat_Int,Int.reduceEq,Int.reduceLT,Int.reduceLE,↓XI,↓bs_p1,↓iso_x4 _ _ hq];exact ansx_fv _ _ _
   ·rw [if_neg h4] at hev;simp only [Option.some.injEq,Prod.mk.injEq] at hev;obtain ⟨rfl,rfl⟩:=hev;rw [penc_mk];simp only [List.map_cons,List.map_nil,penc_mk,penc_nil];simp only [S72_30,S72_31,S72_32,S72,↓XX,XY,↓reduceIte,Nat.reduceBEq,Nat.reduceAdd,Int.cast_ofNat_Int,Int.reduceEq,Int.reduceLT,Int.reduceLE,↓XI,h4];exact ansx_fv _ _ _
 ·rw [if_neg h5] at hev;by_cases h8:op=8∨op=9
  ·rw [if_pos h8] at hev;rw [show ruleF op=73 by rcases h8 with rfl | rfl<;>rfl,c73]
   match k,hev with
   | [.mk o0 n0 k0 t0 e0],hev =>
    simp only at hev;obtain ⟨co,cn,ck⟩:=t0;by_cases h7:o0=7
    ·subst h7;rw [if_pos rfl] at hev
     match k0,hev with
     | [w,x,y],hev =>
      simp only [Option.some.injEq,Prod.mk.injEq] at hev;obtain ⟨rfl,rfl⟩:=hev;rw [penc_mk];simp only [List.map_cons,List.map_nil,penc_mk];rcases h8 with rfl | rfl
      ·simp only [S73_34,S73_35,S73_36,S73_37,S73,↓XX,XY,↓reduceIte,Nat.reduceBEq,Nat.reduceAdd,Int.cast_ofNat_Int,Int.reduceEq,Int.reduceLT,Int.reduceLE,↓XI];exact ansx_fv _ _ _
      ·simp only [S73_34,S73_35,S73_36,S73_37,S73,↓XX,XY,↓reduceIte,Nat.reduceBEq,Nat.reduceAdd,Int.cast_ofNat_Int,Int.reduceEq,Int.reduceLT,Int.reduceLE,↓XI];exact ansx_fv _ _ _
    ·rw [if_neg h7] at hev;simp only [Option.some.injEq,Prod.mk.injEq] at hev;obtain ⟨rfl,rfl⟩:=hev;rw [penc_mk];simp only [List.map_cons,List.map_nil,penc_mk,penc_nil];simp only [S73_34,S73_35,S73_36,S73_37,S73,↓XX,XY,↓reduceIte,Nat.reduceBEq,Nat.reduceAdd,Int.cast_ofNat_Int,Int.reduceEq,Int.reduceLT,Int.reduceLE,↓XI,h7];exact ansx_fv _ _ _
  ·rw [if_neg h8] at hev;by_cases h13:op=13
   ·subst h13;rw [if_pos rfl] at hev;rw [show ruleF 13=74 from rfl,c74]
    match k,hev with
    | [p0,z,p2,.mk o3 n3 k3 t3 e3],hev =>
     simp only at hev;obtain ⟨co,cn,ck⟩:=t3;by_cases h11:o3=11
     ·subst h11;rw [if_pos rfl] at hev;simp only [Option.some.injEq,Prod.mk.injEq] at hev;obtain ⟨rfl,rfl⟩:=hev;rw [penc_mk];simp only [List.map_cons,List.map_nil,penc_mk];simp only [S74_74,S74_75,S74_76,S74_77,S74_78,S74_79,S74_80,S74_81,S74_82,S74_83,S74,↓XX,XY,↓reduceIte,Nat.reduceBEq,Nat.reduceAdd,Int.cast_ofNat_Int,Int.reduceEq,Int.reduceLT,Int.reduceLE,↓XI];exact ansx_fv _ _ _
     ·rw [if_neg h11] at hev;by_cases h12:o3=12
      ·subst h12;rw [if_pos rfl] at hev
       match k3,hev with
       | [x],hev =>
        simp only at hev;cases hcc:ctP f (.mk 13 nn [.nil,z,.nil,x] (.mk bo bn bk) e) m with
        | none=>rw [hcc] at hev;cases hev
        | some q =>
         obtain ⟨h,m1⟩:=q;rw [hcc] at hev;have hq1:=hc _ _ _ _ hcc r n (by omega);have hq2:=ho _ _ _ _ _ _ hev r n (by omega);rw [penc_mk] at hq1 hq2 ⊢;simp only [List.map_cons,List.map_nil,penc_mk,penc_nil] at hq1 hq2 ⊢;simp only [S74_74,S74_75,S74_76,S74_77,S74_78,S74_79,S74_80,S74_81,S74_82,S74_83,S74,↓XX,XY,↓reduceIte,Nat.reduceBEq,Nat.reduceAdd,Int.cast_ofNat_Int,Int.reduceEq,Int.reduceLT,Int.reduceLE,↓XI,↓bs_p4,↓aof_e];rw [iso_x2p hq1 (s0:=77600771) (lo_hit ..) rfl (by simp)];simp only [↓XX,XY,↓reduceIte,Nat.reduceBEq,Nat.reduceAdd,Int.cast_ofNat_Int,Int.reduceEq,Int.reduceLT,Int.reduceLE,↓bs_p2,↓iso_x4 _ _ hq2];exact ansx_fv _ _ _
      ·rw [if_neg h12] at hev;simp only [Option.some.injEq,Prod.mk.injEq] at hev;obtain ⟨rfl,rfl⟩:=hev;rw [penc_mk];simp only [List.map_cons,List.map_nil,penc_mk,penc_nil];simp only [S74_74,S74_75,S74_76,S74_77,S74_78,S74_79,S74_80,S74_81,S74_82,S74_83,S74,↓XX,XY,↓reduceIte,Nat.reduceBEq,Nat.reduceAdd,Int.cast_ofNat_Int,Int.reduceEq,Int.reduceLT,Int.reduceLE,↓XI,h11,h12];exact ansx_fv _ _ _
   ·rw [if_neg h13] at hev
    match k,hev with
    | [.mk o0 n0 k0 t0 e0],hev =>
     simp only at hev;have h30:op=30∨op=19:=by
      simp only [isRule,Bool.or_eq_true,beq_iff_eq] at hr;omega
     have hu:((o0=(if op=30 then 19 else 30)→∃x,k0=[x])∧(if o0=(if op=30 then 19 else 30) then k0.headD .nil else .nil)=u∧m=m'):=by
      by_cases ho0:o0=(if op=30 then 19 else 30)
      ·rw [if_pos ho0] at hev
       match k0,hev with
       | [x],hev =>
        simp only [Option.some.injEq,Prod.mk.injEq] at hev;obtain ⟨rfl,rfl⟩:=hev;exact ⟨fun _=>⟨_,rfl⟩,by rw [if_pos ho0];rfl,rfl⟩
      ·rw [if_neg ho0] at hev;simp only [Option.some.injEq,Prod.mk.injEq] at hev;obtain ⟨rfl,rfl⟩:=hev;exact ⟨fun h=>absurd h ho0,by rw [if_neg ho0],rfl⟩
     obtain ⟨hu1,rfl,rfl⟩:=hu;rcases h30 with rfl | rfl
     ·rw [show ruleF 30=75 from rfl,c75]
      rw [show (if (30:Int)=30 then (19:Int) else 30)=19 from rfl] at hu1 ⊢
      have hw:=within_c (n:=n) (by omega) 30 nn o0 n0 k0 t0 e0 (.mk bo bn bk) e 19 hu1;simp only [S75,↓XX,XY,↓reduceIte,Nat.reduceBEq,Nat.reduceAdd,Int.cast_ofNat_Int,Int.reduceEq,Int.reduceLT,Int.reduceLE,↓iso_2 hw];exact ansx_fv _ _ _
     ·rw [show ruleF 19=76 from rfl,c76]
      rw [show (if (19:Int)=30 then (19:Int) else 30)=30 from rfl] at hu1 ⊢
      have hw:=within_c (n:=n) (by omega) 19 nn o0 n0 k0 t0 e0 (.mk bo bn bk) e 30 hu1;simp only [S76,↓XX,XY,↓reduceIte,Nat.reduceBEq,Nat.reduceAdd,Int.cast_ofNat_Int,Int.reduceEq,Int.reduceLT,Int.reduceLE,↓iso_2 hw];exact ansx_fv _ _ _
end Idl
end Go.Proofs.Ytbkdidonegggdaa
namespace Go.Proofs.Ytbkdidonegggdaa
namespace Idl
theorem kp_bind (ih:Handler) (xs:List IV) (h0:Hp) (k:IV→Hp→List Ref→List Ref→Option (IV×Hp)):dynS EE ih (.fv (.func (.func 88) [] [])) xs h0 k=isoS [] false false ih 88 xs h0 k :=
 keep0 (by kernel_rfl) (by kernel_rfl) (by kernel_rfl) (by kernel_rfl) ..
theorem opbind_ok {n:Nat} (hn:0<n) (op:Int) (i:Nat):Ans (SS dt n 88 [iv op,iv i] ⟨[],[]⟩) (.int .i64 (bindN op i)):=by
 obtain ⟨n,rfl⟩:∃k,n=k+1:=⟨n - 1,by omega⟩;rw [c88];unfold bindN;by_cases h:op=3∨op=4∨op=6∨op=20∨op=28∨op=29
 ·rw [if_pos h];by_cases hi:i=1
  ·subst hi;rcases h with rfl | rfl | rfl | rfl | rfl | rfl<;>(simp only [↓UU21,↓XX,XY,↓reduceIte,Nat.reduceBEq,Nat.reduceAdd,Int.cast_ofNat_Int,Int.reduceEq,Int.reduceLT,Int.reduceLE];exact ans_fv _ _)
  ·have hi':¬ (i:Int)=1:=by omega
   rcases h with rfl | rfl | rfl | rfl | rfl | rfl<;>(simp only [↓UU21,↓XX,XY,↓reduceIte,Nat.reduceBEq,Nat.reduceAdd,Int.cast_ofNat_Int,Int.reduceEq,Int.reduceLT,Int.reduceLE,hi',hi];exact ans_fv _ _)
 ·rw [if_neg h];have h3:¬ op=3:=fun e=>h (by simp [e]);have h4:¬ op=4:=fun e=>h (by simp [e]);have h6:¬ op=6:=fun e=>h (by simp [e]);have h20:¬ op=20:=fun e=>h (by simp [e]);have h28:¬ op=28:=fun e=>h (by simp [e]);have h29:¬ op=29:=fun e=>h (by simp [e]);by_cases h13:op=13
  ·subst h13;by_cases h0:i=0
   ·subst h0;simp only [↓UU21,↓XX,XY,↓reduceIte,Nat.reduceBEq,Nat.reduceAdd,Int.cast_ofNat_Int,Int.reduceEq,Int.reduceLT,Int.reduceLE];exact ans_fv _ _
   ·have h0':¬ (i:Int)=0:=by omega
    by_cases h2:i=2
    ·subst h2;simp only [↓UU21,↓XX,XY,↓reduceIte,Nat.reduceBEq,Nat.reduceAdd,Int.cast_ofNat_Int,Int.reduceEq,Int.reduceLT,Int.reduceLE];exact ans_fv _ _
    ·have h2':¬ (i:Int)=2:=by omega
     simp only [↓UU21,↓XX,XY,↓reduceIte,Nat.reduceBEq,Nat.reduceAdd,Int.cast_ofNat_Int,Int.reduceEq,Int.reduceLT,Int.reduceLE,h0,h0',h2,h2'];exact ans_fv _ _
  ·simp only [↓UU21,↓XX,XY,↓reduceIte,Nat.reduceBEq,Nat.reduceAdd,Int.cast_ofNat_Int,Int.reduceEq,Int.reduceLT,Int.reduceLE,h3,h4,h6,h20,h28,h29,h13];exact ans_fv _ _
theorem pbind_ok {n:Nat} (hn:1<n) (op:Int) (i:Nat):Ans (SS dt n 79 [iv op,iv i] ⟨[],[]⟩) (.int .i64 (bindN op i)):=by
 obtain ⟨n,rfl⟩:∃k,n=k+1:=⟨n - 1,by omega⟩;rw [c79];have h:=opbind_ok (n:=n) (by omega) op i;simp only [S79,↓XX,XY,↓reduceIte,Nat.reduceBEq,Nat.reduceAdd,Int.cast_ofNat_Int,Int.reduceEq,Int.reduceLT,Int.reduceLE,↓kp_bind,↓iso_2 h];exact ans_fv _ _
theorem off_at {β:Type}:∀(l:List IV) (i:Nat) (x:IV) (k:List IV→Option β),i<l.length→offK l i x k=k (l.set i x)
 | [],i,x,k,h=>absurd h (by simp)
 | y::l,0,x,k,_=>rfl
 | y::l,i+1,x,k,h=>by
  show offK l i x (fun t=>k (y::t))=_
  rw [off_at l i x _ (by simpa using h)];rfl
def nils (n:Nat):List PV:=List.replicate n .nil
theorem rep_nil (n:Nat):rep n [IV.fv .nilp]=((nils n).map PV.enc).map IV.fv:=by
 induction n with
 | zero=>rfl
 | succ n ih=>rw [rep,ih];rfl
theorem mk_p {n:Nat} (hn:n≤1000) (s:Nat) (own:List (Nat×Blk)) (ext:List Blk) (k:IV→Hp→List Ref→List Ref→Option (IV×Hp)) :
  genS (pcMakeSlice EE s 104 (iv n) (iv n)) s ⟨own,ext⟩ k=freshK own s (putOwnK own s (.row (((nils n).map PV.enc).map IV.fv) false) fun own=>k (.slc (.own s) 1 n) ⟨own,ext⟩ [] [.own s]):=by
 have:pcMakeSlice EE s 104 (iv n) (iv n)=.ret { eff:={ val:=.slc (.own s) 1 n },new:=some (.row (((nils n).map PV.enc).map IV.fv) false) }:=by
  simp only [pcMakeSlice,tPs,tPp,iv_e];rw [if_pos ⟨by omega,by omega,by omega,by decide,by decide⟩,Int.toNat_natCast,rep_nil]
 rw [this];unfold genS;simp only [Rd.runLog,newK,fBk_eq,fV_eq];rfl
theorem on_enc (v:PV):IV.one (.fv v.enc)=true:=by
 cases v with
 | nil=>rfl
 | mk op n k t e=>obtain ⟨bo,bn,bk⟩:=t;rw [penc_mk];rfl
theorem ix_sl {β:Type} {n i:Nat} (h:i<n) (r:Ref) (k:IV→Option β):ixS 1 (.slc r 1 n) (iv i) k=k (.ptr r i):=by
 have e1:Nat.ble (Nat.succ i) n=true:=by rw [ble_dec];exact decide_eq_true h
 show (asIx (iv i) fun n'=>cond (and (Nat.ble (Nat.succ n') n) (Nat.beq 1 1)) (fNat (n' * 1) fun o=>k (.ptr r o)) none)=_
 show (cond (and (Nat.ble (Nat.succ i) n) (Nat.beq 1 1)) (fNat (i * 1) fun o=>k (.ptr r o)) none)=_
 rw [e1];simp only [fNat_eq,Nat.mul_one];rfl
theorem off_p {done:List PV} {r:Nat} {β:Type} (v:PV) (k:List IV→Option β):offK (((done++nils (r+1)).map PV.enc).map IV.fv) done.length (.fv v.enc) k=k ((((done++[v])++nils r).map PV.enc).map IV.fv):=by
 rw [off_at _ _ _ _ (by simp [nils])];congr 1;simp only [nils,List.replicate_succ,List.map_append,List.map_cons,List.append_assoc,List.cons_append,List.nil_append,List.map_nil];rw [List.set_append_right _ _ (by simp)];simp
noncomputable abbrev Hev (op m:Int) (ks:List Tm) (env kk:List PV) (ro:Bool) (s w r e:Int):Hp :=
 ⟨[(54525952,.row [iv op,iv m,.fv (.sl (ks.map Tm.enc))] false),(54530055,.row ((kk.map PV.enc).map .fv) ro),(54530059,.row [iv op,iv m,.slc (.own 54530055) 1 ks.length,iv op,iv m,.fv (.sl (ks.map Tm.enc)),.fv (PV.encEnv env)] ro)],MX s w r e⟩
theorem drop_mx {base rm:List Nat} {vals:List IV} {own:List (Nat×Blk)} {s w r e:Int} (hb:rm.any base.contains=false) (hf:flatD rm vals own []=true) (k:Hp→Option (IV×Hp)) :
  dropS base rm vals ⟨own,MX s w r e⟩ k=k ⟨stays rm vals own [],MX s w r e⟩:=drop_x (fun j=>mx_free s w r e j) hb hf k
theorem ev_ans {op m:Int} {ks:List Tm} {env kk:List PV} {s w r e:Int} (hl:kk.length=ks.length) (h3:ks.length≤300):AnsX (some (.ptr (.own 54530059) 0,Hev op m ks env kk false s w r e)) (PV.mk op m kk (.mk op m ks) env).enc (MX s w r e):=by
 rw [penc_mk];have hl':ks.length=(kk.map PV.enc).length:=by simp [hl]
 have:=fun (e0:Option (IV×Hp)) (K:FV→List (Ref×Blk)→List Ref→Option (IV×Hp))=>fz_v (s:=54530059) (s2:=54530055) (own:=(Hev op m ks env kk false s w r e).own) (ext:=MX s w r e) (es:=kk.map PV.enc) (ro:=false) (ro2:=false) (a:=.int .i64 op) (b:=.int .i64 m) (c:=.int .i64 op) (d:=.int .i64 m) (t:=.sl (ks.map Tm.enc)) (x:=PV.encEnv env)
  (by rw [← hl'];rfl) (by rfl) (by simp [hl];omega) (by simp only [List.mem_map];rintro x ⟨v,_,rfl⟩;exact penc_agg v) [] e0 K
 exact ⟨_,_,rfl,_,_,this⟩
theorem kdP_len {ev:Tm→M3→Option (PV×M3)} {op:Int}:∀{i:Nat} {l:List Tm} {m:M3} {vs:List PV} {m':M3},kdP ev op i l m=some (vs,m')→vs.length=l.length
 | _,[],m,vs,m',h=>by simp only [kdP,Option.some.injEq,Prod.mk.injEq] at h;rw [← h.1];rfl
 | i,t::l,m,vs,m',h=>by
  rw [kdP] at h;split at h
  ·cases hk:kdP ev op (i+1) l m with
   | none=>rw [hk] at h;cases h
   | some q =>
    rw [hk] at h;simp only [Option.map_some,Option.some.injEq,Prod.mk.injEq] at h;rw [← h.1,List.length_cons,List.length_cons,kdP_len (vs:=q.1) (m':=q.2) hk]
  ·split at h
   ·cases h
   ·rename_i v m2 _;cases hk:kdP ev op (i+1) l m2 with
    | none=>rw [hk] at h;cases h
    | some q =>
     rw [hk] at h;simp only [Option.map_some,Option.some.injEq,Prod.mk.injEq] at h;rw [← h.1,List.length_cons,List.length_cons,kdP_len (vs:=q.1) (m':=q.2) hk]
set_option maxRecDepth 20000 in
set_option maxHeartbeats 1000000 in
theorem ev_step {f:Nat} (he:EvOk f) (hc:CtOk f):EvOk (f+1):=by
 intro env t m0 m' v hev r n hn;obtain ⟨n,rfl⟩:∃k,n=k+1:=⟨n - 1,by omega⟩;rw [c52];obtain ⟨op,m,ks⟩:=t;rw [enc_mk];rw [evP] at hev;cases ht:tickP m0 with
 | none=>rw [ht] at hev;cases hev
 | some m1 =>
 rw [ht] at hev;simp only at hev;have hc1:=tick_ok ht r (n:=n) (by omega);by_cases h1:op=1
 ·rw [if_pos h1] at hev;split at hev
  ·rename_i hv;simp only [Option.some.injEq,Prod.mk.injEq] at hev;obtain ⟨rfl,rfl⟩:=hev;have hvar:=variable_c (n:=n) env m hv.1 hv.2.1 (by omega);simp only [↓UU22,↓XX,XY,↓reduceIte,Nat.reduceBEq,Nat.reduceAdd,Int.cast_ofNat_Int,Int.reduceEq,Int.reduceLT,Int.reduceLE,↓iso_x1 _ _ hc1,h1,↓iso_2 hvar];exact ansx_fv _ _ _
  ·cases hev
 ·rw [if_neg h1] at hev;split at hev
  ·cases hev
  rename_i hb;have hk3:ks.length≤300:=by omega
  by_cases h2:m1.e≠0
  ·rw [if_pos h2] at hev;simp only [Option.some.injEq,Prod.mk.injEq] at hev;obtain ⟨rfl,rfl⟩:=hev;simp only [S52_117,S52_118,S52_119,S52_120,S52_121,S52_122,S52_123,S52_124,S52_126,S52_127,S52_128,S52_129,S52_130,S52_131,S52,↓XX,XY,↓reduceIte,Nat.reduceBEq,Nat.reduceAdd,Int.cast_ofNat_Int,Int.reduceEq,Int.reduceLT,Int.reduceLE,↓iso_x1 _ _ hc1,h1,h2,↓mk_p (show ks.length≤1000 by omega),↓fil_e]
   exact ev_ans (kk:=nils ks.length) (by simp [nils]) hk3
  ·rw [if_neg h2] at hev;have h2:m1.e=0:=by simpa using h2
   ·
    cases hkk:kdP (fun t m=>evP f env t m) op 0 ks m1 with
    | none=>rw [hkk] at hev;cases hev
    | some q =>
    obtain ⟨vs,m2⟩:=q;rw [hkk] at hev;simp only at hev;simp only [h2] at hc1;simp only [S52_117,S52_118,S52_119,S52_120,S52_121,S52_122,S52_123,S52_124,S52_126,S52_127,S52_128,S52_129,S52_130,S52_131,S52,↓XX,XY,↓reduceIte,Nat.reduceBEq,Nat.reduceAdd,Int.cast_ofNat_Int,Int.reduceEq,Int.reduceLT,Int.reduceLE,↓iso_x1 _ _ hc1,h1,h2,↓mk_p (show ks.length≤1000 by omega),↓fil_e,↓drop_mx,↓drop_e,XD,heldB,flatD,XE,flat_fv,names_fv]
    have hlen:=kdP_len hkk;refine loop_run (Q:=fun r=>AnsX r _ _) (fun k V H=>∃(pre rest:List Tm) (done:List PV) (m3:M3) (us:List PV),ks=pre++rest∧rest.length=k∧done.length=pre.length ∧
      V=[.ptr (.ext 0) 0,.fv (PV.encEnv env),.ptr (.own 54525952) 0,.ptr (.own 54530059) 0,.fv (.sl (ks.map Tm.enc)),iv ks.length,iv pre.length] ∧
      H=Hev op m ks env (done++nils rest.length) false m3.s m3.w r m3.e ∧
      kdP (fun t m=>evP f env t m) op pre.length rest m3=some (us,m2)∧done++us=vs)
     ?_ n ks.length _ _ (by omega) ⟨[],ks,[],m1,vs,rfl,rfl,rfl,rfl,by rw [h2];rfl,hkk,rfl⟩
    rintro k V H rec ⟨pre,rest,done,m3,us,hk,hl,hdl,rfl,rfl,hkids,hvs⟩ hrec;have hkl:ks.length=pre.length+rest.length:=by rw [hk];simp
    cases rest with
    | nil =>
     simp only [kdP,Option.some.injEq,Prod.mk.injEq] at hkids;obtain ⟨rfl,rfl⟩:=hkids;rw [List.append_nil] at hvs;subst hvs;have hno:¬ ((pre.length:Int)<ks.length):=by rw [hkl];simp
     have hz:done++nils ([]:List Tm).length=done:=by simp [nils]
     rw [hz];by_cases h4:m3.e≠0
     ·rw [if_pos h4] at hev;simp only [Option.some.injEq,Prod.mk.injEq] at hev;obtain ⟨rfl,rfl⟩:=hev;simp only [↓UU22,↓XX,XY,↓reduceIte,Nat.reduceBEq,Nat.reduceAdd,Int.cast_ofNat_Int,Int.reduceEq,Int.reduceLT,Int.reduceLE,hno,h4];exact ev_ans hlen hk3
     ·rw [if_neg h4] at hev;have h4:m3.e=0:=by simpa using h4
      have hcc:=hc _ _ _ _ hev r n (by omega);rw [penc_mk] at hcc;simp only [h4] at hcc;have hlm:(done.map PV.enc).length=ks.length:=by simp [hlen]
      simp only [↓UU22,↓XX,XY,↓reduceIte,Nat.reduceBEq,Nat.reduceAdd,Int.cast_ofNat_Int,Int.reduceEq,Int.reduceLT,Int.reduceLE,hno,h4];rw [iso_x2v hcc (s0:=54530059) (s2:=54530055) (own':=(Hev op m ks env done true m3.s m3.w r 0).own) (by rfl) (by rfl) hlm (by decide) (by omega) (by simp only [List.mem_map];rintro x ⟨v,_,rfl⟩;exact penc_agg v) (by rfl)];exact ansx_fv _ _ _
    | cons x rest =>
     have hi:(pre.length:Int)<ks.length:=by rw [hkl];simp;omega
     have hg:=at_pre hk;have hb:=pbind_ok (n:=n) (by omega) op pre.length;have hwi:w64 ((pre.length:Int)+1)=((pre++[x]).length:Int):=(w64_id (by omega) (by omega)).trans (by simp);simp only [kdP] at hkids;simp only [List.length_cons] at hl;by_cases hbn:0<bindN op pre.length
     ·rw [if_pos hbn] at hkids;have hbn':¬ ((bindN op pre.length:Nat):Int)=0:=by omega
      obtain ⟨o,p,l⟩:=x;simp only [↓UU22,↓XX,XY,↓reduceIte,Nat.reduceBEq,Nat.reduceAdd,Int.cast_ofNat_Int,Int.reduceEq,Int.reduceLT,Int.reduceLE,hi,↓ix_f (map_get hg) (agg3l _ _ _),↓agg3,↓iso_2 hb,hbn',hwi,↓drop_mx,↓drop_e,XD,heldB,flatD,XE,flat_fv,names_fv];cases hkk2:kdP (fun t m=>evP f env t m) op (pre.length+1) rest m3 with
      | none=>rw [hkk2] at hkids;cases hkids
      | some q =>
      obtain ⟨us',m4⟩:=q;rw [hkk2] at hkids;simp only [Option.map_some,Option.some.injEq,Prod.mk.injEq] at hkids;obtain ⟨rfl,rfl⟩:=hkids;refine hrec rest.length _ _ (by omega) ⟨pre++[.mk o p l],rest,done++[.nil],m3,us',by rw [hk];simp,rfl,by simp [hdl],rfl,?_,by simpa using hkk2,by rw [← hvs];simp⟩;rw [show done++[.nil]++nils rest.length=done++nils (rest.length+1) by simp [nils,List.replicate_succ]]
     ·rw [if_neg hbn] at hkids;have hbn':((bindN op pre.length:Nat):Int)=0:=by omega
      cases hev2:evP f env x m3 with
      | none=>rw [hev2] at hkids;cases hkids
      | some q =>
      obtain ⟨y,m4⟩:=q;rw [hev2] at hkids;simp only at hkids;cases hkk2:kdP (fun t m=>evP f env t m) op (pre.length+1) rest m4 with
      | none=>rw [hkk2] at hkids;cases hkids
      | some q =>
      obtain ⟨us',m5⟩:=q;rw [hkk2] at hkids;simp only [Option.map_some,Option.some.injEq,Prod.mk.injEq] at hkids;obtain ⟨rfl,rfl⟩:=hkids;have hce:=he _ _ _ _ _ hev2 r n (by omega);obtain ⟨o,p,l⟩:=x;rw [enc_mk] at hce;have hin:pre.length<ks.length:=by omega
      have hoff:=fun {β:Type}=>off_p (done:=done) (r:=rest.length) (β:=β);rw [hdl] at hoff;simp only [↓UU22,↓XX,XY,↓reduceIte,Nat.reduceBEq,Nat.reduceAdd,Int.cast_ofNat_Int,Int.reduceEq,Int.reduceLT,Int.reduceLE,hi,↓ix_f (map_get hg) (agg3l _ _ _),↓agg3,↓iso_2 hb,hbn',hwi,↓iso_x3 _ _ hce,↓ix_sl hin,↓on_enc,↓hoff,↓drop_mx,↓drop_e,XD,heldB,flatD,XE,flat_fv,names_fv];exact hrec rest.length _ _ (by omega) ⟨pre++[.mk o p l],rest,done++[y],m4,us',by rw [hk];simp,rfl,by simp [hdl],rfl,rfl,by simpa using hkk2,by rw [← hvs];simp⟩
theorem mx_ok:∀f,EvOk f∧CtOk f∧StOk f∧OpnOk f
 | 0=>⟨(fun _ _ _ _ _ h=>by rw [evP.eq_def] at h;cases h),(fun _ _ _ _ h=>by rw [ctP.eq_def] at h;cases h),(fun _ _ _ _ _ h=>by rw [stP.eq_def] at h;cases h),(fun _ _ _ _ _ _ h=>by rw [opP.eq_def] at h;cases h)⟩
 | f+1=>⟨ev_step (mx_ok f).1 (mx_ok f).2.1,ct_step (mx_ok f).2.2.1,st_step (mx_ok f).2.1 (mx_ok f).2.2.2,op_step (mx_ok f).1⟩
def upP (below:Int) (b:Nat):List PV:=(List.range b).map fun (j:Nat)=>PV.var (below+(j:Int))
theorem upP_succ (u:Int) (b:Nat):upP u (b+1)=upP u b++[PV.var (u+b)]:=by simp [upP,List.range_succ]
theorem upP_len (u:Int) (b:Nat):(upP u b).length=b:=by simp [upP]
def bkK (bk:PV→Int→M3→Int→Option (Tm×M3×Int)) (opn:Nat→List PV→M3→Option (PV×M3)) (op below:Int):Nat→List PV→M3→Int→Option (Option (List Tm)×M3×Int)
 | _,[],m,r=>some (some [],m,r)
 | i,x::l,m,r=>match (if 0<bindN op i then opn i (upP below (bindN op i)) m else some (x,m)) with
  | none=>none
  | some (y,m)=>if m.e≠0 then some (none,m,r) else match bk y (below+bindN op i) m r with
   | none=>none
   | some (t,m,r)=>(bkK bk opn op below (i+1) l m r).map fun (ts,m,r)=>(ts.map (t::·),m,r)
def bkP:Nat→PV→Int→Int→M3→Int→Option (Tm×M3×Int)
 | 0,_,_,_,_,_=>none
 | f+1,v,below,deep,m,r =>
  if r<0∨1000000000<r∨below<0∨1000000<below∨deep<0∨1000000<deep then none else
  match tickP ⟨m.s,m.w,if m.e=0∧(3000<r+1∨120<deep) then 5 else m.e⟩ with
  | none=>none
  | some m=>if m.e≠0 then some (.z,m,r+1) else match v with
   | .nil=>none
   | .mk op n k t e=>if op=1 then (if n < -2305843009213693952∨2305843009213693952<n then none else some (.mk 1 (below - 1 - n) [],m,r+1))
    else if f≤k.length+4∨100<k.length then none
    else match bkK (fun v below m r=>bkP f v below (deep+1) m r) (fun i l m=>opP f (.mk op n k t e) i l m) op below 0 k m (r+1) with
     | none=>none
     | some (none,m,r)=>some (.z,m,r)
     | some (some ts,m,r)=>some (.mk op n ts,m,r)
def BkOk (f:Nat):Prop:=∀(v:PV) (below deep:Int) (m:M3) (r:Int) (t:Tm) (m':M3) (r':Int),bkP f v below deep m r=some (t,m',r')→∀n,f+1≤n →
 AnsX (SS dt n 53 [.ptr (.ext 0) 0,.fv v.enc,iv below,iv deep] ⟨[],MX m.s m.w r m.e⟩) t.enc (MX m'.s m'.w r' m'.e)
theorem ml_x (j:Nat) (v:FV):mayLie (.ext j) (.fv v)=true:=rfl
theorem bk_start {ih:Handler} {n:Nat} {v w:FV} {below deep s u r e e1:Int} {ext:List Blk} (hr:0≤r) (hr2:r≤1000000000) (he1:(if e=0∧(3000<r+1∨120<deep) then (5:Int) else e)=e1)
  (h:AnsX (S53_288 ih ⟨[(55574528,.row [iv 0,iv 0,.nils] false)],MX s u (r+1) e1⟩ (.ptr (.ext 0) 0) (.ptr (.own 55574528) 0) (.fv v) (iv below) ⟨[],MX s u r e⟩ (iv deep) n) w ext) :
  AnsX (S53 ih n (.ptr (.ext 0) 0) (.fv v) (iv below) (iv deep) ⟨[],MX s u r e⟩) w ext:=by
 have wr:w64 (r+1)=r+1:=by rw [w64_id]<;>omega
 have key:S53 ih n (.ptr (.ext 0) 0) (.fv v) (iv below) (iv deep) ⟨[],MX s u r e⟩=S53_288 ih ⟨[(55574528,.row [iv 0,iv 0,.nils] false)],MX s u (r+1) e1⟩ (.ptr (.ext 0) 0) (.ptr (.own 55574528) 0) (.fv v) (iv below) ⟨[],MX s u r e⟩ (iv deep) n:=by
  by_cases h0:e=0
  ·by_cases h3:3000<r+1
   ·rw [if_pos ⟨h0,.inl h3⟩] at he1;subst he1;simp only [S53_261,S53_262,S53_263,S53_264,S53_265,S53_266,S53_267,S53_268,S53_269,S53_270,S53_271,S53_272,S53_273,S53_274,S53_275,S53_276,S53_277,S53_278,S53_279,S53_280,S53_281,S53_282,S53_283,S53_284,S53_285,S53_286,S53_287,S53_289,S53_290,S53_291,S53_292,S53_293,S53,↓XX,XY,↓reduceIte,Nat.reduceBEq,Nat.reduceAdd,Int.cast_ofNat_Int,Int.reduceEq,Int.reduceLT,Int.reduceLE,↓ml_x,wr,h0,h3]
   ·by_cases h4:120<deep
    ·rw [if_pos ⟨h0,.inr h4⟩] at he1;subst he1;simp only [S53_261,S53_262,S53_263,S53_264,S53_265,S53_266,S53_267,S53_268,S53_269,S53_270,S53_271,S53_272,S53_273,S53_274,S53_275,S53_276,S53_277,S53_278,S53_279,S53_280,S53_281,S53_282,S53_283,S53_284,S53_285,S53_286,S53_287,S53_289,S53_290,S53_291,S53_292,S53_293,S53,↓XX,XY,↓reduceIte,Nat.reduceBEq,Nat.reduceAdd,Int.cast_ofNat_Int,Int.reduceEq,Int.reduceLT,Int.reduceLE,↓ml_x,wr,h0,h3,h4]
    ·rw [if_neg (by omega)] at he1;subst he1;simp only [S53_261,S53_262,S53_263,S53_264,S53_265,S53_266,S53_267,S53_268,S53_269,S53_270,S53_271,S53_272,S53_273,S53_274,S53_275,S53_276,S53_277,S53_278,S53_279,S53_280,S53_281,S53_282,S53_283,S53_284,S53_285,S53_286,S53_287,S53_289,S53_290,S53_291,S53_292,S53_293,S53,↓XX,XY,↓reduceIte,Nat.reduceBEq,Nat.reduceAdd,Int.cast_ofNat_Int,Int.reduceEq,Int.reduceLT,Int.reduceLE,↓ml_x,wr,h0,h3,h4]
  ·rw [if_neg (by omega)] at he1;subst he1;simp only [S53_261,S53_262,S53_263,S53_264,S53_265,S53_266,S53_267,S53_268,S53_269,S53_270,S53_271,S53_272,S53_273,S53_274,S53_275,S53_276,S53_277,S53_278,S53_279,S53_280,S53_281,S53_282,S53_283,S53_284,S53_285,S53_286,S53_287,S53_289,S53_290,S53_291,S53_292,S53_293,S53,↓XX,XY,↓reduceIte,Nat.reduceBEq,Nat.reduceAdd,Int.cast_ofNat_Int,Int.reduceEq,Int.reduceLT,Int.reduceLE,↓ml_x,wr,h0]
 rw [key];exact h
noncomputable abbrev Hbk (done:List Tm) (rest:Nat) (more:List (Nat×Blk)) (s w r e:Int):Hp :=
 ⟨(55574528,.row [iv 0,iv 0,.nils] false)::(55583749,.row (cellsT done rest) false)::more,MX s w r e⟩
theorem iso_x4s {ih:Handler} {f:FuncId} {w x y:FV} {a b:IV} {s0 len:Nat} {s u r e s' u' r' e':Int} {own own':List (Nat×Blk)} {es:List FV} {ro:Bool} (hr:AnsX (ih f [.ptr (.ext 0) 0,.fv x,.fv y,.fv (.sl es)] ⟨[],MX s u r e⟩) w (MX s' u' r' e'))
  (ha:frzP a=some x) (hb:frzP b=some y) (hl:lookupOwn s0 own=some (.row (es.map .fv) ro)) (hlen:es.length=len) (hn:es.length≤300) (hag:∀x∈es,∀l,x≠.agg l) (ho:putOwn s0 (.row (es.map .fv) true) own=own')
  (k:IV→Hp→List Ref→List Ref→Option (IV×Hp)) :
  isoS [true,false,false,false] false false ih f [.ptr (.ext 0) 0,a,b,.slc (.own s0) 1 len] ⟨own,MX s u r e⟩ k=k (.fv w) ⟨own',MX s' u' r' e'⟩ [.ext 1,.ext 0,.own s0] [.own s0,.ext 0,.ext 1]:=by
 subst ho hlen;refine iso_g (ks:=[false,false,false]) (vs:=[x,y,.sl es]) (u:=[(.own s0,.row (es.map .fv) true)]) (lg:=[.own s0]) ?_ (extX ..) hr ?_ k
 ·intro e k;rw [fz1f,fzp_u _ _ e _ ha,fz1f,fzp_u _ _ e _ hb,fz1f,fz_slc (d:=10) hl hn hag,fz0];rfl
 ·intro k
  show (ownK own s0 fun _=>putOwnK own s0 (.row (es.map .fv) true) fun own=>k ⟨own,_⟩)=_
  rw [ownK_eq,hl,Option.bind_some,putOwnK_eq]
def resP (op n:Int) (done:List Tm):Option (List Tm)→Tm
 | none=>.z
 | some ts=>.mk op n (done++ts)
set_option maxRecDepth 20000 in
set_option maxHeartbeats 1000000 in
theorem bk_end {n:Nat} {op nn bo bn below deep:Int} {k e:List PV} {bk:List Tm} {done:List Tm} {s w r er:Int} (h4:Hp) {rec:List IV→Hp→Option (IV×Hp)} (hd:done.length=k.length) (hk:k.length≤100) :
  AnsX (S53_283 [.ptr (.ext 0) 0,.fv (PV.mk op nn k (.mk bo bn bk) e).enc,iv below,iv deep,.ptr (.own 55574528) 0,.slc (.own 55583749) 3 k.length,iv k.length,iv k.length] (Hbk done 0 [] s w r er) (SS dt n) h4 rec n)
   (Tm.mk op nn done).enc (MX s w r er):=by
 rw [penc_mk,enc_mk];have hno:¬ ((k.length:Int)<k.length):=by omega
 simp only [S53_261,S53_262,S53_263,S53_264,S53_265,S53_266,S53_267,S53_268,S53_269,S53_270,S53_271,S53_272,S53_273,S53_274,S53_275,S53_276,S53_277,S53_278,S53_279,S53_280,S53_281,S53_282,S53_283,S53_284,S53_285,S53_286,S53_287,S53_288,S53_289,S53_290,S53_291,S53_292,S53_293,S53,↓XX,XY,↓reduceIte,Nat.reduceBEq,Nat.reduceAdd,Int.cast_ofNat_Int,Int.reduceEq,Int.reduceLT,Int.reduceLE,↓ml_x,hno];rw [← hd];exact ⟨_,_,rfl,_,_,fun e0 K=>fz_tm (by rfl) (by omega) [] e0 K⟩
def MoreP (more:List (Nat×Blk)):Prop:=more=[]∨∃(l:List FV) (ro:Bool),more=[(55589889,.row (l.map .fv) ro)]
set_option maxRecDepth 20000 in
set_option maxHeartbeats 1000000 in
theorem bk_b0 {n:Nat} {v y:FV} {below deep b len i:IV} {done:List Tm} {rest kl:Nat} {more:List (Nat×Blk)} {s w r e:Int} (hM:MoreP more) (h4:Hp) {rec:List IV→Hp→Option (IV×Hp)} (he:e≠0) :
  AnsX (S53_267 (.ptr (.ext 0) 0) (Hbk done rest more s w r e) (.ptr (.own 55574528) 0) below b deep (SS dt n) (.fv y) (.slc (.own 55583749) 3 kl) i i h4 (.fv v) len rec) Tm.z.enc (MX s w r e):=by
 rcases hM with rfl | ⟨l,ro,rfl⟩
 ·simp only [↓UU20,↓XX,XY,↓reduceIte,Nat.reduceBEq,Nat.reduceAdd,Int.cast_ofNat_Int,Int.reduceEq,Int.reduceLT,Int.reduceLE,↓ml_x,he];exact ansx_p rfl _ _
 ·simp only [↓UU20,↓XX,XY,↓reduceIte,Nat.reduceBEq,Nat.reduceAdd,Int.cast_ofNat_Int,Int.reduceEq,Int.reduceLT,Int.reduceLE,↓ml_x,he];exact ansx_p rfl _ _
set_option maxRecDepth 20000 in
set_option maxHeartbeats 1000000 in
theorem bk_b1 {f n:Nat} {v:FV} {y:PV} {below deep:Int} {b:Nat} {len:Int} {done:List Tm} {rest kl:Nat} {more:List (Nat×Blk)} {m m5:M3} {r r5:Int} {t5:Tm} {w:FV} {ext:List Blk} (hb:BkOk f) (hn:f+1≤n) (hM:MoreP more) (ext4:List Blk)
  {rec:List IV→Hp→Option (IV×Hp)} (he:m.e=0) (hbk:bkP f y (below+b) (deep+1) m r=some (t5,m5,r5)) (hb1:0≤below) (hb2:below≤1000000) (hb3:b≤10) (hd1:0≤deep) (hd2:deep≤1000000) (hkl:done.length<kl) (hkl2:kl≤100)
  (h:AnsX (rec [.ptr (.ext 0) 0,.fv v,iv below,iv deep,.ptr (.own 55574528) 0,.slc (.own 55583749) 3 kl,iv len,iv (done++[t5]).length] (Hbk (done++[t5]) rest [] m5.s m5.w r5 m5.e)) w ext) :
  AnsX (S53_267 (.ptr (.ext 0) 0) (Hbk done (rest+1) more m.s m.w r m.e) (.ptr (.own 55574528) 0) (iv below) (iv b) (iv deep) (SS dt n) (.fv y.enc) (.slc (.own 55583749) 3 kl) (iv done.length) (iv done.length) ⟨[],ext4⟩ (.fv v) (iv len) rec) w ext:=by
 have hc:=hb _ _ _ _ _ _ _ _ hbk n hn;have wb:w64 (below+b)=below+b:=by rw [w64_id]<;>omega
 have wd:w64 (deep+1)=deep+1:=by rw [w64_id]<;>omega
 have wi:w64 ((done.length:Int)+1)=((done++[t5]).length:Int):=(w64_id (by omega) (by omega)).trans (by simp);obtain ⟨o,p,ks⟩:=t5;rw [enc_mk] at hc;simp only [he] at hc ⊢;rcases hM with rfl | ⟨l,ro,rfl⟩
 ·simp only [↓UU20,↓XX,XY,↓reduceIte,Nat.reduceBEq,Nat.reduceAdd,Int.cast_ofNat_Int,Int.reduceEq,Int.reduceLT,Int.reduceLE,↓ml_x,wb,wd,↓iso_x4 _ _ hc,↓ix_sl3 hkl,↓set_t,wi,↓drop_mx,↓drop_e,XD,heldB,flatD,XE,flat_fv,names_fv,flat_t,names_t];exact h
 ·simp only [↓UU20,↓XX,XY,↓reduceIte,Nat.reduceBEq,Nat.reduceAdd,Int.cast_ofNat_Int,Int.reduceEq,Int.reduceLT,Int.reduceLE,↓ml_x,wb,wd,↓iso_x4 _ _ hc,↓ix_sl3 hkl,↓set_t,wi,↓drop_mx,↓drop_e,XD,heldB,flatD,XE,flat_fv,names_fv,flat_t,names_t];exact h
set_option maxRecDepth 20000 in
set_option maxHeartbeats 1000000 in
theorem bk_in {f n:Nat} {v y:PV} {below deep:Int} {i b kl:Nat} {len:Int} {done:List Tm} {rest:Nat} {m m4:M3} {r:Int} {w:FV} {ext:List Blk} (hn:f+1≤n) (h3:3≤n) (ext4:List Blk)
  {j:IV→IV→IV→IV→IV→IV→IV→IV→IV→IV→IV→Hp→Option (IV×Hp)} (hb:b≤2) (hb1:0≤below) (hb2:below≤1000000) (hop:opP f v i (upP below b) m=some (y,m4))
  (hj:AnsX (j (.ptr (.ext 0) 0) (.fv v.enc) (iv below) (iv deep) (.ptr (.own 55574528) 0) (.slc (.own 55583749) 3 kl) (iv i) (.fv y.enc) (iv b) (iv len) (iv i)
   (Hbk done rest [(55589889,.row (((upP below b).map PV.enc).map .fv) true)] m4.s m4.w r m4.e)) w ext) :
  AnsX (loopS n (fun q119 l120 h121=>S53_273 l120 h121 ⟨[],ext4⟩ q119 (SS dt n) j) [.ptr (.ext 0) 0,.fv v.enc,iv below,iv deep,.ptr (.own 55574528) 0,.slc (.own 55583749) 3 kl,iv i,iv b,.slc (.own 55589889) 1 b,iv len,iv i,iv b,iv 0]
   (Hbk done rest [(55589889,.row (((nils b).map PV.enc).map .fv) false)] m.s m.w r m.e)) w ext:=by
 refine loop_run (Q:=fun r=>AnsX r _ _) (fun t V H=>∃(k:Nat),k+t=b ∧
   V=[.ptr (.ext 0) 0,.fv v.enc,iv below,iv deep,.ptr (.own 55574528) 0,.slc (.own 55583749) 3 kl,iv i,iv b,.slc (.own 55589889) 1 b,iv len,iv i,iv b,iv k] ∧
   H=Hbk done rest [(55589889,.row (((upP below k++nils t).map PV.enc).map .fv) false)] m.s m.w r m.e) ?_ n b _ _ (by omega) ⟨0,by omega,rfl,rfl⟩
 rintro t V H rec ⟨k,hkt,rfl,rfl⟩ hrec;cases t with
 | zero =>
  have hkb:k=b:=by omega
  subst hkb;have hno:¬ ((k:Int)<k):=by omega
  have hc:=(mx_ok f).2.2.2 _ _ _ _ _ _ hop r n hn;rw [show upP below k++nils 0=upP below k by simp [nils]]
  simp only [S53_261,S53_262,S53_263,S53_264,S53_265,S53_266,S53_267,S53_268,S53_269,S53_270,S53_271,S53_272,S53_274,S53_275,S53_276,S53_277,S53_278,S53_279,S53_280,S53_281,S53_282,S53_284,S53_285,S53_286,S53_287,S53_288,S53_289,S53_290,S53_291,S53_292,S53_293,S53,S53_273,↓XX,XY,↓reduceIte,Nat.reduceBEq,Nat.reduceAdd,Int.cast_ofNat_Int,Int.reduceEq,Int.reduceLT,Int.reduceLE,↓ml_x,hno];rw [iso_x4s hc rfl rfl (s0:=55589889) (own':=(Hbk done rest [(55589889,.row (((upP below k).map PV.enc).map .fv) true)] m4.s m4.w r m4.e).own) (by rfl) (by simp [upP_len]) (by simp [upP_len];omega) (by simp only [List.mem_map];rintro x ⟨v,_,rfl⟩;exact penc_agg v) (by rfl)];exact hj
 | succ t =>
  have hlt:(k:Int)<b:=by omega
  have hkb:k<b:=by omega
  have wk:w64 ((k:Int)+1)=((k+1:Nat):Int):=(w64_id (by omega) (by omega)).trans (by simp);have wbk:w64 (below+(k:Int))=below+k:=by rw [w64_id]<;>omega
  have hoff:=fun {β:Type}=>off_p (done:=upP below k) (r:=t) (β:=β) (PV.var (below+k));rw [upP_len,pvar_enc] at hoff;simp only [S53_261,S53_262,S53_263,S53_264,S53_265,S53_266,S53_267,S53_268,S53_269,S53_270,S53_271,S53_272,S53_274,S53_275,S53_276,S53_277,S53_278,S53_279,S53_280,S53_281,S53_282,S53_284,S53_285,S53_286,S53_287,S53_288,S53_289,S53_290,S53_291,S53_292,S53_293,S53,S53_273,↓XX,XY,↓reduceIte,Nat.reduceBEq,Nat.reduceAdd,Int.cast_ofNat_Int,Int.reduceEq,Int.reduceLT,Int.reduceLE,↓ml_x,hlt,wbk];rw [fzs_agg (fc:=[.int .i64 1,.int .i64 (below+k),.sl [],.int .i64 0,.int .i64 0,.sl [],.nilp]) rfl (by simp)];simp only [↓XX,XY,↓reduceIte,Nat.reduceBEq,Nat.reduceAdd,Int.cast_ofNat_Int,Int.reduceEq,Int.reduceLT,Int.reduceLE,↓ml_x,↓ix_sl hkb,↓hoff,wk,↓drop_mx,↓drop_e,XD,heldB,flatD,XE,flat_fv,names_fv,flat_t,names_t];exact hrec t _ _ (by omega) ⟨k+1,by omega,rfl,by rw [upP_succ]⟩
set_option maxRecDepth 20000 in
set_option maxHeartbeats 1000000 in
theorem bk_step {f:Nat} (hb:BkOk f):BkOk (f+1):=by
 intro v below deep m r t m' r' hev n hn;obtain ⟨n,rfl⟩:∃k,n=k+1:=⟨n - 1,by omega⟩;rw [c53];rw [bkP.eq_def] at hev;simp only at hev;split at hev
 ·cases hev
 rename_i hbad;have wd:w64 (deep+1)=deep+1:=by rw [w64_id]<;>omega
 have wb1:w64 (below - 1)=below - 1:=by rw [w64_id]<;>omega
 generalize he1:(if m.e=0∧(3000<r+1∨120<deep) then (5:Int) else m.e)=e1 at hev;cases ht:tickP ⟨m.s,m.w,e1⟩ with
 | none=>rw [ht] at hev;cases hev
 | some m1 =>
 rw [ht] at hev;simp only at hev;have hc1:=tick_ok ht (r+1) (n:=n) (by omega);simp only at hc1;refine bk_start (by omega) (by omega) he1 ?_;by_cases h1:m1.e≠0
 ·rw [if_pos h1] at hev;simp only [Option.some.injEq,Prod.mk.injEq] at hev;obtain ⟨rfl,rfl,rfl⟩:=hev;simp only [↓UU20,↓XX,XY,↓reduceIte,Nat.reduceBEq,Nat.reduceAdd,Int.cast_ofNat_Int,Int.reduceEq,Int.reduceLT,Int.reduceLE,↓ml_x,↓iso_x1 _ _ hc1,h1];exact ansx_p rfl _ _
 ·rw [if_neg h1] at hev;have h1:m1.e=0:=by simpa using h1
  cases v with
  | nil=>cases hev
  | mk op nn k t0 e =>
  obtain ⟨bo,bn,bk⟩:=t0;simp only at hev;by_cases h2:op=1
  ·rw [if_pos h2] at hev;split at hev
   ·cases hev
   rename_i hnn;simp only [Option.some.injEq,Prod.mk.injEq] at hev;obtain ⟨rfl,rfl,rfl⟩:=hev;have wb2:w64 (below - 1 - nn)=below - 1 - nn:=by rw [w64_id]<;>omega
   rw [penc_mk];simp only [↓UU20,↓XX,XY,↓reduceIte,Nat.reduceBEq,Nat.reduceAdd,Int.cast_ofNat_Int,Int.reduceEq,Int.reduceLT,Int.reduceLE,↓ml_x,↓iso_x1 _ _ hc1,h1,h2,wb1,wb2];exact ansx_p rfl _ _
  ·rw [if_neg h2] at hev;split at hev
   ·cases hev
   rename_i hk100;have hk100:k.length≤100:=by omega
   cases hkk:bkK (fun v below m r=>bkP f v below (deep+1) m r) (fun i l m=>opP f (.mk op nn k (.mk bo bn bk) e) i l m) op below 0 k m1 (r+1) with
   | none=>rw [hkk] at hev;cases hev
   | some q =>
   obtain ⟨res,m2,r2⟩:=q;rw [hkk] at hev;have hres:t=resP op nn [] res∧m'=m2∧r'=r2:=by
    cases res with
    | none=>simp only [Option.some.injEq,Prod.mk.injEq] at hev;exact ⟨hev.1.symm,hev.2.1.symm,hev.2.2.symm⟩
    | some ts=>simp only [Option.some.injEq,Prod.mk.injEq] at hev;exact ⟨hev.1.symm,hev.2.1.symm,hev.2.2.symm⟩
   obtain ⟨ht5,rfl,rfl⟩:=hres;generalize hV:PV.mk op nn k (.mk bo bn bk) e=V5 at *;have hVe:V5.enc=.fp [.int .i64 op,.int .i64 nn,.sl (k.map PV.enc),.int .i64 bo,.int .i64 bn,.sl (bk.map Tm.enc),PV.encEnv e] 0:=by rw [← hV,penc_mk]
   rw [hVe];simp only [↓UU20,↓XX,XY,↓reduceIte,Nat.reduceBEq,Nat.reduceAdd,Int.cast_ofNat_Int,Int.reduceEq,Int.reduceLT,Int.reduceLE,↓ml_x,↓iso_x1 _ _ hc1,h1,h2,↓mk_t (show k.length≤1000 by omega),↓drop_mx,↓drop_e,XD,heldB,flatD,XE,flat_fv,names_fv,flat_t,names_t]
   refine loop_run (Q:=fun r=>AnsX r _ _) (fun j V H=>∃(pre rest:List PV) (done:List Tm) (m3:M3) (r3:Int) (res3:Option (List Tm)),k=pre++rest∧rest.length=j∧done.length=pre.length ∧
     V=[.ptr (.ext 0) 0,.fv V5.enc,iv below,iv deep,.ptr (.own 55574528) 0,.slc (.own 55583749) 3 k.length,iv k.length,iv pre.length] ∧
     H=Hbk done rest.length [] m3.s m3.w r3 m3.e ∧
     bkK (fun v below m r=>bkP f v below (deep+1) m r) (fun i l m=>opP f V5 i l m) op below pre.length rest m3 r3=some (res3,m',r')∧resP op nn done res3=t)
    ?_ n k.length _ _ (by omega) ⟨[],k,[],m1,r+1,res,rfl,rfl,rfl,by rw [hVe];rfl,by rw [h1],hkk,ht5.symm⟩
   rintro j V H rec ⟨pre,rest,done,m3,r3,res3,hk,hl,hdl,rfl,rfl,hkids,hts⟩ hrec;have hkl:k.length=pre.length+rest.length:=by rw [hk];simp
   cases rest with
   | nil =>
    simp only [bkK,Option.some.injEq,Prod.mk.injEq] at hkids;obtain ⟨rfl,rfl,rfl⟩:=hkids;rw [List.length_nil,Nat.add_zero] at hkl;rw [← hts,← hV,resP,List.append_nil,← hkl];exact bk_end _ (by omega) hk100
   | cons x rest =>
    have hi:(pre.length:Int)<k.length:=by rw [hkl];simp;omega
    have hg:=at_pre hk;have hbn:=pbind_ok (n:=n) (by omega) op pre.length;have hble:=bindN_le op pre.length;simp only [bkK] at hkids;simp only [List.length_cons] at hl hkl;have behind:∀(y:PV) (m4:M3) (more:List (Nat×Blk)),MoreP more→(if m4.e≠0 then some (none,m4,r3) else match bkP f y (below+bindN op pre.length) (deep+1) m4 r3 with
       | none=>none
       | some (t,m,r)=>(bkK (fun v below m r=>bkP f v below (deep+1) m r) (fun i l m=>opP f V5 i l m) op below (pre.length+1) rest m r).map fun (ts,m,r)=>(ts.map (t::·),m,r))=some (res3,m',r') →
      AnsX (S53_267 (.ptr (.ext 0) 0) (Hbk done (rest.length+1) more m4.s m4.w r3 m4.e) (.ptr (.own 55574528) 0) (iv below) (iv (bindN op pre.length)) (iv deep) (SS dt n) (.fv y.enc) (.slc (.own 55583749) 3 k.length) (iv pre.length) (iv pre.length) ⟨[],MX m.s m.w r m.e⟩ (.fv V5.enc) (iv k.length) rec)
       t.enc (MX m'.s m'.w r' m'.e):=by
     intro y m4 more hM hy;by_cases h4:m4.e≠0
     ·rw [if_pos h4] at hy;simp only [Option.some.injEq,Prod.mk.injEq] at hy;obtain ⟨rfl,rfl,rfl⟩:=hy;rw [← hts];exact bk_b0 hM _ h4
     ·rw [if_neg h4] at hy;have h4:m4.e=0:=by simpa using h4
      cases hbk:bkP f y (below+bindN op pre.length) (deep+1) m4 r3 with
      | none=>rw [hbk] at hy;cases hy
      | some q =>
      obtain ⟨t5,m5,r5⟩:=q;rw [hbk] at hy;simp only at hy;cases hk2:bkK (fun v below m r=>bkP f v below (deep+1) m r) (fun i l m=>opP f V5 i l m) op below (pre.length+1) rest m5 r5 with
      | none=>rw [hk2] at hy;cases hy
      | some q =>
      obtain ⟨res6,m6,r6⟩:=q;rw [hk2] at hy;simp only [Option.map_some,Option.some.injEq,Prod.mk.injEq] at hy;obtain ⟨rfl,rfl,rfl⟩:=hy;rw [← hdl];refine bk_b1 hb (by omega) hM _ h4 (by rw [hdl];exact hbk) (by omega) (by omega) (by rw [hdl];omega) (by omega) (by omega) (by omega) hk100 ?_;refine hrec rest.length _ _ (by omega) ⟨pre++[x],rest,done++[t5],m5,r5,res6,by rw [hk];simp,rfl,by simp [hdl],by simp [hdl],rfl,by simpa using hk2,?_⟩;rw [← hts];cases res6 with
      | none=>rfl
      | some ts=>simp [resP]
    rw [hVe];by_cases hb0:0<bindN op pre.length
    ·rw [if_pos hb0] at hkids;have hb0':(0:Int)<bindN op pre.length:=by omega
     cases hop:opP f V5 pre.length (upP below (bindN op pre.length)) m3 with
     | none=>rw [hop] at hkids;cases hkids
     | some q =>
     obtain ⟨y,m4⟩:=q;rw [hop] at hkids;have h9:=behind y m4 [(55589889,.row (((upP below (bindN op pre.length)).map PV.enc).map .fv) true)] (.inr ⟨_,_,rfl⟩) hkids;have hin:=bk_in (f:=f) (n:=n) (v:=V5) (y:=y) (below:=below) (deep:=deep) (i:=pre.length) (b:=bindN op pre.length) (kl:=k.length) (len:=k.length) (done:=done) (rest:=rest.length+1) (m:=m3) (m4:=m4) (r:=r3) (w:=t.enc) (ext:=MX m'.s m'.w r' m'.e) (by omega) (by omega) (MX m.s m.w r m.e)
      (j:=fun x79 x80 x81 x82 x83 x84 x85 x86 x87 x88 x89 h90=>S53_267 x79 h90 x83 x81 x87 x82 (SS dt n) x86 x84 x85 x89 ⟨[],MX m.s m.w r m.e⟩ x80 x88 rec) (by omega) (by omega) (by omega) hop h9
     simp only [S53_261,S53_262,S53_263,S53_264,S53_265,S53_266,S53_268,S53_269,S53_270,S53_271,S53_272,S53_274,S53_275,S53_276,S53_277,S53_278,S53_279,S53_280,S53_281,S53_282,S53_283,S53_284,S53_285,S53_286,S53_287,S53_288,S53_289,S53_290,S53_291,S53_292,S53_293,S53,↓XX,XY,↓reduceIte,Nat.reduceBEq,Nat.reduceAdd,Int.cast_ofNat_Int,Int.reduceEq,Int.reduceLT,Int.reduceLE,↓ml_x,hi,↓ix_p hg,↓iso_2 hbn,hb0',↓mk_p (show bindN op pre.length≤1000 by omega),↓drop_mx,↓drop_e,XD,heldB,flatD,XE,flat_fv,names_fv,flat_t,names_t]
     rw [hVe] at hin;exact hin
    ·rw [if_neg hb0] at hkids;have hb0':¬ (0:Int)<bindN op pre.length:=by omega
     have h9:=behind x m3 [] (.inl rfl) hkids;simp only [S53_261,S53_262,S53_263,S53_264,S53_265,S53_266,S53_268,S53_269,S53_270,S53_271,S53_272,S53_274,S53_275,S53_276,S53_277,S53_278,S53_279,S53_280,S53_281,S53_282,S53_283,S53_284,S53_285,S53_286,S53_287,S53_288,S53_289,S53_290,S53_291,S53_292,S53_293,S53,↓XX,XY,↓reduceIte,Nat.reduceBEq,Nat.reduceAdd,Int.cast_ofNat_Int,Int.reduceEq,Int.reduceLT,Int.reduceLE,↓ml_x,hi,↓ix_p hg,↓iso_2 hbn,hb0'];rw [hVe] at h9;exact h9
theorem bk_ok:∀f,BkOk f
 | 0=>(fun _ _ _ _ _ _ _ _ h=>by rw [bkP.eq_def] at h;cases h)
 | f+1=>bk_step (bk_ok f)
noncomputable abbrev ruleO (mb:Nat) (f:FuncId):IV:=.agg [.func (.func f) [.ptr (.own mb) 0] []]
noncomputable abbrev rulesO (mb:Nat):List (Int×IV):=[(5,ruleO mb 72),(8,ruleO mb 73),(9,ruleO mb 73),(13,ruleO mb 74),(30,ruleO mb 75),(19,ruleO mb 76)]
theorem on_mapr (r:Ref):IV.one (.mapr r)=true:=rfl
theorem alv_dead {β:Type} (l:List IV) (e:Option β) (k:List FV→Option β):allFvK (.dead::l) e k=e:=rfl
theorem of4 {β:Type} (x y z u v b:IV) (l:List IV) (k:List IV→Option β):offK (x::y::z::u::v::l) 4 b k=k (x::y::z::u::b::l):=rfl
theorem mk_m (s:Nat) (own:List (Nat×Blk)) (ext:List Blk) (k:IV→Hp→List Ref→List Ref→Option (IV×Hp)):genS (pcMakeMap s) s ⟨own,ext⟩ k=freshK own s (putOwnK own s (.map []) fun own=>k (.mapr (.own s)) ⟨own,ext⟩ [] [.own s]):=by
 unfold genS;simp only [pcMakeMap,Rd.runLog,newK,fBk_eq,fV_eq];rfl
noncomputable def mapK (b:Blk) (k:List (Int×IV)→Option (IV×Hp)):Option (IV×Hp):=match b with
 | .map es=>k es
 | _=>none
theorem as_map (es:List (Int×IV)) (k:List (Int×IV)→Option (IV×Hp)):mapK (.map es) k=k es:=rfl
theorem ins_e (m j:Nat) (v:IV) (hv:v.alive=true) (n:Int) (s:Nat) (own:List (Nat×Blk)) (ext:List Blk) (k:IV→Hp→List Ref→List Ref→Option (IV×Hp)) :
  genS (pcInsert EE 78 (.mapr (.own m)) (iv n) v) s ⟨own,ext⟩ k=ownK own m fun b=>mapK b fun es=>putOwnK own m (.map (putMap n v es)) fun own=>k .dead ⟨own,ext⟩ [.own m] [.own m]:=by
 have h1:=tMk;have h2:=tIk;cases hm:EE.T 78 with
 | none=>rw [hm] at h1;cases h1
 | some ti =>
  cases hi:EE.T 3 with
  | none=>rw [hi] at h2;cases h2
  | some ii =>
   rw [hm] at h1;rw [hi] at h2;obtain ⟨a,b,kd,z⟩:=ti;obtain ⟨a2,b2,kd2,z2⟩:=ii;simp only [Option.map_some,Option.some.injEq] at h1 h2;subst h1 h2;rw [ownK_eq];unfold genS;cases hl:lookupOwn m own with
   | none=>simp only [pcInsert,hm,hi,iv_e,Rd.runLog,Hp.get,hl];rfl
   | some bl =>
    cases bl with
    | row c ro=>simp only [pcInsert,hm,hi,iv_e,Rd.runLog,Hp.get,hl];rfl
    | tok a b=>simp only [pcInsert,hm,hi,iv_e,Rd.runLog,Hp.get,hl];rfl
    | map es =>
     simp only [pcInsert,hm,hi,iv_e,Rd.runLog,Hp.get,hl,ml_own,hv,and_self,if_true,Option.bind_some,as_map]
     show (fRf (.own m) fun q=>getK q ⟨own,ext⟩ fun _=>fBk (.map (putMap n v es)) fun b=>layK q b ⟨own,ext⟩ fun h=>newK none s h fun h=>fV 3 .dead fun v=>k v h [.own m] ([.own m]++[]))=_
     simp only [fRf_eq,fBk_eq,fV_eq,newK,layK,getK];rw [ownK_eq,hl];rfl
theorem iso_om {ks:List Bool} (hks:∀b∈ks,b=false) {ih:Handler} {f:FuncId} {args:List IV} {vs:List FV} {w:FV} {mb mp:Nat} {own:List (Nat×Blk)} {s u r e s' u' r' e':Int} (hz:frzPL args=some vs) (hne:mb≠mp)
  (hl1:lookupOwn mb own=some (.row [iv s,iv u,iv r,iv e,.mapr (.own mp)] false)) (hl2:lookupOwn mp own=some (.map (rulesO mb))) (hr:AnsX (ih f (.ptr (.ext 0) 0::vs.map .fv) ⟨[],MX s u r e⟩) w (MX s' u' r' e')) (k:IV→Hp→List Ref→List Ref→Option (IV×Hp)) :
  isoS (true::ks) false false ih f (.ptr (.own mb) 0::args) ⟨own,[]⟩ k=k (.fv w) ⟨putOwn mp (.map (rulesO mb)) (putOwn mb (.row [iv s',iv u',iv r',iv e',.mapr (.own mp)] false) own),[]⟩ [.own mp,.own mb] [.own mb,.own mp]:=by
 obtain ⟨v,own',e1,hfz⟩:=hr;obtain ⟨uu,hu⟩:=ansx_frz hfz;have hD:isoD (true::ks) false false ih f (.ptr (.own mb) 0::args) ⟨own,[]⟩ k=k (.fv w) ⟨putOwn mp (.map (rulesO mb)) (putOwn mb (.row [iv s',iv u',iv r',iv e',.mapr (.own mp)] false) own),[]⟩ [.own mp,.own mb] [.own mb,.own mp]:=by
  have h1:frzArgs (true::ks) (.ptr (.own mb) 0::args)=.ret (.ptr (.own mb) 0::vs.map .fv,[.own mb],[]):=by
   simp only [frzArgs,frz_argsk args ks hks hz,Rd.bind,IV.refs];rfl
  have hn1:¬ (Ref.own mp=Ref.own mb):=by intro h;cases h;exact hne rfl
  have h2:(gather 4096 [.own mb] []).runLog ⟨own,[]⟩ []=some ([(.own mb,.row [iv s,iv u,iv r,iv e,.mapr (.own mp)] false),(.own mp,.map (rulesO mb))],[.own mp,.own mb]):=by
   show (gather (4087+1+1+1+1+1+1+1+1+1) [.own mb] []).runLog ⟨own,[]⟩ []=_
   simp only [gather,hasRef,Bool.false_eq_true,if_false,Rd.runLog,Hp.get,hl1,hl2,Blk.refs,IV.refs.refsL,IV.refs,List.append_nil,List.nil_append,List.cons_append,List.map_cons,List.map_nil,hn1,decide_false,decide_true,Bool.or_false,Bool.true_or,if_true]
  have p1:into [(.own mb,.row [iv s,iv u,iv r,iv e,.mapr (.own mp)] false),(.own mp,.map (rulesO mb))] (.own mb)=some (.ext 0):=by simp [into,placeOf]
  have p2:into [(.own mb,.row [iv s,iv u,iv r,iv e,.mapr (.own mp)] false),(.own mp,.map (rulesO mb))] (.own mp)=some (.ext 1):=by simp [into,placeOf,hn1]
  have h3:IV.ren.renL (into [(.own mb,.row [iv s,iv u,iv r,iv e,.mapr (.own mp)] false),(.own mp,.map (rulesO mb))]) (.ptr (.own mb) 0::vs.map .fv)=some (.ptr (.ext 0) 0::vs.map .fv):=by
   simp only [IV.ren.renL,IV.ren,p1,Option.map_some,Option.bind_some,renL_fv]
  have h4:renBlks (into [(.own mb,.row [iv s,iv u,iv r,iv e,.mapr (.own mp)] false),(.own mp,.map (rulesO mb))]) [.row [iv s,iv u,iv r,iv e,.mapr (.own mp)] false,.map (rulesO mb)]=some (MX s u r e):=by
   simp only [renBlks,Blk.ren,IV.ren.renL,IV.ren,p1,p2,Option.map_some,Option.bind_some,List.map_cons,List.map_nil,List.zip_cons_cons,List.zip_nil_left]
  have h5:renBlks (back [(.own mb,.row [iv s,iv u,iv r,iv e,.mapr (.own mp)] false),(.own mp,.map (rulesO mb))]) (MX s' u' r' e')=some [.row [iv s',iv u',iv r',iv e',.mapr (.own mp)] false,.map (rulesO mb)]:=by
   simp only [renBlks,Blk.ren,IV.ren.renL,IV.ren,back,List.getElem?_cons_zero,List.getElem?_cons_succ,Option.map_some,Option.bind_some,List.map_cons,List.map_nil,List.zip_cons_cons,List.zip_nil_left]
  unfold isoD;simp only [h1,Rd.runLog,h2,h3,List.map_cons,List.map_nil,h4,fL_eq (fV_eq 3),fL_eq fBk_eq,askedD,Bool.false_eq_true,if_false,e1,hu,Option.map_some,IV.ren,h5,List.length_cons,List.length_nil,keys,List.all_nil,and_self,if_true,List.nil_append,List.zip_cons_cons,List.zip_nil_left];have hl3:lookupOwn mp (putOwn mb (.row [iv s',iv u',iv r',iv e',.mapr (.own mp)] false) own)=some (.map (rulesO mb)):=by
   rw [← hl2];clear hl1 hl2 h2 e1 hu hfz
   induction own with
   | nil=>simp only [putOwn,lookupOwn,if_neg (fun h=>hne (Eq.symm h))]
   | cons p l ih =>
    obtain ⟨j,c⟩:=p;simp only [putOwn];split
    ·rename_i h;subst h;simp only [lookupOwn,if_neg (fun h=>hne (Eq.symm h))]
    ·simp only [lookupOwn,ih]
  have h6:laid ⟨own,[]⟩ [(.own mb,.row [iv s',iv u',iv r',iv e',.mapr (.own mp)] false),(.own mp,.map (rulesO mb))]=some ⟨putOwn mp (.map (rulesO mb)) (putOwn mb (.row [iv s',iv u',iv r',iv e',.mapr (.own mp)] false) own),[]⟩:=by
   simp only [laid,Hp.get,hl1,Hp.set,hl3]
  simp only [h6,fH_eq,fV_eq]
 rw [iso_e,fz1k,as_p,fza_k 0 args _ _ _ _ ks hks hz];simp only [isoC,goB_own,cond_false];exact hD
def knum (op:Int):Int:=if op=8∨op=9∨op=12∨op=19∨op=30 then 1 else if op=4∨op=5 then 2 else if op=7 then 3 else if op=13 then 4 else -1
theorem kids_ok {n:Nat} (hn:0<n) (op:Int):Ans (SS dt n 71 [iv op] ⟨[],[]⟩) (.int .i64 (knum op)):=by
 obtain ⟨n,rfl⟩:∃k,n=k+1:=⟨n - 1,by omega⟩;rw [c71];unfold knum;by_cases h:op=8∨op=9∨op=12∨op=19∨op=30
 ·rw [if_pos h];rcases h with rfl | rfl | rfl | rfl | rfl<;>(simp only [↓UU18,↓XX,XY,↓reduceIte,Nat.reduceBEq,Nat.reduceAdd,Int.cast_ofNat_Int,Int.reduceEq,Int.reduceLT,Int.reduceLE];exact ans_fv _ _)
 ·rw [if_neg h];have h8:¬ op=8:=fun e=>h (by simp [e]);have h9:¬ op=9:=fun e=>h (by simp [e]);have h12:¬ op=12:=fun e=>h (by simp [e]);have h19:¬ op=19:=fun e=>h (by simp [e]);have h30:¬ op=30:=fun e=>h (by simp [e]);by_cases h2:op=4∨op=5
  ·rw [if_pos h2];rcases h2 with rfl | rfl<;>(simp only [↓UU18,↓XX,XY,↓reduceIte,Nat.reduceBEq,Nat.reduceAdd,Int.cast_ofNat_Int,Int.reduceEq,Int.reduceLT,Int.reduceLE];exact ans_fv _ _)
  ·rw [if_neg h2];have h4:¬ op=4:=fun e=>h2 (by simp [e]);have h5:¬ op=5:=fun e=>h2 (by simp [e]);by_cases h7:op=7
   ·subst h7;simp only [↓UU18,↓XX,XY,↓reduceIte,Nat.reduceBEq,Nat.reduceAdd,Int.cast_ofNat_Int,Int.reduceEq,Int.reduceLT,Int.reduceLE];exact ans_fv _ _
   ·by_cases h13:op=13
    ·subst h13;simp only [↓UU18,↓XX,XY,↓reduceIte,Nat.reduceBEq,Nat.reduceAdd,Int.cast_ofNat_Int,Int.reduceEq,Int.reduceLT,Int.reduceLE];exact ans_fv _ _
    ·simp only [↓UU18,↓XX,XY,↓reduceIte,Nat.reduceBEq,Nat.reduceAdd,Int.cast_ofNat_Int,Int.reduceEq,Int.reduceLT,Int.reduceLE,h4,h5,h7,h8,h9,h12,h13,h19,h30];exact ans_fv _ _
mutual
def Tm.shaped:Tm→Bool
 | .mk op n ks=>!(decide (0≤knum op∧knum op≠ks.length) || decide (op=1∧n<0)) && Tm.shapedL ks
def Tm.shapedL:List Tm→Bool
 | []=>true
 | t::l=>t.shaped && Tm.shapedL l
end
set_option maxHeartbeats 1000000 in
theorem shaped_ok:∀(n:Nat) (t:Tm),t.wt+1<n→t.wt≤1152921504606846976→Ans (SS dt n 50 [.fv t.enc] ⟨[],[]⟩) (.bool t.shaped):=by
 intro n
 induction n with
 | zero=>intro t h;omega
 | succ n ih =>
  intro t h hw;obtain ⟨op,m,ks⟩:=t;simp only [Tm.wt] at h hw;rw [c50,enc_mk];have hlen:=wt_len ks;have hk:=kids_ok (n:=n) (by omega) op;rw [Tm.shaped];have wl:∀j:Nat,j≤ks.length→w64 (j:Int)=j:=fun j hj=>w64_id (by omega) (by omega);have loop:Ans (loopS n (fun q99 l100 h101=>S50_132 l100 h101 (SS dt n) ⟨[],[]⟩ q99) [.fv (.sl (ks.map Tm.enc)),iv ks.length,iv 0] ⟨[(52428800,.row [iv op,iv m,.fv (.sl (ks.map Tm.enc))] false)],[]⟩) (.bool (Tm.shapedL ks)):=by
   refine loop_run (Q:=fun r=>Ans r _) (fun k V H=>∃pre rest,ks=pre++rest∧rest.length=k∧V=[.fv (.sl (ks.map Tm.enc)),iv ks.length,iv pre.length]∧H=⟨[(52428800,.row [iv op,iv m,.fv (.sl (ks.map Tm.enc))] false)],[]⟩∧Tm.shapedL rest=Tm.shapedL ks)
    ?_ n ks.length _ _ (by omega) ⟨[],ks,rfl,rfl,rfl,rfl,rfl⟩
   rintro k V H rec ⟨pre,rest,hk,hl,rfl,rfl,ht⟩ hrec;have hkl:ks.length=pre.length+rest.length:=by rw [hk];simp
   cases rest with
   | nil =>
    have hno:¬ ((pre.length:Int)<ks.length):=by rw [hkl];simp
    rw [← ht];simp only [S50_129,S50_130,S50_131,S50_132,S50_133,S50_134,S50_135,S50_136,S50,↓XX,XY,↓reduceIte,Nat.reduceBEq,Nat.reduceAdd,Int.cast_ofNat_Int,Int.reduceEq,Int.reduceLT,Int.reduceLE,hno,Tm.shapedL];exact ans_fv _ _
   | cons t rest =>
    have hi:(pre.length:Int)<ks.length:=by rw [hkl];simp;omega
    have hg:=at_pre hk;have htw:=wt_mem (t:=t) (l:=ks) (by rw [hk];simp);have hs:=ih t (by omega) (by omega);have hwi:w64 ((pre.length:Int)+1)=((pre++[t]).length:Int):=(w64_id (by omega) (by omega)).trans (by simp);simp only [Tm.shapedL] at ht;generalize t.shaped=v at hs ht;obtain ⟨o,p,l⟩:=t;simp only [List.length_cons] at hl;rw [enc_mk] at hs;cases v
    ·rw [← ht];simp only [S50_129,S50_130,S50_131,S50_132,S50_133,S50_134,S50_135,S50_136,S50,↓XX,XY,↓reduceIte,Nat.reduceBEq,Nat.reduceAdd,Int.cast_ofNat_Int,Int.reduceEq,Int.reduceLT,Int.reduceLE,hi,↓ix_f (map_get hg) (agg3l _ _ _),↓agg3,hwi,↓iso_1 hs,Bool.false_and];exact ans_fv _ _
    ·simp only [S50_129,S50_130,S50_131,S50_132,S50_133,S50_134,S50_135,S50_136,S50,↓XX,XY,↓reduceIte,Nat.reduceBEq,Nat.reduceAdd,Int.cast_ofNat_Int,Int.reduceEq,Int.reduceLT,Int.reduceLE,hi,↓ix_f (map_get hg) (agg3l _ _ _),↓agg3,hwi,↓iso_1 hs,↓drop_e,XD,heldB,flatD,XE];refine hrec rest.length _ _ (by omega) ?_;exact ⟨pre++[.mk o p l],rest,by rw [hk];simp,rfl,rfl,rfl,by simpa using ht⟩
  by_cases h0:0≤knum op
  ·by_cases h1:knum op=ks.length
   ·by_cases h2:op=1
    ·exfalso;subst h2;revert h0;decide
    ·have e1:(!(decide (0≤knum op∧knum op≠ks.length) || decide (op=1∧m<0)) && Tm.shapedL ks)=Tm.shapedL ks:=by simp [h1,h2]
     rw [e1];have h0':(0:Int)≤ks.length:=by omega
     rw [h1] at hk;simp only [↓UU19,↓XX,XY,↓reduceIte,Nat.reduceBEq,Nat.reduceAdd,Int.cast_ofNat_Int,Int.reduceEq,Int.reduceLT,Int.reduceLE,↓iso_1 hk,h0',h2,↓drop_e,XD,heldB,flatD,XE];exact loop
   ·have e1:(!(decide (0≤knum op∧knum op≠ks.length) || decide (op=1∧m<0)) && Tm.shapedL ks)=false:=by simp [h0,h1]
    rw [e1];simp only [↓UU19,↓XX,XY,↓reduceIte,Nat.reduceBEq,Nat.reduceAdd,Int.cast_ofNat_Int,Int.reduceEq,Int.reduceLT,Int.reduceLE,↓iso_1 hk,h0,h1];exact ans_fv _ _
  ·by_cases h2:op=1
   ·subst h2;by_cases h3:m<0
    ·have e1:(!(decide (0≤knum 1∧knum 1≠ks.length) || decide ((1:Int)=1∧m<0)) && Tm.shapedL ks)=false:=by simp [h3]
     rw [e1];simp only [↓UU19,↓XX,XY,↓reduceIte,Nat.reduceBEq,Nat.reduceAdd,Int.cast_ofNat_Int,Int.reduceEq,Int.reduceLT,Int.reduceLE,↓iso_1 hk,h0,h3];exact ans_fv _ _
    ·have e1:(!(decide (0≤knum 1∧knum 1≠ks.length) || decide ((1:Int)=1∧m<0)) && Tm.shapedL ks)=Tm.shapedL ks:=by simp [h0,h3]
     rw [e1];simp only [↓UU19,↓XX,XY,↓reduceIte,Nat.reduceBEq,Nat.reduceAdd,Int.cast_ofNat_Int,Int.reduceEq,Int.reduceLT,Int.reduceLE,↓iso_1 hk,h0,h3,↓drop_e,XD,heldB,flatD,XE];exact loop
   ·have e1:(!(decide (0≤knum op∧knum op≠ks.length) || decide (op=1∧m<0)) && Tm.shapedL ks)=Tm.shapedL ks:=by simp [h0,h2]
    rw [e1];simp only [↓UU19,↓XX,XY,↓reduceIte,Nat.reduceBEq,Nat.reduceAdd,Int.cast_ofNat_Int,Int.reduceEq,Int.reduceLT,Int.reduceLE,↓iso_1 hk,h0,h2,↓drop_e,XD,heldB,flatD,XE];exact loop
def normP (f:Nat) (t:Tm):Option (Tm×Int) :=
 if t.shaped=false then some (.z,1) else match evP f [] t ⟨100000,5000000,0⟩ with
 | none=>none
 | some (v,m)=>if m.e≠0 then some (.z,m.e) else match bkP f v 0 1 m 0 with
  | none=>none
  | some (u,m,_)=>if m.e≠0 then some (.z,m.e) else some (u,0)
theorem inl_e {ih:Handler} {f:FuncId} {args:List IV} {h h':Hp} {v:IV} (hr:ih f args h=some (v,h')) (k:IV→Hp→List Ref→List Ref→Option (IV×Hp)):inlS ih f args h k=k v h' [] []:=by
 unfold inlS;rw [hr]
noncomputable abbrev Hnm (a b:Blk) (s u r e:Int):Hp :=
 ⟨[(20971520,a),(20971521,b),(53478401,.row [iv s,iv u,iv r,iv e,.mapr (.own 53479425)] false),(53479425,.map (rulesO 53478401))],[]⟩
noncomputable abbrev Hbg (a b:Blk) (es:List (Int×IV)):Hp :=
 ⟨[(20971520,a),(20971521,b),(53478401,.row [iv 100000,iv 5000000,iv 0,iv 0,.dead] false),(53479425,.map es)],[]⟩
noncomputable abbrev fnO (g:FuncId):IV:=.func (.func g) [.ptr (.own 53478401) 0] []
theorem ins_b (a b:Blk) (es:List (Int×IV)) (g:FuncId) (n:Int) (s:Nat) (k:IV→Hp→List Ref→List Ref→Option (IV×Hp)) :
  genS (pcInsert EE 78 (.mapr (.own 53479425)) (iv n) (ruleO 53478401 g)) s (Hbg a b es) k=k .dead (Hbg a b (putMap n (ruleO 53478401 g) es)) [.own 53479425] [.own 53479425]:=by
 rw [ins_e _ 0 _ rfl,ownK_eq];rw [show lookupOwn 53479425 (Hbg a b es).own=some (.map es) from rfl,Option.bind_some,as_map,putOwnK_eq]
 rfl
theorem bld_b (g:FuncId) (k:IV→Option (IV×Hp)):bldS [.fv .nilf] [(0,1,fnO g)] k=k (ruleO 53478401 g):=rfl
theorem begun_69 (a b:Blk) (es:List (Int×IV)):S51_69 (.ptr (.own 53478401) 0) (Hbg a b es) (.mapr (.own 53479425))=some (.ptr (.own 53478401) 0,⟨[(20971520,a),(20971521,b),(53478401,.row [iv 100000,iv 5000000,iv 0,iv 0,.mapr (.own 53479425)] false),(53479425,.map es)],[]⟩):=by
 simp only [S51_69,↓XX,XY,↓reduceIte,Nat.reduceBEq,Nat.reduceAdd,Int.cast_ofNat_Int,Int.reduceEq,Int.reduceLT,Int.reduceLE,↓on_mapr,↓of4]
theorem gen_fn (g:FuncId) (s:Nat) (h:Hp) (k:IV→Hp→List Ref→List Ref→Option (IV×Hp)):genS (Idl.val (mkFunc (.func g) [.ptr (.own 53478401) 0] [])) s h k=k (fnO g) h [] []:=gen_val' _ _ _ _
theorem begun_70 (a b:Blk) (es:List (Int×IV)):S51_70 (fnO 75) (Hbg a b es) (.mapr (.own 53479425)) (.ptr (.own 53478401) 0) =
  S51_69 (.ptr (.own 53478401) 0) (Hbg a b (putMap 19 (ruleO 53478401 76) (putMap 30 (ruleO 53478401 75) es))) (.mapr (.own 53479425)):=by
 unfold S51_70;rw [bld_b,ins_b,gen_fn,bld_b,ins_b]
theorem begun_71 (a b:Blk) (es:List (Int×IV)):S51_71 (Hbg a b es) (.mapr (.own 53479425)) (ruleO 53478401 73) (.ptr (.own 53478401) 0) =
  S51_70 (fnO 75) (Hbg a b (putMap 13 (ruleO 53478401 74) (putMap 9 (ruleO 53478401 73) es))) (.mapr (.own 53479425)) (.ptr (.own 53478401) 0):=by
 unfold S51_71;rw [ins_b,gen_fn,bld_b,ins_b,gen_fn]
theorem begun_72 (a b:Blk) (es:List (Int×IV)):S51_72 (Hbg a b es) (.ptr (.own 53478401) 0) (.mapr (.own 53479425)) =
  S51_71 (Hbg a b (putMap 8 (ruleO 53478401 73) es)) (.mapr (.own 53479425)) (ruleO 53478401 73) (.ptr (.own 53478401) 0):=by
 unfold S51_72;rw [gen_fn,bld_b,ins_b,gen_fn,bld_b]
theorem bld_m (k:IV→Option (IV×Hp)):bldS [.fv (.int .i64 0),.fv (.int .i64 0),.fv (.int .i64 0),.fv (.int .i64 0),.dead] [(0,1,.fv (.int .i64 100000)),(1,1,.fv (.int .i64 5000000))] k=k (.agg [iv 100000,iv 5000000,iv 0,iv 0,.dead]):=by
 simp only [↓XX,XY,↓reduceIte,Nat.reduceBEq,Nat.reduceAdd,Int.cast_ofNat_Int,Int.reduceEq,Int.reduceLT,Int.reduceLE,↓alv_dead]
theorem begun_e {n:Nat} (hn:0<n) (a b:Blk):SS dt n 51 [] ⟨[(20971520,a),(20971521,b)],[]⟩=some (.ptr (.own 53478401) 0,Hnm a b 100000 5000000 0 0):=by
 obtain ⟨n,rfl⟩:∃k,n=k+1:=⟨n - 1,by omega⟩;rw [c51];unfold S51;rw [bld_m,box_agg'];have e1:∀k:IV→Hp→List Ref→List Ref→Option (IV×Hp),newS 53478401 (.row [iv 100000,iv 5000000,iv 0,iv 0,.dead] false) (.ptr (.own 53478401) 0) ⟨[(20971520,a),(20971521,b)],[]⟩ k =
   k (.ptr (.own 53478401) 0) ⟨[(20971520,a),(20971521,b),(53478401,.row [iv 100000,iv 5000000,iv 0,iv 0,.dead] false)],[]⟩ [] [.own 53478401]:=by
  intro k;simp only [↓XX,XY,↓reduceIte,Nat.reduceBEq,Nat.reduceAdd,Int.cast_ofNat_Int,Int.reduceEq,Int.reduceLT,Int.reduceLE]
 rw [e1];have e2:∀k:IV→Hp→List Ref→List Ref→Option (IV×Hp),genS (pcMakeMap 53479425) 53479425 ⟨[(20971520,a),(20971521,b),(53478401,.row [iv 100000,iv 5000000,iv 0,iv 0,.dead] false)],[]⟩ k =
   k (.mapr (.own 53479425)) (Hbg a b []) [] [.own 53479425]:=by
  intro k;rw [mk_m];simp only [↓XX,XY,↓reduceIte,Nat.reduceBEq,Nat.reduceAdd,Int.cast_ofNat_Int,Int.reduceEq,Int.reduceLT,Int.reduceLE]
 rw [e2,gen_fn,bld_b,ins_b,begun_72,begun_71,begun_70,begun_69];rfl
section
variable {ih:Handler} {f:FuncId} {w:FV} {a b:Blk} {s u r e s' u' r' e':Int} (k:IV→Hp→List Ref→List Ref→Option (IV×Hp))
theorem iso_n (args:List IV) (ks:List Bool) (hks:∀b∈ks,b=false) {vs:List FV} (hz:frzPL args=some vs) (hr:AnsX (ih f (.ptr (.ext 0) 0::vs.map .fv) ⟨[],MX s u r e⟩) w (MX s' u' r' e')) :
  isoS (true::ks) false false ih f (.ptr (.own 53478401) 0::args) (Hnm a b s u r e) k=k (.fv w) (Hnm a b s' u' r' e') [.own 53479425,.own 53478401] [.own 53478401,.own 53479425]:=by
 rw [iso_om hks hz (mp:=53479425) (by decide) (by rfl) (by rfl) hr];rfl
theorem iso_n3 {x y:IV} {vx vy:FV} (hr:AnsX (ih f [.ptr (.ext 0) 0,.fv vx,.fv vy] ⟨[],MX s u r e⟩) w (MX s' u' r' e')) (hx:frzP x=some vx) (hy:frzP y=some vy) :
  isoS [true,false,false] false false ih f [.ptr (.own 53478401) 0,x,y] (Hnm a b s u r e) k=k (.fv w) (Hnm a b s' u' r' e') [.own 53479425,.own 53478401] [.own 53478401,.own 53479425] :=
 iso_n k [x,y] [false,false] (by simp) (zl_2 hx hy) hr
theorem iso_n4 {x y z:IV} {vx vy vz:FV} (hr:AnsX (ih f [.ptr (.ext 0) 0,.fv vx,.fv vy,.fv vz] ⟨[],MX s u r e⟩) w (MX s' u' r' e')) (hx:frzP x=some vx) (hy:frzP y=some vy) (hz:frzP z=some vz) :
  isoS [true,false,false,false] false false ih f [.ptr (.own 53478401) 0,x,y,z] (Hnm a b s u r e) k=k (.fv w) (Hnm a b s' u' r' e') [.own 53479425,.own 53478401] [.own 53478401,.own 53479425] :=
 iso_n k [x,y,z] [false,false,false] (by simp) (zl_3 hx hy hz) hr
end
set_option maxRecDepth 20000 in
set_option maxHeartbeats 1000000 in
theorem normP_ok {f n:Nat} {t u:Tm} {e:Int} (h:normP f t=some (u,e)) (hn:f+3≤n) (hw:t.wt+3<n) (hw2:t.wt≤1152921504606846976):Ans (SS dt n 20 [.fv t.enc] ⟨[],[]⟩) (.tuple [u.enc,.int .i64 e]):=by
 obtain ⟨n,rfl⟩:∃k,n=k+1:=⟨n - 1,by omega⟩;rw [c20];have hs:=shaped_ok n t (by omega) hw2;unfold normP at h;obtain ⟨op,m,ks⟩:=t;rw [enc_mk] at hs ⊢;by_cases h0:(Tm.mk op m ks).shaped=false
 ·rw [if_pos h0] at h;simp only [Option.some.injEq,Prod.mk.injEq] at h;obtain ⟨rfl,rfl⟩:=h;rw [h0] at hs;simp only [S20_77,S20_78,S20_79,S20_80,S20_81,S20_82,S20_83,S20_84,S20_85,S20_86,S20,↓XX,XY,↓reduceIte,Nat.reduceBEq,Nat.reduceAdd,Int.cast_ofNat_Int,Int.reduceEq,Int.reduceLT,Int.reduceLE,↓iso_1 hs];exact ans_t rfl (by simp) _
 ·rw [if_neg h0] at h;have h0:(Tm.mk op m ks).shaped=true:=by simpa using h0
  rw [h0] at hs;cases hev:evP f [] (.mk op m ks) ⟨100000,5000000,0⟩ with
  | none=>rw [hev] at h;cases h
  | some q =>
   obtain ⟨v,m1⟩:=q;rw [hev] at h;simp only at h;have hc1:=(mx_ok f).1 _ _ _ _ _ hev 0 n (by omega);rw [enc_mk,penv_nil] at hc1;by_cases h1:m1.e=0
   ·rw [if_neg (by simpa using h1)] at h;simp only [h1] at hc1;cases hbk:bkP f v 0 1 m1 0 with
    | none=>rw [hbk] at h;cases h
    | some q =>
     obtain ⟨u1,m2,r2⟩:=q;rw [hbk] at h;simp only at h;have hc2:=bk_ok f _ _ _ _ _ _ _ _ hbk n (by omega);obtain ⟨o1,n1,k1⟩:=u1;rw [enc_mk] at hc2;simp only [h1] at hc2;by_cases h2:m2.e=0
     ·rw [if_neg (by simpa using h2)] at h;simp only [Option.some.injEq,Prod.mk.injEq] at h;obtain ⟨rfl,rfl⟩:=h;rw [enc_mk];simp only [S20_77,S20_78,S20_79,S20_80,S20_81,S20_82,S20_83,S20_84,S20_85,S20_86,S20,↓XX,XY,↓reduceIte,Nat.reduceBEq,Nat.reduceAdd,Int.cast_ofNat_Int,Int.reduceEq,Int.reduceLT,Int.reduceLE,↓iso_1 hs,↓inl_e (begun_e (n:=n) (by omega) _ _),↓iso_n3 _ hc1,↓iso_n4 _ hc2,h1,h2];exact ans_fv _ _
     ·rw [if_pos h2] at h;simp only [Option.some.injEq,Prod.mk.injEq] at h;obtain ⟨rfl,rfl⟩:=h;simp only [S20_77,S20_78,S20_79,S20_80,S20_81,S20_82,S20_83,S20_84,S20_85,S20_86,S20,↓XX,XY,↓reduceIte,Nat.reduceBEq,Nat.reduceAdd,Int.cast_ofNat_Int,Int.reduceEq,Int.reduceLT,Int.reduceLE,↓iso_1 hs,↓inl_e (begun_e (n:=n) (by omega) _ _),↓iso_n3 _ hc1,↓iso_n4 _ hc2,h1,h2];exact ans_t rfl (by simp) _
   ·rw [if_pos h1] at h;simp only [Option.some.injEq,Prod.mk.injEq] at h;obtain ⟨rfl,rfl⟩:=h;simp only [S20_77,S20_78,S20_79,S20_80,S20_81,S20_82,S20_83,S20_84,S20_85,S20_86,S20,↓XX,XY,↓reduceIte,Nat.reduceBEq,Nat.reduceAdd,Int.cast_ofNat_Int,Int.reduceEq,Int.reduceLT,Int.reduceLE,↓iso_1 hs,↓inl_e (begun_e (n:=n) (by omega) _ _),↓iso_n3 _ hc1,h1];exact ans_t rfl (by simp) _
end Idl
end Go.Proofs.Ytbkdidonegggdaa
namespace Go.Proofs.Ytbkdidonegggdaa
namespace Idl
theorem knum_ar {op:Int} {r:Nat} (h:ar op=some r):¬ (0≤knum op∧knum op≠(r:Int)):=by
 unfold knum;by_cases h1:op=8∨op=9∨op=12∨op=19∨op=30
 ·rw [if_pos h1];rcases h1 with rfl | rfl | rfl | rfl | rfl<;>(cases (show r=1 from by have:=h;revert this;simp [ar];omega);decide)
 ·rw [if_neg h1];by_cases h2:op=4∨op=5
  ·rw [if_pos h2];rcases h2 with rfl | rfl<;>(cases (show r=2 from by have:=h;revert this;simp [ar];omega);decide)
  ·rw [if_neg h2];by_cases h7:op=7
   ·subst h7;cases (show r=3 from by have:=h;revert this;simp [ar];omega);decide
   ·rw [if_neg h7];by_cases h13:op=13
    ·subst h13;cases (show r=4 from by have:=h;revert this;simp [ar];omega);decide
    ·rw [if_neg h13];omega
mutual
theorem sc_shaped:∀(t:Tm) (k:Nat),t.sc k→t.shaped=true
 | .mk op n ks,k,h=>by
  rw [Tm.sc] at h;rw [Tm.shaped,scL_shaped op 0 ks k h.2.2];have h1:=knum_ar h.1;have h2:¬ (op=1∧n<0):=by
   rintro ⟨rfl,h3⟩
   have:=h.2.1
   rw [if_pos rfl] at this;omega
  rw [decide_eq_false h1,decide_eq_false h2];rfl
theorem scL_shaped:∀(op:Int) (i:Nat) (l:List Tm) (k:Nat),Tm.scL op i l k→Tm.shapedL l=true
 | _,_,[],_,_=>by rw [Tm.shapedL]
 | op,i,t::l,k,h=>by
  rw [Tm.scL] at h;rw [Tm.shapedL,sc_shaped t _ h.1,scL_shaped op (i+1) l k h.2];rfl
end
mutual
def Tm.surf:Tm→Nat
 | .mk op _ ks=>1+Tm.surfL op 0 ks
def Tm.surfL:Int→Nat→List Tm→Nat
 | _,_,[]=>0
 | op,i,t::l=>(if 0<bindN op i then 0 else t.surf)+Tm.surfL op (i+1) l
end
mutual
def Tm.inn:Tm→Nat
 | .mk op _ ks=>Tm.innL op 0 ks
def Tm.innL:Int→Nat→List Tm→Nat
 | _,_,[]=>0
 | op,i,t::l=>(if 0<bindN op i then t.wt else t.inn)+Tm.innL op (i+1) l
end
mutual
theorem surf_inn:∀t:Tm,t.surf+t.inn=t.wt
 | .mk op n ks=>by
  have:=surfL_innL op 0 ks
  simp only [Tm.surf,Tm.inn,Tm.wt];omega
theorem surfL_innL:∀(op:Int) (i:Nat) (l:List Tm),Tm.surfL op i l+Tm.innL op i l=Tm.wtL l
 | _,_,[]=>rfl
 | op,i,t::l=>by
  have h1:=surf_inn t;have h2:=surfL_innL op (i+1) l;simp only [Tm.surfL,Tm.innL,Tm.wtL];split<;>omega
end
mutual
def RV.vsz:RV→Nat
 | .mk op _ k _ _=>1+RV.vszL op 0 k
def RV.vszL:Int→Nat→List RV→Nat
 | _,_,[]=>0
 | op,i,v::l=>(if 0<bindN op i then 0 else v.vsz)+RV.vszL op (i+1) l
end
theorem vsz_pos (v:RV):1≤v.vsz:=by obtain ⟨op,n,k,env,b⟩:=v;rw [RV.vsz];omega
inductive Rel (B:Nat):PV→RV→Prop
 | var (n:Int):Rel B (.var n) (.var n)
 | node (op n n':Int) (kp:List PV) (kr:List RV) (ts:List Tm) (e:List PV) (env:List RV) (h1:op≠1) (har:ar op=some ts.length) (hl:kp.length=ts.length) (hl2:kr.length=ts.length)
   (hk:∀i p r,bindN op i=0→kp[i]?=some p→kr[i]?=some r→Rel B p r)
   (hb:∀i b,0<bindN op i→ts[i]?=some b→(b.good∧b.wt≤B)∧kp[i]?=some .nil∧kr[i]?=some (.clo env b))
   (hel:e.length=env.length) (he:∀(i:Nat) p r,e[i]?=some p→env.reverse[i]?=some r→Rel B p r):Rel B (.mk op n kp (.mk op n' ts) e) (.node op n kr)
def EnvRel (B:Nat) (e:List PV) (env:List RV):Prop:=e.length=env.length∧∀(i:Nat) p r,e[i]?=some p→env.reverse[i]?=some r→Rel B p r
theorem rel_mk {B:Nat} {p:PV} {r:RV} (h:Rel B p r):∃op n k t e,p=.mk op n k t e∧r.op=op∧r.n=n:=by
 cases h with
 | var n=>exact ⟨_,_,_,_,_,rfl,rfl,rfl⟩
 | node=>exact ⟨_,_,_,_,_,rfl,rfl,rfl⟩
theorem envrel_nil (B:Nat):EnvRel B [] []:=⟨rfl,fun i p r h=>by simp at h⟩
theorem envrel_add {B:Nat} {e l:List PV} {env l':List RV} (h:EnvRel B e env) (hl:l.length=l'.length) (hr:∀(i:Nat) p r,l[i]?=some p→l'[i]?=some r→Rel B p r):EnvRel B (l.reverse++e) (env++l'):=by
 refine ⟨by simp [h.1,hl,Nat.add_comm],?_⟩;intro i p r hp hr';rw [List.reverse_append] at hr';by_cases hi:i<l.length
 ·rw [List.getElem?_append_left (by simpa using hi),List.getElem?_reverse hi] at hp;rw [List.getElem?_append_left (by simp;omega),List.getElem?_reverse (by omega)] at hr';exact hr _ _ _ hp (by rw [hl];exact hr')
 ·rw [List.getElem?_append_right (by simp;omega),List.length_reverse] at hp;rw [List.getElem?_append_right (by simp;omega),List.length_reverse,← hl] at hr';exact h.2 _ _ _ hp hr'
theorem env_get {B:Nat} {e:List PV} {env:List RV} (h:EnvRel B e env) {m:Int} (h0:0≤m) (hm:m<env.length) {r:RV} (hr:env[(env.length - 1 - m).toNat]?=some r):Rel B (lookP e m) r:=by
 rw [lookP,if_pos (by rw [h.1];exact hm)];have hi:m.toNat<e.length:=by rw [h.1];omega
 rw [List.getD_eq_getElem?_getD,List.getElem?_eq_getElem hi];refine h.2 m.toNat _ _ (List.getElem?_eq_getElem hi) ?_;rw [List.getElem?_reverse (by omega),show env.length - 1 - m.toNat=(env.length - 1 - m).toNat by omega]
 exact hr
structure Cost (t:Tm) (v:RV) (k c u:Nat):Prop where
 le:c≤t.surf+k * t.inn
 p:2 * u≤c+2 * k
 q:2 * u+1≤c+2 * k∨t.op=19∧v.op=19∨t.op=30∧v.op=30
 v:k=0→t.surf≤v.vsz
structure MOk (m:M3) (k T:Nat):Prop where
 e:m.e=0
 w:(T:Int)≤m.w
 w2:m.w≤5000000
 s:(k:Int)≤m.s
 s2:m.s≤100000
def aft (m:M3) (k T:Nat):M3:=⟨m.s - k,m.w - T,0⟩
theorem aft_aft (m:M3) (k1 T1 k2 T2:Nat):aft (aft m k1 T1) k2 T2=aft m (k1+k2) (T1+T2):=by
 simp only [aft,M3.mk.injEq,and_true];omega
theorem mok_1 {m:M3} {k1 T1 k2 T2:Nat} (h:MOk m (k1+k2) (T1+T2)):MOk m k1 T1:=⟨h.e,by have:=h.w;omega,h.w2,by have:=h.s;omega,h.s2⟩
theorem mok_2 {m:M3} {k1 T1 k2 T2:Nat} (h:MOk m (k1+k2) (T1+T2)):MOk (aft m k1 T1) k2 T2:=⟨rfl,by have:=h.w;simp only [aft];omega,by have:=h.w2;simp only [aft];omega,by have:=h.s;simp only [aft];omega,by have:=h.s2;simp only [aft];omega⟩
theorem tick_1 {m:M3} {k T:Nat} (h:MOk m k (1+T)):tickP m=some (aft m 0 1):=by
 have h1:=h.w;have h2:=h.w2;have h3:=h.e;rw [tickP,if_neg (by omega),if_neg (by omega),h3];simp only [aft,Option.some.injEq,M3.mk.injEq,and_true];omega
def DoneE (B:Nat) (e:List PV) (t:Tm) (v:RV) (k T:Nat):Prop:=∃v',Rel B v' v∧∃F,∀f,F≤f→∀m,MOk m k T→evP f e t m=some (v',aft m k T)
def EvAll (B f:Nat):Prop:=∀(s:Int) (t:Tm) (env:List RV) (v:RV) (s':Int),evalR f s 0 t env=some (v,s',0)→t.good→t.wt≤B→∀e,EnvRel B e env→∃k c u T:Nat,s'=s+k∧Cost t v k c u∧T≤c+u+2 * k∧DoneE B e t v k T
def slackL (op:Int):Nat→List Tm→List RV→Nat
 | _,[],_=>0
 | _,_::_,[]=>0
 | i,t::l,v::vs=>(if 0<bindN op i then 0 else if t.op=19∧v.op=19∨t.op=30∧v.op=30 then 0 else 1)+slackL op (i+1) l vs
theorem mul_le2 (k1 k2 a b:Nat):k1 * a+k2 * b≤(k1+k2) * (a+b):=by
 rw [Nat.add_mul,Nat.mul_add,Nat.mul_add];have h1:0≤k1 * b:=Nat.zero_le _;have h2:0≤k2 * a:=Nat.zero_le _;omega
theorem kids_sim {B f:Nat} (ih:EvAll B f) (op:Int) (env:List RV) (e:List PV) (he:EnvRel B e env):∀(l:List Tm) (i:Nat) (s:Int) (vs:List RV) (s':Int),kidsG (fun s e t=>evalR f s e t env) op env i l s 0=some (vs,s',0)→Tm.goodL l→Tm.wtL l≤B →
  ∃k c u T:Nat,s'=s+k∧c≤Tm.surfL op i l+k * Tm.innL op i l∧2 * u+slackL op i l vs≤c+2 * k∧(k=0→Tm.surfL op i l≤RV.vszL op i vs)∧T≤c+u+2 * k∧vs.length=l.length ∧
   ∃ps:List PV,ps.length=l.length∧(∀j t,l[j]?=some t→0<bindN op (i+j)→ps[j]?=some .nil∧vs[j]?=some (.clo env t))∧(∀j p r,bindN op (i+j)=0→ps[j]?=some p→vs[j]?=some r→Rel B p r) ∧
    (∀j t r,l[j]?=some t→bindN op (i+j)=0→vs[j]?=some r→∃s1 s2,evalR f s1 0 t env=some (r,s2,0))∧∃F,∀g,F≤g→∀m,MOk m k T→kdP (fun t m=>evP g e t m) op i l m=some (ps,aft m k T)
 | [],i,s,vs,s',h,_,_=>by
  simp only [kidsG,Option.some.injEq,Prod.mk.injEq] at h;obtain ⟨rfl,rfl,_⟩:=h;refine ⟨0,0,0,0,by omega,by omega,by rw [slackL];omega,fun _=>by rw [Tm.surfL,RV.vszL];omega,by omega,rfl,[],rfl,fun j t h=>by simp at h,fun j p r _ h=>by simp at h,fun j t r h=>by simp at h,0,fun g _ m hm=>?_⟩
  have:aft m 0 0=m:=by
   obtain ⟨a,b,c⟩:=m
   have:=hm.e
   simp only at this;subst this;simp [aft]
  rw [kdP,this]
 | t::l,i,s,vs,s',h,hg,hw=>by
  rw [Tm.goodL] at hg;rw [Tm.wtL] at hw;simp only [kidsG] at h;by_cases hb:0<bindN op i
  ·rw [if_pos hb] at h;cases hk:kidsG (fun s e t=>evalR f s e t env) op env (i+1) l s 0 with
   | none=>rw [hk] at h;cases h
   | some q =>
    obtain ⟨vs1,s1,e1⟩:=q;rw [hk] at h;simp only [Option.map_some,Option.some.injEq,Prod.mk.injEq] at h;obtain ⟨rfl,rfl,rfl⟩:=h;obtain ⟨k,c,u,T,h1,h2,h3,h4,h5,h6,ps,h7,h8,h9,h10,F,h11⟩:=kids_sim ih op env e he l (i+1) s vs1 s1 hk hg.2 (by omega);refine ⟨k,c,u,T,h1,?_,?_,?_,h5,by simp [h6],.nil::ps,by simp [h7],?_,?_,?_,F,?_⟩
    ·rw [Tm.surfL,Tm.innL,if_pos hb,if_pos hb]
     have:=mul_le2 0 k t.wt (Tm.innL op (i+1) l)
     rw [Nat.zero_mul,Nat.zero_add,Nat.zero_add] at this;omega
    ·rw [slackL,if_pos hb];omega
    ·intro hk0;rw [Tm.surfL,RV.vszL,if_pos hb,if_pos hb]
     have:=h4 hk0
     omega
    ·intro j x hj hbj;cases j with
     | zero =>
      simp only [List.getElem?_cons_zero,Option.some.injEq] at hj;subst hj;exact ⟨rfl,rfl⟩
     | succ j =>
      rw [List.getElem?_cons_succ] at hj;rw [List.getElem?_cons_succ,List.getElem?_cons_succ];exact h8 j x hj (by rwa [show i+1+j=i+(j+1) by omega])
    ·intro j p r hbj hp hr;cases j with
     | zero=>rw [Nat.add_zero] at hbj;omega
     | succ j =>
      rw [List.getElem?_cons_succ] at hp hr;exact h9 j p r (by rwa [show i+1+j=i+(j+1) by omega]) hp hr
    ·intro j x r hj hbj hr;cases j with
     | zero=>rw [Nat.add_zero] at hbj;omega
     | succ j =>
      rw [List.getElem?_cons_succ] at hj hr;exact h10 j x r hj (by rwa [show i+1+j=i+(j+1) by omega]) hr
    ·intro g hgF m hm;rw [kdP,if_pos hb,h11 g hgF m hm];rfl
  ·rw [if_neg hb] at h;split at h
   ·cases h
   ·rename_i v s1 e1 hev;cases hk:kidsG (fun s e t=>evalR f s e t env) op env (i+1) l s1 e1 with
    | none=>rw [hk] at h;cases h
    | some q =>
     obtain ⟨vs1,s2,e2⟩:=q;rw [hk] at h;simp only [Option.map_some,Option.some.injEq,Prod.mk.injEq] at h;obtain ⟨rfl,rfl,rfl⟩:=h;have h0:=err_kids _ (fun s e t v s' h=>err_eval h) op env l _ _ _ _ _ hk;subst h0;obtain ⟨k1,c1,u1,T1,a1,a2,a3,p1,a4,F1,a5⟩:=ih s t env v s1 hev hg.1 (by omega) e he;obtain ⟨k,c,u,T,h1,h2,h3,h4,h5,h6,ps,h7,h8,h9,h10,F,h11⟩:=kids_sim ih op env e he l (i+1) s1 vs1 s2 hk hg.2 (by omega);have ac:=a2.le;have ap:=a2.p;have aq:=a2.q;refine ⟨k1+k,c1+c,u1+u,T1+T,by omega,?_,?_,?_,by omega,by simp [h6],p1::ps,by simp [h7],?_,?_,?_,F1+F,?_⟩
     ·rw [Tm.surfL,Tm.innL,if_neg hb,if_neg hb]
      have:=mul_le2 k1 k t.inn (Tm.innL op (i+1) l)
      omega
     ·rw [slackL,if_neg hb];split
      ·omega
      ·rename_i hno;rcases aq with aq | aq
       ·omega
       ·exact absurd aq hno
     ·intro hk0;rw [Tm.surfL,RV.vszL,if_neg hb,if_neg hb]
      have:=h4 (by omega)
      have:=a2.v (by omega)
      omega
     ·intro j x hj hbj;cases j with
      | zero=>rw [Nat.add_zero] at hbj;exact absurd hbj hb
      | succ j =>
       rw [List.getElem?_cons_succ] at hj;rw [List.getElem?_cons_succ,List.getElem?_cons_succ];exact h8 j x hj (by rwa [show i+1+j=i+(j+1) by omega])
     ·intro j p r hbj hp hr;cases j with
      | zero =>
       simp only [List.getElem?_cons_zero,Option.some.injEq] at hp hr;subst hp hr;exact a4
      | succ j =>
       rw [List.getElem?_cons_succ] at hp hr;exact h9 j p r (by rwa [show i+1+j=i+(j+1) by omega]) hp hr
     ·intro j x r hj hbj hr;cases j with
      | zero =>
       simp only [List.getElem?_cons_zero,Option.some.injEq] at hj hr;subst hj hr;exact ⟨_,_,hev⟩
      | succ j =>
       rw [List.getElem?_cons_succ] at hj hr;exact h10 j x r hj (by rwa [show i+1+j=i+(j+1) by omega]) hr
     ·intro g hgF m hm;rw [kdP,if_neg hb,a5 g (by omega) m (mok_1 hm)];simp only;rw [h11 g (by omega) _ (mok_2 hm),aft_aft];rfl
theorem rel_inv {B:Nat} {p:PV} {r:RV} (h:Rel B p r) (h1:r.op≠1):∃n' kp ts e env,p=.mk r.op r.n kp (.mk r.op n' ts) e∧ar r.op=some ts.length∧kp.length=ts.length∧r.k.length=ts.length ∧
  (∀i p' r',bindN r.op i=0→kp[i]?=some p'→r.k[i]?=some r'→Rel B p' r') ∧
  (∀i b,0<bindN r.op i→ts[i]?=some b→(b.good∧b.wt≤B)∧kp[i]?=some .nil∧r.k[i]?=some (.clo env b))∧EnvRel B e env:=by
 cases h with
 | var n=>exact absurd rfl h1
 | node op n n' kp kr ts e env h1 har hl hl2 hk hb hel he=>exact ⟨n',kp,ts,e,env,rfl,har,hl,hl2,hk,hb,hel,he⟩
theorem aft_0 {m:M3} (h:m.e=0):aft m 0 0=m:=by
 obtain ⟨a,b,c⟩:=m;simp only at h;subst h;simp [aft]
theorem ar_len {op:Int} {r:Nat} (h:ar op=some r):r≤4:=by
 unfold ar at h
 repeat' split at h
 all_goals first | (simp only [Option.some.injEq] at h;omega) | cases h
theorem st_5 (g:Nat) (n:Int) (o0 n0:Int) (k0:List PV) (t0:Tm) (e0:List PV) (x:PV) (t:Tm) (e:List PV) (m:M3):stP (g+1) (.mk 5 n [.mk o0 n0 k0 t0 e0,x] t e) m=if o0=4 then opP g (.mk o0 n0 k0 t0 e0) 1 [x] m else some (.nil,m):=by
 rw [stP.eq_def];simp only [if_true]
theorem st_89 (g:Nat) (op n:Int) (h:op=8∨op=9) (n0:Int) (a x y:PV) (t0:Tm) (e0:List PV) (t:Tm) (e:List PV) (m:M3):stP (g+1) (.mk op n [.mk 7 n0 [a,x,y] t0 e0] t e) m=some (if op=8 then x else y,m):=by
 rw [stP.eq_def];simp only;rw [if_neg (by omega),if_pos h,if_true]
theorem st_13z (g:Nat) (n:Int) (p0 z p2:PV) (n3:Int) (k3:List PV) (t3:Tm) (e3:List PV) (t:Tm) (e:List PV) (m:M3):stP (g+1) (.mk 13 n [p0,z,p2,.mk 11 n3 k3 t3 e3] t e) m=some (z,m):=by
 rw [stP.eq_def];simp only [Int.reduceEq,if_false,if_true,or_self]
theorem st_13s {g:Nat} {n:Int} {p0 z p2:PV} {n3:Int} {x y:PV} {t3:Tm} {e3:List PV} {t:Tm} {e:List PV} {m m':M3} (hc:ctP g (.mk 13 n [.nil,z,.nil,x] t e) m=some (y,m')):stP (g+1) (.mk 13 n [p0,z,p2,.mk 12 n3 [x] t3 e3] t e) m=opP g (.mk 13 n [p0,z,p2,.mk 12 n3 [x] t3 e3] t e) 2 [x,y] m':=by
 rw [stP.eq_def];simp only [Int.reduceEq,if_false,if_true,or_self,hc]
theorem st_13n (g:Nat) (n:Int) (p0 z p2:PV) (o3 n3:Int) (k3:List PV) (t3:Tm) (e3:List PV) (t:Tm) (e:List PV) (m:M3) (h11:o3≠11) (h12:o3≠12):stP (g+1) (.mk 13 n [p0,z,p2,.mk o3 n3 k3 t3 e3] t e) m=some (.nil,m):=by
 rw [stP.eq_def];simp only [Int.reduceEq,if_false,if_true,or_self,h11,h12]
theorem st_30 (g:Nat) (n:Int) (n0:Int) (x:PV) (t0:Tm) (e0:List PV) (t:Tm) (e:List PV) (m:M3):stP (g+1) (.mk 30 n [.mk 19 n0 [x] t0 e0] t e) m=some (x,m):=by
 rw [stP.eq_def];simp only [Int.reduceEq,if_false,if_true,or_self]
theorem st_30n (g:Nat) (n:Int) (o0 n0:Int) (k0:List PV) (t0:Tm) (e0:List PV) (t:Tm) (e:List PV) (m:M3) (h:o0≠19):stP (g+1) (.mk 30 n [.mk o0 n0 k0 t0 e0] t e) m=some (.nil,m):=by
 rw [stP.eq_def];simp only [Int.reduceEq,if_false,if_true,or_self,h]
theorem st_19 (g:Nat) (n:Int) (n0:Int) (x:PV) (t0:Tm) (e0:List PV) (t:Tm) (e:List PV) (m:M3):stP (g+1) (.mk 19 n [.mk 30 n0 [x] t0 e0] t e) m=some (x,m):=by
 rw [stP.eq_def];simp only [Int.reduceEq,if_false,if_true,or_self]
theorem st_19n (g:Nat) (n:Int) (o0 n0:Int) (k0:List PV) (t0:Tm) (e0:List PV) (t:Tm) (e:List PV) (m:M3) (h:o0≠30):stP (g+1) (.mk 19 n [.mk o0 n0 k0 t0 e0] t e) m=some (.nil,m):=by
 rw [stP.eq_def];simp only [Int.reduceEq,if_false,if_true,or_self,h]
def HeadDone (op n:Int) (ps:List PV) (t:Tm) (e:List PV) (v':PV) (k T:Nat):Prop:=∃F,∀g,F≤g→∀m,MOk m k T→ctP g (.mk op n ps t e) m=some (v',aft m k T)
theorem ct_no {op n:Int} {ps:List PV} {t:Tm} {e:List PV} (h:isRule op=false):HeadDone op n ps t e (.mk op n ps t e) 0 0:=by
 refine ⟨1,fun g hg m hm=>?_⟩;obtain ⟨g,rfl⟩:∃k,g=k+1:=⟨g - 1,by omega⟩;rw [ctP,h,aft_0 hm.e];rfl
theorem ct_stuck {op n:Int} {ps:List PV} {t:Tm} {e:List PV} (h:isRule op=true) (hs:∃F,∀g,F≤g→∀m,stP g (.mk op n ps t e) m=some (.nil,m)):HeadDone op n ps t e (.mk op n ps t e) 0 1:=by
 obtain ⟨F,hs⟩:=hs;refine ⟨F+2,fun g hg m hm=>?_⟩;obtain ⟨g,rfl⟩:∃k,g=k+1:=⟨g - 1,by omega⟩;rw [ctP,if_pos h,if_neg (fun h=>h hm.e),if_neg (by omega),tick_1 (k:=0) (T:=0) hm];simp only;rw [if_neg (by simp [aft]),hs g (by omega)]
theorem cth_step {op n:Int} {ps:List PV} {t:Tm} {e:List PV} {v':PV} {k T:Nat} (h:isRule op=true) (hv:v'≠.nil) (hs:∃F,∀g,F≤g→∀m,MOk m k T→stP g (.mk op n ps t e) m=some (v',aft m k T)):HeadDone op n ps t e v' (k+1) (1+T):=by
 obtain ⟨F,hs⟩:=hs;refine ⟨F+2,fun g hg m hm=>?_⟩;obtain ⟨g,rfl⟩:∃k,g=k+1:=⟨g - 1,by omega⟩;have hm':MOk (aft m 0 1) k T:=mok_2 (k1:=0) (k2:=k) ⟨hm.e,hm.w,hm.w2,by have:=hm.s;omega,hm.s2⟩;rw [ctP,if_pos h,if_neg (fun h=>h hm.e),if_neg (by omega),tick_1 hm];simp only;rw [if_neg (by simp [aft]),hs g (by omega) _ hm',aft_aft];have h1:=hm.s;have h2:=hm.s2;cases v' with
 | nil=>exact absurd rfl hv
 | mk o1 n1 k1 t1 e1 =>
  simp only;rw [if_neg (by simp [aft]),if_neg (by simp only [aft];omega),if_neg (by simp only [aft];omega)];simp only [aft,Option.some.injEq,Prod.mk.injEq,true_and,M3.mk.injEq,and_true];omega
theorem op_run {B:Nat} {op n n':Int} {ps:List PV} {ts:List Tm} {e:List PV} {i:Nat} {b:Tm} {l:List PV} {v:RV} {k T:Nat} (hb:ts[i]?=some b) (hl:l.length≤2) (h:DoneE B (l.reverse++e) b v k T) :
  ∃v',Rel B v' v∧∃F,∀g,F≤g→∀m,MOk m k T→opP g (.mk op n ps (.mk op n' ts) e) i l m=some (v',aft m k T):=by
 obtain ⟨v',hr,F,h⟩:=h;refine ⟨v',hr,F+10,fun g hg m hm=>?_⟩;obtain ⟨g,rfl⟩:∃k,g=k+1:=⟨g - 1,by omega⟩;rw [opP];rw [if_neg (by omega),hb];exact h g (by omega) m hm
theorem rel_ne {B:Nat} {p:PV} {r:RV} (h:Rel B p r):p≠.nil:=by
 obtain ⟨op,n,k,t,e,rfl,_⟩:=rel_mk h;exact fun h=>by cases h
theorem open_sim {B f:Nat} (ih:EvAll B f) {e l:List PV} {env l':List RV} (he:EnvRel B e env) (hl:l.length=l'.length) (hr:∀(i:Nat) p r,l[i]?=some p→l'[i]?=some r→Rel B p r) {b:Tm} (hg:b.good) (hw:b.wt≤B) {s s':Int} {v:RV}
  (h:evalR f s 0 b (env++l')=some (v,s',0)):∃k c u T:Nat,s'=s+k∧Cost b v k c u∧T≤c+u+2 * k∧DoneE B (l.reverse++e) b v k T :=
 ih s b _ v s' h hg hw _ (envrel_add he hl hr)
theorem cost_wt {b:Tm} {v:RV} {k c u:Nat} (h:Cost b v k c u):c≤(k+1) * b.wt:=by
 have h1:=h.le;have h2:=surf_inn b;have h3:k * b.inn≤k * b.wt:=Nat.mul_le_mul_left _ (by omega);rw [Nat.add_mul,Nat.one_mul];omega
theorem rec_sim {B:Nat}:∀f,(∀g,g<f→EvAll B g)→∀(s:Int) (n n0:Int) (env:List RV) (b0 b2:Tm) (vz vn w:RV) (s':Int) (e:List PV) (pz pn:PV) (n':Int) (ts:List Tm),headR f s 0 (.node 13 n0 [.clo env b0,vz,.clo env b2,vn])=some (w,s',0) →
  Rel B pz vz→Rel B pn vn→EnvRel B e env→ts[2]?=some b2→b2.good→b2.wt≤B→(∀pw:PV,Rel B (.mk 13 n [.nil,pz,.nil,pn] (.mk 13 n' ts) e) (.node 13 n0 [.clo env b0,vz,.clo env b2,vn])) →
  (∀(px:PV) (vx:RV),Rel B px vx→Rel B (.mk 13 n [.nil,pz,.nil,px] (.mk 13 n' ts) e) (.node 13 0 [.clo env b0,vz,.clo env b2,vx])) →
  ∃k c u T:Nat,s'=s+k∧c≤k * b2.wt∧2 * u≤c+2 * k∧T≤c+u+2 * k+(if k=0 then 1 else 0)∧(k=0→c=0∧u=0∧w=.node 13 n0 [.clo env b0,vz,.clo env b2,vn]) ∧
   ∃w',Rel B w' w∧HeadDone 13 n [.nil,pz,.nil,pn] (.mk 13 n' ts) e w' k T:=by
 intro f
 induction f with
 | zero=>intro _ s n n0 env b0 b2 vz vn w s' e pz pn n' ts h;rw [headR] at h;cases h
 | succ f ihf =>
  intro ih s n n0 env b0 b2 vz vn w s' e pz pn n' ts h hz hn he hb2 hg2 hw2 hself hless;obtain ⟨V,hV⟩:∃V,V=RV.node 13 n0 [.clo env b0,vz,.clo env b2,vn]:=⟨_,rfl⟩;have hop:V.op=13:=by rw [hV];rfl
  have hk0:V.k[0]?=some (.clo env b0):=by rw [hV];rfl
  have hk1:V.k[1]?=some vz:=by rw [hV];rfl
  have hk2:V.k[2]?=some (.clo env b2):=by rw [hV];rfl
  have hk3:V.k[3]?=some vn:=by rw [hV];rfl
  rw [← hV] at h hself ⊢;rw [headR] at h;rw [if_neg (by simp)] at h;split at h
  ·cases h
  simp only [hop,if_true] at h;rw [if_neg (by decide),if_neg (by decide),if_neg (by decide),if_neg (by decide),hk0,hk1,hk2,hk3] at h;simp only at h;obtain ⟨on,nn,kn,tn,en,hpn,hon,hnn⟩:=rel_mk hn;by_cases h11:vn.op=11
  ·rw [if_pos h11] at h;by_cases hs:s+1≤1000
   ·rw [if_pos hs] at h;simp only [Option.some.injEq,Prod.mk.injEq] at h;obtain ⟨rfl,rfl,_⟩:=h;refine ⟨1,0,0,1,rfl,by omega,by omega,by simp,fun h=>by omega,pz,hz,cth_step (k:=0) (T:=0) (by decide) (rel_ne hz) ⟨1,fun g hg m hm=>?_⟩⟩;obtain ⟨g,rfl⟩:∃k,g=k+1:=⟨g - 1,by omega⟩;rw [hpn,← hon,h11,st_13z,aft_0 hm.e]
   ·rw [if_neg hs] at h;simp at h
  ·rw [if_neg h11] at h;by_cases h12:vn.op=12
   ·rw [if_pos h12] at h;by_cases hs:s+1≤1000
    ·rw [if_pos hs] at h;have hvn1:vn.op≠1:=by omega
     obtain ⟨nn',kp,ts',en',envn,hpn',har,hkl,hrl,hkk,_,_⟩:=rel_inv hn hvn1;rw [h12,show ar 12=some 1 by decide,Option.some.injEq] at har
     obtain ⟨vx,hvx⟩:=len1 (l:=vn.k) (by omega);obtain ⟨px,hpx⟩:=len1 (l:=kp) (by omega);have hx:Rel B px vx:=hkk 0 px vx (by rw [h12];decide) (by rw [hpx];rfl) (by rw [hvx];rfl);have hv0:(RV.k vn)[0]?=some vx:=by rw [hvx];rfl
     obtain ⟨on2,nn2,kn2,envn2,bn2⟩:=vn;simp only [RV.k] at hv0 h;rw [hv0] at h;simp only at h;split at h
     ·cases h
     rename_i vh s2 e2 hh;split at h
     ·cases h
     rw [show (RV.clo env b2).env=env from rfl,show (RV.clo env b2).b=b2 from rfl] at h
     have he2:=err_eval h;subst he2;obtain ⟨k1,c1,u1,T1,a1,a2,a3,a4,a5,w1,a6,F1,a7⟩:=ihf (fun g hg=>ih g (by omega)) (s+1) n 0 env b0 b2 vz vx vh s2 e pz px n' ts hh hz hx he hb2 hg2 hw2 (fun _=>hless px vx hx) hless;obtain ⟨k2,c2,u2,T2,d1,d2,d3,d4⟩:=open_sim (ih f (by omega)) (l:=[px,w1]) (l':=[vx,vh]) he rfl (by
      intro i p r hp hr
      match i with
      | 0=>simp only [List.getElem?_cons_zero,Option.some.injEq] at hp hr;subst hp hr;exact hx
      | 1=>simp only [List.getElem?_cons_succ,List.getElem?_cons_zero,Option.some.injEq] at hp hr;subst hp hr;exact a6
      | i+2=>simp at hp) hg2 hw2 h
     obtain ⟨w2,q1,F2,q2⟩:=op_run (op:=13) (n:=n) (n':=n') (ps:=[.nil,pz,.nil,pn]) hb2 (by simp) d4;have hd:=cost_wt d2;have hdp:=d2.p;refine ⟨k1+k2+1,c1+c2,u1+u2,1+(T1+T2),by omega,?_,by omega,?_,fun h=>by omega,w2,q1,cth_step (k:=k1+k2) (T:=T1+T2) (by decide) (rel_ne q1) ⟨F1+F2+2,fun g hg m hm=>?_⟩⟩
     ·have e1:(k1+k2+1) * b2.wt=k1 * b2.wt+(k2+1) * b2.wt:=by rw [show k1+k2+1=k1+(k2+1) by omega,Nat.add_mul]
      omega
     ·rw [if_neg (by omega)];split at a4<;>omega
     ·obtain ⟨g,rfl⟩:∃k,g=k+1:=⟨g - 1,by omega⟩;simp only [RV.op] at h12;subst h12;rw [hpn',hpx];simp only [RV.op,RV.n];rw [st_13s (a7 g (by omega) m (mok_1 hm))];rw [hpn',hpx] at q2;simp only [RV.op,RV.n] at q2;rw [q2 g (by omega) _ (mok_2 hm),aft_aft]
    ·rw [if_neg hs] at h;simp at h
   ·rw [if_neg h12] at h;simp only [Option.some.injEq,Prod.mk.injEq] at h;obtain ⟨rfl,rfl,_⟩:=h;refine ⟨0,0,0,1,by omega,by omega,by omega,by simp,fun _=>⟨rfl,rfl,rfl⟩,_,hself pz,ct_stuck (by decide) ⟨1,fun g hg m=>?_⟩⟩;obtain ⟨g,rfl⟩:∃k,g=k+1:=⟨g - 1,by omega⟩;rw [hpn,st_13n _ _ _ _ _ _ _ _ _ _ _ _ _ (by rw [← hon];exact h11) (by rw [← hon];exact h12)]
theorem eval_run {op n:Int} {ks:List Tm} {e ps:List PV} {k1 T1 kh Th:Nat} {v':PV} (h1:op≠1) (hks:ks.length≤4) (hK:∃F,∀g,F≤g→∀m,MOk m k1 T1→kdP (fun t m=>evP g e t m) op 0 ks m=some (ps,aft m k1 T1)) (hH:HeadDone op n ps (.mk op n ks) e v' kh Th) :
  ∃F,∀g,F≤g→∀m,MOk m (k1+kh) (1+(T1+Th))→evP g e (.mk op n ks) m=some (v',aft m (k1+kh) (1+(T1+Th))):=by
 obtain ⟨F1,hK⟩:=hK;obtain ⟨F2,hH⟩:=hH;refine ⟨F1+F2+10,fun g hg m hm=>?_⟩;obtain ⟨g,rfl⟩:∃k,g=k+1:=⟨g - 1,by omega⟩;have hm':MOk (aft m 0 1) (k1+kh) (T1+Th):=mok_2 (k1:=0) ⟨hm.e,hm.w,hm.w2,by have:=hm.s;omega,hm.s2⟩;rw [evP,tick_1 hm];simp only;rw [if_neg h1,if_neg (by omega),if_neg (by simp [aft]),hK g (by omega) _ (mok_1 hm')];simp only;rw [if_neg (by simp [aft]),hH g (by omega) _ (mok_2 hm'),aft_aft,aft_aft];congr 3
 all_goals omega
theorem rule_no {op:Int} (h:¬ (op=5∨op=8∨op=9∨op=13∨op=19∨op=30)):isRule op=false:=by
 have h1:¬ op=5:=fun e=>h (.inl e);have h2:¬ op=8:=fun e=>h (.inr (.inl e));have h3:¬ op=9:=fun e=>h (.inr (.inr (.inl e)));have h4:¬ op=13:=fun e=>h (.inr (.inr (.inr (.inl e))));have h5:¬ op=19:=fun e=>h (.inr (.inr (.inr (.inr (.inl e)))));have h6:¬ op=30:=fun e=>h (.inr (.inr (.inr (.inr (.inr e)))));simp [isRule,h1,h2,h3,h4,h5,h6]
set_option maxHeartbeats 1000000 in
theorem eval_all (B:Nat):∀f,EvAll B f:=by
 intro f
 induction f using Nat.strongRecOn with
 | _ f ih =>
 intro s t env v s' h hg hw e he;cases f with
 | zero=>rw [evalR] at h;cases h
 | succ f =>
 obtain ⟨op,n,ks⟩:=t;rw [evalR] at h;rw [if_neg (by simp)] at h;split at h
 ·cases h
 rename_i hel;rw [Tm.good] at hg;obtain ⟨hgn,hgl⟩:=hg;have har:=hgn.1;have hk4:=ar_len har;rw [Tm.wt] at hw;by_cases h1:op=1
 ·subst h1;rw [if_pos rfl] at h;have hks:ks=[]:=by
   rw [show ar 1=some 0 by decide,Option.some.injEq] at har
   exact List.eq_nil_of_length_eq_zero har.symm
  subst hks;have hn:=hgn.2.1 rfl;have hrun:∃F,∀g,F≤g→∀m,MOk m 0 1→evP g e (.mk 1 n []) m=some (lookP e n,aft m 0 1):=by
   refine ⟨e.length+10,fun g hg m hm=>?_⟩;obtain ⟨g,rfl⟩:∃k,g=k+1:=⟨g - 1,by omega⟩;rw [evP,tick_1 (k:=0) (T:=0) hm];simp only;rw [if_pos trivial,if_pos ⟨by omega,by omega,by omega⟩]
  have hcost:∀v:RV,Cost (.mk 1 n []) v 0 1 0:=fun v=>⟨by simp [Tm.surf,Tm.surfL],by omega,.inl (by omega),fun _=>by have:=vsz_pos v;simp only [Tm.surf,Tm.surfL];omega⟩;by_cases hlt:n<env.length
  ·rw [if_pos hlt,if_pos hn.1] at h;cases hr:env[((env.length:Int) - 1 - n).toNat]? with
   | none=>rw [hr] at h;cases h
   | some r =>
    rw [hr] at h;simp only [Option.map_some,Option.some.injEq,Prod.mk.injEq] at h;obtain ⟨rfl,rfl,_⟩:=h;exact ⟨0,1,0,1,by omega,hcost _,by omega,_,env_get he hn.1 hlt hr,hrun⟩
  ·rw [if_neg hlt] at h;split at h
   ·simp only [Option.some.injEq,Prod.mk.injEq] at h;obtain ⟨rfl,rfl,_⟩:=h;refine ⟨0,1,0,1,by omega,hcost _,by omega,_,?_,hrun⟩;rw [lookP,if_neg (by rw [he.1];exact hlt),he.1];exact .var _
   ·cases h
 rw [if_neg h1] at h;split at h
 ·cases h
 split at h
 ·cases h
 split at h
 ·cases h
 rename_i vs s1 e1 hk;have he1:=err_head h;subst he1;obtain ⟨k1,c1,u1,T1,q1,q2,q3,q4,q5,q6,ps,q7,q8,q9,q10,q11⟩:=kids_sim (ih f (by omega)) op env e he ks 0 s vs s1 hk hgl (by omega);simp only [Nat.zero_add] at q8 q9 q10;have hnode:Rel B (.mk op n ps (.mk op n ks) e) (.node op n vs):=by
  refine .node op n n ps vs ks e env h1 har q7 q6 (fun i p r=>q9 i p r) ?_ he.1 he.2;intro i b hb hi;obtain ⟨a1,a2⟩:=q8 i b hi hb;have hm:=List.mem_of_getElem? hi
  have:=wt_mem hm
  exact ⟨⟨goodL_mem hgl hm,by omega⟩,a1,a2⟩
 obtain ⟨V,hV⟩:∃V,V=RV.node op n vs:=⟨_,rfl⟩;have hVo:V.op=op:=by rw [hV];rfl
 have hVk:V.k=vs:=by rw [hV];rfl
 have hVz:V.vsz=1+RV.vszL op 0 vs:=by rw [hV,RV.node,RV.vsz]
 rw [← hV] at h hnode;cases f with
 | zero=>rw [headR] at h;cases h
 | succ f =>
 have h00:=h;rw [headR] at h;rw [if_neg (by simp)] at h;split at h
 ·cases h
 by_cases hr:¬ (op=5∨op=8∨op=9∨op=13∨op=19∨op=30)
 ·rw [hVo,if_neg (by omega),if_neg (by omega),if_neg (by omega),if_neg (by omega),if_neg (by omega)] at h;simp only [Option.some.injEq,Prod.mk.injEq] at h;obtain ⟨rfl,rfl,_⟩:=h;refine ⟨k1,1+c1,u1,1+T1,q1,⟨?_,by omega,.inl (by omega),fun h=>?_⟩,by omega,_,hnode,eval_run (kh:=0) (Th:=0) h1 (by omega) q11 (ct_no (rule_no hr))⟩
  ·rw [Tm.surf,Tm.inn];omega
  ·have:=q4 h;rw [Tm.surf,hVz];omega
 have hrule:isRule op=true:=by
  have:op=5∨op=8∨op=9∨op=13∨op=19∨op=30:=Decidable.byContradiction hr
  rcases this with rfl | rfl | rfl | rfl | rfl | rfl<;>rfl
 by_cases h5:op=5
 ·subst h5;obtain ⟨m0,a,b,x,rfl⟩:=hgn.2.2.2.1 rfl;obtain ⟨v0,vx,rfl⟩:=len2 q6;obtain ⟨p0,px,rfl⟩:=len2 q7;obtain ⟨t1,t2,hv0⟩:=q10 0 _ v0 rfl (by decide) rfl;obtain ⟨va,rfl⟩:=lam_val hv0;have r0:=q9 0 p0 _ (by decide) rfl rfl;have rx:=q9 1 px vx (by decide) rfl rfl;obtain ⟨n',kp,ts,e0,env0,hp0,b1,b2,b3,b4,b5,b6⟩:=rel_inv r0 (by simp [RV.node,RV.op]);simp only [RV.node,RV.op,RV.n,RV.k] at hp0 b1 b3 b4 b5;rw [show ar 4=some 2 by decide,Option.some.injEq] at b1
  obtain ⟨a',b',rfl⟩:=len2 b1.symm;obtain ⟨⟨g1,g2⟩,_,g3⟩:=b5 1 b' (by decide) rfl;simp only [List.getElem?_cons_succ,List.getElem?_cons_zero,Option.some.injEq,RV.clo,RV.mk.injEq,true_and] at g3;obtain ⟨rfl,rfl⟩:=g3;rw [hVo,if_pos rfl,hVk] at h;simp only [List.getElem?_cons_succ,List.getElem?_cons_zero] at h;rw [show (RV.node 4 m0 [va,RV.clo env b]).op=4 from rfl,if_pos rfl] at h
  split at h
  ·rw [show (RV.node 4 m0 [va,RV.clo env b]).k[1]?=some (RV.clo env b) from rfl] at h
   simp only at h;split at h
   ·cases h
   rw [show (RV.clo env b).env=env from rfl,show (RV.clo env b).b=b from rfl] at h
   obtain ⟨k2,c2,u2,T2,d1,d2,d3,d4⟩:=open_sim (ih f (by omega)) (l:=[px]) (l':=[vx]) b6 rfl (by
    intro i p r hp hr
    match i with
    | 0=>simp only [List.getElem?_cons_zero,Option.some.injEq] at hp hr;subst hp hr;exact rx
    | i+1=>simp at hp) g1 g2 h
   obtain ⟨w2,y1,F2,y2⟩:=op_run (op:=4) (n:=m0) (n':=n') (ps:=kp) (ts:=[a',b]) (i:=1) (b:=b) (l:=[px]) rfl (by simp) d4;have hd:=cost_wt d2;have hdp:=d2.p;have hiw:b.wt≤Tm.innL 5 0 [.mk 4 m0 [a,b],x]:=by
    simp only [Tm.innL,Tm.inn];rw [if_neg (show ¬ 0<bindN 5 0 by decide),if_neg (show ¬ 0<bindN 4 0 by decide),if_pos (show 0<bindN 4 (0+1) by decide)]
    omega
   refine ⟨k1+(k2+1),1+(c1+c2),u1+u2,1+(T1+(1+T2)),by omega,⟨?_,by omega,.inl (by omega),fun h=>by omega⟩,by omega,w2,y1,eval_run h1 (by simp) q11 (cth_step (k:=k2) (T:=T2) hrule (rel_ne y1) ⟨F2+1,fun g hg m hm=>?_⟩)⟩
   ·rw [Tm.surf,Tm.inn];have e1:(k1+(k2+1)) * Tm.innL 5 0 [.mk 4 m0 [a,b],x]=k1 * Tm.innL 5 0 [.mk 4 m0 [a,b],x]+(k2+1) * Tm.innL 5 0 [.mk 4 m0 [a,b],x]:=by rw [Nat.add_mul]
    have e2:(k2+1) * b.wt≤(k2+1) * Tm.innL 5 0 [.mk 4 m0 [a,b],x]:=Nat.mul_le_mul_left _ hiw;omega
   ·obtain ⟨g,rfl⟩:∃k,g=k+1:=⟨g - 1,by omega⟩;rw [hp0,st_5,if_pos rfl];exact y2 g (by omega) m hm
  ·simp at h
 by_cases h89:op=8∨op=9
 ·obtain ⟨m0,a,x,y,rfl⟩:=hgn.2.2.2.2.1 h89;obtain ⟨v0,rfl⟩:=len1 q6;obtain ⟨p0,rfl⟩:=len1 q7;have hb0:bindN op 0=0:=by rcases h89 with rfl | rfl<;>decide
  obtain ⟨t1,t2,hv0⟩:=q10 0 _ v0 rfl hb0 rfl;obtain ⟨va,vx,vy,rfl⟩:=pair_val hv0;have r0:=q9 0 p0 _ hb0 rfl rfl;obtain ⟨n',kp,ts,e0,env0,hp0,b1,b2,b3,b4,b5,b6⟩:=rel_inv r0 (by simp [RV.node,RV.op]);simp only [RV.node,RV.op,RV.n,RV.k] at hp0 b1 b3 b4 b5;rw [show ar 7=some 3 by decide,Option.some.injEq] at b1
  obtain ⟨pa,px,py,rfl⟩:=len3 (b2.trans b1.symm);have rx:=b4 1 px vx (by decide) rfl rfl;have ry:=b4 2 py vy (by decide) rfl rfl;rw [hVo,if_neg h5,if_pos h89,hVk] at h;simp only [List.getElem?_cons_zero] at h;rw [show (RV.node 7 m0 [va,vx,vy]).op=7 from rfl,if_pos rfl] at h
  split at h
  ·obtain ⟨w',hw',hvv⟩:∃w',w'=(if op=8 then px else py)∧Rel B w' v∧s'=s1+1:=by
    rcases h89 with rfl | rfl
    ·rw [show (RV.node 7 m0 [va,vx,vy]).k[(1+8 - 8:Int).toNat]?=some vx from rfl] at h
     simp only [Option.map_some,Option.some.injEq,Prod.mk.injEq] at h;obtain ⟨rfl,rfl,_⟩:=h;exact ⟨px,rfl,rx,rfl⟩
    ·rw [show (RV.node 7 m0 [va,vx,vy]).k[(1+9 - 8:Int).toNat]?=some vy from rfl] at h
     simp only [Option.map_some,Option.some.injEq,Prod.mk.injEq] at h;obtain ⟨rfl,rfl,_⟩:=h;exact ⟨py,rfl,ry,rfl⟩
   obtain ⟨hrel,rfl⟩:=hvv;refine ⟨k1+1,1+c1,u1,1+(T1+1),by omega,⟨?_,by omega,.inl (by omega),fun h=>by omega⟩,by omega,w',hrel,eval_run h1 (by simp) q11 (cth_step (k:=0) (T:=0) hrule (rel_ne hrel) ⟨1,fun g hg m hm=>?_⟩)⟩
   ·rw [Tm.surf,Tm.inn,Nat.add_mul];omega
   ·obtain ⟨g,rfl⟩:∃k,g=k+1:=⟨g - 1,by omega⟩;rw [hp0,st_89 _ _ _ h89,aft_0 hm.e,hw']
  ·simp at h
 by_cases h30:op=30
 ·subst h30;rw [show ar 30=some 1 by decide,Option.some.injEq] at har
  obtain ⟨x,rfl⟩:=len1 har.symm;obtain ⟨v0,rfl⟩:=len1 q6;obtain ⟨p0,rfl⟩:=len1 q7;have r0:=q9 0 p0 v0 (by decide) rfl rfl;have hx:=hgn.2.2.2.2.2.2.1 rfl x (by simp);rw [hVo,if_neg h5,if_neg h89,if_pos rfl,hVk] at h;simp only [List.getElem?_cons_zero] at h;simp only [slackL] at q3;rw [if_neg (by decide)] at q3;by_cases h19:v0.op=19
  ·rw [if_pos h19] at h;obtain ⟨n',kp,ts,e0,env0,hp0,b1,b2,b3,b4,b5,b6⟩:=rel_inv r0 (by rw [h19];decide);rw [h19,show ar 19=some 1 by decide,Option.some.injEq] at b1
   obtain ⟨y,hy⟩:=len1 (b3.trans b1.symm);obtain ⟨py,rfl⟩:=len1 (b2.trans b1.symm);have ry:=b4 0 py y (by rw [h19];decide) rfl (by rw [hy];rfl);rw [hy] at h;simp only [List.getElem?_cons_zero,Option.map_some] at h;split at h
   ·simp only [Option.some.injEq,Prod.mk.injEq] at h;obtain ⟨rfl,rfl,_⟩:=h;refine ⟨k1+1,1+c1,u1,1+(T1+1),by omega,⟨?_,by omega,.inl (by omega),fun h=>by omega⟩,by omega,py,ry,eval_run h1 (by simp) q11 (cth_step (k:=0) (T:=0) hrule (rel_ne ry) ⟨1,fun g hg m hm=>?_⟩)⟩
    ·rw [Tm.surf,Tm.inn,Nat.add_mul];omega
    ·obtain ⟨g,rfl⟩:∃k,g=k+1:=⟨g - 1,by omega⟩;rw [hp0,h19,st_30,aft_0 hm.e]
   ·simp at h
  ·rw [if_neg h19] at h;simp only [Option.some.injEq,Prod.mk.injEq] at h;obtain ⟨rfl,rfl,_⟩:=h;obtain ⟨o0,n0,k0,t0,e0,hp0,ho0,_⟩:=rel_mk r0;have hns:¬ (x.op=19∧v0.op=19∨x.op=30∧v0.op=30):=by
    rintro (⟨_,h⟩ | ⟨h,_⟩)
    ·exact h19 h
    ·exact hx h
   rw [if_neg hns] at q3;refine ⟨k1,1+c1,u1+1,1+(T1+1),q1,⟨?_,by omega,.inr (.inr ⟨rfl,hVo⟩),fun h=>?_⟩,by omega,_,hnode,eval_run (kh:=0) h1 (by simp) q11 (ct_stuck hrule ⟨1,fun g hg m=>?_⟩)⟩
   ·rw [Tm.surf,Tm.inn];omega
   ·have:=q4 h;rw [Tm.surf,hVz];omega
   ·obtain ⟨g,rfl⟩:∃k,g=k+1:=⟨g - 1,by omega⟩;rw [hp0,st_30n _ _ _ _ _ _ _ _ _ _ (by rw [← ho0];exact h19)]
 by_cases h19:op=19
 ·subst h19;rw [show ar 19=some 1 by decide,Option.some.injEq] at har
  obtain ⟨x,rfl⟩:=len1 har.symm;obtain ⟨v0,rfl⟩:=len1 q6;obtain ⟨p0,rfl⟩:=len1 q7;have r0:=q9 0 p0 v0 (by decide) rfl rfl;have hx:=hgn.2.2.2.2.2.1 rfl x (by simp);rw [hVo,if_neg h5,if_neg h89,if_neg h30,if_pos rfl,hVk] at h;simp only [List.getElem?_cons_zero] at h;simp only [slackL] at q3;rw [if_neg (by decide)] at q3;by_cases hv30:v0.op=30
  ·rw [if_pos hv30] at h;obtain ⟨n',kp,ts,e0,env0,hp0,b1,b2,b3,b4,b5,b6⟩:=rel_inv r0 (by rw [hv30];decide);rw [hv30,show ar 30=some 1 by decide,Option.some.injEq] at b1
   obtain ⟨y,hy⟩:=len1 (b3.trans b1.symm);obtain ⟨py,rfl⟩:=len1 (b2.trans b1.symm);have ry:=b4 0 py y (by rw [hv30];decide) rfl (by rw [hy];rfl);rw [hy] at h;simp only [List.getElem?_cons_zero,Option.map_some] at h;split at h
   ·simp only [Option.some.injEq,Prod.mk.injEq] at h;obtain ⟨rfl,rfl,_⟩:=h;refine ⟨k1+1,1+c1,u1,1+(T1+1),by omega,⟨?_,by omega,.inl (by omega),fun h=>by omega⟩,by omega,py,ry,eval_run h1 (by simp) q11 (cth_step (k:=0) (T:=0) hrule (rel_ne ry) ⟨1,fun g hg m hm=>?_⟩)⟩
    ·rw [Tm.surf,Tm.inn,Nat.add_mul];omega
    ·obtain ⟨g,rfl⟩:∃k,g=k+1:=⟨g - 1,by omega⟩;rw [hp0,hv30,st_19,aft_0 hm.e]
   ·simp at h
  ·rw [if_neg hv30] at h;simp only [Option.some.injEq,Prod.mk.injEq] at h;obtain ⟨rfl,rfl,_⟩:=h;obtain ⟨o0,n0,k0,t0,e0,hp0,ho0,_⟩:=rel_mk r0;have hns:¬ (x.op=19∧v0.op=19∨x.op=30∧v0.op=30):=by
    rintro (⟨h,_⟩ | ⟨_,h⟩)
    ·exact hx h
    ·exact hv30 h
   rw [if_neg hns] at q3;refine ⟨k1,1+c1,u1+1,1+(T1+1),q1,⟨?_,by omega,.inr (.inl ⟨rfl,hVo⟩),fun h=>?_⟩,by omega,_,hnode,eval_run (kh:=0) h1 (by simp) q11 (ct_stuck hrule ⟨1,fun g hg m=>?_⟩)⟩
   ·rw [Tm.surf,Tm.inn];omega
   ·have:=q4 h;rw [Tm.surf,hVz];omega
   ·obtain ⟨g,rfl⟩:∃k,g=k+1:=⟨g - 1,by omega⟩;rw [hp0,st_19n _ _ _ _ _ _ _ _ _ _ (by rw [← ho0];exact hv30)]
 have h13:op=13:=by omega
 subst h13;rw [show ar 13=some 4 by decide,Option.some.injEq] at har
 obtain ⟨b0,z,b2,nn,rfl⟩:=len4 har.symm;obtain ⟨w0,vz,w2,vn,rfl⟩:=len4 q6;obtain ⟨p0,pz,p2,pn,rfl⟩:=len4 q7;obtain ⟨x0,y0⟩:=q8 0 b0 rfl (by decide);obtain ⟨x2,y2⟩:=q8 2 b2 rfl (by decide);simp only [List.getElem?_cons_succ,List.getElem?_cons_zero,Option.some.injEq] at x0 y0 x2 y2;subst x0 y0 x2 y2;have rz:=q9 1 pz vz (by decide) rfl rfl;have rn:=q9 3 pn vn (by decide) rfl rfl;have hgd:=hgn.2.2.2.2.2.2.2 rfl b0 z b2 nn rfl;have hn0:=hgn.2.2.1 rfl;simp only [Tm.goodL,and_true] at hgl;simp only [Tm.wtL] at hw;rw [hV] at h00 hnode;obtain ⟨kr,cr,ur,Tr,a1,a2,a3,a4,a5,w',a6,a7⟩:=rec_sim (f+1) (fun g hg=>ih g (by omega)) s1 n n env b0 b2 vz vn v s' e pz pn n [b0,z,b2,nn] h00 rz rn he rfl hgl.2.2.1 (by omega) (fun _=>hnode) (by
  intro px vx hx;rw [hn0];refine .node 13 0 0 [.nil,pz,.nil,px] [.clo env b0,vz,.clo env b2,vx] [b0,z,b2,nn] e env (by decide) (show ar 13=some 4 by decide) rfl rfl ?_ ?_ he.1 he.2
  ·intro i p r hb hp hr
   match i with
   | 0=>exact absurd hb (by decide)
   | 1=>simp only [List.getElem?_cons_succ,List.getElem?_cons_zero,Option.some.injEq] at hp hr;subst hp hr;exact rz
   | 2=>exact absurd hb (by decide)
   | 3=>simp only [List.getElem?_cons_succ,List.getElem?_cons_zero,Option.some.injEq] at hp hr;subst hp hr;exact hx
   | i+4=>simp at hp
  ·intro i b hb hi
   match i with
   | 0=>simp only [List.getElem?_cons_zero,Option.some.injEq] at hi;subst hi;exact ⟨⟨hgl.1,by omega⟩,rfl,rfl⟩
   | 1=>exact absurd hb (by decide)
   | 2=>simp only [List.getElem?_cons_succ,List.getElem?_cons_zero,Option.some.injEq] at hi;subst hi;exact ⟨⟨hgl.2.2.1,by omega⟩,rfl,rfl⟩
   | 3=>exact absurd hb (by decide)
   | i+4=>simp at hi)
 have hiw:b2.wt≤Tm.innL 13 0 [b0,z,b2,nn]:=by
  simp only [Tm.innL];rw [if_pos (by decide),if_neg (by decide),if_pos (by decide),if_neg (by decide)];omega
 have hsl:slackL 13 0 [b0,z,b2,nn] [.clo env b0,vz,.clo env b2,vn]=2:=by
  simp only [slackL];rw [if_pos (show 0<bindN 13 0 by decide),if_neg (show ¬ 0<bindN 13 (0+1) by decide),if_pos (show 0<bindN 13 (0+1+1) by decide),if_neg (show ¬ 0<bindN 13 (0+1+1+1) by decide),if_neg (by rintro (⟨h,_⟩ | ⟨h,_⟩);exact hgd.1.1 h;exact hgd.1.2 h),if_neg (by rintro (⟨h,_⟩ | ⟨h,_⟩);exact hgd.2.1 h;exact hgd.2.2 h)]
 rw [hsl] at q3;have hle:1+(c1+cr)≤(Tm.mk 13 n [b0,z,b2,nn]).surf+(k1+kr) * (Tm.mk 13 n [b0,z,b2,nn]).inn:=by
  rw [Tm.surf,Tm.inn,Nat.add_mul];have e2:kr * b2.wt≤kr * Tm.innL 13 0 [b0,z,b2,nn]:=Nat.mul_le_mul_left _ hiw;omega
 by_cases hk0:kr=0
 ·obtain ⟨z1,z2,z3⟩:=a5 hk0;subst hk0 z1 z2;rw [if_pos rfl] at a4;refine ⟨k1+0,1+(c1+0),u1+1,1+(T1+Tr),by omega,⟨hle,by omega,.inl (by omega),fun h=>?_⟩,by omega,w',a6,eval_run h1 (by simp) q11 a7⟩
  have:=q4 (by omega)
  rw [z3,← hV,Tm.surf,hVz];omega
 ·rw [if_neg hk0] at a4;exact ⟨k1+kr,1+(c1+cr),u1+ur,1+(T1+Tr),by omega,⟨hle,by omega,.inl (by omega),fun h=>by omega⟩,by omega,w',a6,eval_run h1 (by simp) q11 a7⟩
theorem kids_le {f:Nat} (op:Int) (env:List RV) (ih:∀s t v s',evalR f s 0 t env=some (v,s',0)→s≤1000→s'≤1000):∀(l:List Tm) (i:Nat) (s:Int) (vs:List RV) (s':Int),kidsG (fun s e t=>evalR f s e t env) op env i l s 0=some (vs,s',0)→s≤1000→s'≤1000
 | [],i,s,vs,s',h,hs=>by
  simp only [kidsG,Option.some.injEq,Prod.mk.injEq] at h;omega
 | t::l,i,s,vs,s',h,hs=>by
  simp only [kidsG] at h;split at h
  ·cases hk:kidsG (fun s e t=>evalR f s e t env) op env (i+1) l s 0 with
   | none=>rw [hk] at h;cases h
   | some q =>
    obtain ⟨vs1,s1,e1⟩:=q;rw [hk] at h;simp only [Option.map_some,Option.some.injEq,Prod.mk.injEq] at h;obtain ⟨_,rfl,rfl⟩:=h;exact kids_le op env ih l _ _ _ _ hk hs
  ·split at h
   ·cases h
   ·rename_i v s1 e1 he;cases hk:kidsG (fun s e t=>evalR f s e t env) op env (i+1) l s1 e1 with
    | none=>rw [hk] at h;cases h
    | some q =>
     obtain ⟨vs2,s2,e2⟩:=q;rw [hk] at h;simp only [Option.map_some,Option.some.injEq,Prod.mk.injEq] at h;obtain ⟨_,rfl,rfl⟩:=h;have h0:=err_kids _ (fun s e t v s' h=>err_eval h) op env l _ _ _ _ _ hk;subst h0;exact kids_le op env ih l _ _ _ _ hk (ih _ _ _ _ he hs)
theorem st_le:∀f,(
           ∀s t env v s',evalR f s 0 t env=some (v,s',0)→s≤1000→s'≤1000)∧(∀s v w s',headR f s 0 v=some (w,s',0)→s≤1000→s'≤1000):=by
 intro f
 induction f with
 | zero=>exact ⟨(by intro s t env v s' h;rw [evalR] at h;cases h),(by intro s v w s' h;rw [headR] at h;cases h)⟩
 | succ f ih =>
  refine ⟨?_,?_⟩
  ·intro s t env v s' h hs;obtain ⟨op,n,ks⟩:=t;rw [evalR] at h;rw [if_neg (by simp)] at h;split at h
   ·cases h
   split at h
   ·split at h
    ·split at h
     ·cases hr:env[((env.length:Int) - 1 - n).toNat]? with
      | none=>rw [hr] at h;cases h
      | some r =>
       rw [hr] at h;simp only [Option.map_some,Option.some.injEq,Prod.mk.injEq] at h;omega
     ·cases h
    ·split at h
     ·simp only [Option.some.injEq,Prod.mk.injEq] at h;omega
     ·cases h
   split at h
   ·cases h
   split at h
   ·cases h
   split at h
   ·cases h
   rename_i vs s1 e1 hk;have he:=err_head h;subst he;exact ih.2 _ _ _ _ h (kids_le op env (fun s t v s'=>ih.1 s t env v s') ks _ _ _ _ hk hs)
  ·intro s v w s' h hs;rw [headR] at h;rw [if_neg (by simp)] at h;split at h
   ·cases h
   split at h
   ·split at h
    ·cases h
    ·split at h
     ·split at h
      ·split at h
       ·split at h
        ·cases h
        ·exact ih.1 _ _ _ _ _ h (by omega)
       ·cases h
      ·simp at h
     ·simp only [Option.some.injEq,Prod.mk.injEq] at h;omega
   split at h
   ·split at h
    ·cases h
    ·rename_i k0 _;split at h
     ·split at h
      ·cases hx:k0.k[(1+v.op - 8).toNat]? with
       | none=>rw [hx] at h;cases h
       | some x=>rw [hx] at h;simp only [Option.map_some,Option.some.injEq,Prod.mk.injEq] at h;omega
      ·simp at h
     ·simp only [Option.some.injEq,Prod.mk.injEq] at h;omega
   split at h
   ·split at h
    ·cases h
    ·rename_i k0 _;split at h
     ·split at h
      ·cases hx:k0.k[0]? with
       | none=>rw [hx] at h;cases h
       | some x=>rw [hx] at h;simp only [Option.map_some,Option.some.injEq,Prod.mk.injEq] at h;omega
      ·simp at h
     ·simp only [Option.some.injEq,Prod.mk.injEq] at h;omega
   split at h
   ·split at h
    ·cases h
    ·rename_i k0 _;split at h
     ·split at h
      ·cases hx:k0.k[0]? with
       | none=>rw [hx] at h;cases h
       | some x=>rw [hx] at h;simp only [Option.map_some,Option.some.injEq,Prod.mk.injEq] at h;omega
      ·simp at h
     ·simp only [Option.some.injEq,Prod.mk.injEq] at h;omega
   split at h
   ·split at h
    ·split at h
     ·split at h
      ·simp only [Option.some.injEq,Prod.mk.injEq] at h;omega
      ·simp at h
     ·split at h
      ·split at h
       ·split at h
        ·cases h
        ·split at h
         ·cases h
         ·rename_i vh s2 e2 hh;split at h
          ·cases h
          ·have he:=err_eval h;subst he;exact ih.1 _ _ _ _ _ h (ih.2 _ _ _ _ hh (by omega))
       ·simp at h
      ·simp only [Option.some.injEq,Prod.mk.injEq] at h;omega
    ·cases h
   ·simp only [Option.some.injEq,Prod.mk.injEq] at h;omega
theorem err_readK {f:Nat} {op u d:Int}:∀(l:List RV) (i:Nat) (s nd e:Int) (ts:List Tm) (s' nd':Int),readK (fun s nd e k u=>readR f s nd e k u d) f op u i l s nd e=some (ts,s',nd',0)→e=0
 | [],i,s,nd,e,ts,s',nd',h=>by
  simp only [readK,Option.some.injEq,Prod.mk.injEq] at h;exact h.2.2.2
 | k::l,i,s,nd,e,ts,s',nd',h=>by
  simp only [readK] at h;split at h
  ·cases h
  rename_i k1 s1 e1 hk;split at h
  ·cases h
  rename_i t s2 nd2 e2 hr;cases hrest:readK (fun s nd e k u=>readR f s nd e k u d) f op u (i+1) l s2 nd2 e2 with
  | none=>rw [hrest] at h;cases h
  | some q =>
   obtain ⟨ts2,s3,nd3,e3⟩:=q;rw [hrest] at h;simp only [Option.map_some,Option.some.injEq,Prod.mk.injEq] at h;obtain ⟨_,_,_,rfl⟩:=h
   have:=err_readK l _ _ _ _ _ _ _ hrest
   subst this
   have:=err_read hr
   subst this;split at hk
   ·split at hk
    ·cases hk
    ·exact err_eval hk
   ·simp only [Option.some.injEq,Prod.mk.injEq] at hk;exact hk.2.2
def RdAll (B f:Nat):Prop:=∀(s nd:Int) (v:RV) (u d:Int) (t:Tm) (s' nd':Int),readR f s nd 0 v u d=some (t,s',nd',0)→0≤nd→∀v',Rel B v' v→∃k c uu T N:Nat,s'=s+k∧nd'=nd+N∧nd'≤3000∧(s≤1000→s'≤1000)∧c+v.vsz≤N+B * k∧2 * uu≤c+2 * k∧T≤N+c+uu+2 * k ∧
 ∃F,∀g,F≤g→∀m,MOk m k T→bkP g v' u d m nd=some (t,aft m k T,nd')
theorem up_rel {B:Nat} (u:Int) (b:Nat):∀(i:Nat) p r,(upP u b)[i]?=some p→(upV u b)[i]?=some r→Rel B p r:=by
 intro i p r hp hr;rw [upP,List.getElem?_map] at hp;rw [upV,List.getElem?_map] at hr;cases hx:(List.range b)[i]? with
 | none=>rw [hx] at hp;cases hp
 | some j =>
  rw [hx] at hp hr;simp only [Option.map_some,Option.some.injEq] at hp hr;subst hp hr;exact .var _
set_option maxHeartbeats 1000000 in
theorem rk_sim {B f:Nat} (ih:RdAll B f) (op u d n n':Int) (kp0:List PV) (ts:List Tm) (e:List PV) (env:List RV) (he:EnvRel B e env):∀(l:List RV) (lp:List PV) (i:Nat) (s nd:Int) (rs:List Tm) (s' nd':Int),readK (fun s nd e k u=>readR f s nd e k u (d+1)) f op u i l s nd 0=some (rs,s',nd',0)→0≤nd→nd≤3000→lp.length=l.length →
  (∀j p r,bindN op (i+j)=0→lp[j]?=some p→l[j]?=some r→Rel B p r)→(∀j r,0<bindN op (i+j)→l[j]?=some r→∃b,ts[i+j]?=some b∧b.good∧b.wt≤B∧r=.clo env b) →
  ∃k c uu T N:Nat,s'=s+k∧nd'=nd+N∧nd'≤3000∧(s≤1000→s'≤1000)∧c+RV.vszL op i l≤N+B * k∧2 * uu≤c+2 * k∧T≤N+c+uu+2 * k ∧
   ∃F,∀g,F≤g→∀m,MOk m k T→bkK (fun v below m r=>bkP g v below (d+1) m r) (fun i l m=>opP g (.mk op n kp0 (.mk op n' ts) e) i l m) op u i lp m nd=some (some rs,aft m k T,nd')
 | [],lp,i,s,nd,rs,s',nd',h,h0,h3,hl,_,_=>by
  simp only [readK,Option.some.injEq,Prod.mk.injEq] at h;obtain ⟨rfl,rfl,rfl,_⟩:=h
  have:lp=[]:=List.eq_nil_of_length_eq_zero hl
  subst this;refine ⟨0,0,0,0,0,by omega,by omega,h3,id,by simp [RV.vszL],by omega,by omega,0,fun g _ m hm=>?_⟩;rw [bkK,aft_0 hm.e]
 | k::l,lp,i,s,nd,rs,s',nd',h,h0,h3,hl,hA,hB=>by
  obtain ⟨p,lp,rfl⟩:∃p lp',lp=p::lp':=by
   cases lp with
   | nil=>cases hl
   | cons p lp=>exact ⟨p,lp,rfl⟩
  simp only [readK] at h;split at h
  ·cases h
  rename_i k1 s1 e1 hk;split at h
  ·cases h
  rename_i t s2 nd2 e2 hr;cases hrest:readK (fun s nd e k u=>readR f s nd e k u (d+1)) f op u (i+1) l s2 nd2 e2 with
  | none=>rw [hrest] at h;cases h
  | some q =>
  obtain ⟨ts2,s3,nd3,e3⟩:=q;rw [hrest] at h;simp only [Option.map_some,Option.some.injEq,Prod.mk.injEq] at h;obtain ⟨rfl,rfl,rfl,rfl⟩:=h;have h2:=err_readK l _ _ _ _ _ _ _ hrest;subst h2;have h1:=err_read hr;subst h1;have hA':∀j p r,bindN op (i+1+j)=0→lp[j]?=some p→l[j]?=some r→Rel B p r:=fun j p r a b c=>hA (j+1) p r (by rwa [show i+(j+1)=i+1+j by omega]) b c
  have hB':∀j r,0<bindN op (i+1+j)→l[j]?=some r→∃b,ts[i+1+j]?=some b∧b.good∧b.wt≤B∧r=.clo env b:=fun j r a b=>by
   obtain ⟨x,y⟩:=hB (j+1) r (by rwa [show i+(j+1)=i+1+j by omega]) b
   exact ⟨x,by rwa [show i+1+j=i+(j+1) by omega]⟩
  by_cases hb:0<bindN op i
  ·rw [if_pos hb] at hk;split at hk
   ·cases hk
   obtain ⟨b,hb1,hb2,hb3,rfl⟩:=hB 0 k (by simpa using hb) rfl;rw [Nat.add_zero] at hb1;rw [show (RV.clo env b).env=env from rfl,show (RV.clo env b).b=b from rfl] at hk
   have hb22:=bindN_le op i;obtain ⟨ke,ce,ue,Te,d1,d2,d3,d4⟩:=open_sim (eval_all B f) (l:=upP u (bindN op i)) (l':=upV u (bindN op i)) he (by rw [upP_len,upV_len]) (up_rel u _) hb2 hb3 hk;obtain ⟨w1,y1,F1,y2⟩:=op_run (op:=op) (n:=n) (n':=n') (ps:=kp0) hb1 (by rw [upP_len];exact hb22) d4;have hsle:=(st_le f).1 _ _ _ _ _ hk;obtain ⟨kr,cr,ur,Tr,Nr,r1,r2,r3,r4,r5,r6,r7,F2,r8⟩:=ih s1 nd k1 _ _ t s2 nd2 hr h0 w1 y1;obtain ⟨kk,cc,uu,TT,NN,q1,q2,q3,q4,q5,q6,q7,F3,q8⟩:=rk_sim ih op u d n n' kp0 ts e env he l lp (i+1) s2 nd2 ts2 s3 nd3 hrest (by omega) (by omega) (by simpa using hl) hA' hB';have hde:=d2.le;have hdp:=d2.p;have hsi:=surf_inn b;refine ⟨ke+(kr+kk),ce+(cr+cc),ue+(ur+uu),Te+(Tr+TT),Nr+NN,by omega,by omega,q3,fun h=>q4 (r4 (hsle h)),?_,by omega,by omega,F1+F2+F3,fun g hg m hm=>?_⟩
   ·rw [RV.vszL,if_pos hb,Nat.mul_add,Nat.mul_add];have hce:ce≤k1.vsz+B * ke:=by
     cases hke:ke with
     | zero =>
      have:=d2.v hke
      rw [hke] at hde;omega
     | succ k' =>
      rw [hke] at hde;have e1:(k'+1) * b.wt≤(k'+1) * B:=Nat.mul_le_mul_left _ hb3;have e2:(k'+1) * b.wt=(k'+1) * b.surf+(k'+1) * b.inn:=by rw [← hsi,Nat.mul_add]
      have e3:b.surf≤(k'+1) * b.surf:=Nat.le_mul_of_pos_left _ (by omega);rw [Nat.mul_comm B];omega
    omega
   ·rw [bkK,if_pos hb,y2 g (by omega) m (mok_1 hm)];have hm2:=mok_2 hm;simp only;rw [if_neg (by simp [aft]),r8 g (by omega) _ (mok_1 hm2)];simp only;rw [q8 g (by omega) _ (mok_2 hm2),aft_aft,aft_aft];simp only [Option.map_some]
  ·rw [if_neg hb] at hk;simp only [Option.some.injEq,Prod.mk.injEq] at hk;obtain ⟨rfl,rfl,_⟩:=hk;have hb0:bindN op i=0:=by omega
   have hrel:=hA 0 p k (by simpa using hb0) rfl rfl;obtain ⟨kr,cr,ur,Tr,Nr,r1,r2,r3,r4,r5,r6,r7,F2,r8⟩:=ih s nd k _ _ t s2 nd2 hr h0 p hrel;obtain ⟨kk,cc,uu,TT,NN,q1,q2,q3,q4,q5,q6,q7,F3,q8⟩:=rk_sim ih op u d n n' kp0 ts e env he l lp (i+1) s2 nd2 ts2 s3 nd3 hrest (by omega) (by omega) (by simpa using hl) hA' hB';refine ⟨kr+kk,cr+cc,ur+uu,Tr+TT,Nr+NN,by omega,by omega,q3,fun h=>q4 (r4 h),?_,by omega,by omega,F2+F3,fun g hg m hm=>?_⟩
   ·rw [RV.vszL,if_neg hb,Nat.mul_add];omega
   ·rw [bkK,if_neg hb];simp only;rw [if_neg (fun h=>h hm.e),r8 g (by omega) _ (mok_1 hm)];simp only;rw [q8 g (by omega) _ (mok_2 hm),aft_aft];simp only [Option.map_some]
theorem read_all (B:Nat):∀f,RdAll B f:=by
 intro f
 induction f with
 | zero=>intro s nd v u d t s' nd' h;rw [readR] at h;cases h
 | succ f ih =>
  intro s nd v u d t s' nd' h h0 v' hv;rw [readR] at h;split at h
  ·cases h
  rename_i hr;by_cases hbig:3000<nd+1∨120<d
  ·rw [if_pos (show (0:Int)=0∧(3000<nd+1∨120<d) from ⟨rfl,hbig⟩)] at h
   simp at h
  rw [if_neg (show ¬ ((0:Int)=0∧(3000<nd+1∨120<d)) from fun h=>hbig h.2),if_neg (by simp)] at h
  have htick:∀{m:M3} {k T:Nat},MOk m k (1+T)→tickP ⟨m.s,m.w,if m.e=0∧(3000<nd+1∨120<d) then 5 else m.e⟩=some (aft m 0 1):=by
   intro m k T hm;rw [if_neg (fun h=>hbig h.2)];exact tick_1 hm
  by_cases h1:v.op=1
  ·rw [if_pos h1] at h;simp only [Option.some.injEq,Prod.mk.injEq] at h;obtain ⟨rfl,rfl,rfl,_⟩:=h;obtain ⟨op,n,k,t0,e0,rfl,ho,hn⟩:=rel_mk hv;have hvz:v.vsz=1:=by
    cases hv with
    | var n=>simp [RV.var,RV.vsz,RV.vszL]
    | node op n n' kp kr ts e env h1'=>exact absurd h1 h1'
   refine ⟨0,0,0,1,1,by omega,by omega,by omega,id,by omega,by omega,by omega,1,fun g hg m hm=>?_⟩;obtain ⟨g,rfl⟩:∃k,g=k+1:=⟨g - 1,by omega⟩;rw [bkP,if_neg (by omega),htick (k:=0) (T:=0) hm];simp only;rw [if_neg (by simp [aft]),if_pos (by rw [← ho];exact h1),if_neg (by rw [← hn];omega),hn]
  ·rw [if_neg h1] at h;obtain ⟨n',kp,ts,e,env,rfl,b1,b2,b3,b4,b5,b6⟩:=rel_inv hv h1;have b14:=ar_len b1;cases hk:readK (fun s nd e k u=>readR f s nd e k u (d+1)) f v.op u 0 v.k s (nd+1) 0 with
   | none=>rw [hk] at h;cases h
   | some q =>
   obtain ⟨rs,s1,nd1,e1⟩:=q;rw [hk] at h;simp only [Option.map_some,Option.some.injEq,Prod.mk.injEq] at h;obtain ⟨rfl,rfl,rfl,rfl⟩:=h;obtain ⟨kk,cc,uu,TT,NN,q1,q2,q3,q4,q5,q6,q7,F3,q8⟩:=rk_sim ih v.op u d v.n n' kp ts e env b6 v.k kp 0 s (nd+1) rs s1 nd1 hk (by omega) (by omega) (by omega) (fun j p r a b c=>b4 j p r (by simpa using a) b c) (by
    intro j r a b;rw [Nat.zero_add] at a ⊢;have hj:j<ts.length:=by
     have:=(List.getElem?_eq_some_iff.1 b).1
     omega
    obtain ⟨⟨g1,g2⟩,_,g3⟩:=b5 j ts[j] a (List.getElem?_eq_getElem hj);rw [b,Option.some.injEq] at g3;exact ⟨ts[j],List.getElem?_eq_getElem hj,g1,g2,g3⟩)
   have hvz:v.vsz=1+RV.vszL v.op 0 v.k:=by obtain ⟨a,b,c,d,e⟩:=v;rw [RV.vsz];rfl
   refine ⟨kk,cc,uu,1+TT,1+NN,q1,by omega,q3,q4,by omega,by omega,by omega,F3+20,fun g hg m hm=>?_⟩;obtain ⟨g,rfl⟩:∃k,g=k+1:=⟨g - 1,by omega⟩;have hm':MOk (aft m 0 1) kk TT:=mok_2 (k1:=0) ⟨hm.e,hm.w,hm.w2,by have:=hm.s;omega,hm.s2⟩;rw [bkP,if_neg (by omega),htick hm];simp only;rw [if_neg (by simp [aft]),if_neg h1,if_neg (by omega),q8 g (by omega) _ hm',aft_aft];simp only [Nat.zero_add]
theorem norm_sim {f:Nat} {t u:Tm} (hg:t.good) (hw:t.wt≤3000) (hs:t.shaped=true) (h:normalR f t=some (u,0)):∃F,∀g,F≤g→normP g t=some (u,0):=by
 rw [normalR] at h;split at h
 ·cases h
 rename_i v s e he;split at h
 ·cases h
 rename_i w s2 nd2 e2 hr;simp only [Option.some.injEq] at h;by_cases h2:e2=0
 ·subst h2;rw [if_neg (by simp)] at h;simp only [Prod.mk.injEq,and_true] at h;subst h;have h1:=err_read hr;subst h1;obtain ⟨k0,c0,u0,T0,a1,a2,a3,v',a4,F0,a5⟩:=eval_all 3000 f 0 t [] v s he hg hw [] (envrel_nil _);obtain ⟨k1,c1,u1,T1,N,r1,r2,r3,r4,r5,r6,r7,F1,r8⟩:=read_all 3000 f s 0 v 0 1 w s2 nd2 hr (by omega) v' a4;have hs1:=(st_le f).1 _ _ _ _ _ he (by omega);have hs2:=r4 hs1;have hc:=cost_wt a2;have hp:=a2.p;have hk:k0+k1≤1000:=by omega
  have hc2:(k0+1) * t.wt≤(k0+1) * 3000:=Nat.mul_le_mul_left _ hw;have hvp:=vsz_pos v;refine ⟨F0+F1,fun g hg=>?_⟩;have hm:MOk ⟨100000,5000000,0⟩ (k0+k1) (T0+T1):=⟨rfl,by simp only;omega,by simp,by simp only;omega,by simp⟩;rw [normP,if_neg (by rw [hs];simp),a5 g (by omega) _ (mok_1 hm)];simp only;rw [if_neg (by simp [aft]),r8 g (by omega) _ (mok_2 hm)];simp only;rw [if_neg (by simp [aft])]
 ·rw [if_pos h2] at h;simp only [Prod.mk.injEq] at h;exact absurd h.2 h2
theorem chk_wt {t:Tm} (h:(t.chk 0 1).2=0):t.wt≤3000∧(t.chk 0 1).1=t.wt:=by
 have:=(chk_b t 0 1 (by omega)).2.2 h
 omega
theorem case_good {g:Ctx} {a t q:Tm} {object:Bool} (hC:CaseOk g a t true object) (hpl:object=true→a=q.plainT 2):∃G,CtxT g G∧(∃s,HasT G t s)∧t.wt≤3000∧(∃s,HasT G a s)∧a.wt≤3000:=by
 obtain ⟨G,hG⟩:=ctxG_ty hC.cg;have hw:=(chk_wt (hC.chk rfl)).1;have hgt:=hC.gt rfl;cases object
 ·have hga:=hC.ga rfl;obtain ⟨s,_,hs⟩:=(gr_ty hga G hG).1 rfl;have ht:=(gr_ty hgt G hG).2.1 rfl s hs
  have:=t_7 hga
  exact ⟨G,hG,⟨s,ht⟩,hw,⟨_,hs⟩,by omega⟩
 ·have ha:=hpl rfl;have hs:HasT G a 1:=by rw [ha];exact plainT_ty G 2 q
  have ht:=(gr_ty hgt G hG).2.2.1 rfl hs;have haw:a.wt≤20:=by have:=plainT_wt 2 q;rw [← ha] at this;simpa using Nat.le_trans this (by decide)
  exact ⟨G,hG,⟨6,ht⟩,hw,⟨1,hs⟩,by omega⟩
theorem np_ev {G:List Nat} {t u:Tm} {s k f:Nat} (ht:HasT G t s) (hsc:t.sc k) (hk:k≤100000) (hw:t.wt≤3000) (h:normalR f t=some (u,0)):Ev 20 [.fv t.enc] (.tuple [u.enc,.int .i64 0]):=by
 obtain ⟨F,hF⟩:=norm_sim (hasT_good ht k hsc (by omega)) hw (sc_shaped t k hsc) h;exact ⟨F+10000,fun n hn=>normP_ok (f:=F) (hF F (Nat.le_refl _)) (by omega) (by omega) (by omega)⟩
theorem is5_ok {n:Nat} {t w:Tm} (h:Ans (SS dt n 20 [.fv t.enc] ⟨[],[]⟩) (.tuple [w.enc,.int .i64 0])) (hw:w.wt+1<n) (hw2:w.wt≤1152921504606846976):Ans (SS dt (n+1) 37 [.fv t.enc,.fv w.enc] ⟨[],[]⟩) (.bool true):=by
 have s1:=same_ok n w w hw hw2;rw [(same_eq w w).2 rfl] at s1;rw [c37];obtain ⟨o1,p1,k1⟩:=t;obtain ⟨o2,p2,k2⟩:=w;simp only [enc_mk] at h s1 ⊢;simp only [S37_47,S37_48,S37,↓XX,XY,↓reduceIte,Nat.reduceBEq,Nat.reduceAdd,Int.cast_ofNat_Int,Int.reduceEq,Int.reduceLT,Int.reduceLE,↓iso_1 h,↓iso_2 s1];exact ans_fv _ _
theorem shift_ev {G:List Nat} {t u:Tm} {s k f:Nat} (ht:HasT G t s) (hG:G.length≤1000) (hsc:t.sc k) (hk:k≤500) (hw:t.wt≤3000) (h:normalR f t=some (u,0)) (d:Nat) (hd:d≤500):Ev 20 [.fv (t.shift d 0).enc] (.tuple [(u.shift d 0).enc,.int .i64 0]):=by
 have h1:=hasT_up ht (List.replicate d 7) (by rw [List.length_replicate];omega);rw [List.length_replicate] at h1;have h2:=shift_sc t d 0 k hsc (by omega);have h3:=shift_wt t d 0;obtain ⟨u',e',_,_,f',hf'⟩:=norm_ev2 (k:=k+d) (a:=t.shift d 0) (by omega) h2 (by rw [shift_dp];have:=dp_wt t;omega);obtain ⟨u2,q1,q2⟩:=normal_sh (by omega) hf' (sc_vb t k hsc (by omega))
 have:=normalR_det h q1
 simp only [Prod.mk.injEq] at this;obtain ⟨rfl,rfl⟩:=this;rw [q2] at hf';exact np_ev h1 h2 (by omega) (by rw [h3];exact hw) hf'
set_option maxRecDepth 20000 in
set_option maxHeartbeats 8000000 in
theorem normShift_ok (l:List Tm) (hll:l.length≤9223372036854775807) (r q:Tm) (by':Int) (object:Bool):∃N,AnsV (SS dt N 11 [.fv (.sl (l.map Tm.enc)),.fv r.enc,.fv q.enc,.fv (.int .i64 by'),.fv (.bool object)] ⟨[],[]⟩) (.bool true):=by
 obtain ⟨g,a,t,is,⟨N0,h0⟩,hC,hpl⟩:=case_ev l hll r q object;have hg4:=hC.len;obtain ⟨ut,et,⟨M1,kN⟩,hcase,f,hf⟩:=norm_ev2 (k:=g.length) (by omega) hC.tsc (by have:=hC.tdp;omega);have hj1:=Int.emod_nonneg by' (show (50:Int)≠0 by decide)
 have hj2:=Int.emod_lt_of_pos by' (show (0:Int)<50 by decide)
 obtain ⟨d,hd⟩:∃d:Nat,by' % 50=d:=⟨(by' % 50).toNat,by omega⟩;obtain ⟨N2,hN2⟩:∃N2:Nat,is=true→et=0→t.wt≤3000∧∀n,N2≤n→Ans (SS dt n 20 [.fv (t.shift d 0).enc] ⟨[],[]⟩) (.tuple [(ut.shift d 0).enc,.int .i64 0]):=by
  by_cases hh:is=true∧et=0
  ·obtain ⟨rfl,rfl⟩:=hh;obtain ⟨G,hG,⟨s1,ht⟩,hw,_,_⟩:=case_good hC hpl;obtain ⟨M2,k2⟩:=shift_ev ht (by rw [hG.len];omega) hC.tsc (by omega) hw hf d (by omega);exact ⟨M2,fun _ _=>⟨hw,k2⟩⟩
  ·exact ⟨0,fun h1 h2=>absurd ⟨h1,h2⟩ hh⟩
 obtain ⟨n,hn⟩:∃n,n=N0+M1+N2+Tm.wtL l+r.wt+q.wt+10000000000:=⟨_,rfl⟩;refine ⟨n+1,?_⟩;have h0:=h0 n (by omega);have kN:=kN n (by omega);have hk:=known5_ok (n:=n) (by omega);have hm:=many_ok l hll (n:=n) (by omega);have hw:=within5_ok (n:=n) (by omega) by' (m:=50) (by omega) (by omega);rw [hd] at hw;obtain ⟨m,hmn⟩:∃m,n=m+1:=⟨n - 1,by omega⟩;have fr:=few_ok (n:=m) r (by omega);have fq:=few_ok (n:=m) q (by omega);rw [← hmn] at fr fq;have v1:=heavy_ok (n:=n) (by omega) et;rw [c11];generalize (FV.sl (l.map Tm.enc))=le at *;generalize manyT l=ml at hm;generalize decide (r.count 300<300)=br at fr;generalize decide (q.count 300<300)=bq at fq;generalize gEnc g=ge at *;cases ml
 ·clear h0 hC fr fq kN hcase hN2 hf;obtain ⟨o1,p1,k1⟩:=r;obtain ⟨o2,p2,k2⟩:=q;simp only [enc_mk];simp (maxSteps:=1000000) only [↓UU1,↓XX,XY,↓reduceIte,Nat.reduceBEq,Nat.reduceAdd,Int.cast_ofNat_Int,Int.reduceEq,Int.reduceLT,Int.reduceLE,↓iso_0 hk,↓iso_1 hm];exact ansv
 cases br
 ·clear h0 hC fq kN hcase hN2 hf;obtain ⟨o1,p1,k1⟩:=r;obtain ⟨o2,p2,k2⟩:=q;simp only [enc_mk] at fr ⊢;simp (maxSteps:=1000000) only [↓UU1,↓XX,XY,↓reduceIte,Nat.reduceBEq,Nat.reduceAdd,Int.cast_ofNat_Int,Int.reduceEq,Int.reduceLT,Int.reduceLE,↓iso_0 hk,↓iso_1 hm,↓iso_1 fr];exact ansv
 cases bq
 ·clear h0 hC kN hcase hN2 hf;obtain ⟨o1,p1,k1⟩:=r;obtain ⟨o2,p2,k2⟩:=q;simp only [enc_mk] at fr fq ⊢;simp (maxSteps:=1000000) only [↓UU1,↓XX,XY,↓reduceIte,Nat.reduceBEq,Nat.reduceAdd,Int.cast_ofNat_Int,Int.reduceEq,Int.reduceLT,Int.reduceLE,↓iso_0 hk,↓iso_1 hm,↓iso_1 fr,↓iso_1 fq];exact ansv
 cases is
 ·clear hC hcase hN2 hf;obtain ⟨o1,p1,k1⟩:=r;obtain ⟨o2,p2,k2⟩:=q;obtain ⟨o3,p3,k3⟩:=a;obtain ⟨o4,p4,k4⟩:=t;obtain ⟨o5,p5,k5⟩:=ut;simp only [enc_mk] at fr fq h0 kN ⊢;simp (maxSteps:=1000000) only [↓UU1,↓XX,XY,↓reduceIte,Nat.reduceBEq,Nat.reduceAdd,Int.cast_ofNat_Int,Int.reduceEq,Int.reduceLT,Int.reduceLE,↓iso_0 hk,↓iso_1 hm,↓iso_1 fr,↓iso_1 fq,↓iso_4 h0,↓iso_1 kN];exact ansv
 rcases hcase with ⟨rfl,hu⟩ | ⟨het,rfl⟩
 case inr =>
  have hv':(decide (et=17) || decide (et=5))=true:=by rcases het with rfl | rfl<;>rfl
  rw [hv'] at v1;clear hC hN2 hf;obtain ⟨o1,p1,j1⟩:=r;obtain ⟨o2,p2,j2⟩:=q;obtain ⟨o3,p3,j3⟩:=a;obtain ⟨o4,p4,j4⟩:=t;simp only [enc_mk,Tm.z,List.map_nil] at fr fq h0 kN ⊢;simp (maxSteps:=1000000) only [↓UU1,↓XX,XY,↓reduceIte,Nat.reduceBEq,Nat.reduceAdd,Int.cast_ofNat_Int,Int.reduceEq,Int.reduceLT,Int.reduceLE,↓iso_0 hk,↓iso_1 hm,↓iso_1 fr,↓iso_1 fq,↓iso_4 h0,↓iso_1 kN,↓iso_1 v1];exact ansv
 obtain ⟨tw,hNn⟩:=hN2 rfl rfl;have uw:=hu.wt;have hv':(decide ((0:Int)=17) || decide ((0:Int)=5))=false:=rfl;rw [hv'] at v1;have hwk:=sc_wk _ _ hC.tsc;have uwk:=sc_wk _ _ hu.sc;have e1:=shift_ok n t d 0 (by omega) hwk (by omega) (by omega);have e2:=shift_ok n ut d 0 (by omega) uwk (by omega) (by omega);obtain ⟨n',hn'⟩:∃n',n=n'+1:=⟨n - 1,by omega⟩;have hs:=is5_ok (hNn n' (by omega)) (by rw [shift_wt];omega) (by rw [shift_wt];omega);rw [← hn'] at hs;clear hC hN2 hNn hf hu uw hpl hwk uwk;generalize t.shift d 0=td at e1 hs;generalize ut.shift d 0=ud at e2 hs;obtain ⟨o1,p1,j1⟩:=r;obtain ⟨o2,p2,j2⟩:=q;obtain ⟨o3,p3,j3⟩:=a;obtain ⟨o4,p4,j4⟩:=t;obtain ⟨o5,p5,ks⟩:=ut;obtain ⟨o6,p6,j6⟩:=td;obtain ⟨o7,p7,j7⟩:=ud;simp only [enc_mk] at fr fq h0 kN e1 e2 hs ⊢;simp (maxSteps:=1000000) only [↓UU1,↓XX,XY,↓reduceIte,Nat.reduceBEq,Nat.reduceAdd,Int.cast_ofNat_Int,Int.reduceEq,Int.reduceLT,Int.reduceLE,↓iso_0 hk,↓iso_1 hm,↓iso_1 fr,↓iso_1 fq,↓iso_4 h0,↓iso_1 kN,↓iso_1 v1,↓iso_2 hw,↓iso_3 e1,↓iso_3 e2,↓iso_2 hs];exact ansv
end Idl
end Go.Proofs.Ytbkdidonegggdaa

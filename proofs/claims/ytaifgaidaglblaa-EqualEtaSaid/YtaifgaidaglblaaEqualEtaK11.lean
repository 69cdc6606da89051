/-
  Texts of a proof, part 11: an ideal semantics of the program, its functions in shallow form, contracts of them. No statement of the seat is proved here.
-/
import Derived.Test.YtaifgaidaglblaaEqualEtaK10
set_option linter.all false
noncomputable section
namespace Go.Proofs.Ytaifgaidaglblaa
namespace Idl
theorem Aa3 {α:Type}:∀(r:Rd α) (h:Hp) (l:List Ref) {x:α} {l':List Ref},r.runLog h l=some (x,l')→r.run h=some x
 | .ret a,h,l,x,l',e=>by simp only [Rd.runLog,AwP,AwQ] at e;rw [e.1];rfl
 | .fail,_,_,_,_,e=>by cases e
 | .get r k,h,l,x,l',e=>by
  simp only [Rd.runLog] at e;simp only [Rd.run];cases hg:h.get r with
  | none=>rw [hg] at e;cases e
  | some b=>rw [hg] at e;exact Aa3 (k b) h _ e
theorem Vy {v:IV} {own:List (Nat×Blk)} {ext:List Blk} {w:FV} (h:∃u lg,∀(e:Option (IV×Hp)) (K:FV→List (Ref×Blk)→List Ref→Option (IV×Hp)),Dj 12 v ⟨own,ext⟩ [] e K=K w u lg):∃u,(C2 4096 v).run ⟨own,ext⟩=some (w,u):=by
 obtain ⟨u,lg,hz⟩:=h;rcases PC 12 v ⟨own,ext⟩ [] none (fun w _ _=>some (IV.fv w,(⟨[],[]⟩:Hp))) (.fv w,⟨[],[]⟩) (hz ..) with h | ⟨x,u',lg',h1,_,h2⟩
 ·cases h
 ·simp only [AwP,AwQ,IV.fv.injEq,and_true] at h2;subst h2;exact ⟨u',Aa3 _ _ _ (h1 4096 (by decide))⟩
theorem Vn:∀l:List FV,IV.refs.refsL (l.map .fv)=[]
 | []=>rfl
 | v::l=>by
  simp only [AwV,IV.refs.refsL,IV.refs,Vn l,List.append_nil]
theorem MQ:∀(args:List IV) (ks:List Bool) {vs:List FV},(∀b∈ks,b=false)→Bz args=some vs→Bv ks args=.ret (vs.map .fv,[],[])
 | [],ks,vs,_,hz=>by cases hz;cases ks<;>rfl
 | v::l,[],vs,_,hz=>Pj (v::l) hz
 | v::l,b::ks,vs,hk,hz=>by
  have hb:=hk b List.mem_cons_self;subst hb;simp only [Bz] at hz;cases h1:A8 v with
  | none=>rw [h1] at hz;cases hz
  | some x =>
   rw [h1] at hz;cases h2:Bz l with
   | none=>rw [h2] at hz;cases hz
   | some ys =>
    rw [h2] at hz;cases hz;simp only [Bv,frp 4096 (by omega) h1,Rd.bind,MQ l ks (fun c hc=>hk c (List.mem_cons_of_mem _ hc)) h2];rfl
theorem Aes (s:Nat) (ext:List Blk):Qi 400 [.own s] 0 ext=false:=rfl
theorem Agk {ks:List Bool} (hks:∀b∈ks,b=false) {ih:Aa} {f:FuncId} {args:List IV} {vs:List FV} {w:FV} {s:Nat} {st st':List FV} {own:List (Nat×Blk)} (hz:Bz args=some vs) (hl:Ap s own=some (.row (st.map .fv) false))
  (hr:Bx (ih f (.ptr (.ext 0) 0::vs.map .fv) ⟨[],[.row (st.map .fv) false]⟩) w [.row (st'.map .fv) false]) (k:IV→Hp→List Ref→List Ref→Option (IV×Hp)) :
  Al (true::ks) false false ih f (.ptr (.own s) 0::args) ⟨own,[]⟩ k=k (.fv w) ⟨AN s (.row (st'.map .fv) false) own,[]⟩ [.own s] [.own s]:=by
 obtain ⟨v,own',e1,hfz⟩:=hr;obtain ⟨u,hu⟩:=Vy hfz;have hD:GU (true::ks) false false ih f (.ptr (.own s) 0::args) ⟨own,[]⟩ k=k (.fv w) ⟨AN s (.row (st'.map .fv) false) own,[]⟩ [.own s] [.own s]:=by
  have h1:Bv (true::ks) (.ptr (.own s) 0::args)=.ret (.ptr (.own s) 0::vs.map .fv,[.own s],[]):=by
   simp only [Bv,MQ args ks hks hz,Rd.bind,IV.refs];rfl
  have h2:(Ck 4096 [.own s] []).runLog ⟨own,[]⟩ []=some ([(.own s,.row (st.map .fv) false)],[.own s]):=by
   show (Ck (4094+1+1) [.own s] []).runLog ⟨own,[]⟩ []=_
   simp only [Ck,hasRef,Bool.false_eq_true,if_false,Rd.runLog,Hp.get,hl,Blk.refs,Vn,List.append_nil,List.nil_append]
  have h3:IV.ren.renL (E9 [(.own s,.row (st.map .fv) false)]) (.ptr (.own s) 0::vs.map .fv)=some (.ptr (.ext 0) 0::vs.map .fv):=by
   simp only [IV.ren.renL,IV.ren,E9,Co,if_true,AwS,Option.bind_some,It]
  have h4:Bd (E9 [(.own s,.row (st.map .fv) false)]) [.row (st.map .fv) false]=some [.row (st.map .fv) false]:=by
   simp only [Bd,Blk.ren,It,AwS,Option.bind_some]
  have h5:Bd (Cw [(.own s,.row (st.map .fv) false)]) [.row (st'.map .fv) false]=some [.row (st'.map .fv) false]:=by
   simp only [Bd,Blk.ren,It,AwS,Option.bind_some]
  unfold GU;simp only [h1,Rd.runLog,h2,h3,AwV,AwU,h4,E8 (CB 3),E8 C8,Mo,Bool.false_eq_true,if_false,e1,hu,AwS,IV.ren,h5,AwT,List.length_nil,Bw,List.all_nil,and_self,if_true,List.nil_append,List.zip_cons_cons,List.zip_nil_left];have h6:laid ⟨own,[]⟩ [(.own s,.row (st'.map .fv) false)]=some ⟨AN s (.row (st'.map .fv) false) own,[]⟩:=by
   simp only [laid,Hp.get,hl,Hp.set]
  simp only [h6,ON,CB]
 rw [PY,Ajb,XF,Vo 0 args _ _ _ _ ks hks hz];simp only [VR,Aes,cond_false];exact hD
theorem ApP {ih:Aa} {f:FuncId} {x y:IV} {vx vy w:FV} {s:Nat} {a b c a' b' c':FV} {own own':List (Nat×Blk)} (hr:Bx (ih f [.ptr (.ext 0) 0,.fv vx,.fv vy] ⟨[],[.row [.fv a,.fv b,.fv c] false]⟩) w [.row [.fv a',.fv b',.fv c'] false])
  (hx:A8 x=some vx) (hy:A8 y=some vy) (hl:Ap s own=some (.row [.fv a,.fv b,.fv c] false)) (ho:AN s (.row [.fv a',.fv b',.fv c'] false) own=own') (k:IV→Hp→List Ref→List Ref→Option (IV×Hp)) :
  Al [true,false,false] false false ih f [.ptr (.own s) 0,x,y] ⟨own,[]⟩ k=k (.fv w) ⟨own',[]⟩ [.own s] [.own s]:=by
 subst ho;exact Agk (ks:=[false,false]) (by simp) (st:=[a,b,c]) (st':=[a',b',c']) (XJ hx hy) hl hr k
theorem AnO {ih:Aa} {f:FuncId} {x y z:IV} {vx vy vz w:FV} {s:Nat} {a b c a' b' c':FV} {own own':List (Nat×Blk)} (hr:Bx (ih f [.ptr (.ext 0) 0,.fv vx,.fv vy,.fv vz] ⟨[],[.row [.fv a,.fv b,.fv c] false]⟩) w [.row [.fv a',.fv b',.fv c'] false])
  (hx:A8 x=some vx) (hy:A8 y=some vy) (hz:A8 z=some vz) (hl:Ap s own=some (.row [.fv a,.fv b,.fv c] false)) (ho:AN s (.row [.fv a',.fv b',.fv c'] false) own=own') (k:IV→Hp→List Ref→List Ref→Option (IV×Hp)) :
  Al [true,false,false,false] false false ih f [.ptr (.own s) 0,x,y,z] ⟨own,[]⟩ k=k (.fv w) ⟨own',[]⟩ [.own s] [.own s]:=by
 subst ho;exact Agk (ks:=[false,false,false]) (by simp) (st:=[a,b,c]) (st':=[a',b',c']) (Afe hx hy hz) hl hr k
theorem Alh {ih:Aa} {f:FuncId} {x y:IV} {vx vy w:FV} {s:Nat} {a b a' b':FV} {own own':List (Nat×Blk)} (hr:Bx (ih f [.ptr (.ext 0) 0,.fv vx,.fv vy] ⟨[],[.row [.fv a,.fv b] false]⟩) w [.row [.fv a',.fv b'] false])
  (hx:A8 x=some vx) (hy:A8 y=some vy) (hl:Ap s own=some (.row [.fv a,.fv b] false)) (ho:AN s (.row [.fv a',.fv b'] false) own=own') (k:IV→Hp→List Ref→List Ref→Option (IV×Hp)) :
  Al [true,false,false] false false ih f [.ptr (.own s) 0,x,y] ⟨own,[]⟩ k=k (.fv w) ⟨own',[]⟩ [.own s] [.own s]:=by
 subst ho;exact Agk (ks:=[false,false]) (by simp) (st:=[a,b]) (st':=[a',b']) (XJ hx hy) hl hr k
def AI (f:Nat) (t:Tm):Option (Tm×Int):=match Au f 0 0 t [] with
 | none=>none
 | some (v,s,e)=>match AS f s 0 e v 0 1 with
  | none=>none
  | some (u,_,_,e)=>some (if e≠0 then (.z,e) else (u,0))
theorem Ij {n:Nat} (hn:0<n) (e:Int):Bc (SS dt n 15 [iv e] ⟨[],[]⟩) (.bool (decide (e=17) || decide (e=5))):=by
 obtain ⟨n,rfl⟩:∃k,n=k+1:=⟨n - 1,by omega⟩;rw [c15];by_cases h1:e=17
 ·simp only [S15,↓XX,XY,↓reduceIte,Nat.reduceBEq,Nat.reduceAdd,Int.reduceEq,Int.reduceLT,Int.reduceLE,h1,Bool.true_or];exact Ao _ _
 ·simp only [S15,↓XX,XY,↓reduceIte,Nat.reduceBEq,Nat.reduceAdd,Int.reduceEq,Int.reduceLT,Int.reduceLE,h1,Bool.false_or];exact Ao _ _
theorem Aft (f:Nat) (t u:Tm) (e:Int) (h:AI f t=some (u,e)) (n:Nat) (hn:f+2≤n):Bc (SS dt n 17 [.fv t.enc] ⟨[],[]⟩) (.tuple [u.enc,.int .i64 e]):=by
 obtain ⟨n,rfl⟩:∃k,n=k+1:=⟨n - 1,by omega⟩;rw [c17];unfold AI at h;cases he:Au f 0 0 t [] with
 | none=>rw [he] at h;cases h
 | some q =>
 obtain ⟨v,s1,e1⟩:=q;rw [he] at h;simp only at h;cases hr:AS f s1 0 e1 v 0 1 with
 | none=>rw [hr] at h;cases h
 | some q =>
 obtain ⟨w,s2,nd2,e2⟩:=q;rw [hr] at h;simp only [AwP] at h;have h1:=(AbK f).1 0 0 t [] v s1 e1 0 he n (by omega);have h2:=Ald f s1 0 e1 v 0 1 w s2 nd2 e2 hr n (by omega);obtain ⟨op,m,ks⟩:=t;rw [Ai] at h1 ⊢;simp only [AwU] at h1;have c1:=fun k=>ApP (k:=k) h1 (x:=.fv (.agg [.int .i64 op,.int .i64 m,.sl (ks.map Tm.enc)])) (y:=.nils) (s:=17826817) rfl rfl
  (own:=[(17825792,.row [iv op,iv m,.fv (.sl (ks.map Tm.enc))] false),(17825793,.row [iv 0,iv 0,.nils] false),(17826817,.row [iv 0,iv 0,iv 0] false)])
  (own':=[(17825792,.row [iv op,iv m,.fv (.sl (ks.map Tm.enc))] false),(17825793,.row [iv 0,iv 0,.nils] false),(17826817,.row [iv s1,iv 0,iv e1] false)]) (by simp [Ap]) (by simp [AN])
 have c2:=fun k=>AnO (k:=k) h2 (x:=.fv v.enc) (y:=iv 0) (z:=iv 1) (s:=17826817) rfl rfl rfl
  (own:=[(17825792,.row [iv op,iv m,.fv (.sl (ks.map Tm.enc))] false),(17825793,.row [iv 0,iv 0,.nils] false),(17826817,.row [iv s1,iv 0,iv e1] false)])
  (own':=[(17825792,.row [iv op,iv m,.fv (.sl (ks.map Tm.enc))] false),(17825793,.row [iv 0,iv 0,.nils] false),(17826817,.row [iv s2,iv nd2,iv e2] false)]) (by simp [Ap]) (by simp [AN])
 obtain ⟨wo,wn,wk⟩:=w;rw [Ai] at c2;by_cases hz:e2=0
 ·rw [if_neg (by simp [hz])] at h;simp only [AwQ] at h;obtain ⟨rfl,rfl⟩:=h;subst hz;simp only [X9,Xq,XL,Ye,W3,S17,↓XX,XY,↓reduceIte,Nat.reduceBEq,Nat.reduceAdd,Int.reduceEq,Int.reduceLT,Int.reduceLE,↓c1,↓c2,Ai];exact Ao _ _
 ·rw [if_pos hz] at h;simp only [AwQ] at h;obtain ⟨rfl,rfl⟩:=h;simp only [X9,Xq,XL,Ye,W3,S17,↓XX,XY,↓reduceIte,Nat.reduceBEq,Nat.reduceAdd,Int.reduceEq,Int.reduceLT,Int.reduceLE,↓c1,↓c2,hz,Tm.z,Ai];exact AX rfl (by simp) _
theorem Dc {ev ev':Int→Int→Tm→Option (RV×Int×Int)} (h:∀s e t r,ev s e t=some r→ev' s e t=some r) (op:Int) (env:List RV):∀(l:List Tm) (i:Nat) (s e:Int) (r:List RV×Int×Int),AR ev op env i l s e=some r→AR ev' op env i l s e=some r
 | [],i,s,e,r,hr=>hr
 | t::l,i,s,e,r,hr=>by
  simp only [AR] at hr ⊢;by_cases hb:0<Ae op i
  ·rw [if_pos hb] at hr ⊢;cases hk:AR ev op env (i+1) l s e with
   | none=>rw [hk] at hr;cases hr
   | some q=>rw [hk] at hr;rw [Dc h op env l (i+1) s e q hk];exact hr
  ·rw [if_neg hb] at hr ⊢;cases he:ev s e t with
   | none=>rw [he] at hr;cases hr
   | some q =>
    obtain ⟨v,s1,e1⟩:=q;rw [he] at hr;rw [h _ _ _ _ he];simp only at hr ⊢;cases hk:AR ev op env (i+1) l s1 e1 with
    | none=>rw [hk] at hr;cases hr
    | some q=>rw [hk] at hr;rw [Dc h op env l (i+1) s1 e1 q hk];exact hr
theorem QS:∀f,(∀s e t env r,Au f s e t env=some r→Au (f+1) s e t env=some r)∧(∀s e v r,headR f s e v=some r→headR (f+1) s e v=some r):=by
 intro f
 induction f with
 | zero=>exact ⟨(by intro s e t env r h;rw [Au] at h;cases h),(by intro s e v r h;rw [headR] at h;cases h)⟩
 | succ f ih =>
  refine ⟨?_,?_⟩
  ·intro s e t env r h;obtain ⟨op,m,ks⟩:=t;rw [Au] at h ⊢;split at h
   ·rename_i h0;rw [if_pos h0];exact h
   ·rename_i h0;rw [if_neg h0];split at h
    ·cases h
    ·rename_i h1;rw [if_neg h1];split at h
     ·rename_i h2;rw [if_pos h2];exact h
     ·rename_i h2;rw [if_neg h2];split at h
      ·cases h
      ·rename_i h3;rw [if_neg (by omega)];split at h
       ·cases h
       ·rename_i h4;rw [if_neg h4];split at h
        ·cases h
        ·rename_i vs s1 e1 hk;rw [Dc (ev':=fun s e t=>Au (f+1) s e t env) (fun s e t r=>ih.1 s e t env r) op env ks 0 s e _ hk];exact ih.2 _ _ _ _ h
  ·intro s e v r h;rw [headR] at h ⊢;by_cases h0:e≠0
   ·rw [if_pos h0] at h ⊢;exact h
   rw [if_neg h0] at h ⊢;by_cases h1:s<0∨1000000<s
   ·rw [if_pos h1] at h;cases h
   rw [if_neg h1] at h ⊢;by_cases h5:v.op=5
   ·rw [if_pos h5] at h ⊢;cases hk:v.k[0]? with
    | none=>rw [hk] at h;cases h
    | some k0 =>
     rw [hk] at h;simp only at h ⊢;by_cases h4:k0.op=4
     ·rw [if_pos h4] at h ⊢;by_cases hq:s+1≤1000
      ·rw [if_pos hq] at h ⊢;cases hc:k0.k[1]? with
       | none=>rw [hc] at h;cases h
       | some c =>
        cases hx:v.k[1]? with
        | none=>rw [hc,hx] at h;cases h
        | some x =>
         rw [hc,hx] at h;simp only at h ⊢;by_cases hl:900000<c.env.length
         ·rw [if_pos hl] at h;cases h
         ·rw [if_neg hl] at h ⊢;exact ih.1 _ _ _ _ _ h
      ·rw [if_neg hq] at h ⊢;exact h
     ·rw [if_neg h4] at h ⊢;exact h
   rw [if_neg h5] at h ⊢;by_cases h89:v.op=8∨v.op=9
   ·rw [if_pos h89] at h ⊢;exact h
   rw [if_neg h89] at h ⊢;by_cases h30:v.op=30
   ·rw [if_pos h30] at h ⊢;exact h
   rw [if_neg h30] at h ⊢;by_cases h19:v.op=19
   ·rw [if_pos h19] at h ⊢;exact h
   rw [if_neg h19] at h ⊢;by_cases h13:v.op=13
   ·rw [if_pos h13] at h ⊢;cases hk0:v.k[0]? with
    | none=>rw [hk0] at h;cases h
    | some k0 =>
    cases hk1:v.k[1]? with
    | none=>rw [hk0,hk1] at h;cases h
    | some k1 =>
    cases hk2:v.k[2]? with
    | none=>rw [hk0,hk1,hk2] at h;cases h
    | some k2 =>
    cases hk3:v.k[3]? with
    | none=>rw [hk0,hk1,hk2,hk3] at h;cases h
    | some k3 =>
    rw [hk0,hk1,hk2,hk3] at h;simp only at h ⊢;by_cases h11:k3.op=11
    ·rw [if_pos h11] at h ⊢;exact h
    rw [if_neg h11] at h ⊢;by_cases h12:k3.op=12
    ·rw [if_pos h12] at h ⊢;by_cases hq:s+1≤1000
     ·rw [if_pos hq] at h ⊢;cases hx:k3.k[0]? with
      | none=>rw [hx] at h;cases h
      | some x =>
       rw [hx] at h;simp only at h ⊢;cases hd:headR f (s+1) 0 (.node 13 0 [k0,k1,k2,x]) with
       | none=>rw [hd] at h;cases h
       | some q =>
        obtain ⟨w,s2,e2⟩:=q;rw [hd] at h;rw [ih.2 _ _ _ _ hd];simp only at h ⊢;by_cases hl:900000<k2.env.length
        ·rw [if_pos hl] at h;cases h
        ·rw [if_neg hl] at h ⊢;exact ih.1 _ _ _ _ _ h
     ·rw [if_neg hq] at h ⊢;exact h
    ·rw [if_neg h12] at h ⊢;exact h
   rw [if_neg h13] at h ⊢;exact h
theorem Cq {f g:Nat} (hfg:f≤g) {s e:Int} {t:Tm} {env:List RV} {r:RV×Int×Int} (h:Au f s e t env=some r):Au g s e t env=some r:=by
 induction hfg with
 | refl=>exact h
 | step _ ih=>exact (QS _).1 _ _ _ _ _ ih
theorem T4 {f g:Nat} (hfg:f≤g) {s e:Int} {v:RV} {r:RV×Int×Int} (h:headR f s e v=some r):headR g s e v=some r:=by
 induction hfg with
 | refl=>exact h
 | step _ ih=>exact (QS _).2 _ _ _ _ ih
def ar (op:Int):Option Nat :=
 if op=0∨op=1∨op=2∨op=10∨op=11∨op=14∨op=15∨op=25 then some 0
 else if op=8∨op=9∨op=12∨op=18∨op=19∨op=23∨op=24∨op=30 then some 1
 else if op=3∨op=4∨op=5∨op=6∨op=16∨op=17∨op=20∨op=21∨op=22∨op=26∨op=28∨op=29 then some 2
 else if op=7∨op=27 then some 3 else if op=13 then some 4 else none
def BS (op n:Int):Prop:=if op=2 then 0≤n∧n≤2 else if op=26 then 0≤n∧n≤4 else if op=25 then -2305843009213693952≤n∧n≤2305843009213693952 else n=0
mutual
def Tm.sc:Tm→Nat→Prop
 | .mk op n ks,k=>ar op=some ks.length∧(if op=1 then 0≤n∧n<k else BS op n)∧Tm.scL op 0 ks k
def Tm.scL:Int→Nat→List Tm→Nat→Prop
 | _,_,[],_=>True
 | op,i,t::l,k=>t.sc (k+Ae op i)∧Tm.scL op (i+1) l k
end
mutual
def Tm.bd:Tm→Nat
 | .mk op _ ks=>Tm.bdL op 0 ks
def Tm.bdL:Int→Nat→List Tm→Nat
 | _,_,[]=>0
 | op,i,t::l=>max (Ae op i+t.bd) (Tm.bdL op (i+1) l)
end
section
variable (k0 D:Nat) (L:Int)
mutual
def RV.ok:RV→Prop
 | .mk op n k _ _=>if op=1 then -(k0:Int)≤n∧n<L∧k=[] else ar op=some k.length∧BS op n∧RV.okL op 0 k
def RV.okL:Int→Nat→List RV→Prop
 | _,_,[]=>True
 | op,i,v::l=>(if 0<Ae op i then RV.okC (Ae op i) v else RV.ok v)∧RV.okL op (i+1) l
def RV.okC:Nat→RV→Prop
 | b,.mk _ _ _ env bd=>RV.okE env∧bd.sc (k0+env.length+b)∧env.length+b+bd.bd≤D
def RV.okE:List RV→Prop
 | []=>True
 | v::l=>RV.ok v∧RV.okE l
end
end
end Idl
end Go.Proofs.Ytaifgaidaglblaa
namespace Go.Proofs.Ytaifgaidaglblaa
namespace Idl
theorem Wt {op:Int} {n:Nat} (h:ar op=some n):n≤4:=by
 unfold ar at h
 repeat' split at h
 all_goals first | (simp only [AwP] at h;omega) | cases h
section
variable {k0 D:Nat} {L:Int}
theorem ZH:∀{l:List RV},RV.okE k0 D L l→∀{i:Nat} {v:RV},l[i]?=some v→RV.ok k0 D L v
 | [],_,i,v,h=>by simp at h
 | a::l,ho,i,v,h=>by
  rw [RV.okE] at ho;cases i with
  | zero=>simp at h;subst h;exact ho.1
  | succ i=>simp at h;exact ZH ho.2 h
theorem KJ:∀{l l':List RV},RV.okE k0 D L l→RV.okE k0 D L l'→RV.okE k0 D L (l++l')
 | [],l',_,h=>h
 | a::l,l',h,h'=>by
  rw [RV.okE] at h;rw [List.cons_append,RV.okE];exact ⟨h.1,KJ h.2 h'⟩
theorem Rx {v:RV} (h:RV.ok k0 D L v):RV.okE k0 D L [v]:=by rw [RV.okE,RV.okE];exact ⟨h,trivial⟩
theorem AkO {v w:RV} (h:RV.ok k0 D L v) (h':RV.ok k0 D L w):RV.okE k0 D L [v,w]:=by rw [RV.okE];exact ⟨h,Rx h'⟩
theorem Ky:∀{l:List RV} {op:Int} {i:Nat},RV.okL k0 D L op i l→∀{j:Nat} {v:RV},l[j]?=some v→(if 0<Ae op (i+j) then RV.okC k0 D L (Ae op (i+j)) v else RV.ok k0 D L v)
 | [],op,i,_,j,v,h=>by simp at h
 | a::l,op,i,ho,j,v,h=>by
  rw [RV.okL] at ho;cases j with
  | zero=>simp at h;subst h;exact ho.1
  | succ j =>
   simp at h
   have:=Ky ho.2 h
   rw [show i+1+j=i+(j+1) by omega] at this
   exact this
theorem AcB {op n:Int} {k:List RV} (h1:op≠1) (ha:ar op=some k.length) (hn:BS op n) (hk:RV.okL k0 D L op 0 k):RV.ok k0 D L (.node op n k):=by
 rw [RV.node,RV.ok,if_neg h1];exact ⟨ha,hn,hk⟩
theorem Ft {v:RV} (h:RV.ok k0 D L v) (h1:v.op≠1):ar v.op=some v.k.length∧BS v.op v.n∧RV.okL k0 D L v.op 0 v.k:=by
 obtain ⟨op,n,k,env,b⟩:=v;rw [RV.ok] at h;have h1:op≠1:=h1;rw [if_neg h1] at h;exact h
theorem Sv:RV.ok k0 D L .zero:=by
 rw [RV.zero,RV.ok,if_neg (by decide)];exact ⟨by decide,by simp [BS],by rw [RV.okL];trivial⟩
theorem Gb {v:RV} (h:RV.ok k0 D L v) (h1:v.op≠1) {j:Nat} (hj:j<v.k.length) (hb:Ae v.op j=0):∃w,v.k[j]?=some w∧RV.ok k0 D L w:=by
 obtain ⟨_,_,hl⟩:=Ft h h1;refine ⟨v.k[j],List.getElem?_eq_getElem hj,?_⟩
 have:=Ky hl (List.getElem?_eq_getElem hj)
 rw [Nat.zero_add,if_neg (by omega)] at this;exact this
theorem Xg {v:RV} (h:RV.ok k0 D L v) (h1:v.op≠1) {j:Nat} (hj:j<v.k.length) (hb:0<Ae v.op j):∃w,v.k[j]?=some w∧RV.okE k0 D L w.env∧w.b.sc (k0+w.env.length+Ae v.op j)∧w.env.length+Ae v.op j+w.b.bd≤D:=by
 obtain ⟨_,_,hl⟩:=Ft h h1;refine ⟨v.k[j],List.getElem?_eq_getElem hj,?_⟩
 have:=Ky hl (List.getElem?_eq_getElem hj)
 rw [Nat.zero_add,if_pos hb] at this;generalize v.k[j]=w at this ⊢;obtain ⟨op,n,k,env,b⟩:=w;rw [RV.okC] at this;exact this
def Ug (s s' e':Int):Prop:=s≤s'∧(e'=0∧s'≤1000∨e'=17∧s'=1001)
def Ae4 (k0 D:Nat) (L:Int) (c:Nat):Prop:=∀(v:RV) (s:Int),v.op≠1→RV.ok k0 D L v→0≤s→s≤1000→1000≤s+c→∃f w s' e',headR f s 0 v=some (w,s',e')∧RV.ok k0 D L w∧Ug s s' e'
def ApA (k0 D:Nat) (L:Int) (c:Nat):Prop:=∀(t:Tm) (env:List RV) (s:Int),RV.okE k0 D L env→t.sc (k0+env.length)→env.length+t.bd≤D→0≤s→s≤1000→1000≤s+c→∃f v s' e',Au f s 0 t env=some (v,s',e')∧RV.ok k0 D L v∧Ug s s' e'
theorem O5 (s e:Int) (h:e≠0) (t:Tm) (env:List RV):Au 1 s e t env=some (.zero,s,e):=by
 obtain ⟨op,m,ks⟩:=t;rw [Au,if_pos h]
theorem Ahz {c:Nat} (h:ApA k0 D L c) {t:Tm} {env:List RV} {s e:Int} (h1:RV.okE k0 D L env) (h2:t.sc (k0+env.length)) (h3:env.length+t.bd≤D) (h0:0≤s) (he:e=0∧s≤1000∨e=17∧s=1001) (hc:1000≤s+c) :
  ∃f v s' e',Au f s e t env=some (v,s',e')∧RV.ok k0 D L v∧Ug s s' e':=by
 rcases he with ⟨rfl,hs⟩ | ⟨rfl,hs⟩
 ·exact h t env s h1 h2 h3 h0 hs hc
 ·exact ⟨1,_,_,_,O5 s 17 (by decide) t env,Sv,by omega,.inr ⟨rfl,hs⟩⟩
theorem QE (hD:D≤900000) (c:Nat) (he:∀c',c=c'+1→ApA k0 D L c') (hh:∀c',c=c'+1→Ae4 k0 D L c'):Ae4 k0 D L c:=by
 intro v s h1 ho hs0 hs1 hsc;obtain ⟨ha,hn,hl⟩:=Ft ho h1;have stop:Ug s s 0:=⟨by omega,.inl ⟨rfl,hs1⟩⟩;by_cases h5:v.op=5
 ·have hlen:v.k.length=2:=by rw [h5] at ha;simpa [ar] using ha.symm
  obtain ⟨k0',hk0,ok0⟩:=Gb ho h1 (j:=0) (by omega) (by rw [h5];rfl);obtain ⟨k1,hk1,ok1⟩:=Gb ho h1 (j:=1) (by omega) (by rw [h5];rfl);by_cases h4:k0'.op=4
  ·by_cases hq:s+1≤1000
   ·obtain ⟨c',rfl⟩:∃c',c=c'+1:=⟨c - 1,by omega⟩;obtain ⟨ha4,_,_⟩:=Ft ok0 (by omega);have hlen4:k0'.k.length=2:=by rw [h4] at ha4;simpa [ar] using ha4.symm
    obtain ⟨w,hw,w1,w2,w3⟩:=Xg ok0 (by omega) (j:=1) (by omega) (by rw [h4];decide);have hb1:Ae k0'.op 1=1:=by rw [h4];rfl
    rw [hb1] at w2 w3;obtain ⟨f,x,s',e',hx,hxo,hxe⟩:=he c' rfl w.b (w.env++[k1]) (s+1) (KJ w1 (Rx ok1)) (by simpa [Nat.add_assoc] using w2) (by simp;omega) (by omega) hq (by omega);refine ⟨f+1,x,s',e',?_,hxo,?_⟩
    ·rw [headR,if_neg (by decide),if_neg (by omega),if_pos h5,hk0];simp only [h4,hq,hw,hk1,if_true];rw [if_neg (by omega)];exact hx
    ·exact ⟨by have:=hxe.1;omega,hxe.2⟩
   ·refine ⟨1,v,s+1,17,?_,ho,by omega,.inr ⟨rfl,by omega⟩⟩;rw [headR,if_neg (by decide),if_neg (by omega),if_pos h5,hk0];simp only [h4,hq,if_true,if_false]
  ·refine ⟨1,v,s,0,?_,ho,stop⟩;rw [headR,if_neg (by decide),if_neg (by omega),if_pos h5,hk0];simp only [h4,if_false]
 by_cases h89:v.op=8∨v.op=9
 ·have hlen:v.k.length=1:=by rcases h89 with h | h<;>(rw [h] at ha;simpa [ar] using ha.symm)
  obtain ⟨k0',hk0,ok0⟩:=Gb ho h1 (j:=0) (by omega) (by rcases h89 with h | h<;>(rw [h];rfl));by_cases h7:k0'.op=7
  ·by_cases hq:s+1≤1000
   ·obtain ⟨ha7,_,_⟩:=Ft ok0 (by omega);have hlen7:k0'.k.length=3:=by rw [h7] at ha7;simpa [ar] using ha7.symm
    obtain ⟨x,hx,okx⟩:=Gb ok0 (by omega) (j:=(1+v.op - 8).toNat) (by omega) (by rw [h7];rcases h89 with h | h<;>(rw [h];rfl));refine ⟨1,x,s+1,0,?_,okx,by omega,.inl ⟨rfl,hq⟩⟩;rw [headR,if_neg (by decide),if_neg (by omega),if_neg h5,if_pos h89,hk0];simp only [h7,hq,if_true,hx,AwS]
   ·refine ⟨1,v,s+1,17,?_,ho,by omega,.inr ⟨rfl,by omega⟩⟩;rw [headR,if_neg (by decide),if_neg (by omega),if_neg h5,if_pos h89,hk0];simp only [h7,hq,if_true,if_false]
  ·refine ⟨1,v,s,0,?_,ho,stop⟩;rw [headR,if_neg (by decide),if_neg (by omega),if_neg h5,if_pos h89,hk0];simp only [h7,if_false]
 by_cases h30:v.op=30
 ·have hlen:v.k.length=1:=by rw [h30] at ha;simpa [ar] using ha.symm
  obtain ⟨k0',hk0,ok0⟩:=Gb ho h1 (j:=0) (by omega) (by rw [h30];rfl);by_cases h7:k0'.op=19
  ·by_cases hq:s+1≤1000
   ·obtain ⟨ha7,_,_⟩:=Ft ok0 (by omega);have hlen7:k0'.k.length=1:=by rw [h7] at ha7;simpa [ar] using ha7.symm
    obtain ⟨x,hx,okx⟩:=Gb ok0 (by omega) (j:=0) (by omega) (by rw [h7];rfl);refine ⟨1,x,s+1,0,?_,okx,by omega,.inl ⟨rfl,hq⟩⟩;rw [headR,if_neg (by decide),if_neg (by omega),if_neg h5,if_neg h89,if_pos h30,hk0];simp only [h7,hq,if_true,hx,AwS]
   ·refine ⟨1,v,s+1,17,?_,ho,by omega,.inr ⟨rfl,by omega⟩⟩;rw [headR,if_neg (by decide),if_neg (by omega),if_neg h5,if_neg h89,if_pos h30,hk0];simp only [h7,hq,if_true,if_false]
  ·refine ⟨1,v,s,0,?_,ho,stop⟩;rw [headR,if_neg (by decide),if_neg (by omega),if_neg h5,if_neg h89,if_pos h30,hk0];simp only [h7,if_false]
 by_cases h19:v.op=19
 ·have hlen:v.k.length=1:=by rw [h19] at ha;simpa [ar] using ha.symm
  obtain ⟨k0',hk0,ok0⟩:=Gb ho h1 (j:=0) (by omega) (by rw [h19];rfl);by_cases h7:k0'.op=30
  ·by_cases hq:s+1≤1000
   ·obtain ⟨ha7,_,_⟩:=Ft ok0 (by omega);have hlen7:k0'.k.length=1:=by rw [h7] at ha7;simpa [ar] using ha7.symm
    obtain ⟨x,hx,okx⟩:=Gb ok0 (by omega) (j:=0) (by omega) (by rw [h7];rfl);refine ⟨1,x,s+1,0,?_,okx,by omega,.inl ⟨rfl,hq⟩⟩;rw [headR,if_neg (by decide),if_neg (by omega),if_neg h5,if_neg h89,if_neg h30,if_pos h19,hk0];simp only [h7,hq,if_true,hx,AwS]
   ·refine ⟨1,v,s+1,17,?_,ho,by omega,.inr ⟨rfl,by omega⟩⟩;rw [headR,if_neg (by decide),if_neg (by omega),if_neg h5,if_neg h89,if_neg h30,if_pos h19,hk0];simp only [h7,hq,if_true,if_false]
  ·refine ⟨1,v,s,0,?_,ho,stop⟩;rw [headR,if_neg (by decide),if_neg (by omega),if_neg h5,if_neg h89,if_neg h30,if_pos h19,hk0];simp only [h7,if_false]
 by_cases h13:v.op=13
 ·have hlen:v.k.length=4:=by rw [h13] at ha;simpa [ar] using ha.symm
  obtain ⟨a0,hk0,c0⟩:=Xg ho h1 (j:=0) (by omega) (by rw [h13];decide);obtain ⟨a1,hk1,ok1⟩:=Gb ho h1 (j:=1) (by omega) (by rw [h13];rfl);obtain ⟨a2,hk2,w1,w2,w3⟩:=Xg ho h1 (j:=2) (by omega) (by rw [h13];decide);obtain ⟨a3,hk3,ok3⟩:=Gb ho h1 (j:=3) (by omega) (by rw [h13];rfl);have hb2:Ae v.op 2=2:=by rw [h13];rfl
  rw [hb2] at w2 w3;by_cases h11:a3.op=11
  ·by_cases hq:s+1≤1000
   ·refine ⟨1,a1,s+1,0,?_,ok1,by omega,.inl ⟨rfl,hq⟩⟩;rw [headR,if_neg (by decide),if_neg (by omega),if_neg h5,if_neg h89,if_neg h30,if_neg h19,if_pos h13,hk0,hk1,hk2,hk3];simp only [h11,hq,if_true]
   ·refine ⟨1,v,s+1,17,?_,ho,by omega,.inr ⟨rfl,by omega⟩⟩;rw [headR,if_neg (by decide),if_neg (by omega),if_neg h5,if_neg h89,if_neg h30,if_neg h19,if_pos h13,hk0,hk1,hk2,hk3];simp only [h11,hq,if_true,if_false]
  by_cases h12:a3.op=12
  ·by_cases hq:s+1≤1000
   ·obtain ⟨c',rfl⟩:∃c',c=c'+1:=⟨c - 1,by omega⟩;obtain ⟨ha12,_,_⟩:=Ft ok3 (by omega);have hlen12:a3.k.length=1:=by rw [h12] at ha12;simpa [ar] using ha12.symm
    obtain ⟨x,hx,okx⟩:=Gb ok3 (by omega) (j:=0) (by omega) (by rw [h12];rfl);have hrec:RV.ok k0 D L (.node 13 0 [a0,a1,a2,x]):=by
     refine AcB (by decide) rfl (by simp [BS]) ?_;have e0:=Ky hl hk0;have e2:=Ky hl hk2;rw [h13] at e0 e2;simp only [RV.okL];exact ⟨e0,ok1,e2,okx,trivial⟩
    obtain ⟨f,h,s2,e2,hd,hdo,hde⟩:=hh c' rfl _ (s+1) (by simp [RV.node,RV.op]) hrec (by omega) hq (by omega);obtain ⟨g,y,s3,e3,hy,hyo,hye⟩:=Ahz (he c' rfl) (t:=a2.b) (env:=a2.env++[x,h]) (s:=s2) (e:=e2) (KJ w1 (AkO okx hdo)) (by simpa [Nat.add_assoc] using w2) (by simp;omega) (by have:=hde.1;omega) hde.2 (by have:=hde.1;omega);refine ⟨f+g+1,y,s3,e3,?_,hyo,by have:=hde.1;have:=hye.1;omega,hye.2⟩;rw [headR,if_neg (by decide),if_neg (by omega),if_neg h5,if_neg h89,if_neg h30,if_neg h19,if_pos h13,hk0,hk1,hk2,hk3];simp only [h12,hq,if_true,hx,T4 (show f≤f+g by omega) hd]
    rw [if_neg (by decide),if_neg (by omega)];exact Cq (by omega) hy
   ·refine ⟨1,v,s+1,17,?_,ho,by omega,.inr ⟨rfl,by omega⟩⟩;rw [headR,if_neg (by decide),if_neg (by omega),if_neg h5,if_neg h89,if_neg h30,if_neg h19,if_pos h13,hk0,hk1,hk2,hk3];simp only [h12,hq,if_true,if_false];rw [if_neg (by decide)]
  ·refine ⟨1,v,s,0,?_,ho,stop⟩;rw [headR,if_neg (by decide),if_neg (by omega),if_neg h5,if_neg h89,if_neg h30,if_neg h19,if_pos h13,hk0,hk1,hk2,hk3];simp only [h11,h12,if_false]
 ·refine ⟨1,v,s,0,?_,ho,stop⟩;rw [headR,if_neg (by decide),if_neg (by omega),if_neg h5,if_neg h89,if_neg h30,if_neg h19,if_neg h13]
end
end Idl
end Go.Proofs.Ytaifgaidaglblaa
namespace Go.Proofs.Ytaifgaidaglblaa
namespace Idl
section
variable {k0 D:Nat} {L:Int}
theorem P5 {c:Nat} {env:List RV} (henv:RV.okE k0 D L env) (op:Int):∀(l:List Tm) (i:Nat) (s e:Int),
  (∀t∈l,∀s:Int,t.sc (k0+env.length)→env.length+t.bd≤D→0≤s→s≤1000→1000≤s+c→∃f v s' e',Au f s 0 t env=some (v,s',e')∧RV.ok k0 D L v∧Ug s s' e') →
  Tm.scL op i l (k0+env.length)→env.length+Tm.bdL op i l≤D→0≤s→(e=0∧s≤1000∨e=17∧s=1001)→1000≤s+c →
  ∃f vs s' e',AR (fun s e t=>Au f s e t env) op env i l s e=some (vs,s',e')∧RV.okL k0 D L op i vs∧vs.length=l.length∧Ug s s' e'
 | [],i,s,e,_,_,_,h0,he,_=>⟨0,[],s,e,rfl,by rw [RV.okL];trivial,rfl,by omega,he⟩
 | t::l,i,s,e,hev,hsc,hbd,h0,he,hc=>by
  rw [Tm.scL] at hsc;rw [Tm.bdL] at hbd;by_cases hb:0<Ae op i
  ·obtain ⟨f,vs,s',e',hk,hok,hlen,hend⟩:=P5 henv op l (i+1) s e (fun u hu=>hev u (List.mem_cons_of_mem _ hu)) hsc.2 (by omega) h0 he hc;refine ⟨f,.clo env t::vs,s',e',?_,?_,by simp [hlen],hend⟩
   ·rw [AR,if_pos hb,hk];rfl
   ·rw [RV.okL,if_pos hb,RV.clo,RV.okC];exact ⟨⟨henv,hsc.1,by omega⟩,hok⟩
  ·have hb0:Ae op i=0:=by omega
   rw [hb0] at hsc hbd;have h1:∃f v s' e',Au f s e t env=some (v,s',e')∧RV.ok k0 D L v∧Ug s s' e':=by
    rcases he with ⟨rfl,hs⟩ | ⟨rfl,hs⟩
    ·exact hev t List.mem_cons_self s (by simpa using hsc.1) (by omega) h0 hs hc
    ·exact ⟨1,_,_,_,O5 s 17 (by decide) t env,Sv,by omega,.inr ⟨rfl,hs⟩⟩
   obtain ⟨f,v,s1,e1,hv,hvo,hve⟩:=h1;obtain ⟨g,vs,s',e',hk,hok,hlen,hend⟩:=P5 henv op l (i+1) s1 e1 (fun u hu=>hev u (List.mem_cons_of_mem _ hu)) hsc.2 (by omega) (by have:=hve.1;omega) hve.2 (by have:=hve.1;omega);refine ⟨f+g,v::vs,s',e',?_,?_,by simp [hlen],by have:=hve.1;have:=hend.1;omega,hend.2⟩
   ·rw [AR,if_neg hb];simp only [Cq (show f≤f+g by omega) hv]
    rw [Dc (ev:=fun s e t=>Au g s e t env) (fun s e t r h=>Cq (by omega) h) op env l (i+1) s1 e1 _ hk];rfl
   ·rw [RV.okL,if_neg hb];exact ⟨hvo,hok⟩
theorem Qo (hD:D≤900000) (hL:0≤L) (hk0:k0≤900000) {c:Nat} (hh:Ae4 k0 D L c):∀(m:Nat) (t:Tm) (env:List RV) (s:Int),t.wt<m→RV.okE k0 D L env→t.sc (k0+env.length)→env.length+t.bd≤D→0≤s→s≤1000→1000≤s+c →
  ∃f v s' e',Au f s 0 t env=some (v,s',e')∧RV.ok k0 D L v∧Ug s s' e':=by
 intro m
 induction m with
 | zero=>intro t env s h;omega
 | succ m ih =>
  intro t env s hw henv hsc hbd h0 h1 hc;obtain ⟨op,n,ks⟩:=t;rw [Tm.sc] at hsc;rw [Tm.bd] at hbd;simp only [Tm.wt] at hw;by_cases hop:op=1
  ·subst hop;rw [if_pos rfl] at hsc;have hkl:ks=[]:=by
    have:=hsc.1
    simp [ar] at this;exact List.length_eq_zero_iff.1 this.symm
   by_cases hm:n<env.length
   ·have hlt:((env.length:Int) - 1 - n).toNat<env.length:=by omega
    refine ⟨1,env[((env.length:Int) - 1 - n).toNat],s,0,?_,ZH henv (List.getElem?_eq_getElem hlt),by omega,.inl ⟨rfl,h1⟩⟩;rw [Au,if_neg (by decide),if_neg (by omega),if_pos rfl,if_pos hm,if_pos hsc.2.1.1,List.getElem?_eq_getElem hlt];rfl
   ·refine ⟨1,.var (env.length - 1 - n),s,0,?_,?_,by omega,.inl ⟨rfl,h1⟩⟩
    ·rw [Au,if_neg (by decide),if_neg (by omega),if_pos rfl,if_neg hm,if_pos (by have:=hsc.2.1.2;omega)]
    ·rw [RV.var,RV.ok,if_pos rfl]
     have:=hsc.2.1.2
     exact ⟨by omega,by omega,rfl⟩
  ·rw [if_neg hop] at hsc;obtain ⟨f,vs,s1,e1,hk,hok,hlen,hend⟩:=P5 (c:=c) henv op ks 0 s 0 (fun t ht s=>fun a b c' d e=>ih t env s (by have:=BN ht;omega) henv a b c' d e) hsc.2.2 hbd h0 (.inl ⟨rfl,h1⟩) hc;have hnode:RV.ok k0 D L (.node op n vs):=AcB hop (by rw [hlen];exact hsc.1) hsc.2.1 hok;have har:=Wt hsc.1;have h2:∃g w s' e',headR g s1 e1 (.node op n vs)=some (w,s',e')∧RV.ok k0 D L w∧Ug s1 s' e':=by
    rcases hend.2 with ⟨he,hs⟩ | ⟨he,hs⟩
    ·subst he;exact hh _ s1 (by simpa [RV.node,RV.op] using hop) hnode (by have:=hend.1;omega) hs (by have:=hend.1;omega)
    ·subst he;refine ⟨1,_,s1,17,by rw [headR,if_pos (by decide)],hnode,by omega,.inr ⟨rfl,hs⟩⟩
   obtain ⟨g,w,s',e',hw2,hwo,hwe⟩:=h2;refine ⟨f+g+5+1,w,s',e',?_,hwo,by have:=hend.1;have:=hwe.1;omega,hwe.2⟩;rw [Au,if_neg (by decide),if_neg (by omega),if_neg hop,if_neg (by omega),if_neg (by omega)];rw [Dc (ev:=fun s e t=>Au f s e t env) (fun s e t r h=>Cq (by omega) h) op env ks 0 s 0 _ hk];exact T4 (by omega) hw2
theorem tot (hD:D≤900000) (hL:0≤L) (hk0:k0≤900000):∀c,Ae4 k0 D L c∧ApA k0 D L c:=by
 intro c
 induction c with
 | zero =>
  have hH:Ae4 k0 D L 0:=QE hD 0 (fun c' h=>by omega) (fun c' h=>by omega);exact ⟨hH,fun t env s a b c d e f=>Qo hD hL hk0 hH (t.wt+1) t env s (by omega) a b c d e f⟩
 | succ c ih =>
  have hH:Ae4 k0 D L (c+1):=QE hD (c+1) (fun c' h=>by cases h;exact ih.2) (fun c' h=>by cases h;exact ih.1);exact ⟨hH,fun t env s a b c d e f=>Qo hD hL hk0 hH (t.wt+1) t env s (by omega) a b c d e f⟩
end
end Idl
end Go.Proofs.Ytaifgaidaglblaa
namespace Go.Proofs.Ytaifgaidaglblaa
namespace Idl
section
variable {k0 D:Nat} {L L':Int}
mutual
theorem UV (h:L≤L'):∀v:RV,RV.ok k0 D L v→RV.ok k0 D L' v
 | .mk op n k env b,hv=>by
  rw [RV.ok] at hv ⊢;by_cases h1:op=1
  ·rw [if_pos h1] at hv ⊢;exact ⟨hv.1,by omega,hv.2.2⟩
  ·rw [if_neg h1] at hv ⊢;exact ⟨hv.1,hv.2.1,okL_mono h k op 0 hv.2.2⟩
theorem okL_mono (h:L≤L'):∀(l:List RV) (op:Int) (i:Nat),RV.okL k0 D L op i l→RV.okL k0 D L' op i l
 | [],op,i,_=>by rw [RV.okL];trivial
 | v::l,op,i,hv=>by
  rw [RV.okL] at hv ⊢;refine ⟨?_,okL_mono h l op (i+1) hv.2⟩;by_cases hb:0<Ae op i
  ·rw [if_pos hb]
   have:=hv.1
   rw [if_pos hb] at this;exact okC_mono h v (Ae op i) this
  ·rw [if_neg hb]
   have:=hv.1
   rw [if_neg hb] at this;exact UV h v this
theorem okC_mono (h:L≤L'):∀(v:RV) (b:Nat),RV.okC k0 D L b v→RV.okC k0 D L' b v
 | .mk op n k env bd,b,hv=>by
  rw [RV.okC] at hv ⊢;exact ⟨okE_mono h env hv.1,hv.2⟩
theorem okE_mono (h:L≤L'):∀(l:List RV),RV.okE k0 D L l→RV.okE k0 D L' l
 | [],_=>by rw [RV.okE];trivial
 | v::l,hv=>by
  rw [RV.okE] at hv ⊢;exact ⟨UV h v hv.1,okE_mono h l hv.2⟩
end
theorem Aga (u:Nat):∀b:Nat,RV.okE k0 D ((u+b:Nat):Int) (FK u b)
 | 0=>by simp only [FK,List.range_zero,AwU];rw [RV.okE];trivial
 | b+1=>by
  rw [Kj];refine KJ (okE_mono (by omega) _ (Aga u b)) (Rx ?_);rw [RV.var,RV.ok,if_pos rfl];exact ⟨by omega,by omega,rfl⟩
end
theorem Er {f g:Nat} (hfg:f≤g) {rd rd':Int→Int→Int→RV→Int→Option (Tm×Int×Int×Int)} (h:∀s nd e k u r,rd s nd e k u=some r→rd' s nd e k u=some r) (op u:Int):∀(l:List RV) (i:Nat) (s nd e:Int) (r:List Tm×Int×Int×Int),
  Ba rd f op u i l s nd e=some r→Ba rd' g op u i l s nd e=some r
 | [],i,s,nd,e,r,hr=>hr
 | k::l,i,s,nd,e,r,hr=>by
  simp only [Ba] at hr ⊢;have key:∀q,(if 0<Ae op i then (if 900000<k.env.length then none else Au f s e k.b (k.env++FK u (Ae op i))) else some (k,s,e))=some q →
    (if 0<Ae op i then (if 900000<k.env.length then none else Au g s e k.b (k.env++FK u (Ae op i))) else some (k,s,e))=some q:=by
   intro q hq;by_cases hb:0<Ae op i
   ·rw [if_pos hb] at hq ⊢;by_cases hl:900000<k.env.length
    ·rw [if_pos hl] at hq;cases hq
    ·rw [if_neg hl] at hq ⊢;exact Cq hfg hq
   ·rw [if_neg hb] at hq ⊢;exact hq
  cases hq:(if 0<Ae op i then (if 900000<k.env.length then none else Au f s e k.b (k.env++FK u (Ae op i))) else some (k,s,e)) with
  | none=>rw [hq] at hr;cases hr
  | some q =>
   rw [key q hq];rw [hq] at hr;obtain ⟨y,s1,e1⟩:=q;simp only at hr ⊢;cases hd:rd s1 nd e1 y (u+Ae op i) with
   | none=>rw [hd] at hr;cases hr
   | some q =>
    obtain ⟨t,s2,nd2,e2⟩:=q;rw [hd] at hr;rw [h _ _ _ _ _ _ hd];simp only at hr ⊢;cases hk:Ba rd f op u (i+1) l s2 nd2 e2 with
    | none=>rw [hk] at hr;cases hr
    | some q=>rw [hk] at hr;rw [Er hfg h op u l (i+1) s2 nd2 e2 q hk];exact hr
theorem Ae7:∀f s nd e v u d r,AS f s nd e v u d=some r→AS (f+1) s nd e v u d=some r:=by
 intro f
 induction f with
 | zero=>intro s nd e v u d r h;rw [AS] at h;cases h
 | succ f ih =>
  intro s nd e v u d r h;rw [AS] at h ⊢;by_cases hbad:nd<0∨1000000<nd∨u<0∨1000000<u∨d<0∨1000000<d∨v.n < -2305843009213693952∨2305843009213693952<v.n∨f≤v.k.length∨900000<v.k.length∨f≤3
  ·rw [if_pos hbad] at h;cases h
  ·rw [if_neg hbad] at h;rw [if_neg (by omega)];generalize (if e=0∧(3000<nd+1∨120<d) then (5:Int) else e)=e1 at h ⊢;by_cases he:e1≠0
   ·rw [if_pos he] at h ⊢;exact h
   ·rw [if_neg he] at h ⊢;by_cases h1:v.op=1
    ·rw [if_pos h1] at h ⊢;exact h
    ·rw [if_neg h1] at h ⊢;cases hk:Ba (fun s nd e k u=>AS f s nd e k u (d+1)) f v.op u 0 v.k s (nd+1) 0 with
     | none=>rw [hk] at h;cases h
     | some q =>
      rw [hk] at h;rw [Er (g:=f+1) (rd':=fun s nd e k u=>AS (f+1) s nd e k u (d+1)) (by omega) (fun s nd e k u r hr=>ih _ _ _ _ _ _ _ hr) v.op u v.k 0 s (nd+1) 0 q hk];exact h
theorem D1 {f g:Nat} (hfg:f≤g) {s nd e u d:Int} {v:RV} {r:Tm×Int×Int×Int} (h:AS f s nd e v u d=some r):AS g s nd e v u d=some r:=by
 induction hfg with
 | refl=>exact h
 | step _ ih=>exact Ae7 _ _ _ _ _ _ _ _ ih
mutual
def Tm.dp:Tm→Nat
 | .mk _ _ ks=>1+Tm.dpL ks
def Tm.dpL:List Tm→Nat
 | []=>0
 | t::l=>max t.dp (Tm.dpL l)
end
def MSt (s e:Int):Prop:=0≤s∧(e=0∧s≤1000∨e=17∧s=1001∨e=5∧s≤1001)
theorem AgG {op n:Int} (h:BS op n):-2305843009213693952≤n∧n≤2305843009213693952:=by
 unfold BS at h
 repeat' split at h
 all_goals omega
def Red (k0:Nat) (u d:Nat) (nd:Int) (t:Tm) (s' nd' e':Int):Prop :=
 MSt s' e'∧(e'=0→nd'≤3000∧t.sc (k0+u)∧(t.wt:Int)=nd' - nd∧t.dp+d≤121)∧nd'≤3001+3 * (121 - (d:Int))∧nd≤nd'
section
variable {k0 D:Nat}
theorem Wk (s nd e u d:Int) (v:RV) (he:e≠0) (h1:0≤nd) (h2:nd≤1000000) (h3:0≤u) (h4:u≤1000000) (h5:0≤d) (h6:d≤1000000) (h7:-2305843009213693952≤v.n) (h8:v.n≤2305843009213693952) (h9:v.k.length≤900000) :
  AS (v.k.length+10) s nd e v u d=some (.z,s,nd+1,e):=by
 rw [show v.k.length+10=(v.k.length+9)+1 by omega,AS,if_neg (by omega)]
 have:(if e=0∧(3000<nd+1∨120<d) then (5:Int) else e)=e:=if_neg (by omega)
 rw [this,if_pos he]
def Asv (k0 D c:Nat):Prop:=∀(v:RV) (s nd:Int) (u d:Nat),RV.ok k0 D u v→0≤s→s≤1000→0≤nd→nd≤3000→3001≤nd+c→u≤2 * d→1≤d→d≤121 →
 ∃f t s' nd' e',AS f s nd 0 v u d=some (t,s',nd',e')∧Red k0 u d nd t s' nd' e'
theorem Pw {L:Int} {v:RV} (hL:L≤1000000) (hk:k0≤900000) (h:RV.ok k0 D L v):-2305843009213693952≤v.n∧v.n≤2305843009213693952∧v.k.length≤4:=by
 obtain ⟨op,n,k,env,b⟩:=v;rw [RV.ok] at h;by_cases h1:op=1
 ·rw [if_pos h1] at h;refine ⟨?_,?_,?_⟩
  ·show _≤n;omega
  ·show n≤_;omega
  ·show k.length≤4;rw [h.2.2];simp
 ·rw [if_neg h1] at h
  have:=AgG h.2.1
  exact ⟨this.1,this.2,Wt h.1⟩
theorem Ql (hD:D≤800000) (hk:k0≤800000) {c:Nat} (hr:Asv k0 D c) (op:Int) (u d:Nat) (hu:u≤2 * d) (hd1:1≤d) (hd:d≤120):∀(l:List RV) (i:Nat) (s nd e:Int),RV.okL k0 D u op i l→MSt s e→0≤nd→nd+l.length≤5000→l.length≤4→(e=0→nd≤3000∧3001≤nd+c) →
  ∃f ts s' nd' e',Ba (fun s nd e k u=>AS f s nd e k u ((d:Int)+1)) f op u i l s nd e=some (ts,s',nd',e')∧MSt s' e'∧nd≤nd' ∧
   (e'=0→e=0∧nd'≤3000∧Tm.scL op i ts (k0+u)∧ts.length=l.length∧(Tm.wtL ts:Int)=nd' - nd∧Tm.dpL ts+d+1≤121) ∧
   (e=0→nd'≤3000∨nd'+1≤3001+3 * (120 - (d:Int))+l.length)∧(e≠0→nd'=nd+l.length)
 | [],i,s,nd,e,_,hst,h0,h5,_,he=>by
  refine ⟨0,[],s,nd,e,rfl,hst,Int.le_refl _,fun h=>⟨h,(he h).1,by rw [Tm.scL];trivial,rfl,by simp [Tm.wtL],by simp only [Tm.dpL];omega⟩,fun h=>.inl (he h).1,fun _=>by simp⟩
 | k::l,i,s,nd,e,hl,hst,h0,h5,hl4,he=>by
  rw [RV.okL] at hl;simp only [AwT] at hl4 h5;have hbl:=AU op i;have h1:∃f y s1 e1,(if 0<Ae op i then (if 900000<k.env.length then none else Au f s e k.b (k.env++FK u (Ae op i))) else some (k,s,e))=some (y,s1,e1)∧RV.ok k0 D ((u+Ae op i:Nat):Int) y∧MSt s1 e1∧(e≠0→e1≠0):=by
   by_cases hb:0<Ae op i
   ·have hc:=hl.1;rw [if_pos hb] at hc;have hce:RV.okE k0 D u k.env∧k.b.sc (k0+k.env.length+Ae op i)∧k.env.length+Ae op i+k.b.bd≤D:=by
     obtain ⟨_,_,_,env,b⟩:=k;rw [RV.okC] at hc;exact hc
    by_cases he0:e=0
    ·subst he0;have hs:s≤1000:=by rcases hst.2 with ⟨_,h⟩ | ⟨h,_⟩ | ⟨h,_⟩<;>omega
     obtain ⟨f,y,s1,e1,hy,hyo,hye⟩:=(tot (k0:=k0) (D:=D) (L:=((u+Ae op i:Nat):Int)) (by omega) (by omega) (by omega) 1000).2 k.b (k.env++FK u (Ae op i)) s
      (KJ (okE_mono (by omega) _ hce.1) (Aga u _)) (by rw [List.length_append,BW,← Nat.add_assoc];exact hce.2.1) (by rw [List.length_append,BW];omega) hst.1 hs (by have:=hst.1;omega)
     refine ⟨f,y,s1,e1,?_,hyo,⟨by have:=hye.1;have:=hst.1;omega,?_⟩,fun h=>absurd rfl h⟩
     ·rw [if_pos hb,if_neg (by omega)];exact hy
     ·rcases hye.2 with h | h
      ·exact .inl h
      ·exact .inr (.inl h)
    ·refine ⟨1,.zero,s,e,?_,Sv,hst,fun h=>h⟩;rw [if_pos hb,if_neg (by omega),O5 s e he0]
   ·have hc:=hl.1;rw [if_neg hb] at hc;refine ⟨0,k,s,e,by rw [if_neg hb],UV (by omega) _ hc,hst,fun h=>h⟩
  obtain ⟨f1,y,s1,e1,hy,hyo,hst1,hee⟩:=h1;have hsm:=Pw (by omega) (by omega) hyo;have h2:∃f t s2 nd2 e2,AS f s1 nd e1 y ((u+Ae op i:Nat):Int) ((d:Int)+1)=some (t,s2,nd2,e2)∧MSt s2 e2∧nd≤nd2 ∧
    (e2=0→e1=0∧nd2≤3000∧t.sc (k0+u+Ae op i)∧(t.wt:Int)=nd2 - nd∧t.dp+d+1≤121∧nd+1≤nd2)∧(e1=0→nd2≤3001+3 * (120 - (d:Int)))∧(e1≠0→nd2=nd+1):=by
   by_cases he1:e1=0
   ·subst he1;have he0:e=0:=Classical.byContradiction fun h=>hee h rfl;have hn:=he he0;have hs:s1≤1000:=by rcases hst1.2 with ⟨_,h⟩ | ⟨h,_⟩ | ⟨h,_⟩<;>omega
    obtain ⟨f,t,s2,nd2,e2,ht,hR⟩:=hr y s1 nd (u+Ae op i) (d+1) hyo hst1.1 hs h0 hn.1 hn.2 (by omega) (by omega) (by omega);refine ⟨f,t,s2,nd2,e2,by simpa using ht,hR.1,hR.2.2.2,fun h=>?_,fun _=>by have:=hR.2.2.1;omega,fun h=>absurd rfl h⟩
    have:=hR.2.1 h
    have hw:=JT t;exact ⟨rfl,this.1,by rw [Nat.add_assoc];exact this.2.1,this.2.2.1,by omega,by omega⟩
   ·refine ⟨y.k.length+10,.z,s1,nd+1,e1,Wk s1 nd e1 _ _ y he1 h0 (by omega) (by omega) (by omega) (by omega) (by omega) hsm.1 hsm.2.1 (by omega),hst1,by omega,fun h=>absurd h he1,fun h=>absurd h he1,fun _=>rfl⟩
  obtain ⟨f2,t,s2,nd2,e2,ht,hst2,hle,hok,hbd,her⟩:=h2;obtain ⟨f3,ts,s3,nd3,e3,hk3,hst3,hle3,hok3,hbd3,her3⟩:=Ql hD hk hr op u d hu hd1 hd l (i+1) s2 nd2 e2 hl.2 hst2 (by omega) (by
    by_cases he1:e1=0
    ·have:=hbd he1;omega
    ·have:=her he1
     by_cases he0:e=0
     ·have:=(he he0).1;omega
     ·omega) (by omega) (fun h=>by
    have h2:=hok h;have he0:e=0:=Classical.byContradiction fun h'=>hee h' h2.1
    have:=he he0
    omega)
  refine ⟨f1+f2+f3,t::ts,s3,nd3,e3,?_,hst3,by omega,fun h=>?_,fun h=>?_,fun h=>?_⟩
  ·have hy':(if 0<Ae op i then (if 900000<k.env.length then none else Au (f1+f2+f3) s e k.b (k.env++FK u (Ae op i))) else some (k,s,e))=some (y,s1,e1):=by
    by_cases hb:0<Ae op i
    ·rw [if_pos hb] at hy ⊢;by_cases hl:900000<k.env.length
     ·rw [if_pos hl] at hy;cases hy
     ·rw [if_neg hl] at hy ⊢;exact Cq (by omega) hy
    ·rw [if_neg hb] at hy ⊢;exact hy
   rw [Ba,hy'];simp only;rw [show (u:Int)+(Ae op i:Int)=((u+Ae op i:Nat):Int) by omega,D1 (show f2≤f1+f2+f3 by omega) ht]
   simp only;rw [Er (f:=f3) (rd:=fun s nd e k u=>AS f3 s nd e k u ((d:Int)+1)) (by omega) (fun s nd e k u r h=>D1 (by omega) h) op u l (i+1) s2 nd2 e2 _ hk3];rfl
  ·have h3:=hok3 h;have h2:=hok h3.1;have he0:e=0:=Classical.byContradiction fun h'=>hee h' h2.1;refine ⟨he0,h3.2.1,?_,by simp [h3.2.2.2.1],?_,?_⟩
   ·rw [Tm.scL];exact ⟨h2.2.2.1,h3.2.2.1⟩
   ·simp only [Tm.wtL];have:=h2.2.2.2.1;have:=h3.2.2.2.2.1;omega
   ·simp only [Tm.dpL];have:=h2.2.2.2.2.1;have:=h3.2.2.2.2.2;omega
  ·simp only [AwT];by_cases he1:e1=0
   ·by_cases he2:e2=0
    ·have:=hbd3 he2;omega
    ·have:=her3 he2;have:=hbd he1;omega
   ·have h6:=her he1;have h7:e2≠0:=fun h'=>he1 (hok h').1
    have:=her3 h7
    have:=(he h).1
    omega
  ·simp only [AwT];have he1:=hee h;have h7:e2≠0:=fun h'=>he1 (hok h').1
   have:=her3 h7
   have:=her he1
   omega
theorem AiR (hD:D≤800000) (hk:k0≤800000):∀c,Asv k0 D c:=by
 intro c
 induction c with
 | zero=>intro v s nd u d _ _ _ _ h1 h2;omega
 | succ c ih =>
  intro v s nd u d hv h0 hs hn0 hn hc hu hd1 hd;have hsm:=Pw (by omega) (by omega) hv;have hst:MSt s 0:=⟨h0,.inl ⟨rfl,hs⟩⟩;by_cases h3:3000<nd+1∨120<(d:Int)
  ·refine ⟨v.k.length+10,.z,s,nd+1,5,?_,⟨h0,.inr (.inr ⟨rfl,by omega⟩)⟩,(fun h=>absurd h (by decide)),by omega,by omega⟩;rw [show v.k.length+10=(v.k.length+9)+1 by omega,AS,if_neg (by omega)]
   have e5:(if (0:Int)=0∧(3000<nd+1∨120<(d:Int)) then (5:Int) else 0)=5:=if_pos ⟨rfl,h3⟩;rw [e5,if_pos (by decide)]
  ·have e5:(if (0:Int)=0∧(3000<nd+1∨120<(d:Int)) then (5:Int) else 0)=0:=if_neg (fun h=>h3 h.2);by_cases h1:v.op=1
   ·have hvn:-(k0:Int)≤v.n∧v.n<u:=by
     obtain ⟨op,n,k,env,b⟩:=v;have h1':op=1:=h1;rw [RV.ok,if_pos h1'] at hv;exact ⟨hv.1,hv.2.1⟩
    refine ⟨v.k.length+10,.mk 1 (u - 1 - v.n) [],s,nd+1,0,?_,hst,fun _=>⟨by omega,?_,by simp only [Tm.wt,Tm.wtL];omega,by simp only [Tm.dp,Tm.dpL];omega⟩,by omega,by omega⟩
    ·rw [show v.k.length+10=(v.k.length+9)+1 by omega,AS,if_neg (by omega),e5,if_neg (by decide),if_pos h1]
    ·rw [Tm.sc,if_pos rfl,Tm.scL];exact ⟨rfl,by omega,trivial⟩
   ·obtain ⟨ha,hnum,hl⟩:=Ft hv h1;obtain ⟨f,ts,s',nd',e',hk2,hst',hle,hok,hbd,_⟩:=Ql hD hk ih v.op u d hu hd1 (by omega) v.k 0 s (nd+1) 0 hl hst (by omega) (by omega) (by omega) (fun _=>by omega);refine ⟨f+v.k.length+10,.mk v.op v.n ts,s',nd',e',?_,hst',fun h=>?_,by have:=hbd rfl;omega,by omega⟩
    ·rw [show f+v.k.length+10=(f+v.k.length+9)+1 by omega,AS,if_neg (by omega),e5,if_neg (by decide),if_neg h1]
     rw [Er (f:=f) (rd:=fun s nd e k u=>AS f s nd e k u ((d:Int)+1)) (by omega) (fun s nd e k u r h=>D1 (by omega) h) v.op u v.k 0 s (nd+1) 0 _ hk2];rfl
    ·have:=hok h
     refine ⟨this.2.1,?_,?_,?_⟩
     ·rw [Tm.sc,if_neg h1];exact ⟨by rw [this.2.2.2.1];exact ha,hnum,this.2.2.1⟩
     ·simp only [Tm.wt];have:=this.2.2.2.2.1;omega
     ·simp only [Tm.dp];have:=this.2.2.2.2.2;omega
end
theorem WL {k:Nat} (hk:k≤800000) {t:Tm} (hsc:t.sc k) (hb:t.bd≤800000):∃f u e,AI f t=some (u,e)∧(e=0∧u.sc k∧u.wt≤3000∧u.dp≤120∨(e=5∨e=17)∧u=.z):=by
 obtain ⟨f,v,s1,e1,hv,hvo,hve⟩:=(tot (k0:=k) (D:=800000) (L:=0) (by omega) (by omega) (by omega) 1000).2 t [] 0 (by rw [RV.okE];trivial) (by simpa using hsc) (by simp;omega) (by omega) (by omega) (by omega);have hsm:=Pw (by omega) (by omega) hvo;rcases hve.2 with ⟨rfl,hs⟩ | ⟨rfl,hs⟩
 ·obtain ⟨g,u,s2,nd2,e2,hu,hR⟩:=AiR (k0:=k) (D:=800000) (by omega) hk 3001 v s1 0 0 1 (by simpa using hvo) (by have:=hve.1;omega) hs (by omega) (by omega) (by omega) (by omega) (by omega) (by omega);have hn:AI (f+g) t=some (if e2≠0 then (.z,e2) else (u,0)):=by
   rw [AI,Cq (by omega) hv];simp only;rw [D1 (show g≤f+g by omega) (by simpa using hu)]
  by_cases h2:e2=0
  ·rw [if_neg (by simp [h2])] at hn
   have:=hR.2.1 h2
   exact ⟨_,_,_,hn,.inl ⟨rfl,by simpa using this.2.1,by omega,by omega⟩⟩
  ·rw [if_pos h2] at hn;refine ⟨_,_,_,hn,.inr ⟨?_,rfl⟩⟩;rcases hR.1.2 with ⟨h,_⟩ | ⟨h,_⟩ | ⟨h,_⟩
   ·exact absurd h h2
   ·exact .inr h
   ·exact .inl h
 ·have hn:AI (f+v.k.length+10) t=some (.z,17):=by
   rw [AI,Cq (by omega) hv];simp only;rw [D1 (show v.k.length+10≤f+v.k.length+10 by omega) (Wk s1 0 17 0 1 v (by decide) (by omega) (by omega) (by omega) (by omega) (by omega) (by omega) hsm.1 hsm.2.1 (by omega))]
   rfl
  exact ⟨_,_,_,hn,.inr ⟨.inr rfl,rfl⟩⟩
end Idl
end Go.Proofs.Ytaifgaidaglblaa
namespace Go.Proofs.Ytaifgaidaglblaa
namespace Idl
mutual
theorem Fm:∀(t:Tm) (k:Nat),t.sc k→t.wk
 | .mk op n ks,k,h=>by
  rw [Tm.sc] at h;rw [Tm.wk];exact ⟨Wt h.1,scL_wk ks op 0 k h.2.2⟩
theorem scL_wk:∀(l:List Tm) (op:Int) (i k:Nat),Tm.scL op i l k→Tm.wkL l
 | [],_,_,_,_=>by rw [Tm.wkL];trivial
 | t::l,op,i,k,h=>by
  rw [Tm.scL] at h;rw [Tm.wkL];exact ⟨Fm t _ h.1,scL_wk l op (i+1) k h.2⟩
end
mutual
theorem Cl:∀(t:Tm) (d c:Int),(t.shift d c).wt=t.wt
 | .mk op n ks,d,c=>by simp only [Tm.shift,Tm.wt,shiftL_wt ks op 0 d c]
theorem shiftL_wt:∀(l:List Tm) (op:Int) (i:Nat) (d c:Int),Tm.wtL (Tm.shiftL op i l d c)=Tm.wtL l
 | [],_,_,_,_=>rfl
 | t::l,op,i,d,c=>by simp only [Tm.shiftL,Tm.wtL,Cl t,shiftL_wt l]
end
mutual
theorem Fc:∀(t:Tm) (d c:Int),(t.shift d c).dp=t.dp
 | .mk op n ks,d,c=>by simp only [Tm.shift,Tm.dp,shiftL_dp ks op 0 d c]
theorem shiftL_dp:∀(l:List Tm) (op:Int) (i:Nat) (d c:Int),Tm.dpL (Tm.shiftL op i l d c)=Tm.dpL l
 | [],_,_,_,_=>rfl
 | t::l,op,i,d,c=>by simp only [Tm.shiftL,Tm.dpL,Fc t,shiftL_dp l]
end
mutual
theorem CF:∀(t:Tm) (d c k:Nat),t.sc k→k+2 * t.wt+d≤9000000000000000000→(t.shift d c).sc (k+d)
 | .mk op n ks,d,c,k,h,hk=>by
  rw [Tm.sc] at h;rw [Tm.wt] at hk;rw [Tm.shift,Tm.sc,Ew];refine ⟨h.1,?_,shiftL_sc ks op 0 d c k h.2.2 (by omega)⟩;by_cases h1:op=1
  ·have:=h.2.1
   rw [if_pos h1] at this ⊢;by_cases h2:(c:Int)≤n
   ·rw [if_pos ⟨h1,h2⟩,As (by omega) (by omega)];omega
   ·rw [if_neg (fun h=>h2 h.2)];omega
  ·have:=h.2.1
   rw [if_neg h1] at this ⊢;rw [if_neg (fun h=>h1 h.1)];exact this
theorem shiftL_sc:∀(l:List Tm) (op:Int) (i:Nat) (d c k:Nat),Tm.scL op i l k→k+2+2 * Tm.wtL l+d≤9000000000000000000→Tm.scL op i (Tm.shiftL op i l d c) (k+d)
 | [],_,_,_,_,_,_,_=>by rw [Tm.shiftL,Tm.scL];trivial
 | t::l,op,i,d,c,k,h,hk=>by
  rw [Tm.scL] at h;simp only [Tm.wtL] at hk;rw [Tm.shiftL,Tm.scL];refine ⟨?_,shiftL_sc l op (i+1) d c k h.2 (by omega)⟩;rw [show k+d+Ae op i=(k+Ae op i)+d by omega]
  have:=AU op i
  exact CF t d (c+Ae op i) (k+Ae op i) h.1 (by omega)
end
mutual
theorem PU:∀(t u:Tm) (j k:Nat),t.sc (k+1+j)→u.sc k→k+j+2 * t.wt+2 * u.wt≤4000000000000000000→(t.subst j j u).sc (k+j)
 | .mk op n ks,u,j,k,h,hu,hk=>by
  rw [Tm.sc] at h;rw [Tm.wt] at hk;rw [Tm.subst];by_cases h1:op=1
  ·rw [if_pos h1];have h2:=h.2.1;rw [if_pos h1] at h2;by_cases h3:n=j
   ·rw [if_pos h3];exact CF u j 0 k hu (by omega)
   ·rw [if_neg h3];by_cases h4:(j:Int)<n
    ·rw [if_pos h4,Tm.sc,if_pos rfl,Tm.scL,As (by omega) (by omega)];exact ⟨rfl,by omega,trivial⟩
    ·rw [if_neg h4,Tm.sc,if_pos h1];have hks:ks=[]:=by
      have:=h.1
      rw [h1] at this;simp [ar] at this;exact List.length_eq_zero_iff.1 this.symm
     subst hks;exact ⟨h.1,by omega,by rw [Tm.scL];trivial⟩
  ·rw [if_neg h1,Tm.sc,if_neg h1,Hm];have h2:=h.2.1;rw [if_neg h1] at h2;exact ⟨h.1,h2,substL_sc ks u op 0 j k h.2.2 hu (by omega)⟩
theorem substL_sc:∀(l:List Tm) (u:Tm) (op:Int) (i j k:Nat),Tm.scL op i l (k+1+j)→u.sc k→k+j+2+2 * Tm.wtL l+2 * u.wt≤4000000000000000000→Tm.scL op i (Tm.substL op i l j j u) (k+j)
 | [],_,_,_,_,_,_,_,_=>by rw [Tm.substL,Tm.scL];trivial
 | t::l,u,op,i,j,k,h,hu,hk=>by
  rw [Tm.scL] at h;simp only [Tm.wtL] at hk;rw [Tm.substL,Tm.scL];refine ⟨?_,substL_sc l u op (i+1) j k h.2 hu (by omega)⟩
  have:=AU op i
  have h1:=PU t u (j+Ae op i) k (by rw [← Nat.add_assoc];exact h.1) hu (by omega);rw [Nat.add_assoc];exact h1
end
mutual
theorem P1:∀(t u:Tm) (c d:Int),(t.subst c d u).wt≤t.wt * u.wt
 | .mk op n ks,u,c,d=>by
  have hu:=JT u;rw [Tm.subst];by_cases h1:op=1
  ·rw [if_pos h1];have key:u.wt≤(Tm.mk op n ks).wt * u.wt:=Nat.le_mul_of_pos_left _ (JT _);by_cases h3:n=c
   ·rw [if_pos h3,Cl];exact key
   ·rw [if_neg h3];by_cases h4:c<n
    ·rw [if_pos h4];simp only [Tm.wt,Tm.wtL] at key ⊢;omega
    ·rw [if_neg h4];exact Nat.le_mul_of_pos_right _ hu
  ·rw [if_neg h1]
   have:=substL_wt ks u op 0 c d
   simp only [Tm.wt];rw [Nat.add_mul];omega
theorem substL_wt:∀(l:List Tm) (u:Tm) (op:Int) (i:Nat) (c d:Int),Tm.wtL (Tm.substL op i l c d u)≤Tm.wtL l * u.wt
 | [],_,_,_,_,_=>by simp [Tm.substL,Tm.wtL]
 | t::l,u,op,i,c,d=>by
  have h1:=P1 t u (c+Ae op i) (d+Ae op i);have h2:=substL_wt l u op (i+1) c d;simp only [Tm.substL,Tm.wtL];rw [Nat.add_mul];omega
end
mutual
theorem VM:∀(t u:Tm) (c d:Int),(t.subst c d u).dp≤t.dp+u.dp
 | .mk op n ks,u,c,d=>by
  rw [Tm.subst];by_cases h1:op=1
  ·rw [if_pos h1];by_cases h3:n=c
   ·rw [if_pos h3,Fc];omega
   ·rw [if_neg h3];by_cases h4:c<n
    ·rw [if_pos h4];simp only [Tm.dp,Tm.dpL];omega
    ·rw [if_neg h4];omega
  ·rw [if_neg h1]
   have:=substL_dp ks u op 0 c d
   simp only [Tm.dp];omega
theorem substL_dp:∀(l:List Tm) (u:Tm) (op:Int) (i:Nat) (c d:Int),Tm.dpL (Tm.substL op i l c d u)≤Tm.dpL l+u.dp
 | [],_,_,_,_,_=>by simp [Tm.substL,Tm.dpL]
 | t::l,u,op,i,c,d=>by
  have h1:=VM t u (c+Ae op i) (d+Ae op i);have h2:=substL_dp l u op (i+1) c d;simp only [Tm.substL,Tm.dpL];omega
end
mutual
theorem Amt:∀(t:Tm),t.bd≤2 * t.dp
 | .mk op n ks=>by
  have:=bdL_dp ks op 0
  simp only [Tm.bd,Tm.dp];omega
theorem bdL_dp:∀(l:List Tm) (op:Int) (i:Nat),Tm.bdL op i l≤2+2 * Tm.dpL l
 | [],_,_=>by simp [Tm.bdL]
 | t::l,op,i=>by
  have h1:=Amt t;have h2:=bdL_dp l op (i+1);have h3:=AU op i;simp only [Tm.bdL,Tm.dpL];omega
end
theorem JU:∀{op:Int} {i j:Nat} {ks:List Tm} {k:Nat} {t:Tm},Tm.scL op i ks k→ks[j]?=some t→t.sc (k+Ae op (i+j))
 | op,i,0,x::l,k,t,h,hg=>by
  rw [Tm.scL] at h;simp only [List.getElem?_cons_zero,AwP] at hg;subst hg;exact h.1
 | op,i,j+1,x::l,k,t,h,hg=>by
  rw [Tm.scL] at h;rw [List.getElem?_cons_succ] at hg
  have:=JU h.2 hg
  rwa [show i+1+j=i+(j+1) by omega] at this
 | _,_,_,[],_,_,_,hg=>by simp at hg
def AM:Tm:=.mk 11 0 []
def Q3 (t:Tm):Tm:=match t with
 | .mk _ _ [_,.mk o1 _ [f,.mk o2 n2 _]]=>if o1=5∧o2=1∧n2=0∧f.free 0=false then f.subst 0 0 AM else t
 | _=>t
def SO (t:Tm):Tm:=match t with
 | .mk _ _ [_,.mk o1 _ [x],.mk o2 _ [y]]=>if o1=8∧o2=9∧x.same y=true then x else t
 | _=>t
theorem Aiz {op m:Int} {z b:Tm} (h:b.op≠5):Q3 (.mk op m [z,b])=.mk op m [z,b]:=by
 unfold Q3;split
 ·rename_i h1;simp only [Tm.mk.injEq,List.cons.injEq,and_true] at h1;obtain ⟨_,_,_,rfl⟩:=h1;rw [if_neg (fun h2=>h h2.1)]
 ·rfl
theorem KU (k:Nat):AM.sc k:=by
 rw [AM,Tm.sc];exact ⟨by decide,by rw [if_neg (by decide),BS,if_neg (by decide),if_neg (by decide),if_neg (by decide)],trivial⟩
theorem RN {op m:Int} {z a b:Tm} (h:¬ (a.op=8∧b.op=9)):SO (.mk op m [z,a,b])=.mk op m [z,a,b]:=by
 unfold SO;split
 ·rename_i h1;simp only [Tm.mk.injEq,List.cons.injEq,and_true] at h1;obtain ⟨_,_,_,rfl,rfl⟩:=h1;rw [if_neg (fun h2=>h ⟨h2.1,h2.2.1⟩)]
 ·rfl
theorem EF {t:Tm} {k:Nat} {o:Int} {r:Nat} (h:t.sc k) (ho:t.op=o) (hr:ar o=some r):t.kids.length=r:=by
 obtain ⟨op,m,ks⟩:=t;simp only [Tm.op] at ho;subst ho;rw [Tm.sc,hr] at h
 have:=h.1
 simp only [AwP] at this;exact this.symm
def Ny:List Tm→List Tm
 | []=>[]
 | _::l=>AM::l
mutual
def Tm.eta:Tm→Tm
 | .mk op m ks=>if op=4 then Q3 (.mk 4 m (Ny (Tm.etaL ks))) else if op=7 then SO (.mk 7 m (Ny (Tm.etaL ks))) else .mk op m (Tm.etaL ks)
def Tm.etaL:List Tm→List Tm
 | []=>[]
 | t::l=>t.eta::Tm.etaL l
end
theorem O4:∀l:List Tm,(Tm.etaL l).length=l.length
 | []=>rfl
 | _::l=>by simp only [Tm.etaL,AwT,O4 l]
theorem AnS {m:Int} {z b:Tm} {k:Nat} (hz:z.sc k) (hb:b.sc (k+1)) (hm:m=0) (hw:k+2 * b.wt≤1000000000):(Q3 (.mk 4 m [z,b])).sc k∧(Q3 (.mk 4 m [z,b])).wt≤1+z.wt+b.wt:=by
 have h0:(Tm.mk 4 m [z,b]).sc k:=by
  rw [Tm.sc];refine ⟨rfl,?_,hz,hb,trivial⟩;rw [if_neg (by decide),BS,if_neg (by decide),if_neg (by decide),if_neg (by decide)];exact hm
 have h1:(Tm.mk 4 m [z,b]).wt=1+z.wt+b.wt:=by simp only [Tm.wt,Tm.wtL];omega
 unfold Q3;split
 ·rename_i o1 n1 f o2 n2 k2 heq;simp only [Tm.mk.injEq,List.cons.injEq,and_true] at heq;obtain ⟨_,_,rfl,rfl⟩:=heq;split
  ·rename_i hc;obtain ⟨rfl,_,_,_⟩:=hc;rw [Tm.sc] at hb;have hf:f.sc (k+1):=by
    have:=hb.2.2
    rw [Tm.scL] at this;exact this.1
   simp only [Tm.wt,Tm.wtL] at hw h1 ⊢;have hs:=PU f AM 0 k hf (KU k) (by simp only [AM,Tm.wt,Tm.wtL];omega);have hwt:=P1 f AM 0 0;have hz1:AM.wt=1:=rfl;rw [hz1,Nat.mul_one] at hwt;exact ⟨hs,by omega⟩
  ·exact ⟨h0,by rw [h1];exact Nat.le_refl _⟩
 ·exact ⟨h0,by rw [h1];exact Nat.le_refl _⟩
theorem AnI {m:Int} {z a b:Tm} {k:Nat} (hz:z.sc k) (ha:a.sc k) (hb:b.sc k) (hm:m=0):(SO (.mk 7 m [z,a,b])).sc k∧(SO (.mk 7 m [z,a,b])).wt≤1+z.wt+a.wt+b.wt:=by
 have h0:(Tm.mk 7 m [z,a,b]).sc k:=by
  rw [Tm.sc];refine ⟨rfl,?_,hz,ha,hb,trivial⟩;rw [if_neg (by decide),BS,if_neg (by decide),if_neg (by decide),if_neg (by decide)];exact hm
 have h1:(Tm.mk 7 m [z,a,b]).wt=1+z.wt+a.wt+b.wt:=by simp only [Tm.wt,Tm.wtL];omega
 unfold SO;split
 ·rename_i o1 n1 x o2 n2 y heq;simp only [Tm.mk.injEq,List.cons.injEq,and_true] at heq;obtain ⟨_,_,rfl,rfl,rfl⟩:=heq;split
  ·rename_i hc;obtain ⟨rfl,_,_⟩:=hc;rw [Tm.sc] at ha;have hf:x.sc k:=by
    have:=ha.2.2
    rw [Tm.scL] at this;exact this.1
   simp only [Tm.wt,Tm.wtL] at h1 ⊢;exact ⟨hf,by omega⟩
  ·exact ⟨h0,by rw [h1];exact Nat.le_refl _⟩
 ·exact ⟨h0,by rw [h1];exact Nat.le_refl _⟩
mutual
theorem Oo:∀(t:Tm) (k:Nat),t.sc k→k+2 * t.wt≤1000000000→t.eta.sc k∧t.eta.wt≤t.wt
 | .mk op m ks,k,h,hw=>by
  rw [Tm.sc] at h;rw [Tm.wt] at hw;have hl:=etaL_sc op 0 ks k h.2.2 (by omega);have hll:=O4 ks;rw [Tm.eta];by_cases h4:op=4
  ·subst h4;rw [if_pos rfl];have h9:ar 4=some 2:=by decide
   rw [h9,if_neg (by decide),BS,if_neg (by decide),if_neg (by decide),if_neg (by decide)] at h
   match ks,h,hl,hw with
   | [a,b],h,hl,hw =>
    simp only [Tm.etaL,Ny];simp only [Tm.etaL,Tm.scL,Tm.wtL] at hl;simp only [Tm.wtL] at hw;have hb1:Ae 4 1=1:=by decide
    have hr:=AnS (m:=m) (z:=AM) (b:=b.eta) (k:=k) (KU k) (by have:=hl.1.2.1;rwa [hb1] at this) h.2.1 (by omega);have hz1:AM.wt=1:=rfl;have hp:=JT a;have hp2:=JT a.eta;rw [hz1] at hr;simp only [Tm.wt,Tm.wtL];exact ⟨hr.1,by omega⟩
   | [],h,_,_=>simp at h
   | [_],h,_,_=>simp at h
   | _::_::_::_,h,_,_=>simp at h
  ·rw [if_neg h4];by_cases h7:op=7
   ·subst h7;rw [if_pos rfl];have h9:ar 7=some 3:=by decide
    rw [h9,if_neg (by decide),BS,if_neg (by decide),if_neg (by decide),if_neg (by decide)] at h
    match ks,h,hl,hw with
    | [a,b,c],h,hl,hw =>
     simp only [Tm.etaL,Ny];simp only [Tm.etaL,Tm.scL,Tm.wtL] at hl;simp only [Tm.wtL] at hw;have hb1:Ae 7 1=0:=by decide
     have hb2:Ae 7 2=0:=by decide
     have hr:=AnI (m:=m) (z:=AM) (a:=b.eta) (b:=c.eta) (k:=k) (KU k) (by have:=hl.1.2.1;rwa [hb1] at this) (by have:=hl.1.2.2.1;rwa [hb2] at this) h.2.1;have hz1:AM.wt=1:=rfl;have hp:=JT a;have hp2:=JT a.eta;rw [hz1] at hr;simp only [Tm.wt,Tm.wtL];exact ⟨hr.1,by omega⟩
    | [],h,_,_=>simp at h
    | [_],h,_,_=>simp at h
    | [_,_],h,_,_=>simp at h
    | _::_::_::_::_,h,_,_=>simp at h
   ·rw [if_neg h7,Tm.sc];refine ⟨⟨by rw [hll];exact h.1,h.2.1,hl.1⟩,?_⟩;simp only [Tm.wt];omega
theorem etaL_sc:∀(op:Int) (i:Nat) (l:List Tm) (k:Nat),Tm.scL op i l k→k+2+2 * Tm.wtL l≤1000000000→Tm.scL op i (Tm.etaL l) k∧Tm.wtL (Tm.etaL l)≤Tm.wtL l
 | _,_,[],_,_,_=>by simp only [Tm.etaL,Tm.scL,true_and];exact Nat.le_refl _
 | op,i,t::l,k,h,hw=>by
  rw [Tm.scL] at h;rw [Tm.wtL] at hw;have hb:=AU op i;have h1:=Oo t (k+Ae op i) h.1 (by omega);have h2:=etaL_sc op (i+1) l k h.2 (by omega);rw [Tm.etaL,Tm.scL,Tm.wtL,Tm.wtL];exact ⟨⟨h1.1,h2.1⟩,by omega⟩
end
section
variable {β:Type}
theorem AeX {rm:List Nat} {vals:List IV} {own:List (Nat×Blk)} {ext:List Blk} (hf:AL rm vals own []=true) (hx:∀s,Ref.own s ∉ ext.flatMap Blk.refs) (s:Nat) :
  Ref.own s∈IV.refs.refsL vals++(own.filter fun p=>!rm.contains p.1).flatMap (fun p=>p.2.refs)++ext.flatMap Blk.refs ↔ heldB rm vals own [] s=true:=by
 rw [← VW hf s,List.mem_append];constructor
 ·rintro (h | h)
  ·exact List.mem_append_left _ h
  ·exact absurd h (hx s)
 ·intro h;rcases List.mem_append.1 h with h | h
  ·exact .inl h
  ·cases h
theorem Aqk {base rm:List Nat} {vals:List IV} {own:List (Nat×Blk)} {ext:List Blk} (hx:∀s,Ref.own s ∉ ext.flatMap Blk.refs) (hb:rm.any base.contains=false) (hf:AL rm vals own []=true) (k:Hp→Option β) :
  Bg base rm vals ⟨own,ext⟩ k=k ⟨JJ rm vals own [],ext⟩:=by
 have hm:=AeX hf hx;have hf0:=hf;simp only [AL,Bool.and_eq_true] at hf0;obtain ⟨g1,g2,g3,g4⟩:=hf0;unfold Bg;rw [hb];simp only [cond_false];rw [Ob];cases ha:(own.all fun p=>!rm.contains p.1) with
 | true =>
  simp only [Bool.not_true,cond_false];congr 2
  symm
  apply List.filter_eq_self.2;intro p hp;rw [List.all_eq_true.1 ha p hp];rfl
 | false =>
  simp only [Bool.not_false,cond_true];have slow:(match CH base [] rm ⟨vals,⟨own,ext⟩⟩ with | none=>none | some S=>fH S.hp k)=k ⟨JJ rm vals own [],ext⟩:=by
   have hgone:(rm.filter fun k=>!anyIn [k] (IV.refs.refsL vals++(own.filter fun p=>!rm.contains p.1).flatMap (fun p=>p.2.refs)++ext.flatMap Blk.refs))=rm.filter fun s=>!heldB rm vals own [] s:=by
    apply List.filter_congr;intro s _;congr 1;exact Bool.eq_iff_iff.2 ((Ja s _).trans (hm s))
   have hown:(own.filter fun p=>!(rm.filter fun s=>!heldB rm vals own [] s).contains p.1)=JJ rm vals own []:=by
    apply List.filter_congr;intro p _;rw [Bool.eq_iff_iff];simp only [Bool.not_eq_true',Bool.or_eq_true,List.contains_eq_mem,decide_eq_false_iff_not,List.mem_filter];constructor
    ·intro h;by_cases h1:p.1∈rm
     ·right;cases hh:heldB rm vals own [] p.1 with
      | true=>rfl
      | false=>exact absurd ⟨h1,hh⟩ h
     ·exact .inl h1
    ·rintro (h | h) ⟨h1,h2⟩
     ·exact h h1
     ·rw [h] at h2;exact absurd h2 (by simp)
   simp only [CH,hb,Bool.false_eq_true,if_false,A1,ha,hgone,hown];have hnone:anyIn (rm.filter fun s=>!heldB rm vals own [] s) (CZ ⟨vals,⟨JJ rm vals own [],ext⟩⟩)=false:=by
    apply Eu;intro s hs hmem;obtain ⟨hs1,hs2⟩:=List.mem_filter.1 hs;have hs2:heldB rm vals own [] s=false:=by simpa using hs2
    simp only [CZ,List.mem_append] at hmem;rcases hmem with (hmem | hmem) | hmem
    ·have:=(hm s).1 (List.mem_append_left _ (List.mem_append_left _ hmem))
     rw [this] at hs2;cases hs2
    ·obtain ⟨p,hp,hr⟩:=List.mem_flatMap.1 hmem;have hp1:=(List.mem_filter.1 hp).1;have hn:=(Ep (List.all_eq_true.1 g2 p hp1) s).1 hr;have h4:=List.all_eq_true.1 g4 p hp1;cases hc:rm.contains p.1 with
     | true =>
      rw [hc] at h4;have h4:(rm.all fun s=>!FL s p.2)=true:=h4;have h5:=List.all_eq_true.1 h4 s hs1;rw [hn] at h5;cases h5
     | false =>
      have:=(hm s).1 (List.mem_append_left _ (List.mem_append_right _ (List.mem_flatMap.2 ⟨p,List.mem_filter.2 ⟨hp1,by rw [hc];rfl⟩,hr⟩)))
      rw [this] at hs2;cases hs2
    ·exact hx s hmem
   simp only [hnone,Bool.false_eq_true,if_false,ON]
  cases hff:(and (FP rm (CD vals [])) (and (HQ rm own) (JO rm ext))) with
  | false=>exact slow
  | true =>
   have hff:(FP rm (CD vals []) && (HQ rm own && JO rm ext))=true:=hff;simp only [Bool.and_eq_true] at hff;simp only [HV,cond_true];congr 2;apply List.filter_congr;intro p hp;cases hc:rm.contains p.1 with
   | false=>rfl
   | true =>
    have h1:=Ga hff.1;rw [refsDL_eq,List.append_nil] at h1;have h2:=HU hff.2.1
    have:heldB rm vals own [] p.1=false:=by
     cases hh:heldB rm vals own [] p.1 with
     | false=>rfl
     | true =>
      have:=(hm p.1).2 hh
      have hpm:p.1∈rm:=List.contains_iff_mem.1 hc;rcases List.mem_append.1 this with h | h
      ·rcases List.mem_append.1 h with h | h
       ·exact absurd h (h1 _ hpm)
       ·exact absurd h (h2 _ hpm)
      ·exact absurd h (hx _)
    rw [this];rfl
structure ExtX (ext ext':List Blk):Prop where
 g:Qi 400 [.ext 0] 0 ext=true
 l:ext'.length=ext.length
 o:okB ext.length ext'=true
theorem AaR {ks:List Bool} {ih:Aa} {f:FuncId} {args:List IV} {vs:List FV} {w:FV} {u:List (Ref×Blk)} {lg:List Ref} {own own':List (Nat×Blk)} {ext ext':List Blk}
  (hz:∀(e:Option (IV×Hp)) (k:List IV→List Ref→List (Ref×Blk)→List Ref→Option (IV×Hp)),Vg args ks ⟨own,ext⟩ [] e k=k (vs.map .fv) [] u lg) (X:ExtX ext ext')
  (hr:Bx (ih f (.ptr (.ext 0) 0::vs.map .fv) ⟨[],ext⟩) w ext') (hlay:∀k:Hp→Option (IV×Hp),Mb u ⟨own,ext'⟩ k=k ⟨own',ext'⟩) (k:IV→Hp→List Ref→List Ref→Option (IV×Hp)) :
  Al (true::ks) false false ih f (.ptr (.ext 0) 0::args) ⟨own,ext⟩ k=k (.fv w) ⟨own',ext'⟩ ((CR ext.length).reverse++lg) (Bw u++CR ext.length):=by
 rw [PY,Ajb,XF,hz]
 have:=XG (r1:=.ext 0) (rs1:=[]) hr X.g X.l X.o own (ih f (.ptr (.ext 0) 0::vs.map .fv) ⟨[],[]⟩) u lg (GU (true::ks) false false ih f (.ptr (.ext 0) 0::args) ⟨own,ext⟩ k) k
 exact this.trans (hlay _)
theorem Ari:∀(cs:List FV),(∀x∈cs,∀l,x≠.agg l)→∀k:List FV→Option β,XU 1 cs.length cs k=k cs
 | [],_,k=>rfl
 | c::cs,h,k=>by
  show (Gh (c::cs) 1 fun a=>FY (c::cs) 1 fun b=>Afn a fun x=>XU 1 cs.length b fun xs=>k (x::xs))=_
  rw [t1,d1]
  have:∀k:FV→Option β,Afn [c] k=k c:=by
   intro k;cases c with
   | agg l=>exact absurd rfl (h _ List.mem_cons_self l)
   | _=>rfl
  rw [this,Ari cs (fun x hx=>h x (List.mem_cons_of_mem _ hx))]
theorem O2 (d:Nat) (h:Hp) (lg:List Ref) (e:Option β):∀(l:List FV) (k:List FV→List (Ref×Blk)→List Ref→Option β),Cz (Dj (d+1)) (l.map .fv) h lg e k=k l [] lg
 | [],k=>rfl
 | v::l,k=>by
  show (Dj (d+1) (.fv v) h lg e fun y u lg=>Cz (Dj (d+1)) (l.map .fv) h lg e fun ys us lg=>Nw u us fun w=>k (y::ys) w lg)=_
  show (Cz (Dj (d+1)) (l.map .fv) h lg e fun ys us lg=>Nw [] us fun w=>k (v::ys) w lg)=_
  rw [O2 d h lg e l];rfl
theorem AiI {d:Nat} {s:Nat} {es:List FV} {ro:Bool} {own:List (Nat×Blk)} {ext:List Blk} (hl:Ap s own=some (.row (es.map .fv) ro)) (hn:es.length≤300) (ha:∀x∈es,∀l,x≠.agg l) (lg:List Ref) (e:Option β)
  (k:FV→List (Ref×Blk)→List Ref→Option β):Dj (d+2) (.slc (.own s) 1 es.length) ⟨own,ext⟩ lg e k=k (.sl es) [(.own s,.row (es.map .fv) true)] (.own s::lg):=by
 show (Da (.own s) ⟨own,ext⟩ fun b=>DB b fun cells=>cond (Nat.ble cells.length 300) (cond (or (Nat.beq 1 0) (not (Nat.ble (es.length * 1) cells.length))) none
  (Cz (Dj (d+1)) cells ⟨own,ext⟩ (.own s::lg) e fun cs u lg=>XU 1 es.length cs fun els=>k (.sl els) ((.own s,.row cells true)::u) lg)) e)=_
 rw [KS,Bk,hl];simp only [Option.bind_some,HS,List.length_map,Nat.mul_one];rw [Bb,decide_eq_true hn,c_t,show Nat.ble es.length es.length=true by rw [Bb];exact decide_eq_true (Nat.le_refl _)]
 simp only [Bool.not_true]
 show (Cz (Dj (d+1)) (es.map .fv) ⟨own,ext⟩ (.own s::lg) e fun cs u lg=>XU 1 es.length cs fun els=>k (.sl els) ((.own s,.row (es.map .fv) true)::u) lg)=_
 rw [O2,Ari es ha]
theorem ArA {s s2:Nat} {es:List FV} {ro ro2:Bool} {a b c d t x:FV} {own:List (Nat×Blk)} {ext:List Blk} (hl:Ap s own=some (.row [.fv a,.fv b,.slc (.own s2) 1 es.length,.fv c,.fv d,.fv t,.fv x] ro)) (hl2:Ap s2 own=some (.row (es.map .fv) ro2))
  (hn:es.length≤300) (ha:∀x∈es,∀l,x≠.agg l) (lg:List Ref) (e:Option β) (k:FV→List (Ref×Blk)→List Ref→Option β):Dj 12 (.ptr (.own s) 0) ⟨own,ext⟩ lg e k =
   k (.fp [a,b,.sl es,c,d,t,x] 0) [(.own s,.row [.fv a,.fv b,.slc (.own s2) 1 es.length,.fv c,.fv d,.fv t,.fv x] true),(.own s2,.row (es.map .fv) true)] (.own s2 :: .own s::lg):=by
 rw [Xb,KS,Bk,hl];simp only [Option.bind_some,HS];rw [Bb,decide_eq_true (by simp),c_t];rw [WF,JL,WF,JL,WF,AiI (d:=9) hl2 hn ha,WF,JL,WF,JL,WF,JL,WF,JL,fl0];rfl
end
end Idl
end Go.Proofs.Ytaifgaidaglblaa
namespace Go.Proofs.Ytaifgaidaglblaa
namespace Idl
theorem FE (l:List FV):(l.map IV.fv).all FQ=true:=by induction l with
 | nil=>rfl
 | cons a l ih=>rw [AwV,List.all_cons,ih];rfl
theorem D4 (s:Nat) (l:List FV):(l.map IV.fv).any (Cj s)=false:=by induction l with
 | nil=>rfl
 | cons a l ih=>rw [AwV,List.any_cons,ih];rfl
def Bp:List Tm→List FV
 | []=>[]
 | .mk o n k::l=>.int .i64 o :: .int .i64 n :: .sl (k.map Tm.enc)::Bp l
def Lc:Nat→List IV
 | 0=>[]
 | n+1=>iv 0::iv 0 :: .nils::Lc n
def BG (ts:List Tm) (r:Nat):List IV:=(Bp ts).map .fv++Lc r
theorem Hr (ts:List Tm):(Bp ts).length=3 * ts.length:=by
 induction ts with
 | nil=>rfl
 | cons t l ih=>obtain ⟨o,n,k⟩:=t;simp only [Bp,AwT,ih];omega
theorem XZ (ts:List Tm) (t:Tm):Bp (ts++[t])=Bp ts++[.int .i64 t.op,.int .i64 t.n,.sl (t.kids.map Tm.enc)]:=by
 induction ts with
 | nil=>obtain ⟨o,n,k⟩:=t;rfl
 | cons a l ih=>obtain ⟨o,n,k⟩:=a;simp only [List.cons_append,Bp,ih]
theorem QB {β:Type}:∀(A:List IV) (x y z:IV) (B:List IV) (a b c:FV) (k:List IV→Option β),Ef (A++x::y::z::B) A.length [a,b,c] k=k (A++.fv a :: .fv b :: .fv c::B)
 | [],x,y,z,B,a,b,c,k=>rfl
 | w::A,x,y,z,B,a,b,c,k=>by
  show Ef (A++x::y::z::B) A.length [a,b,c] (fun t=>k (w::t))=_
  rw [QB A];rfl
theorem Acf {β:Type} (done:List Tm) (r:Nat) (o n:Int) (ks:List Tm) (k:List IV→Option β):Ef (BG done (r+1)) (done.length * 3) [.int .i64 o,.int .i64 n,.sl (ks.map Tm.enc)] k=k (BG (done++[.mk o n ks]) r):=by
 have h:=QB (β:=β) ((Bp done).map .fv) (iv 0) (iv 0) .nils (Lc r) (.int .i64 o) (.int .i64 n) (.sl (ks.map Tm.enc)) k;rw [List.length_map,Hr,Nat.mul_comm] at h;refine h.trans ?_;congr 1;unfold BG;rw [XZ];simp [Tm.op,Tm.n,Tm.kids,iv]
theorem Apr {β:Type}:∀(ts:List Tm) (k:List FV→Option β),XU 3 ts.length (Bp ts) k=k (ts.map Tm.enc)
 | [],k=>rfl
 | .mk o n ks::l,k=>by
  show (Gh (Bp (.mk o n ks::l)) 3 fun a=>FY (Bp (.mk o n ks::l)) 3 fun b=>Afn a fun x=>XU 3 l.length b fun xs=>k (x::xs))=_
  rw [Bp,t3,d3]
  show (XU 3 l.length (Bp l) fun xs=>k (.agg [.int .i64 o,.int .i64 n,.sl (ks.map Tm.enc)]::xs))=_
  rw [Apr l,AwV,Ai]
theorem AsI (n:Nat):Qg n [iv 0,iv 0,.nils]=BG [] n:=by
 induction n with
 | zero=>rfl
 | succ n ih=>rw [Qg,ih];rfl
theorem Am2 {n:Nat} (hn:n≤1000) (s:Nat) (own:List (Nat×Blk)) (ext:List Blk) (k:IV→Hp→List Ref→List Ref→Option (IV×Hp)) :
  Ay (Bn EE s 29 (iv n) (iv n)) s ⟨own,ext⟩ k=CT own s (A0 own s (.row (BG [] n) false) fun own=>k (.slc (.own s) 3 n) ⟨own,ext⟩ [] [.own s]):=by
 have:Bn EE s 29 (iv n) (iv n)=.ret { eff:={ val:=.slc (.own s) 3 n },new:=some (.row (BG [] n) false) }:=by
  simp only [Bn,WE,tTm,Xa];rw [if_pos ⟨by omega,by omega,by omega,by decide,by decide⟩,Int.toNat_natCast,AsI]
 rw [this];unfold Ay;simp only [Rd.runLog,J7,C8,CB];rfl
theorem O0 {β:Type} {n i:Nat} (h:i<n) (r:Ref) (k:IV→Option β):A7 3 (.slc r 3 n) (iv i) k=k (.ptr r (i * 3)):=by
 have e1:Nat.ble (Nat.succ i) n=true:=by rw [Bb];exact decide_eq_true h
 show (cond (and (Nat.ble (Nat.succ i) n) (Nat.beq 3 3)) (D7 (i * 3) fun o=>k (.ptr r o)) none)=_
 rw [e1];simp only [BT];rfl
theorem Hv (ts:List Tm) (r:Nat):(BG ts r).all FQ=true:=by
 unfold BG;rw [List.all_append,FE,Bool.true_and]
 induction r with
 | zero=>rfl
 | succ r ih=>rw [Lc,List.all_cons,List.all_cons,List.all_cons,ih];rfl
theorem Fy (s:Nat) (ts:List Tm) (r:Nat):(BG ts r).any (Cj s)=false:=by
 unfold BG;rw [List.any_append,D4,Bool.false_or]
 induction r with
 | zero=>rfl
 | succ r ih=>rw [Lc,List.any_cons,List.any_cons,List.any_cons,ih];rfl
theorem AkW {s d:Nat} {ts:List Tm} {ro:Bool} {own:List (Nat×Blk)} {ext:List Blk} (hl:Ap s own=some (.row (BG ts 0) ro)) (hn:ts.length≤100) (lg:List Ref) (e:Option (IV×Hp))
  (k:FV→List (Ref×Blk)→List Ref→Option (IV×Hp)):Dj (d+2) (.slc (.own s) 3 ts.length) ⟨own,ext⟩ lg e k=k (.sl (ts.map Tm.enc)) [(.own s,.row (BG ts 0) true)] (.own s::lg):=by
 have hlen:(BG ts 0).length=3 * ts.length:=by simp [BG,Lc,Hr]
 show (Da (.own s) ⟨own,ext⟩ fun b=>DB b fun cells=>cond (Nat.ble cells.length 300) (cond (or (Nat.beq 3 0) (not (Nat.ble (ts.length * 3) cells.length))) none
  (Cz (Dj (d+1)) cells ⟨own,ext⟩ (.own s::lg) e fun cs u lg=>XU 3 ts.length cs fun els=>k (.sl els) ((.own s,.row cells true)::u) lg)) e)=_
 rw [KS,Bk,hl];simp only [Option.bind_some,HS];rw [hlen,Bb,decide_eq_true (by omega),c_t,Bb,decide_eq_true (by omega)];simp only [Bool.not_true]
 show (Cz (Dj (d+1)) (BG ts 0) ⟨own,ext⟩ (.own s::lg) e fun cs u lg=>XU 3 ts.length cs fun els=>k (.sl els) ((.own s,.row (BG ts 0) true)::u) lg)=_
 rw [show BG ts 0=(Bp ts).map .fv by simp [BG,Lc],O2,Apr]
theorem Af7 {s:Nat} {ts:List Tm} {ro:Bool} {a b:FV} {own:List (Nat×Blk)} {ext:List Blk} (hl:Ap s own=some (.row (BG ts 0) ro)) (hn:ts.length≤100) (lg:List Ref) (e:Option (IV×Hp))
  (k:FV→List (Ref×Blk)→List Ref→Option (IV×Hp)):Dj 12 (.agg [.fv a,.fv b,.slc (.own s) 3 ts.length]) ⟨own,ext⟩ lg e k=k (.agg [a,b,.sl (ts.map Tm.enc)]) [(.own s,.row (BG ts 0) true)] (.own s::lg):=by
 rw [AgC,show Nat.ble [IV.fv a,.fv b,.slc (.own s) 3 ts.length].length 300=true from rfl,c_t,WF,JL,WF,JL,WF,AkW (d:=9) hl hn,fl0]
 rfl
theorem Eg {β:Type} (o p:Int) (l:List FV) (r:List FV) (k:IV→Option β):A7 3 (.fv (.sl (.agg [.int .i64 o,.int .i64 p,.sl l]::r))) (iv 0) k=k (.fv (.fp [.int .i64 o,.int .i64 p,.sl l] 0)):=by
 have h:(.agg [.int .i64 o,.int .i64 p,.sl l]::r:List FV)[0]?=some (.agg [.int .i64 o,.int .i64 p,.sl l]):=rfl
 have:=Bq (β:=β) h (A9 _ _ _) k
 rw [Cb] at this;exact this
theorem Fk {β:Type} (a:FV) (o p:Int) (l:List FV) (r:List FV) (k:IV→Option β):A7 3 (.fv (.sl (a :: .agg [.int .i64 o,.int .i64 p,.sl l]::r))) (iv 1) k=k (.fv (.fp [.int .i64 o,.int .i64 p,.sl l] 0)):=by
 have h:(a :: .agg [.int .i64 o,.int .i64 p,.sl l]::r:List FV)[1]?=some (.agg [.int .i64 o,.int .i64 p,.sl l]):=rfl
 have:=Bq (β:=β) h (A9 _ _ _) k
 rw [Cb] at this;exact this
theorem GR {β:Type} (a b:FV) (o p:Int) (l:List FV) (r:List FV) (k:IV→Option β):A7 3 (.fv (.sl (a::b :: .agg [.int .i64 o,.int .i64 p,.sl l]::r))) (iv 2) k=k (.fv (.fp [.int .i64 o,.int .i64 p,.sl l] 0)):=by
 have h:(a::b :: .agg [.int .i64 o,.int .i64 p,.sl l]::r:List FV)[2]?=some (.agg [.int .i64 o,.int .i64 p,.sl l]):=rfl
 have:=Bq (β:=β) h (A9 _ _ _) k
 rw [Cb] at this;exact this
theorem Cp (w:FV) (own:List (Nat×Blk)):JV (some (.fv w,⟨own,[]⟩)) w:=⟨_,own,rfl,AlY w own⟩
theorem AhB {r:Option (IV×Hp)} {w:FV} (h:JV r w):Bc r w:=by
 obtain ⟨v,own,e,hz⟩:=h;exact ⟨v,own,e,.inl hz⟩
abbrev Hre (op m:Int) (ks:List Tm) (K:IV) (tok:List (Nat×Blk)):Hp :=
 ⟨(39845888,.row [iv op,iv m,.fv (.sl (ks.map Tm.enc))] false)::(39845889,.row [iv 0,iv 0,.nils] false)::(39846917,.row [iv op,iv m,K] false)::tok,[]⟩
def C0 (op:Int):Nat→List Tm→List Tm
 | _,[]=>[]
 | i,t::l=>(if i=0∧(op=4∨op=7) then AM else t.eta)::C0 op (i+1) l
theorem Xe (o p:Int) (l:List FV) (s:Nat) (own:List (Nat×Blk)) (ext:List Blk) (k:IV→Hp→List Ref→List Ref→Option (IV×Hp)) :
  Ay (AY EE s false .append [29,29] [.nils,.clip [.agg [.int .i64 o,.int .i64 p,.sl l]]]) s ⟨own,ext⟩ k=CT own s (A0 own s (.tok 1 3) fun own=>k (.app (.own s) [.agg [.int .i64 o,.int .i64 p,.sl l]]) ⟨own,ext⟩ [] [.own s]) :=
 M8 sTm (.clip _) rfl rfl (by simp) (.inl rfl) s own ext k
theorem QD (op:Int) (x:Tm):∀(i:Nat) (l:List Tm),C0 op i (l++[x])=C0 op i l++[if i+l.length=0∧(op=4∨op=7) then AM else x.eta]
 | i,[]=>by simp [C0]
 | i,t::l=>by
  simp only [List.cons_append,C0,QD op x (i+1) l,AwT];rw [show i+1+l.length=i+(l.length+1) by omega]
theorem Qx (op:Int):∀(i:Nat) (l:List Tm),(C0 op i l).length=l.length
 | _,[]=>rfl
 | i,t::l=>by simp only [C0,AwT,Qx op (i+1) l]
set_option maxRecDepth 20000 in
set_option maxHeartbeats 1000000 in
theorem Afv {n:Nat} {op m:Int} {ks:List Tm} {w:FV} (h4:ks.length≤4) (hn:ks.length+3<n)
  (ih:∀x∈ks,Bc (SS dt n 38 [.fv x.enc] ⟨[],[]⟩) x.eta.enc)
  (hend:∀(K:IV) (tok:List (Nat×Blk)) (rec:List IV→Hp→Option (IV×Hp)),((ks=[]∧K=.nils∧tok=[])∨(ks≠[]∧K=.app (.own 39854084) ((C0 op 0 ks).map Tm.enc)∧tok=[(39854084,.tok ks.length 3)])) →
   Bc (Jr [.ptr (.own 39845888) 0,.ptr (.own 39845889) 0,.ptr (.own 39846917) 0,iv ks.length] (Hre op m ks K tok) (SS dt n) ⟨[],[]⟩ rec) w) :
  Bc (SS dt (n+1) 38 [.fv (Tm.mk op m ks).enc] ⟨[],[]⟩) w:=by
 rw [c38,Ai];simp only [SI,TB,Rt,SJ,R7,UN,US,RU,TV,TP,Uj,SP,UL,UP,Ta,U9,U5,Ua,RL,TJ,Tk,UZ,TL,Uo,Rm,TX,TY,Tj,R3,SU,Uk,Sb,Ry,S38,↓XX,XY,↓reduceIte,Nat.reduceBEq,Nat.reduceAdd,Int.reduceEq,Int.reduceLT,Int.reduceLE,↓AD,XD,heldB,AL,XE];refine A6 (Q:=fun r=>Bc r _) (fun j V H=>∃(pre rest:List Tm) (K:IV) (tok:List (Nat×Blk)),ks=pre++rest∧rest.length=j∧V=[.ptr (.own 39845888) 0,.ptr (.own 39845889) 0,.ptr (.own 39846917) 0,iv pre.length]∧H=Hre op m ks K tok ∧
   ((pre=[]∧K=.nils∧tok=[])∨(pre≠[]∧K=.app (.own 39854084) ((C0 op 0 pre).map Tm.enc)∧tok=[(39854084,.tok pre.length 3)])))
  ?_ n ks.length _ _ (by omega) ⟨[],ks,.nils,[],rfl,rfl,rfl,rfl,.inl ⟨rfl,rfl,rfl⟩⟩
 rintro j V H rec ⟨pre,rest,K,tok,hks,hl,rfl,rfl,hK⟩ hrec;have hkl:ks.length=pre.length+rest.length:=by rw [hks];simp
 cases rest with
 | nil =>
  rw [List.append_nil] at hks;subst hks;exact hend K tok rec hK
 | cons x rest =>
  have hi:(pre.length:Int)<ks.length:=by rw [hkl];simp;omega
  have hg2:=Ce hks;have hc:=ih x (by rw [hks];simp);have hwi:BI ((pre.length:Int)+1)=((pre++[x]).length:Int):=(As (by omega) (by omega)).trans (by simp);have h0:=Fg (n:=n) (by omega) 11;have hi0:(0:Int)<ks.length:=by omega
  have hw01:BI (0+1)=1:=by decide
  simp only [AwT] at hl hkl;rcases hK with ⟨rfl,rfl,rfl⟩ | ⟨hne,rfl,rfl⟩
  ·have hz:∀y,((op=4∨op=7)→y=AM)→(¬ (op=4∨op=7)→y=x.eta)→C0 op 0 [x]=[y]:=by
    intro y h1 h2;by_cases h:op=4∨op=7
    ·simp [C0,h,h1 h]
    ·simp [C0,h,h2 h]
   have h9:∀y,C0 op 0 [x]=[y]→Bc (rec [.ptr (.own 39845888) 0,.ptr (.own 39845889) 0,.ptr (.own 39846917) 0,iv 1] (Hre op m ks (.app (.own 39854084) [y.enc]) [(39854084,.tok 1 3)])) w:=by
    intro y hy;exact hrec rest.length _ _ (by omega) ⟨[x],rest,_,_,by rw [hks];simp,rfl,rfl,rfl,.inr ⟨by simp,by rw [List.nil_append] at *;rw [hy];rfl,rfl⟩⟩
   by_cases hop:op=4
   ·have h8:=h9 AM (hz _ (fun _=>rfl) (fun h=>absurd (.inl hop) h));subst hop;generalize x.eta=y at hc;obtain ⟨o,p,l⟩:=x;obtain ⟨o2,p2,l2⟩:=y;rw [Ai,Ai] at hc;rw [Ai] at h0;have hze:AM.enc=.agg [.int .i64 11,.int .i64 0,.sl []]:=rfl;rw [hze] at h8;simp only [↓Ke,↓XX,XY,↓reduceIte,Nat.reduceBEq,Nat.reduceAdd,Int.reduceEq,Int.reduceLT,Int.reduceLE,hi,↓Bq (AO hg2) (A9 _ _ _),↓Cb,↓Av hc,↓Ag h0,hi0,hw01,↓Ec,↓Xe,↓AD,XD,heldB,AL,XE];exact h8
   ·by_cases hop7:op=7
    ·have h8:=h9 AM (hz _ (fun _=>rfl) (fun h=>absurd (.inr hop7) h));subst hop7;generalize x.eta=y at hc;obtain ⟨o,p,l⟩:=x;obtain ⟨o2,p2,l2⟩:=y;rw [Ai,Ai] at hc;rw [Ai] at h0;have hze:AM.enc=.agg [.int .i64 11,.int .i64 0,.sl []]:=rfl;rw [hze] at h8;simp only [↓Ke,↓XX,XY,↓reduceIte,Nat.reduceBEq,Nat.reduceAdd,Int.reduceEq,Int.reduceLT,Int.reduceLE,hi,↓Bq (AO hg2) (A9 _ _ _),↓Cb,↓Av hc,↓Ag h0,hi0,hw01,↓Ec,↓Xe,↓AD,XD,heldB,AL,XE];exact h8
    ·have h8:=h9 x.eta (hz _ (fun h=>absurd h (by omega)) (fun _=>rfl));generalize x.eta=y at hc h8;obtain ⟨o,p,l⟩:=x;obtain ⟨o2,p2,l2⟩:=y;rw [Ai,Ai] at hc;rw [Ai] at h8;simp only [↓Ke,↓XX,XY,↓reduceIte,Nat.reduceBEq,Nat.reduceAdd,Int.reduceEq,Int.reduceLT,Int.reduceLE,hi,hop,hop7,↓Bq (AO hg2) (A9 _ _ _),↓Cb,↓Av hc,hi0,hw01,↓Ec,↓Xe,↓AD,XD,heldB,AL,XE];exact h8
  ·have hp0:¬ (pre.length:Int)=0:=by
    have:=List.length_pos_iff.2 hne
    omega
   have h8:=hrec rest.length _ _ (by omega) ⟨pre++[x],rest,_,_,by rw [hks];simp,rfl,rfl,rfl,.inr ⟨by simp,by rw [QD,if_neg (by rintro ⟨h,_⟩;omega)],rfl⟩⟩;have hlen:=Qx op 0 pre;generalize C0 op 0 pre=D at h8 hlen;generalize x.eta=y at hc h8;obtain ⟨o,p,l⟩:=x;obtain ⟨o2,p2,l2⟩:=y;have happ:=fun {own:List (Nat×Blk)} {ext:List Blk} (r s:Nat) (k:IV→Hp→List Ref→List Ref→Option (IV×Hp))=>NR (es:=D) (by omega) (.mk o2 p2 l2) r s own ext k;rw [hlen] at happ;rw [Ai,Ai] at hc;simp only [Ai] at happ;simp only [↓Ke,↓XX,XY,↓reduceIte,Nat.reduceBEq,Nat.reduceAdd,Int.reduceEq,Int.reduceLT,Int.reduceLE,hi,hp0,↓Bq (AO hg2) (A9 _ _ _),↓Cb,↓Av hc,hwi,↓Ec,↓happ,↓H7,↓AD,XD,heldB,AL,XE];have e9:(pre++[Tm.mk o p l]).length=pre.length+1:=by simp
   rw [e9] at h8 ⊢;exact h8
theorem KV {β:Type} (r:Ref) (es:List FV) (x:IV) (k:IV→Option β):A7 3 (.app r es) x k=A7 3 (.fv (.sl es)) x k:=rfl
theorem Ad1 (op:Int) (h:op=4∨op=7):∀ks:List Tm,C0 op 0 ks=Ny (Tm.etaL ks)
 | []=>rfl
 | t::l=>by
  have:∀(i:Nat) (l:List Tm),C0 op (i+1) l=Tm.etaL l:=by
   intro i l
   induction l generalizing i with
   | nil=>rfl
   | cons a l ih=>rw [C0,if_neg (by omega),ih,Tm.etaL]
  rw [C0,if_pos ⟨rfl,h⟩,this 0,Tm.etaL,Ny]
theorem ZG (op:Int) (h:¬ (op=4∨op=7)):∀(i:Nat) (ks:List Tm),C0 op i ks=Tm.etaL ks
 | _,[]=>rfl
 | i,t::l=>by rw [C0,if_neg (fun h'=>h h'.2),ZG op h (i+1) l,Tm.etaL]
set_option maxRecDepth 20000 in
set_option maxHeartbeats 1000000 in
theorem Ys {n:Nat} {op m:Int} {ks:List Tm} (h:¬ (op=4∨op=7)) (rec:List IV→Hp→Option (IV×Hp)) {K:IV} {tok:List (Nat×Blk)}
  (hK:(ks=[]∧K=.nils∧tok=[])∨(ks≠[]∧K=.app (.own 39854084) ((C0 op 0 ks).map Tm.enc)∧tok=[(39854084,.tok ks.length 3)])) :
  Bc (Jr [.ptr (.own 39845888) 0,.ptr (.own 39845889) 0,.ptr (.own 39846917) 0,iv ks.length] (Hre op m ks K tok) (SS dt n) ⟨[],[]⟩ rec) (Tm.mk op m (Tm.etaL ks)).enc:=by
 have hno:¬ ((ks.length:Int)<ks.length):=by omega
 have h4:¬ op=4:=fun h'=>h (.inl h');have h7:¬ op=7:=fun h'=>h (.inr h');rw [Ai];rcases hK with ⟨rfl,rfl,rfl⟩ | ⟨hne,rfl,rfl⟩
 ·simp only [↓Ke,↓XX,XY,↓reduceIte,Nat.reduceBEq,Nat.reduceAdd,Int.reduceEq,Int.reduceLT,Int.reduceLE,hno,h4,h7];exact Bh rfl _
 ·rw [ZG op h];simp only [↓Ke,↓XX,XY,↓reduceIte,Nat.reduceBEq,Nat.reduceAdd,Int.reduceEq,Int.reduceLT,Int.reduceLE,hno,h4,h7];exact Bh rfl _
set_option maxRecDepth 20000 in
set_option maxHeartbeats 1000000 in
theorem Anj {n:Nat} {m:Int} {ks:List Tm} {a b:Tm} (rec:List IV→Hp→Option (IV×Hp)) (h3:ks.length=3) (hn:a.wt+10<n) (haw:a.wt≤100000000) (hka:a.op=8→∃x,a.kids=[x]) (hkb:b.op=9→∃y,b.kids=[y]) :
  Bc (Jr [.ptr (.own 39845888) 0,.ptr (.own 39845889) 0,.ptr (.own 39846917) 0,iv ks.length] (Hre 7 m ks (.app (.own 39854084) ([AM,a,b].map Tm.enc)) [(39854084,.tok ks.length 3)]) (SS dt n) ⟨[],[]⟩ rec) (SO (.mk 7 m [AM,a,b])).enc:=by
 have hno:¬ ((ks.length:Int)<ks.length):=by omega
 have hze:AM.enc=.agg [.int .i64 11,.int .i64 0,.sl []]:=rfl;obtain ⟨o1,n1,k1⟩:=a;obtain ⟨o2,n2,k2⟩:=b;by_cases h8:o1=8
 ·by_cases h9:o2=9
  ·subst h8 h9;obtain ⟨x,hx⟩:=hka rfl;obtain ⟨y,hy⟩:=hkb rfl;simp only [Tm.kids] at hx hy;subst hx hy;simp only [Tm.wt,Tm.wtL] at hn haw;have hs:=ST n x y (by omega) (by omega);rw [SO];generalize x.same y=v at hs;obtain ⟨o3,n3,k3⟩:=x;obtain ⟨o4,n4,k4⟩:=y;simp only [Ai] at hs;cases v
   ·rw [if_neg (by simp)];simp only [Ai,hze,AwV,AwU];simp only [↓Ke,↓XX,XY,↓reduceIte,Nat.reduceBEq,Nat.reduceAdd,Int.reduceEq,Int.reduceLT,Int.reduceLE,hno,↓KV,↓Eg,↓Fk,↓GR,↓Ag hs];exact Bh rfl _
   ·rw [if_pos ⟨rfl,rfl,rfl⟩];simp only [Ai,hze,AwV,AwU];simp only [↓Ke,↓XX,XY,↓reduceIte,Nat.reduceBEq,Nat.reduceAdd,Int.reduceEq,Int.reduceLT,Int.reduceLE,hno,↓KV,↓Eg,↓Fk,↓GR,↓Ag hs];exact Ao _ _
  ·rw [RN (by simp [Tm.op,h9])];simp only [Ai,hze,AwV,AwU];simp only [↓Ke,↓XX,XY,↓reduceIte,Nat.reduceBEq,Nat.reduceAdd,Int.reduceEq,Int.reduceLT,Int.reduceLE,hno,↓KV,↓Eg,↓Fk,↓GR,h8,h9];exact Bh rfl _
 ·rw [RN (by simp [Tm.op,h8])];simp only [Ai,hze,AwV,AwU];simp only [↓Ke,↓XX,XY,↓reduceIte,Nat.reduceBEq,Nat.reduceAdd,Int.reduceEq,Int.reduceLT,Int.reduceLE,hno,↓KV,↓Eg,↓Fk,↓GR,h8];exact Bh rfl _
set_option maxRecDepth 20000 in
set_option maxHeartbeats 1000000 in
theorem ApG {n:Nat} {m:Int} {ks:List Tm} {b:Tm} {K:Nat} (rec:List IV→Hp→Option (IV×Hp)) (h3:ks.length=2) (hn:b.wt+20<n) (hbw:b.wt≤100000000) (hs:b.sc K) :
  Bc (Jr [.ptr (.own 39845888) 0,.ptr (.own 39845889) 0,.ptr (.own 39846917) 0,iv ks.length] (Hre 4 m ks (.app (.own 39854084) ([AM,b].map Tm.enc)) [(39854084,.tok ks.length 3)]) (SS dt n) ⟨[],[]⟩ rec) (Q3 (.mk 4 m [AM,b])).enc:=by
 have hno:¬ ((ks.length:Int)<ks.length):=by omega
 have hze:AM.enc=.agg [.int .i64 11,.int .i64 0,.sl []]:=rfl;have hwk:=Fm b K hs;obtain ⟨o1,n1,k1⟩:=b;by_cases h5:o1=5
 ·subst h5;have hl2:=EF hs rfl (show ar 5=some 2 by decide)
  simp only [Tm.kids] at hl2
  match k1,hl2 with
  | [f,x],_ =>
  rw [Tm.sc] at hs;have hsf:=hs.2.2.1;have hsx:=hs.2.2.2.1;simp only [Tm.wt,Tm.wtL] at hn hbw;rw [Tm.wk] at hwk;have hfw:f.wk:=ME hwk.2 (by simp);have hv0:=AjN (n:=n) (by omega) 0;have hsame:=ST n x (.mk 1 0 []) (by omega) (by omega);have hfree:=Alc n f 0 (by omega) (by omega) (by omega) (by omega);have h0:=Fg (n:=n) (by omega) 11;have hsub:=Vj (n:=n) f AM 0 (by simp [AM,Tm.wk,Tm.wkL]) (by simp [AM,Tm.wt,Tm.wtL]) (by simp only [AM,Tm.wt,Tm.wtL];omega) hfw (by omega) (by omega) (by omega);obtain ⟨o2,n2,k2⟩:=x;have hx:(Tm.mk o2 n2 k2).same (.mk 1 0 [])=(decide (o2=1) && decide (n2=0)):=by
   rw [Tm.same];by_cases h1:o2=1
   ·subst h1;have hk2:k2.length=0:=by
     have:=EF hsx rfl (show ar 1=some 0 by decide)
     simpa [Tm.kids] using this
    have hk3:k2=[]:=List.length_eq_zero_iff.1 hk2;subst hk3;simp [Tm.sameL]
   ·simp [h1]
  rw [hx] at hsame;rw [Q3];generalize hr:f.subst 0 0 AM=u at hsub;generalize f.free 0=fr at hfree;obtain ⟨o4,n4,k4⟩:=u;obtain ⟨o3,n3,k3⟩:=f;rw [hze] at hsub;simp only [Ai,AwU] at hfree hsub hv0 hsame h0;by_cases h1:o2=1
  ·by_cases h2:n2=0
   ·rw [h1,h2] at hsame;simp only [decide_true,Bool.and_self] at hsame;cases fr
    ·rw [if_pos ⟨rfl,h1,h2,rfl⟩];simp only [Ai,hze,AwV,AwU];simp only [↓Ke,↓XX,XY,↓reduceIte,Nat.reduceBEq,Nat.reduceAdd,Int.reduceEq,Int.reduceLT,Int.reduceLE,hno,↓KV,↓Eg,↓Fk,↓GR,h1,h2,↓Av hv0,↓Ag hsame,↓Ag hfree,↓Ag h0,↓AZ hsub];exact Ao _ _
    ·rw [if_neg (by simp)];simp only [Ai,hze,AwV,AwU];simp only [↓Ke,↓XX,XY,↓reduceIte,Nat.reduceBEq,Nat.reduceAdd,Int.reduceEq,Int.reduceLT,Int.reduceLE,hno,↓KV,↓Eg,↓Fk,↓GR,h1,h2,↓Av hv0,↓Ag hsame,↓Ag hfree];exact Bh rfl _
   ·rw [if_neg (by simp [h2])];rw [h1,decide_eq_true (rfl:(1:Int)=1),decide_eq_false h2,Bool.and_false] at hsame;simp only [Ai,hze,AwV,AwU];simp only [↓Ke,↓XX,XY,↓reduceIte,Nat.reduceBEq,Nat.reduceAdd,Int.reduceEq,Int.reduceLT,Int.reduceLE,hno,↓KV,↓Eg,↓Fk,↓GR,h1,↓Av hv0,↓Ag hsame];exact Bh rfl _
  ·rw [if_neg (by simp [h1])];rw [decide_eq_false h1,Bool.false_and] at hsame;simp only [Ai,hze,AwV,AwU];simp only [↓Ke,↓XX,XY,↓reduceIte,Nat.reduceBEq,Nat.reduceAdd,Int.reduceEq,Int.reduceLT,Int.reduceLE,hno,↓KV,↓Eg,↓Fk,↓GR,↓Av hv0,↓Ag hsame];exact Bh rfl _
 ·rw [Aiz (by simpa [Tm.op] using h5)];simp only [Ai,hze,AwV,AwU];simp only [↓Ke,↓XX,XY,↓reduceIte,Nat.reduceBEq,Nat.reduceAdd,Int.reduceEq,Int.reduceLT,Int.reduceLE,hno,↓KV,↓Eg,↓Fk,↓GR,h5];exact Bh rfl _
theorem Y1:∀(n:Nat) (t:Tm) (k:Nat),t.sc k→2 * t.wt+40<n→k+2 * t.wt≤90000000→Bc (SS dt n 38 [.fv t.enc] ⟨[],[]⟩) t.eta.enc:=by
 intro n
 induction n with
 | zero=>intro t k _ h;omega
 | succ n ih =>
  intro t k hs hn hw;have hwk:=Fm t k hs;obtain ⟨op,m,ks⟩:=t;rw [Tm.sc] at hs;rw [Tm.wk] at hwk;simp only [Tm.wt] at hn hw;have hlen:=Db ks;have hkd:=etaL_sc op 0 ks k hs.2.2 (by omega);have hdl:=O4 ks;refine Afv hwk.1 (by omega) (fun x hx=>?_) (fun K tok rec hK=>?_)
  ·have hxw:=BN hx;obtain ⟨i,hi⟩:=List.getElem?_of_mem hx;have hxs:=JU hs.2.2 hi;have hble:=AU op (0+i);exact ih x _ hxs (by omega) (by omega)
  ·rw [Tm.eta];by_cases h4:op=4
   ·subst h4;rw [if_pos rfl];have h2:ks.length=2:=by have:=hs.1;rw [show ar 4=some 2 by decide] at this;simp only [AwP] at this;omega
    have hne:ks≠[]:=by intro h;rw [h] at h2;cases h2
    rw [Ad1 4 (.inl rfl)] at hK;rcases hK with ⟨h,_⟩ | ⟨_,rfl,rfl⟩
    ·exact absurd h hne
    ·generalize Tm.etaL ks=D at hkd hdl;have hd2:D.length=2:=by omega
     match D,hd2,hkd with
     | [a,b],_,hkd =>
      simp only [Tm.scL,Tm.wtL] at hkd;exact ApG rec h2 (by omega) (by omega) hkd.1.2.1
   ·rw [if_neg h4];by_cases h7:op=7
    ·subst h7;rw [if_pos rfl];have h2:ks.length=3:=by have:=hs.1;rw [show ar 7=some 3 by decide] at this;simp only [AwP] at this;omega
     have hne:ks≠[]:=by intro h;rw [h] at h2;cases h2
     rw [Ad1 7 (.inr rfl)] at hK;rcases hK with ⟨h,_⟩ | ⟨_,rfl,rfl⟩
     ·exact absurd h hne
     ·generalize Tm.etaL ks=D at hkd hdl;have hd2:D.length=3:=by omega
      match D,hd2,hkd with
      | [a,b,c],_,hkd =>
       simp only [Tm.scL,Tm.wtL] at hkd;refine Anj rec h2 (by omega) (by omega) (fun h5=>?_) (fun h5=>?_)
       ·have:=EF hkd.1.2.1 h5 (show ar 8=some 1 by decide)
        match hbk:b.kids,this with
        | [f],_=>exact ⟨f,rfl⟩
       ·have:=EF hkd.1.2.2.1 h5 (show ar 9=some 1 by decide)
        match hbk:c.kids,this with
        | [f],_=>exact ⟨f,rfl⟩
    ·rw [if_neg h7];exact Ys (by omega) rec hK
mutual
def Tm.count:Tm→Int→Int
 | .mk _ _ l,most=>Tm.countL l 1 most
def Tm.countL:List Tm→Int→Int→Int
 | [],n,_=>n
 | t::l,n,most=>if n<most then Tm.countL l (n+t.count (most - n)) most else n
end
mutual
theorem Vi:∀(t:Tm) (m:Int),1≤t.count m∧(1≤m→t.count m≤m)
 | .mk _ _ l,m=>by
  have:=countL_le l 1 m
  simp only [Tm.count];omega
theorem countL_le:∀(l:List Tm) (n m:Int),n≤Tm.countL l n m∧(n≤m→Tm.countL l n m≤m)
 | [],n,m=>by simp only [Tm.countL];omega
 | t::l,n,m=>by
  simp only [Tm.countL];split
  ·have h1:=Vi t (m - n);have h2:=countL_le l (n+t.count (m - n)) m;omega
  ·omega
end
theorem AhU:∀(n:Nat) (t:Tm) (most:Int),t.wt<n→most≤4611686018427387904→-4611686018427387904≤most→Bc (SS dt n 33 [.fv t.enc,iv most] ⟨[],[]⟩) (.int .i64 (t.count most)):=by
 intro n
 induction n with
 | zero=>intro t most h;omega
 | succ n ih =>
  intro t most h hm hm';obtain ⟨op,m,ks⟩:=t;simp only [Tm.wt] at h;rw [c33,Ai];simp only [PM,Oy,P2,Ox,S33,↓XX,XY,↓reduceIte,Nat.reduceBEq,Nat.reduceAdd,Int.reduceEq,Int.reduceLT,Int.reduceLE,Tm.count];refine A6 (Q:=fun r=>Bc r _) (fun k V H=>∃rest pre acc,ks=pre++rest∧rest.length=k∧(pre.length:Int)<acc∧(acc≤1∨acc≤most)∧V=[iv most,.ptr (.own 34603008) 0,iv acc,iv pre.length] ∧
   H=⟨[(34603008,.row [iv op,iv m,.fv (.sl (ks.map Tm.enc))] false)],[]⟩∧Tm.countL rest acc most=Tm.countL ks 1 most) ?_ n ks.length _ _ (by have:=Db ks;omega) ⟨ks,[],1,rfl,rfl,by simp,.inl (by omega),rfl,rfl,rfl⟩
  rintro k V H rec ⟨rest,pre,acc,hk,hl,hpre,hacc,rfl,rfl,ht⟩ hrec;have hlen:ks.length=pre.length+rest.length:=by rw [hk];simp
  cases rest with
  | nil =>
   rw [← ht];simp only [PM,Oy,P2,Ox,UY,S33,↓XX,XY,↓reduceIte,Nat.reduceBEq,Nat.reduceAdd,Int.reduceEq,Int.reduceLT,Int.reduceLE,List.length_map,show ¬ ((pre.length:Int)<ks.length) by simp [hlen],Tm.countL]
   exact Ao _ _
  | cons t rest =>
   have hi:(pre.length:Int)<ks.length:=by rw [hlen];simp;omega
   by_cases ha:acc<most
   ·have hg:=Ce hk;obtain ⟨o,p,l⟩:=t;have hb:=Vi (.mk o p l) (most - acc);have hc:=ih (.mk o p l) (most - acc) (by have:=BN (t:=.mk o p l) (l:=ks) (by rw [hk];simp);omega) (by omega) (by omega);rw [Ai] at hc;simp only [PM,Oy,P2,Ox,UY,S33,↓XX,XY,↓reduceIte,Nat.reduceBEq,Nat.reduceAdd,Int.reduceEq,Int.reduceLT,Int.reduceLE,List.length_map,hi,ha,↓Bq (AO hg) (A9 _ _ _),↓Cb,As (show -9223372036854775808≤most - acc by omega) (show most - acc≤9223372036854775807 by omega),↓Ag hc,
     As (show -9223372036854775808≤acc+(Tm.mk o p l).count (most - acc) by omega) (show acc+(Tm.mk o p l).count (most - acc)≤9223372036854775807 by omega),As (show -9223372036854775808≤(pre.length:Int)+1 by omega) (show (pre.length:Int)+1≤9223372036854775807 by omega)]
    simp only [AwT] at hl;refine hrec rest.length _ _ (by omega) ?_;refine ⟨rest,pre++[.mk o p l],acc+(Tm.mk o p l).count (most - acc),by rw [hk];simp,rfl,by simp;omega,.inr (by omega),by simp,rfl,?_⟩;rw [← ht];simp only [Tm.countL,if_pos ha]
   ·rw [← ht];simp only [PM,Oy,P2,Ox,UY,S33,↓XX,XY,↓reduceIte,Nat.reduceBEq,Nat.reduceAdd,Int.reduceEq,Int.reduceLT,Int.reduceLE,List.length_map,hi,ha,Tm.countL];exact Ao _ _
theorem JW {n:Nat} (t:Tm) (h:t.wt<n):Bc (SS dt (n+1) 12 [.fv t.enc] ⟨[],[]⟩) (.bool (decide (t.count 300<300))):=by
 rw [c12];have hc:=AhU n t 300 h (by omega) (by omega);obtain ⟨op,m,ks⟩:=t;rw [Ai] at hc ⊢;simp only [S12,↓XX,XY,↓reduceIte,Nat.reduceBEq,Nat.reduceAdd,Int.reduceEq,Int.reduceLT,Int.reduceLE,↓Ag hc];exact Ao _ _
def Tm.plainT:Nat→Tm→Tm
 | 0,_=>.mk 15 0 []
 | d+1,r=>if r.n % 4<2 then .mk 15 0 [] else .mk (16+r.n % 4 - 2) 0 [plainT d (r.pick 0),plainT d (r.pick 1)]
theorem Ra:∀(d n:Nat) (r:Tm),d+1<n→d≤1000→Bc (SS dt n 34 [.fv r.enc,iv d] ⟨[],[]⟩) (r.plainT d).enc:=by
 intro d
 induction d with
 | zero =>
  intro n r hn _;obtain ⟨n,rfl⟩:∃k,n=k+1:=⟨n - 1,by omega⟩;rw [c34];have hw:=Ar (n:=n) (by omega) r.n (m:=4) (by omega) (by omega);obtain ⟨op,m,ks⟩:=r;rw [Ai];simp only [Tm.n] at hw;simp only [SR,T5,Tf,Ue,UA,UE,Rq,S34,↓XX,XY,↓reduceIte,Nat.reduceBEq,Nat.reduceAdd,Int.reduceEq,Int.reduceLT,Int.reduceLE,↓Ag hw,↓Ag (Fg (n:=n) (by omega) 15),Tm.plainT,Ai];exact Bh rfl _
 | succ d ih =>
  intro n r hn hd;obtain ⟨n,rfl⟩:∃k,n=k+1:=⟨n - 1,by omega⟩;rw [c34];have hw:=Ar (n:=n) (by omega) r.n (m:=4) (by omega) (by omega);have h0:=ih n (r.pick 0) (by omega) (by omega);have h1:=ih n (r.pick 1) (by omega) (by omega);have p0:=AP (n:=n) (by omega) r 0;have p1:=AP (n:=n) (by omega) r 1;have ht:=C6 (n:=n) (by omega) (16+r.n % 4 - 2) [(r.pick 0).plainT d,(r.pick 1).plainT d];have hb0:¬ ((d+1:Nat):Int)≤0:=by omega
  have hm:BI (((d+1:Nat):Int) - 1)=d:=by rw [As]<;>omega
  have hr:=Int.emod_nonneg r.n (show (4:Int)≠0 by decide)
  have hr2:=Int.emod_lt_of_pos r.n (show (0:Int)<4 by decide)
  have e1:BI (16+r.n % 4)=16+r.n % 4:=by rw [As]<;>omega
  have e2:BI (16+r.n % 4 - 2)=16+r.n % 4 - 2:=by rw [As]<;>omega
  simp only [AwV,AwU] at ht;rw [Tm.plainT];obtain ⟨op,m,ks⟩:=r;rw [Ai] at p0 p1 ⊢;simp only [Tm.n] at *;by_cases hk:m % 4<2
  ·simp only [SR,T5,Tf,Ue,UA,UE,Rq,S34,↓XX,XY,↓reduceIte,Nat.reduceBEq,Nat.reduceAdd,Int.reduceEq,Int.reduceLT,Int.reduceLE,↓Ag hw,Tm.n,↓Ag (Fg (n:=n) (by omega) 15),hb0,hk,Ai];exact Bh rfl _
  ·simp only [SR,T5,Tf,Ue,UA,UE,Rq,S34,↓XX,XY,↓reduceIte,Nat.reduceBEq,Nat.reduceAdd,Int.reduceEq,Int.reduceLT,Int.reduceLE,↓Ag hw,hb0,hk,e1,e2,hm,↓Ag p0,↓Ag p1,↓Ag h0,↓Ag h1,↓AmF,↓Ag ht];simp only [↓XX,XY,↓reduceIte,Nat.reduceBEq,Nat.reduceAdd,Int.reduceEq,Int.reduceLT,Int.reduceLE,Ai];exact Bh rfl _
theorem Ir:∀(d:Nat) (r:Tm),(r.plainT d).wt≤2 ^ (d+1) - 1
 | 0,r=>by simp [Tm.plainT,Tm.wt,Tm.wtL]
 | d+1,r=>by
  have h1:=Ir d (r.pick 0);have h2:=Ir d (r.pick 1);have h3:0<2 ^ (d+1):=Nat.pow_pos (by decide);simp only [Tm.plainT];split
  ·simp only [Tm.wt,Tm.wtL,Nat.pow_succ] at *;omega
  ·simp only [Tm.wt,Tm.wtL,Nat.pow_succ] at *;omega
theorem CI {op n:Int} {k:Nat} (h:ar op=some 0) (h1:op≠1) (hn:BS op n):(Tm.mk op n []).sc k:=by
 rw [Tm.sc];exact ⟨h,by rw [if_neg h1];exact hn,trivial⟩
theorem El {op n:Int} {k:Nat} {a:Tm} (h:ar op=some 1) (h1:op≠1) (hn:BS op n) (ha:a.sc (k+Ae op 0)):(Tm.mk op n [a]).sc k:=by
 rw [Tm.sc];exact ⟨h,by rw [if_neg h1];exact hn,ha,trivial⟩
theorem B9 {op n:Int} {k:Nat} {a b:Tm} (h:ar op=some 2) (h1:op≠1) (hn:BS op n) (ha:a.sc (k+Ae op 0)) (hb:b.sc (k+Ae op 1)):(Tm.mk op n [a,b]).sc k:=by
 rw [Tm.sc];exact ⟨h,by rw [if_neg h1];exact hn,ha,hb,trivial⟩
theorem R5 {op n:Int} {k:Nat} {a b c:Tm} (h:ar op=some 3) (h1:op≠1) (hn:BS op n) (ha:a.sc (k+Ae op 0)) (hb:b.sc (k+Ae op 1)) (hc:c.sc (k+Ae op 2)):(Tm.mk op n [a,b,c]).sc k:=by
 rw [Tm.sc];exact ⟨h,by rw [if_neg h1];exact hn,ha,hb,hc,trivial⟩
theorem ApH {op n:Int} {k:Nat} {a b c d:Tm} (h:ar op=some 4) (h1:op≠1) (hn:BS op n) (ha:a.sc (k+Ae op 0)) (hb:b.sc (k+Ae op 1)) (hc:c.sc (k+Ae op 2)) (hd:d.sc (k+Ae op 3)):(Tm.mk op n [a,b,c,d]).sc k:=by
 rw [Tm.sc];exact ⟨h,by rw [if_neg h1];exact hn,ha,hb,hc,hd,trivial⟩
theorem AhY {n:Int} {k:Nat} (h:0≤n) (h2:n<k):(Tm.mk 1 n []).sc k:=by
 rw [Tm.sc];exact ⟨by decide,by rw [if_pos rfl];exact ⟨h,h2⟩,trivial⟩
theorem Bs {op:Int} (h2:op≠2) (h26:op≠26) (h25:op≠25):BS op 0:=by
 rw [BS,if_neg h2,if_neg h26,if_neg h25]
theorem Aot (k:Nat):Tm.z.sc k:=CI (by decide) (by decide) (Bs (by decide) (by decide) (by decide))
theorem AfL (k:Nat):∀n,(HN n).sc k
 | 0=>CI (by decide) (by decide) (Bs (by decide) (by decide) (by decide))
 | n+1=>El (by decide) (by decide) (Bs (by decide) (by decide) (by decide)) (AfL _ n)
theorem II (k:Nat):∀(d:Nat) (r:Tm),(r.plainT d).sc k
 | 0,r=>by rw [Tm.plainT];exact CI (by decide) (by decide) (Bs (by decide) (by decide) (by decide))
 | d+1,r=>by
  have h1:=Int.emod_nonneg r.n (show (4:Int)≠0 by decide)
  have h2:=Int.emod_lt_of_pos r.n (show (0:Int)<4 by decide)
  rw [Tm.plainT];split
  ·exact CI (by decide) (by decide) (Bs (by decide) (by decide) (by decide))
  ·have h3:16+r.n % 4 - 2=16∨16+r.n % 4 - 2=17:=by omega
   rcases h3 with h3 | h3<;>(rw [h3];exact B9 (by decide) (by decide) (Bs (by decide) (by decide) (by decide)) (II _ d _) (II _ d _))
mutual
theorem Vv:∀t:Tm,t.dp≤t.wt
 | .mk op n l=>by
  have:=dpL_wt l
  simp only [Tm.dp,Tm.wt];omega
theorem dpL_wt:∀l:List Tm,Tm.dpL l≤Tm.wtL l
 | []=>by simp [Tm.dpL]
 | t::l=>by
  have h1:=Vv t;have h2:=dpL_wt l;simp only [Tm.dpL,Tm.wtL];omega
end
abbrev Ci:=List (Int×Tm)
def v1 (p:Int×Tm):FV:=.agg [.int .i64 p.1,.int .i64 p.2.op,.int .i64 p.2.n,.sl (p.2.kids.map Tm.enc)]
def Bm (g:Ci):FV:=.sl (g.map v1)
structure GOk (e:Nat) (g:Ci):Prop where
 len:g.length+2 * e≤60
 ok:∀(i:Nat) (p:Int×Tm),g[i]?=some p→p.2.sc i∧p.2.wt≤100000000000∧p.2.dp≤6000
theorem AT {e e':Nat} {g:Ci} (h:e'≤e) (hg:GOk e g):GOk e' g:=⟨by have:=hg.len;omega,hg.ok⟩
theorem CC {e:Nat} {g:Ci} {s:Int} {a:Tm} (hg:GOk (e+1) g) (h1:a.sc g.length) (h2:a.wt≤100000000000) (h3:a.dp≤6000):GOk e (g++[(s,a)]):=by
 refine ⟨by have:=hg.len;simp;omega,?_⟩;intro i p hp;by_cases hi:i<g.length
 ·rw [List.getElem?_append_left hi] at hp;exact hg.ok i p hp
 ·rw [List.getElem?_append_right (by omega)] at hp;have hi2:i - g.length=0:=by
   cases h:i - g.length with
   | zero=>rfl
   | succ j=>rw [h] at hp;simp at hp
  rw [hi2] at hp;simp only [List.getElem?_cons_zero,AwP] at hp;subst hp;rw [show i=g.length by omega]
  exact ⟨h1,h2,h3⟩
def Wg (e:Nat):Nat:=8000 * 4 ^ e
def Dg (e:Nat):Nat:=200+10 * e
theorem Nu (e:Nat):Wg (e+1)=4 * Wg e:=by unfold Wg;rw [Nat.pow_succ];omega
theorem Nz (e:Nat):8000≤Wg e:=by
 have:1≤4 ^ e:=Nat.one_le_pow _ _ (by decide)
 unfold Wg;omega
theorem U4 {e e':Nat} (h:e≤e'):Wg e≤Wg e':=by
 unfold Wg;exact Nat.mul_le_mul_left _ (Nat.pow_le_pow_right (by decide) h)
theorem OM {e:Nat} (h:e≤10):Wg e≤21000000000:=Nat.le_trans (U4 h) (by decide)
structure TOk (k e:Nat) (t:Tm):Prop where
 sc:t.sc k
 wt:t.wt≤Wg e
 dp:t.dp≤Dg e
theorem Wa {k e e':Nat} {t:Tm} (h:e≤e') (ht:TOk k e t):TOk k e' t:=⟨ht.sc,Nat.le_trans ht.wt (U4 h),by have:=ht.dp;unfold Dg at *;omega⟩
structure AOk (k:Nat) (a:Tm):Prop where
 sc:a.sc k
 wt:a.wt≤1000000000000000
 dp:a.dp≤10000
structure NOk (k:Nat) (a:Tm):Prop where
 sc:a.sc k
 wt:a.wt≤3000
 dp:a.dp≤120
theorem BD {k:Nat} {a:Tm} (h:NOk k a):AOk k a:=⟨h.sc,by have:=h.wt;omega,by have:=h.dp;omega⟩
def Tm.badR:Tm→Bool
 | .mk op _ [_,z,_,_]=>decide (op=13) && (decide (z.op=19) || z.badR)
 | _=>false
theorem AkU {t:Tm} (h:t.badR=true):t.op=13:=by
 unfold Tm.badR at h;split at h
 ·rename_i he;simp only [Bool.and_eq_true,decide_eq_true_eq] at h;exact h.1
 ·cases h
def ArK (op n:Int) (ks:List Tm):Prop :=
 ar op=some ks.length∧(op=1→0≤n∧n≤1000000)∧(op=13→n=0)∧(op=5→∃m a b x,ks=[.mk 4 m [a,b],x])∧(op=8∨op=9→∃m a x y,ks=[.mk 7 m [a,x,y]]) ∧
 (op=19→∀x∈ks,x.op≠19∧x.op≠13)∧(op=30→∀x∈ks,x.op≠30)∧(op=13→∀a b c d,ks=[a,b,c,d]→b.op≠30∧(d.op≠19∧d.op≠30)∧d.badR=false)
mutual
def Tm.good:Tm→Prop
 | .mk op n ks=>ArK op n ks∧Tm.goodL ks
def Tm.goodL:List Tm→Prop
 | []=>True
 | t::l=>t.good∧Tm.goodL l
end
theorem QY:∀{l:List Tm} {t:Tm},Tm.goodL l→t∈l→t.good
 | x::l,t,h,hm=>by
  rw [Tm.goodL] at h;rcases List.mem_cons.1 hm with rfl | hm
  ·exact h.1
  ·exact QY h.2 hm
theorem Fj (ev:Int→Int→Tm→Option (RV×Int×Int)) (hev:∀s e t v s',ev s e t=some (v,s',0)→e=0) (op:Int) (env:List RV):∀(l:List Tm) (i:Nat) (s e:Int) (vs:List RV) (s':Int),AR ev op env i l s e=some (vs,s',0)→e=0
 | [],i,s,e,vs,s',h=>by
  simp only [AR,AwP,AwQ] at h;exact h.2.2
 | t::l,i,s,e,vs,s',h=>by
  simp only [AR] at h;split at h
  ·cases hk:AR ev op env (i+1) l s e with
   | none=>rw [hk] at h;cases h
   | some q =>
    obtain ⟨vs1,s1,e1⟩:=q;rw [hk] at h;simp only [AwS,AwP,AwQ] at h;rw [h.2.2] at hk;exact Fj ev hev op env l _ _ _ _ _ hk
  ·split at h
   ·cases h
   ·rename_i v s1 e1 he;cases hk:AR ev op env (i+1) l s1 e1 with
    | none=>rw [hk] at h;cases h
    | some q =>
     obtain ⟨vs2,s2,e2⟩:=q;rw [hk] at h;simp only [AwS,AwP,AwQ] at h;rw [h.2.2] at hk
     have:=Fj ev hev op env l _ _ _ _ _ hk
     rw [this] at he;exact hev _ _ _ _ _ he
theorem B4 {f:Nat} {s e:Int} {t:Tm} {env:List RV} {v:RV} {s':Int} (h:Au f s e t env=some (v,s',0)):e=0:=by
 cases f with
 | zero=>rw [Au] at h;cases h
 | succ f =>
  obtain ⟨op,n,ks⟩:=t;rw [Au] at h;by_cases he:e=0
  ·exact he
  ·rw [if_pos he] at h;simp only [AwP,AwQ] at h;exact h.2.2
theorem F9 {f:Nat} {s e:Int} {w v:RV} {s':Int} (h:headR f s e w=some (v,s',0)):e=0:=by
 cases f with
 | zero=>rw [headR] at h;cases h
 | succ f =>
  rw [headR] at h;by_cases he:e=0
  ·exact he
  ·rw [if_pos he] at h;simp only [AwP,AwQ] at h;exact h.2.2
theorem Cf {α:Type} {l:List α} (h:l.length=1):∃a,l=[a]:=by
 match l,h with
 | [a],_=>exact ⟨a,rfl⟩
theorem MK {α:Type} {l:List α} (h:l.length=2):∃a b,l=[a,b]:=by
 match l,h with
 | [a,b],_=>exact ⟨a,b,rfl⟩
theorem AiS {α:Type} {l:List α} (h:l.length=3):∃a b c,l=[a,b,c]:=by
 match l,h with
 | [a,b,c],_=>exact ⟨a,b,c,rfl⟩
theorem OO {α:Type} {l:List α} (h:l.length=4):∃a b c d,l=[a,b,c,d]:=by
 match l,h with
 | [a,b,c,d],_=>exact ⟨a,b,c,d,rfl⟩
theorem AdC {f:Nat} {s s2 m:Int} {a b:Tm} {env:List RV} {r:RV} (h:Au f s 0 (.mk 4 m [a,b]) env=some (r,s2,0)):∃va,r=.node 4 m [va,.clo env b]:=by
 cases f with
 | zero=>rw [Au] at h;cases h
 | succ f =>
  rw [Au] at h;rw [if_neg (by simp)] at h;split at h
  ·cases h
  rw [if_neg (by decide)] at h;split at h
  ·cases h
  split at h
  ·cases h
  split at h
  ·cases h
  rename_i vs s1 e1 hk;have he:=F9 h;subst he;simp only [AR] at hk;rw [if_neg (by decide)] at hk;split at hk
  ·cases hk
  rename_i va s3 e3 hva;rw [if_pos (by decide)] at hk;simp only [AwS,AwP,AwQ] at hk;obtain ⟨rfl,rfl,rfl⟩:=hk;cases f with
  | zero=>rw [headR] at h;cases h
  | succ f =>
   rw [headR] at h;rw [if_neg (by simp)] at h;split at h
   ·cases h
   have hop:(RV.node 4 m [va,.clo env b]).op=4:=rfl;rw [hop,if_neg (by decide),if_neg (by decide),if_neg (by decide),if_neg (by decide),if_neg (by decide)] at h;simp only [AwP,AwQ] at h;exact ⟨va,h.1.symm⟩
theorem AhX {f:Nat} {s s2 m:Int} {a x y:Tm} {env:List RV} {r:RV} (h:Au f s 0 (.mk 7 m [a,x,y]) env=some (r,s2,0)):∃va vx vy,r=.node 7 m [va,vx,vy]:=by
 cases f with
 | zero=>rw [Au] at h;cases h
 | succ f =>
  rw [Au] at h;rw [if_neg (by simp)] at h;split at h
  ·cases h
  rw [if_neg (by decide)] at h;split at h
  ·cases h
  split at h
  ·cases h
  split at h
  ·cases h
  rename_i vs s1 e1 hk;have he:=F9 h;subst he;have hl:∃va vx vy,vs=[va,vx,vy]:=by
   simp only [AR] at hk;rw [if_neg (by decide)] at hk;split at hk
   ·cases hk
   rename_i va s3 e3 hva;rw [if_neg (by decide)] at hk;split at hk
   ·cases hk
   rename_i vx s4 e4 hvx;rw [if_neg (by decide)] at hk;split at hk
   ·cases hk
   rename_i vy s5 e5 hvy;simp only [AwS,AwP,AwQ] at hk;exact ⟨va,vx,vy,hk.1.symm⟩
  obtain ⟨va,vx,vy,rfl⟩:=hl;cases f with
  | zero=>rw [headR] at h;cases h
  | succ f =>
   rw [headR] at h;rw [if_neg (by simp)] at h;split at h
   ·cases h
   have hop:(RV.node 7 m [va,vx,vy]).op=7:=rfl;rw [hop,if_neg (by decide),if_neg (by decide),if_neg (by decide),if_neg (by decide),if_neg (by decide)] at h;simp only [AwP,AwQ] at h;exact ⟨va,vx,vy,h.1.symm⟩
theorem Cr {f:Nat} {s nd e:Int} {v:RV} {u d:Int} {t:Tm} {s' nd':Int} (h:AS f s nd e v u d=some (t,s',nd',0)):e=0:=by
 cases f with
 | zero=>rw [AS] at h;cases h
 | succ f =>
  rw [AS] at h;split at h
  ·cases h
  by_cases he:e=0
  ·exact he
  ·rw [if_neg (show ¬ (e=0∧(3000<nd+1∨120<d)) from fun h=>he h.1),if_pos he] at h
   simp only [AwP,AwQ] at h;exact h.2.2.2
abbrev OU:=List (List Nat×Nat)
inductive Rule:Int→Nat→OU→Prop
 | natT:Rule 10 10 []
 | natU:Rule 10 2 []
 | tyT:Rule 14 11 []
 | tyU:Rule 14 2 []
 | uT:Rule 2 12 []
 | uU:Rule 2 2 []
 | liftT:Rule 18 13 [([],1)]
 | liftU:Rule 18 2 [([],1)]
 | piT (a b:Nat) (ha:a<6) (hb:b<6):Rule 3 14 [([],10+a),([a],10+b)]
 | piU (a:Nat) (ha:a<10):Rule 3 2 [([],2),([a],2)]
 | sigT (a b:Nat) (ha:a<6) (hb:b<6):Rule 6 15 [([],10+a),([a],10+b)]
 | sigU (a s0 s1:Nat) (ha:a<10):Rule 6 2 [([],s0),([a],s1)]
 | lam (a s s0:Nat) (ha:a<10):Rule 4 4 [([],s0),([a],s)]
 | pair (s0 s1 s2:Nat):Rule 7 5 [([],s0),([],s1),([],s2)]
 | zero:Rule 11 0 []
 | suc:Rule 12 0 [([],0)]
 | recR (s:Nat) (hs:s<6):Rule 13 s [([0],10+s),([],s),([s,0],s),([],0)]
 | tint:Rule 15 1 []
 | tfun:Rule 16 1 [([],1),([],1)]
 | tpro:Rule 17 1 [([],1),([],1)]
 | quo:Rule 19 3 [([],6)]
 | spl:Rule 30 6 [([],3)]
 | olam:Rule 20 6 [([],1),([6],6)]
 | oapp:Rule 21 6 [([],6),([],6)]
 | opair:Rule 22 6 [([],6),([],6)]
 | ofst:Rule 23 6 [([],6)]
 | osnd:Rule 24 6 [([],6)]
 | oint:Rule 25 6 []
 | oprim:Rule 26 6 [([],6),([],6)]
 | oif:Rule 27 6 [([],6),([],6),([],6)]
 | olet:Rule 28 6 [([],6),([6],6)]
 | ofix:Rule 29 6 [([],1),([6],6)]
theorem HI {op:Int} {s:Nat} {sg:OU} (h:Rule op s sg):op≠1∧op≠5∧op≠8∧op≠9:=by
 cases h<;>decide
theorem Hf {op:Int} {s:Nat} {sg:OU} (h:Rule op s sg) {i:Nat} {bs:List Nat} {s':Nat} (hi:sg[i]?=some (bs,s')):bs.length=Ae op i∧∀x∈bs,x<10:=by
 have hlt:=(List.getElem?_eq_some_iff.1 hi).1;have h4:i<4:=by cases h<;>simp only [AwT,List.length_nil] at hlt<;>omega
 have hi4:i=0∨i=1∨i=2∨i=3:=by omega
 cases h<;>rcases hi4 with rfl | rfl | rfl | rfl<;>simp only [List.getElem?_cons_zero,List.getElem?_cons_succ,List.getElem?_nil,AwP,AwQ,reduceCtorEq] at hi<;>(obtain ⟨rfl,rfl⟩:=hi;refine ⟨rfl,?_⟩;simp;try omega)
inductive HasT:List Nat→Tm→Nat→Prop
 | var (G:List Nat) (n:Int) (s:Nat) (h0:0≤n) (h:G[n.toNat]?=some s) (hs:s<10):HasT G (.mk 1 n []) s
 | node (G:List Nat) (op n:Int) (ks:List Tm) (s:Nat) (sg:OU) (hr:Rule op s sg) (hl:ks.length=sg.length) (hk:∀(i:Nat) t bs s',ks[i]?=some t→sg[i]?=some (bs,s')→HasT (bs++G) t s'):HasT G (.mk op n ks) s
 | app (G:List Nat) (n m:Int) (a b x:Tm) (y s s0:Nat) (hs:s<10) (hy:y<10) (ha:HasT G a s0) (hb:HasT (y::G) b s) (hx:HasT G x y):HasT G (.mk 5 n [.mk 4 m [a,b],x]) s
 | fst (G:List Nat) (n m:Int) (a x y:Tm) (s s1 s0:Nat) (hs:s<10) (ha:HasT G a s0) (hx:HasT G x s) (hy:HasT G y s1):HasT G (.mk 8 n [.mk 7 m [a,x,y]]) s
 | snd (G:List Nat) (n m:Int) (a x y:Tm) (s s1 s0:Nat) (hs:s<10) (ha:HasT G a s0) (hx:HasT G x s1) (hy:HasT G y s):HasT G (.mk 9 n [.mk 7 m [a,x,y]]) s
theorem Hi (op d c:Int):∀(l:List Tm) (i j:Nat),(Tm.shiftL op i l d c)[j]?=(l[j]?).map fun t=>t.shift d (c+Ae op (i+j))
 | [],_,_=>by simp [Tm.shiftL]
 | t::l,i,0=>by simp [Tm.shiftL]
 | t::l,i,j+1=>by
  simp only [Tm.shiftL,List.getElem?_cons_succ];rw [Hi op d c l (i+1) j,show i+1+j=i+(j+1) by omega]
theorem Px (op n d:Int) (u:Tm):∀(l:List Tm) (i j:Nat),(Tm.substL op i l n d u)[j]?=(l[j]?).map fun t=>t.subst (n+Ae op (i+j)) (d+Ae op (i+j)) u
 | [],_,_=>by simp [Tm.substL]
 | t::l,i,0=>by simp [Tm.substL]
 | t::l,i,j+1=>by
  simp only [Tm.substL,List.getElem?_cons_succ];rw [Px op n d u l (i+1) j,show i+1+j=i+(j+1) by omega]
theorem HO:∀{l:List Tm} {j:Nat} {t:Tm},l[j]?=some t→t.wt≤Tm.wtL l
 | [],_,_,h=>by simp at h
 | x::l,0,t,h=>by
  simp only [List.getElem?_cons_zero,AwP] at h;subst h;simp only [Tm.wtL];omega
 | x::l,j+1,t,h=>by
  simp only [List.getElem?_cons_succ] at h
  have:=HO h
  simp only [Tm.wtL];omega
theorem Akr {G1 D G2:List Nat} {n:Nat} (h:G1.length≤n):(G1++D++G2)[n+D.length]?=(G1++G2)[n]?:=by
 rw [List.append_assoc,List.getElem?_append_right (by omega),List.getElem?_append_right (by omega),List.getElem?_append_right h];congr 1;omega
theorem Aj4 {G1 D G2:List Nat} {n:Nat} (h:n<G1.length):(G1++D++G2)[n]?=(G1++G2)[n]?:=by
 rw [List.append_assoc,List.getElem?_append_left h,List.getElem?_append_left h]
theorem WO {G:List Nat} {t:Tm} {s:Nat} (h:HasT G t s):∀(G1 D G2:List Nat),G=G1++G2→G1.length+G2.length+D.length+2 * t.wt≤9000000000000000000→HasT (G1++D++G2) (t.shift D.length G1.length) s:=by
 induction h with
 | var G n s h0 h hs =>
  intro G1 D G2 hG hb;subst hG;have hn:n.toNat<(G1++G2).length:=(List.getElem?_eq_some_iff.1 h).1;rw [List.length_append] at hn;rw [Tm.shift,Tm.shiftL];by_cases hc:(G1.length:Int)≤n
  ·rw [if_pos ⟨rfl,hc⟩,As (by omega) (by omega)];refine HasT.var _ _ _ (by omega) ?_ hs;rw [show (n+(D.length:Int)).toNat=n.toNat+D.length by omega,Akr (by omega)]
   exact h
  ·rw [if_neg (fun h=>hc h.2)];refine HasT.var _ _ _ h0 ?_ hs;rw [Aj4 (by omega)];exact h
 | node G op n ks s sg hr hl hk ih =>
  intro G1 D G2 hG hb;rw [Tm.shift,if_neg (fun h=>(HI hr).1 h.1)];refine HasT.node _ _ _ _ _ sg hr (by rw [Ew];exact hl) ?_;intro i t bs s' ht hs;rw [Hi,Nat.zero_add] at ht;cases hx:ks[i]? with
  | none=>rw [hx] at ht;cases ht
  | some x =>
   rw [hx] at ht;simp only [AwS,AwP] at ht;subst ht;have h1:=Hf hr hs;have h2:=AU op i;have h3:=HO hx;simp only [Tm.wt] at hb
   have:=ih i x bs s' hx hs (bs++G1) D G2 (by rw [hG,List.append_assoc]) (by rw [List.length_append];omega)
   rw [List.length_append,h1.1] at this;rw [show (G1.length:Int)+(Ae op i:Int)=((Ae op i+G1.length:Nat):Int) by omega]
   simpa using this
 | app G n m a b x y s s0 hs hy ha hb hx iha ihb ihx =>
  intro G1 D G2 hG hbd;simp only [Tm.wt,Tm.wtL] at hbd;have h1:=iha G1 D G2 hG (by omega);have h2:=ihb (y::G1) D G2 (by rw [hG];rfl) (by simp only [AwT];omega);have h3:=ihx G1 D G2 hG (by omega);simp only [Tm.shift,Tm.shiftL];rw [if_neg (by omega),if_neg (by omega)];refine HasT.app _ _ _ _ _ _ y s s0 hs hy ?_ ?_ ?_
  ·simpa [Ae] using h1
  ·simpa [Ae] using h2
  ·simpa [Ae] using h3
 | fst G n m a x y s s1 s0 hs ha hx hy iha ihx ihy =>
  intro G1 D G2 hG hbd;simp only [Tm.wt,Tm.wtL] at hbd;have h1:=iha G1 D G2 hG (by omega);have h2:=ihx G1 D G2 hG (by omega);have h3:=ihy G1 D G2 hG (by omega);simp only [Tm.shift,Tm.shiftL];rw [if_neg (by omega),if_neg (by omega)];refine HasT.fst _ _ _ _ _ _ s s1 s0 hs ?_ ?_ ?_
  ·simpa [Ae] using h1
  ·simpa [Ae] using h2
  ·simpa [Ae] using h3
 | snd G n m a x y s s1 s0 hs ha hx hy iha ihx ihy =>
  intro G1 D G2 hG hbd;simp only [Tm.wt,Tm.wtL] at hbd;have h1:=iha G1 D G2 hG (by omega);have h2:=ihx G1 D G2 hG (by omega);have h3:=ihy G1 D G2 hG (by omega);simp only [Tm.shift,Tm.shiftL];rw [if_neg (by omega),if_neg (by omega)];refine HasT.snd _ _ _ _ _ _ s s1 s0 hs ?_ ?_ ?_
  ·simpa [Ae] using h1
  ·simpa [Ae] using h2
  ·simpa [Ae] using h3
theorem N9 {G:List Nat} {t:Tm} {s:Nat} (h:HasT G t s) (D:List Nat) (hb:G.length+D.length+2 * t.wt≤9000000000000000000):HasT (D++G) (t.shift D.length 0) s:=by
 have:=WO h [] D G rfl (by simp only [List.length_nil];omega)
 simpa using this
theorem W0 {G:List Nat} {t:Tm} {s:Nat} (h:HasT G t s):∀(G1 G2:List Nat) (y:Nat) (u:Tm),G=G1++y::G2→HasT G2 u y→G1.length+G2.length+2 * t.wt+2 * u.wt≤4000000000000000000→HasT (G1++G2) (t.subst G1.length G1.length u) s:=by
 induction h with
 | var G n s h0 h hs =>
  intro G1 G2 y u hG hu hb;subst hG;have hn:n.toNat<(G1++y::G2).length:=(List.getElem?_eq_some_iff.1 h).1;simp only [List.length_append,AwT] at hn;rw [Tm.subst,if_pos rfl];by_cases h1:n=(G1.length:Int)
  ·rw [if_pos h1];rw [show n.toNat=G1.length by omega,List.getElem?_append_right (Nat.le_refl _),Nat.sub_self] at h
   simp only [List.getElem?_cons_zero,AwP] at h;subst h
   have:=N9 hu G1 (by omega)
   exact this
  ·rw [if_neg h1];by_cases h2:(G1.length:Int)<n
   ·rw [if_pos h2,As (by omega) (by omega)];refine HasT.var _ _ _ (by omega) ?_ hs;rw [List.getElem?_append_right (by omega)] at h ⊢;rw [show n.toNat - G1.length=((n - 1).toNat - G1.length)+1 by omega,List.getElem?_cons_succ] at h
    exact h
   ·rw [if_neg h2];refine HasT.var _ _ _ h0 ?_ hs;rw [List.getElem?_append_left (by omega)] at h ⊢;exact h
 | node G op n ks s sg hr hl hk ih =>
  intro G1 G2 y u hG hu hb;rw [Tm.subst,if_neg (HI hr).1];refine HasT.node _ _ _ _ _ sg hr (by rw [Hm];exact hl) ?_;intro i t bs s' ht hs;rw [Px,Nat.zero_add] at ht;cases hx:ks[i]? with
  | none=>rw [hx] at ht;cases ht
  | some x =>
   rw [hx] at ht;simp only [AwS,AwP] at ht;subst ht;have h1:=Hf hr hs;have h2:=AU op i;have h3:=HO hx;simp only [Tm.wt] at hb
   have:=ih i x bs s' hx hs (bs++G1) G2 y u (by rw [hG,List.append_assoc]) hu (by rw [List.length_append];omega)
   rw [List.length_append,h1.1] at this;rw [show (G1.length:Int)+(Ae op i:Int)=((Ae op i+G1.length:Nat):Int) by omega]
   simpa using this
 | app G n m a b x y s s0 hs hy ha hb hx iha ihb ihx =>
  intro G1 G2 z u hG hu hbd;simp only [Tm.wt,Tm.wtL] at hbd;have h1:=iha G1 G2 z u hG hu (by omega);have h2:=ihb (y::G1) G2 z u (by rw [hG];rfl) hu (by simp only [AwT];omega);have h3:=ihx G1 G2 z u hG hu (by omega);simp only [Tm.subst,Tm.substL];rw [if_neg (by omega),if_neg (by omega)];refine HasT.app _ _ _ _ _ _ y s s0 hs hy ?_ ?_ ?_
  ·simpa [Ae] using h1
  ·simpa [Ae] using h2
  ·simpa [Ae] using h3
 | fst G n m a x y s s1 s0 hs ha hx hy iha ihx ihy =>
  intro G1 G2 z u hG hu hbd;simp only [Tm.wt,Tm.wtL] at hbd;have h1:=iha G1 G2 z u hG hu (by omega);have h2:=ihx G1 G2 z u hG hu (by omega);have h3:=ihy G1 G2 z u hG hu (by omega);simp only [Tm.subst,Tm.substL];rw [if_neg (by omega),if_neg (by omega)];refine HasT.fst _ _ _ _ _ _ s s1 s0 hs ?_ ?_ ?_
  ·simpa [Ae] using h1
  ·simpa [Ae] using h2
  ·simpa [Ae] using h3
 | snd G n m a x y s s1 s0 hs ha hx hy iha ihx ihy =>
  intro G1 G2 z u hG hu hbd;simp only [Tm.wt,Tm.wtL] at hbd;have h1:=iha G1 G2 z u hG hu (by omega);have h2:=ihx G1 G2 z u hG hu (by omega);have h3:=ihy G1 G2 z u hG hu (by omega);simp only [Tm.subst,Tm.substL];rw [if_neg (by omega),if_neg (by omega)];refine HasT.snd _ _ _ _ _ _ s s1 s0 hs ?_ ?_ ?_
  ·simpa [Ae] using h1
  ·simpa [Ae] using h2
  ·simpa [Ae] using h3
def QT (op:Int):Option Nat:=if op=10 then some 0 else if op=14 then some 1 else if op=2 then some 2 else if op=18 then some 3 else if op=3 then some 4 else if op=6 then some 5 else none
theorem Alz {op:Int} {s:Nat} {sg:OU} (h:Rule op s sg) (hs:10≤s):QT op=some (s - 10)∧s<16:=by
 cases h<;>first | omega | exact ⟨rfl,by omega⟩
theorem Cn {G:List Nat} {t:Tm} {s:Nat} (h:HasT G t (10+s)):QT t.op=some s∧s<6:=by
 generalize hq:10+s=q at h;cases h with
 | node _ op n ks _ sg hr hl hk =>
  have:=Alz hr (by omega)
  rw [Tm.op,this.1];exact ⟨by congr 1;omega,by omega⟩
 | _=>omega
theorem L6 {G:List Nat} {t:Tm} {s:Nat} (h:HasT G t s):(s≠3→t.op≠19)∧(s≠6→t.op≠30):=by
 cases h with
 | var=>simp only [Tm.op];omega
 | node _ op n ks _ sg hr hl hk =>
  simp only [Tm.op];cases hr<;>refine ⟨?_,?_⟩<;>intro h1<;>first | decide | exact absurd rfl h1
 | app=>simp only [Tm.op];omega
 | fst=>simp only [Tm.op];omega
 | snd=>simp only [Tm.op];omega
theorem Vh:∀{l:List Tm},(∀(i:Nat) t,l[i]?=some t→t.good)→Tm.goodL l
 | [],_=>by rw [Tm.goodL];trivial
 | x::l,h=>by
  rw [Tm.goodL];exact ⟨h 0 x rfl,Vh fun i t hi=>h (i+1) t (by simpa using hi)⟩
theorem ZV {α:Type} {l:List α} {x:α} (h:x∈l):∃i:Nat,l[i]?=some x:=by
 obtain ⟨i,hi,he⟩:=List.mem_iff_getElem.1 h;exact ⟨i,by rw [List.getElem?_eq_getElem hi,he]⟩
theorem AgY {G:List Nat} {t:Tm} {s:Nat} (h:HasT G t s):t.op=13→s<6:=by
 intro ho;cases h with
 | var=>simp [Tm.op] at ho
 | node _ op n ks _ sg hr hl hk =>
  simp only [Tm.op] at ho;subst ho;cases hr with
  | recR s hs=>exact hs
 | app=>simp [Tm.op] at ho
 | fst=>simp [Tm.op] at ho
 | snd=>simp [Tm.op] at ho
theorem AjG {G:List Nat} {t:Tm} {s:Nat} (h:HasT G t s):t.badR=true→s=3:=by
 induction h with
 | var=>intro h;simp [Tm.badR] at h
 | node G op n ks s sg hr hl hk ih =>
  intro hb;unfold Tm.badR at hb;split at hb
  ·rename_i o n' a z c d he;simp only [Tm.mk.injEq] at he;obtain ⟨rfl,rfl,rfl⟩:=he;simp only [Bool.and_eq_true,Bool.or_eq_true,decide_eq_true_eq] at hb;obtain ⟨rfl,hb⟩:=hb;cases hr with
   | recR s hs =>
    rcases hb with hb | hb
    ·have:=(L6 (hk 1 z [] s rfl rfl)).1
     exact Decidable.byContradiction fun h=>this h hb
    ·exact ih 1 z [] s rfl rfl hb
  ·cases hb
 | app=>intro h;simp [Tm.badR] at h
 | fst=>intro h;simp [Tm.badR] at h
 | snd=>intro h;simp [Tm.badR] at h
theorem Hc {G:List Nat} {t:Tm} {s:Nat} (h:HasT G t s):∀k,t.sc k→k+2 * t.wt≤1000000→t.good:=by
 induction h with
 | var G n s h0 h hs =>
  intro k hsc hk;rw [Tm.sc,if_pos rfl] at hsc;rw [Tm.good,Tm.goodL];refine ⟨⟨rfl,fun _=>⟨h0,by simp only [Tm.wt,Tm.wtL] at hk;omega⟩,?_⟩,trivial⟩;exact ⟨by omega,by omega,by omega,by omega,by omega,by omega⟩
 | node G op n ks s sg hr hl hk ih =>
  intro k hsc hb;have h0:=hsc;rw [Tm.sc,if_neg (HI hr).1] at hsc;obtain ⟨h1,h2,h3⟩:=hsc;obtain ⟨o1,o5,o8,o9⟩:=HI hr;have hkid:∀(i:Nat) t,ks[i]?=some t→∃bs s',sg[i]?=some (bs,s'):=by
   intro i t hi
   have:i<sg.length:=by rw [← hl];exact (List.getElem?_eq_some_iff.1 hi).1
   exact ⟨_,_,List.getElem?_eq_getElem this⟩
  rw [Tm.good];refine ⟨⟨h1,fun h=>absurd h o1,?_,fun h=>absurd h o5,fun h=>by omega,?_,?_,?_⟩,Vh ?_⟩
  ·rintro rfl;simpa [BS] using h2
  ·rintro rfl x hx;obtain ⟨i,hi⟩:=ZV hx;cases hr;have hi0:i=0:=by
    have:=(List.getElem?_eq_some_iff.1 hi).1
    simp only [AwT,List.length_nil] at hl;omega
   subst hi0;have hx:=hk 0 x [] 6 hi rfl;exact ⟨(L6 hx).1 (by decide),fun h=>by have:=AgY hx h;omega⟩
  ·rintro rfl x hx;obtain ⟨i,hi⟩:=ZV hx;cases hr;have hi0:i=0:=by
    have:=(List.getElem?_eq_some_iff.1 hi).1
    simp only [AwT,List.length_nil] at hl;omega
   subst hi0;exact (L6 (hk 0 x [] 3 hi rfl)).2 (by decide)
  ·rintro rfl a b c d rfl;cases hr with
   | recR s hs =>
    have hb:=L6 (hk 1 b [] s rfl rfl);have hd:=L6 (hk 3 d [] 0 rfl rfl);refine ⟨hb.2 (by omega),⟨hd.1 (by decide),hd.2 (by decide)⟩,?_⟩;cases hbd:d.badR
    ·rfl
    ·have:=AjG (hk 3 d [] 0 rfl rfl) hbd
     omega
  ·intro i t hi;obtain ⟨bs,s',hs⟩:=hkid i t hi;have hw:=HO hi;have hbn:=AU op i;simp only [Tm.wt] at hb
   have:=JU h3 hi
   rw [Nat.zero_add] at this;exact ih i t bs s' hi hs _ this (by omega)
 | app G n m a b x y s s0 hs hy ha hb hx iha ihb ihx =>
  intro k hsc hbd;simp only [Tm.wt,Tm.wtL] at hbd;simp only [Tm.sc,Tm.scL] at hsc;obtain ⟨q1,q2,⟨q3,q4,q5,q6,_⟩,q7,_⟩:=hsc;simp only [show Ae 5 0=0 from rfl,show Ae 5 1=0 from rfl,show Ae 4 0=0 from rfl,show Ae 4 1=1 from rfl,Nat.zero_add] at q5 q6 q7
  have g1:=iha _ q5 (by omega);have g2:=ihb _ q6 (by omega);have g3:=ihx _ q7 (by omega);simp only [Tm.good,Tm.goodL];refine ⟨⟨rfl,by omega,by omega,fun _=>⟨m,a,b,x,rfl⟩,by omega,by omega,by omega,by omega⟩,⟨⟨rfl,by omega,by omega,by omega,by omega,by omega,by omega,by omega⟩,g1,g2,trivial⟩,g3,trivial⟩
 | fst G n m a x y s s1 s0 hs ha hx hy iha ihx ihy =>
  intro k hsc hbd;simp only [Tm.wt,Tm.wtL] at hbd;simp only [Tm.sc,Tm.scL] at hsc;obtain ⟨q1,q2,⟨q3,q4,q5,q6,q7,_⟩,_⟩:=hsc;simp only [show Ae 8 0=0 from rfl,show Ae 7 0=0 from rfl,show Ae 7 (0+1)=0 from rfl,show Ae 7 (0+1+1)=0 from rfl] at q5 q6 q7
  have g1:=iha _ q5 (by omega);have g2:=ihx _ q6 (by omega);have g3:=ihy _ q7 (by omega);simp only [Tm.good,Tm.goodL];refine ⟨⟨rfl,by omega,by omega,by omega,fun _=>⟨m,a,x,y,rfl⟩,by omega,by omega,by omega⟩,⟨⟨rfl,by omega,by omega,by omega,by omega,by omega,by omega,by omega⟩,g1,g2,g3,trivial⟩,trivial⟩
 | snd G n m a x y s s1 s0 hs ha hx hy iha ihx ihy =>
  intro k hsc hbd;simp only [Tm.wt,Tm.wtL] at hbd;simp only [Tm.sc,Tm.scL] at hsc;obtain ⟨q1,q2,⟨q3,q4,q5,q6,q7,_⟩,_⟩:=hsc;simp only [show Ae 9 0=0 from rfl,show Ae 7 0=0 from rfl,show Ae 7 (0+1)=0 from rfl,show Ae 7 (0+1+1)=0 from rfl] at q5 q6 q7
  have g1:=iha _ q5 (by omega);have g2:=ihx _ q6 (by omega);have g3:=ihy _ q7 (by omega);simp only [Tm.good,Tm.goodL];refine ⟨⟨rfl,by omega,by omega,by omega,fun _=>⟨m,a,x,y,rfl⟩,by omega,by omega,by omega⟩,⟨⟨rfl,by omega,by omega,by omega,by omega,by omega,by omega,by omega⟩,g1,g2,g3,trivial⟩,trivial⟩
def Xt (op:Int) (k:List RV):Prop:=(op=30→∀k0,k[0]?=some k0→k0.op≠19)∧(op=19→∀k0,k[0]?=some k0→k0.op≠30)∧(op=13→∀k3,k[3]?=some k3→k3.op≠11∧k3.op≠12)
def Ajr (op:Int) (k:List Tm):Prop:=(op=30→∀k0,k[0]?=some k0→k0.op≠19)∧(op=19→∀k0,k[0]?=some k0→k0.op≠30)∧(op=13→∀k3,k[3]?=some k3→k3.op≠11∧k3.op≠12)
inductive VT (G0:List Nat):List Nat→RV→Nat→Prop
 | var (L:List Nat) (n:Int) (s:Nat) (env:List RV) (b:Tm) (h:0≤n∧L[n.toNat]?=some s∨n<0∧G0[(-1 - n).toNat]?=some s) (hs:s<10):VT G0 L (.mk 1 n [] env b) s
 | node (L:List Nat) (op n:Int) (k env:List RV) (b:Tm) (s:Nat) (sg:OU) (D:Nat→List Nat) (hr:Rule op s sg) (hl:k.length=sg.length) (hst:Xt op k)
   (hk:∀(i:Nat) v s',k[i]?=some v→sg[i]?=some ([],s')→VT G0 L v s')
   (hc:∀(i:Nat) (v:RV) bs s',k[i]?=some v→sg[i]?=some (bs,s')→bs≠[]→(D i).length=v.env.length∧HasT (bs++(D i++G0)) v.b s')
   (he:∀(i:Nat) (v:RV) bs s' (j:Nat) x y,k[i]?=some v→sg[i]?=some (bs,s')→bs≠[]→v.env.reverse[j]?=some x→(D i)[j]?=some y→VT G0 L x y):VT G0 L (.mk op n k env b) s
structure NodeT (G0 L:List Nat) (op:Int) (k:List RV) (s:Nat) (sg:OU) (D:Nat→List Nat):Prop where
 hr:Rule op s sg
 hl:k.length=sg.length
 hk:∀(i:Nat) v s',k[i]?=some v→sg[i]?=some ([],s')→VT G0 L v s'
 hc:∀(i:Nat) (v:RV) bs s',k[i]?=some v→sg[i]?=some (bs,s')→bs≠[]→(D i).length=v.env.length∧HasT (bs++(D i++G0)) v.b s'
 he:∀(i:Nat) (v:RV) bs s' (j:Nat) x y,k[i]?=some v→sg[i]?=some (bs,s')→bs≠[]→v.env.reverse[j]?=some x→(D i)[j]?=some y→VT G0 L x y
theorem NZ {G0 L:List Nat} {op n:Int} {k:List RV} {s:Nat} {sg:OU} {D:Nat→List Nat} (h:NodeT G0 L op k s sg D) (hst:Xt op k):VT G0 L (.node op n k) s :=
 .node _ _ _ _ _ _ _ _ _ h.hr h.hl hst h.hk h.hc h.he
theorem X7 {G0 L:List Nat} {v:RV} {s:Nat} (h:VT G0 L v s) (h1:v.op≠1):Xt v.op v.k∧∃sg D,NodeT G0 L v.op v.k s sg D:=by
 cases h with
 | var=>exact absurd rfl h1
 | node op n k env b s sg D hr hl hst hk hc he=>exact ⟨hst,sg,D,hr,hl,hk,hc,he⟩
theorem AjC {G0 L:List Nat} {v:RV} {s:Nat} (h:VT G0 L v s):∀M,VT G0 (L++M) v s:=by
 induction h with
 | var n s env b h hs =>
  intro M;refine .var _ _ _ _ _ ?_ hs;rcases h with ⟨h1,h2⟩ | h
  ·exact .inl ⟨h1,by rw [List.getElem?_append_left (List.getElem?_eq_some_iff.1 h2).1];exact h2⟩
  ·exact .inr h
 | node op n k env b s sg D hr hl hst hk hc he ihk ihe =>
  intro M;exact .node _ _ _ _ _ _ _ sg D hr hl hst (fun i v s' a b=>ihk i v s' a b M) hc (fun i v bs s' j x y a b c d e=>ihe i v bs s' j x y a b c d e M)
def RM (G0 L:List Nat) (env:List RV) (D:List Nat):Prop:=D.length=env.length∧∀(j:Nat) x y,env.reverse[j]?=some x→D[j]?=some y→VT G0 L x y
theorem V9 {G0 L D bs:List Nat} {env l:List RV} (h:RM G0 L env D) (hl:bs.length=l.length) (hx:∀(j:Nat) x y,l.reverse[j]?=some x→bs[j]?=some y→VT G0 L x y):RM G0 L (env++l) (bs++D):=by
 refine ⟨by simp only [List.length_append,h.1,hl];omega,?_⟩;intro j x y h1 h2;rw [List.reverse_append] at h1;by_cases hj:j<bs.length
 ·rw [List.getElem?_append_left (by rw [List.length_reverse];omega)] at h1;rw [List.getElem?_append_left hj] at h2;exact hx j x y h1 h2
 ·rw [List.getElem?_append_right (by rw [List.length_reverse];omega),List.length_reverse] at h1;rw [List.getElem?_append_right (by omega),hl] at h2;exact h.2 _ x y h1 h2
theorem Zd {ev:Int→Int→Tm→Option (RV×Int×Int)} {G0 L D:List Nat} {env:List RV} (hev:∀s t v s' σ,ev s 0 t=some (v,s',0)→HasT (D++G0) t σ→VT G0 L v σ) (herr:∀s e t v s',ev s e t=some (v,s',0)→e=0) (op:Int) :
  ∀(l:List Tm) (i:Nat) (sg:OU) (s:Int) (vs:List RV) (s':Int),AR ev op env i l s 0=some (vs,s',0)→l.length=sg.length→(∀(j:Nat) bs s1,sg[j]?=some (bs,s1)→bs.length=Ae op (i+j)) →
   (∀(j:Nat) t bs s1,l[j]?=some t→sg[j]?=some (bs,s1)→HasT (bs++(D++G0)) t s1) →
   vs.length=l.length∧∀(j:Nat) (v:RV) bs s1,vs[j]?=some v→sg[j]?=some (bs,s1)→(bs=[]→VT G0 L v s1)∧(bs≠[]→v.env=env∧HasT (bs++(D++G0)) v.b s1)
 | [],i,sg,s,vs,s',h,hl,hb,ht=>by
  simp only [AR,AwP,AwQ] at h;obtain ⟨rfl,_,_⟩:=h;exact ⟨rfl,fun j v bs s1 h=>by simp at h⟩
 | t::l,i,[],s,vs,s',h,hl,hb,ht=>by simp at hl
 | t::l,i,(b0,σ0)::sg,s,vs,s',h,hl,hb,ht=>by
  have hb0:=hb 0 b0 σ0 rfl;have ht0:=ht 0 t b0 σ0 rfl rfl;rw [Nat.add_zero] at hb0;have next:=fun (s:Int) (vs:List RV) (h:AR ev op env (i+1) l s 0=some (vs,s',0))=>Zd hev herr op l (i+1) sg s vs s' h (by simpa using hl) (fun j bs s1 hj=>by rw [hb (j+1) bs s1 (by simpa using hj)];congr 1;omega) (fun j t bs s1 h1 h2=>ht (j+1) t bs s1 (by simpa using h1) (by simpa using h2));simp only [AR] at h;by_cases hc:0<Ae op i
  ·rw [if_pos hc] at h;cases hk:AR ev op env (i+1) l s 0 with
   | none=>rw [hk] at h;cases h
   | some q =>
    obtain ⟨us,s2,e2⟩:=q;rw [hk] at h;simp only [AwS,AwP,AwQ] at h;obtain ⟨rfl,rfl,rfl⟩:=h;obtain ⟨n1,n2⟩:=next s us hk;refine ⟨by simp [n1],?_⟩;intro j v bs s1 h1 h2;cases j with
    | zero =>
     simp only [List.getElem?_cons_zero,AwP,AwQ] at h1 h2;obtain ⟨rfl,rfl⟩:=h2;subst h1;exact ⟨fun h=>by rw [h] at hb0;simp at hb0;omega,fun _=>⟨rfl,ht0⟩⟩
    | succ j =>
     simp only [List.getElem?_cons_succ] at h1 h2;exact n2 j v bs s1 h1 h2
  ·rw [if_neg hc] at h;have hbe:b0=[]:=List.eq_nil_of_length_eq_zero (by omega);subst hbe;split at h
   ·cases h
   rename_i v0 s1 e1 hv;cases hk:AR ev op env (i+1) l s1 e1 with
   | none=>rw [hk] at h;cases h
   | some q =>
    obtain ⟨us,s2,e2⟩:=q;rw [hk] at h;simp only [AwS,AwP,AwQ] at h;obtain ⟨rfl,rfl,rfl⟩:=h;have he1:=Fj ev herr op env l _ _ _ _ _ hk;subst he1;obtain ⟨n1,n2⟩:=next s1 us hk;refine ⟨by simp [n1],?_⟩;intro j v bs s3 h1 h2;cases j with
    | zero =>
     simp only [List.getElem?_cons_zero,AwP,AwQ] at h1 h2;obtain ⟨rfl,rfl⟩:=h2;subst h1;exact ⟨fun _=>hev _ _ _ _ _ hv (by simpa using ht0),fun h=>absurd rfl h⟩
    | succ j =>
     simp only [List.getElem?_cons_succ] at h1 h2;exact n2 j v bs s3 h1 h2
theorem Fa {f:Nat} {s:Int} {op n:Int} {ks:List Tm} {env:List RV} {v:RV} {s':Int} (h:Au (f+1) s 0 (.mk op n ks) env=some (v,s',0)) (h1:op≠1) :
  ∃vs s1,AR (fun s e t=>Au f s e t env) op env 0 ks s 0=some (vs,s1,0)∧headR f s1 0 (.node op n vs)=some (v,s',0):=by
 rw [Au] at h;rw [if_neg (by simp)] at h;split at h
 ·cases h
 first | rw [if_neg h1] at h | skip
 split at h
 ·cases h
 split at h
 ·cases h
 split at h
 ·cases h
 rename_i vs s1 e1 hk;have he:=F9 h;subst he;exact ⟨vs,s1,hk,h⟩
theorem FR {f:Nat} {s:Int} {op n:Int} {k:List RV} {v:RV} {s':Int} (h:headR f s 0 (.node op n k)=some (v,s',0)) (h0:¬ (op=5∨op=8∨op=9∨op=13∨op=19∨op=30)):v=.node op n k∧s'=s:=by
 cases f with
 | zero=>rw [headR] at h;cases h
 | succ f =>
  rw [headR] at h;rw [if_neg (by simp)] at h;split at h
  ·cases h
  have hop:(RV.node op n k).op=op:=rfl;rw [hop,if_neg (by omega),if_neg (by omega),if_neg (by omega),if_neg (by omega),if_neg (by omega)] at h;simp only [AwP,AwQ] at h;exact ⟨h.1.symm,h.2.1.symm⟩
theorem Mn {f:Nat} {G0 L D:List Nat} {env:List RV} (ih:∀s t v s' σ,Au f s 0 t env=some (v,s',0)→HasT (D++G0) t σ→VT G0 L v σ) (henv:RM G0 L env D) {op:Int} {ks:List Tm} {σ:Nat} {sg:OU} {s s1:Int} {vs:List RV}
  (hr:Rule op σ sg) (hl:ks.length=sg.length) (hk:∀(i:Nat) t bs s',ks[i]?=some t→sg[i]?=some (bs,s')→HasT (bs++(D++G0)) t s') (h:AR (fun s e t=>Au f s e t env) op env 0 ks s 0=some (vs,s1,0)):NodeT G0 L op vs σ sg (fun _=>D):=by
 obtain ⟨n1,n2⟩:=Zd (G0:=G0) (L:=L) (D:=D) ih (fun s e t v s' h=>B4 h) op ks 0 sg s vs s1 h hl (fun j bs s1 hj=>by rw [Nat.zero_add];exact (Hf hr hj).1) hk;refine ⟨hr,by rw [n1];exact hl,?_,?_,?_⟩
 ·intro i v s' a b;exact (n2 i v [] s' a b).1 rfl
 ·intro i v bs s' a b c;obtain ⟨q1,q2⟩:=(n2 i v bs s' a b).2 c;exact ⟨by rw [q1];exact henv.1,q2⟩
 ·intro i v bs s' j x y a b c d e;obtain ⟨q1,q2⟩:=(n2 i v bs s' a b).2 c;rw [q1] at d;exact henv.2 j x y d e
theorem Agm {f:Nat} {s n m:Int} {va x:RV} {env:List RV} {b:Tm} {v:RV} {s':Int} (h:headR (f+1) s 0 (.node 5 n [.node 4 m [va,.clo env b],x])=some (v,s',0)):Au f (s+1) 0 b (env++[x])=some (v,s',0):=by
 rw [headR,if_neg (by simp)] at h;by_cases hs:s<0∨1000000<s
 ·rw [if_pos hs] at h;cases h
 rw [if_neg hs,if_pos (show RV.op (.node 5 n [.node 4 m [va,.clo env b],x])=5 from rfl)] at h
 simp only [RV.node,RV.k,List.getElem?_cons_zero] at h;rw [if_pos (show RV.op (.mk 4 m [va,.clo env b] [] .z)=4 from rfl)] at h
 by_cases h1:s+1≤1000
 ·rw [if_pos h1] at h;simp only [List.getElem?_cons_zero,List.getElem?_cons_succ] at h;rw [show (RV.clo env b).env=env from rfl,show (RV.clo env b).b=b from rfl] at h
  by_cases h2:900000<env.length
  ·rw [if_pos h2] at h;cases h
  ·rw [if_neg h2] at h;exact h
 ·rw [if_neg h1] at h;simp at h
theorem AfD {f:Nat} {s op n m:Int} {ws:List RV} {v:RV} {s':Int} (ho:op=8∨op=9) (h:headR (f+1) s 0 (.node op n [.node 7 m ws])=some (v,s',0)):ws[(1+op - 8).toNat]?=some v:=by
 rw [headR,if_neg (by simp)] at h;by_cases hs:s<0∨1000000<s
 ·rw [if_pos hs] at h;cases h
 have hop:RV.op (.node op n [.node 7 m ws])=op:=rfl;rw [if_neg hs,hop,if_neg (by omega),if_pos ho] at h;simp only [RV.node,RV.k,List.getElem?_cons_zero] at h;rw [if_pos (show RV.op (.mk 7 m ws [] .z)=7 from rfl)] at h
 by_cases h1:s+1≤1000
 ·rw [if_pos h1] at h;cases hw:ws[(1+op - 8).toNat]? with
  | none=>rw [hw] at h;cases h
  | some w =>
   rw [hw] at h;simp only [AwS,AwP,AwQ] at h;rw [h.1]
 ·rw [if_neg h1] at h;simp at h
theorem O7 {f:Nat} {s n:Int} {k0 v:RV} {s':Int} (h:headR (f+1) s 0 (.node 30 n [k0])=some (v,s',0)):k0.op=19∧k0.k[0]?=some v∨k0.op≠19∧v=.node 30 n [k0]:=by
 rw [headR,if_neg (by simp)] at h;by_cases hs:s<0∨1000000<s
 ·rw [if_pos hs] at h;cases h
 have hop:RV.op (.node 30 n [k0])=30:=rfl;rw [if_neg hs,hop,if_neg (by decide),if_neg (by decide),if_pos rfl,show RV.k (.node 30 n [k0])=[k0] from rfl] at h
 simp only [List.getElem?_cons_zero] at h;by_cases h0:k0.op=19
 ·rw [if_pos h0] at h;by_cases h1:s+1≤1000
  ·rw [if_pos h1] at h;cases hw:k0.k[0]? with
   | none=>rw [hw] at h;cases h
   | some w =>
    rw [hw] at h;simp only [AwS,AwP,AwQ] at h;rw [← h.1];exact .inl ⟨h0,rfl⟩
  ·rw [if_neg h1] at h;simp at h
 ·rw [if_neg h0] at h;simp only [AwP,AwQ] at h;exact .inr ⟨h0,h.1.symm⟩
theorem Pl {f:Nat} {s n:Int} {k0 v:RV} {s':Int} (h:headR (f+1) s 0 (.node 19 n [k0])=some (v,s',0)):k0.op=30∧k0.k[0]?=some v∨k0.op≠30∧v=.node 19 n [k0]:=by
 rw [headR,if_neg (by simp)] at h;by_cases hs:s<0∨1000000<s
 ·rw [if_pos hs] at h;cases h
 have hop:RV.op (.node 19 n [k0])=19:=rfl;rw [if_neg hs,hop,if_neg (by decide),if_neg (by decide),if_neg (by decide),if_pos rfl,show RV.k (.node 19 n [k0])=[k0] from rfl] at h
 simp only [List.getElem?_cons_zero] at h;by_cases h0:k0.op=30
 ·rw [if_pos h0] at h;by_cases h1:s+1≤1000
  ·rw [if_pos h1] at h;cases hw:k0.k[0]? with
   | none=>rw [hw] at h;cases h
   | some w =>
    rw [hw] at h;simp only [AwS,AwP,AwQ] at h;rw [← h.1];exact .inl ⟨h0,rfl⟩
  ·rw [if_neg h1] at h;simp at h
 ·rw [if_neg h0] at h;simp only [AwP,AwQ] at h;exact .inr ⟨h0,h.1.symm⟩
theorem Pr {f:Nat} {s n:Int} {k0 k1 k2 k3 v:RV} {s':Int} (h:headR (f+1) s 0 (.node 13 n [k0,k1,k2,k3])=some (v,s',0)) :
  k3.op=11∧v=k1∨k3.op=12∧(∃x w s1,k3.k[0]?=some x∧headR f (s+1) 0 (.node 13 0 [k0,k1,k2,x])=some (w,s1,0)∧Au f s1 0 k2.b (k2.env++[x,w])=some (v,s',0))∨(k3.op≠11∧k3.op≠12)∧v=.node 13 n [k0,k1,k2,k3]:=by
 rw [headR,if_neg (by simp)] at h;by_cases hs:s<0∨1000000<s
 ·rw [if_pos hs] at h;cases h
 have hop:RV.op (.node 13 n [k0,k1,k2,k3])=13:=rfl;have hk:RV.k (.node 13 n [k0,k1,k2,k3])=[k0,k1,k2,k3]:=rfl;rw [if_neg hs,hop,if_neg (by decide),if_neg (by decide),if_neg (by decide),if_neg (by decide),if_pos rfl,hk] at h;simp only [List.getElem?_cons_zero,List.getElem?_cons_succ] at h;by_cases h11:k3.op=11
 ·rw [if_pos h11] at h;by_cases h1:s+1≤1000
  ·rw [if_pos h1] at h;simp only [AwP,AwQ] at h;exact .inl ⟨h11,h.1.symm⟩
  ·rw [if_neg h1] at h;simp at h
 rw [if_neg h11] at h;by_cases h12:k3.op=12
 ·rw [if_pos h12] at h;by_cases h1:s+1≤1000
  ·rw [if_pos h1] at h;cases hx:k3.k[0]? with
   | none=>rw [hx] at h;cases h
   | some x =>
    rw [hx] at h;simp only at h;cases hw:headR f (s+1) 0 (.node 13 0 [k0,k1,k2,x]) with
    | none=>rw [hw] at h;cases h
    | some q =>
     obtain ⟨w,s1,e1⟩:=q;rw [hw] at h;simp only at h;by_cases h2:900000<k2.env.length
     ·rw [if_pos h2] at h;cases h
     ·rw [if_neg h2] at h;have he:=B4 h;subst he;exact .inr (.inl ⟨h12,x,w,s1,rfl,hw,h⟩)
  ·rw [if_neg h1] at h;simp at h
 ·rw [if_neg h12] at h;simp only [AwP,AwQ] at h;exact .inr (.inr ⟨⟨h11,h12⟩,h.1.symm⟩)
theorem TN {f:Nat} {s n:Int} {ks:List Tm} {env:List RV} {v:RV} {s':Int} (h:Au (f+1) s 0 (.mk 1 n ks) env=some (v,s',0)) (h0:0≤n):(n<env.length∧env.reverse[n.toNat]?=some v∨¬ n<env.length∧v=.var (env.length - 1 - n))∧s'=s:=by
 rw [Au,if_neg (by simp)] at h;by_cases h9:900000<env.length
 ·rw [if_pos h9] at h;cases h
 rw [if_neg h9,if_pos rfl] at h;by_cases hm:n<env.length
 ·rw [if_pos hm,if_pos h0] at h;cases hx:env[((env.length:Int) - 1 - n).toNat]? with
  | none=>rw [hx] at h;cases h
  | some x =>
   rw [hx] at h;simp only [AwS,AwP,AwQ] at h;obtain ⟨rfl,rfl,_⟩:=h;refine ⟨.inl ⟨hm,?_⟩,rfl⟩;rw [List.getElem?_reverse (by omega),show env.length - 1 - n.toNat=((env.length:Int) - 1 - n).toNat by omega]
   exact hx
 ·rw [if_neg hm] at h;by_cases h4:n≤4611686018427387904
  ·rw [if_pos h4] at h;simp only [AwP,AwQ] at h;exact ⟨.inr ⟨hm,h.1.symm⟩,h.2.1.symm⟩
  ·rw [if_neg h4] at h;cases h
theorem AlL {f:Nat} {s n m:Int} {a b x:Tm} {env:List RV} {v:RV} {s':Int} (h:Au (f+1) s 0 (.mk 5 n [.mk 4 m [a,b],x]) env=some (v,s',0)):∃f' s1 s2 vx,f'≤f∧Au f s1 0 x env=some (vx,s2,0)∧Au f' (s2+1) 0 b (env++[vx])=some (v,s',0):=by
 obtain ⟨vs,s2,h1,h2⟩:=Fa h (by decide);simp only [AR] at h1;rw [if_neg (by decide)] at h1;cases hv0:Au f s 0 (.mk 4 m [a,b]) env with
 | none=>rw [hv0] at h1;cases h1
 | some q =>
  obtain ⟨v0,s3,e3⟩:=q;rw [hv0] at h1;simp only at h1;rw [if_neg (by decide)] at h1;cases hv1:Au f s3 e3 x env with
  | none=>rw [hv1] at h1;cases h1
  | some q =>
   obtain ⟨v1,s4,e4⟩:=q;rw [hv1] at h1;simp only [AwS,AwP,AwQ] at h1;obtain ⟨rfl,rfl,rfl⟩:=h1;have e3:=B4 hv1;subst e3;obtain ⟨va,rfl⟩:=AdC hv0;cases f with
   | zero=>rw [headR] at h2;cases h2
   | succ f=>exact ⟨f,s3,s4,v1,by omega,hv1,Agm h2⟩
theorem Vc {f:Nat} {s op n m:Int} {a x y:Tm} {env:List RV} {v:RV} {s':Int} (ho:op=8∨op=9) (h:Au (f+1) s 0 (.mk op n [.mk 7 m [a,x,y]]) env=some (v,s',0)):∃f' ws s1,f'≤f∧AR (fun s e t=>Au f' s e t env) 7 env 0 [a,x,y] s 0=some (ws,s1,0)∧ws[(1+op - 8).toNat]?=some v:=by
 obtain ⟨vs,s2,h1,h2⟩:=Fa h (by omega);have hb:Ae op 0=0:=by rcases ho with rfl | rfl<;>rfl
 simp only [AR] at h1;rw [if_neg (by omega)] at h1;cases hv0:Au f s 0 (.mk 7 m [a,x,y]) env with
 | none=>rw [hv0] at h1;cases h1
 | some q =>
  obtain ⟨v0,s3,e3⟩:=q;rw [hv0] at h1;simp only [AwS,AwP,AwQ] at h1;obtain ⟨rfl,rfl,rfl⟩:=h1;cases f with
  | zero=>rw [headR] at h2;cases h2
  | succ f =>
   obtain ⟨ws,s4,q1,q2⟩:=Fa hv0 (by decide);obtain ⟨rfl,rfl⟩:=FR q2 (by decide);exact ⟨f,ws,s3,by omega,q1,AfD ho h2⟩
theorem OK {f:Nat} {s nd u d:Int} {v:RV} {t:Tm} {s' nd':Int} (h:AS (f+1) s nd 0 v u d=some (t,s',nd',0)) :
  v.op=1∧t=.mk 1 (u - 1 - v.n) []∨v.op≠1∧∃ts,Ba (fun s nd e k u=>AS f s nd e k u (d+1)) f v.op u 0 v.k s (nd+1) 0=some (ts,s',nd',0)∧t=.mk v.op v.n ts:=by
 rw [AS] at h;by_cases hb:nd<0∨1000000<nd∨u<0∨1000000<u∨d<0∨1000000<d∨v.n < -2305843009213693952∨2305843009213693952<v.n∨f≤v.k.length∨900000<v.k.length∨f≤3
 ·rw [if_pos hb] at h;cases h
 rw [if_neg hb] at h;by_cases h3:(0:Int)=0∧(3000<nd+1∨120<d)
 ·rw [if_pos h3,if_pos (by decide)] at h;simp at h
 rw [if_neg h3,if_neg (by simp)] at h;by_cases h1:v.op=1
 ·rw [if_pos h1] at h;simp only [AwP,AwQ] at h;exact .inl ⟨h1,h.1.symm⟩
 ·rw [if_neg h1] at h;cases hrk:Ba (fun s nd e k u=>AS f s nd e k u (d+1)) f v.op u 0 v.k s (nd+1) 0 with
  | none=>rw [hrk] at h;cases h
  | some q =>
   obtain ⟨ts,s1,nd1,e1⟩:=q;rw [hrk] at h;simp only [AwS,AwP,AwQ] at h;obtain ⟨rfl,rfl,rfl,rfl⟩:=h;exact .inr ⟨h1,ts,rfl,rfl⟩
def EvT (G0 L:List Nat) (f:Nat):Prop:=∀s t env v s' D σ,Au f s 0 t env=some (v,s',0)→HasT (D++G0) t σ→RM G0 L env D→VT G0 L v σ
def HdT (G0 L:List Nat) (f:Nat):Prop:=∀s op n k v s' σ sg D,headR f s 0 (.node op n k)=some (v,s',0)→NodeT G0 L op k σ sg D→VT G0 L v σ
theorem Aoo {G0 L D:List Nat} {env:List RV} (h:RM G0 L env D) {x:RV} {y:Nat} (hx:VT G0 L x y):RM G0 L (env++[x]) (y::D):=by
 refine V9 (bs:=[y]) h rfl ?_;intro j x' y' a b;cases j with
 | zero =>
  simp only [List.reverse_cons,List.reverse_nil,List.nil_append,List.getElem?_cons_zero,AwP] at a b;subst a b;exact hx
 | succ j=>simp at a
theorem Aua {G0 L D:List Nat} {env:List RV} (h:RM G0 L env D) {x w:RV} {y z:Nat} (hx:VT G0 L x y) (hw:VT G0 L w z):RM G0 L (env++[x,w]) (z::y::D):=by
 have:=Aoo (Aoo h hx) hw
 rw [List.append_assoc] at this;exact this
theorem Al3 {G:List Nat} {a x y:Tm} {s0 s1 s2:Nat} (ha:HasT G a s0) (hx:HasT G x s1) (hy:HasT G y s2):∀(i:Nat) t bs s',[a,x,y][i]?=some t→[(([]:List Nat),s0),([],s1),([],s2)][i]?=some (bs,s')→HasT (bs++G) t s':=by
 intro i t bs s' a1 a2
 match i with
 | 0=>simp at a1 a2;obtain ⟨rfl,rfl⟩:=a2;subst a1;exact ha
 | 1=>simp at a1 a2;obtain ⟨rfl,rfl⟩:=a2;subst a1;exact hx
 | 2=>simp at a1 a2;obtain ⟨rfl,rfl⟩:=a2;subst a1;exact hy
 | i+3=>simp at a1
theorem ArY {G0 L:List Nat} {f:Nat} (ihE:∀g,g≤f→EvT G0 L g) (ihH:HdT G0 L f):EvT G0 L (f+1):=by
 intro s t env v s' D σ h ht henv;generalize hG:D++G0=G at ht;cases ht with
 | var _ n _ h0 hg hs =>
  subst hG;rcases (TN h h0).1 with ⟨h1,h2⟩ | ⟨h1,rfl⟩
  ·refine henv.2 n.toNat v σ h2 ?_;rw [List.getElem?_append_left (by have:=henv.1;omega)] at hg;exact hg
  ·refine .var _ _ _ _ _ (.inr ⟨by omega,?_⟩) hs;rw [List.getElem?_append_right (by have:=henv.1;omega),henv.1] at hg;rw [show (-1 - ((env.length:Int) - 1 - n)).toNat=n.toNat - env.length by omega]
   exact hg
 | node _ op n ks _ sg hr hl hk =>
  subst hG;obtain ⟨vs,s1,h1,h2⟩:=Fa h (HI hr).1;exact ihH _ _ _ _ _ _ _ _ _ h2 (Mn (fun s t v s' σ a b=>ihE f (Nat.le_refl _) s t env v s' D σ a b henv) henv hr hl hk h1)
 | app _ n m a b x y _ s1 hs hy ha hb hx =>
  subst hG;obtain ⟨f',s1,s2,vx,hf,h1,h2⟩:=AlL h;exact ihE f' hf _ _ _ _ _ (y::D) σ h2 hb (Aoo henv (ihE f (Nat.le_refl _) _ _ _ _ _ D y h1 hx henv))
 | fst _ n m a x y _ s1 s0 hs ha hx hy =>
  subst hG;obtain ⟨f',ws,s2,hf,h1,h2⟩:=Vc (.inl rfl) h;have hn:=Mn (fun s t v s' σ a b=>ihE f' hf s t env v s' D σ a b henv) henv (Rule.pair s0 σ s1) rfl (Al3 ha hx hy) h1;exact hn.hk 1 v σ h2 rfl
 | snd _ n m a x y _ s1 s0 hs ha hx hy =>
  subst hG;obtain ⟨f',ws,s2,hf,h1,h2⟩:=Vc (.inr rfl) h;have hn:=Mn (fun s t v s' σ a b=>ihE f' hf s t env v s' D σ a b henv) henv (Rule.pair s0 s1 σ) rfl (Al3 ha hx hy) h1;exact hn.hk 2 v σ h2 rfl
theorem Ahh {G0 L:List Nat} {k0 k1 k2 k3 x:RV} {σ s0:Nat} {D:Nat→List Nat} (hn:NodeT G0 L 13 [k0,k1,k2,k3] σ [([0],s0),([],σ),([σ,0],σ),([],0)] D) (hx:VT G0 L x 0):NodeT G0 L 13 [k0,k1,k2,x] σ [([0],s0),([],σ),([σ,0],σ),([],0)] D:=by
 refine ⟨hn.hr,rfl,?_,?_,?_⟩
 ·intro i v s' a b
  match i with
  | 0=>exact hn.hk 0 v s' a b
  | 1=>exact hn.hk 1 v s' a b
  | 2=>exact hn.hk 2 v s' a b
  | 3 =>
   simp at a b;subst a b;exact hx
  | i+4=>simp at a
 ·intro i v bs s' a b c
  match i with
  | 0=>exact hn.hc 0 v bs s' a b c
  | 1=>exact hn.hc 1 v bs s' a b c
  | 2=>exact hn.hc 2 v bs s' a b c
  | 3=>simp at b;exact absurd b.1 c
  | i+4=>simp at a
 ·intro i v bs s' j x' y' a b c d e
  match i with
  | 0=>exact hn.he 0 v bs s' j x' y' a b c d e
  | 1=>exact hn.he 1 v bs s' j x' y' a b c d e
  | 2=>exact hn.he 2 v bs s' j x' y' a b c d e
  | 3=>simp at b;exact absurd b.1 c
  | i+4=>simp at a
theorem AqP {G0 L:List Nat} {f:Nat} (ihE:EvT G0 L f) (ihH:HdT G0 L f):HdT G0 L (f+1):=by
 intro s op n k v s' σ sg D h hn;obtain ⟨o1,o5,o8,o9⟩:=HI hn.hr;by_cases h30:op=30
 ·subst h30;have hr:=hn.hr;cases hr;obtain ⟨k0,rfl⟩:=Cf hn.hl;have hk0:=hn.hk 0 k0 3 rfl rfl;rcases O7 h with ⟨h19,hx⟩ | ⟨h19,rfl⟩
  ·obtain ⟨_,sg2,D2,hn2⟩:=X7 hk0 (by omega);rw [h19] at hn2;have hr2:=hn2.hr;cases hr2;exact hn2.hk 0 v 6 hx rfl
  ·refine NZ hn ⟨fun _ k1 hk1=>?_,by omega,by omega⟩;simp only [List.getElem?_cons_zero,AwP] at hk1;subst hk1;exact h19
 by_cases h19:op=19
 ·subst h19;have hr:=hn.hr;cases hr;obtain ⟨k0,rfl⟩:=Cf hn.hl;have hk0:=hn.hk 0 k0 6 rfl rfl;rcases Pl h with ⟨h19,hx⟩ | ⟨h19,rfl⟩
  ·obtain ⟨_,sg2,D2,hn2⟩:=X7 hk0 (by omega);rw [h19] at hn2;have hr2:=hn2.hr;cases hr2;exact hn2.hk 0 v 3 hx rfl
  ·refine NZ hn ⟨by omega,fun _ k1 hk1=>?_,by omega⟩;simp only [List.getElem?_cons_zero,AwP] at hk1;subst hk1;exact h19
 by_cases h13:op=13
 ·subst h13;have hr:=hn.hr;cases hr with
  | recR _ hs =>
  obtain ⟨k0,k1,k2,k3,rfl⟩:=OO hn.hl;have hk1:=hn.hk 1 k1 σ rfl rfl;have hk3:=hn.hk 3 k3 0 rfl rfl;have hc2:=hn.hc 2 k2 [σ,0] σ rfl rfl (by simp);have he2:=fun (j:Nat) x y=>hn.he 2 k2 [σ,0] σ j x y rfl rfl (by simp);rcases Pr h with ⟨h11,rfl⟩ | ⟨h12,x,w,s1,hx,hw,hv⟩ | ⟨h3,rfl⟩
  ·exact hk1
  ·obtain ⟨_,sg2,D2,hn2⟩:=X7 hk3 (by omega);rw [h12] at hn2;have hr2:=hn2.hr;cases hr2;have hxv:=hn2.hk 0 x 0 hx rfl;have hwv:=ihH _ _ _ _ _ _ _ _ _ hw (Ahh hn hxv);exact ihE _ _ _ _ _ (σ::0::D 2) σ hv hc2.2 (Aua ⟨hc2.1,he2⟩ hxv hwv)
  ·refine NZ hn ⟨by omega,by omega,fun _ q hq=>?_⟩;simp at hq;subst hq;exact h3
 obtain ⟨rfl,_⟩:=FR h (by omega);exact NZ hn ⟨by omega,by omega,by omega⟩
theorem Abx (G0 L:List Nat):∀f,EvT G0 L f∧HdT G0 L f:=by
 intro f
 induction f using Nat.strongRecOn with
 | _ f ih =>
 cases f with
 | zero=>exact ⟨(by intro s t env v s' D σ h;rw [Au] at h;cases h),(by intro s op n k v s' σ sg D h;rw [headR] at h;cases h)⟩
 | succ f=>exact ⟨ArY (fun g hg=>(ih g (by omega)).1) (ih f (by omega)).2,AqP (ih f (by omega)).1 (ih f (by omega)).2⟩
inductive NfT:List Nat→Tm→Nat→Prop
 | var (G:List Nat) (n:Int) (s:Nat) (h0:0≤n) (h:G[n.toNat]?=some s) (hs:s<10):NfT G (.mk 1 n []) s
 | node (G:List Nat) (op n:Int) (ks:List Tm) (s:Nat) (sg:OU) (hr:Rule op s sg) (hl:ks.length=sg.length) (hst:Ajr op ks) (hk:∀(i:Nat) t bs s',ks[i]?=some t→sg[i]?=some (bs,s')→NfT (bs++G) t s'):NfT G (.mk op n ks) s
theorem O3 {G:List Nat} {t:Tm} {s:Nat} (h:NfT G t s):HasT G t s:=by
 induction h with
 | var G n s h0 h hs=>exact .var _ _ _ h0 h hs
 | node G op n ks s sg hr hl hst hk ih=>exact .node _ _ _ _ _ sg hr hl ih
theorem IJ {rd:Int→Int→Int→RV→Int→Option (Tm×Int×Int×Int)} {f:Nat} (herr:∀s nd e v u t s' nd',rd s nd e v u=some (t,s',nd',0)→e=0) (op u:Int) :
  ∀(l:List RV) (i:Nat) (s nd e:Int) (ts:List Tm) (s' nd':Int),Ba rd f op u i l s nd e=some (ts,s',nd',0)→ts.length=l.length∧∀(j:Nat) k t,l[j]?=some k→ts[j]?=some t →
   ∃s1 nd1 k' s2 nd2,((0<Ae op (i+j)→∃s0,Au f s0 0 k.b (k.env++FK u (Ae op (i+j)))=some (k',s1,0))∧(Ae op (i+j)=0→k'=k))∧rd s1 nd1 0 k' (u+Ae op (i+j))=some (t,s2,nd2,0)
 | [],i,s,nd,e,ts,s',nd',h=>by
  simp only [Ba,AwP,AwQ] at h;obtain ⟨rfl,_⟩:=h;exact ⟨rfl,fun j k t h=>by simp at h⟩
 | k::l,i,s,nd,e,ts,s',nd',h=>by
  simp only [Ba] at h;split at h
  ·cases h
  rename_i k' s1 e1 hk;split at h
  ·cases h
  rename_i t s2 nd2 e2 ht;cases hr:Ba rd f op u (i+1) l s2 nd2 e2 with
  | none=>rw [hr] at h;cases h
  | some q =>
   obtain ⟨us,s3,nd3,e3⟩:=q;rw [hr] at h;simp only [AwS,AwP,AwQ] at h;obtain ⟨rfl,rfl,rfl,rfl⟩:=h;have he2:e2=0:=by
    cases l with
    | nil=>simp only [Ba,AwP,AwQ] at hr;exact hr.2.2.2
    | cons k2 l2 =>
     simp only [Ba] at hr;split at hr
     ·cases hr
     rename_i k2' s5 e5 hk2;split at hr
     ·cases hr
     rename_i t2 s6 nd6 e6 ht2;cases hr2:Ba rd f op u (i+1+1) l2 s6 nd6 e6 with
     | none=>rw [hr2] at hr;cases hr
     | some q =>
      obtain ⟨ws,s7,nd7,e7⟩:=q;rw [hr2] at hr;simp only [AwS,AwP,AwQ] at hr;obtain ⟨_,_,_,rfl⟩:=hr;have h6:e6=0:=readK_err herr op u l2 _ _ _ _ _ _ _ hr2;subst h6;have h5:=herr _ _ _ _ _ _ _ _ ht2;subst h5;split at hk2
      ·split at hk2
       ·cases hk2
       exact B4 hk2
      ·simp only [AwP,AwQ] at hk2;exact hk2.2.2
   subst he2;have he1:=herr _ _ _ _ _ _ _ _ ht;subst he1;obtain ⟨n1,n2⟩:=IJ herr op u l (i+1) s2 nd2 0 us s3 nd3 hr;refine ⟨by simp [n1],?_⟩;intro j k2 t2 a b;cases j with
   | zero =>
    simp only [List.getElem?_cons_zero,AwP] at a b;subst a b;rw [Nat.add_zero];refine ⟨s1,nd,k',s2,nd2,⟨fun hb=>?_,fun hb=>?_⟩,ht⟩
    ·rw [if_pos hb] at hk;split at hk
     ·cases hk
     have:=B4 hk
     subst this;exact ⟨s,hk⟩
    ·rw [if_neg (by omega)] at hk;simp only [AwP,AwQ] at hk;exact hk.1.symm
   | succ j =>
    simp only [List.getElem?_cons_succ] at a b
    have:=n2 j k2 t2 a b
    rw [show i+1+j=i+(j+1) by omega] at this
    exact this
where
 readK_err {rd:Int→Int→Int→RV→Int→Option (Tm×Int×Int×Int)} {f:Nat} (herr:∀s nd e v u t s' nd',rd s nd e v u=some (t,s',nd',0)→e=0) (op u:Int) :
   ∀(l:List RV) (i:Nat) (s nd e:Int) (ts:List Tm) (s' nd':Int),Ba rd f op u i l s nd e=some (ts,s',nd',0)→e=0
  | [],i,s,nd,e,ts,s',nd',h=>by
   simp only [Ba,AwP,AwQ] at h;exact h.2.2.2
  | k::l,i,s,nd,e,ts,s',nd',hr=>by
   simp only [Ba] at hr;split at hr
   ·cases hr
   rename_i k2' s5 e5 hk2;split at hr
   ·cases hr
   rename_i t2 s6 nd6 e6 ht2;cases hr2:Ba rd f op u (i+1) l s6 nd6 e6 with
   | none=>rw [hr2] at hr;cases hr
   | some q =>
    obtain ⟨ws,s7,nd7,e7⟩:=q;rw [hr2] at hr;simp only [AwS,AwP,AwQ] at hr;obtain ⟨_,_,_,rfl⟩:=hr;have h6:e6=0:=readK_err herr op u l _ _ _ _ _ _ _ hr2;subst h6;have h5:=herr _ _ _ _ _ _ _ _ ht2;subst h5;split at hk2
    ·split at hk2
     ·cases hk2
     exact B4 hk2
    ·simp only [AwP,AwQ] at hk2;exact hk2.2.2
theorem UC (u:Int) (b j:Nat) (h:j<b):(FK u b)[j]?=some (.var (u+j)):=by
 simp [FK,h]
theorem Zi (u:Int) (b j:Nat) {x:RV} (h:(FK u b).reverse[j]?=some x):j<b∧x=.var (u+((b - 1 - j:Nat):Int)):=by
 have hj:j<b:=by
  have:=(List.getElem?_eq_some_iff.1 h).1
  rw [List.length_reverse,BW] at this;exact this
 rw [List.getElem?_reverse (by rw [BW];exact hj),BW,UC _ _ _ (by omega),AwP] at h;exact ⟨hj,h.symm⟩
theorem Ali (G0:List Nat):∀(f:Nat) (L:List Nat) (s nd:Int) (v:RV) (d:Int) (t:Tm) (s' nd':Int) (σ:Nat),AS f s nd 0 v L.length d=some (t,s',nd',0)→VT G0 L v σ→NfT (L.reverse++G0) t σ∧t.op=v.op:=by
 intro f
 induction f with
 | zero=>intro L s nd v d t s' nd' σ h;rw [AS] at h;cases h
 | succ f ih =>
  intro L s nd v d t s' nd' σ h hv;have hri:=OK h;cases hv with
  | var n _ env b h1 hs =>
   rcases hri with ⟨_,rfl⟩ | ⟨hne,_⟩
   case inr=>exact absurd rfl hne
   refine ⟨.var _ _ _ ?_ ?_ hs,rfl⟩
   ·rcases h1 with ⟨h1,h2⟩ | ⟨h1,h2⟩
    ·have:=(List.getElem?_eq_some_iff.1 h2).1
     simp only [RV.n];omega
    ·simp only [RV.n];omega
   ·simp only [RV.n];rcases h1 with ⟨h1,h2⟩ | ⟨h1,h2⟩
    ·have hlt:=(List.getElem?_eq_some_iff.1 h2).1;rw [List.getElem?_append_left (by rw [List.length_reverse];omega),List.getElem?_reverse (by omega)];rw [show L.length - 1 - ((L.length:Int) - 1 - n).toNat=n.toNat by omega]
     exact h2
    ·rw [List.getElem?_append_right (by rw [List.length_reverse];omega),List.length_reverse];rw [show ((L.length:Int) - 1 - n).toNat - L.length=(-1 - n).toNat by omega]
     exact h2
  | node op n k env b _ sg D hr hl hst hk hc he =>
   rcases hri with ⟨he1,_⟩ | ⟨_,ts,hrk,rfl⟩
   case inl=>exact absurd he1 (HI hr).1
   ·simp only [RV.op,RV.n,RV.k] at hrk ⊢;obtain ⟨n1,n2⟩:=IJ (fun s nd e v u t s' nd' h=>Cr h) op L.length k 0 s (nd+1) 0 ts s' nd' hrk;have key:∀(i:Nat) t bs s',ts[i]?=some t→sg[i]?=some (bs,s')→NfT (bs++(L.reverse++G0)) t s'∧(bs=[]→∀kv,k[i]?=some kv→t.op=kv.op):=by
     intro i t bs s' a b;have hi:i<k.length:=by rw [← n1];exact (List.getElem?_eq_some_iff.1 a).1
     have hki:=List.getElem?_eq_getElem hi;obtain ⟨q1,q2,k',q3,q4,⟨q5,q6⟩,q7⟩:=n2 i _ t hki a;rw [Nat.zero_add] at q5 q6 q7;have hbn:=(Hf hr b).1;cases bs with
     | nil =>
      simp only [List.length_nil] at hbn;rw [← hbn] at q6 q7
      have:=q6 rfl
      subst this;simp only [Int.ofNat_zero,Int.add_zero] at q7;have hv:=hk i _ s' hki b;have h3:=ih L _ _ _ _ _ _ _ _ q7 hv;refine ⟨by simpa using h3.1,fun _ kv hkv=>?_⟩;rw [hki,AwP] at hkv;rw [← hkv];exact h3.2
     | cons b0 bs =>
      have hlb:=hbn;rw [AwT] at hbn;obtain ⟨s0,hev⟩:=q5 (by omega);obtain ⟨c1,c2⟩:=hc i _ _ s' hki b (by simp);have henv:RM G0 (L++(b0::bs).reverse) (k[i].env++FK L.length (Ae op i)) ((b0::bs)++D i):=by
       refine V9 ⟨c1,fun j x y p q=>AjC (he i _ _ s' j x y hki b (by simp) p q) _⟩ (by rw [BW];exact hlb) ?_;intro j x y p q;obtain ⟨hj,rfl⟩:=Zi _ _ _ p;have hjl:j<(b0::bs).length:=by rw [hlb];exact hj
       refine .var _ _ _ _ _ (.inl ⟨by omega,?_⟩) ?_
       ·rw [show ((L.length:Int)+((Ae op i - 1 - j:Nat):Int)).toNat=L.length+(Ae op i - 1 - j) by omega]
        rw [List.getElem?_append_right (by omega),Nat.add_sub_cancel_left,← hlb,List.getElem?_reverse (by omega)];rw [show (b0::bs).length - 1 - ((b0::bs).length - 1 - j)=j by omega]
        exact q
       ·exact (Hf hr b).2 y (List.mem_of_getElem? q)
      have hvt:=(Abx G0 (L++(b0::bs).reverse) f).1 _ _ _ _ _ _ _ hev (by rw [List.append_assoc];exact c2) henv;rw [← hlb] at q7;have hlen:((L.length:Int)+((b0::bs).length:Int))=((L++(b0::bs).reverse).length:Int):=by
       rw [List.length_append,List.length_reverse];omega
      rw [hlen] at q7;have h3:=ih _ _ _ _ _ _ _ _ _ q7 hvt;refine ⟨?_,fun h=>by cases h⟩
      have:=h3.1
      rw [List.reverse_append,List.reverse_reverse,List.append_assoc] at this;exact this
    refine ⟨.node _ _ _ _ _ sg hr (by rw [n1];exact hl) ?_ (fun i t bs s' a b=>(key i t bs s' a b).1),rfl⟩;refine ⟨fun ho k0 hk0=>?_,fun ho k0 hk0=>?_,fun ho k3 hk3=>?_⟩
    ·subst ho;cases hr;obtain ⟨w,hw⟩:=Cf hl
     have:=(key 0 k0 [] 3 hk0 rfl).2 rfl w (by rw [hw];rfl)
     rw [this];exact hst.1 rfl w (by rw [hw];rfl)
    ·subst ho;cases hr;obtain ⟨w,hw⟩:=Cf hl
     have:=(key 0 k0 [] 6 hk0 rfl).2 rfl w (by rw [hw];rfl)
     rw [this];exact hst.2.1 rfl w (by rw [hw];rfl)
    ·subst ho;cases hr;obtain ⟨w0,w1,w2,w3,hw⟩:=OO hl
     have:=(key 3 k3 [] 0 hk3 rfl).2 rfl w3 (by rw [hw];rfl)
     rw [this];exact hst.2.2 rfl w3 (by rw [hw];rfl)
theorem Jy {f:Nat} {t u:Tm} {G:List Nat} {s:Nat} (h:AI f t=some (u,0)) (ht:HasT G t s):NfT G u s:=by
 rw [AI] at h;split at h
 ·cases h
 rename_i v s1 e1 he;split at h
 ·cases h
 rename_i w s2 nd2 e2 hr;simp only [AwP] at h;by_cases h2:e2=0
 ·subst h2;rw [if_neg (by simp)] at h;simp only [AwQ,and_true] at h;subst h;have h1:=Cr hr;subst h1;have hv:=(Abx G [] f).1 0 t [] v s1 [] s he ht ⟨rfl,fun j x y a=>by simp at a⟩
  have:=Ali G f [] s1 0 v 1 w s2 nd2 s hr hv
  simpa using this.1
 ·rw [if_pos h2] at h;simp only [AwQ] at h;exact absurd h.2 h2
def AqW (op:Int) (ks:List Tm):Prop:=Ajr op ks∧(op=5→∀k0,ks[0]?=some k0→k0.op≠4)∧(op=8∨op=9→∀k0,ks[0]?=some k0→k0.op≠7)
mutual
def Tm.stl:Tm→Prop
 | .mk op _ ks=>AqW op ks∧Tm.stlL ks
def Tm.stlL:List Tm→Prop
 | []=>True
 | t::l=>t.stl∧Tm.stlL l
end
theorem Us:∀{l:List Tm},(∀(i:Nat) t,l[i]?=some t→t.stl)→Tm.stlL l
 | [],_=>by rw [Tm.stlL];trivial
 | x::l,h=>by
  rw [Tm.stlL];exact ⟨h 0 x rfl,Us fun i t hi=>h (i+1) t (by simpa using hi)⟩
theorem CE:∀{l:List Tm} {t:Tm},Tm.stlL l→t∈l→t.stl
 | x::l,t,h,hm=>by
  rw [Tm.stlL] at h;rcases List.mem_cons.1 hm with rfl | hm
  ·exact h.1
  ·exact CE h.2 hm
mutual
def Tm.val:Tm→Nat→RV
 | .mk op n ks,u=>if op=1 then .var ((u:Int) - 1 - n) else .node op n (Tm.valL op 0 ks u)
def Tm.valL:Int→Nat→List Tm→Nat→List RV
 | _,_,[],_=>[]
 | op,i,t::l,u=>(if 0<Ae op i then .clo (FK 0 u) t else t.val u)::Tm.valL op (i+1) l u
end
theorem PS (t:Tm) (u:Nat):(t.val u).op=t.op:=by
 obtain ⟨op,n,ks⟩:=t;rw [Tm.val];split
 ·rename_i h;subst h;rfl
 ·rfl
theorem Vr (op:Int) (u:Nat):∀(l:List Tm) (i:Nat),(Tm.valL op i l u).length=l.length
 | [],_=>rfl
 | t::l,i=>by simp only [Tm.valL,AwT,Vr op u l]
theorem Wp (op:Int) (u:Nat):∀(l:List Tm) (i j:Nat),(Tm.valL op i l u)[j]?=(l[j]?).map fun t=>if 0<Ae op (i+j) then .clo (FK 0 u) t else t.val u
 | [],_,_=>by simp [Tm.valL]
 | t::l,i,0=>by simp [Tm.valL]
 | t::l,i,j+1=>by
  simp only [Tm.valL,List.getElem?_cons_succ];rw [Wp op u l (i+1) j,show i+1+j=i+(j+1) by omega]
theorem AiA {s:Int} (h0:0≤s) (h1:s≤1000000) {op n:Int} {ks:List Tm} (har:ar op=some ks.length) (hst:AqW op ks) (u:Nat):headR 1 s 0 (.node op n (Tm.valL op 0 ks u))=some (.node op n (Tm.valL op 0 ks u),s,0):=by
 obtain ⟨⟨a1,a2,a3⟩,a4,a5⟩:=hst;have kid:∀(j:Nat) k,ks[j]?=some k→Ae op j=0→(Tm.valL op 0 ks u)[j]?=some (k.val u):=by
  intro j k hk hb;rw [Wp,hk,Nat.zero_add,hb];rfl
 rw [headR,if_neg (by simp),if_neg (by omega)];have hop:(RV.node op n (Tm.valL op 0 ks u)).op=op:=rfl;have hk:(RV.node op n (Tm.valL op 0 ks u)).k=Tm.valL op 0 ks u:=rfl;rw [hop,hk];by_cases h5:op=5
 ·subst h5;obtain ⟨x,y,rfl⟩:=MK (Option.some.inj har.symm:ks.length=2);rw [if_pos rfl,kid 0 x rfl rfl];simp only;rw [if_neg (by rw [PS];exact a4 rfl x rfl)]
 rw [if_neg h5];by_cases h89:op=8∨op=9
 ·have hl:ks.length=1:=by
   rcases h89 with rfl | rfl<;>exact (Option.some.inj har.symm)
  obtain ⟨x,rfl⟩:=Cf hl;rw [if_pos h89,kid 0 x rfl (by rcases h89 with rfl | rfl<;>rfl)];simp only;rw [if_neg (by rw [PS];exact a5 h89 x rfl)]
 rw [if_neg h89];by_cases h30:op=30
 ·subst h30;obtain ⟨x,rfl⟩:=Cf (Option.some.inj har.symm:ks.length=1);rw [if_pos rfl,kid 0 x rfl rfl];simp only;rw [if_neg (by rw [PS];exact a1 rfl x rfl)]
 rw [if_neg h30];by_cases h19:op=19
 ·subst h19;obtain ⟨x,rfl⟩:=Cf (Option.some.inj har.symm:ks.length=1);rw [if_pos rfl,kid 0 x rfl rfl];simp only;rw [if_neg (by rw [PS];exact a2 rfl x rfl)]
 rw [if_neg h19];by_cases h13:op=13
 ·subst h13;obtain ⟨x,y,z,w,rfl⟩:=OO (Option.some.inj har.symm:ks.length=4);rw [if_pos rfl];have q:=a3 rfl w rfl;simp only [Tm.valL,List.getElem?_cons_zero,List.getElem?_cons_succ,show Ae 13 0=1 from rfl,show Ae 13 (0+1)=0 from rfl,show Ae 13 (0+1+1)=2 from rfl,show Ae 13 (0+1+1+1)=0 from rfl,Nat.lt_irrefl,if_false,PS]
  rw [if_neg q.1,if_neg q.2]
 rw [if_neg h13]
theorem QK {s:Int} {env:List RV} {u:Nat} (henv:env=FK 0 u) (op:Int):∀(l:List Tm) (i:Nat),(∀(j:Nat) t,l[j]?=some t→Ae op (i+j)=0→∃f,Au f s 0 t env=some (t.val u,s,0))→∃f,AR (fun s e t=>Au f s e t env) op env i l s 0=some (Tm.valL op i l u,s,0)
 | [],i,_=>⟨0,rfl⟩
 | t::l,i,h=>by
  obtain ⟨f,hf⟩:=QK henv op l (i+1) (fun j t a b=>h (j+1) t (by simpa using a) (by rw [← b];congr 1;omega));by_cases hb:0<Ae op i
  ·refine ⟨f,?_⟩;rw [AR,if_pos hb,hf,Tm.valL,if_pos hb,henv];rfl
  ·obtain ⟨g,hg⟩:=h 0 t rfl (by rw [Nat.add_zero];omega);refine ⟨f+g,?_⟩;rw [AR,if_neg hb];simp only [Cq (show g≤f+g by omega) hg]
   rw [Dc (ev:=fun s e t=>Au f s e t env) (fun s e t r h=>Cq (by omega) h) op env l (i+1) s 0 _ hf,Tm.valL,if_neg hb];rfl
theorem Qq {s:Int} (h0:0≤s) (h1:s≤1000000) (k0:Nat):∀(m:Nat) (t:Tm) (u:Nat),t.wt<m→t.stl→t.sc (k0+u)→k0+u+2 * t.wt≤900000→∃f,Au f s 0 t (FK 0 u)=some (t.val u,s,0):=by
 intro m
 induction m with
 | zero=>intro t u h;omega
 | succ m ih =>
  intro t u hw hst hsc hb;obtain ⟨op,n,ks⟩:=t;rw [Tm.stl] at hst;rw [Tm.sc] at hsc;simp only [Tm.wt] at hw hb;by_cases h1o:op=1
  ·subst h1o;rw [if_pos rfl] at hsc;refine ⟨1,?_⟩;rw [Au,if_neg (by simp),if_neg (by rw [BW];omega),if_pos rfl,Tm.val,if_pos rfl,BW];by_cases hn:n<u
   ·rw [if_pos hn,if_pos hsc.2.1.1,UC _ _ _ (by omega)];simp only [AwS,AwP,AwQ,and_true];congr 1;omega
   ·rw [if_neg hn,if_pos (by omega)]
  ·rw [if_neg h1o] at hsc;obtain ⟨f,hf⟩:=QK (s:=s) (u:=u) rfl op ks 0 (fun j t a b=>by
    rw [Nat.zero_add] at b;have hwt:=HO a
    have:=JU hsc.2.2 a
    rw [Nat.zero_add,b,Nat.add_zero] at this;exact ih t u (by omega) (CE hst.2 (List.mem_of_getElem? a)) this (by omega))
   have har:=Wt hsc.1;refine ⟨f+10+1,?_⟩;rw [Au,if_neg (by simp),if_neg (by rw [BW];omega),if_neg h1o,if_neg (by omega),if_neg (by omega)];rw [Dc (ev:=fun s e t=>Au f s e t (FK 0 u)) (fun s e t r h=>Cq (by omega) h) op (FK 0 u) ks 0 s 0 _ hf];simp only;rw [T4 (show 1≤f+10 by omega) (AiA h0 h1 hsc.1 hst.1 u),Tm.val,if_neg h1o]
theorem Ak1 (u b:Nat):FK 0 u++FK (u:Int) b=FK 0 (u+b):=by
 induction b with
 | zero=>simp [FK]
 | succ b ih =>
  rw [Kj,← List.append_assoc,ih,← Nat.add_assoc,Kj];congr 2;simp
theorem OC {s:Int} {u:Nat} {d:Int} (op:Int):∀(l:List Tm) (i:Nat) (nd:Int),0≤nd→u≤800000 →
  (∀(j:Nat) t,l[j]?=some t→∀nd:Int,0≤nd→nd+t.wt≤3000→∃f,(0<Ae op (i+j)→Au f s 0 t (FK 0 (u+Ae op (i+j)))=some (t.val (u+Ae op (i+j)),s,0))∧AS f s nd 0 (t.val (u+Ae op (i+j))) ((u:Int)+Ae op (i+j)) d=some (t,s,nd+t.wt,0)) →
  nd+Tm.wtL l≤3000→∃f,Ba (fun s nd e k u=>AS f s nd e k u d) f op u i (Tm.valL op i l u) s nd 0=some (l,s,nd+Tm.wtL l,0)
 | [],i,nd,_,_,_,_=>⟨0,by simp [Tm.valL,Ba,Tm.wtL]⟩
 | t::l,i,nd,hnd,hu,h,hw=>by
  simp only [Tm.wtL] at hw;obtain ⟨g,hg1,hg2⟩:=h 0 t rfl nd hnd (by omega);rw [Nat.add_zero] at hg1 hg2;obtain ⟨f,hf⟩:=OC (s:=s) (u:=u) (d:=d) op l (i+1) (nd+t.wt) (by omega) hu (fun j t a nd b c=>by
   obtain ⟨f,q1,q2⟩:=h (j+1) t (by simpa using a) nd b c;rw [show i+(j+1)=i+1+j by omega] at q1 q2
   exact ⟨f,q1,q2⟩) (by omega)
  refine ⟨f+g,?_⟩;rw [Tm.valL,Ba];have hbn:=AU op i;have hr:=D1 (show g≤f+g by omega) hg2
  have hk:=Er (f:=f) (g:=f+g) (by omega) (rd:=fun s nd e k u=>AS f s nd e k u d) (rd':=fun s nd e k u=>AS (f+g) s nd e k u d) (fun s nd e k u r h=>D1 (by omega) h) op u _ _ _ _ _ _ hf;by_cases hb:0<Ae op i
  ·rw [if_pos hb,if_pos hb];rw [show (RV.clo (FK 0 u) t).env=FK 0 u from rfl,show (RV.clo (FK 0 u) t).b=t from rfl]
   rw [if_neg (by rw [BW];omega),Ak1,Cq (show g≤f+g by omega) (hg1 hb)]
   simp only;rw [hr];simp only;rw [hk];simp only [AwS,Tm.wtL,AwP,AwQ,true_and,and_true];omega
  ·have hb0:Ae op i=0:=by omega
   rw [hb0] at hr;rw [if_neg hb,if_neg hb,hb0];simp only;simp only [Nat.add_zero] at hr;rw [hr];simp only;rw [hk];simp only [AwS,Tm.wtL,AwP,AwQ,true_and,and_true];omega
theorem Adu:∀{l:List Tm} {j:Nat} {t:Tm},l[j]?=some t→t.dp≤Tm.dpL l
 | [],_,_,h=>by simp at h
 | x::l,0,t,h=>by
  simp only [List.getElem?_cons_zero,AwP] at h;subst h;simp only [Tm.dpL];omega
 | x::l,j+1,t,h=>by
  simp only [List.getElem?_cons_succ] at h
  have:=Adu h
  simp only [Tm.dpL];omega
theorem Ae6 {s:Int} (h0:0≤s) (h1:s≤1000000) (k0:Nat):∀(m:Nat) (t:Tm) (u:Nat) (nd d:Int),t.wt<m→t.stl→t.sc (k0+u)→k0+u+2 * t.wt≤800000→0≤nd→nd+t.wt≤3000→1≤d→d+t.dp≤121→∃f,AS f s nd 0 (t.val u) u d=some (t,s,nd+t.wt,0):=by
 intro m
 induction m with
 | zero=>intro t u nd d h;omega
 | succ m ih =>
  intro t u nd d hw hst hsc hb hnd hnw hd hdd;obtain ⟨op,n,ks⟩:=t;rw [Tm.stl] at hst;rw [Tm.sc] at hsc;simp only [Tm.wt] at hw hb hnw;simp only [Tm.dp] at hdd;have har:=Wt hsc.1;by_cases h1o:op=1
  ·subst h1o;rw [if_pos rfl] at hsc;have hks:ks=[]:=List.eq_nil_of_length_eq_zero (Option.some.inj hsc.1.symm);subst hks;refine ⟨5,?_⟩;rw [Tm.val,if_pos rfl,AS];rw [show (RV.var ((u:Int) - 1 - n)).n=(u:Int) - 1 - n from rfl,show (RV.var ((u:Int) - 1 - n)).k=[] from rfl,show (RV.var ((u:Int) - 1 - n)).op=1 from rfl,List.length_nil]
   rw [if_neg (by omega)];have hc:(if (0:Int)=0∧(3000<nd+1∨120<d) then (5:Int) else 0)=0:=if_neg (by simp only [Tm.wtL] at hnw;omega);rw [hc,if_neg (by simp),if_pos rfl];simp only [AwP,AwQ,Tm.mk.injEq,Tm.wt,Tm.wtL,true_and,and_true];omega
  ·rw [if_neg h1o] at hsc;have hnum:=AgG hsc.2.1;obtain ⟨f,hf⟩:=OC (s:=s) (u:=u) (d:=d+1) op ks 0 (nd+1) (by omega) (by omega) (fun j t a nd b c=>by
    have hwt:=HO a;have hdt:=Adu a;have hsk:=JU hsc.2.2 a;have hbn:=AU op j;rw [Nat.zero_add] at hsk ⊢;have hstl:=CE hst.2 (List.mem_of_getElem? a);obtain ⟨f1,hf1⟩:=ih t (u+Ae op j) nd (d+1) (by omega) hstl (by rw [← Nat.add_assoc];exact hsk) (by omega) b c (by omega) (by omega);obtain ⟨f2,hf2⟩:=Qq h0 h1 k0 (t.wt+1) t (u+Ae op j) (by omega) hstl (by rw [← Nat.add_assoc];exact hsk) (by omega);refine ⟨f1+f2,fun _=>Cq (by omega) hf2,?_⟩
    have:=D1 (show f1≤f1+f2 by omega) hf1
    rw [show ((u+Ae op j:Nat):Int)=(u:Int)+(Ae op j:Int) by omega] at this
    exact this) (by omega)
   refine ⟨f+10+1,?_⟩;rw [Tm.val,if_neg h1o,AS];rw [show (RV.node op n (Tm.valL op 0 ks u)).n=n from rfl,show (RV.node op n (Tm.valL op 0 ks u)).k=Tm.valL op 0 ks u from rfl,show (RV.node op n (Tm.valL op 0 ks u)).op=op from rfl]
   rw [if_neg (by rw [Vr];omega)];have hc:(if (0:Int)=0∧(3000<nd+1∨120<d) then (5:Int) else 0)=0:=if_neg (by omega);rw [hc,if_neg (by simp),if_neg h1o];rw [Er (f:=f) (g:=f+10) (by omega) (rd:=fun s nd e k u=>AS f s nd e k u (d+1)) (rd':=fun s nd e k u=>AS (f+10) s nd e k u (d+1)) (fun s nd e k u r h=>D1 (by omega) h) op u _ _ _ _ _ _ hf];simp only [AwS,AwP,AwQ,Tm.wt,true_and,and_true];omega
theorem Vt {t:Tm} {k:Nat} (hst:t.stl) (hsc:t.sc k) (hk:k≤700000) (hw:t.wt≤3000) (hd:t.dp≤120):∃f,AI f t=some (t,0):=by
 obtain ⟨f1,h1⟩:=Qq (s:=0) (by omega) (by omega) k (t.wt+1) t 0 (by omega) hst (by simpa using hsc) (by omega);obtain ⟨f2,h2⟩:=Ae6 (s:=0) (by omega) (by omega) k (t.wt+1) t 0 0 1 (by omega) hst (by simpa using hsc) (by omega) (by omega) (by omega) (by omega) (by omega);refine ⟨f1+f2,?_⟩;have e0:FK 0 0=[]:=rfl;rw [e0] at h1
 have:=D1 (show f2≤f1+f2 by omega) h2
 rw [AI,Cq (show f1≤f1+f2 by omega) h1]
 simp only;rw [show ((0:Nat):Int)=0 from rfl] at this
 rw [this];simp
theorem Pt {f g:Nat} (hfg:f≤g) {t:Tm} {r:Tm×Int} (h:AI f t=some r):AI g t=some r:=by
 rw [AI] at h ⊢;split at h
 ·cases h
 rename_i v s e he;rw [Cq hfg he];split at h
 ·cases h
 rename_i w s2 nd2 e2 hr;rw [← h];simp only;rw [D1 hfg hr]
theorem Nl {f g:Nat} {t:Tm} {r r':Tm×Int} (h:AI f t=some r) (h':AI g t=some r'):r=r':=by
 have h1:=Pt (show f≤f+g by omega) h
 have h2:=Pt (show g≤f+g by omega) h'
 rw [h1] at h2;exact Option.some.inj h2
mutual
def Tm.vb:Tm→Prop
 | .mk op n ks=>(op=1→n≤4000000000000000000)∧Tm.vbL ks
def Tm.vbL:List Tm→Prop
 | []=>True
 | t::l=>t.vb∧Tm.vbL l
end
mutual
theorem QI:∀(t:Tm) (k:Nat),t.sc k→k+2 * t.wt≤4000000000000000000→t.vb
 | .mk op n ks,k,h,hk=>by
  rw [Tm.sc] at h;rw [Tm.wt] at hk;rw [Tm.vb];refine ⟨fun h1=>?_,scL_vb ks op 0 k h.2.2 (by omega)⟩
  have:=h.2.1
  rw [if_pos h1] at this;omega
theorem scL_vb:∀(l:List Tm) (op:Int) (i k:Nat),Tm.scL op i l k→k+2+2 * Tm.wtL l≤4000000000000000000→Tm.vbL l
 | [],_,_,_,_,_=>by rw [Tm.vbL];trivial
 | t::l,op,i,k,h,hk=>by
  rw [Tm.scL] at h;simp only [Tm.wtL] at hk
  have:=AU op i
  rw [Tm.vbL];exact ⟨QI t _ h.1 (by omega),scL_vb l op (i+1) k h.2 (by omega)⟩
end
inductive ShR (d:Nat):RV→RV→Prop
 | neg (n:Int) (h:n<0):ShR d (.var n) (.var (n - d))
 | pos (n:Int) (h:0≤n):ShR d (.var n) (.var n)
 | node (op n:Int) (k k':List RV) (h1:op≠1) (hl:k'.length=k.length)
   (hk:∀(i:Nat) v v',Ae op i=0→k[i]?=some v→k'[i]?=some v'→ShR d v v')
   (hc:∀(i:Nat) (v v':RV),0<Ae op i→k[i]?=some v→k'[i]?=some v'→v'.b=v.b.shift d (v.env.length+Ae op i:Nat)∧v'.env.length=v.env.length∧v.b.vb)
   (he:∀(i:Nat) (v v':RV) (j:Nat) x x',0<Ae op i→k[i]?=some v→k'[i]?=some v'→v.env[j]?=some x→v'.env[j]?=some x'→ShR d x x'):ShR d (.node op n k) (.node op n k')
def Wj (d:Nat) (env env':List RV):Prop:=env'.length=env.length∧∀(j:Nat) x x',env[j]?=some x→env'[j]?=some x'→ShR d x x'
theorem PZ {d:Nat} {env env' l l':List RV} (h:Wj d env env') (hl:l'.length=l.length) (hx:∀(j:Nat) x x',l[j]?=some x→l'[j]?=some x'→ShR d x x'):Wj d (env++l) (env'++l'):=by
 refine ⟨by simp [h.1,hl],?_⟩;intro j x x' a b;by_cases hj:j<env.length
 ·rw [List.getElem?_append_left hj] at a;rw [List.getElem?_append_left (by rw [h.1];exact hj)] at b;exact h.2 j x x' a b
 ·rw [List.getElem?_append_right (by omega)] at a;rw [List.getElem?_append_right (by rw [h.1];omega),h.1] at b;exact hx _ x x' a b
theorem Jt {d:Nat} {v v':RV} (h:ShR d v v'):v'.op=v.op∧(v.op≠1→v'.n=v.n∧v'.k.length=v.k.length∧v=.node v.op v.n v.k∧v'=.node v.op v.n v'.k ∧
  (∀(i:Nat) x x',Ae v.op i=0→v.k[i]?=some x→v'.k[i]?=some x'→ShR d x x') ∧
  (∀(i:Nat) (x x':RV),0<Ae v.op i→v.k[i]?=some x→v'.k[i]?=some x'→(x'.b=x.b.shift d (x.env.length+Ae v.op i:Nat)∧x.b.vb)∧Wj d x.env x'.env)):=by
 cases h with
 | neg n h=>exact ⟨rfl,fun h=>absurd rfl h⟩
 | pos n h=>exact ⟨rfl,fun h=>absurd rfl h⟩
 | node op n k k' h1 hl hk hc he =>
  refine ⟨rfl,fun _=>⟨rfl,hl,rfl,rfl,hk,fun i x x' a b c=>?_⟩⟩;obtain ⟨q1,q2,q3⟩:=hc i x x' a b c;exact ⟨⟨q1,q3⟩,q2,fun j y y' p q=>he i x x' j y y' a b c p q⟩
theorem OZ {d:Nat} {op n:Int} {k k':List RV} (h1:op≠1) (hl:k'.length=k.length) (hk:∀(i:Nat) v v',Ae op i=0→k[i]?=some v→k'[i]?=some v'→ShR d v v')
  (hc:∀(i:Nat) (x x':RV),0<Ae op i→k[i]?=some x→k'[i]?=some x'→(x'.b=x.b.shift d (x.env.length+Ae op i:Nat)∧x.b.vb)∧Wj d x.env x'.env):ShR d (.node op n k) (.node op n k') :=
 .node op n k k' h1 hl hk (fun i v v' a b c=>⟨(hc i v v' a b c).1.1,(hc i v v' a b c).2.1,(hc i v v' a b c).1.2⟩) (fun i v v' j x x' a b c e f=>(hc i v v' a b c).2.2 j x x' e f)
theorem B6 {l l':List RV} (h:l'.length=l.length) {j:Nat} {x':RV} (hx:l'[j]?=some x'):∃x,l[j]?=some x :=
 ⟨_,List.getElem?_eq_getElem (by rw [← h];exact (List.getElem?_eq_some_iff.1 hx).1)⟩
theorem Up {d:Nat} {env env':List RV} {ev ev':Int→Int→Tm→Option (RV×Int×Int)} (henv:Wj d env env') (op:Int)
  (hev:∀s e t v' s' e',ev' s e (t.shift d env.length)=some (v',s',e')→t.vb→∃v,ev s e t=some (v,s',e')∧ShR d v v') :
  ∀(l:List Tm) (i:Nat) (s e:Int) (vs':List RV) (s' e':Int),AR ev' op env' i (Tm.shiftL op i l d env.length) s e=some (vs',s',e')→Tm.vbL l →
   ∃vs,AR ev op env i l s e=some (vs,s',e')∧vs'.length=vs.length∧(∀(j:Nat) v v',Ae op (i+j)=0→vs[j]?=some v→vs'[j]?=some v'→ShR d v v') ∧
    (∀(j:Nat) (x x':RV),0<Ae op (i+j)→vs[j]?=some x→vs'[j]?=some x'→(x'.b=x.b.shift d (x.env.length+Ae op (i+j):Nat)∧x.b.vb)∧Wj d x.env x'.env)
 | [],i,s,e,vs',s',e',h,hv=>by
  simp only [Tm.shiftL,AR,AwP,AwQ] at h;obtain ⟨rfl,rfl,rfl⟩:=h;exact ⟨[],rfl,rfl,fun j v v' _ h=>by simp at h,fun j v v' _ h=>by simp at h⟩
 | t::l,i,s,e,vs',s',e',h,hv=>by
  rw [Tm.vbL] at hv;rw [Tm.shiftL,AR] at h;by_cases hb:0<Ae op i
  ·rw [if_pos hb] at h;cases hk:AR ev' op env' (i+1) (Tm.shiftL op (i+1) l d env.length) s e with
   | none=>rw [hk] at h;cases h
   | some q =>
    obtain ⟨us',s1,e1⟩:=q;rw [hk] at h;simp only [AwS,AwP,AwQ] at h;obtain ⟨rfl,rfl,rfl⟩:=h;obtain ⟨us,q1,q2,q3,q4⟩:=Up henv op hev l (i+1) s e us' s1 e1 hk hv.2;refine ⟨.clo env t::us,by rw [AR,if_pos hb,q1];rfl,by simp [q2],?_,?_⟩
    ·intro j v v' h0 a b;cases j with
     | zero=>rw [Nat.add_zero] at h0;omega
     | succ j =>
      simp only [List.getElem?_cons_succ] at a b;exact q3 j v v' (by rw [← h0];congr 1;omega) a b
    ·intro j x x' h0 a b;cases j with
     | zero =>
      simp only [List.getElem?_cons_zero,AwP] at a b;subst a b;simp only [Nat.add_zero,RV.clo,RV.b,RV.env];exact ⟨⟨by congr 1,hv.1⟩,henv⟩
     | succ j =>
      simp only [List.getElem?_cons_succ] at a b
      have:=q4 j x x' (by rw [show i+1+j=i+(j+1) by omega];exact h0) a b
      rw [show i+1+j=i+(j+1) by omega] at this
      exact this
  ·rw [if_neg hb] at h;have hb0:Ae op i=0:=by omega
   rw [hb0] at h;simp only [Int.ofNat_zero,Int.add_zero] at h;split at h
   ·cases h
   rename_i v0' s1 e1 hv0;obtain ⟨v0,p1,p2⟩:=hev s e t v0' s1 e1 (by simpa using hv0) hv.1;cases hk:AR ev' op env' (i+1) (Tm.shiftL op (i+1) l d env.length) s1 e1 with
   | none=>rw [hk] at h;cases h
   | some q =>
    obtain ⟨us',s2,e2⟩:=q;rw [hk] at h;simp only [AwS,AwP,AwQ] at h;obtain ⟨rfl,rfl,rfl⟩:=h;obtain ⟨us,q1,q2,q3,q4⟩:=Up henv op hev l (i+1) s1 e1 us' s2 e2 hk hv.2;refine ⟨v0::us,by rw [AR,if_neg hb,p1];simp only;rw [q1];rfl,by simp [q2],?_,?_⟩
    ·intro j v v' h0 a b;cases j with
     | zero =>
      simp only [List.getElem?_cons_zero,AwP] at a b;subst a b;exact p2
     | succ j =>
      simp only [List.getElem?_cons_succ] at a b;exact q3 j v v' (by rw [← h0];congr 1;omega) a b
    ·intro j x x' h0 a b;cases j with
     | zero=>rw [Nat.add_zero] at h0;omega
     | succ j =>
      simp only [List.getElem?_cons_succ] at a b
      have:=q4 j x x' (by rw [show i+1+j=i+(j+1) by omega];exact h0) a b
      rw [show i+1+j=i+(j+1) by omega] at this
      exact this
theorem Po {d f:Nat} {s:Int} {v v' w':RV} {s' e':Int} (hb:Ae v.op 0=0) (hs:ShR d v v') (hv1:v.op≠1) (i:Nat) (o:Int) (ho1:o≠1) (hbi:Ae o i=0)
  (h:(match v'.k[0]? with
   | none=>none
   | some k0=>if k0.op=o then (if s+1≤1000 then (k0.k[i]?).map fun x=>(x,s+1,(0:Int)) else some (v',s+1,17)) else some (v',s,0))=some (w',s',e')) :
  ∃w,(match v.k[0]? with
   | none=>none
   | some k0=>if k0.op=o then (if s+1≤1000 then (k0.k[i]?).map fun x=>(x,s+1,(0:Int)) else some (v,s+1,17)) else some (v,s,0))=some (w,s',e')∧ShR d w w':=by
 obtain ⟨_,a2⟩:=Jt hs;obtain ⟨a3,a4,a5,a6,a7,a8⟩:=a2 hv1;cases hk:v'.k[0]? with
 | none=>rw [hk] at h;cases h
 | some k0' =>
  rw [hk] at h;obtain ⟨k0,hk0⟩:=B6 a4 hk;have hr:=a7 0 k0 k0' hb hk0 hk;obtain ⟨b1,b2⟩:=Jt hr;rw [hk0];simp only at h ⊢;rw [b1] at h;by_cases hop:k0.op=o
  ·rw [if_pos hop] at h ⊢;by_cases hq:s+1≤1000
   ·rw [if_pos hq] at h ⊢;obtain ⟨b3,b4,b5,b6,b7,b8⟩:=b2 (by rw [hop];exact ho1);cases hx:k0'.k[i]? with
    | none=>rw [hx] at h;cases h
    | some x' =>
     rw [hx] at h;simp only [AwS,AwP,AwQ] at h;obtain ⟨rfl,rfl,rfl⟩:=h;obtain ⟨x,hx0⟩:=B6 b4 hx;rw [hx0];exact ⟨x,rfl,b7 i x x' (by rw [hop];exact hbi) hx0 hx⟩
   ·rw [if_neg hq] at h ⊢;simp only [AwP,AwQ] at h;obtain ⟨rfl,rfl,rfl⟩:=h;exact ⟨v,rfl,hs⟩
  ·rw [if_neg hop] at h ⊢;simp only [AwP,AwQ] at h;obtain ⟨rfl,rfl,rfl⟩:=h;exact ⟨v,rfl,hs⟩
theorem ZQ (d:Nat) (hd:d≤1000000):∀f,(∀s e t env env' v' s' e',Au f s e (t.shift d env.length) env'=some (v',s',e')→t.vb→Wj d env env'→∃v,Au f s e t env=some (v,s',e')∧ShR d v v') ∧
  (∀s e v v' w' s' e',headR f s e v'=some (w',s',e')→ShR d v v'→v.op≠1→∃w,headR f s e v=some (w,s',e')∧ShR d w w'):=by
 intro f
 induction f with
 | zero=>exact ⟨(by intro s e t env env' v' s' e' h;rw [Au] at h;cases h),(by intro s e v v' w' s' e' h;rw [headR] at h;cases h)⟩
 | succ f ih =>
  refine ⟨?_,?_⟩
  ·intro s e t env env' v' s' e' h hvb henv;obtain ⟨op,m,ks⟩:=t;rw [Tm.vb] at hvb;rw [Tm.shift] at h;obtain ⟨m',hm'⟩:∃m':Int,m'=(if op=1∧(env.length:Int)≤m then BI (m+d) else m):=⟨_,rfl⟩;rw [← hm',Au] at h;rw [Au];by_cases he:e≠0
   ·rw [if_pos he] at h ⊢;simp only [AwP,AwQ] at h;obtain ⟨rfl,rfl,rfl⟩:=h;exact ⟨_,rfl,OZ (by decide) rfl (fun i v v' _ h=>by simp at h) (fun i v v' _ h=>by simp at h)⟩
   rw [if_neg he] at h ⊢;rw [henv.1] at h;by_cases hl:900000<env.length
   ·rw [if_pos hl] at h;cases h
   rw [if_neg hl] at h ⊢;by_cases h1:op=1
   ·rw [if_pos h1] at h ⊢;by_cases hm:(env.length:Int)≤m
    ·have hw:BI (m+d)=m+d:=by rw [As (by omega) (by have:=hvb.1 h1;omega)]
     rw [if_pos ⟨h1,hm⟩,hw] at hm';rw [if_neg (by omega)] at h;rw [if_neg (by omega)];split at h
     ·simp only [AwP,AwQ] at h;obtain ⟨rfl,rfl,rfl⟩:=h;rw [if_pos (by omega),hm'];refine ⟨_,rfl,?_⟩
      have:=ShR.neg (d:=d) ((env.length:Int) - 1 - m) (by omega)
      rw [show (env.length:Int) - 1 - m - d=(env.length:Int) - 1 - (m+d) by omega] at this
      exact this
     ·cases h
    ·rw [if_neg (fun h=>hm h.2)] at hm';rw [hm'] at h;rw [if_pos (by omega)] at h;rw [if_pos (by omega)];split at h
     ·rename_i h0;rw [if_pos h0];cases hx:env'[((env.length:Int) - 1 - m).toNat]? with
      | none=>rw [hx] at h;cases h
      | some x' =>
       rw [hx] at h;simp only [AwS,AwP,AwQ] at h;obtain ⟨rfl,rfl,rfl⟩:=h;obtain ⟨x,hx0⟩:=B6 henv.1 hx;rw [hx0];exact ⟨x,rfl,henv.2 _ x x' hx0 hx⟩
     ·cases h
   ·rw [if_neg h1] at h ⊢;rw [if_neg (fun h=>h1 h.1)] at hm';rw [hm'] at h;rw [Ew] at h;split at h
    ·cases h
    rename_i h2;rw [if_neg h2];split at h
    ·cases h
    rename_i h3;rw [if_neg h3];split at h
    ·cases h
    rename_i vs' s1 e1 hk;obtain ⟨vs,q1,q2,q3,q4⟩:=Up (ev:=fun s e t=>Au f s e t env) henv op (fun s e t v' s' e' a b=>ih.1 s e t env env' v' s' e' a b henv) ks 0 s e vs' s1 e1 hk hvb.2;rw [q1];simp only;simp only [Nat.zero_add] at q3 q4;exact ih.2 _ _ _ _ _ _ _ h (OZ h1 q2 q3 q4) h1
  ·intro s e v v' w' s' e' h hs hv1;obtain ⟨a1,a2⟩:=Jt hs;obtain ⟨a3,a4,a5,a6,a7,a8⟩:=a2 hv1;rw [headR] at h ⊢;rw [a1] at h;by_cases he:e≠0
   ·rw [if_pos he] at h ⊢;simp only [AwP,AwQ] at h;obtain ⟨rfl,rfl,rfl⟩:=h;exact ⟨v,rfl,hs⟩
   rw [if_neg he] at h ⊢;have he0:e=0:=by omega
   subst he0;split at h
   ·cases h
   rename_i hsb;rw [if_neg hsb];by_cases h5:v.op=5
   ·rw [if_pos h5] at h ⊢;cases hk:v'.k[0]? with
    | none=>rw [hk] at h;cases h
    | some k0' =>
     rw [hk] at h;obtain ⟨k0,hk0⟩:=B6 a4 hk;have hr:=a7 0 k0 k0' (by rw [h5];rfl) hk0 hk;obtain ⟨b1,b2⟩:=Jt hr;rw [hk0];simp only at h ⊢;rw [b1] at h;by_cases hop:k0.op=4
     ·rw [if_pos hop] at h ⊢;by_cases hq:s+1≤1000
      ·rw [if_pos hq] at h ⊢;obtain ⟨b3,b4,b5,b6,b7,b8⟩:=b2 (by rw [hop];decide);cases hc:k0'.k[1]? with
       | none=>rw [hc] at h;cases h
       | some c' =>
       cases hx:v'.k[1]? with
       | none=>rw [hc,hx] at h;cases h
       | some x' =>
        rw [hc,hx] at h;obtain ⟨c,hc0⟩:=B6 b4 hc;obtain ⟨x,hx0⟩:=B6 a4 hx;have hxr:=a7 1 x x' (by rw [h5];rfl) hx0 hx;obtain ⟨⟨c1,c2⟩,c3⟩:=b8 1 c c' (by rw [hop];decide) hc0 hc;rw [hc0,hx0];simp only at h ⊢;rw [c3.1] at h;split at h
        ·cases h
        rename_i hcl;rw [if_neg hcl];rw [hop,show Ae 4 1=1 from rfl] at c1
        rw [c1] at h;have henv:=PZ (l:=[x]) (l':=[x']) c3 rfl (fun j y y' a b=>by
         cases j with
         | zero =>
          simp only [List.getElem?_cons_zero,AwP] at a b;subst a b;exact hxr
         | succ j=>simp at a)
        exact ih.1 _ _ c.b (c.env++[x]) _ _ _ _ (by rw [List.length_append];exact h) c2 henv
      ·rw [if_neg hq] at h ⊢;simp only [AwP,AwQ] at h;obtain ⟨rfl,rfl,rfl⟩:=h;exact ⟨v,rfl,hs⟩
     ·rw [if_neg hop] at h ⊢;simp only [AwP,AwQ] at h;obtain ⟨rfl,rfl,rfl⟩:=h;exact ⟨v,rfl,hs⟩
   rw [if_neg h5] at h ⊢;by_cases h89:v.op=8∨v.op=9
   ·rw [if_pos h89] at h ⊢;exact Po (f:=f) (by rcases h89 with h | h<;>rw [h]<;>rfl) hs hv1 (1+v.op - 8).toNat 7 (by decide) (by simp [Ae]) h
   rw [if_neg h89] at h ⊢;by_cases h30:v.op=30
   ·rw [if_pos h30] at h ⊢;exact Po (f:=f) (by rw [h30];rfl) hs hv1 0 19 (by decide) rfl h
   rw [if_neg h30] at h ⊢;by_cases h19:v.op=19
   ·rw [if_pos h19] at h ⊢;exact Po (f:=f) (by rw [h19];rfl) hs hv1 0 30 (by decide) rfl h
   rw [if_neg h19] at h ⊢;by_cases h13:v.op=13
   ·rw [if_pos h13] at h ⊢;cases hk0:v'.k[0]? with
    | none=>rw [hk0] at h;cases h
    | some k0' =>
    cases hk1:v'.k[1]? with
    | none=>rw [hk0,hk1] at h;cases h
    | some k1' =>
    cases hk2:v'.k[2]? with
    | none=>rw [hk0,hk1,hk2] at h;cases h
    | some k2' =>
    cases hk3:v'.k[3]? with
    | none=>rw [hk0,hk1,hk2,hk3] at h;cases h
    | some k3' =>
     rw [hk0,hk1,hk2,hk3] at h;obtain ⟨k0,g0⟩:=B6 a4 hk0;obtain ⟨k1,g1⟩:=B6 a4 hk1;obtain ⟨k2,g2⟩:=B6 a4 hk2;obtain ⟨k3,g3⟩:=B6 a4 hk3;rw [g0,g1,g2,g3];simp only at h ⊢;have r1:=a7 1 k1 k1' (by rw [h13];rfl) g1 hk1;have r3:=a7 3 k3 k3' (by rw [h13];rfl) g3 hk3;obtain ⟨b1,b2⟩:=Jt r3;rw [b1] at h;split at h
     ·rename_i h11;rw [if_pos h11];split at h
      ·rename_i hq;rw [if_pos hq];simp only [AwP,AwQ] at h;obtain ⟨rfl,rfl,rfl⟩:=h;exact ⟨k1,rfl,r1⟩
      ·rename_i hq;rw [if_neg hq];simp only [AwP,AwQ] at h;obtain ⟨rfl,rfl,rfl⟩:=h;exact ⟨v,rfl,hs⟩
     ·rename_i h11;rw [if_neg h11];split at h
      ·rename_i h12;rw [if_pos h12];split at h
       ·rename_i hq;rw [if_pos hq];obtain ⟨b3,b4,b5,b6,b7,b8⟩:=b2 (by rw [h12];decide);cases hx:k3'.k[0]? with
        | none=>rw [hx] at h;cases h
        | some x' =>
         rw [hx] at h;obtain ⟨x,hx0⟩:=B6 b4 hx;have rx:=b7 0 x x' (by rw [h12];rfl) hx0 hx;rw [hx0];simp only at h ⊢;split at h
         ·cases h
         rename_i w2' s5 e5 hw;obtain ⟨⟨c1,c2⟩,c3⟩:=a8 2 k2 k2' (by rw [h13];decide) g2 hk2;have c0:=a8 0 k0 k0' (by rw [h13];decide) g0 hk0;rw [h13] at c0 c1;have hn:ShR d (.node 13 0 [k0,k1,k2,x]) (.node 13 0 [k0',k1',k2',x']):=by
          refine OZ (by decide) rfl ?_ ?_
          ·intro i y y' hb a b
           match i with
           | 0=>exact absurd hb (by decide)
           | 1=>simp at a b;subst a b;exact r1
           | 2=>exact absurd hb (by decide)
           | 3=>simp at a b;subst a b;exact rx
           | i+4=>simp at a
          ·intro i y y' hb a b
           match i with
           | 0=>simp at a b;subst a b;exact c0
           | 1=>exact absurd hb (by decide)
           | 2=>simp at a b;subst a b;exact ⟨⟨c1,c2⟩,c3⟩
           | 3=>exact absurd hb (by decide)
           | i+4=>simp at a
         obtain ⟨w2,p1,p2⟩:=ih.2 _ _ _ _ _ _ _ hw hn (by simp [RV.node,RV.op]);rw [p1];simp only;rw [c3.1] at h;split at h
         ·cases h
         rename_i hcl;rw [if_neg hcl];rw [c1] at h;have henv:=PZ (l:=[x,w2]) (l':=[x',w2']) c3 rfl (fun j y y' a b=>by
          match j with
          | 0=>simp at a b;subst a b;exact rx
          | 1=>simp at a b;subst a b;exact p2
          | j+2=>simp at a)
         exact ih.1 _ _ k2.b (k2.env++[x,w2]) _ _ _ _ (by rw [List.length_append];exact h) c2 henv
       ·rename_i hq;rw [if_neg hq];simp only [AwP,AwQ] at h;obtain ⟨rfl,rfl,rfl⟩:=h;exact ⟨v,rfl,hs⟩
      ·rename_i h12;rw [if_neg h12];simp only [AwP,AwQ] at h;obtain ⟨rfl,rfl,rfl⟩:=h;exact ⟨v,rfl,hs⟩
   rw [if_neg h13] at h ⊢;simp only [AwP,AwQ] at h;obtain ⟨rfl,rfl,rfl⟩:=h;exact ⟨v,rfl,hs⟩
theorem Vk {d f:Nat} (hd:d≤1000000) {rd:Int→Int→Int→RV→Int→Option (Tm×Int×Int×Int)} {u:Nat}
  (hrd:∀s nd e v v' (u:Nat) t' s' nd' e',rd s nd e v' u=some (t',s',nd',e')→ShR d v v'→∃t,rd s nd e v u=some (t,s',nd',e')∧t'=t.shift d u) (op:Int) :
  ∀(l l':List RV) (i:Nat) (s nd e:Int) (ts':List Tm) (s' nd' e':Int),Ba rd f op u i l' s nd e=some (ts',s',nd',e')→l'.length=l.length →
   (∀(j:Nat) v v',Ae op (i+j)=0→l[j]?=some v→l'[j]?=some v'→ShR d v v') →
   (∀(j:Nat) (x x':RV),0<Ae op (i+j)→l[j]?=some x→l'[j]?=some x'→(x'.b=x.b.shift d (x.env.length+Ae op (i+j):Nat)∧x.b.vb)∧Wj d x.env x'.env) →
   ∃ts,Ba rd f op u i l s nd e=some (ts,s',nd',e')∧ts'=Tm.shiftL op i ts d u
 | [],[],i,s,nd,e,ts',s',nd',e',h,_,_,_=>by
  simp only [Ba,AwP,AwQ] at h;obtain ⟨rfl,rfl,rfl,rfl⟩:=h;exact ⟨[],rfl,rfl⟩
 | k::l,k'::l',i,s,nd,e,ts',s',nd',e',h,hl,hk,hc=>by
  simp only [Ba] at h ⊢;split at h
  ·cases h
  rename_i y' s1 e1 hy;split at h
  ·cases h
  rename_i t' s2 nd2 e2 ht;have hkey:∃y,(if 0<Ae op i then (if 900000<k.env.length then none else Au f s e k.b (k.env++FK u (Ae op i))) else some (k,s,e))=some (y,s1,e1)∧ShR d y y':=by
   by_cases hb:0<Ae op i
   ·rw [if_pos hb] at hy ⊢;obtain ⟨⟨c1,c2⟩,c3⟩:=hc 0 k k' (by rw [Nat.add_zero];exact hb) rfl rfl;rw [c3.1] at hy;split at hy
    ·cases hy
    rename_i hcl;rw [if_neg hcl];rw [c1,Nat.add_zero] at hy;have henv:=PZ (l:=FK u (Ae op i)) (l':=FK u (Ae op i)) c3 rfl (fun j y y' a b=>by
     have hj:j<Ae op i:=by
      have:=(List.getElem?_eq_some_iff.1 a).1
      rw [BW] at this;exact this
     rw [UC _ _ _ hj,AwP] at a b;subst a b;exact .pos _ (by omega))
    exact (ZQ d hd f).1 _ _ k.b (k.env++FK u (Ae op i)) _ _ _ _ (by rw [List.length_append,BW];exact hy) c2 henv
   ·rw [if_neg hb] at hy ⊢;simp only [AwP,AwQ] at hy;obtain ⟨rfl,rfl,rfl⟩:=hy;exact ⟨k,rfl,hk 0 k k' (by rw [Nat.add_zero];omega) rfl rfl⟩
  obtain ⟨y,p1,p2⟩:=hkey;rw [p1];simp only;obtain ⟨t,q1,q2⟩:=hrd _ _ _ y y' (u+Ae op i) t' s2 nd2 e2 (by rw [show ((u+Ae op i:Nat):Int)=(u:Int)+(Ae op i:Int) by omega];exact ht) p2
  rw [show ((u+Ae op i:Nat):Int)=(u:Int)+(Ae op i:Int) by omega] at q1
  rw [q1];simp only;cases hr:Ba rd f op u (i+1) l' s2 nd2 e2 with
  | none=>rw [hr] at h;cases h
  | some q =>
   obtain ⟨us',s3,nd3,e3⟩:=q;rw [hr] at h;simp only [AwS,AwP,AwQ] at h;obtain ⟨rfl,rfl,rfl,rfl⟩:=h;obtain ⟨us,r1,r2⟩:=Vk hd hrd op l l' (i+1) s2 nd2 e2 us' s3 nd3 e3 hr (by simpa using hl) (fun j v v' a b c=>hk (j+1) v v' (by rw [← a];congr 1;omega) (by simpa using b) (by simpa using c)) (fun j x x' a b c=>by
    have:=hc (j+1) x x' (by rw [show i+(j+1)=i+1+j by omega];exact a) (by simpa using b) (by simpa using c)
    rw [show i+(j+1)=i+1+j by omega] at this
    exact this)
   rw [r1];refine ⟨t::us,rfl,?_⟩;rw [Tm.shiftL,r2,q2];rw [show ((u+Ae op i:Nat):Int)=(u:Int)+(Ae op i:Int) by omega]
 | [],_::_,_,_,_,_,_,_,_,_,_,hl,_,_=>by simp at hl
 | _::_,[],_,_,_,_,_,_,_,_,_,hl,_,_=>by simp at hl
theorem Aj1 (d:Nat) (hd:d≤1000000):∀f s nd e v v' (u:Nat) dd t' s' nd' e',AS f s nd e v' u dd=some (t',s',nd',e')→ShR d v v'→∃t,AS f s nd e v u dd=some (t,s',nd',e')∧t'=t.shift d u:=by
 intro f
 induction f with
 | zero=>intro s nd e v v' u dd t' s' nd' e' h;rw [AS] at h;cases h
 | succ f ih =>
  intro s nd e v v' u dd t' s' nd' e' h hs;rw [AS] at h ⊢;by_cases h1:v.op=1
  ·obtain ⟨n,n',rfl,rfl,hn⟩:∃n n':Int,v=.var n∧v'=.var n'∧(n<0∧n'=n - d∨0≤n∧n'=n):=by
    cases hs with
    | neg n hn=>exact ⟨n,_,rfl,rfl,.inl ⟨hn,rfl⟩⟩
    | pos n hn=>exact ⟨n,n,rfl,rfl,.inr ⟨hn,rfl⟩⟩
    | node op n k k' h1'=>exact absurd h1 h1'
   rw [show (RV.var n').n=n' from rfl,show (RV.var n').k=[] from rfl,show (RV.var n').op=1 from rfl,List.length_nil] at h
   rw [show (RV.var n).n=n from rfl,show (RV.var n).k=[] from rfl,show (RV.var n).op=1 from rfl,List.length_nil]
   by_cases hb:nd<0∨1000000<nd∨(u:Int)<0∨1000000<(u:Int)∨dd<0∨1000000<dd∨n' < -2305843009213693952∨2305843009213693952<n'∨f≤0∨900000<0∨f≤3
   ·rw [if_pos hb] at h;cases h
   rw [if_neg hb] at h;rw [if_neg (by omega)];by_cases hne:(if e=0∧(3000<nd+1∨120<dd) then (5:Int) else e)≠0
   ·rw [if_pos hne] at h ⊢;simp only [AwP,AwQ] at h;obtain ⟨rfl,rfl,rfl,rfl⟩:=h;exact ⟨_,rfl,rfl⟩
   ·rw [if_neg hne,if_pos rfl] at h ⊢;simp only [AwP,AwQ] at h;obtain ⟨rfl,rfl,rfl,rfl⟩:=h;refine ⟨_,rfl,?_⟩;rw [Tm.shift,Tm.shiftL];rcases hn with ⟨hn,rfl⟩ | ⟨hn,rfl⟩
    ·rw [if_pos ⟨rfl,by omega⟩,As (by omega) (by omega)];congr 1;omega
    ·rw [if_neg (by omega)]
  obtain ⟨a1,a2⟩:=Jt hs;rw [a1] at h;split at h
  ·cases h
  rename_i hbad
  ·obtain ⟨a3,a4,a5,a6,a7,a8⟩:=a2 h1
   first | rw [if_neg h1] at h | skip
   rw [if_neg h1];rw [a3,a4] at hbad;rw [a3] at h;rw [if_neg hbad];by_cases hne:(if e=0∧(3000<nd+1∨120<dd) then (5:Int) else e)≠0
   ·rw [if_pos hne] at h ⊢;simp only [AwP,AwQ] at h;obtain ⟨rfl,rfl,rfl,rfl⟩:=h;exact ⟨_,rfl,rfl⟩
   ·rw [if_neg hne] at h ⊢;cases hr:Ba (fun s nd e k u=>AS f s nd e k u (dd+1)) f v.op u 0 v'.k s (nd+1) 0 with
    | none=>rw [hr] at h;cases h
    | some q =>
     obtain ⟨us',s3,nd3,e3⟩:=q;rw [hr] at h;simp only [AwS,AwP,AwQ] at h;obtain ⟨rfl,rfl,rfl,rfl⟩:=h;obtain ⟨us,r1,r2⟩:=Vk hd (rd:=fun s nd e k u=>AS f s nd e k u (dd+1)) (fun s nd e v v' u t' s' nd' e' a b=>ih s nd e v v' u (dd+1) t' s' nd' e' a b) v.op v.k v'.k 0 s (nd+1) 0 us' s3 nd3 e3 hr a4 (fun j x x' a b c=>a7 j x x' (by rw [← a];congr 1;omega) b c) (fun j x x' a b c=>by
      rw [Nat.zero_add] at a ⊢;exact a8 j x x' a b c)
     rw [r1];refine ⟨_,rfl,?_⟩;rw [Tm.shift,if_neg (fun h=>h1 h.1),r2]
theorem Afx {d:Nat} (hd:d≤1000000) {f:Nat} {t u':Tm} {e':Int} (h:AI f (t.shift d 0)=some (u',e')) (hvb:t.vb):∃u,AI f t=some (u,e')∧u'=u.shift d 0:=by
 rw [AI] at h ⊢;split at h
 ·cases h
 rename_i v' s e he;obtain ⟨v,p1,p2⟩:=(ZQ d hd f).1 0 0 t [] [] v' s e (by simpa using he) hvb ⟨rfl,fun j x x' a=>by simp at a⟩;rw [p1];simp only;split at h
 ·cases h
 rename_i w' s2 nd2 e2 hr;obtain ⟨w,q1,q2⟩:=Aj1 d hd f s 0 e v v' 0 1 w' s2 nd2 e2 (by simpa using hr) p2;rw [show ((0:Nat):Int)=0 from rfl] at q1 q2
 rw [q1];simp only [AwP] at h ⊢;by_cases h2:e2≠0
 ·rw [if_pos h2] at h ⊢;simp only [AwQ] at h;obtain ⟨rfl,rfl⟩:=h;exact ⟨_,rfl,rfl⟩
 ·rw [if_neg h2] at h ⊢;simp only [AwQ] at h;obtain ⟨rfl,rfl⟩:=h;exact ⟨_,rfl,q2⟩
end Idl
end Go.Proofs.Ytaifgaidaglblaa

/- Part 3 of a proof. No statement is proved here. -/
import Derived.LoopN
import Derived.Test.YtnenpcghegcnhaaGreatKernelShiftK2
set_option linter.all false
set_option maxRecDepth 20000
set_option maxHeartbeats 16000000
noncomputable section
namespace Go.Proofs.YtnenpcghegcnhaaGreat
namespace Idl
section
variable {μ:Ref->Nat} {w:World} {F:B3} {hp hp':Hp}
theorem Qy:∀(is:List Nat) {slots:List IV} {tmps:Array Value},SlotsR μ w F hp slots tmps->SlotsR μ w F hp (Be is slots) tmps
 | [],_,_,h=>h
 | i::is,slots,tmps,h=>by
  refine Qy is ⟨by simp [h.size],fun j v hv=>?_⟩;by_cases e:i=j
  ·subst e;by_cases hl:i<slots.length
   ·rw [List.getElem?_set_self hl] at hv;cases hv;exact .dead _
   ·rw [List.getElem?_eq_none (by simp;omega)] at hv;cases hv
  ·rw [List.getElem?_set_ne e] at hv;exact h.at_ j v hv
end
theorem It (gone:List Nat) (k:Nat):∀(l:List (Nat×Blk)),Ap k (l.filter fun p=>!gone.contains p.1)=if gone.contains k then none else Ap k l
 | []=>by simp [Ap]
 | (j,b)::l=>by
  have ih:=It gone k l;by_cases hj:gone.contains j=true
  ·rw [List.filter_cons_of_neg (by simpa using hj),ih];by_cases hk:gone.contains k=true
   ·rw [if_pos hk,if_pos hk]
   ·have:k≠j:=fun e=>hk (e ▸ hj)
    rw [if_neg hk,if_neg hk];simp [Ap,this]
  ·rw [List.filter_cons_of_pos (by simpa using hj)];by_cases hkj:k=j
   ·subst hkj;rw [if_neg hj];simp [Ap]
   ·simp only [Ap,if_neg hkj];exact ih
theorem IP {k:Nat} {b:Blk}:∀{l:List (Nat×Blk)},Ap k l=some b->(k,b)∈l
 | [],h=>by cases h
 | (j,c)::l,h=>by
  simp only [Ap] at h;split at h
  ·rename_i e;subst e;simp only [AiZ] at h;subst h;exact Aji
  ·exact Ajj _ (IP h)
theorem HD {gone:List Nat}:∀{l:List Ref},anyIn gone l=false->∀k,Ref.own k∈l->gone.contains k=false
 | [],_,k,h=>by cases h
 | .own j::l,h,k,hk=>by
  simp only [anyIn,Bool.or_eq_false_iff] at h;rcases Ajp.1 hk with e | e
  ·cases e;exact h.1
  ·exact HD h.2 k e
 | .ext j::l,h,k,hk=>by
  simp only [anyIn] at h;rcases Ajp.1 hk with e | e
  ·cases e
  ·exact HD h k e
section
variable {E:Env} {ih:Ah} {μ0:Ref->Nat} {w0:World} {F0:B3} {hp0:Hp} {base:List Nat} {a:Act} {w:World}
theorem oK (hb:∀k,(hp0.get (.own k)).isSome->k∈base) {kills rm:List Nat} {S S':St} (h:CR base kills rm S=some S') (hat:At μ0 w0 F0 hp0 S a w):At μ0 w0 F0 hp0 S' a w:=by
 obtain ⟨hd,μ,F,hs,hr,st⟩:=hat;unfold CR at h;split at h
 ·cases h
 rename_i hbase
 dsimp only at h
 split at h
 ·simp only [AiZ] at h;subst h;exact ⟨hd,μ,F,Qy kills hs,hr,st⟩
 ·split at h
  ·cases h
  ·rename_i hany;simp only [AiZ] at h;generalize hg:(rm.filter fun k=>!anyIn [k] (IV.refs.refsL (Be kills S.slots)++(S.hp.own.filter fun p=>!rm.contains p.1).flatMap (fun p=>p.2.refs)++S.hp.ext.flatMap Blk.refs))=gone at h hany;have hsub:∀k,gone.contains k=true->k∈rm:=fun k hk=>by
    rw [List.contains_iff_mem,<- hg] at hk;exact (List.mem_filter.1 hk).1
   have hnb:∀k,(hp0.get (.own k)).isSome->gone.contains k=false:=fun k hk=>by
    cases hc:gone.contains k with
    | false=>rfl
    | true =>exfalso;refine hbase ?_;rw [List.any_eq_true];exact ⟨k,hsub k hc,by simpa using hb k hk⟩
   have hget:∀r,S'.hp.get r=match r with | .own k=>if gone.contains k then none else S.hp.get (.own k) | .ext j=>S.hp.get (.ext j):=fun r=>by
    rw [<- h];cases r with
    | own k=>exact It gone k S.hp.own
    | ext j=>rfl
   have hof:∀r b,S'.hp.get r=some b->S.hp.get r=some b:=fun r b hb=>by
    rw [hget] at hb;cases r with
    | own k =>
          simp only at hb;split at hb;· cases hb
          ·exact hb
    | ext j=>exact hb
   have hany':anyIn gone (De S')=false:=by rw [<- h];simpa using hany
   have href:∀r∈De S',S'.hp.get r=S.hp.get r:=fun r hr'=>by
    rw [hget];cases r with
    | own k=>simp only;rw [if_neg (by rw [HD hany' k hr'];simp)]
    | ext j=>rfl
   have hkeep:∀r,(hp0.get r).isSome->S'.hp.get r=S.hp.get r:=fun r hr'=>by
    rw [hget];cases r with
    | own k=>simp only;rw [if_neg (by rw [hnb k hr'];simp)]
    | ext j=>rfl
   have hsl:S'.slots=Be kills S.slots:=by rw [<- h]
   refine ⟨hd,μ,F,⟨?_,fun i v hv=>?_⟩,⟨fun r b hb'=>?_,fun r s h1 h2 e=>?_,hr.wf⟩,⟨st.ws,st.sub,fun r cs ro h1=>?_,fun r es h1=>?_,fun r n sz h1=>?_,fun r h1 h2=>?_,st.frame,st.newF⟩⟩
   ·rw [hsl];exact (Qy kills hs).size
   ·have:=(Qy kills hs).at_ i v (by rw [<- hsl];exact hv)
    refine PG this fun r hr'=>href r ?_;simp only [De,Ajk];exact .inl (.inl (Dx.2 ⟨v,Aje hv,hr'⟩))
   ·refine WU (hr.blk r b (hof r b hb')) fun r' hr'=>href r' ?_;simp only [De,Ajk,List.mem_flatMap];cases r with
    | own k=>exact .inl (.inr ⟨(k,b),IP hb',hr'⟩)
    | ext j=>exact .inr ⟨b,Aje hb',hr'⟩
   ·obtain ⟨b1,h1⟩:=Option.isSome_iff_exists.1 h1;obtain ⟨b2,h2⟩:=Option.isSome_iff_exists.1 h2;exact hr.inj r s (by rw [hof r b1 h1];rfl) (by rw [hof s b2 h2];rfl) e
   ·rw [hkeep r (by rw [h1];rfl)];exact st.row r cs ro h1
   ·rw [hkeep r (by rw [h1];rfl)];exact st.map r es h1
   ·rw [hkeep r (by rw [h1];rfl)];exact st.tok r n sz h1
   ·obtain ⟨b,h2⟩:=Option.isSome_iff_exists.1 h2;exact st.new r h1 (by rw [hof r b h2];rfl)
def hI:Ex->Exit
 | .normal=>.normal
 | .exit id=>.exit id
 | .ret=>.ret
theorem U4 (hE:EnvOk E) (hih:R2 E ih) (hb:∀k,(hp0.get (.own k)).isSome->k∈base) {f:FuncId} {k:Nat}:∀(c:Code),DQ c=true->∀{S S':St} {ex:Ex},D4 E ih f k base c S=some (ex,S') ->
  ∀{a:Act} {w:World} (Q:Exit->Act->World->Prop),At μ0 w0 F0 hp0 S a w->(∀a' w',At μ0 w0 F0 hp0 S' a' w'->Q (hI ex) a' w')->c.wp E.P Q a w:=by
 intro c
 induction c with
 | skip =>intro _ S S' ex h a w Q hat hQ;simp only [D4,AiZ,Ai0] at h;obtain ⟨rfl,rfl⟩:=h;exact wp_skip (hQ a w hat)
 | region rid ops d =>
  intro hc S S' ex h a w Q hat hQ;simp only [D4,Ai1,Ai0] at h;obtain ⟨S1,h1,rfl,rfl⟩:=h;cases d with
  | false =>simp only [Ajx,if_false] at h1;exact wp_region (NT hE hih _ h1 hat hQ)
  | true =>simp only [if_true] at h1;exact XW hE hih (by simpa [DQ] using hc) h1 hat hQ
 | seq x y ihx ihy =>
  intro hc S S' ex h a w Q hat hQ;simp only [DQ,Ajz] at hc;simp only [D4] at h;refine wp_seq ?_;cases hx:D4 E ih f k base x S with
  | none=>rw [hx] at h;cases h
  | some r =>
   obtain ⟨e1,S1⟩:=r;rw [hx] at h;cases e1 with
   | normal=>exact ihx hc.1 hx _ hat fun a' w' hat'=>ihy hc.2 h Q hat' hQ
   | exit id =>simp only [AiZ,Ai0] at h;obtain ⟨rfl,rfl⟩:=h;exact ihx hc.1 hx _ hat hQ
   | ret =>simp only [AiZ,Ai0] at h;obtain ⟨rfl,rfl⟩:=h;exact ihx hc.1 hx _ hat hQ
 | cond c x y ihx ihy =>
  intro hc S S' ex h a w Q hat hQ;simp only [DQ,Ajz] at hc;simp only [D4] at h;obtain ⟨hd,μ,F,hs,hr,st⟩:=hat;have hop:=AB hs c;split at h
  ·rename_i he;rw [he] at hop;generalize hv:a.eval c=v at hop;cases hop with | fv _ _ hop =>cases hop;exact wp_cond_true hv (ihx hc.1 h Q ⟨hd,μ,F,hs,hr,st⟩ hQ)
  ·rename_i he;rw [he] at hop;generalize hv:a.eval c=v at hop;cases hop with | fv _ _ hop =>cases hop;exact wp_cond_false hv (ihy hc.2 h Q ⟨hd,μ,F,hs,hr,st⟩ hQ)
  ·cases h
 | block id x ihx =>
  intro hc S S' ex h a w Q hat hQ;simp only [DQ] at hc;simp only [D4] at h;refine wp_block ?_;cases hx:D4 E ih f k base x S with
  | none=>rw [hx] at h;cases h
  | some r =>
   obtain ⟨e1,S1⟩:=r;rw [hx] at h;refine ihx hc hx _ hat fun a' w' hat'=>?_;cases e1 with
   | normal =>simp only [AiZ,Ai0] at h;obtain ⟨rfl,rfl⟩:=h;exact hQ a' w' hat'
   | exit j =>
    simp only at h;simp only [hI,Exit.inBlock];by_cases hj:j=id
    ·rw [if_pos hj] at h ⊢;simp only [AiZ,Ai0] at h;obtain ⟨rfl,rfl⟩:=h;exact hQ a' w' hat'
    ·rw [if_neg hj] at h ⊢;simp only [AiZ,Ai0] at h;obtain ⟨rfl,rfl⟩:=h;exact hQ a' w' hat'
   | ret =>simp only [AiZ,Ai0] at h;obtain ⟨rfl,rfl⟩:=h;exact hQ a' w' hat'
 | loop x ihx =>
  intro hc S S' ex h a w Q hat hQ;simp only [DQ] at hc;simp only [D4] at h;refine wp_loop_rounds k ?_;have key:∀(n:Nat) {S:St} {a:Act} {w:World},iterate (CR base (E.pol.head f (Cn x)).1 (E.pol.head f (Cn x)).2) (D4 E ih f k base x) n S=some (ex,S') ->
    At μ0 w0 F0 hp0 S a w->Code.rounds E.P x Q n a w:=by
   intro n
   induction n with
   | zero=>intro S a w h;cases h
   | succ n ihn =>
    intro S a w h hat;simp only [iterate] at h;obtain ⟨S1,h1,h2⟩:=Aju.1 h;have hat1:=oK hb h1 hat;rw [rounds_succ];cases hx:D4 E ih f k base x S1 with
    | none=>rw [hx] at h2;cases h2
    | some r =>
     obtain ⟨e1,S2⟩:=r;rw [hx] at h2;cases e1 with
     | normal=>exact ihx hc hx _ hat1 fun a' w' hat'=>ihn h2 hat'
     | exit j =>simp only [AiZ,Ai0] at h2;obtain ⟨rfl,rfl⟩:=h2;exact ihx hc hx _ hat1 hQ
     | ret =>simp only [AiZ,Ai0] at h2;obtain ⟨rfl,rfl⟩:=h2;exact ihx hc hx _ hat1 hQ
  exact key k h hat
 | exit id =>intro _ S S' ex h a w Q hat hQ;simp only [D4,AiZ,Ai0] at h;obtain ⟨rfl,rfl⟩:=h;exact wp_exit (hQ a w hat)
 | ret =>intro _ S S' ex h a w Q hat hQ;simp only [D4,AiZ,Ai0] at h;obtain ⟨rfl,rfl⟩:=h;exact wp_ret (hQ a w hat)
 | _=>intro _ S S' ex h;simp [D4] at h
variable {μ:Ref->Nat} {F:B3}
def Kq (tmps:Array Value):ResultVar->Sem Value
 | .tmp t=>pure (tmps.getD t undef)
 | .cell a t=>do loadVar t (<- asAddr (tmps.getD a undef))
theorem X2 (hE:EnvOk E) {S:St} (hs:SlotsR μ w F S.hp S.slots a.tmps) (hr:HR μ w F S.hp) {r:ResultVar} {v:IV} (h:IJ E S r=some v) :
  ∃x,(Kq a.tmps r).run E.P w=.ok x w/\R μ w F S.hp v x:=by
 cases r with
 | tmp t =>simp only [IJ,AiZ] at h;subst h;exact ⟨_,rfl,AB hs (.tmp t)⟩
 | cell ad t =>
  simp only [IJ] at h;have hx:=AB hs (.tmp ad);simp only [AG,Act.eval] at hx;split at h
  ·rename_i ti r off ht hxe;have hT:=hE.types t ti ht;rw [hxe] at hx;generalize hxv:a.tmps.getD ad undef=xv at hx;cases hx with | ptr _ _ hrow =>
   split at h
   ·rename_i cells ro hb;obtain ⟨c,e,hw,hlen,hcell,_⟩:=hr.blk _ _ hb;have hlt:=IR h (D0 hT);refine ⟨_,?_,K0 h (f:=fun j=>c.getD j undef) hcell⟩;simp only [Kq,hxv,asAddr,Sem.run_bind,Sem.run_pure,Result.andThen_ok];rw [EV hT (μ r) off (fun j=>c.getD (off+j) undef) (fun j hj=>by rw [EG hw,Array.getElem?_eq_getElem (by omega)];simp [show off+j<c.size by omega])]
    cases ti.kind.isAgg<;>simp
   ·cases h
  ·rename_i ti cells off ht hxe;have hT:=hE.types t ti ht;rw [hxe] at hx;generalize hxv:a.tmps.getD ad undef=xv at hx;cases hx with | fv _ _ hx =>
   cases hx with | fp _ _ b base vs hF hc hcs =>
   simp only [Ai1] at h;obtain ⟨v,e1,e2⟩:=h;have hlt:=F7 e1 (D0 hT);rw [<- e2];refine ⟨_,?_,.fv _ _ (GL e1 (f:=vs) hcs)⟩;simp only [Kq,hxv,asAddr,Sem.run_bind,Sem.run_pure,Result.andThen_ok];rw [EV hT b (base+off) (fun j=>vs (off+j)) (fun j hj=>by rw [Nat.add_assoc];exact hc _ (by omega))];cases ti.kind.isAgg<;>simp
  ·cases h
theorem Nl (hE:EnvOk E) {S:St} (hs:SlotsR μ w F S.hp S.slots a.tmps) (hr:HR μ w F S.hp):∀{rs:List ResultVar} {vs:List IV},F4 E S rs=some vs ->
  ∃xs:List Value,(rs.mapM (Kq a.tmps)).run E.P w=.ok xs w/\vs.length=xs.length/\∀(j:Nat) (y:IV),vs[j]?=some y->R μ w F S.hp y (xs.getD j undef)
 | [],vs,h=>by
  simp only [F4,AiZ] at h;subst h;exact ⟨[],rfl,rfl,fun j y hy=>by simp at hy⟩
 | r::rs,vs,h=>by
  simp only [F4,Aju,Ai1] at h;obtain ⟨v,h1,vs',h2,rfl⟩:=h;obtain ⟨x,e1,e2⟩:=X2 hE hs hr h1;obtain ⟨xs,e3,e4,e5⟩:=Nl hE hs hr h2;refine ⟨x::xs,?_,by simp [e4],fun j y hy=>?_⟩
  ·rw [List.mapM_cons];simp only [Sem.run_bind,e1,e3,Result.andThen_ok,Sem.run_pure]
  ·cases j with
   | zero=>simp at hy;subst hy;exact e2
   | succ j=>exact e5 j y (by simpa using hy)
theorem Ud (hE:EnvOk E) {fn:Func} {S:St} (hs:SlotsR μ w F S.hp S.slots a.tmps) (hr:HR μ w F S.hp) {v:IV} (h:GA E S fn.results.toList=some v) :
  ∃x,(results fn a.tmps).run E.P w=.ok x w/\R μ w F S.hp v x:=by
 simp only [GA,Ai1] at h;obtain ⟨vs,h1,h2⟩:=h;obtain ⟨xs,e1,e2,e3⟩:=Nl hE hs hr h1;have hm:(fn.results.mapM (Kq a.tmps)).run E.P w=.ok xs.toArray w:=by rw [Array.mapM_eq_mapM_toList,map_eq_pure_bind];simp only [Sem.run_bind,e1,Result.andThen_ok,Sem.run_pure]
 have hrun:(results fn a.tmps).run E.P w=.ok (if h:xs.toArray.size=1 then xs.toArray[0] else .tuple xs.toArray) w:=by
  have:results fn a.tmps=(fn.results.mapM (Kq a.tmps)) >>= fun vs=>pure (if h:vs.size=1 then vs[0] else .tuple vs):=rfl
  rw [this];simp only [Sem.run_bind,hm,Result.andThen_ok,Sem.run_pure]
 refine ⟨_,hrun,?_⟩;by_cases h1:xs.toArray.size=1
 ·rw [dif_pos h1]
  match xs,h1,e2,e3 with
  | [x],_,e2,e3 =>
   match vs,e2,h2,e3 with
   | [v'],_,h2,e3 =>simp only at h2;subst h2;exact e3 0 v' rfl
 ·rw [dif_neg h1]
  have:CL vs=v:=by
   match vs,e2,h2 with
   | [],_,h2=>exact h2
   | [v'],e2,h2=>simp at e2 h1;omega
   | _::_::_,_,h2=>exact h2
  rw [<- this];exact NP (by simpa using e2) fun j y hy=>by
   have:=e3 j y hy
   rw [Ajd];simpa using this
theorem w8 (hE:EnvOk E):∀n,R2 E (run E n):=by
 intro n
 induction n with
 | zero=>intro f args hp res hp' h;cases h
 | succ n ihn =>
  intro f args hp res hp' h;simp only [run] at h;split at h
  ·cases h
  rename_i fn hfn;split at h
  ·cases h
  rename_i c hc;refine ⟨⟨fn,hfn,by rw [hc];rfl⟩,fun μ w F vals hr hs=>?_⟩;have hbase:∀k,(hp.get (.own k)).isSome->k∈hp.own.map (·.1):=fun k hk=>by
   obtain ⟨b,hb⟩:=Option.isSome_iff_exists.1 hk;exact List.mem_map.2 ⟨(k,b),IP hb,rfl⟩
  have hstart:At μ w F hp ⟨args++List.replicate (fn.ntmps - args.length) .dead,hp⟩ { tmps:=vals++Array.replicate (fn.ntmps - vals.size) undef,defers:=[] } w:=by
   refine ⟨rfl,μ,F,?_,hr,.refl _ _ _ _⟩;refine Mh hs ⟨by simp [hs.size],fun i v hv=>?_⟩;rw [List.getElem?_replicate] at hv;split at hv
   ·cases hv;exact .dead _
   ·cases hv
  have hpost:∀S v,GA E S fn.results.toList=some v->∀a' w',At μ w F hp S a' w' ->
    a'.defers=[]/\∃x,(results fn a'.tmps).run E.P w'=.ok x w'/\∃v' μ' F',Ending.returned x=.returned v'/\Stp μ w F hp μ' w' F' S.hp/\HR μ' w' F' S.hp/\R μ' w' F' S.hp v v':=by
   rintro S v hv a' w' ⟨hd,μ',F',hs',hr',st⟩;obtain ⟨x,h1,h2⟩:=Ud hE hs' hr' hv;exact ⟨hd,x,h1,x,μ',F',rfl,st,hr',h2⟩
  split at h
  ·rename_i S hx;simp only [Ai1,Ai0] at h;obtain ⟨v,h1,rfl,rfl⟩:=h;exact calls_of_wp hfn hc (U4 hE ihn hbase c (hE.code f fn c hfn hc) hx _ hstart fun a' w' hat=>hpost S v h1 a' w' hat)
  ·rename_i S hx;simp only [Ai1,Ai0] at h;obtain ⟨v,h1,rfl,rfl⟩:=h;exact calls_of_wp hfn hc (U4 hE ihn hbase c (hE.code f fn c hfn hc) hx _ hstart fun a' w' hat=>hpost S v h1 a' w' hat)
  ·cases h
end
def Tp:TypeDesc->Option TK
 | .int k=>some (.int k)
 | .bool=>some .bool
 | .string=>some .str
 | .pointer _=>some .ptr
 | .func ..=>some .func
 | .slice e=>some (.slice e)
 | .array n e=>some (.arr n e)
 | .struct fs=>some (.struct (fs.toList.map fun f=>(f.offset,f.type)))
 | .map k e=>some (.map k e)
 | _=>none
def Tn:Value->Bool
 | .agg _=>true
 | _=>false
def fE (P:Program):TK->Bool
 | .struct fs=>fs.all fun p=>(P.info? p.2).isSome
 | _=>true
def lU (P:Program) (t:TypeId):Option TI :=
 match P.info? t,P.underlying t with
 | some i,some d=>match Tp d,i.zero with
  | some k,some z =>
   if z.cells.size=i.size/\Tn z=k.isAgg/\fE P k=true then
    some ⟨i.size,i.bytes,k,z.cells.toList.map Fu⟩ else none
  | _,_=>none
 | _,_=>none
def YW {d:TypeDesc} {k:TK} (h:Tp d=some k):Em d k:=by cases d<;>simp only [Tp,AiZ,reduceCtorEq] at h<;>subst h<;>simp [Em]
def lQ {P:Program} {t:TypeId} {ti:TI} (h:lU P t=some ti):TIok P t ti:=by
 unfold lU at h;split at h
 ·rename_i i d hi hd;split at h
  ·rename_i k z hk hz;split at h
   ·rename_i hc;obtain ⟨c1,c2,c3⟩:=hc;simp only [AiZ] at h;subst h;refine ⟨⟨i,z,hi,rfl,rfl,hz,rfl,c1,fun ha=>?_,fun ha=>?_⟩,⟨d,hd,YW hk⟩,fun fs hf p hp=>?_⟩
    ·rw [<- c2] at ha;cases z<;>simp [Tn] at ha;rfl
    ·rw [<- c2] at ha;cases z<;>simp [Tn] at ha<;>rfl
    ·simp only at hf;subst hf;exact Option.isSome_iff_exists.1 (Ajl.1 c3 p hp)
   ·cases h
  ·cases h
 ·cases h
inductive TTree where
 | nil
 | leaf (t:Nat) (ti:TI)
 | node (m:Nat) (l r:TTree)
def TTree.get:TTree->Nat->Option TI
 | .nil,_=>none
 | .leaf j ti,t=>if Nat.beq t j then some ti else none
 | .node m l r,t=>if Nat.blt t m then l.get t else r.get t
def TTree.leaves:TTree->List (Nat×TI)
 | .nil=>[]
 | .leaf t ti=>[(t,ti)]
 | .node _ l r=>l.leaves++r.leaves
theorem TTree.get_mem:∀{tr:TTree} {t:Nat} {ti:TI},tr.get t=some ti->(t,ti)∈tr.leaves
 | .nil,_,_,h=>by cases h
 | .leaf j ti,t,ti',h=>by
  simp only [TTree.get] at h;split at h
  ·rename_i e;simp only [AiZ] at h;subst h;rw [Nat.eq_of_beq_eq_true e];exact Aji
  ·cases h
 | .node m l r,t,ti,h=>by
  simp only [TTree.get] at h;simp only [TTree.leaves,Ajk];split at h
  ·exact .inl (get_mem h)
  ·exact .inr (get_mem h)
def WX (P : Program) : Bool := P.funcs.toList.all fun fn => fn.body.isNone || !(fn.name == "runtime.NumGoroutine")
def Ww (P:Program):Bool:=P.funcs.toList.all fun fn=>match fn.body with | some c=>DQ c | none=>true
def zD {P:Program} {tr:TTree} {pol:Pol} (h1:tr.leaves.map (fun p=>lU P p.1)=tr.leaves.map (fun p=>some p.2)) (h2:P.follows .mixedOrders=true)
  (h3:WX P=true) (h4:Ww P=true):EnvOk ⟨P,tr.get,pol⟩:=by
 refine ⟨fun t ti h=>lQ ?_,h2,fun f fn hf hb=>?_,fun f fn c hf hc=>?_⟩
 ·have:=List.map_inj_left.1 h1 _ (TTree.get_mem h)
  exact this
 ·have hm:fn∈P.funcs.toList:=by
   have:=Array.mem_of_getElem? hf
   simpa using this
  have:=Ajl.1 h3 fn hm
  simp only [Bool.or_eq_true,Bool.not_eq_true'] at this;rcases this with h | h
  ·cases hq:fn.body with
   | none=>rw [hq] at hb;cases hb
   | some c=>rw [hq] at h;cases h
  ·exact h
 ·have hm:fn∈P.funcs.toList:=by
   have:=Array.mem_of_getElem? hf
   simpa using this
  have:=Ajl.1 h4 fn hm
  rw [hc] at this;exact this
section force
variable {α:Type}
def Ec (m:Nat) (k:Nat->α):α:=Nat.rec (k 0) (fun p _=>k (Nat.succ p)) m
def oB (n:Int) (k:Int->α):α:=match n with
 | .ofNat m=>Ec m fun m=>k (.ofNat m)
 | .negSucc m=>Ec m fun m=>k (.negSucc m)
def fL {β:Type} (g:β->(β->α)->α) (l:List β) (k:List β->α):α :=List.rec (motive:=fun _=>(List β->α)->α) (fun k=>k []) (fun x _ ih k=>g x fun x=>ih fun xs=>k (x::xs)) l k
def W9:Nat->FV->(FV->α)->α
 | 0,v,k=>k v
 | d+1,v,k=>match v with
  | .bool b=>k (.bool b)
  | .int t n=>k (.int t n)
  | .str s=>k (.str s)
  | .nilp=>k .nilp
  | .nilf=>k .nilf
  | .fp cs o=>fL (W9 d) cs fun cs=>k (.fp cs o)
  | .sl cs=>fL (W9 d) cs fun cs=>k (.sl cs)
  | .func fn a b=>fL (W9 d) a fun a=>fL (W9 d) b fun b=>k (.func fn a b)
  | .agg cs=>fL (W9 d) cs fun cs=>k (.agg cs)
  | .tuple cs=>fL (W9 d) cs fun cs=>k (.tuple cs)
def yM:Nat->IV->(IV->α)->α
 | 0,v,k=>k v
 | d+1,v,k=>match v with
  | .dead=>k .dead
  | .fv v=>W9 d v fun v=>k (.fv v)
  | .ptr r o=>Ec o fun o=>k (.ptr r o)
  | .slc r sz n=>Ec n fun n=>k (.slc r sz n)
  | .nils=>k .nils
  | .emp=>k .emp
  | .clip es=>fL (W9 d) es fun es=>k (.clip es)
  | .app r es=>fL (W9 d) es fun es=>k (.app r es)
  | .func fn a b=>fL (yM d) a fun a=>fL (yM d) b fun b=>k (.func fn a b)
  | .agg cs=>fL (yM d) cs fun cs=>k (.agg cs)
  | .tuple cs=>fL (yM d) cs fun cs=>k (.tuple cs)
  | .mapr r=>k (.mapr r)
def fS (v:IV) (k:IV->α):α:=match v with
 | .fv (.int t n)=>oB n fun n=>k (.fv (.int t n))
 | .fv (.bool true)=>k (.fv (.bool true))
 | .fv (.bool false)=>k (.fv (.bool false))
 | v=>yM 3 v k
theorem Ca (m:Nat) (k:Nat->α):Ec m k=k m:=by cases m<;>rfl
theorem XH (n:Int) (k:Int->α):oB n k=k n:=by cases n<;>simp [oB,Ca]
theorem CX {β:Type} {g:β->(β->α)->α} (hg:∀x k,g x k=k x) (l:List β) (k:List β->α):fL g l k=k l:=by
 induction l generalizing k with
 | nil=>rfl
 | cons x l ih =>
  show g x (fun x=>fL g l fun xs=>k (x::xs))=_
  rw [hg,ih]
theorem Nh:∀(d:Nat) (v:FV) (k:FV->α),W9 d v k=k v
 | 0,_,_=>rfl
 | d+1,v,k=>by cases v<;>simp [W9,CX (Nh d)]
theorem aP:∀(d:Nat) (v:IV) (k:IV->α),yM d v k=k v
 | 0,_,_=>rfl
 | d+1,v,k=>by cases v<;>simp [yM,CX (aP d),CX (Nh d),Nh,Ca]
theorem AaO (v:IV) (k:IV->α):fS v k=k v:=by
 unfold fS;split
 ·rw [XH]
 ·rfl
 ·rfl
 ·rw [aP]
end force
inductive SlT where
 | leaf (j:Nat) (v:IV)
 | node (m:Nat) (l r:SlT)
def SlT.get (t:SlT):Nat->IV:=SlT.rec (motive:=fun _=>Nat->IV) (fun j v i=>cond (Nat.beq i j) v .dead) (fun m _ _ gl gr i=>cond (Nat.ble m i) (gr i) (gl i)) t
def SlT.has (t:SlT):Nat->Bool:=SlT.rec (motive:=fun _=>Nat->Bool) (fun j _ i=>Nat.beq i j) (fun m _ _ gl gr i=>cond (Nat.ble m i) (gr i) (gl i)) t
def SlT.set (t:SlT):Nat->IV->SlT :=SlT.rec (motive:=fun _=>Nat->IV->SlT) (fun j v i x=>cond (Nat.beq i j) (.leaf j x) (.leaf j v)) (fun m l r gl gr i x=>cond (Nat.ble m i) (.node m l (gr i x)) (.node m (gl i x) r)) t
def SlT.setK {α:Type} (t:SlT):Nat->IV->(SlT->α)->α :=
 SlT.rec (motive:=fun _=>Nat->IV->(SlT->α)->α) (fun j v i x k=>cond (Nat.beq i j) (k (.leaf j x)) (k (.leaf j v)))
  (fun m l r gl gr i x k=>cond (Nat.ble m i) (gr i x fun r'=>k (.node m l r')) (gl i x fun l'=>k (.node m l' r))) t
def dT:Nat->Nat->Nat->SlT
 | 0,lo,_=>.leaf lo .dead
 | d+1,lo,n=>cond (Nat.ble n 1) (.leaf lo .dead) (Ec (n / 2) fun h=>Ec (lo+h) fun m=>Ec (n - h) fun q=>.node m (dT d lo h) (dT d m q))
theorem Uz {α:Type} (t:SlT) (i:Nat) (x:IV) (k:SlT->α):t.setK i x k=k (t.set i x):=by
 induction t generalizing k with
 | leaf j v=>show cond _ _ _=k (cond _ _ _);cases Nat.beq i j<;>rfl
 | node m l r ihl ihr =>
  show cond _ (r.setK i x _) (l.setK i x _)=k (cond _ (.node m l (r.set i x)) (.node m (l.set i x) r))
  cases Nat.ble m i
  ·simp only [cond];rw [ihl]
  ·simp only [cond];rw [ihr]
theorem Wm (t:SlT) (i:Nat) (x:IV) (j:Nat):(t.set i x).has j=t.has j:=by
 induction t with
 | leaf k v=>show SlT.has (cond _ _ _) j=_;cases Nat.beq i k<;>rfl
 | node m l r ihl ihr =>
  show SlT.has (cond (Nat.ble m i) (.node m l (r.set i x)) (.node m (l.set i x) r)) j=cond (Nat.ble m j) (r.has j) (l.has j)
  cases Nat.ble m i
  ·show cond (Nat.ble m j) (r.has j) ((l.set i x).has j)=_;rw [ihl]
  ·show cond (Nat.ble m j) ((r.set i x).has j) (l.has j)=_;rw [ihr]
theorem U6 (t:SlT) (i:Nat) (x:IV) (h:t.has i=true) (j:Nat):(t.set i x).get j=if j=i then x else t.get j:=by
 induction t with
 | leaf k v =>
  have hik:Nat.beq i k=true:=h;have e:=Nat.eq_of_beq_eq_true hik
  show SlT.get (cond (Nat.beq i k) _ _) j=_
  rw [hik]
  show cond (Nat.beq j k) x .dead=if j=i then x else cond (Nat.beq j k) v .dead
  subst e;by_cases hj:j=i
  ·subst hj;rw [if_pos rfl,show Nat.beq j j=true from Nat.beq_refl j];rfl
  ·have:Nat.beq j i=false:=by cases hb:Nat.beq j i;rfl;exact absurd (Nat.eq_of_beq_eq_true hb) hj
   rw [if_neg hj,this];rfl
 | node m l r ihl ihr =>
  have h':cond (Nat.ble m i) (r.has i) (l.has i)=true:=h
  show SlT.get (cond (Nat.ble m i) (.node m l (r.set i x)) (.node m (l.set i x) r)) j=if j=i then x else cond (Nat.ble m j) (r.get j) (l.get j)
  cases hm:Nat.ble m i with
  | true =>
   rw [hm] at h'
   show cond (Nat.ble m j) ((r.set i x).get j) (l.get j)=_
   rw [ihr h'];by_cases hj:j=i
   ·subst hj;rw [hm];simp
   ·simp only [if_neg hj]
  | false =>
   rw [hm] at h'
   show cond (Nat.ble m j) (r.get j) ((l.set i x).get j)=_
   rw [ihl h'];by_cases hj:j=i
   ·subst hj;rw [hm];simp
   ·simp only [if_neg hj]
theorem Wq:∀(d lo n i:Nat),n<=2 ^ d->lo<=i->i<lo+n->(dT d lo n).has i=true/\(dT d lo n).get i=.dead:=by
 intro d
 induction d with
 | zero =>
  intro lo n i h1 h2 h3
  have:i=lo:=by simp at h1;omega
  subst this;refine ⟨Nat.beq_refl i,?_⟩
  show cond (Nat.beq i i) IV.dead .dead=.dead
  cases Nat.beq i i<;>rfl
 | succ d ih =>
  intro lo n i h1 h2 h3;simp only [dT,Ca];cases hn:Nat.ble n 1 with
  | true =>
   have:=Nat.le_of_ble_eq_true hn
   have:i=lo:=by omega
   subst this;refine ⟨Nat.beq_refl i,?_⟩
   show cond (Nat.beq i i) IV.dead .dead=.dead
   cases Nat.beq i i<;>rfl
  | false =>
   have hp:2 ^ (d+1)=2 * 2 ^ d:=by rw [Nat.pow_succ];omega
   show cond (Nat.ble (lo+n / 2) i) ((dT d (lo+n / 2) (n - n / 2)).has i) ((dT d lo (n / 2)).has i)=true/\cond (Nat.ble (lo+n / 2) i) ((dT d (lo+n / 2) (n - n / 2)).get i) ((dT d lo (n / 2)).get i)=.dead
   cases hm:Nat.ble (lo+n / 2) i with
   | true =>
    have:=Nat.le_of_ble_eq_true hm
    exact ih _ _ i (by omega) this (by omega)
   | false =>
    have:¬ (lo+n / 2<=i):=fun h=>by rw [Nat.ble_eq_true_of_le h] at hm;cases hm
    exact ih _ _ i (by omega) h2 (by omega)
structure FS where
 n:Nat
 t:SlT
 hp:Hp
def FS.get (T:FS) (i:Nat):IV:=cond (Nat.ble T.n i) .dead (T.t.get i)
structure Rep (T:FS) (S:St):Prop where
 hp:S.hp=T.hp
 len:S.slots.length=T.n
 has:∀i,i<T.n->T.t.has i=true
 get:∀i,i<T.n->T.t.get i=S.slots.getD i .dead
theorem Rep.at_ {T:FS} {S:St} (h:Rep T S) (i:Nat):T.get i=S.slots.getD i .dead:=by
 unfold FS.get;cases hb:Nat.ble T.n i with
 | true =>
  have:=Nat.le_of_ble_eq_true hb
  rw [Ajf,List.getElem?_eq_none (by rw [h.len];exact this)];rfl
 | false =>
  have:¬ T.n<=i:=fun h=>by rw [Nat.ble_eq_true_of_le h] at hb;cases hb
  exact h.get i (by omega)
def Ha (T:FS):Operand->IV
 | .tmp t=>T.get t
 | .const v=>Lt v
 | .global _=>.dead
 | .func f=>.fv (.func (.func f) [] [])
theorem K7 {T:FS} {S:St} (h:Rep T S):Ha T=AG S.slots:=by
 funext x
 cases x with
 | tmp t=>exact h.at_ t
 | _=>rfl
def Zu {α:Type} (d:Option Nat) (v:IV) (T:FS) (K:FS->α):α :=
 match d with
 | none=>K T
 | some d=>cond (Nat.ble T.n d) (K T) (T.t.setK d v fun t=>K ⟨T.n,t,T.hp⟩)
def PZ (d:Option Nat) (v:IV) (T:FS):FS :=
 match d with
 | none=>T
 | some d=>cond (Nat.ble T.n d) T ⟨T.n,T.t.set d v,T.hp⟩
theorem Xy {α:Type} (d:Option Nat) (v:IV) (T:FS) (K:FS->α):Zu d v T K=K (PZ d v T):=by
 cases d with
 | none=>rfl
 | some d =>
  simp only [Zu,PZ];cases Nat.ble T.n d
  ·simp only [cond];rw [Uz]
  ·rfl
theorem Xc {T:FS} {S:St} (h:Rep T S) (d:Option Nat) (v:IV):Rep (PZ d v T) { S with slots:=Ch d v S.slots }:=by
 cases d with
 | none=>exact h
 | some d =>
  simp only [PZ,Ch];cases hb:Nat.ble T.n d with
  | true =>
   have:=Nat.le_of_ble_eq_true hb
   simp only [cond];rw [List.set_eq_of_length_le (by rw [h.len];exact this)];exact h
  | false =>
   have hd:d<T.n:=by
    have:¬ T.n<=d:=fun h=>by rw [Nat.ble_eq_true_of_le h] at hb;cases hb
    omega
   refine ⟨h.hp,by simp [h.len],fun i hi=>by show (T.t.set d v).has i=true;rw [Wm];exact h.has i hi,fun i hi=>?_⟩
   show (T.t.set d v).get i=_
   rw [U6 _ _ _ (h.has d hd),Ajf];by_cases e:i=d
   ·subst e;rw [if_pos rfl,List.getElem?_set_self (by rw [h.len];exact hi)];rfl
   ·rw [if_neg e,List.getElem?_set_ne (Ne.symm e),<- Ajf];exact h.get i hi
end Idl
end Go.Proofs.YtnenpcghegcnhaaGreat
namespace Go.Proofs.YtnenpcghegcnhaaGreat
namespace Idl
theorem BT {α β:Type}:∀(r:Rd α) (f:α->Rd β) (h:Hp) (l:List Ref),(r.bind f).runLog h l=(r.runLog h l).bind fun p=>(f p.1).runLog h p.2
 | .ret a,f,h,l=>rfl
 | .fail,f,h,l=>rfl
 | .get r k,f,h,l=>by
  simp only [Rd.bind,Rd.runLog];cases h.get r with
  | none=>rfl
  | some b=>exact BT (k b) f h (r::l)
abbrev KR (β:Type):=FuncId->List IV->Hp->(IV->Hp->Option β)->Option β
section
variable (E:Env) {β:Type} (R:KR β)
def H9 (k:Nat) (m:Made):List Ref:=match m.new with | some _=>[.own k] | none=>[]
def VJ {α:Type} (args:List IV):Nat->FS->(FS->α)->α :=List.rec (motive:=fun _=>Nat->FS->(FS->α)->α) (fun _ T K=>K T) (fun v _ ih i T K=>Zu (some i) v T fun T=>ih (Nat.succ i) T K) args
end
section
variable {E:Env} {β:Type} {R:KR β} {ih:Ah}
end
section
variable {E:Env} {β:Type} {R:KR β} {ih:Ah}
theorem XU (q:List Ref×List Ref):clash q ([],[])=true:=by
 have:∀l:List Ref,Nd l []=true:=fun l=>by induction l with | nil=>rfl | cons x l ih=>simp [Nd]
 simp only [clash,this,Bool.true_and];rfl
theorem Yt (p:List Ref×List Ref):clash ([],[]) p=true:=by
 have:∀l:List Ref,Nd l []=true:=fun l=>by induction l with | nil=>rfl | cons x l ih=>simp [Nd]
 have h2:∀l:List Ref,Nd [] l=true:=fun l=>rfl;simp only [clash,this,h2,Bool.true_and]
def Jd:List IV->Nat->List IV->List IV
 | [],_,s=>s
 | v::l,i,s=>Jd l (i+1) (s.set i v)
theorem La:∀(l:List IV) (i:Nat) (s:List IV) (j:Nat),i+l.length<=s.length->(Jd l i s)[j]?=if i<=j/\j<i+l.length then l[j - i]? else s[j]?
 | [],i,s,j,_=>by rw [if_neg (by simp)];rfl
 | v::l,i,s,j,h=>by
  simp only [Ai3] at h;rw [Jd,La l (i+1) (s.set i v) j (by simp;omega)];by_cases h1:i=j
  ·subst h1;rw [if_neg (by omega),if_pos (by simp),List.getElem?_set_self (by omega)];simp
  ·by_cases h2:i+1<=j/\j<i+1+l.length
   ·rw [if_pos h2,if_pos (by simp;omega),show j - i=(j - (i+1))+1 by omega];simp
   ·rw [if_neg h2,if_neg (by simp;omega),List.getElem?_set_ne h1]
theorem eM:∀(l:List IV) {α:Type} (i:Nat) {T:FS} {S:St} {K:FS->α},Rep T S->∃T',VJ l i T K=K T'/\Rep T' { S with slots:=Jd l i S.slots }:=by
 intro l
 induction l with
 | nil=>intro α i T S K hr;exact ⟨T,rfl,hr⟩
 | cons v l ih =>
  intro α i T S K hr;obtain ⟨T',h1,h2⟩:=ih (i+1) (K:=K) (Xc hr (some i) v);refine ⟨T',?_,h2⟩
  show Zu (some i) v T (fun T=>VJ l (Nat.succ i) T K)=K T'
  rw [Xy];exact h1
end
inductive FTr where
 | nil
 | leaf (f:Nat) (fn:Func)
 | node (m:Nat) (l r:FTr)
def FTr.get (t:FTr):Nat->Option Func :=FTr.rec (motive:=fun _=>Nat->Option Func) (fun _=>none) (fun j fn i=>cond (Nat.beq i j) (some fn) none) (fun m _ _ gl gr i=>cond (Nat.ble m i) (gr i) (gl i)) t
def FTr.leaves:FTr->List (Nat×Func)
 | .nil=>[]
 | .leaf f fn=>[(f,fn)]
 | .node _ l r=>l.leaves++r.leaves
theorem FTr.get_mem {t:FTr} {f:Nat} {fn:Func} (h:t.get f=some fn):(f,fn)∈t.leaves:=by
 induction t with
 | nil=>cases h
 | leaf j g =>
  have h:cond (Nat.beq f j) (some g) none=some fn:=h;cases hb:Nat.beq f j with
  | false=>rw [hb] at h;cases h
  | true =>rw [hb] at h;simp only [cond,AiZ] at h;subst h;rw [Nat.eq_of_beq_eq_true hb];exact Aji
 | node m l r ihl ihr =>
  have h:cond (Nat.ble m f) (r.get f) (l.get f)=some fn:=h;simp only [FTr.leaves,Ajk];cases hb:Nat.ble m f with
  | true=>rw [hb] at h;exact .inr (ihr h)
  | false=>rw [hb] at h;exact .inl (ihl h)
def FTr.ok {P:Program} {t:FTr} (h:t.leaves.map (fun p=>P.funcs[p.1]?)=t.leaves.map (fun p=>some p.2)):∀f fn,t.get f=some fn->P.funcs[f]?=some fn :=fun _ _ hf=>List.map_inj_left.1 h _ (FTr.get_mem hf)
end Idl
end Go.Proofs.YtnenpcghegcnhaaGreat

/- Part 2 of a proof. No statement is proved here. -/
import Derived.Test.YtnenpcghegcnhaaGreatKernelShiftK1
set_option linter.all false
set_option maxRecDepth 20000
set_option maxHeartbeats 16000000
noncomputable section
namespace Go.Proofs.YtnenpcghegcnhaaGreat
namespace Idl
section
variable {μ:Ref->Nat} {w:World} {F:B3} {hp hp':Hp}
theorem Dx {r:Ref}:∀{l:List IV},r∈IV.refs.refsL l ↔ ∃v∈l,r∈v.refs
 | []=>by simp [IV.refs.refsL]
 | v::l=>by simp [IV.refs.refsL,Dx (l:=l)]
theorem PG {v:IV} {x:Value} (h:R μ w F hp v x):(∀r∈v.refs,hp'.get r=hp.get r)->R μ w F hp' v x:=by
 induction h with
 | dead x=>exact fun _=>.dead x
 | fv v x h=>exact fun _=>.fv v x h
 | ptr r off h=>intro e;refine .ptr r off ?_;rw [e r (by simp [IV.refs])];exact h
 | slc r sz len cap h hle=>intro e;refine .slc r sz len cap ?_ hle;rw [e r (by simp [IV.refs])];exact h
 | nils=>exact fun _=>.nils
 | emp a cap=>exact fun _=>.emp a cap
 | clip es a h=>exact fun _=>.clip es a h
 | clip0 a=>exact fun _=>.clip0 a
 | app r es x hx hne h=>intro e;refine .app r es x hx hne ?_;rw [e r (by simp [IV.refs])];exact h
 | func fn a b x y ha hb h1 h2 ih1 ih2 =>
  intro e;refine .func fn a b x y ha hb (fun j c hc=>ih1 j c hc fun r hr=>e r ?_) (fun j c hc=>ih2 j c hc fun r hr=>e r ?_)
  ·simp only [IV.refs,Ajk];exact .inl (Dx.2 ⟨c,Aje hc,hr⟩)
  ·simp only [IV.refs,Ajk];exact .inr (Dx.2 ⟨c,Aje hc,hr⟩)
 | agg cs x hl h ih =>intro e;refine .agg cs x hl fun j c hc=>ih j c hc fun r hr=>e r ?_;simp only [IV.refs];exact Dx.2 ⟨c,Aje hc,hr⟩
 | tuple cs x hl h ih =>intro e;refine .tuple cs x hl fun j c hc=>ih j c hc fun r hr=>e r ?_;simp only [IV.refs];exact Dx.2 ⟨c,Aje hc,hr⟩
 | mapr r h=>intro e;refine .mapr r ?_;rw [e r (by simp [IV.refs])];exact h
theorem WU {r:Ref} {b:Blk} (h:BR μ w F hp r b) (e:∀r∈b.refs,hp'.get r=hp.get r):BR μ w F hp' r b:=by
 cases b with
 | row cells ro =>obtain ⟨c,t,h1,h2,h3,h4,h5⟩:=h;exact ⟨c,t,h1,h2,fun j x hx=>PG (h3 j x hx) fun r hr=>e r (by simp only [Blk.refs];exact Dx.2 ⟨x,Aje hx,hr⟩),h4,h5⟩
 | tok n sz=>exact h
 | map es =>obtain ⟨arr,clk,h1,h2,h3⟩:=h;refine ⟨arr,clk,h1,h2,fun j n x hx=>?_⟩;obtain ⟨me,m1,m2,m3⟩:=h3 j n x hx;exact ⟨me,m1,m2,PG m3 fun r hr=>e r (by simp only [Blk.refs];exact Dx.2 ⟨x,List.mem_map.2 ⟨(n,x),Aje hx,rfl⟩,hr⟩)⟩
theorem dF {slots:List IV} {a:Act} (h:SlotsR μ w F hp slots a.tmps) (d:Option Nat) {v:IV} {x:Value} (hv:R μ w F hp v x) :
  SlotsR μ w F hp (Ch d v slots) (a.put d x).tmps:=by
 cases d with
 | none=>exact h
 | some d =>
  refine ⟨by simp [Ch,Act.put,h.size],fun i y hy=>?_⟩;simp only [Ch,Act.put] at hy ⊢;rw [Ajd];by_cases e:d=i
  ·subst e;by_cases hl:d<slots.length
   ·rw [List.getElem?_set_self hl] at hy;cases hy;rw [Array.getElem?_setIfInBounds_self_of_lt (by rw [<- h.size];exact hl)];exact hv
   ·rw [List.getElem?_eq_none (by simp;omega)] at hy;cases hy
  ·rw [List.getElem?_set_ne e] at hy;rw [Array.getElem?_setIfInBounds_ne e,<- Ajd];exact h.at_ i y hy
theorem PU (a:Act) (d:Option Nat) (x:Value):(a.put d x).defers=a.defers:=by cases d<;>rfl
theorem Mh {l m:List IV} {x y:Array Value} (h1:SlotsR μ w F hp l x) (h2:SlotsR μ w F hp m y):SlotsR μ w F hp (l++m) (x++y):=by
 refine ⟨by simp [h1.size,h2.size],fun i v hv=>?_⟩;rw [Ajd];by_cases hi:i<l.length
 ·rw [Ai9 hi] at hv;rw [Array.getElem?_append_left (by rw [<- h1.size];exact hi),<- Ajd];exact h1.at_ i v hv
 ·rw [Ai8 (by omega)] at hv;rw [Array.getElem?_append_right (by rw [<- h1.size];omega),<- Ajd,<- h1.size];exact h2.at_ _ v hv
theorem ST {slots:List IV} {a:Act} (h:SlotsR μ w F hp slots a.tmps) (args:Array Operand):SlotsR μ w F hp (args.toList.map (AG slots)) (args.map a.eval):=by refine ⟨by simp,fun i v hv=>?_⟩;simp only [Ajv,Array.getElem?_toList,Ai1] at hv;obtain ⟨c,hc,rfl⟩:=hv;rw [Ajd];simp only [Array.getElem?_map,hc,Ai2,Option.getD_some];exact AB h c
theorem R9 {ops:Array Oper} {slots:List IV} {a:Act} {o:Oper} {b:Bool} (h:SlotsR μ w F hp slots a.tmps) (e:Dl ops slots o=some b) :
  Region.wanted o (yielded ops a.tmps)=b:=by
 unfold Dl at e;unfold Region.wanted;split at e
 ·rename_i hg;rw [hg];simpa using e
 ·rename_i j want hg;rw [hg];simp only [yielded];have key:∀v,((ops[j]?).bind (·.dst)).bind (slots[·]?)=some v->∃x,((ops[j]?).bind (·.dst)).bind (a.tmps[·]?)=some x/\R μ w F hp v x:=by
   intro v hv;obtain ⟨d,h1,h2⟩:=Aju.1 hv;rw [h1];have hd:d<a.tmps.size:=by rw [<- h.size];exact (Ai7.1 h2).1
   refine ⟨a.tmps[d],by simp [hd],?_⟩
   have:=h.at_ d v h2
   rw [Ajd,Array.getElem?_eq_getElem hd] at this;exact this
  split at e
  ·rename_i b' hv;obtain ⟨x,h1,h2⟩:=key _ hv;cases h2 with | fv _ _ h2 =>cases h2;rw [h1];simp only [AiZ] at e;rw [<- e];rfl
  ·rename_i hv;obtain ⟨x,h1,h2⟩:=key _ hv;cases h2 with | fv _ _ h2 =>
   cases h2 with | tuple _ x _ _ =>
   rw [h1];simp only [AiZ] at e;rw [<- e];rfl
  ·cases e
end
section
variable {E:Env} {μ:Ref->Nat} {w:World} {F:B3} {hp hp':Hp} {ih:Ah} {slots:List IV} {a:Act} {o:Oper}
theorem iQ (hE:EnvOk E) (hs:SlotsR μ w F hp slots a.tmps) {g:Operand} {args:Array Operand} {ts:Array TypeId} (ho:o.op=.call { callee:=.value g,args:=args,argTypes:=ts })
  {h:FuncId} {first cap:List IV} (hc:callee (AG slots g)=some (h,first,cap)) (hf:∃fn,E.P.funcs[h]?=some fn/\fn.body.isSome) :
  ∃vals,(execOp a.eval o).run E.P w=.ok (.enter h vals) w/\SlotsR μ w F hp (first++args.toList.map (AG slots)++cap) vals:=by
 have hg:=AB hs g;have key:∃x y,a.eval g=.func (.func h) x y/\SlotsR μ w F hp first x/\SlotsR μ w F hp cap y:=by
  unfold callee at hc;split at hc
  ·rename_i f p q he;rw [he] at hg;simp only [AiZ,Ai0] at hc;obtain ⟨rfl,rfl,rfl⟩:=hc;generalize hxv:a.eval g=xv at hg;cases hg with | fv _ _ hg =>
   cases hg with | func _ _ _ x y ha hb h1 h2 =>
   refine ⟨x,y,rfl,⟨by simpa using ha,fun i v hv=>?_⟩,⟨by simpa using hb,fun i v hv=>?_⟩⟩ <;>
    simp only [Ajv,Ai1] at hv<;>obtain ⟨c,hc,rfl⟩:=hv
   ·exact .fv _ _ (h1 i c hc)
   ·exact .fv _ _ (h2 i c hc)
  ·rename_i f p q he;rw [he] at hg;simp only [AiZ,Ai0] at hc;obtain ⟨rfl,rfl,rfl⟩:=hc;generalize hxv:a.eval g=xv at hg;cases hg with | func _ _ _ x y ha hb h1 h2 =>exact ⟨x,y,rfl,⟨ha,h1⟩,⟨hb,h2⟩⟩
  ·cases hc
 obtain ⟨x,y,h1,h2,h3⟩:=key;obtain ⟨fn,hfn,hb⟩:=hf;refine ⟨(x++args.map a.eval)++y,?_,Mh (Mh h2 (ST hs args)) h3⟩;have hn:=hE.names h fn hfn hb
 have hn' : fn.name ≠ "runtime.NumGoroutine" := by simpa using hn
 obtain ⟨c,hbc⟩:=Option.isSome_iff_exists.1 hb;simp [execOp,ho,resolve,h1,Deferred.ofValue,invoke,callFunc,hfn,hn',hbc]
def At (μ0:Ref->Nat) (w0:World) (F0:B3) (hp0:Hp) (S:St) (a:Act) (w:World):Prop :=a.defers=[]/\∃μ F,SlotsR μ w F S.hp S.slots a.tmps/\HR μ w F S.hp/\Stp μ0 w0 F0 hp0 μ w F S.hp
variable {μ0:Ref->Nat} {w0:World} {F0:B3} {hp0:Hp} {Q:Exit->Act->World->Prop} {K:Act->World->Prop}
theorem Uv (hE:EnvOk E) (hih:R2 E ih) {f:FuncId} {rid i:Nat} {ops:Array Oper} {S S':St} (h:step E ih f rid ops i S=some S')
  (hat:At μ0 w0 F0 hp0 S a w) (hK:∀a' w',At μ0 w0 F0 hp0 S' a' w'->K a' w'):wpOp E.P ops Q i K a w:=by
 obtain ⟨hd,μ,F,hs,hr,hst⟩:=hat;unfold step at h;unfold wpOp;split at h
 ·rename_i ho;rw [ho];simp only [AiZ] at h;subst h;exact hK a w ⟨hd,μ,F,hs,hr,hst⟩
 ·rename_i o ho;rw [ho];split at h
  ·cases h
  ·rename_i hw;simp only [AiZ] at h;subst h;simp only [R9 hs hw,Ajx,if_false];exact hK _ w ⟨by rw [PU];exact hd,μ,F,dF hs o.dst (.fv _ _ (.tuple [] #[] rfl fun j c h=>by simp at h)),hr,hst⟩
  ·rename_i hw;simp only [R9 hs hw,if_true];refine .inl ?_;unfold Oper.wp;have call:∀{g args ts h' first cap res hp1},o.op=.call { callee:=.value g,args:=args,argTypes:=ts }->callee (AG S.slots g)=some (h',first,cap) ->
     (∃fn,E.P.funcs[h']?=some fn/\fn.body.isSome) ->
     (∀vals,SlotsR μ w F S.hp (first++args.toList.map (AG S.slots)++cap) vals->cY E μ w F S.hp h' vals res hp1) ->
     S'=⟨Ch o.dst res S.slots,hp1⟩->o.upon E.P a K Q ((execOp a.eval o).run E.P w):=by
    intro g args ts h' first cap res hp1 ho' hc hf hsim hS
    subst hS;obtain ⟨vals,e1,e2⟩:=iQ hE hs ho' hc hf;rw [e1];refine (hsim vals e2).mono ?_;rintro e w' ⟨v,μ',F',rfl,st,hr',hv⟩;exact hK _ w' ⟨by rw [PU];exact hd,μ',F',dF (hs.mono st) o.dst hv,hr',hst.trans st⟩
   split at h
   ·rename_i h' args' hin;simp only [Ai1] at h;obtain ⟨⟨v,hp1⟩,h1,h2⟩:=h;unfold EC at hin;split at hin
    ·rename_i g args ts ho';split at hin
     ·rename_i h'' first cap hc
      split at hin
      ·simp only [AiZ,Ai0] at hin;obtain ⟨rfl,rfl⟩:=hin;obtain ⟨hf,hsim⟩:=hih _ _ _ _ _ h1;exact call ho' hc hf (fun vals hv=>hsim μ w F vals hr hv) h2.symm
      ·cases hin
     ·cases hin
    ·cases hin
   ·rename_i hin;obtain ⟨m,h1,h2⟩:=Aju.1 h;simp only [Eh,Ai1] at h2;obtain ⟨hp1,h2,h3⟩:=h2;by_cases hic:eN o.op=true
    ·cases hop:o.op with
     | call c =>
      obtain ⟨cl,args,ts⟩:=c;cases cl with
      | value g =>
       rw [hop] at h1;simp only [Eb,C9] at h1;split at h1
       ·rename_i h'' first cap hc
        split at h1
        ·exact Ar h1
        ·obtain ⟨eff,h4,h5⟩:=Rd.run_bind_some h1;simp only [Rd.run,AiZ] at h5;subst h5;simp only [A4] at h2;have h6:laid S.hp eff.upd=some hp1:=by
          cases hl:laid S.hp eff.upd with
          | none=>rw [hl] at h2;cases h2
          | some q=>rw [hl] at h2;exact h2
         by_cases hany:∃vals,SlotsR μ w F S.hp (first++args.toList.map (AG S.slots)++cap) vals
         ·obtain ⟨vals,hv⟩:=hany;exact call hop hc (bN hr hih hv h4 h6).1 (fun vals hv=>(bN hr hih hv h4 h6).2) h3.symm
         ·refine absurd ?_ hany;have hg:=AB hs g;unfold callee at hc;split at hc
          ·rename_i he;rw [he] at hg;simp only [AiZ,Ai0] at hc;obtain ⟨rfl,rfl,rfl⟩:=hc;generalize a.eval g=xv at hg;cases hg with | fv _ _ hg =>
           cases hg with | func _ _ _ x y ha hb q1 q2 =>
           refine ⟨(x++args.map a.eval)++y,Mh (Mh ⟨by simpa using ha,fun i v hv=>?_⟩ (ST hs args)) ⟨by simpa using hb,fun i v hv=>?_⟩⟩ <;>
            simp only [Ajv,Ai1] at hv<;>obtain ⟨c,hc,rfl⟩:=hv
           ·exact .fv _ _ (q1 i c hc)
           ·exact .fv _ _ (q2 i c hc)
          ·rename_i he;rw [he] at hg;simp only [AiZ,Ai0] at hc;obtain ⟨rfl,rfl,rfl⟩:=hc;generalize a.eval g=xv at hg;cases hg with | func _ _ _ x y ha hb q1 q2 =>exact ⟨(x++args.map a.eval)++y,Mh (Mh ⟨ha,q1⟩ (ST hs args)) ⟨hb,q2⟩⟩
          ·cases hc
       ·exact Ar h1
      | builtin b=>rw [hop] at hic;cases hic
      | invoke r n=>rw [hop] at hic;cases hic
     | _=>rw [hop] at hic;cases hic
    ·obtain ⟨x,w',μ',F',e1,st,hr',hv⟩:=Ab7 hE hr hs (by simpa using hic) h1 h2;have hfin:K (a.put o.dst x) w':=by
      refine hK _ w' ?_;rw [<- h3];exact ⟨by rw [PU];exact hd,μ',F',dF (hs.mono st) o.dst hv,hr',hst.trans st⟩
     rcases e1 with e1 | ⟨e1,rfl⟩
     ·rw [e1];exact hfin
     ·rw [e1];exact hfin
theorem NT (hE:EnvOk E) (hih:R2 E ih) {f:FuncId} {rid:Nat} {ops:Array Oper}:∀(l:List Nat) {S S':St} {a:Act} {w:World},IE E ih f rid ops l S=some S' ->
  At μ0 w0 F0 hp0 S a w->(∀a' w',At μ0 w0 F0 hp0 S' a' w'->Q .normal a' w')->wpOps E.P ops Q l a w
 | [],S,S',a,w,h,hat,hQ=>by
  simp only [IE,AiZ] at h;subst h;exact hQ a w hat
 | i::l,S,S',a,w,h,hat,hQ=>by
  simp only [IE,Aju] at h;obtain ⟨S1,h1,h2⟩:=h;rw [wpOps_cons];exact Uv hE hih h1 hat fun a' w' hat'=>NT hE hih l h2 hat' hQ
end
theorem MT {α:Type}:∀(r:Rd α) (h:Hp) (l l':List Ref) (a:α),r.runLog h l=some (a,l')->∀x∈l,x∈l'
 | .ret a,h,l,l',b,e,x,hx=>by simp only [Rd.runLog,AiZ,Ai0] at e;rw [<- e.2];exact hx
 | .fail,h,l,l',b,e,x,hx=>by cases e
 | .get r k,h,l,l',b,e,x,hx=>by
  simp only [Rd.runLog] at e;split at e
  ·exact MT _ h _ l' b e x (Ajj _ hx)
  ·cases e
theorem Fs {α:Type}:∀(r:Rd α) (h:Hp) (l l':List Ref) (a:α),r.runLog h l=some (a,l')->r.run h=some a
 | .ret a,h,l,l',b,e=>by simp only [Rd.runLog,AiZ,Ai0] at e;simp [Rd.run,e.1]
 | .fail,h,l,l',b,e=>by cases e
 | .get r k,h,l,l',b,e=>by
  simp only [Rd.runLog] at e;split at e
  ·rename_i c hc;simp only [Rd.run,hc];exact Fs _ h _ l' b e
  ·cases e
theorem J2 {α:Type}:∀(r:Rd α) (h h':Hp) (l l':List Ref) (a:α),r.runLog h l=some (a,l')->(∀x∈l',h'.get x=h.get x)->r.runLog h' l=some (a,l')
 | .ret a,h,h',l,l',b,e,_=>e
 | .fail,h,h',l,l',b,e,_=>by cases e
 | .get r k,h,h',l,l',b,e,hx=>by
  simp only [Rd.runLog] at e ⊢;split at e
  ·rename_i c hc;have hr:r∈l':=MT _ h _ l' b e r Aji;rw [hx r hr,hc];exact J2 _ h h' _ l' b e hx
  ·cases e
theorem ON {A:Ref->Prop} {h h':Hp} {s:Ref} {b:Blk} (e:∀r,A r->h'.get r=h.get r) (hs:A s) (hk:(∃k,s=.own k)\/(h.get s).isSome) :
  ∀r,A r->(h'.set s b).get r=(h.set s b).get r:=by
 intro r hr;by_cases hrs:r=s
 ·subst hrs;rcases hk with ⟨k,rfl⟩ | hk
  ·rw [Cd,Cd]
  ·rw [B9 _ _ _ hk,B9 _ _ _ (by rw [e r hs];exact hk)]
 ·rw [AA _ _ _ _ hrs,AA _ _ _ _ hrs];exact e r hr
theorem M1 {A:Ref->Prop}:∀(u:List (Ref×Blk)) (h h' h1:Hp),laid h u=some h1->(∀r,A r->h'.get r=h.get r)->(∀r∈BB u,A r) ->
  ∃h1',laid h' u=some h1'/\∀r,A r->h1'.get r=h1.get r
 | [],h,h',h1,e,ha,_=>by simp only [laid,AiZ] at e;subst e;exact ⟨h',rfl,ha⟩
 | (s,b)::u,h,h',h1,e,ha,hk=>by
  simp only [laid] at e ⊢;have hs:A s:=hk s (by simp [BB]);cases hq:h.get s with
  | none=>rw [hq] at e;cases e
  | some c =>rw [hq] at e;rw [ha s hs,hq];exact M1 u _ _ h1 e (ON ha hs (.inr (by rw [hq];rfl))) fun r hr=>hk r (by simp [BB] at hr ⊢;exact .inr hr)
def LP (k:Nat) (m:Made):List Ref:=BB m.eff.upd++(match m.new with | some _=>[.own k] | none=>[])
theorem Tb {A:Ref->Prop} {k:Nat} {m:Made} {h h' h1:Hp} (e:A4 k h m=some h1) (ha:∀r,A r->h'.get r=h.get r) (hk:∀r∈LP k m,A r) :
  ∃h1',A4 k h' m=some h1'/\∀r,A r->h1'.get r=h1.get r:=by
 unfold A4 at e ⊢;obtain ⟨g,e1,e2⟩:=Aju.1 e;obtain ⟨g',e3,e4⟩:=M1 _ h h' g e1 ha fun r hr=>hk r (List.mem_append_left _ hr);rw [e3];simp only [Ajt];unfold CV at e2 ⊢;split at e2
 ·simp only [AiZ] at e2;subst e2;exact ⟨g',rfl,e4⟩
 ·rename_i b hb;have hA:A (.own k):=hk _ (by simp [LP,hb]);split at e2
  ·cases e2
  ·rename_i hn;simp only [AiZ] at e2;subst e2;rw [e4 _ hA,hn];exact ⟨_,rfl,ON e4 hA (.inl ⟨k,rfl⟩)⟩
theorem ML {k:Nat} {m:Made} {h h1:Hp} (e:A4 k h m=some h1):∀r,r ∉ LP k m->h1.get r=h.get r:=by
 intro r hr;unfold A4 at e;obtain ⟨g,e1,e2⟩:=Aju.1 e;have h2:g.get r=h.get r:=FA _ _ _ e1 r fun p hp e=>hr (List.mem_append_left _ (by simp only [BB];exact List.mem_map.2 ⟨p,hp,e⟩));rw [<- h2];unfold CV at e2;split at e2
 ·simp only [AiZ] at e2;rw [e2]
 ·rename_i b hb;split at e2
  ·cases e2
  ·simp only [AiZ] at e2;rw [<- e2];exact AA _ _ _ _ fun e=>hr (by simp [LP,hb,e])
section
variable {E:Env} {ih:Ah} {f:FuncId} {rid:Nat} {ops:Array Oper}
theorem Nz {slots slots':List IV} {o:Op} (h:∀x∈o.operands,AG slots' x=AG slots x):EC E slots' o=EC E slots o:=by
 unfold EC;split
 ·rename_i g args ts;simp only [Op.operands] at h;rw [h g (by simp [Call.operands]),List.map_congr_left (g:=AG slots) fun x hx=>h x (by simp [Call.operands];exact .inr (by simpa using hx))]
 ·rfl
theorem Yv {slots slots':List IV} {i:Nat} {o:Op} (h:∀x∈o.operands,AG slots' x=AG slots x):Eb E ih f rid i slots' o=Eb E ih f rid i slots o:=by
 have pairs:∀ps:Array (Nat×Operand),(∀x∈ps.map (·.2),AG slots' x=AG slots x) ->
   (ps.toList.map fun (j,x)=>(j,AG slots' x))=(ps.toList.map fun (j,x)=>(j,AG slots x)):=fun ps hp =>
  List.map_congr_left fun p hm=>by
   obtain ⟨i,x⟩:=p;simp only [hp x (Array.mem_map.2 ⟨(i,x),by simpa using hm,rfl⟩)]
 cases o<;>simp only [Op.operands] at h<;>simp only [Eb,C9]
 case build t ps=>rw [pairs ps fun x hx=>h x (by simpa using hx)]
 case buildSlice t n ps=>rw [pairs ps fun x hx=>h x (by simpa using hx)]
 case makeFunc fn first captured =>rw [List.map_congr_left (l:=first.toList) fun x hx=>h x (by simp at hx;simp [hx]),List.map_congr_left (l:=captured.toList) fun x hx=>h x (by simp at hx;simp [hx])]
 case call c =>
  obtain ⟨cl,args,ts⟩:=c;have ha:args.toList.map (AG slots')=args.toList.map (AG slots):=List.map_congr_left fun x hx=>h x (by simp [Call.operands];simp at hx;simp [hx]);cases cl with
  | value g=>simp only [ha,h g (by simp [Call.operands])]
  | builtin b=>simp only [ha]
  | invoke r n=>rfl
 case makeMap t r=>cases r<;>simp_all
 case slice t x lo hi mx=>cases lo<;>cases hi<;>cases mx<;>simp_all
 all_goals (first | rfl | (simp_all;done))
theorem ND {slots slots':List IV} {o:Oper} (h:∀d∈o.looksAt ops,slots'[d]?=slots[d]?):Dl ops slots' o=Dl ops slots o:=by
 unfold Dl;cases hg:o.guard with
 | none=>rfl
 | some gw =>
  obtain ⟨j,want⟩:=gw;simp only
  have:((ops[j]?).bind (·.dst)).bind (slots'[·]?)=((ops[j]?).bind (·.dst)).bind (slots[·]?):=by
   cases hd:(ops[j]?).bind (·.dst) with
   | none=>rfl
   | some d=>exact h d (by simp [Oper.looksAt,hg,hd])
  rw [this]
abbrev Lg:=List Ref×List Ref
abbrev Ny (E:Env) (ih:Ah) (f:FuncId) (rid:Nat) (ops:Array Oper) (i:Nat) (S:St) (S':St) (p:Lg):Prop:=Ka E ih f rid ops i S=some (S',p)
theorem J7 {i:Nat} {o:Oper} (ho:ops[i]?=some o) {S S1 T:St} {p:Lg} (h:Ny E ih f rid ops i S S1 p) (hsl:∀d∈o.looksAt ops,T.slots[d]?=S.slots[d]?)
  {A:Ref->Prop} (ha:∀r,A r->T.hp.get r=S.hp.get r) (h1:∀r∈p.1,A r) (h2:∀r∈p.2,A r) :
  ∃T1,Ny E ih f rid ops i T T1 p/\(∀r,A r->T1.hp.get r=S1.hp.get r)/\(∀r,r ∉ p.2->T1.hp.get r=T.hp.get r)/\(∀r,r ∉ p.2->S1.hp.get r=S.hp.get r) /\
   ∃v,T1.slots=Ch o.dst v T.slots/\S1.slots=Ch o.dst v S.slots:=by
 have hopd:∀x∈o.op.operands,AG T.slots x=AG S.slots x:=fun x hx=>by
  cases x with
  | tmp t =>simp only [AG,Ajf];rw [hsl t (List.mem_append_left _ (List.mem_filterMap.2 ⟨.tmp t,by simpa using hx,rfl⟩))]
  | _=>rfl
 unfold Ny Ka at h ⊢;simp only [ho] at h ⊢;rw [ND hsl];split at h
 ·cases h
 ·simp only [AiZ,Ai0] at h;obtain ⟨rfl,rfl⟩:=h;exact ⟨_,rfl,ha,fun _ _=>rfl,fun _ _=>rfl,FC,rfl,rfl⟩
 ·rw [Nz hopd,Yv hopd];split at h
  ·cases h
  ·cases hl:(Eb E ih f rid i S.slots o.op).runLog S.hp [] with
   | none=>rw [hl] at h;cases h
   | some ml =>obtain ⟨m,rd⟩:=ml;rw [hl] at h;simp only [Eh,Option.map_map,Ai1,Function.comp,Ai0] at h;obtain ⟨g,hg,rfl,rfl⟩:=h;have hl':=J2 _ S.hp T.hp [] rd m hl fun x hx=>ha x (h1 x hx);obtain ⟨g',hg',hag⟩:=Tb hg ha h2;rw [hl'];refine ⟨⟨Ch o.dst m.eff.val T.slots,g'⟩,?_,hag,ML hg',ML hg,m.eff.val,rfl,rfl⟩;simp [Eh,hg']
theorem YD {i:Nat} {S S1:St} {p:Lg} (h:Ny E ih f rid ops i S S1 p):step E ih f rid ops i S=some S1:=by
 unfold Ny Ka at h;unfold step;cases ho:ops[i]? with
 | none =>simp only [ho,AiZ,Ai0] at h ⊢;exact h.1
 | some o =>
  simp only [ho] at h ⊢;split at h
  ·cases h
  ·rename_i hw;simp only [AiZ,Ai0] at h;simp only [AiZ];exact h.1
  ·rename_i hw;split at h
   ·cases h
   ·rename_i hin;cases hl:(Eb E ih f rid i S.slots o.op).runLog S.hp [] with
    | none=>rw [hl] at h;cases h
    | some ml =>obtain ⟨m,rd⟩:=ml;rw [hl] at h;simp only [Ai1,Ai0] at h;obtain ⟨g,hg,rfl,_⟩:=h;rw [hin,Fs _ _ _ _ _ hl];exact hg
def Eqv (S T:St):Prop:=S.slots=T.slots/\∀r,S.hp.get r=T.hp.get r
inductive Path (E:Env) (ih:Ah) (f:FuncId) (rid:Nat) (ops:Array Oper):List (Nat×Lg)->St->St->Prop
 | nil {S S':St} (e:Eqv S S'):Path E ih f rid ops [] S S'
 | cons {i:Nat} {p:Lg} {ps:List (Nat×Lg)} {S S1 S':St} (o:Oper) (ho:ops[i]?=some o) (h:Ny E ih f rid ops i S S1 p) (t:Path E ih f rid ops ps S1 S'):Path E ih f rid ops ((i,p)::ps) S S'
theorem Path.congr {ps:List (Nat×Lg)} {S S':St} (h:Path E ih f rid ops ps S S'):∀{T:St},Eqv T S->Path E ih f rid ops ps T S':=by
 induction h with
 | nil e=>exact fun {T} e'=>.nil ⟨e'.1.trans e.1,fun r=>(e'.2 r).trans (e.2 r)⟩
 | cons o ho h t ih' =>intro T e;obtain ⟨T1,h1,h2,_,_,v,h3,h4⟩:=J7 ho h (T:=T) (fun d _=>by rw [e.1]) (A:=fun _=>True) (fun r _=>e.2 r) (fun _ _=>trivial) (fun _ _=>trivial);exact .cons o ho h1 (ih' ⟨by rw [h3,h4,e.1],fun r=>h2 r trivial⟩)
theorem Kr {a b:List Ref} (h:Nd a b=true):∀r∈a,r ∉ b:=by intro r hr hb;have h1:=Ajl.1 h r hr;have h2:=Ajl.1 h1 r hb;simp at h2
theorem K4 {d:Option Nat} {v:IV} {slots:List IV} {t:Nat} (h:∀e,d=some e->e≠t):(Ch d v slots)[t]?=slots[t]?:=by
 cases d with
 | none=>rfl
 | some e=>exact List.getElem?_set_ne (h e rfl)
theorem swap {i j:Nat} {oi oj:Oper} (hi:ops[i]?=some oi) (hj:ops[j]?=some oj) {S S1 S2:St} {p q:Lg} (h1:Ny E ih f rid ops j S S1 q) (h2:Ny E ih f rid ops i S1 S2 p)
  (hap:oj.apart ops oi=true) (hc:clash q p=true):∃T U,Ny E ih f rid ops i S T p/\Ny E ih f rid ops j T U q/\Eqv U S2:=by
 obtain ⟨a1,a2,a3⟩:=Oper.apart_spec hap;simp only [clash,Ajz] at hc;obtain ⟨⟨c1,c2⟩,c3⟩:=hc;have d1:=Kr c1;have d2:=Kr c2;have d3:=Kr c3;obtain ⟨_,_,_,_,f1,v,_,s1⟩:=J7 hj h1 (T:=S) (fun _ _=>rfl) (A:=fun _=>True) (fun _ _=>rfl) (fun _ _=>trivial) (fun _ _=>trivial);obtain ⟨T,t1,t2,t3,f2,u,s2,s3⟩:=J7 hi h2 (T:=S) (fun d hd=>by rw [s1,K4 fun e he e'=>a1 e he (e' ▸ hd)]) (A:=fun r=>r ∉ q.2) (fun r hr=>(f1 r hr).symm)
  (fun r hr hq=>d1 r hq hr) (fun r hr hq=>d2 r hq hr)
 obtain ⟨U,u1,u2,u3,_,v',s4,s5⟩:=J7 hj h1 (T:=T) (fun d hd=>by rw [s2,K4 fun e he e'=>a3 e he (e' ▸ hd)]) (A:=fun r=>r ∉ p.2) (fun r hr=>t3 r hr)
  (fun r hr hp=>d3 r hp hr) (fun r hr hp=>d2 r hr hp)
 refine ⟨T,U,t1,u1,?_,fun r=>?_⟩
 ·rw [s4,s2,s3,s5];cases hdj:oj.dst with
  | none=>rfl
  | some d=>cases hdi:oi.dst with
   | none=>rfl
   | some e =>have hne:e≠d:=fun h=>a2 d hdj (by rw [hdi,h]);exact List.set_comm _ _ hne
 ·by_cases hr:r∈q.2
  ·have hp:r ∉ p.2:=d2 r hr;rw [u2 r hp,f2 r hp]
  ·rw [u3 r hr,t2 r hr]
theorem Path.front {i:Nat} {p:Lg} {oi:Oper} (hi:ops[i]?=some oi) {ys:List (Nat×Lg)} {S':St}:∀(xs:List (Nat×Lg)) {S:St},Path E ih f rid ops (xs++(i,p)::ys) S S' ->
  (∀x∈xs,clash x.2 p=true/\∀oj,ops[x.1]?=some oj->oj.apart ops oi=true)->Path E ih f rid ops ((i,p)::(xs++ys)) S S'
 | [],S,h,_=>h
 | x::xs,S,h,hx=>by
  cases h with
  | cons o ho h1 t =>
   have ih':=Path.front hi xs t fun y hy=>hx y (Ajj _ hy);cases ih' with
   | cons o' ho' h2 t' =>obtain ⟨hc,hap⟩:=hx _ Aji;obtain ⟨T,U,g1,g2,g3⟩:=swap hi ho h1 h2 (hap o ho) hc;exact .cons oi hi g1 (.cons o ho g2 (t'.congr g3))
def SE (b:Array Nat) (x y:Nat×Lg):Prop:=(b.getD y.1 0).testBit x.1=true\/clash x.2 y.2=true
theorem Jo {b:Array Nat}:∀(L:List Nat) (done:List (Nat×Lg)) {S S':St},(∀i∈L,∃o,ops[i]?=some o)->E7 E ih f rid ops b L done S=some S' ->
  ∃ps:List (Nat×Lg),ps.map (·.1)=L/\Path E ih f rid ops ps S S'/\ps.Pairwise (SE b)/\∀y∈ps,∀x∈done,SE b x y
 | [],done,S,S',_,h=>by
  simp only [E7,AiZ] at h;subst h;exact ⟨[],rfl,.nil ⟨rfl,fun _=>rfl⟩,.nil,fun y hy=>by cases hy⟩
 | i::l,done,S,S',hL,h=>by
  simp only [E7] at h;split at h
  ·cases h
  ·rename_i S1 p hs;split at h
   ·rename_i hd;obtain ⟨ps,e,hp,hw,hm⟩:=Jo l _ (fun j hj=>hL j (Ajj _ hj)) h;obtain ⟨o,ho⟩:=hL i Aji;refine ⟨(i,p)::ps,by simp [e],.cons o ho hs hp,List.pairwise_cons.2 ⟨fun y hy=>hm y hy _ Aji,hw⟩,fun y hy x hx=>?_⟩;rcases Ajp.1 hy with rfl | hy
    ·have:=Ajl.1 hd x hx
     simp only [Bool.or_eq_true] at this;exact this
    ·exact hm y hy x (Ajj _ hx)
   ·cases h
theorem Ir (h:regionOk ops=true) {i:Nat} {o:Oper} (ho:ops[i]?=some o) :
  (∀e∈o.after,Region.binds .any e=true->e.on<i) /\
  (∀j,j<ops.size->((Region.before ops).getD i 0).testBit j=true->j<i/\∃e∈o.after,Region.binds .any e=true/\(e.on=j\/((Region.before ops).getD e.on 0).testBit j=true)) /\
  (∀j oj,j<i->ops[j]?=some oj->((Region.before ops).getD i 0).testBit j=true\/oj.apart ops o=true):=by
 have hi:i<ops.size:=(Array.getElem?_eq_some_iff.1 ho).1;unfold regionOk at h;have h1:=Ajl.1 h i (by simpa using hi);simp only [ho,Ajz] at h1;obtain ⟨h2,h3⟩:=h1;refine ⟨fun e he hb=>?_,fun j hj hb=>?_,fun j oj hj hoj=>?_⟩
 ·have:=Ajl.1 h2 e (by simpa using he)
  simp only [hb,Bool.not_true,Bool.false_or,decide_eq_true_eq] at this;exact this
 ·have:=Ajl.1 h3 j (by simpa using hj)
  simp only [hb,Bool.not_true,Bool.false_or,Ajz,decide_eq_true_eq,List.any_eq_true,Bool.or_eq_true] at this;obtain ⟨⟨t1,e,t2,t3,t4⟩,_⟩:=this;exact ⟨t1,e,by simpa using t2,t3,t4⟩
 ·have hjs:j<ops.size:=by omega
  have:=Ajl.1 h3 j (by simpa using hjs)
  simp only [Ajz,Bool.or_eq_true,decide_eq_true_eq,hoj] at this;rcases this.2 with (t | t) | t
  ·omega
  ·exact .inl t
  ·exact .inr t
end
theorem Kg {ops:Array Oper} {listed:Array Bool} (hs:listed.size=ops.size) {i:Nat}:i∈Region.ready .any ops listed ↔
  ∃o,ops[i]?=some o/\listed[i]?=some false/\∀e∈o.after,Region.binds .any e=true->listed[e.on]?=some true:=by
 have hget:∀(k:Nat),listed.getD k false=true ↔ listed[k]?=some true:=fun k=>by
  rw [Ajd];cases listed[k]? with
  | none=>simp
  | some b=>simp
 have hget':∀(k:Nat),k<ops.size->(listed.getD k true=false ↔ listed[k]?=some false):=fun k hk=>by
  rw [Ajd];cases h:listed[k]? with
  | none=>rw [Array.getElem?_eq_none_iff] at h;omega
  | some b=>simp
 simp only [Region.ready,List.mem_filter,List.mem_range,Ajz,Bool.not_eq_true'];constructor
 ·rintro ⟨hi,h1,h2⟩;rw [Array.getElem?_eq_getElem hi] at h2;simp only [Ai2,Option.getD_some,Array.all_eq_true_iff_forall_mem,Bool.or_eq_true,Bool.not_eq_true'] at h2;refine ⟨ops[i],Array.getElem?_eq_getElem hi,(hget' i hi).1 h1,fun e he hb=>?_⟩;rcases h2 e he with h | h
  ·rw [hb] at h;cases h
  ·exact (hget _).1 h
 ·rintro ⟨o,ho,h1,h2⟩;have hi:i<ops.size:=(Array.getElem?_eq_some_iff.1 ho).1;refine ⟨hi,(hget' i hi).2 h1,?_⟩;rw [ho];simp only [Ai2,Option.getD_some,Array.all_eq_true_iff_forall_mem,Bool.or_eq_true,Bool.not_eq_true'];intro e he;cases hb:Region.binds .any e with
  | false=>exact .inl rfl
  | true=>exact .inr ((hget _).2 (h2 e he hb))
section
variable {E:Env} {ih:Ah} {f:FuncId} {rid:Nat} {ops:Array Oper} {μ0:Ref->Nat} {w0:World} {F0:B3} {hp0:Hp} {Q:Exit->Act->World->Prop}
theorem At.congr {S S':St} {a:Act} {w:World} (e:Eqv S S') (h:At μ0 w0 F0 hp0 S a w):At μ0 w0 F0 hp0 S' a w:=by
 obtain ⟨hd,μ,F,hs,hr,st⟩:=h;have hk:∀{v x},R μ w F S.hp v x->R μ w F S'.hp v x:=fun h=>PG h fun r _=>(e.2 r).symm;refine ⟨hd,μ,F,⟨by rw [<- e.1];exact hs.size,fun i v hv=>hk (hs.at_ i v (by rw [e.1];exact hv))⟩,⟨fun r b hb=>WU (hr.blk r b (by rw [e.2];exact hb)) fun r _=>(e.2 r).symm,fun r s h1 h2=>hr.inj r s (by rw [e.2];exact h1) (by rw [e.2];exact h2),hr.wf⟩,
  ⟨st.ws,st.sub,fun r cs ro h=>?_,fun r es h=>?_,fun r n sz h=>?_,fun r h h'=>st.new r h (by rw [e.2];exact h'),st.frame,st.newF⟩⟩
 ·have:=st.row r cs ro h;rw [e.2] at this;exact this
 ·have:=st.map r es h;rw [e.2] at this;exact this
 ·have:=st.tok r n sz h;rw [e.2] at this;exact this
theorem i3 (hE:EnvOk E) (hih:R2 E ih) (hreg:regionOk ops=true):∀(m:Nat) (ps:List (Nat×Lg)) (listed:Array Bool) (S S':St) (a:Act) (w:World),ps.length=m ->
  Path E ih f rid ops ps S S'->ps.Pairwise (SE (Region.before ops))->ps.Pairwise (fun x y=>x.1<y.1)->listed.size=ops.size ->
  (∀i,listed[i]?=some false ↔ ∃p,(i,p)∈ps) ->
  (∀i j,listed[i]?=some true->((Region.before ops).getD i 0).testBit j=true->j<ops.size->listed[j]?=some true) ->
  At μ0 w0 F0 hp0 S a w->(∀a' w',At μ0 w0 F0 hp0 S' a' w'->Q .normal a' w')->wpAny E.P .any ops Q m listed a w:=by
 intro m
 induction m with
 | zero =>
  intro ps listed S S' a w hm hp _ _ hs hl _ hat hQ
  have:ps=[]:=Ajr.1 hm
  subst this;refine ⟨?_,?_⟩
  ·rw [List.eq_nil_iff_forall_not_mem];intro i hi;obtain ⟨o,_,h1,_⟩:=(Kg hs).1 hi;obtain ⟨p,hp⟩:=(hl i).1 h1;cases hp
  ·cases hp with
   | nil e=>exact hQ a w (hat.congr e)
 | succ m ihm =>
  intro ps listed S S' a w hm hp hw hso hs hl hdown hat hQ;refine ⟨fun hnil=>?_,fun i hi=>?_⟩
  ·-- the first is ready
   exfalso;cases ps with
   | nil=>cases hm
   | cons x ps =>
    obtain ⟨i,p⟩:=x;cases hp with
    | cons o ho h t =>
     have hi1:listed[i]?=some false:=(hl i).2 ⟨p,Aji⟩
     have:i∈Region.ready .any ops listed:=by
      refine (Kg hs).2 ⟨o,ho,hi1,fun e he hb=>?_⟩;have hlt:=(Ir hreg ho).1 e he hb;have hes:e.on<listed.size:=by rw [hs];have:=(Array.getElem?_eq_some_iff.1 ho).1;omega
      cases hv:listed[e.on]? with
      | none=>rw [Array.getElem?_eq_none_iff] at hv;omega
      | some b =>
       cases b with
       | true=>rfl
       | false =>
        obtain ⟨q,hq⟩:=(hl e.on).1 hv;rcases Ajp.1 hq with hq | hq
        ·simp only [Ai0] at hq;omega
        ·have:=(List.pairwise_cons.1 hso).1 _ hq
         simp only at this;omega
     rw [hnil] at this;cases this
  ·obtain ⟨
       o,ho,h1,h2⟩:=(Kg hs).1 hi
   obtain ⟨p,hpm⟩:=(hl i).1 h1;obtain ⟨xs,ys,hsplit⟩:=List.append_of_mem hpm;subst hsplit;obtain ⟨q1,q2,q3⟩:=Ir hreg ho;have hlt:∀x∈xs,x.1<i:=fun x hx=>(List.pairwise_append.1 hso).2.2 x hx (i,p) Aji;have hgt:∀y∈ys,i<y.1:=fun y hy=>(List.pairwise_cons.1 (List.pairwise_append.1 hso).2.1).1 y hy;have hbits:∀j,((Region.before ops).getD i 0).testBit j=true->j<ops.size->listed[j]?=some true:=fun j hj hjs=>by
    obtain ⟨_,e,e1,e2,e3⟩:=q2 j hjs hj;have he:=h2 e e1 e2;rcases e3 with rfl | e3
    ·exact he
    ·exact hdown e.on j he e3 hjs
   have hfront:=Path.front ho xs hp fun x hx=>by
    have hlx:=hlt x hx;have hnb:¬ ((Region.before ops).getD i 0).testBit x.1=true:=fun hb=>by
     have hxs:x.1<ops.size:=by have:=(Array.getElem?_eq_some_iff.1 ho).1;omega
     have h3:=hbits x.1 hb hxs;have h4:=(hl x.1).2 ⟨x.2,List.mem_append_left _ hx⟩;rw [h3] at h4;cases h4
    refine ⟨?_,fun oj hoj=>(q3 x.1 oj hlx hoj).resolve_left hnb⟩;exact ((List.pairwise_append.1 hw).2.2 x hx (i,p) Aji).resolve_left hnb
   cases hfront with
   | cons o' ho' hd t =>
    refine Uv hE hih (YD hd) hat fun a' w' hat'=>ihm (xs++ys) _ _ S' a' w' ?_ t ?_ ?_ ?_ ?_ ?_ hat' hQ
    ·simp at hm ⊢;omega
    ·exact List.Pairwise.sublist ((List.Sublist.refl xs).append (List.sublist_cons_self (i,p) ys)) hw
    ·exact List.Pairwise.sublist ((List.Sublist.refl xs).append (List.sublist_cons_self (i,p) ys)) hso
    ·simp [hs]
    ·intro j;have hil:i<listed.size:=(Array.getElem?_eq_some_iff.1 h1).1;by_cases hij:i=j
     ·subst hij;rw [Array.getElem?_setIfInBounds_self_of_lt hil];refine ⟨fun h=>(by cases h),fun ⟨r,hr⟩=>?_⟩;rcases Ajk.1 hr with hr | hr
      ·have:=hlt _ hr;simp only at this;omega
      ·have:=hgt _ hr;simp only at this;omega
     ·rw [Array.getElem?_setIfInBounds_ne hij,hl j];constructor
      ·rintro ⟨r,hr⟩;refine ⟨r,?_⟩;rcases Ajk.1 hr with hr | hr
       ·exact List.mem_append_left _ hr
       ·rcases Ajp.1 hr with hr | hr
        ·simp only [Ai0] at hr;exact absurd hr.1.symm hij
        ·exact List.mem_append_right _ hr
      ·rintro ⟨r,hr⟩;refine ⟨r,?_⟩;rcases Ajk.1 hr with hr | hr
       ·exact List.mem_append_left _ hr
       ·exact List.mem_append_right _ (Ajj _ hr)
    ·have hil:i<listed.size:=(Array.getElem?_eq_some_iff.1 h1).1;have hup:∀j,listed[j]?=some true->(listed.setIfInBounds i true)[j]?=some true:=fun j hj=>by
      by_cases hij:i=j
      ·subst hij;rw [Array.getElem?_setIfInBounds_self_of_lt hil]
      ·rw [Array.getElem?_setIfInBounds_ne hij];exact hj
     intro k j hk hb hj;by_cases hik:i=k
     ·subst hik;exact hup j (hbits j hb hj)
     ·rw [Array.getElem?_setIfInBounds_ne hik] at hk;exact hup j (hdown k j hk hb hj)
theorem XW (hE:EnvOk E) (hih:R2 E ih) (hreg:regionOk ops=true) {S S':St} {a:Act} {w:World}
  (h:E7 E ih f rid ops (Region.before ops) (List.range ops.size) [] S=some S') (hat:At μ0 w0 F0 hp0 S a w) (hQ:∀a' w',At μ0 w0 F0 hp0 S' a' w'->Q .normal a' w') :
  (Code.region rid ops true).wp E.P Q a w:=by
 refine wp_region_any hE.mixed ?_;obtain ⟨ps,e1,hp,hw,_⟩:=Jo (List.range ops.size) [] (fun i hi=>⟨ops[i]'(by simpa using hi),Array.getElem?_eq_getElem _⟩) h;have hlen:ps.length=ops.size:=by rw [<- Ajw (f:=(·.1)),e1,List.length_range]
 have hat':At μ0 w0 F0 hp0 S a { w with drawn:=w.drawn+1 }:=by obtain ⟨hd,μ,F,hs,hr,st⟩:=hat;obtain ⟨s1,s2⟩:=Ra hr;exact ⟨hd,μ,F,hs.mono s1,s2,st.trans s1⟩
 rw [<- hlen];refine i3 hE hih hreg ps.length ps _ S S' a _ rfl hp hw ?_ (by simp [hlen]) (fun i=>?_) (fun i j hi=>?_) hat' hQ
 ·have:(ps.map (·.1)).Pairwise (· < ·):=by rw [e1];exact List.pairwise_lt_range
  rw [List.pairwise_map] at this;exact this
 ·rw [Array.getElem?_replicate]
  have:(∃p,(i,p)∈ps) ↔ i∈ps.map (·.1):=by simp
  rw [this,e1,List.mem_range,hlen];constructor
  ·intro h;split at h
   ·assumption
   ·cases h
  ·intro h;rw [if_pos h]
 ·rw [Array.getElem?_replicate] at hi;split at hi<;>cases hi
end
end Idl
end Go.Proofs.YtnenpcghegcnhaaGreat

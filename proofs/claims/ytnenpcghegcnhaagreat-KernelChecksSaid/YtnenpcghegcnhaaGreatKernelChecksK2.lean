/- Part 2 of a proof. No statement is proved here. -/
import Derived.Test.YtnenpcghegcnhaaGreatKernelChecksK1
set_option linter.all false
set_option maxRecDepth 20000
set_option maxHeartbeats 16000000
noncomputable section
namespace Go.Proofs.YtnenpcghegcnhaaGreat
namespace Idl
section
variable {μ:Ref->Nat} {w:World} {F:B7} {hp hp':Hp}
theorem Dv {r:Ref}:∀{l:List IV},r∈IV.refs.refsL l ↔ ∃v∈l,r∈v.refs
 | []=>by simp [IV.refs.refsL]
 | v::l=>by simp [IV.refs.refsL,Dv (l:=l)]
theorem Qh {v:IV} {x:Value} (h:R μ w F hp v x):(∀r∈v.refs,hp'.get r=hp.get r)->R μ w F hp' v x:=by
 induction h with
 | dead x=>exact fun _=>.dead x
 | fv v x h=>exact fun _=>.fv v x h
 | ptr r off h=>intro e;refine .ptr r off ?_;rw [e r (by simp [IV.refs])];exact h
 | slc r sz len cap h hle=>intro e;refine .slc r sz len cap ?_ hle;rw [e r (by simp [IV.refs])];exact h
 | nils=>exact fun _=>.nils
 | emp a cap=>exact fun _=>.emp a cap
 | clip es a h=>exact fun _=>.clip es a h
 | clip0 a=>exact fun _=>.clip0 a
 | app r es x hx hne h=>intro e;refine .app r es x hx hne ?_;rw [e r (by simp [IV.refs])];exact h
 | func fn a b x y ha hb h1 h2 ih1 ih2 =>
  intro e;refine .func fn a b x y ha hb (fun j c hc=>ih1 j c hc fun r hr=>e r ?_) (fun j c hc=>ih2 j c hc fun r hr=>e r ?_)
  ·simp only [IV.refs,List.mem_append];exact .inl (Dv.2 ⟨c,List.mem_of_getElem? hc,hr⟩)
  ·simp only [IV.refs,List.mem_append];exact .inr (Dv.2 ⟨c,List.mem_of_getElem? hc,hr⟩)
 | agg cs x hl h ih =>intro e;refine .agg cs x hl fun j c hc=>ih j c hc fun r hr=>e r ?_;simp only [IV.refs];exact Dv.2 ⟨c,List.mem_of_getElem? hc,hr⟩
 | tuple cs x hl h ih =>intro e;refine .tuple cs x hl fun j c hc=>ih j c hc fun r hr=>e r ?_;simp only [IV.refs];exact Dv.2 ⟨c,List.mem_of_getElem? hc,hr⟩
 | mapr r h=>intro e;refine .mapr r ?_;rw [e r (by simp [IV.refs])];exact h
theorem Wo {r:Ref} {b:Blk} (h:BR μ w F hp r b) (e:∀r∈b.refs,hp'.get r=hp.get r):BR μ w F hp' r b:=by
 cases b with
 | row cells ro =>obtain ⟨c,t,h1,h2,h3,h4,h5⟩:=h;exact ⟨c,t,h1,h2,fun j x hx=>Qh (h3 j x hx) fun r hr=>e r (by simp only [Blk.refs];exact Dv.2 ⟨x,List.mem_of_getElem? hx,hr⟩),h4,h5⟩
 | tok n sz=>exact h
 | map es =>obtain ⟨arr,clk,h1,h2,h3⟩:=h;refine ⟨arr,clk,h1,h2,fun j n x hx=>?_⟩;obtain ⟨me,m1,m2,m3⟩:=h3 j n x hx;exact ⟨me,m1,m2,Qh m3 fun r hr=>e r (by simp only [Blk.refs];exact Dv.2 ⟨x,List.mem_map.2 ⟨(n,x),List.mem_of_getElem? hx,rfl⟩,hr⟩)⟩
theorem Y0 {slots:List IV} {a:Act} (h:SlotsR μ w F hp slots a.tmps) (d:Option Nat) {v:IV} {x:Value} (hv:R μ w F hp v x) :
  SlotsR μ w F hp (Ck d v slots) (a.put d x).tmps:=by
 cases d with
 | none=>exact h
 | some d =>
  refine ⟨by simp [Ck,Act.put,h.size],fun i y hy=>?_⟩;simp only [Ck,Act.put] at hy ⊢;rw [Array.getD_eq_getD_getElem?];by_cases e:d=i
  ·subst e;by_cases hl:d<slots.length
   ·rw [List.getElem?_set_self hl] at hy;cases hy;rw [Array.getElem?_setIfInBounds_self_of_lt (by rw [<- h.size];exact hl)];exact hv
   ·rw [List.getElem?_eq_none (by simp;omega)] at hy;cases hy
  ·rw [List.getElem?_set_ne e] at hy;rw [Array.getElem?_setIfInBounds_ne e,<- Array.getD_eq_getD_getElem?];exact h.at_ i y hy
theorem QA (a:Act) (d:Option Nat) (x:Value):(a.put d x).defers=a.defers:=by cases d<;>rfl
theorem LY {l m:List IV} {x y:Array Value} (h1:SlotsR μ w F hp l x) (h2:SlotsR μ w F hp m y):SlotsR μ w F hp (l++m) (x++y):=by
 refine ⟨by simp [h1.size,h2.size],fun i v hv=>?_⟩;rw [Array.getD_eq_getD_getElem?];by_cases hi:i<l.length
 ·rw [Ah9 hi] at hv;rw [Array.getElem?_append_left (by rw [<- h1.size];exact hi),<- Array.getD_eq_getD_getElem?];exact h1.at_ i v hv
 ·rw [Ah8 (by omega)] at hv;rw [Array.getElem?_append_right (by rw [<- h1.size];omega),<- Array.getD_eq_getD_getElem?,<- h1.size];exact h2.at_ _ v hv
theorem TH {slots:List IV} {a:Act} (h:SlotsR μ w F hp slots a.tmps) (args:Array Operand):SlotsR μ w F hp (args.toList.map (AI slots)) (args.map a.eval):=by refine ⟨by simp,fun i v hv=>?_⟩;simp only [List.getElem?_map,Array.getElem?_toList,Ah1] at hv;obtain ⟨c,hc,rfl⟩:=hv;rw [Array.getD_eq_getD_getElem?];simp only [Array.getElem?_map,hc,Ah2,Option.getD_some];exact AF h c
theorem Sc {ops:Array Oper} {slots:List IV} {a:Act} {o:Oper} {b:Bool} (h:SlotsR μ w F hp slots a.tmps) (e:Dj ops slots o=some b) :
  Region.wanted o (yielded ops a.tmps)=b:=by
 unfold Dj at e;unfold Region.wanted;split at e
 ·rename_i hg;rw [hg];simpa using e
 ·rename_i j want hg;rw [hg];simp only [yielded];have key:∀v,((ops[j]?).bind (·.dst)).bind (slots[·]?)=some v->∃x,((ops[j]?).bind (·.dst)).bind (a.tmps[·]?)=some x/\R μ w F hp v x:=by
   intro v hv;obtain ⟨d,h1,h2⟩:=Option.bind_eq_some_iff.1 hv;rw [h1];have hd:d<a.tmps.size:=by rw [<- h.size];exact (Ah7.1 h2).1
   refine ⟨a.tmps[d],by simp [hd],?_⟩
   have:=h.at_ d v h2
   rw [Array.getD_eq_getD_getElem?,Array.getElem?_eq_getElem hd] at this;exact this
  split at e
  ·rename_i b' hv;obtain ⟨x,h1,h2⟩:=key _ hv;cases h2 with | fv _ _ h2 =>cases h2;rw [h1];simp only [AhZ] at e;rw [<- e];rfl
  ·rename_i hv;obtain ⟨x,h1,h2⟩:=key _ hv;cases h2 with | fv _ _ h2 =>
   cases h2 with | tuple _ x _ _ =>
   rw [h1];simp only [AhZ] at e;rw [<- e];rfl
  ·cases e
end
section
variable {E:Env} {μ:Ref->Nat} {w:World} {F:B7} {hp hp':Hp} {ih:Ai} {slots:List IV} {a:Act} {o:Oper}
theorem iL (hE:EnvOk E) (hs:SlotsR μ w F hp slots a.tmps) {g:Operand} {args:Array Operand} {ts:Array TypeId} (ho:o.op=.call { callee:=.value g,args:=args,argTypes:=ts })
  {h:FuncId} {first cap:List IV} (hc:callee (AI slots g)=some (h,first,cap)) (hf:∃fn,E.P.funcs[h]?=some fn/\fn.body.isSome) :
  ∃vals,(execOp a.eval o).run E.P w=.ok (.enter h vals) w/\SlotsR μ w F hp (first++args.toList.map (AI slots)++cap) vals:=by
 have hg:=AF hs g;have key:∃x y,a.eval g=.func (.func h) x y/\SlotsR μ w F hp first x/\SlotsR μ w F hp cap y:=by
  unfold callee at hc;split at hc
  ·rename_i f p q he;rw [he] at hg;simp only [AhZ,Ah0] at hc;obtain ⟨rfl,rfl,rfl⟩:=hc;generalize hxv:a.eval g=xv at hg;cases hg with | fv _ _ hg =>
   cases hg with | func _ _ _ x y ha hb h1 h2 =>
   refine ⟨x,y,rfl,⟨by simpa using ha,fun i v hv=>?_⟩,⟨by simpa using hb,fun i v hv=>?_⟩⟩ <;>
    simp only [List.getElem?_map,Ah1] at hv<;>obtain ⟨c,hc,rfl⟩:=hv
   ·exact .fv _ _ (h1 i c hc)
   ·exact .fv _ _ (h2 i c hc)
  ·rename_i f p q he;rw [he] at hg;simp only [AhZ,Ah0] at hc;obtain ⟨rfl,rfl,rfl⟩:=hc;generalize hxv:a.eval g=xv at hg;cases hg with | func _ _ _ x y ha hb h1 h2 =>exact ⟨x,y,rfl,⟨ha,h1⟩,⟨hb,h2⟩⟩
  ·cases hc
 obtain ⟨x,y,h1,h2,h3⟩:=key;obtain ⟨fn,hfn,hb⟩:=hf;refine ⟨(x++args.map a.eval)++y,?_,LY (LY h2 (TH hs args)) h3⟩;have hn:=hE.names h fn hfn hb
 have hn' : fn.name ≠ "runtime.NumGoroutine" := by simpa using hn
 obtain ⟨c,hbc⟩:=Option.isSome_iff_exists.1 hb;simp [execOp,ho,resolve,h1,Deferred.ofValue,invoke,callFunc,hfn,hn',hbc]
def At (μ0:Ref->Nat) (w0:World) (F0:B7) (hp0:Hp) (S:St) (a:Act) (w:World):Prop :=a.defers=[]/\∃μ F,SlotsR μ w F S.hp S.slots a.tmps/\HR μ w F S.hp/\Stp μ0 w0 F0 hp0 μ w F S.hp
variable {μ0:Ref->Nat} {w0:World} {F0:B7} {hp0:Hp} {Q:Exit->Act->World->Prop} {K:Act->World->Prop}
theorem Xh (hE:EnvOk E) (hih:Q3 E ih) {f:FuncId} {rid i:Nat} {ops:Array Oper} {S S':St} (h:step E ih f rid ops i S=some S')
  (hat:At μ0 w0 F0 hp0 S a w) (hK:∀a' w',At μ0 w0 F0 hp0 S' a' w'->K a' w'):wpOp E.P ops Q i K a w:=by
 obtain ⟨hd,μ,F,hs,hr,hst⟩:=hat;unfold step at h;unfold wpOp;split at h
 ·rename_i ho;rw [ho];simp only [AhZ] at h;subst h;exact hK a w ⟨hd,μ,F,hs,hr,hst⟩
 ·rename_i o ho;rw [ho];split at h
  ·cases h
  ·rename_i hw;simp only [AhZ] at h;subst h;simp only [Sc hs hw,Bool.false_eq_true,if_false];exact hK _ w ⟨by rw [QA];exact hd,μ,F,Y0 hs o.dst (.fv _ _ (.tuple [] #[] rfl fun j c h=>by simp at h)),hr,hst⟩
  ·rename_i hw;simp only [Sc hs hw,if_true];refine .inl ?_;unfold Oper.wp;have call:∀{g args ts h' first cap res hp1},o.op=.call { callee:=.value g,args:=args,argTypes:=ts }->callee (AI S.slots g)=some (h',first,cap) ->
     (∃fn,E.P.funcs[h']?=some fn/\fn.body.isSome) ->
     (∀vals,SlotsR μ w F S.hp (first++args.toList.map (AI S.slots)++cap) vals->ZU E μ w F S.hp h' vals res hp1) ->
     S'=⟨Ck o.dst res S.slots,hp1⟩->o.upon E.P a K Q ((execOp a.eval o).run E.P w):=by
    intro g args ts h' first cap res hp1 ho' hc hf hsim hS
    subst hS;obtain ⟨vals,e1,e2⟩:=iL hE hs ho' hc hf;rw [e1];refine (hsim vals e2).mono ?_;rintro e w' ⟨v,μ',F',rfl,st,hr',hv⟩;exact hK _ w' ⟨by rw [QA];exact hd,μ',F',Y0 (hs.mono st) o.dst hv,hr',hst.trans st⟩
   split at h
   ·rename_i h' args' hin;simp only [Ah1] at h;obtain ⟨⟨v,hp1⟩,h1,h2⟩:=h;unfold EF at hin;split at hin
    ·rename_i g args ts ho';split at hin
     ·rename_i h'' first cap hc
      split at hin
      ·simp only [AhZ,Ah0] at hin;obtain ⟨rfl,rfl⟩:=hin;obtain ⟨hf,hsim⟩:=hih _ _ _ _ _ h1;exact call ho' hc hf (fun vals hv=>hsim μ w F vals hr hv) h2.symm
      ·cases hin
     ·cases hin
    ·cases hin
   ·rename_i hin;obtain ⟨m,h1,h2⟩:=Option.bind_eq_some_iff.1 h;simp only [En,Ah1] at h2;obtain ⟨hp1,h2,h3⟩:=h2;by_cases hic:eX o.op=true
    ·cases hop:o.op with
     | call c =>
      obtain ⟨cl,args,ts⟩:=c;cases cl with
      | value g =>
       rw [hop] at h1;simp only [Ee,Da] at h1;split at h1
       ·rename_i h'' first cap hc
        split at h1
        ·exact As h1
        ·obtain ⟨eff,h4,h5⟩:=Rd.run_bind_some h1;simp only [Rd.run,AhZ] at h5;subst h5;simp only [A4] at h2;have h6:laid S.hp eff.upd=some hp1:=by
          cases hl:laid S.hp eff.upd with
          | none=>rw [hl] at h2;cases h2
          | some q=>rw [hl] at h2;exact h2
         by_cases hany:∃vals,SlotsR μ w F S.hp (first++args.toList.map (AI S.slots)++cap) vals
         ·obtain ⟨vals,hv⟩:=hany;exact call hop hc (Zo hr hih hv h4 h6).1 (fun vals hv=>(Zo hr hih hv h4 h6).2) h3.symm
         ·refine absurd ?_ hany;have hg:=AF hs g;unfold callee at hc;split at hc
          ·rename_i he;rw [he] at hg;simp only [AhZ,Ah0] at hc;obtain ⟨rfl,rfl,rfl⟩:=hc;generalize a.eval g=xv at hg;cases hg with | fv _ _ hg =>
           cases hg with | func _ _ _ x y ha hb q1 q2 =>
           refine ⟨(x++args.map a.eval)++y,LY (LY ⟨by simpa using ha,fun i v hv=>?_⟩ (TH hs args)) ⟨by simpa using hb,fun i v hv=>?_⟩⟩ <;>
            simp only [List.getElem?_map,Ah1] at hv<;>obtain ⟨c,hc,rfl⟩:=hv
           ·exact .fv _ _ (q1 i c hc)
           ·exact .fv _ _ (q2 i c hc)
          ·rename_i he;rw [he] at hg;simp only [AhZ,Ah0] at hc;obtain ⟨rfl,rfl,rfl⟩:=hc;generalize a.eval g=xv at hg;cases hg with | func _ _ _ x y ha hb q1 q2 =>exact ⟨(x++args.map a.eval)++y,LY (LY ⟨ha,q1⟩ (TH hs args)) ⟨hb,q2⟩⟩
          ·cases hc
       ·exact As h1
      | builtin b=>rw [hop] at hic;cases hic
      | invoke r n=>rw [hop] at hic;cases hic
     | _=>rw [hop] at hic;cases hic
    ·obtain ⟨x,w',μ',F',e1,st,hr',hv⟩:=z6 hE hr hs (by simpa using hic) h1 h2;have hfin:K (a.put o.dst x) w':=by
      refine hK _ w' ?_;rw [<- h3];exact ⟨by rw [QA];exact hd,μ',F',Y0 (hs.mono st) o.dst hv,hr',hst.trans st⟩
     rcases e1 with e1 | ⟨e1,rfl⟩
     ·rw [e1];exact hfin
     ·rw [e1];exact hfin
theorem NJ (hE:EnvOk E) (hih:Q3 E ih) {f:FuncId} {rid:Nat} {ops:Array Oper}:∀(l:List Nat) {S S':St} {a:Act} {w:World},ID E ih f rid ops l S=some S' ->
  At μ0 w0 F0 hp0 S a w->(∀a' w',At μ0 w0 F0 hp0 S' a' w'->Q .normal a' w')->wpOps E.P ops Q l a w
 | [],S,S',a,w,h,hat,hQ=>by
  simp only [ID,AhZ] at h;subst h;exact hQ a w hat
 | i::l,S,S',a,w,h,hat,hQ=>by
  simp only [ID,Option.bind_eq_some_iff] at h;obtain ⟨S1,h1,h2⟩:=h;rw [wpOps_cons];exact Xh hE hih h1 hat fun a' w' hat'=>NJ hE hih l h2 hat' hQ
end
theorem MO {α:Type}:∀(r:Rd α) (h:Hp) (l l':List Ref) (a:α),r.runLog h l=some (a,l')->∀x∈l,x∈l'
 | .ret a,h,l,l',b,e,x,hx=>by simp only [Rd.runLog,AhZ,Ah0] at e;rw [<- e.2];exact hx
 | .fail,h,l,l',b,e,x,hx=>by cases e
 | .get r k,h,l,l',b,e,x,hx=>by
  simp only [Rd.runLog] at e;split at e
  ·exact MO _ h _ l' b e x (List.mem_cons_of_mem _ hx)
  ·cases e
theorem FA {α:Type}:∀(r:Rd α) (h:Hp) (l l':List Ref) (a:α),r.runLog h l=some (a,l')->r.run h=some a
 | .ret a,h,l,l',b,e=>by simp only [Rd.runLog,AhZ,Ah0] at e;simp [Rd.run,e.1]
 | .fail,h,l,l',b,e=>by cases e
 | .get r k,h,l,l',b,e=>by
  simp only [Rd.runLog] at e;split at e
  ·rename_i c hc;simp only [Rd.run,hc];exact FA _ h _ l' b e
  ·cases e
theorem Jf {α:Type}:∀(r:Rd α) (h h':Hp) (l l':List Ref) (a:α),r.runLog h l=some (a,l')->(∀x∈l',h'.get x=h.get x)->r.runLog h' l=some (a,l')
 | .ret a,h,h',l,l',b,e,_=>e
 | .fail,h,h',l,l',b,e,_=>by cases e
 | .get r k,h,h',l,l',b,e,hx=>by
  simp only [Rd.runLog] at e ⊢;split at e
  ·rename_i c hc;have hr:r∈l':=MO _ h _ l' b e r List.mem_cons_self;rw [hx r hr,hc];exact Jf _ h h' _ l' b e hx
  ·cases e
theorem NE {A:Ref->Prop} {h h':Hp} {s:Ref} {b:Blk} (e:∀r,A r->h'.get r=h.get r) (hs:A s) (hk:(∃k,s=.own k)\/(h.get s).isSome) :
  ∀r,A r->(h'.set s b).get r=(h.set s b).get r:=by
 intro r hr;by_cases hrs:r=s
 ·subst hrs;rcases hk with ⟨k,rfl⟩ | hk
  ·rw [Cg,Cg]
  ·rw [Cc _ _ _ hk,Cc _ _ _ (by rw [e r hs];exact hk)]
 ·rw [AD _ _ _ _ hrs,AD _ _ _ _ hrs];exact e r hr
theorem L1 {A:Ref->Prop}:∀(u:List (Ref×Blk)) (h h' h1:Hp),laid h u=some h1->(∀r,A r->h'.get r=h.get r)->(∀r∈Bz u,A r) ->
  ∃h1',laid h' u=some h1'/\∀r,A r->h1'.get r=h1.get r
 | [],h,h',h1,e,ha,_=>by simp only [laid,AhZ] at e;subst e;exact ⟨h',rfl,ha⟩
 | (s,b)::u,h,h',h1,e,ha,hk=>by
  simp only [laid] at e ⊢;have hs:A s:=hk s (by simp [Bz]);cases hq:h.get s with
  | none=>rw [hq] at e;cases e
  | some c =>rw [hq] at e;rw [ha s hs,hq];exact L1 u _ _ h1 e (NE ha hs (.inr (by rw [hq];rfl))) fun r hr=>hk r (by simp [Bz] at hr ⊢;exact .inr hr)
def LK (k:Nat) (m:Made):List Ref:=Bz m.eff.upd++(match m.new with | some _=>[.own k] | none=>[])
theorem Tp {A:Ref->Prop} {k:Nat} {m:Made} {h h' h1:Hp} (e:A4 k h m=some h1) (ha:∀r,A r->h'.get r=h.get r) (hk:∀r∈LK k m,A r) :
  ∃h1',A4 k h' m=some h1'/\∀r,A r->h1'.get r=h1.get r:=by
 unfold A4 at e ⊢;obtain ⟨g,e1,e2⟩:=Option.bind_eq_some_iff.1 e;obtain ⟨g',e3,e4⟩:=L1 _ h h' g e1 ha fun r hr=>hk r (List.mem_append_left _ hr);rw [e3];simp only [Option.bind_some];unfold CU at e2 ⊢;split at e2
 ·simp only [AhZ] at e2;subst e2;exact ⟨g',rfl,e4⟩
 ·rename_i b hb;have hA:A (.own k):=hk _ (by simp [LK,hb]);split at e2
  ·cases e2
  ·rename_i hn;simp only [AhZ] at e2;subst e2;rw [e4 _ hA,hn];exact ⟨_,rfl,NE e4 hA (.inl ⟨k,rfl⟩)⟩
theorem Nc {k:Nat} {m:Made} {h h1:Hp} (e:A4 k h m=some h1):∀r,r ∉ LK k m->h1.get r=h.get r:=by
 intro r hr;unfold A4 at e;obtain ⟨g,e1,e2⟩:=Option.bind_eq_some_iff.1 e;have h2:g.get r=h.get r:=FC _ _ _ e1 r fun p hp e=>hr (List.mem_append_left _ (by simp only [Bz];exact List.mem_map.2 ⟨p,hp,e⟩));rw [<- h2];unfold CU at e2;split at e2
 ·simp only [AhZ] at e2;rw [e2]
 ·rename_i b hb;split at e2
  ·cases e2
  ·simp only [AhZ] at e2;rw [<- e2];exact AD _ _ _ _ fun e=>hr (by simp [LK,hb,e])
section
variable {E:Env} {ih:Ai} {f:FuncId} {rid:Nat} {ops:Array Oper}
theorem Np {slots slots':List IV} {o:Op} (h:∀x∈o.operands,AI slots' x=AI slots x):EF E slots' o=EF E slots o:=by
 unfold EF;split
 ·rename_i g args ts;simp only [Op.operands] at h;rw [h g (by simp [Call.operands]),List.map_congr_left (g:=AI slots) fun x hx=>h x (by simp [Call.operands];exact .inr (by simpa using hx))]
 ·rfl
theorem Yr {slots slots':List IV} {i:Nat} {o:Op} (h:∀x∈o.operands,AI slots' x=AI slots x):Ee E ih f rid i slots' o=Ee E ih f rid i slots o:=by
 have pairs:∀ps:Array (Nat×Operand),(∀x∈ps.map (·.2),AI slots' x=AI slots x) ->
   (ps.toList.map fun (j,x)=>(j,AI slots' x))=(ps.toList.map fun (j,x)=>(j,AI slots x)):=fun ps hp =>
  List.map_congr_left fun p hm=>by
   obtain ⟨i,x⟩:=p;simp only [hp x (Array.mem_map.2 ⟨(i,x),by simpa using hm,rfl⟩)]
 cases o<;>simp only [Op.operands] at h<;>simp only [Ee,Da]
 case build t ps=>rw [pairs ps fun x hx=>h x (by simpa using hx)]
 case buildSlice t n ps=>rw [pairs ps fun x hx=>h x (by simpa using hx)]
 case makeFunc fn first captured =>rw [List.map_congr_left (l:=first.toList) fun x hx=>h x (by simp at hx;simp [hx]),List.map_congr_left (l:=captured.toList) fun x hx=>h x (by simp at hx;simp [hx])]
 case call c =>
  obtain ⟨cl,args,ts⟩:=c;have ha:args.toList.map (AI slots')=args.toList.map (AI slots):=List.map_congr_left fun x hx=>h x (by simp [Call.operands];simp at hx;simp [hx]);cases cl with
  | value g=>simp only [ha,h g (by simp [Call.operands])]
  | builtin b=>simp only [ha]
  | invoke r n=>rfl
 case makeMap t r=>cases r<;>simp_all
 case slice t x lo hi mx=>cases lo<;>cases hi<;>cases mx<;>simp_all
 all_goals (first | rfl | (simp_all;done))
theorem Nl {slots slots':List IV} {o:Oper} (h:∀d∈o.looksAt ops,slots'[d]?=slots[d]?):Dj ops slots' o=Dj ops slots o:=by
 unfold Dj;cases hg:o.guard with
 | none=>rfl
 | some gw =>
  obtain ⟨j,want⟩:=gw;simp only
  have:((ops[j]?).bind (·.dst)).bind (slots'[·]?)=((ops[j]?).bind (·.dst)).bind (slots[·]?):=by
   cases hd:(ops[j]?).bind (·.dst) with
   | none=>rfl
   | some d=>exact h d (by simp [Oper.looksAt,hg,hd])
  rw [this]
abbrev Lg:=List Ref×List Ref
abbrev Nu (E:Env) (ih:Ai) (f:FuncId) (rid:Nat) (ops:Array Oper) (i:Nat) (S:St) (S':St) (p:Lg):Prop:=I2 E ih f rid ops i S=some (S',p)
theorem I5 {i:Nat} {o:Oper} (ho:ops[i]?=some o) {S S1 T:St} {p:Lg} (h:Nu E ih f rid ops i S S1 p) (hsl:∀d∈o.looksAt ops,T.slots[d]?=S.slots[d]?)
  {A:Ref->Prop} (ha:∀r,A r->T.hp.get r=S.hp.get r) (h1:∀r∈p.1,A r) (h2:∀r∈p.2,A r) :
  ∃T1,Nu E ih f rid ops i T T1 p/\(∀r,A r->T1.hp.get r=S1.hp.get r)/\(∀r,r ∉ p.2->T1.hp.get r=T.hp.get r)/\(∀r,r ∉ p.2->S1.hp.get r=S.hp.get r) /\
   ∃v,T1.slots=Ck o.dst v T.slots/\S1.slots=Ck o.dst v S.slots:=by
 have hopd:∀x∈o.op.operands,AI T.slots x=AI S.slots x:=fun x hx=>by
  cases x with
  | tmp t =>simp only [AI,List.getD_eq_getElem?_getD];rw [hsl t (List.mem_append_left _ (List.mem_filterMap.2 ⟨.tmp t,by simpa using hx,rfl⟩))]
  | _=>rfl
 unfold Nu I2 at h ⊢;simp only [ho] at h ⊢;rw [Nl hsl];split at h
 ·cases h
 ·simp only [AhZ,Ah0] at h;obtain ⟨rfl,rfl⟩:=h;exact ⟨_,rfl,ha,fun _ _=>rfl,fun _ _=>rfl,Fw,rfl,rfl⟩
 ·rw [Np hopd,Yr hopd];split at h
  ·cases h
  ·cases hl:(Ee E ih f rid i S.slots o.op).runLog S.hp [] with
   | none=>rw [hl] at h;cases h
   | some ml =>obtain ⟨m,rd⟩:=ml;rw [hl] at h;simp only [En,Option.map_map,Ah1,Function.comp,Ah0] at h;obtain ⟨g,hg,rfl,rfl⟩:=h;have hl':=Jf _ S.hp T.hp [] rd m hl fun x hx=>ha x (h1 x hx);obtain ⟨g',hg',hag⟩:=Tp hg ha h2;rw [hl'];refine ⟨⟨Ck o.dst m.eff.val T.slots,g'⟩,?_,hag,Nc hg',Nc hg,m.eff.val,rfl,rfl⟩;simp [En,hg']
theorem Yk {i:Nat} {S S1:St} {p:Lg} (h:Nu E ih f rid ops i S S1 p):step E ih f rid ops i S=some S1:=by
 unfold Nu I2 at h;unfold step;cases ho:ops[i]? with
 | none =>simp only [ho,AhZ,Ah0] at h ⊢;exact h.1
 | some o =>
  simp only [ho] at h ⊢;split at h
  ·cases h
  ·rename_i hw;simp only [AhZ,Ah0] at h;simp only [AhZ];exact h.1
  ·rename_i hw;split at h
   ·cases h
   ·rename_i hin;cases hl:(Ee E ih f rid i S.slots o.op).runLog S.hp [] with
    | none=>rw [hl] at h;cases h
    | some ml =>obtain ⟨m,rd⟩:=ml;rw [hl] at h;simp only [Ah1,Ah0] at h;obtain ⟨g,hg,rfl,_⟩:=h;rw [hin,FA _ _ _ _ _ hl];exact hg
def Eqv (S T:St):Prop:=S.slots=T.slots/\∀r,S.hp.get r=T.hp.get r
inductive Path (E:Env) (ih:Ai) (f:FuncId) (rid:Nat) (ops:Array Oper):List (Nat×Lg)->St->St->Prop
 | nil {S S':St} (e:Eqv S S'):Path E ih f rid ops [] S S'
 | cons {i:Nat} {p:Lg} {ps:List (Nat×Lg)} {S S1 S':St} (o:Oper) (ho:ops[i]?=some o) (h:Nu E ih f rid ops i S S1 p) (t:Path E ih f rid ops ps S1 S'):Path E ih f rid ops ((i,p)::ps) S S'
theorem Path.congr {ps:List (Nat×Lg)} {S S':St} (h:Path E ih f rid ops ps S S'):∀{T:St},Eqv T S->Path E ih f rid ops ps T S':=by
 induction h with
 | nil e=>exact fun {T} e'=>.nil ⟨e'.1.trans e.1,fun r=>(e'.2 r).trans (e.2 r)⟩
 | cons o ho h t ih' =>intro T e;obtain ⟨T1,h1,h2,_,_,v,h3,h4⟩:=I5 ho h (T:=T) (fun d _=>by rw [e.1]) (A:=fun _=>True) (fun r _=>e.2 r) (fun _ _=>trivial) (fun _ _=>trivial);exact .cons o ho h1 (ih' ⟨by rw [h3,h4,e.1],fun r=>h2 r trivial⟩)
theorem Kg {a b:List Ref} (h:MS a b=true):∀r∈a,r ∉ b:=by intro r hr hb;have h1:=List.all_eq_true.1 h r hr;have h2:=List.all_eq_true.1 h1 r hb;simp at h2
theorem KW {d:Option Nat} {v:IV} {slots:List IV} {t:Nat} (h:∀e,d=some e->e≠t):(Ck d v slots)[t]?=slots[t]?:=by
 cases d with
 | none=>rfl
 | some e=>exact List.getElem?_set_ne (h e rfl)
theorem swap {i j:Nat} {oi oj:Oper} (hi:ops[i]?=some oi) (hj:ops[j]?=some oj) {S S1 S2:St} {p q:Lg} (h1:Nu E ih f rid ops j S S1 q) (h2:Nu E ih f rid ops i S1 S2 p)
  (hap:oj.apart ops oi=true) (hc:clash q p=true):∃T U,Nu E ih f rid ops i S T p/\Nu E ih f rid ops j T U q/\Eqv U S2:=by
 obtain ⟨a1,a2,a3⟩:=Oper.apart_spec hap;simp only [clash,Bool.and_eq_true] at hc;obtain ⟨⟨c1,c2⟩,c3⟩:=hc;have d1:=Kg c1;have d2:=Kg c2;have d3:=Kg c3;obtain ⟨_,_,_,_,f1,v,_,s1⟩:=I5 hj h1 (T:=S) (fun _ _=>rfl) (A:=fun _=>True) (fun _ _=>rfl) (fun _ _=>trivial) (fun _ _=>trivial);obtain ⟨T,t1,t2,t3,f2,u,s2,s3⟩:=I5 hi h2 (T:=S) (fun d hd=>by rw [s1,KW fun e he e'=>a1 e he (e' ▸ hd)]) (A:=fun r=>r ∉ q.2) (fun r hr=>(f1 r hr).symm)
  (fun r hr hq=>d1 r hq hr) (fun r hr hq=>d2 r hq hr)
 obtain ⟨U,u1,u2,u3,_,v',s4,s5⟩:=I5 hj h1 (T:=T) (fun d hd=>by rw [s2,KW fun e he e'=>a3 e he (e' ▸ hd)]) (A:=fun r=>r ∉ p.2) (fun r hr=>t3 r hr)
  (fun r hr hp=>d3 r hp hr) (fun r hr hp=>d2 r hr hp)
 refine ⟨T,U,t1,u1,?_,fun r=>?_⟩
 ·rw [s4,s2,s3,s5];cases hdj:oj.dst with
  | none=>rfl
  | some d=>cases hdi:oi.dst with
   | none=>rfl
   | some e =>have hne:e≠d:=fun h=>a2 d hdj (by rw [hdi,h]);exact List.set_comm _ _ hne
 ·by_cases hr:r∈q.2
  ·have hp:r ∉ p.2:=d2 r hr;rw [u2 r hp,f2 r hp]
  ·rw [u3 r hr,t2 r hr]
theorem Path.front {i:Nat} {p:Lg} {oi:Oper} (hi:ops[i]?=some oi) {ys:List (Nat×Lg)} {S':St}:∀(xs:List (Nat×Lg)) {S:St},Path E ih f rid ops (xs++(i,p)::ys) S S' ->
  (∀x∈xs,clash x.2 p=true/\∀oj,ops[x.1]?=some oj->oj.apart ops oi=true)->Path E ih f rid ops ((i,p)::(xs++ys)) S S'
 | [],S,h,_=>h
 | x::xs,S,h,hx=>by
  cases h with
  | cons o ho h1 t =>
   have ih':=Path.front hi xs t fun y hy=>hx y (List.mem_cons_of_mem _ hy);cases ih' with
   | cons o' ho' h2 t' =>obtain ⟨hc,hap⟩:=hx _ List.mem_cons_self;obtain ⟨T,U,g1,g2,g3⟩:=swap hi ho h1 h2 (hap o ho) hc;exact .cons oi hi g1 (.cons o ho g2 (t'.congr g3))
def Ti (b:Array Nat) (x y:Nat×Lg):Prop:=(b.getD y.1 0).testBit x.1=true\/clash x.2 y.2=true
theorem IZ {b:Array Nat}:∀(L:List Nat) (done:List (Nat×Lg)) {S S':St},(∀i∈L,∃o,ops[i]?=some o)->E6 E ih f rid ops b L done S=some S' ->
  ∃ps:List (Nat×Lg),ps.map (·.1)=L/\Path E ih f rid ops ps S S'/\ps.Pairwise (Ti b)/\∀y∈ps,∀x∈done,Ti b x y
 | [],done,S,S',_,h=>by
  simp only [E6,AhZ] at h;subst h;exact ⟨[],rfl,.nil ⟨rfl,fun _=>rfl⟩,.nil,fun y hy=>by cases hy⟩
 | i::l,done,S,S',hL,h=>by
  simp only [E6] at h;split at h
  ·cases h
  ·rename_i S1 p hs;split at h
   ·rename_i hd;obtain ⟨ps,e,hp,hw,hm⟩:=IZ l _ (fun j hj=>hL j (List.mem_cons_of_mem _ hj)) h;obtain ⟨o,ho⟩:=hL i List.mem_cons_self;refine ⟨(i,p)::ps,by simp [e],.cons o ho hs hp,List.pairwise_cons.2 ⟨fun y hy=>hm y hy _ List.mem_cons_self,hw⟩,fun y hy x hx=>?_⟩;rcases List.mem_cons.1 hy with rfl | hy
    ·have:=List.all_eq_true.1 hd x hx
     simp only [Bool.or_eq_true] at this;exact this
    ·exact hm y hy x (List.mem_cons_of_mem _ hx)
   ·cases h
theorem Im (h:regionOk ops=true) {i:Nat} {o:Oper} (ho:ops[i]?=some o) :
  (∀e∈o.after,Region.binds .any e=true->e.on<i) /\
  (∀j,j<ops.size->((Region.before ops).getD i 0).testBit j=true->j<i/\∃e∈o.after,Region.binds .any e=true/\(e.on=j\/((Region.before ops).getD e.on 0).testBit j=true)) /\
  (∀j oj,j<i->ops[j]?=some oj->((Region.before ops).getD i 0).testBit j=true\/oj.apart ops o=true):=by
 have hi:i<ops.size:=(Array.getElem?_eq_some_iff.1 ho).1;unfold regionOk at h;have h1:=List.all_eq_true.1 h i (by simpa using hi);simp only [ho,Bool.and_eq_true] at h1;obtain ⟨h2,h3⟩:=h1;refine ⟨fun e he hb=>?_,fun j hj hb=>?_,fun j oj hj hoj=>?_⟩
 ·have:=List.all_eq_true.1 h2 e (by simpa using he)
  simp only [hb,Bool.not_true,Bool.false_or,decide_eq_true_eq] at this;exact this
 ·have:=List.all_eq_true.1 h3 j (by simpa using hj)
  simp only [hb,Bool.not_true,Bool.false_or,Bool.and_eq_true,decide_eq_true_eq,List.any_eq_true,Bool.or_eq_true] at this;obtain ⟨⟨t1,e,t2,t3,t4⟩,_⟩:=this;exact ⟨t1,e,by simpa using t2,t3,t4⟩
 ·have hjs:j<ops.size:=by omega
  have:=List.all_eq_true.1 h3 j (by simpa using hjs)
  simp only [Bool.and_eq_true,Bool.or_eq_true,decide_eq_true_eq,hoj] at this;rcases this.2 with (t | t) | t
  ·omega
  ·exact .inl t
  ·exact .inr t
end
theorem KB {ops:Array Oper} {listed:Array Bool} (hs:listed.size=ops.size) {i:Nat}:i∈Region.ready .any ops listed ↔
  ∃o,ops[i]?=some o/\listed[i]?=some false/\∀e∈o.after,Region.binds .any e=true->listed[e.on]?=some true:=by
 have hget:∀(k:Nat),listed.getD k false=true ↔ listed[k]?=some true:=fun k=>by
  rw [Array.getD_eq_getD_getElem?];cases listed[k]? with
  | none=>simp
  | some b=>simp
 have hget':∀(k:Nat),k<ops.size->(listed.getD k true=false ↔ listed[k]?=some false):=fun k hk=>by
  rw [Array.getD_eq_getD_getElem?];cases h:listed[k]? with
  | none=>rw [Array.getElem?_eq_none_iff] at h;omega
  | some b=>simp
 simp only [Region.ready,List.mem_filter,List.mem_range,Bool.and_eq_true,Bool.not_eq_true'];constructor
 ·rintro ⟨hi,h1,h2⟩;rw [Array.getElem?_eq_getElem hi] at h2;simp only [Ah2,Option.getD_some,Array.all_eq_true_iff_forall_mem,Bool.or_eq_true,Bool.not_eq_true'] at h2;refine ⟨ops[i],Array.getElem?_eq_getElem hi,(hget' i hi).1 h1,fun e he hb=>?_⟩;rcases h2 e he with h | h
  ·rw [hb] at h;cases h
  ·exact (hget _).1 h
 ·rintro ⟨o,ho,h1,h2⟩;have hi:i<ops.size:=(Array.getElem?_eq_some_iff.1 ho).1;refine ⟨hi,(hget' i hi).2 h1,?_⟩;rw [ho];simp only [Ah2,Option.getD_some,Array.all_eq_true_iff_forall_mem,Bool.or_eq_true,Bool.not_eq_true'];intro e he;cases hb:Region.binds .any e with
  | false=>exact .inl rfl
  | true=>exact .inr ((hget _).2 (h2 e he hb))
section
variable {E:Env} {ih:Ai} {f:FuncId} {rid:Nat} {ops:Array Oper} {μ0:Ref->Nat} {w0:World} {F0:B7} {hp0:Hp} {Q:Exit->Act->World->Prop}
theorem At.congr {S S':St} {a:Act} {w:World} (e:Eqv S S') (h:At μ0 w0 F0 hp0 S a w):At μ0 w0 F0 hp0 S' a w:=by
 obtain ⟨hd,μ,F,hs,hr,st⟩:=h;have hk:∀{v x},R μ w F S.hp v x->R μ w F S'.hp v x:=fun h=>Qh h fun r _=>(e.2 r).symm;refine ⟨hd,μ,F,⟨by rw [<- e.1];exact hs.size,fun i v hv=>hk (hs.at_ i v (by rw [e.1];exact hv))⟩,⟨fun r b hb=>Wo (hr.blk r b (by rw [e.2];exact hb)) fun r _=>(e.2 r).symm,fun r s h1 h2=>hr.inj r s (by rw [e.2];exact h1) (by rw [e.2];exact h2),hr.wf⟩,
  ⟨st.ws,st.sub,fun r cs ro h=>?_,fun r es h=>?_,fun r n sz h=>?_,fun r h h'=>st.new r h (by rw [e.2];exact h'),st.frame,st.newF⟩⟩
 ·have:=st.row r cs ro h;rw [e.2] at this;exact this
 ·have:=st.map r es h;rw [e.2] at this;exact this
 ·have:=st.tok r n sz h;rw [e.2] at this;exact this
theorem gJ (hE:EnvOk E) (hih:Q3 E ih) (hreg:regionOk ops=true):∀(m:Nat) (ps:List (Nat×Lg)) (listed:Array Bool) (S S':St) (a:Act) (w:World),ps.length=m ->
  Path E ih f rid ops ps S S'->ps.Pairwise (Ti (Region.before ops))->ps.Pairwise (fun x y=>x.1<y.1)->listed.size=ops.size ->
  (∀i,listed[i]?=some false ↔ ∃p,(i,p)∈ps) ->
  (∀i j,listed[i]?=some true->((Region.before ops).getD i 0).testBit j=true->j<ops.size->listed[j]?=some true) ->
  At μ0 w0 F0 hp0 S a w->(∀a' w',At μ0 w0 F0 hp0 S' a' w'->Q .normal a' w')->wpAny E.P .any ops Q m listed a w:=by
 intro m
 induction m with
 | zero =>
  intro ps listed S S' a w hm hp _ _ hs hl _ hat hQ
  have:ps=[]:=List.length_eq_zero_iff.1 hm
  subst this;refine ⟨?_,?_⟩
  ·rw [List.eq_nil_iff_forall_not_mem];intro i hi;obtain ⟨o,_,h1,_⟩:=(KB hs).1 hi;obtain ⟨p,hp⟩:=(hl i).1 h1;cases hp
  ·cases hp with
   | nil e=>exact hQ a w (hat.congr e)
 | succ m ihm =>
  intro ps listed S S' a w hm hp hw hso hs hl hdown hat hQ;refine ⟨fun hnil=>?_,fun i hi=>?_⟩
  ·-- the first is ready
   exfalso;cases ps with
   | nil=>cases hm
   | cons x ps =>
    obtain ⟨i,p⟩:=x;cases hp with
    | cons o ho h t =>
     have hi1:listed[i]?=some false:=(hl i).2 ⟨p,List.mem_cons_self⟩
     have:i∈Region.ready .any ops listed:=by
      refine (KB hs).2 ⟨o,ho,hi1,fun e he hb=>?_⟩;have hlt:=(Im hreg ho).1 e he hb;have hes:e.on<listed.size:=by rw [hs];have:=(Array.getElem?_eq_some_iff.1 ho).1;omega
      cases hv:listed[e.on]? with
      | none=>rw [Array.getElem?_eq_none_iff] at hv;omega
      | some b =>
       cases b with
       | true=>rfl
       | false =>
        obtain ⟨q,hq⟩:=(hl e.on).1 hv;rcases List.mem_cons.1 hq with hq | hq
        ·simp only [Ah0] at hq;omega
        ·have:=(List.pairwise_cons.1 hso).1 _ hq
         simp only at this;omega
     rw [hnil] at this;cases this
  ·obtain ⟨
       o,ho,h1,h2⟩:=(KB hs).1 hi
   obtain ⟨p,hpm⟩:=(hl i).1 h1;obtain ⟨xs,ys,hsplit⟩:=List.append_of_mem hpm;subst hsplit;obtain ⟨q1,q2,q3⟩:=Im hreg ho;have hlt:∀x∈xs,x.1<i:=fun x hx=>(List.pairwise_append.1 hso).2.2 x hx (i,p) List.mem_cons_self;have hgt:∀y∈ys,i<y.1:=fun y hy=>(List.pairwise_cons.1 (List.pairwise_append.1 hso).2.1).1 y hy;have hbits:∀j,((Region.before ops).getD i 0).testBit j=true->j<ops.size->listed[j]?=some true:=fun j hj hjs=>by
    obtain ⟨_,e,e1,e2,e3⟩:=q2 j hjs hj;have he:=h2 e e1 e2;rcases e3 with rfl | e3
    ·exact he
    ·exact hdown e.on j he e3 hjs
   have hfront:=Path.front ho xs hp fun x hx=>by
    have hlx:=hlt x hx;have hnb:¬ ((Region.before ops).getD i 0).testBit x.1=true:=fun hb=>by
     have hxs:x.1<ops.size:=by have:=(Array.getElem?_eq_some_iff.1 ho).1;omega
     have h3:=hbits x.1 hb hxs;have h4:=(hl x.1).2 ⟨x.2,List.mem_append_left _ hx⟩;rw [h3] at h4;cases h4
    refine ⟨?_,fun oj hoj=>(q3 x.1 oj hlx hoj).resolve_left hnb⟩;exact ((List.pairwise_append.1 hw).2.2 x hx (i,p) List.mem_cons_self).resolve_left hnb
   cases hfront with
   | cons o' ho' hd t =>
    refine Xh hE hih (Yk hd) hat fun a' w' hat'=>ihm (xs++ys) _ _ S' a' w' ?_ t ?_ ?_ ?_ ?_ ?_ hat' hQ
    ·simp at hm ⊢;omega
    ·exact List.Pairwise.sublist ((List.Sublist.refl xs).append (List.sublist_cons_self (i,p) ys)) hw
    ·exact List.Pairwise.sublist ((List.Sublist.refl xs).append (List.sublist_cons_self (i,p) ys)) hso
    ·simp [hs]
    ·intro j;have hil:i<listed.size:=(Array.getElem?_eq_some_iff.1 h1).1;by_cases hij:i=j
     ·subst hij;rw [Array.getElem?_setIfInBounds_self_of_lt hil];refine ⟨fun h=>(by cases h),fun ⟨r,hr⟩=>?_⟩;rcases List.mem_append.1 hr with hr | hr
      ·have:=hlt _ hr;simp only at this;omega
      ·have:=hgt _ hr;simp only at this;omega
     ·rw [Array.getElem?_setIfInBounds_ne hij,hl j];constructor
      ·rintro ⟨r,hr⟩;refine ⟨r,?_⟩;rcases List.mem_append.1 hr with hr | hr
       ·exact List.mem_append_left _ hr
       ·rcases List.mem_cons.1 hr with hr | hr
        ·simp only [Ah0] at hr;exact absurd hr.1.symm hij
        ·exact List.mem_append_right _ hr
      ·rintro ⟨r,hr⟩;refine ⟨r,?_⟩;rcases List.mem_append.1 hr with hr | hr
       ·exact List.mem_append_left _ hr
       ·exact List.mem_append_right _ (List.mem_cons_of_mem _ hr)
    ·have hil:i<listed.size:=(Array.getElem?_eq_some_iff.1 h1).1;have hup:∀j,listed[j]?=some true->(listed.setIfInBounds i true)[j]?=some true:=fun j hj=>by
      by_cases hij:i=j
      ·subst hij;rw [Array.getElem?_setIfInBounds_self_of_lt hil]
      ·rw [Array.getElem?_setIfInBounds_ne hij];exact hj
     intro k j hk hb hj;by_cases hik:i=k
     ·subst hik;exact hup j (hbits j hb hj)
     ·rw [Array.getElem?_setIfInBounds_ne hik] at hk;exact hup j (hdown k j hk hb hj)
theorem XR (hE:EnvOk E) (hih:Q3 E ih) (hreg:regionOk ops=true) {S S':St} {a:Act} {w:World}
  (h:E6 E ih f rid ops (Region.before ops) (List.range ops.size) [] S=some S') (hat:At μ0 w0 F0 hp0 S a w) (hQ:∀a' w',At μ0 w0 F0 hp0 S' a' w'->Q .normal a' w') :
  (Code.region rid ops true).wp E.P Q a w:=by
 refine wp_region_any hE.mixed ?_;obtain ⟨ps,e1,hp,hw,_⟩:=IZ (List.range ops.size) [] (fun i hi=>⟨ops[i]'(by simpa using hi),Array.getElem?_eq_getElem _⟩) h;have hlen:ps.length=ops.size:=by rw [<- List.length_map (f:=(·.1)),e1,List.length_range]
 have hat':At μ0 w0 F0 hp0 S a { w with drawn:=w.drawn+1 }:=by obtain ⟨hd,μ,F,hs,hr,st⟩:=hat;obtain ⟨s1,s2⟩:=Q8 hr;exact ⟨hd,μ,F,hs.mono s1,s2,st.trans s1⟩
 rw [<- hlen];refine gJ hE hih hreg ps.length ps _ S S' a _ rfl hp hw ?_ (by simp [hlen]) (fun i=>?_) (fun i j hi=>?_) hat' hQ
 ·have:(ps.map (·.1)).Pairwise (· < ·):=by rw [e1];exact List.pairwise_lt_range
  rw [List.pairwise_map] at this;exact this
 ·rw [Array.getElem?_replicate]
  have:(∃p,(i,p)∈ps) ↔ i∈ps.map (·.1):=by simp
  rw [this,e1,List.mem_range,hlen];constructor
  ·intro h;split at h
   ·assumption
   ·cases h
  ·intro h;rw [if_pos h]
 ·rw [Array.getElem?_replicate] at hi;split at hi<;>cases hi
end
end Idl
end Go.Proofs.YtnenpcghegcnhaaGreat

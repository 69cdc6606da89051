/- Part 1 of a proof. No statement is proved here. -/
import Derived.WalkKit
import Derived.Test.YtnenpcghegcnhaaGreatKernelShiftK0
set_option linter.all false
set_option maxRecDepth 20000
set_option maxHeartbeats 16000000
noncomputable section
namespace Go.Proofs.YtnenpcghegcnhaaGreat
namespace Idl
abbrev B3:=Nat->Nat->Prop
inductive RF (w:World) (F:B3):FV->Value->Prop
 | bool (b:Bool):RF w F (.bool b) (.bool b)
 | int (k:IntKind) (n:Int):RF w F (.int k n) (.int k n)
 | str (s:ByteArray):RF w F (.str s) (.string s)
 | nilp:RF w F .nilp (.pointer none)
 | nilf:RF w F .nilf .nilFunc
 | fp (cs:List FV) (off b base:Nat) (vs:Nat->Value) (hF:∀j,j<cs.length->F b (base+j))
   (hc:∀j,j<cs.length->w.cell? ⟨b,base+j,none⟩=some (vs j)) (h:∀j c,cs[j]?=some c->RF w F c (vs j)) :
   RF w F (.fp cs off) (.pointer (some ⟨b,base+off,none⟩))
 | sl0 (a:Option Addr) (cap:Nat) (h:a=none->cap=0):RF w F (.sl []) (.slice a 0 cap)
 | sl (es:List FV) (b base sz cap:Nat) (vs:Nat->Nat->Value) (hne:es≠[]) (hcap:es.length<=cap) (hu:∀e∈es,e.cells.length=sz)
   (hF:∀i j,i<es.length->j<sz->F b (base+(i * sz+j))) (hc:∀i j,i<es.length->j<sz->w.cell? ⟨b,base+(i * sz+j),none⟩=some (vs i j))
   (h:∀i j e c,es[i]?=some e->e.cells[j]?=some c->RF w F c (vs i j)) :
   RF w F (.sl es) (.slice (some ⟨b,base,none⟩) es.length cap)
 | func (fn:Fn) (a b:List FV) (x y:Array Value) (ha:a.length=x.size) (hb:b.length=y.size)
   (h1:∀j c,a[j]?=some c->RF w F c (x.getD j undef)) (h2:∀j c,b[j]?=some c->RF w F c (y.getD j undef)) :
   RF w F (.func fn a b) (.func fn x y)
 | agg (cs:List FV) (x:Array Value) (hl:cs.length=x.size) (h:∀j c,cs[j]?=some c->RF w F c (x.getD j undef)):RF w F (.agg cs) (.agg x)
 | tuple (cs:List FV) (x:Array Value) (hl:cs.length=x.size) (h:∀j c,cs[j]?=some c->RF w F c (x.getD j undef)):RF w F (.tuple cs) (.tuple x)
def rE (μ:Ref->Nat) (w:World) (r:Ref) (es:List FV) (sz:Nat) (x:Value):Prop :=∃cap c e,x=.slice (some ⟨μ r,0,none⟩) es.length cap/\w.heap[μ r]?=some (.cells c e (0,0))/\es.length<=cap/\cap * sz<=c.size/\∀e∈es,e.cells.length=sz
inductive R (μ:Ref->Nat) (w:World) (F:B3) (hp:Hp):IV->Value->Prop
 | dead (x:Value):R μ w F hp .dead x
 | fv (v:FV) (x:Value) (h:RF w F v x):R μ w F hp (.fv v) x
 | ptr (r:Ref) (off:Nat) (h:∃cs ro,hp.get r=some (.row cs ro)):R μ w F hp (.ptr r off) (.pointer (some ⟨μ r,off,none⟩))
 | slc (r:Ref) (sz len cap:Nat) (h:∃cs ro,hp.get r=some (.row cs ro)) (hle:len<=cap):R μ w F hp (.slc r sz len) (.slice (some ⟨μ r,0,none⟩) len cap)
 | nils:R μ w F hp .nils (.slice none 0 0)
 | emp (a:Addr) (cap:Nat):R μ w F hp .emp (.slice (some a) 0 cap)
 | clip (es:List FV) (a:Addr) (h:RF w F (.sl es) (.slice (some a) es.length es.length)):R μ w F hp (.clip es) (.slice (some a) es.length es.length)
 | clip0 (a:Option Addr):R μ w F hp (.clip []) (.slice a 0 0)
 | app (r:Ref) (es:List FV) (x:Value) (hx:RF w F (.sl es) x) (hne:es≠[]) (h:∃n sz,hp.get r=some (.tok n sz)/\es.length<=n/\(n=es.length->rE μ w r es sz x)) :
   R μ w F hp (.app r es) x
 | func (fn:Fn) (a b:List IV) (x y:Array Value) (ha:a.length=x.size) (hb:b.length=y.size)
   (h1:∀j c,a[j]?=some c->R μ w F hp c (x.getD j undef)) (h2:∀j c,b[j]?=some c->R μ w F hp c (y.getD j undef)) :
   R μ w F hp (.func fn a b) (.func fn x y)
 | agg (cs:List IV) (x:Array Value) (hl:cs.length=x.size) (h:∀j c,cs[j]?=some c->R μ w F hp c (x.getD j undef)):R μ w F hp (.agg cs) (.agg x)
 | tuple (cs:List IV) (x:Array Value) (hl:cs.length=x.size) (h:∀j c,cs[j]?=some c->R μ w F hp c (x.getD j undef)):R μ w F hp (.tuple cs) (.tuple x)
 | mapr (r:Ref) (h:∃es,hp.get r=some (.map es)):R μ w F hp (.mapr r) (.map (some (μ r)))
def BR (μ:Ref->Nat) (w:World) (F:B3) (hp:Hp) (r:Ref):Blk->Prop
 | .row cells ro=>∃c e,w.heap[μ r]?=some (.cells c e (0,0))/\cells.length<=c.size/\(∀j x,cells[j]?=some x->R μ w F hp x (c.getD j undef)) /\
   (ro=false->∀o,¬ F (μ r) o)/\(ro=true->∀o,o<cells.length->F (μ r) o)
 | .tok n sz=>0<n/\0<sz/\∃c e,w.heap[μ r]?=some (.cells c e (0,0))/\n * sz<=c.size/\∀o,F (μ r) o ↔ o<n * sz
 | .map es=>∃(arr:Array MapEntry) (clk:Nat),w.heap[μ r]?=some (.map arr clk)/\arr.size=es.length /\
   ∀(j:Nat) n x,es[j]?=some (n,x)->∃me:MapEntry,arr[j]?=some me/\me.key=.int .i64 n/\R μ w F hp x me.val
structure HR (μ:Ref->Nat) (w:World) (F:B3) (hp:Hp):Prop where
 blk:∀r b,hp.get r=some b->BR μ w F hp r b
 inj:∀r s,(hp.get r).isSome->(hp.get s).isSome->μ r=μ s->r=s
 wf:∀b o,F b o->b<w.heap.size
structure WS (F:B3) (w w':World):Prop where
 rows:∀(b:Nat) c e fr,w.heap[b]?=some (.cells c e fr)->∃c',w'.heap[b]?=some (.cells c' e fr)/\c'.size=c.size
 prot:∀b o v,F b o->w.cell? ⟨b,o,none⟩=some v->w'.cell? ⟨b,o,none⟩=some v
 size:w.heap.size<=w'.heap.size
 frozen:∀a,w'.frozen? a=w.frozen? a
 os:w'.os=w.os
 output:w'.output=w.output
 tape:w'.tape=w.tape
structure Stp (μ:Ref->Nat) (w:World) (F:B3) (hp:Hp) (μ':Ref->Nat) (w':World) (F':B3) (hp':Hp):Prop where
 ws:WS F w w'
 sub:∀b o,F b o->F' b o
 row:∀r cs ro,hp.get r=some (.row cs ro)->(∃cs' ro',hp'.get r=some (.row cs' ro'))/\μ' r=μ r
 map:∀r es,hp.get r=some (.map es)->(∃es',hp'.get r=some (.map es'))/\μ' r=μ r
 tok:∀r n sz,hp.get r=some (.tok n sz)->∃n',hp'.get r=some (.tok n' sz)/\n<=n'/\(μ' r=μ r\/(n<n'/\w.heap.size<=μ' r))
 new:∀r,hp.get r=none->(hp'.get r).isSome->w.heap.size<=μ' r
 frame:∀b,b<w.heap.size->(∀r,(hp.get r).isSome->μ r≠b)->w'.heap[b]?=w.heap[b]?
 newF:∀b o,F' b o->F b o\/w.heap.size<=b\/∃r,(hp.get r).isSome/\μ r=b
section
variable {μ μ' μ'':Ref->Nat} {w w' w'':World} {F F' F'':B3} {hp hp' hp'':Hp}
theorem EG {b o:Nat} {c:Array Value} {e:TypeId} {fr:Nat×Nat} (h:w.heap[b]?=some (.cells c e fr)):w.cell? ⟨b,o,none⟩=c[o]?:=by simp [World.cell?,h]
theorem WS.refl (F:B3) (w:World):WS F w w:=⟨fun _ c _ _ h=>⟨c,h,rfl⟩,fun _ _ _ _ h=>h,AjA _,fun _=>rfl,rfl,rfl,rfl⟩
theorem WS.trans (h1:WS F w w') (hs:∀b o,F b o->F' b o) (h2:WS F' w' w''):WS F w w'' where
 rows b c e fr h:=by obtain ⟨c1,h1',e1⟩:=h1.rows b c e fr h;obtain ⟨c2,h2',e2⟩:=h2.rows b c1 e fr h1';exact ⟨c2,h2',e2.trans e1⟩
 prot b o v hF h:=h2.prot b o v (hs b o hF) (h1.prot b o v hF h)
 size:=Nat.le_trans h1.size h2.size
 frozen a:=(h2.frozen a).trans (h1.frozen a)
 os:=h2.os.trans h1.os
 output:=h2.output.trans h1.output
 tape:=h2.tape.trans h1.tape
theorem RF.mono {v:FV} {x:Value} (hw:WS F w w') (hs:∀b o,F b o->F' b o) (h:RF w F v x):RF w' F' v x:=by
 induction h with
 | bool b=>exact .bool b
 | int k n=>exact .int k n
 | str s=>exact .str s
 | nilp=>exact .nilp
 | nilf=>exact .nilf
 | fp cs off b base vs hF hc h ih=>exact .fp cs off b base vs (fun j hj=>hs _ _ (hF j hj)) (fun j hj=>hw.prot _ _ _ (hF j hj) (hc j hj)) ih
 | sl0 a cap h=>exact .sl0 a cap h
 | sl es b base sz cap vs hne hcap hu hF hc h ih =>exact .sl es b base sz cap vs hne hcap hu (fun i j hi hj=>hs _ _ (hF i j hi hj)) (fun i j hi hj=>hw.prot _ _ _ (hF i j hi hj) (hc i j hi hj)) ih
 | func fn a b x y ha hb h1 h2 ih1 ih2=>exact .func fn a b x y ha hb ih1 ih2
 | agg cs x hl h ih=>exact .agg cs x hl ih
 | tuple cs x hl h ih=>exact .tuple cs x hl ih
theorem R.mono {v:IV} {x:Value} (st:Stp μ w F hp μ' w' F' hp') (h:R μ w F hp v x):R μ' w' F' hp' v x:=by
 induction h with
 | dead x=>exact .dead x
 | fv v x h=>exact .fv v x (h.mono st.ws st.sub)
 | ptr r off h=>obtain ⟨cs,ro,h⟩:=h;obtain ⟨h1,h2⟩:=st.row r cs ro h;rw [<- h2];exact .ptr r off h1
 | slc r sz len cap h hle=>obtain ⟨cs,ro,h⟩:=h;obtain ⟨h1,h2⟩:=st.row r cs ro h;rw [<- h2];exact .slc r sz len cap h1 hle
 | nils=>exact .nils
 | emp a cap=>exact .emp a cap
 | clip es a h=>exact .clip es a (h.mono st.ws st.sub)
 | clip0 a=>exact .clip0 a
 | app r es x hx hne h =>
  obtain ⟨n,sz,hg,hle,hf⟩:=h;obtain ⟨n',hg',hle',hμ⟩:=st.tok r n sz hg;refine .app r es x (hx.mono st.ws st.sub) hne ⟨n',sz,hg',by omega,fun e=>?_⟩;have hn:n=es.length:=by omega
  have hμ':μ' r=μ r:=by rcases hμ with h | ⟨h,_⟩;exact h;omega
  obtain ⟨cap,c,t,hx',hw,hc,hs,hu⟩:=hf hn;obtain ⟨c',hw',hsz⟩:=st.ws.rows _ _ _ _ hw;exact ⟨cap,c',t,by rw [hμ'];exact hx',by rw [hμ'];exact hw',hc,by omega,hu⟩
 | func fn a b x y ha hb h1 h2 ih1 ih2=>exact .func fn a b x y ha hb ih1 ih2
 | agg cs x hl h ih=>exact .agg cs x hl ih
 | tuple cs x hl h ih=>exact .tuple cs x hl ih
 | mapr r h=>obtain ⟨es,h⟩:=h;obtain ⟨h1,h2⟩:=st.map r es h;rw [<- h2];exact .mapr r h1
theorem Stp.refl (μ:Ref->Nat) (w:World) (F:B3) (hp:Hp):Stp μ w F hp μ w F hp where
 ws:=.refl F w
 sub _ _ h:=h
 row r cs ro h:=⟨⟨cs,ro,h⟩,rfl⟩
 map r es h:=⟨⟨es,h⟩,rfl⟩
 tok r n sz h:=⟨n,h,AjA _,.inl rfl⟩
 new r h h':=by rw [h] at h';cases h'
 frame _ _ _:=rfl
 newF _ _ h:=.inl h
theorem Stp.some_of (st:Stp μ w F hp μ' w' F' hp') {r:Ref} (h:(hp.get r).isSome):(hp'.get r).isSome:=by
 cases hb:hp.get r with
 | none=>rw [hb] at h;cases h
 | some b=>cases b with
  | row cs ro=>obtain ⟨⟨a,b,e⟩,_⟩:=st.row r cs ro hb;rw [e];rfl
  | map es=>obtain ⟨⟨a,e⟩,_⟩:=st.map r es hb;rw [e];rfl
  | tok n sz=>obtain ⟨a,e,_⟩:=st.tok r n sz hb;rw [e];rfl
theorem Stp.place (st:Stp μ w F hp μ' w' F' hp') {r:Ref} (h:(hp.get r).isSome):μ' r=μ r\/w.heap.size<=μ' r:=by
 cases hb:hp.get r with
 | none=>rw [hb] at h;cases h
 | some b=>cases b with
  | row cs ro=>exact .inl (st.row r cs ro hb).2
  | map es=>exact .inl (st.map r es hb).2
  | tok n sz=>obtain ⟨a,_,_,h⟩:=st.tok r n sz hb;exact h.imp id (·.2)
theorem Stp.trans (h1:Stp μ w F hp μ' w' F' hp') (h2:Stp μ' w' F' hp' μ'' w'' F'' hp''):Stp μ w F hp μ'' w'' F'' hp'' where
 ws:=h1.ws.trans h1.sub h2.ws
 sub b o h:=h2.sub b o (h1.sub b o h)
 row r cs ro h:=by obtain ⟨⟨a,b,e⟩,m⟩:=h1.row r cs ro h;obtain ⟨e2,m2⟩:=h2.row r a b e;exact ⟨e2,m2.trans m⟩
 map r es h:=by obtain ⟨⟨a,e⟩,m⟩:=h1.map r es h;obtain ⟨e2,m2⟩:=h2.map r a e;exact ⟨e2,m2.trans m⟩
 tok r n sz h:=by
  obtain ⟨a,e,l,m⟩:=h1.tok r n sz h;obtain ⟨a2,e2,l2,m2⟩:=h2.tok r a sz e;refine ⟨a2,e2,Nat.le_trans l l2,?_⟩;have hs:=h1.ws.size;rcases m2 with m2 | ⟨m2,m3⟩
  ·rcases m with m | ⟨m,m4⟩
   ·exact .inl (m2.trans m)
   ·exact .inr ⟨by omega,by omega⟩
  ·exact .inr ⟨by omega,by omega⟩
 new r h h':=by
  have hs:=h1.ws.size;cases hb:hp'.get r with
  | none=>have:=h2.new r hb h';omega
  | some b =>
   have hs1:(hp'.get r).isSome:=by rw [hb];rfl
   have h3:=h1.new r h hs1;rcases h2.place hs1 with e | e<;>omega
 frame b hb h:=by
  rw [h2.frame b (by have:=h1.ws.size;omega),h1.frame b hb h];intro r hr e;cases hq:hp.get r with
  | none=>have:=h1.new r hq hr;omega
  | some q =>
   have hs1:(hp.get r).isSome:=by rw [hq];rfl
   rcases h1.place hs1 with e2 | e2
   ·exact h r hs1 (e2 ▸ e)
   ·omega
 newF b o h:=by
  have hs:=h1.ws.size;rcases h2.newF b o h with h | h | ⟨r,hr,e⟩
  ·exact h1.newF b o h
  ·exact .inr (.inl (by omega))
  ·cases hq:hp.get r with
   | none=>have:=h1.new r hq hr;exact .inr (.inl (by omega))
   | some q =>
    have hs1:(hp.get r).isSome:=by rw [hq];rfl
    rcases h1.place hs1 with e2 | e2
    ·exact .inr (.inr ⟨r,hs1,by omega⟩)
    ·exact .inr (.inl (by omega))
theorem BR.mono {r:Ref} {b:Blk} (st:Stp μ w F hp μ' w' F' hp') (h:BR μ w F hp r b) (hμ:μ' r=μ r) (hw:w'.heap[μ r]?=w.heap[μ r]?)
  (hF:∀o,F' (μ r) o->F (μ r) o):BR μ' w' F' hp' r b:=by
 cases b with
 | row cells ro =>
  obtain ⟨c,e,h1,h2,h3,h4,h5⟩:=h;refine ⟨c,e,by rw [hμ,hw];exact h1,h2,fun j x hx=>(h3 j x hx).mono st,fun hr o hf=>h4 hr o ?_,fun hr o ho=>?_⟩
  ·rw [hμ] at hf;exact hF o hf
  ·rw [hμ];exact st.sub _ _ (h5 hr o ho)
 | tok n sz =>obtain ⟨h1,h2,c,e,h3,h4,h5⟩:=h;refine ⟨h1,h2,c,e,by rw [hμ,hw];exact h3,h4,fun o=>?_⟩;rw [hμ,<- h5 o];exact ⟨hF o,st.sub _ _⟩
 | map es =>obtain ⟨arr,clk,h1,h2,h3⟩:=h;refine ⟨arr,clk,by rw [hμ,hw];exact h1,h2,fun j n x hx=>?_⟩;obtain ⟨me,e1,e2,e3⟩:=h3 j n x hx;exact ⟨me,e1,e2,e3.mono st⟩
theorem HR.lt (h:HR μ w F hp) {r:Ref} (hr:(hp.get r).isSome):μ r<w.heap.size:=by
 cases hb:hp.get r with
 | none=>rw [hb] at hr;cases hr
 | some b =>
  have:=h.blk r b hb
  cases b with
  | row cells ro=>obtain ⟨c,e,h1,_⟩:=this;exact (Array.getElem?_eq_some_iff.1 h1).1
  | tok n sz=>obtain ⟨_,_,c,e,h1,_⟩:=this;exact (Array.getElem?_eq_some_iff.1 h1).1
  | map es=>obtain ⟨arr,clk,h1,_⟩:=this;exact (Array.getElem?_eq_some_iff.1 h1).1
end
theorem Le (k:Nat) (b:Blk) (l:List (Nat×Blk)):Ap k (AO k b l)=some b:=by
 induction l with
 | nil=>simp [AO,Ap]
 | cons p l ih =>
  obtain ⟨j,c⟩:=p;by_cases h:k=j
  ·simp [AO,Ap,h]
  ·simp [AO,Ap,h,ih]
theorem Kk (k j:Nat) (b:Blk) (h:j≠k) (l:List (Nat×Blk)):Ap j (AO k b l)=Ap j l:=by
 induction l with
 | nil=>simp [AO,Ap,h]
 | cons p l ih =>
  obtain ⟨i,c⟩:=p;by_cases h1:k=i
  ·subst h1;simp [AO,Ap,h]
  ·by_cases h2:j=i
   ·subst h2;simp [AO,Ap,h1]
   ·simp [AO,Ap,h1,h2,ih]
theorem AA (h:Hp) (r s:Ref) (b:Blk) (hne:s≠r):(h.set r b).get s=h.get s:=by
 cases r with
 | own k=>cases s with
  | own j=>exact Kk k j b (fun e=>hne (by rw [e])) _
  | ext j=>rfl
 | ext k=>cases s with
  | own j=>rfl
  | ext j =>have hne':j≠k:=fun e=>hne (by rw [e]);simp only [Hp.set,Hp.get];rw [List.getElem?_set_ne (Ne.symm hne')]
theorem Cd (h:Hp) (k:Nat) (b:Blk):(h.set (.own k) b).get (.own k)=some b:=Le k b _
theorem B9 (h:Hp) (r:Ref) (b:Blk) (hs:(h.get r).isSome):(h.set r b).get r=some b:=by
 cases r with
 | own k=>exact Cd h k b
 | ext k =>
  simp only [Hp.set,Hp.get] at hs ⊢
  have:k<h.ext.length:=by
   rcases Nat.lt_or_ge k h.ext.length with hl | hl
   ·exact hl
   ·rw [List.getElem?_eq_none hl] at hs;cases hs
  simp [this]
theorem Rd.run_bind {α β:Type} (r:Rd α) (f:α->Rd β) (h:Hp):(r.bind f).run h=(r.run h).bind fun a=>(f a).run h:=by
 induction r with
 | ret a=>rfl
 | fail=>rfl
 | get r k ih =>
  simp only [Rd.bind,Rd.run];cases h.get r with
  | none=>rfl
  | some b=>exact ih b
theorem Rd.run_bind_some {α β:Type} {r:Rd α} {f:α->Rd β} {h:Hp} {b:β} (e:(r.bind f).run h=some b):∃a,r.run h=some a/\(f a).run h=some b:=by
 rw [Rd.run_bind] at e;cases hr:r.run h with
 | none=>rw [hr] at e;cases e
 | some a=>rw [hr] at e;exact ⟨a,rfl,e⟩
theorem Rd.run_get_some {α:Type} {r:Ref} {k:Blk->Rd α} {h:Hp} {a:α} (e:(Rd.get r k).run h=some a):∃b,h.get r=some b/\(k b).run h=some a:=by
 simp only [Rd.run] at e;cases hr:h.get r with
 | none=>rw [hr] at e;cases e
 | some b=>rw [hr] at e;exact ⟨b,rfl,e⟩
theorem Rd.run_of {α:Type} {o:Option α} {h:Hp} {a:α} (e:(Rd.of o).run h=some a):o=some a:=by
 cases o with
 | none=>cases e
 | some b=>exact e
theorem OZ (l:List FV):(QN l).cells=l:=by
 unfold QN;split
 ·rfl
 ·rename_i x hx;cases x<;>first | rfl | exact absurd rfl (hx _)
 ·rfl
theorem Ce (sz:Nat):∀(n:Nat) (cs:List FV),(B7 sz n cs).length=n
 | 0,_=>rfl
 | n+1,cs=>by simp [B7,Ce sz n]
theorem Fi (sz:Nat):∀(n:Nat) (cs:List FV) (i:Nat) (e:FV),(B7 sz n cs)[i]?=some e->e.cells=(cs.drop (i * sz)).take sz
 | 0,_,_,_,h=>by simp [B7] at h
 | n+1,cs,0,e,h=>by
  simp only [B7,Ajb,AiZ] at h;rw [<- h,OZ];simp
 | n+1,cs,i+1,e,h=>by
  simp only [B7,Ajc] at h;rw [Fi sz n _ i e h,List.drop_drop];congr 2;rw [Nat.add_mul];omega
def G7 (hp:Hp) (u:List (Ref×Blk)):Prop:=∀p∈u,∃cs ro,hp.get p.1=some (.row cs ro)/\p.2=.row cs true
theorem G7.nil (hp:Hp):G7 hp []:=fun _ h=>by cases h
theorem G7.append {hp:Hp} {u v:List (Ref×Blk)} (h1:G7 hp u) (h2:G7 hp v):G7 hp (u++v):=fun p hm=>by
 rcases Ajk.1 hm with h | h
 ·exact h1 p h
 ·exact h2 p h
def Ed (μ:Ref->Nat) (u:List (Ref×Blk)) (F:B3):B3:=fun b o=>F b o\/∃p∈u,∃cs ro,p.2=.row cs ro/\b=μ p.1/\o<cs.length
section
variable {μ:Ref->Nat} {w:World} {F:B3} {hp:Hp}
theorem Hw (u:List (Ref×Blk)):∀b o,F b o->Ed μ u F b o:=fun _ _ h=>.inl h
theorem Km (u v:List (Ref×Blk)):∀b o,Ed μ u F b o->Ed μ (u++v) F b o
 | _,_,.inl h=>.inl h
 | _,_,.inr ⟨p,hp,h⟩=>.inr ⟨p,Ajk.2 (.inl hp),h⟩
theorem GR (u v:List (Ref×Blk)):∀b o,Ed μ v F b o->Ed μ (u++v) F b o
 | _,_,.inl h=>.inl h
 | _,_,.inr ⟨p,hp,h⟩=>.inr ⟨p,Ajk.2 (.inr hp),h⟩
theorem Oj (q:Ref×Blk) (v:List (Ref×Blk)):∀b o,Ed μ v F b o->Ed μ (q::v) F b o:=GR [q] v
theorem RF.more {F F':B3} {v:FV} {x:Value} (hs:∀b o,F b o->F' b o) (h:RF w F v x):RF w F' v x:=h.mono (.refl F w) hs
theorem KO (
        hr:HR μ w F hp):∀n:Nat,
  (∀v x fv u,R μ w F hp v x->(C8 n v).run hp=some (fv,u)->G7 hp u/\RF w (Ed μ u F) fv x) /\
  (∀l (vs:Nat->Value) fl u,(∀j y,l[j]?=some y->R μ w F hp y (vs j))->(frzL n l).run hp=some (fl,u) ->
   G7 hp u/\fl.length=l.length/\∀j c,fl[j]?=some c->RF w (Ed μ u F) c (vs j)):=by
 intro n
 induction n with
 | zero =>
  refine ⟨fun v x fv u _ h=>?_,fun l vs fl u _ h=>?_⟩
  ·simp only [C8,Rd.run] at h;cases h
  ·simp only [frzL,Rd.run] at h;cases h
 | succ n ih =>
  obtain ⟨ih1,ih2⟩:=ih;refine ⟨fun v x fv u hR h=>?_,fun l vs fl u hR h=>?_⟩
  ·cases hR with
   | dead=>simp only [C8,Rd.run] at h;cases h
   | fv v x hx=>simp only [C8,Rd.run,AiZ,Ai0] at h;obtain ⟨rfl,rfl⟩:=h;exact ⟨.nil hp,hx.more (Hw _)⟩
   | ptr r off hg =>
    cases r with
    | ext j=>simp only [C8,Rd.run] at h;cases h
    | own k =>
     simp only [C8] at h;obtain ⟨b,hb,h⟩:=Rd.run_get_some h;cases b with
     | tok=>simp only [Rd.run] at h;cases h
     | map=>simp only [Rd.run] at h;cases h
     | row cells ro =>
      simp only at h;obtain ⟨⟨cs,u1⟩,h1,h2⟩:=Rd.run_bind_some h;simp only [Rd.run,AiZ,Ai0] at h2;obtain ⟨rfl,rfl⟩:=h2;obtain ⟨c,e,hw,hlen,hcell,_⟩:=hr.blk _ _ hb;obtain ⟨hm,hl,hc⟩:=ih2 cells (fun j=>c.getD j undef) cs u1 hcell h1;refine ⟨fun p hp'=>?_,?_⟩
      ·rcases Ajp.1 hp' with rfl | hp'
       ·exact ⟨cells,ro,hb,rfl⟩
       ·exact hm p hp'
      ·have:=RF.fp (w:=w) (F:=Ed μ ((.own k,.row cells true)::u1) F) cs off (μ (.own k)) 0 (fun j=>c.getD j undef)
        (fun j hj=>.inr ⟨_,Aji,cells,true,rfl,rfl,by simp;omega⟩)
        (fun j hj=>by rw [EG hw];simp;rw [Array.getElem?_eq_getElem (by omega)];simp)
        (fun j c' hc'=>(hc j c' hc').more (Oj _ _))
       simpa using this
   | slc r sz len cap hg hle =>
    cases r with
    | ext j=>simp only [C8,Rd.run] at h;cases h
    | own k =>
     simp only [C8] at h;obtain ⟨b,hb,h⟩:=Rd.run_get_some h;cases b with
     | tok=>simp only [Rd.run] at h;cases h
     | map=>simp only [Rd.run] at h;cases h
     | row cells ro =>
      simp only at h;split at h
      ·simp only [Rd.run] at h;cases h
      rename_i hsz;obtain ⟨⟨cs,u1⟩,h1,h2⟩:=Rd.run_bind_some h;simp only [Rd.run,AiZ,Ai0] at h2;obtain ⟨rfl,rfl⟩:=h2;have hsz0:0<sz:=by omega
      have hcl:len * sz<=cells.length:=by omega
      obtain ⟨c,e,hw,hlen,hcell,_⟩:=hr.blk _ _ hb;obtain ⟨hm,hl,hc⟩:=ih2 cells (fun j=>c.getD j undef) cs u1 hcell h1;refine ⟨fun p hp'=>?_,?_⟩
      ·rcases Ajp.1 hp' with rfl | hp'
       ·exact ⟨cells,ro,hb,rfl⟩
       ·exact hm p hp'
      ·by_cases h0:len=0
       ·subst h0;exact .sl0 _ _ (fun h=>by cases h)
       ·have hlt:∀i j,i<len->j<sz->i * sz+j<len * sz:=fun i j hi hj=>by
         have:(i+1) * sz<=len * sz:=Nat.mul_le_mul_right _ hi
         rw [Nat.add_mul] at this;omega
        have hce:∀i j e,(B7 sz len cs)[i]?=some e->e.cells[j]?=if j<sz then cs[i * sz+j]? else none:=fun i j e he=>by
         rw [Fi sz len cs i e he,List.getElem?_take];split
         ·rw [List.getElem?_drop]
         ·rfl
        have:=RF.sl (w:=w) (F:=Ed μ ((.own k,.row cells true)::u1) F) (B7 sz len cs) (μ (.own k)) 0 sz cap (fun i j=>c.getD (i * sz+j) undef)
         (fun e=>by have:=Ce sz len cs;rw [e] at this;simp at this;omega) (by rw [Ce];exact hle)
         (fun e he=>by
          obtain ⟨i,hi,rfl⟩:=List.getElem_of_mem he;rw [Fi sz len cs i _ (Ai6 hi),List.length_take,List.length_drop];rw [Ce] at hi
          have:=hlt i (sz - 1) hi (by omega)
          omega)
         (fun i j hi hj=>.inr ⟨_,Aji,cells,true,rfl,rfl,by rw [Ce] at hi;have:=hlt i j hi hj;omega⟩)
         (fun i j hi hj=>by
          rw [Ce] at hi
          have:=hlt i j hi hj
          rw [EG hw,Ajy,Array.getElem?_eq_getElem (by omega)];simp [show i * sz+j<c.size by omega])
         (fun i j e' c' he' hc'=>by
          rw [hce i j e' he'] at hc';split at hc'
          ·exact (hc _ _ hc').more (Oj _ _)
          ·cases hc')
        rw [Ce] at this;exact this
   | nils=>simp only [C8,Rd.run,AiZ,Ai0] at h;obtain ⟨rfl,rfl⟩:=h;exact ⟨.nil hp,.sl0 _ _ (fun _=>rfl)⟩
   | emp a cap=>simp only [C8,Rd.run,AiZ,Ai0] at h;obtain ⟨rfl,rfl⟩:=h;exact ⟨.nil hp,.sl0 _ _ (fun h=>by cases h)⟩
   | clip es a hx=>simp only [C8,Rd.run,AiZ,Ai0] at h;obtain ⟨rfl,rfl⟩:=h;exact ⟨.nil hp,hx.more (Hw _)⟩
   | clip0 a=>simp only [C8,Rd.run,AiZ,Ai0] at h;obtain ⟨rfl,rfl⟩:=h;exact ⟨.nil hp,.sl0 _ _ (fun _=>rfl)⟩
   | app r es x hx _ _=>simp only [C8,Rd.run,AiZ,Ai0] at h;obtain ⟨rfl,rfl⟩:=h;exact ⟨.nil hp,hx.more (Hw _)⟩
   | func fn a b x y ha hb h1 h2 =>simp only [C8] at h;obtain ⟨⟨p,u1⟩,e1,h⟩:=Rd.run_bind_some h;obtain ⟨⟨q,u2⟩,e2,h⟩:=Rd.run_bind_some h;simp only [Rd.run,AiZ,Ai0] at h;obtain ⟨rfl,rfl⟩:=h;obtain ⟨m1,l1,c1⟩:=ih2 a (fun j=>x.getD j undef) p u1 h1 e1;obtain ⟨m2,l2,c2⟩:=ih2 b (fun j=>y.getD j undef) q u2 h2 e2;exact ⟨m1.append m2,.func fn p q x y (by omega) (by omega) (fun j c hc=>(c1 j c hc).more (Km _ _)) (fun j c hc=>(c2 j c hc).more (GR _ _))⟩
   | agg cs x hl h1 =>simp only [C8] at h;obtain ⟨⟨p,u1⟩,e1,h⟩:=Rd.run_bind_some h;simp only [Rd.run,AiZ,Ai0] at h;obtain ⟨rfl,rfl⟩:=h;obtain ⟨m1,l1,c1⟩:=ih2 cs (fun j=>x.getD j undef) p u1 h1 e1;exact ⟨m1,.agg p x (by omega) c1⟩
   | tuple cs x hl h1 =>simp only [C8] at h;obtain ⟨⟨p,u1⟩,e1,h⟩:=Rd.run_bind_some h;simp only [Rd.run,AiZ,Ai0] at h;obtain ⟨rfl,rfl⟩:=h;obtain ⟨m1,l1,c1⟩:=ih2 cs (fun j=>x.getD j undef) p u1 h1 e1;exact ⟨m1,.tuple p x (by omega) c1⟩
   | mapr r hg=>simp only [C8,Rd.run] at h;cases h
  ·cases l with
   | nil=>simp only [frzL,Rd.run,AiZ,Ai0] at h;obtain ⟨rfl,rfl⟩:=h;exact ⟨.nil hp,rfl,fun j c hc=>by simp at hc⟩
   | cons v l =>
    simp only [frzL] at h;obtain ⟨⟨p,u1⟩,e1,h⟩:=Rd.run_bind_some h;obtain ⟨⟨q,u2⟩,e2,h⟩:=Rd.run_bind_some h;simp only [Rd.run,AiZ,Ai0] at h;obtain ⟨rfl,rfl⟩:=h;obtain ⟨m1,c1⟩:=ih1 v (vs 0) p u1 (hR 0 v rfl) e1;obtain ⟨m2,l2,c2⟩:=ih2 l (fun j=>vs (j+1)) q u2 (fun j y hy=>hR (j+1) y hy) e2;refine ⟨m1.append m2,by simp [l2],fun j c hc=>?_⟩;cases j with
    | zero=>simp at hc;subst hc;exact c1.more (Km _ _)
    | succ j=>exact (c2 j c (by simpa using hc)).more (GR _ _)
theorem FA:∀(u:List (Ref×Blk)) (h h':Hp),laid h u=some h'->∀r,(∀p∈u,p.1≠r)->h'.get r=h.get r
 | [],h,h',e,r,_=>by simp only [laid,AiZ] at e;rw [e]
 | (s,b)::u,h,h',e,r,hne=>by
  simp only [laid] at e;cases hs:h.get s with
  | none=>rw [hs] at e;cases e
  | some c =>rw [hs] at e;rw [FA u _ _ e r (fun p hp=>hne p (Ajj _ hp)),AA _ _ _ _ (fun e=>hne _ Aji e.symm)]
theorem Hq:∀(u v:List (Ref×Blk)) (h:Hp),laid h (u++v)=(laid h u).bind fun h=>laid h v
 | [],_,_=>rfl
 | (s,b)::u,v,h=>by
  simp only [Ajq,laid];cases h.get s with
  | none=>rfl
  | some c=>exact Hq u v _
theorem Jj:∀(u:List (Ref×Blk)) (h h':Hp),laid h u=some h'->∀r b,(∀p∈u,p.1=r->p.2=b)->(∃p∈u,p.1=r)->h'.get r=some b
 | [],_,_,_,_,_,_,⟨_,hp,_⟩=>by cases hp
 | (s,c)::u,h,h',e,r,b,hall,hex=>by
  simp only [laid] at e;cases hs:h.get s with
  | none=>rw [hs] at e;cases e
  | some d =>
   rw [hs] at e;by_cases hin:∃p∈u,p.1=r
   ·exact Jj u _ _ e r b (fun p hp=>hall p (Ajj _ hp)) hin
   ·obtain ⟨p,hp,hpr⟩:=hex;rcases Ajp.1 hp with rfl | hp
    ·simp only at hpr;subst hpr;have hb:c=b:=hall _ Aji rfl;subst hb;rw [FA u _ _ e s (fun p hp e=>hin ⟨p,hp,e⟩)];exact B9 h s c (by rw [hs];rfl)
    ·exact absurd ⟨p,hp,hpr⟩ hin
theorem Fe (hr:HR μ w F hp) {u:List (Ref×Blk)} {hp':Hp} (hm:G7 hp u) (hl:laid hp u=some hp') :
  Stp μ w F hp μ w (Ed μ u F) hp'/\HR μ w (Ed μ u F) hp':=by
 have hget:∀r,hp'.get r=hp.get r\/(∃cs ro,hp.get r=some (.row cs ro)/\hp'.get r=some (.row cs true)/\∃p∈u,p.1=r):=fun r=>by
  by_cases hin:∃p∈u,p.1=r
  ·obtain ⟨p,hp1,rfl⟩:=hin;obtain ⟨cs,ro,h1,h2⟩:=hm p hp1;refine .inr ⟨cs,ro,h1,Jj u hp hp' hl p.1 (.row cs true) (fun q hq e=>?_) ⟨p,hp1,rfl⟩,p,hp1,rfl⟩;obtain ⟨cs',ro',h1',h2'⟩:=hm q hq;rw [e,h1] at h1';cases h1';exact h2'
  ·exact .inl (FA u hp hp' hl r (fun p hp1 e=>hin ⟨p,hp1,e⟩))
 have hst:Stp μ w F hp μ w (Ed μ u F) hp':=by
  refine ⟨.refl F w,Hw u,fun r cs ro h=>⟨?_,rfl⟩,fun r es h=>⟨?_,rfl⟩,fun r n sz h=>⟨n,?_,AjA _,.inl rfl⟩,fun r h h'=>?_,fun _ _ _=>rfl,fun b o h=>?_⟩
  ·rcases hget r with e | ⟨cs',_,_,e,_⟩
   ·exact ⟨cs,ro,e.trans h⟩
   ·exact ⟨_,_,e⟩
  ·rcases hget r with e | ⟨cs',ro',e,_⟩
   ·exact ⟨es,e.trans h⟩
   ·rw [h] at e;cases e
  ·rcases hget r with e | ⟨cs',ro',e,_⟩
   ·exact e.trans h
   ·rw [h] at e;cases e
  ·rcases hget r with e | ⟨cs',ro',e,_⟩
   ·rw [e,h] at h';cases h'
   ·rw [h] at e;cases e
  ·rcases h with h | ⟨p,hp1,cs,ro,_,e,_⟩
   ·exact .inl h
   ·obtain ⟨cs',ro',h1,_⟩:=hm p hp1;exact .inr (.inr ⟨p.1,by rw [h1];rfl,e.symm⟩)
 refine ⟨hst,fun r b hb=>?_,fun r s h1 h2 e=>?_,fun b o h=>?_⟩
 ·rcases hget r with e | ⟨cs,ro,e1,e2,p,hp1,rfl⟩
  ·have hb':hp.get r=some b:=e ▸ hb;have hB:=hr.blk r b hb';by_cases hrow:∃cs,b=.row cs true
   ·obtain ⟨cs,rfl⟩:=hrow;obtain ⟨c,e,h1,h2,h3,_,h5⟩:=hB;exact ⟨c,e,h1,h2,fun j x hx=>(h3 j x hx).mono hst,fun h=>(by cases h),fun h o ho=>.inl (h5 h o ho)⟩
   ·refine hB.mono hst rfl rfl fun o h=>?_;rcases h with h | ⟨p,hp1,cs,ro,_,e',_⟩
    ·exact h
    ·obtain ⟨cs',ro',h1,h2⟩:=hm p hp1;have hrp:r=p.1:=hr.inj r p.1 (by rw [hb'];rfl) (by rw [h1];rfl) e';subst hrp;exact absurd ⟨cs',by
      have:=Jj u hp hp' hl p.1 (.row cs' true) (fun q hq e=>by
       obtain ⟨c2,r2,h1',h2'⟩:=hm q hq;rw [e,h1] at h1';cases h1';exact h2') ⟨p,hp1,rfl⟩
      rw [hb] at this;exact Ajn this⟩ hrow
  ·rw [e2] at hb;cases hb;obtain ⟨c,e,h1,h2,h3,_,_⟩:=hr.blk _ _ e1;refine ⟨c,e,h1,h2,fun j x hx=>(h3 j x hx).mono hst,fun h=>(by cases h),fun _ o ho=>.inr ⟨p,hp1,cs,true,?_,rfl,ho⟩⟩;obtain ⟨cs',ro',h1',h2'⟩:=hm p hp1;rw [e1] at h1';cases h1';exact h2'
 ·have hs:∀r,(hp'.get r).isSome->(hp.get r).isSome:=fun r h=>by
   rcases hget r with e | ⟨cs,ro,e,_⟩
   ·rwa [e] at h
   ·rw [e];rfl
  exact hr.inj r s (hs r h1) (hs s h2) e
 ·rcases h with h | ⟨p,hp1,cs,ro,_,e,_⟩
  ·exact hr.wf b o h
  ·obtain ⟨cs',ro',h1,_⟩:=hm p hp1;rw [e];exact hr.lt (by rw [h1];rfl)
end
section
variable {μ:Ref->Nat} {w:World} {F:B3} {hp:Hp}
def MV (μ:Ref->Nat) (r:Ref) (b:Nat):Ref->Nat:=fun s=>if s=r then b else μ s
theorem Cg (μ:Ref->Nat) (r:Ref) (b:Nat):MV μ r b r=b:=by simp [MV]
theorem Hi (μ:Ref->Nat) {r s:Ref} (b:Nat) (h:s≠r):MV μ r b s=μ s:=by simp [MV,h]
theorem DA (w:World) (o:Obj) (b:Nat):(w.alloc o).heap[b]?=if b=w.heap.size then some o else w.heap[b]?:=by
 show (w.heap.push o)[b]?=_
 rw [Array.getElem?_push]
theorem CA (w:World) (o:Obj) {b:Nat} (h:b<w.heap.size):(w.alloc o).heap[b]?=w.heap[b]?:=by rw [DA,if_neg (by omega)]
theorem Qr {b:Nat} {o:Obj} (h:w.heap[b]?=some o):b<w.heap.size:=(Array.getElem?_eq_some_iff.1 h).1
theorem WS.alloc (F:B3) (w:World) (o:Obj) (ho:∀c e fr,o=.cells c e fr->fr=(0,0)):WS F w (w.alloc o) where
 rows b c e fr h:=⟨c,by rw [CA _ _ (Qr h)];exact h,rfl⟩
 prot b i v _ h:=by
  have hb:b<w.heap.size:=by
   rcases Nat.lt_or_ge b w.heap.size with hl | hl
   ·exact hl
   ·simp [World.cell?,Array.getElem?_eq_none hl] at h
  rw [World.cell?_alloc_lt (a:=⟨b,i,none⟩) (h:=hb)];exact h
 size:=by simp
 frozen a:=by
  by_cases h:a.block=w.heap.size
  ·have e1:(w.alloc o).heap[a.block]?=some o:=by rw [DA,if_pos h]
   have e2:w.heap[a.block]?=none:=by rw [h];simp
   simp only [World.frozen?,e1,e2];cases o with
   | cells c e fr=>have:=ho c e fr rfl;subst this;simp
   | _=>rfl
  ·simp only [World.frozen?];rw [DA,if_neg h]
 os:=rfl
 output:=rfl
 tape:=rfl
theorem WS.drew (F:B3) (w:World):WS F w w.drew:=⟨fun _ c _ _ h=>⟨c,h,rfl⟩,fun _ _ _ _ h=>h,AjA _,fun _=>rfl,rfl,rfl,rfl⟩
theorem Ra (hr:HR μ w F hp):Stp μ w F hp μ w.drew F hp/\HR μ w.drew F hp:=by
 have hst:Stp μ w F hp μ w.drew F hp:=⟨.drew F w,fun _ _ h=>h,fun r cs ro h=>⟨⟨cs,ro,h⟩,rfl⟩,fun r es h=>⟨⟨es,h⟩,rfl⟩,
  fun r n sz h=>⟨n,h,AjA _,.inl rfl⟩,fun r h h'=>(by rw [h] at h';cases h'),fun _ _ _=>rfl,fun _ _ h=>.inl h⟩
 exact ⟨hst,fun r b hb=>(hr.blk r b hb).mono hst rfl rfl fun _ h=>h,hr.inj,hr.wf⟩
theorem NK (hr:HR μ w F hp) (k:Nat) (hk:hp.get (.own k)=none) (o:Obj) (b:Blk) (ho:∀c e fr,o=.cells c e fr->fr=(0,0)) (Fn:Nat->Prop) :
  let μ':=MV μ (.own k) w.heap.size
  let F':B3:=fun c i=>F c i\/(c=w.heap.size/\Fn i)
  Stp μ w F hp μ' (w.alloc o) F' (hp.set (.own k) b)/\(BR μ' (w.alloc o) F' (hp.set (.own k) b) (.own k) b->HR μ' (w.alloc o) F' (hp.set (.own k) b)):=by
 intro μ' F';have hne:∀r b,hp.get r=some b->r≠.own k:=fun r b h e=>by rw [e,hk] at h;cases h
 have hget:∀r b',hp.get r=some b'->(hp.set (.own k) b).get r=some b':=fun r b' h=>by rw [AA _ _ _ _ (hne r b' h)];exact h
 have hμk:μ' (.own k)=w.heap.size:=Cg _ _ _;have hmu:∀r b',hp.get r=some b'->μ' r=μ r:=fun r b' h=>Hi _ _ (hne r b' h);have hst:Stp μ w F hp μ' (w.alloc o) F' (hp.set (.own k) b):=by
  refine ⟨.alloc F w o ho,fun _ _ h=>.inl h,fun r cs ro h=>⟨⟨cs,ro,hget r _ h⟩,hmu r _ h⟩,fun r es h=>⟨⟨es,hget r _ h⟩,hmu r _ h⟩,
   fun r n sz h=>⟨n,hget r _ h,AjA _,.inl (hmu r _ h)⟩,fun r h h'=>?_,fun c hc _=>CA _ _ hc,fun c i h=>?_⟩
  ·by_cases e:r=.own k
   ·subst e;rw [hμk];exact AjA _
   ·rw [AA _ _ _ _ e,h] at h';cases h'
  ·rcases h with h | ⟨h,_⟩
   ·exact .inl h
   ·exact .inr (.inl (by omega))
 refine ⟨hst,fun hb=>⟨fun r b' h=>?_,fun r s h1 h2 e=>?_,fun c i h=>?_⟩⟩
 ·by_cases e:r=.own k
  ·subst e;rw [Cd] at h;cases h;exact hb
  ·rw [AA _ _ _ _ e] at h;have hlt:=hr.lt (r:=r) (by rw [h];rfl);refine (hr.blk r b' h).mono hst (hmu r _ h) (CA _ _ hlt) fun i hi=>?_;rcases hi with hi | ⟨hi,_⟩
   ·exact hi
   ·omega
 ·have hlt:∀r,r≠.own k->((hp.set (.own k) b).get r).isSome->μ' r=μ r/\μ r<w.heap.size/\(hp.get r).isSome:=fun r hr' h=>by
   rw [AA _ _ _ _ hr'] at h;exact ⟨Hi _ _ hr',hr.lt h,h⟩
  by_cases er:r=.own k
  ·by_cases es:s=.own k
   ·rw [er,es]
   ·obtain ⟨e1,e2,_⟩:=hlt s es h2;rw [er,hμk,e1] at e;omega
  ·obtain ⟨e1,e2,e3⟩:=hlt r er h1;by_cases es:s=.own k
   ·rw [es,hμk,e1] at e;omega
   ·obtain ⟨f1,f2,f3⟩:=hlt s es h2;exact hr.inj r s e3 f3 (by rw [<- e1,<- f1];exact e)
 ·rcases h with h | ⟨h,_⟩
  ·have:=hr.wf c i h;simp;omega
  ·simp;omega
theorem HV (hr:HR μ w F hp) (k:Nat) (hk:hp.get (.own k)=none) (arr:Array Value) (e:TypeId) (cells:List IV) (hl:cells.length<=arr.size)
  (hc:∀j x,cells[j]?=some x->R μ w F hp x (arr.getD j undef)) :
  ∃μ' F',Stp μ w F hp μ' (w.alloc (.cells arr e)) F' (hp.set (.own k) (.row cells false))/\HR μ' (w.alloc (.cells arr e)) F' (hp.set (.own k) (.row cells false)) /\
   μ' (.own k)=w.heap.size:=by
 obtain ⟨hst,hhr⟩:=NK hr k hk (.cells arr e) (.row cells false) (fun _ _ _ h=>by cases h;rfl) (fun _=>False);refine ⟨_,_,hst,hhr ⟨arr,e,?_,hl,fun j x hx=>(hc j x hx).mono hst,fun _ o h=>?_,fun h=>(by cases h)⟩,Cg _ _ _⟩
 ·rw [Cg,DA,if_pos rfl]
 ·rw [Cg] at h;rcases h with h | ⟨_,h⟩
  ·have:=hr.wf _ _ h;omega
  ·exact h
theorem L5 (hr:HR μ w F hp) (arr:Array Value) (e:TypeId) :
  let F':B3:=fun c i=>F c i\/(c=w.heap.size/\i<arr.size)
  Stp μ w F hp μ (w.alloc (.cells arr e)) F' hp/\HR μ (w.alloc (.cells arr e)) F' hp:=by
 intro F';have hst:Stp μ w F hp μ (w.alloc (.cells arr e)) F' hp:=by
  refine ⟨.alloc F w _ (fun _ _ _ h=>by cases h;rfl),fun _ _ h=>.inl h,fun r cs ro h=>⟨⟨cs,ro,h⟩,rfl⟩,fun r es h=>⟨⟨es,h⟩,rfl⟩,
   fun r n sz h=>⟨n,h,AjA _,.inl rfl⟩,fun r h h'=>(by rw [h] at h';cases h'),fun c hc _=>CA _ _ hc,fun c i h=>?_⟩
  rcases h with h | ⟨h,_⟩
  ·exact .inl h
  ·exact .inr (.inl (by omega))
 refine ⟨hst,fun r b h=>?_,hr.inj,fun c i h=>?_⟩
 ·have hlt:=hr.lt (r:=r) (by rw [h];rfl);refine (hr.blk r b h).mono hst rfl (CA _ _ hlt) fun i hi=>?_;rcases hi with hi | ⟨hi,_⟩
  ·exact hi
  ·omega
 ·rcases h with h | ⟨h,_⟩
  ·have:=hr.wf c i h;simp;omega
  ·simp;omega
theorem Cf (w:World) (g b:Nat) (cs:Array Value):(w.setRow g cs).heap[b]?=if b=g then (w.heap[g]?).map (fun | .cells _ e fr=>.cells cs e fr | o=>o) else w.heap[b]?:=by
 simp only [World.setRow,Array.getElem?_modify];by_cases h:g=b
 ·subst h;rw [if_pos rfl,if_pos rfl];cases w.heap[g]? with
  | none=>rfl
  | some o=>cases o<;>rfl
 ·rw [if_neg h,if_neg (fun e=>h e.symm)]
theorem WS.setRow (F:B3) (w:World) (g:Nat) (c c':Array Value) (e:TypeId) (hg:w.heap[g]?=some (.cells c e (0,0))) (hs:c'.size=c.size)
  (hF:∀o,F g o->c'[o]?=c[o]?):WS F w (w.setRow g c') where
 rows b c1 e1 fr h:=by
  rw [Cf];by_cases hb:b=g
  ·subst hb;rw [hg] at h;cases h;exact ⟨c',by simp [hg],hs⟩
  ·exact ⟨c1,by rw [if_neg hb];exact h,rfl⟩
 prot b o v hf h:=by
  by_cases hb:b=g
  ·subst hb
   have:(w.setRow b c').heap[b]?=some (.cells c' e (0,0)):=by rw [Cf];simp [hg]
   rw [EG this,hF o hf,<- EG hg];exact h
  ·simp only [World.cell?,Cf,if_neg hb] at h ⊢;exact h
 size:=by simp [World.setRow]
 frozen a:=by
  simp only [World.frozen?,Cf];by_cases hb:a.block=g
  ·rw [if_pos hb,hb,hg];rfl
  ·rw [if_neg hb]
 os:=rfl
 output:=rfl
 tape:=rfl
theorem X1 (hr:HR μ w F hp) (r:Ref) (cells cells':List IV) (c c':Array Value) (e:TypeId) (h:hp.get r=some (.row cells false))
  (hg:w.heap[μ r]?=some (.cells c e (0,0))) (hs:c'.size=c.size) (hl:cells'.length<=c'.size) (hc:∀j x,cells'[j]?=some x->R μ w F hp x (c'.getD j undef)) :
  Stp μ w F hp μ (w.setRow (μ r) c') F (hp.set r (.row cells' false))/\HR μ (w.setRow (μ r) c') F (hp.set r (.row cells' false)):=by
 have hsome:(hp.get r).isSome:=by rw [h];rfl
 have hnF:∀o,¬ F (μ r) o:=by obtain ⟨_,_,_,_,_,h4,_⟩:=hr.blk r _ h;exact h4 rfl
 have hget:∀s b',s≠r->hp.get s=some b'->(hp.set r (.row cells' false)).get s=some b':=fun s b' hn h=>by rw [AA _ _ _ _ hn];exact h
 have hsame:=B9 hp r (.row cells' false) hsome;have hst:Stp μ w F hp μ (w.setRow (μ r) c') F (hp.set r (.row cells' false)):=by
  refine ⟨.setRow F w (μ r) c c' e hg hs (fun o ho=>absurd ho (hnF o)),fun _ _ h=>h,fun s cs ro hs'=>⟨?_,rfl⟩,fun s es hs'=>⟨?_,rfl⟩,fun s n sz hs'=>⟨n,?_,AjA _,.inl rfl⟩,
   fun s h1 h2=>?_,fun b hb hb'=>?_,fun _ _ h=>.inl h⟩
  ·by_cases e:s=r
   ·subst e;exact ⟨_,_,hsame⟩
   ·exact ⟨cs,ro,hget s _ e hs'⟩
  ·by_cases e:s=r
   ·subst e;rw [h] at hs';cases hs'
   ·exact ⟨es,hget s _ e hs'⟩
  ·by_cases e:s=r
   ·subst e;rw [h] at hs';cases hs'
   ·exact hget s _ e hs'
  ·by_cases e:s=r
   ·subst e;rw [h] at h1;cases h1
   ·rw [AA _ _ _ _ e,h1] at h2;cases h2
  ·rw [Cf,if_neg (fun e=>hb' r hsome e.symm)]
 have hsome':∀s,((hp.set r (.row cells' false)).get s).isSome->(hp.get s).isSome:=fun s hs'=>by
  by_cases e:s=r
  ·rw [e];exact hsome
  ·rwa [AA _ _ _ _ e] at hs'
 refine ⟨hst,fun s b hb=>?_,fun s t h1 h2 e=>hr.inj s t (hsome' s h1) (hsome' t h2) e,fun b o h=>?_⟩
 ·by_cases e1:s=r
  ·subst e1;rw [hsame] at hb;cases hb;exact ⟨c',e,by rw [Cf];simp [hg],hl,fun j x hx=>(hc j x hx).mono hst,fun _=>hnF,fun h=>(by cases h)⟩
  ·rw [AA _ _ _ _ e1] at hb;refine (hr.blk s b hb).mono hst rfl ?_ fun _ h=>h;rw [Cf,if_neg (fun e2=>e1 (hr.inj s r (by rw [hb];rfl) hsome e2))]
 ·have:=hr.wf b o h;simp only [World.setRow,Array.size_modify];exact this
end
def Em:TypeDesc->TK->Prop
 | .int k,.int l=>k=l
 | .bool,.bool=>True
 | .string,.str=>True
 | .pointer _,.ptr=>True
 | .func ..,.func=>True
 | .slice e,.slice f=>e=f
 | .array n e,.arr m f=>n=m/\e=f
 | .struct fs,.struct l=>fs.toList.map (fun f=>(f.offset,f.type))=l
 | .map k e,.map l f=>k=l/\e=f
 | _,_=>False
structure TIok (P:Program) (t:TypeId) (ti:TI):Prop where
 info:∃i z,P.info? t=some i/\i.size=ti.size/\i.bytes=ti.bytes/\i.zero=some z/\z.cells.toList.map Fu=ti.zero/\z.cells.size=ti.size /\
  (ti.kind.isAgg=true->z=.agg z.cells)/\(ti.kind.isAgg=false->z.cells=#[z])
 desc:∃d,P.underlying t=some d/\Em d ti.kind
 fields:∀fs,ti.kind=.struct fs->∀p∈fs,∃i,P.info? p.2=some i
structure EnvOk (E:Env):Prop where
 types:∀t ti,E.T t=some ti->TIok E.P t ti
 mixed:E.P.follows .mixedOrders=true
 names : ∀ (f : FuncId) fn, E.P.funcs[f]? = some fn → fn.body.isSome → (fn.name == "runtime.NumGoroutine") = false
 code:∀(f:FuncId) fn c,E.P.funcs[f]?=some fn->fn.body=some c->DQ c=true
section
variable {P:Program} {w:World}
theorem Br {t:TypeId} {ti:TI} (h:TIok P t ti):(sizeOf t).run P w=.ok ti.size w:=by obtain ⟨i,z,h1,h2,_⟩:=h.info;simp [sizeOf,typeInfo,h1,h2]
theorem MA {t:TypeId} {ti:TI} (h:TIok P t ti):(isAgg t).run P w=.ok ti.kind.isAgg w:=by obtain ⟨d,h1,h2⟩:=h.desc;have h3:=run_underlying h1 w;simp only [isAgg,Sem.run_bind,h3,Result.andThen_ok];cases d<;>cases hk:ti.kind<;>simp_all [Em,TK.isAgg]
theorem Ps {t:TypeId} {ti:TI} (h:TIok P t ti):∃z,(∀w,(zeroValue t).run P w=.ok z w)/\z.cells.toList.map Fu=ti.zero/\z.cells.size=ti.size /\
  (ti.kind.isAgg=true->z=.agg z.cells)/\(ti.kind.isAgg=false->z.cells=#[z]):=by
 obtain ⟨i,z,h1,_,_,h2,h3,h4,h5,h6⟩:=h.info;exact ⟨z,fun w=>by simp [zeroValue,typeInfo,h1,h2],h3,h4,h5,h6⟩
theorem D0 {t:TypeId} {ti:TI} (h:TIok P t ti) (ha:ti.kind.isAgg=false):ti.size=1:=by obtain ⟨z,_,_,h1,_,h2⟩:=Ps h;rw [<- h1,h2 ha];rfl
theorem C0 {t:TypeId} {s b:Nat} {e:TypeId} {z:List IV} (h:TIok P t ⟨s,b,.slice e,z⟩):P.underlying t=some (.slice e):=by obtain ⟨d,h1,h2⟩:=h.desc;cases d<;>simp_all [Em]
theorem LH {t:TypeId} {s b:Nat} {k:IntKind} {z:List IV} (h:TIok P t ⟨s,b,.int k,z⟩):P.underlying t=some (.int k):=by obtain ⟨d,h1,h2⟩:=h.desc;cases d<;>simp_all [Em]
theorem Jz {t:TypeId} {s b:Nat} {z:List IV} (h:TIok P t ⟨s,b,.str,z⟩):P.underlying t=some .string:=by obtain ⟨d,h1,h2⟩:=h.desc;cases d<;>simp_all [Em]
theorem g9 {t:TypeId} {s b:Nat} {z:List IV} (h:TIok P t ⟨s,b,.bool,z⟩):P.underlying t=some .bool:=by obtain ⟨d,h1,h2⟩:=h.desc;cases d<;>simp_all [Em]
theorem jQ {t:TypeId} {s b:Nat} {z:List IV} (h:TIok P t ⟨s,b,.ptr,z⟩):∃e,P.underlying t=some (.pointer e):=by obtain ⟨d,h1,h2⟩:=h.desc;cases d<;>simp_all [Em]
theorem Zt {t:TypeId} {s b:Nat} {z:List IV} (h:TIok P t ⟨s,b,.func,z⟩):∃x y v,P.underlying t=some (.func x y v):=by obtain ⟨d,h1,h2⟩:=h.desc;cases d<;>simp_all [Em]
theorem O7 {t:TypeId} {s b n:Nat} {e:TypeId} {z:List IV} (h:TIok P t ⟨s,b,.arr n e,z⟩):P.underlying t=some (.array n e):=by obtain ⟨d,h1,h2⟩:=h.desc;cases d<;>simp_all [Em]
theorem MI {t:TypeId} {s b:Nat} {l:List (Nat×TypeId)} {z:List IV} (h:TIok P t ⟨s,b,.struct l,z⟩) :
  ∃fs,P.underlying t=some (.struct fs)/\fs.toList.map (fun f=>(f.offset,f.type))=l:=by
 obtain ⟨d,h1,h2⟩:=h.desc;cases d<;>simp_all [Em]
theorem WW {t:TypeId} {s b:Nat} {k e:TypeId} {z:List IV} (h:TIok P t ⟨s,b,.map k e,z⟩):P.underlying t=some (.map k e):=by obtain ⟨d,h1,h2⟩:=h.desc;cases d<;>simp_all [Em]
end
def D7 (μ:Ref->Nat) (w:World) (F:B3) (hp:Hp) (v:IV) (hp':Hp) (res:Result Next):Prop :=∃x w' μ' F',(res=.ok (.value x) w'\/(res=.ok .skip w'/\x=undef))/\Stp μ w F hp μ' w' F' hp'/\HR μ' w' F' hp'/\R μ' w' F' hp' v x
section
variable {μ:Ref->Nat} {w:World} {F:B3} {hp:Hp}
theorem D7.val (hr:HR μ w F hp) {v:IV} {x:Value} {res:Result Next} (hv:R μ w F hp v x) (e:res=.ok (.value x) w):D7 μ w F hp v hp res :=⟨x,w,μ,F,.inl e,.refl _ _ _ _,hr,hv⟩
theorem Bx {k:Nat} {hp':Hp} {v:IV} {m:Made} (h:(val v).run hp=some m) (h':A4 k hp m=some hp'):m.eff.val=v/\hp'=hp:=by simp only [Idl.val,Rd.run,AiZ] at h;subst h;simp only [A4,CV,laid,Ajt,AiZ] at h';exact ⟨rfl,h'.symm⟩
theorem B2 {k:Nat} {hp':Hp} {v:Option IV} {m:Made} (h:(Gq v).run hp=some m) (h':A4 k hp m=some hp'):v=some m.eff.val/\hp'=hp:=by
 cases v with
 | none=>simp [Gq,Rd.run] at h
 | some v=>obtain ⟨e1,e2⟩:=Bx h h';exact ⟨by rw [e1],e2⟩
theorem Ar {m:Made} {α:Prop} (h:(Rd.fail:Rd Made).run hp=some m):α:=by cases h
theorem Ji (v:Value):R μ w F hp (Fu v) v:=by
 unfold Fu;split
 ·exact .fv _ _ (.bool _)
 ·exact .fv _ _ (.int _ _)
 ·exact .fv _ _ (.str _)
 ·exact .fv _ _ .nilp
 ·exact .nils
 ·exact .fv _ _ .nilf
 ·exact .dead _
theorem Ln {l:List IV} {vs:List FV} {x:Nat->Value} (h:F8 l=some vs) (hx:∀j y,l[j]?=some y->R μ w F hp y (x j)) :
  vs.length=l.length/\∀j c,vs[j]?=some c->RF w F c (x j):=by
 induction l generalizing vs x with
 | nil=>simp only [F8,AiZ] at h;subst h;exact ⟨rfl,fun j c hc=>by simp at hc⟩
 | cons v l ih =>
  cases v with
  | fv v =>
   simp only [F8,Ai1] at h;obtain ⟨ws,h1,rfl⟩:=h;obtain ⟨e,h2⟩:=ih (x:=fun j=>x (j+1)) h1 (fun j y hy=>hx (j+1) y hy);refine ⟨by simp [e],fun j c hc=>?_⟩;cases j with
   | zero=>simp at hc;subst hc;have:=hx 0 _ rfl;cases this with | fv _ _ h=>exact h
   | succ j=>exact h2 j c (by simpa using hc)
  | _=>simp [F8] at h
theorem Lz {l:List IV} {a:Array Value} (hl:l.length=a.size) (h:∀j y,l[j]?=some y->R μ w F hp y (a.getD j undef)):R μ w F hp (Fp l) (.agg a):=by
 unfold Fp;split
 ·rename_i vs hv;obtain ⟨e,h1⟩:=Ln hv h;exact .fv _ _ (.agg vs a (by omega) h1)
 ·exact .agg l a hl h
theorem NP {l:List IV} {a:Array Value} (hl:l.length=a.size) (h:∀j y,l[j]?=some y->R μ w F hp y (a.getD j undef)):R μ w F hp (CL l) (.tuple a):=by
 unfold CL;split
 ·rename_i vs hv;obtain ⟨e,h1⟩:=Ln hv h;exact .fv _ _ (.tuple vs a (by omega) h1)
 ·exact .tuple l a hl h
theorem dD {fn:Fn} {l m:List IV} {a b:Array Value} (hl:l.length=a.size) (hm:m.length=b.size) (h:∀j y,l[j]?=some y->R μ w F hp y (a.getD j undef))
  (h':∀j y,m[j]?=some y->R μ w F hp y (b.getD j undef)):R μ w F hp (CI fn l m) (.func fn a b):=by
 unfold CI;split
 ·rename_i vs ws hv hw;obtain ⟨e,h1⟩:=Ln hv h;obtain ⟨e',h2⟩:=Ln hw h';exact .fv _ _ (.func fn vs ws a b (by omega) (by omega) h1 h2)
 ·exact .func fn l m a b hl hm h h'
theorem kU (v:Value):R μ w F hp (Lt v) v:=by
 unfold Lt;split
 ·rename_i cs;refine Lz (by simp) fun j y hy=>?_;simp only [Ajv,Ai1,Array.getElem?_toList] at hy;obtain ⟨c,hc,rfl⟩:=hy;rw [Ajd,hc];exact Ji c
 ·exact Ji v
structure SlotsR (μ:Ref->Nat) (w:World) (F:B3) (hp:Hp) (slots:List IV) (tmps:Array Value):Prop where
 size:slots.length=tmps.size
 at_:∀i v,slots[i]?=some v->R μ w F hp v (tmps.getD i undef)
theorem SlotsR.mono {μ':Ref->Nat} {w':World} {F':B3} {hp':Hp} {slots:List IV} {tmps:Array Value} (h:SlotsR μ w F hp slots tmps) (st:Stp μ w F hp μ' w' F' hp') :
  SlotsR μ' w' F' hp' slots tmps:=⟨h.size,fun i v hv=>(h.at_ i v hv).mono st⟩
theorem AB {slots:List IV} {a:Act} (h:SlotsR μ w F hp slots a.tmps) (x:Operand):R μ w F hp (AG slots x) (a.eval x):=by
 cases x with
 | tmp t =>
  simp only [AG,Act.eval];rw [Ajf];cases hs:slots[t]? with
  | none=>exact .dead _
  | some v=>exact h.at_ t v hs
 | const v=>exact kU v
 | global g=>exact .dead _
 | func f=>exact .fv _ _ (.func _ [] [] #[] #[] rfl rfl (fun j c h=>by simp at h) (fun j c h=>by simp at h))
theorem Qp {v:IV} {x:Value} (h:R μ w F hp v x) (ha:v.alive=true) :
  v.cells.length=x.cells.size/\∀j y,v.cells[j]?=some y->R μ w F hp y (x.cells.getD j undef):=by
 have one:∀{v:IV} {x:Value},R μ w F hp v x->v.cells=[v]->x.cells=#[x]->v.cells.length=x.cells.size/\∀j y,v.cells[j]?=some y->R μ w F hp y (x.cells.getD j undef):=by
  intro v x h e1 e2;rw [e1,e2];refine ⟨rfl,fun j y hy=>?_⟩;cases j with
  | zero=>simp at hy;subst hy;simpa using h
  | succ j=>simp at hy
 cases h with
 | dead=>cases ha
 | fv v x hx =>
  cases hx with
  | agg cs x hl h =>refine ⟨by simpa [IV.cells,Value.cells] using hl,fun j y hy=>?_⟩;simp only [IV.cells,Ajv,Ai1] at hy;obtain ⟨c,hc,rfl⟩:=hy;exact .fv _ _ (h j c hc)
  | tuple=>cases ha
  | bool b=>exact one (.fv _ _ (.bool b)) rfl rfl
  | int k n=>exact one (.fv _ _ (.int k n)) rfl rfl
  | str s=>exact one (.fv _ _ (.str s)) rfl rfl
  | nilp=>exact one (.fv _ _ .nilp) rfl rfl
  | nilf=>exact one (.fv _ _ .nilf) rfl rfl
  | fp cs off b base vs h1 h2 h3=>exact one (.fv _ _ (.fp cs off b base vs h1 h2 h3)) rfl rfl
  | sl0 a cap h=>exact one (.fv _ _ (.sl0 a cap h)) rfl rfl
  | sl es b base sz cap vs h1 h2 h3 h4 h5 h6=>exact one (.fv _ _ (.sl es b base sz cap vs h1 h2 h3 h4 h5 h6)) rfl rfl
  | func fn a b x y h1 h2 h3 h4=>exact one (.fv _ _ (.func fn a b x y h1 h2 h3 h4)) rfl rfl
 | ptr r off h=>exact one (.ptr r off h) rfl rfl
 | slc r sz len cap h hle=>exact one (.slc r sz len cap h hle) rfl rfl
 | nils=>exact one .nils rfl rfl
 | emp a cap=>exact one (.emp a cap) rfl rfl
 | clip es a h=>exact one (.clip es a h) rfl rfl
 | clip0 a=>exact one (.clip0 a) rfl rfl
 | app r es x hx hne h =>
  have:x.cells=#[x]:=by cases hx<;>rfl
  exact one (.app r es x hx hne h) rfl this
 | func fn a b x y h1 h2 h3 h4=>exact one (.func fn a b x y h1 h2 h3 h4) rfl rfl
 | agg cs x hl h=>exact ⟨hl,h⟩
 | tuple=>cases ha
 | mapr r h=>exact one (.mapr r h) rfl rfl
theorem AbS {v:IV} {x:Value} (h:R μ w F hp v x) (ho:v.one=true):x.oneCell'=true:=by
 cases h with
 | dead=>cases ho
 | fv v x hx=>cases hx<;>first | rfl | cases ho
 | app r es x hx _ _=>cases hx<;>rfl
 | agg=>cases ho
 | tuple=>cases ho
 | _=>rfl
theorem EV {P:Program} {t:TypeId} {ti:TI} (h:TIok P t ti) (b off:Nat) (f:Nat->Value) (hc:∀j,j<ti.size->w.cell? ⟨b,off+j,none⟩=some (f j)) :
  (loadVar t ⟨b,off,none⟩).run P w=.ok (if ti.kind.isAgg then .agg ((List.range ti.size).map f).toArray else f 0) w:=by
 simp only [loadVar,Sem.run_bind,MA h,Result.andThen_ok];cases ha:ti.kind.isAgg with
 | true =>simp only [if_true,Sem.run_bind,Br h,Result.andThen_ok];rw [run_loadCells w ⟨b,off,none⟩ ti.size f (fun j hj=>by rw [Addr.add_lit];exact hc j hj)];rfl
 | false =>
  have:=hc 0 (by rw [D0 h ha];omega)
  simp only [AjB] at this;simp [this]
theorem K0 {agg:Bool} {size off:Nat} {cells:List IV} {v:IV} {f:Nat->Value} (h:Cu agg size off cells=some v) (hc:∀j x,cells[j]?=some x->R μ w F hp x (f j)) :
  R μ w F hp v (if agg then .agg ((List.range size).map fun j=>f (off+j)).toArray else f off):=by
 cases agg with
 | true =>
  simp only [Cu,if_true] at h ⊢;split at h
  ·simp only [AiZ] at h;subst h;refine Lz (by simp;omega) fun j y hy=>?_;rw [List.getElem?_take] at hy;split at hy
   ·rename_i hj;rw [List.getElem?_drop] at hy
    have:=hc _ _ hy
    rw [Ajd];simpa [hj] using this
   ·cases hy
  ·cases h
 | false=>simp only [Cu,Ajx,if_false] at h ⊢;exact hc _ _ h
theorem IR {agg:Bool} {size off:Nat} {cells:List IV} {v:IV} (h:Cu agg size off cells=some v) (hs:agg=false->size=1):off+size<=cells.length:=by
 cases agg with
 | true =>
      simp only [Cu,if_true] at h;split at h;· assumption
      ·cases h
 | false =>
  simp only [Cu,Ajx,if_false] at h
  have:=(Ai7.1 h).1
  rw [hs rfl];omega
theorem GL {agg:Bool} {size off:Nat} {cells:List FV} {v:FV} {f:Nat->Value} (h:BN agg size off cells=some v) (hc:∀j x,cells[j]?=some x->RF w F x (f j)) :
  RF w F v (if agg then .agg ((List.range size).map fun j=>f (off+j)).toArray else f off):=by
 cases agg with
 | true =>
  simp only [BN,if_true] at h ⊢;split at h
  ·simp only [AiZ] at h;subst h;refine .agg _ _ (by simp;omega) fun j y hy=>?_;rw [List.getElem?_take] at hy;split at hy
   ·rename_i hj;rw [List.getElem?_drop] at hy
    have:=hc _ _ hy
    rw [Ajd];simpa [hj] using this
   ·cases hy
  ·cases h
 | false=>simp only [BN,Ajx,if_false] at h ⊢;exact hc _ _ h
theorem F7 {agg:Bool} {size off:Nat} {cells:List FV} {v:FV} (h:BN agg size off cells=some v) (hs:agg=false->size=1):off+size<=cells.length:=by
 cases agg with
 | true =>
      simp only [BN,if_true] at h;split at h;· assumption
      ·cases h
 | false =>
  simp only [BN,Ajx,if_false] at h
  have:=(Ai7.1 h).1
  rw [hs rfl];omega
end
section
variable {E:Env} {μ:Ref->Nat} {w:World} {F:B3} {hp hp':Hp} {slots:List IV} {a:Act} {ih:Ah} {f:FuncId} {rid i k:Nat} {m:Made} {o:Oper}
theorem WE (hr:HR μ w F hp) (hs:SlotsR μ w F hp slots a.tmps) {x:Operand} (ho:o.op=.move x\/o.op=.assign x)
  (h:(val (AG slots x)).run hp=some m) (h':A4 k hp m=some hp'):D7 μ w F hp m.eff.val hp' ((execOp a.eval o).run E.P w):=by
 obtain ⟨e1,rfl⟩:=Bx h h';rw [e1];refine .val hr (AB hs x) ?_;rcases ho with ho | ho<;>simp [execOp,ho]
theorem i6 (hr:HR μ w F hp) (hs:SlotsR μ w F hp slots a.tmps) {c x y:Operand} (ho:o.op=.pick c x y)
  (h:(Eb E ih f rid i slots o.op).run hp=some m) (h':A4 k hp m=some hp'):D7 μ w F hp m.eff.val hp' ((execOp a.eval o).run E.P w):=by
 simp only [ho,Eb,C9] at h;split at h
 ·rename_i t ht;obtain ⟨e1,rfl⟩:=Bx h h';have hc:=AB hs c;rw [ht] at hc;cases hc with | fv _ _ hc =>
  generalize hcv:a.eval c=cv at hc;cases hc;rw [e1];refine .val hr (x:=if t then a.eval x else a.eval y) ?_ ?_
  ·cases t
   ·exact AB hs y
   ·exact AB hs x
  ·simp [execOp,ho,asBool,hcv]
 ·exact Ar h
theorem aR (hE:EnvOk E) (hr:HR μ w F hp) {t:TypeId} (ho:o.op=.alloc t)
  (h:(Eb E ih f rid i slots o.op).run hp=some m) (h':A4 (Bt f rid i) hp m=some hp'):D7 μ w F hp m.eff.val hp' ((execOp a.eval o).run E.P w):=by
 simp only [ho,Eb,C9] at h;split at h
 ·rename_i ti ht;simp only [Rd.run,AiZ] at h;subst h;have hT:=hE.types t ti ht;obtain ⟨z,hz,hz1,hz2,_⟩:=Ps hT;simp only [A4,CV,laid,Ajt] at h';split at h'
  ·cases h'
  rename_i hk;simp only [AiZ] at h';subst h';obtain ⟨μ',F',h1,h2,h3⟩:=HV hr (Bt f rid i) hk z.cells t ti.zero (by rw [<- hz1];simp) (fun j x hx=>by
   rw [<- hz1] at hx;simp only [Ajv,Ai1,Array.getElem?_toList] at hx;obtain ⟨c,hc,rfl⟩:=hx;rw [Ajd,hc];exact Ji c)
  refine ⟨.pointer (some ⟨w.heap.size,0,none⟩),_,μ',F',.inl ?_,h1,h2,?_⟩
  ·simp [execOp,ho,Instr.alloc,hz,newVar,newRow]
  ·rw [<- h3];exact .ptr _ _ ⟨_,_,Cd _ _ _⟩
 ·exact Ar h
theorem yW (hr:HR μ w F hp) (hs:SlotsR μ w F hp slots a.tmps) {t:TypeId} {x:Operand} (ho:o.op=.box t x)
  (h:(Eb E ih f rid i slots o.op).run hp=some m) (h':A4 (Bt f rid i) hp m=some hp'):D7 μ w F hp m.eff.val hp' ((execOp a.eval o).run E.P w):=by
 simp only [ho,Eb,C9] at h;have hx:=AB hs x;have hrun:(execOp a.eval o).run E.P w=.ok (.value (.pointer (some ⟨w.heap.size,0,none⟩))) (w.alloc (.cells (a.eval x).cells t)):=by simp [execOp,ho,Instr.box,newVar,newRow]
 split at h
 ·exact Ar h
 rename_i hal;have hal:(AG slots x).alive=true:=by simpa using hal
 obtain ⟨hc1,hc2⟩:=Qp hx hal;split at h
 ·obtain ⟨⟨vs,u⟩,e1,e2⟩:=Rd.run_bind_some h;simp only [Rd.run,AiZ] at e2;subst e2;simp only [A4] at h';cases hl:laid hp u with
  | none=>rw [hl] at h';cases h'
  | some hp1 =>
   rw [hl] at h';simp only [Ajt,CV,AiZ] at h';subst h';obtain ⟨m1,l1,r1⟩:=(KO hr 4096).2 _ (fun j=>(a.eval x).cells.getD j undef) vs u hc2 e1;obtain ⟨s1,hr1⟩:=Fe hr m1 hl;obtain ⟨s2,hr2⟩:=L5 hr1 (a.eval x).cells t;refine ⟨_,_,μ,_,.inl hrun,s1.trans s2,hr2,.fv _ _ ?_⟩
   have:=RF.fp (w:=w.alloc (.cells (a.eval x).cells t)) (F:=fun c i=>Ed μ u F c i\/(c=w.heap.size/\i<(a.eval x).cells.size)) vs 0 w.heap.size 0 (fun j=>(a.eval x).cells.getD j undef)
    (fun j hj=>.inr ⟨rfl,by omega⟩)
    (fun j hj=>by
     rw [World.cell?_alloc_new,Ajy,Array.getElem?_eq_getElem (by omega)];simp [show j<(a.eval x).cells.size by omega])
    (fun j c hc=>(r1 j c hc).mono s2.ws s2.sub)
   simpa using this
 ·simp only [Rd.run,AiZ] at h;subst h;simp only [A4,CV,laid,Ajt] at h';split at h'
  ·cases h'
  rename_i hk;simp only [AiZ] at h';subst h';obtain ⟨μ',F',h1,h2,h3⟩:=HV hr (Bt f rid i) hk (a.eval x).cells t (AG slots x).cells (by omega) hc2;refine ⟨_,_,μ',F',.inl hrun,h1,h2,?_⟩;rw [<- h3];exact .ptr _ _ ⟨_,_,Cd _ _ _⟩
theorem kM (hE:EnvOk E) (hr:HR μ w F hp) (hs:SlotsR μ w F hp slots a.tmps) {t:TypeId} {x:Operand} (ho:o.op=.load t x)
  (h:(Eb E ih f rid i slots o.op).run hp=some m) (h':A4 k hp m=some hp'):D7 μ w F hp m.eff.val hp' ((execOp a.eval o).run E.P w):=by
 simp only [ho,Eb,C9] at h;have hx:=AB hs x;split at h
 ·exact Ar h
 rename_i ti ht;have hT:=hE.types t ti ht;split at h
 ·rename_i r off hxe;rw [hxe] at hx;generalize hxv:a.eval x=xv at hx;cases hx with | ptr _ _ hrow =>
  obtain ⟨b,hb,h⟩:=Rd.run_get_some h;cases b with
  | tok=>exact Ar h
  | map=>exact Ar h
  | row cells ro =>
   obtain ⟨e1,rfl⟩:=B2 h h';obtain ⟨c,e,hw,hlen,hcell,_⟩:=hr.blk _ _ hb;have hlt:=IR e1 (D0 hT);refine .val hr (K0 e1 (f:=fun j=>c.getD j undef) hcell) ?_;simp only [execOp,ho,hxv,Instr.loadAt,Instr.sureAddr,Sem.run_bind,Sem.run_pure,Result.andThen_ok];rw [EV hT (μ r) off (fun j=>c.getD (off+j) undef) (fun j hj=>by rw [EG hw,Array.getElem?_eq_getElem (by omega)];simp [show off+j<c.size by omega])]
   cases ti.kind.isAgg<;>simp
 ·rename_i cells off hxe;rw [hxe] at hx;generalize hxv:a.eval x=xv at hx;cases hx with | fv _ _ hx =>
  cases hx with | fp _ _ b base vs hF hc hcs =>
  obtain ⟨e1,rfl⟩:=B2 h h';simp only [Ai1] at e1;obtain ⟨v,e1,e2⟩:=e1;have hlt:=F7 e1 (D0 hT);rw [<- e2];refine .val hr (.fv _ _ (GL e1 (f:=vs) hcs)) ?_;simp only [execOp,ho,hxv,Instr.loadAt,Instr.sureAddr,Sem.run_bind,Sem.run_pure,Result.andThen_ok];rw [EV hT b (base+off) (fun j=>vs (off+j)) (fun j hj=>by rw [Nat.add_assoc];exact hc _ (by omega))];cases ti.kind.isAgg<;>simp
 ·exact Ar h
theorem Dj:∀(vs cs:List IV) (off:Nat),(Bh cs off vs).length=cs.length
 | [],_,_=>rfl
 | v::l,cs,off=>by simp [Bh,Dj l]
theorem GX:∀(vs cs:List IV) (off j:Nat),(Bh cs off vs)[j]?=if off<=j/\j<off+vs.length/\j<cs.length then vs[j - off]? else cs[j]?
 | [],cs,off,j=>by
  rw [if_neg (by simp;omega)];rfl
 | v::l,cs,off,j=>by
  rw [Bh,GX l (cs.set off v) (off+1) j,List.length_set];by_cases h1:off=j
  ·subst h1;rw [if_neg (by omega)];by_cases h2:off<cs.length
   ·rw [if_pos (by simp;omega)];simp [h2]
   ·rw [if_neg (by omega),List.getElem?_eq_none (by simp;omega),List.getElem?_eq_none (by omega)]
  ·by_cases h2:off+1<=j/\j<off+1+l.length/\j<cs.length
   ·rw [if_pos h2,if_pos (by simp;omega),show j - off=(j - (off+1))+1 by omega];simp
   ·rw [if_neg h2,if_neg (by simp;omega),List.getElem?_set_ne h1]
theorem RP (c vs:Array Value) (off:Nat) (h:off+vs.size<=c.size) :
  (c.toList.take off++vs.toList++c.toList.drop (off+vs.size)).toArray.size=c.size /\
  ∀j,(c.toList.take off++vs.toList++c.toList.drop (off+vs.size)).toArray.getD j undef=if off<=j/\j<off+vs.size then vs.getD (j - off) undef else c.getD j undef:=by
 refine ⟨by simp;omega,fun j=>?_⟩;simp only [Ajd,List.getElem?_toArray];have hl:(c.toList.take off).length=off:=by simp;omega
 by_cases h1:j<off
 ·rw [if_neg (by omega),Ajs,Ai9 (by omega),List.getElem?_take,if_pos h1];simp
 ·by_cases h2:j<off+vs.size
  ·rw [if_pos (by omega),Ajs,Ai8 (by omega),hl,Ai9 (by simp;omega)];simp
  ·rw [if_neg (by omega),Ai8 (by simp;omega),List.getElem?_drop];simp only [Ajg,hl,Array.length_toList,Array.getElem?_toList];rw [show off+vs.size+(j - (off+vs.size))=j by omega]
theorem aB (hE:EnvOk E) (hr:HR μ w F hp) (hs:SlotsR μ w F hp slots a.tmps) {t:TypeId} {x y:Operand} (ho:o.op=.store t x y)
  (h:(Eb E ih f rid i slots o.op).run hp=some m) (h':A4 k hp m=some hp'):D7 μ w F hp m.eff.val hp' ((execOp a.eval o).run E.P w):=by
 simp only [ho,Eb,C9] at h;have hx:=AB hs x;have hy:=AB hs y;split at h
 ·exact Ar h
 rename_i ti ht;have hT:=hE.types t ti ht;split at h
 ·rename_i r off hxe;rw [hxe] at hx;generalize hxv:a.eval x=xv at hx;cases hx with | ptr _ _ hrow =>
  obtain ⟨b,hb,h⟩:=Rd.run_get_some h;cases b with
  | tok=>exact Ar h
  | map=>exact Ar h
  | row cells ro =>
   cases ro with
   | true=>exact Ar h
   | false =>
    simp only at h;split at h
    ·rename_i hc;obtain ⟨hal,hsz,hoff,hone,_⟩:=hc;simp only [Rd.run,AiZ] at h;subst h;simp only [A4,CV,laid,hb,Ajt,AiZ] at h';subst h';obtain ⟨hc1,hc2⟩:=Qp hy hal;obtain ⟨c,e,hw,hlen,hcell,_⟩:=hr.blk _ _ hb;obtain ⟨hp1,hp2⟩:=RP c (a.eval y).cells off (by omega);have hrun:=run_storeCells_at (P:=E.P) (μ r) off e (a.eval y).cells.toList 0 c w hw (by simp;omega) (fun v hv=>by
      obtain ⟨j,hj,rfl⟩:=List.getElem_of_mem hv;simp only [Array.length_toList] at hj;have hj':j<(AG slots y).cells.length:=by omega
      have:=hc2 j _ (Ai6 hj')
      rw [Ajd,Array.getElem?_eq_getElem hj] at this;simp only [Option.getD_some] at this;simp only [Array.getElem_toList];exact AbS this (Ajl.1 hone _ (List.getElem_mem hj')))
     simp only [AjB,Array.length_toList] at hrun;obtain ⟨s1,s2⟩:=X1 hr r cells (Bh cells off (AG slots y).cells) c _ e hb hw hp1 (by rw [Dj,hp1];exact hlen) (fun j z hz=>by
      rw [hp2];rw [GX] at hz;split at hz
      ·rename_i hj;rw [if_pos (by omega)];exact hc2 _ _ hz
      ·rename_i hj;have hjl:j<cells.length:=(Ai7.1 hz).1;rw [if_neg (by omega)];exact hcell _ _ hz)
     refine ⟨undef,_,μ,F,.inr ⟨?_,rfl⟩,s1,s2,.dead _⟩;simp only [execOp,ho,hxv,Instr.storeAt,Instr.sureAddr,storeVar,Sem.run_bind,Sem.run_pure,Result.andThen_ok,Br hT];rw [if_neg (by omega)];simp only [hrun,Result.andThen_ok]
    ·exact Ar h
 ·exact Ar h
theorem R3 (hr:HR μ w F hp) (hs:SlotsR μ w F hp slots a.tmps) {x:Operand} (ho:o.op=.nilCheck x)
  (h:(Eb E ih f rid i slots o.op).run hp=some m) (h':A4 k hp m=some hp'):D7 μ w F hp m.eff.val hp' ((execOp a.eval o).run E.P w):=by
 simp only [ho,Eb,C9] at h;have hx:=AB hs x;generalize hxv:a.eval x=xv at hx;split at h
 ·rename_i r off hxe;obtain ⟨e1,rfl⟩:=Bx h h';rw [hxe] at hx;rw [e1];cases hx with | ptr _ _ hg =>exact .val hr (.ptr r off hg) (by simp [execOp,ho,hxv])
 ·rename_i cs off hxe;obtain ⟨e1,rfl⟩:=Bx h h';rw [hxe] at hx;rw [e1];cases hx with | fv _ _ hx =>
  cases hx with | fp _ _ b base vs h1 h2 h3 =>
  exact .val hr (.fv _ _ (.fp cs off b base vs h1 h2 h3)) (by simp [execOp,ho,hxv])
 ·rename_i g p q hxe;obtain ⟨e1,rfl⟩:=Bx h h';rw [hxe] at hx;rw [e1];cases hx with | func _ _ _ y z h1 h2 h3 h4 =>exact .val hr (.func _ p q y z h1 h2 h3 h4) (by simp [execOp,ho,hxv])
 ·rename_i g p q hxe;obtain ⟨e1,rfl⟩:=Bx h h';rw [hxe] at hx;rw [e1];cases hx with | fv _ _ hx =>
  cases hx with | func _ _ _ y z h1 h2 h3 h4 =>
  exact .val hr (.fv _ _ (.func _ p q y z h1 h2 h3 h4)) (by simp [execOp,ho,hxv])
 ·exact Ar h
theorem NF {P:Program} {op:BinOp} {t:TypeId} {x y:Operand} {u v:Value} (h1:u≠.nilIface) (h2:∀cs,u≠.agg cs):(eqGuard op t x y u v).run P w=.ok () w:=by cases u<;>first | exact absurd rfl h1 | exact absurd rfl (h2 _) | (cases op<;>rfl)
theorem Hg {P:Program} {s:Sem Value} {v:Value} (h:GQ s=some v):s.run P w=.ok v w:=by cases s<;>simp only [GQ,reduceCtorEq] at h;cases h;rfl
theorem Nk {v:Value} {x:IV} (h:IY v=some x):R μ w F hp x v:=by
 unfold IY at h;split at h<;>simp only [AiZ,reduceCtorEq] at h
 ·subst h;exact .fv _ _ (.bool _)
 ·subst h;exact .fv _ _ (.int _ _)
 ·subst h;exact .fv _ _ (.str _)
theorem YY {op:BinOp} {b:Bool} {v:IV} (h:PX op b=some v):(op=.eql/\v=.fv (.bool b))\/(op=.neq/\v=.fv (.bool !b)):=by
 unfold PX at h;split at h<;>simp only [AiZ,reduceCtorEq] at h
 ·exact .inl ⟨rfl,h.symm⟩
 ·exact .inr ⟨rfl,h.symm⟩
theorem Np {P:Program} {op:BinOp} {t:TypeId} {u v:Value} {b:Bool} {iv:IV} (he:PX op b=some iv) (hq:(Op.equal t u v).run P w=.ok b w)
  (hb:∀op,op=.eql->binOp op t u v=(do pure (.bool (<- Op.equal t u v)))) (hb':∀op,op=.neq->binOp op t u v=(do pure (.bool (!(<- Op.equal t u v))))) :
  ∃x,(binOp op t u v).run P w=.ok x w/\R μ w F hp iv x:=by
 rcases YY he with ⟨rfl,rfl⟩ | ⟨rfl,rfl⟩
 ·exact ⟨.bool b,by rw [hb _ rfl];simp [hq],.fv _ _ (.bool b)⟩
 ·exact ⟨.bool !b,by rw [hb' _ rfl];simp [hq],.fv _ _ (.bool _)⟩
theorem Pe {P:Program} {t:TypeId} (d:Nat) (h:P.underlying t=some .bool) (a b:Bool):(Op.equalIn (d+1) t (.bool a) (.bool b)).run P w=.ok (a == b) w:=by simp [Op.equalIn,run_underlying h]
theorem Rx {P:Program} {t e:TypeId} (d:Nat) (h:P.underlying t=some (.pointer e)) (p:Option Addr):(Op.equalIn (d+1) t (.pointer p) (.pointer none)).run P w=.ok p.isNone w:=by cases p<;>simp [Op.equalIn,run_underlying h]
theorem NH {P:Program} {t e:TypeId} (d:Nat) (h:P.underlying t=some (.slice e)) (p:Option Addr) (l c:Nat):(Op.equalIn (d+1) t (.slice p l c) (.slice none 0 0)).run P w=.ok p.isNone w:=by cases p<;>simp [Op.equalIn,run_underlying h]
theorem Qk {P:Program} {t:TypeId} {x y:Array TypeId} {v:Bool} (d:Nat) (h:P.underlying t=some (.func x y v)) (u:Value) (hu:u=.nilFunc\/∃fn p q,u=.func fn p q) :
  (Op.equalIn (d+1) t u .nilFunc).run P w=.ok (match u with | .nilFunc=>true | _=>false) w:=by
 rcases hu with rfl | ⟨fn,p,q,rfl⟩<;>simp [Op.equalIn,run_underlying h]
theorem TB {P:Program} {t:TypeId} (h:P.underlying t=some .bool) (a b:Bool):(Op.equal t (.bool a) (.bool b)).run P w=.ok (a == b) w:=Pe 9999 h a b
theorem YO {P:Program} {t e:TypeId} (h:P.underlying t=some (.pointer e)) (p:Option Addr):(Op.equal t (.pointer p) (.pointer none)).run P w=.ok p.isNone w:=Rx 9999 h p
theorem RD {P:Program} {t e:TypeId} (h:P.underlying t=some (.slice e)) (p:Option Addr) (l c:Nat):(Op.equal t (.slice p l c) (.slice none 0 0)).run P w=.ok p.isNone w:=NH 9999 h p l c
theorem Tx {P:Program} {t:TypeId} {x y:Array TypeId} {v:Bool} (h:P.underlying t=some (.func x y v)) (u:Value) (hu:u=.nilFunc\/∃fn p q,u=.func fn p q) :
  (Op.equal t u .nilFunc).run P w=.ok (match u with | .nilFunc=>true | _=>false) w:=Qk 9999 h u hu
theorem kD (hE:EnvOk E) {op:BinOp} {t:TypeId} {x y:IV} {u v:Value} {iv:IV} (hx:R μ w F hp x u) (hy:R μ w F hp y v) (h:EL E op t x y=some iv) (p q:Operand) :
  ∃z,(do eqGuard op t p q u v;binOp op t u v:Sem Value).run E.P w=.ok z w/\R μ w F hp iv z:=by
 have guard:u≠.nilIface->(∀cs,u≠.agg cs)->(∃z,(binOp op t u v).run E.P w=.ok z w/\R μ w F hp iv z)->∃z,(do eqGuard op t p q u v;binOp op t u v:Sem Value).run E.P w=.ok z w/\R μ w F hp iv z :=fun h1 h2 ⟨z,h3,h4⟩=>⟨z,by simp only [Sem.run_bind,NF h1 h2,Result.andThen_ok];exact h3,h4⟩
 unfold EL at h;split at h
 ·cases hx with | fv _ _ hx =>
  cases hy with | fv _ _ hy =>
  cases hx;cases hy;simp only [Aju] at h;obtain ⟨z,h1,h2⟩:=h;exact guard (by simp) (by simp) ⟨z,Hg h1,Nk h2⟩
 ·cases hx with | fv _ _ hx =>
  cases hy with | fv _ _ hy =>
  cases hx;cases hy;simp only [Aju] at h;obtain ⟨z,h1,h2⟩:=h;exact guard (by simp) (by simp) ⟨z,Hg h1,Nk h2⟩
 ·cases hx with | fv _ _ hx =>
  cases hy with | fv _ _ hy =>
  cases hx;cases hy;split at h
  ·rename_i ht;have hu:=g9 (hE.types _ _ ht);exact guard (by simp) (by simp) (Np h (TB hu _ _) (fun op e=>by subst e;rfl) (fun op e=>by subst e;rfl))
  ·cases h
 ·cases hy with | fv _ _ hy =>
  cases hy;split at h
  ·rename_i ht;obtain ⟨e,hu⟩:=jQ (hE.types _ _ ht);simp only [Aju] at h;obtain ⟨b,hb,h⟩:=h;have hp':∃a,u=.pointer a/\b=a.isNone:=by
    unfold gH at hb;split at hb<;>simp only [AiZ,reduceCtorEq] at hb
    ·cases hx with | fv _ _ hx=>cases hx;exact ⟨none,rfl,hb.symm⟩
    ·cases hx with | fv _ _ hx=>cases hx;exact ⟨_,rfl,hb.symm⟩
    ·cases hx;exact ⟨_,rfl,hb.symm⟩
   obtain ⟨p,rfl,rfl⟩:=hp';exact guard (by simp) (by simp) (Np h (YO hu p) (fun op e=>by subst e;rfl) (fun op e=>by subst e;rfl))
  ·cases h
 ·cases hy with | fv _ _ hy =>
  cases hy;split at h
  ·rename_i ht;obtain ⟨e1,e2,e3,hu⟩:=Zt (hE.types _ _ ht);simp only [Aju] at h;obtain ⟨b,hb,h⟩:=h;have hp':(u=.nilFunc\/∃fn p q,u=.func fn p q)/\b=(match u with | .nilFunc=>true | _=>false):=by
    unfold eA at hb;split at hb<;>simp only [AiZ,reduceCtorEq] at hb
    ·cases hx with | fv _ _ hx=>cases hx;exact ⟨.inl rfl,hb.symm⟩
    ·cases hx with | fv _ _ hx=>cases hx;exact ⟨.inr ⟨_,_,_,rfl⟩,hb.symm⟩
    ·cases hx;exact ⟨.inr ⟨_,_,_,rfl⟩,hb.symm⟩
   obtain ⟨hu2,rfl⟩:=hp';have hq:=Tx (w:=w) hu u hu2;rcases hu2 with rfl | ⟨fn,p',q',rfl⟩
   ·exact guard (by simp) (by simp) (Np h hq (fun op e=>by subst e;rfl) (fun op e=>by subst e;rfl))
   ·exact guard (by simp) (by simp) (Np h hq (fun op e=>by subst e;rfl) (fun op e=>by subst e;rfl))
  ·cases h
 ·cases hy;split at h
  ·rename_i ht;have hu:=C0 (hE.types _ _ ht);simp only [Aju] at h;obtain ⟨b,hb,h⟩:=h;have hp':∃a l c,u=.slice a l c/\b=a.isNone:=by
    unfold TE at hb;split at hb<;>simp only [AiZ,reduceCtorEq] at hb
    ·cases hx;exact ⟨_,_,_,rfl,hb.symm⟩
    ·cases hx;exact ⟨_,_,_,rfl,hb.symm⟩
    ·cases hx;exact ⟨_,_,_,rfl,hb.symm⟩
    ·cases hx;exact ⟨_,_,_,rfl,hb.symm⟩
    ·cases hx with | app _ _ _ hx=>cases hx;exact ⟨_,_,_,rfl,hb.symm⟩
    ·cases hx with | fv _ _ hx=>cases hx;exact ⟨_,_,_,rfl,hb.symm⟩
   obtain ⟨p,l,c,rfl,rfl⟩:=hp';exact guard (by simp) (by simp) (Np h (RD hu p l c) (fun op e=>by subst e;rfl) (fun op e=>by subst e;rfl))
  ·cases h
 ·cases h
end
section
variable {E:Env} {μ:Ref->Nat} {w:World} {F:B3} {hp hp':Hp} {slots:List IV} {a:Act} {ih:Ah} {f:FuncId} {rid i k:Nat} {m:Made} {o:Oper}
theorem ZM (hE:EnvOk E) (hr:HR μ w F hp) (hs:SlotsR μ w F hp slots a.tmps) {op:BinOp} {t u:TypeId} {x y:Operand} (ho:o.op=.binOp op t x y u)
  (h:(Eb E ih f rid i slots o.op).run hp=some m) (h':A4 k hp m=some hp'):D7 μ w F hp m.eff.val hp' ((execOp a.eval o).run E.P w):=by
 simp only [ho,Eb,C9] at h;obtain ⟨e1,rfl⟩:=B2 h h';obtain ⟨z,h1,h2⟩:=kD hE (AB hs x) (AB hs y) e1 x y;refine .val hr h2 ?_;simp only [execOp,ho,Sem.run_bind] at h1 ⊢;rw [h1];rfl
theorem fD {x:IV} {u v:Value} (h:R μ w F hp x u) (e:S9 x=some v):u=v:=by
 unfold S9 at e;split at e<;>simp only [AiZ,reduceCtorEq] at e
 all_goals (cases h with | fv _ _ h=>cases h;exact e)
theorem oE (hr:HR μ w F hp) (hs:SlotsR μ w F hp slots a.tmps) {op:UnOp} {t:TypeId} {x:Operand} (ho:o.op=.unOp op t x)
  (h:(Eb E ih f rid i slots o.op).run hp=some m) (h':A4 k hp m=some hp'):D7 μ w F hp m.eff.val hp' ((execOp a.eval o).run E.P w):=by
 simp only [ho,Eb,C9] at h;obtain ⟨e1,rfl⟩:=B2 h h';simp only [KE,Aju] at e1;obtain ⟨v,h1,z,h2,h3⟩:=e1;have hx:=fD (AB hs x) h1;refine .val hr (Nk h3) ?_;simp only [execOp,ho,Sem.run_bind,hx,Hg h2];rfl
theorem Gb {es:List FV} {x:Value} (h:RF w F (.sl es) x) :
  (es=[]/\∃a cap,x=.slice a 0 cap/\(a=none->cap=0))\/(es≠[]/\∃b base sz cap,∃vs:Nat->Nat->Value,x=.slice (some ⟨b,base,none⟩) es.length cap/\es.length<=cap/\(∀e∈es,e.cells.length=sz) /\
   (∀i j,i<es.length->j<sz->F b (base+(i * sz+j)))/\(∀i j,i<es.length->j<sz->w.cell? ⟨b,base+(i * sz+j),none⟩=some (vs i j)) /\
   (∀i j e c,es[i]?=some e->e.cells[j]?=some c->RF w F c (vs i j))):=by
 cases h with
 | sl0 a cap h=>exact .inl ⟨rfl,a,cap,rfl,h⟩
 | sl es b base sz cap vs h1 h2 h3 h4 h5 h6=>exact .inr ⟨h1,b,base,sz,cap,vs,rfl,h2,h3,h4,h5,h6⟩
theorem HY {x:IV} {u:Value} {es:List FV} (h:R μ w F hp x u) (e:Cm x=some es):RF w F (.sl es) u:=by
 unfold Cm at e;split at e<;>simp only [AiZ,reduceCtorEq] at e<;>subst e
 ·cases h;exact .sl0 _ _ (fun _=>rfl)
 ·cases h;exact .sl0 _ _ (fun h=>by cases h)
 ·cases h with
  | clip _ _ h=>exact h
  | clip0=>exact .sl0 _ _ (fun _=>rfl)
 ·cases h with | app _ _ _ h=>exact h
 ·cases h with | fv _ _ h=>exact h
theorem Oo {s sz:Nat} {es:List FV} (h:BI s es=true) (hne:es≠[]) (hu:∀e∈es,e.cells.length=sz):sz=s:=by
 cases es with
 | nil=>exact absurd rfl hne
 | cons e l =>have h1:=hu e Aji;simp only [BI,beq_iff_eq] at h;omega
theorem JV:∀{es:List FV} {s0 s:ByteArray},HO es s0=some s->∃ns:List Int,es=ns.map (FV.int .u8)/\s=ns.foldl (fun r n=>r.push (UInt8.ofNat n.toNat)) s0
 | [],_,_,h=>by simp only [HO,AiZ] at h;exact ⟨[],rfl,h.symm⟩
 | e::es,s0,s,h=>by
  cases e with
  | int k n =>
   cases k with
   | u8 =>obtain ⟨ns,h1,h2⟩:=JV (es:=es) h;exact ⟨n::ns,by rw [h1];rfl,h2⟩
   | _=>simp [HO] at h
  | _=>simp [HO] at h
theorem Ti (hE:EnvOk E) (hr:HR μ w F hp) (hs:SlotsR μ w F hp slots a.tmps) {s d:TypeId} {x:Operand} (ho:o.op=.convert s d x)
  (h:(Eb E ih f rid i slots o.op).run hp=some m) (h':A4 k hp m=some hp'):D7 μ w F hp m.eff.val hp' ((execOp a.eval o).run E.P w):=by
 simp only [ho,Eb,C9] at h;obtain ⟨e1,rfl⟩:=B2 h h';have hx:=AB hs x;generalize hxv:a.eval x=xv at hx;unfold Jl at e1;split at e1
 ·rename_i ts _ _ kd _ _ kk n hts htd hxe;simp only [AiZ] at e1;rw [hxe] at hx;cases hx with | fv _ _ hx =>cases hx;obtain ⟨ds,hds,_⟩:=(hE.types _ _ hts).desc;have hdd:=LH (hE.types _ _ htd);rw [<- e1];refine .val hr (.fv _ _ (.int _ _)) ?_;simp [execOp,ho,hxv,convert,run_underlying hds,run_underlying hdd,Conv.intToInt]
 ·rename_i ts _ _ _ st hts htd hxe;simp only [AiZ] at e1;rw [hxe] at hx;cases hx with | fv _ _ hx =>cases hx;obtain ⟨ds,hds,_⟩:=(hE.types _ _ hts).desc;have hdd:=Jz (hE.types _ _ htd);rw [<- e1];refine .val hr (.fv _ _ (.str _)) ?_;simp [execOp,ho,hxv,convert,run_underlying hds,run_underlying hdd]
 ·rename_i e _ _ _ _ hts htd _;split at e1
  ·rename_i es hte hes;simp only [Ai1] at e1;obtain ⟨st,h1,h2⟩:=e1;have hsl:=HY hx hes;have hus:=C0 (hE.types _ _ hts);have hud:=Jz (hE.types _ _ htd);have hue:=LH (hE.types _ _ hte);obtain ⟨ns,rfl,rfl⟩:=JV h1;rw [<- h2];refine .val hr (.fv _ _ (.str _)) ?_;rcases Gb hsl with ⟨hn,p,cap,rfl,_⟩ | ⟨hne,b,base,sz,cap,vs,rfl,_,hu,_,hc,hrf⟩
   ·have:ns=[]:=by simpa using hn
    subst this;simp only [execOp,ho,hxv,Sem.run_bind];rw [run_convert_bytes_string w s d e p 0 cap hus hue hud];cases p with
    | none=>simp [Conv.bytesToString]
    | some p=>rw [run_bytesToString w p 0 cap [] (by simp [loadCells,loadCellsFrom])];rfl
   ·have hsz:sz=1:=by
     cases ns with
     | nil=>exact absurd rfl hne
     | cons n ns=>exact (hu (.int .u8 n) (by simp)).symm
    subst hsz;simp only [execOp,ho,hxv,Sem.run_bind];rw [run_convert_bytes_string w s d e _ _ cap hus hue hud];rw [run_bytesToString w ⟨b,base,none⟩ _ cap ns (by
     have hl:=run_loadCells_list (P:=E.P) w ⟨b,base,none⟩ (ns.map (Value.int .u8)) (fun j v hv=>by
      simp only [Ajv,Ai1] at hv;obtain ⟨n,hn,rfl⟩:=hv;have hj:j<ns.length:=(Ai7.1 hn).1;have h1:=hc j 0 (by simpa using hj) (by omega);have h2:=hrf j 0 (.int .u8 n) (.int .u8 n) (by simp [hn]) rfl;have h3:vs j 0=.int .u8 n:=by generalize vs j 0=z at h2;cases h2;rfl
      rw [Addr.add_lit,show base+j=base+(j * 1+0) by omega,h1,h3])
     simpa using hl)]
    rfl
  ·cases e1
 ·cases e1
theorem IQ (hs:SlotsR μ w F hp slots a.tmps) (xs:Array Operand):∀j y,(xs.toList.map (AG slots))[j]?=some y->R μ w F hp y ((xs.map a.eval).getD j undef):=by intro j y hy;simp only [Ajv,Ai1,Array.getElem?_toList] at hy;obtain ⟨c,hc,rfl⟩:=hy;rw [Ajd,Array.getElem?_map,hc];exact AB hs c
theorem RG (hr:HR μ w F hp) (hs:SlotsR μ w F hp slots a.tmps) {fn:Fn} {x y:Array Operand} (ho:o.op=.makeFunc fn x y)
  (h:(Eb E ih f rid i slots o.op).run hp=some m) (h':A4 k hp m=some hp'):D7 μ w F hp m.eff.val hp' ((execOp a.eval o).run E.P w):=by
 simp only [ho,Eb,C9] at h;obtain ⟨e1,rfl⟩:=Bx h h';rw [e1];refine .val hr (dD (a:=x.map a.eval) (b:=y.map a.eval) (by simp) (by simp) (IQ hs x) (IQ hs y)) ?_;simp [execOp,ho,Instr.makeFunc]
theorem TQ (hr:HR μ w F hp) {t:TypeId} (ho:o.op=.makeMap t none)
  (h:(Eb E ih f rid i slots o.op).run hp=some m) (h':A4 (Bt f rid i) hp m=some hp'):D7 μ w F hp m.eff.val hp' ((execOp a.eval o).run E.P w):=by
 simp only [ho,Eb,C9,Rd.run,AiZ] at h;subst h;simp only [A4,CV,laid,Ajt] at h';split at h'
 ·cases h'
 rename_i hk;simp only [AiZ] at h';subst h';obtain ⟨h1,h2⟩:=NK hr (Bt f rid i) hk (.map #[] 0) (.map []) (fun _ _ _ h=>by cases h) (fun _=>False);refine ⟨.map (some w.heap.size),_,_,_,.inl ?_,h1,h2 ⟨#[],0,?_,rfl,fun j n x hx=>by simp at hx⟩,?_⟩
 ·simp [execOp,ho,Instr.makeMap]
 ·rw [Cg,DA,if_pos rfl]
 ·have:=R.mapr (μ:=MV μ (.own (Bt f rid i)) w.heap.size) (w:=w.alloc (.map #[] 0)) (F:=fun c i=>F c i\/(c=w.heap.size/\False)) (hp:=hp.set (.own (Bt f rid i)) (.map [])) (.own (Bt f rid i)) ⟨_,Cd _ _ _⟩
  rw [Cg] at this;exact this
theorem L6 (hE:EnvOk E) {s:TypeId} {n off:Nat} {ti:TI} (h:HN E s n=some (off,ti)) :
  ∃fs fd,E.P.underlying s=some (.struct fs)/\fs[n]?=some fd/\fd.offset=off/\TIok E.P fd.type ti:=by
 unfold HN at h;split at h
 ·rename_i fl _ hts;simp only [Aju,Ai1] at h;obtain ⟨⟨o1,t1⟩,h1,ti',h2,h3⟩:=h;cases h3;obtain ⟨fs,h4,h5⟩:=MI (hE.types _ _ hts);rw [<- h5] at h1;simp only [Ajv,Ai1,Array.getElem?_toList] at h1;obtain ⟨fd,h6,h7⟩:=h1;cases h7;exact ⟨fs,fd,h4,h6,rfl,hE.types _ _ h2⟩
 ·cases h
theorem QJ (hE:EnvOk E) (hr:HR μ w F hp) (hs:SlotsR μ w F hp slots a.tmps) {s:TypeId} {x:Operand} {n:Nat} (ho:o.op=.fieldAddr s x n)
  (h:(Eb E ih f rid i slots o.op).run hp=some m) (h':A4 k hp m=some hp'):D7 μ w F hp m.eff.val hp' ((execOp a.eval o).run E.P w):=by
 simp only [ho,Eb,C9] at h;have hx:=AB hs x;generalize hxv:a.eval x=xv at hx;split at h
 ·rename_i off ti hf;obtain ⟨fs,fd,h1,h2,h3,h4⟩:=L6 hE hf;split at h
  ·exact Ar h
  rename_i hsz;split at h
  ·rename_i r p hxe;obtain ⟨e1,rfl⟩:=Bx h h';rw [hxe] at hx;rw [e1];cases hx with | ptr _ _ hg =>refine .val hr (.ptr r (p+off) hg) ?_;simp [execOp,ho,hxv,Instr.fieldAt,run_underlying h1,h2,Instr.sureAddr,fieldPlace,Br h4,hsz,Addr.add_lit,h3]
  ·rename_i cs p hxe;obtain ⟨e1,rfl⟩:=Bx h h';rw [hxe] at hx;rw [e1];cases hx with | fv _ _ hx =>
   cases hx with | fp _ _ b base vs h5 h6 h7 =>
   refine .val hr (.fv _ _ (.fp cs (p+off) b base vs h5 h6 h7)) ?_;simp [execOp,ho,hxv,Instr.fieldAt,run_underlying h1,h2,Instr.sureAddr,fieldPlace,Br h4,hsz,Addr.add_lit,h3,Nat.add_assoc]
  ·exact Ar h
 ·exact Ar h
theorem MM {P:Program} {t:TypeId} {ti:TI} (h:TIok P t ti) (cs:Array Value) (off:Nat) (hl:off+ti.size<=cs.size) :
  (part t cs off).run P w=.ok (if ti.kind.isAgg then .agg ((List.range ti.size).map fun j=>cs.getD (off+j) undef).toArray else cs.getD off undef) w:=by
 simp only [part,Sem.run_bind,MA h,Result.andThen_ok];cases ha:ti.kind.isAgg with
 | true =>
  simp only [if_true,Sem.run_bind,Br h,Result.andThen_ok,Sem.run_pure];congr 2;apply Array.ext
  ·simp;omega
  ·intro j h1 h2;simp only [List.size_toArray,Ajw,List.length_range] at h2;simp [show off+j<cs.size by omega]
 | false =>
  have:=D0 h ha
  simp [show off<cs.size by omega]
theorem cF (hE:EnvOk E) (hr:HR μ w F hp) (hs:SlotsR μ w F hp slots a.tmps) {s:TypeId} {x:Operand} {n:Nat} (ho:o.op=.field s x n)
  (h:(Eb E ih f rid i slots o.op).run hp=some m) (h':A4 k hp m=some hp'):D7 μ w F hp m.eff.val hp' ((execOp a.eval o).run E.P w):=by
 simp only [ho,Eb,C9] at h;have hx:=AB hs x;generalize hxv:a.eval x=xv at hx;split at h
 ·rename_i off ti hf;obtain ⟨fs,fd,h1,h2,h3,h4⟩:=L6 hE hf;split at h
  ·rename_i cs hxe;obtain ⟨e1,rfl⟩:=B2 h h';rw [hxe] at hx;cases hx with | agg _ y hl hy =>have hlt:=IR e1 (D0 h4);refine .val hr (K0 e1 (f:=fun j=>y.getD j undef) hy) ?_;simp only [execOp,ho,hxv,Instr.field,run_underlying h1,h2,asAgg,Sem.run_bind,Result.andThen_ok,Sem.run_pure,h3];rw [MM h4 y off (by omega)];rfl
  ·rename_i cs hxe;obtain ⟨e1,rfl⟩:=B2 h h';simp only [Ai1] at e1;obtain ⟨v,e1,e2⟩:=e1;rw [hxe] at hx;rw [<- e2];cases hx with | fv _ _ hx =>
   cases hx with | agg _ y hl hy =>
   have hlt:=F7 e1 (D0 h4);refine .val hr (.fv _ _ (GL e1 (f:=fun j=>y.getD j undef) hy)) ?_;simp only [execOp,ho,hxv,Instr.field,run_underlying h1,h2,asAgg,Sem.run_bind,Result.andThen_ok,Sem.run_pure,h3];rw [MM h4 y off (by omega)];rfl
  ·exact Ar h
 ·exact Ar h
theorem QP (hE:EnvOk E) (hr:HR μ w F hp) (hs:SlotsR μ w F hp slots a.tmps) {t:TypeId} {x y:Operand} (ho:o.op=.indexAddr t x y)
  (h:(Eb E ih f rid i slots o.op).run hp=some m) (h':A4 k hp m=some hp'):D7 μ w F hp m.eff.val hp' ((execOp a.eval o).run E.P w):=by
 simp only [ho,Eb,C9] at h;have hx:=AB hs x;have hy:=AB hs y;generalize hxv:a.eval x=xv at hx;generalize hyv:a.eval y=yv at hy;unfold Kx at h;split at h
 ·rename_i e _ kk n htt hye;have hut:=C0 (hE.types _ _ htt);rw [hye] at hy;cases hy with | fv _ _ hy =>
  cases hy;split at h
  ·exact Ar h
  rename_i ei hte;have hTe:=hE.types _ _ hte;split at h
  ·rename_i r sz len hxe;split at h
   ·rename_i hc;obtain ⟨h0,h1,h2⟩:=hc;obtain ⟨e1,rfl⟩:=Bx h h';rw [hxe] at hx;rw [e1];cases hx with | slc _ _ _ cap hg hle =>refine .val hr (.ptr r _ hg) ?_;simp [execOp,ho,hxv,hyv,Instr.indexAt,asIntOf,run_underlying hut,h0,h1,Br hTe,Addr.add_lit,h2]
   ·exact Ar h
  ·split at h
   ·exact Ar h
   rename_i es hes;split at h
   ·exact Ar h
   rename_i h0;split at h
   ·rename_i el hel;split at h
    ·rename_i hcl;obtain ⟨e1,rfl⟩:=Bx h h';rw [e1];have hlt:n.toNat<es.length:=(Ai7.1 hel).1;rcases Gb (HY hx hes) with ⟨rfl,_⟩ | ⟨hne,b,base,sz,cap,vs,rfl,hcap,hu,hF,hc,hrf⟩
     ·simp at hlt
     have hsz:sz=ei.size:=by rw [<- hu el (Aje hel)];exact hcl
     subst hsz;have hR:=RF.fp (w:=w) (F:=F) el.cells 0 b (base+n.toNat * ei.size) (fun j=>vs n.toNat j)
      (fun j hj=>by rw [Nat.add_assoc];exact hF _ _ hlt (by omega)) (fun j hj=>by rw [Nat.add_assoc];exact hc _ _ hlt (by omega)) (fun j c hcj=>hrf _ _ _ _ hel hcj)
     refine .val hr (.fv _ _ hR) ?_;have h0':0<=n:=by omega
     have h1':n<(es.length:Int):=by omega
     simp [execOp,ho,hxv,hyv,Instr.indexAt,asIntOf,run_underlying hut,h0',h1',Br hTe,Addr.add_lit]
    ·exact Ar h
   ·exact Ar h
 ·rename_i len e _ kk n htt hye;have hut:=O7 (hE.types _ _ htt);rw [hye] at hy;cases hy with | fv _ _ hy =>
  cases hy;split at h
  ·exact Ar h
  rename_i ei hte;have hTe:=hE.types _ _ hte;split at h
  ·rename_i hc;obtain ⟨h0,h1⟩:=hc;split at h
   ·rename_i r p hxe;obtain ⟨e1,rfl⟩:=Bx h h';rw [hxe] at hx;rw [e1];cases hx with | ptr _ _ hg =>refine .val hr (.ptr r _ hg) ?_;simp [execOp,ho,hxv,hyv,Instr.indexAt,asIntOf,run_underlying hut,h0,h1,Instr.sureAddr,Br hTe,Addr.add_lit]
   ·rename_i cs p hxe;obtain ⟨e1,rfl⟩:=Bx h h';rw [hxe] at hx;rw [e1];cases hx with | fv _ _ hx =>
    cases hx with | fp _ _ b base vs h5 h6 h7 =>
    refine .val hr (.fv _ _ (.fp cs _ b base vs h5 h6 h7)) ?_;simp [execOp,ho,hxv,hyv,Instr.indexAt,asIntOf,run_underlying hut,h0,h1,Instr.sureAddr,Br hTe,Addr.add_lit,Nat.add_assoc]
   ·exact Ar h
  ·exact Ar h
 ·exact Ar h
theorem eT (hE:EnvOk E) (hr:HR μ w F hp) (hs:SlotsR μ w F hp slots a.tmps) {t:TypeId} {x y:Operand} (ho:o.op=.index t x y)
  (h:(Eb E ih f rid i slots o.op).run hp=some m) (h':A4 k hp m=some hp'):D7 μ w F hp m.eff.val hp' ((execOp a.eval o).run E.P w):=by
 simp only [ho,Eb,C9] at h;have hx:=AB hs x;have hy:=AB hs y;generalize hxv:a.eval x=xv at hx;generalize hyv:a.eval y=yv at hy;split at h
 ·rename_i s kk n htt hxe hye;have hut:=Jz (hE.types _ _ htt);rw [hye] at hy;rw [hxe] at hx;cases hy with | fv _ _ hy =>
  cases hy;cases hx with | fv _ _ hx =>
  cases hx;split at h
  ·exact Ar h
  rename_i h0;split at h
  ·rename_i b hb;obtain ⟨e1,rfl⟩:=Bx h h';rw [e1];refine .val hr (.fv _ _ (.int _ _)) ?_;have h0':0<=n:=by omega
   simp [execOp,ho,hxv,hyv,Instr.index,asIntOf,run_underlying hut,h0',hb]
  ·exact Ar h
 ·rename_i len e _ cs kk n htt hxe hye;have hut:=O7 (hE.types _ _ htt);rw [hye] at hy;rw [hxe] at hx;cases hy with | fv _ _ hy =>
  cases hy;cases hx with | fv _ _ hx =>
  cases hx with | agg _ z hl hz =>
  split at h
  ·rename_i ei hte;have hTe:=hE.types _ _ hte;split at h
   ·rename_i hc;obtain ⟨h0,h1⟩:=hc;obtain ⟨e1,rfl⟩:=B2 h h';simp only [Ai1] at e1;obtain ⟨v,e1,e2⟩:=e1;rw [<- e2];have hlt:=F7 e1 (D0 hTe);refine .val hr (.fv _ _ (GL e1 (f:=fun j=>z.getD j undef) hz)) ?_;simp only [execOp,ho,hxv,hyv,Instr.index,asIntOf,run_underlying hut,Sem.run_bind,Sem.run_pure,Result.andThen_ok,h0,h1,and_self,if_true,Br hTe];rw [MM hTe z _ (by omega)];rfl
   ·exact Ar h
  ·exact Ar h
 ·exact Ar h
theorem Um (hr:HR μ w F hp) (hs:SlotsR μ w F hp slots a.tmps) {x:Operand} {n:Nat} (ho:o.op=.extract x n)
  (h:(Eb E ih f rid i slots o.op).run hp=some m) (h':A4 k hp m=some hp'):D7 μ w F hp m.eff.val hp' ((execOp a.eval o).run E.P w):=by
 simp only [ho,Eb,C9] at h;have hx:=AB hs x;generalize hxv:a.eval x=xv at hx;split at h
 ·rename_i vs hxe;obtain ⟨e1,rfl⟩:=B2 h h';rw [hxe] at hx;cases hx with | tuple _ y hl hy =>have hlt:n<vs.length:=(Ai7.1 e1).1;refine .val hr (hy n _ e1) ?_;simp [execOp,ho,hxv,Instr.extract,show n<y.size by omega]
 ·rename_i vs hxe;obtain ⟨e1,rfl⟩:=B2 h h';simp only [Ai1] at e1;obtain ⟨v,e1,e2⟩:=e1;rw [hxe] at hx;rw [<- e2];cases hx with | fv _ _ hx =>
  cases hx with | tuple _ y hl hy =>
  have hlt:n<vs.length:=(Ai7.1 e1).1;refine .val hr (.fv _ _ (hy n _ e1)) ?_;simp [execOp,ho,hxv,Instr.extract,show n<y.size by omega]
 ·exact Ar h
end
section
variable {E:Env} {μ:Ref->Nat} {w:World} {F:B3} {hp hp':Hp} {slots:List IV} {a:Act} {ih:Ah} {f:FuncId} {rid i k:Nat} {m:Made} {o:Oper}
def uP (μ:Ref->Nat) (w:World) (F:B3) (hp:Hp) (cells:List IV) (arr:Array Value):Prop :=cells.length=arr.size/\∀j x,cells[j]?=some x->R μ w F hp x (arr.getD j undef)
theorem OO (off:Nat):∀(l:List Value) (n:Nat) (arr:Array Value),off+n+l.length<=arr.size ->
  ((l.zipIdx n).foldl (fun cs (p:Value×Nat)=>cs.setIfInBounds (off+p.2) p.1) arr).size=arr.size /\
  ∀j,((l.zipIdx n).foldl (fun cs (p:Value×Nat)=>cs.setIfInBounds (off+p.2) p.1) arr).getD j undef=if off+n<=j/\j<off+n+l.length then l.getD (j - (off+n)) undef else arr.getD j undef
 | [],n,arr,_=>⟨rfl,fun j=>by rw [if_neg (by simp)];rfl⟩
 | v::l,n,arr,h=>by
  simp only [Ai3] at h;simp only [List.zipIdx_cons,List.foldl_cons];obtain ⟨h1,h2⟩:=OO off l (n+1) (arr.setIfInBounds (off+n) v) (by simp;omega);refine ⟨by rw [h1];simp,fun j=>?_⟩;rw [h2];by_cases c1:off+(n+1)<=j/\j<off+(n+1)+l.length
  ·rw [if_pos c1,if_pos (by simp;omega),show j - (off+n)=(j - (off+(n+1)))+1 by omega];simp
  ·rw [if_neg c1];by_cases c2:j=off+n
   ·subst c2;rw [if_pos (by simp),Ajd,Array.getElem?_setIfInBounds];simp [show off+n<arr.size by omega]
   ·rw [if_neg (by simp;omega),Ajd,Array.getElem?_setIfInBounds,if_neg (fun e=>c2 e.symm),<- Ajd]
theorem Pa (pI pC:Nat->Option (Nat×Nat)) (hpl:∀n q,pI n=some q->pC n=some q) (hs:SlotsR μ w F hp slots a.tmps):∀(ps:List (Nat×Operand)) (cells cells':List IV) (arr:Array Value),
  CU pI cells (ps.map fun p=>(p.1,AG slots p.2))=some cells'->uP μ w F hp cells arr ->
  ∃arr',Instr.fill pC arr (ps.map fun p=>(p.1,a.eval p.2))=some arr'/\uP μ w F hp cells' arr'
 | [],cells,cells',arr,h,hl=>by
  simp only [Ai4,CU,AiZ] at h;subst h;exact ⟨arr,rfl,hl⟩
 | (n,x)::ps,cells,cells',arr,h,hl=>by
  simp only [Ai5,CU] at h;split at h
  ·cases h
  rename_i off size hq;split at h
  ·rename_i hc;obtain ⟨hal,hsz,hle⟩:=hc;obtain ⟨hc1,hc2⟩:=Qp (AB hs x) hal;obtain ⟨g1,g2⟩:=OO off (a.eval x).cells.toList 0 arr (by rw [<- hl.1];simp;omega);have hnew:uP μ w F hp (Bh cells off (AG slots x).cells) (((a.eval x).cells.toList.zipIdx 0).foldl (fun cs (p:Value×Nat)=>cs.setIfInBounds (off+p.2) p.1) arr):=by
    refine ⟨by rw [Dj,g1];exact hl.1,fun j y hy=>?_⟩;rw [g2];rw [GX] at hy;have hla:=hl.1;split at hy
    ·rename_i hj;rw [if_pos (by simp;omega)]
     have:=hc2 _ _ hy
     simpa [Ajd] using this
    ·rename_i hj;have hjl:j<cells.length:=(Ai7.1 hy).1;rw [if_neg (by simp;omega)];exact hl.2 _ _ hy
   obtain ⟨arr',r1,r2⟩:=Pa pI pC hpl hs ps _ _ _ h hnew;refine ⟨arr',?_,r2⟩;simp only [Ai5,Instr.fill,hpl _ _ hq];rw [if_neg (by simp;rw [<- hl.1];omega),<- r1];congr 1;rw [<- Array.foldl_toList,Array.toList_zipIdx]
  ·cases h
theorem Gy {t:TypeId} {ti:TI} {P:Program} (h:TIok P t ti):∃i z,P.info? t=some i/\i.zero=some z/\uP μ w F hp ti.zero z.cells/\ti.zero.length=ti.size/\i.size=ti.size:=by obtain ⟨i,z,h1,h2,_,h3,h4,h5,_⟩:=h.info;refine ⟨i,z,h1,h3,⟨by rw [<- h4];simp,fun j x hx=>?_⟩,by rw [<- h4];simp [h5],h2⟩;rw [<- h4] at hx;simp only [Ajv,Ai1,Array.getElem?_toList] at hx;obtain ⟨c,hc,rfl⟩:=hx;rw [Ajd,hc];exact Ji c
theorem Oz (parts:Array (Nat×Operand)):(parts.map fun (j,x)=>(j,a.eval x)).toList=parts.toList.map fun p=>(p.1,a.eval p.2):=by simp
theorem Rr {α β:Type} {f:α->Option β} {g:α->β}:∀(l:List α),(∀x∈l,f x=some (g x))->l.mapM f=some (l.map g)
 | [],_=>rfl
 | x::l,h=>by
  rw [List.mapM_cons,h x Aji,Rr l fun y hy=>h y (Ajj _ hy)];rfl
theorem aY (hE:EnvOk E) (hr:HR μ w F hp) (hs:SlotsR μ w F hp slots a.tmps) {t:TypeId} {parts:Array (Nat×Operand)} (ho:o.op=.build t parts)
  (h:(Eb E ih f rid i slots o.op).run hp=some m) (h':A4 k hp m=some hp'):D7 μ w F hp m.eff.val hp' ((execOp a.eval o).run E.P w):=by
 simp only [ho,Eb,C9] at h;have fin:∀{arr:Array Value} {cells:List IV},E.P.built t (parts.map fun (j,x)=>(j,a.eval x)).toList=some arr->uP μ w F hp cells arr->some (Fp cells)=some m.eff.val->hp'=hp ->
   D7 μ w F hp m.eff.val hp' ((execOp a.eval o).run E.P w):=by
  intro arr cells hb hl e1 e2;subst e2;rw [<- Ajn e1];refine .val hr (Lz hl.1 hl.2) ?_
  have:=run_build w t _ arr hb
  simp only [execOp,ho,Sem.run_bind,this,Result.andThen_ok,Sem.run_pure]
 split at h
 ·rename_i fs z htt;have hT:=hE.types _ _ htt;obtain ⟨e1,e2⟩:=B2 h h';simp only [Ai1] at e1;obtain ⟨cells,e1,e3⟩:=e1;obtain ⟨flds,hu,hfl⟩:=MI hT;obtain ⟨it,zv,hi,hz,hlz,_⟩:=Gy (μ:=μ) (w:=w) (F:=F) (hp:=hp) hT;have hplaces:flds.toList.mapM (fun f=>(E.P.info? f.type).map fun i=>(f.offset,i.size))=some (flds.toList.map fun f=>(f.offset,((E.P.info? f.type).map (·.size)).getD 0)):=by
   refine Rr _ fun fd hfd=>?_;obtain ⟨i,hi⟩:=hT.fields fs rfl (fd.offset,fd.type) (by rw [<- hfl];exact List.mem_map.2 ⟨fd,hfd,rfl⟩);simp only at hi;simp [hi]
  obtain ⟨arr,r1,r2⟩:=Pa (EJ E fs) ((flds.toList.map fun f=>(f.offset,((E.P.info? f.type).map (·.size)).getD 0)).toArray[·]?) (fun n q hq=>by
   simp only [EJ,Aju,Ai1] at hq;obtain ⟨⟨o1,t1⟩,h1,ti,h2,rfl⟩:=hq;rw [<- hfl] at h1;simp only [Ajv,Ai1,Array.getElem?_toList] at h1;obtain ⟨fd,h3,h4⟩:=h1;cases h4;obtain ⟨i,z,g1,g2,_⟩:=(hE.types _ _ h2).info;simp [h3,g1,g2]) hs parts.toList z cells zv.cells e1 hlz
  refine fin (arr:=arr) ?_ r2 (by rw [e3]) e2;unfold Program.built;simp only [hi,hu,hz,hplaces,Oz];exact r1
 ·rename_i n e z htt;have hT:=hE.types _ _ htt;split at h
  ·rename_i ei hte;obtain ⟨e1,e2⟩:=B2 h h';simp only [Ai1] at e1;obtain ⟨cells,e1,e3⟩:=e1;have hu:=O7 hT;obtain ⟨it,zv,hi,hz,hlz,_⟩:=Gy (μ:=μ) (w:=w) (F:=F) (hp:=hp) hT;obtain ⟨ie,_,hie,hsz,_⟩:=(hE.types _ _ hte).info;obtain ⟨arr,r1,r2⟩:=Pa (fun j=>some (j * ei.size,ei.size)) (fun i=>some (i * ie.size,ie.size)) (fun n q hq=>by rw [hsz];exact hq) hs parts.toList z cells zv.cells e1 hlz;refine fin (arr:=arr) ?_ r2 (by rw [e3]) e2;unfold Program.built;simp only [hi,hu,hz,hie,Oz];exact r1
  ·exact Ar h
 ·exact Ar h
theorem M7 (n:Nat) (z:List IV):(NB n z).length=n * z.length:=by
 induction n with
 | zero=>simp [NB]
 | succ n ih=>simp [NB,ih,Nat.add_mul,Nat.add_comm]
theorem Xx (z:List IV) (hz:0<z.length):∀(n j:Nat),(NB n z)[j]?=if j<n * z.length then z[j % z.length]? else none
 | 0,j=>by simp [NB]
 | n+1,j=>by
  rw [NB];by_cases h:j<z.length
  ·rw [Ai9 h,Nat.mod_eq_of_lt h,if_pos (by rw [Nat.add_mul];omega)]
  ·rw [Ai8 (by omega),Xx z hz n]
   have:j % z.length=(j - z.length) % z.length:=by rw [Nat.mod_eq_sub_mod (by omega)]
   rw [this];by_cases c:j - z.length<n * z.length
   ·rw [if_pos c,if_pos (by rw [Nat.add_mul];omega)]
   ·rw [if_neg c,if_neg (by rw [Nat.add_mul];omega)]
theorem VX {z:List IV} {zc:Array Value} (h:uP μ w F hp z zc) (hz:0<z.length) (n:Nat):uP μ w F hp (NB n z) (madeCells zc (n * zc.size)):=by
 refine ⟨by rw [M7,size_madeCells,h.1],fun j x hx=>?_⟩;rw [Xx z hz] at hx;split at hx
 ·rename_i hj
  have:=h.2 _ _ hx
  rw [h.1] at hj;have hpos:0<zc.size:=by rw [<- h.1];exact hz
  have hm:j % zc.size<zc.size:=Nat.mod_lt _ hpos;rw [h.1] at this;rw [Ajd] at this ⊢;simp only [madeCells,Array.getElem?_map];rw [Array.getElem?_range,if_pos hj];simp only [Ai2,Option.getD_some];rw [getElem!_pos zc _ hm];simpa [hm] using this
 ·cases hx
theorem Nv (hE:EnvOk E) (hr:HR μ w F hp) (hs:SlotsR μ w F hp slots a.tmps) {t:TypeId} {len:Nat} {parts:Array (Nat×Operand)} (ho:o.op=.buildSlice t len parts)
  (h:(Eb E ih f rid i slots o.op).run hp=some m) (h':A4 k hp m=some hp'):D7 μ w F hp m.eff.val hp' ((execOp a.eval o).run E.P w):=by
 simp only [ho,Eb,C9] at h;split at h
 ·rename_i e _ htt;have hut:=C0 (hE.types _ _ htt);split at h
  ·rename_i ei hte;have hTe:=hE.types _ _ hte;split at h
   ·exact Ar h
   rename_i hsz;have hs0:0<ei.size:=by omega
   have hbig:len * ei.size<=65536:=by omega
   split at h
   ·rename_i cells hfill;obtain ⟨⟨vs,u⟩,e1,e2⟩:=Rd.run_bind_some h;simp only [Rd.run,AiZ] at e2;subst e2;obtain ⟨ie,zv,hie,hz,hlz,hzl,hisz⟩:=Gy (μ:=μ) (w:=w) (F:=F) (hp:=hp) hTe;have hzsz:zv.cells.size=ei.size:=by rw [<- hlz.1];exact hzl
    have hl0:=VX hlz (by omega) len;obtain ⟨arr,r1,r2⟩:=Pa (fun j=>some (j * ei.size,ei.size)) (fun i=>some (i * ei.size,ei.size)) (fun n q hq=>hq) hs parts.toList _ cells _ hfill hl0;simp only [A4] at h';cases hl:laid hp u with
    | none=>rw [hl] at h';cases h'
    | some hp1 =>
     rw [hl] at h';simp only [Ajt,CV,AiZ] at h';subst h';obtain ⟨m1,l1,q1⟩:=(KO hr 65536).2 cells (fun j=>arr.getD j undef) vs u r2.2 e1;obtain ⟨s1,hr1⟩:=Fe hr m1 hl;obtain ⟨s2,hr2⟩:=L5 hr1 arr e;have hrl:(NB len ei.zero).length=len * ei.size:=by rw [M7,hzl]
     have hcl:cells.length=len * ei.size:=by
      have:∀(ps:List (Nat×IV)) (c c':List IV) (g:Nat->Option (Nat×Nat)),CU g c ps=some c'->c'.length=c.length:=by
       intro ps
       induction ps with
       | nil=>intro c c' g h;simp only [CU,AiZ] at h;rw [h]
       | cons p ps ihp =>
        intro c c' g h;obtain ⟨n,v⟩:=p;simp only [CU] at h;split at h
        ·cases h
        ·split at h
         ·rw [ihp _ _ _ h,Dj]
         ·cases h
      rw [this _ _ _ _ hfill,hrl]
     have harr:arr.size=len * ei.size:=by rw [<- r2.1];exact hcl
     have hrun:(Instr.buildSlice t len (parts.map fun (j,x)=>(j,a.eval x))).run E.P w=.ok (.slice (some ⟨w.heap.size,0,none⟩) len len) (w.alloc (.cells arr e)):=by
      have hnb:¬ (16777216<len * ei.size):=by omega
      simp only [madeCells,hzsz] at r1;by_cases h0:len * ei.size=0
      ·have r1':=r1;simp only [h0,Array.range_zero',Array.map_empty] at r1';simp [Instr.buildSlice,run_underlying hut,Br hTe,h0,Array.range_zero',r1',newRow]
      ·simp [Instr.buildSlice,run_underlying hut,Br hTe,hnb,h0,zeroValue,typeInfo,hie,hz,hzsz,r1,newRow]
     refine ⟨.slice (some ⟨w.heap.size,0,none⟩) len len,_,μ,_,.inl ?_,s1.trans s2,hr2,?_⟩
     ·simp only [execOp,ho,Sem.run_bind,hrun,Result.andThen_ok,Sem.run_pure]
     ·by_cases h0:len=0
      ·subst h0;exact .clip0 _
      ·have hlt:∀i j,i<len->j<ei.size->i * ei.size+j<len * ei.size:=fun i j hi hj=>by
        have:(i+1) * ei.size<=len * ei.size:=Nat.mul_le_mul_right _ hi
        rw [Nat.add_mul] at this;omega
       have hce:∀i j e,(B7 ei.size len vs)[i]?=some e->e.cells[j]?=if j<ei.size then vs[i * ei.size+j]? else none:=fun i j e he=>by
        rw [Fi ei.size len vs i e he,List.getElem?_take];split
        ·rw [List.getElem?_drop]
        ·rfl
       have hlen:=Ce ei.size len vs
       have:=RF.sl (w:=w.alloc (.cells arr e)) (F:=fun c i=>Ed μ u F c i\/(c=w.heap.size/\i<arr.size)) (B7 ei.size len vs) w.heap.size 0 ei.size len (fun i j=>arr.getD (i * ei.size+j) undef)
        (fun e=>by rw [e] at hlen;simp at hlen;omega) (by rw [hlen];exact AjA _)
        (fun e he=>by
         obtain ⟨i,hi,rfl⟩:=List.getElem_of_mem he;rw [Fi ei.size len vs i _ (Ai6 hi),List.length_take,List.length_drop];rw [hlen] at hi
         have:=hlt i (ei.size - 1) hi (by omega)
         omega)
        (fun i j hi hj=>.inr ⟨rfl,by rw [hlen] at hi;have:=hlt i j hi hj;omega⟩)
        (fun i j hi hj=>by
         rw [hlen] at hi
         have:=hlt i j hi hj
         rw [World.cell?_alloc_new,Ajy,Array.getElem?_eq_getElem (by omega)];simp [show i * ei.size+j<arr.size by omega])
        (fun i j e' c' he' hc'=>by
         rw [hce i j e' he'] at hc';split at hc'
         ·exact (q1 _ _ hc').mono s2.ws s2.sub
         ·cases hc')
       rw [hlen] at this;have h2:=R.clip (μ:=μ) (hp:=hp1) (B7 ei.size len vs) ⟨w.heap.size,0,none⟩ (by rw [hlen];exact this);rw [hlen] at h2;exact h2
   ·exact Ar h
  ·exact Ar h
 ·exact Ar h
theorem Qn (hE:EnvOk E) (hr:HR μ w F hp) (hs:SlotsR μ w F hp slots a.tmps) {t:TypeId} {x y:Operand} (ho:o.op=.makeSlice t x y)
  (h:(Eb E ih f rid i slots o.op).run hp=some m) (h':A4 (Bt f rid i) hp m=some hp'):D7 μ w F hp m.eff.val hp' ((execOp a.eval o).run E.P w):=by
 simp only [ho,Eb,C9] at h;have hx:=AB hs x;have hy:=AB hs y;generalize hxv:a.eval x=xv at hx;generalize hyv:a.eval y=yv at hy;split at h
 ·rename_i e _ htt;have hut:=C0 (hE.types _ _ htt);split at h
  ·rename_i ei p q hte hxe hye;have hTe:=hE.types _ _ hte;rw [hxe] at hx;rw [hye] at hy;cases hx with | fv _ _ hx =>
   cases hx;cases hy with | fv _ _ hy =>
   cases hy;split at h
   ·rename_i hc;obtain ⟨c1,c2,c3,c4,c5⟩:=hc;simp only [Rd.run,AiZ] at h;subst h;simp only [A4,CV,laid,Ajt] at h';split at h'
    ·cases h'
    rename_i hk;simp only [AiZ] at h';subst h';obtain ⟨ie,zv,hie,hz,hlz,hzl,hisz⟩:=Gy (μ:=μ) (w:=w) (F:=F) (hp:=hp) hTe;obtain ⟨ie',_,hie',_,hby,_⟩:=hTe.info
    have:ie'=ie:=by rw [hie] at hie';exact (Ajn hie').symm
    subst this;have hzsz:zv.cells.size=ei.size:=by rw [<- hlz.1];exact hzl
    have hlie:=VX hlz (by omega) q.toNat;rw [hzsz] at hlie;have hb:(ie'.bytes:Int) * q<=281474976710656:=by
     have h1:(ie'.bytes:Int)<=65536:=by omega
     have h2:(ie'.bytes:Int) * q<=65536 * 1048576:=Int.mul_le_mul h1 c3 (by omega) (by omega);omega
    have hrun:=run_make (P:=E.P) w t e ie' zv hut hie hz .i64 .i64 p q c1 c2 hb (by omega);rw [hisz] at hrun;obtain ⟨μ',F',s1,s2,s3⟩:=HV hr (Bt f rid i) hk (madeCells zv.cells (q.toNat * ei.size)) e (NB q.toNat ei.zero) (by rw [hlie.1];exact AjA _) hlie.2;refine ⟨.slice (some ⟨w.heap.size,0,none⟩) p.toNat q.toNat,_,μ',F',.inl ?_,s1,s2,?_⟩
    ·simp only [execOp,ho,hxv,hyv,Sem.run_bind,hrun,Result.andThen_ok,Sem.run_pure]
    ·have:=R.slc (μ:=μ') (w:=w.alloc (.cells (madeCells zv.cells (q.toNat * ei.size)) e)) (F:=F') (hp:=hp.set (.own (Bt f rid i)) (.row (NB q.toNat ei.zero) false)) (.own (Bt f rid i)) ei.size p.toNat q.toNat ⟨_,_,Cd _ _ _⟩ (by omega)
     rw [s3] at this;exact this
   ·exact Ar h
  ·exact Ar h
 ·exact Ar h
end
section
variable {E:Env} {μ:Ref->Nat} {w:World} {F:B3} {hp hp':Hp} {slots:List IV} {a:Act} {ih:Ah} {f:FuncId} {rid i k:Nat} {m:Made} {o:Oper}
theorem mF {v:IV} {u:Value} {n r:Nat} (h:R μ w F hp v u) (e:Im v n=some r):∃kk j,u=.int kk j/\0<=j/\j<=(n:Int)/\r=j.toNat:=by
 unfold Im at e;split at e
 ·split at e
  ·rename_i hc;cases h with | fv _ _ h =>cases h;exact ⟨_,_,rfl,hc.1,hc.2,(Ajn e).symm⟩
  ·cases e
 ·cases e
theorem Eu {P:Program} {v:IV} {u:Value} {n r y:Nat} (h:R μ w F hp v u) (e:Im v n=some r) (hy:n<=y) (code:BoundsCode):(Instr.sliceBound u y code).run P w=.ok r w/\r<=n:=by obtain ⟨kk,j,rfl,h0,h1,rfl⟩:=mF h e;exact ⟨run_sliceBound (P:=P) w kk j y code h0 (by omega),by omega⟩
theorem K5 {P:Program} (hs:SlotsR μ w F hp slots a.tmps) {lo hi:Option Operand} (isS:Bool) {len cap H L:Nat} (hcap:len<=cap) (e1:FP (hi.map (AG slots)) len len=some H)
  (e2:FP (lo.map (AG slots)) H 0=some L):(Instr.sliceBounds isS len cap (lo.map a.eval) (hi.map a.eval) none).run P w=.ok (L,H,cap) w/\L<=H/\H<=len:=by
 have hh:H<=len:=by
  cases hi with
  | none=>simp only [Option.map_none,FP,AiZ] at e1;omega
  | some x=>exact (Eu (P:=P) (AB hs x) e1 hcap .sliceB).2
 cases lo with
 | none =>
  simp only [Option.map_none,FP,AiZ] at e2;subst e2;refine ⟨?_,Nat.zero_le _,hh⟩;cases hi with
  | none=>simp only [Option.map_none,FP,AiZ] at e1;subst e1;simp [Instr.sliceBounds]
  | some y =>have g:=fun code=>(Eu (P:=P) (AB hs y) e1 hcap code).1;simp [Instr.sliceBounds,g]
 | some x =>
  obtain ⟨g1,g2⟩:=Eu (P:=P) (AB hs x) e2 (AjA H) .sliceB;refine ⟨?_,g2,hh⟩;cases hi with
  | none=>simp only [Option.map_none,FP,AiZ] at e1;subst e1;simp [Instr.sliceBounds,g1]
  | some y =>have g:=fun code=>(Eu (P:=P) (AB hs y) e1 hcap code).1;simp [Instr.sliceBounds,g,g1]
theorem RC {P:Program} (hs:SlotsR μ w F hp slots a.tmps) {lo:Option Operand} {hv mv:Operand} {len cap H L M:Nat} (hcap:len<=cap) (e0:Im (AG slots mv) len=some M)
  (e1:Im (AG slots hv) M=some H) (e2:FP (lo.map (AG slots)) H 0=some L) :
  (Instr.sliceBounds true len cap (lo.map a.eval) (some (a.eval hv)) (some (a.eval mv))).run P w=.ok (L,H,M) w/\L<=H/\H<=M/\M<=len:=by
 obtain ⟨r0,l0⟩:=Eu (P:=P) (AB hs mv) e0 hcap .slice3Acap;obtain ⟨r1,l1⟩:=Eu (P:=P) (AB hs hv) e1 (AjA M) .slice3B;cases lo with
 | none =>simp only [Option.map_none,FP,AiZ] at e2;subst e2;exact ⟨by simp [Instr.sliceBounds,r0,r1],Nat.zero_le _,l1,l0⟩
 | some x =>obtain ⟨g1,g2⟩:=Eu (P:=P) (AB hs x) e2 (AjA H) .slice3C;exact ⟨by simp [Instr.sliceBounds,r0,r1,g1],g2,l1,l0⟩
theorem ZO {es:List FV} {p:Option Addr} {cap sz L H M:Nat} (h:RF w F (.sl es) (.slice p es.length cap)) (hd:BI sz es=true) (h1:L<=H) (h2:H<=es.length) (h3:H<=M) (h4:M<=cap) :
  RF w F (.sl ((es.drop L).take (H - L))) (.slice (if M=L then p else p.map (·.add (L * sz))) (H - L) (M - L)):=by
 by_cases h0:H - L=0
 ·rw [h0,List.take_zero];refine .sl0 _ _ fun hn=>?_;have hp:p=none:=by
   split at hn
   ·exact hn
   ·simpa using hn
  subst hp;rcases Gb h with ⟨_,a,c,e,hc⟩ | ⟨_,b,base,_,_,_,e,_⟩
  ·injection e with e1 _ e3
   have:=hc e1.symm
   omega
  ·injection e with e1;cases e1
 ·rcases Gb h with ⟨rfl,_⟩ | ⟨hne,b,base,s,cap',vs,e,hcap,hu,hF,hc,hrf⟩
  ·simp at h2;omega
  ·cases e;have hs:=Oo hd hne hu;subst hs;have hlen:((es.drop L).take (H - L)).length=H - L:=by simp;omega
   have hget:∀i e,((es.drop L).take (H - L))[i]?=some e->es[L+i]?=some e:=fun i e he=>by
    rw [List.getElem?_take] at he;split at he
    ·rwa [List.getElem?_drop] at he
    ·cases he
   have:=RF.sl (w:=w) (F:=F) ((es.drop L).take (H - L)) b (base+L * s) s (M - L) (fun i j=>vs (L+i) j) (fun e=>by rw [e] at hlen;simp at hlen;omega) (by rw [hlen];omega)
    (fun e he=>hu e (List.mem_of_mem_drop (List.mem_of_mem_take he)))
    (fun i j hi hj=>by rw [hlen] at hi;have:=hF (L+i) j (by omega) hj;rwa [Nat.add_mul,Nat.add_assoc,<- Nat.add_assoc base] at this)
    (fun i j hi hj=>by rw [hlen] at hi;have:=hc (L+i) j (by omega) hj;rwa [Nat.add_mul,Nat.add_assoc,<- Nat.add_assoc base] at this)
    (fun i j e c he hc=>hrf _ _ _ _ (hget i e he) hc)
   rw [if_neg (by omega),Ai2,Addr.add_lit];rw [hlen] at this;exact this
theorem bY (
         hE:EnvOk E) (hr:HR μ w F hp) (hs:SlotsR μ w F hp slots a.tmps) {t:TypeId} {x:Operand} {lo hi mx:Option Operand} (ho:o.op=.slice t x lo hi mx)
  (h:(Eb E ih f rid i slots o.op).run hp=some m) (h':A4 k hp m=some hp'):D7 μ w F hp m.eff.val hp' ((execOp a.eval o).run E.P w):=by
 simp only [ho,Eb,C9,Iz] at h;have hx:=AB hs x;generalize hxv:a.eval x=xv at hx;split at h
 ·rename_i htt;have hut:=Jz (hE.types _ _ htt);split at h
  ·rename_i s hxe hmx;obtain ⟨e1,rfl⟩:=B2 h h';simp only [Aju,Ai1] at e1;obtain ⟨H,e1,L,e2,e3⟩:=e1;have hmx':mx=none:=by cases mx<;>simp_all
   subst hmx';rw [hxe] at hx;cases hx with | fv _ _ hx =>
   cases hx;obtain ⟨hb,_,_⟩:=K5 (P:=E.P) hs false (AjA s.size) e1 e2;rw [<- e3];refine .val hr (.fv _ _ (.str _)) ?_;simp [execOp,ho,hxv,Instr.sliceAt,run_underlying hut,Instr.slice,hb]
  ·exact Ar h
 ·rename_i e _ htt;have hut:=C0 (hE.types _ _ htt);split at h
  ·exact Ar h
  rename_i ei hte;have hTe:=hE.types _ _ hte;obtain ⟨⟨fx,u⟩,e1,h⟩:=Rd.run_bind_some h;obtain ⟨mk,hf⟩:=(KO hr 4096).1 _ _ fx u hx e1;simp only at h;split at h
  ·rename_i es;split at h
   ·exact Ar h
   rename_i hd;have hd:BI ei.size es=true:=by simpa using hd
   have hxs:∃p cap,xv=.slice p es.length cap/\es.length<=cap:=by
    rcases Gb hf with ⟨rfl,p,cap,rfl,_⟩ | ⟨_,b,base,sz,cap,vs,rfl,hcap,_⟩
    ·exact ⟨p,cap,rfl,Nat.zero_le _⟩
    ·exact ⟨_,cap,rfl,hcap⟩
   obtain ⟨p,cap,rfl,hcap⟩:=hxs;have fin:∀{v:IV} {y:Value},m={ eff:={ val:=v,upd:=u } }->(execOp a.eval o).run E.P w=.ok (.value y) w->R μ w (Ed μ u F) hp' v y->D7 μ w F hp m.eff.val hp' ((execOp a.eval o).run E.P w):=by
    intro v y e2 e3 e4;subst e2;simp only [A4] at h';cases hl:laid hp u with
    | none=>rw [hl] at h';cases h'
    | some hp1 =>rw [hl] at h';simp only [Ajt,CV,AiZ] at h';subst h';obtain ⟨s1,hr1⟩:=Fe hr mk hl;exact ⟨y,w,μ,_,.inl e3,s1,hr1,e4⟩
   cases mx with
   | none =>
    simp only [Option.map_none] at h;split at h
    ·rename_i L H hb;simp only [Aju,Ai1] at hb;obtain ⟨H',e2,L',e3,e4⟩:=hb;cases e4;obtain ⟨hb,h1,h2⟩:=K5 (P:=E.P) hs true hcap e2 e3;simp only [Rd.run,AiZ] at h;refine fin h.symm ?_ (.fv _ _ (ZO hf hd h1 h2 (M:=cap) (by omega) (AjA _)));simp [execOp,ho,hxv,Instr.sliceAt,run_underlying hut,Instr.slice,hb,Br hTe]
    ·exact Ar h
   | some mo =>
    simp only [Ai2] at h;cases hi with
    | none=>exact Ar h
    | some hov =>
     simp only [Ai2] at h;split at h
     ·rename_i L H hb;simp only [Aju] at hb;obtain ⟨M,e2,H',e3,L',e4,e5⟩:=hb;split at e5
      ·rename_i hMH;cases e5
       ·obtain ⟨hb,h1,h2,h3⟩:=RC (P:=E.P) hs hcap e2 e3 e4;simp only [Rd.run,AiZ] at h;subst hMH;have hlen:((es.drop L).take (M - L)).length=M - L:=by simp;omega
        have hrun:(execOp a.eval o).run E.P w=.ok (.value (.slice (if M=L then p else p.map (·.add (L * ei.size))) (M - L) (M - L))) w:=by simp [execOp,ho,hxv,Instr.sliceAt,run_underlying hut,Instr.slice,hb,Br hTe]
        refine fin h.symm hrun ?_;have hsub:=ZO hf hd h1 (by omega) (M:=M) (AjA M) (by omega);by_cases h0:M - L=0
        ·rw [h0,List.take_zero];exact .clip0 _
        ·rcases Gb hsub with ⟨e6,_⟩ | ⟨_,b,base,sz,cap',vs,e6,_⟩
         ·rw [e6] at hlen;simp at hlen;omega
         ·have e7:(if M=L then p else p.map (·.add (L * ei.size)))=some ⟨b,base,none⟩:=by
           injection e6
          rw [e7] at hsub ⊢;have h8:=R.clip (μ:=μ) (hp:=hp') ((es.drop L).take (M - L)) ⟨b,base,none⟩ (by rw [hlen];exact hsub);rw [hlen] at h8;exact h8
      ·cases e5
     ·exact Ar h
  ·exact Ar h
 ·exact Ar h
def C2 (n:Int):List (Int×IV)->Option Nat
 | []=>none
 | (j,_)::l=>if n=j then some 0 else (C2 n l).map (·+1)
theorem I0 (n:Int):∀l:List (Int×IV),Ds n l=(C2 n l).bind fun j=>(l[j]?).map (·.2)
 | []=>rfl
 | (j,x)::l=>by
  by_cases h:n=j
  ·simp [Ds,C2,h]
  ·simp only [Ds,C2,if_neg h,I0 n l,Option.bind_map];congr 1
theorem KM {n:Int}:∀{l:List (Int×IV)} {p:Nat},C2 n l=some p->∃x,l[p]?=some (n,x)
 | [],_,h=>by cases h
 | (j,x)::l,p,h=>by
  by_cases e:n=j
  ·simp [C2,e] at h;subst h;exact ⟨x,by simp [e]⟩
  ·simp only [C2,if_neg e,Ai1] at h;obtain ⟨q,h1,rfl⟩:=h;obtain ⟨y,hy⟩:=KM h1;exact ⟨y,by simpa using hy⟩
theorem Hm {n:Int} {v:IV}:∀{l:List (Int×IV)},C2 n l=none->CG n v l=l++[(n,v)]
 | [],_=>rfl
 | (j,x)::l,h=>by
  by_cases e:n=j
  ·simp [C2,e] at h
  ·simp only [C2,if_neg e,Option.map_eq_none_iff] at h;simp [CG,e,Hm h]
theorem Hy {n:Int} {v:IV}:∀{l:List (Int×IV)} {p:Nat},C2 n l=some p->CG n v l=l.set p (n,v)
 | [],_,h=>by cases h
 | (j,x)::l,p,h=>by
  by_cases e:n=j
  ·simp [C2,e] at h;subst h;simp [CG,e]
  ·simp only [C2,if_neg e,Ai1] at h;obtain ⟨q,h1,rfl⟩:=h;simp [CG,e,Hy h1]
theorem HJ (n:Int):∀(l:List (Int×IV)) (es:List MapEntry) (i0:Nat),es.length=l.length->(∀(j:Nat) k x,l[j]?=some (k,x)->∃me:MapEntry,es[j]?=some me/\me.key=.int .i64 k) ->
  ∃r,Instr.findNow (.int .i64) (.int .i64 n) es i0=some r/\(C2 n l=none->r=none)/\∀p,C2 n l=some p->∃me:MapEntry,es[p]?=some me/\r=some (i0+p,me.val)
 | [],es,i0,hl,_=>by
  have:es=[]:=Aja hl
  subst this;exact ⟨none,rfl,fun _=>rfl,fun p h=>by cases h⟩
 | (j,x)::l,es,i0,hl,h=>by
  cases es with
  | nil=>simp at hl
  | cons me es =>
   obtain ⟨me',h1,h2⟩:=h 0 j x rfl;simp only [Ajb,AiZ] at h1;subst h1;by_cases e:n=j
   ·subst e;refine ⟨some (i0,me.val),by simp [Instr.findNow,h2,Instr.sameNow],fun hn=>by simp [C2] at hn,fun p hp=>?_⟩;simp [C2] at hp;subst hp;exact ⟨me,rfl,rfl⟩
   ·obtain ⟨r,h3,h4,h5⟩:=HJ n l es (i0+1) (by simpa using hl) (fun q k y hq=>h (q+1) k y (by simpa using hq));have hb:(n == j)=false:=by simpa using e
    refine ⟨r,by simp [Instr.findNow,h2,Instr.sameNow,hb,h3],fun hn=>h4 (by simpa [C2,e] using hn),fun p hp=>?_⟩;simp only [C2,if_neg e,Ai1] at hp;obtain ⟨q,hq,rfl⟩:=hp;obtain ⟨me2,h6,h7⟩:=h5 q hq;exact ⟨me2,by simpa using h6,by rw [h7];congr 2;omega⟩
theorem EY {P:Program} {t:TypeId} {k:IntKind} (h:P.underlying t=some (.int k)) (b:Bool) (n:Nat) (v:Value):(Instr.checkKey b (n+1) t v).run P w=.ok () w:=by cases v<;>simp [Instr.checkKey,run_underlying h]
theorem GJ {P:Program} {r:Nat} {arr:Array MapEntry} {clk:Nat} (h:w.heap[r]?=some (.map arr clk)):(getObj r).run P w=.ok (.map arr clk) w:=by simp [getObj,Sem.run,h]
theorem LR {P:Program} {r:Nat} {arr:Array MapEntry} {clk:Nat} (h:w.heap[r]?=some (.map arr clk)) (ob:Obj):(setObj r ob).run P w=.ok () { w with heap:=w.heap.setIfInBounds r ob }:=by simp [setObj,Sem.run,h]
theorem VI (hr:HR μ w F hp) (r:Ref) (es es':List (Int×IV)) (arr arr':Array MapEntry) (clk clk':Nat) (h:hp.get r=some (.map es)) (hg:w.heap[μ r]?=some (.map arr clk)) (hl:arr'.size=es'.length)
  (hc:∀(j:Nat) n x,es'[j]?=some (n,x)->∃me:MapEntry,arr'[j]?=some me/\me.key=.int .i64 n/\R μ w F hp x me.val) :
  let w':World:={ w with heap:=w.heap.setIfInBounds (μ r) (.map arr' clk') }
  Stp μ w F hp μ w' F (hp.set r (.map es'))/\HR μ w' F (hp.set r (.map es')):=by
 intro w';have hlt:μ r<w.heap.size:=Qr hg;have hget:∀b,w'.heap[b]?=if b=μ r then some (.map arr' clk') else w.heap[b]?:=fun b=>by
  show (w.heap.setIfInBounds (μ r) _)[b]?=_
  rw [Array.getElem?_setIfInBounds];by_cases e:μ r=b
  ·subst e;simp [hlt]
  ·rw [if_neg e,if_neg (fun e2=>e e2.symm)]
 have hsome:(hp.get r).isSome:=by rw [h];rfl
 have hnF:∀o v,w.cell? ⟨μ r,o,none⟩=some v->False:=fun o v hv=>by simp [World.cell?,hg] at hv
 have hsame:=B9 hp r (.map es') hsome;have hoth:∀s b',s≠r->hp.get s=some b'->(hp.set r (.map es')).get s=some b':=fun s b' hn h=>by rw [AA _ _ _ _ hn];exact h
 have hst:Stp μ w F hp μ w' F (hp.set r (.map es')):=by
  refine ⟨⟨fun b c e fr hb=>⟨c,?_,rfl⟩,fun b o v _ hv=>?_,?_,fun x=>?_,rfl,rfl,rfl⟩,fun _ _ h=>h,fun s cs ro hs'=>⟨?_,rfl⟩,fun s es hs'=>⟨?_,rfl⟩,fun s n sz hs'=>⟨n,?_,AjA _,.inl rfl⟩,
   fun s h1 h2=>?_,fun b hb hb'=>?_,fun _ _ h=>.inl h⟩
  ·rw [hget,if_neg (fun e=>by rw [e,hg] at hb;cases hb)];exact hb
  ·by_cases e:b=μ r
   ·subst e;exact (hnF _ _ hv).elim
   ·simp only [World.cell?,hget,if_neg e] at hv ⊢;exact hv
  ·show w.heap.size<=(w.heap.setIfInBounds _ _).size
   simp
  ·simp only [World.frozen?,hget];by_cases e:x.block=μ r
   ·rw [if_pos e,e,hg]
   ·rw [if_neg e]
  ·by_cases e:s=r
   ·subst e;rw [h] at hs';cases hs'
   ·exact ⟨cs,ro,hoth s _ e hs'⟩
  ·by_cases e:s=r
   ·subst e;exact ⟨_,hsame⟩
   ·exact ⟨es,hoth s _ e hs'⟩
  ·by_cases e:s=r
   ·subst e;rw [h] at hs';cases hs'
   ·exact hoth s _ e hs'
  ·by_cases e:s=r
   ·subst e;rw [h] at h1;cases h1
   ·rw [AA _ _ _ _ e,h1] at h2;cases h2
  ·rw [hget,if_neg (fun e=>hb' r hsome e.symm)]
 have hsome':∀s,((hp.set r (.map es')).get s).isSome->(hp.get s).isSome:=fun s hs'=>by
  by_cases e:s=r
  ·rw [e];exact hsome
  ·rwa [AA _ _ _ _ e] at hs'
 refine ⟨hst,fun s b hb=>?_,fun s t h1 h2 e=>hr.inj s t (hsome' s h1) (hsome' t h2) e,fun b o h=>?_⟩
 ·by_cases e1:s=r
  ·subst e1;rw [hsame] at hb;cases hb;refine ⟨arr',clk',by rw [hget,if_pos rfl],hl,fun j n x hx=>?_⟩;obtain ⟨me,g1,g2,g3⟩:=hc j n x hx;exact ⟨me,g1,g2,g3.mono hst⟩
  ·rw [AA _ _ _ _ e1] at hb;refine (hr.blk s b hb).mono hst rfl ?_ fun _ h=>h;rw [hget,if_neg (fun e2=>e1 (hr.inj s r (by rw [hb];rfl) hsome e2))]
 ·have:=hr.wf b o h
  show b<(w.heap.setIfInBounds _ _).size
  simpa using this
theorem Ox (hE:EnvOk E) (hr:HR μ w F hp) (hs:SlotsR μ w F hp slots a.tmps) {t:TypeId} {x y z:Operand} (ho:o.op=.insert t x y z\/o.op=.mapUpdate t x y z)
  (h:(Eb E ih f rid i slots (.insert t x y z)).run hp=some m) (h':A4 k hp m=some hp'):D7 μ w F hp m.eff.val hp' ((execOp a.eval o).run E.P w):=by
 simp only [Eb,C9] at h;have hx:=AB hs x;have hy:=AB hs y;have hz:=AB hs z;generalize hxv:a.eval x=xv at hx;generalize hyv:a.eval y=yv at hy;split at h
 ·rename_i kt et _ htt;have hut:=WW (hE.types _ _ htt);split at h
  ·rename_i r n htk hxe hye;have huk:=LH (hE.types _ _ htk);rw [hxe] at hx;rw [hye] at hy;cases hx with | mapr _ hg =>
   cases hy with | fv _ _ hy =>
   cases hy;obtain ⟨b,hb,h⟩:=Rd.run_get_some h;cases b with
   | row=>exact Ar h
   | tok=>exact Ar h
   | map es =>
    simp only at h;split at h
    ·simp only [Rd.run,AiZ] at h;subst h;simp only [A4,CV,laid,hb,Ajt,AiZ] at h';subst h';obtain ⟨arr,clk,hw,hsz,hent⟩:=hr.blk _ _ hb;obtain ⟨q,q1,q2,q3⟩:=HJ n es arr.toList 0 (by simpa using hsz) (fun j k x hj=>by
      obtain ⟨me,g1,g2,_⟩:=hent j k x hj;exact ⟨me,by simpa using g1,g2⟩)
     have hexec:(execOp a.eval o).run E.P w=((Instr.mapUpdate t (a.eval x) (a.eval y) (a.eval z)).run E.P w).andThen fun _ w'=>.ok .skip w':=by rcases ho with ho | ho<;>simp [execOp,ho]
     have hfind:(Instr.findKey kt (.int .i64 n) arr.toList).run E.P w=.ok q w:=by simp [Instr.findKey,run_underlying huk,q1]
     cases hpos:C2 n es with
     | none =>
      have:=q2 hpos
      subst this;obtain ⟨s1,s2⟩:=VI hr r es (CG n (AG slots z) es) arr (arr.push { key:=.int .i64 n,val:=a.eval z,born:=clk }) clk (clk+1) hb hw (by rw [Hm hpos];simp [hsz]) (fun j k' x' hj=>by
       rw [Hm hpos] at hj;by_cases c:j<es.length
       ·rw [Ai9 c] at hj;obtain ⟨me,g1,g2,g3⟩:=hent j k' x' hj;exact ⟨me,by rw [Array.getElem?_push,if_neg (by omega)];exact g1,g2,g3⟩
       ·rw [Ai8 (by omega)] at hj;have hj0:j=es.length:=by
         rcases Nat.lt_or_ge (j - es.length) 1 with h | h
         ·omega
         ·rw [List.getElem?_eq_none (by simpa using h)] at hj;cases hj
        subst hj0;simp at hj;obtain ⟨rfl,rfl⟩:=hj;exact ⟨_,by rw [Array.getElem?_push,if_pos hsz.symm],rfl,hz⟩)
      refine ⟨undef,_,μ,F,.inr ⟨?_,rfl⟩,s1,s2,.dead _⟩;rw [hexec,hxv,hyv];simp only [Instr.mapUpdate,run_underlying hut,Sem.run_bind,Result.andThen_ok,GJ hw,EY huk false 9999,hfind,LR hw]
     | some p =>
      obtain ⟨me0,g1,rfl⟩:=q3 p hpos;obtain ⟨x0,hx0⟩:=KM hpos;obtain ⟨me1,g2,g3,_⟩:=hent p n x0 hx0;have hme:me0=me1:=by simp only [Array.getElem?_toList] at g1;rw [g1] at g2;exact Ajn g2
      subst hme;have hpl:p<arr.size:=(Array.getElem?_eq_some_iff.1 g2).1;obtain ⟨s1,s2⟩:=VI hr r es (CG n (AG slots z) es) arr (arr.modify p fun e=>{ e with key:=.int .i64 n,val:=a.eval z }) clk clk hb hw (by rw [Hy hpos];simp [hsz]) (fun j k' x' hj=>by
       rw [Hy hpos] at hj;by_cases c:p=j
       ·subst c;rw [List.getElem?_set_self (by omega)] at hj;simp only [AiZ,Ai0] at hj;obtain ⟨rfl,rfl⟩:=hj;exact ⟨{ me0 with key:=.int .i64 n,val:=a.eval z },by rw [Array.getElem?_modify,if_pos rfl,g2];rfl,rfl,hz⟩
       ·rw [List.getElem?_set_ne c] at hj;obtain ⟨me,h1,h2,h3⟩:=hent j k' x' hj;exact ⟨me,by rw [Array.getElem?_modify,if_neg c];exact h1,h2,h3⟩)
      refine ⟨undef,_,μ,F,.inr ⟨?_,rfl⟩,s1,s2,.dead _⟩;rw [hexec,hxv,hyv];have hkey:((arr[p]?).map (·.key)).getD (.int .i64 n)=.int .i64 n:=by rw [g2];simp [g3]
      simp only [Instr.mapUpdate,run_underlying hut,Sem.run_bind,Result.andThen_ok,GJ hw,EY huk false 9999,hfind,Ajy,hkey,Instr.keyThatStays];have hsame:Instr.sameBits 10000 (.int .i64 n) (.int .i64 n)=true:=by simp [Instr.sameBits]
      simp only [hsame,if_true,Sem.run_pure,Result.andThen_ok,LR hw]
    ·exact Ar h
  ·exact Ar h
 ·exact Ar h
theorem YQ (hE:EnvOk E) (hr:HR μ w F hp) (hs:SlotsR μ w F hp slots a.tmps) {t:TypeId} {x y:Operand} {ok:Bool} (ho:o.op=.lookup t x y ok)
  (h:(Eb E ih f rid i slots o.op).run hp=some m) (h':A4 k hp m=some hp'):D7 μ w F hp m.eff.val hp' ((execOp a.eval o).run E.P w):=by
 simp only [ho,Eb,C9] at h;have hx:=AB hs x;have hy:=AB hs y;generalize hxv:a.eval x=xv at hx;generalize hyv:a.eval y=yv at hy;split at h
 ·rename_i kt et _ htt;have hut:=WW (hE.types _ _ htt);split at h
  ·rename_i ei r n htk hte hxe hye;have huk:=LH (hE.types _ _ htk);have hTe:=hE.types _ _ hte;rw [hxe] at hx;rw [hye] at hy;cases hx with | mapr _ hg =>
   cases hy with | fv _ _ hy =>
   cases hy;obtain ⟨b,hb,h⟩:=Rd.run_get_some h;cases b with
   | row=>exact Ar h
   | tok=>exact Ar h
   | map es =>
    simp only at h;obtain ⟨arr,clk,hw,hsz,hent⟩:=hr.blk _ _ hb;obtain ⟨q,q1,q2,q3⟩:=HJ n es arr.toList 0 (by simpa using hsz) (fun j k x hj=>by
     obtain ⟨me,g1,g2,_⟩:=hent j k x hj;exact ⟨me,by simpa using g1,g2⟩)
    have hfind:(Instr.findKey kt (.int .i64 n) arr.toList).run E.P w=.ok q w:=by simp [Instr.findKey,run_underlying huk,q1]
    have pair:∀{v:IV} {z:Value} (bb:Bool),R μ w F hp v z->R μ w F hp (if ok then CL [v,.fv (.bool bb)] else v) (if ok then .tuple #[z,.bool bb] else z):=by
     intro v z bb hv;cases ok with
     | false=>exact hv
     | true =>
      refine NP rfl fun j y hy=>?_
      match j,hy with
      | 0,hy=>simp at hy;subst hy;simpa using hv
      | 1,hy=>simp at hy;subst hy;exact .fv _ _ (.bool bb)
      | j+2,hy=>simp at hy
    split at h
    ·rename_i v hv;obtain ⟨e1,rfl⟩:=Bx h h';rw [I0] at hv;simp only [Aju,Ai1] at hv;obtain ⟨p,hpos,⟨n',v'⟩,g1,rfl⟩:=hv;obtain ⟨me,g2,rfl⟩:=q3 p hpos;obtain ⟨me',g3,g4,g5⟩:=hent p n' v' g1;have hme:me=me':=by simp only [Array.getElem?_toList] at g2;rw [g2] at g3;exact Ajn g3
     subst hme;rw [e1];refine .val hr (pair true g5) ?_;simp only [execOp,ho,hxv,hyv,Instr.lookup,run_underlying hut,Sem.run_bind,Result.andThen_ok,GJ hw,EY huk _ 9999,hfind,Sem.run_pure]
    ·rename_i hv;split at h
     ·rename_i zv hzv;obtain ⟨e1,rfl⟩:=Bx h h';have hpos:C2 n es=none:=by
       rw [I0] at hv;cases hp0:C2 n es with
       | none=>rfl
       | some p =>obtain ⟨x0,hx0⟩:=KM hp0;rw [hp0] at hv;simp [hx0] at hv
      have:=q2 hpos
      subst this;obtain ⟨z,hz,hz1,hz2,hz3,hz4⟩:=Ps hTe;rw [e1];have hRz:R μ w F hp' zv z:=by
       unfold Pg at hzv;obtain ⟨_,z',g1,g2,g3,_⟩:=Gy (μ:=μ) (w:=w) (F:=F) (hp:=hp') hTe;obtain ⟨_,z'',g4,_,_,g5,_⟩:=hTe.info;have hzz:z'=z:=by have e2:=hz w;simp [zeroValue,typeInfo,g1,g2] at e2;exact e2
       subst hzz;split at hzv
       ·rename_i hagg;simp only [AiZ] at hzv;rw [<- hzv,hz3 hagg];exact Lz g3.1 g3.2
       ·rename_i hagg;split at hzv
        ·rename_i x0 hx0;simp only [AiZ] at hzv;subst hzv
         have:=g3.2 0 x0 (by rw [hx0];rfl)
         rw [hz4 (by simpa using hagg)] at this;simpa using this
        ·cases hzv
      refine .val hr (pair false hRz) ?_;simp only [execOp,ho,hxv,hyv,Instr.lookup,run_underlying hut,Sem.run_bind,Result.andThen_ok,GJ hw,EY huk _ 9999,hfind,Sem.run_pure,hz]
     ·exact Ar h
  ·exact Ar h
 ·exact Ar h
end
section
variable {E:Env} {μ:Ref->Nat} {w:World} {F:B3} {hp hp':Hp} {slots:List IV} {a:Act} {ih:Ah} {f:FuncId} {rid i k:Nat} {m:Made} {o:Oper}
theorem OD (hr:HR μ w F hp) (r:Ref) (n s:Nat) (hk:(hp.get r=none/\∃k,r=.own k)\/∃n0 sz,hp.get r=some (.tok n0 sz)/\n0<n/\sz=s) (arr:Array Value) (e:TypeId) (hn:0<n) (hs:0<s) (hl:n * s<=arr.size) :
  let μ':=MV μ r w.heap.size
  let F':B3:=fun c i=>F c i\/(c=w.heap.size/\i<n * s)
  Stp μ w F hp μ' (w.alloc (.cells arr e)) F' (hp.set r (.tok n s))/\HR μ' (w.alloc (.cells arr e)) F' (hp.set r (.tok n s))/\(hp.set r (.tok n s)).get r=some (.tok n s):=by
 intro μ' F';have hμ:μ' r=w.heap.size:=Cg _ _ _;have hmu:∀s,s≠r->μ' s=μ s:=fun s h=>Hi _ _ h;have hsame:(hp.set r (.tok n s)).get r=some (.tok n s):=by
  rcases hk with ⟨_,k,rfl⟩ | ⟨n0,sz,h,_⟩
  ·exact Cd _ _ _
  ·exact B9 _ _ _ (by rw [h];rfl)
 have hst:Stp μ w F hp μ' (w.alloc (.cells arr e)) F' (hp.set r (.tok n s)):=by
  refine ⟨.alloc F w _ (fun _ _ _ h=>by cases h;rfl),fun _ _ h=>.inl h,fun t cs ro h=>?_,fun t es h=>?_,fun t n1 sz h=>?_,fun t h h'=>?_,fun c hc _=>CA _ _ hc,fun c i h=>?_⟩
  ·have hne:t≠r:=fun e=>by
    subst e;rcases hk with ⟨h2,_⟩ | ⟨_,_,h2,_⟩<;>rw [h] at h2<;>cases h2
   exact ⟨⟨cs,ro,by rw [AA _ _ _ _ hne];exact h⟩,hmu t hne⟩
  ·have hne:t≠r:=fun e=>by
    subst e;rcases hk with ⟨h2,_⟩ | ⟨_,_,h2,_⟩<;>rw [h] at h2<;>cases h2
   exact ⟨⟨es,by rw [AA _ _ _ _ hne];exact h⟩,hmu t hne⟩
  ·by_cases hne:t=r
   ·subst hne;rcases hk with ⟨h2,_⟩ | ⟨n0,sz',h2,h3,h4⟩
    ·rw [h] at h2;cases h2
    ·rw [h] at h2;cases h2;exact ⟨n,by rw [hsame,h4],by omega,.inr ⟨h3,by rw [hμ];exact AjA _⟩⟩
   ·exact ⟨n1,by rw [AA _ _ _ _ hne];exact h,AjA _,.inl (hmu t hne)⟩
  ·by_cases hne:t=r
   ·subst hne;rw [hμ];exact AjA _
   ·rw [AA _ _ _ _ hne,h] at h';cases h'
  ·rcases h with h | ⟨h,_⟩
   ·exact .inl h
   ·exact .inr (.inl (by omega))
 have hold:∀t,t≠r->((hp.set r (.tok n s)).get t).isSome->μ' t=μ t/\μ t<w.heap.size/\(hp.get t).isSome:=fun t ht h=>by
  rw [AA _ _ _ _ ht] at h;exact ⟨hmu t ht,hr.lt h,h⟩
 refine ⟨hst,⟨fun t b h=>?_,fun t u h1 h2 e=>?_,fun c i h=>?_⟩,hsame⟩
 ·by_cases hne:t=r
  ·subst hne;rw [hsame] at h;cases h;refine ⟨hn,hs,arr,e,by rw [hμ,DA,if_pos rfl],hl,fun i=>⟨fun h=>?_,fun h=>.inr ⟨hμ,h⟩⟩⟩;rcases h with h | ⟨_,h⟩
   ·have:=hr.wf _ _ h;rw [hμ] at this;omega
   ·exact h
  ·rw [AA _ _ _ _ hne] at h;have hlt:=hr.lt (r:=t) (by rw [h];rfl);refine (hr.blk t b h).mono hst (hmu t hne) (CA _ _ hlt) fun i hi=>?_;rcases hi with hi | ⟨hi,_⟩
   ·exact hi
   ·omega
 ·by_cases et:t=r
  ·by_cases eu:u=r
   ·rw [et,eu]
   ·obtain ⟨e1,e2,_⟩:=hold u eu h2;rw [et,hμ,e1] at e;omega
  ·obtain ⟨e1,e2,e3⟩:=hold t et h1;by_cases eu:u=r
   ·rw [eu,hμ,e1] at e;omega
   ·obtain ⟨f1,f2,f3⟩:=hold u eu h2;exact hr.inj t u e3 f3 (by rw [<- e1,<- f1];exact e)
 ·rcases h with h | ⟨h,_⟩
  ·have:=hr.wf c i h;simp;omega
  ·simp;omega
theorem cT (hr:HR μ w F hp) (r:Ref) (n n' s:Nat) (c c':Array Value) (e:TypeId) (h:hp.get r=some (.tok n s)) (hg:w.heap[μ r]?=some (.cells c e (0,0))) (hs:c'.size=c.size) (hn:n<=n') (hl:n' * s<=c.size)
  (hold:∀o,o<n * s->c'[o]?=c[o]?) :
  let F':B3:=fun b i=>F b i\/(b=μ r/\i<n' * s)
  Stp μ w F hp μ (w.setRow (μ r) c') F' (hp.set r (.tok n' s))/\HR μ (w.setRow (μ r) c') F' (hp.set r (.tok n' s)):=by
 intro F';have hsome:(hp.get r).isSome:=by rw [h];rfl
 have hsame:=B9 hp r (.tok n' s) hsome;obtain ⟨b1,b2,_,_,b3,_,b4⟩:=hr.blk r _ h;have hmul:n * s<=n' * s:=Nat.mul_le_mul_right _ hn;have hst:Stp μ w F hp μ (w.setRow (μ r) c') F' (hp.set r (.tok n' s)):=by
  refine ⟨.setRow F w (μ r) c c' e hg hs (fun o ho=>hold o ((b4 o).1 ho)),fun _ _ h=>.inl h,fun t cs ro hs'=>⟨?_,rfl⟩,fun t es hs'=>⟨?_,rfl⟩,fun t n1 sz hs'=>?_,
   fun t h1 h2=>?_,fun b hb hb'=>?_,fun b i hi=>?_⟩
  ·have hne:t≠r:=fun e=>by subst e;rw [h] at hs';cases hs'
   exact ⟨cs,ro,by rw [AA _ _ _ _ hne];exact hs'⟩
  ·have hne:t≠r:=fun e=>by subst e;rw [h] at hs';cases hs'
   exact ⟨es,by rw [AA _ _ _ _ hne];exact hs'⟩
  ·by_cases hne:t=r
   ·subst hne;rw [h] at hs';cases hs';exact ⟨n',hsame,hn,.inl rfl⟩
   ·exact ⟨n1,by rw [AA _ _ _ _ hne];exact hs',AjA _,.inl rfl⟩
  ·by_cases hne:t=r
   ·subst hne;rw [h] at h1;cases h1
   ·rw [AA _ _ _ _ hne,h1] at h2;cases h2
  ·rw [Cf,if_neg (fun e=>hb' r hsome e.symm)]
  ·rcases hi with hi | ⟨hi,_⟩
   ·exact .inl hi
   ·exact .inr (.inr ⟨r,hsome,hi.symm⟩)
 have hsome':∀t,((hp.set r (.tok n' s)).get t).isSome->(hp.get t).isSome:=fun t ht=>by
  by_cases e:t=r
  ·rw [e];exact hsome
  ·rwa [AA _ _ _ _ e] at ht
 refine ⟨hst,⟨fun t b hb=>?_,fun t u h1 h2 e=>hr.inj t u (hsome' t h1) (hsome' u h2) e,fun b i hi=>?_⟩⟩
 ·by_cases hne:t=r
  ·subst hne;rw [hsame] at hb;cases hb;refine ⟨by omega,b2,c',e,by rw [Cf];simp [hg],by omega,fun o=>⟨fun ho=>?_,fun ho=>.inr ⟨rfl,ho⟩⟩⟩;rcases ho with ho | ⟨_,ho⟩
   ·have:=(b4 o).1 ho;omega
   ·exact ho
  ·rw [AA _ _ _ _ hne] at hb;have hd:μ t≠μ r:=fun e2=>hne (hr.inj t r (by rw [hb];rfl) hsome e2);refine (hr.blk t b hb).mono hst rfl (by rw [Cf,if_neg hd]) fun i hi=>?_;rcases hi with hi | ⟨hi,_⟩
   ·exact hi
   ·exact absurd hi hd
 ·have hlt:μ r<w.heap.size:=Qr hg;have hsz:(w.setRow (μ r) c').heap.size=w.heap.size:=by simp [World.setRow]
  rw [hsz];rcases hi with hi | ⟨hi,_⟩
  ·exact hr.wf b i hi
  ·omega
theorem Rg {P:Program} {es:List FV} {p:Option Addr} {cap sz:Nat} (h:RF w F (.sl es) (.slice p es.length cap)) (hd:BI sz es=true) :
  ∃news:List Value,news.length=es.length * sz/\(∀w1:World,w1.heap=w.heap->(Builtin.firstCells sz es.length (.slice p es.length cap)).run P w1=.ok news.toArray w1) /\
   (∀i j e c,es[i]?=some e->e.cells[j]?=some c->RF w F c (news.getD (i * sz+j) undef))/\(es≠[]->∀e∈es,e.cells.length=sz):=by
 rcases Gb h with ⟨rfl,_⟩ | ⟨hne,b,base,s,cap',vs,e,hcap,hu,hF,hc,hrf⟩
 ·refine ⟨[],by simp,fun w1 _=>?_,fun i j e c he=>by simp at he,fun h=>absurd rfl h⟩;cases p with
  | none=>exact run_firstCells_none w1 sz 0 0 cap
  | some p=>exact run_firstCells_some w1 sz 0 p 0 cap [] (by simp) (fun j v h=>by simp at h)
 ·cases e;have hs:=Oo hd hne hu;subst hs;refine ⟨(List.range (es.length * s)).map fun q=>vs (q / s) (q % s),by simp,fun w1 hw1=>?_,fun i j e c he hc'=>?_,fun _=>hu⟩
  ·refine run_firstCells_some w1 s es.length ⟨b,base,none⟩ es.length cap _ (by simp) fun q v hq=>?_;simp only [Ajv,Ai1] at hq;obtain ⟨q',hq1,hq2⟩:=hq;have hlt:q<es.length * s:=by
    have:=(Ai7.1 hq1).1;simpa using this
   rw [List.getElem?_range hlt] at hq1;cases hq1;have hs0:0<s:=by
    rcases Nat.eq_zero_or_pos s with h0 | h0
    ·subst h0;simp at hlt
    ·exact h0
   have h1:q / s<es.length:=(Nat.div_lt_iff_lt_mul hs0).2 hlt;have h2:q % s<s:=Nat.mod_lt _ hs0;have h3:=hc (q / s) (q % s) h1 h2;have h4:q / s * s+q % s=q:=by rw [Nat.mul_comm];exact Nat.div_add_mod q s
   rw [h4] at h3;rw [Addr.add_lit];simp only [World.cell?,hw1] at h3 ⊢;rw [h3,hq2]
  ·have hi:i<es.length:=(Ai7.1 he).1;have hj:j<s:=by
    have:=(Ai7.1 hc').1
    rwa [hu e (Aje he)] at this
   have hlt:i * s+j<es.length * s:=by
    have:(i+1) * s<=es.length * s:=Nat.mul_le_mul_right _ hi
    rw [Nat.add_mul] at this;omega
   have e1:(i * s+j) / s=i:=by rw [Nat.mul_comm,Nat.mul_add_div (by omega),Nat.div_eq_of_lt hj];rfl
   have e2:(i * s+j) % s=j:=by rw [Nat.mul_comm,Nat.mul_add_mod,Nat.mod_eq_of_lt hj]
   have:=hrf i j e c he hc'
   rw [Ajf,Ajv,List.getElem?_range hlt];simpa [e1,e2] using this
theorem kE {es es2:List FV} {olds news:List Value} {sz:Nat} (h1:olds.length=es.length * sz)
  (h3:∀i j e c,es[i]?=some e->e.cells[j]?=some c->RF w F c (olds.getD (i * sz+j) undef)) (h4:∀i j e c,es2[i]?=some e->e.cells[j]?=some c->RF w F c (news.getD (i * sz+j) undef))
  (h5:es≠[]->∀e∈es,e.cells.length=sz) (h6:es2≠[]->∀e∈es2,e.cells.length=sz) :
  (∀e∈es++es2,e.cells.length=sz)/\∀i j e c,(es++es2)[i]?=some e->e.cells[j]?=some c->RF w F c ((olds++news).getD (i * sz+j) undef):=by
 have hu:∀e∈es++es2,e.cells.length=sz:=fun e he=>by
  rcases Ajk.1 he with he | he
  ·exact h5 (fun h=>by rw [h] at he;cases he) e he
  ·exact h6 (fun h=>by rw [h] at he;cases he) e he
 refine ⟨hu,fun i j e c he hc=>?_⟩;have hj:j<sz:=by
  have:=(Ai7.1 hc).1
  rwa [hu e (Aje he)] at this
 by_cases hi:i<es.length
 ·rw [Ai9 hi] at he;have hlt:i * sz+j<olds.length:=by
   have:(i+1) * sz<=es.length * sz:=Nat.mul_le_mul_right _ hi
   rw [Nat.add_mul] at this;omega
  have:=h3 i j e c he hc
  rw [Ajf] at this ⊢;rwa [Ai9 hlt]
 ·rw [Ai8 (by omega)] at he
  have:=h4 _ j e c he hc
  have hge:olds.length<=i * sz+j:=by
   have:es.length * sz<=i * sz:=Nat.mul_le_mul_right _ (by omega)
   omega
  rw [Ajf] at this ⊢;rw [Ai8 hge];have e1:i * sz+j - olds.length=(i - es.length) * sz+j:=by
   rw [h1,Nat.sub_mul]
   have:es.length * sz<=i * sz:=Nat.mul_le_mul_right _ (by omega)
   omega
  rwa [e1]
theorem M0 {P:Program} {t xt ty e e2:TypeId} {ie:TypeInfo} {z:Value} (ht:P.underlying t=some (.slice e)) (hxt:P.underlying xt=some (.slice e2)) (hi:P.info? e=some ie) (hz:ie.zero=some z)
  {base:Option Addr} {sLen sCap:Nat} {x:Value} {n:Nat} (hx:Builtin.lenOf x=pure n) {olds news:List Value}
  (ho:∀w1:World,w1.heap=w.heap->(Builtin.firstCells ie.size sLen (.slice base sLen sCap)).run P w1=.ok olds.toArray w1) (hn:∀w1:World,w1.heap=w.heap->(Builtin.firstCells ie.size n x).run P w1=.ok news.toArray w1)
  (hb:(sLen+n) * ie.bytes<=140737488355328) (hlen:sLen+n<=1073741824) (hc:sCap<sLen+n) :
  (Builtin.append_ #[t,xt] ty #[.slice base sLen sCap,x]).run P w =
   .ok (.slice (some ⟨w.heap.size,0,none⟩) (sLen+n) (grownCap w (sLen+n) sCap e)) (w.drew.alloc (.cells (olds.toArray++news.toArray++Builtin.zeroCells z.cells (grownCap w (sLen+n) sCap e - (sLen+n))) e)):=by
 have hnc:¬ (sLen+n<=sCap):=by omega
 have h63:¬ (9223372036854775807<((sLen:Int)+(n:Int))):=by omega
 have hfit:=growslice_fits hc hb;have h48:¬ (281474976710656<Builtin.nextslicecap (sLen+n) sCap * ie.bytes):=by omega
 have ho1:=ho w.drew rfl;have hn1:=hn w.drew rfl;simp [Builtin.append_,run_underlying ht,run_underlying hxt,sizeOf,typeInfo,zeroValue,hi,hz,hx,hnc,h63,h48,Question.forced,ho1,hn1,newRow,grownCap];congr 2;apply Array.ext';simp [Ajs]
theorem Iv {P:Program} {t xt ty e e2:TypeId} {ie:TypeInfo} (ht:P.underlying t=some (.slice e)) (hxt:P.underlying xt=some (.slice e2)) (hi:P.info? e=some ie)
  {b:Addr} {sLen sCap:Nat} {x:Value} {n:Nat} (hx:Builtin.lenOf x=pure n) {news:List Value} (hn:(Builtin.firstCells ie.size n x).run P w=.ok news.toArray w) {w':World}
  (hst:(storeCells (b.add (sLen * ie.size)) news).run P w=.ok () w') (hc:sLen+n<=sCap) :
  (Builtin.append_ #[t,xt] ty #[.slice (some b) sLen sCap,x]).run P w=.ok (.slice (some b) (sLen+n) sCap) w':=by
 simp [Builtin.append_,run_underlying ht,run_underlying hxt,sizeOf,typeInfo,hi,hx,hc,hn,hst]
theorem Ld {P:Program} {t xt ty e e2:TypeId} {ie:TypeInfo} (ht:P.underlying t=some (.slice e)) (hxt:P.underlying xt=some (.slice e2)) (hi:P.info? e=some ie)
  {sLen sCap:Nat} {x:Value} {n:Nat} (hx:Builtin.lenOf x=pure n) {news:List Value} (hn:(Builtin.firstCells ie.size n x).run P w=.ok news.toArray w) (hc:sLen+n<=sCap) :
  (Builtin.append_ #[t,xt] ty #[.slice none sLen sCap,x]).run P w=.ok (.slice none (sLen+n) sCap) w:=by
 simp [Builtin.append_,run_underlying ht,run_underlying hxt,sizeOf,typeInfo,hi,hx,hc,hn]
end
section
variable {E:Env} {μ:Ref->Nat} {w:World} {F:B3} {hp hp':Hp} {slots:List IV} {a:Act} {ih:Ah} {f:FuncId} {rid i k:Nat} {m:Made} {o:Oper}
theorem Ri {sz:Nat}:∀{es:List FV} {p:Nat} {c:FV},(∀e∈es,e.cells.length=sz)->(es.flatMap FV.cells)[p]?=some c->∃i j e,p=i * sz+j/\es[i]?=some e/\e.cells[j]?=some c
 | [],p,c,_,h=>by simp at h
 | e::es,p,c,hu,h=>by
  simp only [List.flatMap_cons] at h;have he:=hu e Aji;by_cases hp:p<sz
  ·rw [Ai9 (by omega)] at h;exact ⟨0,p,e,by omega,rfl,h⟩
  ·rw [Ai8 (by omega),he] at h;obtain ⟨i,j,e',h1,h2,h3⟩:=Ri (fun e he=>hu e (Ajj _ he)) h;exact ⟨i+1,j,e',by rw [Nat.add_mul];omega,by simpa using h2,h3⟩
theorem HH {sz:Nat}:∀{es:List FV},(∀e∈es,e.cells.length=sz)->(es.flatMap FV.cells).length=es.length * sz
 | [],_=>by simp
 | e::es,hu=>by
  simp only [List.flatMap_cons,Ajg,Ai3,hu e Aji,HH fun e he=>hu e (Ajj _ he),Nat.add_mul];omega
theorem xC {v:FV} {x:Value} (h:RF w F v x) (ho:v.one=true):x.oneCell'=true:=by cases h<;>first | rfl | cases ho
theorem SW {es:List FV} {b cap sz:Nat} {all:List Value} {c:Array Value} {e:TypeId} (hg:w.heap[b]?=some (.cells c e (0,0))) (hne:es≠[]) (hcap:es.length<=cap) (hl:es.length * sz<=all.length) (hpre:∀j,j<all.length->c[j]?=all[j]?)
  (hF:∀i,i<es.length * sz->F b i) (hu:∀e∈es,e.cells.length=sz) (h:∀i j e c,es[i]?=some e->e.cells[j]?=some c->RF w F c (all.getD (i * sz+j) undef)) :
  RF w F (.sl es) (.slice (some ⟨b,0,none⟩) es.length cap):=by
 have hlt:∀i j,i<es.length->j<sz->i * sz+j<es.length * sz:=fun i j hi hj=>by
  have:(i+1) * sz<=es.length * sz:=Nat.mul_le_mul_right _ hi
  rw [Nat.add_mul] at this;omega
 exact .sl es b 0 sz cap (fun i j=>all.getD (i * sz+j) undef) hne hcap hu (fun i j hi hj=>by rw [Ajy];exact hF _ (hlt i j hi hj))
  (fun i j hi hj=>by
   have:=hlt i j hi hj
   rw [EG hg,Ajy,hpre _ (by omega),Ajf,Ai6 (by omega)];rfl) h
theorem Yj (hE:EnvOk E) (hr:HR μ w F hp) {t:TypeId} {xt:Option TypeId} {xt' ty:TypeId} (hxt:xt=some xt') {row:Bool} {s x:IV} {sv xv:Value} (hs:R μ w F hp s sv) (hx:R μ w F hp x xv)
  (h:(DK E k t xt row s x).run hp=some m) (h':A4 k hp m=some hp') :
  ∃z w' μ' F',(Builtin.append_ #[t,xt'] ty #[sv,xv]).run E.P w=.ok z w'/\Stp μ w F hp μ' w' F' hp'/\HR μ' w' F' hp'/\R μ' w' F' hp' m.eff.val z:=by
 subst hxt;simp only [DK,Ajt] at h;split at h
 ·rename_i e _ _ _ e2 _ htt hxtt;have hut:=C0 (hE.types _ _ htt);have huxt:=C0 (hE.types _ _ hxtt);split at h
  ·exact Ar h
  rename_i ei hte;have hTe:=hE.types _ _ hte;obtain ⟨ie,zv,hie,hz,hlz,hzl,hisz⟩:=Gy (μ:=μ) (w:=w) (F:=F) (hp:=hp) hTe;obtain ⟨ie',_,hie',_,hby,_⟩:=hTe.info
  have:ie'=ie:=by rw [hie] at hie';exact (Ajn hie').symm
  subst this;have hzsz:zv.cells.size=ei.size:=by rw [<- hlz.1];exact hzl
  obtain ⟨⟨fx,u⟩,e1,h⟩:=Rd.run_bind_some h;obtain ⟨mk,hfx⟩:=(KO hr 4096).1 _ _ fx u hx e1;simp only at h;split at h
  ·rename_i es2;split at h
   ·exact Ar h
   rename_i hc0;have hsz0:0<ei.size:=by omega
   have hd2:BI ei.size es2=true:=by
    cases hh:BI ei.size es2 with
    | true=>rfl
    | false=>exact absurd (.inr hh) hc0
   split at h
   ·exact Ar h
   rename_i es hes;split at h
   ·exact Ar h
   rename_i hc1;have hd1:BI ei.size es=true:=by
    cases hh:BI ei.size es with
    | true=>rfl
    | false=>exact absurd (.inl hh) hc1
   have hbytes:(es.length+es2.length) * ei.bytes<=140737488355328:=by omega
   have hlen:es.length+es2.length<=1073741824:=by omega
   have hlaid:∃hp1,laid hp u=some hp1/\(∀v,m.eff.upd=u++v->(laid hp1 v).bind (CV k m)=some hp'):=by
    have hu:∃v,m.eff.upd=u++v:=by
     split at h
     ·split at h
      ·simp only [Rd.run,AiZ] at h;subst h;exact ⟨[],by simp⟩
      ·split at h<;>(simp only [Rd.run,AiZ] at h;subst h;exact ⟨[],by simp⟩)
     ·split at h
      ·simp only [Rd.run,AiZ] at h;subst h;exact ⟨[],by simp⟩
      ·split at h<;>(simp only [Rd.run,AiZ] at h;subst h;exact ⟨[],by simp⟩)
     ·obtain ⟨b,hb,h⟩:=Rd.run_get_some h;split at h
      ·split at h
       ·simp only [Rd.run,AiZ] at h;subst h;exact ⟨_,rfl⟩
       ·exact Ar h
      ·exact Ar h
     ·exact Ar h
    obtain ⟨v,hv⟩:=hu;simp only [A4,hv,Hq] at h';cases hl:laid hp u with
    | none=>rw [hl] at h';cases h'
    | some hp1 =>
     rw [hl] at h';refine ⟨hp1,rfl,fun v' hv'=>?_⟩
     have:v=v':=List.append_cancel_left (hv.symm.trans hv')
     subst this;simpa using h'
   obtain ⟨hp1,hl1,hfin⟩:=hlaid;obtain ⟨s1,hr1⟩:=Fe hr mk hl1;have hs1:=hs.mono s1;have hes1:RF w (Ed μ u F) (.sl es) sv:=HY hs1 hes;have hx2:∃p2 cap2,xv=.slice p2 es2.length cap2:=by
    rcases Gb hfx with ⟨rfl,p,cap,rfl,_⟩ | ⟨_,b,base,sz,cap,vs,rfl,_⟩
    ·exact ⟨p,cap,rfl⟩
    ·exact ⟨_,cap,rfl⟩
   obtain ⟨p2,cap2,rfl⟩:=hx2;obtain ⟨news,n1,n2,n3,n4⟩:=Rg (P:=E.P) hfx hd2;have hs2:∃p cap,sv=.slice p es.length cap:=by
    rcases Gb hes1 with ⟨rfl,p,cap,rfl,_⟩ | ⟨_,b,base,sz,cap,vs,rfl,_⟩
    ·exact ⟨p,cap,rfl⟩
    ·exact ⟨_,cap,rfl⟩
   obtain ⟨p,cap,rfl⟩:=hs2;obtain ⟨olds,o1,o2,o3,o4⟩:=Rg (P:=E.P) hes1 hd1;obtain ⟨hu,hall⟩:=kE o1 o3 n3 o4 n4;have hlx:Builtin.lenOf (.slice p2 es2.length cap2)=pure es2.length:=rfl;have hjl:(es++es2).length=es.length+es2.length:=Ajg;have hall_len:(olds++news).length=(es.length+es2.length) * ei.size:=by rw [Ajg,o1,n1,Nat.add_mul]
   have grow:cap<es.length+es2.length->(Builtin.append_ #[t,xt'] ty #[.slice p es.length cap,.slice p2 es2.length cap2]).run E.P w =
     .ok (.slice (some ⟨w.heap.size,0,none⟩) (es++es2).length (grownCap w (es.length+es2.length) cap e))
      (w.drew.alloc (.cells (olds.toArray++news.toArray++Builtin.zeroCells zv.cells (grownCap w (es.length+es2.length) cap e - (es.length+es2.length))) e)):=fun hc=>by
    rw [hjl];exact M0 hut huxt hie hz hlx (by rw [hisz];exact o2) (by rw [hisz];exact n2) (by rw [hby];exact hbytes) hlen hc
   have hgc:es.length+es2.length<=grownCap w (es.length+es2.length) cap e:=grownCap_ge w _ cap e;generalize harr:(olds.toArray++news.toArray++Builtin.zeroCells zv.cells (grownCap w (es.length+es2.length) cap e - (es.length+es2.length)))=arr at grow;have harr_size:arr.size=grownCap w (es.length+es2.length) cap e * ei.size:=by rw [<- harr];simp only [Array.size_append,List.size_toArray,size_zeroCells,hzsz,o1,n1];rw [<- Nat.add_mul,<- Nat.add_mul];congr 1;omega
   have harr_pre:∀j,j<(olds++news).length->arr[j]?=(olds++news)[j]?:=fun j hj=>by
    rw [<- harr];have e1:olds.toArray++news.toArray=(olds++news).toArray:=by simp
    rw [e1,Array.getElem?_append_left (by simpa using hj)];simp
   obtain ⟨sd,hrd⟩:=Ra hr1;have hfits:(es.length+es2.length) * ei.size<=arr.size:=by rw [harr_size];exact Nat.mul_le_mul_right _ hgc
   have fresh:∀(hcap:cap=es.length) (h:(if es2.isEmpty then Rd.ret { eff:={ val:=s,upd:=u } }
      else if row then Rd.ret { eff:={ val:=.slc (.own k) ei.size (es++es2).length,upd:=u },new:=some (.row (((es++es2).flatMap FV.cells).map .fv) false) }
      else Rd.ret { eff:={ val:=.app (.own k) (es++es2),upd:=u },new:=some (.tok (es++es2).length ei.size) }:Rd Made).run hp=some m),
     ∃z w' μ' F',(Builtin.append_ #[t,xt'] ty #[.slice p es.length cap,.slice p2 es2.length cap2]).run E.P w=.ok z w'/\Stp μ w F hp μ' w' F' hp'/\HR μ' w' F' hp'/\R μ' w' F' hp' m.eff.val z:=by
    intro hcap h;by_cases h0:es2=[]
    ·subst h0;simp only [List.isEmpty_nil,if_true,Rd.run,AiZ] at h;subst h
     have:=hfin [] (by simp)
     simp only [laid,CV,Ajt,AiZ] at this;subst this;have hnews:news=[]:=Aja (by simpa using n1);subst hnews;have hn:=n2 w rfl;refine ⟨.slice p es.length cap,w,μ,_,?_,s1,hr1,hs1⟩;cases p with
     | none=>exact Ld hut huxt hie hlx (by rw [hisz];exact hn) (by simp;omega)
     | some b=>exact Iv hut huxt hie hlx (by rw [hisz];exact hn) (by simp [storeCells]) (by simp;omega)
    ·have hne:es2.isEmpty=false:=by cases es2<;>simp_all
     have hpos:0<es2.length:=by cases es2<;>simp_all
     simp only [hne,Ajx,if_false] at h;have hg:=grow (by omega);have hne2:es++es2≠[]:=by simp [h0]
     cases row with
     | true =>
      simp only [if_true,Rd.run,AiZ] at h;subst h;have hf:=hfin [] (by simp);simp only [laid,CV,Ajt] at hf;split at hf
      ·cases hf
      rename_i hk;simp only [AiZ] at hf;subst hf;obtain ⟨μ',F',q1,q2,q3⟩:=HV hrd k hk arr e (((es++es2).flatMap FV.cells).map .fv) (by rw [Ajw,HH hu,hjl];exact hfits) (fun j y hy=>by
       simp only [Ajv,Ai1] at hy;obtain ⟨c,hc,rfl⟩:=hy;obtain ⟨i',j',e',g1,g2,g3⟩:=Ri hu hc;have hlt:j<(olds++news).length:=by
        have:=(Ai7.1 hc).1
        rw [HH hu,hjl] at this;rw [hall_len];exact this
       have hv:=hall i' j' e' c g2 g3;rw [<- g1] at hv;rw [Ajd,harr_pre j hlt,<- Ajf];exact .fv _ _ (hv.mono sd.ws sd.sub))
      refine ⟨_,_,μ',F',hg,(s1.trans sd).trans q1,q2,?_⟩
      have:=R.slc (μ:=μ') (w:=w.drew.alloc (.cells arr e)) (F:=F') (hp:=hp1.set (.own k) (.row (((es++es2).flatMap FV.cells).map .fv) false)) (.own k) ei.size (es++es2).length (grownCap w (es.length+es2.length) cap e) ⟨_,_,Cd _ _ _⟩ (by rw [hjl];exact hgc)
      rw [q3] at this;exact this
     | false =>
      simp only [Ajx,if_false,Rd.run,AiZ] at h;subst h;have hf:=hfin [] (by simp);simp only [laid,CV,Ajt] at hf;split at hf
      ·cases hf
      rename_i hk;simp only [AiZ] at hf;subst hf;obtain ⟨q1,q2,q3⟩:=OD hrd (.own k) (es++es2).length ei.size (.inl ⟨hk,k,rfl⟩) arr e (by rw [hjl];omega) hsz0 (by rw [hjl];exact hfits);refine ⟨_,_,_,_,hg,(s1.trans sd).trans q1,q2,?_⟩;have hheap:(w.drew.alloc (.cells arr e)).heap[w.heap.size]?=some (.cells arr e (0,0)):=by rw [DA,if_pos (show w.heap.size=w.drew.heap.size from rfl)]
      have hrow:=SW (F:=fun c i=>Ed μ u F c i\/(c=w.drew.heap.size/\i<(es++es2).length * ei.size)) hheap hne2 (cap:=grownCap w (es.length+es2.length) cap e) (by rw [hjl];exact hgc) (by rw [hjl,hall_len];exact AjA _) harr_pre
       (fun i hi=>.inr ⟨rfl,hi⟩) hu (fun i j e' c he hc=>((hall i j e' c he hc).mono sd.ws sd.sub).mono q1.ws q1.sub)
      exact .app _ _ _ hrow hne2 ⟨_,_,q3,AjA _,fun _=>⟨_,arr,e,by rw [Cg];rfl,by rw [Cg];exact hheap,by rw [hjl];exact hgc,by rw [harr_size];exact AjA _,hu⟩⟩
   split at h
   ·simp only [Cm,AiZ] at hes;subst hes;have hcap:cap=0:=by cases hs;rfl
    exact fresh hcap h
   ·rename_i es' _;simp only [Cm,AiZ] at hes;subst hes;have hcap:cap=es'.length:=by cases hs<;>rfl
    exact fresh hcap h
   ·rename_i r es' _;simp only [Cm,AiZ] at hes;subst hes;obtain ⟨b,hb,h⟩:=Rd.run_get_some h;split at h
    ·rename_i n sz;split at h
     ·rename_i hcnd;obtain ⟨c1,c2,c3⟩:=hcnd;simp only [Rd.run,AiZ] at h;subst h;have hf:=hfin [(r,.tok (n+es2.length) sz)] rfl;obtain ⟨n',hb1,hle1,_⟩:=s1.tok r n sz hb;have hb1':hp1.get r=some (.tok n sz):=by
       rw [FA u hp hp1 hl1 r (fun q hq e=>by
        obtain ⟨cs,ro,g1,_⟩:=mk q hq;rw [e,hb] at g1;cases g1)]
       exact hb
      simp only [laid,CV,hb1',Ajt,AiZ] at hf;subst hf;cases hs1 with | app _ _ _ _ hne hfr =>
      obtain ⟨n0,sz0,g1,g2,g3⟩:=hfr;rw [hb1'] at g1;cases g1;obtain ⟨cap',c,e',g4,g5,g6,g7,g8⟩:=g3 c1;cases g4;have hn0:0<n:=(hr1.blk r _ hb1').1;have hne2:es'++es2≠[]:=by simp [hne]
      by_cases hroom:es'.length+es2.length<=cap
      ·-- in place
       have hfit:es'.length * ei.size+news.length<=c.size:=by rw [n1,<- Nat.add_mul];exact Nat.le_trans (Nat.mul_le_mul_right _ hroom) (by rw [<- c2];exact g7)
       have hst:=run_storeCells_at (P:=E.P) (μ r) (es'.length * ei.size) e' news 0 c w g5 (by omega) (fun v hv=>by
        obtain ⟨q,hq,rfl⟩:=List.getElem_of_mem hv;rw [n1] at hq;have h1:q / ei.size<es2.length:=(Nat.div_lt_iff_lt_mul hsz0).2 hq;have h2:q % ei.size<ei.size:=Nat.mod_lt _ hsz0;have hne3:es2≠[]:=fun e=>by rw [e] at h1;simp at h1
        have he:=n4 hne3 es2[q / ei.size] (List.getElem_mem h1);have hrf:=n3 (q / ei.size) (q % ei.size) es2[q / ei.size] (es2[q / ei.size].cells[q % ei.size]'(by omega)) (Ai6 h1) (Ai6 (by omega));have h4:q / ei.size * ei.size+q % ei.size=q:=by rw [Nat.mul_comm];exact Nat.div_add_mod q ei.size
        rw [h4,Ajf,Ai6 (by omega)] at hrf;simp only [Option.getD_some] at hrf;have hone:=Ajl.1 (Ajl.1 c3 _ (List.getElem_mem h1)) _ (List.getElem_mem (by omega:q % ei.size<es2[q / ei.size].cells.length));exact xC hrf hone)
       simp only [AjB] at hst;obtain ⟨p1,p2'⟩:=RP c news.toArray (es'.length * ei.size) (by simpa using hfit);simp only [List.size_toArray] at p1 p2';obtain ⟨q1,q2⟩:=cT hr1 r n (n+es2.length) sz c (c.toList.take (es'.length * ei.size)++news++c.toList.drop (es'.length * ei.size+news.length)).toArray e' hb1' g5 p1 (by omega)
        (by rw [c1,c2];exact Nat.le_trans (Nat.mul_le_mul_right _ hroom) (by rw [<- c2];exact g7))
        (fun o ho=>by
         have ho':o<es'.length * ei.size:=by rw [<- c1,<- c2];exact ho
         simp only [List.getElem?_toArray];rw [Ajs,Ai9 (by simp;omega),List.getElem?_take,if_pos ho'];simp)
       have hrun:=Iv (P:=E.P) (t:=t) (xt:=xt') (ty:=ty) (sCap:=cap) (b:=⟨μ r,0,none⟩) hut huxt hie hlx (by rw [hisz];exact n2 w rfl) (by rw [hisz,Addr.add_lit,Ajy];exact hst) hroom;have hsame:=B9 hp1 r (.tok (n+es2.length) sz) (by rw [hb1'];rfl);refine ⟨_,_,_,_,hrun,s1.trans q1,q2,?_⟩;have hheap:(w.setRow (μ r) (c.toList.take (es'.length * ei.size)++news++c.toList.drop (es'.length * ei.size+news.length)).toArray).heap[μ r]?=some (.cells (c.toList.take (es'.length * ei.size)++news++c.toList.drop (es'.length * ei.size+news.length)).toArray e' (0,0)):=by rw [Cf];simp [g5]
       have hpre:∀j,j<(olds++news).length->(c.toList.take (es'.length * ei.size)++news++c.toList.drop (es'.length * ei.size+news.length)).toArray[j]?=(olds++news)[j]?:=fun j hj=>by
        have h5:=o2 w rfl;have h6:=run_firstCells_some (P:=E.P) w ei.size es'.length ⟨μ r,0,none⟩ es'.length cap (c.toList.take (es'.length * ei.size)) (by simp;rw [c2] at g7;have:=Nat.mul_le_mul_right ei.size g6;omega) (fun j' v hv=>by
         rw [List.getElem?_take] at hv;split at hv
         ·rw [Addr.add_lit,EG g5,Ajy];simpa using hv
         ·cases hv)
        rw [h5] at h6
        injection h6 with h7 _
        have h8:c.toList.take (es'.length * ei.size)=olds:=by have:=congrArg Array.toList h7;simpa using this.symm
        simp only [List.getElem?_toArray,h8];exact Ai9 hj
       have hrow:=SW (F:=fun b i=>Ed μ u F b i\/(b=μ r/\i<(n+es2.length) * sz)) hheap hne2 (cap:=cap) (by rw [hjl];exact hroom) (by rw [hjl,hall_len];exact AjA _) hpre
        (fun i hi=>.inr ⟨rfl,by rw [c1,c2,<- hjl];exact hi⟩) hu (fun i j e'' c'' he hc=>(hall i j e'' c'' he hc).mono q1.ws q1.sub)
       rw [hjl] at hrow;refine .app _ _ _ hrow hne2 ⟨_,_,hsame,by rw [hjl];omega,fun _=>⟨cap,_,e',by rw [hjl],hheap,by rw [hjl];exact hroom,by rw [List.size_toArray,p1];exact g7,?_⟩⟩;rw [c2];exact hu
      ·-- a new row
       have hg:=grow (by omega);obtain ⟨q1,q2,q3⟩:=OD hrd r (n+es2.length) sz (.inr ⟨n,sz,hb1',by omega,rfl⟩) arr e (by omega) (by omega) (by rw [c1,c2];exact hfits);refine ⟨_,_,_,_,hg,(s1.trans sd).trans q1,q2,?_⟩;have hheap:(w.drew.alloc (.cells arr e)).heap[w.heap.size]?=some (.cells arr e (0,0)):=by rw [DA,if_pos (show w.heap.size=w.drew.heap.size from rfl)]
       have hrow:=SW (F:=fun c i=>Ed μ u F c i\/(c=w.drew.heap.size/\i<(n+es2.length) * sz)) hheap hne2 (cap:=grownCap w (es'.length+es2.length) cap e) (by rw [hjl];exact hgc) (by rw [hjl,hall_len];exact AjA _) harr_pre
        (fun i hi=>.inr ⟨rfl,by rw [c1,c2,<- hjl];exact hi⟩) hu (fun i j e'' c'' he hc=>((hall i j e'' c'' he hc).mono sd.ws sd.sub).mono q1.ws q1.sub)
       refine .app _ _ _ hrow hne2 ⟨_,_,q3,by rw [hjl];omega,fun _=>⟨_,arr,e,by rw [Cg];rfl,by rw [Cg];exact hheap,by rw [hjl];exact hgc,by rw [harr_size,c2];exact AjA _,?_⟩⟩;rw [c2];exact hu
     ·exact Ar h
    ·exact Ar h
   ·exact Ar h
  ·exact Ar h
 ·exact Ar h
end
section
variable {E:Env} {μ:Ref->Nat} {w:World} {F:B3} {hp hp':Hp} {slots:List IV} {a:Act} {ih:Ah} {f:FuncId} {rid i:Nat} {m:Made} {o:Oper}
theorem j8 {x:IV} {u:Value} {es:List FV} (h:R μ w F hp x u) (e:Cm x=some es):∃p c,u=.slice p es.length c:=by
 rcases Gb (HY h e) with ⟨rfl,p,c,rfl,_⟩ | ⟨_,b,base,_,cap,_,rfl,_⟩
 ·exact ⟨p,c,rfl⟩
 ·exact ⟨_,cap,rfl⟩
theorem Uh (hE:EnvOk E) (hr:HR μ w F hp) (hs:SlotsR μ w F hp slots a.tmps) {b:Builtin} {args:Array Operand} {ts:Array TypeId} (ho:o.op=.call { callee:=.builtin b,args:=args,argTypes:=ts })
  (h:(Eb E ih f rid i slots o.op).run hp=some m) (h':A4 (Bt f rid i) hp m=some hp'):D7 μ w F hp m.eff.val hp' ((execOp a.eval o).run E.P w):=by
 simp only [ho,Eb,C9] at h;have hex:∃k,(execOp a.eval o).run E.P w=(builtin b ts o.type k (args.map a.eval)).run E.P w :=⟨_,by simp only [execOp,ho,resolve,invoke,Sem.run_bind,Sem.run_pure,Result.andThen_ok];rfl⟩
 obtain ⟨kc,hex⟩:=hex;have hops:∀j y,(args.toList.map (AG slots))[j]?=some y->R μ w F hp y ((args.map a.eval).getD j undef):=IQ hs args;have hlen:(args.toList.map (AG slots)).length=(args.map a.eval).size:=by simp
 generalize hxs:args.toList.map (AG slots)=xs at h hops hlen;generalize hvs:args.map a.eval=vs at hex hops hlen;unfold AT at h;split at h
 ·rename_i t x hts;have htsa:ts=#[t]:=by apply Array.ext';exact hts
  subst htsa;obtain ⟨v,hv⟩:∃v,vs=#[v]:=by
   match vs,hlen with
   | ⟨[v]⟩,_=>exact ⟨v,rfl⟩
  subst hv;have hx:=hops 0 x rfl;simp only [Ajd,List.getElem?_toArray,Ajb,Option.getD_some] at hx;split at h
  ·rename_i s htt;have hut:=Jz (hE.types _ _ htt);obtain ⟨e1,rfl⟩:=Bx h h';cases hx with | fv _ _ hx =>cases hx;rw [e1];refine .val hr (.fv _ _ (.int _ _)) ?_;rw [hex];simp [builtin,Builtin.len_,run_underlying hut,goInt]
  ·rename_i e _ _ htt;have hut:=C0 (hE.types _ _ htt);split at h
   ·rename_i r sz n;obtain ⟨e1,rfl⟩:=Bx h h';cases hx with | slc _ _ _ cap _ _ =>rw [e1];refine .val hr (.fv _ _ (.int _ _)) ?_;rw [hex];simp [builtin,Builtin.len_,run_underlying hut,goInt]
   ·obtain ⟨e1,rfl⟩:=B2 h h';simp only [Ai1] at e1;obtain ⟨es,e1,e2⟩:=e1;obtain ⟨p,c,rfl⟩:=j8 hx e1;rw [<- e2];refine .val hr (.fv _ _ (.int _ _)) ?_;rw [hex];simp [builtin,Builtin.len_,run_underlying hut,goInt]
  ·exact Ar h
 ·rename_i t xt s x hts;have htsa:ts=#[t,xt]:=by apply Array.ext';exact hts
  subst htsa;obtain ⟨v,u,hv⟩:∃v u,vs=#[v,u]:=by
   match vs,hlen with
   | ⟨[v,u]⟩,_=>exact ⟨v,u,rfl⟩
  subst hv;have hs0:=hops 0 s rfl;have hx0:=hops 1 x rfl;simp only [Ajd,List.getElem?_toArray,Ajb,Ajc,Option.getD_some] at hs0 hx0;obtain ⟨z,w',μ',F',h1,h2,h3,h4⟩:=Yj (ty:=o.type) hE hr rfl hs0 hx0 h h';refine ⟨z,w',μ',F',.inl ?_,h2,h3,h4⟩;rw [hex];simp [builtin,h1]
 ·rename_i kk x ll y _;obtain ⟨v,u,hv⟩:∃v u,vs=#[v,u]:=by
   match vs,hlen with
   | ⟨[v,u]⟩,_=>exact ⟨v,u,rfl⟩
  subst hv;have hs0:=hops 0 _ rfl;have hx0:=hops 1 _ rfl;simp only [Ajd,List.getElem?_toArray,Ajb,Ajc,Option.getD_some] at hs0 hx0;obtain ⟨e1,rfl⟩:=Bx h h';cases hs0 with | fv _ _ hs0 =>
  cases hx0 with | fv _ _ hx0 =>
  cases hs0;cases hx0;rw [e1];refine .val hr (.fv _ _ (.int _ _)) ?_;rw [hex];simp [builtin,Builtin.max_,Builtin.max2]
 ·rename_i kk x ll y _;obtain ⟨v,u,hv⟩:∃v u,vs=#[v,u]:=by
   match vs,hlen with
   | ⟨[v,u]⟩,_=>exact ⟨v,u,rfl⟩
  subst hv;have hs0:=hops 0 _ rfl;have hx0:=hops 1 _ rfl;simp only [Ajd,List.getElem?_toArray,Ajb,Ajc,Option.getD_some] at hs0 hx0;obtain ⟨e1,rfl⟩:=Bx h h';cases hs0 with | fv _ _ hs0 =>
  cases hx0 with | fv _ _ hx0 =>
  cases hs0;cases hx0;rw [e1];refine .val hr (.fv _ _ (.int _ _)) ?_;rw [hex];simp [builtin,Builtin.min_,Builtin.min2]
 ·exact Ar h
def eN:Op->Bool
 | .call { callee:=.value _,.. }=>true
 | _=>false
theorem Ab7 (hE:EnvOk E) (hr:HR μ w F hp) (hs:SlotsR μ w F hp slots a.tmps) (hnc:eN o.op=false)
  (h:(Eb E ih f rid i slots o.op).run hp=some m) (h':A4 (Bt f rid i) hp m=some hp'):D7 μ w F hp m.eff.val hp' ((execOp a.eval o).run E.P w):=by
 cases ho:o.op with
 | move x=>rw [ho] at h;exact WE hr hs (.inl ho) h h'
 | assign x=>rw [ho] at h;exact WE hr hs (.inr ho) h h'
 | pick c x y=>exact i6 hr hs ho h h'
 | alloc t=>exact aR hE hr ho h h'
 | box t x=>exact yW hr hs ho h h'
 | build t ps=>exact aY hE hr hs ho h h'
 | buildSlice t n ps=>exact Nv hE hr hs ho h h'
 | load t x=>exact kM hE hr hs ho h h'
 | store t x y=>exact aB hE hr hs ho h h'
 | nilCheck x=>exact R3 hr hs ho h h'
 | binOp op t x y u=>exact ZM hE hr hs ho h h'
 | unOp op t x=>exact oE hr hs ho h h'
 | convert s d x=>exact Ti hE hr hs ho h h'
 | makeFunc fn x y=>exact RG hr hs ho h h'
 | makeMap t r =>
  cases r with
  | none=>exact TQ hr ho h h'
  | some r=>rw [ho] at h;exact Ar h
 | makeSlice t x y=>exact Qn hE hr hs ho h h'
 | slice t x lo hi mx=>exact bY hE hr hs ho h h'
 | fieldAddr s x n=>exact QJ hE hr hs ho h h'
 | field s x n=>exact cF hE hr hs ho h h'
 | indexAddr t x y=>exact QP hE hr hs ho h h'
 | index t x y=>exact eT hE hr hs ho h h'
 | lookup t x y ok=>exact YQ hE hr hs ho h h'
 | mapUpdate t x y z=>rw [ho] at h;exact Ox (ih:=ih) (f:=f) (rid:=rid) (i:=i) hE hr hs (.inr ho) h h'
 | insert t x y z=>rw [ho] at h;exact Ox (ih:=ih) (f:=f) (rid:=rid) (i:=i) hE hr hs (.inl ho) h h'
 | extract x n=>exact Um hr hs ho h h'
 | call c =>
  obtain ⟨cl,args,ts⟩:=c;cases cl with
  | builtin b=>exact Uh hE hr hs ho h h'
  | value g=>rw [ho] at hnc;cases hnc
  | invoke r n=>rw [ho] at h;exact Ar h
 | _=>rw [ho] at h;exact Ar h
end
def cY (E:Env) (μ:Ref->Nat) (w:World) (F:B3) (hp:Hp) (f:FuncId) (vals:Array Value) (res:IV) (hp':Hp):Prop :=Calls E.P f vals w fun e w'=>∃v μ' F',e=.returned v/\Stp μ w F hp μ' w' F' hp'/\HR μ' w' F' hp'/\R μ' w' F' hp' res v
def R2 (E:Env) (ih:Ah):Prop:=∀f args hp res hp',ih f args hp=some (res,hp')->(∃fn,E.P.funcs[f]?=some fn/\fn.body.isSome) /\
 ∀μ w F vals,HR μ w F hp->SlotsR μ w F hp args vals->cY E μ w F hp f vals res hp'
structure Nm (ρ:Ref->Option Ref) (μ:Ref->Nat) (hp:Hp) (μ':Ref->Nat) (hp':Hp):Prop where
 row:∀r r' cs ro,ρ r=some r'->hp.get r=some (.row cs ro)->(∃cs' ro',hp'.get r'=some (.row cs' ro'))/\μ' r'=μ r
 map:∀r r' es,ρ r=some r'->hp.get r=some (.map es)->(∃es',hp'.get r'=some (.map es'))/\μ' r'=μ r
 tok:∀r r' n sz,ρ r=some r'->hp.get r=some (.tok n sz)->hp'.get r'=some (.tok n sz)/\μ' r'=μ r
theorem DN {ρ:Ref->Option Ref}:∀{cs cs':List IV},IV.ren.renL ρ cs=some cs'->cs'.length=cs.length/\∀(j:Nat) (y':IV),cs'[j]?=some y'->∃y:IV,cs[j]?=some y/\y.ren ρ=some y'
 | [],cs',h=>by simp only [IV.ren.renL,AiZ] at h;subst h;exact ⟨rfl,fun j y' hy=>by simp at hy⟩
 | v::l,cs',h=>by
  simp only [IV.ren.renL,Aju,Ai1] at h;obtain ⟨v',h1,l',h2,rfl⟩:=h;obtain ⟨e1,e2⟩:=DN h2;refine ⟨by simp [e1],fun j y' hy=>?_⟩;cases j with
  | zero=>simp at hy;subst hy;exact ⟨v,rfl,h1⟩
  | succ j=>obtain ⟨y,g1,g2⟩:=e2 j y' (by simpa using hy);exact ⟨y,by simpa using g1,g2⟩
section
variable {E:Env} {μ μ':Ref->Nat} {w:World} {F:B3} {hp hp':Hp} {ρ:Ref->Option Ref}
theorem V1 (nm:Nm ρ μ hp μ' hp') {v:IV} {x:Value} (h:R μ w F hp v x):∀v',v.ren ρ=some v'->R μ' w F hp' v' x:=by
 induction h with
 | dead x=>intro v' e;simp only [IV.ren,AiZ] at e;subst e;exact .dead x
 | fv v x h=>intro v' e;simp only [IV.ren,AiZ] at e;subst e;exact .fv v x h
 | ptr r off h =>intro v' e;simp only [IV.ren,Ai1] at e;obtain ⟨r',h1,rfl⟩:=e;obtain ⟨cs,ro,h⟩:=h;obtain ⟨h2,h3⟩:=nm.row r r' cs ro h1 h;rw [<- h3];exact .ptr r' off h2
 | slc r sz len cap h hle =>intro v' e;simp only [IV.ren,Ai1] at e;obtain ⟨r',h1,rfl⟩:=e;obtain ⟨cs,ro,h⟩:=h;obtain ⟨h2,h3⟩:=nm.row r r' cs ro h1 h;rw [<- h3];exact .slc r' sz len cap h2 hle
 | nils=>intro v' e;simp only [IV.ren,AiZ] at e;subst e;exact .nils
 | emp a cap=>intro v' e;simp only [IV.ren,AiZ] at e;subst e;exact .emp a cap
 | clip es a h=>intro v' e;simp only [IV.ren,AiZ] at e;subst e;exact .clip es a h
 | clip0 a=>intro v' e;simp only [IV.ren,AiZ] at e;subst e;exact .clip0 a
 | app r es x hx hne h =>
  intro v' e;simp only [IV.ren,Ai1] at e;obtain ⟨r',h1,rfl⟩:=e;obtain ⟨n,sz,h2,h3,h4⟩:=h;obtain ⟨h5,h6⟩:=nm.tok r r' n sz h1 h2;refine .app r' es x hx hne ⟨n,sz,h5,h3,fun e=>?_⟩
  have:=h4 e
  unfold rE at this ⊢;rw [h6];exact this
 | func fn a b x y ha hb h1 h2 ih1 ih2 =>
  intro v' e;simp only [IV.ren,Aju,Ai1] at e;obtain ⟨a',e1,b',e2,rfl⟩:=e;obtain ⟨l1,g1⟩:=DN e1;obtain ⟨l2,g2⟩:=DN e2;refine .func fn a' b' x y (by omega) (by omega) (fun j c hc=>?_) (fun j c hc=>?_)
  ·obtain ⟨y',q1,q2⟩:=g1 j c hc;exact ih1 j y' q1 c q2
  ·obtain ⟨y',q1,q2⟩:=g2 j c hc;exact ih2 j y' q1 c q2
 | agg cs x hl h ih =>intro v' e;simp only [IV.ren,Ai1] at e;obtain ⟨a',e1,rfl⟩:=e;obtain ⟨l1,g1⟩:=DN e1;refine .agg a' x (by omega) (fun j c hc=>?_);obtain ⟨y',q1,q2⟩:=g1 j c hc;exact ih j y' q1 c q2
 | tuple cs x hl h ih =>intro v' e;simp only [IV.ren,Ai1] at e;obtain ⟨a',e1,rfl⟩:=e;obtain ⟨l1,g1⟩:=DN e1;refine .tuple a' x (by omega) (fun j c hc=>?_);obtain ⟨y',q1,q2⟩:=g1 j c hc;exact ih j y' q1 c q2
 | mapr r h =>intro v' e;simp only [IV.ren,Ai1] at e;obtain ⟨r',h1,rfl⟩:=e;obtain ⟨es,h⟩:=h;obtain ⟨h2,h3⟩:=nm.map r r' es h1 h;rw [<- h3];exact .mapr r' h2
def I5:Blk->Blk->Prop
 | .row cs ro,.row ds ro'=>cs.length=ds.length/\ro=ro'
 | .tok n sz,.tok m sz'=>n=m/\sz=sz'
 | .map _,.map _=>True
 | _,_=>False
theorem OX {b b':Blk} (h:b.ren ρ=some b'):I5 b b':=by
 cases b with
 | row cells ro =>simp only [Blk.ren,Ai1] at h;obtain ⟨c,h1,rfl⟩:=h;exact ⟨(DN h1).1.symm,rfl⟩
 | tok n sz=>simp only [Blk.ren,AiZ] at h;subst h;exact ⟨rfl,rfl⟩
 | map es =>
  simp only [Blk.ren,Ai1] at h;obtain ⟨c,h1,rfl⟩:=h
  trivial
theorem gT (nm:Nm ρ μ hp μ' hp') {r r':Ref} {b b':Blk} (h:BR μ w F hp r b) (e:b.ren ρ=some b') (hμ:μ' r'=μ r):BR μ' w F hp' r' b':=by
 cases b with
 | row cells ro =>simp only [Blk.ren,Ai1] at e;obtain ⟨cs,h1,rfl⟩:=e;obtain ⟨l1,g1⟩:=DN h1;obtain ⟨c,e',h2,h3,h4,h5,h6⟩:=h;refine ⟨c,e',by rw [hμ];exact h2,by omega,fun j x hx=>?_,fun hr o=>by rw [hμ];exact h5 hr o,fun hr o ho=>by rw [hμ];exact h6 hr o (by omega)⟩;obtain ⟨y,q1,q2⟩:=g1 j x hx;exact V1 nm (h4 j y q1) x q2
 | tok n sz =>simp only [Blk.ren,AiZ] at e;subst e;obtain ⟨h1,h2,c,e',h3,h4,h5⟩:=h;exact ⟨h1,h2,c,e',by rw [hμ];exact h3,h4,fun o=>by rw [hμ];exact h5 o⟩
 | map es =>simp only [Blk.ren,Ai1] at e;obtain ⟨cs,h1,rfl⟩:=e;obtain ⟨l1,g1⟩:=DN h1;obtain ⟨arr,clk,h2,h3,h4⟩:=h;simp only [Ajw] at l1;refine ⟨arr,clk,by rw [hμ];exact h2,by simp [l1,h3],fun j n x hx=>?_⟩;rw [List.getElem?_zip_eq_some] at hx;obtain ⟨hx1,hx2⟩:=hx;obtain ⟨y,q1,q2⟩:=g1 j x hx2;simp only [Ajv,Ai1] at hx1 q1;obtain ⟨p,p1,p2⟩:=hx1;obtain ⟨q,q3,q4⟩:=q1;rw [p1] at q3;cases q3;obtain ⟨me,m1,m2,m3⟩:=h4 j n y (by rw [p1,<- p2,<- q4]);exact ⟨me,m1,m2,V1 nm m3 x q2⟩
theorem Dv:∀{l l':List Blk},Bg ρ l=some l'->l'.length=l.length/\∀(j:Nat) (b':Blk),l'[j]?=some b'->∃b:Blk,l[j]?=some b/\b.ren ρ=some b'
 | [],l',h=>by simp only [Bg,AiZ] at h;subst h;exact ⟨rfl,fun j b' hb=>by simp at hb⟩
 | b::l,l',h=>by
  simp only [Bg,Aju,Ai1] at h;obtain ⟨v',h1,l'',h2,rfl⟩:=h;obtain ⟨e1,e2⟩:=Dv h2;refine ⟨by simp [e1],fun j y' hy=>?_⟩;cases j with
  | zero=>simp at hy;subst hy;exact ⟨b,rfl,h1⟩
  | succ j=>obtain ⟨y,g1,g2⟩:=e2 j y' (by simpa using hy);exact ⟨y,by simpa using g1,g2⟩
end
theorem IG {r:Ref}:∀{l:List (Ref×Blk)},hasRef r l=true ↔ ∃p∈l,p.1=r
 | []=>by simp [hasRef]
 | (s,b)::l=>by
  simp only [hasRef,Bool.or_eq_true,decide_eq_true_eq,IG (l:=l),Ajp];constructor
  ·rintro (h | ⟨p,h1,h2⟩)
   ·exact ⟨(s,b),.inl rfl,h.symm⟩
   ·exact ⟨p,.inr h1,h2⟩
  ·rintro ⟨p,h1 | h1,h2⟩
   ·subst h1;exact .inl h2.symm
   ·exact .inr ⟨p,h1,h2⟩
def uG (hp:Hp) (l:List (Ref×Blk)):Prop:=(∀p∈l,hp.get p.1=some p.2)/\(BB l).Nodup
theorem ID {hp:Hp}:∀(n:Nat) (todo:List Ref) (done l:List (Ref×Blk)),(B4 n todo done).run hp=some l->uG hp done->uG hp l
 | 0,_,_,_,h,_=>by simp only [B4,Rd.run] at h;cases h
 | n+1,[],done,l,h,hd=>by simp only [B4,Rd.run,AiZ] at h;subst h;exact hd
 | n+1,r::rest,done,l,h,hd=>by
  simp only [B4] at h;split at h
  ·exact ID n rest done l h hd
  ·rename_i hn;obtain ⟨b,hb,h⟩:=Rd.run_get_some h;refine ID n _ _ l h ⟨fun p hp'=>?_,?_⟩
   ·rcases Ajk.1 hp' with h1 | h1
    ·exact hd.1 p h1
    ·simp only [List.mem_singleton] at h1;subst h1;exact hb
   ·show ((done++[(r,b)]).map (·.1)).Nodup
    rw [List.map_append,List.nodup_append];refine ⟨hd.2,by simp,fun x hx y hy=>?_⟩;simp only [Ai5,Ai4,List.mem_singleton] at hy;subst hy;intro e;subst e;simp only [List.mem_map] at hx;obtain ⟨p,p1,p2⟩:=hx;exact hn (IG.2 ⟨p,p1,p2⟩)
theorem FN {r:Ref}:∀{l:List (Ref×Blk)} {i j:Nat},Cs r l i=some j->∃b,l[j - i]?=some (r,b)/\i<=j
 | [],i,j,h=>by cases h
 | (s,b)::l,i,j,h=>by
  simp only [Cs] at h;split at h
  ·rename_i e;subst e;simp only [AiZ] at h;subst h;exact ⟨b,by simp,AjA _⟩
  ·obtain ⟨b',h1,h2⟩:=FN h;exact ⟨b',by rw [show j - i=(j - (i+1))+1 by omega];simpa using h1,by omega⟩
theorem ZU {l:List (Ref×Blk)} {r r':Ref} (h:D6 l r=some r'):∃j b,r'=.ext j/\l[j]?=some (r,b):=by simp only [D6,Ai1] at h;obtain ⟨j,h1,rfl⟩:=h;obtain ⟨b,h2,_⟩:=FN h1;exact ⟨j,b,rfl,by simpa using h2⟩
theorem Zr {l:List (Ref×Blk)} {r r':Ref} (h:CF l r=some r'):∃j b,r=.ext j/\l[j]?=some (r',b):=by
 cases r with
 | own k=>cases h
 | ext j =>simp only [CF,Ai1] at h;obtain ⟨p,h1,rfl⟩:=h;exact ⟨j,p.2,rfl,h1⟩
theorem Kj {l:List (Ref×Blk)} (h:(BB l).Nodup) {i j:Nat} {p q:Ref×Blk} (hi:l[i]?=some p) (hj:l[j]?=some q) (e:p.1=q.1):i=j:=by
 have h1:(BB l)[i]?=some p.1:=by simp [BB,hi]
 have h2:(BB l)[j]?=some q.1:=by simp [BB,hj]
 rw [<- e] at h2;have hil:i<(BB l).length:=(Ai7.1 h1).1;have hjl:j<(BB l).length:=(Ai7.1 h2).1;rw [Ai6 hil] at h1;rw [Ai6 hjl] at h2;exact (List.getElem_inj (h₀:=hil) (h₁:=hjl) h).1 (Ajn (h1.trans h2.symm))
section
variable {E:Env} {μ:Ref->Nat} {w:World} {F:B3} {hp:Hp}
theorem aC:∀n:Nat,(∀v fv u,(C8 n v).run hp=some (fv,u)->∀p∈u,∃k,p.1=.own k)/\(∀l fl u,(frzL n l).run hp=some (fl,u)->∀p∈u,∃k,p.1=.own k):=by
 intro n
 induction n with
 | zero=>exact ⟨fun v fv u h=>(by simp only [C8,Rd.run] at h;cases h),fun l fl u h=>(by simp only [frzL,Rd.run] at h;cases h)⟩
 | succ n ih =>
  obtain ⟨ih1,ih2⟩:=ih;refine ⟨fun v fv u h=>?_,fun l fl u h=>?_⟩
  ·cases v with
   | dead=>simp only [C8,Rd.run] at h;cases h
   | mapr r=>simp only [C8,Rd.run] at h;cases h
   | fv v=>simp only [C8,Rd.run,AiZ,Ai0] at h;obtain ⟨_,rfl⟩:=h;exact fun p hp=>by cases hp
   | nils=>simp only [C8,Rd.run,AiZ,Ai0] at h;obtain ⟨_,rfl⟩:=h;exact fun p hp=>by cases hp
   | emp=>simp only [C8,Rd.run,AiZ,Ai0] at h;obtain ⟨_,rfl⟩:=h;exact fun p hp=>by cases hp
   | clip es=>simp only [C8,Rd.run,AiZ,Ai0] at h;obtain ⟨_,rfl⟩:=h;exact fun p hp=>by cases hp
   | app r es=>simp only [C8,Rd.run,AiZ,Ai0] at h;obtain ⟨_,rfl⟩:=h;exact fun p hp=>by cases hp
   | ptr r off =>
    cases r with
    | ext j=>simp only [C8,Rd.run] at h;cases h
    | own k =>
     simp only [C8] at h;obtain ⟨b,hb,h⟩:=Rd.run_get_some h;cases b with
     | row cells ro =>
      obtain ⟨⟨cs,u1⟩,h1,h2⟩:=Rd.run_bind_some h;simp only [Rd.run,AiZ,Ai0] at h2;obtain ⟨_,rfl⟩:=h2;intro p hp;rcases Ajp.1 hp with rfl | hp
      ·exact ⟨k,rfl⟩
      ·exact ih2 _ _ _ h1 p hp
     | _=>simp only [Rd.run] at h;cases h
   | slc r sz len =>
    cases r with
    | ext j=>simp only [C8,Rd.run] at h;cases h
    | own k =>
     simp only [C8] at h;obtain ⟨b,hb,h⟩:=Rd.run_get_some h;cases b with
     | row cells ro =>
      simp only at h;split at h
      ·simp only [Rd.run] at h;cases h
      obtain ⟨⟨cs,u1⟩,h1,h2⟩:=Rd.run_bind_some h;simp only [Rd.run,AiZ,Ai0] at h2;obtain ⟨_,rfl⟩:=h2;intro p hp;rcases Ajp.1 hp with rfl | hp
      ·exact ⟨k,rfl⟩
      ·exact ih2 _ _ _ h1 p hp
     | _=>simp only [Rd.run] at h;cases h
   | func fn a b =>
    simp only [C8] at h;obtain ⟨⟨p,u1⟩,e1,h⟩:=Rd.run_bind_some h;obtain ⟨⟨q,u2⟩,e2,h⟩:=Rd.run_bind_some h;simp only [Rd.run,AiZ,Ai0] at h;obtain ⟨_,rfl⟩:=h;intro p hp;rcases Ajk.1 hp with hp | hp
    ·exact ih2 _ _ _ e1 p hp
    ·exact ih2 _ _ _ e2 p hp
   | agg cs =>simp only [C8] at h;obtain ⟨⟨p,u1⟩,e1,h⟩:=Rd.run_bind_some h;simp only [Rd.run,AiZ,Ai0] at h;obtain ⟨_,rfl⟩:=h;exact ih2 _ _ _ e1
   | tuple cs =>simp only [C8] at h;obtain ⟨⟨p,u1⟩,e1,h⟩:=Rd.run_bind_some h;simp only [Rd.run,AiZ,Ai0] at h;obtain ⟨_,rfl⟩:=h;exact ih2 _ _ _ e1
  ·cases l with
   | nil=>simp only [frzL,Rd.run,AiZ,Ai0] at h;obtain ⟨_,rfl⟩:=h;exact fun p hp=>by cases hp
   | cons v l =>
    simp only [frzL] at h;obtain ⟨⟨p,u1⟩,e1,h⟩:=Rd.run_bind_some h;obtain ⟨⟨q,u2⟩,e2,h⟩:=Rd.run_bind_some h;simp only [Rd.run,AiZ,Ai0] at h;obtain ⟨_,rfl⟩:=h;intro p hp;rcases Ajk.1 hp with hp | hp
    ·exact ih1 _ _ _ e1 p hp
    ·exact ih2 _ _ _ e2 p hp
theorem Ov:∀(u:List (Ref×Blk)) (h:Hp),(∀p∈u,(h.get p.1).isSome)->∃h',laid h u=some h'
 | [],h,_=>⟨h,rfl⟩
 | (r,b)::u,h,hs=>by
  have h1:=hs (r,b) Aji;simp only at h1;cases hr:h.get r with
  | none=>rw [hr] at h1;cases h1
  | some c =>
   obtain ⟨h',h2⟩:=Ov u (h.set r b) (fun p hp=>by
    by_cases e:p.1=r
    ·rw [e,B9 h r b (by rw [hr];rfl)];rfl
    ·rw [AA _ _ _ _ e];exact hs p (Ajj _ hp))
   exact ⟨h',by simp only [laid,hr];exact h2⟩
theorem fZ {u:List (Ref×Blk)} (hm:G7 hp u):Stp μ w F hp μ w (Ed μ u F) hp:=by
 refine ⟨.refl F w,Hw u,fun r cs ro h=>⟨⟨cs,ro,h⟩,rfl⟩,fun r es h=>⟨⟨es,h⟩,rfl⟩,fun r n sz h=>⟨n,h,AjA _,.inl rfl⟩,fun r h h'=>(by rw [h] at h';cases h'),fun _ _ _=>rfl,fun b o h=>?_⟩;rcases h with h | ⟨p,hp1,cs,ro,_,e,_⟩
 ·exact .inl h
 ·obtain ⟨cs',ro',h1,_⟩:=hm p hp1;exact .inr (.inr ⟨p.1,by rw [h1];rfl,e.symm⟩)
theorem IX (hr:HR μ w F hp):∀(ks:List Bool) (args vs:List IV) (rs:List Ref) (u:List (Ref×Blk)) (x:Nat->Value),(∀j y,args[j]?=some y->R μ w F hp y (x j)) ->
  (By ks args).run hp=some (vs,rs,u)->G7 hp u/\vs.length=args.length/\∀j y,vs[j]?=some y->R μ w (Ed μ u F) hp y (x j)
 | ks,[],vs,rs,u,x,_,h=>by
  cases ks with
  | nil=>simp only [By,Rd.run,AiZ,Ai0] at h;obtain ⟨rfl,rfl,rfl⟩:=h;exact ⟨.nil hp,rfl,fun j y hy=>by simp at hy⟩
  | cons k ks=>simp only [By,Rd.run,AiZ,Ai0] at h;obtain ⟨rfl,rfl,rfl⟩:=h;exact ⟨.nil hp,rfl,fun j y hy=>by simp at hy⟩
 | ks,v::l,vs,rs,u,x,hx,h=>by
  have froz:∀ks',((C8 4096 v).bind fun (x,u)=>(By ks' l).bind fun (vs,rs,u')=>.ret (.fv x::vs,rs,u++u')).run hp=some (vs,rs,u) ->
    G7 hp u/\vs.length=(v::l).length/\∀j y,vs[j]?=some y->R μ w (Ed μ u F) hp y (x j):=by
   intro ks' h;obtain ⟨⟨fv,u1⟩,e1,h⟩:=Rd.run_bind_some h;obtain ⟨⟨vs',rs',u2⟩,e2,h⟩:=Rd.run_bind_some h;simp only [Rd.run,AiZ,Ai0] at h;obtain ⟨rfl,rfl,rfl⟩:=h;obtain ⟨m1,r1⟩:=(KO hr 4096).1 v (x 0) fv u1 (hx 0 v rfl) e1;obtain ⟨m2,l2,r2⟩:=IX hr ks' l vs' rs' u2 (fun j=>x (j+1)) (fun j y hy=>hx (j+1) y hy) e2;refine ⟨m1.append m2,by simp [l2],fun j y hy=>?_⟩;have st:Stp μ w (Ed μ u2 F) hp μ w (Ed μ (u1++u2) F) hp:=by
    refine ⟨.refl _ w,GR _ _,fun r cs ro h=>⟨⟨cs,ro,h⟩,rfl⟩,fun r es h=>⟨⟨es,h⟩,rfl⟩,fun r n sz h=>⟨n,h,AjA _,.inl rfl⟩,fun r h h'=>(by rw [h] at h';cases h'),fun _ _ _=>rfl,fun b o h=>?_⟩;rcases h with h | ⟨p,hp1,cs,ro,_,e,_⟩
    ·exact .inl (.inl h)
    ·obtain ⟨cs',ro',h1,_⟩:=(m1.append m2) p hp1;exact .inr (.inr ⟨p.1,by rw [h1];rfl,e.symm⟩)
   cases j with
   | zero=>simp at hy;subst hy;exact .fv _ _ (r1.more (Km _ _))
   | succ j=>exact (r2 j y (by simpa using hy)).mono st
  cases ks with
  | nil=>simp only [By] at h;exact froz [] h
  | cons k ks =>
   cases k with
   | false=>simp only [By] at h;exact froz ks h
   | true =>
    simp only [By] at h;obtain ⟨⟨vs',rs',u2⟩,e2,h⟩:=Rd.run_bind_some h;simp only [Rd.run,AiZ,Ai0] at h;obtain ⟨rfl,rfl,rfl⟩:=h;obtain ⟨m2,l2,r2⟩:=IX hr ks l vs' rs' u2 (fun j=>x (j+1)) (fun j y hy=>hx (j+1) y hy) e2;refine ⟨m2,by simp [l2],fun j y hy=>?_⟩;cases j with
    | zero=>simp at hy;subst hy;exact (hx 0 v rfl).mono (fZ m2)
    | succ j=>exact r2 j y (by simpa using hy)
end
def iD (μ:Ref->Nat) (l:List (Ref×Blk)):Ref->Nat
 | .ext j=>match l[j]? with | some p=>μ p.1 | none=>0
 | .own _=>0
def iB (μ μ1:Ref->Nat) (l:List (Ref×Blk)) (r:Ref):Nat:=match Cs r l 0 with | some j=>μ1 (.ext j) | none=>μ r
theorem GE {μ:Ref->Nat} {l:List (Ref×Blk)} {j:Nat} {p:Ref×Blk} (h:l[j]?=some p):iD μ l (.ext j)=μ p.1:=by simp [iD,h]
theorem I7 {r:Ref}:∀{l:List (Ref×Blk)} {i:Nat},Cs r l i=none->∀p∈l,p.1≠r
 | [],_,_,_,hp=>by cases hp
 | (s,b)::l,i,h,p,hp=>by
  simp only [Cs] at h;split at h
  ·cases h
  ·rename_i hn;rcases Ajp.1 hp with rfl | hp
   ·exact fun e=>hn e.symm
   ·exact I7 h p hp
theorem Tz {l:List (Ref×Blk)} (hn:(BB l).Nodup) {j:Nat} {p:Ref×Blk} (h:l[j]?=some p):Cs p.1 l 0=some j:=by
 cases e:Cs p.1 l 0 with
 | none=>exact absurd rfl (I7 e p (Aje h))
 | some i =>obtain ⟨b,h1,_⟩:=FN e;rw [Nat.sub_zero] at h1;rw [Kj hn h1 h rfl]
theorem KF {μ μ1:Ref->Nat} {l:List (Ref×Blk)} (hn:(BB l).Nodup) {j:Nat} {p:Ref×Blk} (h:l[j]?=some p):iB μ μ1 l p.1=μ1 (.ext j):=by simp [iB,Tz hn h]
theorem FR {μ μ1:Ref->Nat} {l:List (Ref×Blk)} {r:Ref} (h:∀p∈l,p.1≠r):iB μ μ1 l r=μ r:=by
 unfold iB;cases e:Cs r l 0 with
 | none=>rfl
 | some i =>obtain ⟨b,h1,_⟩:=FN e;exact absurd rfl (h _ (Aje h1))
section
variable {E:Env} {μ μ1:Ref->Nat} {w w':World} {F F':B3} {hp hp' hpc:Hp} {l:List (Ref×Blk)} {ext:List Blk}
theorem WQ (hg:uG hp l) (hx:Bg (D6 l) (l.map (·.2))=some ext):Nm (D6 l) μ hp (iD μ l) ⟨[],ext⟩:=by
 have key:∀r r' b,D6 l r=some r'->hp.get r=some b->∃b',(Hp.mk [] ext).get r'=some b'/\I5 b b'/\iD μ l r'=μ r:=by
  intro r r' b h1 h2;obtain ⟨j,b0,rfl,h3⟩:=ZU h1;have h4:=hg.1 _ (Aje h3);rw [h2] at h4;cases h4;obtain ⟨e1,e2⟩:=Dv hx;have hj:j<ext.length:=by rw [e1,Ajw];exact (Ai7.1 h3).1
  obtain ⟨b1,g1,g2⟩:=e2 j ext[j] (Ai6 hj);simp only [Ajv,h3,Ai2,AiZ] at g1;subst g1;exact ⟨ext[j],Ai6 hj,OX g2,GE h3⟩
 refine ⟨fun r r' cs ro h1 h2=>?_,fun r r' es h1 h2=>?_,fun r r' n sz h1 h2=>?_⟩
 ·obtain ⟨b',k1,k2,k3⟩:=key r r' _ h1 h2;cases b' with
  | row cs' ro'=>exact ⟨⟨cs',ro',k1⟩,k3⟩
  | _=>cases k2
 ·obtain ⟨b',k1,k2,k3⟩:=key r r' _ h1 h2;cases b' with
  | map es'=>exact ⟨⟨es',k1⟩,k3⟩
  | _=>cases k2
 ·obtain ⟨b',k1,k2,k3⟩:=key r r' _ h1 h2;cases b' with
  | tok n' sz'=>obtain ⟨rfl,rfl⟩:=k2;exact ⟨k1,k3⟩
  | _=>cases k2
theorem O4 (hx:Bg (D6 l) (l.map (·.2))=some ext) {j:Nat} {b':Blk} (h:ext[j]?=some b'):∃p,l[j]?=some p/\p.2.ren (D6 l)=some b':=by obtain ⟨e1,e2⟩:=Dv hx;obtain ⟨b1,g1,g2⟩:=e2 j b' h;simp only [Ajv,Ai1] at g1;obtain ⟨p,p1,rfl⟩:=g1;exact ⟨p,p1,g2⟩
theorem YT (hr:HR μ w F hp) (hg:uG hp l) (hx:Bg (D6 l) (l.map (·.2))=some ext):HR (iD μ l) w F ⟨[],ext⟩:=by
 refine ⟨fun r b h=>?_,fun r s h1 h2 e=>?_,hr.wf⟩
 ·cases r with
  | own k=>cases h
  | ext j =>obtain ⟨p,p1,p2⟩:=O4 hx h;exact gT (WQ hg hx) (hr.blk p.1 p.2 (hg.1 p (Aje p1))) p2 (GE p1)
 ·cases r with
  | own k=>cases h1
  | ext i=>cases s with
   | own k=>cases h2
   | ext j =>
    obtain ⟨b1,h1⟩:=Option.isSome_iff_exists.1 h1;obtain ⟨b2,h2⟩:=Option.isSome_iff_exists.1 h2;obtain ⟨p,p1,_⟩:=O4 hx h1;obtain ⟨q,q1,_⟩:=O4 hx h2;rw [GE p1,GE q1] at e;have h3:=hg.1 p (Aje p1);have h4:=hg.1 q (Aje q1)
    have:=hr.inj p.1 q.1 (by rw [h3];rfl) (by rw [h4];rfl) e
    rw [Kj hg.2 p1 q1 this]
theorem Se {ext':List Blk} {q:Ref×Blk} (h:q∈(BB l).zip ext'):∃(j:Nat) (p:Ref×Blk),l[j]?=some p/\p.1=q.1/\ext'[j]?=some q.2:=by obtain ⟨j,hj⟩:=List.mem_iff_getElem?.1 h;rw [List.getElem?_zip_eq_some] at hj;obtain ⟨h1,h2⟩:=hj;simp only [BB,Ajv,Ai1] at h1;obtain ⟨p,p1,p2⟩:=h1;exact ⟨j,p,p1,p2,h2⟩
theorem XR {ext':List Blk} (hg:uG hp l) (hl:ext'.length=l.length) (h:laid hp ((BB l).zip ext')=some hp') :
  (∀(j:Nat) (p:Ref×Blk),l[j]?=some p->hp'.get p.1=ext'[j]?)/\∀r,(∀p∈l,p.1≠r)->hp'.get r=hp.get r:=by
 refine ⟨fun j p hj=>?_,fun r hr=>FA _ _ _ h r fun q hq e=>?_⟩
 ·have hjl:j<ext'.length:=by rw [hl];exact (Ai7.1 hj).1
  rw [Ai6 hjl];refine Jj _ _ _ h p.1 _ (fun q hq e=>?_) ⟨(p.1,ext'[j]),?_,rfl⟩
  ·obtain ⟨i,p',h1,h2,h3⟩:=Se hq
   have:i=j:=Kj hg.2 h1 hj (h2.trans e)
   subst this;rw [Ai6 hjl] at h3;exact (Ajn h3).symm
  ·exact List.mem_iff_getElem?.2 ⟨j,by rw [List.getElem?_zip_eq_some];exact ⟨by simp [BB,hj],Ai6 hjl⟩⟩
 ·obtain ⟨i,p',h1,h2,_⟩:=Se hq;exact hr p' (Aje h1) (h2.trans e)
theorem YV (hr:HR μ w F hp) (hg:uG hp l) (hx:Bg (D6 l) (l.map (·.2))=some ext) (st:Stp (iD μ l) w F ⟨[],ext⟩ μ1 w' F' hpc) (hrc:HR μ1 w' F' hpc)
  {ext':List Blk} (hb:Bg (CF l) hpc.ext=some ext') (hl:ext'.length=l.length) (h:laid hp ((BB l).zip ext')=some hp') :
  Nm (CF l) μ1 hpc (iB μ μ1 l) hp'/\Stp μ w F hp (iB μ μ1 l) w' F' hp'/\HR (iB μ μ1 l) w' F' hp':=by
 obtain ⟨g1,g2⟩:=XR hg hl h;have exlen:ext.length=l.length:=by rw [(Dv hx).1,Ajw]
 have clen:∀(j:Nat) (p:Ref×Blk),l[j]?=some p->∃b,ext[j]?=some b/\I5 p.2 b:=fun j p hp1=>by
  have hj:j<ext.length:=by rw [exlen];exact (Ai7.1 hp1).1
  obtain ⟨q,q1,q2⟩:=O4 hx (Ai6 hj);rw [hp1] at q1;cases q1;exact ⟨ext[j],Ai6 hj,OX q2⟩
 have hback:∀(j:Nat) (p:Ref×Blk) (b:Blk),l[j]?=some p->hpc.ext[j]?=some b->∃b',hp'.get p.1=some b'/\b.ren (CF l)=some b':=fun j p b hp1 hb1=>by
  have hj:j<ext'.length:=by rw [hl];exact (Ai7.1 hp1).1
  obtain ⟨b0,k1,k2⟩:=(Dv hb).2 j ext'[j] (Ai6 hj);rw [hb1] at k1;cases k1;exact ⟨ext'[j],by rw [g1 j p hp1];exact Ai6 hj,k2⟩
 have hin:∀r,(∃(j:Nat) (p:Ref×Blk),l[j]?=some p/\p.1=r)\/(∀p∈l,p.1≠r):=fun r=>by
  by_cases hq:∃p∈l,p.1=r
  ·obtain ⟨p,p1,p2⟩:=hq;obtain ⟨j,hj⟩:=List.mem_iff_getElem?.1 p1;exact .inl ⟨j,p,hj,p2⟩
  ·exact .inr fun p hp1 e=>hq ⟨p,hp1,e⟩
 have nm:Nm (CF l) μ1 hpc (iB μ μ1 l) hp':=by
  have key:∀r r' b,CF l r=some r'->hpc.get r=some b->∃b',hp'.get r'=some b'/\I5 b b'/\iB μ μ1 l r'=μ1 r:=by intro r r' b h1 h2;obtain ⟨j,b0,rfl,h3⟩:=Zr h1;obtain ⟨b',k1,k2⟩:=hback j _ b h3 h2;exact ⟨b',k1,OX k2,KF hg.2 h3⟩
  refine ⟨fun r r' cs ro h1 h2=>?_,fun r r' es h1 h2=>?_,fun r r' n sz h1 h2=>?_⟩
  ·obtain ⟨b',k1,k2,k3⟩:=key r r' _ h1 h2;cases b' with
   | row cs' ro'=>exact ⟨⟨cs',ro',k1⟩,k3⟩
   | _=>cases k2
  ·obtain ⟨b',k1,k2,k3⟩:=key r r' _ h1 h2;cases b' with
   | map es'=>exact ⟨⟨es',k1⟩,k3⟩
   | _=>cases k2
  ·obtain ⟨b',k1,k2,k3⟩:=key r r' _ h1 h2;cases b' with
   | tok n' sz'=>obtain ⟨rfl,rfl⟩:=k2;exact ⟨k1,k3⟩
   | _=>cases k2
 have hcs:∀j,j<l.length->((Hp.mk [] ext).get (.ext j)).isSome:=fun j hj=>by
  show (ext[j]?).isSome
  rw [Ai6 (by omega)];rfl
 have hcin:∀r,((Hp.mk [] ext).get r).isSome->∃(j:Nat) (p:Ref×Blk),r=.ext j/\l[j]?=some p:=fun r h1=>by
  cases r with
  | own k=>cases h1
  | ext j =>
   obtain ⟨b,hb⟩:=Option.isSome_iff_exists.1 h1
   have:j<ext.length:=(Ai7.1 hb).1
   exact ⟨j,_,rfl,Ai6 (by omega)⟩
 have hcmu:∀r b,((Hp.mk [] ext).get r).isSome->iD μ l r=b->∃p∈l,μ p.1=b:=fun r b h1 h2=>by
  obtain ⟨j,p,rfl,hj⟩:=hcin r h1;exact ⟨p,Aje hj,by rw [<- GE (μ:=μ) hj];exact h2⟩
 have hls:∀p∈l,(hp.get p.1).isSome:=fun p hp1=>by rw [hg.1 p hp1];rfl
 have hst:Stp μ w F hp (iB μ μ1 l) w' F' hp':=by
  refine ⟨st.ws,st.sub,fun r cs ro h1=>?_,fun r es h1=>?_,fun r n sz h1=>?_,fun r h1 h2=>?_,fun b hb1 hb2=>?_,fun b o hf=>?_⟩
  ·rcases hin r with ⟨j,p,hj,rfl⟩ | hoff
   ·have hb:=hg.1 p (Aje hj);rw [h1] at hb;obtain ⟨b,q1,q2⟩:=clen j p hj;obtain ⟨p1,p2⟩:=p;cases hb;cases b with
    | row cs2 ro2 =>obtain ⟨⟨a,a',e1⟩,e2⟩:=st.row (.ext j) cs2 ro2 q1;obtain ⟨⟨c,c',e3⟩,e4⟩:=nm.row (.ext j) p1 a a' (by simp [CF,hj]) e1;exact ⟨⟨c,c',e3⟩,by rw [e4,e2,GE hj]⟩
    | _=>cases q2
   ·exact ⟨⟨cs,ro,by rw [g2 r hoff];exact h1⟩,FR hoff⟩
  ·rcases hin r with ⟨j,p,hj,rfl⟩ | hoff
   ·have hb:=hg.1 p (Aje hj);rw [h1] at hb;obtain ⟨b,q1,q2⟩:=clen j p hj;obtain ⟨p1,p2⟩:=p;cases hb;cases b with
    | map es2 =>obtain ⟨⟨a,e1⟩,e2⟩:=st.map (.ext j) es2 q1;obtain ⟨⟨c,e3⟩,e4⟩:=nm.map (.ext j) p1 a (by simp [CF,hj]) e1;exact ⟨⟨c,e3⟩,by rw [e4,e2,GE hj]⟩
    | _=>cases q2
   ·exact ⟨⟨es,by rw [g2 r hoff];exact h1⟩,FR hoff⟩
  ·rcases hin r with ⟨j,p,hj,rfl⟩ | hoff
   ·have hb:=hg.1 p (Aje hj);rw [h1] at hb;obtain ⟨b,q1,q2⟩:=clen j p hj;obtain ⟨p1,p2⟩:=p;cases hb;cases b with
    | tok n2 sz2 =>obtain ⟨rfl,rfl⟩:=q2;obtain ⟨a,e1,e2,e5⟩:=st.tok (.ext j) n sz q1;obtain ⟨e3,e4⟩:=nm.tok (.ext j) p1 a sz (by simp [CF,hj]) e1;refine ⟨a,e3,e2,?_⟩;rw [e4];rw [GE hj] at e5;exact e5
    | _=>cases q2
   ·exact ⟨n,by rw [g2 r hoff];exact h1,AjA _,.inl (FR hoff)⟩
  ·rcases hin r with ⟨j,p,hj,rfl⟩ | hoff
   ·have:=hls p (Aje hj);rw [h1] at this;cases this
   ·rw [g2 r hoff,h1] at h2;cases h2
  ·refine st.frame b hb1 fun r hr1 e=>?_;obtain ⟨p,p1,p2⟩:=hcmu r b hr1 e;exact hb2 p.1 (hls p p1) p2
  ·rcases st.newF b o hf with h1 | h1 | ⟨r,r1,r2⟩
   ·exact .inl h1
   ·exact .inr (.inl h1)
   ·obtain ⟨p,p1,p2⟩:=hcmu r b r1 r2;exact .inr (.inr ⟨p.1,hls p p1,p2⟩)
 have hsz:=st.ws.size;refine ⟨nm,hst,fun r b hb1=>?_,fun r s h1 h2 e=>?_,hrc.wf⟩
 ·rcases hin r with ⟨j,p,hj,rfl⟩ | hoff
  ·have hbj:=g1 j p hj;rw [hb1] at hbj;obtain ⟨b0,k1,k2⟩:=(Dv hb).2 j b hbj.symm;exact gT nm (hrc.blk (.ext j) b0 k1) k2 (KF hg.2 hj)
  ·have hb2:hp.get r=some b:=by rw [<- g2 r hoff];exact hb1
   have hsome:(hp.get r).isSome:=by rw [hb2];rfl
   have hlt:=hr.lt hsome;have hne:∀r',((Hp.mk [] ext).get r').isSome->iD μ l r'≠μ r:=fun r' h1 e=>by
    obtain ⟨p,p1,p2⟩:=hcmu r' _ h1 e;exact hoff p p1 (hr.inj p.1 r (hls p p1) hsome p2)
   refine (hr.blk r b hb2).mono hst (FR hoff) (st.frame _ hlt hne) fun o hf=>?_;rcases st.newF _ o hf with h1 | h1 | ⟨r',r1,r2⟩
   ·exact h1
   ·omega
   ·exact absurd r2 (hne r' r1)
 ·have hpl:∀(j:Nat) (p:Ref×Blk),l[j]?=some p->(hpc.get (.ext j)).isSome/\(μ1 (.ext j)=μ p.1\/w.heap.size<=μ1 (.ext j)):=fun j p hj=>by
   have hs:=hcs j (Ai7.1 hj).1;refine ⟨st.some_of hs,?_⟩;rw [<- GE (μ:=μ) hj];exact st.place hs
  rcases hin r with ⟨i,p,hi,rfl⟩ | hoff<;>rcases hin s with ⟨j,q,hj,rfl⟩ | hoff'
  ·rw [KF hg.2 hi,KF hg.2 hj] at e
   have:=hrc.inj _ _ (hpl i p hi).1 (hpl j q hj).1 e
   cases this;rw [hi] at hj;cases hj;rfl
  ·rw [KF hg.2 hi,FR hoff'] at e;rw [g2 s hoff'] at h2;have hlt:=hr.lt h2;rcases (hpl i p hi).2 with e1 | e1
   ·exact hr.inj _ _ (hls p (Aje hi)) h2 (e1.symm.trans e)
   ·omega
  ·rw [KF hg.2 hj,FR hoff] at e;rw [g2 r hoff] at h1;have hlt:=hr.lt h1;rcases (hpl j q hj).2 with e1 | e1
   ·exact hr.inj _ _ h1 (hls q (Aje hj)) (e.trans e1)
   ·omega
  ·rw [FR hoff,FR hoff'] at e;rw [g2 r hoff] at h1;rw [g2 s hoff'] at h2;exact hr.inj r s h1 h2 e
end
section
variable {E:Env} {μ:Ref->Nat} {w:World} {F:B3} {hp hp':Hp} {ih:Ah}
theorem Nj {o:Option (IV×Hp)} (h:Cv o=true):∃r own,o=some (r,⟨own,[]⟩)/\∀μ w F hp v,R μ w F hp r v->RF w F (.sl []) v:=by
 unfold Cv at h;split at h
 ·exact ⟨_,_,rfl,fun μ w F hp v hv=>by cases hv;exact .sl0 none 0 fun _=>rfl⟩
 ·exact ⟨_,_,rfl,fun μ w F hp v hv=>by cases hv;exact .sl0 _ _ fun e=>by cases e⟩
 ·refine ⟨_,_,rfl,fun μ w F hp v hv=>?_⟩;cases hv with
  | clip _ a h=>exact h
  | clip0 a=>exact .sl0 _ _ fun _=>rfl
 ·exact ⟨_,_,rfl,fun μ w F hp v hv=>by cases hv with | fv _ _ h=>exact h⟩
 ·cases h
theorem fN (hih:R2 E ih) {f:FuncId} {args:List IV} {ext:List Blk} {res:IV} {vals:Array Value} (h:asked E ih f args ext=some (res,hp'))
  (hr:HR μ w F ⟨[],ext⟩) (hs:SlotsR μ w F ⟨[],ext⟩ args vals):(∃fn,E.P.funcs[f]?=some fn/\fn.body.isSome)/\cY E μ w F ⟨[],ext⟩ f vals res hp':=by
 unfold asked at h;split at h
 ·split at h
  ·split at h
   ·rename_i hc;simp only [Ajz] at hc;simp only [AiZ,Ai0] at h;obtain ⟨rfl,rfl⟩:=h;have go:∀arg,R μ w F ⟨[],[]⟩ arg (vals.getD 0 undef)->Cv (ih f [arg] ⟨[],[]⟩)=true ->
      (∃fn,E.P.funcs[f]?=some fn/\fn.body.isSome)/\cY E μ w F ⟨[],[]⟩ f vals (.fv (.sl [])) ⟨[],[]⟩:=by
     intro arg ha he;obtain ⟨r,own,h1,h2⟩:=Nj he;obtain ⟨h3,h4⟩:=hih f _ _ _ _ h1;refine ⟨h3,?_⟩;refine (h4 μ w F vals hr ⟨by simpa using hs.size,fun j y hy=>?_⟩).mono ?_
     ·cases j with
      | zero=>simp at hy;subst hy;exact ha
      | succ j=>simp at hy
     ·rintro e w' ⟨v,μ',F',e1,st,hr',hv⟩;refine ⟨v,μ',F',e1,⟨st.ws,st.sub,fun r cs ro h=>?_,fun r es h=>?_,fun r n sz h=>?_,fun r _ h=>?_,st.frame,st.newF⟩,⟨fun r b h=>?_,fun r s h=>?_,hr'.wf⟩,.fv _ _ (h2 _ _ _ _ _ hv)⟩
      all_goals cases r<;>simp [Hp.get,Ap] at h
    have h0:=hs.at_ 0 _ rfl;cases h0 with | fv _ _ h0 =>
    generalize hx:vals.getD 0 undef=x0 at h0;cases h0 with
    | sl0 a cap hcap =>
     cases a with
     | none =>
      have:cap=0:=hcap rfl
      subst this;exact go .nils (by rw [hx];exact .nils) hc.1
     | some a=>exact go .emp (by rw [hx];exact .emp a cap) hc.2
    | sl _ b base sz cap vs hne=>exact absurd rfl hne
   ·cases h
  ·obtain ⟨h3,h4⟩:=hih f _ _ _ _ h;exact ⟨h3,h4 μ w F vals hr hs⟩
 ·obtain ⟨h3,h4⟩:=hih f _ _ _ _ h;exact ⟨h3,h4 μ w F vals hr hs⟩
theorem Sq:∀(u:List (Ref×Blk)) (h h':Hp),laid h u=some h'->(∀p∈u,∃k,p.1=.own k)->h'.ext=h.ext
 | [],h,h',e,_=>by simp only [laid,AiZ] at e;rw [e]
 | (r,b)::u,h,h',e,hk=>by
  simp only [laid] at e;cases hs:h.get r with
  | none=>rw [hs] at e;cases e
  | some d =>rw [hs] at e;simp only at e;obtain ⟨k,hk'⟩:=hk _ Aji;simp only at hk';subst hk';exact (Sq u _ _ e fun p hp=>hk p (Ajj _ hp)).trans rfl
theorem bN (hr:HR μ w F hp) (hih:R2 E ih) {f:FuncId} {args:List IV} {vals:Array Value} (hs:SlotsR μ w F hp args vals) {eff:Eff}
  (h:(GK E ih f args).run hp=some eff) (hl:laid hp eff.upd=some hp'):(∃fn,E.P.funcs[f]?=some fn/\fn.body.isSome)/\cY E μ w F hp f vals eff.val hp':=by
 unfold GK at h;obtain ⟨⟨vs,rs,u⟩,h1,h⟩:=Rd.run_bind_some h;obtain ⟨l,h2,h⟩:=Rd.run_bind_some h;have h:=Rd.run_of h;simp only [Aju] at h;obtain ⟨vs',h3,ext,h4,⟨res,hpc⟩,h5,res1,h6,res2,h7,ext',h8,h9⟩:=h;split at h9
 ·rename_i hc;obtain ⟨hc1,hc2⟩:=hc;simp only [AiZ] at h9;subst h9;have hg:=ID _ _ _ _ h2 ⟨fun p hp=>(by cases hp),List.nodup_nil⟩;obtain ⟨m1,lv,r1⟩:=IX hr _ args vs rs u (fun j=>vals.getD j undef) hs.at_ h1;simp only at hl;rw [Hq] at hl;obtain ⟨hp1,hl1,hl2⟩:=Aju.1 hl;obtain ⟨st1,hr1⟩:=Fe hr m1 hl1;have hg1:uG hp1 l:=by
   refine ⟨fun p hp'=>?_,hg.2⟩;rw [FA u _ _ hl1 p.1 fun q hq e=>?_]
   ·exact hg.1 p hp'
   ·have:=Ajl.1 hc2 q.1 (List.mem_map.2 ⟨q,hq,rfl⟩)
    simp only [Bool.not_eq_true'] at this;rw [IG.2 ⟨p,hp',e.symm⟩] at this;cases this
  have hrc:=YT hr1 hg1 h4;have nmi:=WQ (μ:=μ) hg1 h4;obtain ⟨l3,g3⟩:=DN h3;have hsc:SlotsR (iD μ l) w (Ed μ u F) ⟨[],ext⟩ vs' vals:=⟨by rw [<- hs.size,<- lv,<- l3],fun j y hy=>by
   obtain ⟨y0,k1,k2⟩:=g3 j y hy
   have:=r1 j y0 k1
   exact V1 nmi (this.mono ⟨.refl _ w,fun _ _ h=>h,st1.row,st1.map,st1.tok,st1.new,fun _ _ _=>rfl,fun b o h=>.inl h⟩) y k2⟩
  obtain ⟨hfn,hsim⟩:=fN hih h5 hrc hsc;refine ⟨hfn,hsim.mono ?_⟩;rintro e w' ⟨v,μ1,F1,e1,st,hr',hv⟩;have hfin:∃F2 hpc',hpc'.ext=hpc.ext/\Stp (iD μ l) w (Ed μ u F) ⟨[],ext⟩ μ1 w' F2 hpc'/\HR μ1 w' F2 hpc'/\R μ1 w' F2 hpc' res1 v:=by
   unfold HG at h6;split at h6
   ·simp only [AiZ] at h6;subst h6;exact ⟨F1,hpc,rfl,st,hr',hv⟩
   ·simp only [Ai1] at h6;obtain ⟨⟨fv,u2⟩,q1,rfl⟩:=h6;obtain ⟨m2,rf⟩:=(KO hr' 4096).1 res v fv u2 hv q1;obtain ⟨hpc',q2⟩:=Ov u2 hpc fun p hp=>by obtain ⟨cs,ro,q,_⟩:=m2 p hp;rw [q];rfl
    obtain ⟨st2,hr2⟩:=Fe hr' m2 q2;exact ⟨_,hpc',Sq _ _ _ q2 ((aC 4096).1 _ _ _ q1),st.trans st2,hr2,.fv _ _ rf⟩
  obtain ⟨F2,hpc',he,st',hr2,hv2⟩:=hfin;rw [<- he] at h8;obtain ⟨nmb,stb,hrb⟩:=YV hr1 hg1 h4 st' hr2 h8 hc1 hl2;exact ⟨v,_,F2,e1,st1.trans stb,hrb,V1 nmb hv2 _ h7⟩
 ·cases h9
end
end Idl
end Go.Proofs.YtnenpcghegcnhaaGreat

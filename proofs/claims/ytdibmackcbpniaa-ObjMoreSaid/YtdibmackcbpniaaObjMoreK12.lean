/-
  Texts of a proof, part 12: an ideal semantics of the program, its functions in shallow form, contracts of them. No statement of the seat is proved here.
-/
import Derived.Test.YtdibmackcbpniaaObjMoreK11
set_option linter.all false
noncomputable section
namespace Go.Proofs.Ytdibmackcbpniaa
namespace Idl
def s1 (x:Tm):Nat→Tm
 | 0=>x
 | j+1=>vT j
def s2 (r k:Tm):Nat→Tm
 | 0=>r
 | 1=>k
 | j+2=>vT j
inductive Par:Tm→Tm→Prop
 | var (n:Int) (ks:List Tm):Par (.mk 1 n ks) (.mk 1 n ks)
 | node (op n:Int) (ks ks':List Tm) (h1:op≠1) (hl:ks'.length=ks.length) (hk:∀(i:Nat) a b,ks[i]?=some a→ks'[i]?=some b→Par a b):Par (.mk op n ks) (.mk op n ks')
 | beta (n m:Int) (a b b' x x':Tm) (hb:Par b b') (hx:Par x x'):Par (.mk 5 n [.mk 4 m [a,b],x]) (b'.sub (s1 x'))
 | fst (n m:Int) (a x x' y:Tm) (hx:Par x x'):Par (.mk 8 n [.mk 7 m [a,x,y]]) x'
 | snd (n m:Int) (a x y y':Tm) (hy:Par y y'):Par (.mk 9 n [.mk 7 m [a,x,y]]) y'
 | splq (c c':Tm) (hc:Par c c'):Par (.mk 30 0 [.mk 19 0 [c]]) c'
 | quos (c c':Tm) (hc:Par c c'):Par (.mk 19 0 [.mk 30 0 [c]]) c'
 | recz (n m:Int) (a z z' s:Tm) (l:List Tm) (hz:Par z z'):Par (.mk 13 n [a,z,s,.mk 11 m l]) z'
 | recs (n m:Int) (a a' z z' s s' k k':Tm) (ha:Par a a') (hz:Par z z') (hs:Par s s') (hk:Par k k'):Par (.mk 13 n [a,z,s,.mk 12 m [k]]) (s'.sub (s2 (.mk 13 0 [a',z',s',k']) k'))
theorem AeX:∀(m:Nat) (t:Tm),t.wt<m→Par t t:=by
 intro m
 induction m with
 | zero=>intro t h;omega
 | succ m ih =>
  intro t h;obtain ⟨op,n,ks⟩:=t;simp only [Tm.wt] at h;by_cases h1:op=1
  ·subst h1;exact .var n ks
  ·exact .node op n ks ks h1 rfl (fun i a b ha hb=>by
    rw [ha] at hb;cases hb;exact ih a (by have:=LB ha;omega))
theorem AY (t:Tm):Par t t:=AeX (t.wt+1) t (by omega)
theorem Cd (ρ:Nat→Nat):Jc 0 ρ=ρ:=by
 funext i;simp [Jc]
theorem CE (σ:Nat→Tm):CG 0 σ=σ:=by
 funext i
 simp only [CG,Nat.not_lt_zero,if_false,Nat.sub_zero];rw [E0];exact Iv _
theorem Aji (x:Tm) (ρ:Nat→Nat):(fun i=>(s1 x i).ren ρ)=fun i=>s1 (x.ren ρ) (Jc 1 ρ i):=by
 funext i
 cases i with
 | zero=>simp [s1,Jc]
 | succ i=>simp [s1,Jc,GE]
theorem AkT (r k:Tm) (ρ:Nat→Nat):(fun i=>(s2 r k i).ren ρ)=fun i=>s2 (r.ren ρ) (k.ren ρ) (Jc 2 ρ i):=by
 funext i
 match i with
 | 0=>simp [s2,Jc]
 | 1=>simp [s2,Jc]
 | i+2 =>
  show (vT i).ren ρ=s2 _ _ (Jc 2 ρ (i+2))
  rw [FM (by omega),GE,Nat.add_sub_cancel];rfl
theorem F6 (t:Tm) (k:Nat) (τ:Nat→Tm) (h:∀j,τ (j+k)=vT j):(t.ren fun j=>j+k).sub τ=t:=by
 rw [Gc]
 have:(fun i=>τ (i+k))=vT:=funext h
 rw [this,Iv]
theorem Ako (x:Tm) (σ:Nat→Tm):(fun i=>(s1 x i).sub σ)=fun i=>(CG 1 σ i).sub (s1 (x.sub σ)):=by
 funext i
 cases i with
 | zero=>simp [s1,CG,EP]
 | succ i =>
  simp only [s1,CG,EP];rw [if_neg (by omega),Nat.add_sub_cancel,F6 _ _ _ (fun j=>rfl)]
theorem AjI (r k:Tm) (σ:Nat→Tm):(fun i=>(s2 r k i).sub σ)=fun i=>(CG 2 σ i).sub (s2 (r.sub σ) (k.sub σ)):=by
 funext i
 match i with
 | 0=>simp [s2,CG,EP]
 | 1=>simp [s2,CG,EP]
 | i+2 =>
  simp only [s2,CG,EP];rw [if_neg (by omega),Nat.add_sub_cancel,F6 _ _ _ (fun j=>rfl)]
theorem Af8 {t t':Tm} (h:Par t t'):∀ρ,Par (t.ren ρ) (t'.ren ρ):=by
 induction h with
 | var n ks=>intro ρ;exact AY _
 | node op n ks ks' h1 hl hk ih =>
  intro ρ;rw [Tm.ren,if_neg h1,Tm.ren,if_neg h1];refine .node _ _ _ _ h1 (by rw [GQ,GQ,hl]) (fun i a b ha hb=>?_);rw [Kw,Nat.zero_add] at ha hb;cases hx:ks[i]? with
  | none=>rw [hx] at ha;cases ha
  | some x =>
   cases hy:ks'[i]? with
   | none=>rw [hy] at hb;cases hb
   | some y =>
    rw [hx] at ha;rw [hy] at hb;simp only [Aq4,Aq1] at ha hb;subst ha hb;exact ih i x y hx hy _
 | beta n m a b b' x x' hb hx ihb ihx =>
  intro ρ
  have:=Par.beta n m (a.ren (Jc 0 ρ)) _ _ _ _ (ihb (Jc 1 ρ)) (ihx ρ)
  rw [Fh,Aji,← Gc];simp only [Tm.ren,Tm.renL];rw [if_neg (by omega),if_neg (by omega)];simpa [Af,Cd] using this
 | fst n m a x x' y hx ih =>
  intro ρ
  have:=Par.fst n m (a.ren ρ) _ _ (y.ren ρ) (ih ρ)
  simp only [Tm.ren,Tm.renL];rw [if_neg (by omega),if_neg (by omega)];simpa [Af,Cd] using this
 | snd n m a x y y' hy ih =>
  intro ρ
  have:=Par.snd n m (a.ren ρ) (x.ren ρ) _ _ (ih ρ)
  simp only [Tm.ren,Tm.renL];rw [if_neg (by omega),if_neg (by omega)];simpa [Af,Cd] using this
 | splq c c' hc ih =>
  intro ρ
  have:=Par.splq _ _ (ih ρ)
  simp only [Tm.ren,Tm.renL];rw [if_neg (by omega),if_neg (by omega)];simpa [Af,Cd] using this
 | quos c c' hc ih =>
  intro ρ
  have:=Par.quos _ _ (ih ρ)
  simp only [Tm.ren,Tm.renL];rw [if_neg (by omega),if_neg (by omega)];simpa [Af,Cd] using this
 | recz n m a z z' s l hz ih =>
  intro ρ
  have:=Par.recz n m (a.ren (Jc 1 ρ)) _ _ (s.ren (Jc 2 ρ)) (Tm.renL 11 0 l ρ) (ih ρ)
  simp only [Tm.ren,Tm.renL];rw [if_neg (by omega),if_neg (by omega)];simpa [Af,Cd] using this
 | recs n m a a' z z' s s' k k' ha hz hs hk iha ihz ihs ihk =>
  intro ρ
  have:=Par.recs n m _ _ _ _ _ _ _ _ (iha (Jc 1 ρ)) (ihz ρ) (ihs (Jc 2 ρ)) (ihk ρ)
  rw [Fh,AkT,← Gc];simp only [Tm.ren,Tm.renL];rw [if_neg (by omega),if_neg (by omega),if_neg (by omega)];simpa [Af,Cd] using this
theorem KL {σ σ':Nat→Tm} (h:∀i,Par (σ i) (σ' i)) (k:Nat):∀i,Par (CG k σ i) (CG k σ' i):=by
 intro i;simp only [CG];by_cases hi:i<k
 ·rw [if_pos hi,if_pos hi];exact AY _
 ·rw [if_neg hi,if_neg hi];exact Af8 (h _) _
theorem Le {t t':Tm} (h:Par t t'):∀σ σ',(∀i,Par (σ i) (σ' i))→Par (t.sub σ) (t'.sub σ'):=by
 induction h with
 | var n ks =>
  intro σ σ' hσ;rw [Tm.sub,if_pos rfl,Tm.sub,if_pos rfl];by_cases hn:n<0∨ks.isEmpty=false
  ·rw [if_pos hn,if_pos hn];exact AY _
  ·rw [if_neg hn,if_neg hn];exact hσ _
 | node op n ks ks' h1 hl hk ih =>
  intro σ σ' hσ;rw [Tm.sub,if_neg h1,Tm.sub,if_neg h1];refine .node _ _ _ _ h1 (by rw [I8,I8,hl]) (fun i a b ha hb=>?_);rw [T5,Nat.zero_add] at ha hb;cases hx:ks[i]? with
  | none=>rw [hx] at ha;cases ha
  | some x =>
   cases hy:ks'[i]? with
   | none=>rw [hy] at hb;cases hb
   | some y =>
    rw [hx] at ha;rw [hy] at hb;simp only [Aq4,Aq1] at ha hb;subst ha hb;exact ih i x y hx hy _ _ (KL hσ _)
 | beta n m a b b' x x' hb hx ihb ihx =>
  intro σ σ' hσ
  have:=Par.beta n m (a.sub σ) _ _ _ _ (ihb _ _ (KL hσ 1)) (ihx _ _ hσ)
  rw [Eo,Ako,← Eo];simp only [Tm.sub,Tm.subL];rw [if_neg (by omega),if_neg (by omega)];simpa [Af,CE] using this
 | fst n m a x x' y hx ih =>
  intro σ σ' hσ
  have:=Par.fst n m (a.sub σ) _ _ (y.sub σ) (ih _ _ hσ)
  simp only [Tm.sub,Tm.subL];rw [if_neg (by omega),if_neg (by omega)];simpa [Af,CE] using this
 | snd n m a x y y' hy ih =>
  intro σ σ' hσ
  have:=Par.snd n m (a.sub σ) (x.sub σ) _ _ (ih _ _ hσ)
  simp only [Tm.sub,Tm.subL];rw [if_neg (by omega),if_neg (by omega)];simpa [Af,CE] using this
 | splq c c' hc ih =>
  intro σ σ' hσ
  have:=Par.splq _ _ (ih _ _ hσ)
  simp only [Tm.sub,Tm.subL];rw [if_neg (by omega),if_neg (by omega)];simpa [Af,CE] using this
 | quos c c' hc ih =>
  intro σ σ' hσ
  have:=Par.quos _ _ (ih _ _ hσ)
  simp only [Tm.sub,Tm.subL];rw [if_neg (by omega),if_neg (by omega)];simpa [Af,CE] using this
 | recz n m a z z' s l hz ih =>
  intro σ σ' hσ
  have:=Par.recz n m (a.sub (CG 1 σ)) _ _ (s.sub (CG 2 σ)) (Tm.subL 11 0 l σ) (ih _ _ hσ)
  simp only [Tm.sub,Tm.subL];rw [if_neg (by omega),if_neg (by omega)];simpa [Af,CE] using this
 | recs n m a a' z z' s s' k k' ha hz hs hk iha ihz ihs ihk =>
  intro σ σ' hσ
  have:=Par.recs n m _ _ _ _ _ _ _ _ (iha _ _ (KL hσ 1)) (ihz _ _ hσ) (ihs _ _ (KL hσ 2)) (ihk _ _ hσ)
  rw [Eo,AjI,← Eo];simp only [Tm.sub,Tm.subL];rw [if_neg (by omega),if_neg (by omega),if_neg (by omega)];simpa [Af,CE] using this
theorem Yp {Q:Tm→Tm→Prop}:∀(ks:List Tm),(∀a∈ks,∃d,Q a d)→∃ds:List Tm,ds.length=ks.length∧∀(i:Nat) a d,ks[i]?=some a→ds[i]?=some d→Q a d
 | [],_=>⟨[],rfl,fun i a d h=>by simp at h⟩
 | a::l,h=>by
  obtain ⟨d,hd⟩:=h a List.mem_cons_self;obtain ⟨ds,h1,h2⟩:=Yp l (fun a ha=>h a (List.mem_cons_of_mem _ ha));refine ⟨d::ds,by simp [h1],fun i x y hx hy=>?_⟩;cases i with
  | zero=>simp at hx hy;subst hx hy;exact hd
  | succ i=>simp at hx hy;exact h2 i x y hx hy
def AjR (op n:Int) (ks:List Tm):Prop:=(op=5∧∃m a b x,ks=[.mk 4 m [a,b],x])∨(op=8∧∃m a x y,ks=[.mk 7 m [a,x,y]])∨(op=9∧∃m a x y,ks=[.mk 7 m [a,x,y]])∨(op=30∧n=0∧∃c,ks=[.mk 19 0 [c]])∨(op=19∧n=0∧∃c,ks=[.mk 30 0 [c]]) ∨
 (op=13∧∃a z s m l,ks=[a,z,s,.mk 11 m l])∨(op=13∧∃a z s m k,ks=[a,z,s,.mk 12 m [k]])
theorem Aie {n op:Int} {x y:Tm} {t:Tm} (h:Par (.mk op n [x,y]) t) (ho:op≠1∧op≠5):∃x' y',t=.mk op n [x',y']∧Par x x'∧Par y y':=by
 cases h with
 | var=>exact absurd rfl ho.1
 | node _ _ _ ks' h1 hl hk =>
  obtain ⟨x',y',rfl⟩:=Aez hl;exact ⟨x',y',rfl,hk 0 x x' rfl rfl,hk 1 y y' rfl rfl⟩
 | beta=>exact absurd rfl ho.2
theorem Aiq {n op:Int} {x y z:Tm} {t:Tm} (h:Par (.mk op n [x,y,z]) t) (ho:op≠1):∃x' y' z',t=.mk op n [x',y',z']∧Par x x'∧Par y y'∧Par z z':=by
 cases h with
 | var=>exact absurd rfl ho
 | node _ _ _ ks' h1 hl hk =>
  obtain ⟨x',y',z',rfl⟩:=AmU hl;exact ⟨x',y',z',rfl,hk 0 x x' rfl rfl,hk 1 y y' rfl rfl,hk 2 z z' rfl rfl⟩
theorem dev:∀(m:Nat) (t:Tm),t.wt<m→∃d,∀t',Par t t'→Par t' d:=by
 intro m
 induction m with
 | zero=>intro t h;omega
 | succ m ih =>
  intro t hw;obtain ⟨op,n,ks⟩:=t;by_cases h1:op=1
  ·subst h1;refine ⟨.mk 1 n ks,fun t' h=>?_⟩;cases h with
   | var=>exact .var n ks
   | node _ _ _ _ h1=>exact absurd rfl h1
  by_cases hr:AjR op n ks
  ·rcases hr with ⟨rfl,m1,a,b,x,rfl⟩ | ⟨rfl,m1,a,x,y,rfl⟩ | ⟨rfl,m1,a,x,y,rfl⟩ | ⟨rfl,rfl,c,rfl⟩ | ⟨rfl,rfl,c,rfl⟩ | ⟨rfl,a,z,s,m1,l,rfl⟩ | ⟨rfl,a,z,s,m1,k,rfl⟩
   ·simp only [Tm.wt,Tm.wtL] at hw;obtain ⟨db,hb⟩:=ih b (by omega);obtain ⟨dx,hx⟩:=ih x (by omega);refine ⟨db.sub (s1 dx),fun t' h=>?_⟩;cases h with
    | node _ _ _ ks' _ hl hk =>
     obtain ⟨l',x',rfl⟩:=Aez hl;obtain ⟨a',b',rfl,_,q2⟩:=Aie (hk 0 _ l' rfl rfl) (by decide);exact .beta n m1 a' b' db x' dx (hb b' q2) (hx x' (hk 1 x x' rfl rfl))
    | beta _ _ _ _ b' _ x' p1 p2 =>
     refine Le (hb b' p1) _ _ (fun i=>?_);cases i with
     | zero=>exact hx x' p2
     | succ i=>exact AY _
   ·simp only [Tm.wt,Tm.wtL] at hw;obtain ⟨dx,hx⟩:=ih x (by omega);refine ⟨dx,fun t' h=>?_⟩;cases h with
    | node _ _ _ ks' _ hl hk =>
     obtain ⟨l',rfl⟩:=E9 hl;obtain ⟨a',x',y',rfl,_,q2,_⟩:=Aiq (hk 0 _ l' rfl rfl) (by decide);exact .fst n m1 a' x' dx y' (hx x' q2)
    | fst _ _ _ _ _ _ p=>exact hx _ p
   ·simp only [Tm.wt,Tm.wtL] at hw;obtain ⟨dy,hy⟩:=ih y (by omega);refine ⟨dy,fun t' h=>?_⟩;cases h with
    | node _ _ _ ks' _ hl hk =>
     obtain ⟨l',rfl⟩:=E9 hl;obtain ⟨a',x',y',rfl,_,_,q3⟩:=Aiq (hk 0 _ l' rfl rfl) (by decide);exact .snd n m1 a' x' y' dy (hy y' q3)
    | snd _ _ _ _ _ _ p=>exact hy _ p
   ·simp only [Tm.wt,Tm.wtL] at hw;obtain ⟨dc,hc⟩:=ih c (by omega);refine ⟨dc,fun t' h=>?_⟩;cases h with
    | node _ _ _ ks' _ hl hk =>
     obtain ⟨l',rfl⟩:=E9 hl;have hq:=hk 0 _ l' rfl rfl;cases hq with
     | node _ _ _ ks2 _ hl2 hk2 =>
      obtain ⟨c',rfl⟩:=E9 hl2;exact .splq c' dc (hc c' (hk2 0 c c' rfl rfl))
     | quos e _ he=>exact hc _ (.node 30 0 [e] [l'] (by decide) rfl (fun i a b ha hb=>by
       cases i with
       | zero=>simp at ha hb;subst ha hb;exact he
       | succ i=>simp at ha))
    | splq _ _ p=>exact hc _ p
   ·simp only [Tm.wt,Tm.wtL] at hw;obtain ⟨dc,hc⟩:=ih c (by omega);refine ⟨dc,fun t' h=>?_⟩;cases h with
    | node _ _ _ ks' _ hl hk =>
     obtain ⟨l',rfl⟩:=E9 hl;have hq:=hk 0 _ l' rfl rfl;cases hq with
     | node _ _ _ ks2 _ hl2 hk2 =>
      obtain ⟨c',rfl⟩:=E9 hl2;exact .quos c' dc (hc c' (hk2 0 c c' rfl rfl))
     | splq e _ he=>exact hc _ (.node 19 0 [e] [l'] (by decide) rfl (fun i a b ha hb=>by
       cases i with
       | zero=>simp at ha hb;subst ha hb;exact he
       | succ i=>simp at ha))
    | quos _ _ p=>exact hc _ p
   ·simp only [Tm.wt,Tm.wtL] at hw;obtain ⟨dz,hz⟩:=ih z (by omega);refine ⟨dz,fun t' h=>?_⟩;cases h with
    | node _ _ _ ks' _ hl hk =>
     obtain ⟨a',z',s',k',rfl⟩:=Acl hl;have hq:=hk 3 _ k' rfl rfl;cases hq with
     | node _ _ _ l2 _ hl2 hk2=>exact .recz n m1 a' z' dz s' l2 (hz z' (hk 1 z z' rfl rfl))
    | recz _ _ _ _ _ _ _ p=>exact hz _ p
   ·simp only [Tm.wt,Tm.wtL] at hw;obtain ⟨da,ha⟩:=ih a (by omega);obtain ⟨dz,hz⟩:=ih z (by omega);obtain ⟨ds,hs⟩:=ih s (by omega);obtain ⟨dk,hk⟩:=ih k (by omega);refine ⟨ds.sub (s2 (.mk 13 0 [da,dz,ds,dk]) dk),fun t' h=>?_⟩;cases h with
    | node _ _ _ ks' _ hl hkk =>
     obtain ⟨a',z',s',k',rfl⟩:=Acl hl;have hq:=hkk 3 _ k' rfl rfl;cases hq with
     | node _ _ _ l2 _ hl2 hk2 =>
      obtain ⟨k2,rfl⟩:=E9 hl2;exact .recs n m1 a' da z' dz s' ds k2 dk (ha a' (hkk 0 a a' rfl rfl)) (hz z' (hkk 1 z z' rfl rfl)) (hs s' (hkk 2 s s' rfl rfl)) (hk k2 (hk2 0 k k2 rfl rfl))
    | recs _ _ _ a' _ z' _ s' _ k' pa pz ps pk =>
     refine Le (hs s' ps) _ _ (fun i=>?_)
     match i with
     | 0 =>
      refine .node 13 0 _ _ (by decide) rfl (fun i a1 b1 e1 e2=>?_)
      match i with
      | 0=>simp at e1 e2;subst e1 e2;exact ha a' pa
      | 1=>simp at e1 e2;subst e1 e2;exact hz z' pz
      | 2=>simp at e1 e2;subst e1 e2;exact hs s' ps
      | 3=>simp at e1 e2;subst e1 e2;exact hk k' pk
      | i+4=>simp at e1
     | 1=>exact hk k' pk
     | i+2=>exact AY _
  ·simp only [Tm.wt] at hw;obtain ⟨ds,hd1,hd2⟩:=Yp (Q:=fun a d=>∀t',Par a t'→Par t' d) ks (fun a ha=>ih a (by have:=CX ha;omega));refine ⟨.mk op n ds,fun t' h=>?_⟩;cases h with
   | var=>exact absurd rfl h1
   | node _ _ _ ks' _ hl hk =>
    refine .node op n ks' ds h1 (by rw [hd1,hl]) (fun i a b ha hb=>?_);have hi:i<ks.length:=by rw [← hl];exact (List.getElem?_eq_some_iff.1 ha).1
    have hx:=List.getElem?_eq_getElem hi;exact hd2 i _ b hx hb a (hk i _ a hx ha)
   | beta _ m1 a b b' x x'=>exact absurd (.inl ⟨rfl,m1,a,b,x,rfl⟩) hr
   | fst _ m1 a x x' y=>exact absurd (.inr (.inl ⟨rfl,m1,a,x,y,rfl⟩)) hr
   | snd _ m1 a x y y'=>exact absurd (.inr (.inr (.inl ⟨rfl,m1,a,x,y,rfl⟩))) hr
   | splq c c'=>exact absurd (.inr (.inr (.inr (.inl ⟨rfl,rfl,c,rfl⟩)))) hr
   | quos c c'=>exact absurd (.inr (.inr (.inr (.inr (.inl ⟨rfl,rfl,c,rfl⟩))))) hr
   | recz _ m1 a z z' s l=>exact absurd (.inr (.inr (.inr (.inr (.inr (.inl ⟨rfl,a,z,s,m1,l,rfl⟩)))))) hr
   | recs _ m1 a a' z z' s s' k k'=>exact absurd (.inr (.inr (.inr (.inr (.inr (.inr ⟨rfl,a,z,s,m1,k,rfl⟩)))))) hr
inductive Pars:Tm→Tm→Prop
 | refl (t:Tm):Pars t t
 | step {a b c:Tm} (h:Par a b) (hs:Pars b c):Pars a c
theorem CM {a b:Tm} (h:Par a b):Pars a b:=.step h (.refl _)
theorem Bq {a b c:Tm} (h:Pars a b) (h2:Pars b c):Pars a c:=by
 induction h with
 | refl=>exact h2
 | step h _ ih=>exact .step h (ih h2)
theorem Ang {a c:Tm} (h:Pars a c):∀{b:Tm},Par a b→∃d,Pars b d∧Par c d:=by
 induction h with
 | refl t=>intro b hb;exact ⟨b,.refl _,hb⟩
 | @step a b' c h _ ih =>
  intro b hb;obtain ⟨d,hd⟩:=dev (a.wt+1) a (by omega);obtain ⟨e,h1,h2⟩:=ih (hd _ h);exact ⟨e,.step (hd _ hb) h1,h2⟩
theorem SE {a b:Tm} (h:Pars a b):∀{c:Tm},Pars a c→∃d,Pars b d∧Pars c d:=by
 induction h with
 | refl t=>intro c hc;exact ⟨c,hc,.refl _⟩
 | step h _ ih =>
  intro c hc;obtain ⟨d,h1,h2⟩:=Ang hc h;obtain ⟨e,h3,h4⟩:=ih h1;exact ⟨e,h3,.step h2 h4⟩
theorem Aht {t t':Tm} (h:Par t t'):t.stl→t'=t:=by
 induction h with
 | var=>intro _;rfl
 | node op n ks ks' h1 hl hk ih =>
  intro hs;rw [Tm.stl] at hs;congr 1;apply List.ext_getElem?;intro i;by_cases hi:i<ks.length
  ·have hx:=List.getElem?_eq_getElem hi;have hy:=List.getElem?_eq_getElem (show i<ks'.length by omega)
   rw [hx,hy,ih i _ _ hx hy (TO hs.2 (List.mem_of_getElem? hx))]
  ·rw [List.getElem?_eq_none (by omega),List.getElem?_eq_none (by omega)]
 | beta n m a b b' x x'=>intro hs;rw [Tm.stl] at hs;exact absurd rfl (hs.1.2.1 rfl _ rfl)
 | fst n m a x x' y=>intro hs;rw [Tm.stl] at hs;exact absurd rfl (hs.1.2.2 (.inl rfl) _ rfl)
 | snd n m a x y y'=>intro hs;rw [Tm.stl] at hs;exact absurd rfl (hs.1.2.2 (.inr rfl) _ rfl)
 | splq c c'=>intro hs;rw [Tm.stl] at hs;exact absurd rfl (hs.1.1.1 rfl _ rfl)
 | quos c c'=>intro hs;rw [Tm.stl] at hs;exact absurd rfl (hs.1.1.2.1 rfl _ rfl)
 | recz n m a z z' s l=>intro hs;rw [Tm.stl] at hs;exact absurd rfl (hs.1.1.2.2 rfl _ rfl).1
 | recs n m a a' z z' s s' k k'=>intro hs;rw [Tm.stl] at hs;exact absurd rfl (hs.1.1.2.2 rfl _ rfl).2
theorem Ch {t t':Tm} (h:Pars t t'):t.stl→t'=t:=by
 induction h with
 | refl=>intro _;rfl
 | step h _ ih =>
  intro hs
  have:=Aht h hs
  subst this;exact ih hs
theorem Ad8 {t u n m d:Tm} (h1:Pars t n) (h2:Pars u m) (h3:Pars t d) (h4:Pars u d) (hn:n.stl) (hm:m.stl):n=m:=by
 obtain ⟨e,a1,a2⟩:=SE h1 h3;obtain ⟨e',b1,b2⟩:=SE h2 h4
 have:=Ch a1 hn
 subst this
 have:=Ch b1 hm
 subst this;obtain ⟨x,c1,c2⟩:=SE a2 b2;rw [← Ch c1 hn,Ch c2 hm]
theorem EA {op n:Int} (h1:op≠1):∀{ks ks':List Tm},ks'.length=ks.length→(∀(i:Nat) a b,ks[i]?=some a→ks'[i]?=some b→Pars a b)→Pars (.mk op n ks) (.mk op n ks'):=by
 have key:∀(
        pre ks ks':List Tm),ks'.length=ks.length→(∀(i:Nat) a b,ks[i]?=some a→ks'[i]?=some b→Pars a b)→Pars (.mk op n (pre++ks)) (.mk op n (pre++ks')):=by
  intro pre ks
  induction ks generalizing pre with
  | nil =>
   intro ks' hl _;rw [List.eq_nil_of_length_eq_zero hl];exact .refl _
  | cons a l ih =>
   intro ks' hl hk;cases ks' with
   | nil=>simp at hl
   | cons b l' =>
    have hab:=hk 0 a b rfl rfl;have hrest:=ih (pre++[b]) l' (by simpa using hl) (fun i x y hx hy=>hk (i+1) x y (by simpa using hx) (by simpa using hy));rw [List.append_assoc,List.append_assoc] at hrest;refine Bq ?_ hrest;have one:∀{x y:Tm},Pars x y→Pars (.mk op n (pre++x::l)) (.mk op n (pre++y::l)):=by
     intro x y h
     induction h with
     | refl=>exact .refl _
     | step h _ ih2 =>
      refine .step (.node op n _ _ h1 (by simp) (fun i p q hp hq=>?_)) ih2;by_cases hi:i<pre.length
      ·rw [List.getElem?_append_left hi] at hp hq;rw [hp] at hq;cases hq;exact AY _
      ·rw [List.getElem?_append_right (by omega)] at hp hq;cases hd:i - pre.length with
       | zero =>
        rw [hd] at hp hq;simp at hp hq;subst hp hq;exact h
       | succ j =>
        rw [hd] at hp hq;simp at hp hq;rw [hp] at hq;cases hq;exact AY _
    exact one hab
 intro ks ks' hl hk;exact key [] ks ks' hl hk
theorem Jw {t t':Tm} (h:Pars t t') (σ:Nat→Tm):Pars (t.sub σ) (t'.sub σ):=by
 induction h with
 | refl=>exact .refl _
 | step h _ ih=>exact .step (Le h σ σ (fun i=>AY _)) ih
theorem AhF (t:Tm) (σ:Nat→Tm) (j:Nat) {x y:Tm} (h:Pars x y):Pars (t.sub fun i=>if i=j then x else σ i) (t.sub fun i=>if i=j then y else σ i):=by
 induction h with
 | refl=>exact .refl _
 | step h _ ih =>
  refine .step (Le (AY t) _ _ (fun i=>?_)) ih;by_cases hi:i=j
  ·simp only [hi,if_true];exact h
  ·simp only [hi,if_false];exact AY _
mutual
def Tm.wa:Tm→Prop
 | .mk op n ks=>ar op=some ks.length∧((op=1→0≤n)∧(op=19∨op=30→n=0))∧Tm.waL ks
def Tm.waL:List Tm→Prop
 | []=>True
 | t::l=>t.wa∧Tm.waL l
end
mutual
theorem Aic:∀(t:Tm) (k:Nat),t.sc k→t.wa
 | .mk op n ks,k,h=>by
  rw [Tm.sc] at h;rw [Tm.wa];refine ⟨h.1,⟨fun h1=>?_,fun h9=>?_⟩,scL_wa ks op 0 k h.2.2⟩
  ·have:=h.2.1
   rw [if_pos h1] at this;exact this.1
  ·have:=h.2.1
   rw [if_neg (by omega)] at this;rcases h9 with rfl | rfl<;>simpa [Bz] using this
theorem scL_wa:∀(l:List Tm) (op:Int) (i k:Nat),Tm.scL op i l k→Tm.waL l
 | [],_,_,_,_=>by rw [Tm.waL];trivial
 | t::l,op,i,k,h=>by
  rw [Tm.scL] at h;rw [Tm.waL];exact ⟨Aic t _ h.1,scL_wa l op (i+1) k h.2⟩
end
inductive Un:Nat→RV→Tm→Prop
 | var (u:Nat) (n:Int) (h:n<u):Un u (.var n) (.mk 1 ((u:Int) - 1 - n) [])
 | node (u:Nat) (op n:Int) (k:List RV) (ts:List Tm) (T:Nat→Nat→Tm) (h1:op≠1) (h9:op=19∨op=30→n=0) (har:ar op=some ts.length) (hl:k.length=ts.length)
   (hk:∀(i:Nat) v t,Af op i=0→k[i]?=some v→ts[i]?=some t→Un u v t)
   (hc:∀(i:Nat) (v:RV) t,0<Af op i→k[i]?=some v→ts[i]?=some t→t=v.b.sub (CG (Af op i) (T i))∧v.b.wa)
   (hf:∀(i:Nat) (v:RV) (j:Nat),0<Af op i→k[i]?=some v→v.env.length≤j→T i j=vT (u+(j - v.env.length)))
   (he:∀(i:Nat) (v:RV) (j:Nat) x,0<Af op i→k[i]?=some v→v.env.reverse[j]?=some x→Un u x (T i j)):Un u (.node op n k) (.mk op n ts)
def Th (u:Nat) (env:List RV) (τ:Nat→Tm):Prop:=(∀(j:Nat) x,env.reverse[j]?=some x→Un u x (τ j))∧∀j,env.length≤j→τ j=vT (u+(j - env.length))
theorem GN {u:Nat} {v:RV} {t:Tm} (h:Un u v t) (h1:v.op≠1):∃(ts:List Tm) (T:Nat→Nat→Tm),(v.op=19∨v.op=30→v.n=0)∧v=.node v.op v.n v.k∧t=.mk v.op v.n ts∧ar v.op=some ts.length∧v.k.length=ts.length∧(∀(i:Nat) x y,Af v.op i=0→v.k[i]?=some x→ts[i]?=some y→Un u x y) ∧
  (∀(i:Nat) (x:RV) y,0<Af v.op i→v.k[i]?=some x→ts[i]?=some y→y=x.b.sub (CG (Af v.op i) (T i))∧x.b.wa∧Th u x.env (T i)):=by
 cases h with
 | var=>exact absurd rfl h1
 | node op n k ts T h1 h9 har hl hk hc hf he =>
  refine ⟨ts,T,h9,rfl,rfl,har,hl,hk,fun i x y a b c=>?_⟩;obtain ⟨q1,q2⟩:=hc i x y a b c;exact ⟨q1,q2,fun j z hz=>he i x j z a b hz,fun j hj=>hf i x j a b hj⟩
theorem AlR {u:Nat} {v:RV} {t:Tm} (h:Un u v t):∀d:Nat,Un (u+d) v (t.ren fun j=>j+d):=by
 induction h with
 | var n h =>
  intro d;have e:(Tm.mk 1 ((u:Int) - 1 - n) [])=vT ((u:Int) - 1 - n).toNat:=by rw [vT];congr 1;omega
  rw [e,GE]
  have:=Un.var (u+d) n (by omega)
  have e2:vT (((u:Int) - 1 - n).toNat+d)=.mk 1 (((u+d:Nat):Int) - 1 - n) []:=by rw [vT];congr 1;omega
  rw [e2];exact this
 | node op n k ts T h1 h9 har hl hk hc hf he ihk ihe =>
  intro d;rw [Tm.ren,if_neg h1];refine .node (u+d) op n k _ (fun i j=>(T i j).ren fun x=>x+d) h1 h9 (by rw [GQ];exact har) (by rw [GQ];exact hl) ?_ ?_ ?_ ?_
  ·intro i v t hb hv ht;rw [Kw,Nat.zero_add] at ht;cases hx:ts[i]? with
   | none=>rw [hx] at ht;cases ht
   | some y =>
    rw [hx,hb,Cd] at ht;simp only [Aq4,Aq1] at ht;subst ht;exact ihk i v y hb hv hx d
  ·intro i v t hb hv ht;rw [Kw,Nat.zero_add] at ht;cases hx:ts[i]? with
   | none=>rw [hx] at ht;cases ht
   | some y =>
    rw [hx] at ht;simp only [Aq4,Aq1] at ht;subst ht;obtain ⟨q1,q2⟩:=hc i v y hb hv hx;refine ⟨?_,q2⟩;rw [q1,Fh,WL]
  ·intro i v j hb hv hj;rw [hf i v j hb hv hj,GE];congr 1;omega
  ·intro i v j x hb hv hx;exact ihe i v j x hb hv hx d
theorem Adi:Th 0 [] vT:=⟨fun j x h=>by simp at h,fun j _=>by simp⟩
theorem Mk {u:Nat} {env:List RV} {τ:Nat→Tm} (h:Th u env τ) {x:RV} {t:Tm} (hx:Un u x t):Th u (env++[x]) (fun i=>match i with | 0=>t | j+1=>τ j):=by
 refine ⟨fun j y hy=>?_,fun j hj=>?_⟩
 ·rw [List.reverse_append] at hy;cases j with
  | zero =>
   simp at hy;subst hy;exact hx
  | succ j =>
   simp only [List.reverse_cons,List.reverse_nil,List.nil_append,List.cons_append,List.getElem?_cons_succ] at hy;exact h.1 j y hy
 ·rw [List.length_append,Aq5,List.length_nil] at hj ⊢;cases j with
  | zero=>omega
  | succ j =>
   simp only;rw [h.2 j (by omega)];congr 1;omega
theorem Ahx {u:Nat} {env:List RV} {τ:Nat→Tm} (h:Th u env τ) (b:Nat):Th (u+b) (env++IZ u b) (CG b τ):=by
 refine ⟨fun j y hy=>?_,fun j hj=>?_⟩
 ·rw [List.reverse_append] at hy;by_cases hjb:j<b
  ·rw [List.getElem?_append_left (by rw [List.length_reverse,Cz];exact hjb)] at hy;obtain ⟨_,rfl⟩:=Abm _ _ _ hy;simp only [CG,if_pos hjb]
   have:=Un.var (u+b) ((u:Int)+((b - 1 - j:Nat):Int)) (by omega)
   have e:vT j=.mk 1 (((u+b:Nat):Int) - 1 - ((u:Int)+((b - 1 - j:Nat):Int))) []:=by rw [vT];congr 1;omega
   rw [e];exact this
  ·rw [List.getElem?_append_right (by rw [List.length_reverse,Cz];omega),List.length_reverse,Cz] at hy;simp only [CG,if_neg hjb];exact AlR (h.1 _ _ hy) b
 ·rw [List.length_append,Cz] at hj ⊢;simp only [CG];rw [if_neg (by omega),h.2 _ (by omega),GE];congr 1;omega
theorem Acq {f:Nat} {s n:Int} {k0 x v:RV} {s':Int} (h:headR (f+1) s 0 (.node 5 n [k0,x])=some (v,s',0)):k0.op=4∧(∃c,k0.k[1]?=some c∧AI f (s+1) 0 c.b (c.env++[x])=some (v,s',0))∨k0.op≠4∧v=.node 5 n [k0,x]:=by
 rw [headR,if_neg (by simp)] at h;by_cases hs:s<0∨1000000<s
 ·rw [if_pos hs] at h;cases h
 rw [if_neg hs,if_pos (show RV.op (.node 5 n [k0,x])=5 from rfl),show RV.k (.node 5 n [k0,x])=[k0,x] from rfl] at h
 simp only [List.getElem?_cons_zero,List.getElem?_cons_succ] at h;by_cases h0:k0.op=4
 ·rw [if_pos h0] at h;by_cases h1:s+1≤1000
  ·rw [if_pos h1] at h;cases hc:k0.k[1]? with
   | none=>rw [hc] at h;cases h
   | some c =>
    rw [hc] at h;simp only at h;by_cases h2:900000<c.env.length
    ·rw [if_pos h2] at h;cases h
    ·rw [if_neg h2] at h;exact .inl ⟨h0,c,rfl,h⟩
  ·rw [if_neg h1] at h;simp at h
 ·rw [if_neg h0] at h;simp only [Aq1,Aq2] at h;exact .inr ⟨h0,h.1.symm⟩
theorem UP {f:Nat} {s op n:Int} {k0 v:RV} {s':Int} (ho:op=8∨op=9) (h:headR (f+1) s 0 (.node op n [k0])=some (v,s',0)):k0.op=7∧k0.k[(1+op - 8).toNat]?=some v∨k0.op≠7∧v=.node op n [k0]:=by
 rw [headR,if_neg (by simp)] at h;by_cases hs:s<0∨1000000<s
 ·rw [if_pos hs] at h;cases h
 have hop:RV.op (.node op n [k0])=op:=rfl;rw [if_neg hs,hop,if_neg (by omega),if_pos ho,show RV.k (.node op n [k0])=[k0] from rfl] at h
 simp only [List.getElem?_cons_zero] at h;by_cases h0:k0.op=7
 ·rw [if_pos h0] at h;by_cases h1:s+1≤1000
  ·rw [if_pos h1] at h;cases hw:k0.k[(1+op - 8).toNat]? with
   | none=>rw [hw] at h;cases h
   | some w =>
    rw [hw] at h;simp only [Aq4,Aq1,Aq2] at h;rw [← h.1];exact .inl ⟨h0,rfl⟩
  ·rw [if_neg h1] at h;simp at h
 ·rw [if_neg h0] at h;simp only [Aq1,Aq2] at h;exact .inr ⟨h0,h.1.symm⟩
theorem PY {ev:Int→Int→Tm→Option (RV×Int×Int)} {u:Nat} {env:List RV} {τ:Nat→Tm} (henv:Th u env τ) (hev:∀s t v s',ev s 0 t=some (v,s',0)→t.wa→∃w,Un u v w∧Pars (t.sub τ) w) (herr:∀s e t v s',ev s e t=some (v,s',0)→e=0) (op:Int) :
  ∀(l:List Tm) (i:Nat) (s:Int) (vs:List RV) (s':Int),A3 ev op env i l s 0=some (vs,s',0)→Tm.waL l→∃ts:List Tm,ts.length=l.length∧vs.length=l.length∧(∀(j:Nat) a b,(Tm.subL op i l τ)[j]?=some a→ts[j]?=some b→Pars a b) ∧
   (∀(j:Nat) v t,Af op (i+j)=0→vs[j]?=some v→ts[j]?=some t→Un u v t)∧(∀(j:Nat) (v:RV) t,0<Af op (i+j)→vs[j]?=some v→ts[j]?=some t→t=v.b.sub (CG (Af op (i+j)) τ)∧v.b.wa∧v.env=env)
 | [],i,s,vs,s',h,hw=>by
  simp only [A3,Aq1,Aq2] at h;obtain ⟨rfl,_⟩:=h;exact ⟨[],rfl,rfl,fun j a b h=>by simp [Tm.subL] at h,fun j v t _ h=>by simp at h,fun j v t _ h=>by simp at h⟩
 | t::l,i,s,vs,s',h,hw=>by
  rw [Tm.waL] at hw;simp only [A3] at h;by_cases hb:0<Af op i
  ·rw [if_pos hb] at h;cases hk:A3 ev op env (i+1) l s 0 with
   | none=>rw [hk] at h;cases h
   | some q =>
    obtain ⟨us,s1,e1⟩:=q;rw [hk] at h;simp only [Aq4,Aq1,Aq2] at h;obtain ⟨rfl,rfl,rfl⟩:=h;obtain ⟨ts,a1,a2,a3,a4,a5⟩:=PY henv hev herr op l (i+1) s us s1 hk hw.2;refine ⟨t.sub (CG (Af op i) τ)::ts,by simp [a1],by simp [a2],?_,?_,?_⟩
    ·intro j a b ha hb';cases j with
     | zero =>
      simp only [Tm.subL,List.getElem?_cons_zero,Aq1] at ha hb';subst ha hb';exact .refl _
     | succ j =>
      simp only [Tm.subL,List.getElem?_cons_succ] at ha hb';exact a3 j a b ha hb'
    ·intro j v x h0 hv hx;cases j with
     | zero=>rw [Nat.add_zero] at h0;omega
     | succ j =>
      simp only [List.getElem?_cons_succ] at hv hx;exact a4 j v x (by rw [← h0];congr 1;omega) hv hx
    ·intro j v x h0 hv hx;cases j with
     | zero =>
      simp only [List.getElem?_cons_zero,Aq1] at hv hx;subst hv hx;exact ⟨rfl,hw.1,rfl⟩
     | succ j =>
      simp only [List.getElem?_cons_succ] at hv hx
      have:=a5 j v x (by rw [show i+1+j=i+(j+1) by omega];exact h0) hv hx
      rw [show i+1+j=i+(j+1) by omega] at this
      exact this
  ·rw [if_neg hb] at h;have hb0:Af op i=0:=by omega
   cases he:ev s 0 t with
   | none=>rw [he] at h;cases h
   | some q =>
    obtain ⟨v0,s1,e1⟩:=q;rw [he] at h;simp only at h;cases hk:A3 ev op env (i+1) l s1 e1 with
    | none=>rw [hk] at h;cases h
    | some q =>
     obtain ⟨us,s3,e3⟩:=q;rw [hk] at h;simp only [Aq4,Aq1,Aq2] at h;obtain ⟨rfl,rfl,rfl⟩:=h;have he1:=IK ev herr op env l _ _ _ _ _ hk;subst he1;obtain ⟨w,w1,w2⟩:=hev _ _ _ _ he hw.1;obtain ⟨ts,a1,a2,a3,a4,a5⟩:=PY henv hev herr op l (i+1) s1 us s3 hk hw.2;refine ⟨w::ts,by simp [a1],by simp [a2],?_,?_,?_⟩
     ·intro j a b ha hb';cases j with
      | zero =>
       simp only [Tm.subL,List.getElem?_cons_zero,Aq1] at ha hb';subst ha hb';rw [hb0,CE];exact w2
      | succ j =>
       simp only [Tm.subL,List.getElem?_cons_succ] at ha hb';exact a3 j a b ha hb'
     ·intro j v x h0 hv hx;cases j with
      | zero =>
       simp only [List.getElem?_cons_zero,Aq1] at hv hx;subst hv hx;exact w1
      | succ j =>
       simp only [List.getElem?_cons_succ] at hv hx;exact a4 j v x (by rw [← h0];congr 1;omega) hv hx
     ·intro j v x h0 hv hx;cases j with
      | zero=>rw [Nat.add_zero] at h0;omega
      | succ j =>
       simp only [List.getElem?_cons_succ] at hv hx
       have:=a5 j v x (by rw [show i+1+j=i+(j+1) by omega];exact h0) hv hx
       rw [show i+1+j=i+(j+1) by omega] at this
       exact this
def EvU (f:Nat):Prop:=∀s t env v s' u τ,AI f s 0 t env=some (v,s',0)→t.wa→Th u env τ→∃w,Un u v w∧Pars (t.sub τ) w
def HdU (f:Nat):Prop:=∀s op n k v s' u ts,headR f s 0 (.node op n k)=some (v,s',0)→op≠1→Un u (.node op n k) (.mk op n ts)→∃w,Un u v w∧Pars (.mk op n ts) w
theorem Amc {f:Nat} (ihE:EvU f) (ihH:HdU f):EvU (f+1):=by
 intro s t env v s' u τ h hw henv;obtain ⟨op,m,ks⟩:=t;rw [Tm.wa] at hw;by_cases h1:op=1
 ·subst h1;have hks:ks=[]:=List.eq_nil_of_length_eq_zero (Option.some.inj hw.1.symm);subst hks;have hm:=hw.2.1.1 rfl;have hv:¬ (m<0∨([]:List Tm).isEmpty=false):=by
   rintro (h | h)
   ·omega
   ·cases h
  rw [Tm.sub,if_pos rfl,if_neg hv];rcases (Zn h hm).1 with ⟨a1,a2⟩ | ⟨a1,rfl⟩
  ·exact ⟨_,henv.1 _ _ a2,.refl _⟩
  ·refine ⟨_,?_,.refl _⟩;rw [henv.2 _ (by omega)]
   have:=Un.var u ((env.length:Int) - 1 - m) (by omega)
   have e:vT (u+(m.toNat - env.length))=.mk 1 ((u:Int) - 1 - ((env.length:Int) - 1 - m)) []:=by rw [vT];congr 1;omega
   rw [e];exact this
 ·obtain ⟨vs,s1,q1,q2⟩:=GJ h h1;obtain ⟨ts,a1,a2,a3,a4,a5⟩:=PY henv (fun s t v s' a b=>ihE s t env v s' u τ a b henv) (fun s e t v s' a=>EI a) op ks 0 s vs s1 q1 hw.2.2;simp only [Nat.zero_add] at a4 a5;have hun:Un u (.node op m vs) (.mk op m ts):=by
   refine .node u op m vs ts (fun _=>τ) h1 hw.2.1.2 (by rw [a1];exact hw.1) (by rw [a1,a2]) a4 (fun i v t b c d=>⟨(a5 i v t b c d).1,(a5 i v t b c d).2.1⟩) ?_ ?_
   ·intro i v j b c hj;have hi:i<ts.length:=by rw [a1,← a2];exact (List.getElem?_eq_some_iff.1 c).1
    have:=(a5 i v _ b c (List.getElem?_eq_getElem hi)).2.2
    rw [this] at hj ⊢;exact henv.2 j hj
   ·intro i v j x b c hx;have hi:i<ts.length:=by rw [a1,← a2];exact (List.getElem?_eq_some_iff.1 c).1
    have:=(a5 i v _ b c (List.getElem?_eq_getElem hi)).2.2
    rw [this] at hx;exact henv.1 j x hx
  obtain ⟨w,w1,w2⟩:=ihH _ _ _ _ _ _ u ts q2 h1 hun;refine ⟨w,w1,?_⟩;rw [Tm.sub,if_neg h1];exact Bq (EA h1 (by rw [I8,a1]) a3) w2
theorem AlG {f:Nat} (ihE:EvU f) (ihH:HdU f):HdU (f+1):=by
 intro s op n k v s' u ts h h1 hun;obtain ⟨ts',T,hn9,_,e2,har,hl,hk,hc⟩:=GN hun h1;simp only [RV.node,RV.op,RV.n,RV.k,Tm.mk.injEq,true_and] at e2 har hl hk hc hn9;subst e2;by_cases h5:op=5
 ·subst h5;obtain ⟨t0,tx,rfl⟩:=Aez (Option.some.inj har.symm:ts.length=2);obtain ⟨k0,x,rfl⟩:=Aez (hl.trans rfl:k.length=2);have u0:=hk 0 k0 t0 rfl rfl rfl;have ux:=hk 1 x tx rfl rfl rfl;rcases Acq h with ⟨h4,c,hcc,hev⟩ | ⟨_,rfl⟩
  ·obtain ⟨us,T0,n0,e0,rfl,NK,l0,_,c0⟩:=GN u0 (by omega);rw [h4] at NK c0 ⊢;obtain ⟨ta,tb,rfl⟩:=Aez (Option.some.inj NK.symm:us.length=2);obtain ⟨rfl,hwa,henv⟩:=c0 1 c tb (by decide) hcc rfl;obtain ⟨w,w1,w2⟩:=ihE _ _ _ _ _ u _ hev hwa (Mk henv ux);refine ⟨w,w1,.step (.beta n k0.n ta _ _ tx tx (AY _) (AY _)) ?_⟩;rw [Eo]
   have:(fun i=>(CG (Af 4 1) (T0 1) i).sub (s1 tx))=fun i=>match i with | 0=>tx | j+1=>T0 1 j:=by
    funext i
    cases i with
    | zero=>simp [CG,EP,s1,show Af 4 1=1 from rfl]
    | succ i =>
     simp only [CG,show Af 4 1=1 from rfl]
     rw [if_neg (by omega),Nat.add_sub_cancel,F6 _ _ _ (fun j=>rfl)]
   rw [this];exact w2
  ·exact ⟨_,hun,.refl _⟩
 by_cases h89:op=8∨op=9
 ·have hl1:ts.length=1:=by rcases h89 with rfl | rfl<;>exact Option.some.inj har.symm
  obtain ⟨t0,rfl⟩:=E9 hl1;obtain ⟨k0,rfl⟩:=E9 (hl.trans rfl:k.length=1);have u0:=hk 0 k0 t0 (by rcases h89 with rfl | rfl<;>rfl) rfl rfl;rcases UP h89 h with ⟨h7,hx⟩ | ⟨_,rfl⟩
  ·obtain ⟨us,T0,n0,e0,rfl,NK,l0,hk0,_⟩:=GN u0 (by omega);rw [h7] at NK hk0 ⊢;obtain ⟨ta,tb,tc,rfl⟩:=AmU (Option.some.inj NK.symm:us.length=3);rcases h89 with rfl | rfl
   ·exact ⟨tb,hk0 1 v tb rfl hx rfl,CM (.fst n k0.n ta tb tb tc (AY _))⟩
   ·exact ⟨tc,hk0 2 v tc rfl hx rfl,CM (.snd n k0.n ta tb tc tc (AY _))⟩
  ·exact ⟨_,hun,.refl _⟩
 by_cases h30:op=30
 ·subst h30;obtain ⟨t0,rfl⟩:=E9 (Option.some.inj har.symm:ts.length=1);obtain ⟨k0,rfl⟩:=E9 (hl.trans rfl:k.length=1);have u0:=hk 0 k0 t0 rfl rfl rfl;rcases RX h with ⟨h7,hx⟩ | ⟨_,rfl⟩
  ·obtain ⟨us,T0,n0,e0,rfl,NK,l0,hk0,_⟩:=GN u0 (by omega);rw [h7] at NK hk0 ⊢;obtain ⟨ta,rfl⟩:=E9 (Option.some.inj NK.symm:us.length=1);exact ⟨ta,hk0 0 v ta rfl hx rfl,by rw [hn9 (.inr rfl),n0 (.inl h7)];exact CM (.splq ta ta (AY _))⟩
  ·exact ⟨_,hun,.refl _⟩
 by_cases h19:op=19
 ·subst h19;obtain ⟨t0,rfl⟩:=E9 (Option.some.inj har.symm:ts.length=1);obtain ⟨k0,rfl⟩:=E9 (hl.trans rfl:k.length=1);have u0:=hk 0 k0 t0 rfl rfl rfl;rcases TR h with ⟨h7,hx⟩ | ⟨_,rfl⟩
  ·obtain ⟨us,T0,n0,e0,rfl,NK,l0,hk0,_⟩:=GN u0 (by omega);rw [h7] at NK hk0 ⊢;obtain ⟨ta,rfl⟩:=E9 (Option.some.inj NK.symm:us.length=1);exact ⟨ta,hk0 0 v ta rfl hx rfl,by rw [hn9 (.inl rfl),n0 (.inr h7)];exact CM (.quos ta ta (AY _))⟩
  ·exact ⟨_,hun,.refl _⟩
 by_cases h13:op=13
 ·subst h13;obtain ⟨t0,t1,t2,t3,rfl⟩:=Acl (Option.some.inj har.symm:ts.length=4);obtain ⟨k0,k1,k2,k3,rfl⟩:=Acl (hl.trans rfl:k.length=4);have u1:=hk 1 k1 t1 rfl rfl rfl;have u3:=hk 3 k3 t3 rfl rfl rfl;rcases Sl h with ⟨h11,rfl⟩ | ⟨h12,x,w,s1',hx,hw,hv⟩ | ⟨_,rfl⟩
  ·obtain ⟨us,T0,n0,e0,rfl,NK,l0,hk0,_⟩:=GN u3 (by omega);rw [h11];exact ⟨t1,u1,CM (.recz n k3.n t0 t1 t1 t2 us (AY _))⟩
  ·obtain ⟨us,T0,n0,e0,rfl,NK,l0,hk0,_⟩:=GN u3 (by omega);rw [h12] at NK hk0 ⊢;obtain ⟨tk,rfl⟩:=E9 (Option.some.inj NK.symm:us.length=1);have ux:=hk0 0 x tk rfl hx rfl;obtain ⟨c2,hwa2,henv2⟩:=hc 2 k2 t2 (by decide) rfl rfl;have hun2:Un u (.node 13 0 [k0,k1,k2,x]) (.mk 13 0 [t0,t1,t2,tk]):=by
    refine .node u 13 0 _ _ T (by decide) (by omega) rfl rfl ?_ ?_ ?_ ?_
    ·intro i v t hb a b
     match i with
     | 0=>exact absurd hb (by decide)
     | 1=>simp at a b;subst a b;exact u1
     | 2=>exact absurd hb (by decide)
     | 3=>simp at a b;subst a b;exact ux
     | i+4=>simp at a
    ·intro i v t hb a b
     match i with
     | 0=>simp at a b;subst a b;exact ⟨(hc 0 k0 t0 hb rfl rfl).1,(hc 0 k0 t0 hb rfl rfl).2.1⟩
     | 1=>exact absurd hb (by decide)
     | 2=>simp at a b;subst a b;exact ⟨(hc 2 k2 t2 hb rfl rfl).1,(hc 2 k2 t2 hb rfl rfl).2.1⟩
     | 3=>exact absurd hb (by decide)
     | i+4=>simp at a
    ·intro i v j hb a hj
     match i with
     | 0=>simp at a;subst a;exact (hc 0 k0 t0 hb rfl rfl).2.2.2 j hj
     | 1=>exact absurd hb (by decide)
     | 2=>simp at a;subst a;exact (hc 2 k2 t2 hb rfl rfl).2.2.2 j hj
     | 3=>exact absurd hb (by decide)
     | i+4=>simp at a
    ·intro i v j y hb a hy
     match i with
     | 0=>simp at a;subst a;exact (hc 0 k0 t0 hb rfl rfl).2.2.1 j y hy
     | 1=>exact absurd hb (by decide)
     | 2=>simp at a;subst a;exact (hc 2 k2 t2 hb rfl rfl).2.2.1 j y hy
     | 3=>exact absurd hb (by decide)
     | i+4=>simp at a
   obtain ⟨tw,w1,w2⟩:=ihH _ _ _ _ _ _ u _ hw (by decide) hun2;have henv3:=Mk (Mk henv2 ux) w1;rw [List.append_assoc] at henv3;obtain ⟨tv,v1,v2⟩:=ihE _ _ _ _ _ u _ hv hwa2 henv3;refine ⟨tv,v1,.step (.recs n k3.n t0 t0 t1 t1 t2 t2 tk tk (AY _) (AY _) (AY _) (AY _)) ?_⟩;have e2:t2=k2.b.sub (CG 2 (T 2)):=c2;have e3:∀r:Tm,t2.sub (s2 r tk)=k2.b.sub (fun i=>if i=0 then r else (fun i=>match i with | 0=>tw | j+1=>(fun i=>match i with | 0=>tk | j+1=>T 2 j) j) i):=by
    intro r;rw [e2,Eo];congr 1
    funext i
    match i with
    | 0=>simp [CG,EP,s2]
    | 1=>simp [CG,EP,s2]
    | i+2 =>
     simp only [CG];rw [if_neg (by omega),if_neg (by omega),Nat.add_sub_cancel,F6 _ _ _ (fun j=>rfl)]
   rw [e3];refine Bq (AhF k2.b _ 0 w2) ?_;have e4:(fun i=>if i=0 then tw else (fun i=>match i with | 0=>tw | j+1=>(fun i=>match i with | 0=>tk | j+1=>T 2 j) j) i)=(fun i=>match i with | 0=>tw | j+1=>(fun i=>match i with | 0=>tk | j+1=>T 2 j) j:Nat→Tm):=by
    funext i
    cases i with
    | zero=>simp
    | succ i=>simp
   rw [e4];exact v2
  ·exact ⟨_,hun,.refl _⟩
 obtain ⟨rfl,_⟩:=Ik h (by omega);exact ⟨_,hun,.refl _⟩
theorem AbI:∀f,EvU f∧HdU f:=by
 intro f
 induction f with
 | zero=>exact ⟨(by intro s t env v s' u τ h;rw [AI] at h;cases h),(by intro s op n k v s' u ts h;rw [headR] at h;cases h)⟩
 | succ f ih=>exact ⟨Amc ih.1 ih.2,AlG ih.1 ih.2⟩
theorem Ahg:∀(f:Nat) (s nd:Int) (v:RV) (u:Nat) (d:Int) (t:Tm) (s' nd':Int) (w:Tm),A2 f s nd 0 v u d=some (t,s',nd',0)→Un u v w→Pars w t:=by
 intro f
 induction f with
 | zero=>intro s nd v u d t s' nd' w h;rw [A2] at h;cases h
 | succ f ih =>
  intro s nd v u d t s' nd' w h hun;rcases RI h with ⟨h1,rfl⟩ | ⟨h1,ts,hrk,rfl⟩
  ·cases hun with
   | var=>exact .refl _
   | node op n k us T h2=>exact absurd h1 h2
  ·obtain ⟨us,T,_,e1,rfl,har,hl,hk,hc⟩:=GN hun h1;obtain ⟨n1,n2⟩:=JH (fun s nd e v u t s' nd' h=>IJ h) v.op u v.k 0 s (nd+1) 0 ts s' nd' hrk;refine EA h1 (by rw [n1,hl]) (fun i a b ha hb=>?_);have hi:i<v.k.length:=by rw [hl];exact (List.getElem?_eq_some_iff.1 ha).1
   have hki:=List.getElem?_eq_getElem hi;obtain ⟨q1,q2,k',q3,q4,⟨q5,q6⟩,q7⟩:=n2 i _ b hki hb;rw [Nat.zero_add] at q5 q6 q7;by_cases hb0:Af v.op i=0
   ·have:=q6 hb0
    subst this;rw [hb0] at q7;simp only [Int.ofNat_zero,Int.add_zero] at q7;exact ih _ _ _ u _ _ _ _ a (by simpa using q7) (hk i _ a hb0 hki ha)
   ·have hbp:0<Af v.op i:=by omega
    obtain ⟨s0,hev⟩:=q5 hbp;obtain ⟨rfl,hwa,henv⟩:=hc i _ a hbp hki ha;obtain ⟨w',w1,w2⟩:=(AbI f).1 _ _ _ _ _ (u+Af v.op i) _ hev hwa (Ahx henv _);rw [show (u:Int)+(Af v.op i:Int)=((u+Af v.op i:Nat):Int) by omega] at q7
    exact Bq w2 (ih q1 q2 k' (u+Af v.op i) (d+1) b q3 q4 w' q7 w1)
theorem Gm {f:Nat} {t n:Tm} {k:Nat} (h:AX f t=some (n,0)) (ht:t.sc k):Pars t n:=by
 rw [AX] at h;cases he:AI f 0 0 t [] with
 | none=>rw [he] at h;cases h
 | some q =>
  obtain ⟨v,s,e⟩:=q;rw [he] at h;simp only at h;cases hr:A2 f s 0 e v 0 1 with
  | none=>rw [hr] at h;cases h
  | some q =>
   obtain ⟨w,s2,nd2,e2⟩:=q;rw [hr] at h;simp only [Aq1] at h;by_cases h2:e2≠0
   ·rw [if_pos h2] at h;simp only [Aq2] at h;exact absurd h.2 h2
   rw [if_neg h2] at h;simp only [Aq2,and_true] at h;subst h;have he2:e2=0:=by omega
   subst he2;have he0:=IJ hr;subst he0;obtain ⟨x,x1,x2⟩:=(AbI f).1 _ _ _ _ _ 0 vT he (Aic t k ht) Adi;rw [Iv] at x2;exact Bq x2 (Ahg f s 0 v 0 1 w s2 nd2 x (by simpa using hr) x1)
inductive PT:Tm→Prop
 | int:PT (.mk 15 0 [])
 | bin (op:Int) (a b:Tm) (ho:op=16∨op=17) (ha:PT a) (hb:PT b):PT (.mk op 0 [a,b])
theorem Cr {op n:Int} {ks:List Tm} {σ:Nat→Tm} (h:op≠1):(Tm.mk op n ks).sub σ=.mk op n (Tm.subL op 0 ks σ):=by rw [Tm.sub,if_neg h]
theorem A6 {op n:Int} {ks:List Tm} {ρ:Nat→Nat} (h:op≠1):(Tm.mk op n ks).ren ρ=.mk op n (Tm.renL op 0 ks ρ):=by rw [Tm.ren,if_neg h]
theorem Aef {p:Tm} (h:PT p):∀σ,p.sub σ=p:=by
 induction h with
 | int=>intro σ;rw [Cr (by decide)];rfl
 | bin op a b ho ha hb iha ihb =>
  intro σ;rw [Cr (by omega)];simp only [Tm.subL,iha,ihb]
theorem Gn {p:Tm} (h:PT p) (ρ:Nat→Nat):p.ren ρ=p:=by rw [E0];exact Aef h _
theorem Ig {op n:Int} {ks:List Tm} (h:op≠30∧op≠19∧op≠13∧op≠5∧op≠8∧op≠9) (hk:Tm.stlL ks):(Tm.mk op n ks).stl:=by
 rw [Tm.stl];exact ⟨⟨⟨by omega,by omega,by omega⟩,by omega,by omega⟩,hk⟩
theorem GT {p:Tm} (h:PT p):p.stl:=by
 induction h with
 | int=>exact Ig (by decide) trivial
 | bin op a b ho ha hb iha ihb=>exact Ig (by omega) ⟨iha,ihb,trivial⟩
theorem AbJ {p x:Tm} (h:PT p) (hp:Pars p x):x=p:=Ch hp (GT h)
theorem AdJ {A p q:Tm} (hp:PT p) (hq:PT q) (h1:Pars A p) (h2:Pars A q):p=q:=Ad8 h1 h2 (.refl A) (.refl A) (GT hp) (GT hq)
theorem Cj:∀(d:Nat) (r:Tm),PT (r.plainT d)
 | 0,r=>by rw [Tm.plainT];exact .int
 | d+1,r=>by
  rw [Tm.plainT];split
  ·exact .int
  ·exact .bin _ _ _ (by omega) (Cj d _) (Cj d _)
theorem Abu {T X:Tm} (h:Pars T X):∀op n x y,T=.mk op n [x,y]→op≠1∧op≠5→∃x' y',X=.mk op n [x',y']∧Pars x x'∧Pars y y':=by
 induction h with
 | refl t=>rintro op n x y rfl ho;exact ⟨x,y,rfl,.refl _,.refl _⟩
 | step h hs ih =>
  rintro op n x y rfl ho;obtain ⟨x1,y1,rfl,h1,h2⟩:=Aie h ho;obtain ⟨x2,y2,rfl,h3,h4⟩:=ih _ _ _ _ rfl ho;exact ⟨x2,y2,rfl,.step h1 h3,.step h2 h4⟩
theorem Akt {n:Int} {x t:Tm} (h:Par (.mk 18 n [x]) t):∃x',t=.mk 18 n [x']∧Par x x':=by
 cases h with
 | node _ _ _ ks' h1 hl hk =>
  obtain ⟨x',rfl⟩:=E9 hl;exact ⟨x',rfl,hk 0 x x' rfl rfl⟩
theorem Ahs {T X:Tm} (h:Pars T X):∀n x,T=.mk 18 n [x]→∃x',X=.mk 18 n [x']∧Pars x x':=by
 induction h with
 | refl t=>rintro n x rfl;exact ⟨x,rfl,.refl _⟩
 | step h hs ih =>
  rintro n x rfl;obtain ⟨x1,rfl,h1⟩:=Akt h;obtain ⟨x2,rfl,h3⟩:=ih _ _ rfl;exact ⟨x2,rfl,.step h1 h3⟩
theorem AiQ {x x':Tm} (h:Par x x'):(x.op=2∨x.op=3∨x.op=6)→x'.op=x.op:=by
 cases h with
 | var=>intro _;rfl
 | node=>intro _;rfl
 | _=>intro h;simp [Tm.op] at h
theorem Ag0 {x x':Tm} (h:Pars x x'):(x.op=2∨x.op=3∨x.op=6)→x'.op=x.op:=by
 induction h with
 | refl=>intro _;rfl
 | step h hs ih=>intro ho;have:=AiQ h ho;rw [← this];exact ih (by omega)
theorem ps2 {op n:Int} {a a' b b':Tm} (h1:op≠1) (ha:Pars a a') (hb:Pars b b'):Pars (.mk op n [a,b]) (.mk op n [a',b']):=by
 refine EA h1 rfl fun i x y hx hy=>?_
 match i with
 | 0=>simp only [List.getElem?_cons_zero,Aq1] at hx hy;subst hx;subst hy;exact ha
 | 1=>simp only [List.getElem?_cons_succ,List.getElem?_cons_zero,Aq1] at hx hy;subst hx;subst hy;exact hb
 | i+2=>simp at hx
theorem ps1 {op n:Int} {a a':Tm} (h1:op≠1) (ha:Pars a a'):Pars (.mk op n [a]) (.mk op n [a']):=by
 refine EA h1 rfl fun i x y hx hy=>?_
 match i with
 | 0=>simp only [List.getElem?_cons_zero,Aq1] at hx hy;subst hx;subst hy;exact ha
 | i+1=>simp at hx
theorem ps3 {op n:Int} {a a' b b' c c':Tm} (h1:op≠1) (ha:Pars a a') (hb:Pars b b') (hc:Pars c c'):Pars (.mk op n [a,b,c]) (.mk op n [a',b',c']):=by
 refine EA h1 rfl fun i x y hx hy=>?_
 match i with
 | 0=>simp only [List.getElem?_cons_zero,Aq1] at hx hy;subst hx;subst hy;exact ha
 | 1=>simp only [List.getElem?_cons_succ,List.getElem?_cons_zero,Aq1] at hx hy;subst hx;subst hy;exact hb
 | 2=>simp only [List.getElem?_cons_succ,List.getElem?_cons_zero,Aq1] at hx hy;subst hx;subst hy;exact hc
 | i+3=>simp at hx
theorem ps4 {n:Int} {a b c d d':Tm} (hd:Pars d d'):Pars (.mk 13 n [a,b,c,d]) (.mk 13 n [a,b,c,d']):=by
 refine EA (by decide) rfl fun i x y hx hy=>?_
 match i with
 | 0 | 1 | 2=>simp only [List.getElem?_cons_succ,List.getElem?_cons_zero,Aq1] at hx hy;subst hx;subst hy;exact .refl _
 | 3=>simp only [List.getElem?_cons_succ,List.getElem?_cons_zero,Aq1] at hx hy;subst hx;subst hy;exact hd
 | i+4=>simp at hx
theorem CK {t t':Tm} (h:Pars t t') (ρ:Nat→Nat):Pars (t.ren ρ) (t'.ren ρ):=by rw [E0,E0];exact Jw h _
def U2:Tm:=.mk 15 0 []
inductive OT (m:Nat):List Tm→Tm→Tm→Prop
 | var (g:List Tm) (i:Nat) (P:Tm) (hP:PT P) (hw:P.wt≤m) (hi:i<g.length) (h:g[g.length - 1 - i]?=some P):OT m g (.mk 1 (i:Int) []) P
 | oint (g:List Tm) (n:Int) (hm:1≤m):OT m g (.mk 25 n []) U2
 | oprim (g:List Tm) (n:Int) (a b:Tm) (ha:OT m g a U2) (hb:OT m g b U2):OT m g (.mk 26 n [a,b]) U2
 | olam (g:List Tm) (a b c:Tm) (ha:PT a) (hw:(Tm.mk 16 0 [a,c]).wt≤m) (hb:OT m (g++[a]) b c):OT m g (.mk 20 0 [a,b]) (.mk 16 0 [a,c])
 | oapp (g:List Tm) (f x a c:Tm) (hf:OT m g f (.mk 16 0 [a,c])) (hx:OT m g x a):OT m g (.mk 21 0 [f,x]) c
 | opair (g:List Tm) (x y a b:Tm) (hw:(Tm.mk 17 0 [a,b]).wt≤m) (hx:OT m g x a) (hy:OT m g y b):OT m g (.mk 22 0 [x,y]) (.mk 17 0 [a,b])
 | ofst (g:List Tm) (x a b:Tm) (hx:OT m g x (.mk 17 0 [a,b])):OT m g (.mk 23 0 [x]) a
 | oif (g:List Tm) (c x y a:Tm) (hc:OT m g c U2) (hx:OT m g x a) (hy:OT m g y a):OT m g (.mk 27 0 [c,x,y]) a
 | olet (g:List Tm) (x y a b:Tm) (hx:OT m g x a) (hy:OT m (g++[a]) y b):OT m g (.mk 28 0 [x,y]) b
 | ofix (g:List Tm) (a x:Tm) (ha:PT a) (hw:a.wt≤m) (hx:OT m (g++[a]) x a):OT m g (.mk 29 0 [a,x]) a
theorem Pd {op n:Int} {a b:Tm} (h:PT (.mk op n [a,b])):PT a∧PT b∧n=0:=by cases h with | bin _ _ _ _ ha hb=>exact ⟨ha,hb,rfl⟩
theorem AaM {m:Nat} {g:List Tm} {c P:Tm} (h:OT m g c P):PT P∧P.wt≤m:=by
 induction h with
 | var g i P hP hw hi h=>exact ⟨hP,hw⟩
 | oint g n hm=>exact ⟨.int,by simp only [U2,Tm.wt,Tm.wtL];omega⟩
 | oprim g n a b ha hb iha ihb=>exact iha
 | olam g a b c ha hw hb ih=>exact ⟨.bin 16 a c (by omega) ha ih.1,hw⟩
 | oapp g f x a c hf hx ihf ihx=>exact ⟨(Pd ihf.1).2.1,by have:=ihf.2;simp only [Tm.wt,Tm.wtL] at this;omega⟩
 | opair g x y a b hw hx hy ihx ihy=>exact ⟨.bin 17 a b (by omega) ihx.1 ihy.1,hw⟩
 | ofst g x a b hx ih=>exact ⟨(Pd ih.1).1,by have:=ih.2;simp only [Tm.wt,Tm.wtL] at this;omega⟩
 | oif g c x y a hc hx hy _ ih _=>exact ih
 | olet g x y a b hx hy _ ih=>exact ih
 | ofix g a x ha hw hx ih=>exact ⟨ha,hw⟩
theorem FB {m m':Nat} (hm:m≤m') {g:List Tm} {c P:Tm} (h:OT m g c P):OT m' g c P:=by
 induction h with
 | var g i P hP hw hi h=>exact .var g i P hP (by omega) hi h
 | oint g n hm=>exact .oint g n (by omega)
 | oprim g n a b ha hb iha ihb=>exact .oprim g n a b iha ihb
 | olam g a b c ha hw hb ih=>exact .olam g a b c ha (by omega) ih
 | oapp g f x a c hf hx ihf ihx=>exact .oapp g f x a c ihf ihx
 | opair g x y a b hw hx hy ihx ihy=>exact .opair g x y a b (by omega) ihx ihy
 | ofst g x a b hx ih=>exact .ofst g x a b ih
 | oif g c x y a hc hx hy i1 i2 i3=>exact .oif g c x y a i1 i2 i3
 | olet g x y a b hx hy i1 i2=>exact .olet g x y a b i1 i2
 | ofix g a x ha hw hx ih=>exact .ofix g a x ha (by omega) ih
def Aaw (g g':List Tm) (ρ:Nat→Nat):Prop:=∀i Q,i<g.length→g[g.length - 1 - i]?=some Q→ρ i<g'.length∧g'[g'.length - 1 - ρ i]?=some Q
theorem Mx {g g':List Tm} {ρ:Nat→Nat} (h:Aaw g g' ρ) (a:Tm):Aaw (g++[a]) (g'++[a]) (Jc 1 ρ):=by
 intro i Q hi hQ;simp only [List.length_append,Aq5,List.length_nil] at hi hQ ⊢;by_cases h0:i=0
 ·subst h0;rw [Gb (by omega)];rw [List.getElem?_append_right (by omega),show g.length+(0+1) - 1 - 0 - g.length=0 by omega] at hQ
  rw [List.getElem?_append_right (by omega),show g'.length+(0+1) - 1 - 0 - g'.length=0 by omega]
  exact ⟨by omega,hQ⟩
 ·rw [FM (by omega)];rw [List.getElem?_append_left (by omega),show g.length+(0+1) - 1 - i=g.length - 1 - (i - 1) by omega] at hQ
  obtain ⟨q1,q2⟩:=h (i - 1) Q (by omega) hQ;rw [List.getElem?_append_left (by omega),show g'.length+(0+1) - 1 - (ρ (i - 1)+1)=g'.length - 1 - ρ (i - 1) by omega]
  exact ⟨by omega,q2⟩
theorem Afm {m:Nat} {g:List Tm} {c P:Tm} (h:OT m g c P):∀g' ρ,Aaw g g' ρ→OT m g' (c.ren ρ) P:=by
 induction h with
 | var g i P hP hw hi h =>
  intro g' ρ hr;obtain ⟨q1,q2⟩:=hr i P hi h
  have:=GE i ρ
  rw [vT] at this;rw [this];exact .var g' (ρ i) P hP hw q1 q2
 | oint g n hm=>intro g' ρ hr;rw [A6 (by decide)];exact .oint g' n hm
 | oprim g n a b ha hb iha ihb=>intro g' ρ hr;rw [A6 (by decide)];simp only [Tm.renL,show Af 26 0=0 from rfl,show Af 26 (0+1)=0 from rfl,Cd];exact .oprim g' n _ _ (iha _ _ hr) (ihb _ _ hr)
 | olam g a b c ha hw hb ih=>intro g' ρ hr;rw [A6 (by decide)];simp only [Tm.renL,show Af 20 0=0 from rfl,show Af 20 (0+1)=1 from rfl,Cd,Gn ha];exact .olam g' a _ c ha hw (ih _ _ (Mx hr a))
 | oapp g f x a c hf hx ihf ihx=>intro g' ρ hr;rw [A6 (by decide)];simp only [Tm.renL,show Af 21 0=0 from rfl,show Af 21 (0+1)=0 from rfl,Cd];exact .oapp g' _ _ a c (ihf _ _ hr) (ihx _ _ hr)
 | opair g x y a b hw hx hy ihx ihy=>intro g' ρ hr;rw [A6 (by decide)];simp only [Tm.renL,show Af 22 0=0 from rfl,show Af 22 (0+1)=0 from rfl,Cd];exact .opair g' _ _ a b hw (ihx _ _ hr) (ihy _ _ hr)
 | ofst g x a b hx ih=>intro g' ρ hr;rw [A6 (by decide)];simp only [Tm.renL,show Af 23 0=0 from rfl,Cd];exact .ofst g' _ a b (ih _ _ hr)
 | oif g c x y a hc hx hy i1 i2 i3=>intro g' ρ hr;rw [A6 (by decide)];simp only [Tm.renL,show Af 27 0=0 from rfl,show Af 27 (0+1)=0 from rfl,show Af 27 (0+1+1)=0 from rfl,Cd];exact .oif g' _ _ _ a (i1 _ _ hr) (i2 _ _ hr) (i3 _ _ hr)
 | olet g x y a b hx hy i1 i2=>intro g' ρ hr;rw [A6 (by decide)];simp only [Tm.renL,show Af 28 0=0 from rfl,show Af 28 (0+1)=1 from rfl,Cd];exact .olet g' _ _ a b (i1 _ _ hr) (i2 _ _ (Mx hr a))
 | ofix g a x ha hw hx ih=>intro g' ρ hr;rw [A6 (by decide)];simp only [Tm.renL,show Af 29 0=0 from rfl,show Af 29 (0+1)=1 from rfl,Cd,Gn ha];exact .ofix g' a _ ha hw (ih _ _ (Mx hr a))
theorem Af5 (g:List Tm) (a:Tm):Aaw g (g++[a]) (fun x=>x+1):=by
 intro i Q hi hQ;simp only [List.length_append,Aq5,List.length_nil];rw [List.getElem?_append_left (by omega),show g.length+(0+1) - 1 - (i+1)=g.length - 1 - i by omega]
 exact ⟨by omega,hQ⟩
def mw (P:Tm):Nat:=max P.wt 3+7
def natT:Tm:=.mk 10 0 []
def tyT:Tm:=.mk 14 0 []
def NI (X:Tm):Prop:=X.op=2∨X.op=3∨X.op=6
def WFT (A:Tm):Prop:=Pars A natT∨Pars A tyT∨(∃P,PT P∧Pars A (.mk 18 0 [P]))∨∃X,Pars A X∧NI X
def Sem (g:List Tm) (A t:Tm):Prop:=(Pars A natT∧∃k,Pars t (Cq k))∨(Pars A tyT∧∃P,PT P∧Pars t P)∨(∃P c,PT P∧Pars A (.mk 18 0 [P])∧Pars t (.mk 19 0 [c])∧OT (mw P) g c P)∨∃X,Pars A X∧NI X
def Amo (g:List Tm) (P t:Tm):Prop:=∃c,Pars t c∧OT (mw P) g c P
theorem G6:natT.stl:=Ig (by decide) trivial
theorem IN:tyT.stl:=Ig (by decide) trivial
theorem S0 {P:Tm} (h:PT P):(Tm.mk 18 0 [P]).stl:=Ig (by decide) ⟨GT h,trivial⟩
theorem J8 {A A' N:Tm} (h:Pars A N) (hN:N.stl) (h2:Pars A A'):Pars A' N:=by
 obtain ⟨d,q1,q2⟩:=SE h h2;rw [Ch q1 hN] at q2;exact q2
theorem Aih {A A' X:Tm} (h:Pars A X) (hX:NI X) (h2:Pars A A'):∃d,Pars A' d∧NI d:=by
 obtain ⟨d,q1,q2⟩:=SE h h2;refine ⟨d,q2,?_⟩;unfold NI at hX ⊢;rw [Ag0 q1 hX];exact hX
theorem AcZ {A A':Tm} (h:WFT A) (h2:Pars A A'):WFT A':=by
 rcases h with h | h | ⟨P,hP,h⟩ | ⟨X,h,hX⟩
 ·exact .inl (J8 h G6 h2)
 ·exact .inr (.inl (J8 h IN h2))
 ·exact .inr (.inr (.inl ⟨P,hP,J8 h (S0 hP) h2⟩))
 ·exact .inr (.inr (.inr (Aih h hX h2)))
theorem Ae6 {g:List Tm} {A A' t:Tm} (h:Sem g A t) (h2:Pars A A'):Sem g A' t:=by
 rcases h with ⟨h,ht⟩ | ⟨h,ht⟩ | ⟨P,c,hP,h,ht⟩ | ⟨X,h,hX⟩
 ·exact .inl ⟨J8 h G6 h2,ht⟩
 ·exact .inr (.inl ⟨J8 h IN h2,ht⟩)
 ·exact .inr (.inr (.inl ⟨P,c,hP,J8 h (S0 hP) h2,ht⟩))
 ·exact .inr (.inr (.inr (Aih h hX h2)))
theorem Aek {g:List Tm} {A A' t:Tm} (h:Sem g A' t) (h2:Pars A A'):Sem g A t:=by
 rcases h with ⟨h,ht⟩ | ⟨h,ht⟩ | ⟨P,c,hP,h,ht⟩ | ⟨X,h,hX⟩
 ·exact .inl ⟨Bq h2 h,ht⟩
 ·exact .inr (.inl ⟨Bq h2 h,ht⟩)
 ·exact .inr (.inr (.inl ⟨P,c,hP,Bq h2 h,ht⟩))
 ·exact .inr (.inr (.inr ⟨X,Bq h2 h,hX⟩))
theorem Jr {g:List Tm} {A t t':Tm} (h:Sem g A t') (h2:Pars t t'):Sem g A t:=by
 rcases h with ⟨h,k,ht⟩ | ⟨h,P,hP,ht⟩ | ⟨P,c,hP,h,ht,ho⟩ | h
 ·exact .inl ⟨h,k,Bq h2 ht⟩
 ·exact .inr (.inl ⟨h,P,hP,Bq h2 ht⟩)
 ·exact .inr (.inr (.inl ⟨P,c,hP,h,Bq h2 ht,ho⟩))
 ·exact .inr (.inr (.inr h))
theorem Ali {X:Tm} (ρ:Nat→Nat) (h:NI X):NI (X.ren ρ):=by
 obtain ⟨op,n,ks⟩:=X;unfold NI at h ⊢;simp only [Tm.op] at h;rw [A6 (by omega)];exact h
theorem SU (ρ:Nat→Nat):∀k,(Cq k).ren ρ=Cq k
 | 0=>by rw [Cq,A6 (by decide)];rfl
 | k+1=>by rw [Cq,A6 (by decide)];simp only [Tm.renL,show Af 12 0=0 from rfl,Cd,SU ρ k]
theorem Rv (σ:Nat→Tm):∀k,(Cq k).sub σ=Cq k
 | 0=>by rw [Cq,Cr (by decide)];rfl
 | k+1=>by rw [Cq,Cr (by decide)];simp only [Tm.subL,show Af 12 0=0 from rfl,CE,Rv σ k]
theorem NA {op n:Int} {a:Tm} {σ:Nat→Tm} (h:op≠1) (h0:Af op 0=0):(Tm.mk op n [a]).sub σ=.mk op n [a.sub σ]:=by
 rw [Cr h];simp only [Tm.subL,h0,CE]
theorem JG {op n:Int} {a b:Tm} {σ:Nat→Tm} (h:op≠1) (h0:Af op 0=0):(Tm.mk op n [a,b]).sub σ=.mk op n [a.sub σ,b.sub (CG (Af op 1) σ)]:=by
 rw [Cr h];simp only [Tm.subL,h0,CE,Nat.zero_add]
theorem Ane {op n:Int} {a:Tm} {ρ:Nat→Nat} (h:op≠1) (h0:Af op 0=0):(Tm.mk op n [a]).ren ρ=.mk op n [a.ren ρ]:=by
 rw [A6 h];simp only [Tm.renL,h0,Cd]
theorem Js {op n:Int} {σ:Nat→Tm} (h:op≠1):(Tm.mk op n []).sub σ=.mk op n []:=by rw [Cr h];rfl
theorem MT {op n:Int} {ρ:Nat→Nat} (h:op≠1):(Tm.mk op n []).ren ρ=.mk op n []:=by rw [A6 h];rfl
theorem AmV {g:List Tm} {A t:Tm} (h:Sem g A t) (a:Tm):Sem (g++[a]) (A.ren fun x=>x+1) (t.ren fun x=>x+1):=by
 rcases h with ⟨h,k,ht⟩ | ⟨h,P,hP,ht⟩ | ⟨P,c,hP,h,ht,ho⟩ | ⟨X,h,hX⟩
 ·refine .inl ⟨?_,k,?_⟩
  ·have:=CK h fun x=>x+1
   rwa [natT,MT (by decide)] at this
  ·have:=CK ht fun x=>x+1
   rwa [SU] at this
 ·refine .inr (.inl ⟨?_,P,hP,?_⟩)
  ·have:=CK h fun x=>x+1
   rwa [tyT,MT (by decide)] at this
  ·have:=CK ht fun x=>x+1
   rwa [Gn hP] at this
 ·refine .inr (.inr (.inl ⟨P,c.ren fun x=>x+1,hP,?_,?_,Afm ho _ _ (Af5 g a)⟩))
  ·have:=CK h fun x=>x+1
   rwa [Ane (by decide) rfl,Gn hP] at this
  ·have:=CK ht fun x=>x+1
   rwa [Ane (by decide) rfl] at this
 ·exact .inr (.inr (.inr ⟨_,CK h _,Ali _ hX⟩))
theorem Eg {m:Int} {B X:Tm} (h:Pars (.mk 18 m [B]) X):∃B',X=.mk 18 m [B']∧Pars B B':=Ahs h m B rfl
theorem AbK {g:List Tm} {t:Tm} (h:Sem g natT t):∃k,Pars t (Cq k):=by
 rcases h with ⟨_,ht⟩ | ⟨h,_⟩ | ⟨P,c,hP,h,_⟩ | ⟨X,h,hX⟩
 ·exact ht
 ·have:=Ch h G6;simp [tyT,natT] at this
 ·have:=Ch h G6;simp [natT] at this
 ·rw [Ch h G6] at hX;simp [NI,natT,Tm.op] at hX
theorem VN {g:List Tm} {t:Tm} (h:Sem g tyT t):∃P,PT P∧Pars t P:=by
 rcases h with ⟨h,_⟩ | ⟨_,ht⟩ | ⟨P,c,hP,h,_⟩ | ⟨X,h,hX⟩
 ·have:=Ch h IN;simp [tyT,natT] at this
 ·exact ht
 ·have:=Ch h IN;simp [tyT] at this
 ·rw [Ch h IN] at hX;simp [NI,tyT,Tm.op] at hX
theorem Afg {g:List Tm} {m:Int} {B t:Tm} (h:Sem g (.mk 18 m [B]) t):∃P c,PT P∧Pars B P∧Pars t (.mk 19 0 [c])∧OT (mw P) g c P:=by
 rcases h with ⟨h,_⟩ | ⟨h,_⟩ | ⟨P,c,hP,h,ht,ho⟩ | ⟨X,h,hX⟩
 ·obtain ⟨B',e,_⟩:=Eg h;simp [natT] at e
 ·obtain ⟨B',e,_⟩:=Eg h;simp [tyT] at e
 ·obtain ⟨B',e,q⟩:=Eg h;simp only [Tm.mk.injEq,List.cons.injEq,and_true,true_and] at e;rw [← e.2] at q;exact ⟨P,c,hP,q,ht,ho⟩
 ·obtain ⟨B',rfl,_⟩:=Eg h;simp [NI,Tm.op] at hX
theorem AfC {m:Int} {B:Tm} (h:WFT (.mk 18 m [B])):∃P,PT P∧Pars B P:=by
 rcases h with h | h | ⟨P,hP,h⟩ | ⟨X,h,hX⟩
 ·obtain ⟨B',e,_⟩:=Eg h;simp [natT] at e
 ·obtain ⟨B',e,_⟩:=Eg h;simp [tyT] at e
 ·obtain ⟨B',e,q⟩:=Eg h;simp only [Tm.mk.injEq,List.cons.injEq,and_true,true_and] at e;rw [← e.2] at q;exact ⟨P,hP,q⟩
 ·obtain ⟨B',rfl,_⟩:=Eg h;simp [NI,Tm.op] at hX
theorem Zv:∀{l:List Tm},(∀t∈l,t.eta=t)→Tm.etaL l=l
 | [],_=>rfl
 | a::l,h=>by rw [Tm.etaL,h a (by simp),Zv fun t ht=>h t (by simp [ht])]
theorem My {op n:Int} {l:List Tm} (h:op≠4∧op≠7) (hl:∀t∈l,t.eta=t):(Tm.mk op n l).eta=.mk op n l:=by
 rw [Tm.eta,if_neg h.1,if_neg h.2,Zv hl]
theorem L7 {G:List Nat} {t:Tm} {s:Nat} (h:NfT G t s):(s=0∨s=1∨s=10∨s=11)→t.eta=t:=by
 induction h with
 | var G n s h0 h hs=>intro _;exact My (by decide) (by simp)
 | node G op n ks s sg hr hl hst hk ih =>
  intro hs;have kid:∀(i:Nat) t bs s',ks[i]?=some t→sg[i]?=some (bs,s')→(s'=0∨s'=1∨s'=10∨s'=11)→t.eta=t:=fun i t bs s' a b c=>ih i t bs s' a b c;have all:(op≠4∧op≠7)→(∀(i:Nat) bs s',sg[i]?=some (bs,s')→(s'=0∨s'=1∨s'=10∨s'=11))→(Tm.mk op n ks).eta=.mk op n ks:=by
   intro ho hall;refine My ho fun t ht=>?_;obtain ⟨i,hi,e⟩:=List.mem_iff_getElem.1 ht;have hi2:i<sg.length:=by rw [← hl];exact hi
   exact kid i t _ _ (by rw [List.getElem?_eq_getElem hi,e]) (List.getElem?_eq_getElem hi2) (hall i _ _ (List.getElem?_eq_getElem hi2))
  cases hr with
  | natT=>exact all (by decide) (fun i bs s' h=>by simp at h)
  | tyT=>exact all (by decide) (fun i bs s' h=>by simp at h)
  | zero=>exact all (by decide) (fun i bs s' h=>by simp at h)
  | tint=>exact all (by decide) (fun i bs s' h=>by simp at h)
  | suc =>
   refine all (by decide) (fun i bs s' h=>?_)
   match i with
   | 0=>simp at h;omega
   | i+1=>simp at h
  | tfun =>
   refine all (by decide) (fun i bs s' h=>?_)
   match i with
   | 0 | 1=>simp at h;omega
   | i+2=>simp at h
  | tpro =>
   refine all (by decide) (fun i bs s' h=>?_)
   match i with
   | 0 | 1=>simp at h;omega
   | i+2=>simp at h
  | recR s hs6 =>
   refine all (by decide) (fun i bs s' h=>?_)
   match i with
   | 0 | 1 | 2 | 3=>simp at h;omega
   | i+4=>simp at h
  | _=>omega
def cns (u:Tm) (σ:Nat→Tm):Nat→Tm
 | 0=>u
 | i+1=>σ i
theorem AjB (u:Tm) (σ:Nat→Tm):(fun i=>(CG 1 σ i).sub (s1 u))=cns u σ:=by
 funext i
 cases i with
 | zero=>simp [CG,EP,s1,cns]
 | succ i =>
  simp only [CG,cns];rw [if_neg (by omega),Nat.add_sub_cancel,F6 _ _ _ (fun j=>rfl)]
theorem Ag6 (r k:Tm) (σ:Nat→Tm):(fun i=>(CG 2 σ i).sub (s2 r k))=cns r (cns k σ):=by
 funext i
 match i with
 | 0=>simp [CG,EP,s2,cns]
 | 1=>simp [CG,EP,s2,cns]
 | i+2 =>
  simp only [CG,cns];rw [if_neg (by omega),Nat.add_sub_cancel,F6 _ _ _ (fun j=>rfl)]
theorem EZ {t:Tm} {k:Nat} (h:t.sc k) (d:Nat) (hw:k+2 * t.wt+d≤9000000000000000000):t.shift d 0=t.ren fun x=>x+d:=by
 have:=NX t d 0 k h hw
 rw [show ((0:Nat):Int)=0 from rfl] at this
 rw [this];congr 1
theorem JC {t:Tm} {k:Nat} (h:t.sc k) (d:Nat) (hw:k+2 * t.wt+d≤9000000000000000000) (σ:Nat→Tm):(t.shift d 0).sub σ=t.sub fun x=>σ (x+d):=by
 rw [EZ h d hw,Gc]
def Bw:Nat:=2000000000000000
structure EnvK (g:B7) (G:List Nat) (D:List Tm) (σ:Nat→Tm):Prop where
 v1:∀i T,i<g.length→g[g.length - 1 - i]?=some (1,T)→T.sc (g.length - 1 - i)∧T.wt≤Bw∧(∃s,HasT G (T.ren fun x=>x+(i+1)) (10+s))∧Sem D (T.sub fun x=>σ (x+(i+1))) (σ i)
 v0:∀i T,i<g.length→g[g.length - 1 - i]?=some (0,T)→T.sc (g.length - 1 - i)∧T.wt≤Bw∧HasT G (T.ren fun x=>x+(i+1)) 1∧∃P j,PT P∧Pars (T.sub fun x=>σ (x+(i+1))) P∧σ i=vT j∧j<D.length∧D[D.length - 1 - j]?=some P
theorem Ac7:EnvK [] [] [] vT:=⟨fun i T h=>by simp at h,fun i T h=>by simp at h⟩
theorem PU {G:List Nat} {T:Tm} {k i s:Nat} (x:Nat) (hsc:T.sc k) (hw:T.wt≤Bw) (hk:k+i≤100000) (hG:G.length≤1000) (h:HasT G (T.ren fun x=>x+i) s):HasT (x::G) (T.ren fun x=>x+(i+1)) s:=by
 unfold Bw at hw;have e:=EZ hsc i (by omega);rw [← e] at h;have h1:=Hd h [x] (by rw [Bt];simp only [Aq5,List.length_nil];omega);have hs:=BM T i 0 k hsc (by omega);rw [show ((0:Nat):Int)=0 from rfl] at hs
 rw [EZ hs _ (by rw [Bt];simp only [Aq5,List.length_nil];omega),e,Ky] at h1;simpa [Nat.add_assoc] using h1
theorem I4 {α:Type} (l:List α) (a:α) (i:Nat) (b:α) (hi:i<(l++[a]).length) (h:(l++[a])[(l++[a]).length - 1 - i]?=some b):i=0∧b=a∨∃j,i=j+1∧j<l.length∧l[l.length - 1 - j]?=some b:=by
 simp only [List.length_append,Aq5,List.length_nil] at hi h;cases i with
 | zero =>
  rw [List.getElem?_append_right (by omega),show l.length+(0+1) - 1 - 0 - l.length=0 by omega] at h
  simp only [List.getElem?_cons_zero,Aq1] at h;exact .inl ⟨rfl,h.symm⟩
 | succ j =>
  rw [List.getElem?_append_left (by omega),show l.length+(0+1) - 1 - (j+1)=l.length - 1 - j by omega] at h
  exact .inr ⟨j,rfl,by omega,h⟩
theorem U7 {g:B7} {G:List Nat} {D:List Tm} {σ:Nat→Tm} (h:EnvK g G D σ) (hG:G.length=g.length) (hg:g.length≤500) {b u:Tm} {s:Nat} (bsc:b.sc g.length) (bw:b.wt≤Bw) (hb:HasT G b (10+s)) (hu:Sem D (b.sub σ) u):EnvK (g++[(1,b)]) (s::G) D (cns u σ):=by
 have hbw:=bw;unfold Bw at hbw;refine ⟨fun i T hi hT=>?_,fun i T hi hT=>?_⟩
 ·rcases I4 _ _ _ _ hi hT with ⟨rfl,e⟩ | ⟨j,rfl,hj,hT⟩
  ·simp only [Aq2,true_and] at e;subst e;refine ⟨by simpa using bsc,bw,⟨s,?_⟩,hu⟩
   have:=Hd hb [s] (by simp only [Aq5,List.length_nil];omega)
   rw [EZ bsc _ (by simp only [Aq5,List.length_nil];omega)] at this;exact this
  ·obtain ⟨q1,q2,⟨s',q3⟩,q4⟩:=h.v1 j T hj hT;refine ⟨?_,q2,⟨s',PU s q1 q2 (by omega) (by omega) q3⟩,q4⟩;have e:(g++[((1:Int),b)]).length - 1 - (j+1)=g.length - 1 - j:=by simp only [List.length_append,Aq5,List.length_nil];omega
   rw [e];exact q1
 ·rcases I4 _ _ _ _ hi hT with ⟨rfl,e⟩ | ⟨j,rfl,hj,hT⟩
  ·simp at e
  ·obtain ⟨q1,q2,q3,q4⟩:=h.v0 j T hj hT;refine ⟨?_,q2,PU s q1 q2 (by omega) (by omega) q3,q4⟩;have e:(g++[((1:Int),b)]).length - 1 - (j+1)=g.length - 1 - j:=by simp only [List.length_append,Aq5,List.length_nil];omega
   rw [e];exact q1
theorem AeB (T:Tm) (σ:Nat→Tm) (j:Nat):(T.sub fun x=>CG 1 σ (x+(j+1+1)))=(T.sub fun x=>σ (x+(j+1))).ren fun x=>x+1:=by
 rw [Fh];congr 1
theorem Qb {g:B7} {G:List Nat} {D:List Tm} {σ:Nat→Tm} (h:EnvK g G D σ) (hG:G.length=g.length) (hg:g.length≤500) {d P:Tm} (dsc:d.sc g.length) (dw:d.wt≤Bw) (hd:HasT G d 1) (hP:PT P) (hp:Pars (d.sub σ) P):EnvK (g++[(0,d)]) (6::G) (D++[P]) (CG 1 σ):=by
 have hdw:=dw;unfold Bw at hdw;refine ⟨fun i T hi hT=>?_,fun i T hi hT=>?_⟩
 ·rcases I4 _ _ _ _ hi hT with ⟨rfl,e⟩ | ⟨j,rfl,hj,hT⟩
  ·simp at e
  ·obtain ⟨q1,q2,⟨s',q3⟩,q4⟩:=h.v1 j T hj hT;refine ⟨?_,q2,⟨s',PU 6 q1 q2 (by omega) (by omega) q3⟩,?_⟩
   ·have e:(g++[((0:Int),d)]).length - 1 - (j+1)=g.length - 1 - j:=by simp only [List.length_append,Aq5,List.length_nil];omega
    rw [e];exact q1
   ·rw [AeB];exact AmV q4 P
 ·rcases I4 _ _ _ _ hi hT with ⟨rfl,e⟩ | ⟨j,rfl,hj,hT⟩
  ·simp only [Aq2,true_and] at e;subst e;refine ⟨by simpa using dsc,dw,?_,P,0,hP,?_,rfl,by simp,by simp⟩
   ·have:=Hd hd [6] (by simp only [Aq5,List.length_nil];omega)
    rw [EZ dsc _ (by simp only [Aq5,List.length_nil];omega)] at this;exact this
   ·have:=CK hp fun x=>x+1
    rw [Gn hP,Fh] at this;exact this
  ·obtain ⟨q1,q2,q3,P',k,q4,q5,q6,q7,q8⟩:=h.v0 j T hj hT;refine ⟨?_,q2,PU 6 q1 q2 (by omega) (by omega) q3,P',k+1,q4,?_,?_,?_,?_⟩
   ·have e:(g++[((0:Int),d)]).length - 1 - (j+1)=g.length - 1 - j:=by simp only [List.length_append,Aq5,List.length_nil];omega
    rw [e];exact q1
   ·rw [AeB]
    have:=CK q5 fun x=>x+1
    rwa [Gn q4] at this
   ·show CG 1 σ (j+1)=vT (k+1)
    rw [FR (by omega),Nat.add_sub_cancel,q6,GE]
   ·simp only [List.length_append,Aq5,List.length_nil];omega
   ·have e:(D++[P]).length - 1 - (k+1)=D.length - 1 - k:=by simp only [List.length_append,Aq5,List.length_nil];omega
    rw [e,List.getElem?_append_left (by omega)];exact q8
theorem AcY {G:List Nat} {i:Nat} {T a w:Tm} {k f s s':Nat} (hsc:T.sc k) (hw:T.wt≤Bw) (hk:k+i≤1000) (hT:HasT G (T.ren fun x=>x+(i+1)) s') (hn:AX f (T.shift ((i+1:Nat):Int) 0)=some (w,0)) (ha:NfT G a s) (he:w.eta=a.eta)
  (hs:s=1∧s'=1∨10≤s∧10≤s'):∀σ:Nat→Tm,Pars (T.sub fun x=>σ (x+(i+1))) (w.sub σ)∧(s=1→w=a)∧(w=a∨NI a):=by
 have hbw:=hw;unfold Bw at hbw;intro σ;have e:=EZ hsc (i+1) (by omega);have hts:=BM T (i+1) 0 k hsc (by omega);rw [show ((0:Nat):Int)=0 from rfl] at hts
 have hr:=Jw (Gm hn hts) σ;rw [e,Gc] at hr;refine ⟨hr,?_⟩;rw [← e] at hT;have hwn:=CB hn hT;rcases hs with ⟨rfl,rfl⟩ | ⟨h1,h2⟩
 ·rw [L7 hwn (by omega),L7 ha (by omega)] at he;exact ⟨fun _=>he,.inl he⟩
 refine ⟨fun h=>by omega,?_⟩;have key:∀{x:Tm} {s:Nat},NfT G x s→10≤s→x.eta=x∧(x.op=10∨x.op=14∨x.op=18)∨NI x:=by
  intro x s hx hs;cases hx with
  | var=>omega
  | node _ op n ks _ sg hr hl hst hk =>
   cases hr with
   | natT=>exact .inl ⟨L7 (.node _ _ _ _ _ _ .natT hl hst hk) (by omega),.inl rfl⟩
   | tyT=>exact .inl ⟨L7 (.node _ _ _ _ _ _ .tyT hl hst hk) (by omega),.inr (.inl rfl)⟩
   | liftT =>
    obtain ⟨y,rfl⟩:=E9 hl;refine .inl ⟨My (by decide) fun t ht=>?_,.inr (.inr rfl)⟩;rw [List.mem_singleton.1 ht];exact L7 (hk 0 y [] 1 rfl rfl) (by omega)
   | uT=>exact .inr (.inl rfl)
   | piT=>exact .inr (.inr (.inl rfl))
   | sigT=>exact .inr (.inr (.inr rfl))
   | _=>omega
 rcases key ha h1 with ⟨ea,oa⟩ | oa
 ·rw [ea] at he;rcases key hwn h2 with ⟨ew,_⟩ | ow
  ·rw [ew] at he;exact .inl he
  ·have:=Wr (t:=w) (by unfold NI at ow;omega) (by unfold NI at ow;omega)
   rw [he] at this;unfold NI at ow;omega
 ·exact .inr oa
def P0 (p:Tm):Prop:=p=.mk 15 0 []∨∃op:Int,(op=16∨op=17)∧p=.mk op 0 [.mk 15 0 [],.mk 15 0 []]
theorem AcX (r:Tm):P0 (r.plainT 1):=by
 have h1:=Int.emod_nonneg r.n (show (4:Int)≠0 by decide)
 have h2:=Int.emod_lt_of_pos r.n (show (0:Int)<4 by decide)
 rw [Tm.plainT];split
 ·exact .inl rfl
 ·exact .inr ⟨_,by omega,rfl⟩
theorem AjA (k:Nat):(Tm.mk 15 0 []).sc k:=Cm (by decide) (by decide) (BA (by decide) (by decide) (by decide))
theorem Anw {p:Tm} (h:P0 p) (k:Nat):p.sc k:=by
 rcases h with rfl | ⟨op,ho,rfl⟩
 ·exact AjA k
 ·rcases ho with rfl | rfl<;>exact Cl (by decide) (by decide) (BA (by decide) (by decide) (by decide)) (AjA _) (AjA _)
theorem FQ {X:Tm} (σ:Nat→Tm) (h:NI X):NI (X.sub σ):=by
 obtain ⟨op,n,ks⟩:=X;unfold NI at h ⊢;simp only [Tm.op] at h;rw [Cr (by omega)];exact h
theorem Lf {op m:Int} {ks:List Tm} {k:Nat} (h:(Tm.mk op m ks).sc k) (h1:op≠1) (h2:op≠2) (h26:op≠26) (h25:op≠25):m=0:=by
 rw [Tm.sc,if_neg h1] at h
 have:=h.2.1
 unfold Bz at this;rw [if_neg h2,if_neg h26,if_neg h25] at this;exact this
theorem Hy {a:Tm} {o:Int} {k:Nat} (h:a.sc k) (ho:a.op=o) (har:ar o=some 0) (h1:o≠1) (h2:o≠2) (h26:o≠26) (h25:o≠25):a=.mk o 0 []:=by
 obtain ⟨op,m,ks⟩:=a;simp only [Tm.op] at ho;subst ho;have hm:=Lf h h1 h2 h26 h25;rw [Tm.sc,har] at h;have hl:ks=[]:=List.eq_nil_of_length_eq_zero (Option.some.inj h.1).symm;rw [hm,hl]
theorem YJ {G:List Nat} {op n:Int} {x y:Tm} (h:NfT G (.mk op n [x,y]) 1) (ho:op=16∨op=17):NfT G x 1∧NfT G y 1:=by
 cases h with
 | node _ _ _ _ _ sg hr hl hst hk =>
  cases hr with
  | tfun=>exact ⟨hk 0 x [] 1 rfl rfl,hk 1 y [] 1 rfl rfl⟩
  | tpro=>exact ⟨hk 0 x [] 1 rfl rfl,hk 1 y [] 1 rfl rfl⟩
  | _=>omega
theorem Ae1 {G:List Nat} {n:Int} {x:Tm} {s:Nat} (h:NfT G (.mk 18 n [x]) (10+s)):NfT G x 1:=by
 generalize hq:10+s=q at h;cases h with
 | node _ _ _ _ _ sg hr hl hst hk =>
  cases hr with
  | liftT=>exact hk 0 x [] 1 rfl rfl
  | liftU=>omega
theorem sc2 {op n:Int} {x y:Tm} {k:Nat} (h:(Tm.mk op n [x,y]).sc k) (h1:op≠1) (b0:Af op 0=0) (b1:Af op 1=0):x.sc k∧y.sc k:=by
 rw [Tm.sc,if_neg h1] at h;simp only [Tm.scL,b0,b1,Nat.zero_add,Nat.add_zero,and_true] at h;exact ⟨h.2.2.1,h.2.2.2⟩
theorem sc1 {op n:Int} {x:Tm} {k:Nat} (h:(Tm.mk op n [x]).sc k) (h1:op≠1) (b0:Af op 0=0):x.sc k:=by
 rw [Tm.sc,if_neg h1] at h;simp only [Tm.scL,b0,Nat.add_zero,and_true] at h;exact h.2.2
theorem AeG {t:Tm} {k:Nat} (h:t.sc k) (hw:k+2 * t.wt+1≤9000000000000000000) (u:Tm) (σ:Nat→Tm):(t.shift 1 0).sub (cns u σ)=t.sub σ:=JC h 1 hw _
theorem AkC {t:Tm} {k:Nat} (h:t.sc k) (hw:k+2 * t.wt+2≤9000000000000000000) (u v:Tm) (σ:Nat→Tm):(t.shift 2 0).sub (cns u (cns v σ))=t.sub σ:=JC h 2 hw _
theorem AmW {t:Tm} {k:Nat} (h:t.sc k) (hw:k+2 * t.wt+1≤9000000000000000000) (σ:Nat→Tm):(t.shift 1 0).sub (CG 1 σ)=(t.sub σ).ren fun x=>x+1:=by
 have:=JC h 1 hw (CG 1 σ)
 rw [show ((1:Nat):Int)=1 from rfl] at this
 rw [this,Fh];congr 1
theorem Y1 {t P:Tm} {k:Nat} (h:t.sc k) (hw:k+2 * t.wt+1≤9000000000000000000) {σ:Nat→Tm} (hP:PT P) (hp:Pars (t.sub σ) P):Pars ((t.shift 1 0).sub (CG 1 σ)) P:=by
 rw [AmW h hw]
 have:=CK hp fun x=>x+1
 rwa [Gn hP] at this
theorem L9 {P Q:Tm} (h:P.wt≤max Q.wt 3):mw P≤mw Q:=by unfold mw;omega
set_option maxRecDepth 20000 in
set_option maxHeartbeats 4000000 in
theorem fl {k e:Nat} {g:B7} {a t:Tm} (h:Gr k e g a t):∀(G:List Nat) (D:List Tm) (σ:Nat→Tm),CtxT g G→EnvK g G D σ →
  (k=0→WFT (t.sub σ))∧(k=1→a.sc g.length→a.wt≤Bw→∀s,HasT G a (10+s)→WFT (a.sub σ)→Sem D (a.sub σ) (t.sub σ)) ∧
  (k=2→a.sc g.length→a.wt≤Bw→HasT G a 1→∀P,PT P→Pars (a.sub σ) P→Amo D P (t.sub σ)) ∧
  (k=3→g.length≤60→NOk g.length a→∀s,NfT G a (10+s)→WFT (a.sub σ)→Sem D (a.sub σ) (t.sub σ)) ∧
  (k=4→g.length≤60→NOk g.length a→NfT G a 1→∀P,PT P→Pars (a.sub σ) P→Amo D P (t.sub σ)):=by
 have nsc:∀k,(Tm.mk 10 0 []).sc k:=fun k=>Cm (by decide) (by decide) (BA (by decide) (by decide) (by decide));have tsc:∀k,(Tm.mk 14 0 []).sc k:=fun k=>Cm (by decide) (by decide) (BA (by decide) (by decide) (by decide));have isc:∀k,(Tm.mk 15 0 []).sc k:=fun k=>Cm (by decide) (by decide) (BA (by decide) (by decide) (by decide));have small:∀{op n:Int},(Tm.mk op n []).wt≤Bw:=fun {op n}=>by simp [Tm.wt,Tm.wtL,Bw]
 have w3:∀{x:Tm},x.wt≤3000→x.wt≤Bw:=fun {x} h=>by unfold Bw;omega
 have plw:∀r:Tm,(r.plainT 1).wt≤3:=fun r=>by have:=CZ 1 r;omega
 have plp:∀(r:Tm) (σ:Nat→Tm),Pars ((r.plainT 1).sub σ) (r.plainT 1):=fun r σ=>by rw [Aef (Cj 1 r)];exact .refl _
 have pls:∀(r:Tm) (k:Nat),(r.plainT 1).sc k:=fun r k=>Anw (AcX r) k;have nfN:∀(G:List Nat),HasT G (.mk 10 0 []) (10+0):=fun G=>ht0 .natT;have sN:∀σ:Nat→Tm,(Tm.mk 10 0 []).sub σ=natT:=fun σ=>Js (by decide);have sT:∀σ:Nat→Tm,(Tm.mk 14 0 []).sub σ=tyT:=fun σ=>Js (by decide);have sI:∀σ:Nat→Tm,(Tm.mk 15 0 []).sub σ=U2:=fun σ=>Js (by decide)
 induction h with
 | tnat e g a=>intro G D σ hG hE;exact ⟨fun _=>by rw [sN];exact .inl (.refl _),by omega,by omega,by omega,by omega⟩
 | tty e g a=>intro G D σ hG hE;exact ⟨fun _=>by rw [sT];exact .inr (.inl (.refl _)),by omega,by omega,by omega,by omega⟩
 | tu e g a=>intro G D σ hG hE;exact ⟨fun _=>.inr (.inr (.inr ⟨_,.refl _,FQ σ (.inl rfl)⟩)),by omega,by omega,by omega,by omega⟩
 | tlp e g a r=>intro G D σ hG hE;exact ⟨fun _=>.inr (.inr (.inl ⟨r.plainT 1,Cj 1 r,by rw [NA (by decide) rfl];exact ps1 (by decide) (plp r σ)⟩)),by omega,by omega,by omega,by omega⟩
 | tpi e g a x y op ho h6 hgl hx h1 h2 ih1 ih2 =>
  intro G D σ hG hE;exact ⟨fun _=>.inr (.inr (.inr ⟨_,.refl _,FQ σ (by unfold NI;simp only [Tm.op];omega)⟩)),by omega,by omega,by omega,by omega⟩
 | tlift e g a t h6 h1 ih =>
  intro G D σ hG hE;refine ⟨fun _=>?_,by omega,by omega,by omega,by omega⟩
  have:=(ih G D σ hG hE).2.1 rfl (tsc _) small 1 (ht0 .tyT) (by rw [sT];exact .inr (.inl (.refl _)))
  rw [sT] at this;obtain ⟨P,hP,hp⟩:=VN this;exact .inr (.inr (.inl ⟨P,hP,by rw [NA (by decide) rfl];exact ps1 (by decide) hp⟩))
 | grow e g a0 a t f hn hg ha h1 ih =>
  intro G D σ hG hE;refine ⟨by omega,fun _ asc aw s hs hw=>?_,by omega,by omega,by omega⟩;have hr:=Jw (Gm hn asc) σ;exact Aek ((ih G D σ hG hE).2.2.2.1 rfl hg ha s (CB hn hs) (AcZ hw hr)) hr
 | objc e g a0 a t f hn hg ha h1 ih =>
  intro G D σ hG hE;refine ⟨by omega,by omega,fun _ asc aw hs P hP hp=>?_,by omega,by omega⟩;have hr:=Jw (Gm hn asc) σ;exact (ih G D σ hG hE).2.2.2.2 rfl hg ha (CB hn hs) P hP (J8 hp (GT hP) hr)
 | var1 e g a i h =>
  intro G D σ hG hE;refine ⟨by omega,by omega,by omega,fun _ hl ha s hs hw=>?_,by omega⟩;obtain ⟨hi,T,f,w,hg,hn,he⟩:=h;obtain ⟨q1,q2,⟨s',q3⟩,q4⟩:=hE.v1 i T hi hg;obtain ⟨r1,_,r2⟩:=AcY q1 q2 (by omega) q3 hn hs he (.inr ⟨by omega,by omega⟩) σ;have ev:(Tm.mk 1 (i:Int) []).sub σ=σ i:=EP i σ;rw [ev];rcases r2 with rfl | r2
  ·exact Ae6 q4 r1
  ·exact .inr (.inr (.inr ⟨_,.refl _,FQ σ r2⟩))
 | var0 e g a i h =>
  intro G D σ hG hE;refine ⟨by omega,by omega,by omega,by omega,fun _ hl ha hs P hP hp=>?_⟩;obtain ⟨hi,T,f,w,hg,hn,he⟩:=h;obtain ⟨q1,q2,q3,P',j,q4,q5,q6,q7,q8⟩:=hE.v0 i T hi hg;obtain ⟨r1,r2,_⟩:=AcY q1 q2 (by omega) q3 hn hs he (.inl ⟨rfl,rfl⟩) σ;have ew:=r2 rfl;subst ew;have ev:(Tm.mk 1 (i:Int) []).sub σ=σ i:=EP i σ;rw [ev,q6];have eP:=AdJ q4 hP (J8 q5 (GT q4) r1) hp;subst eP;exact ⟨_,.refl _,.var D j _ q4 (by unfold mw;omega) q7 q8⟩
 | fst e g a b c x h6 hb h1 h2 h3 ih1 ih2 ih3 =>
  intro G D σ hG hE;refine ⟨by omega,by omega,by omega,fun _ hl ha s hs hw=>?_,by omega⟩;have hc:=(ih3 G D σ hG hE).2.1 rfl ha.sc (w3 ha.wt) s (AV hs) hw;refine Jr hc ?_;rw [NA (by decide) rfl,Cr (by decide)];simp only [Tm.subL,show Af 7 0=0 from rfl,show Af 7 (0+1)=0 from rfl,show Af 7 (0+1+1)=0 from rfl,CE]
  exact CM (.fst 0 0 _ _ _ _ (AY _))
 | app e g a b c x h6 hb h1 h2 h3 ih1 ih2 ih3 =>
  intro G D σ hG hE;refine ⟨by omega,by omega,by omega,fun _ hl ha s hs hw=>?_,by omega⟩;have aw:=ha.wt;have bw:=hb.wt;obtain ⟨s1,p1,p2⟩:=(Afn h1 G hG).1 rfl;have wb:=(ih1 G D σ hG hE).1 rfl;have hx:=(ih2 G D σ hG hE).2.1 rfl hb.sc (by unfold Bw;omega) s1 p2 wb;have e1:=AeG ha.sc (by omega) (x.sub σ) σ;have hc:=(ih3 (s1::G) D (cns (x.sub σ) σ) (Ff hG p2 (U0 hb (by omega))) (U7 hE hG.len (by omega) hb.sc (by unfold Bw;omega) p2 hx)).2.1 rfl (by have:=BM a 1 0 g.length ha.sc (by omega);simpa using this) (by rw [Bt];exact w3 aw) s (up1 hG (by omega) (AV hs) (by omega) s1) (by rw [e1];exact hw);rw [e1] at hc;refine Jr hc ?_;rw [JG (by decide) rfl,JG (by decide) rfl,show Af 4 1=1 from rfl,show Af 5 1=0 from rfl,CE]
  have:=Par.beta 0 0 (b.sub σ) _ _ _ _ (AY (c.sub (CG 1 σ))) (AY (x.sub σ))
  rw [Eo,AjB] at this;exact CM this
 | recc e g a n z s h6 ha h1 h2 h3 ih1 ih2 ih3 =>
  intro G D σ hG hE;refine ⟨by omega,by omega,by omega,fun _ hl hna τ hs hw=>?_,by omega⟩;have aw:=hna.wt;have hn:=(ih1 G D σ hG hE).2.1 rfl (nsc _) small 0 (nfN _) (by rw [sN];exact .inl (.refl _));rw [sN] at hn;obtain ⟨k,hk⟩:=AbK hn;have hz:=(ih2 G D σ hG hE).2.1 rfl hna.sc (w3 aw) τ (AV hs) hw;have hs1:=up1 hG (by omega) (AV hs) (by omega) 0;have g1:=Ff hG (T:=.mk 10 0 []) (s:=0) (ht0 .natT) (by simp [Tm.vb,Tm.vbL]);have a1sc:(a.shift 1 0).sc (g.length+1):=by have:=BM a 1 0 g.length hna.sc (by omega);simpa using this
  have a2sc:(a.shift 2 0).sc (g.length+2):=by have:=BM a 2 0 g.length hna.sc (by omega);simpa using this
  have g2:=Ff g1 hs1 (NZ _ (g.length+1) a1sc (by rw [Bt];omega));have hs2:=up2 hG (by omega) (AV hs) (by omega) τ 0;obtain ⟨R,hR⟩:∃R:Tm→Tm,R=fun q=>.mk 13 0 [(a.shift 1 0).sub (CG 1 σ),z.sub σ,s.sub (CG 2 σ),q]:=⟨_,rfl⟩;have et:(Tm.mk 13 0 [a.shift 1 0,z,s,n]).sub σ=R (n.sub σ):=by
   rw [hR,Cr (by decide)];simp only [Tm.subL,show Af 13 0=1 from rfl,show Af 13 (0+1)=0 from rfl,show Af 13 (0+1+1)=2 from rfl,show Af 13 (0+1+1+1)=0 from rfl,CE]
  rw [et];have hp:Pars (R (n.sub σ)) (R (Cq k)):=by rw [hR];exact ps4 hk
  refine Jr ?_ hp;clear hp hk hn et
  induction k with
  | zero=>exact Jr hz (by rw [hR];exact CM (.recz 0 0 _ _ _ _ [] (AY _)))
  | succ k ihk =>
   have e1:=AeG hna.sc (by omega) (Cq k) σ;have e2:=AkC hna.sc (by omega) (R (Cq k)) (Cq k) σ;have E1:=U7 (u:=Cq k) hE hG.len (by omega) (nsc _) small (nfN G) (by rw [sN];exact .inl ⟨.refl _,k,.refl _⟩);have E2:=U7 (u:=R (Cq k)) E1 g1.len (by simp only [List.length_append,Aq5,List.length_nil];omega) (by simpa using a1sc) (by rw [Bt];exact w3 aw) hs1 (by rw [e1];exact ihk)
   have:=(ih3 _ D _ g2 E2).2.1 rfl (by simpa using a2sc) (by rw [Bt];exact w3 aw) τ hs2 (by rw [e2];exact hw)
   rw [e2] at this;refine Jr this ?_;have q:=Par.recs 0 0 _ _ _ _ _ _ _ _ (AY ((a.shift 1 0).sub (CG 1 σ))) (AY (z.sub σ)) (AY (s.sub (CG 2 σ))) (AY (Cq k));rw [Eo,Ag6] at q;rw [hR];exact CM q
 | suc e g a n h6 ha h1 ih =>
  intro G D σ hG hE;refine ⟨by omega,by omega,by omega,fun _ hl hna s hs hw=>?_,by omega⟩;have hn:=(ih G D σ hG hE).2.1 rfl hna.sc (w3 hna.wt) s (AV hs) hw;have ea:=Hy hna.sc ha rfl (by decide) (by decide) (by decide) (by decide);subst ea;rw [sN] at hn ⊢;obtain ⟨k,hk⟩:=AbK hn;exact .inl ⟨.refl _,k+1,by rw [NA (by decide) rfl,Cq];exact ps1 (by decide) hk⟩
 | num e g a j ha hj =>
  intro G D σ hG hE;refine ⟨by omega,by omega,by omega,fun _ hl hna s hs hw=>?_,by omega⟩;have ea:=Hy hna.sc ha rfl (by decide) (by decide) (by decide) (by decide);subst ea;rw [sN,Rv];exact .inl ⟨.refl _,j,.refl _⟩
 | tint e g a ha =>
  intro G D σ hG hE;refine ⟨by omega,by omega,by omega,fun _ hl hna s hs hw=>?_,by omega⟩;have ea:=Hy hna.sc ha rfl (by decide) (by decide) (by decide) (by decide);subst ea;rw [sT,sI];exact .inr (.inl ⟨.refl _,U2,.int,.refl _⟩)
 | tfun e g a x y op ho h6 ha h1 h2 ih1 ih2 =>
  intro G D σ hG hE;refine ⟨by omega,by omega,by omega,fun _ hl hna s hs hw=>?_,by omega⟩;have q1:=(ih1 G D σ hG hE).2.1 rfl hna.sc (w3 hna.wt) s (AV hs) hw;have q2:=(ih2 G D σ hG hE).2.1 rfl hna.sc (w3 hna.wt) s (AV hs) hw;have ea:=Hy hna.sc ha rfl (by decide) (by decide) (by decide) (by decide);subst ea;rw [sT] at q1 q2 ⊢;obtain ⟨P,hP,hp⟩:=VN q1;obtain ⟨Q,hQ,hq⟩:=VN q2;have b0:Af op 0=0:=by rcases ho with rfl | rfl<;>rfl
  have b1:Af op 1=0:=by rcases ho with rfl | rfl<;>rfl
  exact .inr (.inl ⟨.refl _,.mk op 0 [P,Q],.bin op P Q ho hP hQ,by rw [JG (by omega) b0,b1,CE];exact ps2 (by omega) hp hq⟩)
 | uni e g a n ha =>
  intro G D σ hG hE;exact ⟨by omega,by omega,by omega,fun _ hl hna s hs hw=>.inr (.inr (.inr ⟨_,.refl _,FQ σ (.inl ha)⟩)),by omega⟩
 | unat e g a ha =>
  intro G D σ hG hE;exact ⟨by omega,by omega,by omega,fun _ hl hna s hs hw=>.inr (.inr (.inr ⟨_,.refl _,FQ σ (.inl ha)⟩)),by omega⟩
 | uty e g a ha =>
  intro G D σ hG hE;exact ⟨by omega,by omega,by omega,fun _ hl hna s hs hw=>.inr (.inr (.inr ⟨_,.refl _,FQ σ (.inl ha)⟩)),by omega⟩
 | ult e g a ha =>
  intro G D σ hG hE;exact ⟨by omega,by omega,by omega,fun _ hl hna s hs hw=>.inr (.inr (.inr ⟨_,.refl _,FQ σ (.inl ha)⟩)),by omega⟩
 | upi e g a x y op ho h6 ha hx h1 h2 ih1 ih2 =>
  intro G D σ hG hE;exact ⟨by omega,by omega,by omega,fun _ hl hna s hs hw=>.inr (.inr (.inr ⟨_,.refl _,FQ σ (.inl ha)⟩)),by omega⟩
 | lam e g n d c x h1 ih =>
  intro G D σ hG hE;exact ⟨by omega,by omega,by omega,fun _ hl hna s hs hw=>.inr (.inr (.inr ⟨_,.refl _,FQ σ (.inr (.inl rfl))⟩)),by omega⟩
 | pair e g n d c x y hx h1 h2 ih1 ih2 =>
  intro G D σ hG hE;exact ⟨by omega,by omega,by omega,fun _ hl hna s hs hw=>.inr (.inr (.inr ⟨_,.refl _,FQ σ (.inr (.inr rfl))⟩)),by omega⟩
 | quo e g n d x h1 ih =>
  intro G D σ hG hE;refine ⟨by omega,by omega,by omega,fun _ hl hna s hs hw=>?_,by omega⟩;have hn0:=Lf hna.sc (by decide) (by decide) (by decide) (by decide);subst hn0;have hw':=hna.wt;simp only [Tm.wt,Tm.wtL] at hw';rw [NA (by decide) rfl] at hw ⊢;obtain ⟨P,hP,hp⟩:=AfC hw;obtain ⟨c,q1,q2⟩:=(ih G D σ hG hE).2.2.1 rfl (sc1 hna.sc (by decide) rfl) (w3 (by omega)) (AV (Ae1 hs)) P hP hp;rw [NA (by decide) rfl];exact .inr (.inr (.inl ⟨P,c,hP,ps1 (by decide) hp,ps1 (by decide) q1,q2⟩))
 | oif e g a c x y h6 h1 h2 h3 ih1 ih2 ih3 =>
  intro G D σ hG hE;refine ⟨by omega,by omega,by omega,by omega,fun _ hl ha hs P hP hp=>?_⟩;obtain ⟨c1,q1,q2⟩:=(ih1 G D σ hG hE).2.2.1 rfl (isc _) small (ht0 .tint) U2 .int (by rw [sI];exact .refl _);obtain ⟨c2,q3,q4⟩:=(ih2 G D σ hG hE).2.2.1 rfl ha.sc (w3 ha.wt) (AV hs) P hP hp;obtain ⟨c3,q5,q6⟩:=(ih3 G D σ hG hE).2.2.1 rfl ha.sc (w3 ha.wt) (AV hs) P hP hp;refine ⟨.mk 27 0 [c1,c2,c3],?_,.oif D c1 c2 c3 P (FB (L9 (by simp [U2,Tm.wt,Tm.wtL];omega)) q2) q4 q6⟩;rw [Cr (by decide)];simp only [Tm.subL,show Af 27 0=0 from rfl,show Af 27 (0+1)=0 from rfl,show Af 27 (0+1+1)=0 from rfl,CE]
  exact ps3 (by decide) q1 q3 q5
 | olet e g a r x y h6 h1 h2 ih1 ih2 =>
  intro G D σ hG hE;refine ⟨by omega,by omega,by omega,by omega,fun _ hl ha hs P hP hp=>?_⟩;have aw:=ha.wt;have rw':=plw r;have a1sc:(a.shift 1 0).sc (g.length+1):=by have:=BM a 1 0 g.length ha.sc (by omega);simpa using this
  obtain ⟨c1,q1,q2⟩:=(ih1 G D σ hG hE).2.2.1 rfl (pls r _) (w3 (by omega)) (Br G 1 r) (r.plainT 1) (Cj 1 r) (plp r σ);obtain ⟨c2,q3,q4⟩:=(ih2 (6::G) (D++[r.plainT 1]) (CG 1 σ) (Fk hG _) (Qb hE hG.len (by omega) (pls r _) (w3 (by omega)) (Br G 1 r) (Cj 1 r) (plp r σ))).2.2.1 rfl (by simpa using a1sc) (by rw [Bt];exact w3 aw) (up1 hG (by omega) (AV hs) (by omega) 6) P hP (Y1 ha.sc (by omega) hP hp);refine ⟨.mk 28 0 [c1,c2],?_,.olet D c1 c2 (r.plainT 1) P (FB (L9 (by omega)) q2) q4⟩;rw [JG (by decide) rfl,show Af 28 1=1 from rfl]
  exact ps2 (by decide) q1 q3
 | oapp e g a r x y h6 h1 h2 ih1 ih2 =>
  intro G D σ hG hE;refine ⟨by omega,by omega,by omega,by omega,fun _ hl ha hs P hP hp=>?_⟩;have aw:=ha.wt;have rw':=plw r;have a1sc:(a.shift 1 0).sc (g.length+1):=by have:=BM a 1 0 g.length ha.sc (by omega);simpa using this
  obtain ⟨c1,q1,q2⟩:=(ih1 G D σ hG hE).2.2.1 rfl (pls r _) (w3 (by omega)) (Br G 1 r) (r.plainT 1) (Cj 1 r) (plp r σ);obtain ⟨c2,q3,q4⟩:=(ih2 (6::G) (D++[r.plainT 1]) (CG 1 σ) (Fk hG _) (Qb hE hG.len (by omega) (pls r _) (w3 (by omega)) (Br G 1 r) (Cj 1 r) (plp r σ))).2.2.1 rfl (by simpa using a1sc) (by rw [Bt];exact w3 aw) (up1 hG (by omega) (AV hs) (by omega) 6) P hP (Y1 ha.sc (by omega) hP hp);refine ⟨.mk 21 0 [.mk 20 0 [r.plainT 1,c2],c1],?_,.oapp D _ c1 (r.plainT 1) P (.olam D (r.plainT 1) c2 P (Cj 1 r) (by unfold mw;simp only [Tm.wt,Tm.wtL];omega) q4) (FB (L9 (by omega)) q2)⟩;rw [JG (by decide) rfl,JG (by decide) rfl,show Af 20 1=1 from rfl,show Af 21 1=0 from rfl,CE]
  exact ps2 (by decide) (ps2 (by decide) (plp r σ) q3) q1
 | ofst e g a x y h6 h1 h2 ih1 ih2 =>
  intro G D σ hG hE;refine ⟨by omega,by omega,by omega,by omega,fun _ hl ha hs P hP hp=>?_⟩;obtain ⟨c1,q1,q2⟩:=(ih1 G D σ hG hE).2.2.1 rfl ha.sc (w3 ha.wt) (AV hs) P hP hp;obtain ⟨c2,q3,q4⟩:=(ih2 G D σ hG hE).2.2.1 rfl (isc _) small (ht0 .tint) U2 .int (by rw [sI];exact .refl _);refine ⟨.mk 23 0 [.mk 22 0 [c1,c2]],?_,.ofst D _ P U2 (.opair D c1 c2 P U2 (by unfold mw;simp only [U2,Tm.wt,Tm.wtL];omega) q2 (FB (L9 (by simp [U2,Tm.wt,Tm.wtL];omega)) q4))⟩;rw [NA (by decide) rfl,JG (by decide) rfl,show Af 22 1=0 from rfl,CE]
  exact ps1 (by decide) (ps2 (by decide) q1 q3)
 | ofix e g a x h6 h1 ih =>
  intro G D σ hG hE;refine ⟨by omega,by omega,by omega,by omega,fun _ hl ha hs P hP hp=>?_⟩;have aw:=ha.wt;have a1sc:(a.shift 1 0).sc (g.length+1):=by have:=BM a 1 0 g.length ha.sc (by omega);simpa using this
  obtain ⟨c2,q3,q4⟩:=(ih (6::G) (D++[P]) (CG 1 σ) (Fk hG _) (Qb hE hG.len (by omega) ha.sc (w3 aw) (AV hs) hP hp)).2.2.1 rfl (by simpa using a1sc) (by rw [Bt];exact w3 aw) (up1 hG (by omega) (AV hs) (by omega) 6) P hP (Y1 ha.sc (by omega) hP hp);refine ⟨.mk 29 0 [P,c2],?_,.ofix D P c2 hP (by unfold mw;omega) q4⟩;rw [JG (by decide) rfl,show Af 29 1=1 from rfl]
  exact ps2 (by decide) hp q3
 | spl e g a x h6 h1 ih =>
  intro G D σ hG hE;refine ⟨by omega,by omega,by omega,by omega,fun _ hl ha hs P hP hp=>?_⟩;have aw:=ha.wt;have hx:=(ih G D σ hG hE).2.1 rfl (EN rfl (by decide) (BA (by decide) (by decide) (by decide)) ha.sc) (by simp only [Tm.wt,Tm.wtL];unfold Bw;omega) 3 (ht1 .liftT (AV hs)) (by rw [NA (by decide) rfl];exact .inr (.inr (.inl ⟨P,hP,ps1 (by decide) hp⟩)));rw [NA (by decide) rfl] at hx;obtain ⟨P',c,q1,q2,q3,q4⟩:=Afg hx;have eP:=AdJ q1 hP q2 hp;subst eP;refine ⟨c,?_,q4⟩;rw [NA (by decide) rfl];exact Bq (ps1 (by decide) q3) (CM (.splq c c (AY c)))
 | oint e g a n ha =>
  intro G D σ hG hE;refine ⟨by omega,by omega,by omega,by omega,fun _ hl hna hs P hP hp=>?_⟩;have ea:=Hy hna.sc ha rfl (by decide) (by decide) (by decide) (by decide);subst ea;rw [sI] at hp
  have:=AbJ .int hp
  subst this;rw [Js (by decide)];exact ⟨_,.refl _,.oint D n (by unfold mw;omega)⟩
 | oprim e g a p q n h6 ha h1 h2 ih1 ih2 =>
  intro G D σ hG hE;refine ⟨by omega,by omega,by omega,by omega,fun _ hl hna hs P hP hp=>?_⟩;obtain ⟨c1,q1,q2⟩:=(ih1 G D σ hG hE).2.2.1 rfl hna.sc (w3 hna.wt) (AV hs) P hP hp;obtain ⟨c2,q3,q4⟩:=(ih2 G D σ hG hE).2.2.1 rfl hna.sc (w3 hna.wt) (AV hs) P hP hp;have ea:=Hy hna.sc ha rfl (by decide) (by decide) (by decide) (by decide);subst ea;rw [sI] at hp
  have:=AbJ .int hp
  subst this;refine ⟨.mk 26 n [c1,c2],?_,.oprim D n c1 c2 q2 q4⟩;rw [JG (by decide) rfl,show Af 26 1=0 from rfl,CE]
  exact ps2 (by decide) q1 q3
 | olam e g n d c b h1 ih =>
  intro G D σ hG hE;refine ⟨by omega,by omega,by omega,by omega,fun _ hl ha hs P hP hp=>?_⟩;have aw:=ha.wt;simp only [Tm.wt,Tm.wtL] at aw;have hn0:=Lf ha.sc (by decide) (by decide) (by decide) (by decide);subst hn0;obtain ⟨dsc,csc⟩:=sc2 ha.sc (by decide) rfl rfl;obtain ⟨hd,hc⟩:=YJ hs (.inl rfl);rw [JG (by decide) rfl,show Af 16 1=0 from rfl,CE] at hp
  obtain ⟨P1,P2,rfl,r1,r2⟩:=Abu hp _ _ _ _ rfl (by decide);obtain ⟨p1,p2,_⟩:=Pd hP;have c1sc:(c.shift 1 0).sc (g.length+1):=by have:=BM c 1 0 g.length csc (by omega);simpa using this
  obtain ⟨c2,q3,q4⟩:=(ih (6::G) (D++[P1]) (CG 1 σ) (Fk hG _) (Qb hE hG.len (by omega) dsc (w3 (by omega)) (AV hd) p1 r1)).2.2.1 rfl (by simpa using c1sc) (by rw [Bt];exact w3 (by omega)) (up1 hG (by omega) (AV hc) (by omega) 6) P2 p2 (Y1 csc (by omega) p2 r2);refine ⟨.mk 20 0 [P1,c2],?_,.olam D P1 c2 P2 p1 (by unfold mw;omega) (FB (L9 (by simp only [Tm.wt,Tm.wtL];omega)) q4)⟩;rw [JG (by decide) rfl,show Af 20 1=1 from rfl]
  exact ps2 (by decide) r1 q3
 | opair e g n d c p q h1 h2 ih1 ih2 =>
  intro G D σ hG hE;refine ⟨by omega,by omega,by omega,by omega,fun _ hl ha hs P hP hp=>?_⟩;have aw:=ha.wt;simp only [Tm.wt,Tm.wtL] at aw;have hn0:=Lf ha.sc (by decide) (by decide) (by decide) (by decide);subst hn0;obtain ⟨dsc,csc⟩:=sc2 ha.sc (by decide) rfl rfl;obtain ⟨hd,hc⟩:=YJ hs (.inr rfl);rw [JG (by decide) rfl,show Af 17 1=0 from rfl,CE] at hp
  obtain ⟨P1,P2,rfl,r1,r2⟩:=Abu hp _ _ _ _ rfl (by decide);obtain ⟨p1,p2,_⟩:=Pd hP;obtain ⟨c1,q1,q2⟩:=(ih1 G D σ hG hE).2.2.1 rfl dsc (w3 (by omega)) (AV hd) P1 p1 r1;obtain ⟨c2,q3,q4⟩:=(ih2 G D σ hG hE).2.2.1 rfl csc (w3 (by omega)) (AV hc) P2 p2 r2;refine ⟨.mk 22 0 [c1,c2],?_,.opair D c1 c2 P1 P2 (by unfold mw;omega) (FB (L9 (by simp only [Tm.wt,Tm.wtL];omega)) q2) (FB (L9 (by simp only [Tm.wt,Tm.wtL];omega)) q4)⟩;rw [JG (by decide) rfl,show Af 22 1=0 from rfl,CE]
  exact ps2 (by decide) q1 q3
theorem gb1 (a:FV):Nu 400 [.ext 0] 0 [.row [.fv a] false]=true:=PK [a]
theorem ob1 (a:FV):okB 1 [.row [.fv a] false]=true:=Po [a]
theorem Air (a a':FV):OneX [.row [.fv a] false] [.row [.fv a'] false]:=⟨gb1 ..,rfl,rfl,ob1 ..⟩
theorem AjC {ks:List Bool} (hks:∀b∈ks,b=false) {ih:Aa} {f:FuncId} {a0:IV} {x0:FV} {args:List IV} {vs:List FV} {w:FV} {ext ext':List Blk} (h0:Bf a0=some x0) (hz:BS args=some vs) (X:OneX ext ext') (hr:CL (ih f (.fv x0 :: .ptr (.ext 0) 0::vs.map .fv) ⟨[],ext⟩) w ext')
  (own:List (Nat×Blk)) (k:IV→Hp→List Ref→List Ref→Option (IV×Hp)):Am (false::true::ks) false false ih f (a0 :: .ptr (.ext 0) 0::args) ⟨own,ext⟩ k=k (.fv w) ⟨own,ext'⟩ [.ext 0] [.ext 0]:=by
 rw [OB,AgE,Ox _ _ _ _ h0,Ad0,AcO,RC 0 args _ _ _ _ ks hks hz]
 have:=Vm (r1:=.ext 0) (rs1:=[]) hr X.g (by rw [X.l,X.l']) (by rw [X.l];exact X.o) own (ih f (.fv x0 :: .ptr (.ext 0) 0::vs.map .fv) ⟨[],[]⟩) [] [] (Eh (false::true::ks) false false ih f (a0 :: .ptr (.ext 0) 0::args) ⟨own,ext⟩ k) k
 refine this.trans ?_;rw [X.l];rfl
theorem WP {ih:Aa} {f:FuncId} {a b:IV} {x y w:FV} {ext ext':List Blk} (hr:CL (ih f [.fv x,.ptr (.ext 0) 0,.fv y] ⟨[],ext⟩) w ext') (X:OneX ext ext') (ha:Bf a=some x) (hb:Bf b=some y) (own:List (Nat×Blk))
  (k:IV→Hp→List Ref→List Ref→Option (IV×Hp)):Am [false,true,false] false false ih f [a,.ptr (.ext 0) 0,b] ⟨own,ext⟩ k=k (.fv w) ⟨own,ext'⟩ [.ext 0] [.ext 0]:=AjC (ks:=[false]) (by simp) ha (Acn hb) X hr own k
theorem Ai5 {ks:List Bool} (hks:∀b∈ks,b=false) {ih:Aa} {f:FuncId} {a0:IV} {x0:FV} {args:List IV} {vs:List FV} {w:FV} {s:Nat} {st st':List FV} {own:List (Nat×Blk)} (h0:Bf a0=some x0) (hz:BS args=some vs) (hl:Ar s own=some (.row (st.map .fv) false))
  (hr:CL (ih f (.fv x0 :: .ptr (.ext 0) 0::vs.map .fv) ⟨[],[.row (st.map .fv) false]⟩) w [.row (st'.map .fv) false]) (k:IV→Hp→List Ref→List Ref→Option (IV×Hp)) :
  Am (false::true::ks) false false ih f (a0 :: .ptr (.own s) 0::args) ⟨own,[]⟩ k=k (.fv w) ⟨A5 s (.row (st'.map .fv) false) own,[]⟩ [.own s] [.own s]:=by
 obtain ⟨v,own',e1,hfz⟩:=hr;obtain ⟨u,hu⟩:=M3 hfz;have hD:Eh (false::true::ks) false false ih f (a0 :: .ptr (.own s) 0::args) ⟨own,[]⟩ k=k (.fv w) ⟨A5 s (.row (st'.map .fv) false) own,[]⟩ [.own s] [.own s]:=by
  have h1:Bm (false::true::ks) (a0 :: .ptr (.own s) 0::args)=.ret (.fv x0 :: .ptr (.own s) 0::vs.map .fv,[.own s],[]):=by
   simp only [Bm,frp 4096 (by omega) h0,JI args ks hks hz,Rd.bind,IV.refs];rfl
  have h2:(BY 4096 [.own s] []).runLog ⟨own,[]⟩ []=some ([(.own s,.row (st.map .fv) false)],[.own s]):=by
   show (BY (4094+1+1) [.own s] []).runLog ⟨own,[]⟩ []=_
   simp only [BY,hasRef,Bool.false_eq_true,if_false,Rd.runLog,Hp.get,hl,Blk.refs,LR,List.append_nil,List.nil_append]
  have h3:IV.ren.renL (EU [(.own s,.row (st.map .fv) false)]) (.fv x0 :: .ptr (.own s) 0::vs.map .fv)=some (.fv x0 :: .ptr (.ext 0) 0::vs.map .fv):=by
   simp only [IV.ren.renL,IV.ren,EU,Cn,if_true,Aq4,Option.bind_some,D4]
  have h4:AZ (EU [(.own s,.row (st.map .fv) false)]) [.row (st.map .fv) false]=some [.row (st.map .fv) false]:=by
   simp only [AZ,Blk.ren,D4,Aq4,Option.bind_some]
  have h5:AZ (Cp [(.own s,.row (st.map .fv) false)]) [.row (st'.map .fv) false]=some [.row (st'.map .fv) false]:=by
   simp only [AZ,Blk.ren,D4,Aq4,Option.bind_some]
  unfold Eh;simp only [h1,Rd.runLog,h2,h3,Aq7,Aq6,h4,CR (Cv 3),CR CY,Ej,Bool.false_eq_true,if_false,e1,hu,Aq4,IV.ren,h5,Aq5,List.length_nil,Bj,List.all_nil,and_self,if_true,List.nil_append,List.zip_cons_cons,List.zip_nil_left];have h6:laid ⟨own,[]⟩ [(.own s,.row (st'.map .fv) false)]=some ⟨A5 s (.row (st'.map .fv) false) own,[]⟩:=by
   simp only [laid,Hp.get,hl,Hp.set]
  simp only [h6,Ja,Cv]
 rw [OB,AgE,Ox _ _ _ _ h0,Ad0,AcO,RC 0 args _ _ _ _ ks hks hz];simp only [AcP,AaA,cond_false];exact hD
theorem AgQ {ih:Aa} {f:FuncId} {x y:IV} {vx vy w:FV} {s:Nat} {a a':FV} {own own':List (Nat×Blk)} (hr:CL (ih f [.fv vx,.ptr (.ext 0) 0,.fv vy] ⟨[],[.row [.fv a] false]⟩) w [.row [.fv a'] false])
  (hx:Bf x=some vx) (hy:Bf y=some vy) (hl:Ar s own=some (.row [.fv a] false)) (ho:A5 s (.row [.fv a'] false) own=own') (k:IV→Hp→List Ref→List Ref→Option (IV×Hp)) :
  Am [false,true,false] false false ih f [x,.ptr (.own s) 0,y] ⟨own,[]⟩ k=k (.fv w) ⟨own',[]⟩ [.own s] [.own s]:=by
 subst ho;exact Ai5 (ks:=[false]) (by simp) (st:=[a]) (st':=[a']) hx (Acn hy) hl hr k
def C2 (op:Int):Int:=if op<0 then -1 else ([-1,0,0,2,2,2,2,3,1,1,0,0,1,4,0,0,2,2,1,1,2,2,2,1,1,0,2,3,2,2,1]:List Int).getD op.toNat (-1)
theorem Mu (op:Int):(0≤op∧op≤30)∨op<0∨30<op:=by omega
theorem JP {op:Int} (h:op<0∨30<op):C2 op=-1:=by
 unfold C2;split
 ·rfl
 ·rw [List.getD_eq_getElem?_getD,List.getElem?_eq_none (by simp;omega)];rfl
theorem Afh {P:Int→Prop} (h:∀k:Nat,k<31→P k) {op:Int} (h1:0≤op∧op≤30):P op:=by
 have:=h op.toNat (by omega)
 rwa [Int.toNat_of_nonneg h1.1] at this
theorem Ae4 {n:Nat} (hn:0<n) (op:Int):Bv (SS dt n 46 [iv op] ⟨[],[]⟩) (.int .i64 (C2 op)):=by
 obtain ⟨n,rfl⟩:∃k,n=k+1:=⟨n - 1,by omega⟩;rw [c46];rcases Mu op with h | h
 ·revert op
  refine fun op h=>Afh (P:=fun op=>Bv (S46 (SS dt n) n (iv op) ⟨[],[]⟩) (.int .i64 (C2 op))) ?_ h;intro k hk;rcases k with _ | k
  ·simp only [QP,QN,PD,OY,P5,Pl,PO,Pk,Pe,QJ,OZ,OC,ON,Ql,PB,Pn,QR,Qn,S46,↓XX,XY,↓reduceIte,Nat.reduceBEq,Nat.reduceAdd,Int.reduceEq,Int.reduceLT,Int.reduceLE];exact Al _ _
  iterate 30 (rcases k with _ | k;· simp only [QP,QN,PD,OY,P5,Pl,PO,Pk,Pe,QJ,OZ,OC,ON,Ql,PB,Pn,QR,Qn,S46,↓XX,XY,↓reduceIte,Nat.reduceBEq,Nat.reduceAdd,Int.reduceEq,Int.reduceLT,Int.reduceLE];exact Al _ _)
  omega
 ·rw [JP h];have q1:op≠1:=by omega
  have q2:op≠2:=by omega
  have q3:op≠3:=by omega
  have q4:op≠4:=by omega
  have q5:op≠5:=by omega
  have q6:op≠6:=by omega
  have q7:op≠7:=by omega
  have q8:op≠8:=by omega
  have q9:op≠9:=by omega
  have q10:op≠10:=by omega
  have q11:op≠11:=by omega
  have q12:op≠12:=by omega
  have q13:op≠13:=by omega
  have q14:op≠14:=by omega
  have q15:op≠15:=by omega
  have q16:op≠16:=by omega
  have q17:op≠17:=by omega
  have q18:op≠18:=by omega
  have q19:op≠19:=by omega
  have q20:op≠20:=by omega
  have q21:op≠21:=by omega
  have q22:op≠22:=by omega
  have q23:op≠23:=by omega
  have q24:op≠24:=by omega
  have q25:op≠25:=by omega
  have q26:op≠26:=by omega
  have q27:op≠27:=by omega
  have q28:op≠28:=by omega
  have q29:op≠29:=by omega
  have q30:op≠30:=by omega
  simp only [QP,QN,PD,OY,P5,Pl,PO,Pk,Pe,QJ,OZ,OC,ON,Ql,PB,Pn,QR,Qn,S46,↓XX,XY,↓reduceIte,Nat.reduceBEq,Nat.reduceAdd,Int.reduceEq,Int.reduceLT,Int.reduceLE,q1,q2,q3,q4,q5,q6,q7,q8,q9,q10,q11,q12,q13,q14,q15,q16,q17,q18,q19,q20,q21,q22,q23,q24,q25,q26,q27,q28,q29,q30];exact Al _ _
def Il (op n:Int):Bool:=if op=1 then decide (0≤n) && decide (n≤3000) else if op=2 then decide (0≤n) && decide (n≤2) else if op=26 then decide (0≤n) && decide (n≤4) else if op=25 then true else decide (n=0)
theorem Acm {n:Nat} (hn:0<n) (op m:Int):Bv (SS dt n 80 [iv op,iv m] ⟨[],[]⟩) (.bool (Il op m)):=by
 obtain ⟨n,rfl⟩:∃k,n=k+1:=⟨n - 1,by omega⟩;rw [c80];unfold Il;by_cases h1:op=1
 ·by_cases h0:0≤m<;>simp only [↓AdP,↓XX,XY,↓reduceIte,Nat.reduceBEq,Nat.reduceAdd,Int.reduceEq,Int.reduceLT,Int.reduceLE,h0,h1]<;>exact Al _ _
 by_cases h2:op=2
 ·by_cases h0:0≤m<;>simp only [↓AdP,↓XX,XY,↓reduceIte,Nat.reduceBEq,Nat.reduceAdd,Int.reduceEq,Int.reduceLT,Int.reduceLE,h0,h2]<;>exact Al _ _
 by_cases h3:op=26
 ·by_cases h0:0≤m<;>simp only [↓AdP,↓XX,XY,↓reduceIte,Nat.reduceBEq,Nat.reduceAdd,Int.reduceEq,Int.reduceLT,Int.reduceLE,h0,h3]<;>exact Al _ _
 by_cases h4:op=25
 ·simp only [↓AdP,↓XX,XY,↓reduceIte,Nat.reduceBEq,Nat.reduceAdd,Int.reduceEq,Int.reduceLT,Int.reduceLE,h4];exact Al _ _
 simp only [↓AdP,↓XX,XY,↓reduceIte,Nat.reduceBEq,Nat.reduceAdd,Int.reduceEq,Int.reduceLT,Int.reduceLE,h1,h2,h3,h4];exact Al _ _
theorem V4 {n:Nat} (hn:0<n) (op m:Int):Bv (SS dt n 103 [iv op,iv m] ⟨[],[]⟩) (.bool (Il op m)):=by
 obtain ⟨n,rfl⟩:∃k,n=k+1:=⟨n - 1,by omega⟩;rw [AoT];unfold Il;by_cases h1:op=1
 ·by_cases h0:0≤m<;>simp only [↓Ac2,↓XX,XY,↓reduceIte,Nat.reduceBEq,Nat.reduceAdd,Int.reduceEq,Int.reduceLT,Int.reduceLE,h0,h1]<;>exact Al _ _
 by_cases h2:op=2
 ·by_cases h0:0≤m<;>simp only [↓Ac2,↓XX,XY,↓reduceIte,Nat.reduceBEq,Nat.reduceAdd,Int.reduceEq,Int.reduceLT,Int.reduceLE,h0,h2]<;>exact Al _ _
 by_cases h3:op=26
 ·by_cases h0:0≤m<;>simp only [↓Ac2,↓XX,XY,↓reduceIte,Nat.reduceBEq,Nat.reduceAdd,Int.reduceEq,Int.reduceLT,Int.reduceLE,h0,h3]<;>exact Al _ _
 by_cases h4:op=25
 ·simp only [↓Ac2,↓XX,XY,↓reduceIte,Nat.reduceBEq,Nat.reduceAdd,Int.reduceEq,Int.reduceLT,Int.reduceLE,h4];exact Al _ _
 simp only [↓Ac2,↓XX,XY,↓reduceIte,Nat.reduceBEq,Nat.reduceAdd,Int.reduceEq,Int.reduceLT,Int.reduceLE,h1,h2,h3,h4];exact Al _ _
mutual
def Tm.chk:Tm→Int→Int→Int×Int
 | .mk op m l,n,d=>if 3000<n+1∨120<d then (n+1,5) else if C2 op≠(l.length:Int)∨Il op m=false then (n+1,1) else Tm.chkL l (n+1) (d+1)
def Tm.chkL:List Tm→Int→Int→Int×Int
 | [],n,_=>(n,0)
 | t::l,n,d=>if (t.chk n d).2=0 then Tm.chkL l (t.chk n d).1 d else t.chk n d
end
mutual
theorem AbB:∀(t:Tm) (n d:Int),n≤3000→n≤(t.chk n d).1∧(t.chk n d).1≤3001∧((t.chk n d).2=0→(t.chk n d).1=n+t.wt∧(t.chk n d).1≤3000∧d≤120)
 | .mk op m l,n,d,hn=>by
  rw [Tm.chk];split
  ·simp;omega
  ·split
   ·simp;omega
   ·have:=chkL_b l (n+1) (d+1) (by omega)
    simp only [Tm.wt];omega
theorem chkL_b:∀(l:List Tm) (n d:Int),n≤3000→n≤(Tm.chkL l n d).1∧(Tm.chkL l n d).1≤3001∧((Tm.chkL l n d).2=0→(Tm.chkL l n d).1=n+Tm.wtL l∧(Tm.chkL l n d).1≤3000)
 | [],n,d,hn=>by simp [Tm.chkL,Tm.wtL];omega
 | t::l,n,d,hn=>by
  have h1:=AbB t n d hn;rw [Tm.chkL];split
  ·rename_i h0;have h2:=chkL_b l (t.chk n d).1 d (by omega);simp only [Tm.wtL];omega
  ·rename_i h0;simp only [Tm.wtL];omega
end
abbrev HW (op m:Int) (ks:List Tm) (N E:Int):Hp:=⟨[(58720256,.row [iv op,iv m,.fv (.sl (ks.map Tm.enc))] false)],[.row [iv N,iv E] false]⟩
theorem M8 (op:Int):C2 op≤4:=by
 rcases Mu op with h | h
 ·exact Afh (P:=fun op=>C2 op≤4) (by
                         intro k hk;have:∀k:Fin 31,C2 (k.val:Int)≤4:=by decide
                         exact this ⟨k,hk⟩) h
 ·rw [JP h];omega
theorem AgZ:∀(n:Nat) (t:Tm) (N d:Int),2 * t.wt+2<n→0≤N→N≤3000→0≤d→d≤121 →
  CL (SS dt n 56 [.ptr (.ext 0) 0,.fv t.enc,iv d] ⟨[],[.row [iv N,iv 0] false]⟩) (.tuple []) [.row [iv (t.chk N d).1,iv (t.chk N d).2] false]:=by
 intro n
 induction n using Nat.strongRecOn with
 | ind n ih =>
  intro t N d hn h0 hN hd0 hd;obtain ⟨op,m,ks⟩:=t;simp only [Tm.wt] at hn;obtain ⟨n,rfl⟩:∃k,n=k+1:=⟨n - 1,by omega⟩;rw [c56,Ai];have hlen:=EH ks;have hw:B6 (N+1)=N+1:=by rw [Ax]<;>omega
  have hwd:B6 (d+1)=d+1:=by rw [Ax]<;>omega
  have ha:=Ae4 (n:=n) (by omega) op;have hb:=Acm (n:=n) (by omega) op m;have hl:∀(N' E':Int) (r:Int×Int),N'≤3000∨E'≠0→0≤N'→(E'=0→ks.length≤4∧r=Tm.chkL ks N' (d+1)∧d≤120)→(E'≠0→r=(N',E')) →
    CL (B5 n (fun q20 l21 h22=>IX l21 h22 (SS dt n) q20) [.ptr (.ext 0) 0,iv d,.ptr (.own 58720256) 0,iv 0] (HW op m ks N' E')) (.tuple []) [.row [iv r.1,iv r.2] false]:=by
   intro N' E' r hN' hN0 h1 h2;refine Bp (Q:=fun r'=>CL r' _ _) (fun k V H=>∃pre rest N2 E2,ks=pre++rest∧rest.length=k∧V=[.ptr (.ext 0) 0,iv d,.ptr (.own 58720256) 0,iv pre.length]∧H=HW op m ks N2 E2 ∧
    0≤N2∧(E2=0→N2≤3000∧ks.length≤4∧r=Tm.chkL rest N2 (d+1)∧d≤120)∧(E2≠0→r=(N2,E2))) ?_ n ks.length _ _ (by omega) ⟨[],ks,N',E',rfl,rfl,rfl,rfl,hN0,fun e=>⟨by rcases hN' with h | h;exact h;exact absurd e h,h1 e⟩,h2⟩
   rintro k V H rec ⟨pre,rest,N2,E2,hk,hkl,rfl,rfl,hN2,hok,hbad⟩ hrec;have hkk:ks.length=pre.length+rest.length:=by rw [hk];simp
   cases rest with
   | nil =>
    have hno:¬ ((pre.length:Int)<ks.length):=by rw [hkk];simp
    have:r=(N2,E2):=by
     by_cases he:E2=0
     ·rw [(hok he).2.2.1,he];rfl
     ·exact hbad he
    rw [this];simp only [Jp,I7,IQ,IP,IX,IE,Jj,IT,Jb,IF,Jh,Jn,Jf,IU,Jt,S56,↓XX,XY,↓reduceIte,Nat.reduceBEq,Nat.reduceAdd,Int.reduceEq,Int.reduceLT,Int.reduceLE,hno];exact GY rfl _ _
   | cons t rest =>
    have hi:(pre.length:Int)<ks.length:=by rw [hkk];simp;omega
    by_cases he:E2=0
    ·subst he;obtain ⟨hb1,hb2,hr,hd2⟩:=hok rfl;have hg:=CH hk;have htw:=CX (t:=t) (l:=ks) (by rw [hk];simp);have hc:=ih n (by omega) t N2 (d+1) (by omega) hN2 hb1 (by omega) (by omega);have hcb:=AbB t N2 (d+1) hb1;have hwi:B6 ((pre.length:Int)+1)=((pre++[t]).length:Int):=(Ax (by omega) (by omega)).trans (by simp);rw [Tm.chkL] at hr;have h9:=hrec rest.length [.ptr (.ext 0) 0,iv d,.ptr (.own 58720256) 0,iv (pre++[t]).length] (HW op m ks (t.chk N2 (d+1)).1 (t.chk N2 (d+1)).2) (by simp only [Aq5] at hkl;omega)
      ⟨pre++[t],rest,_,_,by rw [hk];simp,rfl,rfl,rfl,by omega,fun e=>⟨(hcb.2.2 e).2.1,hb2,by rw [hr,if_pos e],hd2⟩,fun e=>by rw [hr,if_neg e]⟩
     generalize t.chk N2 (d+1)=q at hc h9;obtain ⟨o,p,l⟩:=t;rw [Ai] at hc;simp only [Jp,I7,IQ,IP,IX,IE,Jj,IT,Jb,IF,Jh,Jn,Jf,IU,Jt,S56,↓XX,XY,↓reduceIte,Nat.reduceBEq,Nat.reduceAdd,Int.reduceEq,Int.reduceLT,Int.reduceLE,hi,↓Bs (AK hg) (A8 _ _ _),↓Cb,hwd,↓Iz hc (AlZ _ _ _ _),hwi];exact h9
    ·rw [hbad he];simp only [Jp,I7,IQ,IP,IX,IE,Jj,IT,Jb,IF,Jh,Jn,Jf,IU,Jt,S56,↓XX,XY,↓reduceIte,Nat.reduceBEq,Nat.reduceAdd,Int.reduceEq,Int.reduceLT,Int.reduceLE,hi,he];exact GY rfl _ _
  rw [Tm.chk];by_cases c1:3000<N+1
  ·have hx:=hl (N+1) 5 (N+1,5) (.inr (by decide)) (by omega) (fun e=>absurd e (by decide)) (fun _=>rfl);rw [if_pos (.inl c1)];simp only [↓AeH,↓XX,XY,↓reduceIte,Nat.reduceBEq,Nat.reduceAdd,Int.reduceEq,Int.reduceLT,Int.reduceLE,hw,c1];exact hx
  ·by_cases c2:120<d
   ·have hx:=hl (N+1) 5 (N+1,5) (.inr (by decide)) (by omega) (fun e=>absurd e (by decide)) (fun _=>rfl);rw [if_pos (.inr c2)];simp only [↓AeH,↓XX,XY,↓reduceIte,Nat.reduceBEq,Nat.reduceAdd,Int.reduceEq,Int.reduceLT,Int.reduceLE,hw,c1,c2];exact hx
   ·rw [if_neg (by omega)];by_cases c3:C2 op=(ks.length:Int)
    ·have hx1:=hl (N+1) 1 (N+1,1) (.inr (by decide)) (by omega) (fun e=>absurd e (by decide)) (fun _=>rfl);have hk4:=M8 op;have hx0:=hl (N+1) 0 (Tm.chkL ks (N+1) (d+1)) (.inl (by omega)) (by omega) (fun _=>⟨by omega,rfl,by omega⟩) (fun e=>absurd rfl e);cases hnb:Il op m
     ·rw [hnb] at hb;rw [if_pos (.inr rfl)];simp only [↓AeH,↓XX,XY,↓reduceIte,Nat.reduceBEq,Nat.reduceAdd,Int.reduceEq,Int.reduceLT,Int.reduceLE,hw,c1,c2,↓Av ha,c3,↓Ad hb];exact hx1
     ·rw [hnb] at hb;rw [if_neg (by simp [c3])];simp only [↓AeH,↓XX,XY,↓reduceIte,Nat.reduceBEq,Nat.reduceAdd,Int.reduceEq,Int.reduceLT,Int.reduceLE,hw,c1,c2,↓Av ha,c3,↓Ad hb];exact hx0
    ·have hx1:=hl (N+1) 1 (N+1,1) (.inr (by decide)) (by omega) (fun e=>absurd e (by decide)) (fun _=>rfl);rw [if_pos (.inl c3)];simp only [↓AeH,↓XX,XY,↓reduceIte,Nat.reduceBEq,Nat.reduceAdd,Int.reduceEq,Int.reduceLT,Int.reduceLE,hw,c1,c2,↓Av ha,c3];exact hx1
theorem Rn {n:Nat} (t:Tm) (hn:2 * t.wt+3<n):Bv (SS dt n 25 [.fv t.enc] ⟨[],[]⟩) (.int .i64 (t.chk 0 1).2):=by
 obtain ⟨n,rfl⟩:∃k,n=k+1:=⟨n - 1,by omega⟩;rw [c25];have h:=AgZ n t 0 1 (by omega) (by omega) (by omega) (by omega) (by omega);generalize t.chk 0 1=q at h;obtain ⟨op,m,ks⟩:=t;rw [Ai] at h ⊢;have c2:=fun k=>AhP (k:=k) h (x:=.fv (.agg [.int .i64 op,.int .i64 m,.sl (ks.map Tm.enc)])) (y:=iv 1) (s:=26215425) rfl rfl
  (own:=[(26214400,.row [iv op,iv m,.fv (.sl (ks.map Tm.enc))] false),(26215425,.row [iv 0,iv 0] false)])
  (own':=[(26214400,.row [iv op,iv m,.fv (.sl (ks.map Tm.enc))] false),(26215425,.row [iv q.1,iv q.2] false)]) (by simp [Ar]) (by simp [A5])
 simp only [Ad6,S25,↓XX,XY,↓reduceIte,Nat.reduceBEq,Nat.reduceAdd,Int.reduceEq,Int.reduceLT,Int.reduceLE,↓c2];exact Al _ _
theorem SK (s:Nat) (h:Hp) (k:IV→Hp→List Ref→List Ref→Option (IV×Hp)):AE (KV EE 136 [(0,.fv (.int .i64 (-1))),(1,.fv (.int .i64 0)),(2,.fv (.int .i64 0)),(3,.fv (.int .i64 2)),(4,.fv (.int .i64 2)),(5,.fv (.int .i64 2)),(6,.fv (.int .i64 2)),(7,.fv (.int .i64 3)),(8,.fv (.int .i64 1)),(9,.fv (.int .i64 1)),(10,.fv (.int .i64 0)),(11,.fv (.int .i64 0)),(12,.fv (.int .i64 1)),(13,.fv (.int .i64 4)),(14,.fv (.int .i64 0)),(15,.fv (.int .i64 0)),(16,.fv (.int .i64 2)),(17,.fv (.int .i64 2)),(18,.fv (.int .i64 1)),(19,.fv (.int .i64 1)),(20,.fv (.int .i64 2)),(21,.fv (.int .i64 2)),(22,.fv (.int .i64 2)),(23,.fv (.int .i64 1)),(24,.fv (.int .i64 1)),(25,.fv (.int .i64 0)),(26,.fv (.int .i64 2)),(27,.fv (.int .i64 3)),(28,.fv (.int .i64 2)),(29,.fv (.int .i64 2)),(30,.fv (.int .i64 1))]) s h k=k (.fv (.agg [.int .i64 (-1),.int .i64 0,.int .i64 0,.int .i64 2,.int .i64 2,.int .i64 2,.int .i64 2,.int .i64 3,.int .i64 1,.int .i64 1,.int .i64 0,.int .i64 0,.int .i64 1,.int .i64 4,.int .i64 0,.int .i64 0,.int .i64 2,.int .i64 2,.int .i64 1,.int .i64 1,.int .i64 2,.int .i64 2,.int .i64 2,.int .i64 1,.int .i64 1,.int .i64 0,.int .i64 2,.int .i64 3,.int .i64 2,.int .i64 2,.int .i64 1])) h [] []:=by
 have:KV EE 136 [(0,.fv (.int .i64 (-1))),(1,.fv (.int .i64 0)),(2,.fv (.int .i64 0)),(3,.fv (.int .i64 2)),(4,.fv (.int .i64 2)),(5,.fv (.int .i64 2)),(6,.fv (.int .i64 2)),(7,.fv (.int .i64 3)),(8,.fv (.int .i64 1)),(9,.fv (.int .i64 1)),(10,.fv (.int .i64 0)),(11,.fv (.int .i64 0)),(12,.fv (.int .i64 1)),(13,.fv (.int .i64 4)),(14,.fv (.int .i64 0)),(15,.fv (.int .i64 0)),(16,.fv (.int .i64 2)),(17,.fv (.int .i64 2)),(18,.fv (.int .i64 1)),(19,.fv (.int .i64 1)),(20,.fv (.int .i64 2)),(21,.fv (.int .i64 2)),(22,.fv (.int .i64 2)),(23,.fv (.int .i64 1)),(24,.fv (.int .i64 1)),(25,.fv (.int .i64 0)),(26,.fv (.int .i64 2)),(27,.fv (.int .i64 3)),(28,.fv (.int .i64 2)),(29,.fv (.int .i64 2)),(30,.fv (.int .i64 1))]=Idl.val (.fv (.agg [.int .i64 (-1),.int .i64 0,.int .i64 0,.int .i64 2,.int .i64 2,.int .i64 2,.int .i64 2,.int .i64 3,.int .i64 1,.int .i64 1,.int .i64 0,.int .i64 0,.int .i64 1,.int .i64 4,.int .i64 0,.int .i64 0,.int .i64 2,.int .i64 2,.int .i64 1,.int .i64 1,.int .i64 2,.int .i64 2,.int .i64 2,.int .i64 1,.int .i64 1,.int .i64 0,.int .i64 2,.int .i64 3,.int .i64 2,.int .i64 2,.int .i64 1])):=by kernel_rfl
 rw [this];exact gen_val' _ _ _ _
theorem AfL {n:Nat} {op:Int} (h:op<0∨30<op):Bv (SS dt (n+1) 102 [iv op] ⟨[],[]⟩) (.int .i64 (-1)):=by
 rw [Aoi];by_cases h1:op<0
 ·simp only [PA,Ace,↓XX,XY,↓reduceIte,Nat.reduceBEq,Nat.reduceAdd,Int.reduceEq,Int.reduceLT,Int.reduceLE,↓SK,h1];exact Al _ _
 ·have h2:31≤op:=by omega
  simp only [PA,Ace,↓XX,XY,↓reduceIte,Nat.reduceBEq,Nat.reduceAdd,Int.reduceEq,Int.reduceLT,Int.reduceLE,↓SK,h1,h2];exact Al _ _
def AdS (k:Int) (o:Option (IV×Hp)):Bool:=match o with
 | some (.fv (.int .i64 m),⟨_,[]⟩)=>decide (m=k)
 | _=>false
theorem Afx {k:Int} {o:Option (IV×Hp)} (h:AdS k o=true):Bv o (.int .i64 k):=by
 unfold AdS at h;split at h
 ·have:=of_decide_eq_true h
  subst this;exact Al _ _
 ·cases h
theorem Afj {n:Nat} (hn:0<n) (op:Int):Bv (SS dt n 102 [iv op] ⟨[],[]⟩) (.int .i64 (C2 op)):=by
 obtain ⟨n,rfl⟩:∃k,n=k+1:=⟨n - 1,by omega⟩;rcases Mu op with h | h
 ·revert op
  refine fun op h=>Afh (P:=fun op=>Bv (SS dt (n+1) 102 [iv op] ⟨[],[]⟩) (.int .i64 (C2 op))) ?_ h;intro k hk
  iterate 31 (rcases k with _ | k;· exact Afx (by kernel_rfl))
  omega
 ·rw [JP h];exact AfL h
abbrev HC (op m:Int) (ks:List Tm) (N:Int):Hp:=⟨[(74448896,.row [iv op,iv m,.fv (.sl (ks.map Tm.enc))] false)],[.row [iv N] false]⟩
theorem X6 {base rm:List Nat} {vals:List IV} {own:List (Nat×Blk)} {a:FV} (hb:rm.any base.contains=false) (hf:AQ rm vals own []=true) (k:Hp→Option (IV×Hp)) :
  BH base rm vals ⟨own,[.row [.fv a] false]⟩ k=k ⟨H6 rm vals own [],[.row [.fv a] false]⟩:=AjE (by intro s;simp [Blk.refs,IV.refs.refsL,IV.refs]) hb hf k
theorem Acx:∀(n:Nat) (t:Tm) (N d:Int),2 * t.wt+2<n→0≤N→N≤3000→0≤d→d≤121 →
  CL (SS dt n 71 [.fv t.enc,.ptr (.ext 0) 0,iv d] ⟨[],[.row [iv N] false]⟩) (.int .i64 (t.chk N d).2) [.row [iv (t.chk N d).1] false]:=by
 intro n
 induction n using Nat.strongRecOn with
 | ind n ih =>
  intro t N d hn h0 hN hd0 hd;obtain ⟨op,m,ks⟩:=t;simp only [Tm.wt] at hn;obtain ⟨n,rfl⟩:∃k,n=k+1:=⟨n - 1,by omega⟩;rw [c71,Ai];have hlen:=EH ks;have hw:B6 (N+1)=N+1:=by rw [Ax]<;>omega
  have hwd:B6 (d+1)=d+1:=by rw [Ax]<;>omega
  have ha:=Afj (n:=n) (by omega) op;have hb:=V4 (n:=n) (by omega) op m;rw [Tm.chk];by_cases c1:3000<N+1
  ·rw [if_pos (.inl c1)];simp only [↓US,↓XX,XY,↓reduceIte,Nat.reduceBEq,Nat.reduceAdd,Int.reduceEq,Int.reduceLT,Int.reduceLE,hw,c1];exact AS _ _ _
  by_cases c2:120<d
  ·rw [if_pos (.inr c2)];simp only [↓US,↓XX,XY,↓reduceIte,Nat.reduceBEq,Nat.reduceAdd,Int.reduceEq,Int.reduceLT,Int.reduceLE,hw,c1,c2];exact AS _ _ _
  rw [if_neg (by omega)];by_cases c3:C2 op=(ks.length:Int)
  ·cases hnb:Il op m
   ·rw [hnb] at hb;rw [if_pos (.inr rfl)];simp only [↓US,↓XX,XY,↓reduceIte,Nat.reduceBEq,Nat.reduceAdd,Int.reduceEq,Int.reduceLT,Int.reduceLE,hw,c1,c2,↓Av ha,c3,↓Ad hb];exact AS _ _ _
   ·rw [hnb] at hb;have hk4:=M8 op;rw [if_neg (by simp [c3])];simp only [OW,QV,QC,Qi,Qd,Pc,OI,Qy,Qu,QK,S71,↓XX,XY,↓reduceIte,Nat.reduceBEq,Nat.reduceAdd,Int.reduceEq,Int.reduceLT,Int.reduceLE,hw,c1,c2,↓Av ha,c3,↓Ad hb,↓X6,↓AL,XD,heldB,AQ,XE];refine Bp (Q:=fun r'=>CL r' _ _) (fun k V H=>∃pre rest N2,ks=pre++rest∧rest.length=k∧V=[.ptr (.ext 0) 0,iv d,.fv (.sl (ks.map Tm.enc)),iv ks.length,iv pre.length]∧H=HC op m ks N2 ∧
     0≤N2∧N2≤3000∧Tm.chkL rest N2 (d+1)=Tm.chkL ks (N+1) (d+1)) ?_ n ks.length _ _ (by omega) ⟨[],ks,N+1,rfl,rfl,rfl,rfl,by omega,by omega,rfl⟩
    rintro k V H rec ⟨pre,rest,N2,hk,hkl,rfl,rfl,hN2,hN3,hr⟩ hrec;have hkk:ks.length=pre.length+rest.length:=by rw [hk];simp
    cases rest with
    | nil =>
     have hno:¬ ((pre.length:Int)<ks.length):=by rw [hkk];simp
     rw [← hr];simp only [↓US,↓XX,XY,↓reduceIte,Nat.reduceBEq,Nat.reduceAdd,Int.reduceEq,Int.reduceLT,Int.reduceLE,hno,Tm.chkL];exact AS _ _ _
    | cons t rest =>
     have hi:(pre.length:Int)<ks.length:=by rw [hkk];simp;omega
     have hg:=CH hk;have htw:=CX (t:=t) (l:=ks) (by rw [hk];simp);have hc:=ih n (by omega) t N2 (d+1) (by omega) hN2 hN3 (by omega) (by omega);have hcb:=AbB t N2 (d+1) hN3;have hwi:B6 ((pre.length:Int)+1)=((pre++[t]).length:Int):=(Ax (by omega) (by omega)).trans (by simp);rw [Tm.chkL] at hr;rw [← hr];have h9:=fun e=>hrec rest.length [.ptr (.ext 0) 0,iv d,.fv (.sl (ks.map Tm.enc)),iv ks.length,iv (pre++[t]).length] (HC op m ks (t.chk N2 (d+1)).1) (by simp only [Aq5] at hkl;omega)
      ⟨pre++[t],rest,_,by rw [hk];simp,rfl,rfl,rfl,by omega,(hcb.2.2 e).2.1,by rw [← hr,if_pos e]⟩
     rw [← hr] at h9;generalize t.chk N2 (d+1)=q at hc h9 ⊢;obtain ⟨q1,q2⟩:=q;simp only at hc h9 ⊢;obtain ⟨o,p,l⟩:=t;rw [Ai] at hc;by_cases he:q2=0
     ·subst he;simp only [if_true] at h9 ⊢;simp only [↓US,↓XX,XY,↓reduceIte,Nat.reduceBEq,Nat.reduceAdd,Int.reduceEq,Int.reduceLT,Int.reduceLE,hi,↓Bs (AK hg) (A8 _ _ _),↓Cb,hwd,↓WP hc (Air _ _),hwi,↓X6,↓AL,XD,heldB,AQ,XE];exact h9 trivial
     ·rw [if_neg he];simp only [↓US,↓XX,XY,↓reduceIte,Nat.reduceBEq,Nat.reduceAdd,Int.reduceEq,Int.reduceLT,Int.reduceLE,hi,↓Bs (AK hg) (A8 _ _ _),↓Cb,hwd,↓WP hc (Air _ _),he];exact AS _ _ _
  ·rw [if_pos (.inl c3)];simp only [↓US,↓XX,XY,↓reduceIte,Nat.reduceBEq,Nat.reduceAdd,Int.reduceEq,Int.reduceLT,Int.reduceLE,hw,c1,c2,↓Av ha,c3];exact AS _ _ _
theorem Of {n:Nat} (t:Tm) (hn:2 * t.wt+3<n):Bv (SS dt n 49 [.fv t.enc] ⟨[],[]⟩) (.int .i64 (t.chk 0 1).2):=by
 obtain ⟨n,rfl⟩:∃k,n=k+1:=⟨n - 1,by omega⟩;rw [c49];have h:=Acx n t 0 1 (by omega) (by omega) (by omega) (by omega) (by omega);generalize t.chk 0 1=q at h;obtain ⟨op,m,ks⟩:=t;rw [Ai] at h ⊢;have c2:=fun k=>AgQ (k:=k) h (x:=.fv (.agg [.int .i64 op,.int .i64 m,.sl (ks.map Tm.enc)])) (y:=iv 1) (s:=51381249) rfl rfl
  (own:=[(51380224,.row [iv op,iv m,.fv (.sl (ks.map Tm.enc))] false),(51381249,.row [iv 0] false)])
  (own':=[(51380224,.row [iv op,iv m,.fv (.sl (ks.map Tm.enc))] false),(51381249,.row [iv q.1] false)]) (by simp [Ar]) (by simp [A5])
 simp only [S49,↓XX,XY,↓reduceIte,Nat.reduceBEq,Nat.reduceAdd,Int.reduceEq,Int.reduceLT,Int.reduceLE,↓c2];exact Al _ _
def tI:Tm:=.mk 15 0 []
def EQ (r:Int×Tm) (a:Tm):Int:=if r.1=0 then (if a.same r.2 then 0 else 11) else r.1
def Ia (op:Int) (a:Tm) (r:Int×Tm):Int×Tm:=if r.1=0 then (((Tm.mk op 0 [a,r.2]).chk 0 1).2,.mk op 0 [a,r.2]) else (r.1,.z)
def Tm.kid (t:Tm) (i:Nat):Tm:=t.kids.getD i .z
def Tm.inf:Tm→List Tm→Int×Tm
 | .mk op n [],g=>if op=1 then (if (g.length:Int)≤n then (8,.z) else (0,g.getD (g.length - 1 - n.toNat) .z)) else if op=25 then (0,tI) else (10,.z)
 | .mk op _ [a],g=>if op=23 then (if (a.inf g).1=0 then (if (a.inf g).2.op=17 then (0,(a.inf g).2.kid 0) else (12,.z)) else ((a.inf g).1,.z))
  else if op=24 then (if (a.inf g).1=0 then (if (a.inf g).2.op=17 then (0,(a.inf g).2.kid 1) else (12,.z)) else ((a.inf g).1,.z)) else (10,.z)
 | .mk op _ [a,b],g =>
  if op=26 then (if EQ (a.inf g) tI=0 then (EQ (b.inf g) tI,tI) else (EQ (a.inf g) tI,.z))
  else if op=20 then (if a.typed then Ia 16 a (b.inf (g++[a])) else (10,.z))
  else if op=29 then (if a.typed then (EQ (b.inf (g++[a])) a,a) else (10,.z))
  else if op=28 then (if (a.inf g).1=0 then b.inf (g++[(a.inf g).2]) else ((a.inf g).1,.z))
  else if op=22 then (if (a.inf g).1=0 then Ia 17 (a.inf g).2 (b.inf g) else ((a.inf g).1,.z))
  else if op=21 then (if (a.inf g).1=0 then (if (a.inf g).2.op=16 then (EQ (b.inf g) ((a.inf g).2.kid 0),(a.inf g).2.kid 1) else (12,.z)) else ((a.inf g).1,.z))
  else (10,.z)
 | .mk op _ [a,b,c],g=>if op=27 then (if EQ (a.inf g) tI=0 then (if (b.inf g).1=0 then (EQ (c.inf g) (b.inf g).2,(b.inf g).2) else ((b.inf g).1,.z)) else (EQ (a.inf g) tI,.z)) else (10,.z)
 | _,_=>(10,.z)
mutual
def Tm.shp:Tm→Prop
 | .mk op n l=>(l.length:Int)=C2 op∧(op=1→0≤n)∧Tm.shpL l
def Tm.shpL:List Tm→Prop
 | []=>True
 | t::l=>t.shp∧Tm.shpL l
end
mutual
theorem AaE:∀(t:Tm) (n d:Int),(t.chk n d).2=0→t.shp
 | .mk op m l,n,d,h=>by
  rw [Tm.chk] at h;split at h
  ·cases h
  ·split at h
   ·cases h
   ·rename_i h1 h2;rw [Tm.shp];have h3:C2 op=(l.length:Int):=Classical.byContradiction fun e=>h2 (.inl e);have h4:Il op m=true:=by cases hb:Il op m with
     | true=>rfl
     | false=>exact absurd (.inr hb) h2
    refine ⟨h3.symm,?_,chkL_shp l _ _ h⟩;rintro rfl;simp [Il] at h4;exact h4.1
theorem chkL_shp:∀(l:List Tm) (n d:Int),(Tm.chkL l n d).2=0→Tm.shpL l
 | [],_,_,_=>trivial
 | t::l,n,d,h=>by
  rw [Tm.chkL] at h;split at h
  ·rename_i h1;exact ⟨AaE t _ _ h1,chkL_shp l _ _ h⟩
  ·rename_i h1;exact absurd h h1
end
theorem AgH {t:Tm} (h:(t.chk 0 1).2=0):t.wt≤3000:=by
 have:=(AbB t 0 1 (by omega)).2.2 h
 omega
theorem Mi {t:Tm} (h:t.typed=true):(t.op=15∧t.kids=[])∨((t.op=16∨t.op=17)∧∃a b,t.kids=[a,b]∧a.typed=true∧b.typed=true):=by
 obtain ⟨op,m,l⟩:=t
 match l,h with
 | [],h=>exact .inl ⟨by simpa [Tm.typed,Tm.op] using h,rfl⟩
 | [_],h=>rw [Me] at h;cases h
 | x::y::z::l,h=>rw [Mj] at h;cases h
 | [a,b],h =>
  simp only [Tm.typed,Bool.and_eq_true,Bool.or_eq_true,decide_eq_true_eq] at h;exact .inr ⟨h.1,a,b,rfl,h.2.1,h.2.2⟩
theorem SJ:tI.typed=true:=by simp [tI,Tm.typed]
theorem On (M:Nat) (hM:3000≤M):∀(n:Nat) (t:Tm) (g:List Tm),t.wt<n→t.wt≤M→(∀x∈g,x.typed=true∧x.wt≤M)→t.shp→(t.inf g).1=0→(t.inf g).2.typed=true∧(t.inf g).2.wt≤M:=by
 intro n
 induction n with
 | zero=>intro t g h;omega
 | succ n ih =>
  intro t g hn hw hg hs h;obtain ⟨op,m,l⟩:=t;simp only [Tm.wt] at hn hw;have hp:∀{x a:Tm},x∈g++[a]→a.typed=true∧a.wt≤M→x.typed=true∧x.wt≤M:=by
   intro x a hx ha;rcases List.mem_append.1 hx with h | h
   ·exact hg x h
   ·rw [List.mem_singleton.1 h];exact ha
  rw [Tm.shp] at hs;obtain ⟨_,hv,hs⟩:=hs
  match l,hs with
  | [],_ =>
   unfold Tm.inf at h ⊢;by_cases h1:op=1
   ·rw [if_pos h1] at h ⊢;by_cases h2:(g.length:Int)≤m
    ·rw [if_pos h2] at h;cases h
    ·rw [if_neg h2]
     have:=hv h1
     have hlt:g.length - 1 - m.toNat<g.length:=by omega
     rw [List.getD_eq_getElem?_getD,List.getElem?_eq_getElem hlt];exact hg _ (List.getElem_mem hlt)
   ·rw [if_neg h1] at h ⊢;by_cases h2:op=25
    ·rw [if_pos h2];exact ⟨SJ,by simp [tI,Tm.wt,Tm.wtL];omega⟩
    ·rw [if_neg h2] at h;cases h
  | [a],hs =>
   simp only [Tm.wtL] at hn hw;have key:(a.inf g).1=0→(a.inf g).2.op=17→∀i,i<2→((a.inf g).2.kid i).typed=true∧((a.inf g).2.kid i).wt≤M:=by
    intro h1 h2 i hi;obtain ⟨h3,h4⟩:=ih a g (by omega) (by omega) hg hs.1 h1;rcases Mi h3 with ⟨h5,_⟩ | ⟨_,x,y,h6,h7,h8⟩
    ·omega
    ·generalize (a.inf g).2=r at *;obtain ⟨o,p,k⟩:=r;simp only [Tm.kids] at h6;subst h6;simp only [Tm.wt,Tm.wtL] at h4
     match i,hi with
     | 0,_=>exact ⟨h7,by show x.wt≤M;omega⟩
     | 1,_=>exact ⟨h8,by show y.wt≤M;omega⟩
   unfold Tm.inf at h ⊢;by_cases h1:op=23
   ·rw [if_pos h1] at h ⊢;by_cases h2:(a.inf g).1=0
    ·rw [if_pos h2] at h ⊢;by_cases h3:(a.inf g).2.op=17
     ·rw [if_pos h3];exact key h2 h3 0 (by decide)
     ·rw [if_neg h3] at h;cases h
    ·rw [if_neg h2] at h;exact absurd h h2
   ·rw [if_neg h1] at h ⊢;by_cases h1:op=24
    ·rw [if_pos h1] at h ⊢;by_cases h2:(a.inf g).1=0
     ·rw [if_pos h2] at h ⊢;by_cases h3:(a.inf g).2.op=17
      ·rw [if_pos h3];exact key h2 h3 1 (by decide)
      ·rw [if_neg h3] at h;cases h
     ·rw [if_neg h2] at h;exact absurd h h2
    ·rw [if_neg h1] at h;cases h
  | [a,b],hs =>
   simp only [Tm.wtL] at hn hw;have hmade:∀(o:Int) (x:Tm) (r:Int×Tm),(o=16∨o=17)→x.typed=true→(r.1=0→r.2.typed=true)→(Ia o x r).1=0→(Ia o x r).2.typed=true∧(Ia o x r).2.wt≤M:=by
    intro o x r ho hx hr hz;unfold Ia at hz ⊢;by_cases h1:r.1=0
    ·rw [if_pos h1] at hz ⊢;refine ⟨?_,Nat.le_trans (AgH hz) hM⟩;simp only [Tm.typed,hx,hr h1,Bool.and_true,Bool.or_eq_true,decide_eq_true_eq];exact ho
    ·rw [if_neg h1] at hz;exact absurd hz h1
   unfold Tm.inf at h ⊢;by_cases h1:op=26
   ·rw [if_pos h1] at h ⊢;by_cases h2:EQ (a.inf g) tI=0
    ·rw [if_pos h2];exact ⟨SJ,by simp [tI,Tm.wt,Tm.wtL];omega⟩
    ·rw [if_neg h2] at h;exact absurd h h2
   rw [if_neg h1] at h ⊢;by_cases h1:op=20
   ·rw [if_pos h1] at h ⊢;by_cases h2:a.typed=true
    ·rw [if_pos h2] at h ⊢;exact hmade 16 a _ (.inl rfl) h2 (fun e=>(ih b (g++[a]) (by omega) (by omega) (fun x hx=>hp hx ⟨h2,by omega⟩) hs.2.1 e).1) h
    ·rw [if_neg h2] at h;cases h
   rw [if_neg h1] at h ⊢;by_cases h1:op=29
   ·rw [if_pos h1] at h ⊢;by_cases h2:a.typed=true
    ·rw [if_pos h2];exact ⟨h2,by show a.wt≤M;omega⟩
    ·rw [if_neg h2] at h;cases h
   rw [if_neg h1] at h ⊢;by_cases h1:op=28
   ·rw [if_pos h1] at h ⊢;by_cases h2:(a.inf g).1=0
    ·rw [if_pos h2] at h ⊢;have ha:=ih a g (by omega) (by omega) hg hs.1 h2;exact ih b _ (by omega) (by omega) (fun x hx=>hp hx ha) hs.2.1 h
    ·rw [if_neg h2] at h;exact absurd h h2
   rw [if_neg h1] at h ⊢;by_cases h1:op=22
   ·rw [if_pos h1] at h ⊢;by_cases h2:(a.inf g).1=0
    ·rw [if_pos h2] at h ⊢;exact hmade 17 _ _ (.inr rfl) (ih a g (by omega) (by omega) hg hs.1 h2).1 (fun e=>(ih b g (by omega) (by omega) hg hs.2.1 e).1) h
    ·rw [if_neg h2] at h;exact absurd h h2
   rw [if_neg h1] at h ⊢;by_cases h1:op=21
   ·rw [if_pos h1] at h ⊢;by_cases h2:(a.inf g).1=0
    ·rw [if_pos h2] at h ⊢;by_cases h3:(a.inf g).2.op=16
     ·rw [if_pos h3];obtain ⟨h5,h4⟩:=ih a g (by omega) (by omega) hg hs.1 h2;rcases Mi h5 with ⟨h5,_⟩ | ⟨_,x,y,h6,h7,h8⟩
      ·omega
      ·generalize (a.inf g).2=r at *;obtain ⟨o,p,k⟩:=r;simp only [Tm.kids] at h6;subst h6;simp only [Tm.wt,Tm.wtL] at h4;exact ⟨h8,by show y.wt≤M;omega⟩
     ·rw [if_neg h3] at h;cases h
    ·rw [if_neg h2] at h;exact absurd h h2
   ·rw [if_neg h1] at h;cases h
  | [a,b,c],hs =>
   simp only [Tm.wtL] at hn hw;unfold Tm.inf at h ⊢;by_cases h1:op=27
   ·rw [if_pos h1] at h ⊢;by_cases h2:EQ (a.inf g) tI=0
    ·rw [if_pos h2] at h ⊢;by_cases h3:(b.inf g).1=0
     ·rw [if_pos h3];exact ih b g (by omega) (by omega) hg hs.2.1 h3
     ·rw [if_neg h3] at h;exact absurd h h3
    ·rw [if_neg h2] at h;exact absurd h h2
   ·rw [if_neg h1] at h;cases h
  | a::b::c::d::l,_ =>
   rw [Tm.inf] at h
   ·cases h
   all_goals simp
def Kp (r:Option (IV×Hp)) (q:Int×Tm):Prop:=∃u,Bv r (.tuple [Tm.enc u,.int .i64 q.1])∧(q.1=0→u=q.2)
theorem Vy {r:Option (IV×Hp)} {e:Int} {u:Tm} (h:Bv r (.tuple [u.enc,.int .i64 e])):Kp r (e,u):=⟨u,h,fun _=>rfl⟩
theorem J9 {r:Option (IV×Hp)} {e:Int} {u v:Tm} (h:Bv r (.tuple [u.enc,.int .i64 e])) (he:e≠0):Kp r (e,v):=⟨u,h,fun h=>absurd h he⟩
theorem Acr {op m:Int} {l:List Tm} {g:List Tm} (h:op≠1∧op≠25∧op≠23∧op≠24∧op≠26∧op≠20∧op≠29∧op≠28∧op≠22∧op≠21∧op≠27):(Tm.mk op m l).inf g=(10,.z):=by
 obtain ⟨h1,h2,h3,h4,h5,h6,h7,h8,h9,h10,h11⟩:=h
 match l with
 | []=>rw [Tm.inf,if_neg h1,if_neg h2]
 | [_]=>rw [Tm.inf,if_neg h3,if_neg h4]
 | [_,_]=>rw [Tm.inf,if_neg h5,if_neg h6,if_neg h7,if_neg h8,if_neg h9,if_neg h10]
 | [_,_,_]=>rw [Tm.inf,if_neg h11]
 | a::b::c::d::l =>
  rw [Tm.inf]
  all_goals simp
theorem Anz {l:List Tm} (h:(l.length:Int)=0):l=[]:=List.eq_nil_of_length_eq_zero (by omega)
theorem Ao2 {l:List Tm} (h:(l.length:Int)=1):∃a,l=[a]:=by
 match l,h with
 | [a],_=>exact ⟨a,rfl⟩
 | [],h=>simp at h
 | a::b::l,h=>simp only [Aq5] at h;omega
theorem Afi {l:List Tm} (h:(l.length:Int)=2):∃a b,l=[a,b]:=by
 match l,h with
 | [a,b],_=>exact ⟨a,b,rfl⟩
 | [],h=>simp at h
 | [_],h=>simp at h
 | a::b::c::l,h=>simp only [Aq5] at h;omega
theorem AnS {l:List Tm} (h:(l.length:Int)=3):∃a b c,l=[a,b,c]:=by
 match l,h with
 | [a,b,c],_=>exact ⟨a,b,c,rfl⟩
 | [],h=>simp at h
 | [_],h=>simp at h
 | [_,_],h=>simp at h
 | a::b::c::d::l,h=>simp only [Aq5] at h;omega
theorem JJ {op:Int} (ho:op=16∨op=17) {t:Tm} (h:t.typed=true) (h1:t.op=op):∃x y,t.kids=[x,y]:=by
 rcases Mi h with ⟨h2,_⟩ | ⟨_,a,b,h2,_⟩
 ·omega
 ·exact ⟨a,b,h2⟩
theorem Aho {t x y:Tm} (h:t.kids=[x,y]):(t.kid 0).wt<t.wt:=by
 obtain ⟨o,p,k⟩:=t;simp only [Tm.kids] at h;subst h
 show x.wt<_
 simp only [Tm.wt,Tm.wtL];omega
mutual
theorem JD:∀(t:Tm),t.typed=true→t.shp
 | .mk op m [],h=>by
  have h1:op=15:=by simpa [Tm.typed] using h
  subst h1;rw [Tm.shp];exact ⟨rfl,(fun h=>by cases h),trivial⟩
 | .mk op m [_],h=>by rw [Me] at h;cases h
 | .mk op m (_::_::_::_),h=>by rw [Mj] at h;cases h
 | .mk op m [a,b],h=>by
  simp only [Tm.typed,Bool.and_eq_true,Bool.or_eq_true,decide_eq_true_eq] at h;rw [Tm.shp];exact ⟨(by rcases h.1 with rfl | rfl<;>rfl),(fun h1=>by omega),JD a h.2.1,JD b h.2.2,trivial⟩
end
mutual
def Tm.okn:Tm→Bool
 | .mk op m l=>decide (C2 op=(l.length:Int)) && (Il op m && Tm.oknL l)
def Tm.oknL:List Tm→Bool
 | []=>true
 | t::l=>t.okn && Tm.oknL l
end
mutual
theorem Za:∀(t:Tm) (n d:Int),t.okn=true→n+t.wt≤3000→d+t.wt≤121→t.chk n d=(n+t.wt,0)
 | .mk op m l,n,d,h,h1,h2=>by
  simp only [Tm.okn,Bool.and_eq_true,decide_eq_true_eq] at h;simp only [Tm.wt] at h1 h2 ⊢;rw [Tm.chk,if_neg (by omega),if_neg (by simp [h.1,h.2.1]),chkL_okn l (n+1) (d+1) h.2.2 (by omega) (by omega)];simp only [Aq2,and_true];omega
theorem chkL_okn:∀(l:List Tm) (n d:Int),Tm.oknL l=true→n+Tm.wtL l≤3000→d+Tm.wtL l≤121→Tm.chkL l n d=(n+Tm.wtL l,0)
 | [],n,d,_,_,_=>by simp [Tm.chkL,Tm.wtL]
 | t::l,n,d,h,h1,h2=>by
  simp only [Tm.oknL,Bool.and_eq_true] at h;simp only [Tm.wtL] at h1 h2 ⊢;rw [Tm.chkL,Za t n d h.1 (by omega) (by omega),if_pos rfl,chkL_okn l _ d h.2 (by simp only;omega) (by omega)];simp only [Aq2,and_true];omega
end
theorem AiI {m:Nat} {g:List Tm} {c P:Tm} (h:OT m g c P):c.stl:=by
 induction h with
 | var=>exact Ig (by decide) trivial
 | oint=>exact Ig (by decide) trivial
 | oprim g n a b ha hb iha ihb=>exact Ig (by decide) ⟨iha,ihb,trivial⟩
 | olam g a b c ha hw hb ih=>exact Ig (by decide) ⟨GT ha,ih,trivial⟩
 | oapp g f x a c hf hx ihf ihx=>exact Ig (by decide) ⟨ihf,ihx,trivial⟩
 | opair g x y a b hw hx hy ihx ihy=>exact Ig (by decide) ⟨ihx,ihy,trivial⟩
 | ofst g x a b hx ih=>exact Ig (by decide) ⟨ih,trivial⟩
 | oif g c x y a hc hx hy i1 i2 i3=>exact Ig (by decide) ⟨i1,i2,i3,trivial⟩
 | olet g x y a b hx hy i1 i2=>exact Ig (by decide) ⟨i1,i2,trivial⟩
 | ofix g a x ha hw hx ih=>exact Ig (by decide) ⟨GT ha,ih,trivial⟩
theorem Sy {p:Tm} (h:PT p):p.typed=true:=by
 induction h with
 | int=>simp [Tm.typed]
 | bin op a b ho ha hb iha ihb=>simp only [Tm.typed,iha,ihb,Bool.and_self,Bool.and_true,Bool.or_eq_true,decide_eq_true_eq];exact ho
theorem Aj5 {p:Tm} (h:PT p):p.okn=true:=by
 induction h with
 | int=>decide
 | bin op a b ho ha hb iha ihb=>rcases ho with rfl | rfl<;>(simp only [Tm.okn,Tm.oknL,iha,ihb,Bool.and_true,Bool.and_self];rfl)
theorem Aeh {p:Tm} (h:PT p) (hw:p.wt≤100):(p.chk 0 1).2=0:=by
 rw [Za p 0 1 (Aj5 h) (by omega) (by omega)]
theorem Hf {r:Int×Tm} {a:Tm} (h:r=(0,a)):EQ r a=0:=by
 rw [h,EQ,if_pos rfl,if_pos ((Ld a a).2 rfl)]
theorem Ake {m:Nat} {g:List Tm} {c P:Tm} (h:OT m g c P) (hm:m≤100):c.inf g=(0,P):=by
 induction h with
 | var g i P hP hw hi h =>
  rw [Tm.inf,if_pos rfl,if_neg (by omega)];rw [List.getD_eq_getElem?_getD,Int.toNat_natCast,h];rfl
 | oint g n hm=>rw [Tm.inf,if_neg (by decide),if_pos rfl];rfl
 | oprim g n a b ha hb iha ihb=>rw [Tm.inf,if_pos rfl,if_pos (Hf (a:=tI) iha),Hf (a:=tI) ihb];rfl
 | olam g a b c ha hw hb ih =>
  rw [Tm.inf,if_neg (by decide),if_pos rfl,if_pos (Sy ha),ih,Ia,if_pos rfl];rw [Aeh (AaM (OT.olam g a b c ha hw hb)).1 (by omega)]
 | oapp g f x a c hf hx ihf ihx =>
  rw [Tm.inf,if_neg (by decide),if_neg (by decide),if_neg (by decide),if_neg (by decide),if_neg (by decide),if_pos rfl,ihf];simp only [if_true,Tm.op]
  have:(Tm.mk 16 0 [a,c]).kid 0=a:=rfl
  rw [this,Hf ihx];rfl
 | opair g x y a b hw hx hy ihx ihy =>
  rw [Tm.inf,if_neg (by decide),if_neg (by decide),if_neg (by decide),if_neg (by decide),if_pos rfl,ihx,ihy];simp only [if_true];rw [Ia,if_pos rfl,Aeh (AaM (OT.opair g x y a b hw hx hy)).1 (by omega)]
 | ofst g x a b hx ih =>
  rw [Tm.inf,if_pos rfl,ih];simp only [if_true,Tm.op];rfl
 | oif g c x y a hc hx hy i1 i2 i3 =>
  rw [Tm.inf,if_pos rfl,if_pos (Hf (a:=tI) i1),i2];simp only [if_true];rw [Hf i3]
 | olet g x y a b hx hy i1 i2 =>
  rw [Tm.inf,if_neg (by decide),if_neg (by decide),if_neg (by decide),if_pos rfl,i1];simp only [if_true];exact i2
 | ofix g a x ha hw hx ih =>
  rw [Tm.inf,if_neg (by decide),if_neg (by decide),if_pos rfl,if_pos (Sy ha),Hf ih]
theorem Agi (t:Tm):(t.ren fun x=>x)=t:=by rw [E0];exact Iv t
theorem AcT {m:Nat} {g:List Tm} {c P:Tm} (h:OT m g c P):∀ρ:Nat→Nat,(∀i,i<g.length→ρ i=i)→c.ren ρ=c:=by
 have up:∀(g:List Tm) (a:Tm) (ρ:Nat→Nat),(∀i,i<g.length→ρ i=i)→∀i,i<(g++[a]).length→Jc 1 ρ i=i:=by
  intro g a ρ h i hi;simp only [List.length_append,Aq5,List.length_nil] at hi;by_cases h0:i<1
  ·rw [Gb h0]
  ·rw [FM h0,h _ (by omega)];omega
 induction h with
 | var g i P hP hw hi h=>intro ρ hr;have:=GE i ρ;rw [vT] at this;rw [this,hr i hi];rfl
 | oint=>intro ρ hr;exact MT (by decide)
 | oprim g n a b ha hb iha ihb=>intro ρ hr;rw [A6 (by decide)];simp only [Tm.renL,show Af 26 0=0 from rfl,show Af 26 (0+1)=0 from rfl,Cd,iha ρ hr,ihb ρ hr]
 | olam g a b c ha hw hb ih=>intro ρ hr;rw [A6 (by decide)];simp only [Tm.renL,show Af 20 0=0 from rfl,show Af 20 (0+1)=1 from rfl,Cd,Gn ha,ih _ (up g a ρ hr)]
 | oapp g f x a c hf hx ihf ihx=>intro ρ hr;rw [A6 (by decide)];simp only [Tm.renL,show Af 21 0=0 from rfl,show Af 21 (0+1)=0 from rfl,Cd,ihf ρ hr,ihx ρ hr]
 | opair g x y a b hw hx hy ihx ihy=>intro ρ hr;rw [A6 (by decide)];simp only [Tm.renL,show Af 22 0=0 from rfl,show Af 22 (0+1)=0 from rfl,Cd,ihx ρ hr,ihy ρ hr]
 | ofst g x a b hx ih=>intro ρ hr;rw [A6 (by decide)];simp only [Tm.renL,show Af 23 0=0 from rfl,Cd,ih ρ hr]
 | oif g c x y a hc hx hy i1 i2 i3=>intro ρ hr;rw [A6 (by decide)];simp only [Tm.renL,show Af 27 0=0 from rfl,show Af 27 (0+1)=0 from rfl,show Af 27 (0+1+1)=0 from rfl,Cd,i1 ρ hr,i2 ρ hr,i3 ρ hr]
 | olet g x y a b hx hy i1 i2=>intro ρ hr;rw [A6 (by decide)];simp only [Tm.renL,show Af 28 0=0 from rfl,show Af 28 (0+1)=1 from rfl,Cd,i1 ρ hr,i2 _ (up g a ρ hr)]
 | ofix g a x ha hw hx ih=>intro ρ hr;rw [A6 (by decide)];simp only [Tm.renL,show Af 29 0=0 from rfl,show Af 29 (0+1)=1 from rfl,Cd,Gn ha,ih _ (up g a ρ hr)]
theorem AiC {m:Nat} {c P:Tm} (h:OT m [] c P) (g:List Tm):OT m g c P:=by
 have:=Afm h g (fun x=>x) fun i Q hi=>by simp at hi
 rwa [Agi] at this
theorem Agd {q t c:Tm} {f:Nat} (h:Gr 2 10 [] (q.plainT 2) t) (tsc:t.sc 0) (hn:AX f t=some (c,0)):OT 14 [] c (q.plainT 2):=by
 have aw:(q.plainT 2).wt≤7:=by have:=CZ 2 q;omega
 have hP:=Cj 2 q;have hT:=(Afn h [] M4).2.2.1 rfl (Br [] 2 q);obtain ⟨c',q1,q2⟩:=(fl h [] [] vT M4 Ac7).2.2.1 rfl (EB 0 2 q) (by unfold Bw;omega) (Br [] 2 q) (q.plainT 2) hP (by rw [Iv];exact .refl _);rw [Iv] at q1;have e:=Ad8 (Gm hn tsc) q1 (.refl t) (.refl t) (Ahy (CB hn hT)) (AiI q2);subst e;exact FB (by unfold mw;omega) q2
theorem AcB {op:Int} {s:Nat} {sg:Kq} (h:Rule op s sg):C2 op=(sg.length:Int):=by cases h<;>rfl
theorem Vw {op n:Int} (h1:op≠1) (h:Bz op n):Il op n=true:=by
 unfold Bz at h;unfold Il;rw [if_neg h1];by_cases h2:op=2
 ·rw [if_pos h2] at h ⊢;simp [h]
 rw [if_neg h2] at h ⊢;by_cases h26:op=26
 ·rw [if_pos h26] at h ⊢;simp [h]
 rw [if_neg h26] at h ⊢;by_cases h25:op=25
 ·rw [if_pos h25]
 rw [if_neg h25] at h ⊢;simp [h]
theorem Se {d:Int}:∀(l:List Tm) (n:Int),(∀(i:Nat) t,l[i]?=some t→∀n:Int,n+t.wt≤3000→t.chk n d=(n+t.wt,0))→n+Tm.wtL l≤3000→Tm.chkL l n d=(n+Tm.wtL l,0)
 | [],n,_,_=>by simp [Tm.chkL,Tm.wtL]
 | t::l,n,h,hw=>by
  simp only [Tm.wtL] at hw;have h1:=h 0 t rfl n (by omega);rw [Tm.chkL,h1];simp only [if_true];rw [Se l (n+t.wt) (fun i t a=>h (i+1) t (by simpa using a)) (by omega)];simp only [Tm.wtL,Aq2,and_true];omega
theorem Ai8 {G:List Nat} {t:Tm} {s:Nat} (h:NfT G t s):∀(k:Nat) (n d:Int),t.sc k→k+2 * t.dp≤3000→n+t.wt≤3000→d+t.dp≤121→t.chk n d=(n+t.wt,0):=by
 induction h with
 | var G m s h0 h hs =>
  intro k n d hsc hk hw hd;simp only [Tm.wt,Tm.wtL] at hw;simp only [Tm.dp,Tm.dpL] at hd hk;rw [Tm.sc,if_pos rfl] at hsc;rw [Tm.chk,if_neg (by omega),if_neg (by simp [C2,Il];omega),Tm.chkL];simp [Tm.wt,Tm.wtL]
 | node G op m ks s sg hr hl hst hk ih =>
  intro k n d hsc hkk hw hd;simp only [Tm.wt] at hw;simp only [Tm.dp] at hd hkk;rw [Tm.sc,if_neg (Fo hr).1] at hsc;have hc:¬ (C2 op≠(ks.length:Int)∨Il op m=false):=by
   rw [AcB hr,hl,Vw (Fo hr).1 hsc.2.1];simp
  rw [Tm.chk,if_neg (by omega),if_neg hc];rw [Se ks (n+1) (fun i t a n' hn'=>by
   have hi:i<sg.length:=by rw [← hl];exact (List.getElem?_eq_some_iff.1 a).1
   have hwt:=LB a;have hdt:=AbH a;have hbn:=BN op i;have hs:=Vk hsc.2.2 a;rw [Nat.zero_add] at hs;exact ih i t _ _ a (List.getElem?_eq_getElem hi) (k+Af op i) n' (d+1) hs (by omega) hn' (by omega)) (by omega)]
  simp only [Tm.wt,Aq2,and_true];omega
theorem Alo:EE.T 71=some ⟨1,24,.slice 87,[.nils]⟩:=by kernel_rfl
theorem tV1:EE.T 87=some ⟨4,48,.struct [(0,3),(1,30)],[.fv (.int .i64 0),.fv (.int .i64 0),.fv (.int .i64 0),.nils]⟩:=by kernel_rfl
theorem sV1:SliceT EE 71 4:=⟨_,_,_,_,_,Alo,tV1,rfl,by decide,by decide⟩
theorem AfD (s:Nat) (h:Hp) (k:IV→Hp→List Ref→List Ref→Option (IV×Hp)):AE (Aj EE 71 0 []) s h k=k (.clip []) h [] []:=Em Alo tV1 (by decide) (cells:=[]) rfl k
theorem Aee (s0 o n:Int) (ks:List FV) (s:Nat) (h:Hp) (k:IV→Hp→List Ref→List Ref→Option (IV×Hp)):AE (Aj EE 71 1 [(0,.fv (.agg [.int .i64 s0,.int .i64 o,.int .i64 n,.sl ks]))]) s h k=k (.clip [.agg [.int .i64 s0,.int .i64 o,.int .i64 n,.sl ks]]) h [] [] :=
 Em Alo tV1 (by decide) (cells:=[.int .i64 s0,.int .i64 o,.int .i64 n,.sl ks]) rfl k
theorem Lb (g:B7):Bi 4 (g.map v1)=true:=by
 cases g with
 | nil=>rfl
 | cons a l=>simp only [Aq7,Bi,v1,FV.cells,Aq5,List.length_nil,beq_self_eq_true]
theorem Ak8 (g:B7):((g.map v1).all fun e=>e.cells.all FV.one)=true:=by
 rw [List.all_map,List.all_eq_true];intro p _;rfl
theorem C6 {n:Nat} (g:B7) (st:Int) (a:Tm) (hg:g.length≤1000) (hn:0<n):Bv (SS dt n 96 [.fv (A9 g),iv st,.fv a.enc] ⟨[],[]⟩) (A9 (g++[(st,a)])):=by
 obtain ⟨n,rfl⟩:∃k,n=k+1:=⟨n - 1,by omega⟩;rw [c96];rw [A9,A9,List.map_append,Aq7,Aq6];cases g with
 | nil =>
  have h0:=fun {β:Type}=>Aij (β:=β) (E:=EE) sV1 (.sl []) (s0:=.clip []) (.inr rfl);have happ:=fun {β:Type}=>H7 (β:=β) sV1 (.clip [v1 (st,a)]) (Lb [(st,a)]) rfl (by simp) (s0:=.clip []) (.inr rfl);obtain ⟨o,p,k⟩:=a;simp only [v1,Tm.op,Tm.n,Tm.kids] at happ ⊢;rw [Ai];simp only [UM,UQ,S96,↓XX,XY,↓reduceIte,Nat.reduceBEq,Nat.reduceAdd,Int.reduceEq,Int.reduceLT,Int.reduceLE,↓AfD,↓h0,↓Aee,↓happ];exact A7 rfl _
 | cons t g =>
  have h0:=fun {β:Type}=>H7 (β:=β) sV1 (.sl ((t::g).map v1)) (Lb (t::g)) rfl (by simp at hg ⊢;omega) (s0:=.clip []) (.inr rfl);have happ:=fun {β:Type}=>Om (β:=β) sV1 (es:=(t::g).map v1) (es2:=[v1 (st,a)]) (.clip _) (Lb [(st,a)]) (Lb (t::g)) (Ak8 [(st,a)]) (by simp at hg ⊢;omega);obtain ⟨o,p,k⟩:=a;simp only [Aq7,List.length_map,Aq5,List.length_nil,List.cons_append] at h0 happ ⊢;simp only [v1,Tm.op,Tm.n,Tm.kids] at h0 happ ⊢;rw [Ai];simp only [UM,UQ,S96,↓XX,XY,↓reduceIte,Nat.reduceBEq,Nat.reduceAdd,Int.reduceEq,Int.reduceLT,Int.reduceLE,↓AfD,↓h0,↓Aee,↓happ,GD];exact A7 rfl _
theorem Ks {n:Nat} (hn:1<n):Bv (SS dt n 99 [] ⟨[],[]⟩) (Tm.mk 10 0 []).enc:=by
 obtain ⟨n,rfl⟩:∃k,n=k+1:=⟨n - 1,by omega⟩;rw [c99];have t:=Du (n:=n) (by omega) 10;rw [Ai] at t ⊢;simp only [S99,↓XX,XY,↓reduceIte,Nat.reduceBEq,Nat.reduceAdd,Int.reduceEq,Int.reduceLT,Int.reduceLE,↓Ad t];exact Al _ _
theorem AeY {P:Nat→Nat→Prop}:∀m,(∀i,i<m→∃N,∀n,N≤n→P i n)→∃N,∀i,i<m→∀n,N≤n→P i n:=by
 intro m
 induction m with
 | zero=>intro _;exact ⟨0,fun i hi=>by omega⟩
 | succ m ih =>
  intro h;obtain ⟨N1,h1⟩:=ih fun i hi=>h i (by omega);obtain ⟨N2,h2⟩:=h m (by omega);refine ⟨N1+N2,fun i hi n hn=>?_⟩;by_cases him:i=m
  ·subst him;exact h2 n (by omega)
  ·exact h1 i (by omega) n (by omega)
theorem AeQ:EE.T 51=some ⟨1,24,.slice 3,[.nils]⟩:=by kernel_rfl
theorem Ajg:EE.T 3=some ⟨1,8,.int .i64,[.fv (.int .i64 0)]⟩:=by kernel_rfl
theorem Amk:SliceT EE 51 1:=⟨_,_,_,_,_,AeQ,Ajg,rfl,by decide,by decide⟩
theorem Ait (a:Int) (s:Nat) (h:Hp) (k:IV→Hp→List Ref→List Ref→Option (IV×Hp)):AE (Aj EE 51 1 [(0,iv a)]) s h k=k (.clip [.int .i64 a]) h [] []:=Em AeQ Ajg (by decide) (cells:=[.int .i64 a]) rfl k
def iE (l:List Nat):List FV:=l.map fun (i:Nat)=>FV.int .i64 (i:Int)
theorem U8 (l:List Nat):Bi 1 (iE l)=true:=by
 cases l with
 | nil=>rfl
 | cons a l=>rfl
theorem AmY (l:List Nat):((iE l).all fun e=>e.cells.all FV.one)=true:=by
 rw [iE,List.all_map,List.all_eq_true];intro p _;rfl
def lV:List Nat→IV
 | []=>.nils
 | i::l=>.app (.own 101720067) (iE (i::l))
def lH:List Nat→List (Nat×Blk)
 | []=>[]
 | i::l=>[(101720067,.tok (i::l).length 1)]
abbrev Nl (o m:Int) (ks:List Tm) (l:List Nat):Hp :=
 ⟨[(101711872,.row [iv o,iv m,.fv (.sl (ks.map Tm.enc))] false),(101711873,.row [iv 0,iv 0,.nils] false)]++lH l,[]⟩
theorem AbW (p:Nat→Bool) (i:Nat):(List.range (i+1)).filter p=(List.range i).filter p++(if p i then [i] else []):=by
 rw [List.range_succ,List.filter_append];cases h:p i<;>simp [h]
set_option maxRecDepth 20000 in
set_option maxHeartbeats 4000000 in
theorem J7 {e0:Nat} {g:B7} (hg:GOk e0 g) (st:Int) {a:Tm} (ha:NOk g.length a) (x:Int):∃t b,Ev 97 [.fv (A9 g),iv st,.fv a.enc,iv x] (.tuple [Tm.enc t,.bool b])∧TOk g.length 0 t∧(b=true→∃i:Nat,t=.mk 1 i []∧Hit g st a i):=by
 have hlen:=hg.len;have hc:∀i:Nat,∃(p:Int×Tm) (u:Tm) (e:Int),i<g.length→g[g.length - 1 - i]?=some p∧p.2.wk∧p.2.wt≤100000000000∧Ev 58 [.fv (p.2.shift ((i:Int)+1) 0).enc] (.tuple [u.enc,.int .i64 e])∧(e=0∧NOk g.length u∨(e=5∨e=17)∧u=.z)∧∃f,AX f (p.2.shift ((i:Int)+1) 0)=some (u,e):=by
  intro i;by_cases hi:i<g.length
  ·obtain ⟨p,hp⟩:∃p,g[g.length - 1 - i]?=some p:=⟨_,List.getElem?_eq_getElem (by omega)⟩;obtain ⟨h1,h2,h3⟩:=hg.ok _ _ hp;have h4:=BM p.2 (i+1) 0 _ h1 (by omega);rw [show g.length - 1 - i+(i+1)=g.length by omega] at h4
   obtain ⟨u,e,h5,h6,h7⟩:=Ji (k:=g.length) (by omega) h4 (by rw [EJ];omega);exact ⟨p,u,e,fun _=>⟨hp,Fv _ _ h1,h2,h5,h6,h7⟩⟩
  ·exact ⟨(0,.z),.z,0,fun h=>absurd h hi⟩
 obtain ⟨P,hP⟩:=Classical.axiomOfChoice hc;obtain ⟨U,hP⟩:=Classical.axiomOfChoice hP;obtain ⟨E,hU⟩:=Classical.axiomOfChoice hP;clear hP hc;obtain ⟨N,hN⟩:=AeY (P:=fun i n=>Bv (SS dt n 58 [.fv ((P i).2.shift ((i:Int)+1) 0).enc] ⟨[],[]⟩) (.tuple [(U i).enc,.int .i64 (E i)])) g.length (fun i hi=>(hU i hi).2.2.2.1);obtain ⟨hit,hhit⟩:∃h:Nat→Bool,∀i,h i=(decide ((P i).1=st) && (decide (E i=0) && (U i).eta.same a.eta)):=⟨_,fun _=>rfl⟩;obtain ⟨L,hL⟩:∃L,L=(List.range g.length).filter hit:=⟨_,rfl⟩;obtain ⟨tt,htt⟩:∃tt:Tm,tt=if L=[] then .z else .mk 1 ((L.getD (x % (L.length:Int)).toNat 0:Nat):Int) []:=⟨_,rfl⟩;have hLlt:∀i∈L,i<g.length:=fun i hi=>by
  rw [hL] at hi;exact List.mem_range.1 (List.mem_filter.1 hi).1
 refine ⟨tt,!decide (L=[]),⟨N+200000000000+1,?_⟩,?_,?_⟩
 ·intro n hn;obtain ⟨n,rfl⟩:∃k,n=k+1:=⟨n - 1,by omega⟩;have hka:=ZC n a g.length ha.sc (by have:=ha.wt;omega) (by have:=ha.wt;omega);rw [c97];generalize hae:a.eta=ae at hka hhit;obtain ⟨oa,ma,ka⟩:=a;obtain ⟨oe,me,ke⟩:=ae;simp only [Ai] at hka ⊢;simp only [QM,Qv,OG,PQ,Pg,Pi,Qe,Qw,Qo,Py,Qg,Pq,PC,O6,S97,↓XX,XY,↓reduceIte,Nat.reduceBEq,Nat.reduceAdd,Int.reduceEq,Int.reduceLT,Int.reduceLE,A9,↓AL,XD,heldB,AQ,XE];refine Bp (Q:=fun r=>Bv r _) (fun k V H=>∃i:Nat,i+k=g.length∧∃l:List Nat,l=(List.range i).filter hit∧V=[.fv (.sl (g.map v1)),iv st,iv x,.ptr (.own 101711872) 0,.ptr (.own 101711873) 0,lV l,iv i]∧H=Nl oa ma ka l)
   ?_ n g.length _ _ (by omega) ⟨0,by omega,[],rfl,rfl,rfl⟩
  rintro k V H rec ⟨i,hik,l,hl,rfl,rfl⟩ hrec;cases k with
  | zero =>
   have hig:i=g.length:=by omega
   rw [hig] at hl;rw [← hL] at hl;subst hl;have hno:¬ ((i:Int)<g.length):=by omega
   cases l with
   | nil =>
    rw [htt,if_pos rfl];simp only [lV,Tm.z,Ai];simp only [↓Ny,↓XX,XY,↓reduceIte,Nat.reduceBEq,Nat.reduceAdd,Int.reduceEq,Int.reduceLT,Int.reduceLE,hno]
    first | exact Al _ _ | exact Ay rfl (by simp) _
   | cons i0 l0 =>
    rw [htt,if_neg (by simp)];generalize hl1:i0::l0=l at *;have hlp:0<l.length:=by rw [← hl1];simp
    have hll:l.length≤100:=by
     have h1:=List.length_filter_le hit (List.range g.length);rw [← hL,List.length_range] at h1;omega
    have hw:=Aq (n:=n) (by omega) x (m:=(l.length:Int)) (by omega) (by omega);have h1:=Int.emod_nonneg x (show (l.length:Int)≠0 by omega)
    have h2:=Int.emod_lt_of_pos x (show (0:Int)<l.length by omega)
    obtain ⟨j,hj⟩:∃j:Nat,x % (l.length:Int)=j:=⟨(x % (l.length:Int)).toNat,by omega⟩;rw [hj] at hw h2 ⊢;have hjl:j<l.length:=by omega
    have hget:(iE l)[j]?=some (.int .i64 ((l.getD j 0:Nat):Int)):=by
     rw [iE,List.getElem?_map,List.getD_eq_getElem?_getD,List.getElem?_eq_getElem hjl];rfl
    rw [Int.toNat_natCast];have hix:=fun {β:Type}=>Bs (β:=β) (size:=1) hget rfl;have hv:=AjX (n:=n) (by omega) ((l.getD j 0:Nat):Int);generalize ((l.getD j 0:Nat):Int)=q at hix hv ⊢;have hln:¬ ((l.length:Int)=0):=by omega
    have hiel:(iE l).length=l.length:=by rw [iE,List.length_map]
    have hap:∀(β:Type) (x:IV) (k:IV→Option β),Bh 1 (.app (.own 101720067) (iE l)) x k=Bh 1 (.fv (.sl (iE l))) x k:=fun _ _ _=>rfl;have hlV:lV l=.app (.own 101720067) (iE l):=by rw [← hl1];rfl
    have hlH:lH l=[(101720067,.tok l.length 1)]:=by rw [← hl1];rfl
    have hne:decide (l=[])=false:=by rw [← hl1];simp
    rw [hlV,Nl,hlH,hne];simp only [List.cons_append,List.nil_append];simp only [Ai,Aq6] at hv ⊢;simp only [↓Ny,↓XX,XY,↓reduceIte,Nat.reduceBEq,Nat.reduceAdd,Int.reduceEq,Int.reduceLT,Int.reduceLE,hno,hiel,hln,↓Ad hw,↓hap,↓hix,FV.cells,↓Av hv]
    first | exact Al _ _ | exact Ay rfl (by simp) _
  | succ k =>
   have hig:i<g.length:=by omega
   have hlt:(i:Int)<g.length:=by omega
   obtain ⟨hp,hwk,hwt,_,hN',_⟩:=hU i hig;have hget:(g.map v1)[g.length - 1 - i]?=some (v1 (P i)):=by rw [List.getElem?_map,hp];rfl
   have hix:=fun {β:Type}=>Bs (β:=β) (size:=4) hget rfl;have w1:B6 ((g.length:Int) - 1)=(g.length:Int) - 1:=by rw [Ax]<;>omega
   have w2:B6 ((g.length:Int) - 1 - i)=((g.length - 1 - i:Nat):Int):=by rw [Ax (by omega) (by omega)];omega
   have wi:B6 ((i:Int)+1)=(i:Int)+1:=by rw [Ax]<;>omega
   have hsh:=CP n (P i).2 ((i:Int)+1) 0 (by omega) hwk (by omega) (by omega);have hNi:=hN i hig n (by omega);have h9:=fun (l':List Nat) (e:l'=l++if hit i then [i] else [])=>hrec k [.fv (.sl (g.map v1)),iv st,iv x,.ptr (.own 101711872) 0,.ptr (.own 101711873) 0,lV l',iv (i+1:Nat)] (Nl oa ma ka l') (by omega)
    ⟨i+1,by omega,l',by rw [AbW,← hl,e],rfl,rfl⟩
   have hi1:((i+1:Nat):Int)=(i:Int)+1:=by omega
   rw [hi1] at h9;have hhi:=hhit i;generalize (P i).2.shift ((i:Int)+1) 0=ts at hsh hNi;generalize P i=p at hp hget hix hsh hhi;obtain ⟨sp,tp⟩:=p;by_cases c1:sp=st
   ·by_cases c2:E i=0
    ·have hUi:NOk g.length (U i):=by
      rcases hN' with ⟨_,h⟩ | ⟨h,_⟩
      ·exact h
      ·omega
     have hke:=ZC n (U i) g.length hUi.sc (by have:=hUi.wt;omega) (by have:=hUi.wt;omega);have hew:=(Ac0 (U i) g.length hUi.sc (by have:=hUi.wt;omega)).2;have hsm:=KU n (U i).eta (.mk oe me ke) (by have:=hUi.wt;omega) (by have:=hUi.wt;omega);rw [c2] at hNi;simp only [c1,c2,decide_true,Bool.true_and] at hhi;rw [← hhi] at hsm;generalize (U i).eta=ue at hke hsm;generalize U i=ui at hNi hke;obtain ⟨o1,n1,k1⟩:=tp;obtain ⟨o2,n2,k2⟩:=ts;obtain ⟨o3,n3,k3⟩:=ui;obtain ⟨o4,n4,k4⟩:=ue;subst c1;simp only [Ai,v1,Tm.op,Tm.n,Tm.kids] at hsh hNi hke hsm hix;cases hb:hit i
     ·rw [hb] at hsm h9;have h9:=h9 l (by simp);cases l with
      | nil =>
       simp only [lV,lH,Nl,List.append_nil] at h9 ⊢;simp only [↓Ny,↓XX,XY,↓reduceIte,Nat.reduceBEq,Nat.reduceAdd,Int.reduceEq,Int.reduceLT,Int.reduceLE,hlt,w1,w2,wi,↓hix,FV.cells,↓AO hsh,↓Av hNi,↓Av hke,↓Av hka,↓Ad hsm,↓AL,XD,heldB,AQ,XE];exact h9
      | cons i0 l0 =>
       simp only [lV,lH,Nl,List.cons_append,List.nil_append] at h9 ⊢;simp only [↓Ny,↓XX,XY,↓reduceIte,Nat.reduceBEq,Nat.reduceAdd,Int.reduceEq,Int.reduceLT,Int.reduceLE,hlt,w1,w2,wi,↓hix,FV.cells,↓AO hsh,↓Av hNi,↓Av hke,↓Av hka,↓Ad hsm,↓AL,XD,heldB,AQ,XE];exact h9
     ·rw [hb] at hsm h9;have h9:=h9 (l++[i]) (by simp);cases l with
      | nil =>
       have happ:=fun {β:Type}=>H7 (β:=β) Amk (.clip [.int .i64 (i:Int)]) (U8 [i]) rfl (by simp) (s0:=.nils) (.inl rfl);simp only [lV,lH,Nl,List.cons_append,List.nil_append] at h9 ⊢;simp only [↓Ny,↓XX,XY,↓reduceIte,Nat.reduceBEq,Nat.reduceAdd,Int.reduceEq,Int.reduceLT,Int.reduceLE,hlt,w1,w2,wi,↓hix,FV.cells,↓AO hsh,↓Av hNi,↓Av hke,↓Av hka,↓Ad hsm,↓Ait,↓happ,↓AL,XD,heldB,AQ,XE];exact h9
      | cons i0 l0 =>
       have hll:(i0::l0).length≤100:=by
        have h1:=List.length_filter_le hit (List.range i);rw [← hl,List.length_range] at h1;omega
       have happ:=fun {β:Type}=>Om (β:=β) Amk (es:=iE (i0::l0)) (es2:=[.int .i64 (i:Int)]) (.clip _) (U8 [i]) (U8 _) (AmY [i]) (by rw [iE,List.length_map];simp only [Aq5,List.length_nil] at hll ⊢;omega);have hil:(iE (i0::l0)).length=(i0::l0).length:=by rw [iE,List.length_map]
       have hia:iE (i0::l0)++[.int .i64 (i:Int)]=iE (i0::(l0++[i])):=by simp [iE]
       have hil2:(i0::(l0++[i])).length=(i0::l0).length+1:=by simp
       simp only [hil,hia,Aq5,List.length_nil,Nat.zero_add] at happ;simp only [lV,lH,Nl,List.cons_append,List.nil_append,hil2] at h9 ⊢;simp only [Aq5] at h9 ⊢;simp only [↓Ny,↓XX,XY,↓reduceIte,Nat.reduceBEq,Nat.reduceAdd,Int.reduceEq,Int.reduceLT,Int.reduceLE,hlt,w1,w2,wi,↓hix,FV.cells,↓AO hsh,↓Av hNi,↓Av hke,↓Av hka,↓Ad hsm,↓Ait,↓happ,GD,↓AL,XD,heldB,AQ,XE];exact h9
    ·simp only [c2,decide_false,Bool.false_and,Bool.and_false] at hhi;rw [hhi] at h9;have h9:=h9 l (by simp);generalize E i=ei at hNi c2;generalize U i=ui at hNi;obtain ⟨o1,n1,k1⟩:=tp;obtain ⟨o2,n2,k2⟩:=ts;obtain ⟨o3,n3,k3⟩:=ui;subst c1;simp only [Ai,v1,Tm.op,Tm.n,Tm.kids] at hsh hNi hix;cases l with
     | nil =>
      simp only [lV,lH,Nl,List.append_nil] at h9 ⊢;simp only [↓Ny,↓XX,XY,↓reduceIte,Nat.reduceBEq,Nat.reduceAdd,Int.reduceEq,Int.reduceLT,Int.reduceLE,hlt,w1,w2,wi,↓hix,FV.cells,↓AO hsh,↓Av hNi,c2,↓AL,XD,heldB,AQ,XE];exact h9
     | cons i0 l0 =>
      simp only [lV,lH,Nl,List.cons_append,List.nil_append] at h9 ⊢;simp only [↓Ny,↓XX,XY,↓reduceIte,Nat.reduceBEq,Nat.reduceAdd,Int.reduceEq,Int.reduceLT,Int.reduceLE,hlt,w1,w2,wi,↓hix,FV.cells,↓AO hsh,↓Av hNi,c2,↓AL,XD,heldB,AQ,XE];exact h9
   ·simp only [c1,decide_false,Bool.false_and] at hhi;rw [hhi] at h9;have h9:=h9 l (by simp);obtain ⟨o1,n1,k1⟩:=tp;simp only [v1,Tm.op,Tm.n,Tm.kids] at hix;cases l with
    | nil =>
     simp only [lV,lH,Nl,List.append_nil] at h9 ⊢;simp only [↓Ny,↓XX,XY,↓reduceIte,Nat.reduceBEq,Nat.reduceAdd,Int.reduceEq,Int.reduceLT,Int.reduceLE,hlt,w1,w2,wi,↓hix,FV.cells,c1,↓AL,XD,heldB,AQ,XE];exact h9
    | cons i0 l0 =>
     simp only [lV,lH,Nl,List.cons_append,List.nil_append] at h9 ⊢;simp only [↓Ny,↓XX,XY,↓reduceIte,Nat.reduceBEq,Nat.reduceAdd,Int.reduceEq,Int.reduceLT,Int.reduceLE,hlt,w1,w2,wi,↓hix,FV.cells,c1,↓AL,XD,heldB,AQ,XE];exact h9
 ·rw [htt];split
  ·exact ⟨Akq _,by have:=Kl 0;simp [Tm.z,Tm.wt,Tm.wtL];omega,by simp [Tm.z,Tm.dp,Tm.dpL,Dg]⟩
  ·rename_i hne;have h1:=Int.emod_nonneg x (show (L.length:Int)≠0 by
    intro h;exact hne (List.eq_nil_of_length_eq_zero (by omega)))
   have h2:=Int.emod_lt_of_pos x (show (0:Int)<L.length by
    have:L.length≠0:=fun h=>hne (List.eq_nil_of_length_eq_zero h)
    omega)
   have hj:(x % (L.length:Int)).toNat<L.length:=by omega
   have:=hLlt (L.getD (x % (L.length:Int)).toNat 0) (by rw [List.getD_eq_getElem?_getD,List.getElem?_eq_getElem hj];exact List.getElem_mem hj)
   exact ⟨AiH (by omega) (by omega),by have:=Kl 0;simp [Tm.wt,Tm.wtL];omega,by simp [Tm.dp,Tm.dpL,Dg]⟩
 ·intro hb;have hne:L≠[]:=by simpa using hb
  rw [htt,if_neg hne];have h1:=Int.emod_nonneg x (show (L.length:Int)≠0 by
   intro h;exact hne (List.eq_nil_of_length_eq_zero (by omega)))
  have h2:=Int.emod_lt_of_pos x (show (0:Int)<L.length by
   have:L.length≠0:=fun h=>hne (List.eq_nil_of_length_eq_zero h)
   omega)
  have hj:(x % (L.length:Int)).toNat<L.length:=by omega
  have hm:L.getD (x % (L.length:Int)).toNat 0∈L:=by rw [List.getD_eq_getElem?_getD,List.getElem?_eq_getElem hj];exact List.getElem_mem hj
  generalize L.getD (x % (L.length:Int)).toNat 0=i at hm;refine ⟨i,rfl,hLlt i hm,?_⟩;have hig:=hLlt i hm;rw [hL] at hm;have hh:=(List.mem_filter.1 hm).2;rw [hhit,Bool.and_eq_true,Bool.and_eq_true,decide_eq_true_eq,decide_eq_true_eq] at hh;obtain ⟨hp,_,_,_,_,f,hf⟩:=hU i hig;rw [hh.2.1] at hf;refine ⟨(P i).2,f,U i,by rw [hp,← hh.1],?_,(Ld _ _).1 hh.2.2⟩;rw [show ((i+1:Nat):Int)=(i:Int)+1 by omega]
  exact hf
def Dt (F:FuncId) (κ e:Nat):Prop:=∀(g:B7) (a r:Tm),GOk e g→AOk g.length a→∃t b,Ev F [.fv (A9 g),.fv a.enc,.fv r.enc,iv ((e:Int) - 5)] (.tuple [Tm.enc t,.bool b])∧TG κ e g a t b
def Ov (F:FuncId) (κ e:Nat):Prop:=∀(g:B7) (a r:Tm),GOk e g→NOk g.length a→∃t b,Ev F [.fv (A9 g),.fv a.enc,.fv r.enc,iv ((e:Int) - 5)] (.tuple [Tm.enc t,.bool b])∧TG κ e g a t b
structure TyOk (g:B7) (e:Nat) (t:Tm):Prop where
 sc:t.sc g.length
 wt:t.wt≤Wg (e - 1)+10
 dp:t.dp≤Dg (e - 1)+3
 gr:Gr 0 e g .z t
def J6 (e:Nat):Prop:=∀(g:B7) (r:Tm),GOk e g→∃t,Ev 69 [.fv (A9 g),.fv r.enc,iv ((e:Int) - 5)] (Tm.enc t)∧TyOk g e t
theorem Nr {k:Nat} {a:Tm} (h:NOk k a) (hk:k≤1000) (d:Nat) (hd:d≤10):NOk (k+d) (a.shift d 0):=⟨BM a d 0 k h.sc (by have:=h.wt;omega),by rw [Bt];exact h.wt,by rw [EJ];exact h.dp⟩
set_option maxRecDepth 20000 in
set_option maxHeartbeats 4000000 in
theorem Adn {e:Nat} (h6:6≤e) (he:e≤10) (hT:J6 6) (hG:Dt 70 1 (e - 2)):Ov 100 3 e:=by
 intro g a r hg ha;have hlen:=hg.len;have hW2:Wg e=16 * Wg (e - 2):=by
  obtain ⟨f,rfl⟩:∃f,e=f+2:=⟨e - 2,by omega⟩;rw [show f+2=(f+1)+1 by omega,Kn,Kn,show f+1+1 - 2=f by omega];omega
 have hW20:=Kl (e - 2);have hW5:4 * Wg 5≤Wg e:=by rw [← Kn];exact OD (by omega)
 have hW10:=Ly he;have hDe:Dg e=Dg (e - 2)+20:=by unfold Dg;omega
 have hD5:Dg 5+10≤Dg e:=by unfold Dg;omega
 have hD2:200≤Dg (e - 2):=by unfold Dg;omega
 have hDm:Dg e≤300:=by unfold Dg;omega
 obtain ⟨b,⟨N1,h1⟩,tb⟩:=hT g (r.pick 0) (AP (by omega) hg);have bw:=tb.wt;have bd:=tb.dp;simp only [show 6 - 1=5 from rfl] at bw bd
 have hba:AOk g.length b:=⟨tb.sc,by omega,by omega⟩;have hbm:GOk (e - 2) (g++[(1,b)]):=CQ (AP (by omega) hg) tb.sc (by omega) (by omega);obtain ⟨x,p,⟨N2,h2⟩,tx⟩:=hG g b (r.pick 1) (AP (by omega) hg) hba;obtain ⟨c,q,⟨N3,h3⟩,tc⟩:=hG g a (r.pick 2) (AP (by omega) hg) (Bo ha);have hsa:=Nr ha (by omega) 1 (by omega);obtain ⟨c2,q2,⟨N4,h4⟩,tc2⟩:=hG (g++[(1,b)]) (a.shift 1 0) (r.pick 2) hbm (by simpa using Bo hsa);have we:B6 ((e:Int) - 5 - 2)=((e - 2:Nat):Int) - 5:=by rw [Ax (by omega) (by omega)];omega
 have hd2:(((e - 2:Nat):Int) - 5)=((e - 2:Nat):Int) - 5:=rfl;have aw:=ha.wt;have ad:=ha.dp;have xw:=tx.wt;have cw:=tc.wt;have c2w:=tc2.wt;have xd:=tx.dp;have cd:=tc.dp;have c2d:=tc2.dp;have c2s:c2.sc (g.length+1):=by simpa using tc2.sc
 by_cases h0:r.n % 3=0
 ·refine ⟨.mk 8 0 [.mk 7 0 [.mk 6 0 [a,b.shift 1 0],c,x]],p && q,⟨N1+N2+N3+200000000000+1,?_⟩,?_,?_,?_,fun hb=>.fst e g a b c x h6 hba tb.gr (tx.gr (JX hb)) (tc.gr (Ie hb))⟩
  ·intro n hn;obtain ⟨n,rfl⟩:∃k,n=k+1:=⟨n - 1,by omega⟩;have h1:=h1 n (by omega);have h2:=h2 n (by omega);have h3:=h3 n (by omega);rw [← we] at h2 h3;have p0:=AJ (n:=n) (by omega) r 0;have p1:=AJ (n:=n) (by omega) r 1;have p2:=AJ (n:=n) (by omega) r 2;have hw:=Aq (n:=n) (by omega) r.n (m:=3) (by omega) (by omega);have hsh:=CP n b 1 0 (by omega) (Fv _ _ tb.sc) (by omega) (by omega);have t6:=C5 (n:=n) (by omega) 6 [a,b.shift 1 0];have t7:=C5 (n:=n) (by omega) 7 [.mk 6 0 [a,b.shift 1 0],c,x];have t8:=C5 (n:=n) (by omega) 8 [.mk 7 0 [.mk 6 0 [a,b.shift 1 0],c,x]];rw [h0] at hw;rw [Al6];clear h4 tb tx tc tc2 ha hg hG hT hba hbm hsa aw ad xw cw c2w bw xd cd c2d bd c2s;generalize b.shift 1 0=bs at hsh t6 t7 t8 ⊢;generalize r.pick 0=r0 at p0 h1;generalize r.pick 1=r1 at p1 h2;generalize r.pick 2=r2 at p2 h3;obtain ⟨o1,m1,k1⟩:=a;obtain ⟨o2,m2,k2⟩:=b;obtain ⟨o3,m3,k3⟩:=r;obtain ⟨o4,m4,k4⟩:=bs;obtain ⟨o5,m5,k5⟩:=x;obtain ⟨o6,m6,k6⟩:=c;obtain ⟨o7,m7,k7⟩:=r0;obtain ⟨o8,m8,k8⟩:=r1;obtain ⟨o9,m9,k9⟩:=r2;simp only [Tm.n,A9,Aq7,Aq6,Ai,Int.reduceSub,Int.cast_ofNat_Int] at h1 h2 h3 p0 p1 p2 hw hsh t6 t7 t8 ⊢;cases p
   ·simp (maxSteps:=1000000) only [↓AhU,↓XX,XY,↓reduceIte,Nat.reduceBEq,Nat.reduceAdd,Int.reduceEq,Int.reduceLT,Int.reduceLE,↓Ad p0,↓Ad p1,↓Ad p2,↓AO h1,↓AD h2,↓Ad hw,↓AD h3,↓AO hsh,↓C1,↓Ad t6,↓Jv,↓Ad t7,↓Dr,↓Ad t8]
    first | exact Al _ _ | exact Ay rfl (by simp) _
   ·simp (maxSteps:=1000000) only [↓AhU,↓XX,XY,↓reduceIte,Nat.reduceBEq,Nat.reduceAdd,Int.reduceEq,Int.reduceLT,Int.reduceLE,↓Ad p0,↓Ad p1,↓Ad p2,↓AO h1,↓AD h2,↓Ad hw,↓AD h3,↓AO hsh,↓C1,↓Ad t6,↓Jv,↓Ad t7,↓Dr,↓Ad t8]
    first | exact Al _ _ | exact Ay rfl (by simp) _
  ·exact EN (by decide) (by decide) (BA (by decide) (by decide) (by decide)) (UR (by decide) (by decide) (BA (by decide) (by decide) (by decide))
    (Cl (by decide) (by decide) (BA (by decide) (by decide) (by decide)) ha.sc (BM b 1 0 _ tb.sc (by simp only [show Af 8 0=0 from rfl,show Af 7 0=0 from rfl];omega))) tc.sc tx.sc)
  ·rw [wt1,wt3,Mg,Bt];omega
  ·rw [dp1,dp3,NS,EJ];omega
 ·refine ⟨.mk 5 0 [.mk 4 0 [b,c2],x],p && q2,⟨N1+N2+N4+200000000000+1,?_⟩,?_,?_,?_,fun hb=>.app e g a b c2 x h6 hba tb.gr (tx.gr (JX hb)) (tc2.gr (Ie hb))⟩
  ·intro n hn;obtain ⟨n,rfl⟩:∃k,n=k+1:=⟨n - 1,by omega⟩;have h1:=h1 n (by omega);have h2:=h2 n (by omega);have h4:=h4 n (by omega);rw [← we] at h2 h4;have p0:=AJ (n:=n) (by omega) r 0;have p1:=AJ (n:=n) (by omega) r 1;have p2:=AJ (n:=n) (by omega) r 2;have hw:=Aq (n:=n) (by omega) r.n (m:=3) (by omega) (by omega);have hsh:=CP n a 1 0 (by omega) (Fv _ _ ha.sc) (by omega) (by omega);have hm:=C6 (n:=n) g 1 b (by omega) (by omega);have t4:=C5 (n:=n) (by omega) 4 [b,c2];have t5:=C5 (n:=n) (by omega) 5 [.mk 4 0 [b,c2],x];rw [Al6];clear h3 tb tx tc tc2 ha hg hG hT hba hbm hsa aw ad xw cw c2w bw xd cd c2d bd c2s;generalize a.shift 1 0=sa at hsh h4;generalize r.pick 0=r0 at p0 h1;generalize r.pick 1=r1 at p1 h2;generalize r.pick 2=r2 at p2 h4;generalize r.n % 3=w3 at hw h0;obtain ⟨o1,m1,k1⟩:=a;obtain ⟨o2,m2,k2⟩:=b;obtain ⟨o3,m3,k3⟩:=r;obtain ⟨o4,m4,k4⟩:=sa;obtain ⟨o5,m5,k5⟩:=x;obtain ⟨o6,m6,k6⟩:=c2;obtain ⟨o7,m7,k7⟩:=r0;obtain ⟨o8,m8,k8⟩:=r1;obtain ⟨o9,m9,k9⟩:=r2;simp only [Tm.n,A9,Aq7,Aq6,Ai,Int.reduceSub,Int.cast_ofNat_Int] at h1 h2 h4 p0 p1 p2 hw hsh hm t4 t5 ⊢;cases p
   ·simp (maxSteps:=1000000) only [↓AhU,↓XX,XY,↓reduceIte,Nat.reduceBEq,Nat.reduceAdd,Int.reduceEq,Int.reduceLT,Int.reduceLE,↓Ad p0,↓Ad p1,↓Ad p2,↓AO h1,↓AD h2,↓Ad hw,h0,↓AD h4,↓AO hsh,↓AO hm,↓C1,↓Ad t4,↓Ad t5]
    first | exact Al _ _ | exact Ay rfl (by simp) _
   ·simp (maxSteps:=1000000) only [↓AhU,↓XX,XY,↓reduceIte,Nat.reduceBEq,Nat.reduceAdd,Int.reduceEq,Int.reduceLT,Int.reduceLE,↓Ad p0,↓Ad p1,↓Ad p2,↓AO h1,↓AD h2,↓Ad hw,h0,↓AD h4,↓AO hsh,↓AO hm,↓C1,↓Ad t4,↓Ad t5]
    first | exact Al _ _ | exact Ay rfl (by simp) _
  ·exact Cl (by decide) (by decide) (BA (by decide) (by decide) (by decide)) (Cl (by decide) (by decide) (BA (by decide) (by decide) (by decide)) tb.sc c2s) tx.sc
  ·rw [Mg,Mg];omega
  ·rw [NS,NS];omega
set_option maxRecDepth 20000 in
set_option maxHeartbeats 4000000 in
theorem AgY {e:Nat} (he:e≤10) (hT:6≤e→J6 (e - 1)) (hG:6≤e→Dt 70 1 (e - 1)):J6 e:=by
 intro g r hg;have hlen:=hg.len;have hk1:=Int.emod_nonneg r.op (show (9:Int)≠0 by decide)
 have hk2:=Int.emod_lt_of_pos r.op (show (0:Int)<9 by decide)
 have hW0:=Kl (e - 1);have hD0:200≤Dg (e - 1):=by unfold Dg;omega
 have hleaf:∀op n:Int,ar op=some 0→op≠1→Bz op n→Gr 0 e g .z (.mk op n [])→TyOk g e (.mk op n []):=fun op n h1 h2 h3 h4=>⟨Cm h1 h2 h3,by simp only [Tm.wt,Tm.wtL];omega,by simp only [Tm.dp,Tm.dpL];omega,h4⟩;have hpl:=CZ 1 r;have hpd:=UC (r.plainT 1);have c0:(r.op % 9=0∨r.op % 9=1∨e≤5∧(r.op % 9=5∨r.op % 9=6))→∃t,Ev 69 [.fv (A9 g),.fv r.enc,iv ((e:Int) - 5)] (Tm.enc t)∧TyOk g e t:=by
  intro hc;refine ⟨.mk 10 0 [],⟨100,fun n hn=>?_⟩,hleaf 10 0 (by decide) (by decide) (BA (by decide) (by decide) (by decide)) (.tnat e g _)⟩;obtain ⟨n,rfl⟩:∃k,n=k+1:=⟨n - 1,by omega⟩;have hw:=Aq (n:=n) (by omega) r.op (m:=9) (by omega) (by omega);have hn4:=Ks (n:=n) (by omega);rw [c69];obtain ⟨o,p,k⟩:=r;simp only [Tm.op] at hw hc;simp only [Ai,Aq6] at hn4 ⊢;rcases hc with hc | hc | ⟨he5,hc | hc⟩
  ·rw [hc] at hw;by_cases hd:(e:Int) - 5≤0<;>(simp (maxSteps:=1000000) only [↓I9,↓XX,XY,↓reduceIte,Nat.reduceBEq,Nat.reduceAdd,Int.reduceEq,Int.reduceLT,Int.reduceLE,↓Ad hw,hd,↓Fd hn4];first | exact Al _ _ | exact A7 rfl _)
  ·rw [hc] at hw;by_cases hd:(e:Int) - 5≤0<;>(simp (maxSteps:=1000000) only [↓I9,↓XX,XY,↓reduceIte,Nat.reduceBEq,Nat.reduceAdd,Int.reduceEq,Int.reduceLT,Int.reduceLE,↓Ad hw,hd,↓Fd hn4];first | exact Al _ _ | exact A7 rfl _)
  ·rw [hc] at hw;have hd:(e:Int) - 5≤0:=by omega
   simp (maxSteps:=1000000) only [↓I9,↓XX,XY,↓reduceIte,Nat.reduceBEq,Nat.reduceAdd,Int.reduceEq,Int.reduceLT,Int.reduceLE,↓Ad hw,hd,↓NN (show (5:Int)≠0 by decide),show (5:Int).tmod 5=0 from rfl,↓Fd hn4];first | exact Al _ _ | exact A7 rfl _
  ·rw [hc] at hw;have hd:(e:Int) - 5≤0:=by omega
   simp (maxSteps:=1000000) only [↓I9,↓XX,XY,↓reduceIte,Nat.reduceBEq,Nat.reduceAdd,Int.reduceEq,Int.reduceLT,Int.reduceLE,↓Ad hw,hd,↓NN (show (5:Int)≠0 by decide),show (6:Int).tmod 5=1 from rfl,↓Fd hn4];first | exact Al _ _ | exact A7 rfl _
 have c2:(r.op % 9=2∨e≤5∧r.op % 9=7)→∃t,Ev 69 [.fv (A9 g),.fv r.enc,iv ((e:Int) - 5)] (Tm.enc t)∧TyOk g e t:=by
  intro hc;refine ⟨.mk 14 0 [],⟨100,fun n hn=>?_⟩,hleaf 14 0 (by decide) (by decide) (BA (by decide) (by decide) (by decide)) (.tty e g _)⟩;obtain ⟨n,rfl⟩:∃k,n=k+1:=⟨n - 1,by omega⟩;have hw:=Aq (n:=n) (by omega) r.op (m:=9) (by omega) (by omega);have hn4:=Du (n:=n) (by omega) 14;rw [c69];obtain ⟨o,p,k⟩:=r;simp only [Tm.op] at hw hc;simp only [Ai,Aq6] at hn4 ⊢;rcases hc with hc | ⟨he5,hc⟩
  ·rw [hc] at hw;by_cases hd:(e:Int) - 5≤0<;>(simp (maxSteps:=1000000) only [↓I9,↓XX,XY,↓reduceIte,Nat.reduceBEq,Nat.reduceAdd,Int.reduceEq,Int.reduceLT,Int.reduceLE,↓Ad hw,hd,↓Ad hn4];first | exact Al _ _ | exact A7 rfl _)
  ·rw [hc] at hw;have hd:(e:Int) - 5≤0:=by omega
   simp (maxSteps:=1000000) only [↓I9,↓XX,XY,↓reduceIte,Nat.reduceBEq,Nat.reduceAdd,Int.reduceEq,Int.reduceLT,Int.reduceLE,↓Ad hw,hd,↓NN (show (5:Int)≠0 by decide),show (7:Int).tmod 5=2 from rfl,↓Ad hn4];first | exact Al _ _ | exact A7 rfl _
 have c3:(r.op % 9=3∨e≤5∧r.op % 9=8)→∃t,Ev 69 [.fv (A9 g),.fv r.enc,iv ((e:Int) - 5)] (Tm.enc t)∧TyOk g e t:=by
  intro hc;refine ⟨.mk 18 0 [r.plainT 1],⟨100,fun n hn=>?_⟩,EN (by decide) (by decide) (BA (by decide) (by decide) (by decide)) (EB _ 1 r),by rw [wt1];omega,by rw [dp1];omega,.tlp e g _ r⟩;obtain ⟨n,rfl⟩:∃k,n=k+1:=⟨n - 1,by omega⟩;have hw:=Aq (n:=n) (by omega) r.op (m:=9) (by omega) (by omega);have hp:=G9 1 n r (by omega) (by omega);have ht:=C5 (n:=n) (by omega) 18 [r.plainT 1];rw [c69];generalize r.plainT 1=q at hp ht ⊢;obtain ⟨o,p,k⟩:=r;obtain ⟨o2,p2,k2⟩:=q;simp only [Tm.op] at hw hc;simp only [Ai,Aq7,Aq6] at hp ht ⊢;rcases hc with hc | ⟨he5,hc⟩
  ·rw [hc] at hw;by_cases hd:(e:Int) - 5≤0<;>(simp (maxSteps:=1000000) only [↓I9,↓XX,XY,↓reduceIte,Nat.reduceBEq,Nat.reduceAdd,Int.reduceEq,Int.reduceLT,Int.reduceLE,↓Ad hw,hd,↓Ad hp,↓Dr,↓Ad ht];first | exact Al _ _ | exact A7 rfl _)
  ·rw [hc] at hw;have hd:(e:Int) - 5≤0:=by omega
   simp (maxSteps:=1000000) only [↓I9,↓XX,XY,↓reduceIte,Nat.reduceBEq,Nat.reduceAdd,Int.reduceEq,Int.reduceLT,Int.reduceLE,↓Ad hw,hd,↓NN (show (5:Int)≠0 by decide),show (8:Int).tmod 5=3 from rfl,↓Ad hp,↓Dr,↓Ad ht];first | exact Al _ _ | exact A7 rfl _
 by_cases h4:r.op % 9=4
 ·refine ⟨.mk 2 0 [],⟨100,fun n hn=>?_⟩,hleaf 2 0 (by decide) (by decide) (by rw [Bz,if_pos rfl];omega) (.tu e g _)⟩;obtain ⟨n,rfl⟩:∃k,n=k+1:=⟨n - 1,by omega⟩;have hw:=Aq (n:=n) (by omega) r.op (m:=9) (by omega) (by omega);have hu:=AdR (n:=n) (by omega) 0;rw [c69];obtain ⟨o,p,k⟩:=r;simp only [Tm.op] at hw h4;simp only [Ai,Aq6] at hu ⊢;rw [h4] at hw;by_cases hd:(e:Int) - 5≤0<;>(simp (maxSteps:=1000000) only [↓I9,↓XX,XY,↓reduceIte,Nat.reduceBEq,Nat.reduceAdd,Int.reduceEq,Int.reduceLT,Int.reduceLE,↓Ad hw,hd,↓Av hu];first | exact Al _ _ | exact A7 rfl _)
 by_cases hs:r.op % 9≤3∨e≤5
 ·have h:=hk1;by_cases h0:r.op % 9=0∨r.op % 9=1∨e≤5∧(r.op % 9=5∨r.op % 9=6)
  ·exact c0 h0
  by_cases h2:r.op % 9=2∨e≤5∧r.op % 9=7
  ·exact c2 h2
  exact c3 (by omega)
 have he6:6≤e:=by omega
 have hd:¬ (e:Int) - 5≤0:=by omega
 have we:B6 ((e:Int) - 5 - 1)=((e - 1:Nat):Int) - 5:=by rw [Ax (by omega) (by omega)];omega
 have hW10:=Ly (e:=e - 1) (by omega);have hW1:Wg (e - 1)=4 * Wg (e - 2):=by
  obtain ⟨f,rfl⟩:∃f,e=f+2:=⟨e - 2,by omega⟩;rw [show f+2 - 1=f+1 by omega,Kn,show f+2 - 2=f by omega]
 have hW2:=Kl (e - 2);have hD1:Dg (e - 1)=Dg (e - 2)+10:=by unfold Dg;omega
 have hDm:Dg (e - 1)≤300:=by unfold Dg;omega
 by_cases h8:r.op % 9=8
 ·obtain ⟨t,b,⟨N1,h1⟩,tt⟩:=hG he6 g (.mk 14 0 []) (r.pick 0) (AP (by omega) hg) ⟨Cm (by decide) (by decide) (BA (by decide) (by decide) (by decide)),by simp [Tm.wt,Tm.wtL],by simp [Tm.dp,Tm.dpL]⟩;refine ⟨if b=true then .mk 18 0 [t] else .mk 10 0 [],⟨N1+100,fun n hn=>?_⟩,?_⟩
  ·obtain ⟨n,rfl⟩:∃k,n=k+1:=⟨n - 1,by omega⟩;have hw:=Aq (n:=n) (by omega) r.op (m:=9) (by omega) (by omega);have h1:=h1 n (by omega);rw [← we] at h1;have p0:=AJ (n:=n) (by omega) r 0;have t14:=Du (n:=n) (by omega) 14;have t18:=C5 (n:=n) (by omega) 18 [t];have hn4:=Ks (n:=n) (by omega);rw [c69];rw [h8] at hw;clear hG hT tt c0 c2 c3 hleaf;generalize r.pick 0=r0 at p0 h1;obtain ⟨o,p,k⟩:=r;obtain ⟨o2,p2,k2⟩:=t;obtain ⟨o3,p3,k3⟩:=r0;simp only [Tm.op] at hw;simp only [Ai,A9,Aq7,Aq6] at h1 p0 t14 t18 hn4 ⊢;cases b
   ·simp only [Bool.false_eq_true,if_false,Ai,Aq6];simp (maxSteps:=1000000) only [↓I9,↓XX,XY,↓reduceIte,Nat.reduceBEq,Nat.reduceAdd,Int.reduceEq,Int.reduceLT,Int.reduceLE,↓Ad hw,hd,↓Ad t14,↓Ad p0,↓AD h1,↓Fd hn4];first | exact Al _ _ | exact A7 rfl _
   ·simp only [if_true,Ai,Aq6,Aq7];simp (maxSteps:=1000000) only [↓I9,↓XX,XY,↓reduceIte,Nat.reduceBEq,Nat.reduceAdd,Int.reduceEq,Int.reduceLT,Int.reduceLE,↓Ad hw,hd,↓Ad t14,↓Ad p0,↓AD h1,↓Dr,↓Ad t18];first | exact Al _ _ | exact A7 rfl _
  ·split
   ·rename_i hb;exact ⟨EN (by decide) (by decide) (BA (by decide) (by decide) (by decide)) tt.sc,by have:=tt.wt;rw [wt1];omega,by have:=tt.dp;rw [dp1];omega,.tlift e g _ t he6 (tt.gr hb)⟩
   ·exact hleaf 10 0 (by decide) (by decide) (BA (by decide) (by decide) (by decide)) (.tnat e g _)
 ·obtain ⟨a,⟨N1,h1⟩,ta⟩:=hT he6 g (r.pick 0) (AP (by omega) hg);have aw:=ta.wt;have ad:=ta.dp;rw [show e - 1 - 1=e - 2 by omega] at aw ad
  obtain ⟨b,⟨N2,h2⟩,tb⟩:=hT he6 (g++[(1,a)]) (r.pick 1) (CQ (by rw [show e - 1+1=e by omega];exact hg) ta.sc (by omega) (by omega))
  have bw:=tb.wt;have bd:=tb.dp;rw [show e - 1 - 1=e - 2 by omega] at bw bd
  have bs:b.sc (g.length+1):=by simpa using tb.sc
  have hop:∀op:Int,op=3∨op=6→TyOk g e (.mk op 0 [a,b]):=by
   rintro op (rfl | rfl)
   ·exact ⟨Cl (by decide) (by decide) (BA (by decide) (by decide) (by decide)) ta.sc bs,by rw [Mg];omega,by rw [NS];omega,.tpi e g _ a b _ (by simp) he6 (by omega) ⟨ta.sc,by omega,by omega⟩ ta.gr tb.gr⟩
   ·exact ⟨Cl (by decide) (by decide) (BA (by decide) (by decide) (by decide)) ta.sc bs,by rw [Mg];omega,by rw [NS];omega,.tpi e g _ a b _ (by simp) he6 (by omega) ⟨ta.sc,by omega,by omega⟩ ta.gr tb.gr⟩
  obtain ⟨oo,hoo⟩:∃oo:Int,oo=3∧(r.op % 9=5∨r.op % 9=6)∨oo=6∧r.op % 9=7:=by
   by_cases h7:r.op % 9=7
   ·exact ⟨6,.inr ⟨rfl,h7⟩⟩
   ·exact ⟨3,.inl ⟨rfl,by omega⟩⟩
  refine ⟨.mk oo 0 [a,b],⟨N1+N2+100,fun n hn=>?_⟩,hop oo (by omega)⟩;obtain ⟨n,rfl⟩:∃k,n=k+1:=⟨n - 1,by omega⟩;have hw:=Aq (n:=n) (by omega) r.op (m:=9) (by omega) (by omega);have h1:=h1 n (by omega);have h2:=h2 n (by omega);rw [← we] at h1 h2;have p0:=AJ (n:=n) (by omega) r 0;have p1:=AJ (n:=n) (by omega) r 1;have t3:=C5 (n:=n) (by omega) 3 [a,b];have t6:=C5 (n:=n) (by omega) 6 [a,b];have hm:=C6 (n:=n) g 1 a (by omega) (by omega);rw [c69];clear hG hT c0 c2 c3 hleaf ta tb hop bs aw ad bw bd;generalize r.pick 0=r0 at p0 h1;generalize r.pick 1=r1 at p1 h2;obtain ⟨o,p,k⟩:=r;obtain ⟨o2,p2,k2⟩:=a;obtain ⟨o3,p3,k3⟩:=b;obtain ⟨o4,p4,k4⟩:=r0;obtain ⟨o5,p5,k5⟩:=r1;simp only [Tm.op] at hw hoo;simp only [Ai,A9,Aq7,Aq6] at h1 h2 p0 p1 t3 t6 hm ⊢;rcases hoo with ⟨rfl,hk | hk⟩ | ⟨rfl,hk⟩
  ·rw [hk] at hw;simp (maxSteps:=1000000) only [↓I9,↓XX,XY,↓reduceIte,Nat.reduceBEq,Nat.reduceAdd,Int.reduceEq,Int.reduceLT,Int.reduceLE,↓Ad hw,hd,↓Ad p0,↓Ad p1,↓AO h1,↓AO hm,↓AO h2,↓C1,↓Ad t3];first | exact Al _ _ | exact A7 rfl _
  ·rw [hk] at hw;simp (maxSteps:=1000000) only [↓I9,↓XX,XY,↓reduceIte,Nat.reduceBEq,Nat.reduceAdd,Int.reduceEq,Int.reduceLT,Int.reduceLE,↓Ad hw,hd,↓Ad p0,↓Ad p1,↓AO h1,↓AO hm,↓AO h2,↓C1,↓Ad t3];first | exact Al _ _ | exact A7 rfl _
  ·rw [hk] at hw;simp (maxSteps:=1000000) only [↓I9,↓XX,XY,↓reduceIte,Nat.reduceBEq,Nat.reduceAdd,Int.reduceEq,Int.reduceLT,Int.reduceLE,↓Ad hw,hd,↓Ad p0,↓Ad p1,↓AO h1,↓AO hm,↓AO h2,↓C1,↓Ad t6];first | exact Al _ _ | exact A7 rfl _
theorem AiB (a b:Int) (s:Nat) (h:Hp) (k:IV→Hp→List Ref→List Ref→Option (IV×Hp)):AE (Aj EE 51 2 [(0,iv a),(1,iv b)]) s h k=k (.clip [.int .i64 a,.int .i64 b]) h [] []:=Em AeQ Ajg (by decide) (cells:=[.int .i64 a,.int .i64 b]) rfl k
theorem Uu {β:Type} (z:Nat) (es:List FV) (x:IV) (k:IV→Option β):Bh z (.clip es) x k=Bh z (.fv (.sl es)) x k:=rfl
theorem AnV {β:Type} (a:Int) (r:List FV) (k:IV→Option β):Bh 1 (.fv (.sl (.int .i64 a::r))) (iv 0) k=k (.fv (.fp [.int .i64 a] 0)):=Bs (el:=.int .i64 a) (n:=0) rfl rfl k
theorem AoQ {β:Type} (a b:Int) (r:List FV) (k:IV→Option β):Bh 1 (.fv (.sl (.int .i64 a :: .int .i64 b::r))) (iv 1) k=k (.fv (.fp [.int .i64 b] 0)):=Bs (el:=.int .i64 b) (n:=1) rfl rfl k
def Afa (F:FuncId) (κ e:Nat):Prop:=∀(g:B7) (a r:Tm),GOk e g→NOk g.length a→(a.op=10∨a.op=14∨a.op=2)→∃t b,Ev F [.fv (A9 g),.fv a.enc,.fv r.enc,iv ((e:Int) - 5)] (.tuple [Tm.enc t,.bool b])∧TG κ e g a t b
theorem AgR {a:Tm} {k:Nat} (h:a.sc k) (ho:a.op=10∨a.op=14∨a.op=2):∃n,a=.mk a.op n []∧(a.op=2→0≤n∧n≤2)∧(a.op≠2→n=0):=by
 obtain ⟨o,n,l⟩:=a;simp only [Tm.op] at ho ⊢;rw [Tm.sc] at h;obtain ⟨h1,h2,_⟩:=h;have h3:ar o=some 0:=by rcases ho with rfl | rfl | rfl<;>decide
 rw [h3] at h1;have hl:l=[]:=List.eq_nil_of_length_eq_zero (Option.some.inj h1).symm;subst hl;rw [if_neg (by omega)] at h2;refine ⟨n,rfl,fun h=>?_,fun h=>?_⟩
 ·subst h;rw [Bz,if_pos rfl] at h2;exact h2
 ·rw [Bz,if_neg h,if_neg (by omega),if_neg (by omega)] at h2;exact h2
set_option maxRecDepth 20000 in
set_option maxHeartbeats 8000000 in
theorem Afe {e:Nat} (h1e:1≤e) (he:e≤10) (hG:Dt 70 1 (e - 1)) (hG2:6≤e→Dt 70 1 (e - 2)):Afa 101 3 e:=by
 intro g a r hg ha hop;have hlen:=hg.len;have hW1:Wg e=4 * Wg (e - 1):=by
  obtain ⟨f,rfl⟩:∃f,e=f+1:=⟨e - 1,by omega⟩;rw [Kn,Nat.add_sub_cancel]
 have hW0:=Kl (e - 1);have hW10:=Ly he;have hD1:Dg e=Dg (e - 1)+10:=by unfold Dg;omega
 have hD0:200≤Dg (e - 1):=by unfold Dg;omega
 have hDm:Dg e≤300:=by unfold Dg;omega
 obtain ⟨an,hae,hu1,hu2⟩:=AgR ha.sc hop;have we:B6 ((e:Int) - 5 - 1)=((e - 1:Nat):Int) - 5:=by rw [Ax (by omega) (by omega)];omega
 have hk1:=Int.emod_nonneg r.op (show (5:Int)≠0 by decide)
 have hk2:=Int.emod_lt_of_pos r.op (show (0:Int)<5 by decide)
 have aw:=ha.wt;have ad:=ha.dp;have leafT:∀op n:Int,ar op=some 0→op≠1→Bz op n→TOk g.length e (.mk op n []):=fun op n h1 h2 h3=>⟨Cm h1 h2 h3,by simp only [Tm.wt,Tm.wtL];omega,by simp only [Tm.dp,Tm.dpL];omega⟩;have tint:TOk g.length e (.mk 18 0 [.mk 15 0 []]):=⟨EN (by decide) (by decide) (BA (by decide) (by decide) (by decide)) (Cm (by decide) (by decide) (BA (by decide) (by decide) (by decide))),by simp only [Tm.wt,Tm.wtL];omega,by simp only [Tm.dp,Tm.dpL];omega⟩;by_cases hrec:6≤e∧r.op % 5=4∧a.op≠2
 ·obtain ⟨h6,h4,hn2⟩:=hrec;have hW2:Wg e=16 * Wg (e - 2):=by
   obtain ⟨f,rfl⟩:∃f,e=f+2:=⟨e - 2,by omega⟩;rw [show f+2=(f+1)+1 by omega,Kn,Kn,show f+1+1 - 2=f by omega];omega
  have hD2:Dg e=Dg (e - 2)+20:=by unfold Dg;omega
  have hW20:=Kl (e - 2);have we2:B6 ((e:Int) - 5 - 2)=((e - 2:Nat):Int) - 5:=by rw [Ax (by omega) (by omega)];omega
  have hnat:∀k,NOk k (.mk 10 0 []):=fun k=>⟨Cm (by decide) (by decide) (BA (by decide) (by decide) (by decide)),by simp only [Tm.wt,Tm.wtL];omega,by simp only [Tm.dp,Tm.dpL];omega⟩;have hs1:=Nr ha (by omega) 1 (by omega);have hs2:=Nr ha (by omega) 2 (by omega);obtain ⟨nn,p,⟨N1,h1⟩,tn⟩:=hG2 h6 g (.mk 10 0 []) (r.pick 0) (AP (by omega) hg) (Bo (hnat _));obtain ⟨z,q,⟨N2,h2⟩,tz⟩:=hG2 h6 g a (r.pick 1) (AP (by omega) hg) (Bo ha);have hg1:GOk (e - 1) (g++[(1,Tm.mk 10 0 [])]):=CQ (by rw [show e - 1+1=e by omega];exact hg) (hnat _).sc (by simp only [Tm.wt,Tm.wtL];omega) (by simp only [Tm.dp,Tm.dpL];omega)
  have hg2:GOk (e - 2) ((g++[(1,Tm.mk 10 0 [])])++[(1,a.shift 1 0)]):=CQ (by rw [show e - 2+1=e - 1 by omega];exact hg1) (by simpa using hs1.sc) (by rw [Bt];omega) (by rw [EJ];omega)
  obtain ⟨s,f,⟨N3,h3⟩,ts⟩:=hG2 h6 _ (a.shift 2 0) (r.pick 2) hg2 (by simpa using Bo hs2);have ss:s.sc (g.length+2):=by simpa using ts.sc
  refine ⟨.mk 13 0 [a.shift 1 0,z,s,nn],p && (q && f),⟨N1+N2+N3+100000,fun n hn=>?_⟩,?_,?_,?_,fun hb=>.recc e g a nn z s h6 (by omega) (tn.gr (JX hb)) (tz.gr (JX (Ie hb))) (ts.gr (Ie (Ie hb)))⟩
  ·obtain ⟨n,rfl⟩:∃k,n=k+1:=⟨n - 1,by omega⟩;have h1:=h1 n (by omega);have h2:=h2 n (by omega);have h3:=h3 n (by omega);rw [← we2] at h1 h2 h3;have hw:=Aq (n:=n) (by omega) r.op (m:=5) (by omega) (by omega);rw [h4] at hw;have p0:=AJ (n:=n) (by omega) r 0;have p1:=AJ (n:=n) (by omega) r 1;have p2:=AJ (n:=n) (by omega) r 2;have n4:=Ks (n:=n) (by omega);have m1:=C6 (n:=n) g 1 (.mk 10 0 []) (by omega) (by omega);have m2:=C6 (n:=n) (g++[(1,Tm.mk 10 0 [])]) 1 (a.shift 1 0) (by simp;omega) (by omega);have s1:=CP n a 1 0 (by omega) (Fv _ _ ha.sc) (by omega) (by omega);have s2:=CP n a 2 0 (by omega) (Fv _ _ ha.sc) (by omega) (by omega);have t13:=C5 (n:=n) (by omega) 13 [a.shift 1 0,z,s,nn];have hd0:(0:Int)<(e:Int) - 5:=by omega
   rw [Rj];clear hG hG2 tn tz ts hg hg1 hg2 ha hs1 hs2 hnat ss leafT tint hae hu1 hu2;generalize a.shift 1 0=a1 at s1 m2 t13 h3 ⊢;generalize a.shift 2 0=a2 at s2 h3;generalize r.pick 0=r0 at p0 h1;generalize r.pick 1=r1 at p1 h2;generalize r.pick 2=r2 at p2 h3;obtain ⟨o1,x1,k1⟩:=a;obtain ⟨o2,x2,k2⟩:=r;obtain ⟨o3,x3,k3⟩:=a1;obtain ⟨o4,x4,k4⟩:=a2;obtain ⟨o5,x5,k5⟩:=nn;obtain ⟨o6,x6,k6⟩:=z;obtain ⟨o7,x7,k7⟩:=s;obtain ⟨o8,x8,k8⟩:=r0;obtain ⟨o9,x9,k9⟩:=r1;obtain ⟨oa,xa,ka⟩:=r2;simp only [Tm.op] at hw hn2;simp only [A9,Aq7,Aq6,Ai] at h1 h2 h3 p0 p1 p2 n4 m1 m2 s1 s2 t13 ⊢;cases p<;>cases q<;>(simp (maxSteps:=1000000) only [↓IC,↓XX,XY,↓reduceIte,Nat.reduceBEq,Nat.reduceAdd,Int.reduceEq,Int.reduceLT,Int.reduceLE,hd0,↓Ad hw,hn2,↓Fd n4,↓Ad p0,↓Ad p1,↓Ad p2,↓AD h1,↓AD h2,↓AO m1,↓AO m2,↓AO s1,↓AO s2,↓AD h3,↓AmA,↓Ad t13];first | exact Al _ _ | exact Ay rfl (by simp) _)
  ·exact Ai0 (by decide) (by decide) (BA (by decide) (by decide) (by decide)) hs1.sc tz.sc ss tn.sc
  ·have:=tz.wt;have:=ts.wt;have:=tn.wt;rw [wt4,Bt];omega
  ·have:=tz.dp;have:=ts.dp;have:=tn.dp;rw [dp4,EJ];omega
 have hnr:¬ (0:Int)<(e:Int) - 5∨¬ r.op % 5=4∨a.op=2:=by omega
 by_cases o10:a.op=10
 ·have hz:=hu2 (by omega);rw [hz,o10] at hae;by_cases hs:6≤e∧r.op % 2=1
  ·obtain ⟨nn,p,⟨N1,h1⟩,tn⟩:=hG g a (r.pick 0) (AP (by omega) hg) (Bo ha);refine ⟨.mk 12 0 [nn],p,⟨N1+100,fun n hn=>?_⟩,EN (by decide) (by decide) (BA (by decide) (by decide) (by decide)) tn.sc,by have:=tn.wt;rw [wt1];omega,by have:=tn.dp;rw [dp1];omega,fun hb=>.suc e g a nn hs.1 o10 (tn.gr hb)⟩;obtain ⟨n,rfl⟩:∃k,n=k+1:=⟨n - 1,by omega⟩;have h1:=h1 n (by omega);rw [← we] at h1;have hw:=Aq (n:=n) (by omega) r.op (m:=5) (by omega) (by omega);have hw2:=Aq (n:=n) (by omega) r.op (m:=2) (by omega) (by omega);rw [hs.2] at hw2;have p0:=AJ (n:=n) (by omega) r 0;have t12:=C5 (n:=n) (by omega) 12 [nn];have hd0:(0:Int)<(e:Int) - 5:=by omega
   have h45:¬ r.op % 5=4:=by omega
   rw [Rj];rw [hae] at h1 ⊢;clear hG hG2 tn hg ha leafT tint hae hu1 hu2 hop hnr;generalize r.op % 5=w5 at hw h45;generalize r.pick 0=r0 at p0 h1;obtain ⟨o2,x2,k2⟩:=r;obtain ⟨o5,x5,k5⟩:=nn;obtain ⟨o8,x8,k8⟩:=r0;simp only [Tm.op] at hw hw2;simp only [A9,Aq7,Aq6,Ai] at h1 p0 t12 ⊢;simp (maxSteps:=1000000) only [↓IC,↓XX,XY,↓reduceIte,Nat.reduceBEq,Nat.reduceAdd,Int.reduceEq,Int.reduceLT,Int.reduceLE,hd0,↓Ad hw,h45,↓Ad hw2,↓Ad p0,↓AD h1,↓Dr,↓Ad t12]
   first | exact Al _ _ | exact Ay rfl (by simp) _
  ·have hj1:=Int.emod_nonneg r.n (show (4:Int)≠0 by decide)
   have hj2:=Int.emod_lt_of_pos r.n (show (0:Int)<4 by decide)
   obtain ⟨j,hj⟩:∃j:Nat,r.n % 4=j:=⟨(r.n % 4).toNat,by omega⟩;refine ⟨Cq j,true,⟨100,fun n hn=>?_⟩,AeD _ j,by rw [AaO];omega,by have:=UC (Cq j);rw [AaO] at this;omega,fun _=>.num e g a j o10 (by omega)⟩;obtain ⟨n,rfl⟩:∃k,n=k+1:=⟨n - 1,by omega⟩;have hw:=Aq (n:=n) (by omega) r.op (m:=5) (by omega) (by omega);have hw2:=Aq (n:=n) (by omega) r.op (m:=2) (by omega) (by omega);have hw4:=Aq (n:=n) (by omega) r.n (m:=4) (by omega) (by omega);rw [hj] at hw4;have hnum:=Aj3 (n:=n) j (by omega) (by omega);have h45:(0:Int)<(e:Int) - 5→¬ r.op % 5=4:=by omega
   have h21:(0:Int)<(e:Int) - 5→¬ r.op % 2=1:=by omega
   rw [Rj];rw [hae];clear hG hG2 hg ha leafT tint hae hu1 hu2 hop hnr hs;generalize r.op % 5=w5 at hw h45;generalize r.op % 2=w2 at hw2 h21;generalize Cq j=nm at hnum ⊢;obtain ⟨o2,x2,k2⟩:=r;obtain ⟨o5,x5,k5⟩:=nm;simp only [Tm.op,Tm.n] at hw hw2 hw4;simp only [A9,Aq6,Ai] at hnum ⊢;by_cases hd0:(0:Int)<(e:Int) - 5
   ·have h45:=h45 hd0;have h21:=h21 hd0;simp (maxSteps:=1000000) only [↓IC,↓XX,XY,↓reduceIte,Nat.reduceBEq,Nat.reduceAdd,Int.reduceEq,Int.reduceLT,Int.reduceLE,hd0,↓Ad hw,h45,↓Ad hw2,h21,↓Ad hw4,↓Av hnum]
    first | exact Al _ _ | exact Ay rfl (by simp) _
   ·simp (maxSteps:=1000000) only [↓IC,↓XX,XY,↓reduceIte,Nat.reduceBEq,Nat.reduceAdd,Int.reduceEq,Int.reduceLT,Int.reduceLE,hd0,↓Ad hw4,↓Av hnum]
    first | exact Al _ _ | exact Ay rfl (by simp) _
 by_cases o14:a.op=14
 ·have hz:=hu2 (by omega);rw [hz,o14] at hae;by_cases hs:6≤e∧1<r.op % 5
  ·obtain ⟨x,p,⟨N1,h1⟩,tx⟩:=hG g a (r.pick 0) (AP (by omega) hg) (Bo ha);obtain ⟨y,q,⟨N2,h2⟩,ty⟩:=hG g a (r.pick 1) (AP (by omega) hg) (Bo ha);have hj1:=Int.emod_nonneg r.n (show (2:Int)≠0 by decide)
   have hj2:=Int.emod_lt_of_pos r.n (show (0:Int)<2 by decide)
   obtain ⟨oo,hoo,hoo2⟩:∃oo:Int,oo=16+r.n % 2∧(oo=16∨oo=17):=⟨_,rfl,by omega⟩;have hsc:(Tm.mk oo 0 [x,y]).sc g.length:=by
    rcases hoo2 with rfl | rfl<;>exact Cl (by decide) (by decide) (BA (by decide) (by decide) (by decide)) tx.sc ty.sc
   refine ⟨.mk oo 0 [x,y],p && q,⟨N1+N2+100,fun n hn=>?_⟩,hsc,by have:=tx.wt;have:=ty.wt;rw [Mg];omega,by have:=tx.dp;have:=ty.dp;rw [NS];omega,fun hb=>.tfun e g a x y oo hoo2 hs.1 o14 (tx.gr (JX hb)) (ty.gr (Ie hb))⟩;obtain ⟨n,rfl⟩:∃k,n=k+1:=⟨n - 1,by omega⟩;have h1:=h1 n (by omega);have h2:=h2 n (by omega);rw [← we] at h1 h2;have hw:=Aq (n:=n) (by omega) r.op (m:=5) (by omega) (by omega);have hw2:=Aq (n:=n) (by omega) r.n (m:=2) (by omega) (by omega);have wo:B6 (16+r.n % 2)=oo:=by rw [Ax]<;>omega
   have p0:=AJ (n:=n) (by omega) r 0;have p1:=AJ (n:=n) (by omega) r 1;have t16:=C5 (n:=n) (by omega) oo [x,y];rw [← wo] at t16;have hd0:(0:Int)<(e:Int) - 5:=by omega
   have h45:¬ r.op % 5=4:=by omega
   have h15:=hs.2;rw [Rj];rw [hae] at h1 h2 ⊢;clear hG hG2 tx ty hg ha leafT tint hae hu1 hu2 hop hnr hs hoo2 hsc;rw [← wo];clear wo hoo;generalize r.op % 5=w5 at hw h45 h15;generalize r.n % 2=w2 at hw2 t16 ⊢;generalize r.pick 0=r0 at p0 h1;generalize r.pick 1=r1 at p1 h2;obtain ⟨o2,x2,k2⟩:=r;obtain ⟨o5,x5,k5⟩:=x;obtain ⟨o6,x6,k6⟩:=y;obtain ⟨o8,x8,k8⟩:=r0;obtain ⟨o9,x9,k9⟩:=r1;simp only [Tm.op,Tm.n] at hw hw2;simp only [A9,Aq7,Aq6,Ai] at h1 h2 p0 p1 t16 ⊢;cases p<;>(simp (maxSteps:=1000000) only [↓IC,↓XX,XY,↓reduceIte,Nat.reduceBEq,Nat.reduceAdd,Int.reduceEq,Int.reduceLT,Int.reduceLE,hd0,↓Ad hw,h45,h15,↓Ad hw2,↓Ad p0,↓Ad p1,↓AD h1,↓AD h2,↓C1,↓Ad t16];first | exact Al _ _ | exact Ay rfl (by simp) _)
  ·refine ⟨.mk 15 0 [],true,⟨100,fun n hn=>?_⟩,tg (leafT 15 0 (by decide) (by decide) (BA (by decide) (by decide) (by decide))) (fun _=>.tint e g a o14)⟩;obtain ⟨n,rfl⟩:∃k,n=k+1:=⟨n - 1,by omega⟩;have hw:=Aq (n:=n) (by omega) r.op (m:=5) (by omega) (by omega);have t15:=Du (n:=n) (by omega) 15;have h45:(0:Int)<(e:Int) - 5→¬ r.op % 5=4∧¬ 1<r.op % 5:=by omega
   rw [Rj];rw [hae];clear hG hG2 hg ha leafT tint hae hu1 hu2 hop hnr hs;generalize r.op % 5=w5 at hw h45;obtain ⟨o2,x2,k2⟩:=r;simp only [Tm.op] at hw;simp only [A9,Aq6,Ai] at t15 ⊢;by_cases hd0:(0:Int)<(e:Int) - 5
   ·obtain ⟨h45,h15⟩:=h45 hd0;simp (maxSteps:=1000000) only [↓IC,↓XX,XY,↓reduceIte,Nat.reduceBEq,Nat.reduceAdd,Int.reduceEq,Int.reduceLT,Int.reduceLE,hd0,↓Ad hw,h45,h15,↓Ad t15]
    first | exact Al _ _ | exact Ay rfl (by simp) _
   ·simp (maxSteps:=1000000) only [↓IC,↓XX,XY,↓reduceIte,Nat.reduceBEq,Nat.reduceAdd,Int.reduceEq,Int.reduceLT,Int.reduceLE,hd0,↓Ad t15]
    first | exact Al _ _ | exact Ay rfl (by simp) _
 have o2:a.op=2:=by omega
 obtain ⟨hu3,hu4⟩:=hu1 o2;rw [o2] at hae;by_cases hn0:0<an
 ·refine ⟨.mk 2 (an - 1) [],true,⟨100,fun n hn=>?_⟩,tg (leafT 2 (an - 1) (by decide) (by decide) (by rw [Bz,if_pos rfl];omega)) (fun _=>.uni e g a _ o2)⟩;obtain ⟨n,rfl⟩:∃k,n=k+1:=⟨n - 1,by omega⟩;have hw:=Aq (n:=n) (by omega) r.op (m:=5) (by omega) (by omega);have wu:B6 (an - 1)=an - 1:=by rw [Ax]<;>omega
  have hu:=AdR (n:=n) (by omega) (an - 1);rw [← wu] at hu;rw [Rj];rw [hae,← wu];clear hG hG2 hg ha leafT tint hae hu1 hu2 hop hnr wu;generalize r.op % 5=w5 at hw;obtain ⟨o2,x2,k2⟩:=r;simp only [Tm.op] at hw;simp only [A9,Aq6,Ai] at hu ⊢;by_cases hd0:(0:Int)<(e:Int) - 5
  ·by_cases h4:w5=4
   ·simp (maxSteps:=1000000) only [↓IC,↓XX,XY,↓reduceIte,Nat.reduceBEq,Nat.reduceAdd,Int.reduceEq,Int.reduceLT,Int.reduceLE,hd0,↓Ad hw,h4,hn0,↓Av hu]
    first | exact Al _ _ | exact Ay rfl (by simp) _
   ·simp (maxSteps:=1000000) only [↓IC,↓XX,XY,↓reduceIte,Nat.reduceBEq,Nat.reduceAdd,Int.reduceEq,Int.reduceLT,Int.reduceLE,hd0,↓Ad hw,h4,hn0,↓Av hu]
    first | exact Al _ _ | exact Ay rfl (by simp) _
  ·simp (maxSteps:=1000000) only [↓IC,↓XX,XY,↓reduceIte,Nat.reduceBEq,Nat.reduceAdd,Int.reduceEq,Int.reduceLT,Int.reduceLE,hd0,hn0,↓Av hu]
   first | exact Al _ _ | exact Ay rfl (by simp) _
 have han:an=0:=by omega
 subst han;have hq1:=Int.emod_nonneg r.op (show (4:Int)≠0 by decide)
 have hq2:=Int.emod_lt_of_pos r.op (show (0:Int)<4 by decide)
 by_cases hs:6≤e∧1<r.op % 4
 ·obtain ⟨x,p,⟨N1,h1⟩,tx⟩:=hG g a (r.pick 0) (AP (by omega) hg) (Bo ha);have hgx:GOk (e - 1) (g++[(1,x)]):=CQ (by rw [show e - 1+1=e by omega];exact hg) tx.sc (by have:=tx.wt;omega) (by have:=tx.dp;omega)
  have hax:AOk (g++[(1,x)]).length a:=⟨by rw [hae];exact Cm (by decide) (by decide) (by rw [Bz,if_pos rfl];omega),by omega,by omega⟩;obtain ⟨y,q,⟨N2,h2⟩,ty⟩:=hG (g++[(1,x)]) a (r.pick 1) hgx hax;have ys:y.sc (g.length+1):=by simpa using ty.sc
  obtain ⟨oo,hoo⟩:∃oo:Int,oo=3∧r.op % 4=2∨oo=6∧r.op % 4=3:=by
   by_cases h7:r.op % 4=2
   ·exact ⟨3,.inl ⟨rfl,h7⟩⟩
   ·exact ⟨6,.inr ⟨rfl,by omega⟩⟩
  have hsc:(Tm.mk oo 0 [x,y]).sc g.length:=by
   rcases hoo with ⟨rfl,_⟩ | ⟨rfl,_⟩<;>exact Cl (by decide) (by decide) (BA (by decide) (by decide) (by decide)) tx.sc ys
  refine ⟨.mk oo 0 [x,y],p && q,⟨N1+N2+100,fun n hn=>?_⟩,hsc,by have:=tx.wt;have:=ty.wt;rw [Mg];omega,by have:=tx.dp;have:=ty.dp;rw [NS];omega,fun hb=>.upi e g a x y oo (by omega) hs.1 o2 (Afd tx (by omega)) (tx.gr (JX hb)) (ty.gr (Ie hb))⟩;obtain ⟨n,rfl⟩:∃k,n=k+1:=⟨n - 1,by omega⟩;have h1:=h1 n (by omega);have h2:=h2 n (by omega);rw [← we] at h1 h2;have hw:=Aq (n:=n) (by omega) r.op (m:=5) (by omega) (by omega);have hw4:=Aq (n:=n) (by omega) r.op (m:=4) (by omega) (by omega);have p0:=AJ (n:=n) (by omega) r 0;have p1:=AJ (n:=n) (by omega) r 1;have hm:=C6 (n:=n) g 1 x (by omega) (by omega);have t3:=C5 (n:=n) (by omega) oo [x,y];have hd0:(0:Int)<(e:Int) - 5:=by omega
  have w22:B6 (2 - 2)=0:=by rw [Ax]<;>omega
  have w32:B6 (3 - 2)=1:=by rw [Ax]<;>omega
  have w0:B6 0=0:=by rw [Ax]<;>omega
  have w1:B6 1=1:=by rw [Ax]<;>omega
  rw [Rj];rw [hae] at h1 h2 ⊢;clear hG hG2 tx ty hg ha leafT tint hae hu1 hu2 hop hnr hs hsc hgx hax ys;generalize r.op % 5=w5 at hw;generalize r.op % 4=w4 at hw4 hoo;generalize r.pick 0=r0 at p0 h1;generalize r.pick 1=r1 at p1 h2;obtain ⟨o2,x2,k2⟩:=r;obtain ⟨o5,x5,k5⟩:=x;obtain ⟨o6,x6,k6⟩:=y;obtain ⟨o8,x8,k8⟩:=r0;obtain ⟨o9,x9,k9⟩:=r1;simp only [Tm.op] at hw hw4;simp only [A9,Aq7,Aq6,Ai] at h1 h2 p0 p1 hm t3 ⊢;rcases hoo with ⟨rfl,rfl⟩ | ⟨rfl,rfl⟩
  ·by_cases h4:w5=4<;>cases p<;>(simp (maxSteps:=1000000) only [↓IC,↓XX,XY,↓reduceIte,Nat.reduceBEq,Nat.reduceAdd,Int.reduceEq,Int.reduceLT,Int.reduceLE,hd0,↓Ad hw,h4,↓Ad hw4,↓Ad p0,↓Ad p1,↓AD h1,↓AO hm,↓AD h2,↓C1,↓AiB,↓Uu,w22,w0,Int.reduceSub,↓AnV,↓Ad t3];first | exact Al _ _ | exact Ay rfl (by simp) _)
  ·by_cases h4:w5=4<;>cases p<;>(simp (maxSteps:=1000000) only [↓IC,↓XX,XY,↓reduceIte,Nat.reduceBEq,Nat.reduceAdd,Int.reduceEq,Int.reduceLT,Int.reduceLE,hd0,↓Ad hw,h4,↓Ad hw4,↓Ad p0,↓Ad p1,↓AD h1,↓AO hm,↓AD h2,↓C1,↓AiB,↓Uu,w32,w1,Int.reduceSub,↓AoQ,↓Ad t3];first | exact Al _ _ | exact Ay rfl (by simp) _)
 ·have hj1:=Int.emod_nonneg r.n (show (3:Int)≠0 by decide)
  have hj2:=Int.emod_lt_of_pos r.n (show (0:Int)<3 by decide)
  obtain ⟨t,ht,tt⟩:∃t:Tm,(r.n % 3=0∧t=.mk 10 0 []∨r.n % 3=1∧t=.mk 14 0 []∨r.n % 3=2∧t=.mk 18 0 [.mk 15 0 []])∧TG 3 e g a t true:=by
   have h:r.n % 3=0∨r.n % 3=1∨r.n % 3=2:=by omega
   rcases h with h | h | h
   ·exact ⟨_,.inl ⟨h,rfl⟩,tg (leafT 10 0 (by decide) (by decide) (BA (by decide) (by decide) (by decide))) (fun _=>.unat e g a o2)⟩
   ·exact ⟨_,.inr (.inl ⟨h,rfl⟩),tg (leafT 14 0 (by decide) (by decide) (BA (by decide) (by decide) (by decide))) (fun _=>.uty e g a o2)⟩
   ·exact ⟨_,.inr (.inr ⟨h,rfl⟩),tg tint (fun _=>.ult e g a o2)⟩
  refine ⟨t,true,⟨100,fun n hn=>?_⟩,tt⟩;obtain ⟨n,rfl⟩:∃k,n=k+1:=⟨n - 1,by omega⟩;have hw:=Aq (n:=n) (by omega) r.op (m:=5) (by omega) (by omega);have hw4:=Aq (n:=n) (by omega) r.op (m:=4) (by omega) (by omega);have hw3:=Aq (n:=n) (by omega) r.n (m:=3) (by omega) (by omega);have n4:=Ks (n:=n) (by omega);have t14:=Du (n:=n) (by omega) 14;have t15:=Du (n:=n) (by omega) 15;have t18:=C5 (n:=n) (by omega) 18 [.mk 15 0 []];have h41:(0:Int)<(e:Int) - 5→¬ 1<r.op % 4:=by omega
  rw [Rj];rw [hae];clear hG hG2 hg ha leafT tint hae hu1 hu2 hop hnr hs tt;generalize r.op % 5=w5 at hw;generalize r.op % 4=w4 at hw4 h41;generalize r.n % 3=w3 at hw3 ht;obtain ⟨o2,x2,k2⟩:=r;simp only [Tm.op,Tm.n] at hw hw4 hw3;simp only [A9,Aq7,Aq6,Ai] at n4 t14 t15 t18 ⊢;by_cases hd0:(0:Int)<(e:Int) - 5
  ·have h41:=h41 hd0;by_cases h4:w5=4
   ·rcases ht with ⟨rfl,rfl⟩ | ⟨rfl,rfl⟩ | ⟨rfl,rfl⟩<;>(simp (maxSteps:=1000000) only [↓IC,↓XX,XY,↓reduceIte,Nat.reduceBEq,Nat.reduceAdd,Int.reduceEq,Int.reduceLT,Int.reduceLE,hd0,↓Ad hw,h4,↓Ad hw4,h41,↓Fd n4,↓Ad t14,↓Ad t15,↓Dr,↓Ad t18,↓Jv,↓Ad hw3,↓Uu,↓Cy,↓CV,↓Im,Ai];first | exact Al _ _ | exact Ay rfl (by simp) _)
   ·rcases ht with ⟨rfl,rfl⟩ | ⟨rfl,rfl⟩ | ⟨rfl,rfl⟩<;>(simp (maxSteps:=1000000) only [↓IC,↓XX,XY,↓reduceIte,Nat.reduceBEq,Nat.reduceAdd,Int.reduceEq,Int.reduceLT,Int.reduceLE,hd0,↓Ad hw,h4,↓Ad hw4,h41,↓Fd n4,↓Ad t14,↓Ad t15,↓Dr,↓Ad t18,↓Jv,↓Ad hw3,↓Uu,↓Cy,↓CV,↓Im,Ai];first | exact Al _ _ | exact Ay rfl (by simp) _)
  ·rcases ht with ⟨rfl,rfl⟩ | ⟨rfl,rfl⟩ | ⟨rfl,rfl⟩<;>(simp (maxSteps:=1000000) only [↓IC,↓XX,XY,↓reduceIte,Nat.reduceBEq,Nat.reduceAdd,Int.reduceEq,Int.reduceLT,Int.reduceLE,hd0,↓Ad hw4,↓Fd n4,↓Ad t14,↓Ad t15,↓Dr,↓Ad t18,↓Jv,↓Ad hw3,↓Uu,↓Cy,↓CV,↓Im,Ai];first | exact Al _ _ | exact Ay rfl (by simp) _)
end Idl
end Go.Proofs.Ytdibmackcbpniaa

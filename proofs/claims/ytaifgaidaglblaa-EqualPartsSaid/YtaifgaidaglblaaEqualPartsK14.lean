/-
  Texts of a proof, part 14: an ideal semantics of the program, its functions in shallow form, contracts of them. No statement of the seat is proved here.
-/
import Derived.Test.YtaifgaidaglblaaEqualPartsK13
set_option linter.all false
noncomputable section
namespace Go.Proofs.Ytaifgaidaglblaa
namespace Idl
def s1 (x:Tm):Nat→Tm
 | 0=>x
 | j+1=>vT j
def s2 (r k:Tm):Nat→Tm
 | 0=>r
 | 1=>k
 | j+2=>vT j
inductive Par:Tm→Tm→Prop
 | var (n:Int) (ks:List Tm):Par (.mk 1 n ks) (.mk 1 n ks)
 | node (op n:Int) (ks ks':List Tm) (h1:op≠1) (hl:ks'.length=ks.length) (hk:∀(i:Nat) a b,ks[i]?=some a→ks'[i]?=some b→Par a b):Par (.mk op n ks) (.mk op n ks')
 | beta (n m:Int) (a b b' x x':Tm) (hb:Par b b') (hx:Par x x'):Par (.mk 5 n [.mk 4 m [a,b],x]) (b'.sub (s1 x'))
 | fst (n m:Int) (a x x' y:Tm) (hx:Par x x'):Par (.mk 8 n [.mk 7 m [a,x,y]]) x'
 | snd (n m:Int) (a x y y':Tm) (hy:Par y y'):Par (.mk 9 n [.mk 7 m [a,x,y]]) y'
 | splq (c c':Tm) (hc:Par c c'):Par (.mk 30 0 [.mk 19 0 [c]]) c'
 | quos (c c':Tm) (hc:Par c c'):Par (.mk 19 0 [.mk 30 0 [c]]) c'
 | recz (n m:Int) (a z z' s:Tm) (l:List Tm) (hz:Par z z'):Par (.mk 13 n [a,z,s,.mk 11 m l]) z'
 | recs (n m:Int) (a a' z z' s s' k k':Tm) (ha:Par a a') (hz:Par z z') (hs:Par s s') (hk:Par k k'):Par (.mk 13 n [a,z,s,.mk 12 m [k]]) (s'.sub (s2 (.mk 13 0 [a',z',s',k']) k'))
theorem AiY:∀(m:Nat) (t:Tm),t.wt<m→Par t t:=by
 intro m
 induction m with
 | zero=>intro t h;omega
 | succ m ih =>
  intro t h;obtain ⟨op,n,ks⟩:=t;simp only [Tm.wt] at h;by_cases h1:op=1
  ·subst h1;exact .var n ks
  ·exact .node op n ks ks h1 rfl (fun i a b ha hb=>by
    rw [ha] at hb;cases hb;exact ih a (by have:=HY ha;omega))
theorem BH (t:Tm):Par t t:=AiY (t.wt+1) t (by omega)
theorem M0 (ρ:Nat→Nat):Mp 0 ρ=ρ:=by
 funext i;simp [Mp]
theorem Nb (σ:Nat→Tm):GF 0 σ=σ:=by
 funext i
 simp only [GF,Nat.not_lt_zero,if_false,Nat.sub_zero];rw [JL];exact QS _
theorem AoR (x:Tm) (ρ:Nat→Nat):(fun i=>(s1 x i).ren ρ)=fun i=>s1 (x.ren ρ) (Mp 1 ρ i):=by
 funext i
 cases i with
 | zero=>simp [s1,Mp]
 | succ i=>simp [s1,Mp,La]
theorem Am4 (r k:Tm) (ρ:Nat→Nat):(fun i=>(s2 r k i).ren ρ)=fun i=>s2 (r.ren ρ) (k.ren ρ) (Mp 2 ρ i):=by
 funext i
 match i with
 | 0=>simp [s2,Mp]
 | 1=>simp [s2,Mp]
 | i+2 =>
  show (vT i).ren ρ=s2 _ _ (Mp 2 ρ (i+2))
  rw [HX (by omega),La,Nat.add_sub_cancel];rfl
theorem Kk (t:Tm) (k:Nat) (τ:Nat→Tm) (h:∀j,τ (j+k)=vT j):(t.ren fun j=>j+k).sub τ=t:=by
 rw [Lb]
 have:(fun i=>τ (i+k))=vT:=funext h
 rw [this,QS]
theorem Anu (x:Tm) (σ:Nat→Tm):(fun i=>(s1 x i).sub σ)=fun i=>(GF 1 σ i).sub (s1 (x.sub σ)):=by
 funext i
 cases i with
 | zero=>simp [s1,GF,Jy]
 | succ i =>
  simp only [s1,GF,Jy];rw [if_neg (by omega),Nat.add_sub_cancel,Kk _ _ _ (fun j=>rfl)]
theorem AoJ (r k:Tm) (σ:Nat→Tm):(fun i=>(s2 r k i).sub σ)=fun i=>(GF 2 σ i).sub (s2 (r.sub σ) (k.sub σ)):=by
 funext i
 match i with
 | 0=>simp [s2,GF,Jy]
 | 1=>simp [s2,GF,Jy]
 | i+2 =>
  simp only [s2,GF,Jy];rw [if_neg (by omega),Nat.add_sub_cancel,Kk _ _ _ (fun j=>rfl)]
theorem AkN {t t':Tm} (h:Par t t'):∀ρ,Par (t.ren ρ) (t'.ren ρ):=by
 induction h with
 | var n ks=>intro ρ;exact BH _
 | node op n ks ks' h1 hl hk ih =>
  intro ρ;rw [Tm.ren,if_neg h1,Tm.ren,if_neg h1];refine .node _ _ _ _ h1 (by rw [HT,HT,hl]) (fun i a b ha hb=>?_);rw [NO,Nat.zero_add] at ha hb;cases hx:ks[i]? with
  | none=>rw [hx] at ha;cases ha
  | some x =>
   cases hy:ks'[i]? with
   | none=>rw [hy] at hb;cases hb
   | some y =>
    rw [hx] at ha;rw [hy] at hb;simp only [AwZ,AwW] at ha hb;subst ha hb;exact ih i x y hx hy _
 | beta n m a b b' x x' hb hx ihb ihx =>
  intro ρ
  have:=Par.beta n m (a.ren (Mp 0 ρ)) _ _ _ _ (ihb (Mp 1 ρ)) (ihx ρ)
  rw [Ld,AoR,← Lb];simp only [Tm.ren,Tm.renL];rw [if_neg (by omega),if_neg (by omega)];simpa [Ae,M0] using this
 | fst n m a x x' y hx ih =>
  intro ρ
  have:=Par.fst n m (a.ren ρ) _ _ (y.ren ρ) (ih ρ)
  simp only [Tm.ren,Tm.renL];rw [if_neg (by omega),if_neg (by omega)];simpa [Ae,M0] using this
 | snd n m a x y y' hy ih =>
  intro ρ
  have:=Par.snd n m (a.ren ρ) (x.ren ρ) _ _ (ih ρ)
  simp only [Tm.ren,Tm.renL];rw [if_neg (by omega),if_neg (by omega)];simpa [Ae,M0] using this
 | splq c c' hc ih =>
  intro ρ
  have:=Par.splq _ _ (ih ρ)
  simp only [Tm.ren,Tm.renL];rw [if_neg (by omega),if_neg (by omega)];simpa [Ae,M0] using this
 | quos c c' hc ih =>
  intro ρ
  have:=Par.quos _ _ (ih ρ)
  simp only [Tm.ren,Tm.renL];rw [if_neg (by omega),if_neg (by omega)];simpa [Ae,M0] using this
 | recz n m a z z' s l hz ih =>
  intro ρ
  have:=Par.recz n m (a.ren (Mp 1 ρ)) _ _ (s.ren (Mp 2 ρ)) (Tm.renL 11 0 l ρ) (ih ρ)
  simp only [Tm.ren,Tm.renL];rw [if_neg (by omega),if_neg (by omega)];simpa [Ae,M0] using this
 | recs n m a a' z z' s s' k k' ha hz hs hk iha ihz ihs ihk =>
  intro ρ
  have:=Par.recs n m _ _ _ _ _ _ _ _ (iha (Mp 1 ρ)) (ihz ρ) (ihs (Mp 2 ρ)) (ihk ρ)
  rw [Ld,Am4,← Lb];simp only [Tm.ren,Tm.renL];rw [if_neg (by omega),if_neg (by omega),if_neg (by omega)];simpa [Ae,M0] using this
theorem Nu {σ σ':Nat→Tm} (h:∀i,Par (σ i) (σ' i)) (k:Nat):∀i,Par (GF k σ i) (GF k σ' i):=by
 intro i;simp only [GF];by_cases hi:i<k
 ·rw [if_pos hi,if_pos hi];exact BH _
 ·rw [if_neg hi,if_neg hi];exact AkN (h _) _
theorem NF {t t':Tm} (h:Par t t'):∀σ σ',(∀i,Par (σ i) (σ' i))→Par (t.sub σ) (t'.sub σ'):=by
 induction h with
 | var n ks =>
  intro σ σ' hσ;rw [Tm.sub,if_pos rfl,Tm.sub,if_pos rfl];by_cases hn:n<0∨ks.isEmpty=false
  ·rw [if_pos hn,if_pos hn];exact BH _
  ·rw [if_neg hn,if_neg hn];exact hσ _
 | node op n ks ks' h1 hl hk ih =>
  intro σ σ' hσ;rw [Tm.sub,if_neg h1,Tm.sub,if_neg h1];refine .node _ _ _ _ h1 (by rw [LB,LB,hl]) (fun i a b ha hb=>?_);rw [VK,Nat.zero_add] at ha hb;cases hx:ks[i]? with
  | none=>rw [hx] at ha;cases ha
  | some x =>
   cases hy:ks'[i]? with
   | none=>rw [hy] at hb;cases hb
   | some y =>
    rw [hx] at ha;rw [hy] at hb;simp only [AwZ,AwW] at ha hb;subst ha hb;exact ih i x y hx hy _ _ (Nu hσ _)
 | beta n m a b b' x x' hb hx ihb ihx =>
  intro σ σ' hσ
  have:=Par.beta n m (a.sub σ) _ _ _ _ (ihb _ _ (Nu hσ 1)) (ihx _ _ hσ)
  rw [HA,Anu,← HA];simp only [Tm.sub,Tm.subL];rw [if_neg (by omega),if_neg (by omega)];simpa [Ae,Nb] using this
 | fst n m a x x' y hx ih =>
  intro σ σ' hσ
  have:=Par.fst n m (a.sub σ) _ _ (y.sub σ) (ih _ _ hσ)
  simp only [Tm.sub,Tm.subL];rw [if_neg (by omega),if_neg (by omega)];simpa [Ae,Nb] using this
 | snd n m a x y y' hy ih =>
  intro σ σ' hσ
  have:=Par.snd n m (a.sub σ) (x.sub σ) _ _ (ih _ _ hσ)
  simp only [Tm.sub,Tm.subL];rw [if_neg (by omega),if_neg (by omega)];simpa [Ae,Nb] using this
 | splq c c' hc ih =>
  intro σ σ' hσ
  have:=Par.splq _ _ (ih _ _ hσ)
  simp only [Tm.sub,Tm.subL];rw [if_neg (by omega),if_neg (by omega)];simpa [Ae,Nb] using this
 | quos c c' hc ih =>
  intro σ σ' hσ
  have:=Par.quos _ _ (ih _ _ hσ)
  simp only [Tm.sub,Tm.subL];rw [if_neg (by omega),if_neg (by omega)];simpa [Ae,Nb] using this
 | recz n m a z z' s l hz ih =>
  intro σ σ' hσ
  have:=Par.recz n m (a.sub (GF 1 σ)) _ _ (s.sub (GF 2 σ)) (Tm.subL 11 0 l σ) (ih _ _ hσ)
  simp only [Tm.sub,Tm.subL];rw [if_neg (by omega),if_neg (by omega)];simpa [Ae,Nb] using this
 | recs n m a a' z z' s s' k k' ha hz hs hk iha ihz ihs ihk =>
  intro σ σ' hσ
  have:=Par.recs n m _ _ _ _ _ _ _ _ (iha _ _ (Nu hσ 1)) (ihz _ _ hσ) (ihs _ _ (Nu hσ 2)) (ihk _ _ hσ)
  rw [HA,AoJ,← HA];simp only [Tm.sub,Tm.subL];rw [if_neg (by omega),if_neg (by omega),if_neg (by omega)];simpa [Ae,Nb] using this
theorem Adw {Q:Tm→Tm→Prop}:∀(ks:List Tm),(∀a∈ks,∃d,Q a d)→∃ds:List Tm,ds.length=ks.length∧∀(i:Nat) a d,ks[i]?=some a→ds[i]?=some d→Q a d
 | [],_=>⟨[],rfl,fun i a d h=>by simp at h⟩
 | a::l,h=>by
  obtain ⟨d,hd⟩:=h a List.mem_cons_self;obtain ⟨ds,h1,h2⟩:=Adw l (fun a ha=>h a (List.mem_cons_of_mem _ ha));refine ⟨d::ds,by simp [h1],fun i x y hx hy=>?_⟩;cases i with
  | zero=>simp at hx hy;subst hx hy;exact hd
  | succ i=>simp at hx hy;exact h2 i x y hx hy
def AoX (op n:Int) (ks:List Tm):Prop:=(op=5∧∃m a b x,ks=[.mk 4 m [a,b],x])∨(op=8∧∃m a x y,ks=[.mk 7 m [a,x,y]])∨(op=9∧∃m a x y,ks=[.mk 7 m [a,x,y]])∨(op=30∧n=0∧∃c,ks=[.mk 19 0 [c]])∨(op=19∧n=0∧∃c,ks=[.mk 30 0 [c]]) ∨
 (op=13∧∃a z s m l,ks=[a,z,s,.mk 11 m l])∨(op=13∧∃a z s m k,ks=[a,z,s,.mk 12 m [k]])
theorem Amn {n op:Int} {x y:Tm} {t:Tm} (h:Par (.mk op n [x,y]) t) (ho:op≠1∧op≠5):∃x' y',t=.mk op n [x',y']∧Par x x'∧Par y y':=by
 cases h with
 | var=>exact absurd rfl ho.1
 | node _ _ _ ks' h1 hl hk =>
  obtain ⟨x',y',rfl⟩:=Ts hl;exact ⟨x',y',rfl,hk 0 x x' rfl rfl,hk 1 y y' rfl rfl⟩
 | beta=>exact absurd rfl ho.2
theorem Ahr {n op:Int} {x y z:Tm} {t:Tm} (h:Par (.mk op n [x,y,z]) t) (ho:op≠1):∃x' y' z',t=.mk op n [x',y',z']∧Par x x'∧Par y y'∧Par z z':=by
 cases h with
 | var=>exact absurd rfl ho
 | node _ _ _ ks' h1 hl hk =>
  obtain ⟨x',y',z',rfl⟩:=Apa hl;exact ⟨x',y',z',rfl,hk 0 x x' rfl rfl,hk 1 y y' rfl rfl,hk 2 z z' rfl rfl⟩
theorem dev:∀(m:Nat) (t:Tm),t.wt<m→∃d,∀t',Par t t'→Par t' d:=by
 intro m
 induction m with
 | zero=>intro t h;omega
 | succ m ih =>
  intro t hw;obtain ⟨op,n,ks⟩:=t;by_cases h1:op=1
  ·subst h1;refine ⟨.mk 1 n ks,fun t' h=>?_⟩;cases h with
   | var=>exact .var n ks
   | node _ _ _ _ h1=>exact absurd rfl h1
  by_cases hr:AoX op n ks
  ·rcases hr with ⟨rfl,m1,a,b,x,rfl⟩ | ⟨rfl,m1,a,x,y,rfl⟩ | ⟨rfl,m1,a,x,y,rfl⟩ | ⟨rfl,rfl,c,rfl⟩ | ⟨rfl,rfl,c,rfl⟩ | ⟨rfl,a,z,s,m1,l,rfl⟩ | ⟨rfl,a,z,s,m1,k,rfl⟩
   ·simp only [Tm.wt,Tm.wtL] at hw;obtain ⟨db,hb⟩:=ih b (by omega);obtain ⟨dx,hx⟩:=ih x (by omega);refine ⟨db.sub (s1 dx),fun t' h=>?_⟩;cases h with
    | node _ _ _ ks' _ hl hk =>
     obtain ⟨l',x',rfl⟩:=Ts hl;obtain ⟨a',b',rfl,_,q2⟩:=Amn (hk 0 _ l' rfl rfl) (by decide);exact .beta n m1 a' b' db x' dx (hb b' q2) (hx x' (hk 1 x x' rfl rfl))
    | beta _ _ _ _ b' _ x' p1 p2 =>
     refine NF (hb b' p1) _ _ (fun i=>?_);cases i with
     | zero=>exact hx x' p2
     | succ i=>exact BH _
   ·simp only [Tm.wt,Tm.wtL] at hw;obtain ⟨dx,hx⟩:=ih x (by omega);refine ⟨dx,fun t' h=>?_⟩;cases h with
    | node _ _ _ ks' _ hl hk =>
     obtain ⟨l',rfl⟩:=Cu hl;obtain ⟨a',x',y',rfl,_,q2,_⟩:=Ahr (hk 0 _ l' rfl rfl) (by decide);exact .fst n m1 a' x' dx y' (hx x' q2)
    | fst _ _ _ _ _ _ p=>exact hx _ p
   ·simp only [Tm.wt,Tm.wtL] at hw;obtain ⟨dy,hy⟩:=ih y (by omega);refine ⟨dy,fun t' h=>?_⟩;cases h with
    | node _ _ _ ks' _ hl hk =>
     obtain ⟨l',rfl⟩:=Cu hl;obtain ⟨a',x',y',rfl,_,_,q3⟩:=Ahr (hk 0 _ l' rfl rfl) (by decide);exact .snd n m1 a' x' y' dy (hy y' q3)
    | snd _ _ _ _ _ _ p=>exact hy _ p
   ·simp only [Tm.wt,Tm.wtL] at hw;obtain ⟨dc,hc⟩:=ih c (by omega);refine ⟨dc,fun t' h=>?_⟩;cases h with
    | node _ _ _ ks' _ hl hk =>
     obtain ⟨l',rfl⟩:=Cu hl;have hq:=hk 0 _ l' rfl rfl;cases hq with
     | node _ _ _ ks2 _ hl2 hk2 =>
      obtain ⟨c',rfl⟩:=Cu hl2;exact .splq c' dc (hc c' (hk2 0 c c' rfl rfl))
     | quos e _ he=>exact hc _ (.node 30 0 [e] [l'] (by decide) rfl (fun i a b ha hb=>by
       cases i with
       | zero=>simp at ha hb;subst ha hb;exact he
       | succ i=>simp at ha))
    | splq _ _ p=>exact hc _ p
   ·simp only [Tm.wt,Tm.wtL] at hw;obtain ⟨dc,hc⟩:=ih c (by omega);refine ⟨dc,fun t' h=>?_⟩;cases h with
    | node _ _ _ ks' _ hl hk =>
     obtain ⟨l',rfl⟩:=Cu hl;have hq:=hk 0 _ l' rfl rfl;cases hq with
     | node _ _ _ ks2 _ hl2 hk2 =>
      obtain ⟨c',rfl⟩:=Cu hl2;exact .quos c' dc (hc c' (hk2 0 c c' rfl rfl))
     | splq e _ he=>exact hc _ (.node 19 0 [e] [l'] (by decide) rfl (fun i a b ha hb=>by
       cases i with
       | zero=>simp at ha hb;subst ha hb;exact he
       | succ i=>simp at ha))
    | quos _ _ p=>exact hc _ p
   ·simp only [Tm.wt,Tm.wtL] at hw;obtain ⟨dz,hz⟩:=ih z (by omega);refine ⟨dz,fun t' h=>?_⟩;cases h with
    | node _ _ _ ks' _ hl hk =>
     obtain ⟨a',z',s',k',rfl⟩:=PS hl;have hq:=hk 3 _ k' rfl rfl;cases hq with
     | node _ _ _ l2 _ hl2 hk2=>exact .recz n m1 a' z' dz s' l2 (hz z' (hk 1 z z' rfl rfl))
    | recz _ _ _ _ _ _ _ p=>exact hz _ p
   ·simp only [Tm.wt,Tm.wtL] at hw;obtain ⟨da,ha⟩:=ih a (by omega);obtain ⟨dz,hz⟩:=ih z (by omega);obtain ⟨ds,hs⟩:=ih s (by omega);obtain ⟨dk,hk⟩:=ih k (by omega);refine ⟨ds.sub (s2 (.mk 13 0 [da,dz,ds,dk]) dk),fun t' h=>?_⟩;cases h with
    | node _ _ _ ks' _ hl hkk =>
     obtain ⟨a',z',s',k',rfl⟩:=PS hl;have hq:=hkk 3 _ k' rfl rfl;cases hq with
     | node _ _ _ l2 _ hl2 hk2 =>
      obtain ⟨k2,rfl⟩:=Cu hl2;exact .recs n m1 a' da z' dz s' ds k2 dk (ha a' (hkk 0 a a' rfl rfl)) (hz z' (hkk 1 z z' rfl rfl)) (hs s' (hkk 2 s s' rfl rfl)) (hk k2 (hk2 0 k k2 rfl rfl))
    | recs _ _ _ a' _ z' _ s' _ k' pa pz ps pk =>
     refine NF (hs s' ps) _ _ (fun i=>?_)
     match i with
     | 0 =>
      refine .node 13 0 _ _ (by decide) rfl (fun i a1 b1 e1 e2=>?_)
      match i with
      | 0=>simp at e1 e2;subst e1 e2;exact ha a' pa
      | 1=>simp at e1 e2;subst e1 e2;exact hz z' pz
      | 2=>simp at e1 e2;subst e1 e2;exact hs s' ps
      | 3=>simp at e1 e2;subst e1 e2;exact hk k' pk
      | i+4=>simp at e1
     | 1=>exact hk k' pk
     | i+2=>exact BH _
  ·simp only [Tm.wt] at hw;obtain ⟨ds,hd1,hd2⟩:=Adw (Q:=fun a d=>∀t',Par a t'→Par t' d) ks (fun a ha=>ih a (by have:=BO ha;omega));refine ⟨.mk op n ds,fun t' h=>?_⟩;cases h with
   | var=>exact absurd rfl h1
   | node _ _ _ ks' _ hl hk =>
    refine .node op n ks' ds h1 (by rw [hd1,hl]) (fun i a b ha hb=>?_);have hi:i<ks.length:=by rw [← hl];exact (List.getElem?_eq_some_iff.1 ha).1
    have hx:=List.getElem?_eq_getElem hi;exact hd2 i _ b hx hb a (hk i _ a hx ha)
   | beta _ m1 a b b' x x'=>exact absurd (.inl ⟨rfl,m1,a,b,x,rfl⟩) hr
   | fst _ m1 a x x' y=>exact absurd (.inr (.inl ⟨rfl,m1,a,x,y,rfl⟩)) hr
   | snd _ m1 a x y y'=>exact absurd (.inr (.inr (.inl ⟨rfl,m1,a,x,y,rfl⟩))) hr
   | splq c c'=>exact absurd (.inr (.inr (.inr (.inl ⟨rfl,rfl,c,rfl⟩)))) hr
   | quos c c'=>exact absurd (.inr (.inr (.inr (.inr (.inl ⟨rfl,rfl,c,rfl⟩))))) hr
   | recz _ m1 a z z' s l=>exact absurd (.inr (.inr (.inr (.inr (.inr (.inl ⟨rfl,a,z,s,m1,l,rfl⟩)))))) hr
   | recs _ m1 a a' z z' s s' k k'=>exact absurd (.inr (.inr (.inr (.inr (.inr (.inr ⟨rfl,a,z,s,m1,k,rfl⟩)))))) hr
inductive Pars:Tm→Tm→Prop
 | refl (t:Tm):Pars t t
 | step {a b c:Tm} (h:Par a b) (hs:Pars b c):Pars a c
theorem HJ {a b:Tm} (h:Par a b):Pars a b:=.step h (.refl _)
theorem Eu {a b c:Tm} (h:Pars a b) (h2:Pars b c):Pars a c:=by
 induction h with
 | refl=>exact h2
 | step h _ ih=>exact .step h (ih h2)
theorem ArR {a c:Tm} (h:Pars a c):∀{b:Tm},Par a b→∃d,Pars b d∧Par c d:=by
 induction h with
 | refl t=>intro b hb;exact ⟨b,.refl _,hb⟩
 | @step a b' c h _ ih =>
  intro b hb;obtain ⟨d,hd⟩:=dev (a.wt+1) a (by omega);obtain ⟨e,h1,h2⟩:=ih (hd _ h);exact ⟨e,.step (hd _ hb) h1,h2⟩
theorem AhX {a b:Tm} (h:Pars a b):∀{c:Tm},Pars a c→∃d,Pars b d∧Pars c d:=by
 induction h with
 | refl t=>intro c hc;exact ⟨c,hc,.refl _⟩
 | step h _ ih =>
  intro c hc;obtain ⟨d,h1,h2⟩:=ArR hc h;obtain ⟨e,h3,h4⟩:=ih h1;exact ⟨e,h3,.step h2 h4⟩
theorem AjY {t t':Tm} (h:Par t t'):t.stl→t'=t:=by
 induction h with
 | var=>intro _;rfl
 | node op n ks ks' h1 hl hk ih =>
  intro hs;rw [Tm.stl] at hs;congr 1;apply List.ext_getElem?;intro i;by_cases hi:i<ks.length
  ·have hx:=List.getElem?_eq_getElem hi;have hy:=List.getElem?_eq_getElem (show i<ks'.length by omega)
   rw [hx,hy,ih i _ _ hx hy (FL hs.2 (List.mem_of_getElem? hx))]
  ·rw [List.getElem?_eq_none (by omega),List.getElem?_eq_none (by omega)]
 | beta n m a b b' x x'=>intro hs;rw [Tm.stl] at hs;exact absurd rfl (hs.1.2.1 rfl _ rfl)
 | fst n m a x x' y=>intro hs;rw [Tm.stl] at hs;exact absurd rfl (hs.1.2.2 (.inl rfl) _ rfl)
 | snd n m a x y y'=>intro hs;rw [Tm.stl] at hs;exact absurd rfl (hs.1.2.2 (.inr rfl) _ rfl)
 | splq c c'=>intro hs;rw [Tm.stl] at hs;exact absurd rfl (hs.1.1.1 rfl _ rfl)
 | quos c c'=>intro hs;rw [Tm.stl] at hs;exact absurd rfl (hs.1.1.2.1 rfl _ rfl)
 | recz n m a z z' s l=>intro hs;rw [Tm.stl] at hs;exact absurd rfl (hs.1.1.2.2 rfl _ rfl).1
 | recs n m a a' z z' s s' k k'=>intro hs;rw [Tm.stl] at hs;exact absurd rfl (hs.1.1.2.2 rfl _ rfl).2
theorem Ke {t t':Tm} (h:Pars t t'):t.stl→t'=t:=by
 induction h with
 | refl=>intro _;rfl
 | step h _ ih =>
  intro hs
  have:=AjY h hs
  subst this;exact ih hs
theorem W7 {t u n m d:Tm} (h1:Pars t n) (h2:Pars u m) (h3:Pars t d) (h4:Pars u d) (hn:n.stl) (hm:m.stl):n=m:=by
 obtain ⟨e,a1,a2⟩:=AhX h1 h3;obtain ⟨e',b1,b2⟩:=AhX h2 h4
 have:=Ke a1 hn
 subst this
 have:=Ke b1 hm
 subst this;obtain ⟨x,c1,c2⟩:=AhX a2 b2;rw [← Ke c1 hn,Ke c2 hm]
theorem En {op n:Int} (h1:op≠1):∀{ks ks':List Tm},ks'.length=ks.length→(∀(i:Nat) a b,ks[i]?=some a→ks'[i]?=some b→Pars a b)→Pars (.mk op n ks) (.mk op n ks'):=by
 have key:∀(
        pre ks ks':List Tm),ks'.length=ks.length→(∀(i:Nat) a b,ks[i]?=some a→ks'[i]?=some b→Pars a b)→Pars (.mk op n (pre++ks)) (.mk op n (pre++ks')):=by
  intro pre ks
  induction ks generalizing pre with
  | nil =>
   intro ks' hl _;rw [List.eq_nil_of_length_eq_zero hl];exact .refl _
  | cons a l ih =>
   intro ks' hl hk;cases ks' with
   | nil=>simp at hl
   | cons b l' =>
    have hab:=hk 0 a b rfl rfl;have hrest:=ih (pre++[b]) l' (by simpa using hl) (fun i x y hx hy=>hk (i+1) x y (by simpa using hx) (by simpa using hy));rw [List.append_assoc,List.append_assoc] at hrest;refine Eu ?_ hrest;have one:∀{x y:Tm},Pars x y→Pars (.mk op n (pre++x::l)) (.mk op n (pre++y::l)):=by
     intro x y h
     induction h with
     | refl=>exact .refl _
     | step h _ ih2 =>
      refine .step (.node op n _ _ h1 (by simp) (fun i p q hp hq=>?_)) ih2;by_cases hi:i<pre.length
      ·rw [List.getElem?_append_left hi] at hp hq;rw [hp] at hq;cases hq;exact BH _
      ·rw [List.getElem?_append_right (by omega)] at hp hq;cases hd:i - pre.length with
       | zero =>
        rw [hd] at hp hq;simp at hp hq;subst hp hq;exact h
       | succ j =>
        rw [hd] at hp hq;simp at hp hq;rw [hp] at hq;cases hq;exact BH _
    exact one hab
 intro ks ks' hl hk;exact key [] ks ks' hl hk
theorem Aia {t t':Tm} (h:Pars t t') (σ:Nat→Tm):Pars (t.sub σ) (t'.sub σ):=by
 induction h with
 | refl=>exact .refl _
 | step h _ ih=>exact .step (NF h σ σ (fun i=>BH _)) ih
theorem Aln (t:Tm) (σ:Nat→Tm) (j:Nat) {x y:Tm} (h:Pars x y):Pars (t.sub fun i=>if i=j then x else σ i) (t.sub fun i=>if i=j then y else σ i):=by
 induction h with
 | refl=>exact .refl _
 | step h _ ih =>
  refine .step (NF (BH t) _ _ (fun i=>?_)) ih;by_cases hi:i=j
  ·simp only [hi,if_true];exact h
  ·simp only [hi,if_false];exact BH _
mutual
def Tm.wa:Tm→Prop
 | .mk op n ks=>ar op=some ks.length∧((op=1→0≤n)∧(op=19∨op=30→n=0))∧Tm.waL ks
def Tm.waL:List Tm→Prop
 | []=>True
 | t::l=>t.wa∧Tm.waL l
end
mutual
theorem Amo:∀(t:Tm) (k:Nat),t.sc k→t.wa
 | .mk op n ks,k,h=>by
  rw [Tm.sc] at h;rw [Tm.wa];refine ⟨h.1,⟨fun h1=>?_,fun h9=>?_⟩,scL_wa ks op 0 k h.2.2⟩
  ·have:=h.2.1
   rw [if_pos h1] at this;exact this.1
  ·have:=h.2.1
   rw [if_neg (by omega)] at this;rcases h9 with rfl | rfl<;>simpa [BT] using this
theorem scL_wa:∀(l:List Tm) (op:Int) (i k:Nat),Tm.scL op i l k→Tm.waL l
 | [],_,_,_,_=>by rw [Tm.waL];trivial
 | t::l,op,i,k,h=>by
  rw [Tm.scL] at h;rw [Tm.waL];exact ⟨Amo t _ h.1,scL_wa l op (i+1) k h.2⟩
end
inductive Un:Nat→RV→Tm→Prop
 | var (u:Nat) (n:Int) (h:n<u):Un u (.var n) (.mk 1 ((u:Int) - 1 - n) [])
 | node (u:Nat) (op n:Int) (k:List RV) (ts:List Tm) (T:Nat→Nat→Tm) (h1:op≠1) (h9:op=19∨op=30→n=0) (har:ar op=some ts.length) (hl:k.length=ts.length)
   (hk:∀(i:Nat) v t,Ae op i=0→k[i]?=some v→ts[i]?=some t→Un u v t)
   (hc:∀(i:Nat) (v:RV) t,0<Ae op i→k[i]?=some v→ts[i]?=some t→t=v.b.sub (GF (Ae op i) (T i))∧v.b.wa)
   (hf:∀(i:Nat) (v:RV) (j:Nat),0<Ae op i→k[i]?=some v→v.env.length≤j→T i j=vT (u+(j - v.env.length)))
   (he:∀(i:Nat) (v:RV) (j:Nat) x,0<Ae op i→k[i]?=some v→v.env.reverse[j]?=some x→Un u x (T i j)):Un u (.node op n k) (.mk op n ts)
def Vc (u:Nat) (env:List RV) (τ:Nat→Tm):Prop:=(∀(j:Nat) x,env.reverse[j]?=some x→Un u x (τ j))∧∀j,env.length≤j→τ j=vT (u+(j - env.length))
theorem H1 {u:Nat} {v:RV} {t:Tm} (h:Un u v t) (h1:v.op≠1):∃(ts:List Tm) (T:Nat→Nat→Tm),(v.op=19∨v.op=30→v.n=0)∧v=.node v.op v.n v.k∧t=.mk v.op v.n ts∧ar v.op=some ts.length∧v.k.length=ts.length∧(∀(i:Nat) x y,Ae v.op i=0→v.k[i]?=some x→ts[i]?=some y→Un u x y) ∧
  (∀(i:Nat) (x:RV) y,0<Ae v.op i→v.k[i]?=some x→ts[i]?=some y→y=x.b.sub (GF (Ae v.op i) (T i))∧x.b.wa∧Vc u x.env (T i)):=by
 cases h with
 | var=>exact absurd rfl h1
 | node op n k ts T h1 h9 har hl hk hc hf he =>
  refine ⟨ts,T,h9,rfl,rfl,har,hl,hk,fun i x y a b c=>?_⟩;obtain ⟨q1,q2⟩:=hc i x y a b c;exact ⟨q1,q2,fun j z hz=>he i x j z a b hz,fun j hj=>hf i x j a b hj⟩
theorem Art {u:Nat} {v:RV} {t:Tm} (h:Un u v t):∀d:Nat,Un (u+d) v (t.ren fun j=>j+d):=by
 induction h with
 | var n h =>
  intro d;have e:(Tm.mk 1 ((u:Int) - 1 - n) [])=vT ((u:Int) - 1 - n).toNat:=by rw [vT];congr 1;omega
  rw [e,La]
  have:=Un.var (u+d) n (by omega)
  have e2:vT (((u:Int) - 1 - n).toNat+d)=.mk 1 (((u+d:Nat):Int) - 1 - n) []:=by rw [vT];congr 1;omega
  rw [e2];exact this
 | node op n k ts T h1 h9 har hl hk hc hf he ihk ihe =>
  intro d;rw [Tm.ren,if_neg h1];refine .node (u+d) op n k _ (fun i j=>(T i j).ren fun x=>x+d) h1 h9 (by rw [HT];exact har) (by rw [HT];exact hl) ?_ ?_ ?_ ?_
  ·intro i v t hb hv ht;rw [NO,Nat.zero_add] at ht;cases hx:ts[i]? with
   | none=>rw [hx] at ht;cases ht
   | some y =>
    rw [hx,hb,M0] at ht;simp only [AwZ,AwW] at ht;subst ht;exact ihk i v y hb hv hx d
  ·intro i v t hb hv ht;rw [NO,Nat.zero_add] at ht;cases hx:ts[i]? with
   | none=>rw [hx] at ht;cases ht
   | some y =>
    rw [hx] at ht;simp only [AwZ,AwW] at ht;subst ht;obtain ⟨q1,q2⟩:=hc i v y hb hv hx;refine ⟨?_,q2⟩;rw [q1,Ld,Acr]
  ·intro i v j hb hv hj;rw [hf i v j hb hv hj,La];congr 1;omega
  ·intro i v j x hb hv hx;exact ihe i v j x hb hv hx d
theorem Aii:Vc 0 [] vT:=⟨fun j x h=>by simp at h,fun j _=>by simp⟩
theorem PE {u:Nat} {env:List RV} {τ:Nat→Tm} (h:Vc u env τ) {x:RV} {t:Tm} (hx:Un u x t):Vc u (env++[x]) (fun i=>match i with | 0=>t | j+1=>τ j):=by
 refine ⟨fun j y hy=>?_,fun j hj=>?_⟩
 ·rw [List.reverse_append] at hy;cases j with
  | zero =>
   simp at hy;subst hy;exact hx
  | succ j =>
   simp only [List.reverse_cons,List.reverse_nil,List.nil_append,List.cons_append,List.getElem?_cons_succ] at hy;exact h.1 j y hy
 ·rw [List.length_append,Aw0,List.length_nil] at hj ⊢;cases j with
  | zero=>omega
  | succ j =>
   simp only;rw [h.2 j (by omega)];congr 1;omega
theorem Ala {u:Nat} {env:List RV} {τ:Nat→Tm} (h:Vc u env τ) (b:Nat):Vc (u+b) (env++FA u b) (GF b τ):=by
 refine ⟨fun j y hy=>?_,fun j hj=>?_⟩
 ·rw [List.reverse_append] at hy;by_cases hjb:j<b
  ·rw [List.getElem?_append_left (by rw [List.length_reverse,B6];exact hjb)] at hy;obtain ⟨_,rfl⟩:=Abz _ _ _ hy;simp only [GF,if_pos hjb]
   have:=Un.var (u+b) ((u:Int)+((b - 1 - j:Nat):Int)) (by omega)
   have e:vT j=.mk 1 (((u+b:Nat):Int) - 1 - ((u:Int)+((b - 1 - j:Nat):Int))) []:=by rw [vT];congr 1;omega
   rw [e];exact this
  ·rw [List.getElem?_append_right (by rw [List.length_reverse,B6];omega),List.length_reverse,B6] at hy;simp only [GF,if_neg hjb];exact Art (h.1 _ _ hy) b
 ·rw [List.length_append,B6] at hj ⊢;simp only [GF];rw [if_neg (by omega),h.2 _ (by omega),La];congr 1;omega
theorem AeW {f:Nat} {s n:Int} {k0 x v:RV} {s':Int} (h:headR (f+1) s 0 (.node 5 n [k0,x])=some (v,s',0)):k0.op=4∧(∃c,k0.k[1]?=some c∧Au f (s+1) 0 c.b (c.env++[x])=some (v,s',0))∨k0.op≠4∧v=.node 5 n [k0,x]:=by
 rw [headR,if_neg (by simp)] at h;by_cases hs:s<0∨1000000<s
 ·rw [if_pos hs] at h;cases h
 rw [if_neg hs,if_pos (show RV.op (.node 5 n [k0,x])=5 from rfl),show RV.k (.node 5 n [k0,x])=[k0,x] from rfl] at h
 simp only [List.getElem?_cons_zero,List.getElem?_cons_succ] at h;by_cases h0:k0.op=4
 ·rw [if_pos h0] at h;by_cases h1:s+1≤1000
  ·rw [if_pos h1] at h;cases hc:k0.k[1]? with
   | none=>rw [hc] at h;cases h
   | some c =>
    rw [hc] at h;simp only at h;by_cases h2:900000<c.env.length
    ·rw [if_pos h2] at h;cases h
    ·rw [if_neg h2] at h;exact .inl ⟨h0,c,rfl,h⟩
  ·rw [if_neg h1] at h;simp at h
 ·rw [if_neg h0] at h;simp only [AwW,AwX] at h;exact .inr ⟨h0,h.1.symm⟩
theorem WF {f:Nat} {s op n:Int} {k0 v:RV} {s':Int} (ho:op=8∨op=9) (h:headR (f+1) s 0 (.node op n [k0])=some (v,s',0)):k0.op=7∧k0.k[(1+op - 8).toNat]?=some v∨k0.op≠7∧v=.node op n [k0]:=by
 rw [headR,if_neg (by simp)] at h;by_cases hs:s<0∨1000000<s
 ·rw [if_pos hs] at h;cases h
 have hop:RV.op (.node op n [k0])=op:=rfl;rw [if_neg hs,hop,if_neg (by omega),if_pos ho,show RV.k (.node op n [k0])=[k0] from rfl] at h
 simp only [List.getElem?_cons_zero] at h;by_cases h0:k0.op=7
 ·rw [if_pos h0] at h;by_cases h1:s+1≤1000
  ·rw [if_pos h1] at h;cases hw:k0.k[(1+op - 8).toNat]? with
   | none=>rw [hw] at h;cases h
   | some w =>
    rw [hw] at h;simp only [AwZ,AwW,AwX] at h;rw [← h.1];exact .inl ⟨h0,rfl⟩
  ·rw [if_neg h1] at h;simp at h
 ·rw [if_neg h0] at h;simp only [AwW,AwX] at h;exact .inr ⟨h0,h.1.symm⟩
theorem Sp {ev:Int→Int→Tm→Option (RV×Int×Int)} {u:Nat} {env:List RV} {τ:Nat→Tm} (henv:Vc u env τ) (hev:∀s t v s',ev s 0 t=some (v,s',0)→t.wa→∃w,Un u v w∧Pars (t.sub τ) w) (herr:∀s e t v s',ev s e t=some (v,s',0)→e=0) (op:Int) :
  ∀(l:List Tm) (i:Nat) (s:Int) (vs:List RV) (s':Int),AL ev op env i l s 0=some (vs,s',0)→Tm.waL l→∃ts:List Tm,ts.length=l.length∧vs.length=l.length∧(∀(j:Nat) a b,(Tm.subL op i l τ)[j]?=some a→ts[j]?=some b→Pars a b) ∧
   (∀(j:Nat) v t,Ae op (i+j)=0→vs[j]?=some v→ts[j]?=some t→Un u v t)∧(∀(j:Nat) (v:RV) t,0<Ae op (i+j)→vs[j]?=some v→ts[j]?=some t→t=v.b.sub (GF (Ae op (i+j)) τ)∧v.b.wa∧v.env=env)
 | [],i,s,vs,s',h,hw=>by
  simp only [AL,AwW,AwX] at h;obtain ⟨rfl,_⟩:=h;exact ⟨[],rfl,rfl,fun j a b h=>by simp [Tm.subL] at h,fun j v t _ h=>by simp at h,fun j v t _ h=>by simp at h⟩
 | t::l,i,s,vs,s',h,hw=>by
  rw [Tm.waL] at hw;simp only [AL] at h;by_cases hb:0<Ae op i
  ·rw [if_pos hb] at h;cases hk:AL ev op env (i+1) l s 0 with
   | none=>rw [hk] at h;cases h
   | some q =>
    obtain ⟨us,s1,e1⟩:=q;rw [hk] at h;simp only [AwZ,AwW,AwX] at h;obtain ⟨rfl,rfl,rfl⟩:=h;obtain ⟨ts,a1,a2,a3,a4,a5⟩:=Sp henv hev herr op l (i+1) s us s1 hk hw.2;refine ⟨t.sub (GF (Ae op i) τ)::ts,by simp [a1],by simp [a2],?_,?_,?_⟩
    ·intro j a b ha hb';cases j with
     | zero =>
      simp only [Tm.subL,List.getElem?_cons_zero,AwW] at ha hb';subst ha hb';exact .refl _
     | succ j =>
      simp only [Tm.subL,List.getElem?_cons_succ] at ha hb';exact a3 j a b ha hb'
    ·intro j v x h0 hv hx;cases j with
     | zero=>rw [Nat.add_zero] at h0;omega
     | succ j =>
      simp only [List.getElem?_cons_succ] at hv hx;exact a4 j v x (by rw [← h0];congr 1;omega) hv hx
    ·intro j v x h0 hv hx;cases j with
     | zero =>
      simp only [List.getElem?_cons_zero,AwW] at hv hx;subst hv hx;exact ⟨rfl,hw.1,rfl⟩
     | succ j =>
      simp only [List.getElem?_cons_succ] at hv hx
      have:=a5 j v x (by rw [show i+1+j=i+(j+1) by omega];exact h0) hv hx
      rw [show i+1+j=i+(j+1) by omega] at this
      exact this
  ·rw [if_neg hb] at h;have hb0:Ae op i=0:=by omega
   cases he:ev s 0 t with
   | none=>rw [he] at h;cases h
   | some q =>
    obtain ⟨v0,s1,e1⟩:=q;rw [he] at h;simp only at h;cases hk:AL ev op env (i+1) l s1 e1 with
    | none=>rw [hk] at h;cases h
    | some q =>
     obtain ⟨us,s3,e3⟩:=q;rw [hk] at h;simp only [AwZ,AwW,AwX] at h;obtain ⟨rfl,rfl,rfl⟩:=h;have he1:=Fa ev herr op env l _ _ _ _ _ hk;subst he1;obtain ⟨w,w1,w2⟩:=hev _ _ _ _ he hw.1;obtain ⟨ts,a1,a2,a3,a4,a5⟩:=Sp henv hev herr op l (i+1) s1 us s3 hk hw.2;refine ⟨w::ts,by simp [a1],by simp [a2],?_,?_,?_⟩
     ·intro j a b ha hb';cases j with
      | zero =>
       simp only [Tm.subL,List.getElem?_cons_zero,AwW] at ha hb';subst ha hb';rw [hb0,Nb];exact w2
      | succ j =>
       simp only [Tm.subL,List.getElem?_cons_succ] at ha hb';exact a3 j a b ha hb'
     ·intro j v x h0 hv hx;cases j with
      | zero =>
       simp only [List.getElem?_cons_zero,AwW] at hv hx;subst hv hx;exact w1
      | succ j =>
       simp only [List.getElem?_cons_succ] at hv hx;exact a4 j v x (by rw [← h0];congr 1;omega) hv hx
     ·intro j v x h0 hv hx;cases j with
      | zero=>rw [Nat.add_zero] at h0;omega
      | succ j =>
       simp only [List.getElem?_cons_succ] at hv hx
       have:=a5 j v x (by rw [show i+1+j=i+(j+1) by omega];exact h0) hv hx
       rw [show i+1+j=i+(j+1) by omega] at this
       exact this
def EvU (f:Nat):Prop:=∀s t env v s' u τ,Au f s 0 t env=some (v,s',0)→t.wa→Vc u env τ→∃w,Un u v w∧Pars (t.sub τ) w
def HdU (f:Nat):Prop:=∀s op n k v s' u ts,headR f s 0 (.node op n k)=some (v,s',0)→op≠1→Un u (.node op n k) (.mk op n ts)→∃w,Un u v w∧Pars (.mk op n ts) w
theorem ArB {f:Nat} (ihE:EvU f) (ihH:HdU f):EvU (f+1):=by
 intro s t env v s' u τ h hw henv;obtain ⟨op,m,ks⟩:=t;rw [Tm.wa] at hw;by_cases h1:op=1
 ·subst h1;have hks:ks=[]:=List.eq_nil_of_length_eq_zero (Option.some.inj hw.1.symm);subst hks;have hm:=hw.2.1.1 rfl;have hv:¬ (m<0∨([]:List Tm).isEmpty=false):=by
   rintro (h | h)
   ·omega
   ·cases h
  rw [Tm.sub,if_pos rfl,if_neg hv];rcases (RM h hm).1 with ⟨a1,a2⟩ | ⟨a1,rfl⟩
  ·exact ⟨_,henv.1 _ _ a2,.refl _⟩
  ·refine ⟨_,?_,.refl _⟩;rw [henv.2 _ (by omega)]
   have:=Un.var u ((env.length:Int) - 1 - m) (by omega)
   have e:vT (u+(m.toNat - env.length))=.mk 1 ((u:Int) - 1 - ((env.length:Int) - 1 - m)) []:=by rw [vT];congr 1;omega
   rw [e];exact this
 ·obtain ⟨vs,s1,q1,q2⟩:=Di h h1;obtain ⟨ts,a1,a2,a3,a4,a5⟩:=Sp henv (fun s t v s' a b=>ihE s t env v s' u τ a b henv) (fun s e t v s' a=>B4 a) op ks 0 s vs s1 q1 hw.2.2;simp only [Nat.zero_add] at a4 a5;have hun:Un u (.node op m vs) (.mk op m ts):=by
   refine .node u op m vs ts (fun _=>τ) h1 hw.2.1.2 (by rw [a1];exact hw.1) (by rw [a1,a2]) a4 (fun i v t b c d=>⟨(a5 i v t b c d).1,(a5 i v t b c d).2.1⟩) ?_ ?_
   ·intro i v j b c hj;have hi:i<ts.length:=by rw [a1,← a2];exact (List.getElem?_eq_some_iff.1 c).1
    have:=(a5 i v _ b c (List.getElem?_eq_getElem hi)).2.2
    rw [this] at hj ⊢;exact henv.2 j hj
   ·intro i v j x b c hx;have hi:i<ts.length:=by rw [a1,← a2];exact (List.getElem?_eq_some_iff.1 c).1
    have:=(a5 i v _ b c (List.getElem?_eq_getElem hi)).2.2
    rw [this] at hx;exact henv.1 j x hx
  obtain ⟨w,w1,w2⟩:=ihH _ _ _ _ _ _ u ts q2 h1 hun;refine ⟨w,w1,?_⟩;rw [Tm.sub,if_neg h1];exact Eu (En h1 (by rw [LB,a1]) a3) w2
theorem AsS {f:Nat} (ihE:EvU f) (ihH:HdU f):HdU (f+1):=by
 intro s op n k v s' u ts h h1 hun;obtain ⟨ts',T,hn9,_,e2,har,hl,hk,hc⟩:=H1 hun h1;simp only [RV.node,RV.op,RV.n,RV.k,Tm.mk.injEq,true_and] at e2 har hl hk hc hn9;subst e2;by_cases h5:op=5
 ·subst h5;obtain ⟨t0,tx,rfl⟩:=Ts (Option.some.inj har.symm:ts.length=2);obtain ⟨k0,x,rfl⟩:=Ts (hl.trans rfl:k.length=2);have u0:=hk 0 k0 t0 rfl rfl rfl;have ux:=hk 1 x tx rfl rfl rfl;rcases AeW h with ⟨h4,c,hcc,hev⟩ | ⟨_,rfl⟩
  ·obtain ⟨us,T0,n0,e0,rfl,Pm,l0,_,c0⟩:=H1 u0 (by omega);rw [h4] at Pm c0 ⊢;obtain ⟨ta,tb,rfl⟩:=Ts (Option.some.inj Pm.symm:us.length=2);obtain ⟨rfl,hwa,henv⟩:=c0 1 c tb (by decide) hcc rfl;obtain ⟨w,w1,w2⟩:=ihE _ _ _ _ _ u _ hev hwa (PE henv ux);refine ⟨w,w1,.step (.beta n k0.n ta _ _ tx tx (BH _) (BH _)) ?_⟩;rw [HA]
   have:(fun i=>(GF (Ae 4 1) (T0 1) i).sub (s1 tx))=fun i=>match i with | 0=>tx | j+1=>T0 1 j:=by
    funext i
    cases i with
    | zero=>simp [GF,Jy,s1,show Ae 4 1=1 from rfl]
    | succ i =>
     simp only [GF,show Ae 4 1=1 from rfl]
     rw [if_neg (by omega),Nat.add_sub_cancel,Kk _ _ _ (fun j=>rfl)]
   rw [this];exact w2
  ·exact ⟨_,hun,.refl _⟩
 by_cases h89:op=8∨op=9
 ·have hl1:ts.length=1:=by rcases h89 with rfl | rfl<;>exact Option.some.inj har.symm
  obtain ⟨t0,rfl⟩:=Cu hl1;obtain ⟨k0,rfl⟩:=Cu (hl.trans rfl:k.length=1);have u0:=hk 0 k0 t0 (by rcases h89 with rfl | rfl<;>rfl) rfl rfl;rcases WF h89 h with ⟨h7,hx⟩ | ⟨_,rfl⟩
  ·obtain ⟨us,T0,n0,e0,rfl,Pm,l0,hk0,_⟩:=H1 u0 (by omega);rw [h7] at Pm hk0 ⊢;obtain ⟨ta,tb,tc,rfl⟩:=Apa (Option.some.inj Pm.symm:us.length=3);rcases h89 with rfl | rfl
   ·exact ⟨tb,hk0 1 v tb rfl hx rfl,HJ (.fst n k0.n ta tb tb tc (BH _))⟩
   ·exact ⟨tc,hk0 2 v tc rfl hx rfl,HJ (.snd n k0.n ta tb tc tc (BH _))⟩
  ·exact ⟨_,hun,.refl _⟩
 by_cases h30:op=30
 ·subst h30;obtain ⟨t0,rfl⟩:=Cu (Option.some.inj har.symm:ts.length=1);obtain ⟨k0,rfl⟩:=Cu (hl.trans rfl:k.length=1);have u0:=hk 0 k0 t0 rfl rfl rfl;rcases Uw h with ⟨h7,hx⟩ | ⟨_,rfl⟩
  ·obtain ⟨us,T0,n0,e0,rfl,Pm,l0,hk0,_⟩:=H1 u0 (by omega);rw [h7] at Pm hk0 ⊢;obtain ⟨ta,rfl⟩:=Cu (Option.some.inj Pm.symm:us.length=1);exact ⟨ta,hk0 0 v ta rfl hx rfl,by rw [hn9 (.inr rfl),n0 (.inl h7)];exact HJ (.splq ta ta (BH _))⟩
  ·exact ⟨_,hun,.refl _⟩
 by_cases h19:op=19
 ·subst h19;obtain ⟨t0,rfl⟩:=Cu (Option.some.inj har.symm:ts.length=1);obtain ⟨k0,rfl⟩:=Cu (hl.trans rfl:k.length=1);have u0:=hk 0 k0 t0 rfl rfl rfl;rcases VM h with ⟨h7,hx⟩ | ⟨_,rfl⟩
  ·obtain ⟨us,T0,n0,e0,rfl,Pm,l0,hk0,_⟩:=H1 u0 (by omega);rw [h7] at Pm hk0 ⊢;obtain ⟨ta,rfl⟩:=Cu (Option.some.inj Pm.symm:us.length=1);exact ⟨ta,hk0 0 v ta rfl hx rfl,by rw [hn9 (.inl rfl),n0 (.inr h7)];exact HJ (.quos ta ta (BH _))⟩
  ·exact ⟨_,hun,.refl _⟩
 by_cases h13:op=13
 ·subst h13;obtain ⟨t0,t1,t2,t3,rfl⟩:=PS (Option.some.inj har.symm:ts.length=4);obtain ⟨k0,k1,k2,k3,rfl⟩:=PS (hl.trans rfl:k.length=4);have u1:=hk 1 k1 t1 rfl rfl rfl;have u3:=hk 3 k3 t3 rfl rfl rfl;rcases Vn h with ⟨h11,rfl⟩ | ⟨h12,x,w,s1',hx,hw,hv⟩ | ⟨_,rfl⟩
  ·obtain ⟨us,T0,n0,e0,rfl,Pm,l0,hk0,_⟩:=H1 u3 (by omega);rw [h11];exact ⟨t1,u1,HJ (.recz n k3.n t0 t1 t1 t2 us (BH _))⟩
  ·obtain ⟨us,T0,n0,e0,rfl,Pm,l0,hk0,_⟩:=H1 u3 (by omega);rw [h12] at Pm hk0 ⊢;obtain ⟨tk,rfl⟩:=Cu (Option.some.inj Pm.symm:us.length=1);have ux:=hk0 0 x tk rfl hx rfl;obtain ⟨c2,hwa2,henv2⟩:=hc 2 k2 t2 (by decide) rfl rfl;have hun2:Un u (.node 13 0 [k0,k1,k2,x]) (.mk 13 0 [t0,t1,t2,tk]):=by
    refine .node u 13 0 _ _ T (by decide) (by omega) rfl rfl ?_ ?_ ?_ ?_
    ·intro i v t hb a b
     match i with
     | 0=>exact absurd hb (by decide)
     | 1=>simp at a b;subst a b;exact u1
     | 2=>exact absurd hb (by decide)
     | 3=>simp at a b;subst a b;exact ux
     | i+4=>simp at a
    ·intro i v t hb a b
     match i with
     | 0=>simp at a b;subst a b;exact ⟨(hc 0 k0 t0 hb rfl rfl).1,(hc 0 k0 t0 hb rfl rfl).2.1⟩
     | 1=>exact absurd hb (by decide)
     | 2=>simp at a b;subst a b;exact ⟨(hc 2 k2 t2 hb rfl rfl).1,(hc 2 k2 t2 hb rfl rfl).2.1⟩
     | 3=>exact absurd hb (by decide)
     | i+4=>simp at a
    ·intro i v j hb a hj
     match i with
     | 0=>simp at a;subst a;exact (hc 0 k0 t0 hb rfl rfl).2.2.2 j hj
     | 1=>exact absurd hb (by decide)
     | 2=>simp at a;subst a;exact (hc 2 k2 t2 hb rfl rfl).2.2.2 j hj
     | 3=>exact absurd hb (by decide)
     | i+4=>simp at a
    ·intro i v j y hb a hy
     match i with
     | 0=>simp at a;subst a;exact (hc 0 k0 t0 hb rfl rfl).2.2.1 j y hy
     | 1=>exact absurd hb (by decide)
     | 2=>simp at a;subst a;exact (hc 2 k2 t2 hb rfl rfl).2.2.1 j y hy
     | 3=>exact absurd hb (by decide)
     | i+4=>simp at a
   obtain ⟨tw,w1,w2⟩:=ihH _ _ _ _ _ _ u _ hw (by decide) hun2;have henv3:=PE (PE henv2 ux) w1;rw [List.append_assoc] at henv3;obtain ⟨tv,v1,v2⟩:=ihE _ _ _ _ _ u _ hv hwa2 henv3;refine ⟨tv,v1,.step (.recs n k3.n t0 t0 t1 t1 t2 t2 tk tk (BH _) (BH _) (BH _) (BH _)) ?_⟩;have e2:t2=k2.b.sub (GF 2 (T 2)):=c2;have e3:∀r:Tm,t2.sub (s2 r tk)=k2.b.sub (fun i=>if i=0 then r else (fun i=>match i with | 0=>tw | j+1=>(fun i=>match i with | 0=>tk | j+1=>T 2 j) j) i):=by
    intro r;rw [e2,HA];congr 1
    funext i
    match i with
    | 0=>simp [GF,Jy,s2]
    | 1=>simp [GF,Jy,s2]
    | i+2 =>
     simp only [GF];rw [if_neg (by omega),if_neg (by omega),Nat.add_sub_cancel,Kk _ _ _ (fun j=>rfl)]
   rw [e3];refine Eu (Aln k2.b _ 0 w2) ?_;have e4:(fun i=>if i=0 then tw else (fun i=>match i with | 0=>tw | j+1=>(fun i=>match i with | 0=>tk | j+1=>T 2 j) j) i)=(fun i=>match i with | 0=>tw | j+1=>(fun i=>match i with | 0=>tk | j+1=>T 2 j) j:Nat→Tm):=by
    funext i
    cases i with
    | zero=>simp
    | succ i=>simp
   rw [e4];exact v2
  ·exact ⟨_,hun,.refl _⟩
 obtain ⟨rfl,_⟩:=FD h (by omega);exact ⟨_,hun,.refl _⟩
theorem Acy:∀f,EvU f∧HdU f:=by
 intro f
 induction f with
 | zero=>exact ⟨(by intro s t env v s' u τ h;rw [Au] at h;cases h),(by intro s op n k v s' u ts h;rw [headR] at h;cases h)⟩
 | succ f ih=>exact ⟨ArB ih.1 ih.2,AsS ih.1 ih.2⟩
theorem Al8:∀(f:Nat) (s nd:Int) (v:RV) (u:Nat) (d:Int) (t:Tm) (s' nd':Int) (w:Tm),AI f s nd 0 v u d=some (t,s',nd',0)→Un u v w→Pars w t:=by
 intro f
 induction f with
 | zero=>intro s nd v u d t s' nd' w h;rw [AI] at h;cases h
 | succ f ih =>
  intro s nd v u d t s' nd' w h hun;rcases KN h with ⟨h1,rfl⟩ | ⟨h1,ts,hrk,rfl⟩
  ·cases hun with
   | var=>exact .refl _
   | node op n k us T h2=>exact absurd h1 h2
  ·obtain ⟨us,T,_,e1,rfl,har,hl,hk,hc⟩:=H1 hun h1;obtain ⟨n1,n2⟩:=Ik (fun s nd e v u t s' nd' h=>CV h) v.op u v.k 0 s (nd+1) 0 ts s' nd' hrk;refine En h1 (by rw [n1,hl]) (fun i a b ha hb=>?_);have hi:i<v.k.length:=by rw [hl];exact (List.getElem?_eq_some_iff.1 ha).1
   have hki:=List.getElem?_eq_getElem hi;obtain ⟨q1,q2,k',q3,q4,⟨q5,q6⟩,q7⟩:=n2 i _ b hki hb;rw [Nat.zero_add] at q5 q6 q7;by_cases hb0:Ae v.op i=0
   ·have:=q6 hb0
    subst this;rw [hb0] at q7;simp only [Int.ofNat_zero,Int.add_zero] at q7;exact ih _ _ _ u _ _ _ _ a (by simpa using q7) (hk i _ a hb0 hki ha)
   ·have hbp:0<Ae v.op i:=by omega
    obtain ⟨s0,hev⟩:=q5 hbp;obtain ⟨rfl,hwa,henv⟩:=hc i _ a hbp hki ha;obtain ⟨w',w1,w2⟩:=(Acy f).1 _ _ _ _ _ (u+Ae v.op i) _ hev hwa (Ala henv _);rw [show (u:Int)+(Ae v.op i:Int)=((u+Ae v.op i:Nat):Int) by omega] at q7
    exact Eu w2 (ih q1 q2 k' (u+Ae v.op i) (d+1) b q3 q4 w' q7 w1)
theorem Es {f:Nat} {t n:Tm} {k:Nat} (h:AK f t=some (n,0)) (ht:t.sc k):Pars t n:=by
 rw [AK] at h;cases he:Au f 0 0 t [] with
 | none=>rw [he] at h;cases h
 | some q =>
  obtain ⟨v,s,e⟩:=q;rw [he] at h;simp only at h;cases hr:AI f s 0 e v 0 1 with
  | none=>rw [hr] at h;cases h
  | some q =>
   obtain ⟨w,s2,nd2,e2⟩:=q;rw [hr] at h;simp only [AwW] at h;by_cases h2:e2≠0
   ·rw [if_pos h2] at h;simp only [AwX] at h;exact absurd h.2 h2
   rw [if_neg h2] at h;simp only [AwX,and_true] at h;subst h;have he2:e2=0:=by omega
   subst he2;have he0:=CV hr;subst he0;obtain ⟨x,x1,x2⟩:=(Acy f).1 _ _ _ _ _ 0 vT he (Amo t k ht) Aii;rw [QS] at x2;exact Eu x2 (Al8 f s 0 v 0 1 w s2 nd2 x (by simpa using hr) x1)
theorem AlQ {f f':Nat} {t u n m:Tm} {k:Nat} {G G':List Nat} {s s':Nat} (h1:AK f t=some (n,0)) (h2:AK f' u=some (m,0)) (ht:t.sc k) (hu:u.sc k) (tt:HasT G t s) (tu:HasT G' u s') (h:Pars t u):n=m :=
 W7 (Es h1 ht) (Es h2 hu) (Eu h (Es h2 hu)) (Es h2 hu) (KX (CH h1 tt)) (KX (CH h2 tu))
theorem AjV {G:List Nat} {t:Tm} {s k:Nat} (h:NfT G t s) (hsc:t.sc k) (hk:k≤10000) (hw:t.wt≤3000) (hd:t.dp≤120):Ev 55 [.fv t.enc] (.tuple [t.enc,.int .i64 0]):=by
 obtain ⟨f,hf⟩:=HV (KX h) hsc (by omega) hw hd;exact AcP (G7 h) hsc (by omega) hw hf
theorem MO:∀(m:Nat) (t:Tm) (d c:Int),t.wt<m→t.stl→(t.shift d c).stl
 | 0,t,d,c,h,_=>by omega
 | m+1,.mk op n ks,d,c,hm,h=>by
  rw [Tm.shift];rw [Tm.stl] at h ⊢;simp only [Tm.wt] at hm;have kid:∀(i:Nat) k0,(Tm.shiftL op 0 ks d c)[i]?=some k0→∃k1,ks[i]?=some k1∧k0.op=k1.op:=by
   intro i k0 hk;rw [Hd] at hk;cases hx:ks[i]? with
   | none=>rw [hx] at hk;cases hk
   | some k1 =>
    rw [hx] at hk;simp only [AwZ,AwW] at hk;exact ⟨k1,rfl,by rw [← hk,VU]⟩
  obtain ⟨⟨⟨a30,a19,a13⟩,a5,a89⟩,hL⟩:=h;refine ⟨⟨⟨fun e k0 hk=>?_,fun e k0 hk=>?_,fun e k0 hk=>?_⟩,fun e k0 hk=>?_,fun e k0 hk=>?_⟩,TP fun i t hi=>?_⟩
  ·obtain ⟨k1,h1,h2⟩:=kid _ _ hk;rw [h2];exact a30 e k1 h1
  ·obtain ⟨k1,h1,h2⟩:=kid _ _ hk;rw [h2];exact a19 e k1 h1
  ·obtain ⟨k1,h1,h2⟩:=kid _ _ hk;rw [h2];exact a13 e k1 h1
  ·obtain ⟨k1,h1,h2⟩:=kid _ _ hk;rw [h2];exact a5 e k1 h1
  ·obtain ⟨k1,h1,h2⟩:=kid _ _ hk;rw [h2];exact a89 e k1 h1
  ·rw [Hd] at hi;cases hx:ks[i]? with
   | none=>rw [hx] at hi;cases hi
   | some k1 =>
    rw [hx] at hi;simp only [AwZ,AwW] at hi;subst hi
    have:=HY hx
    exact MO m k1 _ _ (by omega) (FL hL (List.mem_of_getElem? hx))
theorem Ajb {T X:Tm} (h:Pars T X):∀n d S,T=.mk 4 n [d,S]→∃d' S',X=.mk 4 n [d',S']∧Pars d d'∧Pars S S':=by
 induction h with
 | refl t=>rintro n d S rfl;exact ⟨d,S,rfl,.refl _,.refl _⟩
 | step h hs ih =>
  rintro n d S rfl;obtain ⟨d1,S1,rfl,h1,h2⟩:=Amn h ⟨by decide,by decide⟩;obtain ⟨d2,S2,rfl,h3,h4⟩:=ih _ _ _ rfl;exact ⟨d2,S2,rfl,.step h1 h3,.step h2 h4⟩
theorem AeL {T X:Tm} (h:Pars T X):∀n d x y,T=.mk 7 n [d,x,y]→∃d' x' y',X=.mk 7 n [d',x',y']∧Pars d d'∧Pars x x'∧Pars y y':=by
 induction h with
 | refl t=>rintro n d x y rfl;exact ⟨d,x,y,rfl,.refl _,.refl _,.refl _⟩
 | step h hs ih =>
  rintro n d x y rfl;obtain ⟨d1,x1,y1,rfl,h1,h2,h3⟩:=Ahr h (by decide);obtain ⟨d2,x2,y2,rfl,h4,h5,h6⟩:=ih _ _ _ _ rfl;exact ⟨d2,x2,y2,rfl,.step h1 h4,.step h2 h5,.step h3 h6⟩
theorem SG {ev:Int→Int→Tm→Option (RV×Int×Int)} (hev:∀s t v s',ev s 0 t=some (v,s',0)→s≤s'∧∀s2,0≤s2→s2≤s→ev s2 0 t=some (v,s2+(s' - s),0)) (herr:∀s e t v s',ev s e t=some (v,s',0)→e=0) (op:Int) (env:List RV) :
  ∀(l:List Tm) (i:Nat) (s:Int) (vs:List RV) (s':Int),AL ev op env i l s 0=some (vs,s',0)→s≤s'∧∀s2,0≤s2→s2≤s→AL ev op env i l s2 0=some (vs,s2+(s' - s),0)
 | [],i,s,vs,s',h=>by
  simp only [AL,AwW,AwX] at h;obtain ⟨rfl,rfl,_⟩:=h;refine ⟨Int.le_refl _,fun s2 _ _=>?_⟩;simp only [AL,AwW,AwX,true_and,and_true];omega
 | t::l,i,s,vs,s',h=>by
  simp only [AL] at h;by_cases hb:0<Ae op i
  ·rw [if_pos hb] at h;cases hk:AL ev op env (i+1) l s 0 with
   | none=>rw [hk] at h;cases h
   | some q =>
    obtain ⟨us,s1,e1⟩:=q;rw [hk] at h;simp only [AwZ,AwW,AwX] at h;obtain ⟨rfl,rfl,rfl⟩:=h;obtain ⟨h1,h2⟩:=SG hev herr op env l (i+1) s us s1 hk;refine ⟨h1,fun s2 a b=>?_⟩;rw [AL,if_pos hb,h2 s2 a b];rfl
  ·rw [if_neg hb] at h;cases he:ev s 0 t with
   | none=>rw [he] at h;cases h
   | some q =>
    obtain ⟨v,s1,e1⟩:=q;rw [he] at h;simp only at h;cases hk:AL ev op env (i+1) l s1 e1 with
    | none=>rw [hk] at h;cases h
    | some q =>
     obtain ⟨us,s3,e3⟩:=q;rw [hk] at h;simp only [AwZ,AwW,AwX] at h;obtain ⟨rfl,rfl,rfl⟩:=h;have he1:=Fa ev herr op env l _ _ _ _ _ hk;subst he1;obtain ⟨a1,a2⟩:=hev _ _ _ _ he;obtain ⟨b1,b2⟩:=SG hev herr op env l (i+1) s1 us s3 hk;refine ⟨by omega,fun s2 a b=>?_⟩;rw [AL,if_neg hb,a2 s2 a b];simp only;rw [b2 (s2+(s1 - s)) (by omega) (by omega)];simp only [AwZ,AwW,AwX,true_and,and_true];omega
theorem Ft:∀f,(∀s t env v s',Au f s 0 t env=some (v,s',0)→s≤s'∧∀s2,0≤s2→s2≤s→Au f s2 0 t env=some (v,s2+(s' - s),0))∧(∀s v w s',headR f s 0 v=some (w,s',0)→s≤s'∧∀s2,0≤s2→s2≤s→headR f s2 0 v=some (w,s2+(s' - s),0)):=by
 intro f
 induction f with
 | zero=>exact ⟨(by intro s t env v s' h;rw [Au] at h;cases h),(by intro s v w s' h;rw [headR] at h;cases h)⟩
 | succ f ih =>
  refine ⟨?_,?_⟩
  ·intro s t env v s' h;obtain ⟨op,m,ks⟩:=t;rw [Au,if_neg (by simp)] at h;have goal:∀s2:Int,Au (f+1) s2 0 (.mk op m ks) env=_:=fun s2=>by rw [Au,if_neg (by simp)]
   by_cases h9:900000<env.length
   ·rw [if_pos h9] at h;cases h
   rw [if_neg h9] at h;by_cases h1:op=1
   ·rw [if_pos h1] at h;by_cases hm:m<env.length
    ·rw [if_pos hm] at h;by_cases h0:0≤m
     ·rw [if_pos h0] at h;cases hx:env[((env.length:Int) - 1 - m).toNat]? with
      | none=>rw [hx] at h;cases h
      | some x =>
       rw [hx] at h;simp only [AwZ,AwW,AwX] at h;obtain ⟨rfl,rfl,_⟩:=h;refine ⟨Int.le_refl _,fun s2 _ _=>?_⟩;rw [goal s2,if_neg h9,if_pos h1,if_pos hm,if_pos h0,hx];simp only [AwZ,AwW,AwX,true_and,and_true];omega
     ·rw [if_neg h0] at h;cases h
    ·rw [if_neg hm] at h;by_cases h4:m≤4611686018427387904
     ·rw [if_pos h4] at h;simp only [AwW,AwX] at h;obtain ⟨rfl,rfl,_⟩:=h;refine ⟨Int.le_refl _,fun s2 _ _=>?_⟩;rw [goal s2,if_neg h9,if_pos h1,if_neg hm,if_pos h4];simp only [AwW,AwX,true_and,and_true];omega
     ·rw [if_neg h4] at h;cases h
   ·rw [if_neg h1] at h;by_cases h2:f≤ks.length
    ·rw [if_pos h2] at h;cases h
    rw [if_neg h2] at h;by_cases h3:900000<ks.length
    ·rw [if_pos h3] at h;cases h
    rw [if_neg h3] at h;cases hk:AL (fun s e t=>Au f s e t env) op env 0 ks s 0 with
    | none=>rw [hk] at h;cases h
    | some q =>
     obtain ⟨vs,s1,e1⟩:=q;rw [hk] at h;simp only at h;have he:=G9 h;subst he;obtain ⟨a1,a2⟩:=SG (ev:=fun s e t=>Au f s e t env) (fun s t v s' a=>ih.1 s t env v s' a) (fun s e t v s' a=>B4 a) op env ks 0 s vs s1 hk;obtain ⟨b1,b2⟩:=ih.2 _ _ _ _ h;refine ⟨by omega,fun s2 a b=>?_⟩;rw [goal s2,if_neg h9,if_neg h1,if_neg h2,if_neg h3,a2 s2 a b];simp only;rw [b2 (s2+(s1 - s)) (by omega) (by omega)];simp only [AwW,AwX,true_and,and_true];omega
  ·intro s v w s' h;rw [headR,if_neg (by simp)] at h;have goal:∀s2:Int,headR (f+1) s2 0 v=_:=fun s2=>by rw [headR,if_neg (by simp)]
   by_cases hs:s<0∨1000000<s
   ·rw [if_pos hs] at h;cases h
   rw [if_neg hs] at h;have one:∀{β:Type} {x y:β} {p q:Int},(x,p,(0:Int))=(y,q,0) ↔ x=y∧p=q:=by intro β x y p q;simp
   by_cases h5:v.op=5
   ·rw [if_pos h5] at h;cases hk:v.k[0]? with
    | none=>rw [hk] at h;cases h
    | some k0 =>
     rw [hk] at h;simp only at h;by_cases h4:k0.op=4
     ·rw [if_pos h4] at h;by_cases hq:s+1≤1000
      ·rw [if_pos hq] at h;cases hc:k0.k[1]? with
       | none=>rw [hc] at h;cases h
       | some c =>
       cases hx:v.k[1]? with
       | none=>rw [hc,hx] at h;cases h
       | some x =>
        rw [hc,hx] at h;simp only at h;by_cases hl:900000<c.env.length
        ·rw [if_pos hl] at h;cases h
        rw [if_neg hl] at h;obtain ⟨a1,a2⟩:=ih.1 _ _ _ _ _ h;refine ⟨by omega,fun s2 a b=>?_⟩;rw [goal s2,if_neg (by omega),if_pos h5,hk];simp only;rw [if_pos h4,if_pos (by omega),hc,hx];simp only;rw [if_neg hl,a2 (s2+1) (by omega) (by omega)];simp only [AwW,one,true_and];omega
      ·rw [if_neg hq] at h;simp at h
     ·rw [if_neg h4] at h;simp only [AwW,one] at h;obtain ⟨rfl,rfl⟩:=h;refine ⟨Int.le_refl _,fun s2 a b=>?_⟩;rw [goal s2,if_neg (by omega),if_pos h5,hk];simp only;rw [if_neg h4];simp only [AwW,one,true_and];omega
   rw [if_neg h5] at h;have proj:∀(o:Int) (i:Nat),(match v.k[0]? with
     | none=>none
     | some k0=>if k0.op=o then (if s+1≤1000 then (k0.k[i]?).map fun x=>(x,s+1,(0:Int)) else some (v,s+1,17)) else some (v,s,0))=some (w,s',0) →
     s≤s'∧∀s2,0≤s2→s2≤s→(match v.k[0]? with
     | none=>none
     | some k0=>if k0.op=o then (if s2+1≤1000 then (k0.k[i]?).map fun x=>(x,s2+1,(0:Int)) else some (v,s2+1,17)) else some (v,s2,0))=some (w,s2+(s' - s),0):=by
    intro o i h;cases hk:v.k[0]? with
    | none=>rw [hk] at h;cases h
    | some k0 =>
     rw [hk] at h;simp only at h ⊢;by_cases h4:k0.op=o
     ·rw [if_pos h4] at h;by_cases hq:s+1≤1000
      ·rw [if_pos hq] at h;cases hx:k0.k[i]? with
       | none=>rw [hx] at h;cases h
       | some x =>
        rw [hx] at h;simp only [AwZ,AwW,one] at h;obtain ⟨rfl,rfl⟩:=h;refine ⟨by omega,fun s2 a b=>?_⟩;rw [if_pos h4,if_pos (by omega)];simp only [AwZ,AwW,one,true_and];omega
      ·rw [if_neg hq] at h;simp at h
     ·rw [if_neg h4] at h;simp only [AwW,one] at h;obtain ⟨rfl,rfl⟩:=h;refine ⟨Int.le_refl _,fun s2 a b=>?_⟩;rw [if_neg h4];simp only [AwW,one,true_and];omega
   by_cases h89:v.op=8∨v.op=9
   ·rw [if_pos h89] at h;obtain ⟨a1,a2⟩:=proj 7 _ h;refine ⟨a1,fun s2 a b=>?_⟩;rw [goal s2,if_neg (by omega),if_neg h5,if_pos h89];exact a2 s2 a b
   rw [if_neg h89] at h;by_cases h30:v.op=30
   ·rw [if_pos h30] at h;obtain ⟨a1,a2⟩:=proj 19 0 h;refine ⟨a1,fun s2 a b=>?_⟩;rw [goal s2,if_neg (by omega),if_neg h5,if_neg h89,if_pos h30];exact a2 s2 a b
   rw [if_neg h30] at h;by_cases h19:v.op=19
   ·rw [if_pos h19] at h;obtain ⟨a1,a2⟩:=proj 30 0 h;refine ⟨a1,fun s2 a b=>?_⟩;rw [goal s2,if_neg (by omega),if_neg h5,if_neg h89,if_neg h30,if_pos h19];exact a2 s2 a b
   rw [if_neg h19] at h;by_cases h13:v.op=13
   ·rw [if_pos h13] at h;cases hk0:v.k[0]? with
    | none=>rw [hk0] at h;cases h
    | some k0 =>
    cases hk1:v.k[1]? with
    | none=>rw [hk0,hk1] at h;cases h
    | some k1 =>
    cases hk2:v.k[2]? with
    | none=>rw [hk0,hk1,hk2] at h;cases h
    | some k2 =>
    cases hk3:v.k[3]? with
    | none=>rw [hk0,hk1,hk2,hk3] at h;cases h
    | some k3 =>
     rw [hk0,hk1,hk2,hk3] at h;simp only at h;have g2:∀s2:Int,0≤s2→s2≤s→headR (f+1) s2 0 v=_:=fun s2 a b=>by
      rw [goal s2,if_neg (by omega),if_neg h5,if_neg h89,if_neg h30,if_neg h19,if_pos h13,hk0,hk1,hk2,hk3]
     by_cases h11:k3.op=11
     ·rw [if_pos h11] at h;by_cases hq:s+1≤1000
      ·rw [if_pos hq] at h;simp only [AwW,one] at h;obtain ⟨rfl,rfl⟩:=h;refine ⟨by omega,fun s2 a b=>?_⟩;rw [g2 s2 a b];simp only;rw [if_pos h11,if_pos (by omega)];simp only [AwW,one,true_and];omega
      ·rw [if_neg hq] at h;simp at h
     rw [if_neg h11] at h;by_cases h12:k3.op=12
     ·rw [if_pos h12] at h;by_cases hq:s+1≤1000
      ·rw [if_pos hq] at h;cases hx:k3.k[0]? with
       | none=>rw [hx] at h;cases h
       | some x =>
        rw [hx] at h;simp only at h;cases hd:headR f (s+1) 0 (.node 13 0 [k0,k1,k2,x]) with
        | none=>rw [hd] at h;cases h
        | some q =>
         obtain ⟨y,s1,e1⟩:=q;rw [hd] at h;simp only at h;by_cases hl:900000<k2.env.length
         ·rw [if_pos hl] at h;cases h
         rw [if_neg hl] at h;have he:=B4 h;subst he;obtain ⟨a1,a2⟩:=ih.2 _ _ _ _ hd;obtain ⟨b1,b2⟩:=ih.1 _ _ _ _ _ h;refine ⟨by omega,fun s2 a b=>?_⟩;rw [g2 s2 a b];simp only;rw [if_neg h11,if_pos h12,if_pos (by omega),hx];simp only;rw [a2 (s2+1) (by omega) (by omega)];simp only;rw [if_neg hl,b2 (s2+1+(s1 - (s+1))) (by omega) (by omega)];simp only [AwW,one,true_and];omega
      ·rw [if_neg hq] at h;simp at h
     ·rw [if_neg h12] at h;simp only [AwW,one] at h;obtain ⟨rfl,rfl⟩:=h;refine ⟨Int.le_refl _,fun s2 a b=>?_⟩;rw [g2 s2 a b];simp only;rw [if_neg h11,if_neg h12];simp only [AwW,one,true_and];omega
   rw [if_neg h13] at h;simp only [AwW,one] at h;obtain ⟨rfl,rfl⟩:=h;refine ⟨Int.le_refl _,fun s2 a b=>?_⟩;rw [goal s2,if_neg (by omega),if_neg h5,if_neg h89,if_neg h30,if_neg h19,if_neg h13];simp only [AwW,one,true_and];omega
theorem UH {rd:Int→Int→Int→RV→Int→Option (Tm×Int×Int×Int)} {f:Nat} (hrd:∀s nd v u t s' nd',rd s nd 0 v u=some (t,s',nd',0)→s≤s'∧∀s2,0≤s2→s2≤s→rd s2 nd 0 v u=some (t,s2+(s' - s),nd',0)) (herr:∀s nd e v u t s' nd',rd s nd e v u=some (t,s',nd',0)→e=0) (op u:Int) :
  ∀(l:List RV) (i:Nat) (s nd:Int) (ts:List Tm) (s' nd':Int),AU rd f op u i l s nd 0=some (ts,s',nd',0)→s≤s'∧∀s2,0≤s2→s2≤s→AU rd f op u i l s2 nd 0=some (ts,s2+(s' - s),nd',0)
 | [],i,s,nd,ts,s',nd',h=>by
  simp only [AU,AwW,AwX] at h;obtain ⟨rfl,rfl,rfl,_⟩:=h;refine ⟨Int.le_refl _,fun s2 _ _=>?_⟩;simp only [AU,AwW,AwX,true_and,and_true];omega
 | k::l,i,s,nd,ts,s',nd',h=>by
  rw [AU] at h;cases hk:(if 0<Ae op i then (if 900000<k.env.length then none else Au f s 0 k.b (k.env++FA u (Ae op i))) else some (k,s,0)) with
  | none=>rw [hk] at h;cases h
  | some q =>
   obtain ⟨y,s1,e1⟩:=q;rw [hk] at h;simp only at h;cases ht:rd s1 nd e1 y (u+Ae op i) with
   | none=>rw [ht] at h;cases h
   | some q =>
    obtain ⟨t,s3,nd3,e3⟩:=q;rw [ht] at h;simp only at h;cases hr:AU rd f op u (i+1) l s3 nd3 e3 with
    | none=>rw [hr] at h;cases h
    | some q =>
     obtain ⟨us,s4,nd4,e4⟩:=q;rw [hr] at h;simp only [AwZ,AwW,AwX] at h;obtain ⟨rfl,rfl,rfl,rfl⟩:=h;have he3:e3=0:=Ik.readK_err herr op u l _ _ _ _ _ _ _ hr;subst he3;have he1:=herr _ _ _ _ _ _ _ _ ht;subst he1;have hkk:s≤s1∧∀s2,0≤s2→s2≤s→(if 0<Ae op i then (if 900000<k.env.length then none else Au f s2 0 k.b (k.env++FA u (Ae op i))) else some (k,s2,0))=some (y,s2+(s1 - s),0):=by
      by_cases hb:0<Ae op i
      ·rw [if_pos hb] at hk;by_cases hl:900000<k.env.length
       ·rw [if_pos hl] at hk;cases hk
       rw [if_neg hl] at hk;obtain ⟨a1,a2⟩:=(Ft f).1 _ _ _ _ _ hk;refine ⟨a1,fun s2 a b=>?_⟩;rw [if_pos hb,if_neg hl];exact a2 s2 a b
      ·rw [if_neg hb] at hk;simp only [AwW,AwX] at hk;obtain ⟨rfl,rfl,_⟩:=hk;refine ⟨Int.le_refl _,fun s2 a b=>?_⟩;rw [if_neg hb];simp only [AwW,AwX,true_and,and_true];omega
     obtain ⟨a1,a2⟩:=hkk;obtain ⟨b1,b2⟩:=hrd _ _ _ _ _ _ _ ht;obtain ⟨c1,c2⟩:=UH hrd herr op u l (i+1) s3 nd3 us s4 nd4 hr;refine ⟨by omega,fun s2 a b=>?_⟩;rw [AU,a2 s2 a b];simp only;rw [b2 (s2+(s1 - s)) (by omega) (by omega)];simp only;rw [c2 (s2+(s1 - s)+(s3 - s1)) (by omega) (by omega)];simp only [AwZ,AwW,AwX,true_and,and_true];omega
theorem AkM:∀f s nd v u d t s' nd',AI f s nd 0 v u d=some (t,s',nd',0)→s≤s'∧∀s2,0≤s2→s2≤s→AI f s2 nd 0 v u d=some (t,s2+(s' - s),nd',0):=by
 intro f
 induction f with
 | zero=>intro s nd v u d t s' nd' h;rw [AI] at h;cases h
 | succ f ih =>
  intro s nd v u d t s' nd' h;rw [AI] at h;by_cases hb:nd<0∨1000000<nd∨u<0∨1000000<u∨d<0∨1000000<d∨v.n < -2305843009213693952∨2305843009213693952<v.n∨f≤v.k.length∨900000<v.k.length∨f≤3
  ·rw [if_pos hb] at h;cases h
  rw [if_neg hb] at h;by_cases h3:(0:Int)=0∧(3000<nd+1∨120<d)
  ·rw [if_pos h3,if_pos (by decide)] at h;simp at h
  rw [if_neg h3,if_neg (by simp)] at h;have goal:∀s2:Int,AI (f+1) s2 nd 0 v u d=_:=fun s2=>by rw [AI,if_neg hb,if_neg h3,if_neg (by simp)]
  by_cases h1:v.op=1
  ·rw [if_pos h1] at h;simp only [AwW,AwX] at h;obtain ⟨rfl,rfl,rfl,_⟩:=h;refine ⟨Int.le_refl _,fun s2 a b=>?_⟩;rw [goal s2,if_pos h1];simp only [AwW,AwX,true_and,and_true];omega
  ·rw [if_neg h1] at h;cases hr:AU (fun s nd e k u=>AI f s nd e k u (d+1)) f v.op u 0 v.k s (nd+1) 0 with
   | none=>rw [hr] at h;cases h
   | some q =>
    obtain ⟨us,s3,nd3,e3⟩:=q;rw [hr] at h;simp only [AwZ,AwW,AwX] at h;obtain ⟨rfl,rfl,rfl,rfl⟩:=h;obtain ⟨a1,a2⟩:=UH (fun s nd v u t s' nd' a=>ih s nd v u (d+1) t s' nd' a) (fun s nd e v u t s' nd' a=>CV a) v.op u v.k 0 s (nd+1) us s3 nd3 hr;refine ⟨a1,fun s2 a b=>?_⟩;rw [goal s2,if_neg h1,a2 s2 a b];rfl
theorem Hg {f:Nat} {op:Int} {env:List RV} {i:Nat} {t:Tm} {l:List Tm} {s:Int} {vs:List RV} {s1:Int} (hb:Ae op i=0) (h:AL (fun s e t=>Au f s e t env) op env i (t::l) s 0=some (vs,s1,0)) :
  ∃v s2 vs',Au f s 0 t env=some (v,s2,0)∧AL (fun s e t=>Au f s e t env) op env (i+1) l s2 0=some (vs',s1,0)∧vs=v::vs':=by
 rw [AL,if_neg (by omega)] at h;cases hv:Au f s 0 t env with
 | none=>simp only [hv] at h;cases h
 | some q =>
  obtain ⟨v,s2,e2⟩:=q;simp only [hv] at h;cases hk:AL (fun s e t=>Au f s e t env) op env (i+1) l s2 e2 with
  | none=>rw [hk] at h;cases h
  | some q =>
   obtain ⟨vs',s3,e3⟩:=q;rw [hk] at h;simp only [AwZ,AwW,AwX] at h;obtain ⟨rfl,rfl,rfl⟩:=h
   have:e2=0:=Fa _ (fun s e t v s' h=>B4 h) op env l _ _ _ _ _ hk
   subst this;exact ⟨v,s2,vs',rfl,hk,rfl⟩
theorem Tq {f:Nat} {op:Int} {env:List RV} {i:Nat} {s:Int} {vs:List RV} {s1:Int} (h:AL (fun s e t=>Au f s e t env) op env i [] s 0=some (vs,s1,0)):vs=[]∧s1=s:=by
 simp only [AL,AwW,AwX] at h;exact ⟨h.1.symm,h.2.1.symm⟩
theorem Fe {f:Nat} {op:Int} {env:List RV} {i:Nat} {t:Tm} {l:List Tm} {s s2:Int} {v:RV} {vs:List RV} {s1:Int} (hb:Ae op i=0) (h1:Au f s 0 t env=some (v,s2,0)) (h2:AL (fun s e t=>Au f s e t env) op env (i+1) l s2 0=some (vs,s1,0)) :
  AL (fun s e t=>Au f s e t env) op env i (t::l) s 0=some (v::vs,s1,0):=by
 rw [AL,if_neg (by omega)];simp only [h1];rw [h2];rfl
theorem Air {f:Nat} {op:Int} {env:List RV} {i:Nat} {t:Tm} {l:List Tm} {s:Int} {vs:List RV} {s1:Int} (hb:0<Ae op i) (h2:AL (fun s e t=>Au f s e t env) op env (i+1) l s 0=some (vs,s1,0)) :
  AL (fun s e t=>Au f s e t env) op env i (t::l) s 0=some (.clo env t::vs,s1,0):=by
 rw [AL,if_pos hb,h2];rfl
theorem My (f:Nat) (op:Int) (env:List RV) (i:Nat) (s:Int):AL (fun s e t=>Au f s e t env) op env i [] s 0=some ([],s,0):=rfl
theorem GV {f:Nat} {s:Int} {op n:Int} {ks:List Tm} {env:List RV} {vs:List RV} {s1:Int} {r:RV×Int×Int} (h1:op≠1) (he:env.length≤900000) (hf:ks.length<f) (hk:ks.length≤900000) (h:AL (fun s e t=>Au f s e t env) op env 0 ks s 0=some (vs,s1,0)) (hh:headR f s1 0 (.node op n vs)=some r):Au (f+1) s 0 (.mk op n ks) env=some r:=by
 rw [Au,if_neg (by simp),if_neg (by omega),if_neg h1,if_neg (by omega),if_neg (by omega)];simp only [h];exact hh
theorem MA {f:Nat} {s op n:Int} {k:List RV} (h0:0≤s) (h1:s≤1000000) (h:¬ (op=5∨op=8∨op=9∨op=13∨op=19∨op=30)):headR (f+1) s 0 (.node op n k)=some (.node op n k,s,0):=by
 have e:RV.op (.node op n k)=op:=rfl;rw [headR,if_neg (by simp),if_neg (by omega),e,if_neg (by omega),if_neg (by omega),if_neg (by omega),if_neg (by omega),if_neg (by omega)]
theorem Akd {f:Nat} {s n m:Int} {va x:RV} {env:List RV} {b:Tm} {r:RV×Int×Int} (h0:0≤s) (h1:s+1≤1000) (he:env.length≤900000) (h:Au f (s+1) 0 b (env++[x])=some r):headR (f+1) s 0 (.node 5 n [.node 4 m [va,.clo env b],x])=some r:=by
 rw [headR,if_neg (by simp),if_neg (by omega),if_pos (show RV.op (.node 5 n [.node 4 m [va,.clo env b],x])=5 from rfl)]
 simp only [RV.node,RV.k,List.getElem?_cons_zero];rw [if_pos (show RV.op (.mk 4 m [va,.clo env b] [] .z)=4 from rfl),if_pos h1]
 simp only [List.getElem?_cons_zero,List.getElem?_cons_succ];rw [show (RV.clo env b).env=env from rfl,show (RV.clo env b).b=b from rfl,if_neg (by omega)]
 exact h
theorem Aks {f:Nat} {s n m:Int} {va x y:RV} (h0:0≤s) (h1:s+1≤1000):headR (f+1) s 0 (.node 8 n [.node 7 m [va,x,y]])=some (x,s+1,0):=by
 rw [headR,if_neg (by simp),if_neg (by omega),show RV.op (.node 8 n [.node 7 m [va,x,y]])=8 from rfl,if_neg (by decide),if_pos (by decide)]
 simp only [RV.node,RV.k,List.getElem?_cons_zero];rw [if_pos (show RV.op (.mk 7 m [va,x,y] [] .z)=7 from rfl),if_pos h1]
 rfl
theorem Af8 {f:Nat} {s n m:Int} {ws:List RV} {v:RV} {s':Int} (h:headR (f+1) s 0 (.node 8 n [.node 7 m ws])=some (v,s',0)):s+1≤1000:=by
 rw [headR,if_neg (by simp)] at h;by_cases hs:s<0∨1000000<s
 ·rw [if_pos hs] at h;cases h
 rw [if_neg hs,show RV.op (.node 8 n [.node 7 m ws])=8 from rfl,if_neg (by decide),if_pos (by decide)] at h
 simp only [RV.node,RV.k,List.getElem?_cons_zero] at h;rw [if_pos (show RV.op (.mk 7 m ws [] .z)=7 from rfl)] at h
 by_cases h1:s+1≤1000
 ·exact h1
 ·rw [if_neg h1] at h;simp at h
theorem YJ {f:Nat} {s:Int} {x:RV} {env:List RV} (he:env.length<900000):Au (f+1) s 0 (.mk 1 0 []) (env++[x])=some (x,s,0):=by
 rw [Au,if_neg (by simp),if_neg (by simp only [List.length_append,Aw0,List.length_nil];omega),if_pos rfl,if_pos (by simp only [List.length_append,Aw0,List.length_nil];omega),if_pos (by omega)];rw [show ((((env++[x]).length:Nat):Int) - 1 - 0).toNat=env.length by simp only [List.length_append,Aw0,List.length_nil];omega]
 simp
theorem Aj9:∀f s nd v u d t s' nd',AI f s nd 0 v u d=some (t,s',nd',0)→nd'=nd+t.wt∧(s≤1000→s'≤1000):=by
 intro f
 induction f with
 | zero=>intro s nd v u d t s' nd' h;rw [AI] at h;cases h
 | succ f ih =>
  intro s nd v u d t s' nd' h;have hk:∀(l:List RV) (i:Nat) (s nd:Int) (ts:List Tm) (s' nd':Int),AU (fun s nd e k u=>AI f s nd e k u (d+1)) f v.op u i l s nd 0=some (ts,s',nd',0)→nd'=nd+Tm.wtL ts∧(s≤1000→s'≤1000):=by
   intro l
   induction l with
   | nil =>
    intro i s nd ts s' nd' h;simp only [AU,AwW,AwX] at h;obtain ⟨rfl,rfl,rfl,_⟩:=h;exact ⟨by simp [Tm.wtL],fun h=>h⟩
   | cons k l ihl =>
    intro i s nd ts s' nd' h;simp only [AU] at h;split at h
    ·cases h
    rename_i k1 s1 e1 hk;split at h
    ·cases h
    rename_i t s2 nd2 e2 hr;cases hrest:AU (fun s nd e k u=>AI f s nd e k u (d+1)) f v.op u (i+1) l s2 nd2 e2 with
    | none=>rw [hrest] at h;cases h
    | some q =>
     obtain ⟨ts2,s3,nd3,e3⟩:=q;rw [hrest] at h;simp only [AwZ,AwW,AwX] at h;obtain ⟨rfl,rfl,rfl,rfl⟩:=h
     have:=I1 l _ _ _ _ _ _ _ hrest
     subst this
     have:=CV hr
     subst this;have a:=ih _ _ _ _ _ _ _ _ hr;have b:=ihl _ _ _ _ _ _ hrest;have c:s≤1000→s1≤1000:=by
      split at hk
      ·split at hk
       ·cases hk
       ·exact (UB f).1 _ _ _ _ _ hk
      ·simp only [AwW,AwX] at hk;intro h;omega
     simp only [Tm.wtL];exact ⟨by omega,fun h=>b.2 (a.2 (c h))⟩
  rcases KN h with ⟨_,rfl⟩ | ⟨_,ts,h1,rfl⟩
  ·rename_i h1;rw [AI] at h;split at h
   ·cases h
   by_cases h3:(0:Int)=0∧(3000<nd+1∨120<d)
   ·rw [if_pos h3,if_pos (by decide)] at h;simp at h
   rw [if_neg h3,if_neg (by simp)] at h;simp only [AwW,AwX] at h;simp only [Tm.wt,Tm.wtL];exact ⟨by omega,fun _=>by omega⟩
  ·have:=hk _ _ _ _ _ _ _ h1
   simp only [Tm.wt];exact ⟨by omega,this.2⟩
theorem AoG {f:Nat} {op u d:Int} {i:Nat} {k:RV} {l:List RV} {s nd:Int} {ts:List Tm} {s1 nd1:Int} (hb:Ae op i=0) (h:AU (fun s nd e k u=>AI f s nd e k u d) f op u i (k::l) s nd 0=some (ts,s1,nd1,0)) :
  ∃t s2 nd2 ts',AI f s nd 0 k u d=some (t,s2,nd2,0)∧AU (fun s nd e k u=>AI f s nd e k u d) f op u (i+1) l s2 nd2 0=some (ts',s1,nd1,0)∧ts=t::ts':=by
 rw [AU,if_neg (by omega),hb] at h;simp only [Int.ofNat_zero,Int.add_zero] at h;split at h
 ·cases h
 rename_i t s2 nd2 e2 hr;cases hrest:AU (fun s nd e k u=>AI f s nd e k u d) f op u (i+1) l s2 nd2 e2 with
 | none=>rw [hrest] at h;cases h
 | some q =>
  obtain ⟨ts2,s3,nd3,e3⟩:=q;rw [hrest] at h;simp only [AwZ,AwW,AwX] at h;obtain ⟨rfl,rfl,rfl,rfl⟩:=h
  have:=I1 l _ _ _ _ _ _ _ hrest
  subst this;exact ⟨t,s2,nd2,ts2,hr,hrest,rfl⟩
theorem XG {f:Nat} {op u d:Int} {i:Nat} {k:RV} {l:List RV} {s nd s2 nd2:Int} {t:Tm} {ts:List Tm} {s1 nd1:Int} (hb:Ae op i=0) (h1:AI f s nd 0 k u d=some (t,s2,nd2,0)) (h2:AU (fun s nd e k u=>AI f s nd e k u d) f op u (i+1) l s2 nd2 0=some (ts,s1,nd1,0)) :
  AU (fun s nd e k u=>AI f s nd e k u d) f op u i (k::l) s nd 0=some (t::ts,s1,nd1,0):=by
 rw [AU,if_neg (by omega),hb];simp only [Int.ofNat_zero,Int.add_zero,h1];rw [h2];rfl
theorem AgX {f:Nat} {s nd u d op n:Int} {k:List RV} {ts:List Tm} {s' nd':Int} (h0:0≤nd) (h1:nd+1≤3000) (h2:0≤u) (h3:u≤1000000) (h4:0≤d) (h5:d≤120) (h6:-2305843009213693952≤n) (h7:n≤2305843009213693952) (h8:k.length<f) (h9:k.length≤900000) (h10:3<f) (ho:op≠1)
  (h:AU (fun s nd e k u=>AI f s nd e k u (d+1)) f op u 0 k s (nd+1) 0=some (ts,s',nd',0)):AI (f+1) s nd 0 (.node op n k) u d=some (.mk op n ts,s',nd',0):=by
 have e1:RV.op (.node op n k)=op:=rfl;have e2:RV.n (.node op n k)=n:=rfl;have e3:RV.k (.node op n k)=k:=rfl;rw [AI,e1,e2,e3,if_neg (by omega),if_neg (by simp;omega),if_neg ho,h];rfl
def Uq (a t:Tm):Nat→Tm
 | 0=>.mk 4 0 [.mk 10 0 [],t.shift 1 0]
 | 1=>.mk 7 0 [.mk 6 0 [a,.mk 10 0 []],t,.mk 11 0 []]
 | 2=>.mk 5 0 [.mk 4 0 [a,.mk 1 0 []],t]
 | 3=>.mk 13 0 [a.shift 1 0,t,.mk 1 0 [],.mk 12 0 [.mk 11 0 []]]
 | _=>.mk 8 0 [.mk 7 0 [.mk 6 0 [a,.mk 10 0 []],t,.mk 11 0 []]]
theorem AfM (a t:Tm) (w:Nat):(Uq a t w).wt≤a.wt+t.wt+6:=by
 match w with
 | 0 | 1 | 2 | 3 | w+4=>simp only [Uq,Tm.wt,Tm.wtL,CA];omega
theorem SX {a t:Tm} {k:Nat} (ha:a.sc k) (ht:t.sc k) (hk:k≤1000) (aw:a.wt≤100000) (tw:t.wt≤100000) (w:Nat):(Uq a t w).sc k:=by
 have nt:∀k,(Tm.mk 10 0 []).sc k:=fun k=>Cb (by decide) (by decide) (Bm (by decide) (by decide) (by decide));have zt:∀k,(Tm.mk 11 0 []).sc k:=fun k=>Cb (by decide) (by decide) (Bm (by decide) (by decide) (by decide));have sg:(Tm.mk 6 0 [a,.mk 10 0 []]).sc k:=Ca rfl (by decide) (Bm (by decide) (by decide) (by decide)) ha (nt _);have pr:(Tm.mk 7 0 [.mk 6 0 [a,.mk 10 0 []],t,.mk 11 0 []]).sc k:=TF rfl (by decide) (Bm (by decide) (by decide) (by decide)) sg ht (zt _);have a1:(a.shift 1 0).sc (k+1):=by have:=Fb a 1 0 k ha (by omega);simpa using this
 have t1:(t.shift 1 0).sc (k+1):=by have:=Fb t 1 0 k ht (by omega);simpa using this
 match w with
 | 0=>exact Ca rfl (by decide) (Bm (by decide) (by decide) (by decide)) (nt _) t1
 | 1=>exact pr
 | 2=>exact Ca rfl (by decide) (Bm (by decide) (by decide) (by decide)) (Ca rfl (by decide) (Bm (by decide) (by decide) (by decide)) ha (Wd (by decide) (by simp [Ae]))) ht
 | 3=>exact AhS rfl (by decide) (Bm (by decide) (by decide) (by decide)) a1 ht (Wd (by decide) (by simp [Ae];omega)) (Ep rfl (by decide) (Bm (by decide) (by decide) (by decide)) (zt _))
 | w+4=>exact Ep rfl (by decide) (Bm (by decide) (by decide) (by decide)) pr
theorem R5 {G:List Nat} {a t:Tm} {s:Nat} (hs:s<6) (ha:HasT G a (10+s)) (ht:HasT G t s) (hG:G.length≤1000) (aw:a.wt≤100000) (tw:t.wt≤100000) (w:Nat):∃s',HasT G (Uq a t w) s':=by
 have sg:HasT G (.mk 6 0 [a,.mk 10 0 []]) 2:=ht2 (.sigU 0 (10+s) 2 (by omega)) ha (ht0 .natU);have pr:HasT G (.mk 7 0 [.mk 6 0 [a,.mk 10 0 []],t,.mk 11 0 []]) 5:=ht3 (.pair 2 s 0) sg ht (ht0 .zero);have t1:=Lm ht [0] (by simp only [Aw0,List.length_nil];omega);have a1:=Lm ha [0] (by simp only [Aw0,List.length_nil];omega)
 match w with
 | 0=>exact ⟨4,ht2 (.lam 0 s 2 (by omega)) (ht0 .natU) t1⟩
 | 1=>exact ⟨5,pr⟩
 | 2=>exact ⟨s,.app G 0 0 a (.mk 1 0 []) t s s (10+s) (by omega) (by omega) ha (.var _ 0 s (by decide) rfl (by omega)) ht⟩
 | 3=>exact ⟨s,ht4 (.recR s hs) a1 ht (.var _ 0 s (by decide) rfl (by omega)) (ht1 .suc (ht0 .zero))⟩
 | w+4=>exact ⟨s,.fst G 0 0 _ t (.mk 11 0 []) s 0 2 (by omega) sg ht (ht0 .zero)⟩
theorem PF {t t':Tm} {k:Nat} (h:Pars t t') (ht:t.sc k) (ht':t'.sc k) (hk:k≤1000) (tw:t.wt≤100000) (tw':t'.wt≤100000):Pars (t.shift 1 0) (t'.shift 1 0):=by
 have e1:=L1 t 1 0 k ht (by omega);have e2:=L1 t' 1 0 k ht' (by omega);rw [show ((0:Nat):Int)=0 from rfl,show ((1:Nat):Int)=1 from rfl] at e1 e2
 rw [e1,e2,JL,JL];exact Aia h _
theorem AiK {a t n:Tm} {k:Nat} (h:Pars t n) (ht:t.sc k) (hn:n.sc k) (hk:k≤1000) (tw:t.wt≤100000) (nw:n.wt≤100000) (w:Nat):Pars (Uq a t w) (Uq a n w):=by
 have pr:Pars (Tm.mk 7 0 [.mk 6 0 [a,.mk 10 0 []],t,.mk 11 0 []]) (Tm.mk 7 0 [.mk 6 0 [a,.mk 10 0 []],n,.mk 11 0 []]):=by
  refine En (by decide) rfl fun i x y hx hy=>?_
  match i with
  | 0=>simp only [List.getElem?_cons_zero,AwW] at hx hy;subst hx;subst hy;exact .refl _
  | 1=>simp only [List.getElem?_cons_succ,List.getElem?_cons_zero,AwW] at hx hy;subst hx;subst hy;exact h
  | 2=>simp only [List.getElem?_cons_succ,List.getElem?_cons_zero,AwW] at hx hy;subst hx;subst hy;exact .refl _
  | i+3=>simp at hx
 match w with
 | 0 =>
  refine En (by decide) rfl fun i x y hx hy=>?_
  match i with
  | 0=>simp only [List.getElem?_cons_zero,AwW] at hx hy;subst hx;subst hy;exact .refl _
  | 1=>simp only [List.getElem?_cons_succ,List.getElem?_cons_zero,AwW] at hx hy;subst hx;subst hy;exact PF h ht hn hk tw nw
  | i+2=>simp at hx
 | 1=>exact pr
 | 2 =>
  refine En (by decide) rfl fun i x y hx hy=>?_
  match i with
  | 0=>simp only [List.getElem?_cons_zero,AwW] at hx hy;subst hx;subst hy;exact .refl _
  | 1=>simp only [List.getElem?_cons_succ,List.getElem?_cons_zero,AwW] at hx hy;subst hx;subst hy;exact h
  | i+2=>simp at hx
 | 3 =>
  refine En (by decide) rfl fun i x y hx hy=>?_
  match i with
  | 0 | 2 | 3=>simp only [List.getElem?_cons_succ,List.getElem?_cons_zero,AwW] at hx hy;subst hx;subst hy;exact .refl _
  | 1=>simp only [List.getElem?_cons_succ,List.getElem?_cons_zero,AwW] at hx hy;subst hx;subst hy;exact h
  | i+4=>simp at hx
 | w+4 =>
  refine En (by decide) rfl fun i x y hx hy=>?_
  match i with
  | 0=>simp only [List.getElem?_cons_zero,AwW] at hx hy;subst hx;subst hy;exact pr
  | i+1=>simp at hx
theorem JU {n:Tm} {k:Nat} (hn:n.stl) (hsc:n.sc k) (hk:k≤1000) (hw:n.wt≤3000) {s:Int} (h0:0≤s) (h1:s≤1000000):∃f,∀g,f≤g→Au g s 0 n []=some (n.val 0,s,0):=by
 obtain ⟨f,hf⟩:=Mn h0 h1 k (n.wt+1) n 0 (by omega) hn (by simpa using hsc) (by omega);exact ⟨f,fun g hg=>BM hg hf⟩
theorem Ol {n:Tm} {k:Nat} (hn:n.stl) (hsc:n.sc k) (hk:k≤1000) (hw:n.wt≤3000) {s:Int} (h0:0≤s) (h1:s≤1000000) {nd d:Int} (h2:0≤nd) (h3:nd+n.wt≤3000) (h4:1≤d) (h5:d+n.dp≤121):∃f,∀g,f≤g→AI g s nd 0 (n.val 0) 0 d=some (n,s,nd+n.wt,0):=by
 obtain ⟨f,hf⟩:=Qp h0 h1 k (n.wt+1) n 0 nd d (by omega) hn (by simpa using hsc) (by omega) h2 h3 h4 h5;exact ⟨f,fun g hg=>Cv hg hf⟩
theorem J2 {f:Nat} {x X:Tm} (h:AK f x=some (X,0)):∃v s s' nd',Au f 0 0 x []=some (v,s,0)∧AI f s 0 0 v 0 1=some (X,s',nd',0):=by
 rw [AK] at h;split at h
 ·cases h
 rename_i v s e he;split at h
 ·cases h
 rename_i u s2 nd2 e2 hr;by_cases h2:e2=0
 ·subst h2;rw [if_neg (by simp)] at h;simp only [AwW,AwX,and_true] at h;subst h
  have:=CV hr
  subst this;exact ⟨v,s,s2,nd2,he,hr⟩
 ·rw [if_pos h2] at h;simp only [AwW,AwX] at h;exact absurd h.2 h2
theorem IA {f g:Nat} {x X:Tm} {v:RV} {s s' nd':Int} (h1:Au f 0 0 x []=some (v,s,0)) (h2:AI g s 0 0 v 0 1=some (X,s',nd',0)):∃F,AK F x=some (X,0):=by
 refine ⟨f+g,?_⟩;rw [AK,BM (show f≤f+g by omega) h1]
 simp only;rw [Cv (show g≤f+g by omega) h2]
 simp
theorem Apn {a t n X:Tm} {k f:Nat} (h:AK f (.mk 5 0 [.mk 4 0 [a,.mk 1 0 []],t])=some (X,0)) (hn:n.stl) (nsc:n.sc k) (hk:k≤1000) (nw:n.wt≤3000) (ndp:n.dp≤120):∃F,AK F (.mk 5 0 [.mk 4 0 [a,.mk 1 0 []],n])=some (n,0):=by
 obtain ⟨v,s,s',nd',h1,h2⟩:=J2 h;have hs:s≤1000:=(UB f).1 _ _ _ _ _ h1 (by omega)
 match f,h1 with
 | f+1,h1 =>
  obtain ⟨vs,s1,hk1,hh⟩:=Di h1 (by decide);obtain ⟨vl,sl,vs1,hl,hk2,rfl⟩:=Hg rfl hk1;obtain ⟨vt,st,vs2,ht,hk3,rfl⟩:=Hg rfl hk2;obtain ⟨rfl,rfl⟩:=Tq hk3;obtain ⟨va,rfl⟩:=Tk hl
  match f,hh with
  | f+1,hh =>
   have h3:=U1 hh
   match f,h3 with
   | f+1,h3 =>
    have e3:=(RM h3 (by omega)).2;have l1:=((Ft _).1 _ _ _ _ _ hl).1;have l2:=((Ft _).1 _ _ _ _ _ ht).1;obtain ⟨fn,hfn⟩:=JU hn nsc hk nw (s:=sl) l1 (by omega);obtain ⟨fr,hfr⟩:=Ol hn nsc hk nw (s:=sl+1) (by omega) (by omega) (nd:=0) (d:=1) (by omega) (by omega) (by omega) (by omega);refine IA (f:=fn+f+10+1) (g:=fr) (GV (by decide) (by simp) (by simp) (by simp) (Fe rfl (BM (by omega) hl) (Fe rfl (hfn _ (by omega)) (My _ _ _ _ _))) ?_) (hfr fr (Nat.le_refl _));exact Akd l1 (by omega) (by simp) (YJ (by simp))
theorem AoD {a t n X:Tm} {k f:Nat} (h:AK f (.mk 8 0 [.mk 7 0 [.mk 6 0 [a,.mk 10 0 []],t,.mk 11 0 []]])=some (X,0)) (hn:n.stl) (nsc:n.sc k) (hk:k≤1000) (nw:n.wt≤3000) (ndp:n.dp≤120):∃F,AK F (.mk 8 0 [.mk 7 0 [.mk 6 0 [a,.mk 10 0 []],n,.mk 11 0 []]])=some (n,0):=by
 obtain ⟨v,s,s',nd',h1,h2⟩:=J2 h
 match f,h1 with
 | f+1,h1 =>
  obtain ⟨vs,s1,hk1,hh⟩:=Di h1 (by decide);obtain ⟨vp,sp,vs1,hp,hk2,rfl⟩:=Hg rfl hk1;obtain ⟨rfl,rfl⟩:=Tq hk2
  match f,hp,hh with
  | f+1,hp,hh =>
   obtain ⟨ws,s2,hkp,hhp⟩:=Di hp (by decide);obtain ⟨rfl,rfl⟩:=FD hhp (by decide);obtain ⟨va,sa,ws1,ha,hk3,rfl⟩:=Hg rfl hkp;obtain ⟨vt,st,ws2,ht,hk4,rfl⟩:=Hg rfl hk3;obtain ⟨vz,sz,ws3,hz,hk5,rfl⟩:=Hg rfl hk4;obtain ⟨rfl,rfl⟩:=Tq hk5;have hs:=Af8 hh;have l1:=((Ft _).1 _ _ _ _ _ ha).1;have l2:=((Ft _).1 _ _ _ _ _ ht).1;have l3:=((Ft _).1 _ _ _ _ _ hz).1;obtain ⟨fn,hfn⟩:=JU hn nsc hk nw (s:=sa) l1 (by omega);obtain ⟨fz,hfz⟩:=JU (n:=.mk 11 0 []) (k:=0) (by simp [Tm.stl,Tm.stlL,AkQ,Sa]) (Cb (by decide) (by decide) (Bm (by decide) (by decide) (by decide))) (by omega) (by simp [Tm.wt,Tm.wtL]) (s:=sa) l1 (by omega);obtain ⟨fr,hfr⟩:=Ol hn nsc hk nw (s:=sa+1) (by omega) (by omega) (nd:=0) (d:=1) (by omega) (by omega) (by omega) (by omega);refine IA (f:=fn+fz+f+10+2) (g:=fr) (GV (by decide) (by simp) (by simp) (by simp) (Fe rfl (GV (by decide) (by simp) (by simp) (by simp) (Fe rfl (BM (by omega) ha) (Fe rfl (hfn _ (by omega)) (Fe rfl (hfz _ (by omega)) (My _ _ _ _ _)))) (MA l1 (by omega) (by decide))) (My _ _ _ _ _)) ?_) (hfr fr (Nat.le_refl _));exact Aks l1 (by omega)
theorem AhZ {f:Nat} {s n:Int} {k0 k1 k2 k3:RV} (h0:0≤s) (h1:s+1≤1000) (h:k3.op=11):headR (f+1) s 0 (.node 13 n [k0,k1,k2,k3])=some (k1,s+1,0):=by
 have hop:RV.op (.node 13 n [k0,k1,k2,k3])=13:=rfl;have hk:RV.k (.node 13 n [k0,k1,k2,k3])=[k0,k1,k2,k3]:=rfl;rw [headR,if_neg (by simp),if_neg (by omega),hop,if_neg (by decide),if_neg (by decide),if_neg (by decide),if_neg (by decide),if_pos rfl,hk];simp only [List.getElem?_cons_zero,List.getElem?_cons_succ];rw [if_pos h,if_pos h1]
theorem AgZ {f:Nat} {s n:Int} {k0 k1 k2 k3 x w:RV} {s2:Int} {r:RV×Int×Int} (h0:0≤s) (h1:s+1≤1000) (h:k3.op=12) (hx:k3.k[0]?=some x) (h2:headR f (s+1) 0 (.node 13 0 [k0,k1,k2,x])=some (w,s2,0)) (he:k2.env.length≤900000) (h3:Au f s2 0 k2.b (k2.env++[x,w])=some r):headR (f+1) s 0 (.node 13 n [k0,k1,k2,k3])=some r:=by
 have hop:RV.op (.node 13 n [k0,k1,k2,k3])=13:=rfl;have hk:RV.k (.node 13 n [k0,k1,k2,k3])=[k0,k1,k2,k3]:=rfl;rw [headR,if_neg (by simp),if_neg (by omega),hop,if_neg (by decide),if_neg (by decide),if_neg (by decide),if_neg (by decide),if_pos rfl,hk];simp only [List.getElem?_cons_zero,List.getElem?_cons_succ];rw [if_neg (by omega),if_pos h,if_pos h1,hx];simp only [h2];rw [if_neg (by omega)];exact h3
theorem WI:(Tm.mk 11 0 []).stl:=by simp [Tm.stl,Tm.stlL,AkQ,Sa]
theorem Agf (k:Nat):(Tm.mk 11 0 []).sc k:=Cb (by decide) (by decide) (Bm (by decide) (by decide) (by decide))
theorem Aqd {a n:Tm} {k:Nat} (hn:n.stl) (nsc:n.sc k) (hk:k≤1000) (nw:n.wt≤3000) (ndp:n.dp≤120):∃F,AK F (.mk 13 0 [a,n,.mk 1 0 [],.mk 12 0 [.mk 11 0 []]])=some (n,0):=by
 obtain ⟨fn,hfn⟩:=JU hn nsc hk nw (s:=0) (by omega) (by omega);obtain ⟨fz,hfz⟩:=JU WI (Agf 0) (by omega) (by simp [Tm.wt,Tm.wtL]) (s:=0) (by omega) (by omega);obtain ⟨fr,hfr⟩:=Ol hn nsc hk nw (s:=2) (by omega) (by omega) (nd:=0) (d:=1) (by omega) (by omega) (by omega) (by omega);have ez:(Tm.mk 11 0 []).val 0=.node 11 0 []:=by simp [Tm.val,Tm.valL]
 rw [ez] at hfz;refine IA (f:=fn+fz+10+2) (g:=fr) (GV (by decide) (by simp) (by simp) (by simp) (Air (by decide) (Fe rfl (hfn _ (by omega)) (Air (by decide) (Fe rfl (GV (by decide) (by simp) (by simp) (by simp) (Fe rfl (hfz _ (by omega)) (My _ _ _ _ _)) (MA (by omega) (by omega) (by decide))) (My _ _ _ _ _))))) ?_) (hfr fr (Nat.le_refl _));exact AgZ (by omega) (by omega) rfl rfl (AhZ (by omega) (by omega) rfl) (Nat.zero_le _) (YJ (env:=[_]) (by simp))
theorem Aqy {a t n A Z:Tm} {k f:Nat} (h:AK f (.mk 7 0 [.mk 6 0 [a,.mk 10 0 []],t,.mk 11 0 []])=some (.mk 7 0 [A,n,Z],0)) (hn:n.stl) (nsc:n.sc k) (hk:k≤1000) (nw:n.wt≤3000) (xw:(Tm.mk 7 0 [A,n,Z]).wt≤3000) (xd:(Tm.mk 7 0 [A,n,Z]).dp≤120) :
  ∃F Y,AK F (.mk 7 0 [.mk 6 0 [a,.mk 10 0 []],n,.mk 11 0 []])=some (Y,0):=by
 obtain ⟨v,s,s',nd',h1,h2⟩:=J2 h;have hs:s≤1000:=(UB f).1 _ _ _ _ _ h1 (by omega)
 match f,h1,h2 with
 | f+1,h1,h2 =>
  obtain ⟨ws,s2,hkp,hhp⟩:=Di h1 (by decide);obtain ⟨rfl,rfl⟩:=FD hhp (by decide);obtain ⟨va,sa,ws1,ha,hk3,rfl⟩:=Hg rfl hkp;obtain ⟨vt,st,ws2,ht,hk4,rfl⟩:=Hg rfl hk3;obtain ⟨vz,sz,ws3,hz,hk5,rfl⟩:=Hg rfl hk4;obtain ⟨rfl,rfl⟩:=Tq hk5;have l1:=((Ft _).1 _ _ _ _ _ ha).1;have l2:=((Ft _).1 _ _ _ _ _ ht).1;have l3:=((Ft _).1 _ _ _ _ _ hz).1;rcases KN h2 with ⟨h3,_⟩ | ⟨_,ts,h3,h4⟩
  ·exact absurd h3 (by show ¬ (7:Int)=1;decide)
  simp only [RV.op,RV.n,RV.k,RV.node] at h3 h4;obtain ⟨A',s3,nd3,ts',h5,_,rfl⟩:=AoG rfl h3;simp only [Tm.mk.injEq,List.cons.injEq,true_and] at h4;obtain ⟨rfl,h4⟩:=h4;have w5:=Aj9 _ _ _ _ _ _ _ _ _ h5;have m5:=AkM _ _ _ _ _ _ _ _ _ h5;have h6:=m5.2 sa l1 (by omega);have s3':=w5.2 hs;simp only [Tm.wt,Tm.wtL] at xw;simp only [Tm.dp,Tm.dpL] at xd;have zw:=HK Z;obtain ⟨fn,hfn⟩:=JU hn nsc hk nw (s:=sa) l1 (by omega);obtain ⟨fz,hfz⟩:=JU WI (Agf 0) (by omega) (by simp [Tm.wt,Tm.wtL]) (s:=sa) l1 (by omega);obtain ⟨fr,hfr⟩:=Ol hn nsc hk nw (s:=sa+(s3 - s)) (by omega) (by omega) (nd:=nd3) (d:=1+1) (by omega) (by omega) (by omega) (by omega);obtain ⟨fq,hfq⟩:=Ol WI (Agf 0) (by omega) (by simp [Tm.wt,Tm.wtL]) (s:=sa+(s3 - s)) (by omega) (by omega) (nd:=nd3+n.wt) (d:=1+1) (by omega) (by simp only [Tm.wt,Tm.wtL];omega) (by omega) (by simp [Tm.dp,Tm.dpL]);have he:Au (fn+fz+f+10+1) 0 0 (.mk 7 0 [.mk 6 0 [a,.mk 10 0 []],n,.mk 11 0 []]) []=some (.node 7 0 [va,n.val 0,(Tm.mk 11 0 []).val 0],sa,0) :=
   GV (by decide) (by simp) (by simp) (by simp) (Fe rfl (BM (by omega) ha) (Fe rfl (hfn _ (by omega)) (Fe rfl (hfz _ (by omega)) (My _ _ _ _ _)))) (MA l1 (by omega) (by decide))
  have hr:AI (f+fr+fq+10+1) sa 0 0 (.node 7 0 [va,n.val 0,(Tm.mk 11 0 []).val 0]) 0 1=some (.mk 7 0 [A,n,.mk 11 0 []],sa+(s3 - s),nd3+n.wt+(Tm.mk 11 0 []).wt,0) :=
   AgX (by omega) (by omega) (by omega) (by omega) (by omega) (by omega) (by omega) (by omega) (by simp) (by simp) (by omega) (by decide) (XG rfl (Cv (by omega) h6) (XG rfl (hfr _ (by omega)) (XG rfl (hfq _ (by omega)) rfl)))
  obtain ⟨F,Y⟩:=IA he hr;exact ⟨F,_,Y⟩
theorem Rh {G:List Nat} {a t n X:Tm} {s k f f1 w:Nat} (hs:s<6) (ha:HasT G a (10+s)) (ht:HasT G t s) (hG:G.length≤1000) (asc:a.sc k) (tsc:t.sc k) (hk:k≤1000) (aw:a.wt≤100000) (tw:t.wt≤100000) (hN:AK f1 t=some (n,0)) (ho:NOk k n)
  (h:AK f (Uq a t w)=some (X,0)) (hX:NOk k X) (nw:n.wt+2≤3000):∃F,AK F (Uq a n w)=some (X,0):=by
 have hnf:=CH hN ht;have hn:=KX hnf;have tn:=Es hN tsc;have nw':=ho.wt;have xsc:=SX asc tsc hk aw tw w;have ysc:=SX asc ho.sc hk aw (by omega) w;obtain ⟨s1,hx⟩:=R5 hs ha ht hG aw tw w;obtain ⟨s2,hy⟩:=R5 hs ha (G7 hnf) hG aw (by omega) w;have hp:=AiK (a:=a) tn tsc ho.sc hk tw (by omega) w;have xst:=KX (CH h hx);have xr:=Es h xsc;have key:∃F Y,AK F (Uq a n w)=some (Y,0):=by
  match w,h,xr with
  | 0,h,xr =>
   obtain ⟨d',S',rfl,_,h2⟩:=Ajb xr _ _ _ rfl;have e:S'=n.shift 1 0:=by
    rw [Tm.stl] at xst;exact W7 h2 (PF tn tsc ho.sc hk tw (by omega)) (.refl _) (.refl _) (FL xst.2 (by simp)) (MO _ n 1 0 (Nat.lt_succ_self _) hn)
   have hd:=hX.dp;rw [e] at hd;simp only [Tm.dp,Tm.dpL,D7] at hd;have hst:(Tm.mk 4 0 [.mk 10 0 [],n.shift 1 0]).stl:=Aql (by decide) (Nl _ _) (MO _ n 1 0 (Nat.lt_succ_self _) hn);obtain ⟨F,hF⟩:=HV hst ysc (by omega) (by simp only [Tm.wt,Tm.wtL,CA];omega) (by simp only [Tm.dp,Tm.dpL,D7];omega);exact ⟨F,_,hF⟩
  | 1,h,xr =>
   obtain ⟨A,n',Z,rfl,_,h2,_⟩:=AeL xr _ _ _ _ rfl;have e:n'=n:=by
    rw [Tm.stl] at xst;exact W7 h2 tn (.refl _) (.refl _) (FL xst.2 (by simp)) hn
   subst e;exact Aqy h hn ho.sc hk nw' hX.wt hX.dp
  | 2,h,_=>obtain ⟨F,hF⟩:=Apn h hn ho.sc hk nw' ho.dp;exact ⟨F,_,hF⟩
  | 3,h,_=>obtain ⟨F,hF⟩:=Aqd (a:=a.shift 1 0) hn ho.sc hk nw' ho.dp;exact ⟨F,_,hF⟩
  | w+4,h,_=>obtain ⟨F,hF⟩:=AoD h hn ho.sc hk nw' ho.dp;exact ⟨F,_,hF⟩
 obtain ⟨F,Y,hF⟩:=key
 have:=AlQ h hF xsc ysc hx hy hp
 subst this;exact ⟨F,hF⟩
theorem Vq {n:Nat} (hn:0<n) (x:Int) {m:Int} (h1:0<m) (h2:m≤4611686018427387904):Bl (SS dt n 28 [iv x,iv m] ⟨[],[]⟩) (.int .i64 (x % m)):=by
 obtain ⟨n,rfl⟩:=Nat.exists_eq_add_of_lt hn;rw [Nat.zero_add,c28];simp only [S28,↓XX,XY,↓reduceIte,Nat.reduceBEq,Nat.reduceAdd,Int.reduceEq,Int.reduceLT,Int.reduceLE,↓OB (show m≠0 by omega)]
 rw [← AhD h1 h2];by_cases hc:x.tmod m<0<;>simp only [hc,if_true,if_false]<;>exact Ao _ _
set_option maxRecDepth 20000 in
set_option maxHeartbeats 8000000 in
theorem QO {n:Nat} (a t:Tm) {which:Int} {w:Nat} (hw:which % 5=w) {k:Nat} (asc:a.sc k) (tsc:t.sc k) (aw:a.wt≤1000000) (tw:t.wt≤1000000) (hn:2 * a.wt+2 * t.wt+1000≤n):Bl (SS dt (n+1) 19 [.fv a.enc,.fv t.enc,iv which] ⟨[],[]⟩) (Uq a t w).enc:=by
 have h0:0<n:=by omega
 have sa:=CF n a 1 0 (by omega) (Fc a k asc) (by omega) (by omega);have st:=CF n t 1 0 (by omega) (Fc t k tsc) (by omega) (by omega);have hwi:=Vq h0 which (m:=5) (by decide) (by decide);rw [hw] at hwi;have v0:=Amb h0 0;have t10:=De (n:=n) h0 10;have t11:=De (n:=n) h0 11;have n1:=Ai7 (n:=n) 1 (by omega) (by omega);have en:(HD 1)=.mk 12 0 [.mk 11 0 []]:=rfl;rw [en] at n1;have hw5:w<5:=by omega
 have l4:=Cs (n:=n) h0 4 [.mk 10 0 [],t.shift 1 0];have l6:=Cs (n:=n) h0 6 [a,.mk 10 0 []];have l7:=Cs (n:=n) h0 7 [.mk 6 0 [a,.mk 10 0 []],t,.mk 11 0 []];have l4':=Cs (n:=n) h0 4 [a,.mk 1 0 []];have l5:=Cs (n:=n) h0 5 [.mk 4 0 [a,.mk 1 0 []],t];have l13:=Cs (n:=n) h0 13 [a.shift 1 0,t,.mk 1 0 [],.mk 12 0 [.mk 11 0 []]];have l8:=Cs (n:=n) h0 8 [.mk 7 0 [.mk 6 0 [a,.mk 10 0 []],t,.mk 11 0 []]];rw [c19]
 match w,hw5 with
 | 0,_ =>
  simp only [Uq];generalize a.shift 1 0=a1 at *;generalize t.shift 1 0=t1 at *;obtain ⟨o1,p1,k1⟩:=a;obtain ⟨o2,p2,k2⟩:=t;obtain ⟨o3,p3,k3⟩:=a1;obtain ⟨o4,p4,k4⟩:=t1;simp only [Ai,Aw2,Aw1] at sa st v0 t10 t11 n1 l4 l6 l7 l4' l5 l13 l8 ⊢;simp (maxSteps:=1000000) only [↓AfS,↓XX,XY,↓reduceIte,Nat.reduceBEq,Nat.reduceAdd,Int.reduceEq,Int.reduceLT,Int.reduceLE,↓AC,XD,heldB,AN,XE,OS,↓Ag hwi,↓Ag t10,↓AX st,↓CM,↓Ag l4];exact Ao _ _
 | 1,_ =>
  simp only [Uq];obtain ⟨o1,p1,k1⟩:=a;obtain ⟨o2,p2,k2⟩:=t;simp only [Ai,Aw2,Aw1] at v0 t10 t11 n1 l6 l7 ⊢;simp (maxSteps:=1000000) only [↓AfS,↓XX,XY,↓reduceIte,Nat.reduceBEq,Nat.reduceAdd,Int.reduceEq,Int.reduceLT,Int.reduceLE,↓AC,XD,heldB,AN,XE,OS,↓Ag hwi,↓Ag t10,↓Ag t11,↓CM,↓Ie,↓Ag l6,↓Ag l7];exact Ao _ _
 | 2,_ =>
  simp only [Uq];obtain ⟨o1,p1,k1⟩:=a;obtain ⟨o2,p2,k2⟩:=t;simp only [Ai,Aw2,Aw1] at v0 t10 t11 n1 l4' l5 ⊢;simp (maxSteps:=1000000) only [↓AfS,↓XX,XY,↓reduceIte,Nat.reduceBEq,Nat.reduceAdd,Int.reduceEq,Int.reduceLT,Int.reduceLE,↓AC,XD,heldB,AN,XE,OS,↓Ag hwi,↓Ag t10,↓As v0,↓CM,↓Ag l4',↓Ag l5];exact Ao _ _
 | 3,_ =>
  simp only [Uq];generalize a.shift 1 0=a1 at *;obtain ⟨o1,p1,k1⟩:=a;obtain ⟨o2,p2,k2⟩:=t;obtain ⟨o3,p3,k3⟩:=a1;simp only [Ai,Aw2,Aw1] at sa v0 t10 t11 n1 l13 ⊢;simp (maxSteps:=1000000) only [↓AfS,↓XX,XY,↓reduceIte,Nat.reduceBEq,Nat.reduceAdd,Int.reduceEq,Int.reduceLT,Int.reduceLE,↓AC,XD,heldB,AN,XE,OS,↓Ag hwi,↓Ag t10,↓AX sa,↓As v0,↓As n1,↓AmM,↓Ag l13];exact Ao _ _
 | 4,_ =>
  simp only [Uq];obtain ⟨o1,p1,k1⟩:=a;obtain ⟨o2,p2,k2⟩:=t;simp only [Ai,Aw2,Aw1] at v0 t10 t11 n1 l6 l7 l8 ⊢;simp (maxSteps:=1000000) only [↓AfS,↓XX,XY,↓reduceIte,Nat.reduceBEq,Nat.reduceAdd,Int.reduceEq,Int.reduceLT,Int.reduceLE,↓AC,XD,heldB,AN,XE,OS,↓Ag hwi,↓Ag t10,↓Ag t11,↓CM,↓Ie,↓E8,↓Ag l6,↓Ag l7,↓Ag l8];exact Ao _ _
theorem ArT {e:Int} (h:e=5∨e=17):(decide (e=17) || decide (e=5))=true:=by rcases h with rfl | rfl<;>rfl
theorem Aoj {e:Int} (h:e=0):(decide (e=17) || decide (e=5))=false:=by rw [h];rfl
structure PartsC (n:Nat) (le ge:FV) (r q a t nn:Tm) (is:Bool) (e:Int):Prop where
 hk:Bl (SS dt n 10 [] ⟨[],[]⟩) (.bool true)
 hm:Bl (SS dt n 11 [.fv le] ⟨[],[]⟩) (.bool true)
 fr:Bl (SS dt n 12 [.fv r.enc] ⟨[],[]⟩) (.bool true)
 fq:Bl (SS dt n 12 [.fv q.enc] ⟨[],[]⟩) (.bool true)
 h0:Bl (SS dt n 13 [.fv le,.fv r.enc,.fv q.enc,.fv (.bool false)] ⟨[],[]⟩) (.tuple [ge,a.enc,t.enc,.bool is])
 j1:Bl (SS dt n 17 [.fv t.enc] ⟨[],[]⟩) (.tuple [nn.enc,.int .i64 e])
 v1:Bl (SS dt n 15 [iv e] ⟨[],[]⟩) (.bool (decide (e=17) || decide (e=5)))
set_option maxRecDepth 20000 in
set_option maxHeartbeats 8000000 in
theorem Alo {n:Nat} {le:FV} {r q:Tm} {which:Int} {ml br bq:Bool} (hno:¬ (ml=true∧br=true∧bq=true)) (hk:Bl (SS dt n 10 [] ⟨[],[]⟩) (.bool true)) (hm:Bl (SS dt n 11 [.fv le] ⟨[],[]⟩) (.bool ml))
  (fr:Bl (SS dt n 12 [.fv r.enc] ⟨[],[]⟩) (.bool br)) (fq:Bl (SS dt n 12 [.fv q.enc] ⟨[],[]⟩) (.bool bq)) :
  Afx (SS dt (n+1) 4 [.fv le,.fv r.enc,.fv q.enc,iv which] ⟨[],[]⟩) (.bool true):=by
 rw [c4];obtain ⟨o1,p1,k1⟩:=r;obtain ⟨o2,p2,k2⟩:=q;simp only [Ai] at fr fq ⊢;cases ml
 ·simp (maxSteps:=1000000) only [↓UU1,↓XX,XY,↓reduceIte,Nat.reduceBEq,Nat.reduceAdd,Int.reduceEq,Int.reduceLT,Int.reduceLE,↓Eh hk,↓As hm];exact TD
 cases br
 ·simp (maxSteps:=1000000) only [↓UU1,↓XX,XY,↓reduceIte,Nat.reduceBEq,Nat.reduceAdd,Int.reduceEq,Int.reduceLT,Int.reduceLE,↓Eh hk,↓As hm,↓As fr];exact TD
 cases bq
 ·simp (maxSteps:=1000000) only [↓UU1,↓XX,XY,↓reduceIte,Nat.reduceBEq,Nat.reduceAdd,Int.reduceEq,Int.reduceLT,Int.reduceLE,↓Eh hk,↓As hm,↓As fr,↓As fq];exact TD
 exact absurd ⟨rfl,rfl,rfl⟩ hno
set_option maxRecDepth 20000 in
set_option maxHeartbeats 8000000 in
theorem Ae7 {n:Nat} {le ge:FV} {r q a t nn:Tm} {is:Bool} {e which:Int} (C:PartsC n le ge r q a t nn is e) (h:is=false∨e=5∨e=17) :
  Afx (SS dt (n+1) 4 [.fv le,.fv r.enc,.fv q.enc,iv which] ⟨[],[]⟩) (.bool true):=by
 obtain ⟨hk,hm,fr,fq,h0,j1,v1⟩:=C;rw [c4];obtain ⟨o1,p1,k1⟩:=r;obtain ⟨o2,p2,k2⟩:=q;obtain ⟨o4,p4,k4⟩:=t;obtain ⟨o6,p6,k6⟩:=a;obtain ⟨o8,p8,k8⟩:=nn;simp only [Ai] at fr fq h0 j1 ⊢;cases is
 ·simp (maxSteps:=1000000) only [↓UU1,↓XX,XY,↓reduceIte,Nat.reduceBEq,Nat.reduceAdd,Int.reduceEq,Int.reduceLT,Int.reduceLE,↓Eh hk,↓As hm,↓As fr,↓As fq,↓AE h0,↓As j1];exact TD
 ·rw [ArT (h.resolve_left (by simp))] at v1;simp (maxSteps:=1000000) only [↓UU1,↓XX,XY,↓reduceIte,Nat.reduceBEq,Nat.reduceAdd,Int.reduceEq,Int.reduceLT,Int.reduceLE,↓Eh hk,↓As hm,↓As fr,↓As fq,↓AE h0,↓As j1,↓As v1];exact TD
set_option maxRecDepth 20000 in
set_option maxHeartbeats 8000000 in
theorem AeP {n:Nat} {le ge:FV} {r q a t nn:Tm} {which:Int} (C:PartsC n le ge r q a t nn true 0) (h:500<t.wt∨500<nn.wt) (z1:Bl (SS dt n 18 [.fv t.enc] ⟨[],[]⟩) (.int .i64 t.wt)) (z2:Bl (SS dt n 18 [.fv nn.enc] ⟨[],[]⟩) (.int .i64 nn.wt)) :
  Afx (SS dt (n+1) 4 [.fv le,.fv r.enc,.fv q.enc,iv which] ⟨[],[]⟩) (.bool true):=by
 obtain ⟨hk,hm,fr,fq,h0,j1,v1⟩:=C;rw [c4];rw [Aoj rfl] at v1;generalize hT:t.wt=T at z1 h;generalize hW:nn.wt=W at z2 h;obtain ⟨o1,p1,k1⟩:=r;obtain ⟨o2,p2,k2⟩:=q;obtain ⟨o4,p4,k4⟩:=t;obtain ⟨o6,p6,k6⟩:=a;obtain ⟨o8,p8,k8⟩:=nn;simp only [Ai] at fr fq h0 j1 z1 z2 ⊢;by_cases hs:(500:Int)<T
 ·simp (maxSteps:=1000000) only [↓UU1,↓XX,XY,↓reduceIte,Nat.reduceBEq,Nat.reduceAdd,Int.reduceEq,Int.reduceLT,Int.reduceLE,↓Eh hk,↓As hm,↓As fr,↓As fq,↓AE h0,↓As j1,↓As v1,↓As z1,hs];exact TD
 ·have hs2:(500:Int)<W:=by omega
  simp (maxSteps:=1000000) only [↓UU1,↓XX,XY,↓reduceIte,Nat.reduceBEq,Nat.reduceAdd,Int.reduceEq,Int.reduceLT,Int.reduceLE,↓Eh hk,↓As hm,↓As fr,↓As fq,↓AE h0,↓As j1,↓As v1,↓As z1,hs,↓As z2,hs2];exact TD
set_option maxRecDepth 20000 in
set_option maxHeartbeats 16000000 in
theorem Aiz {n:Nat} {le ge:FV} {r q a t nn x y X:Tm} {which h:Int} (C:PartsC n le ge r q a t nn true 0) (hs1:t.wt≤500) (hs2:nn.wt≤500) (z1:Bl (SS dt n 18 [.fv t.enc] ⟨[],[]⟩) (.int .i64 t.wt)) (z2:Bl (SS dt n 18 [.fv nn.enc] ⟨[],[]⟩) (.int .i64 nn.wt))
  (ax:Bl (SS dt n 19 [.fv a.enc,.fv t.enc,iv which] ⟨[],[]⟩) x.enc) (ay:Bl (SS dt n 19 [.fv a.enc,.fv nn.enc,iv which] ⟨[],[]⟩) y.enc)
  (j2:Bl (SS dt n 17 [.fv x.enc] ⟨[],[]⟩) (.tuple [X.enc,.int .i64 h])) (v2:Bl (SS dt n 15 [iv h] ⟨[],[]⟩) (.bool (decide (h=17) || decide (h=5))))
  (hx:(h=5∨h=17)∨h=0∧Bl (SS dt n 16 [.fv t.enc,.fv nn.enc] ⟨[],[]⟩) (.tuple [.bool true,.int .i64 0])∧Bl (SS dt n 16 [.fv x.enc,.fv y.enc] ⟨[],[]⟩) (.tuple [.bool true,.int .i64 0])∧Bl (SS dt n 16 [.fv t.enc,.fv t.enc] ⟨[],[]⟩) (.tuple [.bool true,.int .i64 0])) :
  Afx (SS dt (n+1) 4 [.fv le,.fv r.enc,.fv q.enc,iv which] ⟨[],[]⟩) (.bool true):=by
 obtain ⟨hk,hm,fr,fq,h0,j1,v1⟩:=C;rw [c4];rw [Aoj rfl] at v1;have hs1':¬ (500:Int)<t.wt:=by omega
 have hs2':¬ (500:Int)<nn.wt:=by omega
 generalize hT:t.wt=T at z1 hs1';generalize hW:nn.wt=W at z2 hs2';obtain ⟨o1,p1,k1⟩:=r;obtain ⟨o2,p2,k2⟩:=q;obtain ⟨o4,p4,k4⟩:=t;obtain ⟨o6,p6,k6⟩:=a;obtain ⟨o8,p8,k8⟩:=nn;obtain ⟨ox,px,kx⟩:=x;obtain ⟨oy,py,ky⟩:=y;obtain ⟨oX,pX,kX⟩:=X;simp only [Ai] at fr fq h0 j1 z1 z2 ax ay j2 hx ⊢;rcases hx with hx | ⟨rfl,q1,q2,q3⟩
 ·rw [ArT hx] at v2;simp (maxSteps:=1000000) only [↓UU1,↓XX,XY,↓reduceIte,Nat.reduceBEq,Nat.reduceAdd,Int.reduceEq,Int.reduceLT,Int.reduceLE,↓AC,XD,heldB,AN,XE,OS,↓Eh hk,↓As hm,↓As fr,↓As fq,↓AE h0,↓As j1,↓As v1,↓As z1,hs1',↓As z2,hs2',↓AX ax,↓AX ay,↓As j2,↓As v2];exact TD
 ·rw [Aoj rfl] at v2;simp (maxSteps:=1000000) only [↓UU1,↓XX,XY,↓reduceIte,Nat.reduceBEq,Nat.reduceAdd,Int.reduceEq,Int.reduceLT,Int.reduceLE,↓AC,XD,heldB,AN,XE,OS,↓Eh hk,↓As hm,↓As fr,↓As fq,↓AE h0,↓As j1,↓As v1,↓As z1,hs1',↓As z2,hs2',↓AX ax,↓AX ay,↓As j2,↓As v2,↓Ag q1,↓Ag q2,↓Ag q3];exact TD
set_option maxRecDepth 20000 in
set_option maxHeartbeats 8000000 in
theorem P3 (l:List Tm) (hll:l.length≤9223372036854775807) (r q:Tm) (which:Int):∃N,Afx (SS dt N 4 [.fv (.sl (l.map Tm.enc)),.fv r.enc,.fv q.enc,.fv (.int .i64 which)] ⟨[],[]⟩) (.bool true):=by
 by_cases hb:Ai8 l=true∧decide (r.count 300<300)=true∧decide (q.count 300<300)=true
 case neg =>
  obtain ⟨m,hm⟩:∃m,m=Tm.wtL l+r.wt+q.wt+10000000000:=⟨_,rfl⟩;exact ⟨m+1+1,Alo hb (O0 (by omega)) (Ack l hll (by omega)) (O2 r (by omega)) (O2 q (by omega))⟩
 obtain ⟨b1,b2,b4⟩:=hb;obtain ⟨g,a,t,is,⟨N0,h0⟩,hC,hpl,_⟩:=Alx l hll r q false;have hg4:=hC.len;have t4:=Rt t (show g.length≤4 by omega) hC.tsc
 have a4:=Rt a (show g.length≤4 by omega) hC.asc
 obtain ⟨nn,e,⟨N1,j1⟩,c1,f1,hf1⟩:=H8 (k:=4) (by omega) t4 (by have:=hC.tdp;omega);have nw:nn.wt≤3000:=by
  rcases c1 with ⟨_,h⟩ | ⟨_,rfl⟩
  ·exact h.wt
  ·simp [Tm.z,Tm.wt,Tm.wtL]
 have mk:∀n,N0+N1+Tm.wtL l+r.wt+q.wt+10000000000≤n→PartsC n (FV.sl (l.map Tm.enc)) (Be g) r q a t nn is e:=by
  intro n hn;obtain ⟨m,rfl⟩:∃m,n=m+1:=⟨n - 1,by omega⟩;have hm:=Ack l hll (n:=m+1) (by omega);have fr:=O2 (n:=m) r (by omega);have fq:=O2 (n:=m) q (by omega);rw [b1] at hm;rw [b2] at fr;rw [b4] at fq;exact ⟨O0 (by omega),hm,fr,fq,h0 _ (by omega),j1 _ (by omega),Vu (by omega) e⟩
 by_cases hgo:is=false∨e=5∨e=17
 ·exact ⟨_,Ae7 (mk _ (Nat.le_refl _)) hgo⟩
 obtain ⟨rfl,he⟩:is=true∧¬ (e=5∨e=17):=by
  cases is
  ·exact absurd (.inl rfl) hgo
  ·exact ⟨rfl,fun h=>hgo (.inr h)⟩
 obtain ⟨rfl,hX⟩:=c1.resolve_right (fun h=>he h.1);obtain ⟨G,hG,_,htw,_,_⟩:=Ae6 hC hpl;have hGl:=hG.len;obtain ⟨sa,hsa,ha⟩:=(Qd (hC.ga rfl) G hG).1 rfl;have ht:HasT G t sa:=(Qd (hC.gt rfl) G hG).2.1 rfl sa ha;have aw:=t_7 (hC.ga rfl);by_cases hsz:500<t.wt∨500<nn.wt
 ·obtain ⟨n,hn⟩:∃n,n=N0+N1+Tm.wtL l+r.wt+q.wt+10000000000:=⟨_,rfl⟩;exact ⟨n+1,AeP (mk n (by omega)) hsz (KO _ t (by omega) (by omega)) (KO _ nn (by omega) (by omega))⟩
 obtain ⟨w,hw⟩:∃w:Nat,which % 5=w:=⟨(which % 5).toNat,by omega⟩;have hnf:=CH hf1 ht;have xsc:=SX a4 t4 (by omega) (by omega) (by omega) w;have ysc:=SX a4 hX.sc (by omega) (by omega) (by omega) w;obtain ⟨s1,hxT⟩:=R5 hsa ha ht (by omega) (by omega) (by omega) w;obtain ⟨s2,hyT⟩:=R5 hsa ha (G7 hnf) (by omega) (by omega) (by omega) w;have xw:=AfM a t w;have yw:=AfM a nn w;obtain ⟨X,h,⟨N2,j2⟩,c2,f2,hf2⟩:=H8 (k:=4) (by omega) xsc (by have:=OZ (Uq a t w);omega);obtain ⟨M1,k1⟩:=AcP ht t4 (by omega) htw hf1;obtain ⟨M2,k2⟩:=AjV hnf hX.sc (by omega) hX.wt hX.dp;obtain ⟨M,hM⟩:∃M:Nat,∀n,M≤n→((h=5∨h=17)∨h=0∧Bl (SS dt n 16 [.fv t.enc,.fv nn.enc] ⟨[],[]⟩) (.tuple [.bool true,.int .i64 0])∧Bl (SS dt n 16 [.fv (Uq a t w).enc,.fv (Uq a nn w).enc] ⟨[],[]⟩) (.tuple [.bool true,.int .i64 0])∧Bl (SS dt n 16 [.fv t.enc,.fv t.enc] ⟨[],[]⟩) (.tuple [.bool true,.int .i64 0])):=by
  rcases c2 with ⟨rfl,hY⟩ | ⟨hh,_⟩
  case inr=>exact ⟨0,fun n _=>.inl hh⟩
  obtain ⟨F,hF⟩:=Rh hsa ha ht (by omega) a4 t4 (by omega) (by omega) (by omega) hf1 hX hf2 hY (by omega);obtain ⟨M3,k3⟩:=AcP hxT xsc (by omega) (by omega) hf2;obtain ⟨M4,k4⟩:=AcP hyT ysc (by omega) (by omega) hF;refine ⟨M1+M2+M3+M4+20002,fun n hn=>.inr ⟨rfl,?_⟩⟩;obtain ⟨n,rfl⟩:∃k,n=k+2:=⟨n - 2,by omega⟩;have q1:=ME (k1 n (by omega)) (k2 n (by omega)) hX.sc hX.sc (by omega) hX.wt hX.wt (by omega);have q2:=ME (k3 n (by omega)) (k4 n (by omega)) hY.sc hY.sc (by omega) hY.wt hY.wt (by omega);have q3:=ME (k1 n (by omega)) (k1 n (by omega)) hX.sc hX.sc (by omega) hX.wt hX.wt (by omega);rw [(NK nn.eta nn.eta).2 rfl] at q1 q3;rw [(NK X.eta X.eta).2 rfl] at q2;exact ⟨q1,q2,q3⟩
 obtain ⟨n,hnn⟩:∃n,n=M+N2+(N0+N1+Tm.wtL l+r.wt+q.wt+10000000000)+1:=⟨_,rfl⟩;obtain ⟨m,hm⟩:∃m,n=m+1:=⟨n - 1,by omega⟩;have ax:=QO (n:=m) a t hw a4 t4 (by omega) (by omega) (by omega);have ay:=QO (n:=m) a nn hw a4 hX.sc (by omega) (by omega) (by omega);rw [← hm] at ax ay;exact ⟨n+1,Aiz (mk n (by omega)) (by omega) (by omega) (KO _ t (by omega) (by omega)) (KO _ nn (by omega) (by omega)) ax ay (j2 n (by omega)) (Vu (by omega) h) (hM n (by omega))⟩
end Idl
end Go.Proofs.Ytaifgaidaglblaa

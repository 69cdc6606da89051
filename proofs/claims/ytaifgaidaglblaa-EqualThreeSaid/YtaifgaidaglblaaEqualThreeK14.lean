/-
  Texts of a proof, part 14: an ideal semantics of the program, its functions in shallow form, contracts of them. No statement of the seat is proved here.
-/
import Derived.Test.YtaifgaidaglblaaEqualThreeK13
set_option linter.all false
noncomputable section
namespace Go.Proofs.Ytaifgaidaglblaa
namespace Idl
def s1 (x:Tm):Nat→Tm
 | 0=>x
 | j+1=>vT j
def s2 (r k:Tm):Nat→Tm
 | 0=>r
 | 1=>k
 | j+2=>vT j
inductive Par:Tm→Tm→Prop
 | var (n:Int) (ks:List Tm):Par (.mk 1 n ks) (.mk 1 n ks)
 | node (op n:Int) (ks ks':List Tm) (h1:op≠1) (hl:ks'.length=ks.length) (hk:∀(i:Nat) a b,ks[i]?=some a→ks'[i]?=some b→Par a b):Par (.mk op n ks) (.mk op n ks')
 | beta (n m:Int) (a b b' x x':Tm) (hb:Par b b') (hx:Par x x'):Par (.mk 5 n [.mk 4 m [a,b],x]) (b'.sub (s1 x'))
 | fst (n m:Int) (a x x' y:Tm) (hx:Par x x'):Par (.mk 8 n [.mk 7 m [a,x,y]]) x'
 | snd (n m:Int) (a x y y':Tm) (hy:Par y y'):Par (.mk 9 n [.mk 7 m [a,x,y]]) y'
 | splq (c c':Tm) (hc:Par c c'):Par (.mk 30 0 [.mk 19 0 [c]]) c'
 | quos (c c':Tm) (hc:Par c c'):Par (.mk 19 0 [.mk 30 0 [c]]) c'
 | recz (n m:Int) (a z z' s:Tm) (l:List Tm) (hz:Par z z'):Par (.mk 13 n [a,z,s,.mk 11 m l]) z'
 | recs (n m:Int) (a a' z z' s s' k k':Tm) (ha:Par a a') (hz:Par z z') (hs:Par s s') (hk:Par k k'):Par (.mk 13 n [a,z,s,.mk 12 m [k]]) (s'.sub (s2 (.mk 13 0 [a',z',s',k']) k'))
theorem Aft:∀(m:Nat) (t:Tm),t.wt<m→Par t t:=by
 intro m
 induction m with
 | zero=>intro t h;omega
 | succ m ih =>
  intro t h;obtain ⟨op,n,ks⟩:=t;simp only [Tm.wt] at h;by_cases h1:op=1
  ·subst h1;exact .var n ks
  ·exact .node op n ks ks h1 rfl (fun i a b ha hb=>by
    rw [ha] at hb;cases hb;exact ih a (by have:=HX ha;omega))
theorem BD (t:Tm):Par t t:=Aft (t.wt+1) t (by omega)
theorem Nb (ρ:Nat→Nat):Md 0 ρ=ρ:=by
 funext i;simp [Md]
theorem M0 (σ:Nat→Tm):GG 0 σ=σ:=by
 funext i
 simp only [GG,Nat.not_lt_zero,if_false,Nat.sub_zero];rw [V1];exact Oy _
theorem Am5 (x:Tm) (ρ:Nat→Nat):(fun i=>(s1 x i).ren ρ)=fun i=>s1 (x.ren ρ) (Md 1 ρ i):=by
 funext i
 cases i with
 | zero=>simp [s1,Md]
 | succ i=>simp [s1,Md,Lo]
theorem Aql (r k:Tm) (ρ:Nat→Nat):(fun i=>(s2 r k i).ren ρ)=fun i=>s2 (r.ren ρ) (k.ren ρ) (Md 2 ρ i):=by
 funext i
 match i with
 | 0=>simp [s2,Md]
 | 1=>simp [s2,Md]
 | i+2 =>
  show (vT i).ren ρ=s2 _ _ (Md 2 ρ (i+2))
  rw [H7 (by omega),Lo,Nat.add_sub_cancel];rfl
theorem Lj (t:Tm) (k:Nat) (τ:Nat→Tm) (h:∀j,τ (j+k)=vT j):(t.ren fun j=>j+k).sub τ=t:=by
 rw [Ip]
 have:(fun i=>τ (i+k))=vT:=funext h
 rw [this,Oy]
theorem Aoc (x:Tm) (σ:Nat→Tm):(fun i=>(s1 x i).sub σ)=fun i=>(GG 1 σ i).sub (s1 (x.sub σ)):=by
 funext i
 cases i with
 | zero=>simp [s1,GG,JB]
 | succ i =>
  simp only [s1,GG,JB];rw [if_neg (by omega),Nat.add_sub_cancel,Lj _ _ _ (fun j=>rfl)]
theorem AoB (r k:Tm) (σ:Nat→Tm):(fun i=>(s2 r k i).sub σ)=fun i=>(GG 2 σ i).sub (s2 (r.sub σ) (k.sub σ)):=by
 funext i
 match i with
 | 0=>simp [s2,GG,JB]
 | 1=>simp [s2,GG,JB]
 | i+2 =>
  simp only [s2,GG,JB];rw [if_neg (by omega),Nat.add_sub_cancel,Lj _ _ _ (fun j=>rfl)]
theorem Aln {t t':Tm} (h:Par t t'):∀ρ,Par (t.ren ρ) (t'.ren ρ):=by
 induction h with
 | var n ks=>intro ρ;exact BD _
 | node op n ks ks' h1 hl hk ih =>
  intro ρ;rw [Tm.ren,if_neg h1,Tm.ren,if_neg h1];refine .node _ _ _ _ h1 (by rw [H9,H9,hl]) (fun i a b ha hb=>?_);rw [Ny,Nat.zero_add] at ha hb;cases hx:ks[i]? with
  | none=>rw [hx] at ha;cases ha
  | some x =>
   cases hy:ks'[i]? with
   | none=>rw [hy] at hb;cases hb
   | some y =>
    rw [hx] at ha;rw [hy] at hb;simp only [AwO,AwL] at ha hb;subst ha hb;exact ih i x y hx hy _
 | beta n m a b b' x x' hb hx ihb ihx =>
  intro ρ
  have:=Par.beta n m (a.ren (Md 0 ρ)) _ _ _ _ (ihb (Md 1 ρ)) (ihx ρ)
  rw [Kj,Am5,← Ip];simp only [Tm.ren,Tm.renL];rw [if_neg (by omega),if_neg (by omega)];simpa [Ae,Nb] using this
 | fst n m a x x' y hx ih =>
  intro ρ
  have:=Par.fst n m (a.ren ρ) _ _ (y.ren ρ) (ih ρ)
  simp only [Tm.ren,Tm.renL];rw [if_neg (by omega),if_neg (by omega)];simpa [Ae,Nb] using this
 | snd n m a x y y' hy ih =>
  intro ρ
  have:=Par.snd n m (a.ren ρ) (x.ren ρ) _ _ (ih ρ)
  simp only [Tm.ren,Tm.renL];rw [if_neg (by omega),if_neg (by omega)];simpa [Ae,Nb] using this
 | splq c c' hc ih =>
  intro ρ
  have:=Par.splq _ _ (ih ρ)
  simp only [Tm.ren,Tm.renL];rw [if_neg (by omega),if_neg (by omega)];simpa [Ae,Nb] using this
 | quos c c' hc ih =>
  intro ρ
  have:=Par.quos _ _ (ih ρ)
  simp only [Tm.ren,Tm.renL];rw [if_neg (by omega),if_neg (by omega)];simpa [Ae,Nb] using this
 | recz n m a z z' s l hz ih =>
  intro ρ
  have:=Par.recz n m (a.ren (Md 1 ρ)) _ _ (s.ren (Md 2 ρ)) (Tm.renL 11 0 l ρ) (ih ρ)
  simp only [Tm.ren,Tm.renL];rw [if_neg (by omega),if_neg (by omega)];simpa [Ae,Nb] using this
 | recs n m a a' z z' s s' k k' ha hz hs hk iha ihz ihs ihk =>
  intro ρ
  have:=Par.recs n m _ _ _ _ _ _ _ _ (iha (Md 1 ρ)) (ihz ρ) (ihs (Md 2 ρ)) (ihk ρ)
  rw [Kj,Aql,← Ip];simp only [Tm.ren,Tm.renL];rw [if_neg (by omega),if_neg (by omega),if_neg (by omega)];simpa [Ae,Nb] using this
theorem NY {σ σ':Nat→Tm} (h:∀i,Par (σ i) (σ' i)) (k:Nat):∀i,Par (GG k σ i) (GG k σ' i):=by
 intro i;simp only [GG];by_cases hi:i<k
 ·rw [if_pos hi,if_pos hi];exact BD _
 ·rw [if_neg hi,if_neg hi];exact Aln (h _) _
theorem Tv {t t':Tm} (h:Par t t'):∀σ σ',(∀i,Par (σ i) (σ' i))→Par (t.sub σ) (t'.sub σ'):=by
 induction h with
 | var n ks =>
  intro σ σ' hσ;rw [Tm.sub,if_pos rfl,Tm.sub,if_pos rfl];by_cases hn:n<0∨ks.isEmpty=false
  ·rw [if_pos hn,if_pos hn];exact BD _
  ·rw [if_neg hn,if_neg hn];exact hσ _
 | node op n ks ks' h1 hl hk ih =>
  intro σ σ' hσ;rw [Tm.sub,if_neg h1,Tm.sub,if_neg h1];refine .node _ _ _ _ h1 (by rw [K2,K2,hl]) (fun i a b ha hb=>?_);rw [Vo,Nat.zero_add] at ha hb;cases hx:ks[i]? with
  | none=>rw [hx] at ha;cases ha
  | some x =>
   cases hy:ks'[i]? with
   | none=>rw [hy] at hb;cases hb
   | some y =>
    rw [hx] at ha;rw [hy] at hb;simp only [AwO,AwL] at ha hb;subst ha hb;exact ih i x y hx hy _ _ (NY hσ _)
 | beta n m a b b' x x' hb hx ihb ihx =>
  intro σ σ' hσ
  have:=Par.beta n m (a.sub σ) _ _ _ _ (ihb _ _ (NY hσ 1)) (ihx _ _ hσ)
  rw [HB,Aoc,← HB];simp only [Tm.sub,Tm.subL];rw [if_neg (by omega),if_neg (by omega)];simpa [Ae,M0] using this
 | fst n m a x x' y hx ih =>
  intro σ σ' hσ
  have:=Par.fst n m (a.sub σ) _ _ (y.sub σ) (ih _ _ hσ)
  simp only [Tm.sub,Tm.subL];rw [if_neg (by omega),if_neg (by omega)];simpa [Ae,M0] using this
 | snd n m a x y y' hy ih =>
  intro σ σ' hσ
  have:=Par.snd n m (a.sub σ) (x.sub σ) _ _ (ih _ _ hσ)
  simp only [Tm.sub,Tm.subL];rw [if_neg (by omega),if_neg (by omega)];simpa [Ae,M0] using this
 | splq c c' hc ih =>
  intro σ σ' hσ
  have:=Par.splq _ _ (ih _ _ hσ)
  simp only [Tm.sub,Tm.subL];rw [if_neg (by omega),if_neg (by omega)];simpa [Ae,M0] using this
 | quos c c' hc ih =>
  intro σ σ' hσ
  have:=Par.quos _ _ (ih _ _ hσ)
  simp only [Tm.sub,Tm.subL];rw [if_neg (by omega),if_neg (by omega)];simpa [Ae,M0] using this
 | recz n m a z z' s l hz ih =>
  intro σ σ' hσ
  have:=Par.recz n m (a.sub (GG 1 σ)) _ _ (s.sub (GG 2 σ)) (Tm.subL 11 0 l σ) (ih _ _ hσ)
  simp only [Tm.sub,Tm.subL];rw [if_neg (by omega),if_neg (by omega)];simpa [Ae,M0] using this
 | recs n m a a' z z' s s' k k' ha hz hs hk iha ihz ihs ihk =>
  intro σ σ' hσ
  have:=Par.recs n m _ _ _ _ _ _ _ _ (iha _ _ (NY hσ 1)) (ihz _ _ hσ) (ihs _ _ (NY hσ 2)) (ihk _ _ hσ)
  rw [HB,AoB,← HB];simp only [Tm.sub,Tm.subL];rw [if_neg (by omega),if_neg (by omega),if_neg (by omega)];simpa [Ae,M0] using this
theorem YM {Q:Tm→Tm→Prop}:∀(ks:List Tm),(∀a∈ks,∃d,Q a d)→∃ds:List Tm,ds.length=ks.length∧∀(i:Nat) a d,ks[i]?=some a→ds[i]?=some d→Q a d
 | [],_=>⟨[],rfl,fun i a d h=>by simp at h⟩
 | a::l,h=>by
  obtain ⟨d,hd⟩:=h a List.mem_cons_self;obtain ⟨ds,h1,h2⟩:=YM l (fun a ha=>h a (List.mem_cons_of_mem _ ha));refine ⟨d::ds,by simp [h1],fun i x y hx hy=>?_⟩;cases i with
  | zero=>simp at hx hy;subst hx hy;exact hd
  | succ i=>simp at hx hy;exact h2 i x y hx hy
def ApH (op n:Int) (ks:List Tm):Prop:=(op=5∧∃m a b x,ks=[.mk 4 m [a,b],x])∨(op=8∧∃m a x y,ks=[.mk 7 m [a,x,y]])∨(op=9∧∃m a x y,ks=[.mk 7 m [a,x,y]])∨(op=30∧n=0∧∃c,ks=[.mk 19 0 [c]])∨(op=19∧n=0∧∃c,ks=[.mk 30 0 [c]]) ∨
 (op=13∧∃a z s m l,ks=[a,z,s,.mk 11 m l])∨(op=13∧∃a z s m k,ks=[a,z,s,.mk 12 m [k]])
theorem Amb {n op:Int} {x y:Tm} {t:Tm} (h:Par (.mk op n [x,y]) t) (ho:op≠1∧op≠5):∃x' y',t=.mk op n [x',y']∧Par x x'∧Par y y':=by
 cases h with
 | var=>exact absurd rfl ho.1
 | node _ _ _ ks' h1 hl hk =>
  obtain ⟨x',y',rfl⟩:=Kx hl;exact ⟨x',y',rfl,hk 0 x x' rfl rfl,hk 1 y y' rfl rfl⟩
 | beta=>exact absurd rfl ho.2
theorem Al1 {n op:Int} {x y z:Tm} {t:Tm} (h:Par (.mk op n [x,y,z]) t) (ho:op≠1):∃x' y' z',t=.mk op n [x',y',z']∧Par x x'∧Par y y'∧Par z z':=by
 cases h with
 | var=>exact absurd rfl ho
 | node _ _ _ ks' h1 hl hk =>
  obtain ⟨x',y',z',rfl⟩:=Aqa hl;exact ⟨x',y',z',rfl,hk 0 x x' rfl rfl,hk 1 y y' rfl rfl,hk 2 z z' rfl rfl⟩
theorem dev:∀(m:Nat) (t:Tm),t.wt<m→∃d,∀t',Par t t'→Par t' d:=by
 intro m
 induction m with
 | zero=>intro t h;omega
 | succ m ih =>
  intro t hw;obtain ⟨op,n,ks⟩:=t;by_cases h1:op=1
  ·subst h1;refine ⟨.mk 1 n ks,fun t' h=>?_⟩;cases h with
   | var=>exact .var n ks
   | node _ _ _ _ h1=>exact absurd rfl h1
  by_cases hr:ApH op n ks
  ·rcases hr with ⟨rfl,m1,a,b,x,rfl⟩ | ⟨rfl,m1,a,x,y,rfl⟩ | ⟨rfl,m1,a,x,y,rfl⟩ | ⟨rfl,rfl,c,rfl⟩ | ⟨rfl,rfl,c,rfl⟩ | ⟨rfl,a,z,s,m1,l,rfl⟩ | ⟨rfl,a,z,s,m1,k,rfl⟩
   ·simp only [Tm.wt,Tm.wtL] at hw;obtain ⟨db,hb⟩:=ih b (by omega);obtain ⟨dx,hx⟩:=ih x (by omega);refine ⟨db.sub (s1 dx),fun t' h=>?_⟩;cases h with
    | node _ _ _ ks' _ hl hk =>
     obtain ⟨l',x',rfl⟩:=Kx hl;obtain ⟨a',b',rfl,_,q2⟩:=Amb (hk 0 _ l' rfl rfl) (by decide);exact .beta n m1 a' b' db x' dx (hb b' q2) (hx x' (hk 1 x x' rfl rfl))
    | beta _ _ _ _ b' _ x' p1 p2 =>
     refine Tv (hb b' p1) _ _ (fun i=>?_);cases i with
     | zero=>exact hx x' p2
     | succ i=>exact BD _
   ·simp only [Tm.wt,Tm.wtL] at hw;obtain ⟨dx,hx⟩:=ih x (by omega);refine ⟨dx,fun t' h=>?_⟩;cases h with
    | node _ _ _ ks' _ hl hk =>
     obtain ⟨l',rfl⟩:=Cq hl;obtain ⟨a',x',y',rfl,_,q2,_⟩:=Al1 (hk 0 _ l' rfl rfl) (by decide);exact .fst n m1 a' x' dx y' (hx x' q2)
    | fst _ _ _ _ _ _ p=>exact hx _ p
   ·simp only [Tm.wt,Tm.wtL] at hw;obtain ⟨dy,hy⟩:=ih y (by omega);refine ⟨dy,fun t' h=>?_⟩;cases h with
    | node _ _ _ ks' _ hl hk =>
     obtain ⟨l',rfl⟩:=Cq hl;obtain ⟨a',x',y',rfl,_,_,q3⟩:=Al1 (hk 0 _ l' rfl rfl) (by decide);exact .snd n m1 a' x' y' dy (hy y' q3)
    | snd _ _ _ _ _ _ p=>exact hy _ p
   ·simp only [Tm.wt,Tm.wtL] at hw;obtain ⟨dc,hc⟩:=ih c (by omega);refine ⟨dc,fun t' h=>?_⟩;cases h with
    | node _ _ _ ks' _ hl hk =>
     obtain ⟨l',rfl⟩:=Cq hl;have hq:=hk 0 _ l' rfl rfl;cases hq with
     | node _ _ _ ks2 _ hl2 hk2 =>
      obtain ⟨c',rfl⟩:=Cq hl2;exact .splq c' dc (hc c' (hk2 0 c c' rfl rfl))
     | quos e _ he=>exact hc _ (.node 30 0 [e] [l'] (by decide) rfl (fun i a b ha hb=>by
       cases i with
       | zero=>simp at ha hb;subst ha hb;exact he
       | succ i=>simp at ha))
    | splq _ _ p=>exact hc _ p
   ·simp only [Tm.wt,Tm.wtL] at hw;obtain ⟨dc,hc⟩:=ih c (by omega);refine ⟨dc,fun t' h=>?_⟩;cases h with
    | node _ _ _ ks' _ hl hk =>
     obtain ⟨l',rfl⟩:=Cq hl;have hq:=hk 0 _ l' rfl rfl;cases hq with
     | node _ _ _ ks2 _ hl2 hk2 =>
      obtain ⟨c',rfl⟩:=Cq hl2;exact .quos c' dc (hc c' (hk2 0 c c' rfl rfl))
     | splq e _ he=>exact hc _ (.node 19 0 [e] [l'] (by decide) rfl (fun i a b ha hb=>by
       cases i with
       | zero=>simp at ha hb;subst ha hb;exact he
       | succ i=>simp at ha))
    | quos _ _ p=>exact hc _ p
   ·simp only [Tm.wt,Tm.wtL] at hw;obtain ⟨dz,hz⟩:=ih z (by omega);refine ⟨dz,fun t' h=>?_⟩;cases h with
    | node _ _ _ ks' _ hl hk =>
     obtain ⟨a',z',s',k',rfl⟩:=PX hl;have hq:=hk 3 _ k' rfl rfl;cases hq with
     | node _ _ _ l2 _ hl2 hk2=>exact .recz n m1 a' z' dz s' l2 (hz z' (hk 1 z z' rfl rfl))
    | recz _ _ _ _ _ _ _ p=>exact hz _ p
   ·simp only [Tm.wt,Tm.wtL] at hw;obtain ⟨da,ha⟩:=ih a (by omega);obtain ⟨dz,hz⟩:=ih z (by omega);obtain ⟨ds,hs⟩:=ih s (by omega);obtain ⟨dk,hk⟩:=ih k (by omega);refine ⟨ds.sub (s2 (.mk 13 0 [da,dz,ds,dk]) dk),fun t' h=>?_⟩;cases h with
    | node _ _ _ ks' _ hl hkk =>
     obtain ⟨a',z',s',k',rfl⟩:=PX hl;have hq:=hkk 3 _ k' rfl rfl;cases hq with
     | node _ _ _ l2 _ hl2 hk2 =>
      obtain ⟨k2,rfl⟩:=Cq hl2;exact .recs n m1 a' da z' dz s' ds k2 dk (ha a' (hkk 0 a a' rfl rfl)) (hz z' (hkk 1 z z' rfl rfl)) (hs s' (hkk 2 s s' rfl rfl)) (hk k2 (hk2 0 k k2 rfl rfl))
    | recs _ _ _ a' _ z' _ s' _ k' pa pz ps pk =>
     refine Tv (hs s' ps) _ _ (fun i=>?_)
     match i with
     | 0 =>
      refine .node 13 0 _ _ (by decide) rfl (fun i a1 b1 e1 e2=>?_)
      match i with
      | 0=>simp at e1 e2;subst e1 e2;exact ha a' pa
      | 1=>simp at e1 e2;subst e1 e2;exact hz z' pz
      | 2=>simp at e1 e2;subst e1 e2;exact hs s' ps
      | 3=>simp at e1 e2;subst e1 e2;exact hk k' pk
      | i+4=>simp at e1
     | 1=>exact hk k' pk
     | i+2=>exact BD _
  ·simp only [Tm.wt] at hw;obtain ⟨ds,hd1,hd2⟩:=YM (Q:=fun a d=>∀t',Par a t'→Par t' d) ks (fun a ha=>ih a (by have:=BN ha;omega));refine ⟨.mk op n ds,fun t' h=>?_⟩;cases h with
   | var=>exact absurd rfl h1
   | node _ _ _ ks' _ hl hk =>
    refine .node op n ks' ds h1 (by rw [hd1,hl]) (fun i a b ha hb=>?_);have hi:i<ks.length:=by rw [← hl];exact (List.getElem?_eq_some_iff.1 ha).1
    have hx:=List.getElem?_eq_getElem hi;exact hd2 i _ b hx hb a (hk i _ a hx ha)
   | beta _ m1 a b b' x x'=>exact absurd (.inl ⟨rfl,m1,a,b,x,rfl⟩) hr
   | fst _ m1 a x x' y=>exact absurd (.inr (.inl ⟨rfl,m1,a,x,y,rfl⟩)) hr
   | snd _ m1 a x y y'=>exact absurd (.inr (.inr (.inl ⟨rfl,m1,a,x,y,rfl⟩))) hr
   | splq c c'=>exact absurd (.inr (.inr (.inr (.inl ⟨rfl,rfl,c,rfl⟩)))) hr
   | quos c c'=>exact absurd (.inr (.inr (.inr (.inr (.inl ⟨rfl,rfl,c,rfl⟩))))) hr
   | recz _ m1 a z z' s l=>exact absurd (.inr (.inr (.inr (.inr (.inr (.inl ⟨rfl,a,z,s,m1,l,rfl⟩)))))) hr
   | recs _ m1 a a' z z' s s' k k'=>exact absurd (.inr (.inr (.inr (.inr (.inr (.inr ⟨rfl,a,z,s,m1,k,rfl⟩)))))) hr
inductive Pars:Tm→Tm→Prop
 | refl (t:Tm):Pars t t
 | step {a b c:Tm} (h:Par a b) (hs:Pars b c):Pars a c
theorem GR {a b:Tm} (h:Par a b):Pars a b:=.step h (.refl _)
theorem FQ {a b c:Tm} (h:Pars a b) (h2:Pars b c):Pars a c:=by
 induction h with
 | refl=>exact h2
 | step h _ ih=>exact .step h (ih h2)
theorem Aq3 {a c:Tm} (h:Pars a c):∀{b:Tm},Par a b→∃d,Pars b d∧Par c d:=by
 induction h with
 | refl t=>intro b hb;exact ⟨b,.refl _,hb⟩
 | @step a b' c h _ ih =>
  intro b hb;obtain ⟨d,hd⟩:=dev (a.wt+1) a (by omega);obtain ⟨e,h1,h2⟩:=ih (hd _ h);exact ⟨e,.step (hd _ hb) h1,h2⟩
theorem Aht {a b:Tm} (h:Pars a b):∀{c:Tm},Pars a c→∃d,Pars b d∧Pars c d:=by
 induction h with
 | refl t=>intro c hc;exact ⟨c,hc,.refl _⟩
 | step h _ ih =>
  intro c hc;obtain ⟨d,h1,h2⟩:=Aq3 hc h;obtain ⟨e,h3,h4⟩:=ih h1;exact ⟨e,h3,.step h2 h4⟩
theorem AkO {t t':Tm} (h:Par t t'):t.stl→t'=t:=by
 induction h with
 | var=>intro _;rfl
 | node op n ks ks' h1 hl hk ih =>
  intro hs;rw [Tm.stl] at hs;congr 1;apply List.ext_getElem?;intro i;by_cases hi:i<ks.length
  ·have hx:=List.getElem?_eq_getElem hi;have hy:=List.getElem?_eq_getElem (show i<ks'.length by omega)
   rw [hx,hy,ih i _ _ hx hy (G5 hs.2 (List.mem_of_getElem? hx))]
  ·rw [List.getElem?_eq_none (by omega),List.getElem?_eq_none (by omega)]
 | beta n m a b b' x x'=>intro hs;rw [Tm.stl] at hs;exact absurd rfl (hs.1.2.1 rfl _ rfl)
 | fst n m a x x' y=>intro hs;rw [Tm.stl] at hs;exact absurd rfl (hs.1.2.2 (.inl rfl) _ rfl)
 | snd n m a x y y'=>intro hs;rw [Tm.stl] at hs;exact absurd rfl (hs.1.2.2 (.inr rfl) _ rfl)
 | splq c c'=>intro hs;rw [Tm.stl] at hs;exact absurd rfl (hs.1.1.1 rfl _ rfl)
 | quos c c'=>intro hs;rw [Tm.stl] at hs;exact absurd rfl (hs.1.1.2.1 rfl _ rfl)
 | recz n m a z z' s l=>intro hs;rw [Tm.stl] at hs;exact absurd rfl (hs.1.1.2.2 rfl _ rfl).1
 | recs n m a a' z z' s s' k k'=>intro hs;rw [Tm.stl] at hs;exact absurd rfl (hs.1.1.2.2 rfl _ rfl).2
theorem HS {t t':Tm} (h:Pars t t'):t.stl→t'=t:=by
 induction h with
 | refl=>intro _;rfl
 | step h _ ih =>
  intro hs
  have:=AkO h hs
  subst this;exact ih hs
theorem An8 {t u n m d:Tm} (h1:Pars t n) (h2:Pars u m) (h3:Pars t d) (h4:Pars u d) (hn:n.stl) (hm:m.stl):n=m:=by
 obtain ⟨e,a1,a2⟩:=Aht h1 h3;obtain ⟨e',b1,b2⟩:=Aht h2 h4
 have:=HS a1 hn
 subst this
 have:=HS b1 hm
 subst this;obtain ⟨x,c1,c2⟩:=Aht a2 b2;rw [← HS c1 hn,HS c2 hm]
theorem Qr {op n:Int} (h1:op≠1):∀{ks ks':List Tm},ks'.length=ks.length→(∀(i:Nat) a b,ks[i]?=some a→ks'[i]?=some b→Pars a b)→Pars (.mk op n ks) (.mk op n ks'):=by
 have key:∀(
        pre ks ks':List Tm),ks'.length=ks.length→(∀(i:Nat) a b,ks[i]?=some a→ks'[i]?=some b→Pars a b)→Pars (.mk op n (pre++ks)) (.mk op n (pre++ks')):=by
  intro pre ks
  induction ks generalizing pre with
  | nil =>
   intro ks' hl _;rw [List.eq_nil_of_length_eq_zero hl];exact .refl _
  | cons a l ih =>
   intro ks' hl hk;cases ks' with
   | nil=>simp at hl
   | cons b l' =>
    have hab:=hk 0 a b rfl rfl;have hrest:=ih (pre++[b]) l' (by simpa using hl) (fun i x y hx hy=>hk (i+1) x y (by simpa using hx) (by simpa using hy));rw [List.append_assoc,List.append_assoc] at hrest;refine FQ ?_ hrest;have one:∀{x y:Tm},Pars x y→Pars (.mk op n (pre++x::l)) (.mk op n (pre++y::l)):=by
     intro x y h
     induction h with
     | refl=>exact .refl _
     | step h _ ih2 =>
      refine .step (.node op n _ _ h1 (by simp) (fun i p q hp hq=>?_)) ih2;by_cases hi:i<pre.length
      ·rw [List.getElem?_append_left hi] at hp hq;rw [hp] at hq;cases hq;exact BD _
      ·rw [List.getElem?_append_right (by omega)] at hp hq;cases hd:i - pre.length with
       | zero =>
        rw [hd] at hp hq;simp at hp hq;subst hp hq;exact h
       | succ j =>
        rw [hd] at hp hq;simp at hp hq;rw [hp] at hq;cases hq;exact BD _
    exact one hab
 intro ks ks' hl hk;exact key [] ks ks' hl hk
theorem AjS (t:Tm) (σ:Nat→Tm) (j:Nat) {x y:Tm} (h:Pars x y):Pars (t.sub fun i=>if i=j then x else σ i) (t.sub fun i=>if i=j then y else σ i):=by
 induction h with
 | refl=>exact .refl _
 | step h _ ih =>
  refine .step (Tv (BD t) _ _ (fun i=>?_)) ih;by_cases hi:i=j
  ·simp only [hi,if_true];exact h
  ·simp only [hi,if_false];exact BD _
mutual
def Tm.wa:Tm→Prop
 | .mk op n ks=>ar op=some ks.length∧((op=1→0≤n)∧(op=19∨op=30→n=0))∧Tm.waL ks
def Tm.waL:List Tm→Prop
 | []=>True
 | t::l=>t.wa∧Tm.waL l
end
mutual
theorem Ami:∀(t:Tm) (k:Nat),t.sc k→t.wa
 | .mk op n ks,k,h=>by
  rw [Tm.sc] at h;rw [Tm.wa];refine ⟨h.1,⟨fun h1=>?_,fun h9=>?_⟩,scL_wa ks op 0 k h.2.2⟩
  ·have:=h.2.1
   rw [if_pos h1] at this;exact this.1
  ·have:=h.2.1
   rw [if_neg (by omega)] at this;rcases h9 with rfl | rfl<;>simpa [BM] using this
theorem scL_wa:∀(l:List Tm) (op:Int) (i k:Nat),Tm.scL op i l k→Tm.waL l
 | [],_,_,_,_=>by rw [Tm.waL];trivial
 | t::l,op,i,k,h=>by
  rw [Tm.scL] at h;rw [Tm.waL];exact ⟨Ami t _ h.1,scL_wa l op (i+1) k h.2⟩
end
inductive Un:Nat→RV→Tm→Prop
 | var (u:Nat) (n:Int) (h:n<u):Un u (.var n) (.mk 1 ((u:Int) - 1 - n) [])
 | node (u:Nat) (op n:Int) (k:List RV) (ts:List Tm) (T:Nat→Nat→Tm) (h1:op≠1) (h9:op=19∨op=30→n=0) (har:ar op=some ts.length) (hl:k.length=ts.length)
   (hk:∀(i:Nat) v t,Ae op i=0→k[i]?=some v→ts[i]?=some t→Un u v t)
   (hc:∀(i:Nat) (v:RV) t,0<Ae op i→k[i]?=some v→ts[i]?=some t→t=v.b.sub (GG (Ae op i) (T i))∧v.b.wa)
   (hf:∀(i:Nat) (v:RV) (j:Nat),0<Ae op i→k[i]?=some v→v.env.length≤j→T i j=vT (u+(j - v.env.length)))
   (he:∀(i:Nat) (v:RV) (j:Nat) x,0<Ae op i→k[i]?=some v→v.env.reverse[j]?=some x→Un u x (T i j)):Un u (.node op n k) (.mk op n ts)
def Vz (u:Nat) (env:List RV) (τ:Nat→Tm):Prop:=(∀(j:Nat) x,env.reverse[j]?=some x→Un u x (τ j))∧∀j,env.length≤j→τ j=vT (u+(j - env.length))
theorem H0 {u:Nat} {v:RV} {t:Tm} (h:Un u v t) (h1:v.op≠1):∃(ts:List Tm) (T:Nat→Nat→Tm),(v.op=19∨v.op=30→v.n=0)∧v=.node v.op v.n v.k∧t=.mk v.op v.n ts∧ar v.op=some ts.length∧v.k.length=ts.length∧(∀(i:Nat) x y,Ae v.op i=0→v.k[i]?=some x→ts[i]?=some y→Un u x y) ∧
  (∀(i:Nat) (x:RV) y,0<Ae v.op i→v.k[i]?=some x→ts[i]?=some y→y=x.b.sub (GG (Ae v.op i) (T i))∧x.b.wa∧Vz u x.env (T i)):=by
 cases h with
 | var=>exact absurd rfl h1
 | node op n k ts T h1 h9 har hl hk hc hf he =>
  refine ⟨ts,T,h9,rfl,rfl,har,hl,hk,fun i x y a b c=>?_⟩;obtain ⟨q1,q2⟩:=hc i x y a b c;exact ⟨q1,q2,fun j z hz=>he i x j z a b hz,fun j hj=>hf i x j a b hj⟩
theorem Ass {u:Nat} {v:RV} {t:Tm} (h:Un u v t):∀d:Nat,Un (u+d) v (t.ren fun j=>j+d):=by
 induction h with
 | var n h =>
  intro d;have e:(Tm.mk 1 ((u:Int) - 1 - n) [])=vT ((u:Int) - 1 - n).toNat:=by rw [vT];congr 1;omega
  rw [e,Lo]
  have:=Un.var (u+d) n (by omega)
  have e2:vT (((u:Int) - 1 - n).toNat+d)=.mk 1 (((u+d:Nat):Int) - 1 - n) []:=by rw [vT];congr 1;omega
  rw [e2];exact this
 | node op n k ts T h1 h9 har hl hk hc hf he ihk ihe =>
  intro d;rw [Tm.ren,if_neg h1];refine .node (u+d) op n k _ (fun i j=>(T i j).ren fun x=>x+d) h1 h9 (by rw [H9];exact har) (by rw [H9];exact hl) ?_ ?_ ?_ ?_
  ·intro i v t hb hv ht;rw [Ny,Nat.zero_add] at ht;cases hx:ts[i]? with
   | none=>rw [hx] at ht;cases ht
   | some y =>
    rw [hx,hb,Nb] at ht;simp only [AwO,AwL] at ht;subst ht;exact ihk i v y hb hv hx d
  ·intro i v t hb hv ht;rw [Ny,Nat.zero_add] at ht;cases hx:ts[i]? with
   | none=>rw [hx] at ht;cases ht
   | some y =>
    rw [hx] at ht;simp only [AwO,AwL] at ht;subst ht;obtain ⟨q1,q2⟩:=hc i v y hb hv hx;refine ⟨?_,q2⟩;rw [q1,Kj,AbT]
  ·intro i v j hb hv hj;rw [hf i v j hb hv hj,Lo];congr 1;omega
  ·intro i v j x hb hv hx;exact ihe i v j x hb hv hx d
theorem AgR:Vz 0 [] vT:=⟨fun j x h=>by simp at h,fun j _=>by simp⟩
theorem O6 {u:Nat} {env:List RV} {τ:Nat→Tm} (h:Vz u env τ) {x:RV} {t:Tm} (hx:Un u x t):Vz u (env++[x]) (fun i=>match i with | 0=>t | j+1=>τ j):=by
 refine ⟨fun j y hy=>?_,fun j hj=>?_⟩
 ·rw [List.reverse_append] at hy;cases j with
  | zero =>
   simp at hy;subst hy;exact hx
  | succ j =>
   simp only [List.reverse_cons,List.reverse_nil,List.nil_append,List.cons_append,List.getElem?_cons_succ] at hy;exact h.1 j y hy
 ·rw [List.length_append,AwP,List.length_nil] at hj ⊢;cases j with
  | zero=>omega
  | succ j =>
   simp only;rw [h.2 j (by omega)];congr 1;omega
theorem Alt {u:Nat} {env:List RV} {τ:Nat→Tm} (h:Vz u env τ) (b:Nat):Vz (u+b) (env++FR u b) (GG b τ):=by
 refine ⟨fun j y hy=>?_,fun j hj=>?_⟩
 ·rw [List.reverse_append] at hy;by_cases hjb:j<b
  ·rw [List.getElem?_append_left (by rw [List.length_reverse,BX];exact hjb)] at hy;obtain ⟨_,rfl⟩:=Abd _ _ _ hy;simp only [GG,if_pos hjb]
   have:=Un.var (u+b) ((u:Int)+((b - 1 - j:Nat):Int)) (by omega)
   have e:vT j=.mk 1 (((u+b:Nat):Int) - 1 - ((u:Int)+((b - 1 - j:Nat):Int))) []:=by rw [vT];congr 1;omega
   rw [e];exact this
  ·rw [List.getElem?_append_right (by rw [List.length_reverse,BX];omega),List.length_reverse,BX] at hy;simp only [GG,if_neg hjb];exact Ass (h.1 _ _ hy) b
 ·rw [List.length_append,BX] at hj ⊢;simp only [GG];rw [if_neg (by omega),h.2 _ (by omega),Lo];congr 1;omega
theorem Aey {f:Nat} {s n:Int} {k0 x v:RV} {s':Int} (h:headR (f+1) s 0 (.node 5 n [k0,x])=some (v,s',0)):k0.op=4∧(∃c,k0.k[1]?=some c∧Ay f (s+1) 0 c.b (c.env++[x])=some (v,s',0))∨k0.op≠4∧v=.node 5 n [k0,x]:=by
 rw [headR,if_neg (by simp)] at h;by_cases hs:s<0∨1000000<s
 ·rw [if_pos hs] at h;cases h
 rw [if_neg hs,if_pos (show RV.op (.node 5 n [k0,x])=5 from rfl),show RV.k (.node 5 n [k0,x])=[k0,x] from rfl] at h
 simp only [List.getElem?_cons_zero,List.getElem?_cons_succ] at h;by_cases h0:k0.op=4
 ·rw [if_pos h0] at h;by_cases h1:s+1≤1000
  ·rw [if_pos h1] at h;cases hc:k0.k[1]? with
   | none=>rw [hc] at h;cases h
   | some c =>
    rw [hc] at h;simp only at h;by_cases h2:900000<c.env.length
    ·rw [if_pos h2] at h;cases h
    ·rw [if_neg h2] at h;exact .inl ⟨h0,c,rfl,h⟩
  ·rw [if_neg h1] at h;simp at h
 ·rw [if_neg h0] at h;simp only [AwL,AwM] at h;exact .inr ⟨h0,h.1.symm⟩
theorem V7 {f:Nat} {s op n:Int} {k0 v:RV} {s':Int} (ho:op=8∨op=9) (h:headR (f+1) s 0 (.node op n [k0])=some (v,s',0)):k0.op=7∧k0.k[(1+op - 8).toNat]?=some v∨k0.op≠7∧v=.node op n [k0]:=by
 rw [headR,if_neg (by simp)] at h;by_cases hs:s<0∨1000000<s
 ·rw [if_pos hs] at h;cases h
 have hop:RV.op (.node op n [k0])=op:=rfl;rw [if_neg hs,hop,if_neg (by omega),if_pos ho,show RV.k (.node op n [k0])=[k0] from rfl] at h
 simp only [List.getElem?_cons_zero] at h;by_cases h0:k0.op=7
 ·rw [if_pos h0] at h;by_cases h1:s+1≤1000
  ·rw [if_pos h1] at h;cases hw:k0.k[(1+op - 8).toNat]? with
   | none=>rw [hw] at h;cases h
   | some w =>
    rw [hw] at h;simp only [AwO,AwL,AwM] at h;rw [← h.1];exact .inl ⟨h0,rfl⟩
  ·rw [if_neg h1] at h;simp at h
 ·rw [if_neg h0] at h;simp only [AwL,AwM] at h;exact .inr ⟨h0,h.1.symm⟩
theorem SQ {ev:Int→Int→Tm→Option (RV×Int×Int)} {u:Nat} {env:List RV} {τ:Nat→Tm} (henv:Vz u env τ) (hev:∀s t v s',ev s 0 t=some (v,s',0)→t.wa→∃w,Un u v w∧Pars (t.sub τ) w) (herr:∀s e t v s',ev s e t=some (v,s',0)→e=0) (op:Int) :
  ∀(l:List Tm) (i:Nat) (s:Int) (vs:List RV) (s':Int),AW ev op env i l s 0=some (vs,s',0)→Tm.waL l→∃ts:List Tm,ts.length=l.length∧vs.length=l.length∧(∀(j:Nat) a b,(Tm.subL op i l τ)[j]?=some a→ts[j]?=some b→Pars a b) ∧
   (∀(j:Nat) v t,Ae op (i+j)=0→vs[j]?=some v→ts[j]?=some t→Un u v t)∧(∀(j:Nat) (v:RV) t,0<Ae op (i+j)→vs[j]?=some v→ts[j]?=some t→t=v.b.sub (GG (Ae op (i+j)) τ)∧v.b.wa∧v.env=env)
 | [],i,s,vs,s',h,hw=>by
  simp only [AW,AwL,AwM] at h;obtain ⟨rfl,_⟩:=h;exact ⟨[],rfl,rfl,fun j a b h=>by simp [Tm.subL] at h,fun j v t _ h=>by simp at h,fun j v t _ h=>by simp at h⟩
 | t::l,i,s,vs,s',h,hw=>by
  rw [Tm.waL] at hw;simp only [AW] at h;by_cases hb:0<Ae op i
  ·rw [if_pos hb] at h;cases hk:AW ev op env (i+1) l s 0 with
   | none=>rw [hk] at h;cases h
   | some q =>
    obtain ⟨us,s1,e1⟩:=q;rw [hk] at h;simp only [AwO,AwL,AwM] at h;obtain ⟨rfl,rfl,rfl⟩:=h;obtain ⟨ts,a1,a2,a3,a4,a5⟩:=SQ henv hev herr op l (i+1) s us s1 hk hw.2;refine ⟨t.sub (GG (Ae op i) τ)::ts,by simp [a1],by simp [a2],?_,?_,?_⟩
    ·intro j a b ha hb';cases j with
     | zero =>
      simp only [Tm.subL,List.getElem?_cons_zero,AwL] at ha hb';subst ha hb';exact .refl _
     | succ j =>
      simp only [Tm.subL,List.getElem?_cons_succ] at ha hb';exact a3 j a b ha hb'
    ·intro j v x h0 hv hx;cases j with
     | zero=>rw [Nat.add_zero] at h0;omega
     | succ j =>
      simp only [List.getElem?_cons_succ] at hv hx;exact a4 j v x (by rw [← h0];congr 1;omega) hv hx
    ·intro j v x h0 hv hx;cases j with
     | zero =>
      simp only [List.getElem?_cons_zero,AwL] at hv hx;subst hv hx;exact ⟨rfl,hw.1,rfl⟩
     | succ j =>
      simp only [List.getElem?_cons_succ] at hv hx
      have:=a5 j v x (by rw [show i+1+j=i+(j+1) by omega];exact h0) hv hx
      rw [show i+1+j=i+(j+1) by omega] at this
      exact this
  ·rw [if_neg hb] at h;have hb0:Ae op i=0:=by omega
   cases he:ev s 0 t with
   | none=>rw [he] at h;cases h
   | some q =>
    obtain ⟨v0,s1,e1⟩:=q;rw [he] at h;simp only at h;cases hk:AW ev op env (i+1) l s1 e1 with
    | none=>rw [hk] at h;cases h
    | some q =>
     obtain ⟨us,s3,e3⟩:=q;rw [hk] at h;simp only [AwO,AwL,AwM] at h;obtain ⟨rfl,rfl,rfl⟩:=h;have he1:=GO ev herr op env l _ _ _ _ _ hk;subst he1;obtain ⟨w,w1,w2⟩:=hev _ _ _ _ he hw.1;obtain ⟨ts,a1,a2,a3,a4,a5⟩:=SQ henv hev herr op l (i+1) s1 us s3 hk hw.2;refine ⟨w::ts,by simp [a1],by simp [a2],?_,?_,?_⟩
     ·intro j a b ha hb';cases j with
      | zero =>
       simp only [Tm.subL,List.getElem?_cons_zero,AwL] at ha hb';subst ha hb';rw [hb0,M0];exact w2
      | succ j =>
       simp only [Tm.subL,List.getElem?_cons_succ] at ha hb';exact a3 j a b ha hb'
     ·intro j v x h0 hv hx;cases j with
      | zero =>
       simp only [List.getElem?_cons_zero,AwL] at hv hx;subst hv hx;exact w1
      | succ j =>
       simp only [List.getElem?_cons_succ] at hv hx;exact a4 j v x (by rw [← h0];congr 1;omega) hv hx
     ·intro j v x h0 hv hx;cases j with
      | zero=>rw [Nat.add_zero] at h0;omega
      | succ j =>
       simp only [List.getElem?_cons_succ] at hv hx
       have:=a5 j v x (by rw [show i+1+j=i+(j+1) by omega];exact h0) hv hx
       rw [show i+1+j=i+(j+1) by omega] at this
       exact this
def EvU (f:Nat):Prop:=∀s t env v s' u τ,Ay f s 0 t env=some (v,s',0)→t.wa→Vz u env τ→∃w,Un u v w∧Pars (t.sub τ) w
def HdU (f:Nat):Prop:=∀s op n k v s' u ts,headR f s 0 (.node op n k)=some (v,s',0)→op≠1→Un u (.node op n k) (.mk op n ts)→∃w,Un u v w∧Pars (.mk op n ts) w
theorem AsK {f:Nat} (ihE:EvU f) (ihH:HdU f):EvU (f+1):=by
 intro s t env v s' u τ h hw henv;obtain ⟨op,m,ks⟩:=t;rw [Tm.wa] at hw;by_cases h1:op=1
 ·subst h1;have hks:ks=[]:=List.eq_nil_of_length_eq_zero (Option.some.inj hw.1.symm);subst hks;have hm:=hw.2.1.1 rfl;have hv:¬ (m<0∨([]:List Tm).isEmpty=false):=by
   rintro (h | h)
   ·omega
   ·cases h
  rw [Tm.sub,if_pos rfl,if_neg hv];rcases (YO h hm).1 with ⟨a1,a2⟩ | ⟨a1,rfl⟩
  ·exact ⟨_,henv.1 _ _ a2,.refl _⟩
  ·refine ⟨_,?_,.refl _⟩;rw [henv.2 _ (by omega)]
   have:=Un.var u ((env.length:Int) - 1 - m) (by omega)
   have e:vT (u+(m.toNat - env.length))=.mk 1 ((u:Int) - 1 - ((env.length:Int) - 1 - m)) []:=by rw [vT];congr 1;omega
   rw [e];exact this
 ·obtain ⟨vs,s1,q1,q2⟩:=If h h1;obtain ⟨ts,a1,a2,a3,a4,a5⟩:=SQ henv (fun s t v s' a b=>ihE s t env v s' u τ a b henv) (fun s e t v s' a=>Cg a) op ks 0 s vs s1 q1 hw.2.2;simp only [Nat.zero_add] at a4 a5;have hun:Un u (.node op m vs) (.mk op m ts):=by
   refine .node u op m vs ts (fun _=>τ) h1 hw.2.1.2 (by rw [a1];exact hw.1) (by rw [a1,a2]) a4 (fun i v t b c d=>⟨(a5 i v t b c d).1,(a5 i v t b c d).2.1⟩) ?_ ?_
   ·intro i v j b c hj;have hi:i<ts.length:=by rw [a1,← a2];exact (List.getElem?_eq_some_iff.1 c).1
    have:=(a5 i v _ b c (List.getElem?_eq_getElem hi)).2.2
    rw [this] at hj ⊢;exact henv.2 j hj
   ·intro i v j x b c hx;have hi:i<ts.length:=by rw [a1,← a2];exact (List.getElem?_eq_some_iff.1 c).1
    have:=(a5 i v _ b c (List.getElem?_eq_getElem hi)).2.2
    rw [this] at hx;exact henv.1 j x hx
  obtain ⟨w,w1,w2⟩:=ihH _ _ _ _ _ _ u ts q2 h1 hun;refine ⟨w,w1,?_⟩;rw [Tm.sub,if_neg h1];exact FQ (Qr h1 (by rw [K2,a1]) a3) w2
theorem Arn {f:Nat} (ihE:EvU f) (ihH:HdU f):HdU (f+1):=by
 intro s op n k v s' u ts h h1 hun;obtain ⟨ts',T,hn9,_,e2,har,hl,hk,hc⟩:=H0 hun h1;simp only [RV.node,RV.op,RV.n,RV.k,Tm.mk.injEq,true_and] at e2 har hl hk hc hn9;subst e2;by_cases h5:op=5
 ·subst h5;obtain ⟨t0,tx,rfl⟩:=Kx (Option.some.inj har.symm:ts.length=2);obtain ⟨k0,x,rfl⟩:=Kx (hl.trans rfl:k.length=2);have u0:=hk 0 k0 t0 rfl rfl rfl;have ux:=hk 1 x tx rfl rfl rfl;rcases Aey h with ⟨h4,c,hcc,hev⟩ | ⟨_,rfl⟩
  ·obtain ⟨us,T0,n0,e0,rfl,OT,l0,_,c0⟩:=H0 u0 (by omega);rw [h4] at OT c0 ⊢;obtain ⟨ta,tb,rfl⟩:=Kx (Option.some.inj OT.symm:us.length=2);obtain ⟨rfl,hwa,henv⟩:=c0 1 c tb (by decide) hcc rfl;obtain ⟨w,w1,w2⟩:=ihE _ _ _ _ _ u _ hev hwa (O6 henv ux);refine ⟨w,w1,.step (.beta n k0.n ta _ _ tx tx (BD _) (BD _)) ?_⟩;rw [HB]
   have:(fun i=>(GG (Ae 4 1) (T0 1) i).sub (s1 tx))=fun i=>match i with | 0=>tx | j+1=>T0 1 j:=by
    funext i
    cases i with
    | zero=>simp [GG,JB,s1,show Ae 4 1=1 from rfl]
    | succ i =>
     simp only [GG,show Ae 4 1=1 from rfl]
     rw [if_neg (by omega),Nat.add_sub_cancel,Lj _ _ _ (fun j=>rfl)]
   rw [this];exact w2
  ·exact ⟨_,hun,.refl _⟩
 by_cases h89:op=8∨op=9
 ·have hl1:ts.length=1:=by rcases h89 with rfl | rfl<;>exact Option.some.inj har.symm
  obtain ⟨t0,rfl⟩:=Cq hl1;obtain ⟨k0,rfl⟩:=Cq (hl.trans rfl:k.length=1);have u0:=hk 0 k0 t0 (by rcases h89 with rfl | rfl<;>rfl) rfl rfl;rcases V7 h89 h with ⟨h7,hx⟩ | ⟨_,rfl⟩
  ·obtain ⟨us,T0,n0,e0,rfl,OT,l0,hk0,_⟩:=H0 u0 (by omega);rw [h7] at OT hk0 ⊢;obtain ⟨ta,tb,tc,rfl⟩:=Aqa (Option.some.inj OT.symm:us.length=3);rcases h89 with rfl | rfl
   ·exact ⟨tb,hk0 1 v tb rfl hx rfl,GR (.fst n k0.n ta tb tb tc (BD _))⟩
   ·exact ⟨tc,hk0 2 v tc rfl hx rfl,GR (.snd n k0.n ta tb tc tc (BD _))⟩
  ·exact ⟨_,hun,.refl _⟩
 by_cases h30:op=30
 ·subst h30;obtain ⟨t0,rfl⟩:=Cq (Option.some.inj har.symm:ts.length=1);obtain ⟨k0,rfl⟩:=Cq (hl.trans rfl:k.length=1);have u0:=hk 0 k0 t0 rfl rfl rfl;rcases U1 h with ⟨h7,hx⟩ | ⟨_,rfl⟩
  ·obtain ⟨us,T0,n0,e0,rfl,OT,l0,hk0,_⟩:=H0 u0 (by omega);rw [h7] at OT hk0 ⊢;obtain ⟨ta,rfl⟩:=Cq (Option.some.inj OT.symm:us.length=1);exact ⟨ta,hk0 0 v ta rfl hx rfl,by rw [hn9 (.inr rfl),n0 (.inl h7)];exact GR (.splq ta ta (BD _))⟩
  ·exact ⟨_,hun,.refl _⟩
 by_cases h19:op=19
 ·subst h19;obtain ⟨t0,rfl⟩:=Cq (Option.some.inj har.symm:ts.length=1);obtain ⟨k0,rfl⟩:=Cq (hl.trans rfl:k.length=1);have u0:=hk 0 k0 t0 rfl rfl rfl;rcases UL h with ⟨h7,hx⟩ | ⟨_,rfl⟩
  ·obtain ⟨us,T0,n0,e0,rfl,OT,l0,hk0,_⟩:=H0 u0 (by omega);rw [h7] at OT hk0 ⊢;obtain ⟨ta,rfl⟩:=Cq (Option.some.inj OT.symm:us.length=1);exact ⟨ta,hk0 0 v ta rfl hx rfl,by rw [hn9 (.inl rfl),n0 (.inr h7)];exact GR (.quos ta ta (BD _))⟩
  ·exact ⟨_,hun,.refl _⟩
 by_cases h13:op=13
 ·subst h13;obtain ⟨t0,t1,t2,t3,rfl⟩:=PX (Option.some.inj har.symm:ts.length=4);obtain ⟨k0,k1,k2,k3,rfl⟩:=PX (hl.trans rfl:k.length=4);have u1:=hk 1 k1 t1 rfl rfl rfl;have u3:=hk 3 k3 t3 rfl rfl rfl;rcases VC h with ⟨h11,rfl⟩ | ⟨h12,x,w,s1',hx,hw,hv⟩ | ⟨_,rfl⟩
  ·obtain ⟨us,T0,n0,e0,rfl,OT,l0,hk0,_⟩:=H0 u3 (by omega);rw [h11];exact ⟨t1,u1,GR (.recz n k3.n t0 t1 t1 t2 us (BD _))⟩
  ·obtain ⟨us,T0,n0,e0,rfl,OT,l0,hk0,_⟩:=H0 u3 (by omega);rw [h12] at OT hk0 ⊢;obtain ⟨tk,rfl⟩:=Cq (Option.some.inj OT.symm:us.length=1);have ux:=hk0 0 x tk rfl hx rfl;obtain ⟨c2,hwa2,henv2⟩:=hc 2 k2 t2 (by decide) rfl rfl;have hun2:Un u (.node 13 0 [k0,k1,k2,x]) (.mk 13 0 [t0,t1,t2,tk]):=by
    refine .node u 13 0 _ _ T (by decide) (by omega) rfl rfl ?_ ?_ ?_ ?_
    ·intro i v t hb a b
     match i with
     | 0=>exact absurd hb (by decide)
     | 1=>simp at a b;subst a b;exact u1
     | 2=>exact absurd hb (by decide)
     | 3=>simp at a b;subst a b;exact ux
     | i+4=>simp at a
    ·intro i v t hb a b
     match i with
     | 0=>simp at a b;subst a b;exact ⟨(hc 0 k0 t0 hb rfl rfl).1,(hc 0 k0 t0 hb rfl rfl).2.1⟩
     | 1=>exact absurd hb (by decide)
     | 2=>simp at a b;subst a b;exact ⟨(hc 2 k2 t2 hb rfl rfl).1,(hc 2 k2 t2 hb rfl rfl).2.1⟩
     | 3=>exact absurd hb (by decide)
     | i+4=>simp at a
    ·intro i v j hb a hj
     match i with
     | 0=>simp at a;subst a;exact (hc 0 k0 t0 hb rfl rfl).2.2.2 j hj
     | 1=>exact absurd hb (by decide)
     | 2=>simp at a;subst a;exact (hc 2 k2 t2 hb rfl rfl).2.2.2 j hj
     | 3=>exact absurd hb (by decide)
     | i+4=>simp at a
    ·intro i v j y hb a hy
     match i with
     | 0=>simp at a;subst a;exact (hc 0 k0 t0 hb rfl rfl).2.2.1 j y hy
     | 1=>exact absurd hb (by decide)
     | 2=>simp at a;subst a;exact (hc 2 k2 t2 hb rfl rfl).2.2.1 j y hy
     | 3=>exact absurd hb (by decide)
     | i+4=>simp at a
   obtain ⟨tw,w1,w2⟩:=ihH _ _ _ _ _ _ u _ hw (by decide) hun2;have henv3:=O6 (O6 henv2 ux) w1;rw [List.append_assoc] at henv3;obtain ⟨tv,v1,v2⟩:=ihE _ _ _ _ _ u _ hv hwa2 henv3;refine ⟨tv,v1,.step (.recs n k3.n t0 t0 t1 t1 t2 t2 tk tk (BD _) (BD _) (BD _) (BD _)) ?_⟩;have e2:t2=k2.b.sub (GG 2 (T 2)):=c2;have e3:∀r:Tm,t2.sub (s2 r tk)=k2.b.sub (fun i=>if i=0 then r else (fun i=>match i with | 0=>tw | j+1=>(fun i=>match i with | 0=>tk | j+1=>T 2 j) j) i):=by
    intro r;rw [e2,HB];congr 1
    funext i
    match i with
    | 0=>simp [GG,JB,s2]
    | 1=>simp [GG,JB,s2]
    | i+2 =>
     simp only [GG];rw [if_neg (by omega),if_neg (by omega),Nat.add_sub_cancel,Lj _ _ _ (fun j=>rfl)]
   rw [e3];refine FQ (AjS k2.b _ 0 w2) ?_;have e4:(fun i=>if i=0 then tw else (fun i=>match i with | 0=>tw | j+1=>(fun i=>match i with | 0=>tk | j+1=>T 2 j) j) i)=(fun i=>match i with | 0=>tw | j+1=>(fun i=>match i with | 0=>tk | j+1=>T 2 j) j:Nat→Tm):=by
    funext i
    cases i with
    | zero=>simp
    | succ i=>simp
   rw [e4];exact v2
  ·exact ⟨_,hun,.refl _⟩
 obtain ⟨rfl,_⟩:=JV h (by omega);exact ⟨_,hun,.refl _⟩
theorem Acl:∀f,EvU f∧HdU f:=by
 intro f
 induction f with
 | zero=>exact ⟨(by intro s t env v s' u τ h;rw [Ay] at h;cases h),(by intro s op n k v s' u ts h;rw [headR] at h;cases h)⟩
 | succ f ih=>exact ⟨AsK ih.1 ih.2,Arn ih.1 ih.2⟩
theorem Aks:∀(f:Nat) (s nd:Int) (v:RV) (u:Nat) (d:Int) (t:Tm) (s' nd':Int) (w:Tm),AS f s nd 0 v u d=some (t,s',nd',0)→Un u v w→Pars w t:=by
 intro f
 induction f with
 | zero=>intro s nd v u d t s' nd' w h;rw [AS] at h;cases h
 | succ f ih =>
  intro s nd v u d t s' nd' w h hun;rcases U5 h with ⟨h1,rfl⟩ | ⟨h1,ts,hrk,rfl⟩
  ·cases hun with
   | var=>exact .refl _
   | node op n k us T h2=>exact absurd h1 h2
  ·obtain ⟨us,T,_,e1,rfl,har,hl,hk,hc⟩:=H0 hun h1;obtain ⟨n1,n2⟩:=Mr (fun s nd e v u t s' nd' h=>DM h) v.op u v.k 0 s (nd+1) 0 ts s' nd' hrk;refine Qr h1 (by rw [n1,hl]) (fun i a b ha hb=>?_);have hi:i<v.k.length:=by rw [hl];exact (List.getElem?_eq_some_iff.1 ha).1
   have hki:=List.getElem?_eq_getElem hi;obtain ⟨q1,q2,k',q3,q4,⟨q5,q6⟩,q7⟩:=n2 i _ b hki hb;rw [Nat.zero_add] at q5 q6 q7;by_cases hb0:Ae v.op i=0
   ·have:=q6 hb0
    subst this;rw [hb0] at q7;simp only [Int.ofNat_zero,Int.add_zero] at q7;exact ih _ _ _ u _ _ _ _ a (by simpa using q7) (hk i _ a hb0 hki ha)
   ·have hbp:0<Ae v.op i:=by omega
    obtain ⟨s0,hev⟩:=q5 hbp;obtain ⟨rfl,hwa,henv⟩:=hc i _ a hbp hki ha;obtain ⟨w',w1,w2⟩:=(Acl f).1 _ _ _ _ _ (u+Ae v.op i) _ hev hwa (Alt henv _);rw [show (u:Int)+(Ae v.op i:Int)=((u+Ae v.op i:Nat):Int) by omega] at q7
    exact FQ w2 (ih q1 q2 k' (u+Ae v.op i) (d+1) b q3 q4 w' q7 w1)
theorem Wi {f:Nat} {t n:Tm} {k:Nat} (h:AU f t=some (n,0)) (ht:t.sc k):Pars t n:=by
 rw [AU] at h;cases he:Ay f 0 0 t [] with
 | none=>rw [he] at h;cases h
 | some q =>
  obtain ⟨v,s,e⟩:=q;rw [he] at h;simp only at h;cases hr:AS f s 0 e v 0 1 with
  | none=>rw [hr] at h;cases h
  | some q =>
   obtain ⟨w,s2,nd2,e2⟩:=q;rw [hr] at h;simp only [AwL] at h;by_cases h2:e2≠0
   ·rw [if_pos h2] at h;simp only [AwM] at h;exact absurd h.2 h2
   rw [if_neg h2] at h;simp only [AwM,and_true] at h;subst h;have he2:e2=0:=by omega
   subst he2;have he0:=DM hr;subst he0;obtain ⟨x,x1,x2⟩:=(Acl f).1 _ _ _ _ _ 0 vT he (Ami t k ht) AgR;rw [Oy] at x2;exact FQ x2 (Aks f s 0 v 0 1 w s2 nd2 x (by simpa using hr) x1)
mutual
def Tm.up:Tm→Int→Tm
 | .mk op n ks,c=>.mk op (if op=1∧c≤n then n+1 else n) (Tm.upL op 0 ks c)
def Tm.upL:Int→Nat→List Tm→Int→List Tm
 | _,_,[],_=>[]
 | op,i,t::l,c=>t.up (c+Ae op i)::Tm.upL op (i+1) l c
end
mutual
def Tm.dn:Tm→Int→Tm
 | .mk op n ks,c=>.mk op (if op=1∧c<n then n - 1 else n) (Tm.dnL op 0 ks c)
def Tm.dnL:Int→Nat→List Tm→Int→List Tm
 | _,_,[],_=>[]
 | op,i,t::l,c=>t.dn (c+Ae op i)::Tm.dnL op (i+1) l c
end
mutual
theorem Yo:∀(t:Tm) (c:Int),(t.up c).dn c=t
 | .mk op n ks,c=>by
  rw [Tm.up,Tm.dn,dnL_up ks op 0 c];congr 1;by_cases h1:op=1
  ·by_cases h2:c≤n
   ·rw [show (if op=1∧c≤n then n+1 else n)=n+1 from if_pos ⟨h1,h2⟩,if_pos ⟨h1,by omega⟩];omega
   ·rw [show (if op=1∧c≤n then n+1 else n)=n from if_neg (fun h=>h2 h.2),if_neg (by omega)]
  ·rw [if_neg (fun h=>h1 h.1),if_neg (fun h=>h1 h.1)]
theorem dnL_up:∀(l:List Tm) (op:Int) (i:Nat) (c:Int),Tm.dnL op i (Tm.upL op i l c) c=l
 | [],_,_,_=>rfl
 | t::l,op,i,c=>by rw [Tm.upL,Tm.dnL,Yo t,dnL_up l]
end
theorem Ah7 {a b:Tm} {c:Int} (h:a.up c=b.up c):a=b:=by rw [← Yo a c,← Yo b c,h]
theorem Hl {n:Int} {ks:List Tm} {k:Nat} (h:(Tm.mk 1 n ks).sc k):ks=[]:=by
 rw [Tm.sc] at h
 have:=h.1
 rw [show ar 1=some 0 by decide,AwL] at this
 exact List.eq_nil_of_length_eq_zero this.symm
mutual
theorem Kl:∀(t:Tm) (c d:Int) (k:Nat),t.sc k→k+2 * t.wt≤1000000000→0≤c→t.free c=false→t.subst c d AJ=t.dn c
 | .mk op n ks,c,d,k,hs,hw,hc,hf=>by
  by_cases h1:op=1
  ·subst h1;have hk:=Hl hs;subst hk;rw [Tm.free,if_pos rfl] at hf;have hne:n≠c:=by simpa using hf
   rw [Tm.sc] at hs;have hn:=hs.2.1;rw [if_pos rfl] at hn;rw [Tm.subst,if_pos rfl,if_neg hne,Tm.dn,Tm.dnL];by_cases h2:c<n
   ·rw [if_pos h2,if_pos ⟨rfl,h2⟩,Au (by omega) (by omega)]
   ·rw [if_neg h2,if_neg (fun h=>h2 h.2)]
  ·rw [Tm.free,if_neg h1] at hf;rw [Tm.sc] at hs;rw [Tm.wt] at hw;rw [Tm.subst,if_neg h1,Tm.dn,if_neg (fun h=>h1 h.1),substL_dn ks op 0 c d k hs.2.2 (by omega) hc hf]
theorem substL_dn:∀(l:List Tm) (op:Int) (i:Nat) (c d:Int) (k:Nat),Tm.scL op i l k→k+2+2 * Tm.wtL l≤1000000000→0≤c→Tm.freeL op i l c=false→Tm.substL op i l c d AJ=Tm.dnL op i l c
 | [],_,_,_,_,_,_,_,_,_=>rfl
 | t::l,op,i,c,d,k,hs,hw,hc,hf=>by
  rw [Tm.scL] at hs;rw [Tm.wtL] at hw;have hb:=AQ op i;rw [Tm.freeL,Bool.or_eq_false_iff] at hf;rw [Tm.substL,Tm.dnL,Kl t _ _ _ hs.1 (by omega) (by omega) hf.1,substL_dn l op (i+1) c d k hs.2 (by omega) hc hf.2]
end
mutual
theorem GZ:∀(t:Tm) (c:Int) (k:Nat),t.sc k→k+2 * t.wt≤1000000000→t.shift 1 c=t.up c
 | .mk op n ks,c,k,hs,hw=>by
  rw [Tm.sc] at hs;rw [Tm.wt] at hw;rw [Tm.shift,Tm.up,shiftL_up ks op 0 c k hs.2.2 (by omega)];by_cases h1:op=1∧c≤n
  ·have hn:=hs.2.1;rw [if_pos h1.1] at hn;rw [if_pos h1,if_pos h1,Au (by omega) (by omega)]
  ·rw [if_neg h1,if_neg h1]
theorem shiftL_up:∀(l:List Tm) (op:Int) (i:Nat) (c:Int) (k:Nat),Tm.scL op i l k→k+2+2 * Tm.wtL l≤1000000000→Tm.shiftL op i l 1 c=Tm.upL op i l c
 | [],_,_,_,_,_,_=>rfl
 | t::l,op,i,c,k,hs,hw=>by
  rw [Tm.scL] at hs;rw [Tm.wtL] at hw;have hb:=AQ op i;rw [Tm.shiftL,Tm.upL,GZ t _ _ hs.1 (by omega),shiftL_up l op (i+1) c k hs.2 (by omega)]
end
mutual
theorem NF:∀(t:Tm) (a c:Int),a<c→(t.up c).free a=t.free a
 | .mk op n ks,a,c,h=>by
  rw [Tm.up,Tm.free,Tm.free];by_cases h1:op=1
  ·rw [if_pos h1,if_pos h1];by_cases h2:c≤n
   ·rw [if_pos ⟨h1,h2⟩,decide_eq_false (by omega),decide_eq_false (by omega)]
   ·rw [if_neg (fun h=>h2 h.2)]
  ·rw [if_neg h1,if_neg h1,freeL_up ks op 0 a c h]
theorem freeL_up:∀(l:List Tm) (op:Int) (i:Nat) (a c:Int),a<c→Tm.freeL op i (Tm.upL op i l c) a=Tm.freeL op i l a
 | [],_,_,_,_,_=>rfl
 | t::l,op,i,a,c,h=>by rw [Tm.upL,Tm.freeL,Tm.freeL,NF t _ _ (by omega),freeL_up l op (i+1) a c h]
end
mutual
theorem Oi:∀(t:Tm) (c:Int),(t.up c).free c=false
 | .mk op n ks,c=>by
  rw [Tm.up,Tm.free];by_cases h1:op=1
  ·rw [if_pos h1];by_cases h2:c≤n
   ·rw [if_pos ⟨h1,h2⟩,decide_eq_false (by omega)]
   ·rw [if_neg (fun h=>h2 h.2),decide_eq_false (by omega)]
  ·rw [if_neg h1,freeL_up0 ks op 0 c]
theorem freeL_up0:∀(l:List Tm) (op:Int) (i:Nat) (c:Int),Tm.freeL op i (Tm.upL op i l c) c=false
 | [],_,_,_=>rfl
 | t::l,op,i,c=>by rw [Tm.upL,Tm.freeL,Oi t,freeL_up0 l op (i+1) c];rfl
end
mutual
theorem AiU:∀(t:Tm) (a c:Int) (k:Nat),t.sc k→a≤c→t.free a=false→(t.up (c+1)).dn a=(t.dn a).up c
 | .mk op n ks,a,c,k,hs,h,hf=>by
  by_cases h1:op=1
  ·subst h1;have hk:=Hl hs;subst hk;rw [Tm.free,if_pos rfl] at hf;have hne:n≠a:=by simpa using hf
   rw [Tm.up,Tm.dn,Tm.dn,Tm.up,Tm.upL,Tm.dnL,Tm.upL];congr 1;by_cases h2:a<n
   ·by_cases h3:c+1≤n
    ·rw [show (if (1:Int)=1∧c+1≤n then n+1 else n)=n+1 from if_pos ⟨rfl,h3⟩,show (if (1:Int)=1∧a<n then n - 1 else n)=n - 1 from if_pos ⟨rfl,h2⟩,if_pos ⟨rfl,by omega⟩,if_pos ⟨rfl,by omega⟩];omega
    ·rw [show (if (1:Int)=1∧c+1≤n then n+1 else n)=n from if_neg (fun h=>h3 h.2),show (if (1:Int)=1∧a<n then n - 1 else n)=n - 1 from if_pos ⟨rfl,h2⟩,if_neg (by omega)]
   ·rw [show (if (1:Int)=1∧c+1≤n then n+1 else n)=n from if_neg (by omega),show (if (1:Int)=1∧a<n then n - 1 else n)=n from if_neg (fun h=>h2 h.2),if_neg (by omega)]
  ·rw [Tm.free,if_neg h1] at hf;rw [Tm.sc] at hs;rw [Tm.up,Tm.dn,Tm.dn,Tm.up,dnL_up1 ks op 0 a c k hs.2.2 h hf,if_neg (fun h=>h1 h.1),if_neg (fun h=>h1 h.1),if_neg (fun h=>h1 h.1),if_neg (fun h=>h1 h.1)]
theorem dnL_up1:∀(l:List Tm) (op:Int) (i:Nat) (a c:Int) (k:Nat),Tm.scL op i l k→a≤c→Tm.freeL op i l a=false→Tm.dnL op i (Tm.upL op i l (c+1)) a=Tm.upL op i (Tm.dnL op i l a) c
 | [],_,_,_,_,_,_,_,_=>rfl
 | t::l,op,i,a,c,k,hs,h,hf=>by
  rw [Tm.scL] at hs;rw [Tm.freeL,Bool.or_eq_false_iff] at hf;rw [Tm.upL,Tm.dnL,Tm.dnL,Tm.upL,show c+1+(Ae op i:Int)=c+(Ae op i:Int)+1 by omega,AiU t _ _ _ hs.1 (by omega) hf.1,dnL_up1 l op (i+1) a c k hs.2 h hf.2]
end
theorem UY (t:Tm) (c:Int):(t.up c).op=t.op:=by cases t;rfl
theorem Acy (c:Int):AJ.up c=AJ:=by rw [AJ,Tm.up,if_neg (fun h=>absurd h.1 (by decide)),Tm.upL]
theorem Ag6 {m:Int} {z b:Tm} (h:∀n1 f,b=.mk 5 n1 [f,.mk 1 0 []]→f.free 0=false→False) (hb:∀n1 f n2 k2,b=.mk 5 n1 [f,.mk 1 n2 k2]→k2=[]):Qu (.mk 4 m [z,b])=.mk 4 m [z,b]:=by
 unfold Qu;split
 ·rename_i h1;simp only [Tm.mk.injEq,List.cons.injEq,and_true] at h1;obtain ⟨_,_,_,rfl⟩:=h1;rename_i n1 f o2 n2 k2;split
  ·rename_i hc;obtain ⟨rfl,rfl,rfl,hf⟩:=hc
   have:=hb _ _ _ _ rfl
   subst this;exact absurd hf (fun hf=>h _ _ rfl hf)
  ·rfl
 ·rfl
theorem Ti (m:Int) (z:Tm) (n1:Int) (f:Tm) (hf:f.free 0=false):Qu (.mk 4 m [z,.mk 5 n1 [f,.mk 1 0 []]])=f.subst 0 0 AJ:=by
 rw [Qu,if_pos ⟨rfl,rfl,rfl,hf⟩]
theorem Aif (b:Tm) (k:Nat) (hs:b.sc k):(∃n1 f,b=.mk 5 n1 [f,.mk 1 0 []]∧f.free 0=false)∨(∀m z,Qu (.mk 4 m [z,b])=.mk 4 m [z,b])∧(∀n1 f,b=.mk 5 n1 [f,.mk 1 0 []]→f.free 0=false→False):=by
 by_cases h:∃n1 f,b=.mk 5 n1 [f,.mk 1 0 []]∧f.free 0=false
 ·exact .inl h
 ·have h2:∀n1 f,b=.mk 5 n1 [f,.mk 1 0 []]→f.free 0=false→False:=fun n1 f h1 h2=>h ⟨n1,f,h1,h2⟩;refine .inr ⟨fun m z=>Ag6 h2 ?_,h2⟩;intro n1 f n2 k2 he;subst he;rw [Tm.sc] at hs
  have:=hs.2.2.2.1
  exact Hl this
theorem Aep (m:Int) (z:Tm) (n1 n2:Int) (x:Tm):S4 (.mk 7 m [z,.mk 8 n1 [x],.mk 9 n2 [x]])=x:=by
 rw [S4,if_pos ⟨rfl,rfl,(LW x x).2 rfl⟩]
theorem UU (a b:Tm):(∃n1 n2 x,a=.mk 8 n1 [x]∧b=.mk 9 n2 [x])∨(∀m z,S4 (.mk 7 m [z,a,b])=.mk 7 m [z,a,b])∧(∀n1 n2 x,a=.mk 8 n1 [x]→b=.mk 9 n2 [x]→False):=by
 by_cases h:∃n1 n2 x,a=.mk 8 n1 [x]∧b=.mk 9 n2 [x]
 ·exact .inl h
 ·refine .inr ⟨fun m z=>?_,fun n1 n2 x h1 h2=>h ⟨n1,n2,x,h1,h2⟩⟩;unfold S4;split
  ·rename_i h1;simp only [Tm.mk.injEq,List.cons.injEq,and_true] at h1;obtain ⟨_,_,_,rfl,rfl⟩:=h1;split
   ·rename_i hc;obtain ⟨rfl,rfl,hs⟩:=hc;rw [(LW _ _).1 hs] at h;exact absurd ⟨_,_,_,rfl,rfl⟩ h
   ·rfl
  ·rfl
theorem AnM {op m:Int} {ks:List Tm} {k:Nat} (hs:(Tm.mk op m ks).sc k) (h:ar op=some 2):∃a b,ks=[a,b]:=by
 rw [Tm.sc] at hs
 have:=hs.1
 rw [h,AwL] at this
 match ks,this with
 | [a,b],_=>exact ⟨a,b,rfl⟩
theorem Aub {op m:Int} {ks:List Tm} {k:Nat} (hs:(Tm.mk op m ks).sc k) (h:ar op=some 3):∃a b c,ks=[a,b,c]:=by
 rw [Tm.sc] at hs
 have:=hs.1
 rw [h,AwL] at this
 match ks,this with
 | [a,b,c],_=>exact ⟨a,b,c,rfl⟩
theorem up5 (n1:Int) (f x:Tm) (c:Int):(Tm.mk 5 n1 [f,x]).up c=.mk 5 n1 [f.up c,x.up c]:=by
 rw [Tm.up,if_neg (fun h=>absurd h.1 (by decide)),Tm.upL,Tm.upL,Tm.upL,show Ae 5 0=0 by decide,show Ae 5 (0+1)=0 by decide,Int.natCast_zero,Int.add_zero]
theorem up4 (m:Int) (a b:Tm) (c:Int):(Tm.mk 4 m [a,b]).up c=.mk 4 m [a.up c,b.up (c+1)]:=by
 rw [Tm.up,if_neg (fun h=>absurd h.1 (by decide)),Tm.upL,Tm.upL,Tm.upL,show Ae 4 0=0 by decide,show Ae 4 (0+1)=1 by decide,Int.natCast_zero,Int.add_zero];rfl
theorem Aqq {op:Int} (h1:op≠1) (hb:Ae op 0=0) (n1:Int) (x:Tm) (c:Int):(Tm.mk op n1 [x]).up c=.mk op n1 [x.up c]:=by
 rw [Tm.up,if_neg (fun h=>h1 h.1),Tm.upL,Tm.upL,hb,Int.natCast_zero,Int.add_zero]
theorem up7 (m:Int) (a b d:Tm) (c:Int):(Tm.mk 7 m [a,b,d]).up c=.mk 7 m [a.up c,b.up c,d.up c]:=by
 rw [Tm.up,if_neg (fun h=>absurd h.1 (by decide)),Tm.upL,Tm.upL,Tm.upL,Tm.upL,show Ae 7 0=0 by decide,show Ae 7 (0+1)=0 by decide,show Ae 7 (0+1+1)=0 by decide,Int.natCast_zero,Int.add_zero]
theorem Ask {c:Int} (hc:0<c):(Tm.mk 1 0 []).up c=.mk 1 0 []:=by
 rw [Tm.up,if_neg (by omega),Tm.upL]
theorem AsH {x:Tm} {c:Int} (hc:0<c) (h:x.up c=.mk 1 0 []):x=.mk 1 0 []:=by
 apply Ah7 (c:=c);rw [h,Ask hc]
theorem AtN (n1:Int) (f x:Tm):(Tm.mk 5 n1 [f,x]).eta=.mk 5 n1 [f.eta,x.eta]:=by
 rw [Tm.eta,if_neg (by decide),if_neg (by decide),Tm.etaL,Tm.etaL,Tm.etaL]
theorem Agv (m:Int) (a b:Tm):(Tm.mk 4 m [a,b]).eta=Qu (.mk 4 m [AJ,b.eta]):=by
 rw [Tm.eta,if_pos rfl,Tm.etaL,Tm.etaL,Tm.etaL,Nw]
theorem Art (m:Int) (a b d:Tm):(Tm.mk 7 m [a,b,d]).eta=S4 (.mk 7 m [AJ,b.eta,d.eta]):=by
 rw [Tm.eta,if_neg (by decide),if_pos rfl,Tm.etaL,Tm.etaL,Tm.etaL,Tm.etaL,Nw]
theorem AmD:(Tm.mk 1 0 []).eta=.mk 1 0 []:=by rw [Tm.eta,if_neg (by decide),if_neg (by decide),Tm.etaL]
theorem ApF {m:Int} {b:Tm} {c:Int} {k:Nat} (hc:0≤c) (hs:b.sc k) (hw:k+2 * b.wt≤900000000):Qu (.mk 4 m [AJ,b.up (c+1)])=(Qu (.mk 4 m [AJ,b])).up c:=by
 rcases Aif b k hs with ⟨n1,f,rfl,hf⟩ | ⟨h,hno⟩
 ·rw [up5,Ask (by omega),Ti _ _ _ _ hf,Ti _ _ _ _ (by rw [NF _ _ _ (by omega)];exact hf)];have hsf:f.sc k:=by rw [Tm.sc] at hs;have:=hs.2.2.1;rwa [show Ae 5 0=0 by decide] at this
  simp only [Tm.wt,Tm.wtL] at hw;have hsu:(f.up (c+1)).sc (k+1):=by
   obtain ⟨c',hc'⟩:∃c':Nat,c+1=c':=⟨(c+1).toNat,by omega⟩;rw [← GZ f (c+1) k hsf (by omega),hc'];exact CW f 1 c' k hsf (by omega)
  have hwu:(f.up (c+1)).wt=f.wt:=by rw [← GZ f (c+1) k hsf (by omega),B8]
  rw [Kl f 0 0 k hsf (by omega) (by omega) hf,Kl (f.up (c+1)) 0 0 (k+1) hsu (by omega) (by omega) (by rw [NF _ _ _ (by omega)];exact hf),AiU f 0 c k hsf hc hf]
 ·rw [h,up4,Acy];have h2:∀n1 f,b.up (c+1)=.mk 5 n1 [f,.mk 1 0 []]→f.free 0=false→False:=by
   intro n1 f he hf;obtain ⟨op,n,ks⟩:=b;have h5:op=5:=by have:=UY (.mk op n ks) (c+1);rw [he] at this;exact this.symm
   subst h5;obtain ⟨g,x,rfl⟩:=AnM hs (by decide);rw [up5] at he;simp only [Tm.mk.injEq,List.cons.injEq,and_true,true_and] at he;obtain ⟨_,hg,hx⟩:=he;have hx:=AsH (by omega) hx;subst hx hg;exact hno n g rfl (by rwa [NF _ _ _ (by omega)] at hf)
  refine Ag6 h2 ?_;intro n1 f n2 k2 he;obtain ⟨op,n,ks⟩:=b;have h5:op=5:=by have:=UY (.mk op n ks) (c+1);rw [he] at this;exact this.symm
  subst h5;obtain ⟨g,x,rfl⟩:=AnM hs (by decide);rw [up5] at he;simp only [Tm.mk.injEq,List.cons.injEq,and_true,true_and] at he;obtain ⟨_,hg,hx⟩:=he;have hxo:x.op=1:=by rw [← UY x (c+1),hx];rfl
  obtain ⟨o,p,kx⟩:=x;simp only [Tm.op] at hxo;subst hxo;rw [Tm.sc] at hs
  have:=Hl hs.2.2.2.1
  subst this;rw [Tm.up,Tm.upL] at hx;simp only [Tm.mk.injEq] at hx;exact hx.2.2.symm
theorem An1 (m:Int) (a b:Tm) (c:Int) (k:Nat) (ha:a.sc k) (hb:b.sc k):S4 (.mk 7 m [AJ,a.up c,b.up c])=(S4 (.mk 7 m [AJ,a,b])).up c:=by
 rcases UU a b with ⟨n1,n2,x,rfl,rfl⟩ | ⟨h,hno⟩
 ·rw [Aep,Aqq (by decide) (by decide),Aqq (by decide) (by decide),Aep]
 ·rw [h,up7,Acy];rcases UU (a.up c) (b.up c) with ⟨n1,n2,x,h1,h2⟩ | ⟨h',_⟩
  ·exfalso;have o1:a.op=8:=by rw [← UY a c,h1];rfl
   have o2:b.op=9:=by rw [← UY b c,h2];rfl
   obtain ⟨oa,na,ka⟩:=a;obtain ⟨ob,nb,kb⟩:=b;simp only [Tm.op] at o1 o2;subst o1 o2;have l1:=ER ha rfl (show ar 8=some 1 by decide)
   have l2:=ER hb rfl (show ar 9=some 1 by decide)
   simp only [Tm.kids] at l1 l2
   match ka,l1,kb,l2 with
   | [y],_,[z],_ =>
    rw [Aqq (by decide) (by decide)] at h1 h2;simp only [Tm.mk.injEq,List.cons.injEq,and_true,true_and] at h1 h2
    have:y=z:=Ah7 (h1.2.trans h2.2.symm)
    subst this;exact hno _ _ _ rfl rfl
  ·exact h' _ _
mutual
theorem Agd:∀(t:Tm) (c:Int) (k:Nat),0≤c→t.sc k→k+2 * t.wt≤800000000→(t.up c).eta=(t.eta).up c
 | .mk op m ks,c,k,hc,hs,hw=>by
  have hs0:=hs;rw [Tm.sc] at hs;simp only [Tm.wt] at hw;have hl:=etaL_up ks op 0 c k hc hs.2.2 (by omega);have hel:=etaL_sc op 0 ks k hs.2.2 (by omega);by_cases h4:op=4
  ·subst h4;obtain ⟨a,b,rfl⟩:=AnM hs0 (by decide);simp only [Tm.upL,Tm.etaL,List.cons.injEq,and_true] at hl;simp only [Tm.etaL,Tm.scL,Tm.wtL] at hel;rw [show Ae 4 (0+1)=1 by decide] at hl hel
   simp only [Tm.wtL] at hw;rw [up4,Agv,Agv,← ApF hc hel.1.2.1 (by omega)]
   have:=hl.2
   rw [show ((1:Nat):Int)=1 from rfl] at this
   rw [this]
  ·by_cases h7:op=7
   ·subst h7;obtain ⟨a,b,d,rfl⟩:=Aub hs0 (by decide);simp only [Tm.upL,Tm.etaL,List.cons.injEq,and_true] at hl;simp only [Tm.etaL,Tm.scL,Tm.wtL] at hel;rw [show Ae 7 (0+1)=0 by decide,show Ae 7 (0+1+1)=0 by decide] at hl hel
    simp only [Int.natCast_zero,Int.add_zero] at hl;rw [up7,Art,Art,← An1 _ _ _ _ _ hel.1.2.1 hel.1.2.2.1,hl.2.1,hl.2.2]
   ·rw [Tm.up,Tm.eta,if_neg h4,if_neg h7,Tm.eta,if_neg h4,if_neg h7,Tm.up,hl]
theorem etaL_up:∀(l:List Tm) (op:Int) (i:Nat) (c:Int) (k:Nat),0≤c→Tm.scL op i l k→k+2+2 * Tm.wtL l≤800000000→Tm.etaL (Tm.upL op i l c)=Tm.upL op i (Tm.etaL l) c
 | [],_,_,_,_,_,_,_=>rfl
 | t::l,op,i,c,k,hc,hs,hw=>by
  rw [Tm.scL] at hs;rw [Tm.wtL] at hw;have hb:=AQ op i;rw [Tm.upL,Tm.etaL,Tm.etaL,Tm.upL,Agd t _ _ (by omega) hs.1 (by omega),etaL_up l op (i+1) c k hc hs.2 (by omega)]
end
theorem Ak8 (n d:Tm) (k:Nat) (hs:n.sc k) (hw:k+2 * n.wt≤700000000):(Tm.mk 4 0 [d,.mk 5 0 [n.shift 1 0,.mk 1 0 []]]).eta=n.eta:=by
 have he:=Pq n k hs (by omega);have hu:(n.eta.up 0).sc (k+1):=by
  rw [← GZ n.eta 0 k he.1 (by omega)];exact CW n.eta 1 0 k he.1 (by omega)
 have hwu:(n.eta.up 0).wt=n.eta.wt:=by rw [← GZ n.eta 0 k he.1 (by omega),B8]
 rw [Agv,AtN,AmD,GZ n 0 k hs (by omega),Agd n 0 k (by omega) hs (by omega),Ti _ _ _ _ (Oi _ _),Kl _ 0 0 (k+1) hu (by omega) (by omega) (Oi _ _),Yo]
theorem Aka {G:List Nat} {t:Tm} {s k:Nat} (h:NfT G t s) (hsc:t.sc k) (hk:k≤10000) (hw:t.wt≤3000) (hd:t.dp≤120):Ev 55 [.fv t.enc] (.tuple [t.enc,.int .i64 0]):=by
 obtain ⟨f,hf⟩:=H5 (Kf h) hsc (by omega) hw hd;exact Aiy (E5 h) hsc (by omega) hw hf
theorem Qn:∀(m:Nat) (t:Tm) (d c:Int),t.wt<m→t.stl→(t.shift d c).stl
 | 0,t,d,c,h,_=>by omega
 | m+1,.mk op n ks,d,c,hm,h=>by
  rw [Tm.shift];rw [Tm.stl] at h ⊢;simp only [Tm.wt] at hm;have kid:∀(i:Nat) k0,(Tm.shiftL op 0 ks d c)[i]?=some k0→∃k1,ks[i]?=some k1∧k0.op=k1.op:=by
   intro i k0 hk;rw [Hk] at hk;cases hx:ks[i]? with
   | none=>rw [hx] at hk;cases hk
   | some k1 =>
    rw [hx] at hk;simp only [AwO,AwL] at hk;exact ⟨k1,rfl,by rw [← hk,Pc]⟩
  obtain ⟨⟨⟨a30,a19,a13⟩,a5,a89⟩,hL⟩:=h;refine ⟨⟨⟨fun e k0 hk=>?_,fun e k0 hk=>?_,fun e k0 hk=>?_⟩,fun e k0 hk=>?_,fun e k0 hk=>?_⟩,TR fun i t hi=>?_⟩
  ·obtain ⟨k1,h1,h2⟩:=kid _ _ hk;rw [h2];exact a30 e k1 h1
  ·obtain ⟨k1,h1,h2⟩:=kid _ _ hk;rw [h2];exact a19 e k1 h1
  ·obtain ⟨k1,h1,h2⟩:=kid _ _ hk;rw [h2];exact a13 e k1 h1
  ·obtain ⟨k1,h1,h2⟩:=kid _ _ hk;rw [h2];exact a5 e k1 h1
  ·obtain ⟨k1,h1,h2⟩:=kid _ _ hk;rw [h2];exact a89 e k1 h1
  ·rw [Hk] at hi;cases hx:ks[i]? with
   | none=>rw [hx] at hi;cases hi
   | some k1 =>
    rw [hx] at hi;simp only [AwO,AwL] at hi;subst hi
    have:=HX hx
    exact Qn m k1 _ _ (by omega) (G5 hL (List.mem_of_getElem? hx))
theorem Agg {T X:Tm} (h:Pars T X):∀n d S,T=.mk 4 n [d,S]→∃d' S',X=.mk 4 n [d',S']∧Pars d d'∧Pars S S':=by
 induction h with
 | refl t=>rintro n d S rfl;exact ⟨d,S,rfl,.refl _,.refl _⟩
 | step h hs ih =>
  rintro n d S rfl;obtain ⟨d1,S1,rfl,h1,h2⟩:=Amb h ⟨by decide,by decide⟩;obtain ⟨d2,S2,rfl,h3,h4⟩:=ih _ _ _ rfl;exact ⟨d2,S2,rfl,.step h1 h3,.step h2 h4⟩
theorem Apk {G:List Nat} {t:Tm} {s:Nat} (h:HasT G t s):10≤s→HasT G t 2:=by
 induction h with
 | var G n s h0 h hs=>intro h;omega
 | node G op n ks s sg hr hl hk ih =>
  intro hs;have two:∀{b0 b1:List Nat} {x y:Tm},HasT (b0++G) x 2→HasT (b1++G) y 2→∀(i:Nat) t bs s',[x,y][i]?=some t→[(b0,2),(b1,2)][i]?=some (bs,s')→HasT (bs++G) t s':=by
   intro b0 b1 x y hx hy i t bs s' h1 h2
   match i with
   | 0=>simp only [List.getElem?_cons_zero,AwL,AwM] at h1 h2;obtain ⟨rfl,rfl⟩:=h2;subst h1;exact hx
   | 1=>simp only [List.getElem?_cons_succ,List.getElem?_cons_zero,AwL,AwM] at h1 h2;obtain ⟨rfl,rfl⟩:=h2;subst h1;exact hy
   | i+2=>simp at h1
  cases hr with
  | natT=>exact .node _ _ _ _ _ _ .natU hl hk
  | tyT=>exact .node _ _ _ _ _ _ .tyU hl hk
  | uT=>exact .node _ _ _ _ _ _ .uU hl hk
  | liftT=>exact .node _ _ _ _ _ _ .liftU hl hk
  | piT a b ha hb =>
   obtain ⟨x,y,rfl⟩:=Kx hl;have hx:=ih 0 x [] (10+a) rfl rfl (by omega);have hy:=ih 1 y [a] (10+b) rfl rfl (by omega);exact .node _ _ _ _ _ _ (.piU a (by omega)) hl (two hx hy)
  | sigT a b ha hb=>exact .node _ _ _ _ _ _ (.sigU a (10+a) (10+b) (by omega)) hl hk
  | _=>omega
 | app=>intro h;omega
 | fst=>intro h;omega
 | snd=>intro h;omega
theorem AtU {G:List Nat} {n d X:Tm} {s sd k f:Nat} (hn:NfT G n s) (hd:HasT G d sd) (nsc:n.sc k) (xsc:(Tm.mk 4 0 [d,.mk 5 0 [n.shift 1 0,.mk 1 0 []]]).sc k) (hk:k≤1000) (hG:G.length≤1000) (nw:n.wt≤3000)
  (h:AU f (.mk 4 0 [d,.mk 5 0 [n.shift 1 0,.mk 1 0 []]])=some (X,0)):X.eta=n.eta:=by
 have hp:=Wi h xsc;obtain ⟨d',S',rfl,h1,h2⟩:=Agg hp _ _ _ rfl;by_cases h4:n.op=4
 ·cases hn with
  | var=>simp [Tm.op] at h4
  | node _ op m ks _ sg hr hl hst hk' =>
   simp only [Tm.op] at h4;subst h4;cases hr with
   | lam a s s0 ha =>
   obtain ⟨A,b,rfl⟩:=Kx hl;have hA:=hk' 0 A [] s0 rfl rfl;have hb:=hk' 1 b [a] s rfl rfl;have hm:m=0:=by
    rw [Tm.sc,if_neg (by decide)] at nsc;simpa [BM] using nsc.2.1
   subst hm;have nsc0:=nsc;rw [Tm.sc] at nsc;simp only [Tm.scL,show Ae 4 0=0 from rfl,show Ae 4 (0+1)=1 from rfl,Nat.add_zero,and_true] at nsc
   have bsc:=nsc.2.2.2;simp only [Tm.wt,Tm.wtL] at nw;have esh:(Tm.mk 4 0 [A,b]).shift 1 0=.mk 4 0 [A.shift 1 0,b.shift 1 1]:=by
    rw [Tm.shift,if_neg (by simp)];simp only [Tm.shiftL];rfl
   rw [esh] at h h2 hp;have eb:(b.shift 1 1).sub (s1 (.mk 1 0 []))=b:=by
    have:=Qe b 1 1 (k+1) bsc (by omega)
    rw [show ((1:Nat):Int)=1 from rfl] at this
    rw [this,Ip];refine Eq.trans ?_ (Oy b);congr 1
    funext i
    match i with
    | 0=>rfl
    | i+1 =>
     rw [if_neg (by omega)];rfl
   have hbeta:Pars (.mk 5 0 [.mk 4 0 [A.shift 1 0,b.shift 1 1],.mk 1 0 []]) b:=by
    have:=Par.beta 0 0 (A.shift 1 0) (b.shift 1 1) (b.shift 1 1) (.mk 1 0 []) (.mk 1 0 []) (BD _) (BD _)
    rw [eb] at this;exact GR this
   obtain ⟨s2,hs2,hb2⟩:∃s2,s2<10∧HasT (a::G) b s2:=by
    by_cases hs:s<10
    ·exact ⟨s,hs,E5 hb⟩
    ·exact ⟨2,by omega,Apk (E5 hb) (by omega)⟩
   have xT:HasT G (.mk 4 0 [d,.mk 5 0 [.mk 4 0 [A.shift 1 0,b.shift 1 1],.mk 1 0 []]]) 4:=by
    refine ht2 (.lam a s2 sd ha) hd (.app (a::G) 0 0 (A.shift 1 0) (b.shift 1 1) (.mk 1 0 []) a s2 s0 hs2 ha ?_ ?_ (.var _ 0 a (by omega) rfl ha))
    ·have:=K7 (E5 hA) [a] (by simp only [List.nil_append,AwP,List.length_nil];omega)
     simpa using this
    ·have:=Pb hb2 [a] [a] G rfl (by simp only [AwP,List.length_nil];omega)
     simpa using this
   have hX:=Kf (Fv h xT);rw [Tm.stl] at hX;have hS':=G5 hX.2 (t:=S') (by simp);have hSb:=An8 h2 (Pars.refl b) hbeta (.refl b) hS' (Kf hb);subst hSb;rw [Agv,Agv]
 ·have hst:(Tm.mk 5 0 [n.shift 1 0,.mk 1 0 []]).stl:=by
   rw [Tm.stl,Tm.stlL,Tm.stlL,Tm.stlL];refine ⟨⟨⟨by omega,by omega,by omega⟩,fun _ k0 hk0=>?_,by omega⟩,Qn (n.wt+1) n 1 0 (by omega) (Kf hn),Nu 1 0,trivial⟩;simp only [List.getElem?_cons_zero,AwL] at hk0;rw [← hk0,Pc];exact h4
  have:=HS h2 hst
  subst this;exact Ak8 n d' k nsc (by omega)
theorem YS {n d:Tm} {k:Nat} (nsc:n.sc k) (dsc:d.sc k) (hk:k+2 * n.wt≤1000000):(Tm.mk 4 0 [d,.mk 5 0 [n.shift 1 0,.mk 1 0 []]]).sc k:=by
 have n1:(n.shift 1 0).sc (k+1):=by have:=CW n 1 0 k nsc (by omega);simpa using this
 have h5:(Tm.mk 5 0 [n.shift 1 0,.mk 1 0 []]).sc (k+1):=by
  rw [Tm.sc,if_neg (by decide)];refine ⟨rfl,BK (by decide) (by decide) (by decide),?_⟩;simp only [Tm.scL,show Ae 5 0=0 from rfl,show Ae 5 (0+1)=0 from rfl,Nat.add_zero,and_true]
  refine ⟨n1,?_⟩;rw [Tm.sc,if_pos rfl];refine ⟨rfl,⟨by omega,by omega⟩,trivial⟩
 rw [Tm.sc,if_neg (by decide)];refine ⟨rfl,BK (by decide) (by decide) (by decide),?_⟩;simp only [Tm.scL,show Ae 4 0=0 from rfl,show Ae 4 (0+1)=1 from rfl,Nat.add_zero,and_true]
 exact ⟨dsc,h5⟩
theorem Anu {G:List Nat} {F d U:Tm} {s sd k f:Nat} (hF:HasT G F s) (hd:HasT G d sd) (fsc:F.sc k) (dsc:d.sc k) (hk:k≤1000) (hG:G.length≤1000) (hw:d.wt+F.wt+3≤3000)
  (h:AU f (.mk 4 0 [d,.mk 5 0 [F.shift 1 0,.mk 1 0 []]])=some (U,0)):Ev 55 [.fv (Tm.mk 4 0 [d,.mk 5 0 [F.shift 1 0,.mk 1 0 []]]).enc] (.tuple [U.enc,.int .i64 0]):=by
 have f1:(F.shift 1 0).sc (k+1):=by have:=CW F 1 0 k fsc (by omega);simpa using this
 have hF1:=K7 hF [0] (by simp only [AwP,List.length_nil];omega);have xsc:=YS fsc dsc (k:=k) (by omega);have hwt:(Tm.mk 4 0 [d,.mk 5 0 [F.shift 1 0,.mk 1 0 []]]).wt≤3000:=by simp only [Tm.wt,Tm.wtL,B8];omega
 obtain ⟨F',hF'⟩:=Afg (MQ hd k dsc (by omega)) (MQ hF1 (k+1) f1 (by rw [B8];omega)) hwt (Jr _ k xsc) h;exact ⟨F'+10000,fun n hn=>VM (f:=F') (hF' F' (Nat.le_refl _)) (by omega) (by omega) (by omega)⟩
theorem WJ {n:Nat} {a b:Tm} {w:Bool} (h:Bi (SS dt n 16 [.fv a.enc,.fv b.enc] ⟨[],[]⟩) (.tuple [.bool w,.int .i64 0])):Bi (SS dt (n+1) 30 [.fv a.enc,.fv b.enc] ⟨[],[]⟩) (.bool w):=by
 rw [c30];obtain ⟨o1,p1,k1⟩:=a;obtain ⟨o2,p2,k2⟩:=b;simp only [Ah] at h ⊢;cases w
 ·simp only [XG,S30,↓XX,XY,↓reduceIte,Nat.reduceBEq,Nat.reduceAdd,Int.reduceEq,Int.reduceLT,Int.reduceLE,↓Ag h];exact Ao _ _
 ·simp only [XG,S30,↓XX,XY,↓reduceIte,Nat.reduceBEq,Nat.reduceAdd,Int.reduceEq,Int.reduceLT,Int.reduceLE,↓Ag h];exact Ao _ _
def SM (x n:Tm) (X:Tm) (e:Int):Prop:=Ev 17 [.fv x.enc] (.tuple [X.enc,.int .i64 e])∧X.wt≤3000∧((e=5∨e=17)∨e=0∧NOk 4 X∧X.eta=n.eta∧Ev 55 [.fv x.enc] (.tuple [X.enc,.int .i64 0]))
theorem Xg {G:List Nat} {n:Tm} {s:Nat} (hn:NfT G n s) (ho:NOk 4 n):∃X e,SM n n X e:=by
 have hw:=ho.wt;have hd:=ho.dp;obtain ⟨X,e,h1,c1,f,hf⟩:=FI (k:=4) (by omega) ho.sc (by omega);refine ⟨X,e,h1,?_,?_⟩
 ·rcases c1 with ⟨_,h⟩ | ⟨_,rfl⟩
  ·exact h.wt
  ·simp [Tm.z,Tm.wt,Tm.wtL]
 rcases c1 with ⟨rfl,hX⟩ | ⟨h,_⟩
 ·right;obtain ⟨f',hf'⟩:=H5 (Kf hn) ho.sc (by omega) ho.wt hd
  have:=HM hf hf'
  simp only [AwM,and_true] at this;subst this;exact ⟨rfl,hX,rfl,Aka hn ho.sc (by omega) ho.wt hd⟩
 ·exact .inl h
theorem AeG {G:List Nat} {n d:Tm} {s sd:Nat} (hn:NfT G n s) (ho:NOk 4 n) (hd:HasT G d sd) (dsc:d.sc 4) (hG:G.length≤1000) (hw:d.wt+n.wt+3≤3000):∃X e,SM (.mk 4 0 [d,.mk 5 0 [n.shift 1 0,.mk 1 0 []]]) n X e:=by
 have hnw:=ho.wt;have xsc:=YS ho.sc dsc (by omega);obtain ⟨X,e,h1,c1,f,hf⟩:=FI (k:=4) (by omega) xsc (by have:=O4 (Tm.mk 4 0 [d,.mk 5 0 [n.shift 1 0,.mk 1 0 []]]);simp only [Tm.wt,Tm.wtL,B8] at this;omega);refine ⟨X,e,h1,?_,?_⟩
 ·rcases c1 with ⟨_,h⟩ | ⟨_,rfl⟩
  ·exact h.wt
  ·simp [Tm.z,Tm.wt,Tm.wtL]
 rcases c1 with ⟨rfl,hX⟩ | ⟨h,_⟩
 ·right;exact ⟨rfl,hX,AtU hn hd ho.sc xsc (by omega) hG (by omega) hf,Anu (E5 hn) hd ho.sc dsc (by omega) hG hw hf⟩
 ·exact .inl h
structure ThreeC (n:Nat) (le ge ge':FV) (r s q a a' t u nn mm:Tm) (obj is is':Bool) (e e2:Int):Prop where
 hk:Bi (SS dt n 10 [] ⟨[],[]⟩) (.bool true)
 hm:Bi (SS dt n 11 [.fv le] ⟨[],[]⟩) (.bool true)
 fr:Bi (SS dt n 12 [.fv r.enc] ⟨[],[]⟩) (.bool true)
 fs:Bi (SS dt n 12 [.fv s.enc] ⟨[],[]⟩) (.bool true)
 fq:Bi (SS dt n 12 [.fv q.enc] ⟨[],[]⟩) (.bool true)
 h0:Bi (SS dt n 13 [.fv le,.fv r.enc,.fv q.enc,.fv (.bool obj)] ⟨[],[]⟩) (.tuple [ge,a.enc,t.enc,.bool is])
 h0':Bi (SS dt n 13 [.fv le,.fv s.enc,.fv q.enc,.fv (.bool obj)] ⟨[],[]⟩) (.tuple [ge',a'.enc,u.enc,.bool is'])
 j1:Bi (SS dt n 17 [.fv t.enc] ⟨[],[]⟩) (.tuple [nn.enc,.int .i64 e])
 j2:Bi (SS dt n 17 [.fv u.enc] ⟨[],[]⟩) (.tuple [mm.enc,.int .i64 e2])
 v1:Bi (SS dt n 15 [iv e] ⟨[],[]⟩) (.bool (decide (e=17) || decide (e=5)))
 v2:Bi (SS dt n 15 [iv e2] ⟨[],[]⟩) (.bool (decide (e2=17) || decide (e2=5)))
 sz:Bi (SS dt n 18 [.fv nn.enc] ⟨[],[]⟩) (.int .i64 nn.wt)
theorem AjP {e:Int} (h:e=5∨e=17):(decide (e=17) || decide (e=5))=true:=by rcases h with rfl | rfl<;>rfl
theorem AlM {e:Int} (h:e=0):(decide (e=17) || decide (e=5))=false:=by rw [h];rfl
set_option maxRecDepth 20000 in
set_option maxHeartbeats 8000000 in
theorem AjU {n:Nat} {le:FV} {r q s:Tm} {obj ml br bq bs:Bool} (hno:¬ (ml=true∧br=true∧bs=true∧bq=true)) (hk:Bi (SS dt n 10 [] ⟨[],[]⟩) (.bool true)) (hm:Bi (SS dt n 11 [.fv le] ⟨[],[]⟩) (.bool ml))
  (fr:Bi (SS dt n 12 [.fv r.enc] ⟨[],[]⟩) (.bool br)) (fs:Bi (SS dt n 12 [.fv s.enc] ⟨[],[]⟩) (.bool bs)) (fq:Bi (SS dt n 12 [.fv q.enc] ⟨[],[]⟩) (.bool bq)) :
  AeE (SS dt (n+1) 7 [.fv le,.fv r.enc,.fv s.enc,.fv q.enc,.fv (.bool obj)] ⟨[],[]⟩) (.bool true):=by
 rw [c7];obtain ⟨o1,p1,k1⟩:=r;obtain ⟨o2,p2,k2⟩:=q;obtain ⟨o3,p3,k3⟩:=s;simp only [Ah] at fr fq fs ⊢;cases ml
 ·simp (maxSteps:=1000000) only [↓WH,↓XX,XY,↓reduceIte,Nat.reduceBEq,Nat.reduceAdd,Int.reduceEq,Int.reduceLT,Int.reduceLE,↓Cw hk,↓Aq hm];exact JQ
 cases br
 ·simp (maxSteps:=1000000) only [↓WH,↓XX,XY,↓reduceIte,Nat.reduceBEq,Nat.reduceAdd,Int.reduceEq,Int.reduceLT,Int.reduceLE,↓Cw hk,↓Aq hm,↓Aq fr];exact JQ
 cases bs
 ·simp (maxSteps:=1000000) only [↓WH,↓XX,XY,↓reduceIte,Nat.reduceBEq,Nat.reduceAdd,Int.reduceEq,Int.reduceLT,Int.reduceLE,↓Cw hk,↓Aq hm,↓Aq fr,↓Aq fs];exact JQ
 cases bq
 ·simp (maxSteps:=1000000) only [↓WH,↓XX,XY,↓reduceIte,Nat.reduceBEq,Nat.reduceAdd,Int.reduceEq,Int.reduceLT,Int.reduceLE,↓Cw hk,↓Aq hm,↓Aq fr,↓Aq fs,↓Aq fq];exact JQ
 exact absurd ⟨rfl,rfl,rfl,rfl⟩ hno
set_option maxRecDepth 20000 in
set_option maxHeartbeats 8000000 in
theorem Afq {n:Nat} {le ge ge':FV} {r s q a a' t u nn mm:Tm} {obj is is':Bool} {e e2:Int} (C:ThreeC n le ge ge' r s q a a' t u nn mm obj is is' e e2) (he:e=0∨e=5∨e=17) (he2:e2=0∨e2=5∨e2=17) (hno:¬ (is=true∧is'=true∧e=0∧e2=0∧nn.wt≤1000)) :
  AeE (SS dt (n+1) 7 [.fv le,.fv r.enc,.fv s.enc,.fv q.enc,.fv (.bool obj)] ⟨[],[]⟩) (.bool true):=by
 obtain ⟨hk,hm,fr,fs,fq,h0,h0',j1,j2,v1,v2,sz⟩:=C;rw [c7];generalize hW:nn.wt=W at sz hno;obtain ⟨o1,p1,k1⟩:=r;obtain ⟨o2,p2,k2⟩:=q;obtain ⟨o3,p3,k3⟩:=s;obtain ⟨o4,p4,k4⟩:=t;obtain ⟨o5,p5,k5⟩:=u;obtain ⟨o6,p6,k6⟩:=a;obtain ⟨o7,p7,k7⟩:=a';obtain ⟨o8,p8,k8⟩:=nn;obtain ⟨o9,p9,k9⟩:=mm;simp only [Ah] at fr fq fs h0 h0' j1 j2 sz ⊢;cases is
 ·simp (maxSteps:=1000000) only [↓WH,↓XX,XY,↓reduceIte,Nat.reduceBEq,Nat.reduceAdd,Int.reduceEq,Int.reduceLT,Int.reduceLE,↓Cw hk,↓Aq hm,↓Aq fr,↓Aq fs,↓Aq fq,↓AA h0,↓AA h0',↓Aq j1,↓Aq j2];exact JQ
 cases is'
 ·simp (maxSteps:=1000000) only [↓WH,↓XX,XY,↓reduceIte,Nat.reduceBEq,Nat.reduceAdd,Int.reduceEq,Int.reduceLT,Int.reduceLE,↓Cw hk,↓Aq hm,↓Aq fr,↓Aq fs,↓Aq fq,↓AA h0,↓AA h0',↓Aq j1,↓Aq j2];exact JQ
 rcases he with he | he
 case inr =>
  rw [AjP he] at v1;simp (maxSteps:=1000000) only [↓WH,↓XX,XY,↓reduceIte,Nat.reduceBEq,Nat.reduceAdd,Int.reduceEq,Int.reduceLT,Int.reduceLE,↓Cw hk,↓Aq hm,↓Aq fr,↓Aq fs,↓Aq fq,↓AA h0,↓AA h0',↓Aq j1,↓Aq j2,↓Aq v1];exact JQ
 rw [AlM he] at v1;rcases he2 with he2 | he2
 case inr =>
  rw [AjP he2] at v2;simp (maxSteps:=1000000) only [↓WH,↓XX,XY,↓reduceIte,Nat.reduceBEq,Nat.reduceAdd,Int.reduceEq,Int.reduceLT,Int.reduceLE,↓Cw hk,↓Aq hm,↓Aq fr,↓Aq fs,↓Aq fq,↓AA h0,↓AA h0',↓Aq j1,↓Aq j2,↓Aq v1,↓Aq v2];exact JQ
 rw [AlM he2] at v2;have hs:(1000:Int)<W:=by
  have:¬ W≤1000:=fun h=>hno ⟨rfl,rfl,he,he2,h⟩
  omega
 simp (maxSteps:=1000000) only [↓WH,↓XX,XY,↓reduceIte,Nat.reduceBEq,Nat.reduceAdd,Int.reduceEq,Int.reduceLT,Int.reduceLE,↓Cw hk,↓Aq hm,↓Aq fr,↓Aq fs,↓Aq fq,↓AA h0,↓AA h0',↓Aq j1,↓Aq j2,↓Aq v1,↓Aq v2,↓Aq sz,hs];exact JQ
set_option maxRecDepth 20000 in
set_option maxHeartbeats 16000000 in
theorem Ak7 {n:Nat} {le ge ge':FV} {r s q a a' t u nn mm X:Tm} {obj w:Bool} {e3:Int} (C:ThreeC n le ge ge' r s q a a' t u nn mm obj true true 0 0) (hs:nn.wt≤1000) (hB:obj=true∨a.op≠3)
  (j3:Bi (SS dt n 17 [.fv nn.enc] ⟨[],[]⟩) (.tuple [X.enc,.int .i64 e3])) (v3:Bi (SS dt n 15 [iv e3] ⟨[],[]⟩) (.bool (decide (e3=17) || decide (e3=5))))
  (hx:(e3=5∨e3=17)∨e3=0∧Bi (SS dt n 30 [.fv t.enc,.fv nn.enc] ⟨[],[]⟩) (.bool true)∧Bi (SS dt n 30 [.fv t.enc,.fv u.enc] ⟨[],[]⟩) (.bool w)∧Bi (SS dt n 30 [.fv nn.enc,.fv u.enc] ⟨[],[]⟩) (.bool w)) :
  AeE (SS dt (n+1) 7 [.fv le,.fv r.enc,.fv s.enc,.fv q.enc,.fv (.bool obj)] ⟨[],[]⟩) (.bool true):=by
 obtain ⟨hk,hm,fr,fs,fq,h0,h0',j1,j2,v1,v2,sz⟩:=C;rw [c7];have hs':¬ (1000:Int)<nn.wt:=by omega
 generalize hW:nn.wt=W at sz hs';rw [AlM rfl] at v1;obtain ⟨o1,p1,k1⟩:=r;obtain ⟨o2,p2,k2⟩:=q;obtain ⟨o3,p3,k3⟩:=s;obtain ⟨o4,p4,k4⟩:=t;obtain ⟨o5,p5,k5⟩:=u;obtain ⟨o6,p6,k6⟩:=a;obtain ⟨o7,p7,k7⟩:=a';obtain ⟨o8,p8,k8⟩:=nn;obtain ⟨o9,p9,k9⟩:=mm;obtain ⟨oX,pX,kX⟩:=X;have bb:(w == w)=true:=by cases w<;>rfl
 simp only [Ah,Tm.op] at fr fq fs h0 h0' j1 j2 j3 sz hx hB ⊢;have ob:obj=true∨obj=false∧o6≠3:=by
  cases obj
  ·exact .inr ⟨rfl,hB.resolve_left (by simp)⟩
  ·exact .inl rfl
 rcases hx with hx | ⟨rfl,q1,q2,q3⟩
 ·rw [AjP hx] at v3;rcases ob with rfl | ⟨rfl,h6⟩
  ·simp (maxSteps:=1000000) only [↓WH,↓XX,XY,↓reduceIte,Nat.reduceBEq,Nat.reduceAdd,Int.reduceEq,Int.reduceLT,Int.reduceLE,↓AD,XD,heldB,AL,XE,PS,↓Cw hk,↓Aq hm,↓Aq fr,↓Aq fs,↓Aq fq,↓AA h0,↓AA h0',↓Aq j1,↓Aq j2,↓Aq v1,↓Aq sz,hs',↓Aq j3,↓Aq v3];exact JQ
  ·simp (maxSteps:=1000000) only [↓WH,↓XX,XY,↓reduceIte,Nat.reduceBEq,Nat.reduceAdd,Int.reduceEq,Int.reduceLT,Int.reduceLE,↓AD,XD,heldB,AL,XE,PS,↓Cw hk,↓Aq hm,↓Aq fr,↓Aq fs,↓Aq fq,↓AA h0,↓AA h0',↓Aq j1,↓Aq j2,↓Aq v1,↓Aq sz,hs',h6,↓Aq j3,↓Aq v3];exact JQ
 ·rcases ob with rfl | ⟨rfl,h6⟩
  ·simp (maxSteps:=1000000) only [↓WH,↓XX,XY,↓reduceIte,Nat.reduceBEq,Nat.reduceAdd,Int.reduceEq,Int.reduceLT,Int.reduceLE,↓AD,XD,heldB,AL,XE,PS,↓Cw hk,↓Aq hm,↓Aq fr,↓Aq fs,↓Aq fq,↓AA h0,↓AA h0',↓Aq j1,↓Aq j2,↓Aq v1,↓Aq sz,hs',↓Aq j3,↓Ag q1,↓Ag q2,↓Ag q3,↓Ahe,bb];exact JQ
  ·simp (maxSteps:=1000000) only [↓WH,↓XX,XY,↓reduceIte,Nat.reduceBEq,Nat.reduceAdd,Int.reduceEq,Int.reduceLT,Int.reduceLE,↓AD,XD,heldB,AL,XE,PS,↓Cw hk,↓Aq hm,↓Aq fr,↓Aq fs,↓Aq fq,↓AA h0,↓AA h0',↓Aq j1,↓Aq j2,↓Aq v1,↓Aq sz,hs',h6,↓Aq j3,↓Ag q1,↓Ag q2,↓Ag q3,↓Ahe,bb];exact JQ
set_option maxRecDepth 20000 in
set_option maxHeartbeats 16000000 in
theorem AjF {n:Nat} (hn:0<n) {le ge ge':FV} {r s q d b a' t u nn mm X n1:Tm} {na:Int} {w:Bool} {e3:Int} (C:ThreeC n le ge ge' r s q (.mk 3 na [d,b]) a' t u nn mm false true true 0 0) (hs:nn.wt≤1000)
  (hsh:Bi (SS dt n 25 [.fv nn.enc,iv 1,iv 0] ⟨[],[]⟩) n1.enc)
  (j3:Bi (SS dt n 17 [.fv (Tm.mk 4 0 [d,.mk 5 0 [n1,.mk 1 0 []]]).enc] ⟨[],[]⟩) (.tuple [X.enc,.int .i64 e3])) (v3:Bi (SS dt n 15 [iv e3] ⟨[],[]⟩) (.bool (decide (e3=17) || decide (e3=5))))
  (hx:(e3=5∨e3=17)∨e3=0∧Bi (SS dt n 30 [.fv t.enc,.fv (Tm.mk 4 0 [d,.mk 5 0 [n1,.mk 1 0 []]]).enc] ⟨[],[]⟩) (.bool true)∧Bi (SS dt n 30 [.fv t.enc,.fv u.enc] ⟨[],[]⟩) (.bool w)∧Bi (SS dt n 30 [.fv (Tm.mk 4 0 [d,.mk 5 0 [n1,.mk 1 0 []]]).enc,.fv u.enc] ⟨[],[]⟩) (.bool w)) :
  AeE (SS dt (n+1) 7 [.fv le,.fv r.enc,.fv s.enc,.fv q.enc,.fv (.bool false)] ⟨[],[]⟩) (.bool true):=by
 obtain ⟨hk,hm,fr,fs,fq,h0,h0',j1,j2,v1,v2,sz⟩:=C;rw [c7];have hs':¬ (1000:Int)<nn.wt:=by omega
 generalize hW:nn.wt=W at sz hs';rw [AlM rfl] at v1;have v0:=Akn (n:=n) hn 0;have t5:=CX (n:=n) hn 5 [n1,.mk 1 0 []];have t4:=CX (n:=n) hn 4 [d,.mk 5 0 [n1,.mk 1 0 []]];obtain ⟨o1,p1,k1⟩:=r;obtain ⟨o2,p2,k2⟩:=q;obtain ⟨o3,p3,k3⟩:=s;obtain ⟨o4,p4,k4⟩:=t;obtain ⟨o5,p5,k5⟩:=u;obtain ⟨o6,p6,k6⟩:=d;obtain ⟨ob,pb,kb⟩:=b;obtain ⟨o7,p7,k7⟩:=a';obtain ⟨o8,p8,k8⟩:=nn;obtain ⟨o9,p9,k9⟩:=mm;obtain ⟨oX,pX,kX⟩:=X;obtain ⟨oN,pN,kN⟩:=n1;have bb:(w == w)=true:=by cases w<;>rfl
 simp only [Ah,AwR,AwQ] at fr fq fs h0 h0' j1 j2 j3 sz hx hsh v0 t5 t4 ⊢;rcases hx with hx | ⟨rfl,q1,q2,q3⟩
 ·rw [AjP hx] at v3;simp (maxSteps:=1000000) only [↓WH,↓XX,XY,↓reduceIte,Nat.reduceBEq,Nat.reduceAdd,Int.reduceEq,Int.reduceLT,Int.reduceLE,↓AD,XD,heldB,AL,XE,PS,↓Cw hk,↓Aq hm,↓Aq fr,↓Aq fs,↓Aq fq,↓AA h0,↓AA h0',↓Aq j1,↓Aq j2,↓Aq v1,↓Aq sz,hs',↓DX,↓AZ hsh,↓Aq v0,↓Db,↓Ag t5,↓Ag t4,↓Aq j3,↓Aq v3];exact JQ
 ·simp (maxSteps:=1000000) only [↓WH,↓XX,XY,↓reduceIte,Nat.reduceBEq,Nat.reduceAdd,Int.reduceEq,Int.reduceLT,Int.reduceLE,↓AD,XD,heldB,AL,XE,PS,↓Cw hk,↓Aq hm,↓Aq fr,↓Aq fs,↓Aq fq,↓AA h0,↓AA h0',↓Aq j1,↓Aq j2,↓Aq v1,↓Aq sz,hs',↓DX,↓AZ hsh,↓Aq v0,↓Db,↓Ag t5,↓Ag t4,↓Aq j3,↓Ag q1,↓Ag q2,↓Ag q3,↓Ahe,bb];exact JQ
theorem Ahz {G:List Nat} {a:Tm} {s:Nat} (h:HasT G a s) (ho:a.op=3):∃(na:Int) (d b:Tm) (sd:Nat),a=.mk 3 na [d,b]∧HasT G d sd:=by
 cases h with
 | var=>simp [Tm.op] at ho
 | app=>simp [Tm.op] at ho
 | fst=>simp [Tm.op] at ho
 | snd=>simp [Tm.op] at ho
 | node _ op m ks _ sg hr hl hk =>
  simp only [Tm.op] at ho;subst ho;have h2:∃s0 s1:Nat×List Nat,True:=⟨(0,[]),(0,[]),trivial⟩;cases hr with
  | _ =>
   first
   | (
     match ks,hl,hk with
     | [d,b],_,hk=>exact ⟨m,d,b,_,rfl,hk 0 d [] _ rfl rfl⟩)
set_option maxRecDepth 20000 in
set_option maxHeartbeats 8000000 in
theorem P6 (l:List Tm) (hll:l.length≤9223372036854775807) (r s q:Tm) (object:Bool):∃N,AeE (SS dt N 7 [.fv (.sl (l.map Tm.enc)),.fv r.enc,.fv s.enc,.fv q.enc,.fv (.bool object)] ⟨[],[]⟩) (.bool true):=by
 by_cases hb:AfT l=true∧decide (r.count 300<300)=true∧decide (s.count 300<300)=true∧decide (q.count 300<300)=true
 case neg =>
  obtain ⟨m,hm⟩:∃m,m=Tm.wtL l+r.wt+q.wt+s.wt+10000000000:=⟨_,rfl⟩;exact ⟨m+1+1,AjU hb (Om (by omega)) (AbN l hll (by omega)) (JX r (by omega)) (JX s (by omega)) (JX q (by omega))⟩
 obtain ⟨b1,b2,b3,b4⟩:=hb;obtain ⟨g,a,t,is,⟨N0,h0⟩,hC,hpl,_⟩:=Aco l hll r q object;obtain ⟨g',a',u,is',⟨N0',h0'⟩,hC',hpl',_⟩:=Aco l hll s q object;have hg4:=hC.len;have hg4':=hC'.len;have t4:=Oa t (show g.length≤4 by omega) hC.tsc
 have u4:=Oa u (show g'.length≤4 by omega) hC'.tsc
 have a4:=Oa a (show g.length≤4 by omega) hC.asc
 obtain ⟨nn,e,⟨N1,j1⟩,c1,f1,hf1⟩:=FI (k:=4) (by omega) t4 (by have:=hC.tdp;omega);obtain ⟨mm,e2,⟨N2,j2⟩,c2,f2,hf2⟩:=FI (k:=4) (by omega) u4 (by have:=hC'.tdp;omega);have nw:nn.wt≤3000:=by
  rcases c1 with ⟨_,h⟩ | ⟨_,rfl⟩
  ·exact h.wt
  ·simp [Tm.z,Tm.wt,Tm.wtL]
 have he:e=0∨e=5∨e=17:=by
  rcases c1 with ⟨h,_⟩ | ⟨h,_⟩
  ·exact .inl h
  ·exact .inr h
 have he2:e2=0∨e2=5∨e2=17:=by
  rcases c2 with ⟨h,_⟩ | ⟨h,_⟩
  ·exact .inl h
  ·exact .inr h
 have mk:∀n,N0+N0'+N1+N2+Tm.wtL l+r.wt+s.wt+q.wt+10000000000≤n→ThreeC n (FV.sl (l.map Tm.enc)) (Be g) (Be g') r s q a a' t u nn mm object is is' e e2:=by
  intro n hn;obtain ⟨m,rfl⟩:∃m,n=m+1:=⟨n - 1,by omega⟩;have hm:=AbN l hll (n:=m+1) (by omega);have fr:=JX (n:=m) r (by omega);have fs:=JX (n:=m) s (by omega);have fq:=JX (n:=m) q (by omega);rw [b1] at hm;rw [b2] at fr;rw [b3] at fs;rw [b4] at fq;exact ⟨Om (by omega),hm,fr,fs,fq,h0 _ (by omega),h0' _ (by omega),j1 _ (by omega),j2 _ (by omega),Kg (by omega) e,Kg (by omega) e2,AfD _ nn (by omega) (by omega)⟩
 by_cases hgo:is=true∧is'=true∧e=0∧e2=0∧nn.wt≤1000
 case neg=>exact ⟨_,Afq (mk _ (Nat.le_refl _)) he he2 hgo⟩
 obtain ⟨rfl,rfl,rfl,rfl,hs⟩:=hgo;have hX:=(c1.resolve_right (by omega)).2;have hY:=(c2.resolve_right (by omega)).2;obtain ⟨G,hG,⟨s1,ht⟩,htw,⟨sa,ha⟩,haw⟩:=QX hC hpl;obtain ⟨G',hG',⟨s2,hu⟩,huw,_,_⟩:=QX hC' hpl';have hGl:=hG.len;have hn:=Fv hf1 ht;obtain ⟨M1,k1⟩:=Aiy ht t4 (by omega) htw hf1;obtain ⟨M2,k2⟩:=Aiy hu u4 (by omega) huw hf2;have third:∀(x X:Tm) (e3:Int),SM x nn X e3→∃M:Nat,∀n,M≤n→Bi (SS dt n 17 [.fv x.enc] ⟨[],[]⟩) (.tuple [X.enc,.int .i64 e3]) ∧
   ((e3=5∨e3=17)∨e3=0∧Bi (SS dt n 30 [.fv t.enc,.fv x.enc] ⟨[],[]⟩) (.bool true)∧Bi (SS dt n 30 [.fv t.enc,.fv u.enc] ⟨[],[]⟩) (.bool (nn.eta.same mm.eta))∧Bi (SS dt n 30 [.fv x.enc,.fv u.enc] ⟨[],[]⟩) (.bool (nn.eta.same mm.eta))):=by
  rintro x X e3 ⟨⟨M3,j3⟩,Xw,h | ⟨rfl,hx,hxe,M4,k3⟩⟩
  ·exact ⟨M3,fun n hn=>⟨j3 n hn,.inl h⟩⟩
  ·refine ⟨M1+M2+M3+M4+20003,fun n hn=>⟨j3 n (by omega),.inr ⟨rfl,?_⟩⟩⟩;obtain ⟨n,rfl⟩:∃k,n=k+3:=⟨n - 3,by omega⟩;have q1:=MI (k1 n (by omega)) (k3 n (by omega)) hX.sc hx.sc (by omega) hX.wt hx.wt (by omega);have q2:=MI (k1 n (by omega)) (k2 n (by omega)) hX.sc hY.sc (by omega) hX.wt hY.wt (by omega);have q3:=MI (k3 n (by omega)) (k2 n (by omega)) hx.sc hY.sc (by omega) hx.wt hY.wt (by omega);rw [hxe,(LW nn.eta nn.eta).2 rfl] at q1;rw [hxe] at q3;exact ⟨WJ q1,WJ q2,WJ q3⟩
 by_cases hA:object=false∧a.op=3
 ·obtain ⟨rfl,hA⟩:=hA;have aw:=t_7 (hC.ga rfl);obtain ⟨na,d,b,sd,rfl,hd⟩:=Ahz ha hA;have dsc:d.sc 4:=by
   rw [Tm.sc,if_neg (by decide)] at a4
   have:=a4.2.2.1
   simpa [Ae] using this
  simp only [Tm.wt,Tm.wtL] at aw;obtain ⟨X,e3,h3⟩:=AeG hn hX hd dsc (by omega) (by omega);obtain ⟨M,hM⟩:=third _ X e3 h3;obtain ⟨n,hnn⟩:∃n,n=M+(N0+N0'+N1+N2+Tm.wtL l+r.wt+s.wt+q.wt+10000000000):=⟨_,rfl⟩;obtain ⟨j3,hx⟩:=hM n (by omega);exact ⟨n+1,AjF (by omega) (mk n (by omega)) hs (CY n nn 1 0 (by omega) (E8 nn 4 hX.sc) (by omega) (by omega)) j3 (Kg (by omega) e3) hx⟩
 ·obtain ⟨X,e3,h3⟩:=Xg hn hX;obtain ⟨M,hM⟩:=third _ X e3 h3;obtain ⟨n,hnn⟩:∃n,n=M+(N0+N0'+N1+N2+Tm.wtL l+r.wt+s.wt+q.wt+10000000000):=⟨_,rfl⟩;obtain ⟨j3,hx⟩:=hM n (by omega);refine ⟨n+1,Ak7 (mk n (by omega)) hs ?_ j3 (Kg (by omega) e3) hx⟩;cases object
  ·exact .inr fun h=>hA ⟨rfl,h⟩
  ·exact .inl rfl
end Idl
end Go.Proofs.Ytaifgaidaglblaa

/-
  Texts of a proof, part 14: an ideal semantics of the program, its functions in shallow form, contracts of them. No statement of the seat is proved here.
-/
import Derived.Test.YtkfecngimlcfoaaStageAllK13
set_option linter.all false
set_option maxRecDepth 20000
set_option maxHeartbeats 16000000
noncomputable section
namespace Go.Proofs.Ytkfecngimlcfoaa
namespace Idl
def s1 (x:Tm):Nat->Tm
 | 0=>x
 | j+1=>vT j
def s2 (r k:Tm):Nat->Tm
 | 0=>r
 | 1=>k
 | j+2=>vT j
inductive Par:Tm->Tm->Prop
 | var (n:Int) (ks:List Tm):Par (.mk 1 n ks) (.mk 1 n ks)
 | node (op n:Int) (ks ks':List Tm) (h1:op≠1) (hl:ks'.length=ks.length) (hk:∀(i:Nat) a b,ks[i]?=some a->ks'[i]?=some b->Par a b):Par (.mk op n ks) (.mk op n ks')
 | beta (n m:Int) (a b b' x x':Tm) (hb:Par b b') (hx:Par x x'):Par (.mk 5 n [.mk 4 m [a,b],x]) (b'.sub (s1 x'))
 | fst (n m:Int) (a x x' y:Tm) (hx:Par x x'):Par (.mk 8 n [.mk 7 m [a,x,y]]) x'
 | snd (n m:Int) (a x y y':Tm) (hy:Par y y'):Par (.mk 9 n [.mk 7 m [a,x,y]]) y'
 | splq (c c':Tm) (hc:Par c c'):Par (.mk 30 0 [.mk 19 0 [c]]) c'
 | quos (c c':Tm) (hc:Par c c'):Par (.mk 19 0 [.mk 30 0 [c]]) c'
 | recz (n m:Int) (a z z' s:Tm) (l:List Tm) (hz:Par z z'):Par (.mk 13 n [a,z,s,.mk 11 m l]) z'
 | recs (n m:Int) (a a' z z' s s' k k':Tm) (ha:Par a a') (hz:Par z z') (hs:Par s s') (hk:Par k k'):Par (.mk 13 n [a,z,s,.mk 12 m [k]]) (s'.sub (s2 (.mk 13 0 [a',z',s',k']) k'))
theorem AiR:∀(m:Nat) (t:Tm),t.wt<m->Par t t:=by
 intro m
 induction m with
 | zero=>intro t h;omega
 | succ m ih =>
  intro t h;obtain ⟨op,n,ks⟩:=t;simp only [Tm.wt] at h;by_cases h1:op=1
  ·subst h1;exact .var n ks
  ·exact .node op n ks ks h1 rfl (fun i a b ha hb=>by
    rw [ha] at hb;cases hb;exact ih a (by have:=Iv ha;omega))
theorem A8 (t:Tm):Par t t:=AiR (t.wt+1) t (by omega)
theorem Er (ρ:Nat->Nat):LS 0 ρ=ρ:=by
 funext i;simp [LS]
theorem CU (σ:Nat->Tm):CX 0 σ=σ:=by
 funext i
 simp only [CX,Nat.not_lt_zero,if_false,Nat.sub_zero];rw [HA];exact Mj _
theorem AsZ (x:Tm) (ρ:Nat->Nat):(fun i=>(s1 x i).ren ρ)=fun i=>s1 (x.ren ρ) (LS 1 ρ i):=by
 funext i
 cases i with
 | zero=>simp [s1,LS]
 | succ i=>simp [s1,LS,Hh]
theorem Asy (r k:Tm) (ρ:Nat->Nat):(fun i=>(s2 r k i).ren ρ)=fun i=>s2 (r.ren ρ) (k.ren ρ) (LS 2 ρ i):=by
 funext i
 match i with
 | 0=>simp [s2,LS]
 | 1=>simp [s2,LS]
 | i+2 =>
  show (vT i).ren ρ=s2 _ _ (LS 2 ρ (i+2))
  rw [HJ (by omega),Hh,Nat.add_sub_cancel];rfl
theorem Hi (t:Tm) (k:Nat) (τ:Nat->Tm) (h:∀j,τ (j+k)=vT j):(t.ren fun j=>j+k).sub τ=t:=by
 rw [HM]
 have:(fun i=>τ (i+k))=vT:=funext h
 rw [this,Mj]
theorem Art (x:Tm) (σ:Nat->Tm):(fun i=>(s1 x i).sub σ)=fun i=>(CX 1 σ i).sub (s1 (x.sub σ)):=by
 funext i
 cases i with
 | zero=>simp [s1,CX,FL]
 | succ i =>
  simp only [s1,CX,FL];rw [if_neg (by omega),Nat.add_sub_cancel,Hi _ _ _ (fun j=>rfl)]
theorem AtI (r k:Tm) (σ:Nat->Tm):(fun i=>(s2 r k i).sub σ)=fun i=>(CX 2 σ i).sub (s2 (r.sub σ) (k.sub σ)):=by
 funext i
 match i with
 | 0=>simp [s2,CX,FL]
 | 1=>simp [s2,CX,FL]
 | i+2 =>
  simp only [s2,CX,FL];rw [if_neg (by omega),Nat.add_sub_cancel,Hi _ _ _ (fun j=>rfl)]
theorem ApO {t t':Tm} (h:Par t t'):∀ρ,Par (t.ren ρ) (t'.ren ρ):=by
 induction h with
 | var n ks=>intro ρ;exact A8 _
 | node op n ks ks' h1 hl hk ih =>
  intro ρ;rw [Tm.ren,if_neg h1,Tm.ren,if_neg h1];refine .node _ _ _ _ h1 (by rw [Ib,Ib,hl]) (fun i a b ha hb=>?_);rw [Nx,Nat.zero_add] at ha hb;cases hx:ks[i]? with
  | none=>rw [hx] at ha;cases ha
  | some x =>
   cases hy:ks'[i]? with
   | none=>rw [hy] at hb;cases hb
   | some y =>
    rw [hx] at ha;rw [hy] at hb;simp only [AB2,ABZ] at ha hb;subst ha hb;exact ih i x y hx hy _
 | beta n m a b b' x x' hb hx ihb ihx =>
  intro ρ
  have:=Par.beta n m (a.ren (LS 0 ρ)) _ _ _ _ (ihb (LS 1 ρ)) (ihx ρ)
  rw [GS,AsZ,<- HM];simp only [Tm.ren,Tm.renL];rw [if_neg (by omega),if_neg (by omega)];simpa [Af,Er] using this
 | fst n m a x x' y hx ih =>
  intro ρ
  have:=Par.fst n m (a.ren ρ) _ _ (y.ren ρ) (ih ρ)
  simp only [Tm.ren,Tm.renL];rw [if_neg (by omega),if_neg (by omega)];simpa [Af,Er] using this
 | snd n m a x y y' hy ih =>
  intro ρ
  have:=Par.snd n m (a.ren ρ) (x.ren ρ) _ _ (ih ρ)
  simp only [Tm.ren,Tm.renL];rw [if_neg (by omega),if_neg (by omega)];simpa [Af,Er] using this
 | splq c c' hc ih =>
  intro ρ
  have:=Par.splq _ _ (ih ρ)
  simp only [Tm.ren,Tm.renL];rw [if_neg (by omega),if_neg (by omega)];simpa [Af,Er] using this
 | quos c c' hc ih =>
  intro ρ
  have:=Par.quos _ _ (ih ρ)
  simp only [Tm.ren,Tm.renL];rw [if_neg (by omega),if_neg (by omega)];simpa [Af,Er] using this
 | recz n m a z z' s l hz ih =>
  intro ρ
  have:=Par.recz n m (a.ren (LS 1 ρ)) _ _ (s.ren (LS 2 ρ)) (Tm.renL 11 0 l ρ) (ih ρ)
  simp only [Tm.ren,Tm.renL];rw [if_neg (by omega),if_neg (by omega)];simpa [Af,Er] using this
 | recs n m a a' z z' s s' k k' ha hz hs hk iha ihz ihs ihk =>
  intro ρ
  have:=Par.recs n m _ _ _ _ _ _ _ _ (iha (LS 1 ρ)) (ihz ρ) (ihs (LS 2 ρ)) (ihk ρ)
  rw [GS,Asy,<- HM];simp only [Tm.ren,Tm.renL];rw [if_neg (by omega),if_neg (by omega),if_neg (by omega)];simpa [Af,Er] using this
theorem ND {σ σ':Nat->Tm} (h:∀i,Par (σ i) (σ' i)) (k:Nat):∀i,Par (CX k σ i) (CX k σ' i):=by
 intro i;simp only [CX];by_cases hi:i<k
 ·rw [if_pos hi,if_pos hi];exact A8 _
 ·rw [if_neg hi,if_neg hi];exact ApO (h _) _
theorem M4 {t t':Tm} (h:Par t t'):∀σ σ',(∀i,Par (σ i) (σ' i))->Par (t.sub σ) (t'.sub σ'):=by
 induction h with
 | var n ks =>
  intro σ σ' hσ;rw [Tm.sub,if_pos rfl,Tm.sub,if_pos rfl];by_cases hn:n<0\/ks.isEmpty=false
  ·rw [if_pos hn,if_pos hn];exact A8 _
  ·rw [if_neg hn,if_neg hn];exact hσ _
 | node op n ks ks' h1 hl hk ih =>
  intro σ σ' hσ;rw [Tm.sub,if_neg h1,Tm.sub,if_neg h1];refine .node _ _ _ _ h1 (by rw [K0,K0,hl]) (fun i a b ha hb=>?_);rw [UD,Nat.zero_add] at ha hb;cases hx:ks[i]? with
  | none=>rw [hx] at ha;cases ha
  | some x =>
   cases hy:ks'[i]? with
   | none=>rw [hy] at hb;cases hb
   | some y =>
    rw [hx] at ha;rw [hy] at hb;simp only [AB2,ABZ] at ha hb;subst ha hb;exact ih i x y hx hy _ _ (ND hσ _)
 | beta n m a b b' x x' hb hx ihb ihx =>
  intro σ σ' hσ
  have:=Par.beta n m (a.sub σ) _ _ _ _ (ihb _ _ (ND hσ 1)) (ihx _ _ hσ)
  rw [Fx,Art,<- Fx];simp only [Tm.sub,Tm.subL];rw [if_neg (by omega),if_neg (by omega)];simpa [Af,CU] using this
 | fst n m a x x' y hx ih =>
  intro σ σ' hσ
  have:=Par.fst n m (a.sub σ) _ _ (y.sub σ) (ih _ _ hσ)
  simp only [Tm.sub,Tm.subL];rw [if_neg (by omega),if_neg (by omega)];simpa [Af,CU] using this
 | snd n m a x y y' hy ih =>
  intro σ σ' hσ
  have:=Par.snd n m (a.sub σ) (x.sub σ) _ _ (ih _ _ hσ)
  simp only [Tm.sub,Tm.subL];rw [if_neg (by omega),if_neg (by omega)];simpa [Af,CU] using this
 | splq c c' hc ih =>
  intro σ σ' hσ
  have:=Par.splq _ _ (ih _ _ hσ)
  simp only [Tm.sub,Tm.subL];rw [if_neg (by omega),if_neg (by omega)];simpa [Af,CU] using this
 | quos c c' hc ih =>
  intro σ σ' hσ
  have:=Par.quos _ _ (ih _ _ hσ)
  simp only [Tm.sub,Tm.subL];rw [if_neg (by omega),if_neg (by omega)];simpa [Af,CU] using this
 | recz n m a z z' s l hz ih =>
  intro σ σ' hσ
  have:=Par.recz n m (a.sub (CX 1 σ)) _ _ (s.sub (CX 2 σ)) (Tm.subL 11 0 l σ) (ih _ _ hσ)
  simp only [Tm.sub,Tm.subL];rw [if_neg (by omega),if_neg (by omega)];simpa [Af,CU] using this
 | recs n m a a' z z' s s' k k' ha hz hs hk iha ihz ihs ihk =>
  intro σ σ' hσ
  have:=Par.recs n m _ _ _ _ _ _ _ _ (iha _ _ (ND hσ 1)) (ihz _ _ hσ) (ihs _ _ (ND hσ 2)) (ihk _ _ hσ)
  rw [Fx,AtI,<- Fx];simp only [Tm.sub,Tm.subL];rw [if_neg (by omega),if_neg (by omega),if_neg (by omega)];simpa [Af,CU] using this
theorem Yo {Q:Tm->Tm->Prop}:∀(ks:List Tm),(∀a∈ks,∃d,Q a d)->∃ds:List Tm,ds.length=ks.length/\∀(i:Nat) a d,ks[i]?=some a->ds[i]?=some d->Q a d
 | [],_=>⟨[],rfl,fun i a d h=>by simp at h⟩
 | a::l,h=>by
  obtain ⟨d,hd⟩:=h a List.mem_cons_self;obtain ⟨ds,h1,h2⟩:=Yo l (fun a ha=>h a (List.mem_cons_of_mem _ ha));refine ⟨d::ds,by simp [h1],fun i x y hx hy=>?_⟩;cases i with
  | zero=>simp at hx hy;subst hx hy;exact hd
  | succ i=>simp at hx hy;exact h2 i x y hx hy
def Att (op n:Int) (ks:List Tm):Prop:=(op=5/\∃m a b x,ks=[.mk 4 m [a,b],x])\/(op=8/\∃m a x y,ks=[.mk 7 m [a,x,y]])\/(op=9/\∃m a x y,ks=[.mk 7 m [a,x,y]])\/(op=30/\n=0/\∃c,ks=[.mk 19 0 [c]])\/(op=19/\n=0/\∃c,ks=[.mk 30 0 [c]]) \/
 (op=13/\∃a z s m l,ks=[a,z,s,.mk 11 m l])\/(op=13/\∃a z s m k,ks=[a,z,s,.mk 12 m [k]])
theorem Aq3 {n op:Int} {x y:Tm} {t:Tm} (h:Par (.mk op n [x,y]) t) (ho:op≠1/\op≠5):∃x' y',t=.mk op n [x',y']/\Par x x'/\Par y y':=by
 cases h with
 | var=>exact absurd rfl ho.1
 | node _ _ _ ks' h1 hl hk =>
  obtain ⟨x',y',rfl⟩:=T5 hl;exact ⟨x',y',rfl,hk 0 x x' rfl rfl,hk 1 y y' rfl rfl⟩
 | beta=>exact absurd rfl ho.2
theorem AqK {n op:Int} {x y z:Tm} {t:Tm} (h:Par (.mk op n [x,y,z]) t) (ho:op≠1):∃x' y' z',t=.mk op n [x',y',z']/\Par x x'/\Par y y'/\Par z z':=by
 cases h with
 | var=>exact absurd rfl ho
 | node _ _ _ ks' h1 hl hk =>
  obtain ⟨x',y',z',rfl⟩:=AuZ hl;exact ⟨x',y',z',rfl,hk 0 x x' rfl rfl,hk 1 y y' rfl rfl,hk 2 z z' rfl rfl⟩
theorem dev:∀(m:Nat) (t:Tm),t.wt<m->∃d,∀t',Par t t'->Par t' d:=by
 intro m
 induction m with
 | zero=>intro t h;omega
 | succ m ih =>
  intro t hw;obtain ⟨op,n,ks⟩:=t;by_cases h1:op=1
  ·subst h1;refine ⟨.mk 1 n ks,fun t' h=>?_⟩;cases h with
   | var=>exact .var n ks
   | node _ _ _ _ h1=>exact absurd rfl h1
  by_cases hr:Att op n ks
  ·rcases hr with ⟨rfl,m1,a,b,x,rfl⟩ | ⟨rfl,m1,a,x,y,rfl⟩ | ⟨rfl,m1,a,x,y,rfl⟩ | ⟨rfl,rfl,c,rfl⟩ | ⟨rfl,rfl,c,rfl⟩ | ⟨rfl,a,z,s,m1,l,rfl⟩ | ⟨rfl,a,z,s,m1,k,rfl⟩
   ·simp only [Tm.wt,Tm.wtL] at hw;obtain ⟨db,hb⟩:=ih b (by omega);obtain ⟨dx,hx⟩:=ih x (by omega);refine ⟨db.sub (s1 dx),fun t' h=>?_⟩;cases h with
    | node _ _ _ ks' _ hl hk =>
     obtain ⟨l',x',rfl⟩:=T5 hl;obtain ⟨a',b',rfl,_,q2⟩:=Aq3 (hk 0 _ l' rfl rfl) (by decide);exact .beta n m1 a' b' db x' dx (hb b' q2) (hx x' (hk 1 x x' rfl rfl))
    | beta _ _ _ _ b' _ x' p1 p2 =>
     refine M4 (hb b' p1) _ _ (fun i=>?_);cases i with
     | zero=>exact hx x' p2
     | succ i=>exact A8 _
   ·simp only [Tm.wt,Tm.wtL] at hw;obtain ⟨dx,hx⟩:=ih x (by omega);refine ⟨dx,fun t' h=>?_⟩;cases h with
    | node _ _ _ ks' _ hl hk =>
     obtain ⟨l',rfl⟩:=Cp hl;obtain ⟨a',x',y',rfl,_,q2,_⟩:=AqK (hk 0 _ l' rfl rfl) (by decide);exact .fst n m1 a' x' dx y' (hx x' q2)
    | fst _ _ _ _ _ _ p=>exact hx _ p
   ·simp only [Tm.wt,Tm.wtL] at hw;obtain ⟨dy,hy⟩:=ih y (by omega);refine ⟨dy,fun t' h=>?_⟩;cases h with
    | node _ _ _ ks' _ hl hk =>
     obtain ⟨l',rfl⟩:=Cp hl;obtain ⟨a',x',y',rfl,_,_,q3⟩:=AqK (hk 0 _ l' rfl rfl) (by decide);exact .snd n m1 a' x' y' dy (hy y' q3)
    | snd _ _ _ _ _ _ p=>exact hy _ p
   ·simp only [Tm.wt,Tm.wtL] at hw;obtain ⟨dc,hc⟩:=ih c (by omega);refine ⟨dc,fun t' h=>?_⟩;cases h with
    | node _ _ _ ks' _ hl hk =>
     obtain ⟨l',rfl⟩:=Cp hl;have hq:=hk 0 _ l' rfl rfl;cases hq with
     | node _ _ _ ks2 _ hl2 hk2 =>
      obtain ⟨c',rfl⟩:=Cp hl2;exact .splq c' dc (hc c' (hk2 0 c c' rfl rfl))
     | quos e _ he=>exact hc _ (.node 30 0 [e] [l'] (by decide) rfl (fun i a b ha hb=>by
       cases i with
       | zero=>simp at ha hb;subst ha hb;exact he
       | succ i=>simp at ha))
    | splq _ _ p=>exact hc _ p
   ·simp only [Tm.wt,Tm.wtL] at hw;obtain ⟨dc,hc⟩:=ih c (by omega);refine ⟨dc,fun t' h=>?_⟩;cases h with
    | node _ _ _ ks' _ hl hk =>
     obtain ⟨l',rfl⟩:=Cp hl;have hq:=hk 0 _ l' rfl rfl;cases hq with
     | node _ _ _ ks2 _ hl2 hk2 =>
      obtain ⟨c',rfl⟩:=Cp hl2;exact .quos c' dc (hc c' (hk2 0 c c' rfl rfl))
     | splq e _ he=>exact hc _ (.node 19 0 [e] [l'] (by decide) rfl (fun i a b ha hb=>by
       cases i with
       | zero=>simp at ha hb;subst ha hb;exact he
       | succ i=>simp at ha))
    | quos _ _ p=>exact hc _ p
   ·simp only [Tm.wt,Tm.wtL] at hw;obtain ⟨dz,hz⟩:=ih z (by omega);refine ⟨dz,fun t' h=>?_⟩;cases h with
    | node _ _ _ ks' _ hl hk =>
     obtain ⟨a',z',s',k',rfl⟩:=PM hl;have hq:=hk 3 _ k' rfl rfl;cases hq with
     | node _ _ _ l2 _ hl2 hk2=>exact .recz n m1 a' z' dz s' l2 (hz z' (hk 1 z z' rfl rfl))
    | recz _ _ _ _ _ _ _ p=>exact hz _ p
   ·simp only [Tm.wt,Tm.wtL] at hw;obtain ⟨da,ha⟩:=ih a (by omega);obtain ⟨dz,hz⟩:=ih z (by omega);obtain ⟨ds,hs⟩:=ih s (by omega);obtain ⟨dk,hk⟩:=ih k (by omega);refine ⟨ds.sub (s2 (.mk 13 0 [da,dz,ds,dk]) dk),fun t' h=>?_⟩;cases h with
    | node _ _ _ ks' _ hl hkk =>
     obtain ⟨a',z',s',k',rfl⟩:=PM hl;have hq:=hkk 3 _ k' rfl rfl;cases hq with
     | node _ _ _ l2 _ hl2 hk2 =>
      obtain ⟨k2,rfl⟩:=Cp hl2;exact .recs n m1 a' da z' dz s' ds k2 dk (ha a' (hkk 0 a a' rfl rfl)) (hz z' (hkk 1 z z' rfl rfl)) (hs s' (hkk 2 s s' rfl rfl)) (hk k2 (hk2 0 k k2 rfl rfl))
    | recs _ _ _ a' _ z' _ s' _ k' pa pz ps pk =>
     refine M4 (hs s' ps) _ _ (fun i=>?_)
     match i with
     | 0 =>
      refine .node 13 0 _ _ (by decide) rfl (fun i a1 b1 e1 e2=>?_)
      match i with
      | 0=>simp at e1 e2;subst e1 e2;exact ha a' pa
      | 1=>simp at e1 e2;subst e1 e2;exact hz z' pz
      | 2=>simp at e1 e2;subst e1 e2;exact hs s' ps
      | 3=>simp at e1 e2;subst e1 e2;exact hk k' pk
      | i+4=>simp at e1
     | 1=>exact hk k' pk
     | i+2=>exact A8 _
  ·simp only [Tm.wt] at hw;obtain ⟨ds,hd1,hd2⟩:=Yo (Q:=fun a d=>∀t',Par a t'->Par t' d) ks (fun a ha=>ih a (by have:=CZ ha;omega));refine ⟨.mk op n ds,fun t' h=>?_⟩;cases h with
   | var=>exact absurd rfl h1
   | node _ _ _ ks' _ hl hk =>
    refine .node op n ks' ds h1 (by rw [hd1,hl]) (fun i a b ha hb=>?_);have hi:i<ks.length:=by rw [<- hl];exact (List.getElem?_eq_some_iff.1 ha).1
    have hx:=List.getElem?_eq_getElem hi;exact hd2 i _ b hx hb a (hk i _ a hx ha)
   | beta _ m1 a b b' x x'=>exact absurd (.inl ⟨rfl,m1,a,b,x,rfl⟩) hr
   | fst _ m1 a x x' y=>exact absurd (.inr (.inl ⟨rfl,m1,a,x,y,rfl⟩)) hr
   | snd _ m1 a x y y'=>exact absurd (.inr (.inr (.inl ⟨rfl,m1,a,x,y,rfl⟩))) hr
   | splq c c'=>exact absurd (.inr (.inr (.inr (.inl ⟨rfl,rfl,c,rfl⟩)))) hr
   | quos c c'=>exact absurd (.inr (.inr (.inr (.inr (.inl ⟨rfl,rfl,c,rfl⟩))))) hr
   | recz _ m1 a z z' s l=>exact absurd (.inr (.inr (.inr (.inr (.inr (.inl ⟨rfl,a,z,s,m1,l,rfl⟩)))))) hr
   | recs _ m1 a a' z z' s s' k k'=>exact absurd (.inr (.inr (.inr (.inr (.inr (.inr ⟨rfl,a,z,s,m1,k,rfl⟩)))))) hr
inductive Pars:Tm->Tm->Prop
 | refl (t:Tm):Pars t t
 | step {a b c:Tm} (h:Par a b) (hs:Pars b c):Pars a c
theorem C7 {a b:Tm} (h:Par a b):Pars a b:=.step h (.refl _)
theorem BA {a b c:Tm} (h:Pars a b) (h2:Pars b c):Pars a c:=by
 induction h with
 | refl=>exact h2
 | step h _ ih=>exact .step h (ih h2)
theorem Axz {a c:Tm} (h:Pars a c):∀{b:Tm},Par a b->∃d,Pars b d/\Par c d:=by
 induction h with
 | refl t=>intro b hb;exact ⟨b,.refl _,hb⟩
 | @step a b' c h _ ih =>
  intro b hb;obtain ⟨d,hd⟩:=dev (a.wt+1) a (by omega);obtain ⟨e,h1,h2⟩:=ih (hd _ h);exact ⟨e,.step (hd _ hb) h1,h2⟩
theorem UW {a b:Tm} (h:Pars a b):∀{c:Tm},Pars a c->∃d,Pars b d/\Pars c d:=by
 induction h with
 | refl t=>intro c hc;exact ⟨c,hc,.refl _⟩
 | step h _ ih =>
  intro c hc;obtain ⟨d,h1,h2⟩:=Axz hc h;obtain ⟨e,h3,h4⟩:=ih h1;exact ⟨e,h3,.step h2 h4⟩
theorem ApQ {t t':Tm} (h:Par t t'):t.stl->t'=t:=by
 induction h with
 | var=>intro _;rfl
 | node op n ks ks' h1 hl hk ih =>
  intro hs;rw [Tm.stl] at hs;congr 1;apply List.ext_getElem?;intro i;by_cases hi:i<ks.length
  ·have hx:=List.getElem?_eq_getElem hi;have hy:=List.getElem?_eq_getElem (show i<ks'.length by omega)
   rw [hx,hy,ih i _ _ hx hy (KI hs.2 (List.mem_of_getElem? hx))]
  ·rw [List.getElem?_eq_none (by omega),List.getElem?_eq_none (by omega)]
 | beta n m a b b' x x'=>intro hs;rw [Tm.stl] at hs;exact absurd rfl (hs.1.2.1 rfl _ rfl)
 | fst n m a x x' y=>intro hs;rw [Tm.stl] at hs;exact absurd rfl (hs.1.2.2 (.inl rfl) _ rfl)
 | snd n m a x y y'=>intro hs;rw [Tm.stl] at hs;exact absurd rfl (hs.1.2.2 (.inr rfl) _ rfl)
 | splq c c'=>intro hs;rw [Tm.stl] at hs;exact absurd rfl (hs.1.1.1 rfl _ rfl)
 | quos c c'=>intro hs;rw [Tm.stl] at hs;exact absurd rfl (hs.1.1.2.1 rfl _ rfl)
 | recz n m a z z' s l=>intro hs;rw [Tm.stl] at hs;exact absurd rfl (hs.1.1.2.2 rfl _ rfl).1
 | recs n m a a' z z' s s' k k'=>intro hs;rw [Tm.stl] at hs;exact absurd rfl (hs.1.1.2.2 rfl _ rfl).2
theorem Cx {t t':Tm} (h:Pars t t'):t.stl->t'=t:=by
 induction h with
 | refl=>intro _;rfl
 | step h _ ih =>
  intro hs
  have:=ApQ h hs
  subst this;exact ih hs
theorem AlS {t u n m d:Tm} (h1:Pars t n) (h2:Pars u m) (h3:Pars t d) (h4:Pars u d) (hn:n.stl) (hm:m.stl):n=m:=by
 obtain ⟨e,a1,a2⟩:=UW h1 h3;obtain ⟨e',b1,b2⟩:=UW h2 h4
 have:=Cx a1 hn
 subst this
 have:=Cx b1 hm
 subst this;obtain ⟨x,c1,c2⟩:=UW a2 b2;rw [<- Cx c1 hn,Cx c2 hm]
theorem FG {op n:Int} (h1:op≠1):∀{ks ks':List Tm},ks'.length=ks.length->(∀(i:Nat) a b,ks[i]?=some a->ks'[i]?=some b->Pars a b)->Pars (.mk op n ks) (.mk op n ks'):=by
 have key:∀(
        pre ks ks':List Tm),ks'.length=ks.length->(∀(i:Nat) a b,ks[i]?=some a->ks'[i]?=some b->Pars a b)->Pars (.mk op n (pre++ks)) (.mk op n (pre++ks')):=by
  intro pre ks
  induction ks generalizing pre with
  | nil =>
   intro ks' hl _;rw [List.eq_nil_of_length_eq_zero hl];exact .refl _
  | cons a l ih =>
   intro ks' hl hk;cases ks' with
   | nil=>simp at hl
   | cons b l' =>
    have hab:=hk 0 a b rfl rfl;have hrest:=ih (pre++[b]) l' (by simpa using hl) (fun i x y hx hy=>hk (i+1) x y (by simpa using hx) (by simpa using hy));rw [List.append_assoc,List.append_assoc] at hrest;refine BA ?_ hrest;have one:∀{x y:Tm},Pars x y->Pars (.mk op n (pre++x::l)) (.mk op n (pre++y::l)):=by
     intro x y h
     induction h with
     | refl=>exact .refl _
     | step h _ ih2 =>
      refine .step (.node op n _ _ h1 (by simp) (fun i p q hp hq=>?_)) ih2;by_cases hi:i<pre.length
      ·rw [List.getElem?_append_left hi] at hp hq;rw [hp] at hq;cases hq;exact A8 _
      ·rw [List.getElem?_append_right (by omega)] at hp hq;cases hd:i - pre.length with
       | zero =>
        rw [hd] at hp hq;simp at hp hq;subst hp hq;exact h
       | succ j =>
        rw [hd] at hp hq;simp at hp hq;rw [hp] at hq;cases hq;exact A8 _
    exact one hab
 intro ks ks' hl hk;exact key [] ks ks' hl hk
theorem Ly {t t':Tm} (h:Pars t t') (σ:Nat->Tm):Pars (t.sub σ) (t'.sub σ):=by
 induction h with
 | refl=>exact .refl _
 | step h _ ih=>exact .step (M4 h σ σ (fun i=>A8 _)) ih
theorem ApF (t:Tm) (σ:Nat->Tm) (j:Nat) {x y:Tm} (h:Pars x y):Pars (t.sub fun i=>if i=j then x else σ i) (t.sub fun i=>if i=j then y else σ i):=by
 induction h with
 | refl=>exact .refl _
 | step h _ ih =>
  refine .step (M4 (A8 t) _ _ (fun i=>?_)) ih;by_cases hi:i=j
  ·simp only [hi,if_true];exact h
  ·simp only [hi,if_false];exact A8 _
mutual
def Tm.wa:Tm->Prop
 | .mk op n ks=>ar op=some ks.length/\((op=1->0<=n)/\(op=19\/op=30->n=0))/\Tm.waL ks
def Tm.waL:List Tm->Prop
 | []=>True
 | t::l=>t.wa/\Tm.waL l
end
mutual
theorem Aq9:∀(t:Tm) (k:Nat),t.sc k->t.wa
 | .mk op n ks,k,h=>by
  rw [Tm.sc] at h;rw [Tm.wa];refine ⟨h.1,⟨fun h1=>?_,fun h9=>?_⟩,scL_wa ks op 0 k h.2.2⟩
  ·have:=h.2.1
   rw [if_pos h1] at this;exact this.1
  ·have:=h.2.1
   rw [if_neg (by omega)] at this;rcases h9 with rfl | rfl<;>simpa [BJ] using this
theorem scL_wa:∀(l:List Tm) (op:Int) (i k:Nat),Tm.scL op i l k->Tm.waL l
 | [],_,_,_,_=>by rw [Tm.waL];trivial
 | t::l,op,i,k,h=>by
  rw [Tm.scL] at h;rw [Tm.waL];exact ⟨Aq9 t _ h.1,scL_wa l op (i+1) k h.2⟩
end
inductive Un:Nat->RV->Tm->Prop
 | var (u:Nat) (n:Int) (h:n<u):Un u (.var n) (.mk 1 ((u:Int) - 1 - n) [])
 | node (u:Nat) (op n:Int) (k:List RV) (ts:List Tm) (T:Nat->Nat->Tm) (h1:op≠1) (h9:op=19\/op=30->n=0) (har:ar op=some ts.length) (hl:k.length=ts.length)
   (hk:∀(i:Nat) v t,Af op i=0->k[i]?=some v->ts[i]?=some t->Un u v t)
   (hc:∀(i:Nat) (v:RV) t,0<Af op i->k[i]?=some v->ts[i]?=some t->t=v.b.sub (CX (Af op i) (T i))/\v.b.wa)
   (hf:∀(i:Nat) (v:RV) (j:Nat),0<Af op i->k[i]?=some v->v.env.length<=j->T i j=vT (u+(j - v.env.length)))
   (he:∀(i:Nat) (v:RV) (j:Nat) x,0<Af op i->k[i]?=some v->v.env.reverse[j]?=some x->Un u x (T i j)):Un u (.node op n k) (.mk op n ts)
def UL (u:Nat) (env:List RV) (τ:Nat->Tm):Prop:=(∀(j:Nat) x,env.reverse[j]?=some x->Un u x (τ j))/\∀j,env.length<=j->τ j=vT (u+(j - env.length))
theorem Iy {u:Nat} {v:RV} {t:Tm} (h:Un u v t) (h1:v.op≠1):∃(ts:List Tm) (T:Nat->Nat->Tm),(v.op=19\/v.op=30->v.n=0)/\v=.node v.op v.n v.k/\t=.mk v.op v.n ts/\ar v.op=some ts.length/\v.k.length=ts.length/\(∀(i:Nat) x y,Af v.op i=0->v.k[i]?=some x->ts[i]?=some y->Un u x y) /\
  (∀(i:Nat) (x:RV) y,0<Af v.op i->v.k[i]?=some x->ts[i]?=some y->y=x.b.sub (CX (Af v.op i) (T i))/\x.b.wa/\UL u x.env (T i)):=by
 cases h with
 | var=>exact absurd rfl h1
 | node op n k ts T h1 h9 har hl hk hc hf he =>
  refine ⟨ts,T,h9,rfl,rfl,har,hl,hk,fun i x y a b c=>?_⟩;obtain ⟨q1,q2⟩:=hc i x y a b c;exact ⟨q1,q2,fun j z hz=>he i x j z a b hz,fun j hj=>hf i x j a b hj⟩
theorem AxB {u:Nat} {v:RV} {t:Tm} (h:Un u v t):∀d:Nat,Un (u+d) v (t.ren fun j=>j+d):=by
 induction h with
 | var n h =>
  intro d;have e:(Tm.mk 1 ((u:Int) - 1 - n) [])=vT ((u:Int) - 1 - n).toNat:=by rw [vT];congr 1;omega
  rw [e,Hh]
  have:=Un.var (u+d) n (by omega)
  have e2:vT (((u:Int) - 1 - n).toNat+d)=.mk 1 (((u+d:Nat):Int) - 1 - n) []:=by rw [vT];congr 1;omega
  rw [e2];exact this
 | node op n k ts T h1 h9 har hl hk hc hf he ihk ihe =>
  intro d;rw [Tm.ren,if_neg h1];refine .node (u+d) op n k _ (fun i j=>(T i j).ren fun x=>x+d) h1 h9 (by rw [Ib];exact har) (by rw [Ib];exact hl) ?_ ?_ ?_ ?_
  ·intro i v t hb hv ht;rw [Nx,Nat.zero_add] at ht;cases hx:ts[i]? with
   | none=>rw [hx] at ht;cases ht
   | some y =>
    rw [hx,hb,Er] at ht;simp only [AB2,ABZ] at ht;subst ht;exact ihk i v y hb hv hx d
  ·intro i v t hb hv ht;rw [Nx,Nat.zero_add] at ht;cases hx:ts[i]? with
   | none=>rw [hx] at ht;cases ht
   | some y =>
    rw [hx] at ht;simp only [AB2,ABZ] at ht;subst ht;obtain ⟨q1,q2⟩:=hc i v y hb hv hx;refine ⟨?_,q2⟩;rw [q1,GS,AeP]
  ·intro i v j hb hv hj;rw [hf i v j hb hv hj,Hh];congr 1;omega
  ·intro i v j x hb hv hx;exact ihe i v j x hb hv hx d
theorem Aj5:UL 0 [] vT:=⟨fun j x h=>by simp at h,fun j _=>by simp⟩
theorem Pu {u:Nat} {env:List RV} {τ:Nat->Tm} (h:UL u env τ) {x:RV} {t:Tm} (hx:Un u x t):UL u (env++[x]) (fun i=>match i with | 0=>t | j+1=>τ j):=by
 refine ⟨fun j y hy=>?_,fun j hj=>?_⟩
 ·rw [List.reverse_append] at hy;cases j with
  | zero =>
   simp at hy;subst hy;exact hx
  | succ j =>
   simp only [List.reverse_cons,List.reverse_nil,List.nil_append,List.cons_append,List.getElem?_cons_succ] at hy;exact h.1 j y hy
 ·rw [List.length_append,AB3,List.length_nil] at hj ⊢;cases j with
  | zero=>omega
  | succ j =>
   simp only;rw [h.2 j (by omega)];congr 1;omega
theorem Aoo {u:Nat} {env:List RV} {τ:Nat->Tm} (h:UL u env τ) (b:Nat):UL (u+b) (env++Gf u b) (CX b τ):=by
 refine ⟨fun j y hy=>?_,fun j hj=>?_⟩
 ·rw [List.reverse_append] at hy;by_cases hjb:j<b
  ·rw [List.getElem?_append_left (by rw [List.length_reverse,B7];exact hjb)] at hy;obtain ⟨_,rfl⟩:=Acm _ _ _ hy;simp only [CX,if_pos hjb]
   have:=Un.var (u+b) ((u:Int)+((b - 1 - j:Nat):Int)) (by omega)
   have e:vT j=.mk 1 (((u+b:Nat):Int) - 1 - ((u:Int)+((b - 1 - j:Nat):Int))) []:=by rw [vT];congr 1;omega
   rw [e];exact this
  ·rw [List.getElem?_append_right (by rw [List.length_reverse,B7];omega),List.length_reverse,B7] at hy;simp only [CX,if_neg hjb];exact AxB (h.1 _ _ hy) b
 ·rw [List.length_append,B7] at hj ⊢;simp only [CX];rw [if_neg (by omega),h.2 _ (by omega),Hh];congr 1;omega
theorem Ain {f:Nat} {s n:Int} {k0 x v:RV} {s':Int} (h:headR (f+1) s 0 (.node 5 n [k0,x])=some (v,s',0)):k0.op=4/\(∃c,k0.k[1]?=some c/\AA f (s+1) 0 c.b (c.env++[x])=some (v,s',0))\/k0.op≠4/\v=.node 5 n [k0,x]:=by
 rw [headR,if_neg (by simp)] at h;by_cases hs:s<0\/1000000<s
 ·rw [if_pos hs] at h;cases h
 rw [if_neg hs,if_pos (show RV.op (.node 5 n [k0,x])=5 from rfl),show RV.k (.node 5 n [k0,x])=[k0,x] from rfl] at h
 simp only [List.getElem?_cons_zero,List.getElem?_cons_succ] at h;by_cases h0:k0.op=4
 ·rw [if_pos h0] at h;by_cases h1:s+1<=1000
  ·rw [if_pos h1] at h;cases hc:k0.k[1]? with
   | none=>rw [hc] at h;cases h
   | some c =>
    rw [hc] at h;simp only at h;by_cases h2:900000<c.env.length
    ·rw [if_pos h2] at h;cases h
    ·rw [if_neg h2] at h;exact .inl ⟨h0,c,rfl,h⟩
  ·rw [if_neg h1] at h;simp at h
 ·rw [if_neg h0] at h;simp only [ABZ,AB0] at h;exact .inr ⟨h0,h.1.symm⟩
theorem XA {f:Nat} {s op n:Int} {k0 v:RV} {s':Int} (ho:op=8\/op=9) (h:headR (f+1) s 0 (.node op n [k0])=some (v,s',0)):k0.op=7/\k0.k[(1+op - 8).toNat]?=some v\/k0.op≠7/\v=.node op n [k0]:=by
 rw [headR,if_neg (by simp)] at h;by_cases hs:s<0\/1000000<s
 ·rw [if_pos hs] at h;cases h
 have hop:RV.op (.node op n [k0])=op:=rfl;rw [if_neg hs,hop,if_neg (by omega),if_pos ho,show RV.k (.node op n [k0])=[k0] from rfl] at h
 simp only [List.getElem?_cons_zero] at h;by_cases h0:k0.op=7
 ·rw [if_pos h0] at h;by_cases h1:s+1<=1000
  ·rw [if_pos h1] at h;cases hw:k0.k[(1+op - 8).toNat]? with
   | none=>rw [hw] at h;cases h
   | some w =>
    rw [hw] at h;simp only [AB2,ABZ,AB0] at h;rw [<- h.1];exact .inl ⟨h0,rfl⟩
  ·rw [if_neg h1] at h;simp at h
 ·rw [if_neg h0] at h;simp only [ABZ,AB0] at h;exact .inr ⟨h0,h.1.symm⟩
theorem QP {ev:Int->Int->Tm->Option (RV×Int×Int)} {u:Nat} {env:List RV} {τ:Nat->Tm} (henv:UL u env τ) (hev:∀s t v s',ev s 0 t=some (v,s',0)->t.wa->∃w,Un u v w/\Pars (t.sub τ) w) (herr:∀s e t v s',ev s e t=some (v,s',0)->e=0) (op:Int) :
  ∀(l:List Tm) (i:Nat) (s:Int) (vs:List RV) (s':Int),AU ev op env i l s 0=some (vs,s',0)->Tm.waL l->∃ts:List Tm,ts.length=l.length/\vs.length=l.length/\(∀(j:Nat) a b,(Tm.subL op i l τ)[j]?=some a->ts[j]?=some b->Pars a b) /\
   (∀(j:Nat) v t,Af op (i+j)=0->vs[j]?=some v->ts[j]?=some t->Un u v t)/\(∀(j:Nat) (v:RV) t,0<Af op (i+j)->vs[j]?=some v->ts[j]?=some t->t=v.b.sub (CX (Af op (i+j)) τ)/\v.b.wa/\v.env=env)
 | [],i,s,vs,s',h,hw=>by
  simp only [AU,ABZ,AB0] at h;obtain ⟨rfl,_⟩:=h;exact ⟨[],rfl,rfl,fun j a b h=>by simp [Tm.subL] at h,fun j v t _ h=>by simp at h,fun j v t _ h=>by simp at h⟩
 | t::l,i,s,vs,s',h,hw=>by
  rw [Tm.waL] at hw;simp only [AU] at h;by_cases hb:0<Af op i
  ·rw [if_pos hb] at h;cases hk:AU ev op env (i+1) l s 0 with
   | none=>rw [hk] at h;cases h
   | some q =>
    obtain ⟨us,s1,e1⟩:=q;rw [hk] at h;simp only [AB2,ABZ,AB0] at h;obtain ⟨rfl,rfl,rfl⟩:=h;obtain ⟨ts,a1,a2,a3,a4,a5⟩:=QP henv hev herr op l (i+1) s us s1 hk hw.2;refine ⟨t.sub (CX (Af op i) τ)::ts,by simp [a1],by simp [a2],?_,?_,?_⟩
    ·intro j a b ha hb';cases j with
     | zero =>
      simp only [Tm.subL,List.getElem?_cons_zero,ABZ] at ha hb';subst ha hb';exact .refl _
     | succ j =>
      simp only [Tm.subL,List.getElem?_cons_succ] at ha hb';exact a3 j a b ha hb'
    ·intro j v x h0 hv hx;cases j with
     | zero=>rw [Nat.add_zero] at h0;omega
     | succ j =>
      simp only [List.getElem?_cons_succ] at hv hx;exact a4 j v x (by rw [<- h0];congr 1;omega) hv hx
    ·intro j v x h0 hv hx;cases j with
     | zero =>
      simp only [List.getElem?_cons_zero,ABZ] at hv hx;subst hv hx;exact ⟨rfl,hw.1,rfl⟩
     | succ j =>
      simp only [List.getElem?_cons_succ] at hv hx
      have:=a5 j v x (by rw [show i+1+j=i+(j+1) by omega];exact h0) hv hx
      rw [show i+1+j=i+(j+1) by omega] at this
      exact this
  ·rw [if_neg hb] at h;have hb0:Af op i=0:=by omega
   cases he:ev s 0 t with
   | none=>rw [he] at h;cases h
   | some q =>
    obtain ⟨v0,s1,e1⟩:=q;rw [he] at h;simp only at h;cases hk:AU ev op env (i+1) l s1 e1 with
    | none=>rw [hk] at h;cases h
    | some q =>
     obtain ⟨us,s3,e3⟩:=q;rw [hk] at h;simp only [AB2,ABZ,AB0] at h;obtain ⟨rfl,rfl,rfl⟩:=h;have he1:=Ha ev herr op env l _ _ _ _ _ hk;subst he1;obtain ⟨w,w1,w2⟩:=hev _ _ _ _ he hw.1;obtain ⟨ts,a1,a2,a3,a4,a5⟩:=QP henv hev herr op l (i+1) s1 us s3 hk hw.2;refine ⟨w::ts,by simp [a1],by simp [a2],?_,?_,?_⟩
     ·intro j a b ha hb';cases j with
      | zero =>
       simp only [Tm.subL,List.getElem?_cons_zero,ABZ] at ha hb';subst ha hb';rw [hb0,CU];exact w2
      | succ j =>
       simp only [Tm.subL,List.getElem?_cons_succ] at ha hb';exact a3 j a b ha hb'
     ·intro j v x h0 hv hx;cases j with
      | zero =>
       simp only [List.getElem?_cons_zero,ABZ] at hv hx;subst hv hx;exact w1
      | succ j =>
       simp only [List.getElem?_cons_succ] at hv hx;exact a4 j v x (by rw [<- h0];congr 1;omega) hv hx
     ·intro j v x h0 hv hx;cases j with
      | zero=>rw [Nat.add_zero] at h0;omega
      | succ j =>
       simp only [List.getElem?_cons_succ] at hv hx
       have:=a5 j v x (by rw [show i+1+j=i+(j+1) by omega];exact h0) hv hx
       rw [show i+1+j=i+(j+1) by omega] at this
       exact this
def EvU (f:Nat):Prop:=∀s t env v s' u τ,AA f s 0 t env=some (v,s',0)->t.wa->UL u env τ->∃w,Un u v w/\Pars (t.sub τ) w
def HdU (f:Nat):Prop:=∀s op n k v s' u ts,headR f s 0 (.node op n k)=some (v,s',0)->op≠1->Un u (.node op n k) (.mk op n ts)->∃w,Un u v w/\Pars (.mk op n ts) w
theorem Aw5 {f:Nat} (ihE:EvU f) (ihH:HdU f):EvU (f+1):=by
 intro s t env v s' u τ h hw henv;obtain ⟨op,m,ks⟩:=t;rw [Tm.wa] at hw;by_cases h1:op=1
 ·subst h1;have hks:ks=[]:=List.eq_nil_of_length_eq_zero (Option.some.inj hw.1.symm);subst hks;have hm:=hw.2.1.1 rfl;have hv:¬ (m<0\/([]:List Tm).isEmpty=false):=by
   rintro (h | h)
   ·omega
   ·cases h
  rw [Tm.sub,if_pos rfl,if_neg hv];rcases (Ab3 h hm).1 with ⟨a1,a2⟩ | ⟨a1,rfl⟩
  ·exact ⟨_,henv.1 _ _ a2,.refl _⟩
  ·refine ⟨_,?_,.refl _⟩;rw [henv.2 _ (by omega)]
   have:=Un.var u ((env.length:Int) - 1 - m) (by omega)
   have e:vT (u+(m.toNat - env.length))=.mk 1 ((u:Int) - 1 - ((env.length:Int) - 1 - m)) []:=by rw [vT];congr 1;omega
   rw [e];exact this
 ·obtain ⟨vs,s1,q1,q2⟩:=H8 h h1;obtain ⟨ts,a1,a2,a3,a4,a5⟩:=QP henv (fun s t v s' a b=>ihE s t env v s' u τ a b henv) (fun s e t v s' a=>Cu a) op ks 0 s vs s1 q1 hw.2.2;simp only [Nat.zero_add] at a4 a5;have hun:Un u (.node op m vs) (.mk op m ts):=by
   refine .node u op m vs ts (fun _=>τ) h1 hw.2.1.2 (by rw [a1];exact hw.1) (by rw [a1,a2]) a4 (fun i v t b c d=>⟨(a5 i v t b c d).1,(a5 i v t b c d).2.1⟩) ?_ ?_
   ·intro i v j b c hj;have hi:i<ts.length:=by rw [a1,<- a2];exact (List.getElem?_eq_some_iff.1 c).1
    have:=(a5 i v _ b c (List.getElem?_eq_getElem hi)).2.2
    rw [this] at hj ⊢;exact henv.2 j hj
   ·intro i v j x b c hx;have hi:i<ts.length:=by rw [a1,<- a2];exact (List.getElem?_eq_some_iff.1 c).1
    have:=(a5 i v _ b c (List.getElem?_eq_getElem hi)).2.2
    rw [this] at hx;exact henv.1 j x hx
  obtain ⟨w,w1,w2⟩:=ihH _ _ _ _ _ _ u ts q2 h1 hun;refine ⟨w,w1,?_⟩;rw [Tm.sub,if_neg h1];exact BA (FG h1 (by rw [K0,a1]) a3) w2
theorem Awn {f:Nat} (ihE:EvU f) (ihH:HdU f):HdU (f+1):=by
 intro s op n k v s' u ts h h1 hun;obtain ⟨ts',T,hn9,_,e2,har,hl,hk,hc⟩:=Iy hun h1;simp only [RV.node,RV.op,RV.n,RV.k,Tm.mk.injEq,true_and] at e2 har hl hk hc hn9;subst e2;by_cases h5:op=5
 ·subst h5;obtain ⟨t0,tx,rfl⟩:=T5 (Option.some.inj har.symm:ts.length=2);obtain ⟨k0,x,rfl⟩:=T5 (hl.trans rfl:k.length=2);have u0:=hk 0 k0 t0 rfl rfl rfl;have ux:=hk 1 x tx rfl rfl rfl;rcases Ain h with ⟨h4,c,hcc,hev⟩ | ⟨_,rfl⟩
  ·obtain ⟨us,T0,n0,e0,rfl,PD,l0,_,c0⟩:=Iy u0 (by omega);rw [h4] at PD c0 ⊢;obtain ⟨ta,tb,rfl⟩:=T5 (Option.some.inj PD.symm:us.length=2);obtain ⟨rfl,hwa,henv⟩:=c0 1 c tb (by decide) hcc rfl;obtain ⟨w,w1,w2⟩:=ihE _ _ _ _ _ u _ hev hwa (Pu henv ux);refine ⟨w,w1,.step (.beta n k0.n ta _ _ tx tx (A8 _) (A8 _)) ?_⟩;rw [Fx]
   have:(fun i=>(CX (Af 4 1) (T0 1) i).sub (s1 tx))=fun i=>match i with | 0=>tx | j+1=>T0 1 j:=by
    funext i
    cases i with
    | zero=>simp [CX,FL,s1,show Af 4 1=1 from rfl]
    | succ i =>
     simp only [CX,show Af 4 1=1 from rfl]
     rw [if_neg (by omega),Nat.add_sub_cancel,Hi _ _ _ (fun j=>rfl)]
   rw [this];exact w2
  ·exact ⟨_,hun,.refl _⟩
 by_cases h89:op=8\/op=9
 ·have hl1:ts.length=1:=by rcases h89 with rfl | rfl<;>exact Option.some.inj har.symm
  obtain ⟨t0,rfl⟩:=Cp hl1;obtain ⟨k0,rfl⟩:=Cp (hl.trans rfl:k.length=1);have u0:=hk 0 k0 t0 (by rcases h89 with rfl | rfl<;>rfl) rfl rfl;rcases XA h89 h with ⟨h7,hx⟩ | ⟨_,rfl⟩
  ·obtain ⟨us,T0,n0,e0,rfl,PD,l0,hk0,_⟩:=Iy u0 (by omega);rw [h7] at PD hk0 ⊢;obtain ⟨ta,tb,tc,rfl⟩:=AuZ (Option.some.inj PD.symm:us.length=3);rcases h89 with rfl | rfl
   ·exact ⟨tb,hk0 1 v tb rfl hx rfl,C7 (.fst n k0.n ta tb tb tc (A8 _))⟩
   ·exact ⟨tc,hk0 2 v tc rfl hx rfl,C7 (.snd n k0.n ta tb tc tc (A8 _))⟩
  ·exact ⟨_,hun,.refl _⟩
 by_cases h30:op=30
 ·subst h30;obtain ⟨t0,rfl⟩:=Cp (Option.some.inj har.symm:ts.length=1);obtain ⟨k0,rfl⟩:=Cp (hl.trans rfl:k.length=1);have u0:=hk 0 k0 t0 rfl rfl rfl;rcases Uo h with ⟨h7,hx⟩ | ⟨_,rfl⟩
  ·obtain ⟨us,T0,n0,e0,rfl,PD,l0,hk0,_⟩:=Iy u0 (by omega);rw [h7] at PD hk0 ⊢;obtain ⟨ta,rfl⟩:=Cp (Option.some.inj PD.symm:us.length=1);exact ⟨ta,hk0 0 v ta rfl hx rfl,by rw [hn9 (.inr rfl),n0 (.inl h7)];exact C7 (.splq ta ta (A8 _))⟩
  ·exact ⟨_,hun,.refl _⟩
 by_cases h19:op=19
 ·subst h19;obtain ⟨t0,rfl⟩:=Cp (Option.some.inj har.symm:ts.length=1);obtain ⟨k0,rfl⟩:=Cp (hl.trans rfl:k.length=1);have u0:=hk 0 k0 t0 rfl rfl rfl;rcases Vo h with ⟨h7,hx⟩ | ⟨_,rfl⟩
  ·obtain ⟨us,T0,n0,e0,rfl,PD,l0,hk0,_⟩:=Iy u0 (by omega);rw [h7] at PD hk0 ⊢;obtain ⟨ta,rfl⟩:=Cp (Option.some.inj PD.symm:us.length=1);exact ⟨ta,hk0 0 v ta rfl hx rfl,by rw [hn9 (.inl rfl),n0 (.inr h7)];exact C7 (.quos ta ta (A8 _))⟩
  ·exact ⟨_,hun,.refl _⟩
 by_cases h13:op=13
 ·subst h13;obtain ⟨t0,t1,t2,t3,rfl⟩:=PM (Option.some.inj har.symm:ts.length=4);obtain ⟨k0,k1,k2,k3,rfl⟩:=PM (hl.trans rfl:k.length=4);have u1:=hk 1 k1 t1 rfl rfl rfl;have u3:=hk 3 k3 t3 rfl rfl rfl;rcases VB h with ⟨h11,rfl⟩ | ⟨h12,x,w,s1',hx,hw,hv⟩ | ⟨_,rfl⟩
  ·obtain ⟨us,T0,n0,e0,rfl,PD,l0,hk0,_⟩:=Iy u3 (by omega);rw [h11];exact ⟨t1,u1,C7 (.recz n k3.n t0 t1 t1 t2 us (A8 _))⟩
  ·obtain ⟨us,T0,n0,e0,rfl,PD,l0,hk0,_⟩:=Iy u3 (by omega);rw [h12] at PD hk0 ⊢;obtain ⟨tk,rfl⟩:=Cp (Option.some.inj PD.symm:us.length=1);have ux:=hk0 0 x tk rfl hx rfl;obtain ⟨c2,hwa2,henv2⟩:=hc 2 k2 t2 (by decide) rfl rfl;have hun2:Un u (.node 13 0 [k0,k1,k2,x]) (.mk 13 0 [t0,t1,t2,tk]):=by
    refine .node u 13 0 _ _ T (by decide) (by omega) rfl rfl ?_ ?_ ?_ ?_
    ·intro i v t hb a b
     match i with
     | 0=>exact absurd hb (by decide)
     | 1=>simp at a b;subst a b;exact u1
     | 2=>exact absurd hb (by decide)
     | 3=>simp at a b;subst a b;exact ux
     | i+4=>simp at a
    ·intro i v t hb a b
     match i with
     | 0=>simp at a b;subst a b;exact ⟨(hc 0 k0 t0 hb rfl rfl).1,(hc 0 k0 t0 hb rfl rfl).2.1⟩
     | 1=>exact absurd hb (by decide)
     | 2=>simp at a b;subst a b;exact ⟨(hc 2 k2 t2 hb rfl rfl).1,(hc 2 k2 t2 hb rfl rfl).2.1⟩
     | 3=>exact absurd hb (by decide)
     | i+4=>simp at a
    ·intro i v j hb a hj
     match i with
     | 0=>simp at a;subst a;exact (hc 0 k0 t0 hb rfl rfl).2.2.2 j hj
     | 1=>exact absurd hb (by decide)
     | 2=>simp at a;subst a;exact (hc 2 k2 t2 hb rfl rfl).2.2.2 j hj
     | 3=>exact absurd hb (by decide)
     | i+4=>simp at a
    ·intro i v j y hb a hy
     match i with
     | 0=>simp at a;subst a;exact (hc 0 k0 t0 hb rfl rfl).2.2.1 j y hy
     | 1=>exact absurd hb (by decide)
     | 2=>simp at a;subst a;exact (hc 2 k2 t2 hb rfl rfl).2.2.1 j y hy
     | 3=>exact absurd hb (by decide)
     | i+4=>simp at a
   obtain ⟨tw,w1,w2⟩:=ihH _ _ _ _ _ _ u _ hw (by decide) hun2;have henv3:=Pu (Pu henv2 ux) w1;rw [List.append_assoc] at henv3;obtain ⟨tv,v1,v2⟩:=ihE _ _ _ _ _ u _ hv hwa2 henv3;refine ⟨tv,v1,.step (.recs n k3.n t0 t0 t1 t1 t2 t2 tk tk (A8 _) (A8 _) (A8 _) (A8 _)) ?_⟩;have e2:t2=k2.b.sub (CX 2 (T 2)):=c2;have e3:∀r:Tm,t2.sub (s2 r tk)=k2.b.sub (fun i=>if i=0 then r else (fun i=>match i with | 0=>tw | j+1=>(fun i=>match i with | 0=>tk | j+1=>T 2 j) j) i):=by
    intro r;rw [e2,Fx];congr 1
    funext i
    match i with
    | 0=>simp [CX,FL,s2]
    | 1=>simp [CX,FL,s2]
    | i+2 =>
     simp only [CX];rw [if_neg (by omega),if_neg (by omega),Nat.add_sub_cancel,Hi _ _ _ (fun j=>rfl)]
   rw [e3];refine BA (ApF k2.b _ 0 w2) ?_;have e4:(fun i=>if i=0 then tw else (fun i=>match i with | 0=>tw | j+1=>(fun i=>match i with | 0=>tk | j+1=>T 2 j) j) i)=(fun i=>match i with | 0=>tw | j+1=>(fun i=>match i with | 0=>tk | j+1=>T 2 j) j:Nat->Tm):=by
    funext i
    cases i with
    | zero=>simp
    | succ i=>simp
   rw [e4];exact v2
  ·exact ⟨_,hun,.refl _⟩
 obtain ⟨rfl,_⟩:=JT h (by omega);exact ⟨_,hun,.refl _⟩
theorem Adx:∀f,EvU f/\HdU f:=by
 intro f
 induction f with
 | zero=>exact ⟨(by intro s t env v s' u τ h;rw [AA] at h;cases h),(by intro s op n k v s' u ts h;rw [headR] at h;cases h)⟩
 | succ f ih=>exact ⟨Aw5 ih.1 ih.2,Awn ih.1 ih.2⟩
theorem AoH:∀(f:Nat) (s nd:Int) (v:RV) (u:Nat) (d:Int) (t:Tm) (s' nd':Int) (w:Tm),AS f s nd 0 v u d=some (t,s',nd',0)->Un u v w->Pars w t:=by
 intro f
 induction f with
 | zero=>intro s nd v u d t s' nd' w h;rw [AS] at h;cases h
 | succ f ih =>
  intro s nd v u d t s' nd' w h hun;rcases Vi h with ⟨h1,rfl⟩ | ⟨h1,ts,hrk,rfl⟩
  ·cases hun with
   | var=>exact .refl _
   | node op n k us T h2=>exact absurd h1 h2
  ·obtain ⟨us,T,_,e1,rfl,har,hl,hk,hc⟩:=Iy hun h1;obtain ⟨n1,n2⟩:=Me (fun s nd e v u t s' nd' h=>FR h) v.op u v.k 0 s (nd+1) 0 ts s' nd' hrk;refine FG h1 (by rw [n1,hl]) (fun i a b ha hb=>?_);have hi:i<v.k.length:=by rw [hl];exact (List.getElem?_eq_some_iff.1 ha).1
   have hki:=List.getElem?_eq_getElem hi;obtain ⟨q1,q2,k',q3,q4,⟨q5,q6⟩,q7⟩:=n2 i _ b hki hb;rw [Nat.zero_add] at q5 q6 q7;by_cases hb0:Af v.op i=0
   ·have:=q6 hb0
    subst this;rw [hb0] at q7;simp only [Int.ofNat_zero,Int.add_zero] at q7;exact ih _ _ _ u _ _ _ _ a (by simpa using q7) (hk i _ a hb0 hki ha)
   ·have hbp:0<Af v.op i:=by omega
    obtain ⟨s0,hev⟩:=q5 hbp;obtain ⟨rfl,hwa,henv⟩:=hc i _ a hbp hki ha;obtain ⟨w',w1,w2⟩:=(Adx f).1 _ _ _ _ _ (u+Af v.op i) _ hev hwa (Aoo henv _);rw [show (u:Int)+(Af v.op i:Int)=((u+Af v.op i:Nat):Int) by omega] at q7
    exact BA w2 (ih q1 q2 k' (u+Af v.op i) (d+1) b q3 q4 w' q7 w1)
theorem HE {f:Nat} {t n:Tm} {k:Nat} (h:AX f t=some (n,0)) (ht:t.sc k):Pars t n:=by
 rw [AX] at h;cases he:AA f 0 0 t [] with
 | none=>rw [he] at h;cases h
 | some q =>
  obtain ⟨v,s,e⟩:=q;rw [he] at h;simp only at h;cases hr:AS f s 0 e v 0 1 with
  | none=>rw [hr] at h;cases h
  | some q =>
   obtain ⟨w,s2,nd2,e2⟩:=q;rw [hr] at h;simp only [ABZ] at h;by_cases h2:e2≠0
   ·rw [if_pos h2] at h;simp only [AB0] at h;exact absurd h.2 h2
   rw [if_neg h2] at h;simp only [AB0,and_true] at h;subst h;have he2:e2=0:=by omega
   subst he2;have he0:=FR hr;subst he0;obtain ⟨x,x1,x2⟩:=(Adx f).1 _ _ _ _ _ 0 vT he (Aq9 t k ht) Aj5;rw [Mj] at x2;exact BA x2 (AoH f s 0 v 0 1 w s2 nd2 x (by simpa using hr) x1)
inductive PT:Tm->Prop
 | int:PT (.mk 15 0 [])
 | bin (op:Int) (a b:Tm) (ho:op=16\/op=17) (ha:PT a) (hb:PT b):PT (.mk op 0 [a,b])
theorem CI {op n:Int} {ks:List Tm} {σ:Nat->Tm} (h:op≠1):(Tm.mk op n ks).sub σ=.mk op n (Tm.subL op 0 ks σ):=by rw [Tm.sub,if_neg h]
theorem Cb {op n:Int} {ks:List Tm} {ρ:Nat->Nat} (h:op≠1):(Tm.mk op n ks).ren ρ=.mk op n (Tm.renL op 0 ks ρ):=by rw [Tm.ren,if_neg h]
theorem Wl {p:Tm} (h:PT p):∀σ,p.sub σ=p:=by
 induction h with
 | int=>intro σ;rw [CI (by decide)];rfl
 | bin op a b ho ha hb iha ihb =>
  intro σ;rw [CI (by omega)];simp only [Tm.subL,iha,ihb]
theorem In {p:Tm} (h:PT p) (ρ:Nat->Nat):p.ren ρ=p:=by rw [HA];exact Wl h _
theorem JV {op n:Int} {ks:List Tm} (h:op≠30/\op≠19/\op≠13/\op≠5/\op≠8/\op≠9) (hk:Tm.stlL ks):(Tm.mk op n ks).stl:=by
 rw [Tm.stl];exact ⟨⟨⟨by omega,by omega,by omega⟩,by omega,by omega⟩,hk⟩
theorem GX {p:Tm} (h:PT p):p.stl:=by
 induction h with
 | int=>exact JV (by decide) trivial
 | bin op a b ho ha hb iha ihb=>exact JV (by omega) ⟨iha,ihb,trivial⟩
theorem Aa3 {p x:Tm} (h:PT p) (hp:Pars p x):x=p:=Cx hp (GX h)
theorem Amd {A p q:Tm} (hp:PT p) (hq:PT q) (h1:Pars A p) (h2:Pars A q):p=q:=AlS h1 h2 (.refl A) (.refl A) (GX hp) (GX hq)
theorem Cz:∀(d:Nat) (r:Tm),PT (r.plainT d)
 | 0,r=>by rw [Tm.plainT];exact .int
 | d+1,r=>by
  rw [Tm.plainT];split
  ·exact .int
  ·exact .bin _ _ _ (by omega) (Cz d _) (Cz d _)
theorem AeN {T X:Tm} (h:Pars T X):∀op n x y,T=.mk op n [x,y]->op≠1/\op≠5->∃x' y',X=.mk op n [x',y']/\Pars x x'/\Pars y y':=by
 induction h with
 | refl t=>rintro op n x y rfl ho;exact ⟨x,y,rfl,.refl _,.refl _⟩
 | step h hs ih =>
  rintro op n x y rfl ho;obtain ⟨x1,y1,rfl,h1,h2⟩:=Aq3 h ho;obtain ⟨x2,y2,rfl,h3,h4⟩:=ih _ _ _ _ rfl ho;exact ⟨x2,y2,rfl,.step h1 h3,.step h2 h4⟩
theorem Ar1 {n:Int} {x t:Tm} (h:Par (.mk 18 n [x]) t):∃x',t=.mk 18 n [x']/\Par x x':=by
 cases h with
 | node _ _ _ ks' h1 hl hk =>
  obtain ⟨x',rfl⟩:=Cp hl;exact ⟨x',rfl,hk 0 x x' rfl rfl⟩
theorem Apb {T X:Tm} (h:Pars T X):∀n x,T=.mk 18 n [x]->∃x',X=.mk 18 n [x']/\Pars x x':=by
 induction h with
 | refl t=>rintro n x rfl;exact ⟨x,rfl,.refl _⟩
 | step h hs ih =>
  rintro n x rfl;obtain ⟨x1,rfl,h1⟩:=Ar1 h;obtain ⟨x2,rfl,h3⟩:=ih _ _ rfl;exact ⟨x2,rfl,.step h1 h3⟩
theorem As6 {x x':Tm} (h:Par x x'):(x.op=2\/x.op=3\/x.op=6)->x'.op=x.op:=by
 cases h with
 | var=>intro _;rfl
 | node=>intro _;rfl
 | _=>intro h;simp [Tm.op] at h
theorem AnI {x x':Tm} (h:Pars x x'):(x.op=2\/x.op=3\/x.op=6)->x'.op=x.op:=by
 induction h with
 | refl=>intro _;rfl
 | step h hs ih=>intro ho;have:=As6 h ho;rw [<- this];exact ih (by omega)
theorem ps2 {op n:Int} {a a' b b':Tm} (h1:op≠1) (ha:Pars a a') (hb:Pars b b'):Pars (.mk op n [a,b]) (.mk op n [a',b']):=by
 refine FG h1 rfl fun i x y hx hy=>?_
 match i with
 | 0=>simp only [List.getElem?_cons_zero,ABZ] at hx hy;subst hx;subst hy;exact ha
 | 1=>simp only [List.getElem?_cons_succ,List.getElem?_cons_zero,ABZ] at hx hy;subst hx;subst hy;exact hb
 | i+2=>simp at hx
theorem ps1 {op n:Int} {a a':Tm} (h1:op≠1) (ha:Pars a a'):Pars (.mk op n [a]) (.mk op n [a']):=by
 refine FG h1 rfl fun i x y hx hy=>?_
 match i with
 | 0=>simp only [List.getElem?_cons_zero,ABZ] at hx hy;subst hx;subst hy;exact ha
 | i+1=>simp at hx
theorem ps3 {op n:Int} {a a' b b' c c':Tm} (h1:op≠1) (ha:Pars a a') (hb:Pars b b') (hc:Pars c c'):Pars (.mk op n [a,b,c]) (.mk op n [a',b',c']):=by
 refine FG h1 rfl fun i x y hx hy=>?_
 match i with
 | 0=>simp only [List.getElem?_cons_zero,ABZ] at hx hy;subst hx;subst hy;exact ha
 | 1=>simp only [List.getElem?_cons_succ,List.getElem?_cons_zero,ABZ] at hx hy;subst hx;subst hy;exact hb
 | 2=>simp only [List.getElem?_cons_succ,List.getElem?_cons_zero,ABZ] at hx hy;subst hx;subst hy;exact hc
 | i+3=>simp at hx
theorem ps4 {n:Int} {a b c d d':Tm} (hd:Pars d d'):Pars (.mk 13 n [a,b,c,d]) (.mk 13 n [a,b,c,d']):=by
 refine FG (by decide) rfl fun i x y hx hy=>?_
 match i with
 | 0 | 1 | 2=>simp only [List.getElem?_cons_succ,List.getElem?_cons_zero,ABZ] at hx hy;subst hx;subst hy;exact .refl _
 | 3=>simp only [List.getElem?_cons_succ,List.getElem?_cons_zero,ABZ] at hx hy;subst hx;subst hy;exact hd
 | i+4=>simp at hx
theorem C6 {t t':Tm} (h:Pars t t') (ρ:Nat->Nat):Pars (t.ren ρ) (t'.ren ρ):=by rw [HA,HA];exact Ly h _
def HX:Tm:=.mk 15 0 []
inductive OT (m:Nat):List Tm->Tm->Tm->Prop
 | var (g:List Tm) (i:Nat) (P:Tm) (hP:PT P) (hw:P.wt<=m) (hi:i<g.length) (h:g[g.length - 1 - i]?=some P):OT m g (.mk 1 (i:Int) []) P
 | oint (g:List Tm) (n:Int) (hm:1<=m):OT m g (.mk 25 n []) HX
 | oprim (g:List Tm) (n:Int) (a b:Tm) (ha:OT m g a HX) (hb:OT m g b HX):OT m g (.mk 26 n [a,b]) HX
 | olam (g:List Tm) (a b c:Tm) (ha:PT a) (hw:(Tm.mk 16 0 [a,c]).wt<=m) (hb:OT m (g++[a]) b c):OT m g (.mk 20 0 [a,b]) (.mk 16 0 [a,c])
 | oapp (g:List Tm) (f x a c:Tm) (hf:OT m g f (.mk 16 0 [a,c])) (hx:OT m g x a):OT m g (.mk 21 0 [f,x]) c
 | opair (g:List Tm) (x y a b:Tm) (hw:(Tm.mk 17 0 [a,b]).wt<=m) (hx:OT m g x a) (hy:OT m g y b):OT m g (.mk 22 0 [x,y]) (.mk 17 0 [a,b])
 | ofst (g:List Tm) (x a b:Tm) (hx:OT m g x (.mk 17 0 [a,b])):OT m g (.mk 23 0 [x]) a
 | oif (g:List Tm) (c x y a:Tm) (hc:OT m g c HX) (hx:OT m g x a) (hy:OT m g y a):OT m g (.mk 27 0 [c,x,y]) a
 | olet (g:List Tm) (x y a b:Tm) (hx:OT m g x a) (hy:OT m (g++[a]) y b):OT m g (.mk 28 0 [x,y]) b
 | ofix (g:List Tm) (a x:Tm) (ha:PT a) (hw:a.wt<=m) (hx:OT m (g++[a]) x a):OT m g (.mk 29 0 [a,x]) a
theorem Oy {op n:Int} {a b:Tm} (h:PT (.mk op n [a,b])):PT a/\PT b/\n=0:=by cases h with | bin _ _ _ _ ha hb=>exact ⟨ha,hb,rfl⟩
theorem Uh {m:Nat} {g:List Tm} {c P:Tm} (h:OT m g c P):PT P/\P.wt<=m:=by
 induction h with
 | var g i P hP hw hi h=>exact ⟨hP,hw⟩
 | oint g n hm=>exact ⟨.int,by simp only [HX,Tm.wt,Tm.wtL];omega⟩
 | oprim g n a b ha hb iha ihb=>exact iha
 | olam g a b c ha hw hb ih=>exact ⟨.bin 16 a c (by omega) ha ih.1,hw⟩
 | oapp g f x a c hf hx ihf ihx=>exact ⟨(Oy ihf.1).2.1,by have:=ihf.2;simp only [Tm.wt,Tm.wtL] at this;omega⟩
 | opair g x y a b hw hx hy ihx ihy=>exact ⟨.bin 17 a b (by omega) ihx.1 ihy.1,hw⟩
 | ofst g x a b hx ih=>exact ⟨(Oy ih.1).1,by have:=ih.2;simp only [Tm.wt,Tm.wtL] at this;omega⟩
 | oif g c x y a hc hx hy _ ih _=>exact ih
 | olet g x y a b hx hy _ ih=>exact ih
 | ofix g a x ha hw hx ih=>exact ⟨ha,hw⟩
theorem GQ {m m':Nat} (hm:m<=m') {g:List Tm} {c P:Tm} (h:OT m g c P):OT m' g c P:=by
 induction h with
 | var g i P hP hw hi h=>exact .var g i P hP (by omega) hi h
 | oint g n hm=>exact .oint g n (by omega)
 | oprim g n a b ha hb iha ihb=>exact .oprim g n a b iha ihb
 | olam g a b c ha hw hb ih=>exact .olam g a b c ha (by omega) ih
 | oapp g f x a c hf hx ihf ihx=>exact .oapp g f x a c ihf ihx
 | opair g x y a b hw hx hy ihx ihy=>exact .opair g x y a b (by omega) ihx ihy
 | ofst g x a b hx ih=>exact .ofst g x a b ih
 | oif g c x y a hc hx hy i1 i2 i3=>exact .oif g c x y a i1 i2 i3
 | olet g x y a b hx hy i1 i2=>exact .olet g x y a b i1 i2
 | ofix g a x ha hw hx ih=>exact .ofix g a x ha (by omega) ih
def Adk (g g':List Tm) (ρ:Nat->Nat):Prop:=∀i Q,i<g.length->g[g.length - 1 - i]?=some Q->ρ i<g'.length/\g'[g'.length - 1 - ρ i]?=some Q
theorem NP {g g':List Tm} {ρ:Nat->Nat} (h:Adk g g' ρ) (a:Tm):Adk (g++[a]) (g'++[a]) (LS 1 ρ):=by
 intro i Q hi hQ;simp only [List.length_append,AB3,List.length_nil] at hi hQ ⊢;by_cases h0:i=0
 ·subst h0;rw [Ix (by omega)];rw [List.getElem?_append_right (by omega),show g.length+(0+1) - 1 - 0 - g.length=0 by omega] at hQ
  rw [List.getElem?_append_right (by omega),show g'.length+(0+1) - 1 - 0 - g'.length=0 by omega]
  exact ⟨by omega,hQ⟩
 ·rw [HJ (by omega)];rw [List.getElem?_append_left (by omega),show g.length+(0+1) - 1 - i=g.length - 1 - (i - 1) by omega] at hQ
  obtain ⟨q1,q2⟩:=h (i - 1) Q (by omega) hQ;rw [List.getElem?_append_left (by omega),show g'.length+(0+1) - 1 - (ρ (i - 1)+1)=g'.length - 1 - ρ (i - 1) by omega]
  exact ⟨by omega,q2⟩
theorem ArV {m:Nat} {g:List Tm} {c P:Tm} (h:OT m g c P):∀g' ρ,Adk g g' ρ->OT m g' (c.ren ρ) P:=by
 induction h with
 | var g i P hP hw hi h =>
  intro g' ρ hr;obtain ⟨q1,q2⟩:=hr i P hi h
  have:=Hh i ρ
  rw [vT] at this;rw [this];exact .var g' (ρ i) P hP hw q1 q2
 | oint g n hm=>intro g' ρ hr;rw [Cb (by decide)];exact .oint g' n hm
 | oprim g n a b ha hb iha ihb=>intro g' ρ hr;rw [Cb (by decide)];simp only [Tm.renL,show Af 26 0=0 from rfl,show Af 26 (0+1)=0 from rfl,Er];exact .oprim g' n _ _ (iha _ _ hr) (ihb _ _ hr)
 | olam g a b c ha hw hb ih=>intro g' ρ hr;rw [Cb (by decide)];simp only [Tm.renL,show Af 20 0=0 from rfl,show Af 20 (0+1)=1 from rfl,Er,In ha];exact .olam g' a _ c ha hw (ih _ _ (NP hr a))
 | oapp g f x a c hf hx ihf ihx=>intro g' ρ hr;rw [Cb (by decide)];simp only [Tm.renL,show Af 21 0=0 from rfl,show Af 21 (0+1)=0 from rfl,Er];exact .oapp g' _ _ a c (ihf _ _ hr) (ihx _ _ hr)
 | opair g x y a b hw hx hy ihx ihy=>intro g' ρ hr;rw [Cb (by decide)];simp only [Tm.renL,show Af 22 0=0 from rfl,show Af 22 (0+1)=0 from rfl,Er];exact .opair g' _ _ a b hw (ihx _ _ hr) (ihy _ _ hr)
 | ofst g x a b hx ih=>intro g' ρ hr;rw [Cb (by decide)];simp only [Tm.renL,show Af 23 0=0 from rfl,Er];exact .ofst g' _ a b (ih _ _ hr)
 | oif g c x y a hc hx hy i1 i2 i3=>intro g' ρ hr;rw [Cb (by decide)];simp only [Tm.renL,show Af 27 0=0 from rfl,show Af 27 (0+1)=0 from rfl,show Af 27 (0+1+1)=0 from rfl,Er];exact .oif g' _ _ _ a (i1 _ _ hr) (i2 _ _ hr) (i3 _ _ hr)
 | olet g x y a b hx hy i1 i2=>intro g' ρ hr;rw [Cb (by decide)];simp only [Tm.renL,show Af 28 0=0 from rfl,show Af 28 (0+1)=1 from rfl,Er];exact .olet g' _ _ a b (i1 _ _ hr) (i2 _ _ (NP hr a))
 | ofix g a x ha hw hx ih=>intro g' ρ hr;rw [Cb (by decide)];simp only [Tm.renL,show Af 29 0=0 from rfl,show Af 29 (0+1)=1 from rfl,Er,In ha];exact .ofix g' a _ ha hw (ih _ _ (NP hr a))
theorem Anj (g:List Tm) (a:Tm):Adk g (g++[a]) (fun x=>x+1):=by
 intro i Q hi hQ;simp only [List.length_append,AB3,List.length_nil];rw [List.getElem?_append_left (by omega),show g.length+(0+1) - 1 - (i+1)=g.length - 1 - i by omega]
 exact ⟨by omega,hQ⟩
def mw (P:Tm):Nat:=max P.wt 3+7
def natT:Tm:=.mk 10 0 []
def tyT:Tm:=.mk 14 0 []
def PG (X:Tm):Prop:=X.op=2\/X.op=3\/X.op=6
def WFT (A:Tm):Prop:=Pars A natT\/Pars A tyT\/(∃P,PT P/\Pars A (.mk 18 0 [P]))\/∃X,Pars A X/\PG X
def Sem (g:List Tm) (A t:Tm):Prop:=(Pars A natT/\∃k,Pars t (CM k))\/(Pars A tyT/\∃P,PT P/\Pars t P)\/(∃P c,PT P/\Pars A (.mk 18 0 [P])/\Pars t (.mk 19 0 [c])/\OT (mw P) g c P)\/∃X,Pars A X/\PG X
def Awl (g:List Tm) (P t:Tm):Prop:=∃c,Pars t c/\OT (mw P) g c P
theorem Ih:natT.stl:=JV (by decide) trivial
theorem Jj:tyT.stl:=JV (by decide) trivial
theorem VV {P:Tm} (h:PT P):(Tm.mk 18 0 [P]).stl:=JV (by decide) ⟨GX h,trivial⟩
theorem MD {A A' N:Tm} (h:Pars A N) (hN:N.stl) (h2:Pars A A'):Pars A' N:=by
 obtain ⟨d,q1,q2⟩:=UW h h2;rw [Cx q1 hN] at q2;exact q2
theorem Arh {A A' X:Tm} (h:Pars A X) (hX:PG X) (h2:Pars A A'):∃d,Pars A' d/\PG d:=by
 obtain ⟨d,q1,q2⟩:=UW h h2;refine ⟨d,q2,?_⟩;unfold PG at hX ⊢;rw [AnI q1 hX];exact hX
theorem AmB {A A':Tm} (h:WFT A) (h2:Pars A A'):WFT A':=by
 rcases h with h | h | ⟨P,hP,h⟩ | ⟨X,h,hX⟩
 ·exact .inl (MD h Ih h2)
 ·exact .inr (.inl (MD h Jj h2))
 ·exact .inr (.inr (.inl ⟨P,hP,MD h (VV hP) h2⟩))
 ·exact .inr (.inr (.inr (Arh h hX h2)))
theorem AmD {g:List Tm} {A A' t:Tm} (h:Sem g A t) (h2:Pars A A'):Sem g A' t:=by
 rcases h with ⟨h,ht⟩ | ⟨h,ht⟩ | ⟨P,c,hP,h,ht⟩ | ⟨X,h,hX⟩
 ·exact .inl ⟨MD h Ih h2,ht⟩
 ·exact .inr (.inl ⟨MD h Jj h2,ht⟩)
 ·exact .inr (.inr (.inl ⟨P,c,hP,MD h (VV hP) h2,ht⟩))
 ·exact .inr (.inr (.inr (Arh h hX h2)))
theorem AkR {g:List Tm} {A A' t:Tm} (h:Sem g A' t) (h2:Pars A A'):Sem g A t:=by
 rcases h with ⟨h,ht⟩ | ⟨h,ht⟩ | ⟨P,c,hP,h,ht⟩ | ⟨X,h,hX⟩
 ·exact .inl ⟨BA h2 h,ht⟩
 ·exact .inr (.inl ⟨BA h2 h,ht⟩)
 ·exact .inr (.inr (.inl ⟨P,c,hP,BA h2 h,ht⟩))
 ·exact .inr (.inr (.inr ⟨X,BA h2 h,hX⟩))
theorem LF {g:List Tm} {A t t':Tm} (h:Sem g A t') (h2:Pars t t'):Sem g A t:=by
 rcases h with ⟨h,k,ht⟩ | ⟨h,P,hP,ht⟩ | ⟨P,c,hP,h,ht,ho⟩ | h
 ·exact .inl ⟨h,k,BA h2 ht⟩
 ·exact .inr (.inl ⟨h,P,hP,BA h2 ht⟩)
 ·exact .inr (.inr (.inl ⟨P,c,hP,h,BA h2 ht,ho⟩))
 ·exact .inr (.inr (.inr h))
theorem Atv {X:Tm} (ρ:Nat->Nat) (h:PG X):PG (X.ren ρ):=by
 obtain ⟨op,n,ks⟩:=X;unfold PG at h ⊢;simp only [Tm.op] at h;rw [Cb (by omega)];exact h
theorem UB (ρ:Nat->Nat):∀k,(CM k).ren ρ=CM k
 | 0=>by rw [CM,Cb (by decide)];rfl
 | k+1=>by rw [CM,Cb (by decide)];simp only [Tm.renL,show Af 12 0=0 from rfl,Er,UB ρ k]
theorem Uw (σ:Nat->Tm):∀k,(CM k).sub σ=CM k
 | 0=>by rw [CM,CI (by decide)];rfl
 | k+1=>by rw [CM,CI (by decide)];simp only [Tm.subL,show Af 12 0=0 from rfl,CU,Uw σ k]
theorem PI {op n:Int} {a:Tm} {σ:Nat->Tm} (h:op≠1) (h0:Af op 0=0):(Tm.mk op n [a]).sub σ=.mk op n [a.sub σ]:=by
 rw [CI h];simp only [Tm.subL,h0,CU]
theorem Mn {op n:Int} {a b:Tm} {σ:Nat->Tm} (h:op≠1) (h0:Af op 0=0):(Tm.mk op n [a,b]).sub σ=.mk op n [a.sub σ,b.sub (CX (Af op 1) σ)]:=by
 rw [CI h];simp only [Tm.subL,h0,CU,Nat.zero_add]
theorem Awj {op n:Int} {a:Tm} {ρ:Nat->Nat} (h:op≠1) (h0:Af op 0=0):(Tm.mk op n [a]).ren ρ=.mk op n [a.ren ρ]:=by
 rw [Cb h];simp only [Tm.renL,h0,Er]
theorem Lx {op n:Int} {σ:Nat->Tm} (h:op≠1):(Tm.mk op n []).sub σ=.mk op n []:=by rw [CI h];rfl
theorem UI {op n:Int} {ρ:Nat->Nat} (h:op≠1):(Tm.mk op n []).ren ρ=.mk op n []:=by rw [Cb h];rfl
theorem Aw9 {g:List Tm} {A t:Tm} (h:Sem g A t) (a:Tm):Sem (g++[a]) (A.ren fun x=>x+1) (t.ren fun x=>x+1):=by
 rcases h with ⟨h,k,ht⟩ | ⟨h,P,hP,ht⟩ | ⟨P,c,hP,h,ht,ho⟩ | ⟨X,h,hX⟩
 ·refine .inl ⟨?_,k,?_⟩
  ·have:=C6 h fun x=>x+1
   rwa [natT,UI (by decide)] at this
  ·have:=C6 ht fun x=>x+1
   rwa [UB] at this
 ·refine .inr (.inl ⟨?_,P,hP,?_⟩)
  ·have:=C6 h fun x=>x+1
   rwa [tyT,UI (by decide)] at this
  ·have:=C6 ht fun x=>x+1
   rwa [In hP] at this
 ·refine .inr (.inr (.inl ⟨P,c.ren fun x=>x+1,hP,?_,?_,ArV ho _ _ (Anj g a)⟩))
  ·have:=C6 h fun x=>x+1
   rwa [Awj (by decide) rfl,In hP] at this
  ·have:=C6 ht fun x=>x+1
   rwa [Awj (by decide) rfl] at this
 ·exact .inr (.inr (.inr ⟨_,C6 h _,Atv _ hX⟩))
theorem Fc {m:Int} {B X:Tm} (h:Pars (.mk 18 m [B]) X):∃B',X=.mk 18 m [B']/\Pars B B':=Apb h m B rfl
theorem YT {g:List Tm} {t:Tm} (h:Sem g natT t):∃k,Pars t (CM k):=by
 rcases h with ⟨_,ht⟩ | ⟨h,_⟩ | ⟨P,c,hP,h,_⟩ | ⟨X,h,hX⟩
 ·exact ht
 ·have:=Cx h Ih;simp [tyT,natT] at this
 ·have:=Cx h Ih;simp [natT] at this
 ·rw [Cx h Ih] at hX;simp [PG,natT,Tm.op] at hX
theorem WN {g:List Tm} {t:Tm} (h:Sem g tyT t):∃P,PT P/\Pars t P:=by
 rcases h with ⟨h,_⟩ | ⟨_,ht⟩ | ⟨P,c,hP,h,_⟩ | ⟨X,h,hX⟩
 ·have:=Cx h Jj;simp [tyT,natT] at this
 ·exact ht
 ·have:=Cx h Jj;simp [tyT] at this
 ·rw [Cx h Jj] at hX;simp [PG,tyT,Tm.op] at hX
theorem AiV {g:List Tm} {m:Int} {B t:Tm} (h:Sem g (.mk 18 m [B]) t):∃P c,PT P/\Pars B P/\Pars t (.mk 19 0 [c])/\OT (mw P) g c P:=by
 rcases h with ⟨h,_⟩ | ⟨h,_⟩ | ⟨P,c,hP,h,ht,ho⟩ | ⟨X,h,hX⟩
 ·obtain ⟨B',e,_⟩:=Fc h;simp [natT] at e
 ·obtain ⟨B',e,_⟩:=Fc h;simp [tyT] at e
 ·obtain ⟨B',e,q⟩:=Fc h;simp only [Tm.mk.injEq,List.cons.injEq,and_true,true_and] at e;rw [<- e.2] at q;exact ⟨P,c,hP,q,ht,ho⟩
 ·obtain ⟨B',rfl,_⟩:=Fc h;simp [PG,Tm.op] at hX
theorem Akn {m:Int} {B:Tm} (h:WFT (.mk 18 m [B])):∃P,PT P/\Pars B P:=by
 rcases h with h | h | ⟨P,hP,h⟩ | ⟨X,h,hX⟩
 ·obtain ⟨B',e,_⟩:=Fc h;simp [natT] at e
 ·obtain ⟨B',e,_⟩:=Fc h;simp [tyT] at e
 ·obtain ⟨B',e,q⟩:=Fc h;simp only [Tm.mk.injEq,List.cons.injEq,and_true,true_and] at e;rw [<- e.2] at q;exact ⟨P,hP,q⟩
 ·obtain ⟨B',rfl,_⟩:=Fc h;simp [PG,Tm.op] at hX
theorem Adn:∀{l:List Tm},(∀t∈l,t.eta=t)->Tm.etaL l=l
 | [],_=>rfl
 | a::l,h=>by rw [Tm.etaL,h a (by simp),Adn fun t ht=>h t (by simp [ht])]
theorem Hm {op n:Int} {l:List Tm} (h:op≠4/\op≠7) (hl:∀t∈l,t.eta=t):(Tm.mk op n l).eta=.mk op n l:=by
 rw [Tm.eta,if_neg h.1,if_neg h.2,Adn hl]
theorem Pr {G:List Nat} {t:Tm} {s:Nat} (h:NfT G t s):(s=0\/s=1\/s=10\/s=11)->t.eta=t:=by
 induction h with
 | var G n s h0 h hs=>intro _;exact Hm (by decide) (by simp)
 | node G op n ks s sg hr hl hst hk ih =>
  intro hs;have kid:∀(i:Nat) t bs s',ks[i]?=some t->sg[i]?=some (bs,s')->(s'=0\/s'=1\/s'=10\/s'=11)->t.eta=t:=fun i t bs s' a b c=>ih i t bs s' a b c;have all:(op≠4/\op≠7)->(∀(i:Nat) bs s',sg[i]?=some (bs,s')->(s'=0\/s'=1\/s'=10\/s'=11))->(Tm.mk op n ks).eta=.mk op n ks:=by
   intro ho hall;refine Hm ho fun t ht=>?_;obtain ⟨i,hi,e⟩:=List.mem_iff_getElem.1 ht;have hi2:i<sg.length:=by rw [<- hl];exact hi
   exact kid i t _ _ (by rw [List.getElem?_eq_getElem hi,e]) (List.getElem?_eq_getElem hi2) (hall i _ _ (List.getElem?_eq_getElem hi2))
  cases hr with
  | natT=>exact all (by decide) (fun i bs s' h=>by simp at h)
  | tyT=>exact all (by decide) (fun i bs s' h=>by simp at h)
  | zero=>exact all (by decide) (fun i bs s' h=>by simp at h)
  | tint=>exact all (by decide) (fun i bs s' h=>by simp at h)
  | suc =>
   refine all (by decide) (fun i bs s' h=>?_)
   match i with
   | 0=>simp at h;omega
   | i+1=>simp at h
  | tfun =>
   refine all (by decide) (fun i bs s' h=>?_)
   match i with
   | 0 | 1=>simp at h;omega
   | i+2=>simp at h
  | tpro =>
   refine all (by decide) (fun i bs s' h=>?_)
   match i with
   | 0 | 1=>simp at h;omega
   | i+2=>simp at h
  | recR s hs6 =>
   refine all (by decide) (fun i bs s' h=>?_)
   match i with
   | 0 | 1 | 2 | 3=>simp at h;omega
   | i+4=>simp at h
  | _=>omega
def cns (u:Tm) (σ:Nat->Tm):Nat->Tm
 | 0=>u
 | i+1=>σ i
theorem Asq (u:Tm) (σ:Nat->Tm):(fun i=>(CX 1 σ i).sub (s1 u))=cns u σ:=by
 funext i
 cases i with
 | zero=>simp [CX,FL,s1,cns]
 | succ i =>
  simp only [CX,cns];rw [if_neg (by omega),Nat.add_sub_cancel,Hi _ _ _ (fun j=>rfl)]
theorem Apx (r k:Tm) (σ:Nat->Tm):(fun i=>(CX 2 σ i).sub (s2 r k))=cns r (cns k σ):=by
 funext i
 match i with
 | 0=>simp [CX,FL,s2,cns]
 | 1=>simp [CX,FL,s2,cns]
 | i+2 =>
  simp only [CX,cns];rw [if_neg (by omega),Nat.add_sub_cancel,Hi _ _ _ (fun j=>rfl)]
theorem FU {t:Tm} {k:Nat} (h:t.sc k) (d:Nat) (hw:k+2 * t.wt+d<=9000000000000000000):t.shift d 0=t.ren fun x=>x+d:=by
 have:=LW t d 0 k h hw
 rw [show ((0:Nat):Int)=0 from rfl] at this
 rw [this];congr 1
theorem Ml {t:Tm} {k:Nat} (h:t.sc k) (d:Nat) (hw:k+2 * t.wt+d<=9000000000000000000) (σ:Nat->Tm):(t.shift d 0).sub σ=t.sub fun x=>σ (x+d):=by
 rw [FU h d hw,HM]
def Bw:Nat:=2000000000000000
structure EnvK (g:Ci) (G:List Nat) (D:List Tm) (σ:Nat->Tm):Prop where
 v1:∀i T,i<g.length->g[g.length - 1 - i]?=some (1,T)->T.sc (g.length - 1 - i)/\T.wt<=Bw/\(∃s,HasT G (T.ren fun x=>x+(i+1)) (10+s))/\Sem D (T.sub fun x=>σ (x+(i+1))) (σ i)
 v0:∀i T,i<g.length->g[g.length - 1 - i]?=some (0,T)->T.sc (g.length - 1 - i)/\T.wt<=Bw/\HasT G (T.ren fun x=>x+(i+1)) 1/\∃P j,PT P/\Pars (T.sub fun x=>σ (x+(i+1))) P/\σ i=vT j/\j<D.length/\D[D.length - 1 - j]?=some P
theorem Alf:EnvK [] [] [] vT:=⟨fun i T h=>by simp at h,fun i T h=>by simp at h⟩
theorem Rs {G:List Nat} {T:Tm} {k i s:Nat} (x:Nat) (hsc:T.sc k) (hw:T.wt<=Bw) (hk:k+i<=100000) (hG:G.length<=1000) (h:HasT G (T.ren fun x=>x+i) s):HasT (x::G) (T.ren fun x=>x+(i+1)) s:=by
 unfold Bw at hw;have e:=FU hsc i (by omega);rw [<- e] at h;have h1:=Jo h [x] (by rw [BF];simp only [AB3,List.length_nil];omega);have hs:=B3 T i 0 k hsc (by omega);rw [show ((0:Nat):Int)=0 from rfl] at hs
 rw [FU hs _ (by rw [BF];simp only [AB3,List.length_nil];omega),e,Ky] at h1;simpa [Nat.add_assoc] using h1
theorem KT {α:Type} (l:List α) (a:α) (i:Nat) (b:α) (hi:i<(l++[a]).length) (h:(l++[a])[(l++[a]).length - 1 - i]?=some b):i=0/\b=a\/∃j,i=j+1/\j<l.length/\l[l.length - 1 - j]?=some b:=by
 simp only [List.length_append,AB3,List.length_nil] at hi h;cases i with
 | zero =>
  rw [List.getElem?_append_right (by omega),show l.length+(0+1) - 1 - 0 - l.length=0 by omega] at h
  simp only [List.getElem?_cons_zero,ABZ] at h;exact .inl ⟨rfl,h.symm⟩
 | succ j =>
  rw [List.getElem?_append_left (by omega),show l.length+(0+1) - 1 - (j+1)=l.length - 1 - j by omega] at h
  exact .inr ⟨j,rfl,by omega,h⟩
theorem Xq {g:Ci} {G:List Nat} {D:List Tm} {σ:Nat->Tm} (h:EnvK g G D σ) (hG:G.length=g.length) (hg:g.length<=500) {b u:Tm} {s:Nat} (bsc:b.sc g.length) (bw:b.wt<=Bw) (hb:HasT G b (10+s)) (hu:Sem D (b.sub σ) u):EnvK (g++[(1,b)]) (s::G) D (cns u σ):=by
 have hbw:=bw;unfold Bw at hbw;refine ⟨fun i T hi hT=>?_,fun i T hi hT=>?_⟩
 ·rcases KT _ _ _ _ hi hT with ⟨rfl,e⟩ | ⟨j,rfl,hj,hT⟩
  ·simp only [AB0,true_and] at e;subst e;refine ⟨by simpa using bsc,bw,⟨s,?_⟩,hu⟩
   have:=Jo hb [s] (by simp only [AB3,List.length_nil];omega)
   rw [FU bsc _ (by simp only [AB3,List.length_nil];omega)] at this;exact this
  ·obtain ⟨q1,q2,⟨s',q3⟩,q4⟩:=h.v1 j T hj hT;refine ⟨?_,q2,⟨s',Rs s q1 q2 (by omega) (by omega) q3⟩,q4⟩;have e:(g++[((1:Int),b)]).length - 1 - (j+1)=g.length - 1 - j:=by simp only [List.length_append,AB3,List.length_nil];omega
   rw [e];exact q1
 ·rcases KT _ _ _ _ hi hT with ⟨rfl,e⟩ | ⟨j,rfl,hj,hT⟩
  ·simp at e
  ·obtain ⟨q1,q2,q3,q4⟩:=h.v0 j T hj hT;refine ⟨?_,q2,Rs s q1 q2 (by omega) (by omega) q3,q4⟩;have e:(g++[((1:Int),b)]).length - 1 - (j+1)=g.length - 1 - j:=by simp only [List.length_append,AB3,List.length_nil];omega
   rw [e];exact q1
theorem Aj4 (T:Tm) (σ:Nat->Tm) (j:Nat):(T.sub fun x=>CX 1 σ (x+(j+1+1)))=(T.sub fun x=>σ (x+(j+1))).ren fun x=>x+1:=by
 rw [GS];congr 1
theorem Rc {g:Ci} {G:List Nat} {D:List Tm} {σ:Nat->Tm} (h:EnvK g G D σ) (hG:G.length=g.length) (hg:g.length<=500) {d P:Tm} (dsc:d.sc g.length) (dw:d.wt<=Bw) (hd:HasT G d 1) (hP:PT P) (hp:Pars (d.sub σ) P):EnvK (g++[(0,d)]) (6::G) (D++[P]) (CX 1 σ):=by
 have hdw:=dw;unfold Bw at hdw;refine ⟨fun i T hi hT=>?_,fun i T hi hT=>?_⟩
 ·rcases KT _ _ _ _ hi hT with ⟨rfl,e⟩ | ⟨j,rfl,hj,hT⟩
  ·simp at e
  ·obtain ⟨q1,q2,⟨s',q3⟩,q4⟩:=h.v1 j T hj hT;refine ⟨?_,q2,⟨s',Rs 6 q1 q2 (by omega) (by omega) q3⟩,?_⟩
   ·have e:(g++[((0:Int),d)]).length - 1 - (j+1)=g.length - 1 - j:=by simp only [List.length_append,AB3,List.length_nil];omega
    rw [e];exact q1
   ·rw [Aj4];exact Aw9 q4 P
 ·rcases KT _ _ _ _ hi hT with ⟨rfl,e⟩ | ⟨j,rfl,hj,hT⟩
  ·simp only [AB0,true_and] at e;subst e;refine ⟨by simpa using dsc,dw,?_,P,0,hP,?_,rfl,by simp,by simp⟩
   ·have:=Jo hd [6] (by simp only [AB3,List.length_nil];omega)
    rw [FU dsc _ (by simp only [AB3,List.length_nil];omega)] at this;exact this
   ·have:=C6 hp fun x=>x+1
    rw [In hP,GS] at this;exact this
  ·obtain ⟨q1,q2,q3,P',k,q4,q5,q6,q7,q8⟩:=h.v0 j T hj hT;refine ⟨?_,q2,Rs 6 q1 q2 (by omega) (by omega) q3,P',k+1,q4,?_,?_,?_,?_⟩
   ·have e:(g++[((0:Int),d)]).length - 1 - (j+1)=g.length - 1 - j:=by simp only [List.length_append,AB3,List.length_nil];omega
    rw [e];exact q1
   ·rw [Aj4]
    have:=C6 q5 fun x=>x+1
    rwa [In q4] at this
   ·show CX 1 σ (j+1)=vT (k+1)
    rw [F5 (by omega),Nat.add_sub_cancel,q6,Hh]
   ·simp only [List.length_append,AB3,List.length_nil];omega
   ·have e:(D++[P]).length - 1 - (k+1)=D.length - 1 - k:=by simp only [List.length_append,AB3,List.length_nil];omega
    rw [e,List.getElem?_append_left (by omega)];exact q8
theorem Alq {G:List Nat} {i:Nat} {T a w:Tm} {k f s s':Nat} (hsc:T.sc k) (hw:T.wt<=Bw) (hk:k+i<=1000) (hT:HasT G (T.ren fun x=>x+(i+1)) s') (hn:AX f (T.shift ((i+1:Nat):Int) 0)=some (w,0)) (ha:NfT G a s) (he:w.eta=a.eta)
  (hs:s=1/\s'=1\/10<=s/\10<=s'):∀σ:Nat->Tm,Pars (T.sub fun x=>σ (x+(i+1))) (w.sub σ)/\(s=1->w=a)/\(w=a\/PG a):=by
 have hbw:=hw;unfold Bw at hbw;intro σ;have e:=FU hsc (i+1) (by omega);have hts:=B3 T (i+1) 0 k hsc (by omega);rw [show ((0:Nat):Int)=0 from rfl] at hts
 have hr:=Ly (HE hn hts) σ;rw [e,HM] at hr;refine ⟨hr,?_⟩;rw [<- e] at hT;have hwn:=CQ hn hT;rcases hs with ⟨rfl,rfl⟩ | ⟨h1,h2⟩
 ·rw [Pr hwn (by omega),Pr ha (by omega)] at he;exact ⟨fun _=>he,.inl he⟩
 refine ⟨fun h=>by omega,?_⟩;have key:∀{x:Tm} {s:Nat},NfT G x s->10<=s->x.eta=x/\(x.op=10\/x.op=14\/x.op=18)\/PG x:=by
  intro x s hx hs;cases hx with
  | var=>omega
  | node _ op n ks _ sg hr hl hst hk =>
   cases hr with
   | natT=>exact .inl ⟨Pr (.node _ _ _ _ _ _ .natT hl hst hk) (by omega),.inl rfl⟩
   | tyT=>exact .inl ⟨Pr (.node _ _ _ _ _ _ .tyT hl hst hk) (by omega),.inr (.inl rfl)⟩
   | liftT =>
    obtain ⟨y,rfl⟩:=Cp hl;refine .inl ⟨Hm (by decide) fun t ht=>?_,.inr (.inr rfl)⟩;rw [List.mem_singleton.1 ht];exact Pr (hk 0 y [] 1 rfl rfl) (by omega)
   | uT=>exact .inr (.inl rfl)
   | piT=>exact .inr (.inr (.inl rfl))
   | sigT=>exact .inr (.inr (.inr rfl))
   | _=>omega
 rcases key ha h1 with ⟨ea,oa⟩ | oa
 ·rw [ea] at he;rcases key hwn h2 with ⟨ew,_⟩ | ow
  ·rw [ew] at he;exact .inl he
  ·have:=We (t:=w) (by unfold PG at ow;omega) (by unfold PG at ow;omega)
   rw [he] at this;unfold PG at ow;omega
 ·exact .inr oa
theorem GV {X:Tm} (σ:Nat->Tm) (h:PG X):PG (X.sub σ):=by
 obtain ⟨op,n,ks⟩:=X;unfold PG at h ⊢;simp only [Tm.op] at h;rw [CI (by omega)];exact h
theorem Nj {op m:Int} {ks:List Tm} {k:Nat} (h:(Tm.mk op m ks).sc k) (h1:op≠1) (h2:op≠2) (h26:op≠26) (h25:op≠25):m=0:=by
 rw [Tm.sc,if_neg h1] at h
 have:=h.2.1
 unfold BJ at this;rw [if_neg h2,if_neg h26,if_neg h25] at this;exact this
theorem JD {a:Tm} {o:Int} {k:Nat} (h:a.sc k) (ho:a.op=o) (har:ar o=some 0) (h1:o≠1) (h2:o≠2) (h26:o≠26) (h25:o≠25):a=.mk o 0 []:=by
 obtain ⟨op,m,ks⟩:=a;simp only [Tm.op] at ho;subst ho;have hm:=Nj h h1 h2 h26 h25;rw [Tm.sc,har] at h;have hl:ks=[]:=List.eq_nil_of_length_eq_zero (Option.some.inj h.1).symm;rw [hm,hl]
theorem Z8 {G:List Nat} {op n:Int} {x y:Tm} (h:NfT G (.mk op n [x,y]) 1) (ho:op=16\/op=17):NfT G x 1/\NfT G y 1:=by
 cases h with
 | node _ _ _ _ _ sg hr hl hst hk =>
  cases hr with
  | tfun=>exact ⟨hk 0 x [] 1 rfl rfl,hk 1 y [] 1 rfl rfl⟩
  | tpro=>exact ⟨hk 0 x [] 1 rfl rfl,hk 1 y [] 1 rfl rfl⟩
  | _=>omega
theorem AkN {G:List Nat} {n:Int} {x:Tm} {s:Nat} (h:NfT G (.mk 18 n [x]) (10+s)):NfT G x 1:=by
 generalize hq:10+s=q at h;cases h with
 | node _ _ _ _ _ sg hr hl hst hk =>
  cases hr with
  | liftT=>exact hk 0 x [] 1 rfl rfl
  | liftU=>omega
theorem sc2 {op n:Int} {x y:Tm} {k:Nat} (h:(Tm.mk op n [x,y]).sc k) (h1:op≠1) (b0:Af op 0=0) (b1:Af op 1=0):x.sc k/\y.sc k:=by
 rw [Tm.sc,if_neg h1] at h;simp only [Tm.scL,b0,b1,Nat.zero_add,Nat.add_zero,and_true] at h;exact ⟨h.2.2.1,h.2.2.2⟩
theorem sc1 {op n:Int} {x:Tm} {k:Nat} (h:(Tm.mk op n [x]).sc k) (h1:op≠1) (b0:Af op 0=0):x.sc k:=by
 rw [Tm.sc,if_neg h1] at h;simp only [Tm.scL,b0,Nat.add_zero,and_true] at h;exact h.2.2
theorem Ai0 {t:Tm} {k:Nat} (h:t.sc k) (hw:k+2 * t.wt+1<=9000000000000000000) (u:Tm) (σ:Nat->Tm):(t.shift 1 0).sub (cns u σ)=t.sub σ:=Ml h 1 hw _
theorem AuN {t:Tm} {k:Nat} (h:t.sc k) (hw:k+2 * t.wt+2<=9000000000000000000) (u v:Tm) (σ:Nat->Tm):(t.shift 2 0).sub (cns u (cns v σ))=t.sub σ:=Ml h 2 hw _
theorem Axd {t:Tm} {k:Nat} (h:t.sc k) (hw:k+2 * t.wt+1<=9000000000000000000) (σ:Nat->Tm):(t.shift 1 0).sub (CX 1 σ)=(t.sub σ).ren fun x=>x+1:=by
 have:=Ml h 1 hw (CX 1 σ)
 rw [show ((1:Nat):Int)=1 from rfl] at this
 rw [this,GS];congr 1
theorem AdW {t P:Tm} {k:Nat} (h:t.sc k) (hw:k+2 * t.wt+1<=9000000000000000000) {σ:Nat->Tm} (hP:PT P) (hp:Pars (t.sub σ) P):Pars ((t.shift 1 0).sub (CX 1 σ)) P:=by
 rw [Axd h hw]
 have:=C6 hp fun x=>x+1
 rwa [In hP] at this
theorem Pk {P Q:Tm} (h:P.wt<=max Q.wt 3):mw P<=mw Q:=by unfold mw;omega
theorem fl {k e:Nat} {g:Ci} {a t:Tm} (h:Gr k e g a t):∀(G:List Nat) (D:List Tm) (σ:Nat->Tm),CtxT g G->EnvK g G D σ ->
  (k=0->WFT (t.sub σ))/\(k=1->a.sc g.length->a.wt<=Bw->∀s,HasT G a (10+s)->WFT (a.sub σ)->Sem D (a.sub σ) (t.sub σ)) /\
  (k=2->a.sc g.length->a.wt<=Bw->HasT G a 1->∀P,PT P->Pars (a.sub σ) P->Awl D P (t.sub σ)) /\
  (k=3->g.length<=60->NOk g.length a->∀s,NfT G a (10+s)->WFT (a.sub σ)->Sem D (a.sub σ) (t.sub σ)) /\
  (k=4->g.length<=60->NOk g.length a->NfT G a 1->∀P,PT P->Pars (a.sub σ) P->Awl D P (t.sub σ)):=by
 have nsc:∀k,(Tm.mk 10 0 []).sc k:=fun k=>Ce (by decide) (by decide) (BB (by decide) (by decide) (by decide));have tsc:∀k,(Tm.mk 14 0 []).sc k:=fun k=>Ce (by decide) (by decide) (BB (by decide) (by decide) (by decide));have isc:∀k,(Tm.mk 15 0 []).sc k:=fun k=>Ce (by decide) (by decide) (BB (by decide) (by decide) (by decide));have small:∀{op n:Int},(Tm.mk op n []).wt<=Bw:=fun {op n}=>by simp [Tm.wt,Tm.wtL,Bw]
 have w3:∀{x:Tm},x.wt<=3000->x.wt<=Bw:=fun {x} h=>by unfold Bw;omega
 have plw:∀r:Tm,(r.plainT 1).wt<=3:=fun r=>by have:=EC 1 r;omega
 have plp:∀(r:Tm) (σ:Nat->Tm),Pars ((r.plainT 1).sub σ) (r.plainT 1):=fun r σ=>by rw [Wl (Cz 1 r)];exact .refl _
 have pls:∀(r:Tm) (k:Nat),(r.plainT 1).sc k:=fun r k=>Awt (AiB r) k;have nfN:∀(G:List Nat),HasT G (.mk 10 0 []) (10+0):=fun G=>ht0 .natT;have sN:∀σ:Nat->Tm,(Tm.mk 10 0 []).sub σ=natT:=fun σ=>Lx (by decide);have sT:∀σ:Nat->Tm,(Tm.mk 14 0 []).sub σ=tyT:=fun σ=>Lx (by decide);have sI:∀σ:Nat->Tm,(Tm.mk 15 0 []).sub σ=HX:=fun σ=>Lx (by decide)
 induction h with
 | tnat e g a=>intro G D σ hG hE;exact ⟨fun _=>by rw [sN];exact .inl (.refl _),by omega,by omega,by omega,by omega⟩
 | tty e g a=>intro G D σ hG hE;exact ⟨fun _=>by rw [sT];exact .inr (.inl (.refl _)),by omega,by omega,by omega,by omega⟩
 | tu e g a=>intro G D σ hG hE;exact ⟨fun _=>.inr (.inr (.inr ⟨_,.refl _,GV σ (.inl rfl)⟩)),by omega,by omega,by omega,by omega⟩
 | tlp e g a r=>intro G D σ hG hE;exact ⟨fun _=>.inr (.inr (.inl ⟨r.plainT 1,Cz 1 r,by rw [PI (by decide) rfl];exact ps1 (by decide) (plp r σ)⟩)),by omega,by omega,by omega,by omega⟩
 | tpi e g a x y op ho h6 hgl hx h1 h2 ih1 ih2 =>
  intro G D σ hG hE;exact ⟨fun _=>.inr (.inr (.inr ⟨_,.refl _,GV σ (by unfold PG;simp only [Tm.op];omega)⟩)),by omega,by omega,by omega,by omega⟩
 | tlift e g a t h6 h1 ih =>
  intro G D σ hG hE;refine ⟨fun _=>?_,by omega,by omega,by omega,by omega⟩
  have:=(ih G D σ hG hE).2.1 rfl (tsc _) small 1 (ht0 .tyT) (by rw [sT];exact .inr (.inl (.refl _)))
  rw [sT] at this;obtain ⟨P,hP,hp⟩:=WN this;exact .inr (.inr (.inl ⟨P,hP,by rw [PI (by decide) rfl];exact ps1 (by decide) hp⟩))
 | grow e g a0 a t f hn hg ha h1 ih =>
  intro G D σ hG hE;refine ⟨by omega,fun _ asc aw s hs hw=>?_,by omega,by omega,by omega⟩;have hr:=Ly (HE hn asc) σ;exact AkR ((ih G D σ hG hE).2.2.2.1 rfl hg ha s (CQ hn hs) (AmB hw hr)) hr
 | objc e g a0 a t f hn hg ha h1 ih =>
  intro G D σ hG hE;refine ⟨by omega,by omega,fun _ asc aw hs P hP hp=>?_,by omega,by omega⟩;have hr:=Ly (HE hn asc) σ;exact (ih G D σ hG hE).2.2.2.2 rfl hg ha (CQ hn hs) P hP (MD hp (GX hP) hr)
 | var1 e g a i h =>
  intro G D σ hG hE;refine ⟨by omega,by omega,by omega,fun _ hl ha s hs hw=>?_,by omega⟩;obtain ⟨hi,T,f,w,hg,hn,he⟩:=h;obtain ⟨q1,q2,⟨s',q3⟩,q4⟩:=hE.v1 i T hi hg;obtain ⟨r1,_,r2⟩:=Alq q1 q2 (by omega) q3 hn hs he (.inr ⟨by omega,by omega⟩) σ;have ev:(Tm.mk 1 (i:Int) []).sub σ=σ i:=FL i σ;rw [ev];rcases r2 with rfl | r2
  ·exact AmD q4 r1
  ·exact .inr (.inr (.inr ⟨_,.refl _,GV σ r2⟩))
 | var0 e g a i h =>
  intro G D σ hG hE;refine ⟨by omega,by omega,by omega,by omega,fun _ hl ha hs P hP hp=>?_⟩;obtain ⟨hi,T,f,w,hg,hn,he⟩:=h;obtain ⟨q1,q2,q3,P',j,q4,q5,q6,q7,q8⟩:=hE.v0 i T hi hg;obtain ⟨r1,r2,_⟩:=Alq q1 q2 (by omega) q3 hn hs he (.inl ⟨rfl,rfl⟩) σ;have ew:=r2 rfl;subst ew;have ev:(Tm.mk 1 (i:Int) []).sub σ=σ i:=FL i σ;rw [ev,q6];have eP:=Amd q4 hP (MD q5 (GX q4) r1) hp;subst eP;exact ⟨_,.refl _,.var D j _ q4 (by unfold mw;omega) q7 q8⟩
 | fst e g a b c x h6 hb h1 h2 h3 ih1 ih2 ih3 =>
  intro G D σ hG hE;refine ⟨by omega,by omega,by omega,fun _ hl ha s hs hw=>?_,by omega⟩;have hc:=(ih3 G D σ hG hE).2.1 rfl ha.sc (w3 ha.wt) s (A2 hs) hw;refine LF hc ?_;rw [PI (by decide) rfl,CI (by decide)];simp only [Tm.subL,show Af 7 0=0 from rfl,show Af 7 (0+1)=0 from rfl,show Af 7 (0+1+1)=0 from rfl,CU]
  exact C7 (.fst 0 0 _ _ _ _ (A8 _))
 | app e g a b c x h6 hb h1 h2 h3 ih1 ih2 ih3 =>
  intro G D σ hG hE;refine ⟨by omega,by omega,by omega,fun _ hl ha s hs hw=>?_,by omega⟩;have aw:=ha.wt;have bw:=hb.wt;obtain ⟨s1,p1,p2⟩:=(AlZ h1 G hG).1 rfl;have wb:=(ih1 G D σ hG hE).1 rfl;have hx:=(ih2 G D σ hG hE).2.1 rfl hb.sc (by unfold Bw;omega) s1 p2 wb;have e1:=Ai0 ha.sc (by omega) (x.sub σ) σ;have hc:=(ih3 (s1::G) D (cns (x.sub σ) σ) (GF hG p2 (Wa hb (by omega))) (Xq hE hG.len (by omega) hb.sc (by unfold Bw;omega) p2 hx)).2.1 rfl (by have:=B3 a 1 0 g.length ha.sc (by omega);simpa using this) (by rw [BF];exact w3 aw) s (up1 hG (by omega) (A2 hs) (by omega) s1) (by rw [e1];exact hw);rw [e1] at hc;refine LF hc ?_;rw [Mn (by decide) rfl,Mn (by decide) rfl,show Af 4 1=1 from rfl,show Af 5 1=0 from rfl,CU]
  have:=Par.beta 0 0 (b.sub σ) _ _ _ _ (A8 (c.sub (CX 1 σ))) (A8 (x.sub σ))
  rw [Fx,Asq] at this;exact C7 this
 | recc e g a n z s h6 ha h1 h2 h3 ih1 ih2 ih3 =>
  intro G D σ hG hE;refine ⟨by omega,by omega,by omega,fun _ hl hna τ hs hw=>?_,by omega⟩;have aw:=hna.wt;have hn:=(ih1 G D σ hG hE).2.1 rfl (nsc _) small 0 (nfN _) (by rw [sN];exact .inl (.refl _));rw [sN] at hn;obtain ⟨k,hk⟩:=YT hn;have hz:=(ih2 G D σ hG hE).2.1 rfl hna.sc (w3 aw) τ (A2 hs) hw;have hs1:=up1 hG (by omega) (A2 hs) (by omega) 0;have g1:=GF hG (T:=.mk 10 0 []) (s:=0) (ht0 .natT) (by simp [Tm.vb,Tm.vbL]);have a1sc:(a.shift 1 0).sc (g.length+1):=by have:=B3 a 1 0 g.length hna.sc (by omega);simpa using this
  have a2sc:(a.shift 2 0).sc (g.length+2):=by have:=B3 a 2 0 g.length hna.sc (by omega);simpa using this
  have g2:=GF g1 hs1 (Qv _ (g.length+1) a1sc (by rw [BF];omega));have hs2:=up2 hG (by omega) (A2 hs) (by omega) τ 0;obtain ⟨R,hR⟩:∃R:Tm->Tm,R=fun q=>.mk 13 0 [(a.shift 1 0).sub (CX 1 σ),z.sub σ,s.sub (CX 2 σ),q]:=⟨_,rfl⟩;have et:(Tm.mk 13 0 [a.shift 1 0,z,s,n]).sub σ=R (n.sub σ):=by
   rw [hR,CI (by decide)];simp only [Tm.subL,show Af 13 0=1 from rfl,show Af 13 (0+1)=0 from rfl,show Af 13 (0+1+1)=2 from rfl,show Af 13 (0+1+1+1)=0 from rfl,CU]
  rw [et];have hp:Pars (R (n.sub σ)) (R (CM k)):=by rw [hR];exact ps4 hk
  refine LF ?_ hp;clear hp hk hn et
  induction k with
  | zero=>exact LF hz (by rw [hR];exact C7 (.recz 0 0 _ _ _ _ [] (A8 _)))
  | succ k ihk =>
   have e1:=Ai0 hna.sc (by omega) (CM k) σ;have e2:=AuN hna.sc (by omega) (R (CM k)) (CM k) σ;have E1:=Xq (u:=CM k) hE hG.len (by omega) (nsc _) small (nfN G) (by rw [sN];exact .inl ⟨.refl _,k,.refl _⟩);have E2:=Xq (u:=R (CM k)) E1 g1.len (by simp only [List.length_append,AB3,List.length_nil];omega) (by simpa using a1sc) (by rw [BF];exact w3 aw) hs1 (by rw [e1];exact ihk)
   have:=(ih3 _ D _ g2 E2).2.1 rfl (by simpa using a2sc) (by rw [BF];exact w3 aw) τ hs2 (by rw [e2];exact hw)
   rw [e2] at this;refine LF this ?_;have q:=Par.recs 0 0 _ _ _ _ _ _ _ _ (A8 ((a.shift 1 0).sub (CX 1 σ))) (A8 (z.sub σ)) (A8 (s.sub (CX 2 σ))) (A8 (CM k));rw [Fx,Apx] at q;rw [hR];exact C7 q
 | suc e g a n h6 ha h1 ih =>
  intro G D σ hG hE;refine ⟨by omega,by omega,by omega,fun _ hl hna s hs hw=>?_,by omega⟩;have hn:=(ih G D σ hG hE).2.1 rfl hna.sc (w3 hna.wt) s (A2 hs) hw;have ea:=JD hna.sc ha rfl (by decide) (by decide) (by decide) (by decide);subst ea;rw [sN] at hn ⊢;obtain ⟨k,hk⟩:=YT hn;exact .inl ⟨.refl _,k+1,by rw [PI (by decide) rfl,CM];exact ps1 (by decide) hk⟩
 | num e g a j ha hj =>
  intro G D σ hG hE;refine ⟨by omega,by omega,by omega,fun _ hl hna s hs hw=>?_,by omega⟩;have ea:=JD hna.sc ha rfl (by decide) (by decide) (by decide) (by decide);subst ea;rw [sN,Uw];exact .inl ⟨.refl _,j,.refl _⟩
 | tint e g a ha =>
  intro G D σ hG hE;refine ⟨by omega,by omega,by omega,fun _ hl hna s hs hw=>?_,by omega⟩;have ea:=JD hna.sc ha rfl (by decide) (by decide) (by decide) (by decide);subst ea;rw [sT,sI];exact .inr (.inl ⟨.refl _,HX,.int,.refl _⟩)
 | tfun e g a x y op ho h6 ha h1 h2 ih1 ih2 =>
  intro G D σ hG hE;refine ⟨by omega,by omega,by omega,fun _ hl hna s hs hw=>?_,by omega⟩;have q1:=(ih1 G D σ hG hE).2.1 rfl hna.sc (w3 hna.wt) s (A2 hs) hw;have q2:=(ih2 G D σ hG hE).2.1 rfl hna.sc (w3 hna.wt) s (A2 hs) hw;have ea:=JD hna.sc ha rfl (by decide) (by decide) (by decide) (by decide);subst ea;rw [sT] at q1 q2 ⊢;obtain ⟨P,hP,hp⟩:=WN q1;obtain ⟨Q,hQ,hq⟩:=WN q2;have b0:Af op 0=0:=by rcases ho with rfl | rfl<;>rfl
  have b1:Af op 1=0:=by rcases ho with rfl | rfl<;>rfl
  exact .inr (.inl ⟨.refl _,.mk op 0 [P,Q],.bin op P Q ho hP hQ,by rw [Mn (by omega) b0,b1,CU];exact ps2 (by omega) hp hq⟩)
 | uni e g a n ha =>
  intro G D σ hG hE;exact ⟨by omega,by omega,by omega,fun _ hl hna s hs hw=>.inr (.inr (.inr ⟨_,.refl _,GV σ (.inl ha)⟩)),by omega⟩
 | unat e g a ha =>
  intro G D σ hG hE;exact ⟨by omega,by omega,by omega,fun _ hl hna s hs hw=>.inr (.inr (.inr ⟨_,.refl _,GV σ (.inl ha)⟩)),by omega⟩
 | uty e g a ha =>
  intro G D σ hG hE;exact ⟨by omega,by omega,by omega,fun _ hl hna s hs hw=>.inr (.inr (.inr ⟨_,.refl _,GV σ (.inl ha)⟩)),by omega⟩
 | ult e g a ha =>
  intro G D σ hG hE;exact ⟨by omega,by omega,by omega,fun _ hl hna s hs hw=>.inr (.inr (.inr ⟨_,.refl _,GV σ (.inl ha)⟩)),by omega⟩
 | upi e g a x y op ho h6 ha hx h1 h2 ih1 ih2 =>
  intro G D σ hG hE;exact ⟨by omega,by omega,by omega,fun _ hl hna s hs hw=>.inr (.inr (.inr ⟨_,.refl _,GV σ (.inl ha)⟩)),by omega⟩
 | lam e g n d c x h1 ih =>
  intro G D σ hG hE;exact ⟨by omega,by omega,by omega,fun _ hl hna s hs hw=>.inr (.inr (.inr ⟨_,.refl _,GV σ (.inr (.inl rfl))⟩)),by omega⟩
 | pair e g n d c x y hx h1 h2 ih1 ih2 =>
  intro G D σ hG hE;exact ⟨by omega,by omega,by omega,fun _ hl hna s hs hw=>.inr (.inr (.inr ⟨_,.refl _,GV σ (.inr (.inr rfl))⟩)),by omega⟩
 | quo e g n d x h1 ih =>
  intro G D σ hG hE;refine ⟨by omega,by omega,by omega,fun _ hl hna s hs hw=>?_,by omega⟩;have hn0:=Nj hna.sc (by decide) (by decide) (by decide) (by decide);subst hn0;have hw':=hna.wt;simp only [Tm.wt,Tm.wtL] at hw';rw [PI (by decide) rfl] at hw ⊢;obtain ⟨P,hP,hp⟩:=Akn hw;obtain ⟨c,q1,q2⟩:=(ih G D σ hG hE).2.2.1 rfl (sc1 hna.sc (by decide) rfl) (w3 (by omega)) (A2 (AkN hs)) P hP hp;rw [PI (by decide) rfl];exact .inr (.inr (.inl ⟨P,c,hP,ps1 (by decide) hp,ps1 (by decide) q1,q2⟩))
 | oif e g a c x y h6 h1 h2 h3 ih1 ih2 ih3 =>
  intro G D σ hG hE;refine ⟨by omega,by omega,by omega,by omega,fun _ hl ha hs P hP hp=>?_⟩;obtain ⟨c1,q1,q2⟩:=(ih1 G D σ hG hE).2.2.1 rfl (isc _) small (ht0 .tint) HX .int (by rw [sI];exact .refl _);obtain ⟨c2,q3,q4⟩:=(ih2 G D σ hG hE).2.2.1 rfl ha.sc (w3 ha.wt) (A2 hs) P hP hp;obtain ⟨c3,q5,q6⟩:=(ih3 G D σ hG hE).2.2.1 rfl ha.sc (w3 ha.wt) (A2 hs) P hP hp;refine ⟨.mk 27 0 [c1,c2,c3],?_,.oif D c1 c2 c3 P (GQ (Pk (by simp [HX,Tm.wt,Tm.wtL];omega)) q2) q4 q6⟩;rw [CI (by decide)];simp only [Tm.subL,show Af 27 0=0 from rfl,show Af 27 (0+1)=0 from rfl,show Af 27 (0+1+1)=0 from rfl,CU]
  exact ps3 (by decide) q1 q3 q5
 | olet e g a r x y h6 h1 h2 ih1 ih2 =>
  intro G D σ hG hE;refine ⟨by omega,by omega,by omega,by omega,fun _ hl ha hs P hP hp=>?_⟩;have aw:=ha.wt;have rw':=plw r;have a1sc:(a.shift 1 0).sc (g.length+1):=by have:=B3 a 1 0 g.length ha.sc (by omega);simpa using this
  obtain ⟨c1,q1,q2⟩:=(ih1 G D σ hG hE).2.2.1 rfl (pls r _) (w3 (by omega)) (Bz G 1 r) (r.plainT 1) (Cz 1 r) (plp r σ);obtain ⟨c2,q3,q4⟩:=(ih2 (6::G) (D++[r.plainT 1]) (CX 1 σ) (Gy hG _) (Rc hE hG.len (by omega) (pls r _) (w3 (by omega)) (Bz G 1 r) (Cz 1 r) (plp r σ))).2.2.1 rfl (by simpa using a1sc) (by rw [BF];exact w3 aw) (up1 hG (by omega) (A2 hs) (by omega) 6) P hP (AdW ha.sc (by omega) hP hp);refine ⟨.mk 28 0 [c1,c2],?_,.olet D c1 c2 (r.plainT 1) P (GQ (Pk (by omega)) q2) q4⟩;rw [Mn (by decide) rfl,show Af 28 1=1 from rfl]
  exact ps2 (by decide) q1 q3
 | oapp e g a r x y h6 h1 h2 ih1 ih2 =>
  intro G D σ hG hE;refine ⟨by omega,by omega,by omega,by omega,fun _ hl ha hs P hP hp=>?_⟩;have aw:=ha.wt;have rw':=plw r;have a1sc:(a.shift 1 0).sc (g.length+1):=by have:=B3 a 1 0 g.length ha.sc (by omega);simpa using this
  obtain ⟨c1,q1,q2⟩:=(ih1 G D σ hG hE).2.2.1 rfl (pls r _) (w3 (by omega)) (Bz G 1 r) (r.plainT 1) (Cz 1 r) (plp r σ);obtain ⟨c2,q3,q4⟩:=(ih2 (6::G) (D++[r.plainT 1]) (CX 1 σ) (Gy hG _) (Rc hE hG.len (by omega) (pls r _) (w3 (by omega)) (Bz G 1 r) (Cz 1 r) (plp r σ))).2.2.1 rfl (by simpa using a1sc) (by rw [BF];exact w3 aw) (up1 hG (by omega) (A2 hs) (by omega) 6) P hP (AdW ha.sc (by omega) hP hp);refine ⟨.mk 21 0 [.mk 20 0 [r.plainT 1,c2],c1],?_,.oapp D _ c1 (r.plainT 1) P (.olam D (r.plainT 1) c2 P (Cz 1 r) (by unfold mw;simp only [Tm.wt,Tm.wtL];omega) q4) (GQ (Pk (by omega)) q2)⟩;rw [Mn (by decide) rfl,Mn (by decide) rfl,show Af 20 1=1 from rfl,show Af 21 1=0 from rfl,CU]
  exact ps2 (by decide) (ps2 (by decide) (plp r σ) q3) q1
 | ofst e g a x y h6 h1 h2 ih1 ih2 =>
  intro G D σ hG hE;refine ⟨by omega,by omega,by omega,by omega,fun _ hl ha hs P hP hp=>?_⟩;obtain ⟨c1,q1,q2⟩:=(ih1 G D σ hG hE).2.2.1 rfl ha.sc (w3 ha.wt) (A2 hs) P hP hp;obtain ⟨c2,q3,q4⟩:=(ih2 G D σ hG hE).2.2.1 rfl (isc _) small (ht0 .tint) HX .int (by rw [sI];exact .refl _);refine ⟨.mk 23 0 [.mk 22 0 [c1,c2]],?_,.ofst D _ P HX (.opair D c1 c2 P HX (by unfold mw;simp only [HX,Tm.wt,Tm.wtL];omega) q2 (GQ (Pk (by simp [HX,Tm.wt,Tm.wtL];omega)) q4))⟩;rw [PI (by decide) rfl,Mn (by decide) rfl,show Af 22 1=0 from rfl,CU]
  exact ps1 (by decide) (ps2 (by decide) q1 q3)
 | ofix e g a x h6 h1 ih =>
  intro G D σ hG hE;refine ⟨by omega,by omega,by omega,by omega,fun _ hl ha hs P hP hp=>?_⟩;have aw:=ha.wt;have a1sc:(a.shift 1 0).sc (g.length+1):=by have:=B3 a 1 0 g.length ha.sc (by omega);simpa using this
  obtain ⟨c2,q3,q4⟩:=(ih (6::G) (D++[P]) (CX 1 σ) (Gy hG _) (Rc hE hG.len (by omega) ha.sc (w3 aw) (A2 hs) hP hp)).2.2.1 rfl (by simpa using a1sc) (by rw [BF];exact w3 aw) (up1 hG (by omega) (A2 hs) (by omega) 6) P hP (AdW ha.sc (by omega) hP hp);refine ⟨.mk 29 0 [P,c2],?_,.ofix D P c2 hP (by unfold mw;omega) q4⟩;rw [Mn (by decide) rfl,show Af 29 1=1 from rfl]
  exact ps2 (by decide) hp q3
 | spl e g a x h6 h1 ih =>
  intro G D σ hG hE;refine ⟨by omega,by omega,by omega,by omega,fun _ hl ha hs P hP hp=>?_⟩;have aw:=ha.wt;have hx:=(ih G D σ hG hE).2.1 rfl (FO rfl (by decide) (BB (by decide) (by decide) (by decide)) ha.sc) (by simp only [Tm.wt,Tm.wtL];unfold Bw;omega) 3 (ht1 .liftT (A2 hs)) (by rw [PI (by decide) rfl];exact .inr (.inr (.inl ⟨P,hP,ps1 (by decide) hp⟩)));rw [PI (by decide) rfl] at hx;obtain ⟨P',c,q1,q2,q3,q4⟩:=AiV hx;have eP:=Amd q1 hP q2 hp;subst eP;refine ⟨c,?_,q4⟩;rw [PI (by decide) rfl];exact BA (ps1 (by decide) q3) (C7 (.splq c c (A8 c)))
 | oint e g a n ha =>
  intro G D σ hG hE;refine ⟨by omega,by omega,by omega,by omega,fun _ hl hna hs P hP hp=>?_⟩;have ea:=JD hna.sc ha rfl (by decide) (by decide) (by decide) (by decide);subst ea;rw [sI] at hp
  have:=Aa3 .int hp
  subst this;rw [Lx (by decide)];exact ⟨_,.refl _,.oint D n (by unfold mw;omega)⟩
 | oprim e g a p q n h6 ha h1 h2 ih1 ih2 =>
  intro G D σ hG hE;refine ⟨by omega,by omega,by omega,by omega,fun _ hl hna hs P hP hp=>?_⟩;obtain ⟨c1,q1,q2⟩:=(ih1 G D σ hG hE).2.2.1 rfl hna.sc (w3 hna.wt) (A2 hs) P hP hp;obtain ⟨c2,q3,q4⟩:=(ih2 G D σ hG hE).2.2.1 rfl hna.sc (w3 hna.wt) (A2 hs) P hP hp;have ea:=JD hna.sc ha rfl (by decide) (by decide) (by decide) (by decide);subst ea;rw [sI] at hp
  have:=Aa3 .int hp
  subst this;refine ⟨.mk 26 n [c1,c2],?_,.oprim D n c1 c2 q2 q4⟩;rw [Mn (by decide) rfl,show Af 26 1=0 from rfl,CU]
  exact ps2 (by decide) q1 q3
 | olam e g n d c b h1 ih =>
  intro G D σ hG hE;refine ⟨by omega,by omega,by omega,by omega,fun _ hl ha hs P hP hp=>?_⟩;have aw:=ha.wt;simp only [Tm.wt,Tm.wtL] at aw;have hn0:=Nj ha.sc (by decide) (by decide) (by decide) (by decide);subst hn0;obtain ⟨dsc,csc⟩:=sc2 ha.sc (by decide) rfl rfl;obtain ⟨hd,hc⟩:=Z8 hs (.inl rfl);rw [Mn (by decide) rfl,show Af 16 1=0 from rfl,CU] at hp
  obtain ⟨P1,P2,rfl,r1,r2⟩:=AeN hp _ _ _ _ rfl (by decide);obtain ⟨p1,p2,_⟩:=Oy hP;have c1sc:(c.shift 1 0).sc (g.length+1):=by have:=B3 c 1 0 g.length csc (by omega);simpa using this
  obtain ⟨c2,q3,q4⟩:=(ih (6::G) (D++[P1]) (CX 1 σ) (Gy hG _) (Rc hE hG.len (by omega) dsc (w3 (by omega)) (A2 hd) p1 r1)).2.2.1 rfl (by simpa using c1sc) (by rw [BF];exact w3 (by omega)) (up1 hG (by omega) (A2 hc) (by omega) 6) P2 p2 (AdW csc (by omega) p2 r2);refine ⟨.mk 20 0 [P1,c2],?_,.olam D P1 c2 P2 p1 (by unfold mw;omega) (GQ (Pk (by simp only [Tm.wt,Tm.wtL];omega)) q4)⟩;rw [Mn (by decide) rfl,show Af 20 1=1 from rfl]
  exact ps2 (by decide) r1 q3
 | opair e g n d c p q h1 h2 ih1 ih2 =>
  intro G D σ hG hE;refine ⟨by omega,by omega,by omega,by omega,fun _ hl ha hs P hP hp=>?_⟩;have aw:=ha.wt;simp only [Tm.wt,Tm.wtL] at aw;have hn0:=Nj ha.sc (by decide) (by decide) (by decide) (by decide);subst hn0;obtain ⟨dsc,csc⟩:=sc2 ha.sc (by decide) rfl rfl;obtain ⟨hd,hc⟩:=Z8 hs (.inr rfl);rw [Mn (by decide) rfl,show Af 17 1=0 from rfl,CU] at hp
  obtain ⟨P1,P2,rfl,r1,r2⟩:=AeN hp _ _ _ _ rfl (by decide);obtain ⟨p1,p2,_⟩:=Oy hP;obtain ⟨c1,q1,q2⟩:=(ih1 G D σ hG hE).2.2.1 rfl dsc (w3 (by omega)) (A2 hd) P1 p1 r1;obtain ⟨c2,q3,q4⟩:=(ih2 G D σ hG hE).2.2.1 rfl csc (w3 (by omega)) (A2 hc) P2 p2 r2;refine ⟨.mk 22 0 [c1,c2],?_,.opair D c1 c2 P1 P2 (by unfold mw;omega) (GQ (Pk (by simp only [Tm.wt,Tm.wtL];omega)) q2) (GQ (Pk (by simp only [Tm.wt,Tm.wtL];omega)) q4)⟩;rw [Mn (by decide) rfl,show Af 22 1=0 from rfl,CU]
  exact ps2 (by decide) q1 q3
mutual
def Tm.okn:Tm->Bool
 | .mk op m l=>decide (C4 op=(l.length:Int)) && (J9 op m && Tm.oknL l)
def Tm.oknL:List Tm->Bool
 | []=>true
 | t::l=>t.okn && Tm.oknL l
end
mutual
theorem AbO:∀(t:Tm) (n d:Int),t.okn=true->n+t.wt<=3000->d+t.wt<=121->t.chk n d=(n+t.wt,0)
 | .mk op m l,n,d,h,h1,h2=>by
  simp only [Tm.okn,Bool.and_eq_true,decide_eq_true_eq] at h;simp only [Tm.wt] at h1 h2 ⊢;rw [Tm.chk,if_neg (by omega),if_neg (by simp [h.1,h.2.1]),chkL_okn l (n+1) (d+1) h.2.2 (by omega) (by omega)];simp only [AB0,and_true];omega
theorem chkL_okn:∀(l:List Tm) (n d:Int),Tm.oknL l=true->n+Tm.wtL l<=3000->d+Tm.wtL l<=121->Tm.chkL l n d=(n+Tm.wtL l,0)
 | [],n,d,_,_,_=>by simp [Tm.chkL,Tm.wtL]
 | t::l,n,d,h,h1,h2=>by
  simp only [Tm.oknL,Bool.and_eq_true] at h;simp only [Tm.wtL] at h1 h2 ⊢;rw [Tm.chkL,AbO t n d h.1 (by omega) (by omega),if_pos rfl,chkL_okn l _ d h.2 (by simp only;omega) (by omega)];simp only [AB0,and_true];omega
end
theorem Ass {m:Nat} {g:List Tm} {c P:Tm} (h:OT m g c P):c.stl:=by
 induction h with
 | var=>exact JV (by decide) trivial
 | oint=>exact JV (by decide) trivial
 | oprim g n a b ha hb iha ihb=>exact JV (by decide) ⟨iha,ihb,trivial⟩
 | olam g a b c ha hw hb ih=>exact JV (by decide) ⟨GX ha,ih,trivial⟩
 | oapp g f x a c hf hx ihf ihx=>exact JV (by decide) ⟨ihf,ihx,trivial⟩
 | opair g x y a b hw hx hy ihx ihy=>exact JV (by decide) ⟨ihx,ihy,trivial⟩
 | ofst g x a b hx ih=>exact JV (by decide) ⟨ih,trivial⟩
 | oif g c x y a hc hx hy i1 i2 i3=>exact JV (by decide) ⟨i1,i2,i3,trivial⟩
 | olet g x y a b hx hy i1 i2=>exact JV (by decide) ⟨i1,i2,trivial⟩
 | ofix g a x ha hw hx ih=>exact JV (by decide) ⟨GX ha,ih,trivial⟩
theorem UH {p:Tm} (h:PT p):p.typed=true:=by
 induction h with
 | int=>simp [Tm.typed]
 | bin op a b ho ha hb iha ihb=>simp only [Tm.typed,iha,ihb,Bool.and_self,Bool.and_true,Bool.or_eq_true,decide_eq_true_eq];exact ho
theorem ArO {p:Tm} (h:PT p):p.okn=true:=by
 induction h with
 | int=>decide
 | bin op a b ho ha hb iha ihb=>rcases ho with rfl | rfl<;>(simp only [Tm.okn,Tm.oknL,iha,ihb,Bool.and_true,Bool.and_self];rfl)
theorem AjW {p:Tm} (h:PT p) (hw:p.wt<=100):(p.chk 0 1).2=0:=by
 rw [AbO p 0 1 (ArO h) (by omega) (by omega)]
theorem I8 {r:Int×Tm} {a:Tm} (h:r=(0,a)):Gh r a=0:=by
 rw [h,Gh,if_pos rfl,if_pos ((Jx a a).2 rfl)]
theorem AtD {m:Nat} {g:List Tm} {c P:Tm} (h:OT m g c P) (hm:m<=100):c.inf g=(0,P):=by
 induction h with
 | var g i P hP hw hi h =>
  rw [Tm.inf,if_pos rfl,if_neg (by omega)];rw [List.getD_eq_getElem?_getD,Int.toNat_natCast,h];rfl
 | oint g n hm=>rw [Tm.inf,if_neg (by decide),if_pos rfl];rfl
 | oprim g n a b ha hb iha ihb=>rw [Tm.inf,if_pos rfl,if_pos (I8 (a:=tI) iha),I8 (a:=tI) ihb];rfl
 | olam g a b c ha hw hb ih =>
  rw [Tm.inf,if_neg (by decide),if_pos rfl,if_pos (UH ha),ih,JL,if_pos rfl];rw [AjW (Uh (OT.olam g a b c ha hw hb)).1 (by omega)]
 | oapp g f x a c hf hx ihf ihx =>
  rw [Tm.inf,if_neg (by decide),if_neg (by decide),if_neg (by decide),if_neg (by decide),if_neg (by decide),if_pos rfl,ihf];simp only [if_true,Tm.op]
  have:(Tm.mk 16 0 [a,c]).kid 0=a:=rfl
  rw [this,I8 ihx];rfl
 | opair g x y a b hw hx hy ihx ihy =>
  rw [Tm.inf,if_neg (by decide),if_neg (by decide),if_neg (by decide),if_neg (by decide),if_pos rfl,ihx,ihy];simp only [if_true];rw [JL,if_pos rfl,AjW (Uh (OT.opair g x y a b hw hx hy)).1 (by omega)]
 | ofst g x a b hx ih =>
  rw [Tm.inf,if_pos rfl,ih];simp only [if_true,Tm.op];rfl
 | oif g c x y a hc hx hy i1 i2 i3 =>
  rw [Tm.inf,if_pos rfl,if_pos (I8 (a:=tI) i1),i2];simp only [if_true];rw [I8 i3]
 | olet g x y a b hx hy i1 i2 =>
  rw [Tm.inf,if_neg (by decide),if_neg (by decide),if_neg (by decide),if_pos rfl,i1];simp only [if_true];exact i2
 | ofix g a x ha hw hx ih =>
  rw [Tm.inf,if_neg (by decide),if_neg (by decide),if_pos rfl,if_pos (UH ha),I8 ih]
theorem Apn {q t c:Tm} {f:Nat} (h:Gr 2 10 [] (q.plainT 2) t) (tsc:t.sc 0) (hn:AX f t=some (c,0)):OT 14 [] c (q.plainT 2):=by
 have aw:(q.plainT 2).wt<=7:=by have:=EC 2 q;omega
 have hP:=Cz 2 q;have hT:=(AlZ h [] N8).2.2.1 rfl (Bz [] 2 q);obtain ⟨c',q1,q2⟩:=(fl h [] [] vT N8 Alf).2.2.1 rfl (FH 0 2 q) (by unfold Bw;omega) (Bz [] 2 q) (q.plainT 2) hP (by rw [Mj];exact .refl _);rw [Mj] at q1;have e:=AlS (HE hn tsc) q1 (.refl t) (.refl t) (ApL (CQ hn hT)) (Ass q2);subst e;exact GQ (by unfold mw;omega) q2
structure OkT (P:Tm):Prop where
 pt:PT P
 w:P.wt<=3000
 d:P.dp<=120
inductive OK7:List Tm->Tm->Tm->Prop
 | var (g:List Tm) (i:Nat) (P:Tm) (hP:OkT P) (hi:i<g.length) (h:g[g.length - 1 - i]?=some P):OK7 g (.mk 1 (i:Int) []) P
 | oint (g:List Tm) (n:Int):OK7 g (.mk 25 n []) HX
 | oprim (g:List Tm) (n:Int) (a b:Tm) (ha:OK7 g a HX) (hb:OK7 g b HX):OK7 g (.mk 26 n [a,b]) HX
 | olam (g:List Tm) (n:Int) (a b c:Tm) (hP:OkT (.mk 16 0 [a,c])) (hb:OK7 (g++[a]) b c):OK7 g (.mk 20 n [a,b]) (.mk 16 0 [a,c])
 | oapp (g:List Tm) (n:Int) (f x a c:Tm) (hf:OK7 g f (.mk 16 0 [a,c])) (hx:OK7 g x a):OK7 g (.mk 21 n [f,x]) c
 | opair (g:List Tm) (n:Int) (x y a b:Tm) (hP:OkT (.mk 17 0 [a,b])) (hx:OK7 g x a) (hy:OK7 g y b):OK7 g (.mk 22 n [x,y]) (.mk 17 0 [a,b])
 | ofst (g:List Tm) (n:Int) (x a b:Tm) (hx:OK7 g x (.mk 17 0 [a,b])):OK7 g (.mk 23 n [x]) a
 | osnd (g:List Tm) (n:Int) (x a b:Tm) (hx:OK7 g x (.mk 17 0 [a,b])):OK7 g (.mk 24 n [x]) b
 | oif (g:List Tm) (n:Int) (c x y a:Tm) (hc:OK7 g c HX) (hx:OK7 g x a) (hy:OK7 g y a):OK7 g (.mk 27 n [c,x,y]) a
 | olet (g:List Tm) (n:Int) (x y a b:Tm) (hx:OK7 g x a) (hy:OK7 (g++[a]) y b):OK7 g (.mk 28 n [x,y]) b
 | ofix (g:List Tm) (n:Int) (a x:Tm) (hP:OkT a) (hx:OK7 (g++[a]) x a):OK7 g (.mk 29 n [a,x]) a
theorem Lb:OkT HX:=⟨.int,by simp [HX,Tm.wt,Tm.wtL],by simp [HX,Tm.dp,Tm.dpL]⟩
theorem Lw {op n:Int} {a b:Tm} (h:OkT (.mk op n [a,b])):OkT a/\OkT b:=by
 obtain ⟨p,w,d⟩:=h;obtain ⟨q1,q2,_⟩:=Oy p;simp only [Tm.wt,Tm.wtL] at w;simp only [Tm.dp,Tm.dpL] at d;exact ⟨⟨q1,by omega,by omega⟩,⟨q2,by omega,by omega⟩⟩
theorem Ai6 {g:List Tm} {c P:Tm} (h:OK7 g c P):OkT P:=by
 induction h with
 | var g i P hP hi h=>exact hP
 | oint=>exact Lb
 | oprim g n a b ha hb iha ihb=>exact Lb
 | olam g n a b c hP hb ih=>exact hP
 | oapp g n f x a c hf hx ihf ihx=>exact (Lw ihf).2
 | opair g n x y a b hP hx hy ihx ihy=>exact hP
 | ofst g n x a b hx ih=>exact (Lw ih).1
 | osnd g n x a b hx ih=>exact (Lw ih).2
 | oif g n c x y a hc hx hy i1 i2 i3=>exact i2
 | olet g n x y a b hx hy i1 i2=>exact i2
 | ofix g n a x hP hx ih=>exact hP
theorem Sm {P:Tm} {m:Nat} (hP:PT P) (hw:P.wt<=m) (hm:m<=100):OkT P:=⟨hP,by omega,by have:=P3 P;omega⟩
theorem AtR {m:Nat} {g:List Tm} {c P:Tm} (h:OT m g c P) (hm:m<=100):OK7 g c P:=by
 induction h with
 | var g i P hP hw hi h=>exact .var g i P (Sm hP hw hm) hi h
 | oint g n h=>exact .oint g n
 | oprim g n a b ha hb iha ihb=>exact .oprim g n a b iha ihb
 | olam g a b c ha hw hb ih=>exact .olam g 0 a b c (Sm (Uh (OT.olam g a b c ha hw hb)).1 hw hm) ih
 | oapp g f x a c hf hx ihf ihx=>exact .oapp g 0 f x a c ihf ihx
 | opair g x y a b hw hx hy ihx ihy=>exact .opair g 0 x y a b (Sm (Uh (OT.opair g x y a b hw hx hy)).1 hw hm) ihx ihy
 | ofst g x a b hx ih=>exact .ofst g 0 x a b ih
 | oif g c x y a hc hx hy i1 i2 i3=>exact .oif g 0 c x y a i1 i2 i3
 | olet g x y a b hx hy i1 i2=>exact .olet g 0 x y a b i1 i2
 | ofix g a x ha hw hx ih=>exact .ofix g 0 a x (Sm ha hw hm) ih
theorem AlO {n:Nat} (g:Ci) (st:Int) (a:Tm) (hg:g.length<=100000) (hn:0<n):AZ (SS dt n 79 [.fv (A6 g),iv st,.fv a.enc] ⟨[],[]⟩) (A6 (g++[(st,a)])):=by
 obtain ⟨n,rfl⟩:∃k,n=k+1:=⟨n - 1,by omega⟩;rw [c79];rw [A6,A6,List.map_append,AB5,AB4];cases g with
 | nil =>
  have h0:=fun {β:Type}=>YF (β:=β) (E:=EE) sV1 (.sl []) (s0:=.clip []) (.inr rfl);have happ:=fun {β:Type}=>HS (β:=β) sV1 (.clip [v1 (st,a)]) (Gx [(st,a)]) rfl (by simp) (s0:=.clip []) (.inr rfl);obtain ⟨o,p,k⟩:=a;simp only [v1,Tm.op,Tm.n,Tm.kids] at happ ⊢;rw [Am];simp only [Xx,WH,S79,↓XX,XY,↓reduceIte,Nat.reduceBEq,Nat.reduceAdd,Int.reduceEq,Int.reduceLT,Int.reduceLE,↓SP,↓h0,↓QS,↓happ];exact Bb rfl _
 | cons t g =>
  have h0:=fun {β:Type}=>HS (β:=β) sV1 (.sl ((t::g).map v1)) (Gx (t::g)) rfl (by simp at hg ⊢;omega) (s0:=.clip []) (.inr rfl);have happ:=fun {β:Type}=>Qu (β:=β) sV1 (es:=(t::g).map v1) (es2:=[v1 (st,a)]) (.clip _) (Gx [(st,a)]) (Gx (t::g)) (AkM [(st,a)]) (by simp at hg ⊢;omega);obtain ⟨o,p,k⟩:=a;simp only [AB5,List.length_map,AB3,List.length_nil,List.cons_append] at h0 happ ⊢;simp only [v1,Tm.op,Tm.n,Tm.kids] at h0 happ ⊢;rw [Am];simp only [Xx,WH,S79,↓XX,XY,↓reduceIte,Nat.reduceBEq,Nat.reduceAdd,Int.reduceEq,Int.reduceLT,Int.reduceLE,↓SP,↓h0,↓QS,↓happ,Hl];exact Bb rfl _
theorem Oj {p:Tm} (h:PT p):∀k,p.sc k:=by
 induction h with
 | int=>intro k;exact Ce (by decide) (by decide) (BB (by decide) (by decide) (by decide))
 | bin op a b ho ha hb iha ihb=>intro k;rcases ho with rfl | rfl<;>exact Cr rfl (by decide) (BB (by decide) (by decide) (by decide)) (iha _) (ihb _)
theorem Auw {p:Tm} (h:PT p):p.eta=p:=by
 induction h with
 | int=>exact Hm (by decide) (by simp)
 | bin op a b ho ha hb iha ihb =>
  refine Hm (by omega) fun t ht=>?_;simp only [List.mem_cons,List.not_mem_nil,or_false] at ht;rcases ht with rfl | rfl
  ·exact iha
  ·exact ihb
theorem Anz {p:Tm} (h:PT p):∀c,p.free c=false:=by
 induction h with
 | int=>intro c;rw [Tm.free,Tm.freeL];rfl
 | bin op a b ho ha hb iha ihb =>
  intro c;have h1:op≠1:=by omega
  rw [Tm.free];simp [Tm.freeL,iha,ihb,h1]
theorem Ux {p:Tm} (h:PT p) (hw:p.wt<=1000000) (d:Nat) (hd:d<=1000000):p.shift d 0=p:=by
 rw [FU (Oj h 0) d (by omega),In h]
theorem Aiy {p:Tm} (h:PT p) (hw:p.wt<=1000000) {u:Tm} (hu:u.sc 0) (huw:u.wt<=1000000):p.subst 0 0 u=p:=by
 have e:=Qa p 0 0 u (Oj h _) hu (by omega);rw [show ((0:Nat):Int)=0 from rfl] at e
 rw [e,Wl h]
theorem AjE {X:Tm} (hst:X.stl) (hsc:X.sc 0) (hw:X.wt<=3000) (hd:X.dp<=120):Ev 34 [.fv X.enc] (.tuple [X.enc,.int .i64 0]):=by
 obtain ⟨f,hf⟩:=Uk hst hsc (by omega) hw hd;exact ⟨f+2,fun n hn=>Qt f X X 0 hf n hn⟩
theorem Aq0 {X:Tm} (hst:X.stl) (hsc:X.sc 0) (hw:X.wt<=3000) (hd:X.dp<=120) (he:X.eta=X):Ev 82 [.fv X.enc,.fv X.enc] (.tuple [.bool true,.int .i64 0]):=by
 obtain ⟨N,h⟩:=AjE hst hsc hw hd;refine ⟨N+100000,fun n hn=>?_⟩;obtain ⟨n,rfl⟩:∃k,n=k+1:=⟨n - 1,by omega⟩;have h1:=h n (by omega);have e1:=S4 n X 0 hsc (by omega) (by omega);have s1:=HL n X X (by omega) (by omega);rw [(Jx X X).2 rfl] at s1;rw [he] at e1;rw [c82];obtain ⟨o1,p1,k1⟩:=X;simp only [Am] at h1 e1 s1 ⊢;simp only [AjR,AiP,Aj3,Amx,AkH,S82,↓XX,XY,↓reduceIte,Nat.reduceBEq,Nat.reduceAdd,Int.reduceEq,Int.reduceLT,Int.reduceLE,↓Aw h1,↓Aw e1,↓Ag s1]
 first | exact An _ _ | exact Ax rfl (by simp) _
theorem MW {P:Tm} (h:OkT P):Ev 34 [.fv P.enc] (.tuple [P.enc,.int .i64 0]):=AjE (GX h.pt) (Oj h.pt 0) h.w h.d
theorem L3 {P:Tm} (h:OkT P):Ev 82 [.fv P.enc,.fv P.enc] (.tuple [.bool true,.int .i64 0]):=Aq0 (GX h.pt) (Oj h.pt 0) h.w h.d (Auw h.pt)
theorem AkS:Ev 82 [.fv tyT.enc,.fv tyT.enc] (.tuple [.bool true,.int .i64 0]):=Aq0 Jj (Ce (by decide) (by decide) (BB (by decide) (by decide) (by decide))) (by simp [tyT,Tm.wt,Tm.wtL]) (by simp [tyT,Tm.dp,Tm.dpL]) (Hm (by decide) (by simp))
theorem Aua {n:Nat} {G:FV} {st:Int} {t b:Tm} (h:AZ (SS dt n 20 [.fv G,iv st,.fv t.enc] ⟨[],[]⟩) (.tuple [b.enc,.int .i64 0])) (he:AZ (SS dt n 82 [.fv b.enc,.fv b.enc] ⟨[],[]⟩) (.tuple [.bool true,.int .i64 0])) :
  AZ (SS dt (n+1) 48 [.fv G,iv st,.fv t.enc,.fv b.enc] ⟨[],[]⟩) (.int .i64 0):=by
 rw [c48];obtain ⟨o,p,k⟩:=t;obtain ⟨o2,p2,k2⟩:=b;simp only [Am] at h he ⊢;simp only [AjI,AlG,Alx,S48,↓XX,XY,↓reduceIte,Nat.reduceBEq,Nat.reduceAdd,Int.reduceEq,Int.reduceLT,Int.reduceLE,↓AJ h,↓Ag he];exact An _ _
theorem Aza {n:Nat} {G:FV} {st op:Int} {t a:Tm} (h:AZ (SS dt n 20 [.fv G,iv st,.fv t.enc] ⟨[],[]⟩) (.tuple [a.enc,.int .i64 0])) (ho:a.op=op) :
  AZ (SS dt (n+1) 80 [.fv G,iv st,.fv t.enc,iv op] ⟨[],[]⟩) (.tuple [a.enc,.int .i64 0]):=by
 rw [c80];subst ho;obtain ⟨o,p,k⟩:=t;obtain ⟨o2,p2,k2⟩:=a;simp only [Am,Tm.op] at h ⊢;simp only [AiG,Ai2,Amw,Amh,AiK,S80,↓XX,XY,↓reduceIte,Nat.reduceBEq,Nat.reduceAdd,Int.reduceEq,Int.reduceLT,Int.reduceLE,↓AJ h];first | exact An _ _ | exact Ax rfl (by simp) _
theorem AkZ {n:Nat} {G:FV} {st:Int} {a:Tm} (ks:List Tm) (hl:ks.length<=1000) (hn:ks.length<n) (h:∀t∈ks,AZ (SS dt n 48 [.fv G,iv st,.fv t.enc,.fv a.enc] ⟨[],[]⟩) (.int .i64 0)) :
  AZ (SS dt (n+1) 49 [.fv G,iv st,.fv (.sl (ks.map Tm.enc)),.fv a.enc] ⟨[],[]⟩) (.int .i64 0):=by
 rw [c49];obtain ⟨oa,na,ka⟩:=a;simp only [Am] at h ⊢;simp only [RL,Tq,QN,S49,↓XX,XY,↓reduceIte,Nat.reduceBEq,Nat.reduceAdd,Int.reduceEq,Int.reduceLT,Int.reduceLE];refine Bc (Q:=fun r=>AZ r _) (fun k V H=>∃pre rest,ks=pre++rest/\rest.length=k/\V=[.fv G,iv st,.fv (.sl (ks.map Tm.enc)),.ptr (.own 51380224) 0,iv pre.length] /\
  H=⟨[(51380224,.row [iv oa,iv na,.fv (.sl (ka.map Tm.enc))] false)],[]⟩) ?_ n ks.length _ _ (by omega) ⟨[],ks,rfl,rfl,rfl,rfl⟩
 rintro k V H rec ⟨pre,rest,hk,hkl,rfl,rfl⟩ hrec;have hkk:ks.length=pre.length+rest.length:=by rw [hk];simp
 cases rest with
 | nil =>
  have hno:¬ ((pre.length:Int)<ks.length):=by rw [hkk];simp
  simp only [RL,Tq,QN,Xo,S49,↓XX,XY,↓reduceIte,Nat.reduceBEq,Nat.reduceAdd,Int.reduceEq,Int.reduceLT,Int.reduceLE,hno];exact An _ _
 | cons t rest =>
  have hi:(pre.length:Int)<ks.length:=by rw [hkk];simp;omega
  have hg:=CC hk;have hc:=h t (by rw [hk];simp);have hwi:BK ((pre.length:Int)+1)=((pre++[t]).length:Int):=(Av (by omega) (by omega)).trans (by simp);simp only [AB3] at hkl;have h9:=hrec rest.length [.fv G,iv st,.fv (.sl (ks.map Tm.enc)),.ptr (.own 51380224) 0,iv (pre++[t]).length] _ (by omega) ⟨pre++[t],rest,by rw [hk];simp,rfl,rfl,rfl⟩;obtain ⟨o,p,l⟩:=t;rw [Am] at hc;simp only [RL,Tq,QN,Xo,S49,↓XX,XY,↓reduceIte,Nat.reduceBEq,Nat.reduceAdd,Int.reduceEq,Int.reduceLT,Int.reduceLE,hi,↓Bt (AM hg) (Bg _ _ _),↓Cd,↓AC hc,hwi];exact h9
theorem AkD {P:Tm} (h:PT P) (G:FV):Ev 20 [.fv G,iv 1,.fv P.enc] (.tuple [tyT.enc,.int .i64 0]):=by
 obtain ⟨Ne,he⟩:=AkS
 induction h with
 | int =>
  refine ⟨Ne+100,fun n hn=>?_⟩;obtain ⟨n,rfl⟩:∃k,n=k+2:=⟨n - 2,by omega⟩;have hc:=AkZ (n:=n) (G:=G) (st:=1) (a:=tyT) [] (by simp) (by simp;omega) (fun t ht=>by simp at ht);have t14:=BE (n:=n+1) (by omega) 14;rw [c20];simp only [tyT,Am,AB4] at hc t14 ⊢;simp only [↓Amc,↓XX,XY,↓reduceIte,Nat.reduceBEq,Nat.reduceAdd,Int.reduceEq,Int.reduceLT,Int.reduceLE,↓Ag t14,↓AC hc];first | exact An _ _ | exact Ax rfl (by simp) _
 | bin op a b ho ha hb iha ihb =>
  obtain ⟨N1,h1⟩:=iha;obtain ⟨N2,h2⟩:=ihb;refine ⟨Ne+N1+N2+100,fun n hn=>?_⟩;obtain ⟨n,rfl⟩:∃k,n=k+3:=⟨n - 3,by omega⟩;have hc:=AkZ (n:=n+1) (G:=G) (st:=1) (a:=tyT) [a,b] (by simp) (by simp;omega) (fun t ht=>by
   simp only [List.mem_cons,List.not_mem_nil,or_false] at ht;rcases ht with rfl | rfl
   ·exact Aua (h1 n (by omega)) (he n (by omega))
   ·exact Aua (h2 n (by omega)) (he n (by omega)))
  have t14:=BE (n:=n+2) (by omega) 14;rw [c20];obtain ⟨o1,p1,k1⟩:=a;obtain ⟨o2,p2,k2⟩:=b;simp only [tyT,Am,AB4,AB5] at hc t14 ⊢;rcases ho with rfl | rfl
  ·simp only [↓Amc,↓XX,XY,↓reduceIte,Nat.reduceBEq,Nat.reduceAdd,Int.reduceEq,Int.reduceLT,Int.reduceLE,↓Ag t14,↓AC hc];first | exact An _ _ | exact Ax rfl (by simp) _
  ·simp only [↓Amc,↓XX,XY,↓reduceIte,Nat.reduceBEq,Nat.reduceAdd,Int.reduceEq,Int.reduceLT,Int.reduceLE,↓Ag t14,↓AC hc];first | exact An _ _ | exact Ax rfl (by simp) _
theorem Avt {n:Nat} {c:Tm} (h:PT c) (hw:c.wt<=3000) (hn:100000<=n):AZ (SS dt (n+1) 105 [.fv c.enc] ⟨[],[]⟩) (.tuple [c.enc,.int .i64 0]):=by
 have hf:=Aby n c 0 (by omega) (by omega) (by omega) (by omega);rw [Anz h] at hf;have z:=BE (n:=n) (by omega) 11;have hz:(Tm.mk 11 0 []).sc 0:=Ce (by decide) (by decide) (BB (by decide) (by decide) (by decide));have hs:=OS (n:=n) c (.mk 11 0 []) 0 (Fd _ 0 hz) (by simp [Tm.wt,Tm.wtL]) (by simp [Tm.wt,Tm.wtL];omega) (Fd c 0 (Oj h 0)) (by omega) (by omega) (by omega);rw [Aiy h (by omega) hz (by simp [Tm.wt,Tm.wtL])] at hs;rw [Aym];obtain ⟨o1,p1,k1⟩:=c;simp only [Am,AB4] at hf z hs ⊢;simp only [Afh,Zz,Ahb,AmZ,↓XX,XY,↓reduceIte,Nat.reduceBEq,Nat.reduceAdd,Int.reduceEq,Int.reduceLT,Int.reduceLE,↓Ag hf,↓Ag z,↓AJ hs];first | exact An _ _ | exact Ax rfl (by simp) _
theorem As7 {n:Nat} {G G':FV} {a b c:Tm} (hb:AZ (SS dt n 79 [.fv G,iv 0,.fv a.enc] ⟨[],[]⟩) G') (hi:AZ (SS dt n 20 [.fv G',iv 0,.fv b.enc] ⟨[],[]⟩) (.tuple [c.enc,.int .i64 0])) (hd:AZ (SS dt n 105 [.fv c.enc] ⟨[],[]⟩) (.tuple [c.enc,.int .i64 0])) :
  AZ (SS dt (n+1) 78 [.fv G,.fv a.enc,.fv b.enc] ⟨[],[]⟩) (.tuple [c.enc,.int .i64 0]):=by
 rw [c78];obtain ⟨o1,p1,k1⟩:=a;obtain ⟨o2,p2,k2⟩:=b;obtain ⟨o3,p3,k3⟩:=c;simp only [Am] at hb hi hd ⊢;simp only [Alz,AlK,AkJ,Aiz,Ako,S78,↓XX,XY,↓reduceIte,Nat.reduceBEq,Nat.reduceAdd,Int.reduceEq,Int.reduceLT,Int.reduceLE,↓AJ hb,↓AJ hi,↓Aw hd];first | exact An _ _ | exact Ax rfl (by simp) _
theorem At8 {n:Nat} (hn:100<n) {G:FV} {m:Int} {f x a c:Tm} (hs:AZ (SS dt n 80 [.fv G,iv 0,.fv f.enc,iv 16] ⟨[],[]⟩) (.tuple [(Tm.mk 16 0 [a,c]).enc,.int .i64 0])) (hc:AZ (SS dt n 48 [.fv G,iv 0,.fv x.enc,.fv a.enc] ⟨[],[]⟩) (.int .i64 0)) :
  AZ (SS dt (n+1) 81 [.fv G,.fv (Tm.mk 21 m [f,x]).enc] ⟨[],[]⟩) (.tuple [(c).enc,.int .i64 0]):=by
 rw [c81];obtain ⟨of,nf,kf⟩:=f;obtain ⟨ox,nx,kx⟩:=x;obtain ⟨oa,na,ka⟩:=a;obtain ⟨oc,nc,kc⟩:=c;simp only [Am,AB5,AB4,HX,tyT] at hs hc  ⊢;simp (maxSteps:=1000000) only [↓Amm,↓XX,XY,↓reduceIte,Nat.reduceBEq,Nat.reduceAdd,Int.reduceEq,Int.reduceLT,Int.reduceLE,↓AC hs,↓AC hc];first | exact An _ _ | exact Ax rfl (by simp) _
theorem Am8 {n:Nat} (hn:100<n) {G:FV} {m:Int} {x y a b:Tm} (h1:AZ (SS dt n 20 [.fv G,iv 0,.fv x.enc] ⟨[],[]⟩) (.tuple [a.enc,.int .i64 0])) (h2:AZ (SS dt n 20 [.fv G,iv 0,.fv y.enc] ⟨[],[]⟩) (.tuple [b.enc,.int .i64 0])) (hN:AZ (SS dt n 34 [.fv (Tm.mk 17 0 [a,b]).enc] ⟨[],[]⟩) (.tuple [(Tm.mk 17 0 [a,b]).enc,.int .i64 0])) :
  AZ (SS dt (n+1) 81 [.fv G,.fv (Tm.mk 22 m [x,y]).enc] ⟨[],[]⟩) (.tuple [(Tm.mk 17 0 [a,b]).enc,.int .i64 0]):=by
 have t17:=CO (n:=n) (by omega) 17 [a,b];rw [c81];obtain ⟨ox,nx,kx⟩:=x;obtain ⟨oy,ny,ky⟩:=y;obtain ⟨oa,na,ka⟩:=a;obtain ⟨ob,nb,kb⟩:=b;simp only [Am,AB5,AB4,HX,tyT] at h1 h2 hN t17 ⊢;simp (maxSteps:=1000000) only [↓Amm,↓XX,XY,↓reduceIte,Nat.reduceBEq,Nat.reduceAdd,Int.reduceEq,Int.reduceLT,Int.reduceLE,↓AJ h1,↓AJ h2,↓CT,↓Ag t17,↓Aw hN];first | exact An _ _ | exact Ax rfl (by simp) _
theorem AtZ {n:Nat} (hn:100<n) {G:FV} {m:Int} {x a b:Tm} (hs:AZ (SS dt n 80 [.fv G,iv 0,.fv x.enc,iv 17] ⟨[],[]⟩) (.tuple [(Tm.mk 17 0 [a,b]).enc,.int .i64 0])) :
  AZ (SS dt (n+1) 81 [.fv G,.fv (Tm.mk 23 m [x]).enc] ⟨[],[]⟩) (.tuple [(a).enc,.int .i64 0]):=by
 rw [c81];obtain ⟨ox,nx,kx⟩:=x;obtain ⟨oa,na,ka⟩:=a;obtain ⟨ob,nb,kb⟩:=b;simp only [Am,AB5,AB4,HX,tyT] at hs  ⊢;simp (maxSteps:=1000000) only [↓Amm,↓XX,XY,↓reduceIte,Nat.reduceBEq,Nat.reduceAdd,Int.reduceEq,Int.reduceLT,Int.reduceLE,↓AC hs];first | exact An _ _ | exact Ax rfl (by simp) _
theorem At5 {n:Nat} (hn:100<n) {G:FV} {m:Int} {x a b:Tm} (hs:AZ (SS dt n 80 [.fv G,iv 0,.fv x.enc,iv 17] ⟨[],[]⟩) (.tuple [(Tm.mk 17 0 [a,b]).enc,.int .i64 0])) :
  AZ (SS dt (n+1) 81 [.fv G,.fv (Tm.mk 24 m [x]).enc] ⟨[],[]⟩) (.tuple [(b).enc,.int .i64 0]):=by
 rw [c81];obtain ⟨ox,nx,kx⟩:=x;obtain ⟨oa,na,ka⟩:=a;obtain ⟨ob,nb,kb⟩:=b;simp only [Am,AB5,AB4,HX,tyT] at hs  ⊢;simp (maxSteps:=1000000) only [↓Amm,↓XX,XY,↓reduceIte,Nat.reduceBEq,Nat.reduceAdd,Int.reduceEq,Int.reduceLT,Int.reduceLE,↓AC hs];first | exact An _ _ | exact Ax rfl (by simp) _
theorem Axc {n:Nat} (hn:100<n) {G:FV} {m:Int} {c x y a:Tm} (hc:AZ (SS dt n 48 [.fv G,iv 0,.fv c.enc,.fv HX.enc] ⟨[],[]⟩) (.int .i64 0)) (h1:AZ (SS dt n 20 [.fv G,iv 0,.fv x.enc] ⟨[],[]⟩) (.tuple [a.enc,.int .i64 0])) (h2:AZ (SS dt n 48 [.fv G,iv 0,.fv y.enc,.fv a.enc] ⟨[],[]⟩) (.int .i64 0)) :
  AZ (SS dt (n+1) 81 [.fv G,.fv (Tm.mk 27 m [c,x,y]).enc] ⟨[],[]⟩) (.tuple [(a).enc,.int .i64 0]):=by
 have t15:=BE (n:=n) (by omega) 15;rw [c81];obtain ⟨oc,nc,kc⟩:=c;obtain ⟨ox,nx,kx⟩:=x;obtain ⟨oy,ny,ky⟩:=y;obtain ⟨oa,na,ka⟩:=a;simp only [Am,AB5,AB4,HX,tyT] at hc h1 h2 t15 ⊢;simp (maxSteps:=1000000) only [↓Amm,↓XX,XY,↓reduceIte,Nat.reduceBEq,Nat.reduceAdd,Int.reduceEq,Int.reduceLT,Int.reduceLE,↓Ag t15,↓AC hc,↓AJ h1,↓AC h2];first | exact An _ _ | exact Ax rfl (by simp) _
theorem AoW {n:Nat} (hn:100<n) {G:FV} {m:Int} {a b:Tm} (hc:AZ (SS dt n 49 [.fv G,iv 0,.fv (.sl [a.enc,b.enc]),.fv HX.enc] ⟨[],[]⟩) (.int .i64 0)) :
  AZ (SS dt (n+1) 46 [.fv G,.fv (Tm.mk 26 m [a,b]).enc] ⟨[],[]⟩) (.tuple [(HX).enc,.int .i64 0]):=by
 have t14:=BE (n:=n) (by omega) 14;have t15:=BE (n:=n) (by omega) 15;rw [c46];obtain ⟨oa,na,ka⟩:=a;obtain ⟨ob,nb,kb⟩:=b;simp only [Am,AB5,AB4,HX,tyT] at hc t14 t15 ⊢;simp (maxSteps:=1000000) only [↓AhS,↓XX,XY,↓reduceIte,Nat.reduceBEq,Nat.reduceAdd,Int.reduceEq,Int.reduceLT,Int.reduceLE,↓Ag t14,↓Ag t15,↓AC hc];first | exact An _ _ | exact Ax rfl (by simp) _
theorem Aub {n:Nat} (hn:100<n) {G:FV} {m:Int} {a b c:Tm} (hk:AZ (SS dt n 48 [.fv G,iv 1,.fv a.enc,.fv tyT.enc] ⟨[],[]⟩) (.int .i64 0)) (hu:AZ (SS dt n 78 [.fv G,.fv a.enc,.fv b.enc] ⟨[],[]⟩) (.tuple [c.enc,.int .i64 0])) (hN:AZ (SS dt n 34 [.fv (Tm.mk 16 0 [a,c]).enc] ⟨[],[]⟩) (.tuple [(Tm.mk 16 0 [a,c]).enc,.int .i64 0])) :
  AZ (SS dt (n+1) 46 [.fv G,.fv (Tm.mk 20 m [a,b]).enc] ⟨[],[]⟩) (.tuple [(Tm.mk 16 0 [a,c]).enc,.int .i64 0]):=by
 have t14:=BE (n:=n) (by omega) 14;have t15:=BE (n:=n) (by omega) 15;have t16:=CO (n:=n) (by omega) 16 [a,c];rw [c46];obtain ⟨oa,na,ka⟩:=a;obtain ⟨ob,nb,kb⟩:=b;obtain ⟨oc,nc,kc⟩:=c;simp only [Am,AB5,AB4,HX,tyT] at hk hu hN t14 t15 t16 ⊢;simp (maxSteps:=1000000) only [↓AhS,↓XX,XY,↓reduceIte,Nat.reduceBEq,Nat.reduceAdd,Int.reduceEq,Int.reduceLT,Int.reduceLE,↓Ag t14,↓Ag t15,↓AC hk,↓AJ hu,↓CT,↓Ag t16,↓Aw hN];first | exact An _ _ | exact Ax rfl (by simp) _
theorem Arx {n:Nat} (hn:100<n) {G:FV} {m:Int} {G':FV} {a x:Tm} (hk:AZ (SS dt n 48 [.fv G,iv 1,.fv a.enc,.fv tyT.enc] ⟨[],[]⟩) (.int .i64 0)) (hb:AZ (SS dt n 79 [.fv G,iv 0,.fv a.enc] ⟨[],[]⟩) (G')) (hs:AZ (SS dt n 45 [.fv a.enc,iv 1,iv 0] ⟨[],[]⟩) (a.enc)) (hc:AZ (SS dt n 48 [.fv G',iv 0,.fv x.enc,.fv a.enc] ⟨[],[]⟩) (.int .i64 0)) (hN:AZ (SS dt n 34 [.fv a.enc] ⟨[],[]⟩) (.tuple [a.enc,.int .i64 0])) :
  AZ (SS dt (n+1) 46 [.fv G,.fv (Tm.mk 29 m [a,x]).enc] ⟨[],[]⟩) (.tuple [(a).enc,.int .i64 0]):=by
 have t14:=BE (n:=n) (by omega) 14;have t15:=BE (n:=n) (by omega) 15;rw [c46];obtain ⟨oa,na,ka⟩:=a;obtain ⟨ox,nx,kx⟩:=x;simp only [Am,AB5,AB4,HX,tyT] at hk hb hs hc hN t14 t15 ⊢;simp (maxSteps:=1000000) only [↓AhS,↓XX,XY,↓reduceIte,Nat.reduceBEq,Nat.reduceAdd,Int.reduceEq,Int.reduceLT,Int.reduceLE,↓Ag t14,↓Ag t15,↓AC hk,↓AJ hb,↓AJ hs,↓AC hc,↓Aw hN];first | exact An _ _ | exact Ax rfl (by simp) _
theorem AuK {n:Nat} (hn:100<n) {G:FV} {m:Int} {x y a b:Tm} (h1:AZ (SS dt n 20 [.fv G,iv 0,.fv x.enc] ⟨[],[]⟩) (.tuple [a.enc,.int .i64 0])) (hu:AZ (SS dt n 78 [.fv G,.fv a.enc,.fv y.enc] ⟨[],[]⟩) (.tuple [b.enc,.int .i64 0])) :
  AZ (SS dt (n+1) 46 [.fv G,.fv (Tm.mk 28 m [x,y]).enc] ⟨[],[]⟩) (.tuple [(b).enc,.int .i64 0]):=by
 have t14:=BE (n:=n) (by omega) 14;have t15:=BE (n:=n) (by omega) 15;rw [c46];obtain ⟨ox,nx,kx⟩:=x;obtain ⟨oy,ny,ky⟩:=y;obtain ⟨oa,na,ka⟩:=a;obtain ⟨ob,nb,kb⟩:=b;simp only [Am,AB5,AB4,HX,tyT] at h1 hu t14 t15 ⊢;simp (maxSteps:=1000000) only [↓AhS,↓XX,XY,↓reduceIte,Nat.reduceBEq,Nat.reduceAdd,Int.reduceEq,Int.reduceLT,Int.reduceLE,↓Ag t14,↓Ag t15,↓AJ h1,↓AJ hu];first | exact An _ _ | exact Ax rfl (by simp) _
theorem AtL {n:Nat} (hn:100<n) {G:FV} {m:Int}:AZ (SS dt (n+1) 46 [.fv G,.fv (Tm.mk 25 m []).enc] ⟨[],[]⟩) (.tuple [HX.enc,.int .i64 0]):=by
 have t14:=BE (n:=n) (by omega) 14;have t15:=BE (n:=n) (by omega) 15;rw [c46];simp only [Am,AB4,HX] at t14 t15 ⊢;simp (maxSteps:=1000000) only [↓AhS,↓XX,XY,↓reduceIte,Nat.reduceBEq,Nat.reduceAdd,Int.reduceEq,Int.reduceLT,Int.reduceLE,↓Ag t14,↓Ag t15];first | exact An _ _ | exact Ax rfl (by simp) _
theorem Iq {n:Nat} (hn:100<n) {G:FV} {op m:Int} {ks:List Tm} {P:Tm} (ho:op=21\/op=22\/op=23\/op=24\/op=27) (h:AZ (SS dt n 81 [.fv G,.fv (Tm.mk op m ks).enc] ⟨[],[]⟩) (.tuple [P.enc,.int .i64 0])):AZ (SS dt (n+1) 46 [.fv G,.fv (Tm.mk op m ks).enc] ⟨[],[]⟩) (.tuple [P.enc,.int .i64 0]):=by
 have t14:=BE (n:=n) (by omega) 14;have t15:=BE (n:=n) (by omega) 15;rw [c46];obtain ⟨oP,nP,kP⟩:=P;rcases ho with rfl | rfl | rfl | rfl | rfl
 all_goals
  simp only [Am,AB4] at t14 t15 h ⊢;simp (maxSteps:=1000000) only [↓AhS,↓XX,XY,↓reduceIte,Nat.reduceBEq,Nat.reduceAdd,Int.reduceEq,Int.reduceLT,Int.reduceLE,↓Ag t14,↓Ag t15,↓Ag h];first | exact An _ _ | exact Ax rfl (by simp) _
theorem G3 {n:Nat} {G:FV} {op m:Int} {ks:List Tm} {P:Tm} (ho:20<=op) (h:AZ (SS dt n 46 [.fv G,.fv (Tm.mk op m ks).enc] ⟨[],[]⟩) (.tuple [P.enc,.int .i64 0])):AZ (SS dt (n+1) 20 [.fv G,iv 0,.fv (Tm.mk op m ks).enc] ⟨[],[]⟩) (.tuple [P.enc,.int .i64 0]):=by
 rw [c20];obtain ⟨oP,nP,kP⟩:=P;have h1:op≠1:=by omega
 have h20:(20:Int)<=op:=ho;simp only [Am] at h ⊢;simp (maxSteps:=1000000) only [↓Amc,↓XX,XY,↓reduceIte,Nat.reduceBEq,Nat.reduceAdd,Int.reduceEq,Int.reduceLT,Int.reduceLE,h1,h20,↓Ag h];first | exact An _ _ | exact Ax rfl (by simp) _
def gO (g:List Tm):Ci:=g.map fun T=>((0:Int),T)
theorem AsB {n:Nat} {g:List Tm} {i:Nat} {T:Tm} (hi:i<g.length) (hl:g.length<=100000) (hg:g[g.length - 1 - i]?=some T) (hs:AZ (SS dt n 45 [.fv T.enc,iv ((i:Int)+1),iv 0] ⟨[],[]⟩) T.enc) (hN:AZ (SS dt n 34 [.fv T.enc] ⟨[],[]⟩) (.tuple [T.enc,.int .i64 0])) :
  AZ (SS dt (n+1) 20 [.fv (A6 (gO g)),iv 0,.fv (Tm.mk 1 (i:Int) []).enc] ⟨[],[]⟩) (.tuple [T.enc,.int .i64 0]):=by
 rw [c20];have hget:((gO g).map v1)[g.length - 1 - i]?=some (v1 (0,T)):=by rw [gO,List.map_map,List.getElem?_map,hg];rfl
 have hix:=fun {β:Type}=>Bt (β:=β) (size:=4) hget rfl;have hlen:((gO g).map v1).length=g.length:=by rw [gO,List.map_map,List.length_map]
 have w1:BK ((g.length:Int) - 1)=(g.length:Int) - 1:=by rw [Av]<;>omega
 have w2:BK ((g.length:Int) - 1 - i)=((g.length - 1 - i:Nat):Int):=by rw [Av (by omega) (by omega)];omega
 have wi:BK ((i:Int)+1)=(i:Int)+1:=by rw [Av]<;>omega
 have hno:¬ ((g.length:Int)<=i):=by omega
 obtain ⟨oT,nT,kT⟩:=T;simp only [A6,Am,AB4,v1,Tm.op,Tm.n,Tm.kids] at hix hs hN ⊢;simp (maxSteps:=1000000) only [↓Amc,↓XX,XY,↓reduceIte,Nat.reduceBEq,Nat.reduceAdd,Int.reduceEq,Int.reduceLT,Int.reduceLE,hlen,hno,w1,w2,wi,↓hix,FV.cells,↓AJ hs,↓Aw hN]
 first | exact An _ _ | exact Ax rfl (by simp) _
theorem Aku (g:List Tm) (a:Tm):gO g++[(0,a)]=gO (g++[a]):=by simp [gO]
theorem Ak5 (g:List Tm):(gO g).length=g.length:=by simp [gO]
theorem UR {g:List Tm} {a b c:Tm} (hl:g.length<=90000) (hc:OkT c) (h:Ev 20 [.fv (A6 (gO (g++[a]))),iv 0,.fv b.enc] (.tuple [c.enc,.int .i64 0])):Ev 78 [.fv (A6 (gO g)),.fv a.enc,.fv b.enc] (.tuple [c.enc,.int .i64 0]):=by
 obtain ⟨N,h⟩:=h;refine ⟨N+200000,fun n hn=>?_⟩;obtain ⟨n,rfl⟩:∃k,n=k+2:=⟨n - 2,by omega⟩;have hb:=AlO (n:=n+1) (gO g) 0 a (by rw [Ak5];omega) (by omega);rw [Aku] at hb;exact As7 hb (h (n+1) (by omega)) (Avt hc.pt hc.w (by omega))
theorem If {G:FV} {st:Int} {t b:Tm} (h:Ev 20 [.fv G,iv st,.fv t.enc] (.tuple [b.enc,.int .i64 0])) (he:Ev 82 [.fv b.enc,.fv b.enc] (.tuple [.bool true,.int .i64 0])):Ev 48 [.fv G,iv st,.fv t.enc,.fv b.enc] (.int .i64 0):=by
 obtain ⟨N,h⟩:=h;obtain ⟨M,he⟩:=he;refine ⟨N+M+1,fun n hn=>?_⟩;obtain ⟨n,rfl⟩:∃k,n=k+1:=⟨n - 1,by omega⟩;exact Aua (h n (by omega)) (he n (by omega))
theorem XT {G:FV} {st op:Int} {t a:Tm} (h:Ev 20 [.fv G,iv st,.fv t.enc] (.tuple [a.enc,.int .i64 0])) (ho:a.op=op):Ev 80 [.fv G,iv st,.fv t.enc,iv op] (.tuple [a.enc,.int .i64 0]):=by
 obtain ⟨N,h⟩:=h;refine ⟨N+1,fun n hn=>?_⟩;obtain ⟨n,rfl⟩:∃k,n=k+1:=⟨n - 1,by omega⟩;exact Aza (h n (by omega)) ho
theorem Axo {g:List Tm} {u P:Tm} (h:OK7 g u P):g.length+u.wt<=80000->Ev 20 [.fv (A6 (gO g)),iv 0,.fv u.enc] (.tuple [P.enc,.int .i64 0]):=by
 induction h with
 | var g i P hP hi h =>
  intro hl;obtain ⟨N,hN⟩:=MW hP;have hw:=hP.w;refine ⟨N+100000,fun n hn=>?_⟩;obtain ⟨n,rfl⟩:∃k,n=k+1:=⟨n - 1,by omega⟩;have hs:=CJ n P ((i+1:Nat):Int) 0 (by omega) (Fd P 0 (Oj hP.pt 0)) (by omega) (by omega);rw [Ux hP.pt (by omega) (i+1) (by omega),show ((i+1:Nat):Int)=(i:Int)+1 by omega] at hs
  exact AsB hi (by omega) h hs (hN n (by omega))
 | oint g m =>
  intro hl;refine ⟨200,fun n hn=>?_⟩;obtain ⟨n,rfl⟩:∃k,n=k+2:=⟨n - 2,by omega⟩;exact G3 (by omega) (AtL (by omega))
 | oprim g m a b ha hb iha ihb =>
  intro hl;simp only [Tm.wt,Tm.wtL] at hl;obtain ⟨N1,h1⟩:=If (iha (by omega)) (L3 Lb);obtain ⟨N2,h2⟩:=If (ihb (by omega)) (L3 Lb);refine ⟨N1+N2+200,fun n hn=>?_⟩;obtain ⟨n,rfl⟩:∃k,n=k+3:=⟨n - 3,by omega⟩;have hc:=AkZ (n:=n) [a,b] (by simp) (by simp;omega) (fun t ht=>by
   simp only [List.mem_cons,List.not_mem_nil,or_false] at ht;rcases ht with rfl | rfl
   ·exact h1 n (by omega)
   ·exact h2 n (by omega))
  exact G3 (by omega) (AoW (by omega) hc)
 | olam g m a b c hP hb ih =>
  intro hl;simp only [Tm.wt,Tm.wtL] at hl;obtain ⟨pa,pc⟩:=Lw hP;obtain ⟨N1,h1⟩:=If (AkD pa.pt (A6 (gO g))) AkS;obtain ⟨N2,h2⟩:=UR (a:=a) (by omega) pc (ih (by simp only [List.length_append,AB3,List.length_nil];omega));obtain ⟨N3,h3⟩:=MW hP;refine ⟨N1+N2+N3+200,fun n hn=>?_⟩;obtain ⟨n,rfl⟩:∃k,n=k+2:=⟨n - 2,by omega⟩;exact G3 (by omega) (Aub (by omega) (h1 n (by omega)) (h2 n (by omega)) (h3 n (by omega)))
 | oapp g m f x a c hf hx ihf ihx =>
  intro hl;simp only [Tm.wt,Tm.wtL] at hl;obtain ⟨pa,pc⟩:=Lw (Ai6 hf);obtain ⟨N1,h1⟩:=XT (op:=16) (ihf (by omega)) rfl;obtain ⟨N2,h2⟩:=If (ihx (by omega)) (L3 pa);refine ⟨N1+N2+200,fun n hn=>?_⟩;obtain ⟨n,rfl⟩:∃k,n=k+3:=⟨n - 3,by omega⟩;exact G3 (by omega) (Iq (by omega) (by omega) (At8 (by omega) (h1 n (by omega)) (h2 n (by omega))))
 | opair g m x y a b hP hx hy ihx ihy =>
  intro hl;simp only [Tm.wt,Tm.wtL] at hl;obtain ⟨N1,h1⟩:=ihx (by omega);obtain ⟨N2,h2⟩:=ihy (by omega);obtain ⟨N3,h3⟩:=MW hP;refine ⟨N1+N2+N3+200,fun n hn=>?_⟩;obtain ⟨n,rfl⟩:∃k,n=k+3:=⟨n - 3,by omega⟩;exact G3 (by omega) (Iq (by omega) (by omega) (Am8 (by omega) (h1 n (by omega)) (h2 n (by omega)) (h3 n (by omega))))
 | ofst g m x a b hx ih =>
  intro hl;simp only [Tm.wt,Tm.wtL] at hl;obtain ⟨N1,h1⟩:=XT (op:=17) (ih (by omega)) rfl;refine ⟨N1+200,fun n hn=>?_⟩;obtain ⟨n,rfl⟩:∃k,n=k+3:=⟨n - 3,by omega⟩;exact G3 (by omega) (Iq (by omega) (by omega) (AtZ (by omega) (h1 n (by omega))))
 | osnd g m x a b hx ih =>
  intro hl;simp only [Tm.wt,Tm.wtL] at hl;obtain ⟨N1,h1⟩:=XT (op:=17) (ih (by omega)) rfl;refine ⟨N1+200,fun n hn=>?_⟩;obtain ⟨n,rfl⟩:∃k,n=k+3:=⟨n - 3,by omega⟩;exact G3 (by omega) (Iq (by omega) (by omega) (At5 (by omega) (h1 n (by omega))))
 | oif g m c x y a hc hx hy i1 i2 i3 =>
  intro hl;simp only [Tm.wt,Tm.wtL] at hl;obtain ⟨N1,h1⟩:=If (i1 (by omega)) (L3 Lb);obtain ⟨N2,h2⟩:=i2 (by omega);obtain ⟨N3,h3⟩:=If (i3 (by omega)) (L3 (Ai6 hx));refine ⟨N1+N2+N3+200,fun n hn=>?_⟩;obtain ⟨n,rfl⟩:∃k,n=k+3:=⟨n - 3,by omega⟩;exact G3 (by omega) (Iq (by omega) (by omega) (Axc (by omega) (h1 n (by omega)) (h2 n (by omega)) (h3 n (by omega))))
 | olet g m x y a b hx hy i1 i2 =>
  intro hl;simp only [Tm.wt,Tm.wtL] at hl;obtain ⟨N1,h1⟩:=i1 (by omega);obtain ⟨N2,h2⟩:=UR (a:=a) (by omega) (Ai6 hy) (i2 (by simp only [List.length_append,AB3,List.length_nil];have:=DV x;omega));refine ⟨N1+N2+200,fun n hn=>?_⟩;obtain ⟨n,rfl⟩:∃k,n=k+2:=⟨n - 2,by omega⟩;exact G3 (by omega) (AuK (by omega) (h1 n (by omega)) (h2 n (by omega)))
 | ofix g m a x hP hx ih =>
  intro hl;simp only [Tm.wt,Tm.wtL] at hl;have hw:=hP.w;obtain ⟨N1,h1⟩:=If (AkD hP.pt (A6 (gO g))) AkS;obtain ⟨N2,h2⟩:=If (ih (by simp only [List.length_append,AB3,List.length_nil];have:=DV a;omega)) (L3 hP);obtain ⟨N3,h3⟩:=MW hP;refine ⟨N1+N2+N3+100000,fun n hn=>?_⟩;obtain ⟨n,rfl⟩:∃k,n=k+2:=⟨n - 2,by omega⟩;have hb:=AlO (n:=n) (gO g) 0 a (by rw [Ak5];omega) (by omega);rw [Aku] at hb;have hs:=CJ n a ((1:Nat):Int) 0 (by omega) (Fd a 0 (Oj hP.pt 0)) (by omega) (by omega);rw [Ux hP.pt (by omega) 1 (by omega)] at hs;exact G3 (by omega) (Arx (by omega) (h1 n (by omega)) hb hs (h2 n (by omega)) (h3 n (by omega)))
theorem AlA {m:Nat} {g:List Tm} {c P:Tm} (h:OT m g c P):c.plainP=true:=by
 have pt:∀{p:Tm},PT p->p.plainP=true:=by
  intro p hp
  induction hp with
  | int=>decide
  | bin op a b ho ha hb iha ihb=>rcases ho with rfl | rfl<;>(simp [Tm.plainP,Tm.plainPL,iha,ihb])<;>decide
 induction h with
 | var=>(simp [Tm.plainP,Tm.plainPL])<;>decide
 | oint=>(simp [Tm.plainP,Tm.plainPL])<;>decide
 | oprim g n a b ha hb iha ihb=>(simp [Tm.plainP,Tm.plainPL,iha,ihb])<;>decide
 | olam g a b c ha hw hb ih=>(simp [Tm.plainP,Tm.plainPL,pt ha,ih])<;>decide
 | oapp g f x a c hf hx ihf ihx=>(simp [Tm.plainP,Tm.plainPL,ihf,ihx])<;>decide
 | opair g x y a b hw hx hy ihx ihy=>(simp [Tm.plainP,Tm.plainPL,ihx,ihy])<;>decide
 | ofst g x a b hx ih=>(simp [Tm.plainP,Tm.plainPL,ih])<;>decide
 | oif g c x y a hc hx hy i1 i2 i3=>(simp [Tm.plainP,Tm.plainPL,i1,i2,i3])<;>decide
 | olet g x y a b hx hy i1 i2=>(simp [Tm.plainP,Tm.plainPL,i1,i2])<;>decide
 | ofix g a x ha hw hx ih=>(simp [Tm.plainP,Tm.plainPL,pt ha,ih])<;>decide
theorem AkP {t u:Tm} {k f:Nat} (ht:HasT [] t 6) (hsc:t.sc k) (hk:k<=100) (hc:(t.chk 0 1).2=0) (hf:AX f t=some (u,0)) (hu:NOk k u) (hp:u.plainP=true):Ev 16 [.fv t.enc] (.tuple [u.enc,.int .i64 0]):=by
 have hw:=(ArY hc).1;have hw':=hu.wt;obtain ⟨F,hF⟩:=Amf (Aid ht k hsc (by omega)) hw (QG t k hsc) hf;exact ⟨F+100000,fun n hn'=>AkF (f:=F) hc (hF F (Nat.le_refl _)) hp (by omega) (by omega) (by omega) (by omega)⟩
structure StA (n:Nat) (t a c:Tm):Prop where
 hs:AZ (SS dt n 16 [.fv t.enc] ⟨[],[]⟩) (.tuple [c.enc,.int .i64 0])
 sm:AZ (SS dt n 17 [.fv c.enc,.fv c.enc] ⟨[],[]⟩) (.bool true)
 pl:AZ (SS dt n 18 [.fv c.enc] ⟨[],[]⟩) (.bool true)
 ri:AZ (SS dt n 19 [.fv (.sl []),.fv c.enc] ⟨[],[]⟩) (.tuple [a.enc,.int .i64 0])
 k7:AZ (SS dt n 20 [.fv (.sl []),iv 0,.fv c.enc] ⟨[],[]⟩) (.tuple [a.enc,.int .i64 0])
 sa:AZ (SS dt n 17 [.fv a.enc,.fv a.enc] ⟨[],[]⟩) (.bool true)
theorem AsC {n:Nat} {r q:Tm} {br bq:Bool} (hno:¬ (br=true/\bq=true)) (hk:AZ (SS dt n 11 [] ⟨[],[]⟩) (.bool true))
  (fr:AZ (SS dt n 12 [.fv r.enc] ⟨[],[]⟩) (.bool br)) (fq:AZ (SS dt n 12 [.fv q.enc] ⟨[],[]⟩) (.bool bq)) :
  An4 (SS dt (n+1) 3 [.fv r.enc,.fv q.enc] ⟨[],[]⟩) (.bool true):=by
 rw [c3];obtain ⟨o1,p1,k1⟩:=r;obtain ⟨o2,p2,k2⟩:=q;simp only [Am] at fr fq ⊢;cases br
 ·simp (maxSteps:=1000000) only [↓UU1,↓XX,XY,↓reduceIte,Nat.reduceBEq,Nat.reduceAdd,Int.reduceEq,Int.reduceLT,Int.reduceLE,↓Gk hk,↓Aw fr];exact AlJ
 cases bq
 ·simp (maxSteps:=1000000) only [↓UU1,↓XX,XY,↓reduceIte,Nat.reduceBEq,Nat.reduceAdd,Int.reduceEq,Int.reduceLT,Int.reduceLE,↓Gk hk,↓Aw fr,↓Aw fq];exact AlJ
 exact absurd ⟨rfl,rfl⟩ hno
theorem AyE {n:Nat} {r q a t c:Tm} {is:Bool} {f:Int} (hk:AZ (SS dt n 11 [] ⟨[],[]⟩) (.bool true))
  (fr:AZ (SS dt n 12 [.fv r.enc] ⟨[],[]⟩) (.bool true)) (fq:AZ (SS dt n 12 [.fv q.enc] ⟨[],[]⟩) (.bool true))
  (h1:AZ (SS dt n 13 [.fv (.sl []),.fv r.enc,.fv q.enc,.fv (.bool true)] ⟨[],[]⟩) (.tuple [.sl [],a.enc,t.enc,.bool is])) (h2:AZ (SS dt n 14 [.fv t.enc] ⟨[],[]⟩) (.tuple [c.enc,.int .i64 f]))
  (v1:AZ (SS dt n 15 [iv f] ⟨[],[]⟩) (.bool (decide (f=17) || decide (f=5)))) (v0:AZ (SS dt n 15 [iv 0] ⟨[],[]⟩) (.bool false)) (hf:f=0\/f=5\/f=17) (hF:is=true->f=0->StA n t a c) :
  An4 (SS dt (n+1) 3 [.fv r.enc,.fv q.enc] ⟨[],[]⟩) (.bool true):=by
 have hq:=fun (h:Hp) (kk:IV->Hp->List Ref->List Ref->Option (IV×Hp))=>AC (a:=.nils) (b:=.fv r.enc) (c:=.fv q.enc) (d:=.fv (.bool true)) h1 rfl rfl rfl rfl h kk;clear h1;rw [c3];cases is
 ·clear hF;obtain ⟨o1,p1,k1⟩:=r;obtain ⟨o2,p2,k2⟩:=q;obtain ⟨o3,p3,k3⟩:=a;obtain ⟨o4,p4,k4⟩:=t;obtain ⟨o5,p5,k5⟩:=c;simp only [Am] at fr fq hq h2 ⊢;simp (maxSteps:=1000000) only [↓UU1,↓XX,XY,↓reduceIte,Nat.reduceBEq,Nat.reduceAdd,Int.reduceEq,Int.reduceLT,Int.reduceLE,↓Gk hk,↓Aw fr,↓Aw fq,↓hq,↓Aw h2];exact AlJ
 rcases hf with rfl | hf
 case inr =>
  clear hF;have hv:(decide (f=17) || decide (f=5))=true:=by rcases hf with rfl | rfl<;>rfl
  rw [hv] at v1;obtain ⟨o1,p1,k1⟩:=r;obtain ⟨o2,p2,k2⟩:=q;obtain ⟨o3,p3,k3⟩:=a;obtain ⟨o4,p4,k4⟩:=t;obtain ⟨o5,p5,k5⟩:=c;simp only [Am] at fr fq hq h2 ⊢;simp (maxSteps:=1000000) only [↓UU1,↓XX,XY,↓reduceIte,Nat.reduceBEq,Nat.reduceAdd,Int.reduceEq,Int.reduceLT,Int.reduceLE,↓Gk hk,↓Aw fr,↓Aw fq,↓hq,↓Aw h2,↓Aw v1];exact AlJ
 clear v1;obtain ⟨hs,sm,pl,ri,k7,sa⟩:=hF rfl rfl;obtain ⟨o1,p1,k1⟩:=r;obtain ⟨o2,p2,k2⟩:=q;obtain ⟨o3,p3,k3⟩:=a;obtain ⟨o4,p4,k4⟩:=t;obtain ⟨o5,p5,k5⟩:=c;simp only [Am] at fr fq hq h2 hs sm pl ri k7 sa ⊢;simp (maxSteps:=1000000) only [↓UU1,↓XX,XY,↓reduceIte,Nat.reduceBEq,Nat.reduceAdd,Int.reduceEq,Int.reduceLT,Int.reduceLE,↓Gk hk,↓Aw fr,↓Aw fq,↓hq,↓Aw h2,↓Aw v0,↓Aw hs,↓Ag sm,↓Aw pl,↓Ag ri,↓AJ k7,↓Ag sa];exact AlJ
theorem U7 (r q:Tm):∃N,An4 (SS dt N 3 [.fv r.enc,.fv q.enc] ⟨[],[]⟩) (.bool true):=by
 by_cases hb:decide (r.count 300<300)=true/\decide (q.count 300<300)=true
 case neg =>
  obtain ⟨m,hm⟩:∃m,m=r.wt+q.wt+10000000000:=⟨_,rfl⟩;exact ⟨m+1+1,AsC hb (MK (by omega)) (QQ r (by omega)) (QQ q (by omega))⟩
 obtain ⟨b1,b2⟩:=hb;obtain ⟨g,a,t,is,⟨N1,h1⟩,hC,hpl,hnil⟩:=Aps [] (by simp) r q true;have hg:=hnil rfl;subst hg;have hsc:t.sc 0:=hC.tsc;obtain ⟨c,e,⟨N2,h2⟩,hcase,f,hf⟩:=Lj (k:=0) (by omega) hsc (by have:=hC.tdp;omega);have hz:e≠0->c=.z:=by
  intro he;rcases hcase with ⟨h,_⟩ | ⟨_,h⟩
  ·exact absurd h he
  ·exact h
 have he3:e=0\/e=5\/e=17:=by
  rcases hcase with ⟨h,_⟩ | ⟨h,_⟩
  ·exact .inl h
  ·exact .inr h
 have K:∃N,is=true->e=0->∀n,N<=n->StA n t a c:=by
  by_cases hh:is=true/\e=0
  ·obtain ⟨rfl,rfl⟩:=hh;have hu:=(hcase.resolve_right (by omega)).2;have hgt:=hC.gt rfl;have ha:=hpl rfl;simp only [if_true] at hgt;rw [ha] at hgt;have ht:=(AlZ hgt [] N8).2.2.1 rfl (Bz [] 2 q);have hw:=hu.wt;have ot:=Apn hgt hsc hf;rw [<- ha] at ot;have hnf:=CQ hf ht;have hck:(c.chk 0 1).2=0:=by have hd:=hu.dp;rw [Atq hnf 0 0 1 hu.sc (by omega) (by omega) (by omega)]
   have hp:=AlA ot;obtain ⟨N3,h3⟩:=AkP ht hsc (by omega) (hC.chk rfl) hf hu hp;obtain ⟨N4,h4⟩:=Axo (AtR ot (by omega)) (by simp;omega);have haw:=(Uh ot).2;refine ⟨N3+N4+10000000,fun _ _ n hn=>?_⟩;have s1:=HL n c c (by omega) (by omega);rw [(Jx c c).2 rfl] at s1;have s2:=HL n a a (by omega) (by omega);rw [(Jx a a).2 rfl] at s2;have p1:=QC (n:=n) c (by omega) (by omega);rw [hp] at p1;have ri:=AhQ 3000 (by omega) (by omega) n c [] (Zs c 0 1 hck) hw (by simp) (by simp;omega) (by omega);rw [AtD ot (by omega)] at ri;simp only [if_true] at ri;exact ⟨h3 n (by omega),s1,p1,ri,h4 n (by omega),s2⟩
  ·exact ⟨0,fun a b=>absurd ⟨a,b⟩ hh⟩
 obtain ⟨N3,hK⟩:=K;rw [A6,AB4,AB4] at h1;obtain ⟨m,hm⟩:∃m,m=N1+N2+N3+r.wt+q.wt+10000000000:=⟨_,rfl⟩;have fr:=QQ (n:=m) r (by omega);have fq:=QQ (n:=m) q (by omega);rw [b1] at fr;rw [b2] at fq;exact ⟨m+1+1,AyE (MK (by omega)) fr fq (h1 _ (by omega)) (Aii (h2 m (by omega)) hz) (UF (by omega) e) (UF (by omega) 0) he3 (fun x y=>hK x y _ (by omega))⟩
end Idl
end Go.Proofs.Ytkfecngimlcfoaa

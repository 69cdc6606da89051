/-
  Texts of a proof, part 12: an ideal semantics of the program, its functions in shallow form, contracts of them. No statement of the seat is proved here.
-/
import Derived.Test.YtdibmackcbpniaaObjInfersK11
set_option linter.all false
noncomputable section
namespace Go.Proofs.Ytdibmackcbpniaa
namespace Idl
def vT (i:Nat):Tm:=.mk 1 (i:Int) []
def Kg (k:Nat) (ρ:Nat→Nat):Nat→Nat:=fun i=>if i<k then i else ρ (i - k)+k
mutual
def Tm.ren:Tm→(Nat→Nat)→Tm
 | .mk op n ks,ρ=>if op=1 then (if n<0∨ks.isEmpty=false then .mk op n ks else vT (ρ n.toNat)) else .mk op n (Tm.renL op 0 ks ρ)
def Tm.renL:Int→Nat→List Tm→(Nat→Nat)→List Tm
 | _,_,[],_=>[]
 | op,i,t::l,ρ=>t.ren (Kg (Ao op i) ρ)::Tm.renL op (i+1) l ρ
end
def CQ (k:Nat) (σ:Nat→Tm):Nat→Tm:=fun i=>if i<k then vT i else (σ (i - k)).ren (fun j=>j+k)
mutual
def Tm.sub:Tm→(Nat→Tm)→Tm
 | .mk op n ks,σ=>if op=1 then (if n<0∨ks.isEmpty=false then .mk op n ks else σ n.toNat) else .mk op n (Tm.subL op 0 ks σ)
def Tm.subL:Int→Nat→List Tm→(Nat→Tm)→List Tm
 | _,_,[],_=>[]
 | op,i,t::l,σ=>t.sub (CQ (Ao op i) σ)::Tm.subL op (i+1) l σ
end
theorem As3 (i:Nat):¬ ((i:Int)<0∨([]:List Tm).isEmpty=false):=by
 rintro (h | h)
 ·omega
 ·cases h
theorem G6 (i:Nat) (ρ:Nat→Nat):(vT i).ren ρ=vT (ρ i):=by
 rw [vT,Tm.ren,if_pos rfl,if_neg (As3 i)];rfl
theorem E0 (i:Nat) (σ:Nat→Tm):(vT i).sub σ=σ i:=by
 rw [vT,Tm.sub,if_pos rfl,if_neg (As3 i)];rfl
theorem Hr (op:Int) (ρ:Nat→Nat):∀(l:List Tm) (i:Nat),(Tm.renL op i l ρ).length=l.length
 | [],_=>rfl
 | _::l,i=>by simp only [Tm.renL,Aym,Hr op ρ l]
theorem J9 (op:Int) (σ:Nat→Tm):∀(l:List Tm) (i:Nat),(Tm.subL op i l σ).length=l.length
 | [],_=>rfl
 | _::l,i=>by simp only [Tm.subL,Aym,J9 op σ l]
theorem LX (op:Int) (ρ:Nat→Nat):∀(l:List Tm) (i j:Nat),(Tm.renL op i l ρ)[j]?=(l[j]?).map fun t=>t.ren (Kg (Ao op (i+j)) ρ)
 | [],_,_=>by simp [Tm.renL]
 | t::l,i,0=>by simp [Tm.renL]
 | t::l,i,j+1=>by
  simp only [Tm.renL,List.getElem?_cons_succ];rw [LX op ρ l (i+1) j,show i+1+j=i+(j+1) by omega]
theorem Vn (op:Int) (σ:Nat→Tm):∀(l:List Tm) (i j:Nat),(Tm.subL op i l σ)[j]?=(l[j]?).map fun t=>t.sub (CQ (Ao op (i+j)) σ)
 | [],_,_=>by simp [Tm.subL]
 | t::l,i,0=>by simp [Tm.subL]
 | t::l,i,j+1=>by
  simp only [Tm.subL,List.getElem?_cons_succ];rw [Vn op σ l (i+1) j,show i+1+j=i+(j+1) by omega]
theorem Ha {k:Nat} {ρ:Nat→Nat} {i:Nat} (h:i<k):Kg k ρ i=i:=if_pos h
theorem GJ {k:Nat} {ρ:Nat→Nat} {i:Nat} (h:¬ i<k):Kg k ρ i=ρ (i - k)+k:=if_neg h
theorem Gv {k:Nat} {σ:Nat→Tm} {i:Nat} (h:i<k):CQ k σ i=vT i:=if_pos h
theorem FZ {k:Nat} {σ:Nat→Tm} {i:Nat} (h:¬ i<k):CQ k σ i=(σ (i - k)).ren fun j=>j+k:=if_neg h
theorem Agd (k:Nat) (ρ ρ':Nat→Nat):(fun i=>Kg k ρ' (Kg k ρ i))=Kg k (fun i=>ρ' (ρ i)):=by
 funext i
 by_cases h:i<k
 ·rw [Ha (ρ:=ρ) h,Ha h,Ha h]
 ·rw [GJ (ρ:=ρ) h,GJ h,GJ (by omega),Nat.add_sub_cancel]
mutual
theorem LP:∀(t:Tm) (ρ ρ':Nat→Nat),(t.ren ρ).ren ρ'=t.ren (fun i=>ρ' (ρ i))
 | .mk op n ks,ρ,ρ'=>by
  rw [Tm.ren,Tm.ren];by_cases h:op=1
  ·rw [if_pos h,if_pos h];by_cases hn:n<0∨ks.isEmpty=false
   ·rw [if_pos hn,if_pos hn,Tm.ren,if_pos h,if_pos hn]
   ·rw [if_neg hn,if_neg hn,G6]
  ·rw [if_neg h,if_neg h,Tm.ren,if_neg h,renL_ren ks op 0 ρ ρ']
theorem renL_ren:∀(l:List Tm) (op:Int) (i:Nat) (ρ ρ':Nat→Nat),Tm.renL op i (Tm.renL op i l ρ) ρ'=Tm.renL op i l (fun i=>ρ' (ρ i))
 | [],_,_,_,_=>rfl
 | t::l,op,i,ρ,ρ'=>by simp only [Tm.renL,LP t,Agd,renL_ren l]
end
theorem AnI (k:Nat) (ρ:Nat→Nat) (σ:Nat→Tm):(fun i=>CQ k σ (Kg k ρ i))=CQ k (fun i=>σ (ρ i)):=by
 funext i
 by_cases h:i<k
 ·rw [Ha h,Gv h,Gv h]
 ·rw [GJ h,FZ h,FZ (by omega),Nat.add_sub_cancel]
mutual
theorem Gp:∀(t:Tm) (ρ:Nat→Nat) (σ:Nat→Tm),(t.ren ρ).sub σ=t.sub (fun i=>σ (ρ i))
 | .mk op n ks,ρ,σ=>by
  rw [Tm.ren,Tm.sub];by_cases h:op=1
  ·rw [if_pos h,if_pos h];by_cases hn:n<0∨ks.isEmpty=false
   ·rw [if_pos hn,if_pos hn,Tm.sub,if_pos h,if_pos hn]
   ·rw [if_neg hn,if_neg hn,E0]
  ·rw [if_neg h,if_neg h,Tm.sub,if_neg h,subL_ren ks op 0 ρ σ]
theorem subL_ren:∀(l:List Tm) (op:Int) (i:Nat) (ρ:Nat→Nat) (σ:Nat→Tm),Tm.subL op i (Tm.renL op i l ρ) σ=Tm.subL op i l (fun i=>σ (ρ i))
 | [],_,_,_,_=>rfl
 | t::l,op,i,ρ,σ=>by simp only [Tm.renL,Tm.subL,Gp t,AnI,subL_ren l]
end
theorem ZX (k:Nat) (σ:Nat→Tm) (ρ:Nat→Nat):(fun i=>(CQ k σ i).ren (Kg k ρ))=CQ k (fun i=>(σ i).ren ρ):=by
 funext i
 by_cases h:i<k
 ·rw [Gv h,Gv h,G6,Ha h]
 ·rw [FZ h,FZ h,LP,LP];congr 1
  funext j
  rw [GJ (by omega),Nat.add_sub_cancel]
mutual
theorem FH:∀(t:Tm) (σ:Nat→Tm) (ρ:Nat→Nat),(t.sub σ).ren ρ=t.sub (fun i=>(σ i).ren ρ)
 | .mk op n ks,σ,ρ=>by
  rw [Tm.sub,Tm.sub];by_cases h:op=1
  ·rw [if_pos h,if_pos h];by_cases hn:n<0∨ks.isEmpty=false
   ·rw [if_pos hn,if_pos hn,Tm.ren,if_pos h,if_pos hn]
   ·rw [if_neg hn,if_neg hn]
  ·rw [if_neg h,if_neg h,Tm.ren,if_neg h,renL_sub ks op 0 σ ρ]
theorem renL_sub:∀(l:List Tm) (op:Int) (i:Nat) (σ:Nat→Tm) (ρ:Nat→Nat),Tm.renL op i (Tm.subL op i l σ) ρ=Tm.subL op i l (fun i=>(σ i).ren ρ)
 | [],_,_,_,_=>rfl
 | t::l,op,i,σ,ρ=>by simp only [Tm.renL,Tm.subL,FH t,ZX,renL_sub l]
end
theorem Aj4 (k:Nat) (σ τ:Nat→Tm):(fun i=>(CQ k σ i).sub (CQ k τ))=CQ k (fun i=>(σ i).sub τ):=by
 funext i
 by_cases h:i<k
 ·rw [Gv h,Gv h,E0,Gv h]
 ·rw [FZ h,FZ h,Gp,FH];congr 1
  funext j
  rw [FZ (by omega),Nat.add_sub_cancel]
mutual
theorem EF:∀(t:Tm) (σ τ:Nat→Tm),(t.sub σ).sub τ=t.sub (fun i=>(σ i).sub τ)
 | .mk op n ks,σ,τ=>by
  rw [Tm.sub,Tm.sub];by_cases h:op=1
  ·rw [if_pos h,if_pos h];by_cases hn:n<0∨ks.isEmpty=false
   ·rw [if_pos hn,if_pos hn,Tm.sub,if_pos h,if_pos hn]
   ·rw [if_neg hn,if_neg hn]
  ·rw [if_neg h,if_neg h,Tm.sub,if_neg h,subL_sub ks op 0 σ τ]
theorem subL_sub:∀(l:List Tm) (op:Int) (i:Nat) (σ τ:Nat→Tm),Tm.subL op i (Tm.subL op i l σ) τ=Tm.subL op i l (fun i=>(σ i).sub τ)
 | [],_,_,_,_=>rfl
 | t::l,op,i,σ,τ=>by simp only [Tm.subL,EF t,Aj4,subL_sub l]
end
theorem Aux (k:Nat):CQ k vT=vT:=by
 funext i
 by_cases h:i<k
 ·rw [Gv h]
 ·rw [FZ h,G6,show i - k+k=i by omega]
theorem GE:∀(t:Tm) (ρ:Nat→Nat),t.ren ρ=t.sub (fun i=>vT (ρ i)):=by
 intro t ρ;have h:∀(k:Nat) (ρ:Nat→Nat),CQ k (fun i=>vT (ρ i))=fun i=>vT (Kg k ρ i):=by
  intro k ρ
  funext i
  by_cases h:i<k
  ·rw [Gv h,Ha h]
  ·rw [FZ h,GJ h,G6]
 exact go h t ρ
where
 go (
   h:∀(k:Nat) (ρ:Nat→Nat),CQ k (fun i=>vT (ρ i))=fun i=>vT (Kg k ρ i)):∀(t:Tm) (ρ:Nat→Nat),t.ren ρ=t.sub (fun i=>vT (ρ i))
  | .mk op n ks,ρ=>by
   rw [Tm.ren,Tm.sub];by_cases ho:op=1
   ·rw [if_pos ho,if_pos ho]
   ·rw [if_neg ho,if_neg ho,goL h ks op 0 ρ]
 goL (h:∀(k:Nat) (ρ:Nat→Nat),CQ k (fun i=>vT (ρ i))=fun i=>vT (Kg k ρ i)):∀(l:List Tm) (op:Int) (i:Nat) (ρ:Nat→Nat),Tm.renL op i l ρ=Tm.subL op i l (fun i=>vT (ρ i))
  | [],_,_,_=>rfl
  | t::l,op,i,ρ=>by simp only [Tm.renL,Tm.subL,go h t,goL h l,h]
mutual
theorem KH:∀(t:Tm),t.sub vT=t
 | .mk op n ks=>by
  rw [Tm.sub];by_cases ho:op=1
  ·rw [if_pos ho];by_cases hn:n<0∨ks.isEmpty=false
   ·rw [if_pos hn]
   ·rw [if_neg hn,vT,ho];have hk:ks=[]:=by
     cases ks with
     | nil=>rfl
     | cons a l=>exact absurd (.inr rfl) hn
    rw [hk];congr 1
    have:¬ n<0:=fun h=>hn (.inl h)
    omega
  ·rw [if_neg ho,subL_id ks op 0]
theorem subL_id:∀(l:List Tm) (op:Int) (i:Nat),Tm.subL op i l vT=l
 | [],_,_=>rfl
 | t::l,op,i=>by
  simp only [Tm.subL];rw [Aux,KH t,subL_id l op (i+1)]
end
mutual
theorem OO:∀(t:Tm) (d c k:Nat),t.sc k→k+2 * t.wt+d≤9000000000000000000→t.shift d c=t.ren (fun i=>if i<c then i else i+d)
 | .mk op n ks,d,c,k,h,hk=>by
  rw [Tm.sc] at h;rw [Tm.wt] at hk;rw [Tm.shift,Tm.ren];by_cases ho:op=1
  ·subst ho;have h2:=h.2.1;rw [if_pos rfl] at h2;have hks:ks=[]:=List.eq_nil_of_length_eq_zero (Option.some.inj h.1.symm);subst hks;have hv:¬ (n<0∨([]:List Tm).isEmpty=false):=by
    rintro (h | h)
    ·omega
    ·cases h
   rw [if_pos rfl,if_neg hv,vT,Tm.shiftL];by_cases hc:(c:Int)≤n
   ·rw [if_pos ⟨rfl,hc⟩,Az (by omega) (by omega),if_neg (by omega)];congr 1;omega
   ·rw [if_neg (fun h=>hc h.2),if_pos (by omega)];congr 1;omega
  ·rw [if_neg ho,if_neg (fun h=>ho h.1),shiftL_ren ks op 0 d c k h.2.2 (by omega)]
theorem shiftL_ren:∀(l:List Tm) (op:Int) (i d c k:Nat),Tm.scL op i l k→k+2+2 * Tm.wtL l+d≤9000000000000000000→Tm.shiftL op i l d c=Tm.renL op i l (fun i=>if i<c then i else i+d)
 | [],_,_,_,_,_,_,_=>rfl
 | t::l,op,i,d,c,k,h,hk=>by
  rw [Tm.scL] at h;simp only [Tm.wtL] at hk;have hb:=BE op i;simp only [Tm.shiftL,Tm.renL];have h1:=OO t d (c+Ao op i) (k+Ao op i) h.1 (by omega);rw [show ((c+Ao op i:Nat):Int)=(c:Int)+(Ao op i:Int) by omega] at h1
  rw [h1,shiftL_ren l op (i+1) d c k h.2 (by omega)];congr 2
  funext j
  by_cases h1:j<Ao op i
  ·rw [Ha h1,if_pos (by omega)]
  ·rw [GJ h1];by_cases h2:j<c+Ao op i
   ·rw [if_pos h2,if_pos (by omega)];omega
   ·rw [if_neg h2,if_neg (by omega)];omega
end
def s1 (x:Tm):Nat→Tm
 | 0=>x
 | j+1=>vT j
def s2 (r k:Tm):Nat→Tm
 | 0=>r
 | 1=>k
 | j+2=>vT j
inductive Par:Tm→Tm→Prop
 | var (n:Int) (ks:List Tm):Par (.mk 1 n ks) (.mk 1 n ks)
 | node (op n:Int) (ks ks':List Tm) (h1:op≠1) (hl:ks'.length=ks.length) (hk:∀(i:Nat) a b,ks[i]?=some a→ks'[i]?=some b→Par a b):Par (.mk op n ks) (.mk op n ks')
 | beta (n m:Int) (a b b' x x':Tm) (hb:Par b b') (hx:Par x x'):Par (.mk 5 n [.mk 4 m [a,b],x]) (b'.sub (s1 x'))
 | fst (n m:Int) (a x x' y:Tm) (hx:Par x x'):Par (.mk 8 n [.mk 7 m [a,x,y]]) x'
 | snd (n m:Int) (a x y y':Tm) (hy:Par y y'):Par (.mk 9 n [.mk 7 m [a,x,y]]) y'
 | splq (c c':Tm) (hc:Par c c'):Par (.mk 30 0 [.mk 19 0 [c]]) c'
 | quos (c c':Tm) (hc:Par c c'):Par (.mk 19 0 [.mk 30 0 [c]]) c'
 | recz (n m:Int) (a z z' s:Tm) (l:List Tm) (hz:Par z z'):Par (.mk 13 n [a,z,s,.mk 11 m l]) z'
 | recs (n m:Int) (a a' z z' s s' k k':Tm) (ha:Par a a') (hz:Par z z') (hs:Par s s') (hk:Par k k'):Par (.mk 13 n [a,z,s,.mk 12 m [k]]) (s'.sub (s2 (.mk 13 0 [a',z',s',k']) k'))
theorem AhM:∀(m:Nat) (t:Tm),t.wt<m→Par t t:=by
 intro m
 induction m with
 | zero=>intro t h;omega
 | succ m ih =>
  intro t h;obtain ⟨op,n,ks⟩:=t;simp only [Tm.wt] at h;by_cases h1:op=1
  ·subst h1;exact .var n ks
  ·exact .node op n ks ks h1 rfl (fun i a b ha hb=>by
    rw [ha] at hb;cases hb;exact ih a (by have:=Ml ha;omega))
theorem A4 (t:Tm):Par t t:=AhM (t.wt+1) t (by omega)
theorem DC (ρ:Nat→Nat):Kg 0 ρ=ρ:=by
 funext i;simp [Kg]
theorem CL (σ:Nat→Tm):CQ 0 σ=σ:=by
 funext i
 simp only [CQ,Nat.not_lt_zero,if_false,Nat.sub_zero];rw [GE];exact KH _
theorem Apl (x:Tm) (ρ:Nat→Nat):(fun i=>(s1 x i).ren ρ)=fun i=>s1 (x.ren ρ) (Kg 1 ρ i):=by
 funext i
 cases i with
 | zero=>simp [s1,Kg]
 | succ i=>simp [s1,Kg,G6]
theorem Ap8 (r k:Tm) (ρ:Nat→Nat):(fun i=>(s2 r k i).ren ρ)=fun i=>s2 (r.ren ρ) (k.ren ρ) (Kg 2 ρ i):=by
 funext i
 match i with
 | 0=>simp [s2,Kg]
 | 1=>simp [s2,Kg]
 | i+2 =>
  show (vT i).ren ρ=s2 _ _ (Kg 2 ρ (i+2))
  rw [GJ (by omega),G6,Nat.add_sub_cancel];rfl
theorem Gl (t:Tm) (k:Nat) (τ:Nat→Tm) (h:∀j,τ (j+k)=vT j):(t.ren fun j=>j+k).sub τ=t:=by
 rw [Gp]
 have:(fun i=>τ (i+k))=vT:=funext h
 rw [this,KH]
theorem AoL (x:Tm) (σ:Nat→Tm):(fun i=>(s1 x i).sub σ)=fun i=>(CQ 1 σ i).sub (s1 (x.sub σ)):=by
 funext i
 cases i with
 | zero=>simp [s1,CQ,E0]
 | succ i =>
  simp only [s1,CQ,E0];rw [if_neg (by omega),Nat.add_sub_cancel,Gl _ _ _ (fun j=>rfl)]
theorem AoK (r k:Tm) (σ:Nat→Tm):(fun i=>(s2 r k i).sub σ)=fun i=>(CQ 2 σ i).sub (s2 (r.sub σ) (k.sub σ)):=by
 funext i
 match i with
 | 0=>simp [s2,CQ,E0]
 | 1=>simp [s2,CQ,E0]
 | i+2 =>
  simp only [s2,CQ,E0];rw [if_neg (by omega),Nat.add_sub_cancel,Gl _ _ _ (fun j=>rfl)]
theorem Akf {t t':Tm} (h:Par t t'):∀ρ,Par (t.ren ρ) (t'.ren ρ):=by
 induction h with
 | var n ks=>intro ρ;exact A4 _
 | node op n ks ks' h1 hl hk ih =>
  intro ρ;rw [Tm.ren,if_neg h1,Tm.ren,if_neg h1];refine .node _ _ _ _ h1 (by rw [Hr,Hr,hl]) (fun i a b ha hb=>?_);rw [LX,Nat.zero_add] at ha hb;cases hx:ks[i]? with
  | none=>rw [hx] at ha;cases ha
  | some x =>
   cases hy:ks'[i]? with
   | none=>rw [hy] at hb;cases hb
   | some y =>
    rw [hx] at ha;rw [hy] at hb;simp only [Ayl,Ayi] at ha hb;subst ha hb;exact ih i x y hx hy _
 | beta n m a b b' x x' hb hx ihb ihx =>
  intro ρ
  have:=Par.beta n m (a.ren (Kg 0 ρ)) _ _ _ _ (ihb (Kg 1 ρ)) (ihx ρ)
  rw [FH,Apl,← Gp];simp only [Tm.ren,Tm.renL];rw [if_neg (by omega),if_neg (by omega)];simpa [Ao,DC] using this
 | fst n m a x x' y hx ih =>
  intro ρ
  have:=Par.fst n m (a.ren ρ) _ _ (y.ren ρ) (ih ρ)
  simp only [Tm.ren,Tm.renL];rw [if_neg (by omega),if_neg (by omega)];simpa [Ao,DC] using this
 | snd n m a x y y' hy ih =>
  intro ρ
  have:=Par.snd n m (a.ren ρ) (x.ren ρ) _ _ (ih ρ)
  simp only [Tm.ren,Tm.renL];rw [if_neg (by omega),if_neg (by omega)];simpa [Ao,DC] using this
 | splq c c' hc ih =>
  intro ρ
  have:=Par.splq _ _ (ih ρ)
  simp only [Tm.ren,Tm.renL];rw [if_neg (by omega),if_neg (by omega)];simpa [Ao,DC] using this
 | quos c c' hc ih =>
  intro ρ
  have:=Par.quos _ _ (ih ρ)
  simp only [Tm.ren,Tm.renL];rw [if_neg (by omega),if_neg (by omega)];simpa [Ao,DC] using this
 | recz n m a z z' s l hz ih =>
  intro ρ
  have:=Par.recz n m (a.ren (Kg 1 ρ)) _ _ (s.ren (Kg 2 ρ)) (Tm.renL 11 0 l ρ) (ih ρ)
  simp only [Tm.ren,Tm.renL];rw [if_neg (by omega),if_neg (by omega)];simpa [Ao,DC] using this
 | recs n m a a' z z' s s' k k' ha hz hs hk iha ihz ihs ihk =>
  intro ρ
  have:=Par.recs n m _ _ _ _ _ _ _ _ (iha (Kg 1 ρ)) (ihz ρ) (ihs (Kg 2 ρ)) (ihk ρ)
  rw [FH,Ap8,← Gp];simp only [Tm.ren,Tm.renL];rw [if_neg (by omega),if_neg (by omega),if_neg (by omega)];simpa [Ao,DC] using this
theorem Lr {σ σ':Nat→Tm} (h:∀i,Par (σ i) (σ' i)) (k:Nat):∀i,Par (CQ k σ i) (CQ k σ' i):=by
 intro i;simp only [CQ];by_cases hi:i<k
 ·rw [if_pos hi,if_pos hi];exact A4 _
 ·rw [if_neg hi,if_neg hi];exact Akf (h _) _
theorem LL {t t':Tm} (h:Par t t'):∀σ σ',(∀i,Par (σ i) (σ' i))→Par (t.sub σ) (t'.sub σ'):=by
 induction h with
 | var n ks =>
  intro σ σ' hσ;rw [Tm.sub,if_pos rfl,Tm.sub,if_pos rfl];by_cases hn:n<0∨ks.isEmpty=false
  ·rw [if_pos hn,if_pos hn];exact A4 _
  ·rw [if_neg hn,if_neg hn];exact hσ _
 | node op n ks ks' h1 hl hk ih =>
  intro σ σ' hσ;rw [Tm.sub,if_neg h1,Tm.sub,if_neg h1];refine .node _ _ _ _ h1 (by rw [J9,J9,hl]) (fun i a b ha hb=>?_);rw [Vn,Nat.zero_add] at ha hb;cases hx:ks[i]? with
  | none=>rw [hx] at ha;cases ha
  | some x =>
   cases hy:ks'[i]? with
   | none=>rw [hy] at hb;cases hb
   | some y =>
    rw [hx] at ha;rw [hy] at hb;simp only [Ayl,Ayi] at ha hb;subst ha hb;exact ih i x y hx hy _ _ (Lr hσ _)
 | beta n m a b b' x x' hb hx ihb ihx =>
  intro σ σ' hσ
  have:=Par.beta n m (a.sub σ) _ _ _ _ (ihb _ _ (Lr hσ 1)) (ihx _ _ hσ)
  rw [EF,AoL,← EF];simp only [Tm.sub,Tm.subL];rw [if_neg (by omega),if_neg (by omega)];simpa [Ao,CL] using this
 | fst n m a x x' y hx ih =>
  intro σ σ' hσ
  have:=Par.fst n m (a.sub σ) _ _ (y.sub σ) (ih _ _ hσ)
  simp only [Tm.sub,Tm.subL];rw [if_neg (by omega),if_neg (by omega)];simpa [Ao,CL] using this
 | snd n m a x y y' hy ih =>
  intro σ σ' hσ
  have:=Par.snd n m (a.sub σ) (x.sub σ) _ _ (ih _ _ hσ)
  simp only [Tm.sub,Tm.subL];rw [if_neg (by omega),if_neg (by omega)];simpa [Ao,CL] using this
 | splq c c' hc ih =>
  intro σ σ' hσ
  have:=Par.splq _ _ (ih _ _ hσ)
  simp only [Tm.sub,Tm.subL];rw [if_neg (by omega),if_neg (by omega)];simpa [Ao,CL] using this
 | quos c c' hc ih =>
  intro σ σ' hσ
  have:=Par.quos _ _ (ih _ _ hσ)
  simp only [Tm.sub,Tm.subL];rw [if_neg (by omega),if_neg (by omega)];simpa [Ao,CL] using this
 | recz n m a z z' s l hz ih =>
  intro σ σ' hσ
  have:=Par.recz n m (a.sub (CQ 1 σ)) _ _ (s.sub (CQ 2 σ)) (Tm.subL 11 0 l σ) (ih _ _ hσ)
  simp only [Tm.sub,Tm.subL];rw [if_neg (by omega),if_neg (by omega)];simpa [Ao,CL] using this
 | recs n m a a' z z' s s' k k' ha hz hs hk iha ihz ihs ihk =>
  intro σ σ' hσ
  have:=Par.recs n m _ _ _ _ _ _ _ _ (iha _ _ (Lr hσ 1)) (ihz _ _ hσ) (ihs _ _ (Lr hσ 2)) (ihk _ _ hσ)
  rw [EF,AoK,← EF];simp only [Tm.sub,Tm.subL];rw [if_neg (by omega),if_neg (by omega),if_neg (by omega)];simpa [Ao,CL] using this
theorem Adx {Q:Tm→Tm→Prop}:∀(ks:List Tm),(∀a∈ks,∃d,Q a d)→∃ds:List Tm,ds.length=ks.length∧∀(i:Nat) a d,ks[i]?=some a→ds[i]?=some d→Q a d
 | [],_=>⟨[],rfl,fun i a d h=>by simp at h⟩
 | a::l,h=>by
  obtain ⟨d,hd⟩:=h a List.mem_cons_self;obtain ⟨ds,h1,h2⟩:=Adx l (fun a ha=>h a (List.mem_cons_of_mem _ ha));refine ⟨d::ds,by simp [h1],fun i x y hx hy=>?_⟩;cases i with
  | zero=>simp at hx hy;subst hx hy;exact hd
  | succ i=>simp at hx hy;exact h2 i x y hx hy
def AoY (op n:Int) (ks:List Tm):Prop:=(op=5∧∃m a b x,ks=[.mk 4 m [a,b],x])∨(op=8∧∃m a x y,ks=[.mk 7 m [a,x,y]])∨(op=9∧∃m a x y,ks=[.mk 7 m [a,x,y]])∨(op=30∧n=0∧∃c,ks=[.mk 19 0 [c]])∨(op=19∧n=0∧∃c,ks=[.mk 30 0 [c]]) ∨
 (op=13∧∃a z s m l,ks=[a,z,s,.mk 11 m l])∨(op=13∧∃a z s m k,ks=[a,z,s,.mk 12 m [k]])
theorem An4 {n op:Int} {x y:Tm} {t:Tm} (h:Par (.mk op n [x,y]) t) (ho:op≠1∧op≠5):∃x' y',t=.mk op n [x',y']∧Par x x'∧Par y y':=by
 cases h with
 | var=>exact absurd rfl ho.1
 | node _ _ _ ks' h1 hl hk =>
  obtain ⟨x',y',rfl⟩:=Agw hl;exact ⟨x',y',rfl,hk 0 x x' rfl rfl,hk 1 y y' rfl rfl⟩
 | beta=>exact absurd rfl ho.2
theorem An9 {n op:Int} {x y z:Tm} {t:Tm} (h:Par (.mk op n [x,y,z]) t) (ho:op≠1):∃x' y' z',t=.mk op n [x',y',z']∧Par x x'∧Par y y'∧Par z z':=by
 cases h with
 | var=>exact absurd rfl ho
 | node _ _ _ ks' h1 hl hk =>
  obtain ⟨x',y',z',rfl⟩:=Asw hl;exact ⟨x',y',z',rfl,hk 0 x x' rfl rfl,hk 1 y y' rfl rfl,hk 2 z z' rfl rfl⟩
theorem dev:∀(m:Nat) (t:Tm),t.wt<m→∃d,∀t',Par t t'→Par t' d:=by
 intro m
 induction m with
 | zero=>intro t h;omega
 | succ m ih =>
  intro t hw;obtain ⟨op,n,ks⟩:=t;by_cases h1:op=1
  ·subst h1;refine ⟨.mk 1 n ks,fun t' h=>?_⟩;cases h with
   | var=>exact .var n ks
   | node _ _ _ _ h1=>exact absurd rfl h1
  by_cases hr:AoY op n ks
  ·rcases hr with ⟨rfl,m1,a,b,x,rfl⟩ | ⟨rfl,m1,a,x,y,rfl⟩ | ⟨rfl,m1,a,x,y,rfl⟩ | ⟨rfl,rfl,c,rfl⟩ | ⟨rfl,rfl,c,rfl⟩ | ⟨rfl,a,z,s,m1,l,rfl⟩ | ⟨rfl,a,z,s,m1,k,rfl⟩
   ·simp only [Tm.wt,Tm.wtL] at hw;obtain ⟨db,hb⟩:=ih b (by omega);obtain ⟨dx,hx⟩:=ih x (by omega);refine ⟨db.sub (s1 dx),fun t' h=>?_⟩;cases h with
    | node _ _ _ ks' _ hl hk =>
     obtain ⟨l',x',rfl⟩:=Agw hl;obtain ⟨a',b',rfl,_,q2⟩:=An4 (hk 0 _ l' rfl rfl) (by decide);exact .beta n m1 a' b' db x' dx (hb b' q2) (hx x' (hk 1 x x' rfl rfl))
    | beta _ _ _ _ b' _ x' p1 p2 =>
     refine LL (hb b' p1) _ _ (fun i=>?_);cases i with
     | zero=>exact hx x' p2
     | succ i=>exact A4 _
   ·simp only [Tm.wt,Tm.wtL] at hw;obtain ⟨dx,hx⟩:=ih x (by omega);refine ⟨dx,fun t' h=>?_⟩;cases h with
    | node _ _ _ ks' _ hl hk =>
     obtain ⟨l',rfl⟩:=Fh hl;obtain ⟨a',x',y',rfl,_,q2,_⟩:=An9 (hk 0 _ l' rfl rfl) (by decide);exact .fst n m1 a' x' dx y' (hx x' q2)
    | fst _ _ _ _ _ _ p=>exact hx _ p
   ·simp only [Tm.wt,Tm.wtL] at hw;obtain ⟨dy,hy⟩:=ih y (by omega);refine ⟨dy,fun t' h=>?_⟩;cases h with
    | node _ _ _ ks' _ hl hk =>
     obtain ⟨l',rfl⟩:=Fh hl;obtain ⟨a',x',y',rfl,_,_,q3⟩:=An9 (hk 0 _ l' rfl rfl) (by decide);exact .snd n m1 a' x' y' dy (hy y' q3)
    | snd _ _ _ _ _ _ p=>exact hy _ p
   ·simp only [Tm.wt,Tm.wtL] at hw;obtain ⟨dc,hc⟩:=ih c (by omega);refine ⟨dc,fun t' h=>?_⟩;cases h with
    | node _ _ _ ks' _ hl hk =>
     obtain ⟨l',rfl⟩:=Fh hl;have hq:=hk 0 _ l' rfl rfl;cases hq with
     | node _ _ _ ks2 _ hl2 hk2 =>
      obtain ⟨c',rfl⟩:=Fh hl2;exact .splq c' dc (hc c' (hk2 0 c c' rfl rfl))
     | quos e _ he=>exact hc _ (.node 30 0 [e] [l'] (by decide) rfl (fun i a b ha hb=>by
       cases i with
       | zero=>simp at ha hb;subst ha hb;exact he
       | succ i=>simp at ha))
    | splq _ _ p=>exact hc _ p
   ·simp only [Tm.wt,Tm.wtL] at hw;obtain ⟨dc,hc⟩:=ih c (by omega);refine ⟨dc,fun t' h=>?_⟩;cases h with
    | node _ _ _ ks' _ hl hk =>
     obtain ⟨l',rfl⟩:=Fh hl;have hq:=hk 0 _ l' rfl rfl;cases hq with
     | node _ _ _ ks2 _ hl2 hk2 =>
      obtain ⟨c',rfl⟩:=Fh hl2;exact .quos c' dc (hc c' (hk2 0 c c' rfl rfl))
     | splq e _ he=>exact hc _ (.node 19 0 [e] [l'] (by decide) rfl (fun i a b ha hb=>by
       cases i with
       | zero=>simp at ha hb;subst ha hb;exact he
       | succ i=>simp at ha))
    | quos _ _ p=>exact hc _ p
   ·simp only [Tm.wt,Tm.wtL] at hw;obtain ⟨dz,hz⟩:=ih z (by omega);refine ⟨dz,fun t' h=>?_⟩;cases h with
    | node _ _ _ ks' _ hl hk =>
     obtain ⟨a',z',s',k',rfl⟩:=Aev hl;have hq:=hk 3 _ k' rfl rfl;cases hq with
     | node _ _ _ l2 _ hl2 hk2=>exact .recz n m1 a' z' dz s' l2 (hz z' (hk 1 z z' rfl rfl))
    | recz _ _ _ _ _ _ _ p=>exact hz _ p
   ·simp only [Tm.wt,Tm.wtL] at hw;obtain ⟨da,ha⟩:=ih a (by omega);obtain ⟨dz,hz⟩:=ih z (by omega);obtain ⟨ds,hs⟩:=ih s (by omega);obtain ⟨dk,hk⟩:=ih k (by omega);refine ⟨ds.sub (s2 (.mk 13 0 [da,dz,ds,dk]) dk),fun t' h=>?_⟩;cases h with
    | node _ _ _ ks' _ hl hkk =>
     obtain ⟨a',z',s',k',rfl⟩:=Aev hl;have hq:=hkk 3 _ k' rfl rfl;cases hq with
     | node _ _ _ l2 _ hl2 hk2 =>
      obtain ⟨k2,rfl⟩:=Fh hl2;exact .recs n m1 a' da z' dz s' ds k2 dk (ha a' (hkk 0 a a' rfl rfl)) (hz z' (hkk 1 z z' rfl rfl)) (hs s' (hkk 2 s s' rfl rfl)) (hk k2 (hk2 0 k k2 rfl rfl))
    | recs _ _ _ a' _ z' _ s' _ k' pa pz ps pk =>
     refine LL (hs s' ps) _ _ (fun i=>?_)
     match i with
     | 0 =>
      refine .node 13 0 _ _ (by decide) rfl (fun i a1 b1 e1 e2=>?_)
      match i with
      | 0=>simp at e1 e2;subst e1 e2;exact ha a' pa
      | 1=>simp at e1 e2;subst e1 e2;exact hz z' pz
      | 2=>simp at e1 e2;subst e1 e2;exact hs s' ps
      | 3=>simp at e1 e2;subst e1 e2;exact hk k' pk
      | i+4=>simp at e1
     | 1=>exact hk k' pk
     | i+2=>exact A4 _
  ·simp only [Tm.wt] at hw;obtain ⟨ds,hd1,hd2⟩:=Adx (Q:=fun a d=>∀t',Par a t'→Par t' d) ks (fun a ha=>ih a (by have:=CO ha;omega));refine ⟨.mk op n ds,fun t' h=>?_⟩;cases h with
   | var=>exact absurd rfl h1
   | node _ _ _ ks' _ hl hk =>
    refine .node op n ks' ds h1 (by rw [hd1,hl]) (fun i a b ha hb=>?_);have hi:i<ks.length:=by rw [← hl];exact (List.getElem?_eq_some_iff.1 ha).1
    have hx:=List.getElem?_eq_getElem hi;exact hd2 i _ b hx hb a (hk i _ a hx ha)
   | beta _ m1 a b b' x x'=>exact absurd (.inl ⟨rfl,m1,a,b,x,rfl⟩) hr
   | fst _ m1 a x x' y=>exact absurd (.inr (.inl ⟨rfl,m1,a,x,y,rfl⟩)) hr
   | snd _ m1 a x y y'=>exact absurd (.inr (.inr (.inl ⟨rfl,m1,a,x,y,rfl⟩))) hr
   | splq c c'=>exact absurd (.inr (.inr (.inr (.inl ⟨rfl,rfl,c,rfl⟩)))) hr
   | quos c c'=>exact absurd (.inr (.inr (.inr (.inr (.inl ⟨rfl,rfl,c,rfl⟩))))) hr
   | recz _ m1 a z z' s l=>exact absurd (.inr (.inr (.inr (.inr (.inr (.inl ⟨rfl,a,z,s,m1,l,rfl⟩)))))) hr
   | recs _ m1 a a' z z' s s' k k'=>exact absurd (.inr (.inr (.inr (.inr (.inr (.inr ⟨rfl,a,z,s,m1,k,rfl⟩)))))) hr
inductive Pars:Tm→Tm→Prop
 | refl (t:Tm):Pars t t
 | step {a b c:Tm} (h:Par a b) (hs:Pars b c):Pars a c
theorem CV {a b:Tm} (h:Par a b):Pars a b:=.step h (.refl _)
theorem By {a b c:Tm} (h:Pars a b) (h2:Pars b c):Pars a c:=by
 induction h with
 | refl=>exact h2
 | step h _ ih=>exact .step h (ih h2)
theorem AsH {a c:Tm} (h:Pars a c):∀{b:Tm},Par a b→∃d,Pars b d∧Par c d:=by
 induction h with
 | refl t=>intro b hb;exact ⟨b,.refl _,hb⟩
 | @step a b' c h _ ih =>
  intro b hb;obtain ⟨d,hd⟩:=dev (a.wt+1) a (by omega);obtain ⟨e,h1,h2⟩:=ih (hd _ h);exact ⟨e,.step (hd _ hb) h1,h2⟩
theorem Sw {a b:Tm} (h:Pars a b):∀{c:Tm},Pars a c→∃d,Pars b d∧Pars c d:=by
 induction h with
 | refl t=>intro c hc;exact ⟨c,hc,.refl _⟩
 | step h _ ih =>
  intro c hc;obtain ⟨d,h1,h2⟩:=AsH hc h;obtain ⟨e,h3,h4⟩:=ih h1;exact ⟨e,h3,.step h2 h4⟩
theorem Ajd {t t':Tm} (h:Par t t'):t.stl→t'=t:=by
 induction h with
 | var=>intro _;rfl
 | node op n ks ks' h1 hl hk ih =>
  intro hs;rw [Tm.stl] at hs;congr 1;apply List.ext_getElem?;intro i;by_cases hi:i<ks.length
  ·have hx:=List.getElem?_eq_getElem hi;have hy:=List.getElem?_eq_getElem (show i<ks'.length by omega)
   rw [hx,hy,ih i _ _ hx hy (UG hs.2 (List.mem_of_getElem? hx))]
  ·rw [List.getElem?_eq_none (by omega),List.getElem?_eq_none (by omega)]
 | beta n m a b b' x x'=>intro hs;rw [Tm.stl] at hs;exact absurd rfl (hs.1.2.1 rfl _ rfl)
 | fst n m a x x' y=>intro hs;rw [Tm.stl] at hs;exact absurd rfl (hs.1.2.2 (.inl rfl) _ rfl)
 | snd n m a x y y'=>intro hs;rw [Tm.stl] at hs;exact absurd rfl (hs.1.2.2 (.inr rfl) _ rfl)
 | splq c c'=>intro hs;rw [Tm.stl] at hs;exact absurd rfl (hs.1.1.1 rfl _ rfl)
 | quos c c'=>intro hs;rw [Tm.stl] at hs;exact absurd rfl (hs.1.1.2.1 rfl _ rfl)
 | recz n m a z z' s l=>intro hs;rw [Tm.stl] at hs;exact absurd rfl (hs.1.1.2.2 rfl _ rfl).1
 | recs n m a a' z z' s s' k k'=>intro hs;rw [Tm.stl] at hs;exact absurd rfl (hs.1.1.2.2 rfl _ rfl).2
theorem Co {t t':Tm} (h:Pars t t'):t.stl→t'=t:=by
 induction h with
 | refl=>intro _;rfl
 | step h _ ih =>
  intro hs
  have:=Ajd h hs
  subst this;exact ih hs
theorem AhT {t u n m d:Tm} (h1:Pars t n) (h2:Pars u m) (h3:Pars t d) (h4:Pars u d) (hn:n.stl) (hm:m.stl):n=m:=by
 obtain ⟨e,a1,a2⟩:=Sw h1 h3;obtain ⟨e',b1,b2⟩:=Sw h2 h4
 have:=Co a1 hn
 subst this
 have:=Co b1 hm
 subst this;obtain ⟨x,c1,c2⟩:=Sw a2 b2;rw [← Co c1 hn,Co c2 hm]
theorem EQ {op n:Int} (h1:op≠1):∀{ks ks':List Tm},ks'.length=ks.length→(∀(i:Nat) a b,ks[i]?=some a→ks'[i]?=some b→Pars a b)→Pars (.mk op n ks) (.mk op n ks'):=by
 have key:∀(
        pre ks ks':List Tm),ks'.length=ks.length→(∀(i:Nat) a b,ks[i]?=some a→ks'[i]?=some b→Pars a b)→Pars (.mk op n (pre++ks)) (.mk op n (pre++ks')):=by
  intro pre ks
  induction ks generalizing pre with
  | nil =>
   intro ks' hl _;rw [List.eq_nil_of_length_eq_zero hl];exact .refl _
  | cons a l ih =>
   intro ks' hl hk;cases ks' with
   | nil=>simp at hl
   | cons b l' =>
    have hab:=hk 0 a b rfl rfl;have hrest:=ih (pre++[b]) l' (by simpa using hl) (fun i x y hx hy=>hk (i+1) x y (by simpa using hx) (by simpa using hy));rw [List.append_assoc,List.append_assoc] at hrest;refine By ?_ hrest;have one:∀{x y:Tm},Pars x y→Pars (.mk op n (pre++x::l)) (.mk op n (pre++y::l)):=by
     intro x y h
     induction h with
     | refl=>exact .refl _
     | step h _ ih2 =>
      refine .step (.node op n _ _ h1 (by simp) (fun i p q hp hq=>?_)) ih2;by_cases hi:i<pre.length
      ·rw [List.getElem?_append_left hi] at hp hq;rw [hp] at hq;cases hq;exact A4 _
      ·rw [List.getElem?_append_right (by omega)] at hp hq;cases hd:i - pre.length with
       | zero =>
        rw [hd] at hp hq;simp at hp hq;subst hp hq;exact h
       | succ j =>
        rw [hd] at hp hq;simp at hp hq;rw [hp] at hq;cases hq;exact A4 _
    exact one hab
 intro ks ks' hl hk;exact key [] ks ks' hl hk
theorem JZ {t t':Tm} (h:Pars t t') (σ:Nat→Tm):Pars (t.sub σ) (t'.sub σ):=by
 induction h with
 | refl=>exact .refl _
 | step h _ ih=>exact .step (LL h σ σ (fun i=>A4 _)) ih
theorem AlY (t:Tm) (σ:Nat→Tm) (j:Nat) {x y:Tm} (h:Pars x y):Pars (t.sub fun i=>if i=j then x else σ i) (t.sub fun i=>if i=j then y else σ i):=by
 induction h with
 | refl=>exact .refl _
 | step h _ ih =>
  refine .step (LL (A4 t) _ _ (fun i=>?_)) ih;by_cases hi:i=j
  ·simp only [hi,if_true];exact h
  ·simp only [hi,if_false];exact A4 _
mutual
def Tm.wa:Tm→Prop
 | .mk op n ks=>ar op=some ks.length∧((op=1→0≤n)∧(op=19∨op=30→n=0))∧Tm.waL ks
def Tm.waL:List Tm→Prop
 | []=>True
 | t::l=>t.wa∧Tm.waL l
end
mutual
theorem Aoj:∀(t:Tm) (k:Nat),t.sc k→t.wa
 | .mk op n ks,k,h=>by
  rw [Tm.sc] at h;rw [Tm.wa];refine ⟨h.1,⟨fun h1=>?_,fun h9=>?_⟩,scL_wa ks op 0 k h.2.2⟩
  ·have:=h.2.1
   rw [if_pos h1] at this;exact this.1
  ·have:=h.2.1
   rw [if_neg (by omega)] at this;rcases h9 with rfl | rfl<;>simpa [BH] using this
theorem scL_wa:∀(l:List Tm) (op:Int) (i k:Nat),Tm.scL op i l k→Tm.waL l
 | [],_,_,_,_=>by rw [Tm.waL];trivial
 | t::l,op,i,k,h=>by
  rw [Tm.scL] at h;rw [Tm.waL];exact ⟨Aoj t _ h.1,scL_wa l op (i+1) k h.2⟩
end
inductive Un:Nat→RV→Tm→Prop
 | var (u:Nat) (n:Int) (h:n<u):Un u (.var n) (.mk 1 ((u:Int) - 1 - n) [])
 | node (u:Nat) (op n:Int) (k:List RV) (ts:List Tm) (T:Nat→Nat→Tm) (h1:op≠1) (h9:op=19∨op=30→n=0) (har:ar op=some ts.length) (hl:k.length=ts.length)
   (hk:∀(i:Nat) v t,Ao op i=0→k[i]?=some v→ts[i]?=some t→Un u v t)
   (hc:∀(i:Nat) (v:RV) t,0<Ao op i→k[i]?=some v→ts[i]?=some t→t=v.b.sub (CQ (Ao op i) (T i))∧v.b.wa)
   (hf:∀(i:Nat) (v:RV) (j:Nat),0<Ao op i→k[i]?=some v→v.env.length≤j→T i j=vT (u+(j - v.env.length)))
   (he:∀(i:Nat) (v:RV) (j:Nat) x,0<Ao op i→k[i]?=some v→v.env.reverse[j]?=some x→Un u x (T i j)):Un u (.node op n k) (.mk op n ts)
def Ts (u:Nat) (env:List RV) (τ:Nat→Tm):Prop:=(∀(j:Nat) x,env.reverse[j]?=some x→Un u x (τ j))∧∀j,env.length≤j→τ j=vT (u+(j - env.length))
theorem G3 {u:Nat} {v:RV} {t:Tm} (h:Un u v t) (h1:v.op≠1):∃(ts:List Tm) (T:Nat→Nat→Tm),(v.op=19∨v.op=30→v.n=0)∧v=.node v.op v.n v.k∧t=.mk v.op v.n ts∧ar v.op=some ts.length∧v.k.length=ts.length∧(∀(i:Nat) x y,Ao v.op i=0→v.k[i]?=some x→ts[i]?=some y→Un u x y) ∧
  (∀(i:Nat) (x:RV) y,0<Ao v.op i→v.k[i]?=some x→ts[i]?=some y→y=x.b.sub (CQ (Ao v.op i) (T i))∧x.b.wa∧Ts u x.env (T i)):=by
 cases h with
 | var=>exact absurd rfl h1
 | node op n k ts T h1 h9 har hl hk hc hf he =>
  refine ⟨ts,T,h9,rfl,rfl,har,hl,hk,fun i x y a b c=>?_⟩;obtain ⟨q1,q2⟩:=hc i x y a b c;exact ⟨q1,q2,fun j z hz=>he i x j z a b hz,fun j hj=>hf i x j a b hj⟩
theorem At7 {u:Nat} {v:RV} {t:Tm} (h:Un u v t):∀d:Nat,Un (u+d) v (t.ren fun j=>j+d):=by
 induction h with
 | var n h =>
  intro d;have e:(Tm.mk 1 ((u:Int) - 1 - n) [])=vT ((u:Int) - 1 - n).toNat:=by rw [vT];congr 1;omega
  rw [e,G6]
  have:=Un.var (u+d) n (by omega)
  have e2:vT (((u:Int) - 1 - n).toNat+d)=.mk 1 (((u+d:Nat):Int) - 1 - n) []:=by rw [vT];congr 1;omega
  rw [e2];exact this
 | node op n k ts T h1 h9 har hl hk hc hf he ihk ihe =>
  intro d;rw [Tm.ren,if_neg h1];refine .node (u+d) op n k _ (fun i j=>(T i j).ren fun x=>x+d) h1 h9 (by rw [Hr];exact har) (by rw [Hr];exact hl) ?_ ?_ ?_ ?_
  ·intro i v t hb hv ht;rw [LX,Nat.zero_add] at ht;cases hx:ts[i]? with
   | none=>rw [hx] at ht;cases ht
   | some y =>
    rw [hx,hb,DC] at ht;simp only [Ayl,Ayi] at ht;subst ht;exact ihk i v y hb hv hx d
  ·intro i v t hb hv ht;rw [LX,Nat.zero_add] at ht;cases hx:ts[i]? with
   | none=>rw [hx] at ht;cases ht
   | some y =>
    rw [hx] at ht;simp only [Ayl,Ayi] at ht;subst ht;obtain ⟨q1,q2⟩:=hc i v y hb hv hx;refine ⟨?_,q2⟩;rw [q1,FH,ZX]
  ·intro i v j hb hv hj;rw [hf i v j hb hv hj,G6];congr 1;omega
  ·intro i v j x hb hv hx;exact ihe i v j x hb hv hx d
theorem Afl:Ts 0 [] vT:=⟨fun j x h=>by simp at h,fun j _=>by simp⟩
theorem Nz {u:Nat} {env:List RV} {τ:Nat→Tm} (h:Ts u env τ) {x:RV} {t:Tm} (hx:Un u x t):Ts u (env++[x]) (fun i=>match i with | 0=>t | j+1=>τ j):=by
 refine ⟨fun j y hy=>?_,fun j hj=>?_⟩
 ·rw [List.reverse_append] at hy;cases j with
  | zero =>
   simp at hy;subst hy;exact hx
  | succ j =>
   simp only [List.reverse_cons,List.reverse_nil,List.nil_append,List.cons_append,List.getElem?_cons_succ] at hy;exact h.1 j y hy
 ·rw [List.length_append,Aym,List.length_nil] at hj ⊢;cases j with
  | zero=>omega
  | succ j =>
   simp only;rw [h.2 j (by omega)];congr 1;omega
theorem AmG {u:Nat} {env:List RV} {τ:Nat→Tm} (h:Ts u env τ) (b:Nat):Ts (u+b) (env++JU u b) (CQ b τ):=by
 refine ⟨fun j y hy=>?_,fun j hj=>?_⟩
 ·rw [List.reverse_append] at hy;by_cases hjb:j<b
  ·rw [List.getElem?_append_left (by rw [List.length_reverse,CG];exact hjb)] at hy;obtain ⟨_,rfl⟩:=AbN _ _ _ hy;simp only [CQ,if_pos hjb]
   have:=Un.var (u+b) ((u:Int)+((b - 1 - j:Nat):Int)) (by omega)
   have e:vT j=.mk 1 (((u+b:Nat):Int) - 1 - ((u:Int)+((b - 1 - j:Nat):Int))) []:=by rw [vT];congr 1;omega
   rw [e];exact this
  ·rw [List.getElem?_append_right (by rw [List.length_reverse,CG];omega),List.length_reverse,CG] at hy;simp only [CQ,if_neg hjb];exact At7 (h.1 _ _ hy) b
 ·rw [List.length_append,CG] at hj ⊢;simp only [CQ];rw [if_neg (by omega),h.2 _ (by omega),G6];congr 1;omega
theorem AeK {f:Nat} {s n:Int} {k0 x v:RV} {s':Int} (h:headR (f+1) s 0 (.node 5 n [k0,x])=some (v,s',0)):k0.op=4∧(∃c,k0.k[1]?=some c∧AM f (s+1) 0 c.b (c.env++[x])=some (v,s',0))∨k0.op≠4∧v=.node 5 n [k0,x]:=by
 rw [headR,if_neg (by simp)] at h;by_cases hs:s<0∨1000000<s
 ·rw [if_pos hs] at h;cases h
 rw [if_neg hs,if_pos (show RV.op (.node 5 n [k0,x])=5 from rfl),show RV.k (.node 5 n [k0,x])=[k0,x] from rfl] at h
 simp only [List.getElem?_cons_zero,List.getElem?_cons_succ] at h;by_cases h0:k0.op=4
 ·rw [if_pos h0] at h;by_cases h1:s+1≤1000
  ·rw [if_pos h1] at h;cases hc:k0.k[1]? with
   | none=>rw [hc] at h;cases h
   | some c =>
    rw [hc] at h;simp only at h;by_cases h2:900000<c.env.length
    ·rw [if_pos h2] at h;cases h
    ·rw [if_neg h2] at h;exact .inl ⟨h0,c,rfl,h⟩
  ·rw [if_neg h1] at h;simp at h
 ·rw [if_neg h0] at h;simp only [Ayi,Ayj] at h;exact .inr ⟨h0,h.1.symm⟩
theorem Wf {f:Nat} {s op n:Int} {k0 v:RV} {s':Int} (ho:op=8∨op=9) (h:headR (f+1) s 0 (.node op n [k0])=some (v,s',0)):k0.op=7∧k0.k[(1+op - 8).toNat]?=some v∨k0.op≠7∧v=.node op n [k0]:=by
 rw [headR,if_neg (by simp)] at h;by_cases hs:s<0∨1000000<s
 ·rw [if_pos hs] at h;cases h
 have hop:RV.op (.node op n [k0])=op:=rfl;rw [if_neg hs,hop,if_neg (by omega),if_pos ho,show RV.k (.node op n [k0])=[k0] from rfl] at h
 simp only [List.getElem?_cons_zero] at h;by_cases h0:k0.op=7
 ·rw [if_pos h0] at h;by_cases h1:s+1≤1000
  ·rw [if_pos h1] at h;cases hw:k0.k[(1+op - 8).toNat]? with
   | none=>rw [hw] at h;cases h
   | some w =>
    rw [hw] at h;simp only [Ayl,Ayi,Ayj] at h;rw [← h.1];exact .inl ⟨h0,rfl⟩
  ·rw [if_neg h1] at h;simp at h
 ·rw [if_neg h0] at h;simp only [Ayi,Ayj] at h;exact .inr ⟨h0,h.1.symm⟩
theorem PO {ev:Int→Int→Tm→Option (RV×Int×Int)} {u:Nat} {env:List RV} {τ:Nat→Tm} (henv:Ts u env τ) (hev:∀s t v s',ev s 0 t=some (v,s',0)→t.wa→∃w,Un u v w∧Pars (t.sub τ) w) (herr:∀s e t v s',ev s e t=some (v,s',0)→e=0) (op:Int) :
  ∀(l:List Tm) (i:Nat) (s:Int) (vs:List RV) (s':Int),Ba ev op env i l s 0=some (vs,s',0)→Tm.waL l→∃ts:List Tm,ts.length=l.length∧vs.length=l.length∧(∀(j:Nat) a b,(Tm.subL op i l τ)[j]?=some a→ts[j]?=some b→Pars a b) ∧
   (∀(j:Nat) v t,Ao op (i+j)=0→vs[j]?=some v→ts[j]?=some t→Un u v t)∧(∀(j:Nat) (v:RV) t,0<Ao op (i+j)→vs[j]?=some v→ts[j]?=some t→t=v.b.sub (CQ (Ao op (i+j)) τ)∧v.b.wa∧v.env=env)
 | [],i,s,vs,s',h,hw=>by
  simp only [Ba,Ayi,Ayj] at h;obtain ⟨rfl,_⟩:=h;exact ⟨[],rfl,rfl,fun j a b h=>by simp [Tm.subL] at h,fun j v t _ h=>by simp at h,fun j v t _ h=>by simp at h⟩
 | t::l,i,s,vs,s',h,hw=>by
  rw [Tm.waL] at hw;simp only [Ba] at h;by_cases hb:0<Ao op i
  ·rw [if_pos hb] at h;cases hk:Ba ev op env (i+1) l s 0 with
   | none=>rw [hk] at h;cases h
   | some q =>
    obtain ⟨us,s1,e1⟩:=q;rw [hk] at h;simp only [Ayl,Ayi,Ayj] at h;obtain ⟨rfl,rfl,rfl⟩:=h;obtain ⟨ts,a1,a2,a3,a4,a5⟩:=PO henv hev herr op l (i+1) s us s1 hk hw.2;refine ⟨t.sub (CQ (Ao op i) τ)::ts,by simp [a1],by simp [a2],?_,?_,?_⟩
    ·intro j a b ha hb';cases j with
     | zero =>
      simp only [Tm.subL,List.getElem?_cons_zero,Ayi] at ha hb';subst ha hb';exact .refl _
     | succ j =>
      simp only [Tm.subL,List.getElem?_cons_succ] at ha hb';exact a3 j a b ha hb'
    ·intro j v x h0 hv hx;cases j with
     | zero=>rw [Nat.add_zero] at h0;omega
     | succ j =>
      simp only [List.getElem?_cons_succ] at hv hx;exact a4 j v x (by rw [← h0];congr 1;omega) hv hx
    ·intro j v x h0 hv hx;cases j with
     | zero =>
      simp only [List.getElem?_cons_zero,Ayi] at hv hx;subst hv hx;exact ⟨rfl,hw.1,rfl⟩
     | succ j =>
      simp only [List.getElem?_cons_succ] at hv hx
      have:=a5 j v x (by rw [show i+1+j=i+(j+1) by omega];exact h0) hv hx
      rw [show i+1+j=i+(j+1) by omega] at this
      exact this
  ·rw [if_neg hb] at h;have hb0:Ao op i=0:=by omega
   cases he:ev s 0 t with
   | none=>rw [he] at h;cases h
   | some q =>
    obtain ⟨v0,s1,e1⟩:=q;rw [he] at h;simp only at h;cases hk:Ba ev op env (i+1) l s1 e1 with
    | none=>rw [hk] at h;cases h
    | some q =>
     obtain ⟨us,s3,e3⟩:=q;rw [hk] at h;simp only [Ayl,Ayi,Ayj] at h;obtain ⟨rfl,rfl,rfl⟩:=h;have he1:=JK ev herr op env l _ _ _ _ _ hk;subst he1;obtain ⟨w,w1,w2⟩:=hev _ _ _ _ he hw.1;obtain ⟨ts,a1,a2,a3,a4,a5⟩:=PO henv hev herr op l (i+1) s1 us s3 hk hw.2;refine ⟨w::ts,by simp [a1],by simp [a2],?_,?_,?_⟩
     ·intro j a b ha hb';cases j with
      | zero =>
       simp only [Tm.subL,List.getElem?_cons_zero,Ayi] at ha hb';subst ha hb';rw [hb0,CL];exact w2
      | succ j =>
       simp only [Tm.subL,List.getElem?_cons_succ] at ha hb';exact a3 j a b ha hb'
     ·intro j v x h0 hv hx;cases j with
      | zero =>
       simp only [List.getElem?_cons_zero,Ayi] at hv hx;subst hv hx;exact w1
      | succ j =>
       simp only [List.getElem?_cons_succ] at hv hx;exact a4 j v x (by rw [← h0];congr 1;omega) hv hx
     ·intro j v x h0 hv hx;cases j with
      | zero=>rw [Nat.add_zero] at h0;omega
      | succ j =>
       simp only [List.getElem?_cons_succ] at hv hx
       have:=a5 j v x (by rw [show i+1+j=i+(j+1) by omega];exact h0) hv hx
       rw [show i+1+j=i+(j+1) by omega] at this
       exact this
def EvU (f:Nat):Prop:=∀s t env v s' u τ,AM f s 0 t env=some (v,s',0)→t.wa→Ts u env τ→∃w,Un u v w∧Pars (t.sub τ) w
def HdU (f:Nat):Prop:=∀s op n k v s' u ts,headR f s 0 (.node op n k)=some (v,s',0)→op≠1→Un u (.node op n k) (.mk op n ts)→∃w,Un u v w∧Pars (.mk op n ts) w
theorem AtW {f:Nat} (ihE:EvU f) (ihH:HdU f):EvU (f+1):=by
 intro s t env v s' u τ h hw henv;obtain ⟨op,m,ks⟩:=t;rw [Tm.wa] at hw;by_cases h1:op=1
 ·subst h1;have hks:ks=[]:=List.eq_nil_of_length_eq_zero (Option.some.inj hw.1.symm);subst hks;have hm:=hw.2.1.1 rfl;have hv:¬ (m<0∨([]:List Tm).isEmpty=false):=by
   rintro (h | h)
   ·omega
   ·cases h
  rw [Tm.sub,if_pos rfl,if_neg hv];rcases (Zd h hm).1 with ⟨a1,a2⟩ | ⟨a1,rfl⟩
  ·exact ⟨_,henv.1 _ _ a2,.refl _⟩
  ·refine ⟨_,?_,.refl _⟩;rw [henv.2 _ (by omega)]
   have:=Un.var u ((env.length:Int) - 1 - m) (by omega)
   have e:vT (u+(m.toNat - env.length))=.mk 1 ((u:Int) - 1 - ((env.length:Int) - 1 - m)) []:=by rw [vT];congr 1;omega
   rw [e];exact this
 ·obtain ⟨vs,s1,q1,q2⟩:=G8 h h1;obtain ⟨ts,a1,a2,a3,a4,a5⟩:=PO henv (fun s t v s' a b=>ihE s t env v s' u τ a b henv) (fun s e t v s' a=>Fb a) op ks 0 s vs s1 q1 hw.2.2;simp only [Nat.zero_add] at a4 a5;have hun:Un u (.node op m vs) (.mk op m ts):=by
   refine .node u op m vs ts (fun _=>τ) h1 hw.2.1.2 (by rw [a1];exact hw.1) (by rw [a1,a2]) a4 (fun i v t b c d=>⟨(a5 i v t b c d).1,(a5 i v t b c d).2.1⟩) ?_ ?_
   ·intro i v j b c hj;have hi:i<ts.length:=by rw [a1,← a2];exact (List.getElem?_eq_some_iff.1 c).1
    have:=(a5 i v _ b c (List.getElem?_eq_getElem hi)).2.2
    rw [this] at hj ⊢;exact henv.2 j hj
   ·intro i v j x b c hx;have hi:i<ts.length:=by rw [a1,← a2];exact (List.getElem?_eq_some_iff.1 c).1
    have:=(a5 i v _ b c (List.getElem?_eq_getElem hi)).2.2
    rw [this] at hx;exact henv.1 j x hx
  obtain ⟨w,w1,w2⟩:=ihH _ _ _ _ _ _ u ts q2 h1 hun;refine ⟨w,w1,?_⟩;rw [Tm.sub,if_neg h1];exact By (EQ h1 (by rw [J9,a1]) a3) w2
theorem Ate {f:Nat} (ihE:EvU f) (ihH:HdU f):HdU (f+1):=by
 intro s op n k v s' u ts h h1 hun;obtain ⟨ts',T,hn9,_,e2,har,hl,hk,hc⟩:=G3 hun h1;simp only [RV.node,RV.op,RV.n,RV.k,Tm.mk.injEq,true_and] at e2 har hl hk hc hn9;subst e2;by_cases h5:op=5
 ·subst h5;obtain ⟨t0,tx,rfl⟩:=Agw (Option.some.inj har.symm:ts.length=2);obtain ⟨k0,x,rfl⟩:=Agw (hl.trans rfl:k.length=2);have u0:=hk 0 k0 t0 rfl rfl rfl;have ux:=hk 1 x tx rfl rfl rfl;rcases AeK h with ⟨h4,c,hcc,hev⟩ | ⟨_,rfl⟩
  ·obtain ⟨us,T0,n0,e0,rfl,OB,l0,_,c0⟩:=G3 u0 (by omega);rw [h4] at OB c0 ⊢;obtain ⟨ta,tb,rfl⟩:=Agw (Option.some.inj OB.symm:us.length=2);obtain ⟨rfl,hwa,henv⟩:=c0 1 c tb (by decide) hcc rfl;obtain ⟨w,w1,w2⟩:=ihE _ _ _ _ _ u _ hev hwa (Nz henv ux);refine ⟨w,w1,.step (.beta n k0.n ta _ _ tx tx (A4 _) (A4 _)) ?_⟩;rw [EF]
   have:(fun i=>(CQ (Ao 4 1) (T0 1) i).sub (s1 tx))=fun i=>match i with | 0=>tx | j+1=>T0 1 j:=by
    funext i
    cases i with
    | zero=>simp [CQ,E0,s1,show Ao 4 1=1 from rfl]
    | succ i =>
     simp only [CQ,show Ao 4 1=1 from rfl]
     rw [if_neg (by omega),Nat.add_sub_cancel,Gl _ _ _ (fun j=>rfl)]
   rw [this];exact w2
  ·exact ⟨_,hun,.refl _⟩
 by_cases h89:op=8∨op=9
 ·have hl1:ts.length=1:=by rcases h89 with rfl | rfl<;>exact Option.some.inj har.symm
  obtain ⟨t0,rfl⟩:=Fh hl1;obtain ⟨k0,rfl⟩:=Fh (hl.trans rfl:k.length=1);have u0:=hk 0 k0 t0 (by rcases h89 with rfl | rfl<;>rfl) rfl rfl;rcases Wf h89 h with ⟨h7,hx⟩ | ⟨_,rfl⟩
  ·obtain ⟨us,T0,n0,e0,rfl,OB,l0,hk0,_⟩:=G3 u0 (by omega);rw [h7] at OB hk0 ⊢;obtain ⟨ta,tb,tc,rfl⟩:=Asw (Option.some.inj OB.symm:us.length=3);rcases h89 with rfl | rfl
   ·exact ⟨tb,hk0 1 v tb rfl hx rfl,CV (.fst n k0.n ta tb tb tc (A4 _))⟩
   ·exact ⟨tc,hk0 2 v tc rfl hx rfl,CV (.snd n k0.n ta tb tc tc (A4 _))⟩
  ·exact ⟨_,hun,.refl _⟩
 by_cases h30:op=30
 ·subst h30;obtain ⟨t0,rfl⟩:=Fh (Option.some.inj har.symm:ts.length=1);obtain ⟨k0,rfl⟩:=Fh (hl.trans rfl:k.length=1);have u0:=hk 0 k0 t0 rfl rfl rfl;rcases Su h with ⟨h7,hx⟩ | ⟨_,rfl⟩
  ·obtain ⟨us,T0,n0,e0,rfl,OB,l0,hk0,_⟩:=G3 u0 (by omega);rw [h7] at OB hk0 ⊢;obtain ⟨ta,rfl⟩:=Fh (Option.some.inj OB.symm:us.length=1);exact ⟨ta,hk0 0 v ta rfl hx rfl,by rw [hn9 (.inr rfl),n0 (.inl h7)];exact CV (.splq ta ta (A4 _))⟩
  ·exact ⟨_,hun,.refl _⟩
 by_cases h19:op=19
 ·subst h19;obtain ⟨t0,rfl⟩:=Fh (Option.some.inj har.symm:ts.length=1);obtain ⟨k0,rfl⟩:=Fh (hl.trans rfl:k.length=1);have u0:=hk 0 k0 t0 rfl rfl rfl;rcases UY h with ⟨h7,hx⟩ | ⟨_,rfl⟩
  ·obtain ⟨us,T0,n0,e0,rfl,OB,l0,hk0,_⟩:=G3 u0 (by omega);rw [h7] at OB hk0 ⊢;obtain ⟨ta,rfl⟩:=Fh (Option.some.inj OB.symm:us.length=1);exact ⟨ta,hk0 0 v ta rfl hx rfl,by rw [hn9 (.inl rfl),n0 (.inr h7)];exact CV (.quos ta ta (A4 _))⟩
  ·exact ⟨_,hun,.refl _⟩
 by_cases h13:op=13
 ·subst h13;obtain ⟨t0,t1,t2,t3,rfl⟩:=Aev (Option.some.inj har.symm:ts.length=4);obtain ⟨k0,k1,k2,k3,rfl⟩:=Aev (hl.trans rfl:k.length=4);have u1:=hk 1 k1 t1 rfl rfl rfl;have u3:=hk 3 k3 t3 rfl rfl rfl;rcases Ub h with ⟨h11,rfl⟩ | ⟨h12,x,w,s1',hx,hw,hv⟩ | ⟨_,rfl⟩
  ·obtain ⟨us,T0,n0,e0,rfl,OB,l0,hk0,_⟩:=G3 u3 (by omega);rw [h11];exact ⟨t1,u1,CV (.recz n k3.n t0 t1 t1 t2 us (A4 _))⟩
  ·obtain ⟨us,T0,n0,e0,rfl,OB,l0,hk0,_⟩:=G3 u3 (by omega);rw [h12] at OB hk0 ⊢;obtain ⟨tk,rfl⟩:=Fh (Option.some.inj OB.symm:us.length=1);have ux:=hk0 0 x tk rfl hx rfl;obtain ⟨c2,hwa2,henv2⟩:=hc 2 k2 t2 (by decide) rfl rfl;have hun2:Un u (.node 13 0 [k0,k1,k2,x]) (.mk 13 0 [t0,t1,t2,tk]):=by
    refine .node u 13 0 _ _ T (by decide) (by omega) rfl rfl ?_ ?_ ?_ ?_
    ·intro i v t hb a b
     match i with
     | 0=>exact absurd hb (by decide)
     | 1=>simp at a b;subst a b;exact u1
     | 2=>exact absurd hb (by decide)
     | 3=>simp at a b;subst a b;exact ux
     | i+4=>simp at a
    ·intro i v t hb a b
     match i with
     | 0=>simp at a b;subst a b;exact ⟨(hc 0 k0 t0 hb rfl rfl).1,(hc 0 k0 t0 hb rfl rfl).2.1⟩
     | 1=>exact absurd hb (by decide)
     | 2=>simp at a b;subst a b;exact ⟨(hc 2 k2 t2 hb rfl rfl).1,(hc 2 k2 t2 hb rfl rfl).2.1⟩
     | 3=>exact absurd hb (by decide)
     | i+4=>simp at a
    ·intro i v j hb a hj
     match i with
     | 0=>simp at a;subst a;exact (hc 0 k0 t0 hb rfl rfl).2.2.2 j hj
     | 1=>exact absurd hb (by decide)
     | 2=>simp at a;subst a;exact (hc 2 k2 t2 hb rfl rfl).2.2.2 j hj
     | 3=>exact absurd hb (by decide)
     | i+4=>simp at a
    ·intro i v j y hb a hy
     match i with
     | 0=>simp at a;subst a;exact (hc 0 k0 t0 hb rfl rfl).2.2.1 j y hy
     | 1=>exact absurd hb (by decide)
     | 2=>simp at a;subst a;exact (hc 2 k2 t2 hb rfl rfl).2.2.1 j y hy
     | 3=>exact absurd hb (by decide)
     | i+4=>simp at a
   obtain ⟨tw,w1,w2⟩:=ihH _ _ _ _ _ _ u _ hw (by decide) hun2;have henv3:=Nz (Nz henv2 ux) w1;rw [List.append_assoc] at henv3;obtain ⟨tv,v1,v2⟩:=ihE _ _ _ _ _ u _ hv hwa2 henv3;refine ⟨tv,v1,.step (.recs n k3.n t0 t0 t1 t1 t2 t2 tk tk (A4 _) (A4 _) (A4 _) (A4 _)) ?_⟩;have e2:t2=k2.b.sub (CQ 2 (T 2)):=c2;have e3:∀r:Tm,t2.sub (s2 r tk)=k2.b.sub (fun i=>if i=0 then r else (fun i=>match i with | 0=>tw | j+1=>(fun i=>match i with | 0=>tk | j+1=>T 2 j) j) i):=by
    intro r;rw [e2,EF];congr 1
    funext i
    match i with
    | 0=>simp [CQ,E0,s2]
    | 1=>simp [CQ,E0,s2]
    | i+2 =>
     simp only [CQ];rw [if_neg (by omega),if_neg (by omega),Nat.add_sub_cancel,Gl _ _ _ (fun j=>rfl)]
   rw [e3];refine By (AlY k2.b _ 0 w2) ?_;have e4:(fun i=>if i=0 then tw else (fun i=>match i with | 0=>tw | j+1=>(fun i=>match i with | 0=>tk | j+1=>T 2 j) j) i)=(fun i=>match i with | 0=>tw | j+1=>(fun i=>match i with | 0=>tk | j+1=>T 2 j) j:Nat→Tm):=by
    funext i
    cases i with
    | zero=>simp
    | succ i=>simp
   rw [e4];exact v2
  ·exact ⟨_,hun,.refl _⟩
 obtain ⟨rfl,_⟩:=Jb h (by omega);exact ⟨_,hun,.refl _⟩
theorem Ad8:∀f,EvU f∧HdU f:=by
 intro f
 induction f with
 | zero=>exact ⟨(by intro s t env v s' u τ h;rw [AM] at h;cases h),(by intro s op n k v s' u ts h;rw [headR] at h;cases h)⟩
 | succ f ih=>exact ⟨AtW ih.1 ih.2,Ate ih.1 ih.2⟩
theorem Amr:∀(f:Nat) (s nd:Int) (v:RV) (u:Nat) (d:Int) (t:Tm) (s' nd':Int) (w:Tm),A9 f s nd 0 v u d=some (t,s',nd',0)→Un u v w→Pars w t:=by
 intro f
 induction f with
 | zero=>intro s nd v u d t s' nd' w h;rw [A9] at h;cases h
 | succ f ih =>
  intro s nd v u d t s' nd' w h hun;rcases TY h with ⟨h1,rfl⟩ | ⟨h1,ts,hrk,rfl⟩
  ·cases hun with
   | var=>exact .refl _
   | node op n k us T h2=>exact absurd h1 h2
  ·obtain ⟨us,T,_,e1,rfl,har,hl,hk,hc⟩:=G3 hun h1;obtain ⟨n1,n2⟩:=Kv (fun s nd e v u t s' nd' h=>Jx h) v.op u v.k 0 s (nd+1) 0 ts s' nd' hrk;refine EQ h1 (by rw [n1,hl]) (fun i a b ha hb=>?_);have hi:i<v.k.length:=by rw [hl];exact (List.getElem?_eq_some_iff.1 ha).1
   have hki:=List.getElem?_eq_getElem hi;obtain ⟨q1,q2,k',q3,q4,⟨q5,q6⟩,q7⟩:=n2 i _ b hki hb;rw [Nat.zero_add] at q5 q6 q7;by_cases hb0:Ao v.op i=0
   ·have:=q6 hb0
    subst this;rw [hb0] at q7;simp only [Int.ofNat_zero,Int.add_zero] at q7;exact ih _ _ _ u _ _ _ _ a (by simpa using q7) (hk i _ a hb0 hki ha)
   ·have hbp:0<Ao v.op i:=by omega
    obtain ⟨s0,hev⟩:=q5 hbp;obtain ⟨rfl,hwa,henv⟩:=hc i _ a hbp hki ha;obtain ⟨w',w1,w2⟩:=(Ad8 f).1 _ _ _ _ _ (u+Ao v.op i) _ hev hwa (AmG henv _);rw [show (u:Int)+(Ao v.op i:Int)=((u+Ao v.op i:Nat):Int) by omega] at q7
    exact By w2 (ih q1 q2 k' (u+Ao v.op i) (d+1) b q3 q4 w' q7 w1)
theorem Gy {f:Nat} {t n:Tm} {k:Nat} (h:A5 f t=some (n,0)) (ht:t.sc k):Pars t n:=by
 rw [A5] at h;cases he:AM f 0 0 t [] with
 | none=>rw [he] at h;cases h
 | some q =>
  obtain ⟨v,s,e⟩:=q;rw [he] at h;simp only at h;cases hr:A9 f s 0 e v 0 1 with
  | none=>rw [hr] at h;cases h
  | some q =>
   obtain ⟨w,s2,nd2,e2⟩:=q;rw [hr] at h;simp only [Ayi] at h;by_cases h2:e2≠0
   ·rw [if_pos h2] at h;simp only [Ayj] at h;exact absurd h.2 h2
   rw [if_neg h2] at h;simp only [Ayj,and_true] at h;subst h;have he2:e2=0:=by omega
   subst he2;have he0:=Jx hr;subst he0;obtain ⟨x,x1,x2⟩:=(Ad8 f).1 _ _ _ _ _ 0 vT he (Aoj t k ht) Afl;rw [KH] at x2;exact By x2 (Amr f s 0 v 0 1 w s2 nd2 x (by simpa using hr) x1)
inductive PT:Tm→Prop
 | int:PT (.mk 15 0 [])
 | bin (op:Int) (a b:Tm) (ho:op=16∨op=17) (ha:PT a) (hb:PT b):PT (.mk op 0 [a,b])
theorem CE {op n:Int} {ks:List Tm} {σ:Nat→Tm} (h:op≠1):(Tm.mk op n ks).sub σ=.mk op n (Tm.subL op 0 ks σ):=by rw [Tm.sub,if_neg h]
theorem Cc {op n:Int} {ks:List Tm} {ρ:Nat→Nat} (h:op≠1):(Tm.mk op n ks).ren ρ=.mk op n (Tm.renL op 0 ks ρ):=by rw [Tm.ren,if_neg h]
theorem Af6 {p:Tm} (h:PT p):∀σ,p.sub σ=p:=by
 induction h with
 | int=>intro σ;rw [CE (by decide)];rfl
 | bin op a b ho ha hb iha ihb =>
  intro σ;rw [CE (by omega)];simp only [Tm.subL,iha,ihb]
theorem I3 {p:Tm} (h:PT p) (ρ:Nat→Nat):p.ren ρ=p:=by rw [GE];exact Af6 h _
theorem IS {op n:Int} {ks:List Tm} (h:op≠30∧op≠19∧op≠13∧op≠5∧op≠8∧op≠9) (hk:Tm.stlL ks):(Tm.mk op n ks).stl:=by
 rw [Tm.stl];exact ⟨⟨⟨by omega,by omega,by omega⟩,by omega,by omega⟩,hk⟩
theorem GX {p:Tm} (h:PT p):p.stl:=by
 induction h with
 | int=>exact IS (by decide) trivial
 | bin op a b ho ha hb iha ihb=>exact IS (by omega) ⟨iha,ihb,trivial⟩
theorem AdE {p x:Tm} (h:PT p) (hp:Pars p x):x=p:=Co hp (GX h)
theorem AfQ {A p q:Tm} (hp:PT p) (hq:PT q) (h1:Pars A p) (h2:Pars A q):p=q:=AhT h1 h2 (.refl A) (.refl A) (GX hp) (GX hq)
theorem Cq:∀(d:Nat) (r:Tm),PT (r.plainT d)
 | 0,r=>by rw [Tm.plainT];exact .int
 | d+1,r=>by
  rw [Tm.plainT];split
  ·exact .int
  ·exact .bin _ _ _ (by omega) (Cq d _) (Cq d _)
theorem AcH {T X:Tm} (h:Pars T X):∀op n x y,T=.mk op n [x,y]→op≠1∧op≠5→∃x' y',X=.mk op n [x',y']∧Pars x x'∧Pars y y':=by
 induction h with
 | refl t=>rintro op n x y rfl ho;exact ⟨x,y,rfl,.refl _,.refl _⟩
 | step h hs ih =>
  rintro op n x y rfl ho;obtain ⟨x1,y1,rfl,h1,h2⟩:=An4 h ho;obtain ⟨x2,y2,rfl,h3,h4⟩:=ih _ _ _ _ rfl ho;exact ⟨x2,y2,rfl,.step h1 h3,.step h2 h4⟩
theorem AqF {n:Int} {x t:Tm} (h:Par (.mk 18 n [x]) t):∃x',t=.mk 18 n [x']∧Par x x':=by
 cases h with
 | node _ _ _ ks' h1 hl hk =>
  obtain ⟨x',rfl⟩:=Fh hl;exact ⟨x',rfl,hk 0 x x' rfl rfl⟩
theorem AnY {T X:Tm} (h:Pars T X):∀n x,T=.mk 18 n [x]→∃x',X=.mk 18 n [x']∧Pars x x':=by
 induction h with
 | refl t=>rintro n x rfl;exact ⟨x,rfl,.refl _⟩
 | step h hs ih =>
  rintro n x rfl;obtain ⟨x1,rfl,h1⟩:=AqF h;obtain ⟨x2,rfl,h3⟩:=ih _ _ rfl;exact ⟨x2,rfl,.step h1 h3⟩
theorem AqQ {x x':Tm} (h:Par x x'):(x.op=2∨x.op=3∨x.op=6)→x'.op=x.op:=by
 cases h with
 | var=>intro _;rfl
 | node=>intro _;rfl
 | _=>intro h;simp [Tm.op] at h
theorem AjO {x x':Tm} (h:Pars x x'):(x.op=2∨x.op=3∨x.op=6)→x'.op=x.op:=by
 induction h with
 | refl=>intro _;rfl
 | step h hs ih=>intro ho;have:=AqQ h ho;rw [← this];exact ih (by omega)
theorem ps2 {op n:Int} {a a' b b':Tm} (h1:op≠1) (ha:Pars a a') (hb:Pars b b'):Pars (.mk op n [a,b]) (.mk op n [a',b']):=by
 refine EQ h1 rfl fun i x y hx hy=>?_
 match i with
 | 0=>simp only [List.getElem?_cons_zero,Ayi] at hx hy;subst hx;subst hy;exact ha
 | 1=>simp only [List.getElem?_cons_succ,List.getElem?_cons_zero,Ayi] at hx hy;subst hx;subst hy;exact hb
 | i+2=>simp at hx
theorem ps1 {op n:Int} {a a':Tm} (h1:op≠1) (ha:Pars a a'):Pars (.mk op n [a]) (.mk op n [a']):=by
 refine EQ h1 rfl fun i x y hx hy=>?_
 match i with
 | 0=>simp only [List.getElem?_cons_zero,Ayi] at hx hy;subst hx;subst hy;exact ha
 | i+1=>simp at hx
theorem ps3 {op n:Int} {a a' b b' c c':Tm} (h1:op≠1) (ha:Pars a a') (hb:Pars b b') (hc:Pars c c'):Pars (.mk op n [a,b,c]) (.mk op n [a',b',c']):=by
 refine EQ h1 rfl fun i x y hx hy=>?_
 match i with
 | 0=>simp only [List.getElem?_cons_zero,Ayi] at hx hy;subst hx;subst hy;exact ha
 | 1=>simp only [List.getElem?_cons_succ,List.getElem?_cons_zero,Ayi] at hx hy;subst hx;subst hy;exact hb
 | 2=>simp only [List.getElem?_cons_succ,List.getElem?_cons_zero,Ayi] at hx hy;subst hx;subst hy;exact hc
 | i+3=>simp at hx
theorem ps4 {n:Int} {a b c d d':Tm} (hd:Pars d d'):Pars (.mk 13 n [a,b,c,d]) (.mk 13 n [a,b,c,d']):=by
 refine EQ (by decide) rfl fun i x y hx hy=>?_
 match i with
 | 0 | 1 | 2=>simp only [List.getElem?_cons_succ,List.getElem?_cons_zero,Ayi] at hx hy;subst hx;subst hy;exact .refl _
 | 3=>simp only [List.getElem?_cons_succ,List.getElem?_cons_zero,Ayi] at hx hy;subst hx;subst hy;exact hd
 | i+4=>simp at hx
theorem CY {t t':Tm} (h:Pars t t') (ρ:Nat→Nat):Pars (t.ren ρ) (t'.ren ρ):=by rw [GE,GE];exact JZ h _
def WQ:Tm:=.mk 15 0 []
inductive OT (m:Nat):List Tm→Tm→Tm→Prop
 | var (g:List Tm) (i:Nat) (P:Tm) (hP:PT P) (hw:P.wt≤m) (hi:i<g.length) (h:g[g.length - 1 - i]?=some P):OT m g (.mk 1 (i:Int) []) P
 | oint (g:List Tm) (n:Int) (hm:1≤m):OT m g (.mk 25 n []) WQ
 | oprim (g:List Tm) (n:Int) (a b:Tm) (ha:OT m g a WQ) (hb:OT m g b WQ):OT m g (.mk 26 n [a,b]) WQ
 | olam (g:List Tm) (a b c:Tm) (ha:PT a) (hw:(Tm.mk 16 0 [a,c]).wt≤m) (hb:OT m (g++[a]) b c):OT m g (.mk 20 0 [a,b]) (.mk 16 0 [a,c])
 | oapp (g:List Tm) (f x a c:Tm) (hf:OT m g f (.mk 16 0 [a,c])) (hx:OT m g x a):OT m g (.mk 21 0 [f,x]) c
 | opair (g:List Tm) (x y a b:Tm) (hw:(Tm.mk 17 0 [a,b]).wt≤m) (hx:OT m g x a) (hy:OT m g y b):OT m g (.mk 22 0 [x,y]) (.mk 17 0 [a,b])
 | ofst (g:List Tm) (x a b:Tm) (hx:OT m g x (.mk 17 0 [a,b])):OT m g (.mk 23 0 [x]) a
 | oif (g:List Tm) (c x y a:Tm) (hc:OT m g c WQ) (hx:OT m g x a) (hy:OT m g y a):OT m g (.mk 27 0 [c,x,y]) a
 | olet (g:List Tm) (x y a b:Tm) (hx:OT m g x a) (hy:OT m (g++[a]) y b):OT m g (.mk 28 0 [x,y]) b
 | ofix (g:List Tm) (a x:Tm) (ha:PT a) (hw:a.wt≤m) (hx:OT m (g++[a]) x a):OT m g (.mk 29 0 [a,x]) a
theorem Sb {op n:Int} {a b:Tm} (h:PT (.mk op n [a,b])):PT a∧PT b∧n=0:=by cases h with | bin _ _ _ _ ha hb=>exact ⟨ha,hb,rfl⟩
theorem SQ {m:Nat} {g:List Tm} {c P:Tm} (h:OT m g c P):PT P∧P.wt≤m:=by
 induction h with
 | var g i P hP hw hi h=>exact ⟨hP,hw⟩
 | oint g n hm=>exact ⟨.int,by simp only [WQ,Tm.wt,Tm.wtL];omega⟩
 | oprim g n a b ha hb iha ihb=>exact iha
 | olam g a b c ha hw hb ih=>exact ⟨.bin 16 a c (by omega) ha ih.1,hw⟩
 | oapp g f x a c hf hx ihf ihx=>exact ⟨(Sb ihf.1).2.1,by have:=ihf.2;simp only [Tm.wt,Tm.wtL] at this;omega⟩
 | opair g x y a b hw hx hy ihx ihy=>exact ⟨.bin 17 a b (by omega) ihx.1 ihy.1,hw⟩
 | ofst g x a b hx ih=>exact ⟨(Sb ih.1).1,by have:=ih.2;simp only [Tm.wt,Tm.wtL] at this;omega⟩
 | oif g c x y a hc hx hy _ ih _=>exact ih
 | olet g x y a b hx hy _ ih=>exact ih
 | ofix g a x ha hw hx ih=>exact ⟨ha,hw⟩
theorem FJ {m m':Nat} (hm:m≤m') {g:List Tm} {c P:Tm} (h:OT m g c P):OT m' g c P:=by
 induction h with
 | var g i P hP hw hi h=>exact .var g i P hP (by omega) hi h
 | oint g n hm=>exact .oint g n (by omega)
 | oprim g n a b ha hb iha ihb=>exact .oprim g n a b iha ihb
 | olam g a b c ha hw hb ih=>exact .olam g a b c ha (by omega) ih
 | oapp g f x a c hf hx ihf ihx=>exact .oapp g f x a c ihf ihx
 | opair g x y a b hw hx hy ihx ihy=>exact .opair g x y a b (by omega) ihx ihy
 | ofst g x a b hx ih=>exact .ofst g x a b ih
 | oif g c x y a hc hx hy i1 i2 i3=>exact .oif g c x y a i1 i2 i3
 | olet g x y a b hx hy i1 i2=>exact .olet g x y a b i1 i2
 | ofix g a x ha hw hx ih=>exact .ofix g a x ha (by omega) ih
def Aad (g g':List Tm) (ρ:Nat→Nat):Prop:=∀i Q,i<g.length→g[g.length - 1 - i]?=some Q→ρ i<g'.length∧g'[g'.length - 1 - ρ i]?=some Q
theorem Np {g g':List Tm} {ρ:Nat→Nat} (h:Aad g g' ρ) (a:Tm):Aad (g++[a]) (g'++[a]) (Kg 1 ρ):=by
 intro i Q hi hQ;simp only [List.length_append,Aym,List.length_nil] at hi hQ ⊢;by_cases h0:i=0
 ·subst h0;rw [Ha (by omega)];rw [List.getElem?_append_right (by omega),show g.length+(0+1) - 1 - 0 - g.length=0 by omega] at hQ
  rw [List.getElem?_append_right (by omega),show g'.length+(0+1) - 1 - 0 - g'.length=0 by omega]
  exact ⟨by omega,hQ⟩
 ·rw [GJ (by omega)];rw [List.getElem?_append_left (by omega),show g.length+(0+1) - 1 - i=g.length - 1 - (i - 1) by omega] at hQ
  obtain ⟨q1,q2⟩:=h (i - 1) Q (by omega) hQ;rw [List.getElem?_append_left (by omega),show g'.length+(0+1) - 1 - (ρ (i - 1)+1)=g'.length - 1 - ρ (i - 1) by omega]
  exact ⟨by omega,q2⟩
theorem AoW {m:Nat} {g:List Tm} {c P:Tm} (h:OT m g c P):∀g' ρ,Aad g g' ρ→OT m g' (c.ren ρ) P:=by
 induction h with
 | var g i P hP hw hi h =>
  intro g' ρ hr;obtain ⟨q1,q2⟩:=hr i P hi h
  have:=G6 i ρ
  rw [vT] at this;rw [this];exact .var g' (ρ i) P hP hw q1 q2
 | oint g n hm=>intro g' ρ hr;rw [Cc (by decide)];exact .oint g' n hm
 | oprim g n a b ha hb iha ihb=>intro g' ρ hr;rw [Cc (by decide)];simp only [Tm.renL,show Ao 26 0=0 from rfl,show Ao 26 (0+1)=0 from rfl,DC];exact .oprim g' n _ _ (iha _ _ hr) (ihb _ _ hr)
 | olam g a b c ha hw hb ih=>intro g' ρ hr;rw [Cc (by decide)];simp only [Tm.renL,show Ao 20 0=0 from rfl,show Ao 20 (0+1)=1 from rfl,DC,I3 ha];exact .olam g' a _ c ha hw (ih _ _ (Np hr a))
 | oapp g f x a c hf hx ihf ihx=>intro g' ρ hr;rw [Cc (by decide)];simp only [Tm.renL,show Ao 21 0=0 from rfl,show Ao 21 (0+1)=0 from rfl,DC];exact .oapp g' _ _ a c (ihf _ _ hr) (ihx _ _ hr)
 | opair g x y a b hw hx hy ihx ihy=>intro g' ρ hr;rw [Cc (by decide)];simp only [Tm.renL,show Ao 22 0=0 from rfl,show Ao 22 (0+1)=0 from rfl,DC];exact .opair g' _ _ a b hw (ihx _ _ hr) (ihy _ _ hr)
 | ofst g x a b hx ih=>intro g' ρ hr;rw [Cc (by decide)];simp only [Tm.renL,show Ao 23 0=0 from rfl,DC];exact .ofst g' _ a b (ih _ _ hr)
 | oif g c x y a hc hx hy i1 i2 i3=>intro g' ρ hr;rw [Cc (by decide)];simp only [Tm.renL,show Ao 27 0=0 from rfl,show Ao 27 (0+1)=0 from rfl,show Ao 27 (0+1+1)=0 from rfl,DC];exact .oif g' _ _ _ a (i1 _ _ hr) (i2 _ _ hr) (i3 _ _ hr)
 | olet g x y a b hx hy i1 i2=>intro g' ρ hr;rw [Cc (by decide)];simp only [Tm.renL,show Ao 28 0=0 from rfl,show Ao 28 (0+1)=1 from rfl,DC];exact .olet g' _ _ a b (i1 _ _ hr) (i2 _ _ (Np hr a))
 | ofix g a x ha hw hx ih=>intro g' ρ hr;rw [Cc (by decide)];simp only [Tm.renL,show Ao 29 0=0 from rfl,show Ao 29 (0+1)=1 from rfl,DC,I3 ha];exact .ofix g' a _ ha hw (ih _ _ (Np hr a))
theorem Anx (g:List Tm) (a:Tm):Aad g (g++[a]) (fun x=>x+1):=by
 intro i Q hi hQ;simp only [List.length_append,Aym,List.length_nil];rw [List.getElem?_append_left (by omega),show g.length+(0+1) - 1 - (i+1)=g.length - 1 - i by omega]
 exact ⟨by omega,hQ⟩
def mw (P:Tm):Nat:=max P.wt 3+7
def natT:Tm:=.mk 10 0 []
def tyT:Tm:=.mk 14 0 []
def Ot (X:Tm):Prop:=X.op=2∨X.op=3∨X.op=6
def WFT (A:Tm):Prop:=Pars A natT∨Pars A tyT∨(∃P,PT P∧Pars A (.mk 18 0 [P]))∨∃X,Pars A X∧Ot X
def Sem (g:List Tm) (A t:Tm):Prop:=(Pars A natT∧∃k,Pars t (CA k))∨(Pars A tyT∧∃P,PT P∧Pars t P)∨(∃P c,PT P∧Pars A (.mk 18 0 [P])∧Pars t (.mk 19 0 [c])∧OT (mw P) g c P)∨∃X,Pars A X∧Ot X
def Atu (g:List Tm) (P t:Tm):Prop:=∃c,Pars t c∧OT (mw P) g c P
theorem Hl:natT.stl:=IS (by decide) trivial
theorem Kf:tyT.stl:=IS (by decide) trivial
theorem TZ {P:Tm} (h:PT P):(Tm.mk 18 0 [P]).stl:=IS (by decide) ⟨GX h,trivial⟩
theorem KV {A A' N:Tm} (h:Pars A N) (hN:N.stl) (h2:Pars A A'):Pars A' N:=by
 obtain ⟨d,q1,q2⟩:=Sw h h2;rw [Co q1 hN] at q2;exact q2
theorem Aor {A A' X:Tm} (h:Pars A X) (hX:Ot X) (h2:Pars A A'):∃d,Pars A' d∧Ot d:=by
 obtain ⟨d,q1,q2⟩:=Sw h h2;refine ⟨d,q2,?_⟩;unfold Ot at hX ⊢;rw [AjO q1 hX];exact hX
theorem AgM {A A':Tm} (h:WFT A) (h2:Pars A A'):WFT A':=by
 rcases h with h | h | ⟨P,hP,h⟩ | ⟨X,h,hX⟩
 ·exact .inl (KV h Hl h2)
 ·exact .inr (.inl (KV h Kf h2))
 ·exact .inr (.inr (.inl ⟨P,hP,KV h (TZ hP) h2⟩))
 ·exact .inr (.inr (.inr (Aor h hX h2)))
theorem Ahe {g:List Tm} {A A' t:Tm} (h:Sem g A t) (h2:Pars A A'):Sem g A' t:=by
 rcases h with ⟨h,ht⟩ | ⟨h,ht⟩ | ⟨P,c,hP,h,ht⟩ | ⟨X,h,hX⟩
 ·exact .inl ⟨KV h Hl h2,ht⟩
 ·exact .inr (.inl ⟨KV h Kf h2,ht⟩)
 ·exact .inr (.inr (.inl ⟨P,c,hP,KV h (TZ hP) h2,ht⟩))
 ·exact .inr (.inr (.inr (Aor h hX h2)))
theorem Ag4 {g:List Tm} {A A' t:Tm} (h:Sem g A' t) (h2:Pars A A'):Sem g A t:=by
 rcases h with ⟨h,ht⟩ | ⟨h,ht⟩ | ⟨P,c,hP,h,ht⟩ | ⟨X,h,hX⟩
 ·exact .inl ⟨By h2 h,ht⟩
 ·exact .inr (.inl ⟨By h2 h,ht⟩)
 ·exact .inr (.inr (.inl ⟨P,c,hP,By h2 h,ht⟩))
 ·exact .inr (.inr (.inr ⟨X,By h2 h,hX⟩))
theorem Kc {g:List Tm} {A t t':Tm} (h:Sem g A t') (h2:Pars t t'):Sem g A t:=by
 rcases h with ⟨h,k,ht⟩ | ⟨h,P,hP,ht⟩ | ⟨P,c,hP,h,ht,ho⟩ | h
 ·exact .inl ⟨h,k,By h2 ht⟩
 ·exact .inr (.inl ⟨h,P,hP,By h2 ht⟩)
 ·exact .inr (.inr (.inl ⟨P,c,hP,h,By h2 ht,ho⟩))
 ·exact .inr (.inr (.inr h))
theorem Arf {X:Tm} (ρ:Nat→Nat) (h:Ot X):Ot (X.ren ρ):=by
 obtain ⟨op,n,ks⟩:=X;unfold Ot at h ⊢;simp only [Tm.op] at h;rw [Cc (by omega)];exact h
theorem UM (ρ:Nat→Nat):∀k,(CA k).ren ρ=CA k
 | 0=>by rw [CA,Cc (by decide)];rfl
 | k+1=>by rw [CA,Cc (by decide)];simp only [Tm.renL,show Ao 12 0=0 from rfl,DC,UM ρ k]
theorem VH (σ:Nat→Tm):∀k,(CA k).sub σ=CA k
 | 0=>by rw [CA,CE (by decide)];rfl
 | k+1=>by rw [CA,CE (by decide)];simp only [Tm.subL,show Ao 12 0=0 from rfl,CL,VH σ k]
theorem OA {op n:Int} {a:Tm} {σ:Nat→Tm} (h:op≠1) (h0:Ao op 0=0):(Tm.mk op n [a]).sub σ=.mk op n [a.sub σ]:=by
 rw [CE h];simp only [Tm.subL,h0,CL]
theorem KN {op n:Int} {a b:Tm} {σ:Nat→Tm} (h:op≠1) (h0:Ao op 0=0):(Tm.mk op n [a,b]).sub σ=.mk op n [a.sub σ,b.sub (CQ (Ao op 1) σ)]:=by
 rw [CE h];simp only [Tm.subL,h0,CL,Nat.zero_add]
theorem AtQ {op n:Int} {a:Tm} {ρ:Nat→Nat} (h:op≠1) (h0:Ao op 0=0):(Tm.mk op n [a]).ren ρ=.mk op n [a.ren ρ]:=by
 rw [Cc h];simp only [Tm.renL,h0,DC]
theorem JM {op n:Int} {σ:Nat→Tm} (h:op≠1):(Tm.mk op n []).sub σ=.mk op n []:=by rw [CE h];rfl
theorem Ux {op n:Int} {ρ:Nat→Nat} (h:op≠1):(Tm.mk op n []).ren ρ=.mk op n []:=by rw [Cc h];rfl
theorem Auo {g:List Tm} {A t:Tm} (h:Sem g A t) (a:Tm):Sem (g++[a]) (A.ren fun x=>x+1) (t.ren fun x=>x+1):=by
 rcases h with ⟨h,k,ht⟩ | ⟨h,P,hP,ht⟩ | ⟨P,c,hP,h,ht,ho⟩ | ⟨X,h,hX⟩
 ·refine .inl ⟨?_,k,?_⟩
  ·have:=CY h fun x=>x+1
   rwa [natT,Ux (by decide)] at this
  ·have:=CY ht fun x=>x+1
   rwa [UM] at this
 ·refine .inr (.inl ⟨?_,P,hP,?_⟩)
  ·have:=CY h fun x=>x+1
   rwa [tyT,Ux (by decide)] at this
  ·have:=CY ht fun x=>x+1
   rwa [I3 hP] at this
 ·refine .inr (.inr (.inl ⟨P,c.ren fun x=>x+1,hP,?_,?_,AoW ho _ _ (Anx g a)⟩))
  ·have:=CY h fun x=>x+1
   rwa [AtQ (by decide) rfl,I3 hP] at this
  ·have:=CY ht fun x=>x+1
   rwa [AtQ (by decide) rfl] at this
 ·exact .inr (.inr (.inr ⟨_,CY h _,Arf _ hX⟩))
theorem Eo {m:Int} {B X:Tm} (h:Pars (.mk 18 m [B]) X):∃B',X=.mk 18 m [B']∧Pars B B':=AnY h m B rfl
theorem AaQ {g:List Tm} {t:Tm} (h:Sem g natT t):∃k,Pars t (CA k):=by
 rcases h with ⟨_,ht⟩ | ⟨h,_⟩ | ⟨P,c,hP,h,_⟩ | ⟨X,h,hX⟩
 ·exact ht
 ·have:=Co h Hl;simp [tyT,natT] at this
 ·have:=Co h Hl;simp [natT] at this
 ·rw [Co h Hl] at hX;simp [Ot,natT,Tm.op] at hX
theorem Wj {g:List Tm} {t:Tm} (h:Sem g tyT t):∃P,PT P∧Pars t P:=by
 rcases h with ⟨h,_⟩ | ⟨_,ht⟩ | ⟨P,c,hP,h,_⟩ | ⟨X,h,hX⟩
 ·have:=Co h Kf;simp [tyT,natT] at this
 ·exact ht
 ·have:=Co h Kf;simp [tyT] at this
 ·rw [Co h Kf] at hX;simp [Ot,tyT,Tm.op] at hX
theorem AgY {g:List Tm} {m:Int} {B t:Tm} (h:Sem g (.mk 18 m [B]) t):∃P c,PT P∧Pars B P∧Pars t (.mk 19 0 [c])∧OT (mw P) g c P:=by
 rcases h with ⟨h,_⟩ | ⟨h,_⟩ | ⟨P,c,hP,h,ht,ho⟩ | ⟨X,h,hX⟩
 ·obtain ⟨B',e,_⟩:=Eo h;simp [natT] at e
 ·obtain ⟨B',e,_⟩:=Eo h;simp [tyT] at e
 ·obtain ⟨B',e,q⟩:=Eo h;simp only [Tm.mk.injEq,List.cons.injEq,and_true,true_and] at e;rw [← e.2] at q;exact ⟨P,c,hP,q,ht,ho⟩
 ·obtain ⟨B',rfl,_⟩:=Eo h;simp [Ot,Tm.op] at hX
theorem Af2 {m:Int} {B:Tm} (h:WFT (.mk 18 m [B])):∃P,PT P∧Pars B P:=by
 rcases h with h | h | ⟨P,hP,h⟩ | ⟨X,h,hX⟩
 ·obtain ⟨B',e,_⟩:=Eo h;simp [natT] at e
 ·obtain ⟨B',e,_⟩:=Eo h;simp [tyT] at e
 ·obtain ⟨B',e,q⟩:=Eo h;simp only [Tm.mk.injEq,List.cons.injEq,and_true,true_and] at e;rw [← e.2] at q;exact ⟨P,hP,q⟩
 ·obtain ⟨B',rfl,_⟩:=Eo h;simp [Ot,Tm.op] at hX
theorem ZG:∀{l:List Tm},(∀t∈l,t.eta=t)→Tm.etaL l=l
 | [],_=>rfl
 | a::l,h=>by rw [Tm.etaL,h a (by simp),ZG fun t ht=>h t (by simp [ht])]
theorem NF {op n:Int} {l:List Tm} (h:op≠4∧op≠7) (hl:∀t∈l,t.eta=t):(Tm.mk op n l).eta=.mk op n l:=by
 rw [Tm.eta,if_neg h.1,if_neg h.2,ZG hl]
theorem MG {G:List Nat} {t:Tm} {s:Nat} (h:NfT G t s):(s=0∨s=1∨s=10∨s=11)→t.eta=t:=by
 induction h with
 | var G n s h0 h hs=>intro _;exact NF (by decide) (by simp)
 | node G op n ks s sg hr hl hst hk ih =>
  intro hs;have kid:∀(i:Nat) t bs s',ks[i]?=some t→sg[i]?=some (bs,s')→(s'=0∨s'=1∨s'=10∨s'=11)→t.eta=t:=fun i t bs s' a b c=>ih i t bs s' a b c;have all:(op≠4∧op≠7)→(∀(i:Nat) bs s',sg[i]?=some (bs,s')→(s'=0∨s'=1∨s'=10∨s'=11))→(Tm.mk op n ks).eta=.mk op n ks:=by
   intro ho hall;refine NF ho fun t ht=>?_;obtain ⟨i,hi,e⟩:=List.mem_iff_getElem.1 ht;have hi2:i<sg.length:=by rw [← hl];exact hi
   exact kid i t _ _ (by rw [List.getElem?_eq_getElem hi,e]) (List.getElem?_eq_getElem hi2) (hall i _ _ (List.getElem?_eq_getElem hi2))
  cases hr with
  | natT=>exact all (by decide) (fun i bs s' h=>by simp at h)
  | tyT=>exact all (by decide) (fun i bs s' h=>by simp at h)
  | zero=>exact all (by decide) (fun i bs s' h=>by simp at h)
  | tint=>exact all (by decide) (fun i bs s' h=>by simp at h)
  | suc =>
   refine all (by decide) (fun i bs s' h=>?_)
   match i with
   | 0=>simp at h;omega
   | i+1=>simp at h
  | tfun =>
   refine all (by decide) (fun i bs s' h=>?_)
   match i with
   | 0 | 1=>simp at h;omega
   | i+2=>simp at h
  | tpro =>
   refine all (by decide) (fun i bs s' h=>?_)
   match i with
   | 0 | 1=>simp at h;omega
   | i+2=>simp at h
  | recR s hs6 =>
   refine all (by decide) (fun i bs s' h=>?_)
   match i with
   | 0 | 1 | 2 | 3=>simp at h;omega
   | i+4=>simp at h
  | _=>omega
def cns (u:Tm) (σ:Nat→Tm):Nat→Tm
 | 0=>u
 | i+1=>σ i
theorem App (u:Tm) (σ:Nat→Tm):(fun i=>(CQ 1 σ i).sub (s1 u))=cns u σ:=by
 funext i
 cases i with
 | zero=>simp [CQ,E0,s1,cns]
 | succ i =>
  simp only [CQ,cns];rw [if_neg (by omega),Nat.add_sub_cancel,Gl _ _ _ (fun j=>rfl)]
theorem AlJ (r k:Tm) (σ:Nat→Tm):(fun i=>(CQ 2 σ i).sub (s2 r k))=cns r (cns k σ):=by
 funext i
 match i with
 | 0=>simp [CQ,E0,s2,cns]
 | 1=>simp [CQ,E0,s2,cns]
 | i+2 =>
  simp only [CQ,cns];rw [if_neg (by omega),Nat.add_sub_cancel,Gl _ _ _ (fun j=>rfl)]
theorem Gd {t:Tm} {k:Nat} (h:t.sc k) (d:Nat) (hw:k+2 * t.wt+d≤9000000000000000000):t.shift d 0=t.ren fun x=>x+d:=by
 have:=OO t d 0 k h hw
 rw [show ((0:Nat):Int)=0 from rfl] at this
 rw [this];congr 1
theorem Kk {t:Tm} {k:Nat} (h:t.sc k) (d:Nat) (hw:k+2 * t.wt+d≤9000000000000000000) (σ:Nat→Tm):(t.shift d 0).sub σ=t.sub fun x=>σ (x+d):=by
 rw [Gd h d hw,Gp]
def Bw:Nat:=2000000000000000
structure EnvK (g:Ch) (G:List Nat) (D:List Tm) (σ:Nat→Tm):Prop where
 v1:∀i T,i<g.length→g[g.length - 1 - i]?=some (1,T)→T.sc (g.length - 1 - i)∧T.wt≤Bw∧(∃s,HasT G (T.ren fun x=>x+(i+1)) (10+s))∧Sem D (T.sub fun x=>σ (x+(i+1))) (σ i)
 v0:∀i T,i<g.length→g[g.length - 1 - i]?=some (0,T)→T.sc (g.length - 1 - i)∧T.wt≤Bw∧HasT G (T.ren fun x=>x+(i+1)) 1∧∃P j,PT P∧Pars (T.sub fun x=>σ (x+(i+1))) P∧σ i=vT j∧j<D.length∧D[D.length - 1 - j]?=some P
theorem Ahj:EnvK [] [] [] vT:=⟨fun i T h=>by simp at h,fun i T h=>by simp at h⟩
theorem PC {G:List Nat} {T:Tm} {k i s:Nat} (x:Nat) (hsc:T.sc k) (hw:T.wt≤Bw) (hk:k+i≤100000) (hG:G.length≤1000) (h:HasT G (T.ren fun x=>x+i) s):HasT (x::G) (T.ren fun x=>x+(i+1)) s:=by
 unfold Bw at hw;have e:=Gd hsc i (by omega);rw [← e] at h;have h1:=HA h [x] (by rw [BF];simp only [Aym,List.length_nil];omega);have hs:=BX T i 0 k hsc (by omega);rw [show ((0:Nat):Int)=0 from rfl] at hs
 rw [Gd hs _ (by rw [BF];simp only [Aym,List.length_nil];omega),e,LP] at h1;simpa [Nat.add_assoc] using h1
theorem Jw {α:Type} (l:List α) (a:α) (i:Nat) (b:α) (hi:i<(l++[a]).length) (h:(l++[a])[(l++[a]).length - 1 - i]?=some b):i=0∧b=a∨∃j,i=j+1∧j<l.length∧l[l.length - 1 - j]?=some b:=by
 simp only [List.length_append,Aym,List.length_nil] at hi h;cases i with
 | zero =>
  rw [List.getElem?_append_right (by omega),show l.length+(0+1) - 1 - 0 - l.length=0 by omega] at h
  simp only [List.getElem?_cons_zero,Ayi] at h;exact .inl ⟨rfl,h.symm⟩
 | succ j =>
  rw [List.getElem?_append_left (by omega),show l.length+(0+1) - 1 - (j+1)=l.length - 1 - j by omega] at h
  exact .inr ⟨j,rfl,by omega,h⟩
theorem Xg {g:Ch} {G:List Nat} {D:List Tm} {σ:Nat→Tm} (h:EnvK g G D σ) (hG:G.length=g.length) (hg:g.length≤500) {b u:Tm} {s:Nat} (bsc:b.sc g.length) (bw:b.wt≤Bw) (hb:HasT G b (10+s)) (hu:Sem D (b.sub σ) u):EnvK (g++[(1,b)]) (s::G) D (cns u σ):=by
 have hbw:=bw;unfold Bw at hbw;refine ⟨fun i T hi hT=>?_,fun i T hi hT=>?_⟩
 ·rcases Jw _ _ _ _ hi hT with ⟨rfl,e⟩ | ⟨j,rfl,hj,hT⟩
  ·simp only [Ayj,true_and] at e;subst e;refine ⟨by simpa using bsc,bw,⟨s,?_⟩,hu⟩
   have:=HA hb [s] (by simp only [Aym,List.length_nil];omega)
   rw [Gd bsc _ (by simp only [Aym,List.length_nil];omega)] at this;exact this
  ·obtain ⟨q1,q2,⟨s',q3⟩,q4⟩:=h.v1 j T hj hT;refine ⟨?_,q2,⟨s',PC s q1 q2 (by omega) (by omega) q3⟩,q4⟩;have e:(g++[((1:Int),b)]).length - 1 - (j+1)=g.length - 1 - j:=by simp only [List.length_append,Aym,List.length_nil];omega
   rw [e];exact q1
 ·rcases Jw _ _ _ _ hi hT with ⟨rfl,e⟩ | ⟨j,rfl,hj,hT⟩
  ·simp at e
  ·obtain ⟨q1,q2,q3,q4⟩:=h.v0 j T hj hT;refine ⟨?_,q2,PC s q1 q2 (by omega) (by omega) q3,q4⟩;have e:(g++[((1:Int),b)]).length - 1 - (j+1)=g.length - 1 - j:=by simp only [List.length_append,Aym,List.length_nil];omega
   rw [e];exact q1
theorem Af0 (T:Tm) (σ:Nat→Tm) (j:Nat):(T.sub fun x=>CQ 1 σ (x+(j+1+1)))=(T.sub fun x=>σ (x+(j+1))).ren fun x=>x+1:=by
 rw [FH];congr 1
theorem RH {g:Ch} {G:List Nat} {D:List Tm} {σ:Nat→Tm} (h:EnvK g G D σ) (hG:G.length=g.length) (hg:g.length≤500) {d P:Tm} (dsc:d.sc g.length) (dw:d.wt≤Bw) (hd:HasT G d 1) (hP:PT P) (hp:Pars (d.sub σ) P):EnvK (g++[(0,d)]) (6::G) (D++[P]) (CQ 1 σ):=by
 have hdw:=dw;unfold Bw at hdw;refine ⟨fun i T hi hT=>?_,fun i T hi hT=>?_⟩
 ·rcases Jw _ _ _ _ hi hT with ⟨rfl,e⟩ | ⟨j,rfl,hj,hT⟩
  ·simp at e
  ·obtain ⟨q1,q2,⟨s',q3⟩,q4⟩:=h.v1 j T hj hT;refine ⟨?_,q2,⟨s',PC 6 q1 q2 (by omega) (by omega) q3⟩,?_⟩
   ·have e:(g++[((0:Int),d)]).length - 1 - (j+1)=g.length - 1 - j:=by simp only [List.length_append,Aym,List.length_nil];omega
    rw [e];exact q1
   ·rw [Af0];exact Auo q4 P
 ·rcases Jw _ _ _ _ hi hT with ⟨rfl,e⟩ | ⟨j,rfl,hj,hT⟩
  ·simp only [Ayj,true_and] at e;subst e;refine ⟨by simpa using dsc,dw,?_,P,0,hP,?_,rfl,by simp,by simp⟩
   ·have:=HA hd [6] (by simp only [Aym,List.length_nil];omega)
    rw [Gd dsc _ (by simp only [Aym,List.length_nil];omega)] at this;exact this
   ·have:=CY hp fun x=>x+1
    rw [I3 hP,FH] at this;exact this
  ·obtain ⟨q1,q2,q3,P',k,q4,q5,q6,q7,q8⟩:=h.v0 j T hj hT;refine ⟨?_,q2,PC 6 q1 q2 (by omega) (by omega) q3,P',k+1,q4,?_,?_,?_,?_⟩
   ·have e:(g++[((0:Int),d)]).length - 1 - (j+1)=g.length - 1 - j:=by simp only [List.length_append,Aym,List.length_nil];omega
    rw [e];exact q1
   ·rw [Af0]
    have:=CY q5 fun x=>x+1
    rwa [I3 q4] at this
   ·show CQ 1 σ (j+1)=vT (k+1)
    rw [FZ (by omega),Nat.add_sub_cancel,q6,G6]
   ·simp only [List.length_append,Aym,List.length_nil];omega
   ·have e:(D++[P]).length - 1 - (k+1)=D.length - 1 - k:=by simp only [List.length_append,Aym,List.length_nil];omega
    rw [e,List.getElem?_append_left (by omega)];exact q8
theorem AhY {G:List Nat} {i:Nat} {T a w:Tm} {k f s s':Nat} (hsc:T.sc k) (hw:T.wt≤Bw) (hk:k+i≤1000) (hT:HasT G (T.ren fun x=>x+(i+1)) s') (hn:A5 f (T.shift ((i+1:Nat):Int) 0)=some (w,0)) (ha:NfT G a s) (he:w.eta=a.eta)
  (hs:s=1∧s'=1∨10≤s∧10≤s'):∀σ:Nat→Tm,Pars (T.sub fun x=>σ (x+(i+1))) (w.sub σ)∧(s=1→w=a)∧(w=a∨Ot a):=by
 have hbw:=hw;unfold Bw at hbw;intro σ;have e:=Gd hsc (i+1) (by omega);have hts:=BX T (i+1) 0 k hsc (by omega);rw [show ((0:Nat):Int)=0 from rfl] at hts
 have hr:=JZ (Gy hn hts) σ;rw [e,Gp] at hr;refine ⟨hr,?_⟩;rw [← e] at hT;have hwn:=CH hn hT;rcases hs with ⟨rfl,rfl⟩ | ⟨h1,h2⟩
 ·rw [MG hwn (by omega),MG ha (by omega)] at he;exact ⟨fun _=>he,.inl he⟩
 refine ⟨fun h=>by omega,?_⟩;have key:∀{x:Tm} {s:Nat},NfT G x s→10≤s→x.eta=x∧(x.op=10∨x.op=14∨x.op=18)∨Ot x:=by
  intro x s hx hs;cases hx with
  | var=>omega
  | node _ op n ks _ sg hr hl hst hk =>
   cases hr with
   | natT=>exact .inl ⟨MG (.node _ _ _ _ _ _ .natT hl hst hk) (by omega),.inl rfl⟩
   | tyT=>exact .inl ⟨MG (.node _ _ _ _ _ _ .tyT hl hst hk) (by omega),.inr (.inl rfl)⟩
   | liftT =>
    obtain ⟨y,rfl⟩:=Fh hl;refine .inl ⟨NF (by decide) fun t ht=>?_,.inr (.inr rfl)⟩;rw [List.mem_singleton.1 ht];exact MG (hk 0 y [] 1 rfl rfl) (by omega)
   | uT=>exact .inr (.inl rfl)
   | piT=>exact .inr (.inr (.inl rfl))
   | sigT=>exact .inr (.inr (.inr rfl))
   | _=>omega
 rcases key ha h1 with ⟨ea,oa⟩ | oa
 ·rw [ea] at he;rcases key hwn h2 with ⟨ew,_⟩ | ow
  ·rw [ew] at he;exact .inl he
  ·have:=Xo (t:=w) (by unfold Ot at ow;omega) (by unfold Ot at ow;omega)
   rw [he] at this;unfold Ot at ow;omega
 ·exact .inr oa
def P0 (p:Tm):Prop:=p=.mk 15 0 []∨∃op:Int,(op=16∨op=17)∧p=.mk op 0 [.mk 15 0 [],.mk 15 0 []]
theorem AgW (r:Tm):P0 (r.plainT 1):=by
 have h1:=Int.emod_nonneg r.n (show (4:Int)≠0 by decide)
 have h2:=Int.emod_lt_of_pos r.n (show (0:Int)<4 by decide)
 rw [Tm.plainT];split
 ·exact .inl rfl
 ·exact .inr ⟨_,by omega,rfl⟩
def F0 (t:Tm):Prop:=t=.mk 10 0 []∨t=.mk 14 0 []∨t=.mk 2 0 []∨∃p,P0 p∧t=.mk 18 0 [p]
theorem Are (k:Nat):(Tm.mk 15 0 []).sc k:=Cr (by decide) (by decide) (BN (by decide) (by decide) (by decide))
theorem Auj {p:Tm} (h:P0 p) (k:Nat):p.sc k:=by
 rcases h with rfl | ⟨op,ho,rfl⟩
 ·exact Are k
 ·rcases ho with rfl | rfl<;>exact Cs (by decide) (by decide) (BN (by decide) (by decide) (by decide)) (Are _) (Are _)
def F1 (t:Tm):Prop:=F0 t∨(∃(op:Int) (d c:Tm),(op=3∨op=6)∧F0 d∧F0 c∧t=.mk op 0 [d,c])∨∃p:Tm,(p=.mk 15 0 []∨∃i:Nat,p=.mk 1 i [])∧t=.mk 18 0 [p]
theorem F9 {X:Tm} (σ:Nat→Tm) (h:Ot X):Ot (X.sub σ):=by
 obtain ⟨op,n,ks⟩:=X;unfold Ot at h ⊢;simp only [Tm.op] at h;rw [CE (by omega)];exact h
theorem Lt {op m:Int} {ks:List Tm} {k:Nat} (h:(Tm.mk op m ks).sc k) (h1:op≠1) (h2:op≠2) (h26:op≠26) (h25:op≠25):m=0:=by
 rw [Tm.sc,if_neg h1] at h
 have:=h.2.1
 unfold BH at this;rw [if_neg h2,if_neg h26,if_neg h25] at this;exact this
theorem Hz {a:Tm} {o:Int} {k:Nat} (h:a.sc k) (ho:a.op=o) (har:ar o=some 0) (h1:o≠1) (h2:o≠2) (h26:o≠26) (h25:o≠25):a=.mk o 0 []:=by
 obtain ⟨op,m,ks⟩:=a;simp only [Tm.op] at ho;subst ho;have hm:=Lt h h1 h2 h26 h25;rw [Tm.sc,har] at h;have hl:ks=[]:=List.eq_nil_of_length_eq_zero (Option.some.inj h.1).symm;rw [hm,hl]
theorem Z4 {G:List Nat} {op n:Int} {x y:Tm} (h:NfT G (.mk op n [x,y]) 1) (ho:op=16∨op=17):NfT G x 1∧NfT G y 1:=by
 cases h with
 | node _ _ _ _ _ sg hr hl hst hk =>
  cases hr with
  | tfun=>exact ⟨hk 0 x [] 1 rfl rfl,hk 1 y [] 1 rfl rfl⟩
  | tpro=>exact ⟨hk 0 x [] 1 rfl rfl,hk 1 y [] 1 rfl rfl⟩
  | _=>omega
theorem Ag3 {G:List Nat} {n:Int} {x:Tm} {s:Nat} (h:NfT G (.mk 18 n [x]) (10+s)):NfT G x 1:=by
 generalize hq:10+s=q at h;cases h with
 | node _ _ _ _ _ sg hr hl hst hk =>
  cases hr with
  | liftT=>exact hk 0 x [] 1 rfl rfl
  | liftU=>omega
theorem sc2 {op n:Int} {x y:Tm} {k:Nat} (h:(Tm.mk op n [x,y]).sc k) (h1:op≠1) (b0:Ao op 0=0) (b1:Ao op 1=0):x.sc k∧y.sc k:=by
 rw [Tm.sc,if_neg h1] at h;simp only [Tm.scL,b0,b1,Nat.zero_add,Nat.add_zero,and_true] at h;exact ⟨h.2.2.1,h.2.2.2⟩
theorem sc1 {op n:Int} {x:Tm} {k:Nat} (h:(Tm.mk op n [x]).sc k) (h1:op≠1) (b0:Ao op 0=0):x.sc k:=by
 rw [Tm.sc,if_neg h1] at h;simp only [Tm.scL,b0,Nat.add_zero,and_true] at h;exact h.2.2
theorem Ahr {t:Tm} {k:Nat} (h:t.sc k) (hw:k+2 * t.wt+1≤9000000000000000000) (u:Tm) (σ:Nat→Tm):(t.shift 1 0).sub (cns u σ)=t.sub σ:=Kk h 1 hw _
theorem Arc {t:Tm} {k:Nat} (h:t.sc k) (hw:k+2 * t.wt+2≤9000000000000000000) (u v:Tm) (σ:Nat→Tm):(t.shift 2 0).sub (cns u (cns v σ))=t.sub σ:=Kk h 2 hw _
theorem Auw {t:Tm} {k:Nat} (h:t.sc k) (hw:k+2 * t.wt+1≤9000000000000000000) (σ:Nat→Tm):(t.shift 1 0).sub (CQ 1 σ)=(t.sub σ).ren fun x=>x+1:=by
 have:=Kk h 1 hw (CQ 1 σ)
 rw [show ((1:Nat):Int)=1 from rfl] at this
 rw [this,FH];congr 1
theorem Ad3 {t P:Tm} {k:Nat} (h:t.sc k) (hw:k+2 * t.wt+1≤9000000000000000000) {σ:Nat→Tm} (hP:PT P) (hp:Pars (t.sub σ) P):Pars ((t.shift 1 0).sub (CQ 1 σ)) P:=by
 rw [Auw h hw]
 have:=CY hp fun x=>x+1
 rwa [I3 hP] at this
theorem Of {P Q:Tm} (h:P.wt≤max Q.wt 3):mw P≤mw Q:=by unfold mw;omega
set_option maxRecDepth 20000 in
set_option maxHeartbeats 4000000 in
theorem fl {k e:Nat} {g:Ch} {a t:Tm} (h:Gr k e g a t):∀(G:List Nat) (D:List Tm) (σ:Nat→Tm),CtxT g G→EnvK g G D σ →
  (k=0→WFT (t.sub σ))∧(k=1→a.sc g.length→a.wt≤Bw→∀s,HasT G a (10+s)→WFT (a.sub σ)→Sem D (a.sub σ) (t.sub σ)) ∧
  (k=2→a.sc g.length→a.wt≤Bw→HasT G a 1→∀P,PT P→Pars (a.sub σ) P→Atu D P (t.sub σ)) ∧
  (k=3→g.length≤60→NOk g.length a→∀s,NfT G a (10+s)→WFT (a.sub σ)→Sem D (a.sub σ) (t.sub σ)) ∧
  (k=4→g.length≤60→NOk g.length a→NfT G a 1→∀P,PT P→Pars (a.sub σ) P→Atu D P (t.sub σ)):=by
 have nsc:∀k,(Tm.mk 10 0 []).sc k:=fun k=>Cr (by decide) (by decide) (BN (by decide) (by decide) (by decide));have tsc:∀k,(Tm.mk 14 0 []).sc k:=fun k=>Cr (by decide) (by decide) (BN (by decide) (by decide) (by decide));have isc:∀k,(Tm.mk 15 0 []).sc k:=fun k=>Cr (by decide) (by decide) (BN (by decide) (by decide) (by decide));have small:∀{op n:Int},(Tm.mk op n []).wt≤Bw:=fun {op n}=>by simp [Tm.wt,Tm.wtL,Bw]
 have w3:∀{x:Tm},x.wt≤3000→x.wt≤Bw:=fun {x} h=>by unfold Bw;omega
 have plw:∀r:Tm,(r.plainT 1).wt≤3:=fun r=>by have:=Db 1 r;omega
 have plp:∀(r:Tm) (σ:Nat→Tm),Pars ((r.plainT 1).sub σ) (r.plainT 1):=fun r σ=>by rw [Af6 (Cq 1 r)];exact .refl _
 have pls:∀(r:Tm) (k:Nat),(r.plainT 1).sc k:=fun r k=>Auj (AgW r) k;have nfN:∀(G:List Nat),HasT G (.mk 10 0 []) (10+0):=fun G=>ht0 .natT;have sN:∀σ:Nat→Tm,(Tm.mk 10 0 []).sub σ=natT:=fun σ=>JM (by decide);have sT:∀σ:Nat→Tm,(Tm.mk 14 0 []).sub σ=tyT:=fun σ=>JM (by decide);have sI:∀σ:Nat→Tm,(Tm.mk 15 0 []).sub σ=WQ:=fun σ=>JM (by decide)
 induction h with
 | tnat e g a=>intro G D σ hG hE;exact ⟨fun _=>by rw [sN];exact .inl (.refl _),by omega,by omega,by omega,by omega⟩
 | tty e g a=>intro G D σ hG hE;exact ⟨fun _=>by rw [sT];exact .inr (.inl (.refl _)),by omega,by omega,by omega,by omega⟩
 | tu e g a=>intro G D σ hG hE;exact ⟨fun _=>.inr (.inr (.inr ⟨_,.refl _,F9 σ (.inl rfl)⟩)),by omega,by omega,by omega,by omega⟩
 | tlp e g a r=>intro G D σ hG hE;exact ⟨fun _=>.inr (.inr (.inl ⟨r.plainT 1,Cq 1 r,by rw [OA (by decide) rfl];exact ps1 (by decide) (plp r σ)⟩)),by omega,by omega,by omega,by omega⟩
 | tpi e g a x y op ho h6 hgl hx h1 h2 ih1 ih2 =>
  intro G D σ hG hE;exact ⟨fun _=>.inr (.inr (.inr ⟨_,.refl _,F9 σ (by unfold Ot;simp only [Tm.op];omega)⟩)),by omega,by omega,by omega,by omega⟩
 | tlift e g a t h6 h1 ih =>
  intro G D σ hG hE;refine ⟨fun _=>?_,by omega,by omega,by omega,by omega⟩
  have:=(ih G D σ hG hE).2.1 rfl (tsc _) small 1 (ht0 .tyT) (by rw [sT];exact .inr (.inl (.refl _)))
  rw [sT] at this;obtain ⟨P,hP,hp⟩:=Wj this;exact .inr (.inr (.inl ⟨P,hP,by rw [OA (by decide) rfl];exact ps1 (by decide) hp⟩))
 | grow e g a0 a t f hn hg ha h1 ih =>
  intro G D σ hG hE;refine ⟨by omega,fun _ asc aw s hs hw=>?_,by omega,by omega,by omega⟩;have hr:=JZ (Gy hn asc) σ;exact Ag4 ((ih G D σ hG hE).2.2.2.1 rfl hg ha s (CH hn hs) (AgM hw hr)) hr
 | objc e g a0 a t f hn hg ha h1 ih =>
  intro G D σ hG hE;refine ⟨by omega,by omega,fun _ asc aw hs P hP hp=>?_,by omega,by omega⟩;have hr:=JZ (Gy hn asc) σ;exact (ih G D σ hG hE).2.2.2.2 rfl hg ha (CH hn hs) P hP (KV hp (GX hP) hr)
 | var1 e g a i h =>
  intro G D σ hG hE;refine ⟨by omega,by omega,by omega,fun _ hl ha s hs hw=>?_,by omega⟩;obtain ⟨hi,T,f,w,hg,hn,he⟩:=h;obtain ⟨q1,q2,⟨s',q3⟩,q4⟩:=hE.v1 i T hi hg;obtain ⟨r1,_,r2⟩:=AhY q1 q2 (by omega) q3 hn hs he (.inr ⟨by omega,by omega⟩) σ;have ev:(Tm.mk 1 (i:Int) []).sub σ=σ i:=E0 i σ;rw [ev];rcases r2 with rfl | r2
  ·exact Ahe q4 r1
  ·exact .inr (.inr (.inr ⟨_,.refl _,F9 σ r2⟩))
 | var0 e g a i h =>
  intro G D σ hG hE;refine ⟨by omega,by omega,by omega,by omega,fun _ hl ha hs P hP hp=>?_⟩;obtain ⟨hi,T,f,w,hg,hn,he⟩:=h;obtain ⟨q1,q2,q3,P',j,q4,q5,q6,q7,q8⟩:=hE.v0 i T hi hg;obtain ⟨r1,r2,_⟩:=AhY q1 q2 (by omega) q3 hn hs he (.inl ⟨rfl,rfl⟩) σ;have ew:=r2 rfl;subst ew;have ev:(Tm.mk 1 (i:Int) []).sub σ=σ i:=E0 i σ;rw [ev,q6];have eP:=AfQ q4 hP (KV q5 (GX q4) r1) hp;subst eP;exact ⟨_,.refl _,.var D j _ q4 (by unfold mw;omega) q7 q8⟩
 | fst e g a b c x h6 hb h1 h2 h3 ih1 ih2 ih3 =>
  intro G D σ hG hE;refine ⟨by omega,by omega,by omega,fun _ hl ha s hs hw=>?_,by omega⟩;have hc:=(ih3 G D σ hG hE).2.1 rfl ha.sc (w3 ha.wt) s (AZ hs) hw;refine Kc hc ?_;rw [OA (by decide) rfl,CE (by decide)];simp only [Tm.subL,show Ao 7 0=0 from rfl,show Ao 7 (0+1)=0 from rfl,show Ao 7 (0+1+1)=0 from rfl,CL]
  exact CV (.fst 0 0 _ _ _ _ (A4 _))
 | app e g a b c x h6 hb h1 h2 h3 ih1 ih2 ih3 =>
  intro G D σ hG hE;refine ⟨by omega,by omega,by omega,fun _ hl ha s hs hw=>?_,by omega⟩;have aw:=ha.wt;have bw:=hb.wt;obtain ⟨s1,p1,p2⟩:=(Aib h1 G hG).1 rfl;have wb:=(ih1 G D σ hG hE).1 rfl;have hx:=(ih2 G D σ hG hE).2.1 rfl hb.sc (by unfold Bw;omega) s1 p2 wb;have e1:=Ahr ha.sc (by omega) (x.sub σ) σ;have hc:=(ih3 (s1::G) D (cns (x.sub σ) σ) (FN hG p2 (Xv hb (by omega))) (Xg hE hG.len (by omega) hb.sc (by unfold Bw;omega) p2 hx)).2.1 rfl (by have:=BX a 1 0 g.length ha.sc (by omega);simpa using this) (by rw [BF];exact w3 aw) s (up1 hG (by omega) (AZ hs) (by omega) s1) (by rw [e1];exact hw);rw [e1] at hc;refine Kc hc ?_;rw [KN (by decide) rfl,KN (by decide) rfl,show Ao 4 1=1 from rfl,show Ao 5 1=0 from rfl,CL]
  have:=Par.beta 0 0 (b.sub σ) _ _ _ _ (A4 (c.sub (CQ 1 σ))) (A4 (x.sub σ))
  rw [EF,App] at this;exact CV this
 | recc e g a n z s h6 ha h1 h2 h3 ih1 ih2 ih3 =>
  intro G D σ hG hE;refine ⟨by omega,by omega,by omega,fun _ hl hna τ hs hw=>?_,by omega⟩;have aw:=hna.wt;have hn:=(ih1 G D σ hG hE).2.1 rfl (nsc _) small 0 (nfN _) (by rw [sN];exact .inl (.refl _));rw [sN] at hn;obtain ⟨k,hk⟩:=AaQ hn;have hz:=(ih2 G D σ hG hE).2.1 rfl hna.sc (w3 aw) τ (AZ hs) hw;have hs1:=up1 hG (by omega) (AZ hs) (by omega) 0;have g1:=FN hG (T:=.mk 10 0 []) (s:=0) (ht0 .natT) (by simp [Tm.vb,Tm.vbL]);have a1sc:(a.shift 1 0).sc (g.length+1):=by have:=BX a 1 0 g.length hna.sc (by omega);simpa using this
  have a2sc:(a.shift 2 0).sc (g.length+2):=by have:=BX a 2 0 g.length hna.sc (by omega);simpa using this
  have g2:=FN g1 hs1 (OI _ (g.length+1) a1sc (by rw [BF];omega));have hs2:=up2 hG (by omega) (AZ hs) (by omega) τ 0;obtain ⟨R,hR⟩:∃R:Tm→Tm,R=fun q=>.mk 13 0 [(a.shift 1 0).sub (CQ 1 σ),z.sub σ,s.sub (CQ 2 σ),q]:=⟨_,rfl⟩;have et:(Tm.mk 13 0 [a.shift 1 0,z,s,n]).sub σ=R (n.sub σ):=by
   rw [hR,CE (by decide)];simp only [Tm.subL,show Ao 13 0=1 from rfl,show Ao 13 (0+1)=0 from rfl,show Ao 13 (0+1+1)=2 from rfl,show Ao 13 (0+1+1+1)=0 from rfl,CL]
  rw [et];have hp:Pars (R (n.sub σ)) (R (CA k)):=by rw [hR];exact ps4 hk
  refine Kc ?_ hp;clear hp hk hn et
  induction k with
  | zero=>exact Kc hz (by rw [hR];exact CV (.recz 0 0 _ _ _ _ [] (A4 _)))
  | succ k ihk =>
   have e1:=Ahr hna.sc (by omega) (CA k) σ;have e2:=Arc hna.sc (by omega) (R (CA k)) (CA k) σ;have E1:=Xg (u:=CA k) hE hG.len (by omega) (nsc _) small (nfN G) (by rw [sN];exact .inl ⟨.refl _,k,.refl _⟩);have E2:=Xg (u:=R (CA k)) E1 g1.len (by simp only [List.length_append,Aym,List.length_nil];omega) (by simpa using a1sc) (by rw [BF];exact w3 aw) hs1 (by rw [e1];exact ihk)
   have:=(ih3 _ D _ g2 E2).2.1 rfl (by simpa using a2sc) (by rw [BF];exact w3 aw) τ hs2 (by rw [e2];exact hw)
   rw [e2] at this;refine Kc this ?_;have q:=Par.recs 0 0 _ _ _ _ _ _ _ _ (A4 ((a.shift 1 0).sub (CQ 1 σ))) (A4 (z.sub σ)) (A4 (s.sub (CQ 2 σ))) (A4 (CA k));rw [EF,AlJ] at q;rw [hR];exact CV q
 | suc e g a n h6 ha h1 ih =>
  intro G D σ hG hE;refine ⟨by omega,by omega,by omega,fun _ hl hna s hs hw=>?_,by omega⟩;have hn:=(ih G D σ hG hE).2.1 rfl hna.sc (w3 hna.wt) s (AZ hs) hw;have ea:=Hz hna.sc ha rfl (by decide) (by decide) (by decide) (by decide);subst ea;rw [sN] at hn ⊢;obtain ⟨k,hk⟩:=AaQ hn;exact .inl ⟨.refl _,k+1,by rw [OA (by decide) rfl,CA];exact ps1 (by decide) hk⟩
 | num e g a j ha hj =>
  intro G D σ hG hE;refine ⟨by omega,by omega,by omega,fun _ hl hna s hs hw=>?_,by omega⟩;have ea:=Hz hna.sc ha rfl (by decide) (by decide) (by decide) (by decide);subst ea;rw [sN,VH];exact .inl ⟨.refl _,j,.refl _⟩
 | tint e g a ha =>
  intro G D σ hG hE;refine ⟨by omega,by omega,by omega,fun _ hl hna s hs hw=>?_,by omega⟩;have ea:=Hz hna.sc ha rfl (by decide) (by decide) (by decide) (by decide);subst ea;rw [sT,sI];exact .inr (.inl ⟨.refl _,WQ,.int,.refl _⟩)
 | tfun e g a x y op ho h6 ha h1 h2 ih1 ih2 =>
  intro G D σ hG hE;refine ⟨by omega,by omega,by omega,fun _ hl hna s hs hw=>?_,by omega⟩;have q1:=(ih1 G D σ hG hE).2.1 rfl hna.sc (w3 hna.wt) s (AZ hs) hw;have q2:=(ih2 G D σ hG hE).2.1 rfl hna.sc (w3 hna.wt) s (AZ hs) hw;have ea:=Hz hna.sc ha rfl (by decide) (by decide) (by decide) (by decide);subst ea;rw [sT] at q1 q2 ⊢;obtain ⟨P,hP,hp⟩:=Wj q1;obtain ⟨Q,hQ,hq⟩:=Wj q2;have b0:Ao op 0=0:=by rcases ho with rfl | rfl<;>rfl
  have b1:Ao op 1=0:=by rcases ho with rfl | rfl<;>rfl
  exact .inr (.inl ⟨.refl _,.mk op 0 [P,Q],.bin op P Q ho hP hQ,by rw [KN (by omega) b0,b1,CL];exact ps2 (by omega) hp hq⟩)
 | uni e g a n ha =>
  intro G D σ hG hE;exact ⟨by omega,by omega,by omega,fun _ hl hna s hs hw=>.inr (.inr (.inr ⟨_,.refl _,F9 σ (.inl ha)⟩)),by omega⟩
 | unat e g a ha =>
  intro G D σ hG hE;exact ⟨by omega,by omega,by omega,fun _ hl hna s hs hw=>.inr (.inr (.inr ⟨_,.refl _,F9 σ (.inl ha)⟩)),by omega⟩
 | uty e g a ha =>
  intro G D σ hG hE;exact ⟨by omega,by omega,by omega,fun _ hl hna s hs hw=>.inr (.inr (.inr ⟨_,.refl _,F9 σ (.inl ha)⟩)),by omega⟩
 | ult e g a ha =>
  intro G D σ hG hE;exact ⟨by omega,by omega,by omega,fun _ hl hna s hs hw=>.inr (.inr (.inr ⟨_,.refl _,F9 σ (.inl ha)⟩)),by omega⟩
 | upi e g a x y op ho h6 ha hx h1 h2 ih1 ih2 =>
  intro G D σ hG hE;exact ⟨by omega,by omega,by omega,fun _ hl hna s hs hw=>.inr (.inr (.inr ⟨_,.refl _,F9 σ (.inl ha)⟩)),by omega⟩
 | lam e g n d c x h1 ih =>
  intro G D σ hG hE;exact ⟨by omega,by omega,by omega,fun _ hl hna s hs hw=>.inr (.inr (.inr ⟨_,.refl _,F9 σ (.inr (.inl rfl))⟩)),by omega⟩
 | pair e g n d c x y hx h1 h2 ih1 ih2 =>
  intro G D σ hG hE;exact ⟨by omega,by omega,by omega,fun _ hl hna s hs hw=>.inr (.inr (.inr ⟨_,.refl _,F9 σ (.inr (.inr rfl))⟩)),by omega⟩
 | quo e g n d x h1 ih =>
  intro G D σ hG hE;refine ⟨by omega,by omega,by omega,fun _ hl hna s hs hw=>?_,by omega⟩;have hn0:=Lt hna.sc (by decide) (by decide) (by decide) (by decide);subst hn0;have hw':=hna.wt;simp only [Tm.wt,Tm.wtL] at hw';rw [OA (by decide) rfl] at hw ⊢;obtain ⟨P,hP,hp⟩:=Af2 hw;obtain ⟨c,q1,q2⟩:=(ih G D σ hG hE).2.2.1 rfl (sc1 hna.sc (by decide) rfl) (w3 (by omega)) (AZ (Ag3 hs)) P hP hp;rw [OA (by decide) rfl];exact .inr (.inr (.inl ⟨P,c,hP,ps1 (by decide) hp,ps1 (by decide) q1,q2⟩))
 | oif e g a c x y h6 h1 h2 h3 ih1 ih2 ih3 =>
  intro G D σ hG hE;refine ⟨by omega,by omega,by omega,by omega,fun _ hl ha hs P hP hp=>?_⟩;obtain ⟨c1,q1,q2⟩:=(ih1 G D σ hG hE).2.2.1 rfl (isc _) small (ht0 .tint) WQ .int (by rw [sI];exact .refl _);obtain ⟨c2,q3,q4⟩:=(ih2 G D σ hG hE).2.2.1 rfl ha.sc (w3 ha.wt) (AZ hs) P hP hp;obtain ⟨c3,q5,q6⟩:=(ih3 G D σ hG hE).2.2.1 rfl ha.sc (w3 ha.wt) (AZ hs) P hP hp;refine ⟨.mk 27 0 [c1,c2,c3],?_,.oif D c1 c2 c3 P (FJ (Of (by simp [WQ,Tm.wt,Tm.wtL];omega)) q2) q4 q6⟩;rw [CE (by decide)];simp only [Tm.subL,show Ao 27 0=0 from rfl,show Ao 27 (0+1)=0 from rfl,show Ao 27 (0+1+1)=0 from rfl,CL]
  exact ps3 (by decide) q1 q3 q5
 | olet e g a r x y h6 h1 h2 ih1 ih2 =>
  intro G D σ hG hE;refine ⟨by omega,by omega,by omega,by omega,fun _ hl ha hs P hP hp=>?_⟩;have aw:=ha.wt;have rw':=plw r;have a1sc:(a.shift 1 0).sc (g.length+1):=by have:=BX a 1 0 g.length ha.sc (by omega);simpa using this
  obtain ⟨c1,q1,q2⟩:=(ih1 G D σ hG hE).2.2.1 rfl (pls r _) (w3 (by omega)) (BA G 1 r) (r.plainT 1) (Cq 1 r) (plp r σ);obtain ⟨c2,q3,q4⟩:=(ih2 (6::G) (D++[r.plainT 1]) (CQ 1 σ) (Fm hG _) (RH hE hG.len (by omega) (pls r _) (w3 (by omega)) (BA G 1 r) (Cq 1 r) (plp r σ))).2.2.1 rfl (by simpa using a1sc) (by rw [BF];exact w3 aw) (up1 hG (by omega) (AZ hs) (by omega) 6) P hP (Ad3 ha.sc (by omega) hP hp);refine ⟨.mk 28 0 [c1,c2],?_,.olet D c1 c2 (r.plainT 1) P (FJ (Of (by omega)) q2) q4⟩;rw [KN (by decide) rfl,show Ao 28 1=1 from rfl]
  exact ps2 (by decide) q1 q3
 | oapp e g a r x y h6 h1 h2 ih1 ih2 =>
  intro G D σ hG hE;refine ⟨by omega,by omega,by omega,by omega,fun _ hl ha hs P hP hp=>?_⟩;have aw:=ha.wt;have rw':=plw r;have a1sc:(a.shift 1 0).sc (g.length+1):=by have:=BX a 1 0 g.length ha.sc (by omega);simpa using this
  obtain ⟨c1,q1,q2⟩:=(ih1 G D σ hG hE).2.2.1 rfl (pls r _) (w3 (by omega)) (BA G 1 r) (r.plainT 1) (Cq 1 r) (plp r σ);obtain ⟨c2,q3,q4⟩:=(ih2 (6::G) (D++[r.plainT 1]) (CQ 1 σ) (Fm hG _) (RH hE hG.len (by omega) (pls r _) (w3 (by omega)) (BA G 1 r) (Cq 1 r) (plp r σ))).2.2.1 rfl (by simpa using a1sc) (by rw [BF];exact w3 aw) (up1 hG (by omega) (AZ hs) (by omega) 6) P hP (Ad3 ha.sc (by omega) hP hp);refine ⟨.mk 21 0 [.mk 20 0 [r.plainT 1,c2],c1],?_,.oapp D _ c1 (r.plainT 1) P (.olam D (r.plainT 1) c2 P (Cq 1 r) (by unfold mw;simp only [Tm.wt,Tm.wtL];omega) q4) (FJ (Of (by omega)) q2)⟩;rw [KN (by decide) rfl,KN (by decide) rfl,show Ao 20 1=1 from rfl,show Ao 21 1=0 from rfl,CL]
  exact ps2 (by decide) (ps2 (by decide) (plp r σ) q3) q1
 | ofst e g a x y h6 h1 h2 ih1 ih2 =>
  intro G D σ hG hE;refine ⟨by omega,by omega,by omega,by omega,fun _ hl ha hs P hP hp=>?_⟩;obtain ⟨c1,q1,q2⟩:=(ih1 G D σ hG hE).2.2.1 rfl ha.sc (w3 ha.wt) (AZ hs) P hP hp;obtain ⟨c2,q3,q4⟩:=(ih2 G D σ hG hE).2.2.1 rfl (isc _) small (ht0 .tint) WQ .int (by rw [sI];exact .refl _);refine ⟨.mk 23 0 [.mk 22 0 [c1,c2]],?_,.ofst D _ P WQ (.opair D c1 c2 P WQ (by unfold mw;simp only [WQ,Tm.wt,Tm.wtL];omega) q2 (FJ (Of (by simp [WQ,Tm.wt,Tm.wtL];omega)) q4))⟩;rw [OA (by decide) rfl,KN (by decide) rfl,show Ao 22 1=0 from rfl,CL]
  exact ps1 (by decide) (ps2 (by decide) q1 q3)
 | ofix e g a x h6 h1 ih =>
  intro G D σ hG hE;refine ⟨by omega,by omega,by omega,by omega,fun _ hl ha hs P hP hp=>?_⟩;have aw:=ha.wt;have a1sc:(a.shift 1 0).sc (g.length+1):=by have:=BX a 1 0 g.length ha.sc (by omega);simpa using this
  obtain ⟨c2,q3,q4⟩:=(ih (6::G) (D++[P]) (CQ 1 σ) (Fm hG _) (RH hE hG.len (by omega) ha.sc (w3 aw) (AZ hs) hP hp)).2.2.1 rfl (by simpa using a1sc) (by rw [BF];exact w3 aw) (up1 hG (by omega) (AZ hs) (by omega) 6) P hP (Ad3 ha.sc (by omega) hP hp);refine ⟨.mk 29 0 [P,c2],?_,.ofix D P c2 hP (by unfold mw;omega) q4⟩;rw [KN (by decide) rfl,show Ao 29 1=1 from rfl]
  exact ps2 (by decide) hp q3
 | spl e g a x h6 h1 ih =>
  intro G D σ hG hE;refine ⟨by omega,by omega,by omega,by omega,fun _ hl ha hs P hP hp=>?_⟩;have aw:=ha.wt;have hx:=(ih G D σ hG hE).2.1 rfl (E7 rfl (by decide) (BN (by decide) (by decide) (by decide)) ha.sc) (by simp only [Tm.wt,Tm.wtL];unfold Bw;omega) 3 (ht1 .liftT (AZ hs)) (by rw [OA (by decide) rfl];exact .inr (.inr (.inl ⟨P,hP,ps1 (by decide) hp⟩)));rw [OA (by decide) rfl] at hx;obtain ⟨P',c,q1,q2,q3,q4⟩:=AgY hx;have eP:=AfQ q1 hP q2 hp;subst eP;refine ⟨c,?_,q4⟩;rw [OA (by decide) rfl];exact By (ps1 (by decide) q3) (CV (.splq c c (A4 c)))
 | oint e g a n ha =>
  intro G D σ hG hE;refine ⟨by omega,by omega,by omega,by omega,fun _ hl hna hs P hP hp=>?_⟩;have ea:=Hz hna.sc ha rfl (by decide) (by decide) (by decide) (by decide);subst ea;rw [sI] at hp
  have:=AdE .int hp
  subst this;rw [JM (by decide)];exact ⟨_,.refl _,.oint D n (by unfold mw;omega)⟩
 | oprim e g a p q n h6 ha h1 h2 ih1 ih2 =>
  intro G D σ hG hE;refine ⟨by omega,by omega,by omega,by omega,fun _ hl hna hs P hP hp=>?_⟩;obtain ⟨c1,q1,q2⟩:=(ih1 G D σ hG hE).2.2.1 rfl hna.sc (w3 hna.wt) (AZ hs) P hP hp;obtain ⟨c2,q3,q4⟩:=(ih2 G D σ hG hE).2.2.1 rfl hna.sc (w3 hna.wt) (AZ hs) P hP hp;have ea:=Hz hna.sc ha rfl (by decide) (by decide) (by decide) (by decide);subst ea;rw [sI] at hp
  have:=AdE .int hp
  subst this;refine ⟨.mk 26 n [c1,c2],?_,.oprim D n c1 c2 q2 q4⟩;rw [KN (by decide) rfl,show Ao 26 1=0 from rfl,CL]
  exact ps2 (by decide) q1 q3
 | olam e g n d c b h1 ih =>
  intro G D σ hG hE;refine ⟨by omega,by omega,by omega,by omega,fun _ hl ha hs P hP hp=>?_⟩;have aw:=ha.wt;simp only [Tm.wt,Tm.wtL] at aw;have hn0:=Lt ha.sc (by decide) (by decide) (by decide) (by decide);subst hn0;obtain ⟨dsc,csc⟩:=sc2 ha.sc (by decide) rfl rfl;obtain ⟨hd,hc⟩:=Z4 hs (.inl rfl);rw [KN (by decide) rfl,show Ao 16 1=0 from rfl,CL] at hp
  obtain ⟨P1,P2,rfl,r1,r2⟩:=AcH hp _ _ _ _ rfl (by decide);obtain ⟨p1,p2,_⟩:=Sb hP;have c1sc:(c.shift 1 0).sc (g.length+1):=by have:=BX c 1 0 g.length csc (by omega);simpa using this
  obtain ⟨c2,q3,q4⟩:=(ih (6::G) (D++[P1]) (CQ 1 σ) (Fm hG _) (RH hE hG.len (by omega) dsc (w3 (by omega)) (AZ hd) p1 r1)).2.2.1 rfl (by simpa using c1sc) (by rw [BF];exact w3 (by omega)) (up1 hG (by omega) (AZ hc) (by omega) 6) P2 p2 (Ad3 csc (by omega) p2 r2);refine ⟨.mk 20 0 [P1,c2],?_,.olam D P1 c2 P2 p1 (by unfold mw;omega) (FJ (Of (by simp only [Tm.wt,Tm.wtL];omega)) q4)⟩;rw [KN (by decide) rfl,show Ao 20 1=1 from rfl]
  exact ps2 (by decide) r1 q3
 | opair e g n d c p q h1 h2 ih1 ih2 =>
  intro G D σ hG hE;refine ⟨by omega,by omega,by omega,by omega,fun _ hl ha hs P hP hp=>?_⟩;have aw:=ha.wt;simp only [Tm.wt,Tm.wtL] at aw;have hn0:=Lt ha.sc (by decide) (by decide) (by decide) (by decide);subst hn0;obtain ⟨dsc,csc⟩:=sc2 ha.sc (by decide) rfl rfl;obtain ⟨hd,hc⟩:=Z4 hs (.inr rfl);rw [KN (by decide) rfl,show Ao 17 1=0 from rfl,CL] at hp
  obtain ⟨P1,P2,rfl,r1,r2⟩:=AcH hp _ _ _ _ rfl (by decide);obtain ⟨p1,p2,_⟩:=Sb hP;obtain ⟨c1,q1,q2⟩:=(ih1 G D σ hG hE).2.2.1 rfl dsc (w3 (by omega)) (AZ hd) P1 p1 r1;obtain ⟨c2,q3,q4⟩:=(ih2 G D σ hG hE).2.2.1 rfl csc (w3 (by omega)) (AZ hc) P2 p2 r2;refine ⟨.mk 22 0 [c1,c2],?_,.opair D c1 c2 P1 P2 (by unfold mw;omega) (FJ (Of (by simp only [Tm.wt,Tm.wtL];omega)) q2) (FJ (Of (by simp only [Tm.wt,Tm.wtL];omega)) q4)⟩;rw [KN (by decide) rfl,show Ao 22 1=0 from rfl,CL]
  exact ps2 (by decide) q1 q3
theorem gb1 (a:FV):Oh 400 [.ext 0] 0 [.row [.fv a] false]=true:=PD [a]
theorem ob1 (a:FV):okB 1 [.row [.fv a] false]=true:=QT [a]
theorem Aom (a a':FV):OneX [.row [.fv a] false] [.row [.fv a'] false]:=⟨gb1 ..,rfl,rfl,ob1 ..⟩
theorem AqW {ks:List Bool} (hks:∀b∈ks,b=false) {ih:Aa} {f:FuncId} {a0:IV} {x0:FV} {args:List IV} {vs:List FV} {w:FV} {ext ext':List Blk} (h0:Bl a0=some x0) (hz:BZ args=some vs) (X:OneX ext ext') (hr:CW (ih f (.fv x0 :: .ptr (.ext 0) 0::vs.map .fv) ⟨[],ext⟩) w ext')
  (own:List (Nat×Blk)) (k:IV→Hp→List Ref→List Ref→Option (IV×Hp)):Ai (false::true::ks) false false ih f (a0 :: .ptr (.ext 0) 0::args) ⟨own,ext⟩ k=k (.fv w) ⟨own,ext'⟩ [.ext 0] [.ext 0]:=by
 rw [OS,AnB,O8 _ _ _ _ h0,Ag8,Ae0,SV 0 args _ _ _ _ ks hks hz]
 have:=WR (r1:=.ext 0) (rs1:=[]) hr X.g (by rw [X.l,X.l']) (by rw [X.l];exact X.o) own (ih f (.fv x0 :: .ptr (.ext 0) 0::vs.map .fv) ⟨[],[]⟩) [] [] (Et (false::true::ks) false false ih f (a0 :: .ptr (.ext 0) 0::args) ⟨own,ext⟩ k) k
 refine this.trans ?_;rw [X.l];rfl
theorem AdB {ih:Aa} {f:FuncId} {a b:IV} {x y w:FV} {ext ext':List Blk} (hr:CW (ih f [.fv x,.ptr (.ext 0) 0,.fv y] ⟨[],ext⟩) w ext') (X:OneX ext ext') (ha:Bl a=some x) (hb:Bl b=some y) (own:List (Nat×Blk))
  (k:IV→Hp→List Ref→List Ref→Option (IV×Hp)):Ai [false,true,false] false false ih f [a,.ptr (.ext 0) 0,b] ⟨own,ext⟩ k=k (.fv w) ⟨own,ext'⟩ [.ext 0] [.ext 0]:=AqW (ks:=[false]) (by simp) ha (AeN hb) X hr own k
theorem Ap9 {ks:List Bool} (hks:∀b∈ks,b=false) {ih:Aa} {f:FuncId} {a0:IV} {x0:FV} {args:List IV} {vs:List FV} {w:FV} {s:Nat} {st st':List FV} {own:List (Nat×Blk)} (h0:Bl a0=some x0) (hz:BZ args=some vs) (hl:Au s own=some (.row (st.map .fv) false))
  (hr:CW (ih f (.fv x0 :: .ptr (.ext 0) 0::vs.map .fv) ⟨[],[.row (st.map .fv) false]⟩) w [.row (st'.map .fv) false]) (k:IV→Hp→List Ref→List Ref→Option (IV×Hp)) :
  Ai (false::true::ks) false false ih f (a0 :: .ptr (.own s) 0::args) ⟨own,[]⟩ k=k (.fv w) ⟨Bb s (.row (st'.map .fv) false) own,[]⟩ [.own s] [.own s]:=by
 obtain ⟨v,own',e1,hfz⟩:=hr;obtain ⟨u,hu⟩:=N7 hfz;have hD:Et (false::true::ks) false false ih f (a0 :: .ptr (.own s) 0::args) ⟨own,[]⟩ k=k (.fv w) ⟨Bb s (.row (st'.map .fv) false) own,[]⟩ [.own s] [.own s]:=by
  have h1:Bs (false::true::ks) (a0 :: .ptr (.own s) 0::args)=.ret (.fv x0 :: .ptr (.own s) 0::vs.map .fv,[.own s],[]):=by
   simp only [Bs,frp 4096 (by omega) h0,Kq args ks hks hz,Rd.bind,IV.refs];rfl
  have h2:(B9 4096 [.own s] []).runLog ⟨own,[]⟩ []=some ([(.own s,.row (st.map .fv) false)],[.own s]):=by
   show (B9 (4094+1+1) [.own s] []).runLog ⟨own,[]⟩ []=_
   simp only [B9,hasRef,Bool.false_eq_true,if_false,Rd.runLog,Hp.get,hl,Blk.refs,MR,List.append_nil,List.nil_append]
  have h3:IV.ren.renL (Ff [(.own s,.row (st.map .fv) false)]) (.fv x0 :: .ptr (.own s) 0::vs.map .fv)=some (.fv x0 :: .ptr (.ext 0) 0::vs.map .fv):=by
   simp only [IV.ren.renL,IV.ren,Ff,Cv,if_true,Ayl,Option.bind_some,Ed]
  have h4:A6 (Ff [(.own s,.row (st.map .fv) false)]) [.row (st.map .fv) false]=some [.row (st.map .fv) false]:=by
   simp only [A6,Blk.ren,Ed,Ayl,Option.bind_some]
  have h5:A6 (Cw [(.own s,.row (st.map .fv) false)]) [.row (st'.map .fv) false]=some [.row (st'.map .fv) false]:=by
   simp only [A6,Blk.ren,Ed,Ayl,Option.bind_some]
  unfold Et;simp only [h1,Rd.runLog,h2,h3,Ayo,Ayn,h4,CZ (CD 3),CZ C5,Eu,Bool.false_eq_true,if_false,e1,hu,Ayl,IV.ren,h5,Aym,List.length_nil,Bo,List.all_nil,and_self,if_true,List.nil_append,List.zip_cons_cons,List.zip_nil_left];have h6:laid ⟨own,[]⟩ [(.own s,.row (st'.map .fv) false)]=some ⟨Bb s (.row (st'.map .fv) false) own,[]⟩:=by
   simp only [laid,Hp.get,hl,Hp.set]
  simp only [h6,JS,CD]
 rw [OS,AnB,O8 _ _ _ _ h0,Ag8,Ae0,SV 0 args _ _ _ _ ks hks hz];simp only [AeJ,Yi,cond_false];exact hD
theorem Anm {ih:Aa} {f:FuncId} {x y:IV} {vx vy w:FV} {s:Nat} {a a':FV} {own own':List (Nat×Blk)} (hr:CW (ih f [.fv vx,.ptr (.ext 0) 0,.fv vy] ⟨[],[.row [.fv a] false]⟩) w [.row [.fv a'] false])
  (hx:Bl x=some vx) (hy:Bl y=some vy) (hl:Au s own=some (.row [.fv a] false)) (ho:Bb s (.row [.fv a'] false) own=own') (k:IV→Hp→List Ref→List Ref→Option (IV×Hp)) :
  Ai [false,true,false] false false ih f [x,.ptr (.own s) 0,y] ⟨own,[]⟩ k=k (.fv w) ⟨own',[]⟩ [.own s] [.own s]:=by
 subst ho;exact Ap9 (ks:=[false]) (by simp) (st:=[a]) (st':=[a']) hx (AeN hy) hl hr k
def AY (op:Int):Int:=if op<0 then -1 else ([-1,0,0,2,2,2,2,3,1,1,0,0,1,4,0,0,2,2,1,1,2,2,2,1,1,0,2,3,2,2,1]:List Int).getD op.toNat (-1)
theorem MO (op:Int):(0≤op∧op≤30)∨op<0∨30<op:=by omega
theorem KA {op:Int} (h:op<0∨30<op):AY op=-1:=by
 unfold AY;split
 ·rfl
 ·rw [List.getD_eq_getElem?_getD,List.getElem?_eq_none (by simp;omega)];rfl
theorem Sv {P:Int→Prop} (h:∀k:Nat,k<31→P k) {op:Int} (h1:0≤op∧op≤30):P op:=by
 have:=h op.toNat (by omega)
 rwa [Int.toNat_of_nonneg h1.1] at this
theorem MN {n:Nat} (hn:0<n) (op:Int):Bc (SS dt n 46 [iv op] ⟨[],[]⟩) (.int .i64 (AY op)):=by
 obtain ⟨n,rfl⟩:∃k,n=k+1:=⟨n - 1,by omega⟩;rw [c46];rcases MO op with h | h
 ·revert op
  refine fun op h=>Sv (P:=fun op=>Bc (S46 (SS dt n) n (iv op) ⟨[],[]⟩) (.int .i64 (AY op))) ?_ h;intro k hk;rcases k with _ | k
  ·simp only [RN,Po,Qc,RA,R8,RX,Pz,QX,PH,Rn,Ra,Q7,Rq,Rw,QG,Q6,RM,Rc,S46,↓XX,XY,↓reduceIte,Nat.reduceBEq,Nat.reduceAdd,Int.reduceEq,Int.reduceLT,Int.reduceLE];exact An _ _
  iterate 30 (rcases k with _ | k;· simp only [RN,Po,Qc,RA,R8,RX,Pz,QX,PH,Rn,Ra,Q7,Rq,Rw,QG,Q6,RM,Rc,S46,↓XX,XY,↓reduceIte,Nat.reduceBEq,Nat.reduceAdd,Int.reduceEq,Int.reduceLT,Int.reduceLE];exact An _ _)
  omega
 ·rw [KA h];have q1:op≠1:=by omega
  have q2:op≠2:=by omega
  have q3:op≠3:=by omega
  have q4:op≠4:=by omega
  have q5:op≠5:=by omega
  have q6:op≠6:=by omega
  have q7:op≠7:=by omega
  have q8:op≠8:=by omega
  have q9:op≠9:=by omega
  have q10:op≠10:=by omega
  have q11:op≠11:=by omega
  have q12:op≠12:=by omega
  have q13:op≠13:=by omega
  have q14:op≠14:=by omega
  have q15:op≠15:=by omega
  have q16:op≠16:=by omega
  have q17:op≠17:=by omega
  have q18:op≠18:=by omega
  have q19:op≠19:=by omega
  have q20:op≠20:=by omega
  have q21:op≠21:=by omega
  have q22:op≠22:=by omega
  have q23:op≠23:=by omega
  have q24:op≠24:=by omega
  have q25:op≠25:=by omega
  have q26:op≠26:=by omega
  have q27:op≠27:=by omega
  have q28:op≠28:=by omega
  have q29:op≠29:=by omega
  have q30:op≠30:=by omega
  simp only [RN,Po,Qc,RA,R8,RX,Pz,QX,PH,Rn,Ra,Q7,Rq,Rw,QG,Q6,RM,Rc,S46,↓XX,XY,↓reduceIte,Nat.reduceBEq,Nat.reduceAdd,Int.reduceEq,Int.reduceLT,Int.reduceLE,q1,q2,q3,q4,q5,q6,q7,q8,q9,q10,q11,q12,q13,q14,q15,q16,q17,q18,q19,q20,q21,q22,q23,q24,q25,q26,q27,q28,q29,q30];exact An _ _
def GT (op n:Int):Bool:=if op=1 then decide (0≤n) && decide (n≤3000) else if op=2 then decide (0≤n) && decide (n≤2) else if op=26 then decide (0≤n) && decide (n≤4) else if op=25 then true else decide (n=0)
theorem AeZ {n:Nat} (hn:0<n) (op m:Int):Bc (SS dt n 80 [iv op,iv m] ⟨[],[]⟩) (.bool (GT op m)):=by
 obtain ⟨n,rfl⟩:∃k,n=k+1:=⟨n - 1,by omega⟩;rw [c80];unfold GT;by_cases h1:op=1
 ·by_cases h0:0≤m<;>simp only [↓Ag2,↓XX,XY,↓reduceIte,Nat.reduceBEq,Nat.reduceAdd,Int.reduceEq,Int.reduceLT,Int.reduceLE,h0,h1]<;>exact An _ _
 by_cases h2:op=2
 ·by_cases h0:0≤m<;>simp only [↓Ag2,↓XX,XY,↓reduceIte,Nat.reduceBEq,Nat.reduceAdd,Int.reduceEq,Int.reduceLT,Int.reduceLE,h0,h2]<;>exact An _ _
 by_cases h3:op=26
 ·by_cases h0:0≤m<;>simp only [↓Ag2,↓XX,XY,↓reduceIte,Nat.reduceBEq,Nat.reduceAdd,Int.reduceEq,Int.reduceLT,Int.reduceLE,h0,h3]<;>exact An _ _
 by_cases h4:op=25
 ·simp only [↓Ag2,↓XX,XY,↓reduceIte,Nat.reduceBEq,Nat.reduceAdd,Int.reduceEq,Int.reduceLT,Int.reduceLE,h4];exact An _ _
 simp only [↓Ag2,↓XX,XY,↓reduceIte,Nat.reduceBEq,Nat.reduceAdd,Int.reduceEq,Int.reduceLT,Int.reduceLE,h1,h2,h3,h4];exact An _ _
theorem Wh {n:Nat} (hn:0<n) (op m:Int):Bc (SS dt n 103 [iv op,iv m] ⟨[],[]⟩) (.bool (GT op m)):=by
 obtain ⟨n,rfl⟩:∃k,n=k+1:=⟨n - 1,by omega⟩;rw [AvS];unfold GT;by_cases h1:op=1
 ·by_cases h0:0≤m<;>simp only [↓Afz,↓XX,XY,↓reduceIte,Nat.reduceBEq,Nat.reduceAdd,Int.reduceEq,Int.reduceLT,Int.reduceLE,h0,h1]<;>exact An _ _
 by_cases h2:op=2
 ·by_cases h0:0≤m<;>simp only [↓Afz,↓XX,XY,↓reduceIte,Nat.reduceBEq,Nat.reduceAdd,Int.reduceEq,Int.reduceLT,Int.reduceLE,h0,h2]<;>exact An _ _
 by_cases h3:op=26
 ·by_cases h0:0≤m<;>simp only [↓Afz,↓XX,XY,↓reduceIte,Nat.reduceBEq,Nat.reduceAdd,Int.reduceEq,Int.reduceLT,Int.reduceLE,h0,h3]<;>exact An _ _
 by_cases h4:op=25
 ·simp only [↓Afz,↓XX,XY,↓reduceIte,Nat.reduceBEq,Nat.reduceAdd,Int.reduceEq,Int.reduceLT,Int.reduceLE,h4];exact An _ _
 simp only [↓Afz,↓XX,XY,↓reduceIte,Nat.reduceBEq,Nat.reduceAdd,Int.reduceEq,Int.reduceLT,Int.reduceLE,h1,h2,h3,h4];exact An _ _
mutual
def Tm.chk:Tm→Int→Int→Int×Int
 | .mk op m l,n,d=>if 3000<n+1∨120<d then (n+1,5) else if AY op≠(l.length:Int)∨GT op m=false then (n+1,1) else Tm.chkL l (n+1) (d+1)
def Tm.chkL:List Tm→Int→Int→Int×Int
 | [],n,_=>(n,0)
 | t::l,n,d=>if (t.chk n d).2=0 then Tm.chkL l (t.chk n d).1 d else t.chk n d
end
mutual
theorem Aak:∀(t:Tm) (n d:Int),n≤3000→n≤(t.chk n d).1∧(t.chk n d).1≤3001∧((t.chk n d).2=0→(t.chk n d).1=n+t.wt∧(t.chk n d).1≤3000∧d≤120)
 | .mk op m l,n,d,hn=>by
  rw [Tm.chk];split
  ·simp;omega
  ·split
   ·simp;omega
   ·have:=chkL_b l (n+1) (d+1) (by omega)
    simp only [Tm.wt];omega
theorem chkL_b:∀(l:List Tm) (n d:Int),n≤3000→n≤(Tm.chkL l n d).1∧(Tm.chkL l n d).1≤3001∧((Tm.chkL l n d).2=0→(Tm.chkL l n d).1=n+Tm.wtL l∧(Tm.chkL l n d).1≤3000)
 | [],n,d,hn=>by simp [Tm.chkL,Tm.wtL];omega
 | t::l,n,d,hn=>by
  have h1:=Aak t n d hn;rw [Tm.chkL];split
  ·rename_i h0;have h2:=chkL_b l (t.chk n d).1 d (by omega);simp only [Tm.wtL];omega
  ·rename_i h0;simp only [Tm.wtL];omega
end
abbrev HW (op m:Int) (ks:List Tm) (N E:Int):Hp:=⟨[(58720256,.row [iv op,iv m,.fv (.sl (ks.map Tm.enc))] false)],[.row [iv N,iv E] false]⟩
theorem Hj (op:Int):AY op≤4:=by
 rcases MO op with h | h
 ·exact Sv (P:=fun op=>AY op≤4) (by
                         intro k hk;have:∀k:Fin 31,AY (k.val:Int)≤4:=by decide
                         exact this ⟨k,hk⟩) h
 ·rw [KA h];omega
theorem Ai6:∀(n:Nat) (t:Tm) (N d:Int),2 * t.wt+2<n→0≤N→N≤3000→0≤d→d≤121 →
  CW (SS dt n 56 [.ptr (.ext 0) 0,.fv t.enc,iv d] ⟨[],[.row [iv N,iv 0] false]⟩) (.tuple []) [.row [iv (t.chk N d).1,iv (t.chk N d).2] false]:=by
 intro n
 induction n using Nat.strongRecOn with
 | ind n ih =>
  intro t N d hn h0 hN hd0 hd;obtain ⟨op,m,ks⟩:=t;simp only [Tm.wt] at hn;obtain ⟨n,rfl⟩:∃k,n=k+1:=⟨n - 1,by omega⟩;rw [c56,Ah];have hlen:=DL ks;have hw:BC (N+1)=N+1:=by rw [Az]<;>omega
  have hwd:BC (d+1)=d+1:=by rw [Az]<;>omega
  have ha:=MN (n:=n) (by omega) op;have hb:=AeZ (n:=n) (by omega) op m;have hl:∀(N' E':Int) (r:Int×Int),N'≤3000∨E'≠0→0≤N'→(E'=0→ks.length≤4∧r=Tm.chkL ks N' (d+1)∧d≤120)→(E'≠0→r=(N',E')) →
    CW (Bh n (fun q20 l21 h22=>JE l21 h22 (SS dt n) q20) [.ptr (.ext 0) 0,iv d,.ptr (.own 58720256) 0,iv 0] (HW op m ks N' E')) (.tuple []) [.row [iv r.1,iv r.2] false]:=by
   intro N' E' r hN' hN0 h1 h2;refine A2 (Q:=fun r'=>CW r' _ _) (fun k V H=>∃pre rest N2 E2,ks=pre++rest∧rest.length=k∧V=[.ptr (.ext 0) 0,iv d,.ptr (.own 58720256) 0,iv pre.length]∧H=HW op m ks N2 E2 ∧
    0≤N2∧(E2=0→N2≤3000∧ks.length≤4∧r=Tm.chkL rest N2 (d+1)∧d≤120)∧(E2≠0→r=(N2,E2))) ?_ n ks.length _ _ (by omega) ⟨[],ks,N',E',rfl,rfl,rfl,rfl,hN0,fun e=>⟨by rcases hN' with h | h;exact h;exact absurd e h,h1 e⟩,h2⟩
   rintro k V H rec ⟨pre,rest,N2,E2,hk,hkl,rfl,rfl,hN2,hok,hbad⟩ hrec;have hkk:ks.length=pre.length+rest.length:=by rw [hk];simp
   cases rest with
   | nil =>
    have hno:¬ ((pre.length:Int)<ks.length):=by rw [hkk];simp
    have:r=(N2,E2):=by
     by_cases he:E2=0
     ·rw [(hok he).2.2.1,he];rfl
     ·exact hbad he
    rw [this];simp only [Jt,J2,Jj,Ju,JE,Jk,JB,JA,Jo,J3,J1,Js,J5,JD,Jv,S56,↓XX,XY,↓reduceIte,Nat.reduceBEq,Nat.reduceAdd,Int.reduceEq,Int.reduceLT,Int.reduceLE,hno];exact Hu rfl _ _
   | cons t rest =>
    have hi:(pre.length:Int)<ks.length:=by rw [hkk];simp;omega
    by_cases he:E2=0
    ·subst he;obtain ⟨hb1,hb2,hr,hd2⟩:=hok rfl;have hg:=B7 hk;have htw:=CO (t:=t) (l:=ks) (by rw [hk];simp);have hc:=ih n (by omega) t N2 (d+1) (by omega) hN2 hb1 (by omega) (by omega);have hcb:=Aak t N2 (d+1) hb1;have hwi:BC ((pre.length:Int)+1)=((pre++[t]).length:Int):=(Az (by omega) (by omega)).trans (by simp);rw [Tm.chkL] at hr;have h9:=hrec rest.length [.ptr (.ext 0) 0,iv d,.ptr (.own 58720256) 0,iv (pre++[t]).length] (HW op m ks (t.chk N2 (d+1)).1 (t.chk N2 (d+1)).2) (by simp only [Aym] at hkl;omega)
      ⟨pre++[t],rest,_,_,by rw [hk];simp,rfl,rfl,rfl,by omega,fun e=>⟨(hcb.2.2 e).2.1,hb2,by rw [hr,if_pos e],hd2⟩,fun e=>by rw [hr,if_neg e]⟩
     generalize t.chk N2 (d+1)=q at hc h9;obtain ⟨o,p,l⟩:=t;rw [Ah] at hc;simp only [Jt,J2,Jj,Ju,JE,Jk,JB,JA,Jo,J3,J1,Js,J5,JD,Jv,S56,↓XX,XY,↓reduceIte,Nat.reduceBEq,Nat.reduceAdd,Int.reduceEq,Int.reduceLT,Int.reduceLE,hi,↓Bn (AJ hg) (A0 _ _ _),↓BQ,hwd,↓I9 hc (AtP _ _ _ _),hwi];exact h9
    ·rw [hbad he];simp only [Jt,J2,Jj,Ju,JE,Jk,JB,JA,Jo,J3,J1,Js,J5,JD,Jv,S56,↓XX,XY,↓reduceIte,Nat.reduceBEq,Nat.reduceAdd,Int.reduceEq,Int.reduceLT,Int.reduceLE,hi,he];exact Hu rfl _ _
  rw [Tm.chk];by_cases c1:3000<N+1
  ·have hx:=hl (N+1) 5 (N+1,5) (.inr (by decide)) (by omega) (fun e=>absurd e (by decide)) (fun _=>rfl);rw [if_pos (.inl c1)];simp only [↓Ahy,↓XX,XY,↓reduceIte,Nat.reduceBEq,Nat.reduceAdd,Int.reduceEq,Int.reduceLT,Int.reduceLE,hw,c1];exact hx
  ·by_cases c2:120<d
   ·have hx:=hl (N+1) 5 (N+1,5) (.inr (by decide)) (by omega) (fun e=>absurd e (by decide)) (fun _=>rfl);rw [if_pos (.inr c2)];simp only [↓Ahy,↓XX,XY,↓reduceIte,Nat.reduceBEq,Nat.reduceAdd,Int.reduceEq,Int.reduceLT,Int.reduceLE,hw,c1,c2];exact hx
   ·rw [if_neg (by omega)];by_cases c3:AY op=(ks.length:Int)
    ·have hx1:=hl (N+1) 1 (N+1,1) (.inr (by decide)) (by omega) (fun e=>absurd e (by decide)) (fun _=>rfl);have hk4:=Hj op;have hx0:=hl (N+1) 0 (Tm.chkL ks (N+1) (d+1)) (.inl (by omega)) (by omega) (fun _=>⟨by omega,rfl,by omega⟩) (fun e=>absurd rfl e);cases hnb:GT op m
     ·rw [hnb] at hb;rw [if_pos (.inr rfl)];simp only [↓Ahy,↓XX,XY,↓reduceIte,Nat.reduceBEq,Nat.reduceAdd,Int.reduceEq,Int.reduceLT,Int.reduceLE,hw,c1,c2,↓Av ha,c3,↓Ag hb];exact hx1
     ·rw [hnb] at hb;rw [if_neg (by simp [c3])];simp only [↓Ahy,↓XX,XY,↓reduceIte,Nat.reduceBEq,Nat.reduceAdd,Int.reduceEq,Int.reduceLT,Int.reduceLE,hw,c1,c2,↓Av ha,c3,↓Ag hb];exact hx0
    ·have hx1:=hl (N+1) 1 (N+1,1) (.inr (by decide)) (by omega) (fun e=>absurd e (by decide)) (fun _=>rfl);rw [if_pos (.inl c3)];simp only [↓Ahy,↓XX,XY,↓reduceIte,Nat.reduceBEq,Nat.reduceAdd,Int.reduceEq,Int.reduceLT,Int.reduceLE,hw,c1,c2,↓Av ha,c3];exact hx1
theorem Mb {n:Nat} (t:Tm) (hn:2 * t.wt+3<n):Bc (SS dt n 25 [.fv t.enc] ⟨[],[]⟩) (.int .i64 (t.chk 0 1).2):=by
 obtain ⟨n,rfl⟩:∃k,n=k+1:=⟨n - 1,by omega⟩;rw [c25];have h:=Ai6 n t 0 1 (by omega) (by omega) (by omega) (by omega) (by omega);generalize t.chk 0 1=q at h;obtain ⟨op,m,ks⟩:=t;rw [Ah] at h ⊢;have c2:=fun k=>Am7 (k:=k) h (x:=.fv (.agg [.int .i64 op,.int .i64 m,.sl (ks.map Tm.enc)])) (y:=iv 1) (s:=26215425) rfl rfl
  (own:=[(26214400,.row [iv op,iv m,.fv (.sl (ks.map Tm.enc))] false),(26215425,.row [iv 0,iv 0] false)])
  (own':=[(26214400,.row [iv op,iv m,.fv (.sl (ks.map Tm.enc))] false),(26215425,.row [iv q.1,iv q.2] false)]) (by simp [Au]) (by simp [Bb])
 simp only [AfH,S25,↓XX,XY,↓reduceIte,Nat.reduceBEq,Nat.reduceAdd,Int.reduceEq,Int.reduceLT,Int.reduceLE,↓c2];exact An _ _
theorem TQ (s:Nat) (h:Hp) (k:IV→Hp→List Ref→List Ref→Option (IV×Hp)):AD (L1 EE 136 [(0,.fv (.int .i64 (-1))),(1,.fv (.int .i64 0)),(2,.fv (.int .i64 0)),(3,.fv (.int .i64 2)),(4,.fv (.int .i64 2)),(5,.fv (.int .i64 2)),(6,.fv (.int .i64 2)),(7,.fv (.int .i64 3)),(8,.fv (.int .i64 1)),(9,.fv (.int .i64 1)),(10,.fv (.int .i64 0)),(11,.fv (.int .i64 0)),(12,.fv (.int .i64 1)),(13,.fv (.int .i64 4)),(14,.fv (.int .i64 0)),(15,.fv (.int .i64 0)),(16,.fv (.int .i64 2)),(17,.fv (.int .i64 2)),(18,.fv (.int .i64 1)),(19,.fv (.int .i64 1)),(20,.fv (.int .i64 2)),(21,.fv (.int .i64 2)),(22,.fv (.int .i64 2)),(23,.fv (.int .i64 1)),(24,.fv (.int .i64 1)),(25,.fv (.int .i64 0)),(26,.fv (.int .i64 2)),(27,.fv (.int .i64 3)),(28,.fv (.int .i64 2)),(29,.fv (.int .i64 2)),(30,.fv (.int .i64 1))]) s h k=k (.fv (.agg [.int .i64 (-1),.int .i64 0,.int .i64 0,.int .i64 2,.int .i64 2,.int .i64 2,.int .i64 2,.int .i64 3,.int .i64 1,.int .i64 1,.int .i64 0,.int .i64 0,.int .i64 1,.int .i64 4,.int .i64 0,.int .i64 0,.int .i64 2,.int .i64 2,.int .i64 1,.int .i64 1,.int .i64 2,.int .i64 2,.int .i64 2,.int .i64 1,.int .i64 1,.int .i64 0,.int .i64 2,.int .i64 3,.int .i64 2,.int .i64 2,.int .i64 1])) h [] []:=by
 have:L1 EE 136 [(0,.fv (.int .i64 (-1))),(1,.fv (.int .i64 0)),(2,.fv (.int .i64 0)),(3,.fv (.int .i64 2)),(4,.fv (.int .i64 2)),(5,.fv (.int .i64 2)),(6,.fv (.int .i64 2)),(7,.fv (.int .i64 3)),(8,.fv (.int .i64 1)),(9,.fv (.int .i64 1)),(10,.fv (.int .i64 0)),(11,.fv (.int .i64 0)),(12,.fv (.int .i64 1)),(13,.fv (.int .i64 4)),(14,.fv (.int .i64 0)),(15,.fv (.int .i64 0)),(16,.fv (.int .i64 2)),(17,.fv (.int .i64 2)),(18,.fv (.int .i64 1)),(19,.fv (.int .i64 1)),(20,.fv (.int .i64 2)),(21,.fv (.int .i64 2)),(22,.fv (.int .i64 2)),(23,.fv (.int .i64 1)),(24,.fv (.int .i64 1)),(25,.fv (.int .i64 0)),(26,.fv (.int .i64 2)),(27,.fv (.int .i64 3)),(28,.fv (.int .i64 2)),(29,.fv (.int .i64 2)),(30,.fv (.int .i64 1))]=Idl.val (.fv (.agg [.int .i64 (-1),.int .i64 0,.int .i64 0,.int .i64 2,.int .i64 2,.int .i64 2,.int .i64 2,.int .i64 3,.int .i64 1,.int .i64 1,.int .i64 0,.int .i64 0,.int .i64 1,.int .i64 4,.int .i64 0,.int .i64 0,.int .i64 2,.int .i64 2,.int .i64 1,.int .i64 1,.int .i64 2,.int .i64 2,.int .i64 2,.int .i64 1,.int .i64 1,.int .i64 0,.int .i64 2,.int .i64 3,.int .i64 2,.int .i64 2,.int .i64 1])):=by kernel_rfl
 rw [this];exact gen_val' _ _ _ _
theorem Ah7 {n:Nat} {op:Int} (h:op<0∨30<op):Bc (SS dt (n+1) 102 [iv op] ⟨[],[]⟩) (.int .i64 (-1)):=by
 rw [Avw];by_cases h1:op<0
 ·simp only [QV,AeC,↓XX,XY,↓reduceIte,Nat.reduceBEq,Nat.reduceAdd,Int.reduceEq,Int.reduceLT,Int.reduceLE,↓TQ,h1];exact An _ _
 ·have h2:31≤op:=by omega
  simp only [QV,AeC,↓XX,XY,↓reduceIte,Nat.reduceBEq,Nat.reduceAdd,Int.reduceEq,Int.reduceLT,Int.reduceLE,↓TQ,h1,h2];exact An _ _
def AhP (k:Int) (o:Option (IV×Hp)):Bool:=match o with
 | some (.fv (.int .i64 m),⟨_,[]⟩)=>decide (m=k)
 | _=>false
theorem Aie {k:Int} {o:Option (IV×Hp)} (h:AhP k o=true):Bc o (.int .i64 k):=by
 unfold AhP at h;split at h
 ·have:=of_decide_eq_true h
  subst this;exact An _ _
 ·cases h
theorem Ahf {n:Nat} (hn:0<n) (op:Int):Bc (SS dt n 102 [iv op] ⟨[],[]⟩) (.int .i64 (AY op)):=by
 obtain ⟨n,rfl⟩:∃k,n=k+1:=⟨n - 1,by omega⟩;rcases MO op with h | h
 ·revert op
  refine fun op h=>Sv (P:=fun op=>Bc (SS dt (n+1) 102 [iv op] ⟨[],[]⟩) (.int .i64 (AY op))) ?_ h;intro k hk
  iterate 31 (rcases k with _ | k;· exact Aie (by kernel_rfl))
  omega
 ·rw [KA h];exact Ah7 h
abbrev HC (op m:Int) (ks:List Tm) (N:Int):Hp:=⟨[(74448896,.row [iv op,iv m,.fv (.sl (ks.map Tm.enc))] false)],[.row [iv N] false]⟩
theorem Adc {base rm:List Nat} {vals:List IV} {own:List (Nat×Blk)} {a:FV} (hb:rm.any base.contains=false) (hf:AN rm vals own []=true) (k:Hp→Option (IV×Hp)) :
  BB base rm vals ⟨own,[.row [.fv a] false]⟩ k=k ⟨IN rm vals own [],[.row [.fv a] false]⟩:=AoO (by intro s;simp [Blk.refs,IV.refs.refsL,IV.refs]) hb hf k
theorem AeP:∀(n:Nat) (t:Tm) (N d:Int),2 * t.wt+2<n→0≤N→N≤3000→0≤d→d≤121 →
  CW (SS dt n 71 [.fv t.enc,.ptr (.ext 0) 0,iv d] ⟨[],[.row [iv N] false]⟩) (.int .i64 (t.chk N d).2) [.row [iv (t.chk N d).1] false]:=by
 intro n
 induction n using Nat.strongRecOn with
 | ind n ih =>
  intro t N d hn h0 hN hd0 hd;obtain ⟨op,m,ks⟩:=t;simp only [Tm.wt] at hn;obtain ⟨n,rfl⟩:∃k,n=k+1:=⟨n - 1,by omega⟩;rw [c71,Ah];have hlen:=DL ks;have hw:BC (N+1)=N+1:=by rw [Az]<;>omega
  have hwd:BC (d+1)=d+1:=by rw [Az]<;>omega
  have ha:=Ahf (n:=n) (by omega) op;have hb:=Wh (n:=n) (by omega) op m;rw [Tm.chk];by_cases c1:3000<N+1
  ·rw [if_pos (.inl c1)];simp only [↓Xz,↓XX,XY,↓reduceIte,Nat.reduceBEq,Nat.reduceAdd,Int.reduceEq,Int.reduceLT,Int.reduceLE,hw,c1];exact AV _ _ _
  by_cases c2:120<d
  ·rw [if_pos (.inr c2)];simp only [↓Xz,↓XX,XY,↓reduceIte,Nat.reduceBEq,Nat.reduceAdd,Int.reduceEq,Int.reduceLT,Int.reduceLE,hw,c1,c2];exact AV _ _ _
  rw [if_neg (by omega)];by_cases c3:AY op=(ks.length:Int)
  ·cases hnb:GT op m
   ·rw [hnb] at hb;rw [if_pos (.inr rfl)];simp only [↓Xz,↓XX,XY,↓reduceIte,Nat.reduceBEq,Nat.reduceAdd,Int.reduceEq,Int.reduceLT,Int.reduceLE,hw,c1,c2,↓Av ha,c3,↓Ag hb];exact AV _ _ _
   ·rw [hnb] at hb;have hk4:=Hj op;rw [if_neg (by simp [c3])];simp only [PX,Q8,Pu,QI,QU,Q5,PZ,Qj,PV,Qg,S71,↓XX,XY,↓reduceIte,Nat.reduceBEq,Nat.reduceAdd,Int.reduceEq,Int.reduceLT,Int.reduceLE,hw,c1,c2,↓Av ha,c3,↓Ag hb,↓Adc,↓AG,XD,heldB,AN,XE];refine A2 (Q:=fun r'=>CW r' _ _) (fun k V H=>∃pre rest N2,ks=pre++rest∧rest.length=k∧V=[.ptr (.ext 0) 0,iv d,.fv (.sl (ks.map Tm.enc)),iv ks.length,iv pre.length]∧H=HC op m ks N2 ∧
     0≤N2∧N2≤3000∧Tm.chkL rest N2 (d+1)=Tm.chkL ks (N+1) (d+1)) ?_ n ks.length _ _ (by omega) ⟨[],ks,N+1,rfl,rfl,rfl,rfl,by omega,by omega,rfl⟩
    rintro k V H rec ⟨pre,rest,N2,hk,hkl,rfl,rfl,hN2,hN3,hr⟩ hrec;have hkk:ks.length=pre.length+rest.length:=by rw [hk];simp
    cases rest with
    | nil =>
     have hno:¬ ((pre.length:Int)<ks.length):=by rw [hkk];simp
     rw [← hr];simp only [↓Xz,↓XX,XY,↓reduceIte,Nat.reduceBEq,Nat.reduceAdd,Int.reduceEq,Int.reduceLT,Int.reduceLE,hno,Tm.chkL];exact AV _ _ _
    | cons t rest =>
     have hi:(pre.length:Int)<ks.length:=by rw [hkk];simp;omega
     have hg:=B7 hk;have htw:=CO (t:=t) (l:=ks) (by rw [hk];simp);have hc:=ih n (by omega) t N2 (d+1) (by omega) hN2 hN3 (by omega) (by omega);have hcb:=Aak t N2 (d+1) hN3;have hwi:BC ((pre.length:Int)+1)=((pre++[t]).length:Int):=(Az (by omega) (by omega)).trans (by simp);rw [Tm.chkL] at hr;rw [← hr];have h9:=fun e=>hrec rest.length [.ptr (.ext 0) 0,iv d,.fv (.sl (ks.map Tm.enc)),iv ks.length,iv (pre++[t]).length] (HC op m ks (t.chk N2 (d+1)).1) (by simp only [Aym] at hkl;omega)
      ⟨pre++[t],rest,_,by rw [hk];simp,rfl,rfl,rfl,by omega,(hcb.2.2 e).2.1,by rw [← hr,if_pos e]⟩
     rw [← hr] at h9;generalize t.chk N2 (d+1)=q at hc h9 ⊢;obtain ⟨q1,q2⟩:=q;simp only at hc h9 ⊢;obtain ⟨o,p,l⟩:=t;rw [Ah] at hc;by_cases he:q2=0
     ·subst he;simp only [if_true] at h9 ⊢;simp only [↓Xz,↓XX,XY,↓reduceIte,Nat.reduceBEq,Nat.reduceAdd,Int.reduceEq,Int.reduceLT,Int.reduceLE,hi,↓Bn (AJ hg) (A0 _ _ _),↓BQ,hwd,↓AdB hc (Aom _ _),hwi,↓Adc,↓AG,XD,heldB,AN,XE];exact h9 trivial
     ·rw [if_neg he];simp only [↓Xz,↓XX,XY,↓reduceIte,Nat.reduceBEq,Nat.reduceAdd,Int.reduceEq,Int.reduceLT,Int.reduceLE,hi,↓Bn (AJ hg) (A0 _ _ _),↓BQ,hwd,↓AdB hc (Aom _ _),he];exact AV _ _ _
  ·rw [if_pos (.inl c3)];simp only [↓Xz,↓XX,XY,↓reduceIte,Nat.reduceBEq,Nat.reduceAdd,Int.reduceEq,Int.reduceLT,Int.reduceLE,hw,c1,c2,↓Av ha,c3];exact AV _ _ _
theorem O9 {n:Nat} (t:Tm) (hn:2 * t.wt+3<n):Bc (SS dt n 49 [.fv t.enc] ⟨[],[]⟩) (.int .i64 (t.chk 0 1).2):=by
 obtain ⟨n,rfl⟩:∃k,n=k+1:=⟨n - 1,by omega⟩;rw [c49];have h:=AeP n t 0 1 (by omega) (by omega) (by omega) (by omega) (by omega);generalize t.chk 0 1=q at h;obtain ⟨op,m,ks⟩:=t;rw [Ah] at h ⊢;have c2:=fun k=>Anm (k:=k) h (x:=.fv (.agg [.int .i64 op,.int .i64 m,.sl (ks.map Tm.enc)])) (y:=iv 1) (s:=51381249) rfl rfl
  (own:=[(51380224,.row [iv op,iv m,.fv (.sl (ks.map Tm.enc))] false),(51381249,.row [iv 0] false)])
  (own':=[(51380224,.row [iv op,iv m,.fv (.sl (ks.map Tm.enc))] false),(51381249,.row [iv q.1] false)]) (by simp [Au]) (by simp [Bb])
 simp only [S49,↓XX,XY,↓reduceIte,Nat.reduceBEq,Nat.reduceAdd,Int.reduceEq,Int.reduceLT,Int.reduceLE,↓c2];exact An _ _
def tI:Tm:=.mk 15 0 []
def CM (r:Int×Tm) (a:Tm):Int:=if r.1=0 then (if a.same r.2 then 0 else 11) else r.1
def GP (op:Int) (a:Tm) (r:Int×Tm):Int×Tm:=if r.1=0 then (((Tm.mk op 0 [a,r.2]).chk 0 1).2,.mk op 0 [a,r.2]) else (r.1,.z)
def Tm.kid (t:Tm) (i:Nat):Tm:=t.kids.getD i .z
def Tm.inf:Tm→List Tm→Int×Tm
 | .mk op n [],g=>if op=1 then (if (g.length:Int)≤n then (8,.z) else (0,g.getD (g.length - 1 - n.toNat) .z)) else if op=25 then (0,tI) else (10,.z)
 | .mk op _ [a],g=>if op=23 then (if (a.inf g).1=0 then (if (a.inf g).2.op=17 then (0,(a.inf g).2.kid 0) else (12,.z)) else ((a.inf g).1,.z))
  else if op=24 then (if (a.inf g).1=0 then (if (a.inf g).2.op=17 then (0,(a.inf g).2.kid 1) else (12,.z)) else ((a.inf g).1,.z)) else (10,.z)
 | .mk op _ [a,b],g =>
  if op=26 then (if CM (a.inf g) tI=0 then (CM (b.inf g) tI,tI) else (CM (a.inf g) tI,.z))
  else if op=20 then (if a.typed then GP 16 a (b.inf (g++[a])) else (10,.z))
  else if op=29 then (if a.typed then (CM (b.inf (g++[a])) a,a) else (10,.z))
  else if op=28 then (if (a.inf g).1=0 then b.inf (g++[(a.inf g).2]) else ((a.inf g).1,.z))
  else if op=22 then (if (a.inf g).1=0 then GP 17 (a.inf g).2 (b.inf g) else ((a.inf g).1,.z))
  else if op=21 then (if (a.inf g).1=0 then (if (a.inf g).2.op=16 then (CM (b.inf g) ((a.inf g).2.kid 0),(a.inf g).2.kid 1) else (12,.z)) else ((a.inf g).1,.z))
  else (10,.z)
 | .mk op _ [a,b,c],g=>if op=27 then (if CM (a.inf g) tI=0 then (if (b.inf g).1=0 then (CM (c.inf g) (b.inf g).2,(b.inf g).2) else ((b.inf g).1,.z)) else (CM (a.inf g) tI,.z)) else (10,.z)
 | _,_=>(10,.z)
mutual
def Tm.shp:Tm→Prop
 | .mk op n l=>(l.length:Int)=AY op∧(op=1→0≤n)∧Tm.shpL l
def Tm.shpL:List Tm→Prop
 | []=>True
 | t::l=>t.shp∧Tm.shpL l
end
mutual
theorem Rk:∀(t:Tm) (n d:Int),(t.chk n d).2=0→t.shp
 | .mk op m l,n,d,h=>by
  rw [Tm.chk] at h;split at h
  ·cases h
  ·split at h
   ·cases h
   ·rename_i h1 h2;rw [Tm.shp];have h3:AY op=(l.length:Int):=Classical.byContradiction fun e=>h2 (.inl e);have h4:GT op m=true:=by cases hb:GT op m with
     | true=>rfl
     | false=>exact absurd (.inr hb) h2
    refine ⟨h3.symm,?_,chkL_shp l _ _ h⟩;rintro rfl;simp [GT] at h4;exact h4.1
theorem chkL_shp:∀(l:List Tm) (n d:Int),(Tm.chkL l n d).2=0→Tm.shpL l
 | [],_,_,_=>trivial
 | t::l,n,d,h=>by
  rw [Tm.chkL] at h;split at h
  ·rename_i h1;exact ⟨Rk t _ _ h1,chkL_shp l _ _ h⟩
  ·rename_i h1;exact absurd h h1
end
theorem AaE {t:Tm} (h:(t.chk 0 1).2=0):t.wt≤3000:=by
 have:=(Aak t 0 1 (by omega)).2.2 h
 omega
theorem MX {t:Tm} (h:t.typed=true):(t.op=15∧t.kids=[])∨((t.op=16∨t.op=17)∧∃a b,t.kids=[a,b]∧a.typed=true∧b.typed=true):=by
 obtain ⟨op,m,l⟩:=t
 match l,h with
 | [],h=>exact .inl ⟨by simpa [Tm.typed,Tm.op] using h,rfl⟩
 | [_],h=>rw [KL] at h;cases h
 | x::y::z::l,h=>rw [Ko] at h;cases h
 | [a,b],h =>
  simp only [Tm.typed,Bool.and_eq_true,Bool.or_eq_true,decide_eq_true_eq] at h;exact .inr ⟨h.1,a,b,rfl,h.2.1,h.2.2⟩
theorem Uj:tI.typed=true:=by simp [tI,Tm.typed]
theorem HX (M:Nat) (hM:3000≤M):∀(n:Nat) (t:Tm) (g:List Tm),t.wt<n→t.wt≤M→(∀x∈g,x.typed=true∧x.wt≤M)→t.shp→(t.inf g).1=0→(t.inf g).2.typed=true∧(t.inf g).2.wt≤M:=by
 intro n
 induction n with
 | zero=>intro t g h;omega
 | succ n ih =>
  intro t g hn hw hg hs h;obtain ⟨op,m,l⟩:=t;simp only [Tm.wt] at hn hw;have hp:∀{x a:Tm},x∈g++[a]→a.typed=true∧a.wt≤M→x.typed=true∧x.wt≤M:=by
   intro x a hx ha;rcases List.mem_append.1 hx with h | h
   ·exact hg x h
   ·rw [List.mem_singleton.1 h];exact ha
  rw [Tm.shp] at hs;obtain ⟨_,hv,hs⟩:=hs
  match l,hs with
  | [],_ =>
   unfold Tm.inf at h ⊢;by_cases h1:op=1
   ·rw [if_pos h1] at h ⊢;by_cases h2:(g.length:Int)≤m
    ·rw [if_pos h2] at h;cases h
    ·rw [if_neg h2]
     have:=hv h1
     have hlt:g.length - 1 - m.toNat<g.length:=by omega
     rw [List.getD_eq_getElem?_getD,List.getElem?_eq_getElem hlt];exact hg _ (List.getElem_mem hlt)
   ·rw [if_neg h1] at h ⊢;by_cases h2:op=25
    ·rw [if_pos h2];exact ⟨Uj,by simp [tI,Tm.wt,Tm.wtL];omega⟩
    ·rw [if_neg h2] at h;cases h
  | [a],hs =>
   simp only [Tm.wtL] at hn hw;have key:(a.inf g).1=0→(a.inf g).2.op=17→∀i,i<2→((a.inf g).2.kid i).typed=true∧((a.inf g).2.kid i).wt≤M:=by
    intro h1 h2 i hi;obtain ⟨h3,h4⟩:=ih a g (by omega) (by omega) hg hs.1 h1;rcases MX h3 with ⟨h5,_⟩ | ⟨_,x,y,h6,h7,h8⟩
    ·omega
    ·generalize (a.inf g).2=r at *;obtain ⟨o,p,k⟩:=r;simp only [Tm.kids] at h6;subst h6;simp only [Tm.wt,Tm.wtL] at h4
     match i,hi with
     | 0,_=>exact ⟨h7,by show x.wt≤M;omega⟩
     | 1,_=>exact ⟨h8,by show y.wt≤M;omega⟩
   unfold Tm.inf at h ⊢;by_cases h1:op=23
   ·rw [if_pos h1] at h ⊢;by_cases h2:(a.inf g).1=0
    ·rw [if_pos h2] at h ⊢;by_cases h3:(a.inf g).2.op=17
     ·rw [if_pos h3];exact key h2 h3 0 (by decide)
     ·rw [if_neg h3] at h;cases h
    ·rw [if_neg h2] at h;exact absurd h h2
   ·rw [if_neg h1] at h ⊢;by_cases h1:op=24
    ·rw [if_pos h1] at h ⊢;by_cases h2:(a.inf g).1=0
     ·rw [if_pos h2] at h ⊢;by_cases h3:(a.inf g).2.op=17
      ·rw [if_pos h3];exact key h2 h3 1 (by decide)
      ·rw [if_neg h3] at h;cases h
     ·rw [if_neg h2] at h;exact absurd h h2
    ·rw [if_neg h1] at h;cases h
  | [a,b],hs =>
   simp only [Tm.wtL] at hn hw;have hmade:∀(o:Int) (x:Tm) (r:Int×Tm),(o=16∨o=17)→x.typed=true→(r.1=0→r.2.typed=true)→(GP o x r).1=0→(GP o x r).2.typed=true∧(GP o x r).2.wt≤M:=by
    intro o x r ho hx hr hz;unfold GP at hz ⊢;by_cases h1:r.1=0
    ·rw [if_pos h1] at hz ⊢;refine ⟨?_,Nat.le_trans (AaE hz) hM⟩;simp only [Tm.typed,hx,hr h1,Bool.and_true,Bool.or_eq_true,decide_eq_true_eq];exact ho
    ·rw [if_neg h1] at hz;exact absurd hz h1
   unfold Tm.inf at h ⊢;by_cases h1:op=26
   ·rw [if_pos h1] at h ⊢;by_cases h2:CM (a.inf g) tI=0
    ·rw [if_pos h2];exact ⟨Uj,by simp [tI,Tm.wt,Tm.wtL];omega⟩
    ·rw [if_neg h2] at h;exact absurd h h2
   rw [if_neg h1] at h ⊢;by_cases h1:op=20
   ·rw [if_pos h1] at h ⊢;by_cases h2:a.typed=true
    ·rw [if_pos h2] at h ⊢;exact hmade 16 a _ (.inl rfl) h2 (fun e=>(ih b (g++[a]) (by omega) (by omega) (fun x hx=>hp hx ⟨h2,by omega⟩) hs.2.1 e).1) h
    ·rw [if_neg h2] at h;cases h
   rw [if_neg h1] at h ⊢;by_cases h1:op=29
   ·rw [if_pos h1] at h ⊢;by_cases h2:a.typed=true
    ·rw [if_pos h2];exact ⟨h2,by show a.wt≤M;omega⟩
    ·rw [if_neg h2] at h;cases h
   rw [if_neg h1] at h ⊢;by_cases h1:op=28
   ·rw [if_pos h1] at h ⊢;by_cases h2:(a.inf g).1=0
    ·rw [if_pos h2] at h ⊢;have ha:=ih a g (by omega) (by omega) hg hs.1 h2;exact ih b _ (by omega) (by omega) (fun x hx=>hp hx ha) hs.2.1 h
    ·rw [if_neg h2] at h;exact absurd h h2
   rw [if_neg h1] at h ⊢;by_cases h1:op=22
   ·rw [if_pos h1] at h ⊢;by_cases h2:(a.inf g).1=0
    ·rw [if_pos h2] at h ⊢;exact hmade 17 _ _ (.inr rfl) (ih a g (by omega) (by omega) hg hs.1 h2).1 (fun e=>(ih b g (by omega) (by omega) hg hs.2.1 e).1) h
    ·rw [if_neg h2] at h;exact absurd h h2
   rw [if_neg h1] at h ⊢;by_cases h1:op=21
   ·rw [if_pos h1] at h ⊢;by_cases h2:(a.inf g).1=0
    ·rw [if_pos h2] at h ⊢;by_cases h3:(a.inf g).2.op=16
     ·rw [if_pos h3];obtain ⟨h5,h4⟩:=ih a g (by omega) (by omega) hg hs.1 h2;rcases MX h5 with ⟨h5,_⟩ | ⟨_,x,y,h6,h7,h8⟩
      ·omega
      ·generalize (a.inf g).2=r at *;obtain ⟨o,p,k⟩:=r;simp only [Tm.kids] at h6;subst h6;simp only [Tm.wt,Tm.wtL] at h4;exact ⟨h8,by show y.wt≤M;omega⟩
     ·rw [if_neg h3] at h;cases h
    ·rw [if_neg h2] at h;exact absurd h h2
   ·rw [if_neg h1] at h;cases h
  | [a,b,c],hs =>
   simp only [Tm.wtL] at hn hw;unfold Tm.inf at h ⊢;by_cases h1:op=27
   ·rw [if_pos h1] at h ⊢;by_cases h2:CM (a.inf g) tI=0
    ·rw [if_pos h2] at h ⊢;by_cases h3:(b.inf g).1=0
     ·rw [if_pos h3];exact ih b g (by omega) (by omega) hg hs.2.1 h3
     ·rw [if_neg h3] at h;exact absurd h h3
    ·rw [if_neg h2] at h;exact absurd h h2
   ·rw [if_neg h1] at h;cases h
  | a::b::c::d::l,_ =>
   rw [Tm.inf] at h
   ·cases h
   all_goals simp
def G5 (r:Option (IV×Hp)) (q:Int×Tm):Prop:=∃u,Bc r (.tuple [Tm.enc u,.int .i64 q.1])∧(q.1=0→u=q.2)
theorem I2 {r:Option (IV×Hp)} {e:Int} {u:Tm} (h:Bc r (.tuple [u.enc,.int .i64 e])):G5 r (e,u):=⟨u,h,fun _=>rfl⟩
theorem CT {r:Option (IV×Hp)} {e:Int} {u v:Tm} (h:Bc r (.tuple [u.enc,.int .i64 e])) (he:e≠0):G5 r (e,v):=⟨u,h,fun h=>absurd h he⟩
theorem OM {op m:Int} {l:List Tm} {g:List Tm} (h:op≠1∧op≠25∧op≠23∧op≠24∧op≠26∧op≠20∧op≠29∧op≠28∧op≠22∧op≠21∧op≠27):(Tm.mk op m l).inf g=(10,.z):=by
 obtain ⟨h1,h2,h3,h4,h5,h6,h7,h8,h9,h10,h11⟩:=h
 match l with
 | []=>rw [Tm.inf,if_neg h1,if_neg h2]
 | [_]=>rw [Tm.inf,if_neg h3,if_neg h4]
 | [_,_]=>rw [Tm.inf,if_neg h5,if_neg h6,if_neg h7,if_neg h8,if_neg h9,if_neg h10]
 | [_,_,_]=>rw [Tm.inf,if_neg h11]
 | a::b::c::d::l =>
  rw [Tm.inf]
  all_goals simp
theorem AgI {l:List Tm} (h:(l.length:Int)=0):l=[]:=List.eq_nil_of_length_eq_zero (by omega)
theorem Auv {l:List Tm} (h:(l.length:Int)=1):∃a,l=[a]:=by
 match l,h with
 | [a],_=>exact ⟨a,rfl⟩
 | [],h=>simp at h
 | a::b::l,h=>simp only [Aym] at h;omega
theorem Nd {l:List Tm} (h:(l.length:Int)=2):∃a b,l=[a,b]:=by
 match l,h with
 | [a,b],_=>exact ⟨a,b,rfl⟩
 | [],h=>simp at h
 | [_],h=>simp at h
 | a::b::c::l,h=>simp only [Aym] at h;omega
theorem Ati {l:List Tm} (h:(l.length:Int)=3):∃a b c,l=[a,b,c]:=by
 match l,h with
 | [a,b,c],_=>exact ⟨a,b,c,rfl⟩
 | [],h=>simp at h
 | [_],h=>simp at h
 | [_,_],h=>simp at h
 | a::b::c::d::l,h=>simp only [Aym] at h;omega
theorem Gi {op:Int} (ho:op=16∨op=17) {t:Tm} (h:t.typed=true) (h1:t.op=op):∃x y,t.kids=[x,y]:=by
 rcases MX h with ⟨h2,_⟩ | ⟨_,a,b,h2,_⟩
 ·omega
 ·exact ⟨a,b,h2⟩
theorem Adb {t x y:Tm} (h:t.kids=[x,y]):(t.kid 0).wt<t.wt:=by
 obtain ⟨o,p,k⟩:=t;simp only [Tm.kids] at h;subst h
 show x.wt<_
 simp only [Tm.wt,Tm.wtL];omega
mutual
theorem Ky:∀(t:Tm),t.typed=true→t.shp
 | .mk op m [],h=>by
  have h1:op=15:=by simpa [Tm.typed] using h
  subst h1;rw [Tm.shp];exact ⟨rfl,(fun h=>by cases h),trivial⟩
 | .mk op m [_],h=>by rw [KL] at h;cases h
 | .mk op m (_::_::_::_),h=>by rw [Ko] at h;cases h
 | .mk op m [a,b],h=>by
  simp only [Tm.typed,Bool.and_eq_true,Bool.or_eq_true,decide_eq_true_eq] at h;rw [Tm.shp];exact ⟨(by rcases h.1 with rfl | rfl<;>rfl),(fun h1=>by omega),Ky a h.2.1,Ky b h.2.2,trivial⟩
end
mutual
def Tm.okn:Tm→Bool
 | .mk op m l=>decide (AY op=(l.length:Int)) && (GT op m && Tm.oknL l)
def Tm.oknL:List Tm→Bool
 | []=>true
 | t::l=>t.okn && Tm.oknL l
end
mutual
theorem AdW:∀(t:Tm) (n d:Int),t.okn=true→n+t.wt≤3000→d+t.wt≤121→t.chk n d=(n+t.wt,0)
 | .mk op m l,n,d,h,h1,h2=>by
  simp only [Tm.okn,Bool.and_eq_true,decide_eq_true_eq] at h;simp only [Tm.wt] at h1 h2 ⊢;rw [Tm.chk,if_neg (by omega),if_neg (by simp [h.1,h.2.1]),chkL_okn l (n+1) (d+1) h.2.2 (by omega) (by omega)];simp only [Ayj,and_true];omega
theorem chkL_okn:∀(l:List Tm) (n d:Int),Tm.oknL l=true→n+Tm.wtL l≤3000→d+Tm.wtL l≤121→Tm.chkL l n d=(n+Tm.wtL l,0)
 | [],n,d,_,_,_=>by simp [Tm.chkL,Tm.wtL]
 | t::l,n,d,h,h1,h2=>by
  simp only [Tm.oknL,Bool.and_eq_true] at h;simp only [Tm.wtL] at h1 h2 ⊢;rw [Tm.chkL,AdW t n d h.1 (by omega) (by omega),if_pos rfl,chkL_okn l _ d h.2 (by simp only;omega) (by omega)];simp only [Ayj,and_true];omega
end
mutual
theorem Abq:∀(t:Tm) (n d:Int),t.okn=true→n+t.wt≤3000→d+t.dp≤121→t.chk n d=(n+t.wt,0)
 | .mk op m l,n,d,h,h1,h2=>by
  simp only [Tm.okn,Bool.and_eq_true,decide_eq_true_eq] at h;simp only [Tm.wt] at h1 ⊢;simp only [Tm.dp] at h2;rw [Tm.chk,if_neg (by omega),if_neg (by simp [h.1,h.2.1]),chkL_okd l (n+1) (d+1) h.2.2 (by omega) (by omega)];simp only [Ayj,and_true];omega
theorem chkL_okd:∀(l:List Tm) (n d:Int),Tm.oknL l=true→n+Tm.wtL l≤3000→d+Tm.dpL l≤121→Tm.chkL l n d=(n+Tm.wtL l,0)
 | [],n,d,_,_,_=>by simp [Tm.chkL,Tm.wtL]
 | t::l,n,d,h,h1,h2=>by
  simp only [Tm.oknL,Bool.and_eq_true] at h;simp only [Tm.wtL] at h1 ⊢;simp only [Tm.dpL] at h2;rw [Tm.chkL,Abq t n d h.1 (by omega) (by omega),if_pos rfl,chkL_okd l _ d h.2 (by simp only;omega) (by omega)];simp only [Ayj,and_true];omega
end
theorem Aro {m:Nat} {g:List Tm} {c P:Tm} (h:OT m g c P):c.stl:=by
 induction h with
 | var=>exact IS (by decide) trivial
 | oint=>exact IS (by decide) trivial
 | oprim g n a b ha hb iha ihb=>exact IS (by decide) ⟨iha,ihb,trivial⟩
 | olam g a b c ha hw hb ih=>exact IS (by decide) ⟨GX ha,ih,trivial⟩
 | oapp g f x a c hf hx ihf ihx=>exact IS (by decide) ⟨ihf,ihx,trivial⟩
 | opair g x y a b hw hx hy ihx ihy=>exact IS (by decide) ⟨ihx,ihy,trivial⟩
 | ofst g x a b hx ih=>exact IS (by decide) ⟨ih,trivial⟩
 | oif g c x y a hc hx hy i1 i2 i3=>exact IS (by decide) ⟨i1,i2,i3,trivial⟩
 | olet g x y a b hx hy i1 i2=>exact IS (by decide) ⟨i1,i2,trivial⟩
 | ofix g a x ha hw hx ih=>exact IS (by decide) ⟨GX ha,ih,trivial⟩
theorem TA {p:Tm} (h:PT p):p.typed=true:=by
 induction h with
 | int=>simp [Tm.typed]
 | bin op a b ho ha hb iha ihb=>simp only [Tm.typed,iha,ihb,Bool.and_self,Bool.and_true,Bool.or_eq_true,decide_eq_true_eq];exact ho
theorem Ara {p:Tm} (h:PT p):p.okn=true:=by
 induction h with
 | int=>decide
 | bin op a b ho ha hb iha ihb=>rcases ho with rfl | rfl<;>(simp only [Tm.okn,Tm.oknL,iha,ihb,Bool.and_true,Bool.and_self];rfl)
theorem W8 {p:Tm} (h:PT p) (hw:p.wt≤100):(p.chk 0 1).2=0:=by
 rw [AdW p 0 1 (Ara h) (by omega) (by omega)]
theorem Iu {r:Int×Tm} {a:Tm} (h:r=(0,a)):CM r a=0:=by
 rw [h,CM,if_pos rfl,if_pos ((J0 a a).2 rfl)]
theorem AoC {m:Nat} {g:List Tm} {c P:Tm} (h:OT m g c P) (hm:m≤100):c.inf g=(0,P):=by
 induction h with
 | var g i P hP hw hi h =>
  rw [Tm.inf,if_pos rfl,if_neg (by omega)];rw [List.getD_eq_getElem?_getD,Int.toNat_natCast,h];rfl
 | oint g n hm=>rw [Tm.inf,if_neg (by decide),if_pos rfl];rfl
 | oprim g n a b ha hb iha ihb=>rw [Tm.inf,if_pos rfl,if_pos (Iu (a:=tI) iha),Iu (a:=tI) ihb];rfl
 | olam g a b c ha hw hb ih =>
  rw [Tm.inf,if_neg (by decide),if_pos rfl,if_pos (TA ha),ih,GP,if_pos rfl];rw [W8 (SQ (OT.olam g a b c ha hw hb)).1 (by omega)]
 | oapp g f x a c hf hx ihf ihx =>
  rw [Tm.inf,if_neg (by decide),if_neg (by decide),if_neg (by decide),if_neg (by decide),if_neg (by decide),if_pos rfl,ihf];simp only [if_true,Tm.op]
  have:(Tm.mk 16 0 [a,c]).kid 0=a:=rfl
  rw [this,Iu ihx];rfl
 | opair g x y a b hw hx hy ihx ihy =>
  rw [Tm.inf,if_neg (by decide),if_neg (by decide),if_neg (by decide),if_neg (by decide),if_pos rfl,ihx,ihy];simp only [if_true];rw [GP,if_pos rfl,W8 (SQ (OT.opair g x y a b hw hx hy)).1 (by omega)]
 | ofst g x a b hx ih =>
  rw [Tm.inf,if_pos rfl,ih];simp only [if_true,Tm.op];rfl
 | oif g c x y a hc hx hy i1 i2 i3 =>
  rw [Tm.inf,if_pos rfl,if_pos (Iu (a:=tI) i1),i2];simp only [if_true];rw [Iu i3]
 | olet g x y a b hx hy i1 i2 =>
  rw [Tm.inf,if_neg (by decide),if_neg (by decide),if_neg (by decide),if_pos rfl,i1];simp only [if_true];exact i2
 | ofix g a x ha hw hx ih =>
  rw [Tm.inf,if_neg (by decide),if_neg (by decide),if_pos rfl,if_pos (TA ha),Iu ih]
theorem Ajg {q t c:Tm} {f:Nat} (h:Gr 2 10 [] (q.plainT 2) t) (tsc:t.sc 0) (hn:A5 f t=some (c,0)):OT 14 [] c (q.plainT 2):=by
 have aw:(q.plainT 2).wt≤7:=by have:=Db 2 q;omega
 have hP:=Cq 2 q;have hT:=(Aib h [] N8).2.2.1 rfl (BA [] 2 q);obtain ⟨c',q1,q2⟩:=(fl h [] [] vT N8 Ahj).2.2.1 rfl (ER 0 2 q) (by unfold Bw;omega) (BA [] 2 q) (q.plainT 2) hP (by rw [KH];exact .refl _);rw [KH] at q1;have e:=AhT (Gy hn tsc) q1 (.refl t) (.refl t) (Ai0 (CH hn hT)) (Aro q2);subst e;exact FJ (by unfold mw;omega) q2
theorem Ae7 {op:Int} {s:Nat} {sg:Lb} (h:Rule op s sg):AY op=(sg.length:Int):=by cases h<;>rfl
theorem WG {op n:Int} (h1:op≠1) (h:BH op n):GT op n=true:=by
 unfold BH at h;unfold GT;rw [if_neg h1];by_cases h2:op=2
 ·rw [if_pos h2] at h ⊢;simp [h]
 rw [if_neg h2] at h ⊢;by_cases h26:op=26
 ·rw [if_pos h26] at h ⊢;simp [h]
 rw [if_neg h26] at h ⊢;by_cases h25:op=25
 ·rw [if_pos h25]
 rw [if_neg h25] at h ⊢;simp [h]
theorem S9 {d:Int}:∀(l:List Tm) (n:Int),(∀(i:Nat) t,l[i]?=some t→∀n:Int,n+t.wt≤3000→t.chk n d=(n+t.wt,0))→n+Tm.wtL l≤3000→Tm.chkL l n d=(n+Tm.wtL l,0)
 | [],n,_,_=>by simp [Tm.chkL,Tm.wtL]
 | t::l,n,h,hw=>by
  simp only [Tm.wtL] at hw;have h1:=h 0 t rfl n (by omega);rw [Tm.chkL,h1];simp only [if_true];rw [S9 l (n+t.wt) (fun i t a=>h (i+1) t (by simpa using a)) (by omega)];simp only [Tm.wtL,Ayj,and_true];omega
theorem AoQ {G:List Nat} {t:Tm} {s:Nat} (h:NfT G t s):∀(k:Nat) (n d:Int),t.sc k→k+2 * t.dp≤3000→n+t.wt≤3000→d+t.dp≤121→t.chk n d=(n+t.wt,0):=by
 induction h with
 | var G m s h0 h hs =>
  intro k n d hsc hk hw hd;simp only [Tm.wt,Tm.wtL] at hw;simp only [Tm.dp,Tm.dpL] at hd hk;rw [Tm.sc,if_pos rfl] at hsc;rw [Tm.chk,if_neg (by omega),if_neg (by simp [AY,GT];omega),Tm.chkL];simp [Tm.wt,Tm.wtL]
 | node G op m ks s sg hr hl hst hk ih =>
  intro k n d hsc hkk hw hd;simp only [Tm.wt] at hw;simp only [Tm.dp] at hd hkk;rw [Tm.sc,if_neg (FE hr).1] at hsc;have hc:¬ (AY op≠(ks.length:Int)∨GT op m=false):=by
   rw [Ae7 hr,hl,WG (FE hr).1 hsc.2.1];simp
  rw [Tm.chk,if_neg (by omega),if_neg hc];rw [S9 ks (n+1) (fun i t a n' hn'=>by
   have hi:i<sg.length:=by rw [← hl];exact (List.getElem?_eq_some_iff.1 a).1
   have hwt:=Ml a;have hdt:=AcQ a;have hbn:=BE op i;have hs:=WK hsc.2.2 a;rw [Nat.zero_add] at hs;exact ih i t _ _ a (List.getElem?_eq_getElem hi) (k+Ao op i) n' (d+1) hs (by omega) hn' (by omega)) (by omega)]
  simp only [Tm.wt,Ayj,and_true];omega
theorem Apm:EE.T 71=some ⟨1,24,.slice 87,[.nils]⟩:=by kernel_rfl
theorem tV1:EE.T 87=some ⟨4,48,.struct [(0,3),(1,30)],[.fv (.int .i64 0),.fv (.int .i64 0),.fv (.int .i64 0),.nils]⟩:=by kernel_rfl
theorem sV1:SliceT EE 71 4:=⟨_,_,_,_,_,Apm,tV1,rfl,by decide,by decide⟩
theorem Agb (s:Nat) (h:Hp) (k:IV→Hp→List Ref→List Ref→Option (IV×Hp)):AD (Al EE 71 0 []) s h k=k (.clip []) h [] []:=DB Apm tV1 (by decide) (cells:=[]) rfl k
theorem Af7 (s0 o n:Int) (ks:List FV) (s:Nat) (h:Hp) (k:IV→Hp→List Ref→List Ref→Option (IV×Hp)):AD (Al EE 71 1 [(0,.fv (.agg [.int .i64 s0,.int .i64 o,.int .i64 n,.sl ks]))]) s h k=k (.clip [.agg [.int .i64 s0,.int .i64 o,.int .i64 n,.sl ks]]) h [] [] :=
 DB Apm tV1 (by decide) (cells:=[.int .i64 s0,.int .i64 o,.int .i64 n,.sl ks]) rfl k
theorem LV (g:Ch):Bm 4 (g.map v1)=true:=by
 cases g with
 | nil=>rfl
 | cons a l=>simp only [Ayo,Bm,v1,FV.cells,Aym,List.length_nil,beq_self_eq_true]
theorem AoA (g:Ch):((g.map v1).all fun e=>e.cells.all FV.one)=true:=by
 rw [List.all_map,List.all_eq_true];intro p _;rfl
theorem Dm {n:Nat} (g:Ch) (st:Int) (a:Tm) (hg:g.length≤1000) (hn:0<n):Bc (SS dt n 96 [.fv (Be g),iv st,.fv a.enc] ⟨[],[]⟩) (Be (g++[(st,a)])):=by
 obtain ⟨n,rfl⟩:∃k,n=k+1:=⟨n - 1,by omega⟩;rw [c96];rw [Be,Be,List.map_append,Ayo,Ayn];cases g with
 | nil =>
  have h0:=fun {β:Type}=>Afw (β:=β) (E:=EE) sV1 (.sl []) (s0:=.clip []) (.inr rfl);have happ:=fun {β:Type}=>Gj (β:=β) sV1 (.clip [v1 (st,a)]) (LV [(st,a)]) rfl (by simp) (s0:=.clip []) (.inr rfl);obtain ⟨o,p,k⟩:=a;simp only [v1,Tm.op,Tm.n,Tm.kids] at happ ⊢;rw [Ah];simp only [WB,Wr,S96,↓XX,XY,↓reduceIte,Nat.reduceBEq,Nat.reduceAdd,Int.reduceEq,Int.reduceLT,Int.reduceLE,↓Agb,↓h0,↓Af7,↓happ];exact A1 rfl _
 | cons t g =>
  have h0:=fun {β:Type}=>Gj (β:=β) sV1 (.sl ((t::g).map v1)) (LV (t::g)) rfl (by simp at hg ⊢;omega) (s0:=.clip []) (.inr rfl);have happ:=fun {β:Type}=>MB (β:=β) sV1 (es:=(t::g).map v1) (es2:=[v1 (st,a)]) (.clip _) (LV [(st,a)]) (LV (t::g)) (AoA [(st,a)]) (by simp at hg ⊢;omega);obtain ⟨o,p,k⟩:=a;simp only [Ayo,List.length_map,Aym,List.length_nil,List.cons_append] at h0 happ ⊢;simp only [v1,Tm.op,Tm.n,Tm.kids] at h0 happ ⊢;rw [Ah];simp only [WB,Wr,S96,↓XX,XY,↓reduceIte,Nat.reduceBEq,Nat.reduceAdd,Int.reduceEq,Int.reduceLT,Int.reduceLE,↓Agb,↓h0,↓Af7,↓happ,FQ];exact A1 rfl _
theorem Lo {n:Nat} (hn:1<n):Bc (SS dt n 99 [] ⟨[],[]⟩) (Tm.mk 10 0 []).enc:=by
 obtain ⟨n,rfl⟩:∃k,n=k+1:=⟨n - 1,by omega⟩;rw [c99];have t:=Df (n:=n) (by omega) 10;rw [Ah] at t ⊢;simp only [S99,↓XX,XY,↓reduceIte,Nat.reduceBEq,Nat.reduceAdd,Int.reduceEq,Int.reduceLT,Int.reduceLE,↓Ag t];exact An _ _
theorem AhE {P:Nat→Nat→Prop}:∀m,(∀i,i<m→∃N,∀n,N≤n→P i n)→∃N,∀i,i<m→∀n,N≤n→P i n:=by
 intro m
 induction m with
 | zero=>intro _;exact ⟨0,fun i hi=>by omega⟩
 | succ m ih =>
  intro h;obtain ⟨N1,h1⟩:=ih fun i hi=>h i (by omega);obtain ⟨N2,h2⟩:=h m (by omega);refine ⟨N1+N2,fun i hi n hn=>?_⟩;by_cases him:i=m
  ·subst him;exact h2 n (by omega)
  ·exact h1 i (by omega) n (by omega)
theorem AgZ:EE.T 51=some ⟨1,24,.slice 3,[.nils]⟩:=by kernel_rfl
theorem Apj:EE.T 3=some ⟨1,8,.int .i64,[.fv (.int .i64 0)]⟩:=by kernel_rfl
theorem AsE:SliceT EE 51 1:=⟨_,_,_,_,_,AgZ,Apj,rfl,by decide,by decide⟩
theorem Aog (a:Int) (s:Nat) (h:Hp) (k:IV→Hp→List Ref→List Ref→Option (IV×Hp)):AD (Al EE 51 1 [(0,iv a)]) s h k=k (.clip [.int .i64 a]) h [] []:=DB AgZ Apj (by decide) (cells:=[.int .i64 a]) rfl k
def iE (l:List Nat):List FV:=l.map fun (i:Nat)=>FV.int .i64 (i:Int)
theorem We (l:List Nat):Bm 1 (iE l)=true:=by
 cases l with
 | nil=>rfl
 | cons a l=>rfl
theorem Aur (l:List Nat):((iE l).all fun e=>e.cells.all FV.one)=true:=by
 rw [iE,List.all_map,List.all_eq_true];intro p _;rfl
def lV:List Nat→IV
 | []=>.nils
 | i::l=>.app (.own 101720067) (iE (i::l))
def lH:List Nat→List (Nat×Blk)
 | []=>[]
 | i::l=>[(101720067,.tok (i::l).length 1)]
abbrev L9 (o m:Int) (ks:List Tm) (l:List Nat):Hp :=
 ⟨[(101711872,.row [iv o,iv m,.fv (.sl (ks.map Tm.enc))] false),(101711873,.row [iv 0,iv 0,.nils] false)]++lH l,[]⟩
theorem AeX (p:Nat→Bool) (i:Nat):(List.range (i+1)).filter p=(List.range i).filter p++(if p i then [i] else []):=by
 rw [List.range_succ,List.filter_append];cases h:p i<;>simp [h]
set_option maxRecDepth 20000 in
set_option maxHeartbeats 4000000 in
theorem K2 {e0:Nat} {g:Ch} (hg:GOk e0 g) (st:Int) {a:Tm} (ha:NOk g.length a) (x:Int):∃t b,Ev 97 [.fv (Be g),iv st,.fv a.enc,iv x] (.tuple [Tm.enc t,.bool b])∧TOk g.length 0 t∧(b=true→∃i:Nat,t=.mk 1 i []∧Hit g st a i):=by
 have hlen:=hg.len;have hc:∀i:Nat,∃(p:Int×Tm) (u:Tm) (e:Int),i<g.length→g[g.length - 1 - i]?=some p∧p.2.wk∧p.2.wt≤100000000000∧Ev 58 [.fv (p.2.shift ((i:Int)+1) 0).enc] (.tuple [u.enc,.int .i64 e])∧(e=0∧NOk g.length u∨(e=5∨e=17)∧u=.z)∧∃f,A5 f (p.2.shift ((i:Int)+1) 0)=some (u,e):=by
  intro i;by_cases hi:i<g.length
  ·obtain ⟨p,hp⟩:∃p,g[g.length - 1 - i]?=some p:=⟨_,List.getElem?_eq_getElem (by omega)⟩;obtain ⟨h1,h2,h3⟩:=hg.ok _ _ hp;have h4:=BX p.2 (i+1) 0 _ h1 (by omega);rw [show g.length - 1 - i+(i+1)=g.length by omega] at h4
   obtain ⟨u,e,h5,h6,h7⟩:=Jz (k:=g.length) (by omega) h4 (by rw [EW];omega);exact ⟨p,u,e,fun _=>⟨hp,Gk _ _ h1,h2,h5,h6,h7⟩⟩
  ·exact ⟨(0,.z),.z,0,fun h=>absurd h hi⟩
 obtain ⟨P,hP⟩:=Classical.axiomOfChoice hc;obtain ⟨U,hP⟩:=Classical.axiomOfChoice hP;obtain ⟨E,hU⟩:=Classical.axiomOfChoice hP;clear hP hc;obtain ⟨N,hN⟩:=AhE (P:=fun i n=>Bc (SS dt n 58 [.fv ((P i).2.shift ((i:Int)+1) 0).enc] ⟨[],[]⟩) (.tuple [(U i).enc,.int .i64 (E i)])) g.length (fun i hi=>(hU i hi).2.2.2.1);obtain ⟨hit,hhit⟩:∃h:Nat→Bool,∀i,h i=(decide ((P i).1=st) && (decide (E i=0) && (U i).eta.same a.eta)):=⟨_,fun _=>rfl⟩;obtain ⟨L,hL⟩:∃L,L=(List.range g.length).filter hit:=⟨_,rfl⟩;obtain ⟨tt,htt⟩:∃tt:Tm,tt=if L=[] then .z else .mk 1 ((L.getD (x % (L.length:Int)).toNat 0:Nat):Int) []:=⟨_,rfl⟩;have hLlt:∀i∈L,i<g.length:=fun i hi=>by
  rw [hL] at hi;exact List.mem_range.1 (List.mem_filter.1 hi).1
 refine ⟨tt,!decide (L=[]),⟨N+200000000000+1,?_⟩,?_,?_⟩
 ·intro n hn;obtain ⟨n,rfl⟩:∃k,n=k+1:=⟨n - 1,by omega⟩;have hka:=AcM n a g.length ha.sc (by have:=ha.wt;omega) (by have:=ha.wt;omega);rw [c97];generalize hae:a.eta=ae at hka hhit;obtain ⟨oa,ma,ka⟩:=a;obtain ⟨oe,me,ke⟩:=ae;simp only [Ah] at hka ⊢;simp only [Qo,Sa,Q2,QK,R0,PU,P3,Q3,RZ,Qk,Pv,PS,P4,Qy,S97,↓XX,XY,↓reduceIte,Nat.reduceBEq,Nat.reduceAdd,Int.reduceEq,Int.reduceLT,Int.reduceLE,Be,↓AG,XD,heldB,AN,XE];refine A2 (Q:=fun r=>Bc r _) (fun k V H=>∃i:Nat,i+k=g.length∧∃l:List Nat,l=(List.range i).filter hit∧V=[.fv (.sl (g.map v1)),iv st,iv x,.ptr (.own 101711872) 0,.ptr (.own 101711873) 0,lV l,iv i]∧H=L9 oa ma ka l)
   ?_ n g.length _ _ (by omega) ⟨0,by omega,[],rfl,rfl,rfl⟩
  rintro k V H rec ⟨i,hik,l,hl,rfl,rfl⟩ hrec;cases k with
  | zero =>
   have hig:i=g.length:=by omega
   rw [hig] at hl;rw [← hL] at hl;subst hl;have hno:¬ ((i:Int)<g.length):=by omega
   cases l with
   | nil =>
    rw [htt,if_pos rfl];simp only [lV,Tm.z,Ah];simp only [↓Ow,↓XX,XY,↓reduceIte,Nat.reduceBEq,Nat.reduceAdd,Int.reduceEq,Int.reduceLT,Int.reduceLE,hno]
    first | exact An _ _ | exact Aw rfl (by simp) _
   | cons i0 l0 =>
    rw [htt,if_neg (by simp)];generalize hl1:i0::l0=l at *;have hlp:0<l.length:=by rw [← hl1];simp
    have hll:l.length≤100:=by
     have h1:=List.length_filter_le hit (List.range g.length);rw [← hL,List.length_range] at h1;omega
    have hw:=As (n:=n) (by omega) x (m:=(l.length:Int)) (by omega) (by omega);have h1:=Int.emod_nonneg x (show (l.length:Int)≠0 by omega)
    have h2:=Int.emod_lt_of_pos x (show (0:Int)<l.length by omega)
    obtain ⟨j,hj⟩:∃j:Nat,x % (l.length:Int)=j:=⟨(x % (l.length:Int)).toNat,by omega⟩;rw [hj] at hw h2 ⊢;have hjl:j<l.length:=by omega
    have hget:(iE l)[j]?=some (.int .i64 ((l.getD j 0:Nat):Int)):=by
     rw [iE,List.getElem?_map,List.getD_eq_getElem?_getD,List.getElem?_eq_getElem hjl];rfl
    rw [Int.toNat_natCast];have hix:=fun {β:Type}=>Bn (β:=β) (size:=1) hget rfl;have hv:=Aq3 (n:=n) (by omega) ((l.getD j 0:Nat):Int);generalize ((l.getD j 0:Nat):Int)=q at hix hv ⊢;have hln:¬ ((l.length:Int)=0):=by omega
    have hiel:(iE l).length=l.length:=by rw [iE,List.length_map]
    have hap:∀(β:Type) (x:IV) (k:IV→Option β),AP 1 (.app (.own 101720067) (iE l)) x k=AP 1 (.fv (.sl (iE l))) x k:=fun _ _ _=>rfl;have hlV:lV l=.app (.own 101720067) (iE l):=by rw [← hl1];rfl
    have hlH:lH l=[(101720067,.tok l.length 1)]:=by rw [← hl1];rfl
    have hne:decide (l=[])=false:=by rw [← hl1];simp
    rw [hlV,L9,hlH,hne];simp only [List.cons_append,List.nil_append];simp only [Ah,Ayn] at hv ⊢;simp only [↓Ow,↓XX,XY,↓reduceIte,Nat.reduceBEq,Nat.reduceAdd,Int.reduceEq,Int.reduceLT,Int.reduceLE,hno,hiel,hln,↓Ag hw,↓hap,↓hix,FV.cells,↓Av hv]
    first | exact An _ _ | exact Aw rfl (by simp) _
  | succ k =>
   have hig:i<g.length:=by omega
   have hlt:(i:Int)<g.length:=by omega
   obtain ⟨hp,hwk,hwt,_,hN',_⟩:=hU i hig;have hget:(g.map v1)[g.length - 1 - i]?=some (v1 (P i)):=by rw [List.getElem?_map,hp];rfl
   have hix:=fun {β:Type}=>Bn (β:=β) (size:=4) hget rfl;have w1:BC ((g.length:Int) - 1)=(g.length:Int) - 1:=by rw [Az]<;>omega
   have w2:BC ((g.length:Int) - 1 - i)=((g.length - 1 - i:Nat):Int):=by rw [Az (by omega) (by omega)];omega
   have wi:BC ((i:Int)+1)=(i:Int)+1:=by rw [Az]<;>omega
   have hsh:=Di n (P i).2 ((i:Int)+1) 0 (by omega) hwk (by omega) (by omega);have hNi:=hN i hig n (by omega);have h9:=fun (l':List Nat) (e:l'=l++if hit i then [i] else [])=>hrec k [.fv (.sl (g.map v1)),iv st,iv x,.ptr (.own 101711872) 0,.ptr (.own 101711873) 0,lV l',iv (i+1:Nat)] (L9 oa ma ka l') (by omega)
    ⟨i+1,by omega,l',by rw [AeX,← hl,e],rfl,rfl⟩
   have hi1:((i+1:Nat):Int)=(i:Int)+1:=by omega
   rw [hi1] at h9;have hhi:=hhit i;generalize (P i).2.shift ((i:Int)+1) 0=ts at hsh hNi;generalize P i=p at hp hget hix hsh hhi;obtain ⟨sp,tp⟩:=p;by_cases c1:sp=st
   ·by_cases c2:E i=0
    ·have hUi:NOk g.length (U i):=by
      rcases hN' with ⟨_,h⟩ | ⟨h,_⟩
      ·exact h
      ·omega
     have hke:=AcM n (U i) g.length hUi.sc (by have:=hUi.wt;omega) (by have:=hUi.wt;omega);have hew:=(AfJ (U i) g.length hUi.sc (by have:=hUi.wt;omega)).2;have hsm:=IE n (U i).eta (.mk oe me ke) (by have:=hUi.wt;omega) (by have:=hUi.wt;omega);rw [c2] at hNi;simp only [c1,c2,decide_true,Bool.true_and] at hhi;rw [← hhi] at hsm;generalize (U i).eta=ue at hke hsm;generalize U i=ui at hNi hke;obtain ⟨o1,n1,k1⟩:=tp;obtain ⟨o2,n2,k2⟩:=ts;obtain ⟨o3,n3,k3⟩:=ui;obtain ⟨o4,n4,k4⟩:=ue;subst c1;simp only [Ah,v1,Tm.op,Tm.n,Tm.kids] at hsh hNi hke hsm hix;cases hb:hit i
     ·rw [hb] at hsm h9;have h9:=h9 l (by simp);cases l with
      | nil =>
       simp only [lV,lH,L9,List.append_nil] at h9 ⊢;simp only [↓Ow,↓XX,XY,↓reduceIte,Nat.reduceBEq,Nat.reduceAdd,Int.reduceEq,Int.reduceLT,Int.reduceLE,hlt,w1,w2,wi,↓hix,FV.cells,↓AL hsh,↓Av hNi,↓Av hke,↓Av hka,↓Ag hsm,↓AG,XD,heldB,AN,XE];exact h9
      | cons i0 l0 =>
       simp only [lV,lH,L9,List.cons_append,List.nil_append] at h9 ⊢;simp only [↓Ow,↓XX,XY,↓reduceIte,Nat.reduceBEq,Nat.reduceAdd,Int.reduceEq,Int.reduceLT,Int.reduceLE,hlt,w1,w2,wi,↓hix,FV.cells,↓AL hsh,↓Av hNi,↓Av hke,↓Av hka,↓Ag hsm,↓AG,XD,heldB,AN,XE];exact h9
     ·rw [hb] at hsm h9;have h9:=h9 (l++[i]) (by simp);cases l with
      | nil =>
       have happ:=fun {β:Type}=>Gj (β:=β) AsE (.clip [.int .i64 (i:Int)]) (We [i]) rfl (by simp) (s0:=.nils) (.inl rfl);simp only [lV,lH,L9,List.cons_append,List.nil_append] at h9 ⊢;simp only [↓Ow,↓XX,XY,↓reduceIte,Nat.reduceBEq,Nat.reduceAdd,Int.reduceEq,Int.reduceLT,Int.reduceLE,hlt,w1,w2,wi,↓hix,FV.cells,↓AL hsh,↓Av hNi,↓Av hke,↓Av hka,↓Ag hsm,↓Aog,↓happ,↓AG,XD,heldB,AN,XE];exact h9
      | cons i0 l0 =>
       have hll:(i0::l0).length≤100:=by
        have h1:=List.length_filter_le hit (List.range i);rw [← hl,List.length_range] at h1;omega
       have happ:=fun {β:Type}=>MB (β:=β) AsE (es:=iE (i0::l0)) (es2:=[.int .i64 (i:Int)]) (.clip _) (We [i]) (We _) (Aur [i]) (by rw [iE,List.length_map];simp only [Aym,List.length_nil] at hll ⊢;omega);have hil:(iE (i0::l0)).length=(i0::l0).length:=by rw [iE,List.length_map]
       have hia:iE (i0::l0)++[.int .i64 (i:Int)]=iE (i0::(l0++[i])):=by simp [iE]
       have hil2:(i0::(l0++[i])).length=(i0::l0).length+1:=by simp
       simp only [hil,hia,Aym,List.length_nil,Nat.zero_add] at happ;simp only [lV,lH,L9,List.cons_append,List.nil_append,hil2] at h9 ⊢;simp only [Aym] at h9 ⊢;simp only [↓Ow,↓XX,XY,↓reduceIte,Nat.reduceBEq,Nat.reduceAdd,Int.reduceEq,Int.reduceLT,Int.reduceLE,hlt,w1,w2,wi,↓hix,FV.cells,↓AL hsh,↓Av hNi,↓Av hke,↓Av hka,↓Ag hsm,↓Aog,↓happ,FQ,↓AG,XD,heldB,AN,XE];exact h9
    ·simp only [c2,decide_false,Bool.false_and,Bool.and_false] at hhi;rw [hhi] at h9;have h9:=h9 l (by simp);generalize E i=ei at hNi c2;generalize U i=ui at hNi;obtain ⟨o1,n1,k1⟩:=tp;obtain ⟨o2,n2,k2⟩:=ts;obtain ⟨o3,n3,k3⟩:=ui;subst c1;simp only [Ah,v1,Tm.op,Tm.n,Tm.kids] at hsh hNi hix;cases l with
     | nil =>
      simp only [lV,lH,L9,List.append_nil] at h9 ⊢;simp only [↓Ow,↓XX,XY,↓reduceIte,Nat.reduceBEq,Nat.reduceAdd,Int.reduceEq,Int.reduceLT,Int.reduceLE,hlt,w1,w2,wi,↓hix,FV.cells,↓AL hsh,↓Av hNi,c2,↓AG,XD,heldB,AN,XE];exact h9
     | cons i0 l0 =>
      simp only [lV,lH,L9,List.cons_append,List.nil_append] at h9 ⊢;simp only [↓Ow,↓XX,XY,↓reduceIte,Nat.reduceBEq,Nat.reduceAdd,Int.reduceEq,Int.reduceLT,Int.reduceLE,hlt,w1,w2,wi,↓hix,FV.cells,↓AL hsh,↓Av hNi,c2,↓AG,XD,heldB,AN,XE];exact h9
   ·simp only [c1,decide_false,Bool.false_and] at hhi;rw [hhi] at h9;have h9:=h9 l (by simp);obtain ⟨o1,n1,k1⟩:=tp;simp only [v1,Tm.op,Tm.n,Tm.kids] at hix;cases l with
    | nil =>
     simp only [lV,lH,L9,List.append_nil] at h9 ⊢;simp only [↓Ow,↓XX,XY,↓reduceIte,Nat.reduceBEq,Nat.reduceAdd,Int.reduceEq,Int.reduceLT,Int.reduceLE,hlt,w1,w2,wi,↓hix,FV.cells,c1,↓AG,XD,heldB,AN,XE];exact h9
    | cons i0 l0 =>
     simp only [lV,lH,L9,List.cons_append,List.nil_append] at h9 ⊢;simp only [↓Ow,↓XX,XY,↓reduceIte,Nat.reduceBEq,Nat.reduceAdd,Int.reduceEq,Int.reduceLT,Int.reduceLE,hlt,w1,w2,wi,↓hix,FV.cells,c1,↓AG,XD,heldB,AN,XE];exact h9
 ·rw [htt];split
  ·exact ⟨ArS _,by have:=K7 0;simp [Tm.z,Tm.wt,Tm.wtL];omega,by simp [Tm.z,Tm.dp,Tm.dpL,Dg]⟩
  ·rename_i hne;have h1:=Int.emod_nonneg x (show (L.length:Int)≠0 by
    intro h;exact hne (List.eq_nil_of_length_eq_zero (by omega)))
   have h2:=Int.emod_lt_of_pos x (show (0:Int)<L.length by
    have:L.length≠0:=fun h=>hne (List.eq_nil_of_length_eq_zero h)
    omega)
   have hj:(x % (L.length:Int)).toNat<L.length:=by omega
   have:=hLlt (L.getD (x % (L.length:Int)).toNat 0) (by rw [List.getD_eq_getElem?_getD,List.getElem?_eq_getElem hj];exact List.getElem_mem hj)
   exact ⟨Ars (by omega) (by omega),by have:=K7 0;simp [Tm.wt,Tm.wtL];omega,by simp [Tm.dp,Tm.dpL,Dg]⟩
 ·intro hb;have hne:L≠[]:=by simpa using hb
  rw [htt,if_neg hne];have h1:=Int.emod_nonneg x (show (L.length:Int)≠0 by
   intro h;exact hne (List.eq_nil_of_length_eq_zero (by omega)))
  have h2:=Int.emod_lt_of_pos x (show (0:Int)<L.length by
   have:L.length≠0:=fun h=>hne (List.eq_nil_of_length_eq_zero h)
   omega)
  have hj:(x % (L.length:Int)).toNat<L.length:=by omega
  have hm:L.getD (x % (L.length:Int)).toNat 0∈L:=by rw [List.getD_eq_getElem?_getD,List.getElem?_eq_getElem hj];exact List.getElem_mem hj
  generalize L.getD (x % (L.length:Int)).toNat 0=i at hm;refine ⟨i,rfl,hLlt i hm,?_⟩;have hig:=hLlt i hm;rw [hL] at hm;have hh:=(List.mem_filter.1 hm).2;rw [hhit,Bool.and_eq_true,Bool.and_eq_true,decide_eq_true_eq,decide_eq_true_eq] at hh;obtain ⟨hp,_,_,_,_,f,hf⟩:=hU i hig;rw [hh.2.1] at hf;refine ⟨(P i).2,f,U i,by rw [hp,← hh.1],?_,(J0 _ _).1 hh.2.2⟩;rw [show ((i+1:Nat):Int)=(i:Int)+1 by omega]
  exact hf
def DD (F:FuncId) (κ e:Nat):Prop:=∀(g:Ch) (a r:Tm),GOk e g→AOk g.length a→∃t b,Ev F [.fv (Be g),.fv a.enc,.fv r.enc,iv ((e:Int) - 5)] (.tuple [Tm.enc t,.bool b])∧TG κ e g a t b
def Pm (F:FuncId) (κ e:Nat):Prop:=∀(g:Ch) (a r:Tm),GOk e g→NOk g.length a→∃t b,Ev F [.fv (Be g),.fv a.enc,.fv r.enc,iv ((e:Int) - 5)] (.tuple [Tm.enc t,.bool b])∧TG κ e g a t b
structure TyOk (g:Ch) (e:Nat) (t:Tm):Prop where
 sc:t.sc g.length
 wt:t.wt≤Wg (e - 1)+10
 dp:t.dp≤Dg (e - 1)+3
 gr:Gr 0 e g .z t
def KX (e:Nat):Prop:=∀(g:Ch) (r:Tm),GOk e g→∃t,Ev 69 [.fv (Be g),.fv r.enc,iv ((e:Int) - 5)] (Tm.enc t)∧TyOk g e t
theorem Mc {k:Nat} {a:Tm} (h:NOk k a) (hk:k≤1000) (d:Nat) (hd:d≤10):NOk (k+d) (a.shift d 0):=⟨BX a d 0 k h.sc (by have:=h.wt;omega),by rw [BF];exact h.wt,by rw [EW];exact h.dp⟩
set_option maxRecDepth 20000 in
set_option maxHeartbeats 4000000 in
theorem Afm {e:Nat} (h6:6≤e) (he:e≤10) (hT:KX 6) (hG:DD 70 1 (e - 2)):Pm 100 3 e:=by
 intro g a r hg ha;have hlen:=hg.len;have hW2:Wg e=16 * Wg (e - 2):=by
  obtain ⟨f,rfl⟩:∃f,e=f+2:=⟨e - 2,by omega⟩;rw [show f+2=(f+1)+1 by omega,K6,K6,show f+1+1 - 2=f by omega];omega
 have hW20:=K7 (e - 2);have hW5:4 * Wg 5≤Wg e:=by rw [← K6];exact Q9 (by omega)
 have hW10:=MY he;have hDe:Dg e=Dg (e - 2)+20:=by unfold Dg;omega
 have hD5:Dg 5+10≤Dg e:=by unfold Dg;omega
 have hD2:200≤Dg (e - 2):=by unfold Dg;omega
 have hDm:Dg e≤300:=by unfold Dg;omega
 obtain ⟨b,⟨N1,h1⟩,tb⟩:=hT g (r.pick 0) (AT (by omega) hg);have bw:=tb.wt;have bd:=tb.dp;simp only [show 6 - 1=5 from rfl] at bw bd
 have hba:AOk g.length b:=⟨tb.sc,by omega,by omega⟩;have hbm:GOk (e - 2) (g++[(1,b)]):=C1 (AT (by omega) hg) tb.sc (by omega) (by omega);obtain ⟨x,p,⟨N2,h2⟩,tx⟩:=hG g b (r.pick 1) (AT (by omega) hg) hba;obtain ⟨c,q,⟨N3,h3⟩,tc⟩:=hG g a (r.pick 2) (AT (by omega) hg) (Bu ha);have hsa:=Mc ha (by omega) 1 (by omega);obtain ⟨c2,q2,⟨N4,h4⟩,tc2⟩:=hG (g++[(1,b)]) (a.shift 1 0) (r.pick 2) hbm (by simpa using Bu hsa);have we:BC ((e:Int) - 5 - 2)=((e - 2:Nat):Int) - 5:=by rw [Az (by omega) (by omega)];omega
 have hd2:(((e - 2:Nat):Int) - 5)=((e - 2:Nat):Int) - 5:=rfl;have aw:=ha.wt;have ad:=ha.dp;have xw:=tx.wt;have cw:=tc.wt;have c2w:=tc2.wt;have xd:=tx.dp;have cd:=tc.dp;have c2d:=tc2.dp;have c2s:c2.sc (g.length+1):=by simpa using tc2.sc
 by_cases h0:r.n % 3=0
 ·refine ⟨.mk 8 0 [.mk 7 0 [.mk 6 0 [a,b.shift 1 0],c,x]],p && q,⟨N1+N2+N3+200000000000+1,?_⟩,?_,?_,?_,fun hb=>.fst e g a b c x h6 hba tb.gr (tx.gr (KJ hb)) (tc.gr (I7 hb))⟩
  ·intro n hn;obtain ⟨n,rfl⟩:∃k,n=k+1:=⟨n - 1,by omega⟩;have h1:=h1 n (by omega);have h2:=h2 n (by omega);have h3:=h3 n (by omega);rw [← we] at h2 h3;have p0:=AO (n:=n) (by omega) r 0;have p1:=AO (n:=n) (by omega) r 1;have p2:=AO (n:=n) (by omega) r 2;have hw:=As (n:=n) (by omega) r.n (m:=3) (by omega) (by omega);have hsh:=Di n b 1 0 (by omega) (Gk _ _ tb.sc) (by omega) (by omega);have t6:=C0 (n:=n) (by omega) 6 [a,b.shift 1 0];have t7:=C0 (n:=n) (by omega) 7 [.mk 6 0 [a,b.shift 1 0],c,x];have t8:=C0 (n:=n) (by omega) 8 [.mk 7 0 [.mk 6 0 [a,b.shift 1 0],c,x]];rw [h0] at hw;rw [AsD];clear h4 tb tx tc tc2 ha hg hG hT hba hbm hsa aw ad xw cw c2w bw xd cd c2d bd c2s;generalize b.shift 1 0=bs at hsh t6 t7 t8 ⊢;generalize r.pick 0=r0 at p0 h1;generalize r.pick 1=r1 at p1 h2;generalize r.pick 2=r2 at p2 h3;obtain ⟨o1,m1,k1⟩:=a;obtain ⟨o2,m2,k2⟩:=b;obtain ⟨o3,m3,k3⟩:=r;obtain ⟨o4,m4,k4⟩:=bs;obtain ⟨o5,m5,k5⟩:=x;obtain ⟨o6,m6,k6⟩:=c;obtain ⟨o7,m7,k7⟩:=r0;obtain ⟨o8,m8,k8⟩:=r1;obtain ⟨o9,m9,k9⟩:=r2;simp only [Tm.n,Be,Ayo,Ayn,Ah,Int.reduceSub,Int.cast_ofNat_Int] at h1 h2 h3 p0 p1 p2 hw hsh t6 t7 t8 ⊢;cases p
   ·simp (maxSteps:=1000000) only [↓Am4,↓XX,XY,↓reduceIte,Nat.reduceBEq,Nat.reduceAdd,Int.reduceEq,Int.reduceLT,Int.reduceLE,↓Ag p0,↓Ag p1,↓Ag p2,↓AL h1,↓AI h2,↓Ag hw,↓AI h3,↓AL hsh,↓Ct,↓Ag t6,↓Jm,↓Ag t7,↓Cl,↓Ag t8]
    first | exact An _ _ | exact Aw rfl (by simp) _
   ·simp (maxSteps:=1000000) only [↓Am4,↓XX,XY,↓reduceIte,Nat.reduceBEq,Nat.reduceAdd,Int.reduceEq,Int.reduceLT,Int.reduceLE,↓Ag p0,↓Ag p1,↓Ag p2,↓AL h1,↓AI h2,↓Ag hw,↓AI h3,↓AL hsh,↓Ct,↓Ag t6,↓Jm,↓Ag t7,↓Cl,↓Ag t8]
    first | exact An _ _ | exact Aw rfl (by simp) _
  ·exact E7 (by decide) (by decide) (BN (by decide) (by decide) (by decide)) (Xx (by decide) (by decide) (BN (by decide) (by decide) (by decide))
    (Cs (by decide) (by decide) (BN (by decide) (by decide) (by decide)) ha.sc (BX b 1 0 _ tb.sc (by simp only [show Ao 8 0=0 from rfl,show Ao 7 0=0 from rfl];omega))) tc.sc tx.sc)
  ·rw [wt1,wt3,MP,BF];omega
  ·rw [dp1,dp3,OY,EW];omega
 ·refine ⟨.mk 5 0 [.mk 4 0 [b,c2],x],p && q2,⟨N1+N2+N4+200000000000+1,?_⟩,?_,?_,?_,fun hb=>.app e g a b c2 x h6 hba tb.gr (tx.gr (KJ hb)) (tc2.gr (I7 hb))⟩
  ·intro n hn;obtain ⟨n,rfl⟩:∃k,n=k+1:=⟨n - 1,by omega⟩;have h1:=h1 n (by omega);have h2:=h2 n (by omega);have h4:=h4 n (by omega);rw [← we] at h2 h4;have p0:=AO (n:=n) (by omega) r 0;have p1:=AO (n:=n) (by omega) r 1;have p2:=AO (n:=n) (by omega) r 2;have hw:=As (n:=n) (by omega) r.n (m:=3) (by omega) (by omega);have hsh:=Di n a 1 0 (by omega) (Gk _ _ ha.sc) (by omega) (by omega);have hm:=Dm (n:=n) g 1 b (by omega) (by omega);have t4:=C0 (n:=n) (by omega) 4 [b,c2];have t5:=C0 (n:=n) (by omega) 5 [.mk 4 0 [b,c2],x];rw [AsD];clear h3 tb tx tc tc2 ha hg hG hT hba hbm hsa aw ad xw cw c2w bw xd cd c2d bd c2s;generalize a.shift 1 0=sa at hsh h4;generalize r.pick 0=r0 at p0 h1;generalize r.pick 1=r1 at p1 h2;generalize r.pick 2=r2 at p2 h4;generalize r.n % 3=w3 at hw h0;obtain ⟨o1,m1,k1⟩:=a;obtain ⟨o2,m2,k2⟩:=b;obtain ⟨o3,m3,k3⟩:=r;obtain ⟨o4,m4,k4⟩:=sa;obtain ⟨o5,m5,k5⟩:=x;obtain ⟨o6,m6,k6⟩:=c2;obtain ⟨o7,m7,k7⟩:=r0;obtain ⟨o8,m8,k8⟩:=r1;obtain ⟨o9,m9,k9⟩:=r2;simp only [Tm.n,Be,Ayo,Ayn,Ah,Int.reduceSub,Int.cast_ofNat_Int] at h1 h2 h4 p0 p1 p2 hw hsh hm t4 t5 ⊢;cases p
   ·simp (maxSteps:=1000000) only [↓Am4,↓XX,XY,↓reduceIte,Nat.reduceBEq,Nat.reduceAdd,Int.reduceEq,Int.reduceLT,Int.reduceLE,↓Ag p0,↓Ag p1,↓Ag p2,↓AL h1,↓AI h2,↓Ag hw,h0,↓AI h4,↓AL hsh,↓AL hm,↓Ct,↓Ag t4,↓Ag t5]
    first | exact An _ _ | exact Aw rfl (by simp) _
   ·simp (maxSteps:=1000000) only [↓Am4,↓XX,XY,↓reduceIte,Nat.reduceBEq,Nat.reduceAdd,Int.reduceEq,Int.reduceLT,Int.reduceLE,↓Ag p0,↓Ag p1,↓Ag p2,↓AL h1,↓AI h2,↓Ag hw,h0,↓AI h4,↓AL hsh,↓AL hm,↓Ct,↓Ag t4,↓Ag t5]
    first | exact An _ _ | exact Aw rfl (by simp) _
  ·exact Cs (by decide) (by decide) (BN (by decide) (by decide) (by decide)) (Cs (by decide) (by decide) (BN (by decide) (by decide) (by decide)) tb.sc c2s) tx.sc
  ·rw [MP,MP];omega
  ·rw [OY,OY];omega
set_option maxRecDepth 20000 in
set_option maxHeartbeats 4000000 in
theorem AlI {e:Nat} (he:e≤10) (hT:6≤e→KX (e - 1)) (hG:6≤e→DD 70 1 (e - 1)):KX e:=by
 intro g r hg;have hlen:=hg.len;have hk1:=Int.emod_nonneg r.op (show (9:Int)≠0 by decide)
 have hk2:=Int.emod_lt_of_pos r.op (show (0:Int)<9 by decide)
 have hW0:=K7 (e - 1);have hD0:200≤Dg (e - 1):=by unfold Dg;omega
 have hleaf:∀op n:Int,ar op=some 0→op≠1→BH op n→Gr 0 e g .z (.mk op n [])→TyOk g e (.mk op n []):=fun op n h1 h2 h3 h4=>⟨Cr h1 h2 h3,by simp only [Tm.wt,Tm.wtL];omega,by simp only [Tm.dp,Tm.dpL];omega,h4⟩;have hpl:=Db 1 r;have hpd:=U3 (r.plainT 1);have c0:(r.op % 9=0∨r.op % 9=1∨e≤5∧(r.op % 9=5∨r.op % 9=6))→∃t,Ev 69 [.fv (Be g),.fv r.enc,iv ((e:Int) - 5)] (Tm.enc t)∧TyOk g e t:=by
  intro hc;refine ⟨.mk 10 0 [],⟨100,fun n hn=>?_⟩,hleaf 10 0 (by decide) (by decide) (BN (by decide) (by decide) (by decide)) (.tnat e g _)⟩;obtain ⟨n,rfl⟩:∃k,n=k+1:=⟨n - 1,by omega⟩;have hw:=As (n:=n) (by omega) r.op (m:=9) (by omega) (by omega);have hn4:=Lo (n:=n) (by omega);rw [c69];obtain ⟨o,p,k⟩:=r;simp only [Tm.op] at hw hc;simp only [Ah,Ayn] at hn4 ⊢;rcases hc with hc | hc | ⟨he5,hc | hc⟩
  ·rw [hc] at hw;by_cases hd:(e:Int) - 5≤0<;>(simp (maxSteps:=1000000) only [↓Kd,↓XX,XY,↓reduceIte,Nat.reduceBEq,Nat.reduceAdd,Int.reduceEq,Int.reduceLT,Int.reduceLE,↓Ag hw,hd,↓FA hn4];first | exact An _ _ | exact A1 rfl _)
  ·rw [hc] at hw;by_cases hd:(e:Int) - 5≤0<;>(simp (maxSteps:=1000000) only [↓Kd,↓XX,XY,↓reduceIte,Nat.reduceBEq,Nat.reduceAdd,Int.reduceEq,Int.reduceLT,Int.reduceLE,↓Ag hw,hd,↓FA hn4];first | exact An _ _ | exact A1 rfl _)
  ·rw [hc] at hw;have hd:(e:Int) - 5≤0:=by omega
   simp (maxSteps:=1000000) only [↓Kd,↓XX,XY,↓reduceIte,Nat.reduceBEq,Nat.reduceAdd,Int.reduceEq,Int.reduceLT,Int.reduceLE,↓Ag hw,hd,↓Oc (show (5:Int)≠0 by decide),show (5:Int).tmod 5=0 from rfl,↓FA hn4];first | exact An _ _ | exact A1 rfl _
  ·rw [hc] at hw;have hd:(e:Int) - 5≤0:=by omega
   simp (maxSteps:=1000000) only [↓Kd,↓XX,XY,↓reduceIte,Nat.reduceBEq,Nat.reduceAdd,Int.reduceEq,Int.reduceLT,Int.reduceLE,↓Ag hw,hd,↓Oc (show (5:Int)≠0 by decide),show (6:Int).tmod 5=1 from rfl,↓FA hn4];first | exact An _ _ | exact A1 rfl _
 have c2:(r.op % 9=2∨e≤5∧r.op % 9=7)→∃t,Ev 69 [.fv (Be g),.fv r.enc,iv ((e:Int) - 5)] (Tm.enc t)∧TyOk g e t:=by
  intro hc;refine ⟨.mk 14 0 [],⟨100,fun n hn=>?_⟩,hleaf 14 0 (by decide) (by decide) (BN (by decide) (by decide) (by decide)) (.tty e g _)⟩;obtain ⟨n,rfl⟩:∃k,n=k+1:=⟨n - 1,by omega⟩;have hw:=As (n:=n) (by omega) r.op (m:=9) (by omega) (by omega);have hn4:=Df (n:=n) (by omega) 14;rw [c69];obtain ⟨o,p,k⟩:=r;simp only [Tm.op] at hw hc;simp only [Ah,Ayn] at hn4 ⊢;rcases hc with hc | ⟨he5,hc⟩
  ·rw [hc] at hw;by_cases hd:(e:Int) - 5≤0<;>(simp (maxSteps:=1000000) only [↓Kd,↓XX,XY,↓reduceIte,Nat.reduceBEq,Nat.reduceAdd,Int.reduceEq,Int.reduceLT,Int.reduceLE,↓Ag hw,hd,↓Ag hn4];first | exact An _ _ | exact A1 rfl _)
  ·rw [hc] at hw;have hd:(e:Int) - 5≤0:=by omega
   simp (maxSteps:=1000000) only [↓Kd,↓XX,XY,↓reduceIte,Nat.reduceBEq,Nat.reduceAdd,Int.reduceEq,Int.reduceLT,Int.reduceLE,↓Ag hw,hd,↓Oc (show (5:Int)≠0 by decide),show (7:Int).tmod 5=2 from rfl,↓Ag hn4];first | exact An _ _ | exact A1 rfl _
 have c3:(r.op % 9=3∨e≤5∧r.op % 9=8)→∃t,Ev 69 [.fv (Be g),.fv r.enc,iv ((e:Int) - 5)] (Tm.enc t)∧TyOk g e t:=by
  intro hc;refine ⟨.mk 18 0 [r.plainT 1],⟨100,fun n hn=>?_⟩,E7 (by decide) (by decide) (BN (by decide) (by decide) (by decide)) (ER _ 1 r),by rw [wt1];omega,by rw [dp1];omega,.tlp e g _ r⟩;obtain ⟨n,rfl⟩:∃k,n=k+1:=⟨n - 1,by omega⟩;have hw:=As (n:=n) (by omega) r.op (m:=9) (by omega) (by omega);have hp:=It 1 n r (by omega) (by omega);have ht:=C0 (n:=n) (by omega) 18 [r.plainT 1];rw [c69];generalize r.plainT 1=q at hp ht ⊢;obtain ⟨o,p,k⟩:=r;obtain ⟨o2,p2,k2⟩:=q;simp only [Tm.op] at hw hc;simp only [Ah,Ayo,Ayn] at hp ht ⊢;rcases hc with hc | ⟨he5,hc⟩
  ·rw [hc] at hw;by_cases hd:(e:Int) - 5≤0<;>(simp (maxSteps:=1000000) only [↓Kd,↓XX,XY,↓reduceIte,Nat.reduceBEq,Nat.reduceAdd,Int.reduceEq,Int.reduceLT,Int.reduceLE,↓Ag hw,hd,↓Ag hp,↓Cl,↓Ag ht];first | exact An _ _ | exact A1 rfl _)
  ·rw [hc] at hw;have hd:(e:Int) - 5≤0:=by omega
   simp (maxSteps:=1000000) only [↓Kd,↓XX,XY,↓reduceIte,Nat.reduceBEq,Nat.reduceAdd,Int.reduceEq,Int.reduceLT,Int.reduceLE,↓Ag hw,hd,↓Oc (show (5:Int)≠0 by decide),show (8:Int).tmod 5=3 from rfl,↓Ag hp,↓Cl,↓Ag ht];first | exact An _ _ | exact A1 rfl _
 by_cases h4:r.op % 9=4
 ·refine ⟨.mk 2 0 [],⟨100,fun n hn=>?_⟩,hleaf 2 0 (by decide) (by decide) (by rw [BH,if_pos rfl];omega) (.tu e g _)⟩;obtain ⟨n,rfl⟩:∃k,n=k+1:=⟨n - 1,by omega⟩;have hw:=As (n:=n) (by omega) r.op (m:=9) (by omega) (by omega);have hu:=AhW (n:=n) (by omega) 0;rw [c69];obtain ⟨o,p,k⟩:=r;simp only [Tm.op] at hw h4;simp only [Ah,Ayn] at hu ⊢;rw [h4] at hw;by_cases hd:(e:Int) - 5≤0<;>(simp (maxSteps:=1000000) only [↓Kd,↓XX,XY,↓reduceIte,Nat.reduceBEq,Nat.reduceAdd,Int.reduceEq,Int.reduceLT,Int.reduceLE,↓Ag hw,hd,↓Av hu];first | exact An _ _ | exact A1 rfl _)
 by_cases hs:r.op % 9≤3∨e≤5
 ·have h:=hk1;by_cases h0:r.op % 9=0∨r.op % 9=1∨e≤5∧(r.op % 9=5∨r.op % 9=6)
  ·exact c0 h0
  by_cases h2:r.op % 9=2∨e≤5∧r.op % 9=7
  ·exact c2 h2
  exact c3 (by omega)
 have he6:6≤e:=by omega
 have hd:¬ (e:Int) - 5≤0:=by omega
 have we:BC ((e:Int) - 5 - 1)=((e - 1:Nat):Int) - 5:=by rw [Az (by omega) (by omega)];omega
 have hW10:=MY (e:=e - 1) (by omega);have hW1:Wg (e - 1)=4 * Wg (e - 2):=by
  obtain ⟨f,rfl⟩:∃f,e=f+2:=⟨e - 2,by omega⟩;rw [show f+2 - 1=f+1 by omega,K6,show f+2 - 2=f by omega]
 have hW2:=K7 (e - 2);have hD1:Dg (e - 1)=Dg (e - 2)+10:=by unfold Dg;omega
 have hDm:Dg (e - 1)≤300:=by unfold Dg;omega
 by_cases h8:r.op % 9=8
 ·obtain ⟨t,b,⟨N1,h1⟩,tt⟩:=hG he6 g (.mk 14 0 []) (r.pick 0) (AT (by omega) hg) ⟨Cr (by decide) (by decide) (BN (by decide) (by decide) (by decide)),by simp [Tm.wt,Tm.wtL],by simp [Tm.dp,Tm.dpL]⟩;refine ⟨if b=true then .mk 18 0 [t] else .mk 10 0 [],⟨N1+100,fun n hn=>?_⟩,?_⟩
  ·obtain ⟨n,rfl⟩:∃k,n=k+1:=⟨n - 1,by omega⟩;have hw:=As (n:=n) (by omega) r.op (m:=9) (by omega) (by omega);have h1:=h1 n (by omega);rw [← we] at h1;have p0:=AO (n:=n) (by omega) r 0;have t14:=Df (n:=n) (by omega) 14;have t18:=C0 (n:=n) (by omega) 18 [t];have hn4:=Lo (n:=n) (by omega);rw [c69];rw [h8] at hw;clear hG hT tt c0 c2 c3 hleaf;generalize r.pick 0=r0 at p0 h1;obtain ⟨o,p,k⟩:=r;obtain ⟨o2,p2,k2⟩:=t;obtain ⟨o3,p3,k3⟩:=r0;simp only [Tm.op] at hw;simp only [Ah,Be,Ayo,Ayn] at h1 p0 t14 t18 hn4 ⊢;cases b
   ·simp only [Bool.false_eq_true,if_false,Ah,Ayn];simp (maxSteps:=1000000) only [↓Kd,↓XX,XY,↓reduceIte,Nat.reduceBEq,Nat.reduceAdd,Int.reduceEq,Int.reduceLT,Int.reduceLE,↓Ag hw,hd,↓Ag t14,↓Ag p0,↓AI h1,↓FA hn4];first | exact An _ _ | exact A1 rfl _
   ·simp only [if_true,Ah,Ayn,Ayo];simp (maxSteps:=1000000) only [↓Kd,↓XX,XY,↓reduceIte,Nat.reduceBEq,Nat.reduceAdd,Int.reduceEq,Int.reduceLT,Int.reduceLE,↓Ag hw,hd,↓Ag t14,↓Ag p0,↓AI h1,↓Cl,↓Ag t18];first | exact An _ _ | exact A1 rfl _
  ·split
   ·rename_i hb;exact ⟨E7 (by decide) (by decide) (BN (by decide) (by decide) (by decide)) tt.sc,by have:=tt.wt;rw [wt1];omega,by have:=tt.dp;rw [dp1];omega,.tlift e g _ t he6 (tt.gr hb)⟩
   ·exact hleaf 10 0 (by decide) (by decide) (BN (by decide) (by decide) (by decide)) (.tnat e g _)
 ·obtain ⟨a,⟨N1,h1⟩,ta⟩:=hT he6 g (r.pick 0) (AT (by omega) hg);have aw:=ta.wt;have ad:=ta.dp;rw [show e - 1 - 1=e - 2 by omega] at aw ad
  obtain ⟨b,⟨N2,h2⟩,tb⟩:=hT he6 (g++[(1,a)]) (r.pick 1) (C1 (by rw [show e - 1+1=e by omega];exact hg) ta.sc (by omega) (by omega))
  have bw:=tb.wt;have bd:=tb.dp;rw [show e - 1 - 1=e - 2 by omega] at bw bd
  have bs:b.sc (g.length+1):=by simpa using tb.sc
  have hop:∀op:Int,op=3∨op=6→TyOk g e (.mk op 0 [a,b]):=by
   rintro op (rfl | rfl)
   ·exact ⟨Cs (by decide) (by decide) (BN (by decide) (by decide) (by decide)) ta.sc bs,by rw [MP];omega,by rw [OY];omega,.tpi e g _ a b _ (by simp) he6 (by omega) ⟨ta.sc,by omega,by omega⟩ ta.gr tb.gr⟩
   ·exact ⟨Cs (by decide) (by decide) (BN (by decide) (by decide) (by decide)) ta.sc bs,by rw [MP];omega,by rw [OY];omega,.tpi e g _ a b _ (by simp) he6 (by omega) ⟨ta.sc,by omega,by omega⟩ ta.gr tb.gr⟩
  obtain ⟨oo,hoo⟩:∃oo:Int,oo=3∧(r.op % 9=5∨r.op % 9=6)∨oo=6∧r.op % 9=7:=by
   by_cases h7:r.op % 9=7
   ·exact ⟨6,.inr ⟨rfl,h7⟩⟩
   ·exact ⟨3,.inl ⟨rfl,by omega⟩⟩
  refine ⟨.mk oo 0 [a,b],⟨N1+N2+100,fun n hn=>?_⟩,hop oo (by omega)⟩;obtain ⟨n,rfl⟩:∃k,n=k+1:=⟨n - 1,by omega⟩;have hw:=As (n:=n) (by omega) r.op (m:=9) (by omega) (by omega);have h1:=h1 n (by omega);have h2:=h2 n (by omega);rw [← we] at h1 h2;have p0:=AO (n:=n) (by omega) r 0;have p1:=AO (n:=n) (by omega) r 1;have t3:=C0 (n:=n) (by omega) 3 [a,b];have t6:=C0 (n:=n) (by omega) 6 [a,b];have hm:=Dm (n:=n) g 1 a (by omega) (by omega);rw [c69];clear hG hT c0 c2 c3 hleaf ta tb hop bs aw ad bw bd;generalize r.pick 0=r0 at p0 h1;generalize r.pick 1=r1 at p1 h2;obtain ⟨o,p,k⟩:=r;obtain ⟨o2,p2,k2⟩:=a;obtain ⟨o3,p3,k3⟩:=b;obtain ⟨o4,p4,k4⟩:=r0;obtain ⟨o5,p5,k5⟩:=r1;simp only [Tm.op] at hw hoo;simp only [Ah,Be,Ayo,Ayn] at h1 h2 p0 p1 t3 t6 hm ⊢;rcases hoo with ⟨rfl,hk | hk⟩ | ⟨rfl,hk⟩
  ·rw [hk] at hw;simp (maxSteps:=1000000) only [↓Kd,↓XX,XY,↓reduceIte,Nat.reduceBEq,Nat.reduceAdd,Int.reduceEq,Int.reduceLT,Int.reduceLE,↓Ag hw,hd,↓Ag p0,↓Ag p1,↓AL h1,↓AL hm,↓AL h2,↓Ct,↓Ag t3];first | exact An _ _ | exact A1 rfl _
  ·rw [hk] at hw;simp (maxSteps:=1000000) only [↓Kd,↓XX,XY,↓reduceIte,Nat.reduceBEq,Nat.reduceAdd,Int.reduceEq,Int.reduceLT,Int.reduceLE,↓Ag hw,hd,↓Ag p0,↓Ag p1,↓AL h1,↓AL hm,↓AL h2,↓Ct,↓Ag t3];first | exact An _ _ | exact A1 rfl _
  ·rw [hk] at hw;simp (maxSteps:=1000000) only [↓Kd,↓XX,XY,↓reduceIte,Nat.reduceBEq,Nat.reduceAdd,Int.reduceEq,Int.reduceLT,Int.reduceLE,↓Ag hw,hd,↓Ag p0,↓Ag p1,↓AL h1,↓AL hm,↓AL h2,↓Ct,↓Ag t6];first | exact An _ _ | exact A1 rfl _
theorem An1 (a b:Int) (s:Nat) (h:Hp) (k:IV→Hp→List Ref→List Ref→Option (IV×Hp)):AD (Al EE 51 2 [(0,iv a),(1,iv b)]) s h k=k (.clip [.int .i64 a,.int .i64 b]) h [] []:=DB AgZ Apj (by decide) (cells:=[.int .i64 a,.int .i64 b]) rfl k
theorem Ug {β:Type} (z:Nat) (es:List FV) (x:IV) (k:IV→Option β):AP z (.clip es) x k=AP z (.fv (.sl es)) x k:=rfl
theorem Au0 {β:Type} (a:Int) (r:List FV) (k:IV→Option β):AP 1 (.fv (.sl (.int .i64 a::r))) (iv 0) k=k (.fv (.fp [.int .i64 a] 0)):=Bn (el:=.int .i64 a) (n:=0) rfl rfl k
theorem Avh {β:Type} (a b:Int) (r:List FV) (k:IV→Option β):AP 1 (.fv (.sl (.int .i64 a :: .int .i64 b::r))) (iv 1) k=k (.fv (.fp [.int .i64 b] 0)):=Bn (el:=.int .i64 b) (n:=1) rfl rfl k
def Aho (F:FuncId) (κ e:Nat):Prop:=∀(g:Ch) (a r:Tm),GOk e g→NOk g.length a→(a.op=10∨a.op=14∨a.op=2)→∃t b,Ev F [.fv (Be g),.fv a.enc,.fv r.enc,iv ((e:Int) - 5)] (.tuple [Tm.enc t,.bool b])∧TG κ e g a t b
theorem AjB {a:Tm} {k:Nat} (h:a.sc k) (ho:a.op=10∨a.op=14∨a.op=2):∃n,a=.mk a.op n []∧(a.op=2→0≤n∧n≤2)∧(a.op≠2→n=0):=by
 obtain ⟨o,n,l⟩:=a;simp only [Tm.op] at ho ⊢;rw [Tm.sc] at h;obtain ⟨h1,h2,_⟩:=h;have h3:ar o=some 0:=by rcases ho with rfl | rfl | rfl<;>decide
 rw [h3] at h1;have hl:l=[]:=List.eq_nil_of_length_eq_zero (Option.some.inj h1).symm;subst hl;rw [if_neg (by omega)] at h2;refine ⟨n,rfl,fun h=>?_,fun h=>?_⟩
 ·subst h;rw [BH,if_pos rfl] at h2;exact h2
 ·rw [BH,if_neg h,if_neg (by omega),if_neg (by omega)] at h2;exact h2
set_option maxRecDepth 20000 in
set_option maxHeartbeats 8000000 in
theorem Ahi {e:Nat} (h1e:1≤e) (he:e≤10) (hG:DD 70 1 (e - 1)) (hG2:6≤e→DD 70 1 (e - 2)):Aho 101 3 e:=by
 intro g a r hg ha hop;have hlen:=hg.len;have hW1:Wg e=4 * Wg (e - 1):=by
  obtain ⟨f,rfl⟩:∃f,e=f+1:=⟨e - 1,by omega⟩;rw [K6,Nat.add_sub_cancel]
 have hW0:=K7 (e - 1);have hW10:=MY he;have hD1:Dg e=Dg (e - 1)+10:=by unfold Dg;omega
 have hD0:200≤Dg (e - 1):=by unfold Dg;omega
 have hDm:Dg e≤300:=by unfold Dg;omega
 obtain ⟨an,hae,hu1,hu2⟩:=AjB ha.sc hop;have we:BC ((e:Int) - 5 - 1)=((e - 1:Nat):Int) - 5:=by rw [Az (by omega) (by omega)];omega
 have hk1:=Int.emod_nonneg r.op (show (5:Int)≠0 by decide)
 have hk2:=Int.emod_lt_of_pos r.op (show (0:Int)<5 by decide)
 have aw:=ha.wt;have ad:=ha.dp;have leafT:∀op n:Int,ar op=some 0→op≠1→BH op n→TOk g.length e (.mk op n []):=fun op n h1 h2 h3=>⟨Cr h1 h2 h3,by simp only [Tm.wt,Tm.wtL];omega,by simp only [Tm.dp,Tm.dpL];omega⟩;have tint:TOk g.length e (.mk 18 0 [.mk 15 0 []]):=⟨E7 (by decide) (by decide) (BN (by decide) (by decide) (by decide)) (Cr (by decide) (by decide) (BN (by decide) (by decide) (by decide))),by simp only [Tm.wt,Tm.wtL];omega,by simp only [Tm.dp,Tm.dpL];omega⟩;by_cases hrec:6≤e∧r.op % 5=4∧a.op≠2
 ·obtain ⟨h6,h4,hn2⟩:=hrec;have hW2:Wg e=16 * Wg (e - 2):=by
   obtain ⟨f,rfl⟩:∃f,e=f+2:=⟨e - 2,by omega⟩;rw [show f+2=(f+1)+1 by omega,K6,K6,show f+1+1 - 2=f by omega];omega
  have hD2:Dg e=Dg (e - 2)+20:=by unfold Dg;omega
  have hW20:=K7 (e - 2);have we2:BC ((e:Int) - 5 - 2)=((e - 2:Nat):Int) - 5:=by rw [Az (by omega) (by omega)];omega
  have hnat:∀k,NOk k (.mk 10 0 []):=fun k=>⟨Cr (by decide) (by decide) (BN (by decide) (by decide) (by decide)),by simp only [Tm.wt,Tm.wtL];omega,by simp only [Tm.dp,Tm.dpL];omega⟩;have hs1:=Mc ha (by omega) 1 (by omega);have hs2:=Mc ha (by omega) 2 (by omega);obtain ⟨nn,p,⟨N1,h1⟩,tn⟩:=hG2 h6 g (.mk 10 0 []) (r.pick 0) (AT (by omega) hg) (Bu (hnat _));obtain ⟨z,q,⟨N2,h2⟩,tz⟩:=hG2 h6 g a (r.pick 1) (AT (by omega) hg) (Bu ha);have hg1:GOk (e - 1) (g++[(1,Tm.mk 10 0 [])]):=C1 (by rw [show e - 1+1=e by omega];exact hg) (hnat _).sc (by simp only [Tm.wt,Tm.wtL];omega) (by simp only [Tm.dp,Tm.dpL];omega)
  have hg2:GOk (e - 2) ((g++[(1,Tm.mk 10 0 [])])++[(1,a.shift 1 0)]):=C1 (by rw [show e - 2+1=e - 1 by omega];exact hg1) (by simpa using hs1.sc) (by rw [BF];omega) (by rw [EW];omega)
  obtain ⟨s,f,⟨N3,h3⟩,ts⟩:=hG2 h6 _ (a.shift 2 0) (r.pick 2) hg2 (by simpa using Bu hs2);have ss:s.sc (g.length+2):=by simpa using ts.sc
  refine ⟨.mk 13 0 [a.shift 1 0,z,s,nn],p && (q && f),⟨N1+N2+N3+100000,fun n hn=>?_⟩,?_,?_,?_,fun hb=>.recc e g a nn z s h6 (by omega) (tn.gr (KJ hb)) (tz.gr (KJ (I7 hb))) (ts.gr (I7 (I7 hb)))⟩
  ·obtain ⟨n,rfl⟩:∃k,n=k+1:=⟨n - 1,by omega⟩;have h1:=h1 n (by omega);have h2:=h2 n (by omega);have h3:=h3 n (by omega);rw [← we2] at h1 h2 h3;have hw:=As (n:=n) (by omega) r.op (m:=5) (by omega) (by omega);rw [h4] at hw;have p0:=AO (n:=n) (by omega) r 0;have p1:=AO (n:=n) (by omega) r 1;have p2:=AO (n:=n) (by omega) r 2;have n4:=Lo (n:=n) (by omega);have m1:=Dm (n:=n) g 1 (.mk 10 0 []) (by omega) (by omega);have m2:=Dm (n:=n) (g++[(1,Tm.mk 10 0 [])]) 1 (a.shift 1 0) (by simp;omega) (by omega);have s1:=Di n a 1 0 (by omega) (Gk _ _ ha.sc) (by omega) (by omega);have s2:=Di n a 2 0 (by omega) (Gk _ _ ha.sc) (by omega) (by omega);have t13:=C0 (n:=n) (by omega) 13 [a.shift 1 0,z,s,nn];have hd0:(0:Int)<(e:Int) - 5:=by omega
   rw [U8];clear hG hG2 tn tz ts hg hg1 hg2 ha hs1 hs2 hnat ss leafT tint hae hu1 hu2;generalize a.shift 1 0=a1 at s1 m2 t13 h3 ⊢;generalize a.shift 2 0=a2 at s2 h3;generalize r.pick 0=r0 at p0 h1;generalize r.pick 1=r1 at p1 h2;generalize r.pick 2=r2 at p2 h3;obtain ⟨o1,x1,k1⟩:=a;obtain ⟨o2,x2,k2⟩:=r;obtain ⟨o3,x3,k3⟩:=a1;obtain ⟨o4,x4,k4⟩:=a2;obtain ⟨o5,x5,k5⟩:=nn;obtain ⟨o6,x6,k6⟩:=z;obtain ⟨o7,x7,k7⟩:=s;obtain ⟨o8,x8,k8⟩:=r0;obtain ⟨o9,x9,k9⟩:=r1;obtain ⟨oa,xa,ka⟩:=r2;simp only [Tm.op] at hw hn2;simp only [Be,Ayo,Ayn,Ah] at h1 h2 h3 p0 p1 p2 n4 m1 m2 s1 s2 t13 ⊢;cases p<;>cases q<;>(simp (maxSteps:=1000000) only [↓I5,↓XX,XY,↓reduceIte,Nat.reduceBEq,Nat.reduceAdd,Int.reduceEq,Int.reduceLT,Int.reduceLE,hd0,↓Ag hw,hn2,↓FA n4,↓Ag p0,↓Ag p1,↓Ag p2,↓AI h1,↓AI h2,↓AL m1,↓AL m2,↓AL s1,↓AL s2,↓AI h3,↓Asx,↓Ag t13];first | exact An _ _ | exact Aw rfl (by simp) _)
  ·exact AoS (by decide) (by decide) (BN (by decide) (by decide) (by decide)) hs1.sc tz.sc ss tn.sc
  ·have:=tz.wt;have:=ts.wt;have:=tn.wt;rw [wt4,BF];omega
  ·have:=tz.dp;have:=ts.dp;have:=tn.dp;rw [dp4,EW];omega
 have hnr:¬ (0:Int)<(e:Int) - 5∨¬ r.op % 5=4∨a.op=2:=by omega
 by_cases o10:a.op=10
 ·have hz:=hu2 (by omega);rw [hz,o10] at hae;by_cases hs:6≤e∧r.op % 2=1
  ·obtain ⟨nn,p,⟨N1,h1⟩,tn⟩:=hG g a (r.pick 0) (AT (by omega) hg) (Bu ha);refine ⟨.mk 12 0 [nn],p,⟨N1+100,fun n hn=>?_⟩,E7 (by decide) (by decide) (BN (by decide) (by decide) (by decide)) tn.sc,by have:=tn.wt;rw [wt1];omega,by have:=tn.dp;rw [dp1];omega,fun hb=>.suc e g a nn hs.1 o10 (tn.gr hb)⟩;obtain ⟨n,rfl⟩:∃k,n=k+1:=⟨n - 1,by omega⟩;have h1:=h1 n (by omega);rw [← we] at h1;have hw:=As (n:=n) (by omega) r.op (m:=5) (by omega) (by omega);have hw2:=As (n:=n) (by omega) r.op (m:=2) (by omega) (by omega);rw [hs.2] at hw2;have p0:=AO (n:=n) (by omega) r 0;have t12:=C0 (n:=n) (by omega) 12 [nn];have hd0:(0:Int)<(e:Int) - 5:=by omega
   have h45:¬ r.op % 5=4:=by omega
   rw [U8];rw [hae] at h1 ⊢;clear hG hG2 tn hg ha leafT tint hae hu1 hu2 hop hnr;generalize r.op % 5=w5 at hw h45;generalize r.pick 0=r0 at p0 h1;obtain ⟨o2,x2,k2⟩:=r;obtain ⟨o5,x5,k5⟩:=nn;obtain ⟨o8,x8,k8⟩:=r0;simp only [Tm.op] at hw hw2;simp only [Be,Ayo,Ayn,Ah] at h1 p0 t12 ⊢;simp (maxSteps:=1000000) only [↓I5,↓XX,XY,↓reduceIte,Nat.reduceBEq,Nat.reduceAdd,Int.reduceEq,Int.reduceLT,Int.reduceLE,hd0,↓Ag hw,h45,↓Ag hw2,↓Ag p0,↓AI h1,↓Cl,↓Ag t12]
   first | exact An _ _ | exact Aw rfl (by simp) _
  ·have hj1:=Int.emod_nonneg r.n (show (4:Int)≠0 by decide)
   have hj2:=Int.emod_lt_of_pos r.n (show (0:Int)<4 by decide)
   obtain ⟨j,hj⟩:∃j:Nat,r.n % 4=j:=⟨(r.n % 4).toNat,by omega⟩;refine ⟨CA j,true,⟨100,fun n hn=>?_⟩,AhG _ j,by rw [XJ];omega,by have:=U3 (CA j);rw [XJ] at this;omega,fun _=>.num e g a j o10 (by omega)⟩;obtain ⟨n,rfl⟩:∃k,n=k+1:=⟨n - 1,by omega⟩;have hw:=As (n:=n) (by omega) r.op (m:=5) (by omega) (by omega);have hw2:=As (n:=n) (by omega) r.op (m:=2) (by omega) (by omega);have hw4:=As (n:=n) (by omega) r.n (m:=4) (by omega) (by omega);rw [hj] at hw4;have hnum:=Ary (n:=n) j (by omega) (by omega);have h45:(0:Int)<(e:Int) - 5→¬ r.op % 5=4:=by omega
   have h21:(0:Int)<(e:Int) - 5→¬ r.op % 2=1:=by omega
   rw [U8];rw [hae];clear hG hG2 hg ha leafT tint hae hu1 hu2 hop hnr hs;generalize r.op % 5=w5 at hw h45;generalize r.op % 2=w2 at hw2 h21;generalize CA j=nm at hnum ⊢;obtain ⟨o2,x2,k2⟩:=r;obtain ⟨o5,x5,k5⟩:=nm;simp only [Tm.op,Tm.n] at hw hw2 hw4;simp only [Be,Ayn,Ah] at hnum ⊢;by_cases hd0:(0:Int)<(e:Int) - 5
   ·have h45:=h45 hd0;have h21:=h21 hd0;simp (maxSteps:=1000000) only [↓I5,↓XX,XY,↓reduceIte,Nat.reduceBEq,Nat.reduceAdd,Int.reduceEq,Int.reduceLT,Int.reduceLE,hd0,↓Ag hw,h45,↓Ag hw2,h21,↓Ag hw4,↓Av hnum]
    first | exact An _ _ | exact Aw rfl (by simp) _
   ·simp (maxSteps:=1000000) only [↓I5,↓XX,XY,↓reduceIte,Nat.reduceBEq,Nat.reduceAdd,Int.reduceEq,Int.reduceLT,Int.reduceLE,hd0,↓Ag hw4,↓Av hnum]
    first | exact An _ _ | exact Aw rfl (by simp) _
 by_cases o14:a.op=14
 ·have hz:=hu2 (by omega);rw [hz,o14] at hae;by_cases hs:6≤e∧1<r.op % 5
  ·obtain ⟨x,p,⟨N1,h1⟩,tx⟩:=hG g a (r.pick 0) (AT (by omega) hg) (Bu ha);obtain ⟨y,q,⟨N2,h2⟩,ty⟩:=hG g a (r.pick 1) (AT (by omega) hg) (Bu ha);have hj1:=Int.emod_nonneg r.n (show (2:Int)≠0 by decide)
   have hj2:=Int.emod_lt_of_pos r.n (show (0:Int)<2 by decide)
   obtain ⟨oo,hoo,hoo2⟩:∃oo:Int,oo=16+r.n % 2∧(oo=16∨oo=17):=⟨_,rfl,by omega⟩;have hsc:(Tm.mk oo 0 [x,y]).sc g.length:=by
    rcases hoo2 with rfl | rfl<;>exact Cs (by decide) (by decide) (BN (by decide) (by decide) (by decide)) tx.sc ty.sc
   refine ⟨.mk oo 0 [x,y],p && q,⟨N1+N2+100,fun n hn=>?_⟩,hsc,by have:=tx.wt;have:=ty.wt;rw [MP];omega,by have:=tx.dp;have:=ty.dp;rw [OY];omega,fun hb=>.tfun e g a x y oo hoo2 hs.1 o14 (tx.gr (KJ hb)) (ty.gr (I7 hb))⟩;obtain ⟨n,rfl⟩:∃k,n=k+1:=⟨n - 1,by omega⟩;have h1:=h1 n (by omega);have h2:=h2 n (by omega);rw [← we] at h1 h2;have hw:=As (n:=n) (by omega) r.op (m:=5) (by omega) (by omega);have hw2:=As (n:=n) (by omega) r.n (m:=2) (by omega) (by omega);have wo:BC (16+r.n % 2)=oo:=by rw [Az]<;>omega
   have p0:=AO (n:=n) (by omega) r 0;have p1:=AO (n:=n) (by omega) r 1;have t16:=C0 (n:=n) (by omega) oo [x,y];rw [← wo] at t16;have hd0:(0:Int)<(e:Int) - 5:=by omega
   have h45:¬ r.op % 5=4:=by omega
   have h15:=hs.2;rw [U8];rw [hae] at h1 h2 ⊢;clear hG hG2 tx ty hg ha leafT tint hae hu1 hu2 hop hnr hs hoo2 hsc;rw [← wo];clear wo hoo;generalize r.op % 5=w5 at hw h45 h15;generalize r.n % 2=w2 at hw2 t16 ⊢;generalize r.pick 0=r0 at p0 h1;generalize r.pick 1=r1 at p1 h2;obtain ⟨o2,x2,k2⟩:=r;obtain ⟨o5,x5,k5⟩:=x;obtain ⟨o6,x6,k6⟩:=y;obtain ⟨o8,x8,k8⟩:=r0;obtain ⟨o9,x9,k9⟩:=r1;simp only [Tm.op,Tm.n] at hw hw2;simp only [Be,Ayo,Ayn,Ah] at h1 h2 p0 p1 t16 ⊢;cases p<;>(simp (maxSteps:=1000000) only [↓I5,↓XX,XY,↓reduceIte,Nat.reduceBEq,Nat.reduceAdd,Int.reduceEq,Int.reduceLT,Int.reduceLE,hd0,↓Ag hw,h45,h15,↓Ag hw2,↓Ag p0,↓Ag p1,↓AI h1,↓AI h2,↓Ct,↓Ag t16];first | exact An _ _ | exact Aw rfl (by simp) _)
  ·refine ⟨.mk 15 0 [],true,⟨100,fun n hn=>?_⟩,tg (leafT 15 0 (by decide) (by decide) (BN (by decide) (by decide) (by decide))) (fun _=>.tint e g a o14)⟩;obtain ⟨n,rfl⟩:∃k,n=k+1:=⟨n - 1,by omega⟩;have hw:=As (n:=n) (by omega) r.op (m:=5) (by omega) (by omega);have t15:=Df (n:=n) (by omega) 15;have h45:(0:Int)<(e:Int) - 5→¬ r.op % 5=4∧¬ 1<r.op % 5:=by omega
   rw [U8];rw [hae];clear hG hG2 hg ha leafT tint hae hu1 hu2 hop hnr hs;generalize r.op % 5=w5 at hw h45;obtain ⟨o2,x2,k2⟩:=r;simp only [Tm.op] at hw;simp only [Be,Ayn,Ah] at t15 ⊢;by_cases hd0:(0:Int)<(e:Int) - 5
   ·obtain ⟨h45,h15⟩:=h45 hd0;simp (maxSteps:=1000000) only [↓I5,↓XX,XY,↓reduceIte,Nat.reduceBEq,Nat.reduceAdd,Int.reduceEq,Int.reduceLT,Int.reduceLE,hd0,↓Ag hw,h45,h15,↓Ag t15]
    first | exact An _ _ | exact Aw rfl (by simp) _
   ·simp (maxSteps:=1000000) only [↓I5,↓XX,XY,↓reduceIte,Nat.reduceBEq,Nat.reduceAdd,Int.reduceEq,Int.reduceLT,Int.reduceLE,hd0,↓Ag t15]
    first | exact An _ _ | exact Aw rfl (by simp) _
 have o2:a.op=2:=by omega
 obtain ⟨hu3,hu4⟩:=hu1 o2;rw [o2] at hae;by_cases hn0:0<an
 ·refine ⟨.mk 2 (an - 1) [],true,⟨100,fun n hn=>?_⟩,tg (leafT 2 (an - 1) (by decide) (by decide) (by rw [BH,if_pos rfl];omega)) (fun _=>.uni e g a _ o2)⟩;obtain ⟨n,rfl⟩:∃k,n=k+1:=⟨n - 1,by omega⟩;have hw:=As (n:=n) (by omega) r.op (m:=5) (by omega) (by omega);have wu:BC (an - 1)=an - 1:=by rw [Az]<;>omega
  have hu:=AhW (n:=n) (by omega) (an - 1);rw [← wu] at hu;rw [U8];rw [hae,← wu];clear hG hG2 hg ha leafT tint hae hu1 hu2 hop hnr wu;generalize r.op % 5=w5 at hw;obtain ⟨o2,x2,k2⟩:=r;simp only [Tm.op] at hw;simp only [Be,Ayn,Ah] at hu ⊢;by_cases hd0:(0:Int)<(e:Int) - 5
  ·by_cases h4:w5=4
   ·simp (maxSteps:=1000000) only [↓I5,↓XX,XY,↓reduceIte,Nat.reduceBEq,Nat.reduceAdd,Int.reduceEq,Int.reduceLT,Int.reduceLE,hd0,↓Ag hw,h4,hn0,↓Av hu]
    first | exact An _ _ | exact Aw rfl (by simp) _
   ·simp (maxSteps:=1000000) only [↓I5,↓XX,XY,↓reduceIte,Nat.reduceBEq,Nat.reduceAdd,Int.reduceEq,Int.reduceLT,Int.reduceLE,hd0,↓Ag hw,h4,hn0,↓Av hu]
    first | exact An _ _ | exact Aw rfl (by simp) _
  ·simp (maxSteps:=1000000) only [↓I5,↓XX,XY,↓reduceIte,Nat.reduceBEq,Nat.reduceAdd,Int.reduceEq,Int.reduceLT,Int.reduceLE,hd0,hn0,↓Av hu]
   first | exact An _ _ | exact Aw rfl (by simp) _
 have han:an=0:=by omega
 subst han;have hq1:=Int.emod_nonneg r.op (show (4:Int)≠0 by decide)
 have hq2:=Int.emod_lt_of_pos r.op (show (0:Int)<4 by decide)
 by_cases hs:6≤e∧1<r.op % 4
 ·obtain ⟨x,p,⟨N1,h1⟩,tx⟩:=hG g a (r.pick 0) (AT (by omega) hg) (Bu ha);have hgx:GOk (e - 1) (g++[(1,x)]):=C1 (by rw [show e - 1+1=e by omega];exact hg) tx.sc (by have:=tx.wt;omega) (by have:=tx.dp;omega)
  have hax:AOk (g++[(1,x)]).length a:=⟨by rw [hae];exact Cr (by decide) (by decide) (by rw [BH,if_pos rfl];omega),by omega,by omega⟩;obtain ⟨y,q,⟨N2,h2⟩,ty⟩:=hG (g++[(1,x)]) a (r.pick 1) hgx hax;have ys:y.sc (g.length+1):=by simpa using ty.sc
  obtain ⟨oo,hoo⟩:∃oo:Int,oo=3∧r.op % 4=2∨oo=6∧r.op % 4=3:=by
   by_cases h7:r.op % 4=2
   ·exact ⟨3,.inl ⟨rfl,h7⟩⟩
   ·exact ⟨6,.inr ⟨rfl,by omega⟩⟩
  have hsc:(Tm.mk oo 0 [x,y]).sc g.length:=by
   rcases hoo with ⟨rfl,_⟩ | ⟨rfl,_⟩<;>exact Cs (by decide) (by decide) (BN (by decide) (by decide) (by decide)) tx.sc ys
  refine ⟨.mk oo 0 [x,y],p && q,⟨N1+N2+100,fun n hn=>?_⟩,hsc,by have:=tx.wt;have:=ty.wt;rw [MP];omega,by have:=tx.dp;have:=ty.dp;rw [OY];omega,fun hb=>.upi e g a x y oo (by omega) hs.1 o2 (AfG tx (by omega)) (tx.gr (KJ hb)) (ty.gr (I7 hb))⟩;obtain ⟨n,rfl⟩:∃k,n=k+1:=⟨n - 1,by omega⟩;have h1:=h1 n (by omega);have h2:=h2 n (by omega);rw [← we] at h1 h2;have hw:=As (n:=n) (by omega) r.op (m:=5) (by omega) (by omega);have hw4:=As (n:=n) (by omega) r.op (m:=4) (by omega) (by omega);have p0:=AO (n:=n) (by omega) r 0;have p1:=AO (n:=n) (by omega) r 1;have hm:=Dm (n:=n) g 1 x (by omega) (by omega);have t3:=C0 (n:=n) (by omega) oo [x,y];have hd0:(0:Int)<(e:Int) - 5:=by omega
  have w22:BC (2 - 2)=0:=by rw [Az]<;>omega
  have w32:BC (3 - 2)=1:=by rw [Az]<;>omega
  have w0:BC 0=0:=by rw [Az]<;>omega
  have w1:BC 1=1:=by rw [Az]<;>omega
  rw [U8];rw [hae] at h1 h2 ⊢;clear hG hG2 tx ty hg ha leafT tint hae hu1 hu2 hop hnr hs hsc hgx hax ys;generalize r.op % 5=w5 at hw;generalize r.op % 4=w4 at hw4 hoo;generalize r.pick 0=r0 at p0 h1;generalize r.pick 1=r1 at p1 h2;obtain ⟨o2,x2,k2⟩:=r;obtain ⟨o5,x5,k5⟩:=x;obtain ⟨o6,x6,k6⟩:=y;obtain ⟨o8,x8,k8⟩:=r0;obtain ⟨o9,x9,k9⟩:=r1;simp only [Tm.op] at hw hw4;simp only [Be,Ayo,Ayn,Ah] at h1 h2 p0 p1 hm t3 ⊢;rcases hoo with ⟨rfl,rfl⟩ | ⟨rfl,rfl⟩
  ·by_cases h4:w5=4<;>cases p<;>(simp (maxSteps:=1000000) only [↓I5,↓XX,XY,↓reduceIte,Nat.reduceBEq,Nat.reduceAdd,Int.reduceEq,Int.reduceLT,Int.reduceLE,hd0,↓Ag hw,h4,↓Ag hw4,↓Ag p0,↓Ag p1,↓AI h1,↓AL hm,↓AI h2,↓Ct,↓An1,↓Ug,w22,w0,Int.reduceSub,↓Au0,↓Ag t3];first | exact An _ _ | exact Aw rfl (by simp) _)
  ·by_cases h4:w5=4<;>cases p<;>(simp (maxSteps:=1000000) only [↓I5,↓XX,XY,↓reduceIte,Nat.reduceBEq,Nat.reduceAdd,Int.reduceEq,Int.reduceLT,Int.reduceLE,hd0,↓Ag hw,h4,↓Ag hw4,↓Ag p0,↓Ag p1,↓AI h1,↓AL hm,↓AI h2,↓Ct,↓An1,↓Ug,w32,w1,Int.reduceSub,↓Avh,↓Ag t3];first | exact An _ _ | exact Aw rfl (by simp) _)
 ·have hj1:=Int.emod_nonneg r.n (show (3:Int)≠0 by decide)
  have hj2:=Int.emod_lt_of_pos r.n (show (0:Int)<3 by decide)
  obtain ⟨t,ht,tt⟩:∃t:Tm,(r.n % 3=0∧t=.mk 10 0 []∨r.n % 3=1∧t=.mk 14 0 []∨r.n % 3=2∧t=.mk 18 0 [.mk 15 0 []])∧TG 3 e g a t true:=by
   have h:r.n % 3=0∨r.n % 3=1∨r.n % 3=2:=by omega
   rcases h with h | h | h
   ·exact ⟨_,.inl ⟨h,rfl⟩,tg (leafT 10 0 (by decide) (by decide) (BN (by decide) (by decide) (by decide))) (fun _=>.unat e g a o2)⟩
   ·exact ⟨_,.inr (.inl ⟨h,rfl⟩),tg (leafT 14 0 (by decide) (by decide) (BN (by decide) (by decide) (by decide))) (fun _=>.uty e g a o2)⟩
   ·exact ⟨_,.inr (.inr ⟨h,rfl⟩),tg tint (fun _=>.ult e g a o2)⟩
  refine ⟨t,true,⟨100,fun n hn=>?_⟩,tt⟩;obtain ⟨n,rfl⟩:∃k,n=k+1:=⟨n - 1,by omega⟩;have hw:=As (n:=n) (by omega) r.op (m:=5) (by omega) (by omega);have hw4:=As (n:=n) (by omega) r.op (m:=4) (by omega) (by omega);have hw3:=As (n:=n) (by omega) r.n (m:=3) (by omega) (by omega);have n4:=Lo (n:=n) (by omega);have t14:=Df (n:=n) (by omega) 14;have t15:=Df (n:=n) (by omega) 15;have t18:=C0 (n:=n) (by omega) 18 [.mk 15 0 []];have h41:(0:Int)<(e:Int) - 5→¬ 1<r.op % 4:=by omega
  rw [U8];rw [hae];clear hG hG2 hg ha leafT tint hae hu1 hu2 hop hnr hs tt;generalize r.op % 5=w5 at hw;generalize r.op % 4=w4 at hw4 h41;generalize r.n % 3=w3 at hw3 ht;obtain ⟨o2,x2,k2⟩:=r;simp only [Tm.op,Tm.n] at hw hw4 hw3;simp only [Be,Ayo,Ayn,Ah] at n4 t14 t15 t18 ⊢;by_cases hd0:(0:Int)<(e:Int) - 5
  ·have h41:=h41 hd0;by_cases h4:w5=4
   ·rcases ht with ⟨rfl,rfl⟩ | ⟨rfl,rfl⟩ | ⟨rfl,rfl⟩<;>(simp (maxSteps:=1000000) only [↓I5,↓XX,XY,↓reduceIte,Nat.reduceBEq,Nat.reduceAdd,Int.reduceEq,Int.reduceLT,Int.reduceLE,hd0,↓Ag hw,h4,↓Ag hw4,h41,↓FA n4,↓Ag t14,↓Ag t15,↓Cl,↓Ag t18,↓Jm,↓Ag hw3,↓Ug,↓Bx,↓BJ,↓GS,Ah];first | exact An _ _ | exact Aw rfl (by simp) _)
   ·rcases ht with ⟨rfl,rfl⟩ | ⟨rfl,rfl⟩ | ⟨rfl,rfl⟩<;>(simp (maxSteps:=1000000) only [↓I5,↓XX,XY,↓reduceIte,Nat.reduceBEq,Nat.reduceAdd,Int.reduceEq,Int.reduceLT,Int.reduceLE,hd0,↓Ag hw,h4,↓Ag hw4,h41,↓FA n4,↓Ag t14,↓Ag t15,↓Cl,↓Ag t18,↓Jm,↓Ag hw3,↓Ug,↓Bx,↓BJ,↓GS,Ah];first | exact An _ _ | exact Aw rfl (by simp) _)
  ·rcases ht with ⟨rfl,rfl⟩ | ⟨rfl,rfl⟩ | ⟨rfl,rfl⟩<;>(simp (maxSteps:=1000000) only [↓I5,↓XX,XY,↓reduceIte,Nat.reduceBEq,Nat.reduceAdd,Int.reduceEq,Int.reduceLT,Int.reduceLE,hd0,↓Ag hw4,↓FA n4,↓Ag t14,↓Ag t15,↓Cl,↓Ag t18,↓Jm,↓Ag hw3,↓Ug,↓Bx,↓BJ,↓GS,Ah];first | exact An _ _ | exact Aw rfl (by simp) _)
end Idl
end Go.Proofs.Ytdibmackcbpniaa

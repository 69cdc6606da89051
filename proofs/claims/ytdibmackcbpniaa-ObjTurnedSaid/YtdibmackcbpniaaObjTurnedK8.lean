/-
  Texts of a proof, part 8: an ideal semantics of the program, its functions in shallow form, contracts of them. No statement of the seat is proved here.
-/
import Derived.Test.YtdibmackcbpniaaObjTurnedK7
set_option linter.all false
set_option maxRecDepth 20000
set_option maxHeartbeats 16000000
noncomputable section
set_option maxRecDepth 100000
set_option linter.unusedVariables false
namespace Go.Proofs.Ytdibmackcbpniaa
namespace Idl
noncomputable section
abbrev OH:=Option (IV×Hp)
abbrev V:=IV
abbrev H:=Hp
abbrev O:=OH
abbrev AA:=List Ref
abbrev iq (n:Int):IV:=.fv (.int .i64 n)
def AiI (b:H) (a g h:V) (i:Aa) (d:V):O :=
 Ac a true b (fun j=>Ae 3 g b fun k l=>j k b l []) fun m c _ _=>Ac a true c (fun n=>Ae 3 h c fun o p=>n o c p []) fun q e _ _=>Ac a true e (fun r=>Ai [] false false i 18 [m,q] e r) fun s f _ _=>Ac d false f (fun t=>AI a s (.fv (.bool false)) fun u=>t u f [] []) fun v w _ _=>AI d (.fv (.bool true)) v fun x=>Ao [x] w
def Ajx (h:H) (b i:V) (c:Aa) (d j:V):O :=
 Ad 3 b i h fun k _ _=>Ai [] false false c 27 [d] k fun a e _ _=>Ac a false e (fun l=>l d e [] []) fun m f _ _=>Ac a false f (fun n=>AO EE 3 m (.fv (.int .i64 0)) fun o=>n o f [] []) fun p g _ _=>Ac a false g (fun q=>q p g [] []) fun r s _ _=>AiI s r b j c a
def AiD (a:H) (d:V) (b:Aa) (e:V):O :=
 Ae 3 d a fun f _=>Ai [] false false b 26 [.nils,.fv (.int .i64 0),f] a fun c g _ _=>Aq 0 c fun h=>Aq 1 c fun i=>Ay 4211717 (.row [.fv (.int .i64 0),.fv (.int .i64 0),.nils] false) (.ptr (.own 4211717) 0) g fun j k _ _=>Ajx k j h b i e
def AjP (b c:V) (a:H) (d e:V) (f:Aa) (g:V):O :=
 AI b (.fv (.bool true)) c fun h=>Aj h (Ao [.fv (.bool false)] a) (Ck EE 35 d (.fv (.int .i64 0)) fun i=>Aj i (Ao [.fv (.bool true)] a) (AiD a e f g))
def Akx (d i:V) (b:H) (e j:V) (f:Aa) (k:V):O :=
 Ck EE 3 d i fun a=>Ac a false b (fun l=>Ae 3 e b fun m n=>l m b n []) fun o c _ _=>Ac a false c (fun p=>Ae 3 j c fun q r=>p q c r []) fun s g _ _=>Ac a false g (fun t=>Ai [] false false f 18 [o,s] g t) fun u h _ _=>Ac a false h (fun v=>C8 (KN .not u) fun w=>v w h [] []) fun x y _ _=>AjP a x y d k f e
def Ait (a:Aa) (d:H) (e f g h:V):O :=
 Ai [] false false a 19 [.nils,e] d fun b i _ _=>Aq 0 b fun j=>Aq 1 b fun k=>Ay 4206597 (.row [.fv (.int .i64 0),.fv (.int .i64 0),.nils] false) (.ptr (.own 4206597) 0) i fun c l _ _=>Ad 3 c j l fun m _ _=>Akx f k m g c a h
def AiX (a:V) (e:H) (b:V) (f:Aa):O :=
 Aq 0 a fun g=>Aq 1 a fun h=>Ay 4205573 (.row [.fv (.int .i64 0),.fv (.int .i64 0),.nils] false) (.ptr (.own 4205573) 0) e fun c i _ _=>Ad 3 c g i fun d _ _=>Ae 3 b d fun j _=>Ait f d j h c b
def Ajd (d:V) (a:H) (b:V) (c:Aa):O :=
 Ck EE 3 d (.fv (.int .i64 0)) fun e=>Aj e (Ao [.fv (.bool true)] a) (Ae 3 b a fun f _=>Ai [] false false c 17 [.nils,f] a fun g h _ _=>AiX g h b c)
def AjE (d e f g h i j k l m n o p:AA) (q:H) (a r:V) (b:Aa):O :=
 Ab [(f,g),(h,i),(j,[]),(k,l),(m,n),(o,[]),(p,[])] d e (Ad 3 a r q fun c s t=>Ab [] s t (Ae 3 a c fun u _=>Ai [] false false b 25 [u] c fun v w _ _=>Ajd v w a b))
def Aj1 (a:Aa) (g:H) (h:V) (b:AA) (i j:V) (k l m n o p:AA):O :=
 Ai [] false false a 16 [h,.fv (.int .i64 2),.fv (.int .i64 1)] g fun q r c d=>Ab [(b,[])] c d (Ai [] false false a 22 [i,j,q] r fun s t e f=>Ab [] e f (Ay 4202504 (.row [.fv (.int .i64 0),.fv (.int .i64 0),.nils] false) (.ptr (.own 4202504) 0) t fun u v w x=>AjE w x e f c d k l m n o p b v u s a))
def Ajk (b c a:AA) (f:Aa) (j:H) (k l m:V) (g:AA) (n:V):O :=
 Ab [(a,[])] b c (Ai [] false false f 23 [k,l] j fun o h d e=>Ab [(a,[])] d e (Ae 3 m h fun p i=>Ab [(d,e),(b,c),(g,[]),(a,[])] i [] (Aj1 f h p a n o i d e b c g)))
def AhM (a:H) (c:V) (d:Aa) (f g:V):O :=
 Ae 3 c a fun h b=>Ab [] b [] (Ae 3 c a fun i e=>Ab [(b,[])] e [] (Ai [] false false d 24 [i] a fun j k l m=>Ajk l m b d k f j g e h))
def Ak6 (c:H) (a d e f:V) (g:Aa) (h i:V):O :=
 Ay 4199432 (.row [.fv (.int .i64 0),.fv (.int .i64 0),.nils] false) (.ptr (.own 4199432) 0) c fun j k _ _=>Ad 3 a d k fun l _ _=>Ad 3 j e l fun b _ _=>C8 (KN .not f) fun m=>Aj m (Ao [.fv (.bool true)] b) (AhM b a g h i)
def AjZ (b:Aa) (c:H) (d e f g:V):O :=
 Ai [] false false b 15 [d,e] c fun a h _ _=>Aq 0 a fun i=>Aq 1 a fun j=>Aq 2 a fun k=>Ay 4199431 (.row [.fv (.int .i64 0),.fv (.int .i64 0),.nils] false) (.ptr (.own 4199431) 0) h fun l m _ _=>Ak6 m l i j k b f g
def Akd (b c:V) (a:H) (d e:V) (f:Aa) (g h:V):O :=
 AI b (.fv (.bool true)) c fun i=>Aj i (Ao [.fv (.bool true)] a) (Ae 3 d a fun j _=>Ae 3 e a fun k _=>AjZ f a j k g h)
def AkI (c:H) (d i e:V) (f:Aa) (j k l:V):O :=
 Ac d false c (fun m=>C8 (KN .not i) fun n=>m n c [] []) fun o b _ _=>AI d (.fv (.bool true)) o fun a=>Ac a false b (fun p=>Ae 3 e b fun q r=>p q b r []) fun s g _ _=>Ac a false g (fun t=>Ai [] false false f 12 [s] g t) fun u h _ _=>Ac a false h (fun v=>C8 (KN .not u) fun w=>v w h [] []) fun x y _ _=>Akd a x y j k f l e
def AhZ (d:H) (e:V) (a:Aa) (f h i:V):O :=
 Ae 3 e d fun j _=>Ai [] false false a 12 [j] d fun k b _ _=>C8 (KN .not k) fun c=>Ac c false b (fun l=>Ae 3 f b fun m n=>l m b n []) fun o g _ _=>Ac c false g (fun p=>Ai [] false false a 12 [o] g p) fun q r _ _=>AkI r c q h a e f i
def S4 (a:Aa) (n:Nat) (c d e f:V) (g:H):O :=
 AR 4194304 c g fun h i _ _=>AR 4194305 d i fun j k _ _=>AR 4194306 e k fun l m _ _=>Ai [] false false a 11 [] m fun o b _ _=>C8 (KN .not o) fun p=>Aj p (Ao [.fv (.bool false)] b) (AhZ b h a j l f)
theorem Avn (a:Aa) (n:Nat) (b c d e:V) (f:H):Ax EE a ft.get n 4 [b,c,d,e] f=S4 a n b c d e f:=by kernel_rfl
def Aqj (a:H) (b d:V) (e:Aa):O :=
 Ac b true a (fun f=>Ae 3 d a fun g h=>f g a h []) fun i c _ _=>Ac b true c (fun j=>Ai [] false false e 20 [i] c j) fun k l _ _=>AI b k (.fv (.bool false)) fun m=>Ao [m] l
def ApT (f:V) (c:H) (d:V) (g:Aa):O :=
 AO EE 35 f (.fv (.int .i64 0)) fun a=>Ac a true c (fun h=>Af 0 d fun i=>h i c [] []) fun j b _ _=>Ac a true b (fun k=>Ak j b fun l m=>k l b m []) fun n e _ _=>Ac a true e (fun o=>AO EE 3 n (.fv (.int .i64 15)) fun p=>o p e [] []) fun q r _ _=>AI a q (.fv (.bool false)) fun s=>Aqj r s d g
def S11 (a:Aa) (n:Nat) (d:H):O :=
 Ai [] false false a 31 [.fv (.int .i64 5)] d fun e f _ _=>Ai [] false false a 17 [.nils,e] f fun b g _ _=>Aq 0 b fun h=>Aq 1 b fun i=>Ay 11535365 (.row [.fv (.int .i64 0),.fv (.int .i64 0),.nils] false) (.ptr (.own 11535365) 0) g fun c j _ _=>Ad 3 c h j fun k _ _=>ApT i k c a
theorem AsY (a:Aa) (n:Nat) (b:H):Ax EE a ft.get n 11 [] b=S11 a n b:=by kernel_rfl
def S12 (b:Aa) (n:Nat) (c:V) (d:H):O :=
 AR 12582912 c d fun e a _ _=>Ae 3 e a fun f _=>Ai [] false false b 40 [f,.fv (.int .i64 300)] a fun g h _ _=>GC EE 3 g (.fv (.int .i64 300)) fun i=>Ao [i] h
theorem Arm (a:Aa) (n:Nat) (b:V) (c:H):Ax EE a ft.get n 12 [b] c=S12 a n b c:=by kernel_rfl
def Sd (c:H) (a d:V):O :=
 Ad 3 a d c fun b _ _=>Ap true 3 a b fun e=>Ao [e] b
def Qt (b c:AA) (a:H) (d:V):O :=
 Ab [] b c (Ap true 3 d a fun e=>Ao [e] a)
def RM (b:H) (c d:V) (e:Aa) (f a:V):O :=
 AE (An EE 28 2 [(0,c),(1,d)]) 14684173 b fun g h i j=>Ab [] i j (Ai [] false false e 30 [f,g] h fun k l m n=>Ab [] m n (Ad 3 a k l fun o p q=>Qt p q o a))
def Rx (a:Aa) (b:H) (c d e f g:V):O :=
 Ai [] false false a 42 [c,.fv (.int .i64 1)] b fun h i j k=>Ab [] j k (Bd EE 3 d (.fv (.int .i64 1)) fun l=>Ai [] false false a 14 [h,l] i fun m n o p=>Ab [] o p (RM n e m a f g))
def Sj (a:V) (b:Aa) (f:H) (g h:V) (i j k:AA) (l m:V):O :=
 Bd EE 3 a (.fv (.int .i64 1)) fun n=>Ai [] false false b 14 [g,n] f fun o c d e=>Ab [] d e (Ae 3 h c fun p q=>Ab [(d,e),(i,j),(k,[])] q [] (Rx b c p a o l m))
def Ss (g:V) (a:H) (b:V) (c:Aa) (h i:V):O :=
 Bd EE 3 g (.fv (.int .i64 2)) fun j=>Ae 3 b a fun k d=>Ab [] d [] (Ai [] false false c 42 [k,.fv (.int .i64 0)] a fun l m e f=>Ab [] e f (Sj h c m l b e f d j i))
def Qm (b:H) (a c:V) (d:Aa) (e h i:V):O :=
 Ac a false b (fun j=>j c b [] []) fun k f _ _=>Ac a false f (fun l=>GC EE 3 k (.fv (.int .i64 2)) fun m=>l m f [] []) fun n g _ _=>AI a (.fv (.bool true)) n fun o=>Aj o (Ai [] false false d 30 [.fv (.int .i64 15),.nils] g fun p q _ _=>Sd q e p) (Bv EE 3 (.fv (.int .i64 16)) c fun r=>Ss r g h d i e)
def S14 (a:Aa) (n:Nat) (e b:V) (f:H):O :=
 AR 14680064 e f fun c g _ _=>Ay 14680065 (.row [.fv (.int .i64 0),.fv (.int .i64 0),.nils] false) (.ptr (.own 14680065) 0) g fun h d _ _=>Af 1 c fun i=>Ak i d fun j _=>Ai [] false false a 41 [j,.fv (.int .i64 4)] d fun k l _ _=>leS EE 3 b (.fv (.int .i64 0)) fun m=>Qm l m k a h c b
theorem Atc (a:Aa) (n:Nat) (b c:V) (d:H):Ax EE a ft.get n 14 [b,c] d=S14 a n b c d:=by kernel_rfl
def RB (b c:AA) (a:H) (d e:V):O :=
 Ab [] b c (Ap true 3 d a fun f=>Ap true 3 e a fun g=>Ao [f,g,.fv (.bool false)] a)
def Ro (a:H) (e:V) (f:AA) (b g c:V):O :=
 Ae 3 e a fun h d=>Ab [(f,[])] d [] (Ad 3 b g a fun i j k=>Ab [(d,[])] j k (Ad 3 c h i fun l m n=>RB m n l b c))
def Sa (c d e:AA) (f:H) (b g h i:V):O :=
 Ab [(e,[])] c d (Ad 3 b g f fun a j k=>Ab [] j k (Ap true 3 h a fun l=>Ap true 3 b a fun m=>Ao [l,m,i] a))
def Rg (a:AA) (b:H) (e f c g h:V):O :=
 Ab [] a [] (Ae 3 e b fun i d=>Ab [(a,[])] d [] (AO EE 3 f (.fv (.int .i64 0)) fun j=>Ad 3 c g b fun k l m=>Sa l m d k h i c j))
def RG (a:V) (d:H) (e f g:V):O :=
 Aq 0 a fun h=>Aq 1 a fun i=>Ay 15732741 (.row [.fv (.int .i64 0),.fv (.int .i64 0),.nils] false) (.ptr (.own 15732741) 0) d fun b j _ _=>Ad 3 b h j fun c _ _=>Ae 3 b c fun k l=>Rg l c e i f k g
def Qe (g:V) (a:H) (b c d e:V) (h:Aa):O :=
 Aj g (Ae 3 b a fun i f=>Ab [] f [] (Ro a c f d i e)) (Ae 3 b a fun j _=>Ai [] false false h 44 [j] a fun k l _ _=>RG k l c d e)
def R2 (c:H) (d e f g h:V) (i:Aa):O :=
 Ay 15729672 (.row [.fv (.int .i64 0),.fv (.int .i64 0),.nils] false) (.ptr (.own 15729672) 0) c fun a j _ _=>Ay 15729673 (.row [.fv (.int .i64 0),.fv (.int .i64 0),.nils] false) (.ptr (.own 15729673) 0) j fun b k _ _=>Ad 3 a d k fun l _ _=>Ad 3 b e l fun m _ _=>C8 (KN .not f) fun n=>Qe n m b a g h i
def QM (b:Aa) (c:H) (d e f g:V):O :=
 Ai [] false false b 43 [.nils,d,e,.fv (.bool true)] c fun a h _ _=>Aq 0 a fun _=>Aq 1 a fun i=>Aq 2 a fun j=>Aq 3 a fun k=>R2 h i j k f g b
def S15 (b:Aa) (n:Nat) (c d:V) (e:H):O :=
 AR 15728640 c e fun f g _ _=>AR 15728641 d g fun h i _ _=>Ay 15728642 (.row [.fv (.int .i64 0),.fv (.int .i64 0),.nils] false) (.ptr (.own 15728642) 0) i fun j k _ _=>Ay 15728643 (.row [.fv (.int .i64 0),.fv (.int .i64 0),.nils] false) (.ptr (.own 15728643) 0) k fun l a _ _=>Ae 3 f a fun m _=>Ae 3 h a fun o _=>QM b a m o j l
theorem AsH (a:Aa) (n:Nat) (b c:V) (d:H):Ax EE a ft.get n 15 [b,c] d=S15 a n b c d:=by kernel_rfl
def HZ (h:V) (i j:H) (a b c d e f:V) (k:List V->H->O):O :=
 Bv EE 3 h (.fv (.int .i64 1)) fun g=>BZ (i.own.map (·.1)) [16794638] [a,b,c,d,e,f,g] j fun l=>k [a,b,c,d,e,f,g] l
def Ih (b:H) (c d a e:V) (f:H) (g h i j k:V) (l:List V->H->O):O :=
 AE (AJ EE 16794638 false .append [28,28] [c,d]) 16794638 b fun m n o p=>Ab [] o p (Af 2 a fun q=>B6 q m n fun r s t=>Ab [] s t (HZ e f r g h i j k a l))
def IF (a c:V) (d:Aa) (e:H) (f g:V) (b:AA) (h i j:V) (k:H) (l m n o:V) (p:List V->H->O):O :=
 Bv EE 3 a c fun q=>Ai [] false false d 16 [f,g,q] e fun r s t u=>Ab [(b,[])] t u (AE (An EE 28 1 [(0,r)]) 16794637 s fun v w x y=>Ab [(b,[])] x y (Ih w h v i j k l a m n o p))
def II (a:Aa) (f:H) (g b:V) (c:AA) (d e h i j:V) (k:H) (l m:V) (n:List V->H->O):O :=
 Ai [] false false a 47 [g,b] f fun o p q r=>Ab [(c,[])] q r (Bd EE 3 d (.fv (.int .i64 1)) fun s=>Ai [] false false a 48 [e,b] p fun t u v w=>Ab [(c,[])] v w (IF h t a u o s c i j b k d l m e n))
def HM (c:V) (a:H) (d:V) (e:Aa) (f g h i:V) (j:H) (k:V) (l:List V->H->O):O :=
 Af 2 c fun m=>Ak m a fun n b=>Ab [] b [] (Ae 3 d a fun o p=>Ab [(b,[])] p [] (II e a o f b g h i n c j d k l))
def H6 (a:H) (d b:V):O :=
 Ae 3 d a fun e _=>Ad 3 b e a fun c _ _=>Ap true 3 b c fun f=>Ao [f] c
def HQ (g:List V) (a:Aa) (h:H) (b i j k:V) (l:H) (c:V) (m:List V->H->O):O :=
 AH g fun d n=>AH n fun e _=>Ai [] false false a 46 [b] h fun o f _ _=>GC EE 3 e o fun p=>Aj p (HM d f i a e j b k l c m) (H6 f d c)
def IP (a:List V) (b:Aa) (c d:H) (e:List V->H->O):O :=
 AH a fun f g=>AH g fun h i=>AH i fun j k=>AH k fun l m=>AH m fun n o=>HQ o b c n j f h d l e
def HY (a h:H) (b c d e f g:V) (n:Nat) (i:Aa):O :=
 BZ (a.own.map (·.1)) [16794638] [b,c,d,e,f,g,.fv (.int .i64 0)] h fun j=>BY n (fun k l m=>IP l i m a k) [b,c,d,e,f,g,.fv (.int .i64 0)] j
def H0 (a:V) (b:Aa) (c:H) (d e:V) (f:H->O):O :=
 Bv EE 3 a (.fv (.int .i64 1)) fun g=>Ai [] false false b 45 [d,g] c fun h i _ _=>Af 1 e fun j=>B6 j h i fun k _ _=>f k
def H8 (b:V) (a:H) (c:Aa) (d:V) (e:H->O):O :=
 Af 1 b fun f=>Ak f a fun g _=>Ai [] false false c 45 [g,.fv (.int .i64 3)] a fun h i _ _=>Af 1 d fun j=>B6 j h i fun k _ _=>e k
def Iw (a:Aa) (b:H) (c d:V) (e:H->O):O :=
 Ai [] false false a 45 [c,.fv (.int .i64 5)] b fun f g _ _=>Af 1 d fun h=>B6 h f g fun i _ _=>e i
def HP (b:V) (a:H) (c:V) (d:H->O):O :=
 Af 1 b fun e=>Ak e a fun f _=>Af 1 c fun g=>B6 g f a fun h _ _=>d h
def ID (c d:V) (a:H) (f:Aa) (e:V) (b:H->O):O :=
 AO EE 3 c (.fv (.int .i64 26)) fun g=>Aj g (Af 1 d fun h=>Ak h a fun i _=>Iw f a i e b) (AO EE 3 c (.fv (.int .i64 25)) fun j=>Aj j (HP d a e b) (b a))
def Iz (g b:V) (a:H) (h:V) (c:Aa) (d:V) (e:H->O) (f:V):O :=
 Aj g (Af 1 b fun i=>Ak i a fun j _=>H0 h c a j d e) (AO EE 3 f (.fv (.int .i64 2)) fun k=>Aj k (H8 b a c d e) (ID f b a c d e))
def GO (a:V) (f g:H) (h c d i:V) (n:Nat) (e:Aa):O :=
 BJ [.fv (.int .i64 0),.fv (.int .i64 0),.nils] [(0,1,a)] fun j=>Ay 16781314 (.row [.fv (.int .i64 0),.fv (.int .i64 0),.nils] false) (.ptr (.own 16781314) 0) f fun b k _ _=>Ad 3 b j k fun l _ _=>(fun (m:H->O)=>AO EE 3 a (.fv (.int .i64 1)) fun o=>Iz o d l c e b m a) fun p=>HY g p h c d i a b n e
def EN (a:H) (c:V) (d:Aa) (e:V) (f:V->H->O):O :=
 Ak c a fun g _=>Ai [] false false d 45 [g,.fv (.int .i64 5)] a fun h b _ _=>AP 1 e h fun i=>Ak i b fun j _=>f j b
def EM (c d:V) (a:H) (e:V) (f:Aa) (b:V->H->O) (g:V):O :=
 AI c d (.fv (.bool false)) fun h=>Aj h (AE (An EE 51 5 [(0,.fv (.int .i64 1)),(1,.fv (.int .i64 11)),(2,.fv (.int .i64 25)),(3,.fv (.int .i64 15)),(4,.fv (.int .i64 10))]) 16780288 a fun i j _ _=>Af 0 e fun k=>EN j k f i b) (b g a)
def ET (i:H) (c j d k:V) (n:Nat) (b:Aa) (e:H) (f:V):O :=
 (fun (l:V->H->O)=>leS EE 3 c (.fv (.int .i64 0)) fun a=>Ac a true e (fun m=>m f e [] []) fun o g _ _=>Ac a true g (fun p=>Ai [] false false b 46 [o] g p) fun q h _ _=>Ac a true h (fun r=>LN EE 3 q (.fv (.int .i64 0)) fun s=>r s h [] []) fun t u _ _=>EM a t u d b l f) fun v w=>GO v w i c j d k n b
def S16 (a:Aa) (n:Nat) (e f g:V) (b:H):O :=
 AR 16777216 e b fun c h _ _=>Ay 16777217 (.row [.fv (.int .i64 0),.fv (.int .i64 0),.nils] false) (.ptr (.own 16777217) 0) h fun i d _ _=>Af 0 c fun j=>Ak j d fun k _=>Ai [] false false a 45 [k,.fv (.int .i64 30)] d fun l m _ _=>Bv EE 3 (.fv (.int .i64 1)) l fun o=>ET b f g c i n a m o
theorem AqY (a:Aa) (n:Nat) (b c d:V) (e:H):Ax EE a ft.get n 16 [b,c,d] e=S16 a n b c d e:=by kernel_rfl
def QC (c:H) (a d:V):O :=
 Ad 3 a d c fun b _ _=>Ap true 3 a b fun e=>Ao [e,.fv (.int .i64 1)] b
def RJ (a:H) (b c:V):O :=
 Ap true 3 b a fun d=>Ao [d,c] a
def Q9 (c:H) (a d:V):O :=
 Ad 3 a d c fun b _ _=>Ap true 3 a b fun e=>Ao [e,.fv (.int .i64 0)] b
def Sf (c:V) (a:H) (b d:V) (e:Aa):O :=
 Ck EE 35 c (.fv (.int .i64 0)) fun f=>Aj f (BJ [.fv (.int .i64 0),.fv (.int .i64 0),.nils] [] fun g=>Ad 3 b g a fun h _ _=>RJ h b c) (Ae 3 d a fun i _=>Ai [] false false e 54 [i] a fun j k _ _=>Q9 k b j)
def QD (a:Aa) (d:H) (e f g:V):O :=
 Ai [] false false a 53 [e,f] d fun b h _ _=>Aq 0 b fun i=>Aq 1 b fun j=>Ay 17828870 (.row [.fv (.int .i64 0),.fv (.int .i64 0),.nils] false) (.ptr (.own 17828870) 0) h fun c k _ _=>Ad 3 c i k fun l _ _=>Sf j l g c a
def RI (b:H) (c:V) (d:Aa) (f e g h:V):O :=
 Ac c false b (fun i=>Ai [] false false d 50 [f,.fv (.func (.func 51) [] [])] b i) fun j a _ _=>AI c (.fv (.bool true)) j fun k=>Aj k (BJ [.fv (.int .i64 0),.fv (.int .i64 0),.nils] [] fun l=>QC a e l) (Ae 3 g a fun m _=>QD d a h m e)
def S17 (a:Aa) (n:Nat) (b g:V) (h:H):O :=
 AR 17825792 g h fun c i _ _=>Ay 17825793 (.row [.fv (.int .i64 0),.fv (.int .i64 0),.nils] false) (.ptr (.own 17825793) 0) i fun j d _ _=>Ae 3 c d fun k _=>Ai [] false false a 49 [k] d fun l e _ _=>Ck EE 35 l (.fv (.int .i64 0)) fun f=>Ac f false e (fun m=>m b e [] []) fun o p _ _=>RI p f a o j c b
theorem ArD (a:Aa) (n:Nat) (b c:V) (d:H):Ax EE a ft.get n 17 [b,c] d=S17 a n b c d:=by kernel_rfl
def FM (a:V) (b:List V->H->O) (c:H) (d e:V):O :=
 Bv EE 3 a (.fv (.int .i64 1)) fun f=>b [d,e,f] c
def F6 (b c d:AA) (e:Aa) (f:H) (g h i:V) (j:List V->H->O) (k l:V):O :=
 Ab [(c,[]),(d,[])] b [] (Ai [] false false e 18 [g,h] f fun m a n o=>Ab [] n o (C8 (KN .not m) fun p=>Aj p (Ao [.fv (.bool false)] a) (FM i j a k l)))
def FH (b:V) (a:H) (c d:AA) (e:V) (f:Aa) (g:V) (h:List V->H->O) (i:V):O :=
 Af 2 b fun j=>Ak j a fun k l=>Ab [(c,[]),(d,[])] l [] (AP 3 k e fun m=>Ae 3 m a fun n o=>F6 o c d f a g n e h i b)
def F8 (a:H) (e b f:V) (g:Aa) (h:List V->H->O) (i:V):O :=
 Ak e a fun j c=>Ab [] c [] (AP 3 j b fun k=>Ae 3 k a fun l d=>Ab [] d [] (FH f a d c b g l h i))
def Fw (d a b:V) (c:H) (e:V) (f:Aa) (g:List V->H->O):O :=
 BF d fun h=>GC EE 3 a h fun i=>Aj i (Af 2 b fun j=>F8 c j a e f g b) (Ao [.fv (.bool true)] c)
def Mu (c:List V) (a:H) (d:Aa) (e:List V->H->O):O :=
 AH c fun b f=>AH f fun g h=>AH h fun i _=>Af 2 b fun j=>Ak j a fun k _=>Fw k i b a g d e
def FK (b:V) (a:H) (n:Nat) (c d:V) (e:Aa):O :=
 Aj b (Ao [.fv (.bool false)] a) (BY n (fun f g h=>Mu g h e f) [c,d,.fv (.int .i64 0)] a)
def FX (c:H) (a d g:V) (n:Nat) (h:V) (i:Aa):O :=
 Ac a false c (fun j=>Af 2 d fun k=>j k c [] []) fun l b _ _=>Ac a false b (fun m=>Ak l b fun o p=>m o b p []) fun q e _ _=>Ac a false e (fun r=>BF q fun s=>r s e [] []) fun t f _ _=>Ac a false f (fun u=>Ck EE 3 g t fun v=>u v f [] []) fun w x _ _=>AI a (.fv (.bool true)) w fun y=>FK y x n h d i
def FU (c:H) (d h i e j:V) (n:Nat) (k:Aa):O :=
 Ac d false c (fun l=>Ck EE 3 h i fun m=>l m c [] []) fun o f _ _=>AI d (.fv (.bool true)) o fun a=>Ac a false f (fun p=>Af 2 e fun q=>p q f [] []) fun r b _ _=>Ac a false b (fun s=>Ak r b fun t u=>s t b u []) fun v g _ _=>Ac a false g (fun w=>BF v fun x=>w x g [] []) fun y z _ _=>FX z a j y n e k
def Fv (h i:V) (d:H) (e f:V) (n:Nat) (j:Aa):O :=
 Ck EE 3 h i fun a=>Ac a false d (fun k=>Af 1 e fun l=>k l d [] []) fun m b _ _=>Ac a false b (fun o=>Ak m b fun p q=>o p b q []) fun r g _ _=>Ac a false g (fun s=>Af 1 f fun t=>s t g [] []) fun u c _ _=>Ac a false c (fun v=>Ak u c fun w x=>v w c x []) fun y z _ _=>FU z a r y e f n j
def S18 (d:Aa) (n:Nat) (e f:V) (g:H):O :=
 AR 18874368 e g fun b h _ _=>AR 18874369 f h fun c a _ _=>Af 0 b fun i=>Ak i a fun j _=>Af 0 c fun k=>Ak k a fun l _=>Fv j l a b c n d
theorem Ap2 (a:Aa) (n:Nat) (b c:V) (d:H):Ax EE a ft.get n 18 [b,c] d=S18 a n b c d:=by kernel_rfl
def XT (c:H) (a d e:V):O :=
 Ad 3 a d c fun b _ _=>Ap true 3 a b fun f=>Ao [f,e] b
def Ya (c:H) (a d:V):O :=
 Ad 3 a d c fun b _ _=>Ap true 3 a b fun e=>Ao [e,.fv (.int .i64 0)] b
def X3 (e:H) (f b c:V):O :=
 Ay 19923974 (.row [.fv (.int .i64 0),.fv (.int .i64 0),.nils] false) (.ptr (.own 19923974) 0) e fun d g _ _=>Ad 3 d f g fun a _ _=>Ck EE 3 b (.fv (.int .i64 0)) fun h=>Aj h (BJ [.fv (.int .i64 0),.fv (.int .i64 0),.nils] [] fun i=>XT a c i b) (Ae 3 d a fun j _=>Ya a c j)
def S19 (c:Aa) (n:Nat) (d e:V) (f:H):O :=
 AR 19922944 e f fun g h _ _=>Ay 19922945 (.row [.fv (.int .i64 0),.fv (.int .i64 0),.nils] false) (.ptr (.own 19922945) 0) h fun i a _ _=>Ae 3 g a fun j _=>Ai [] false false c 55 [d,j] a fun b k _ _=>Aq 0 b fun l=>Aq 1 b fun m=>X3 k l m i
theorem Aqp (a:Aa) (n:Nat) (b c:V) (d:H):Ax EE a ft.get n 19 [b,c] d=S19 a n b c d:=by kernel_rfl
def S20 (b:Aa) (n:Nat) (c:V) (d:H):O :=
 AR 20971520 c d fun e a _ _=>Ae 3 e a fun f _=>Ai [] false false b 52 [f] a fun g h _ _=>Ao [g] h
theorem Ar4 (a:Aa) (n:Nat) (b:V) (c:H):Ax EE a ft.get n 20 [b] c=S20 a n b c:=by kernel_rfl
def HG (a:V) (b:List V->H->O) (c:H) (d:V):O :=
 Bv EE 3 a (.fv (.int .i64 1)) fun e=>b [d,e] c
def HI (d a:V) (b:H) (e:Aa) (f:List V->H->O) (g:V):O :=
 AP 3 d a fun h=>Ae 3 h b fun i _=>Ai [] false false e 21 [i] b fun j c _ _=>C8 (KN .not j) fun k=>Aj k (Ao [.fv (.bool false)] c) (HG a f c g)
def Hn (b d c:V) (a:H) (e:Aa) (f:List V->H->O):O :=
 GC EE 3 b d fun g=>Aj g (Af 2 c fun h=>Ak h a fun i _=>HI i b a e f c) (Ao [.fv (.bool true)] a)
def KX (c:List V) (a:H) (d:Aa) (e:List V->H->O):O :=
 AH c fun b f=>AH f fun g _=>Af 2 b fun h=>Ak h a fun i _=>BF i fun j=>Hn g j b a d e
def Hs (b c:V) (a:H) (n:Nat) (d:V) (e:Aa):O :=
 AI b c (.fv (.bool false)) fun f=>Aj f (Ao [.fv (.bool false)] a) (BY n (fun g h i=>KX h i e g) [d,.fv (.int .i64 0)] a)
def Hi (c:H) (d h e:V) (n:Nat) (i:Aa):O :=
 Ac d true c (fun j=>Ck EE 3 h (.fv (.int .i64 16)) fun k=>j k c [] []) fun l f _ _=>AI d l (.fv (.bool false)) fun a=>Ac a true f (fun m=>Af 0 e fun o=>m o f [] []) fun p b _ _=>Ac a true b (fun q=>Ak p b fun r s=>q r b s []) fun t g _ _=>Ac a true g (fun u=>Ck EE 3 t (.fv (.int .i64 17)) fun v=>u v g [] []) fun w x _ _=>Hs a w x n e i
def S21 (e:Aa) (n:Nat) (f:V) (g:H):O :=
 AR 22020096 f g fun a b _ _=>Af 0 a fun h=>Ak h b fun i _=>Ck EE 3 i (.fv (.int .i64 15)) fun c=>Ac c true b (fun j=>Af 0 a fun k=>j k b [] []) fun l d _ _=>Ac c true d (fun m=>Ak l d fun o p=>m o d p []) fun q r _ _=>Hi r c q a n e
theorem As0 (a:Aa) (n:Nat) (b:V) (c:H):Ax EE a ft.get n 21 [b] c=S21 a n b c:=by kernel_rfl
def JS (c:H) (a d:V):O :=
 Ad 3 a d c fun b _ _=>Ap true 3 a b fun e=>Ao [e] b
def Ko (a b c:V) (d:List V->H->O) (e:H) (f g h:V):O :=
 Bd EE 3 a b fun i=>Bv EE 3 c (.fv (.int .i64 1)) fun j=>d [i,f,g,h,j] e
def JM (a b c:AA) (d e:V) (f:H) (g:V) (h:H->O):O :=
 Ab [(c,[])] a b (AP 3 d e fun i=>Ad 3 i g f fun j k l=>Ab [] k l (h j))
def Kt (a:H) (d:V) (b:AA) (e:V) (f:AA) (g:Aa) (h i j:V) (k:H->O):O :=
 Ae 3 d a fun l c=>Ab [(b,[])] c [] (Ae 3 e a fun m n=>Ab [(c,[]),(f,[]),(b,[])] n [] (Ai [] false false g 22 [l,h,m] a fun o p q r=>JM q r b i j p o k))
def Kw (a:AA) (e:V) (b:H) (c f:V) (g:Aa) (h i:V) (j:H->O):O :=
 Ab [] a [] (Af 2 e fun k=>Ak k b fun l d=>Ab [(a,[])] d [] (AP 3 l c fun m=>Kt b m a f d g h i c j))
def Kl (d e b:V) (a:H) (f g:V) (h:Aa) (i:V) (c:H->O):O :=
 AI d e (.fv (.bool false)) fun j=>Aj j (Af 2 b fun k=>Ak k a fun l m=>Kw m b a f g h i l c) (c a)
def KE (a c d:V) (j:List V->H->O) (e k f:V) (g:H) (l:Aa):O :=
 (fun (m:H->O)=>Tz EE 3 a (.fv (.int .i64 0)) fun b=>Ac b true g (fun n=>n a g [] []) fun o h _ _=>Ac b true h (fun p=>p c h [] []) fun q i _ _=>Ac b true i (fun r=>GC EE 3 o q fun s=>r s i [] []) fun t u _ _=>Kl b t f u d e l a m) fun v=>Ko a c d j v e k f
def Kn (b:V) (a:H) (c:V) (d:Aa) (e:V) (f:List V->H->O) (g h:V):O :=
 Af 2 b fun i=>Ak i a fun j _=>AP 3 j c fun k=>Ae 3 k a fun l _=>Ai [] false false d 24 [l] a fun m n _ _=>KE e m c f g h b n d
def JB (a:H) (d b:V):O :=
 Ae 3 d a fun e _=>Ad 3 b e a fun c _ _=>Ap true 3 b c fun f=>Ao [f] c
def JU (a:V) (b:H) (c:V) (e:Aa) (f:V) (g:List V->H->O) (h d:V):O :=
 Af 2 a fun i=>Ak i b fun j _=>BF j fun k=>GC EE 3 c k fun l=>Aj l (Kn a b c e f g h d) (JB b a d)
def Aex (a:List V) (b:H) (c:Aa) (d:List V->H->O):O :=
 AH a fun e f=>AH f fun g h=>AH h fun i j=>AH j fun k l=>AH l fun m _=>JU k b m c e d g i
def Kr (b c d e f g h i j:AA) (k:H) (a l:V) (n:Nat) (m o p:V) (q:Aa):O :=
 Ab [(d,e),(f,[]),(g,h),(i,[]),(j,[])] b c (Ad 3 a l k fun r s t=>Ab [] s t (BY n (fun u v w=>Aex v w q u) [m,o,p,a,.fv (.int .i64 0)] r))
def J3 (c d e a b:AA) (h:H) (i j k l:V) (n:Nat) (m o p:V) (q:Aa):O :=
 Ab [(d,e),(a,[]),(b,[])] c [] (AE (AJ EE 23072775 true .append [28,28] [i,j]) 23072775 h fun r s f g=>Ab [(a,[]),(b,[])] f g (BJ [.fv (.int .i64 0),.fv (.int .i64 0),.nils] [(0,1,k),(1,1,l),(2,1,r)] fun t=>Ay 23072777 (.row [.fv (.int .i64 0),.fv (.int .i64 0),.nils] false) (.ptr (.own 23072777) 0) s fun u v w x=>Kr w x f g c d e a b v u t n m o p q))
def JE (a b:AA) (f:H) (g h i:V) (n:Nat) (j k l:V) (m:Aa):O :=
 Ab [(b,[])] a [] (AE (An EE 28 0 []) 23072772 f fun o c d e=>Ab [(a,[]),(b,[])] d e (Af 2 g fun p=>Ak p c fun q r=>J3 r d e a b c o q h i n j k l m))
def Jy (a:V) (b:H) (n:Nat) (d e f:V) (g:Aa):O :=
 Af 0 a fun h=>Ak h b fun i c=>Ab [] c [] (Af 1 a fun j=>Ak j b fun k l=>JE l c b a i k n d e f g)
def S22 (e:Aa) (n:Nat) (f b g:V) (h:H):O :=
 AR 23068672 f h fun i j _ _=>AR 23068673 g j fun c k _ _=>Ay 23068674 (.row [.fv (.int .i64 0),.fv (.int .i64 0),.nils] false) (.ptr (.own 23068674) 0) k fun d a _ _=>AO EE 3 b (.fv (.int .i64 0)) fun l=>Aj l (Ae 3 c a fun m _=>JS a d m) (Bd EE 3 b (.fv (.int .i64 1)) fun o=>Jy i a n o c d e)
theorem Ap3 (a:Aa) (n:Nat) (b c d:V) (e:H):Ax EE a ft.get n 22 [b,c,d] e=S22 a n b c d e:=by kernel_rfl
def S23 (j:Aa) (n:Nat) (e b:V) (c:H):O :=
 CC EE 3 .rem e b fun a=>(fun (d:V->H->O)=>GC EE 3 a (.fv (.int .i64 0)) fun f=>Aj f (Bv EE 3 a b fun g=>d g c) (d a c)) fun h i=>Ao [h] i
theorem AqR (a:Aa) (n:Nat) (b c:V) (d:H):Ax EE a ft.get n 23 [b,c] d=S23 a n b c d:=by kernel_rfl
def Sy (a:V) (b:List V->H->O) (c:H) (d e:V):O :=
 Bv EE 3 a (.fv (.int .i64 1)) fun f=>b [d,e,f] c
def QI (a:H) (c b:V) (d:Aa) (e:V) (f:List V->H->O) (g:V):O :=
 Ak c a fun h _=>AP 3 h b fun i=>Ae 3 i a fun j _=>Ai [] false false d 24 [j] a fun k l _ _=>Bv EE 3 e k fun m=>Sy b f l g m
def Qq (e a b:V) (c:H) (f:Aa) (d:V) (g:List V->H->O):O :=
 BF e fun h=>GC EE 3 a h fun i=>Aj i (Af 2 b fun j=>QI c j a f d g b) (Ao [d] c)
def Yb (c:List V) (a:H) (d:Aa) (e:List V->H->O):O :=
 AH c fun b f=>AH f fun g h=>AH h fun i _=>Af 2 b fun j=>Ak j a fun k _=>Qq k i b a d g e
def S24 (a:Aa) (n:Nat) (b:V) (c:H):O :=
 AR 25165824 b c fun d e _ _=>BY n (fun f g h=>Yb g h a f) [d,.fv (.int .i64 1),.fv (.int .i64 0)] e
theorem ArX (a:Aa) (n:Nat) (b:V) (c:H):Ax EE a ft.get n 24 [b] c=S24 a n b c:=by kernel_rfl
def AhI (b:V) (a:H):O :=
 Af 1 b fun c=>Ak c a fun d _=>Ao [d] a
def S25 (c:Aa) (n:Nat) (d:V) (e:H):O :=
 AR 26214400 d e fun f g _ _=>BJ [.fv (.int .i64 0),.fv (.int .i64 0)] [] fun h=>AR 26215425 h g fun a b _ _=>Ae 3 f b fun i _=>Ai [true,false,false] false false c 56 [a,i,.fv (.int .i64 1)] b fun _ j _ _=>A0 a fun k=>AhI k j
theorem AsG (a:Aa) (n:Nat) (b:V) (c:H):Ax EE a ft.get n 25 [b] c=S25 a n b c:=by kernel_rfl
def Aaj (d:Aa) (e:H) (a:V):O :=
 Ai [] false false d 57 [.fv (.int .i64 8)] e fun b f _ _=>Aq 0 b fun g=>Aq 1 b fun h=>Ad 3 a g f fun c _ _=>Ap true 3 a c fun i=>Ao [i,h] c
def AaC (a:V) (d:H) (b:V):O :=
 Aq 0 a fun e=>Aq 1 a fun f=>Ad 3 b e d fun c _ _=>Ap true 3 b c fun g=>Ao [g,f] c
def AdM (d:Aa) (e:H) (f a:V):O :=
 Ai [] false false d 58 [f] e fun b g _ _=>Aq 0 b fun h=>Aq 1 b fun i=>Ad 3 a h g fun c _ _=>Ap true 3 a c fun j=>Ao [j,i] c
def Afs (a:H) (c d:V) (b:Aa) (e:V):O :=
 Ae 3 c a fun f _=>Af 1 d fun g=>Ak g a fun h _=>Bv EE 3 h (.fv (.int .i64 1)) fun i=>Ai [] false false b 28 [f,i,.fv (.int .i64 0)] a fun j k _ _=>AdM b k j e
def Aay (a:H) (d e:V) (b:Aa) (c f g:V):O :=
 Ak d a fun h _=>Ck EE 3 h e fun i=>Aj i (Ai [] false false b 57 [.fv (.int .i64 10)] a fun j k _ _=>AaC j k c) (Af 1 f fun l=>Afs a l g b c)
def ZL (c d:V) (b:H) (e:V) (f:Aa) (g h:V):O :=
 AP 4 c d fun i=>Ae 4 i b fun j _=>Ay 27267081 (.row [.fv (.int .i64 0),.fv (.int .i64 0),.fv (.int .i64 0),.nils] false) (.ptr (.own 27267081) 0) b fun a k _ _=>Ad 4 a j k fun l _ _=>Af 0 a fun m=>Aay l m e f g a h
def AbP (a b:V) (c:H) (d:V) (e:Aa) (f:V):O :=
 BF a fun g=>Bd EE 3 g (.fv (.int .i64 1)) fun h=>Af 1 b fun i=>Ak i c fun j _=>Bd EE 3 h j fun k=>ZL a k c d e f b
def Yl (b:V) (a:H) (c:V) (d:Aa) (e f:V):O :=
 Af 1 b fun g=>Ak g a fun h _=>BF c fun i=>Tz EE 3 h i fun j=>Aj j (Aaj d a e) (AbP c b a f d e)
def Afn (c:V) (d:H) (a e:V):O :=
 Aq 1 c fun f=>Ad 3 a e d fun b _ _=>Ap true 3 a b fun g=>Ao [g,f] b
def AcV (a:H) (b c:V):O :=
 Ap true 3 b a fun d=>Ao [d,c] a
def Ab1 (a:H) (d:V) (e:Aa) (f b:V):O :=
 Ae 3 d a fun g _=>Ai [] false false e 59 [f,g] a fun c h _ _=>Aq 0 c fun i=>Aq 1 c fun j=>Ad 3 b i h fun k _ _=>AcV k b j
def AbM (a:V) (d:H) (b:V):O :=
 Aq 0 a fun e=>Aq 1 a fun f=>Ad 3 b e d fun c _ _=>Ap true 3 b c fun g=>Ao [g,f] c
def Zt (a:H) (d:V) (e:Aa) (b:V):O :=
 Ak d a fun f _=>Bv EE 3 f (.fv (.int .i64 1)) fun g=>Ai [] false false e 60 [g] a fun h i _ _=>Ad 3 b h i fun c _ _=>Ap true 3 b c fun j=>Ao [j,.fv (.int .i64 0)] c
def Adc (a:H) (d:V) (b:Aa) (c e:V):O :=
 Ak d a fun f _=>AO EE 3 f (.fv (.int .i64 2)) fun g=>Aj g (Ai [] false false b 57 [.fv (.int .i64 13)] a fun h i _ _=>AbM h i c) (Af 1 e fun j=>Zt a j b c)
def AbA (a:H) (b:V):O :=
 Ap true 3 b a fun c=>Ao [c,.fv (.int .i64 0)] a
def AeX (c:Aa) (d:H) (a:V):O :=
 Ai [] false false c 30 [.fv (.int .i64 10),.nils] d fun e f _ _=>Ad 3 a e f fun b _ _=>Ap true 3 a b fun g=>Ao [g,.fv (.int .i64 0)] b
def YB (d:Aa) (e:H) (f a:V):O :=
 Ai [] false false d 57 [f] e fun b g _ _=>Aq 0 b fun h=>Aq 1 b fun i=>Ad 3 a h g fun c _ _=>Ap true 3 a c fun j=>Ao [j,i] c
def Aao (c:Aa) (d:H) (a:V):O :=
 Ai [] false false c 30 [.fv (.int .i64 10),.nils] d fun e f _ _=>Ad 3 a e f fun b _ _=>Ap true 3 a b fun g=>Ao [g,.fv (.int .i64 0)] b
def Agm (e f g h:AA) (a:Aa) (i:H) (j k l b:V):O :=
 Ab [(g,[]),(h,[])] e f (Ai [] false false a 61 [j,.fv (.int .i64 1),k,l] i fun c d m n=>Ab [] m n (Ck EE 3 c (.fv (.int .i64 0)) fun o=>Aj o (YB a d c b) (Aao a d b)))
def Aaa (a:AA) (e:V) (b:H) (c:Aa) (f g:V):O :=
 Ab [] a [] (AP 3 e (.fv (.int .i64 0)) fun h=>Ae 3 h b fun i d=>Ab [] d [] (Ai [] false false c 30 [.fv (.int .i64 10),.nils] b fun j k l m=>Agm l m d a c k f i j g))
def Ad7 (c:V) (d:H) (a e:V):O :=
 Aq 1 c fun f=>Ad 3 a e d fun b _ _=>Ap true 3 a b fun g=>Ao [g,f] b
def Acf (a:H) (b:V):O :=
 Ap true 3 b a fun c=>Ao [c,.fv (.int .i64 0)] a
def Ae9 (b:V) (c:Aa) (d:H) (a:V):O :=
 Ck EE 3 b (.fv (.int .i64 0)) fun f=>Aj f (Ai [] false false c 57 [b] d fun e g _ _=>Aq 0 e fun h=>Ad7 e g a h) (Ai [] false false c 30 [.fv (.int .i64 14),.nils] d fun i j _ _=>Ad 3 a i j fun k _ _=>Acf k a)
def Ab0 (b:AA) (a:Aa) (c:H) (d e f:V):O :=
 Ab [] b [] (Ai [] false false a 30 [.fv (.int .i64 14),.nils] c fun g h i j=>Ab [(b,[])] i j (Ai [] false false a 62 [d,.fv (.int .i64 1),e,g] h fun k l m n=>Ab [] m n (Ae9 k a l f)))
def AbL (c:V) (d:H) (a e:V):O :=
 Aq 1 c fun f=>Ad 3 a e d fun b _ _=>Ap true 3 a b fun g=>Ao [g,f] b
def Y0 (a:H) (b:V):O :=
 Ap true 3 b a fun c=>Ao [c,.fv (.int .i64 0)] a
def Abs (b:V) (c:Aa) (d:H) (a:V):O :=
 Ck EE 3 b (.fv (.int .i64 0)) fun f=>Aj f (Ai [] false false c 57 [b] d fun e g _ _=>Aq 0 e fun h=>AbL e g a h) (Ai [] false false c 60 [.fv (.int .i64 0)] d fun i j _ _=>Ad 3 a i j fun k _ _=>Y0 k a)
def Afc (b:AA) (a:Aa) (c:H) (d:AA) (e f g:V):O :=
 Ab [] b [] (Ai [] false false a 30 [.fv (.int .i64 14),.nils] c fun h i j k=>Ab [(b,[]),(d,[])] j k (Ai [] false false a 61 [e,.fv (.int .i64 1),f,h] i fun l m n o=>Ab [] n o (Abs l a m g)))
def Acr (c:V) (a:H) (d:Aa) (e f:V):O :=
 Af 2 c fun g=>Ak g a fun h b=>Ab [] b [] (AP 3 h (.fv (.int .i64 0)) fun i=>Ae 3 i a fun j k=>Afc k d a b e j f)
def Afx (a:V) (d:H) (b:V):O :=
 Aq 0 a fun e=>Aq 1 a fun f=>Ad 3 b e d fun c _ _=>Ap true 3 b c fun g=>Ao [g,f] c
def AdJ (c:H) (d:V) (e:Aa) (a:V):O :=
 AE (An EE 28 1 [(0,d)]) 27307009 c fun f g _ _=>Ai [] false false e 30 [.fv (.int .i64 18),f] g fun h i _ _=>Ad 3 a h i fun b _ _=>Ap true 3 a b fun j=>Ao [j,.fv (.int .i64 0)] b
def Acx (f:H) (g b:V) (c:Aa) (d:V):O :=
 Ay 27303945 (.row [.fv (.int .i64 0),.fv (.int .i64 0),.nils] false) (.ptr (.own 27303945) 0) f fun e h _ _=>Ad 3 e g h fun a _ _=>Ck EE 3 b (.fv (.int .i64 0)) fun i=>Aj i (Ai [] false false c 57 [b] a fun j k _ _=>Afx j k d) (Ae 3 e a fun l _=>AdJ a l c d)
def Aeh (d:V) (a:H) (b:Aa) (e f:V):O :=
 AP 3 d (.fv (.int .i64 0)) fun g=>Ae 3 g a fun h _=>Ai [] false false b 26 [e,.fv (.int .i64 0),h] a fun c i _ _=>Aq 0 c fun j=>Aq 1 c fun k=>Acx i j k b f
def Yg (a:V) (d:H) (b:V):O :=
 Aq 0 a fun e=>Aq 1 a fun f=>Ad 3 b e d fun c _ _=>Ap true 3 b c fun g=>Ao [g,f] c
def AcM (f b:V) (a:H) (c:Aa) (d e:V):O :=
 AO EE 3 f (.fv (.int .i64 19)) fun g=>Aj g (Af 2 b fun h=>Ak h a fun i _=>Aeh i a c d e) (Ae 3 b a fun j _=>Ai [] false false c 63 [d,j] a fun k l _ _=>Yg k l e)
def Aei (g b:V) (a:H) (c:Aa) (d e f:V):O :=
 Aj g (Af 2 b fun h=>Ak h a fun i j=>Ab0 j c a d i e) (AO EE 3 f (.fv (.int .i64 18)) fun k=>Aj k (Acr b a c d e) (AcM f b a c d e))
def Abp (a:V) (b:V->H->O) (c:H):O :=
 AO EE 3 a (.fv (.int .i64 17)) fun d=>b d c
def Agt (c:V) (a:V->H->O) (b:H) (d:V):O :=
 Aj c (a c b) (AO EE 3 d (.fv (.int .i64 16)) fun e=>Aj e (a e b) (Abp d a b))
def Ace (a c:V) (b:H) (d:Aa) (e f:V):O :=
 AO EE 3 a (.fv (.int .i64 12)) fun g=>Aj g (Af 2 c fun h=>Ak h b fun i j=>Aaa j i b d e f) ((fun (k:V->H->O)=>AO EE 3 a (.fv (.int .i64 15)) fun l=>Agt l k b a) fun m n=>Aei m c n d e f a)
def Aes (e:V) (b:Aa) (c:H) (a d f g:V):O :=
 Aj e (Ai [] false false b 60 [.fv (.int .i64 0)] c fun h i _ _=>Ad 3 a h i fun j _ _=>AbA j a) (AO EE 3 d (.fv (.int .i64 11)) fun k=>Aj k (AeX b c a) (Ace d f c b g a))
def Ada (a:V) (b:V->H->O) (c:H):O :=
 AO EE 3 a (.fv (.int .i64 10)) fun d=>Aj d (b d c) (AO EE 3 a (.fv (.int .i64 14)) fun e=>b e c)
def Agg (a:V) (b:H) (d:Aa) (e f:V):O :=
 Af 0 a fun g=>Ak g b fun c _=>AO EE 3 c (.fv (.int .i64 2)) fun h=>Aj h (Af 1 a fun i=>Adc b i d e a) ((fun (j:V->H->O)=>Ada c j b) fun k l=>Aes k d l e c a f)
def Ae8 (g:V) (a:Aa) (b:H) (c h d e:V):O :=
 Aj g (Ai [] false false a 57 [.fv (.int .i64 10)] b fun f i _ _=>Aq 0 f fun j=>Afn f i c j) (AO EE 3 h (.fv (.int .i64 0)) fun k=>Aj k (Ab1 b d a e c) (Agg d b a c e))
def AfJ (a:V) (b:H) (c:V) (d:Aa) (e f:V):O :=
 Af 0 a fun g=>Ak g b fun h _=>Tz EE 3 h (.fv (.int .i64 20)) fun i=>AO EE 3 c (.fv (.int .i64 0)) fun j=>Ck EE 4 i j fun k=>Ae8 k d b e c a f
def S26 (c:Aa) (n:Nat) (d e g:V) (h:H):O :=
 AR 27262976 g h fun a i _ _=>Ay 27262977 (.row [.fv (.int .i64 0),.fv (.int .i64 0),.nils] false) (.ptr (.own 27262977) 0) i fun f b _ _=>Af 0 a fun j=>Ak j b fun k _=>AO EE 3 k (.fv (.int .i64 1)) fun l=>Aj l (Yl a b d c f e) (AfJ a b e c f d)
theorem AsV (a:Aa) (n:Nat) (b c d:V) (e:H):Ax EE a ft.get n 26 [b,c,d] e=S26 a n b c d e:=by kernel_rfl
def S27 (l:Aa) (n:Nat) (b:V) (c:H):O :=
 AO EE 3 b (.fv (.int .i64 17)) fun a=>Ac a false c (fun e=>e b c [] []) fun f d _ _=>Ac a false d (fun g=>AO EE 3 f (.fv (.int .i64 5)) fun h=>g h d [] []) fun i j _ _=>AI a (.fv (.bool true)) i fun k=>Ao [k] j
theorem AqG (a:Aa) (n:Nat) (b:V) (c:H):Ax EE a ft.get n 27 [b] c=S27 a n b c:=by kernel_rfl
def Ft (g:H) (h i j:V) (k:H) (a b c d e:V) (l:List V->H->O):O :=
 B6 h i g fun m n o=>Ab [] n o (Bv EE 3 j (.fv (.int .i64 1)) fun f=>BZ (k.own.map (·.1)) [29367312] [a,b,c,d,e,f] m fun p=>l [a,b,c,d,e,f] p)
def FO (b:H) (c:V) (d:AA) (e a f:V) (g:H) (h i j k:V) (l:List V->H->O):O :=
 AE (An EE 28 1 [(0,c)]) 29367311 b fun m n o p=>Ab [(d,[])] o p (AE (AJ EE 29367312 false .append [28,28] [e,m]) 29367312 n fun q r s t=>Ab [] s t (Af 2 a fun u=>Ft r u q f g h i j k a l))
def F4 (b:Aa) (f:H) (g c:V) (h i a:AA) (d j e k l:V) (m:H) (n o:V) (p:List V->H->O):O :=
 Ai [] false false b 48 [g,c] f fun q r s t=>Ab [(h,[]),(i,[]),(a,[])] s t (Bv EE 3 d q fun u=>Ai [] false false b 28 [j,e,u] r fun v w x y=>Ab [(a,[])] x y (FO w v a k l c m e d n o p))
def FY (a:H) (f:V) (b:AA) (d:V) (e:AA) (g:Aa) (h i j k l:V) (m:H) (n:V) (o:List V->H->O):O :=
 Ae 3 f a fun p c=>Ab [(b,[])] c [] (Af 0 d fun q=>Ak q a fun r s=>Ab [(c,[]),(e,[]),(b,[])] s [] (F4 g a r h c e b i p j k l m d n o))
def FE (a:AA) (b:V) (c:H) (d:V) (f:Aa) (g h i j:V) (k:H) (l:V) (m:List V->H->O):O :=
 Ab [] a [] (Af 2 b fun n=>Ak n c fun o e=>Ab [(a,[])] e [] (AP 3 o d fun p=>FY c p a b e f d g h i j k l m))
def Fx (a:H) (b:V):O :=
 Ap true 3 b a fun c=>Ao [c] a
def Fy (d b:V) (a:H) (e f:V) (g:Aa) (h i:V) (j:H) (c:V) (k:List V->H->O):O :=
 Aj d (Af 2 b fun l=>Ak l a fun m n=>FE n e a f g h i m b j c k) (Ae 3 b a fun o _=>Ad 3 c o a fun p _ _=>Fx p c)
def F7 (d:List V) (a:V) (b:H) (e:V) (f:Aa) (g h:V) (i:H) (j:V) (k:List V->H->O):O :=
 AH d fun c _=>Af 2 a fun l=>Ak l b fun m _=>BF m fun n=>GC EE 3 c n fun o=>Fy o e b a c f g h i j k
def H9 (a:List V) (b:H) (c:Aa) (d:H) (e:List V->H->O):O :=
 AH a fun f g=>AH g fun h i=>AH i fun j k=>AH k fun l m=>AH m fun n o=>F7 o j b n c h f d l e
def FD (a g:H) (b c d e f:V) (n:Nat) (h:Aa):O :=
 BZ (a.own.map (·.1)) [29367312] [b,c,d,e,f,.fv (.int .i64 0)] g fun i=>BY n (fun j k l=>H9 k l h a j) [b,c,d,e,f,.fv (.int .i64 0)] i
def FB (a:H) (b c d:V) (e:H->O):O :=
 Ak b a fun f _=>Bv EE 3 f c fun g=>Af 1 d fun h=>B6 h g a fun i _ _=>e i
def FL (a:H) (b e f g h i:V) (c:H->O):O :=
 Ac b true a (fun j=>Tz EE 3 e f fun k=>j k a [] []) fun l d _ _=>AI b l (.fv (.bool false)) fun m=>Aj m (Af 1 g fun n=>FB d n h i c) (c d)
def FN (b:H) (f d g h i:V) (j:H->O):O :=
 Ak f b fun k _=>AO EE 3 k (.fv (.int .i64 1)) fun a=>Ac a true b (fun l=>Af 1 d fun m=>l m b [] []) fun n c _ _=>Ac a true c (fun o=>Ak n c fun p q=>o p c q []) fun r e _ _=>Ac a true e (fun s=>s g e [] []) fun t u _ _=>FL u a r t d h i j
def FG (e f:V) (g h:H) (c d a i:V) (n:Nat) (j:Aa):O :=
 BJ [.fv (.int .i64 0),.fv (.int .i64 0),.nils] [(0,1,e),(1,1,f)] fun k=>Ay 29361157 (.row [.fv (.int .i64 0),.fv (.int .i64 0),.nils] false) (.ptr (.own 29361157) 0) g fun b l _ _=>Ad 3 b k l fun m _ _=>(fun (o:H->O)=>Af 0 a fun p=>FN m p a d c b o) fun q=>FD h q c d a i b n j
def S28 (d:Aa) (n:Nat) (e f g:V) (c:H):O :=
 AR 29360128 e c fun a h _ _=>Ay 29360129 (.row [.fv (.int .i64 0),.fv (.int .i64 0),.nils] false) (.ptr (.own 29360129) 0) h fun i b _ _=>Af 0 a fun j=>Ak j b fun k _=>Af 1 a fun l=>Ak l b fun m _=>FG k m b c f g a i n d
theorem Atd (a:Aa) (n:Nat) (b c d:V) (e:H):Ax EE a ft.get n 28 [b,c,d] e=S28 a n b c d e:=by kernel_rfl
def S29 (h:Aa) (n:Nat) (c:V) (d:H):O :=
 Ay 30408704 (.row [.fv (.int .i64 0),.fv (.int .i64 0),.nils] false) (.ptr (.own 30408704) 0) d fun a e _ _=>BJ [.fv (.int .i64 0),.fv (.int .i64 0),.nils] [(0,1,.fv (.int .i64 1)),(1,1,c)] fun f=>Ad 3 a f e fun b _ _=>Ap true 3 a b fun g=>Ao [g] b
theorem ApS (a:Aa) (n:Nat) (b:V) (c:H):Ax EE a ft.get n 29 [b] c=S29 a n b c:=by kernel_rfl
def S30 (i:Aa) (n:Nat) (c d:V) (e:H):O :=
 Ay 31457280 (.row [.fv (.int .i64 0),.fv (.int .i64 0),.nils] false) (.ptr (.own 31457280) 0) e fun a f _ _=>BJ [.fv (.int .i64 0),.fv (.int .i64 0),.nils] [(0,1,c),(2,1,d)] fun g=>Ad 3 a g f fun b _ _=>Ap true 3 a b fun h=>Ao [h] b
theorem Asp (a:Aa) (n:Nat) (b c:V) (d:H):Ax EE a ft.get n 30 [b,c] d=S30 a n b c d:=by kernel_rfl
def S31 (h:Aa) (n:Nat) (c:V) (d:H):O :=
 Ay 32505856 (.row [.fv (.int .i64 0),.fv (.int .i64 0),.nils] false) (.ptr (.own 32505856) 0) d fun a e _ _=>BJ [.fv (.int .i64 0),.fv (.int .i64 0),.nils] [(0,1,.fv (.int .i64 25)),(1,1,c)] fun f=>Ad 3 a f e fun b _ _=>Ap true 3 a b fun g=>Ao [g] b
theorem Aru (a:Aa) (n:Nat) (b:V) (c:H):Ax EE a ft.get n 31 [b] c=S31 a n b c:=by kernel_rfl
def Ox (a b c:V) (d:List V->H->O) (e:H) (f g:V):O :=
 Bv EE 3 a b fun h=>Bv EE 3 c (.fv (.int .i64 1)) fun i=>d [f,g,h,i] e
def NY (a:H) (e b c d:V) (f:Aa) (g:List V->H->O) (h:V):O :=
 Ak e a fun i _=>AP 3 i b fun j=>Ae 3 j a fun k _=>Bd EE 3 c d fun l=>Ai [] false false f 40 [k,l] a fun m n _ _=>Ox d m b g n c h
def MI (a:H) (b f g c h i d:V) (j:Aa) (k:List V->H->O):O :=
 Ac b true a (fun l=>GC EE 3 f g fun m=>l m a [] []) fun n e _ _=>AI b n (.fv (.bool false)) fun o=>Aj o (Af 2 c fun p=>NY e p h i d j k c) (Ao [d] e)
def OA (a:H) (g c d e h:V) (i:Aa) (j:List V->H->O):O :=
 Ak g a fun k _=>BF k fun l=>GC EE 3 c l fun b=>Ac b true a (fun m=>m d a [] []) fun n f _ _=>Ac b true f (fun o=>o e f [] []) fun p q _ _=>MI q b n p h c e d i j
def QQ (b:List V) (c:H) (d:Aa) (e:List V->H->O):O :=
 AH b fun f g=>AH g fun a h=>AH h fun i j=>AH j fun k _=>Af 2 a fun l=>OA c l k i f a d e
def S40 (a:Aa) (n:Nat) (b c:V) (d:H):O :=
 AR 41943040 b d fun e f _ _=>BY n (fun g h i=>QQ h i a g) [c,e,.fv (.int .i64 1),.fv (.int .i64 0)] f
theorem Arx (a:Aa) (n:Nat) (b c:V) (d:H):Ax EE a ft.get n 40 [b,c] d=S40 a n b c d:=by kernel_rfl
def S41 (j:Aa) (n:Nat) (e b:V) (c:H):O :=
 CC EE 3 .rem e b fun a=>(fun (d:V->H->O)=>GC EE 3 a (.fv (.int .i64 0)) fun f=>Aj f (Bv EE 3 a b fun g=>d g c) (d a c)) fun h i=>Ao [h] i
theorem Aqm (a:Aa) (n:Nat) (b c:V) (d:H):Ax EE a ft.get n 41 [b,c] d=S41 a n b c d:=by kernel_rfl
def XU (d e:V) (a:H) (b:V):O :=
 AP 3 d e fun f=>Ae 3 f a fun g _=>Ad 3 b g a fun c _ _=>Ap true 3 b c fun h=>Ao [h] c
def Xu (c d e:V) (f:H) (a:V):O :=
 CC EE 3 .mul (.fv (.int .i64 7)) c fun g=>Bv EE 3 d g fun h=>BJ [.fv (.int .i64 0),.fv (.int .i64 0),.nils] [(0,1,e),(1,1,h)] fun i=>Ad 3 a i f fun b _ _=>Ap true 3 a b fun j=>Ao [j] b
def XN (c a d:V) (b:H) (e:V):O :=
 CC EE 3 .quo c (.fv (.int .i64 3)) fun f=>Bv EE 3 f a fun g=>Af 1 d fun h=>Ak h b fun i _=>CC EE 3 .quo i (.fv (.int .i64 5)) fun j=>Xu a j g b e
def Xx (e b:V) (a:H) (c d:V):O :=
 Aj e (Af 2 b fun f=>Ak f a fun g _=>XU g c a d) (Af 0 b fun h=>Ak h a fun i _=>XN i c b a d)
def S42 (l:Aa) (n:Nat) (d a:V) (e:H):O :=
 AR 44040192 d e fun b f _ _=>Ay 44040193 (.row [.fv (.int .i64 0),.fv (.int .i64 0),.nils] false) (.ptr (.own 44040193) 0) f fun g c _ _=>Af 2 b fun h=>Ak h c fun i _=>BF i fun j=>GC EE 3 a j fun k=>Xx k b c a g
theorem Asv (a:Aa) (n:Nat) (b c:V) (d:H):Ax EE a ft.get n 42 [b,c] d=S42 a n b c d:=by kernel_rfl
def AdI (b c:AA) (a:H) (d e f:V):O :=
 Ab [] b c (Ap true 3 d a fun g=>Ap true 3 e a fun h=>Ao [f,g,h,.fv (.bool false)] a)
def AcW (c:Aa) (d:H) (e:AA) (a f b g:V):O :=
 Ai [] false false c 31 [.fv (.int .i64 0)] d fun h i j k=>Ab [(e,[])] j k (Ad 3 a f i fun l m n=>Ab [] m n (Ad 3 b h l fun o p q=>AdI p q o a b g))
def AcK (b c:AA) (a:H) (d e f:V):O :=
 Ab [] b c (Ap true 3 d a fun g=>Ap true 3 e a fun h=>Ao [f,g,h,.fv (.bool true)] a)
def Abz (a:H) (e:V) (f:AA) (b g c h:V):O :=
 Ae 3 e a fun i d=>Ab [(f,[])] d [] (Ad 3 b g a fun j k l=>Ab [(d,[])] k l (Ad 3 c i j fun m n o=>AcK n o m b c h))
def Aep (h i:V) (a:H) (b:V) (j:Aa) (c d e k:V):O :=
 AI h (.fv (.bool true)) i fun l=>Aj l (Ae 3 b a fun m f=>Ab [] f [] (AcW j a f c m d e)) (Ae 3 b a fun n g=>Ab [] g [] (Abz a k g c n d e))
def Yo (g:H) (b h i:V) (d:Aa) (j k l m:V):O :=
 Ad 3 b h g fun c _ _=>C8 (KN .not i) fun a=>Ac a false c (fun n=>Ae 3 b c fun o p=>n o c p []) fun q e _ _=>Ac a false e (fun r=>Ai [] false false d 25 [q] e r) fun s f _ _=>Ac a false f (fun t=>Ck EE 3 s (.fv (.int .i64 0)) fun u=>t u f [] []) fun v w _ _=>Aep a v w j d k l m b
def AdV (a:H) (e:V) (b:Aa) (c f g h i:V):O :=
 Ae 3 e a fun j _=>Ai [] false false b 68 [c,f,j,.fv (.int .i64 5)] a fun d k _ _=>Aq 0 d fun l=>Aq 1 d fun m=>Ay 45092871 (.row [.fv (.int .i64 0),.fv (.int .i64 0),.nils] false) (.ptr (.own 45092871) 0) k fun n o _ _=>Yo o n l m b g h i c
def Zg (b:H) (e:V) (c:Aa) (f g h i:V):O :=
 Ae 3 e b fun j _=>Ai [] false false c 14 [j,.fv (.int .i64 2)] b fun k l _ _=>Ay 45091842 (.row [.fv (.int .i64 0),.fv (.int .i64 0),.nils] false) (.ptr (.own 45091842) 0) l fun a m _ _=>Ad 3 a k m fun d _ _=>Ae 3 a d fun n _=>AdV d f c g n a h i
def ZH (b c:AA) (a:H) (d e f:V):O :=
 Ab [] b c (Ap true 3 d a fun g=>Ap true 3 e a fun h=>Ao [f,g,h,.fv (.bool false)] a)
def Yt (c:Aa) (d:H) (e:AA) (a f b g:V):O :=
 Ai [] false false c 30 [.fv (.int .i64 11),.nils] d fun h i j k=>Ab [(e,[])] j k (Ad 3 a f i fun l m n=>Ab [] m n (Ad 3 b h l fun o p q=>ZH p q o a b g))
def AeK (b c:AA) (a:H) (d e f:V):O :=
 Ab [] b c (Ap true 3 d a fun g=>Ap true 3 e a fun h=>Ao [f,g,h,.fv (.bool true)] a)
def AfY (a:H) (e:V) (f:AA) (b g c h:V):O :=
 Ae 3 e a fun i d=>Ab [(f,[])] d [] (Ad 3 b g a fun j k l=>Ab [(d,[])] k l (Ad 3 c i j fun m n o=>AeK n o m b c h))
def Ae4 (h i:V) (a:H) (b:V) (j:Aa) (c d e k:V):O :=
 AI h (.fv (.bool true)) i fun l=>Aj l (Ae 3 b a fun m f=>Ab [] f [] (Yt j a f c m d e)) (Ae 3 b a fun n g=>Ab [] g [] (AfY a k g c n d e))
def AaH (g:H) (b h i:V) (d:Aa) (j k l m:V):O :=
 Ad 3 b h g fun c _ _=>C8 (KN .not i) fun a=>Ac a false c (fun n=>Ae 3 b c fun o p=>n o c p []) fun q e _ _=>Ac a false e (fun r=>Ai [] false false d 25 [q] e r) fun s f _ _=>Ac a false f (fun t=>Ck EE 3 s (.fv (.int .i64 0)) fun u=>t u f [] []) fun v w _ _=>Ae4 a v w j d k l m b
def Adl (a:H) (e:V) (b:Aa) (c f g h i:V):O :=
 Ae 3 e a fun j _=>Ai [] false false b 70 [c,f,j,.fv (.int .i64 5)] a fun d k _ _=>Aq 0 d fun l=>Aq 1 d fun m=>Ay 45097991 (.row [.fv (.int .i64 0),.fv (.int .i64 0),.nils] false) (.ptr (.own 45097991) 0) k fun n o _ _=>AaH o n l m b g h i c
def Aaz (b:H) (f:V) (c:Aa) (d g h i:V):O :=
 Ae 3 f b fun j _=>Ai [] false false c 69 [d,j,.fv (.int .i64 2)] b fun k l _ _=>Ay 45096963 (.row [.fv (.int .i64 0),.fv (.int .i64 0),.nils] false) (.ptr (.own 45096963) 0) l fun a m _ _=>Ad 3 a k m fun e _ _=>Ae 3 a e fun n _=>Adl e g c d n a h i
def S43 (a:Aa) (n:Nat) (h i j k:V) (l:H):O :=
 AR 45088768 i l fun b m _ _=>AR 45088769 j m fun c o _ _=>Ay 45088771 (.row [.fv (.int .i64 0),.fv (.int .i64 0),.nils] false) (.ptr (.own 45088771) 0) o fun d p _ _=>Ay 45088772 (.row [.fv (.int .i64 0),.fv (.int .i64 0),.nils] false) (.ptr (.own 45088772) 0) p fun e q _ _=>Ai [] false false a 67 [h] q fun f g _ _=>Aj k (Zg g c a b f d e) (Aaz g c a f b d e)
theorem ArC (a:Aa) (n:Nat) (b c d e:V) (f:H):Ax EE a ft.get n 43 [b,c,d,e] f=S43 a n b c d e f:=by kernel_rfl
def Xs (c:H) (a d e:V):O :=
 Ad 3 a d c fun b _ _=>Ap true 3 a b fun f=>Ao [f,e] b
def WX (c:H) (a d:V):O :=
 Ad 3 a d c fun b _ _=>Ap true 3 a b fun e=>Ao [e,.fv (.int .i64 0)] b
def Xb (e:H) (f b c:V):O :=
 Ay 46138373 (.row [.fv (.int .i64 0),.fv (.int .i64 0),.nils] false) (.ptr (.own 46138373) 0) e fun d g _ _=>Ad 3 d f g fun a _ _=>Ck EE 3 b (.fv (.int .i64 0)) fun h=>Aj h (BJ [.fv (.int .i64 0),.fv (.int .i64 0),.nils] [] fun i=>Xs a c i b) (Ae 3 d a fun j _=>WX a c j)
def S44 (c:Aa) (n:Nat) (d:V) (e:H):O :=
 AR 46137344 d e fun f g _ _=>Ay 46137345 (.row [.fv (.int .i64 0),.fv (.int .i64 0),.nils] false) (.ptr (.own 46137345) 0) g fun h a _ _=>Ae 3 f a fun i _=>Ai [] false false c 58 [i] a fun b j _ _=>Aq 0 b fun k=>Aq 1 b fun l=>Xb j k l h
theorem Ap9 (a:Aa) (n:Nat) (b:V) (c:H):Ax EE a ft.get n 44 [b] c=S44 a n b c:=by kernel_rfl
def S45 (j:Aa) (n:Nat) (e b:V) (c:H):O :=
 CC EE 3 .rem e b fun a=>(fun (d:V->H->O)=>GC EE 3 a (.fv (.int .i64 0)) fun f=>Aj f (Bv EE 3 a b fun g=>d g c) (d a c)) fun h i=>Ao [h] i
theorem Ase (a:Aa) (n:Nat) (b c:V) (d:H):Ax EE a ft.get n 45 [b,c] d=S45 a n b c d:=by kernel_rfl
def QA (b:V) (a:H) (c:V):O :=
 Aj b (Ao [.fv (.int .i64 3)] a) (AO EE 3 c (.fv (.int .i64 13)) fun d=>Aj d (Ao [.fv (.int .i64 4)] a) (Ao [.fv (.int .i64 (-1))] a))
def Qk (a:V) (b:V->H->O) (c:H) (d:V):O :=
 Aj a (b a c) (AO EE 3 d (.fv (.int .i64 27)) fun e=>b e c)
def RP (c:V) (b:H) (a:V):O :=
 Aj c (Ao [.fv (.int .i64 2)] b) ((fun (d:V->H->O)=>AO EE 3 a (.fv (.int .i64 7)) fun e=>Qk e d b a) fun f g=>QA f g a)
def Q1 (a:V) (b:V->H->O) (c:H):O :=
 AO EE 3 a (.fv (.int .i64 28)) fun d=>Aj d (b d c) (AO EE 3 a (.fv (.int .i64 29)) fun e=>b e c)
def Rm (a:V) (b:V->H->O) (c:H):O :=
 AO EE 3 a (.fv (.int .i64 22)) fun d=>Aj d (b d c) (AO EE 3 a (.fv (.int .i64 26)) fun e=>Aj e (b e c) (Q1 a b c))
def Rw (a:V) (b:V->H->O) (c:H):O :=
 AO EE 3 a (.fv (.int .i64 20)) fun d=>Aj d (b d c) (AO EE 3 a (.fv (.int .i64 21)) fun e=>Aj e (b e c) (Rm a b c))
def SC (a:V) (b:V->H->O) (c:H):O :=
 AO EE 3 a (.fv (.int .i64 16)) fun d=>Aj d (b d c) (AO EE 3 a (.fv (.int .i64 17)) fun e=>Aj e (b e c) (Rw a b c))
def R9 (a:V) (b:V->H->O) (c:H):O :=
 AO EE 3 a (.fv (.int .i64 5)) fun d=>Aj d (b d c) (AO EE 3 a (.fv (.int .i64 6)) fun e=>Aj e (b e c) (SC a b c))
def RU (c:V) (a:V->H->O) (b:H) (d:V):O :=
 Aj c (a c b) (AO EE 3 d (.fv (.int .i64 4)) fun e=>Aj e (a e b) (R9 d a b))
def QP (c:V) (b:H) (a:V):O :=
 Aj c (Ao [.fv (.int .i64 1)] b) ((fun (d:V->H->O)=>AO EE 3 a (.fv (.int .i64 3)) fun e=>RU e d b a) fun f g=>RP f g a)
def Qb (a:V) (b:V->H->O) (c:H):O :=
 AO EE 3 a (.fv (.int .i64 24)) fun d=>Aj d (b d c) (AO EE 3 a (.fv (.int .i64 30)) fun e=>b e c)
def Qu (a:V) (b:V->H->O) (c:H):O :=
 AO EE 3 a (.fv (.int .i64 19)) fun d=>Aj d (b d c) (AO EE 3 a (.fv (.int .i64 23)) fun e=>Aj e (b e c) (Qb a b c))
def Qx (a:V) (b:V->H->O) (c:H):O :=
 AO EE 3 a (.fv (.int .i64 12)) fun d=>Aj d (b d c) (AO EE 3 a (.fv (.int .i64 18)) fun e=>Aj e (b e c) (Qu a b c))
def QW (c:V) (a:V->H->O) (b:H) (d:V):O :=
 Aj c (a c b) (AO EE 3 d (.fv (.int .i64 9)) fun e=>Aj e (a e b) (Qx d a b))
def Q4 (c:V) (b:H) (a:V):O :=
 Aj c (Ao [.fv (.int .i64 0)] b) ((fun (d:V->H->O)=>AO EE 3 a (.fv (.int .i64 8)) fun e=>QW e d b a) fun f g=>QP f g a)
def Rb (a:V) (b:V->H->O) (c:H):O :=
 AO EE 3 a (.fv (.int .i64 25)) fun d=>b d c
def Rc (a:V) (b:V->H->O) (c:H):O :=
 AO EE 3 a (.fv (.int .i64 14)) fun d=>Aj d (b d c) (AO EE 3 a (.fv (.int .i64 15)) fun e=>Aj e (b e c) (Rb a b c))
def Se (a:V) (b:V->H->O) (c:H):O :=
 AO EE 3 a (.fv (.int .i64 10)) fun d=>Aj d (b d c) (AO EE 3 a (.fv (.int .i64 11)) fun e=>Aj e (b e c) (Rc a b c))
def S46 (h:Aa) (n:Nat) (a:V) (b:H):O :=
 (fun (c:V->H->O)=>AO EE 3 a (.fv (.int .i64 1)) fun d=>Aj d (c d b) (AO EE 3 a (.fv (.int .i64 2)) fun e=>Aj e (c e b) (Se a c b))) fun f g=>Q4 f g a
theorem Ary (a:Aa) (n:Nat) (b:V) (c:H):Ax EE a ft.get n 46 [b] c=S46 a n b c:=by kernel_rfl
def WE (d e:V) (a:H) (b:V):O :=
 AP 3 d e fun f=>Ae 3 f a fun g _=>Ad 3 b g a fun c _ _=>Ap true 3 b c fun h=>Ao [h] c
def WV (c d:V) (e:H) (a:V):O :=
 Bv EE 3 c d fun f=>BJ [.fv (.int .i64 0),.fv (.int .i64 0),.nils] [(1,1,f)] fun g=>Ad 3 a g e fun b _ _=>Ap true 3 a b fun h=>Ao [h] b
def W8 (e b:V) (a:H) (c d:V):O :=
 Aj e (Af 2 b fun f=>Ak f a fun g _=>WE g c a d) (Af 1 b fun h=>Ak h a fun i _=>WV i c a d)
def S47 (l:Aa) (n:Nat) (d a:V) (e:H):O :=
 AR 49283072 d e fun b f _ _=>Ay 49283073 (.row [.fv (.int .i64 0),.fv (.int .i64 0),.nils] false) (.ptr (.own 49283073) 0) f fun g c _ _=>Af 2 b fun h=>Ak h c fun i _=>BF i fun j=>GC EE 3 a j fun k=>W8 k b c a g
theorem ArM (a:Aa) (n:Nat) (b c:V) (d:H):Ax EE a ft.get n 47 [b,c] d=S47 a n b c d:=by kernel_rfl
def Akr (b:V) (a:H) (c:H->O):O :=
 AO EE 3 b (.fv (.int .i64 0)) fun d=>Aj d (Ao [.fv (.int .i64 1)] a) (AO EE 3 b (.fv (.int .i64 2)) fun e=>Aj e (Ao [.fv (.int .i64 2)] a) (c a))
def Akg (d c:V) (a:H) (b:H->O) (e:V):O :=
 Aj d (AO EE 3 c (.fv (.int .i64 1)) fun f=>Aj f (Ao [.fv (.int .i64 1)] a) (b a)) (AO EE 3 e (.fv (.int .i64 13)) fun g=>Aj g (Akr c a b) (b a))
def Ajr (a:V) (b:V->H->O) (c:H):O :=
 AO EE 3 a (.fv (.int .i64 29)) fun d=>b d c
def AhR (a:V) (b:V->H->O) (c:H):O :=
 AO EE 3 a (.fv (.int .i64 20)) fun d=>Aj d (b d c) (AO EE 3 a (.fv (.int .i64 28)) fun e=>Aj e (b e c) (Ajr a b c))
def AjN (c:V) (a:V->H->O) (b:H) (d:V):O :=
 Aj c (a c b) (AO EE 3 d (.fv (.int .i64 6)) fun e=>Aj e (a e b) (AhR d a b))
def S48 (k:Aa) (n:Nat) (a e:V) (b:H):O :=
 (fun (f:H->O)=>(fun (c:V->H->O)=>AO EE 3 a (.fv (.int .i64 3)) fun d=>Aj d (c d b) (AO EE 3 a (.fv (.int .i64 4)) fun g=>AjN g c b a)) fun h i=>Akg h e i f a) fun j=>Ao [.fv (.int .i64 0)] j
theorem Aqu (a:Aa) (n:Nat) (b c:V) (d:H):Ax EE a ft.get n 48 [b,c] d=S48 a n b c d:=by kernel_rfl
def S49 (b:Aa) (n:Nat) (c:V) (d:H):O :=
 AR 51380224 c d fun e a _ _=>Ae 3 e a fun f _=>Ay 51381249 (.row [.fv (.int .i64 0)] false) (.ptr (.own 51381249) 0) a fun g h _ _=>Ai [false,true,false] false false b 71 [f,g,.fv (.int .i64 1)] h fun i j _ _=>Ao [i] j
theorem Aqt (a:Aa) (n:Nat) (b:V) (c:H):Ax EE a ft.get n 49 [b] c=S49 a n b c:=by kernel_rfl
def S50 (a:Aa) (n:Nat) (b c:V) (d:H):O :=
 Ai [] false false a 72 [b,c] d fun e f _ _=>Tz EE 3 e (.fv (.int .i64 0)) fun g=>Ao [g] f
theorem Aqz (a:Aa) (n:Nat) (b c:V) (d:H):Ax EE a ft.get n 50 [b,c] d=S50 a n b c d:=by kernel_rfl
def S51 (b:Aa) (n:Nat) (c:V) (d:H):O :=
 AR 53477376 c d fun e a _ _=>Ae 3 e a fun f _=>Ai [] false false b 52 [f] a fun g h _ _=>C8 (KN .not g) fun i=>Ao [i] h
theorem AqS (a:Aa) (n:Nat) (b:V) (c:H):Ax EE a ft.get n 51 [b] c=S51 a n b c:=by kernel_rfl
def AiK (a:H) (b:V):O :=
 Ak b a fun c _=>BF c fun d=>AO EE 3 d (.fv (.int .i64 0)) fun e=>Ao [e] a
def Aj9 (c:H) (a e:V) (f:Aa):O :=
 Ac a true c (fun g=>AP 3 e (.fv (.int .i64 1)) fun h=>g h c [] []) fun i b _ _=>Ac a true b (fun j=>Ae 3 i b fun k l=>j k b l []) fun m d _ _=>Ac a true d (fun n=>Ai [] false false f 52 [m] d n) fun o p _ _=>AI a o (.fv (.bool false)) fun q=>Ao [q] p
def AkF (a:H) (b h:V) (e:Aa) (i:V):O :=
 Ac b true a (fun j=>Ae 3 h a fun k l=>j k a l []) fun m f _ _=>Ac b true f (fun n=>Ai [] false false e 52 [m] f n) fun o g _ _=>AI b o (.fv (.bool false)) fun c=>Ac c true g (fun p=>Af 2 i fun q=>p q g [] []) fun r d _ _=>Ac c true d (fun s=>Ak r d fun t u=>s t d u []) fun v w _ _=>Aj9 w c v e
def Ak2 (f:V) (c:H) (d:V) (g:Aa):O :=
 BF f fun h=>AO EE 3 h (.fv (.int .i64 2)) fun a=>Ac a true c (fun i=>Af 2 d fun j=>i j c [] []) fun k b _ _=>Ac a true b (fun l=>Ak k b fun m n=>l m b n []) fun o e _ _=>Ac a true e (fun p=>AP 3 o (.fv (.int .i64 0)) fun q=>p q e [] []) fun r s _ _=>AkF s a r g d
def AjD (c b:V) (a:H) (d:Aa):O :=
 Aj c (Af 2 b fun e=>Ak e a fun f _=>Ak2 f a b d) (Ao [.fv (.bool false)] a)
def Aja (a:V) (b:V->H->O) (c:H):O :=
 AO EE 3 a (.fv (.int .i64 16)) fun d=>Aj d (b d c) (AO EE 3 a (.fv (.int .i64 17)) fun e=>b e c)
def S52 (d:Aa) (n:Nat) (e:V) (f:H):O :=
 AR 54525952 e f fun a b _ _=>Af 0 a fun g=>Ak g b fun c _=>AO EE 3 c (.fv (.int .i64 15)) fun h=>Aj h (Af 2 a fun i=>AiK b i) ((fun (j:V->H->O)=>Aja c j b) fun k l=>AjD k a l d)
theorem Ar5 (a:Aa) (n:Nat) (b:V) (c:H):Ax EE a ft.get n 52 [b] c=S52 a n b c:=by kernel_rfl
def AaL (c:H) (a d:V):O :=
 Ad 3 a d c fun b _ _=>Ap true 3 a b fun e=>Ao [e,.fv (.int .i64 8)] b
def YP (a:H) (d b:V):O :=
 Ae 3 d a fun e _=>Ad 3 b e a fun c _ _=>Ap true 3 b c fun f=>Ao [f,.fv (.int .i64 0)] c
def Zy (b c:V) (a:H) (d e:V):O :=
 Bd EE 3 b (.fv (.int .i64 1)) fun f=>Af 1 c fun g=>Ak g a fun h _=>Bd EE 3 f h fun i=>AP 3 d i fun j=>YP a j e
def ZJ (a d:V) (b:H) (c e:V):O :=
 BF a fun f=>Tz EE 3 d f fun g=>Aj g (BJ [.fv (.int .i64 0),.fv (.int .i64 0),.nils] [] fun h=>AaL b c h) (BF a fun i=>Zy i e b a c)
def Ac0 (c:Aa) (d:H) (a:V):O :=
 Ai [] false false c 64 [.fv (.int .i64 15),.nils] d fun e f _ _=>Ad 3 a e f fun b _ _=>Ap true 3 a b fun g=>Ao [g,.fv (.int .i64 0)] b
def Ad2 (a:H) (b c:V):O :=
 Ap true 3 b a fun d=>Ao [d,c] a
def Aey (c:Aa) (d:H) (e f g a h:V):O :=
 Ai [] false false c 73 [e,f,g] d fun i j k l=>Ab [] k l (Ad 3 a h j fun b m n=>Ab [] m n (Ap true 3 a b fun o=>Ao [o,i] b))
def AdF (d:V) (a:H) (e f:AA) (b:Aa) (g h i:V):O :=
 AP 3 d (.fv (.int .i64 1)) fun j=>Ae 3 j a fun k c=>Ab [(e,f)] c [] (Ai [] false false b 64 [.fv (.int .i64 15),.nils] a fun l m n o=>Ab [(c,[])] n o (Aey b m g k l h i))
def Y9 (b:V) (c:H) (a:V) (d:Aa) (g h:V):O :=
 Ck EE 35 b (.fv (.int .i64 0)) fun i=>Aj i (BJ [.fv (.int .i64 0),.fv (.int .i64 0),.nils] [] fun j=>Ad 3 a j c fun k _ _=>Ad2 k a b) (Ai [] false false d 64 [.fv (.int .i64 15),.nils] c fun l m e f=>Ab [] e f (AdF g m e f d h a l))
def Acu (b:AA) (a:Aa) (d:H) (c e f g:V):O :=
 Ab [] b [] (Ai [] false false a 64 [.fv (.int .i64 15),.nils] d fun h i j k=>Ab [(b,[])] j k (Ai [] false false a 73 [c,e,h] i fun l m n o=>Ab [] n o (Y9 l m f a g c)))
def Zs (a:V) (d:H) (b:V):O :=
 Aq 0 a fun e=>Aq 1 a fun f=>Ad 3 b e d fun c _ _=>Ap true 3 b c fun g=>Ao [g,f] c
def Abg (c:H) (a d e:V):O :=
 Ad 3 a d c fun b _ _=>Ap true 3 a b fun f=>Ao [f,e] b
def AdD (c:H) (a d e:V):O :=
 Ad 3 a d c fun b f g=>Ab [] f g (Ap true 3 a b fun h=>Ao [h,e] b)
def Abj (b c d e:AA) (f:Aa) (g:H) (h i j:V):O :=
 Ab [(c,d),(e,[])] b [] (Ai [] false false f 53 [h,i] g fun a k l m=>Ab [] l m (Aq 0 a fun n=>Aq 1 a fun o=>AdD k j n o))
def Aae (a:AA) (b:Aa) (f:H) (g h i j:V):O :=
 Ab [] a [] (Ai [] false false b 75 [g,h] f fun k c d e=>Ab [] d e (AP 3 i (.fv (.int .i64 1)) fun l=>Ae 3 l c fun m n=>Abj n d e a b c k m j))
def AaN (e:H) (f b c:V) (g:Aa) (h i:V):O :=
 Ay 55592968 (.row [.fv (.int .i64 0),.fv (.int .i64 0),.nils] false) (.ptr (.own 55592968) 0) e fun d j _ _=>Ad 3 d f j fun a _ _=>Ck EE 35 b (.fv (.int .i64 0)) fun k=>Aj k (BJ [.fv (.int .i64 0),.fv (.int .i64 0),.nils] [] fun l=>Abg a c l b) (Ae 3 d a fun m n=>Aae n g a h m i c)
def AbQ (a:V) (b:H) (c:Aa) (d f:V):O :=
 AP 3 a (.fv (.int .i64 0)) fun g=>Ae 3 g b fun h _=>Ai [] false false c 53 [d,h] b fun e i _ _=>Aq 0 e fun j=>Aq 1 e fun k=>AaN i j k f c d a
def Adp (a:H) (b c:V):O :=
 Ap true 3 b a fun d=>Ao [d,c] a
def AaJ (a:H) (b c:V):O :=
 Ap true 3 b a fun d=>Ao [d,c] a
def Afb (c:Aa) (d:H) (e f g:V) (h:AA) (a i:V):O :=
 Ai [] false false c 73 [e,f,g] d fun j k l m=>Ab [(h,[])] l m (Ad 3 a i k fun b n o=>Ab [] n o (Ap true 3 a b fun p=>Ao [p,j] b))
def Aew (d:V) (a:H) (b:AA) (e:V) (f:Aa) (g h i:V):O :=
 AP 3 d (.fv (.int .i64 2)) fun j=>Ae 3 j a fun k c=>Ab [(b,[])] c [] (Ae 3 e a fun l m=>Ab [(c,[]),(b,[])] m [] (Afb f a g k l b h i))
def AfB (c:V) (a:H) (b d f:V) (g:Aa) (h:V):O :=
 Ck EE 35 c (.fv (.int .i64 0)) fun i=>Aj i (BJ [.fv (.int .i64 0),.fv (.int .i64 0),.nils] [] fun j=>Ad 3 b j a fun k _ _=>AaJ k b c) (Ae 3 d a fun l e=>Ab [] e [] (Aew f a e d g h b l))
def Aga (a:Aa) (e:H) (b f g h:V):O :=
 Ai [] false false a 53 [b,f] e fun c i _ _=>Aq 0 c fun j=>Aq 1 c fun k=>Ay 55601160 (.row [.fv (.int .i64 0),.fv (.int .i64 0),.nils] false) (.ptr (.own 55601160) 0) i fun d l _ _=>Ad 3 d j l fun m _ _=>AfB k m g d h a b
def Zm (c:V) (a:H) (b d:V) (e:Aa) (f:V):O :=
 Ck EE 35 c (.fv (.int .i64 0)) fun g=>Aj g (BJ [.fv (.int .i64 0),.fv (.int .i64 0),.nils] [] fun h=>Ad 3 b h a fun i _ _=>Adp i b c) (AP 3 d (.fv (.int .i64 1)) fun j=>Ae 3 j a fun k _=>Aga e a f k b d)
def AaY (b:AA) (a:Aa) (d:H) (c e f g:V):O :=
 Ab [] b [] (Ai [] false false a 64 [.fv (.int .i64 15),.nils] d fun h i j k=>Ab [(b,[])] j k (Ai [] false false a 73 [c,e,h] i fun l m n o=>Ab [] n o (Zm l m f g a c)))
def Af3 (a:V) (d:H) (b:V):O :=
 Aq 0 a fun e=>Aq 1 a fun f=>Ad 3 b e d fun c _ _=>Ap true 3 b c fun g=>Ao [g,f] c
def AcS (f b:V) (a:H) (c:Aa) (d e g:V):O :=
 AO EE 3 f (.fv (.int .i64 27)) fun h=>Aj h (AP 3 b (.fv (.int .i64 0)) fun i=>Ae 3 i a fun j k=>AaY k c a d j e b) (Ae 3 g a fun l _=>Pa EE c (.fv (.func (.func 76) [] [])) [d,l] a fun m n _ _=>Af3 m n e)
def Agi (h:V) (a:H) (e:V) (b:Aa) (c d f g:V):O :=
 Aj h (Ae 3 e a fun i _=>Ai [] false false b 74 [c,i] a fun j k _ _=>Zs j k d) (AO EE 3 f (.fv (.int .i64 28)) fun l=>Aj l (AbQ g a b c d) (AcS f g a b c d e))
def AbE (a:V) (b:V->H->O) (c:H) (d:V):O :=
 Aj a (b a c) (AO EE 3 d (.fv (.int .i64 29)) fun e=>b e c)
def AdY (a b:V) (c:H) (d:Aa) (e f g:V):O :=
 AO EE 3 a (.fv (.int .i64 26)) fun h=>Aj h (AP 3 b (.fv (.int .i64 0)) fun i=>Ae 3 i c fun j k=>Acu k d c e j f b) ((fun (l:V->H->O)=>AO EE 3 a (.fv (.int .i64 20)) fun m=>AbE m l c a) fun n o=>Agi n o g d e f a b)
def Yp (b c:V) (a:H) (e d:V) (f:Aa) (g:V):O :=
 AO EE 3 b (.fv (.int .i64 1)) fun h=>Aj h (Af 1 c fun i=>Ak i a fun j _=>ZJ e j a d c) (AO EE 3 b (.fv (.int .i64 25)) fun k=>Aj k (Ac0 f a d) (AdY b g a f e d c))
def S53 (c:Aa) (n:Nat) (d e:V) (f:H):O :=
 AR 55574528 e f fun a g _ _=>Ay 55574529 (.row [.fv (.int .i64 0),.fv (.int .i64 0),.nils] false) (.ptr (.own 55574529) 0) g fun h b _ _=>Af 2 a fun i=>Ak i b fun j _=>Af 0 a fun k=>Ak k b fun l _=>Yp l a b d h c j
theorem As7 (a:Aa) (n:Nat) (b c:V) (d:H):Ax EE a ft.get n 53 [b,c] d=S53 a n b c d:=by kernel_rfl
def Rl (a b:V) (h:H) (i:V) (j:H) (c d e f:V) (k:List V->H->O):O :=
 AP 3 a b fun l=>Ad 3 l i h fun m _ _=>Bv EE 3 b (.fv (.int .i64 1)) fun g=>BZ (j.own.map (·.1)) [56627203] [c,d,a,e,f,g] m fun n=>k [c,d,a,e,f,g] n
def Qi (a:H) (d:V) (e:Aa) (f g:V) (h:H) (i j k l:V) (m:List V->H->O):O :=
 Ae 3 d a fun n _=>Ay 56627203 (.row [.fv (.int .i64 0),.fv (.int .i64 0),.nils] false) (.ptr (.own 56627203) 0) a fun b o _ _=>Ad 3 b n o fun c _ _=>Ae 3 b c fun p _=>Ai [] false false e 54 [p] c fun q r _ _=>Rl f g r q h i j k l m
def RC (a:H) (b:V):O :=
 Ap true 3 b a fun c=>Ao [c] a
def Qh (a:H) (c d e b:V):O :=
 Ak c a fun f _=>Af 1 d fun g=>Ak g a fun h _=>BJ [.fv (.int .i64 0),.fv (.int .i64 0),.nils] [(0,1,f),(1,1,h),(2,1,e)] fun i=>Ad 3 b i a fun j _ _=>RC j b
def Sw (h:List V) (c d:V) (e:H) (i:Aa) (f:V) (j:H) (a g:V) (k:List V->H->O):O :=
 AH h fun b _=>GC EE 3 b c fun l=>Aj l (AP 3 d b fun m=>Qi e m i f b j a g d c k) (Af 0 a fun n=>Qh e n a f g)
def X6 (a:List V) (b:H) (c:Aa) (d:H) (e:List V->H->O):O :=
 AH a fun f g=>AH g fun h i=>AH i fun j k=>AH k fun l m=>AH m fun n o=>Sw o n l b c j d f h e
def Sg (a:V) (c d:H) (e f:V) (n:Nat) (h:Aa):O :=
 Af 2 a fun i=>Ak i c fun b _=>BF b fun g=>BZ (d.own.map (·.1)) [56627203] [a,e,f,b,g,.fv (.int .i64 0)] c fun j=>BY n (fun k l m=>X6 l m h d k) [a,e,f,b,g,.fv (.int .i64 0)] j
def S54 (e:Aa) (n:Nat) (f:V) (a:H):O :=
 AR 56623104 f a fun b g _ _=>Ay 56623105 (.row [.fv (.int .i64 0),.fv (.int .i64 0),.nils] false) (.ptr (.own 56623105) 0) g fun h c _ _=>Af 2 b fun i=>Ak i c fun j _=>BF j fun d=>AE (Et EE 56624131 28 d d) 56624131 c fun k l _ _=>Sg b l a h k n e
theorem ArO (a:Aa) (n:Nat) (b:V) (c:H):Ax EE a ft.get n 54 [b] c=S54 a n b c:=by kernel_rfl
def ZX (a:H) (d b:V):O :=
 Ae 3 d a fun e _=>Ad 3 b e a fun c _ _=>Ap true 3 b c fun f=>Ao [f,.fv (.int .i64 8)] c
def AcT (d e:V) (a:H) (b:V):O :=
 AP 3 d e fun f=>Ae 3 f a fun g _=>Ad 3 b g a fun c _ _=>Ap true 3 b c fun h=>Ao [h,.fv (.int .i64 0)] c
def Aa3 (a c:V) (b:H) (d:V):O :=
 BF a fun e=>Bd EE 3 e (.fv (.int .i64 1)) fun f=>Af 1 c fun g=>Ak g b fun h _=>Bd EE 3 f h fun i=>AcT a i b d
def Adf (b:V) (a:H) (c e d:V):O :=
 Af 1 b fun f=>Ak f a fun g _=>BF c fun h=>Tz EE 3 g h fun i=>Aj i (ZX a e d) (Aa3 c b a d)
def AdC (a:H) (b:V):O :=
 Ap true 3 b a fun c=>Ao [c,.fv (.int .i64 0)] a
def Aeq (a:H) (d b e:V):O :=
 Ae 3 d a fun f _=>Ad 3 b f a fun c _ _=>Ap true 3 b c fun g=>Ao [g,e] c
def Afu (a:Aa) (b:H) (c d e:V) (f:V->H->O):O :=
 Ai [] false false a 77 [c,d,e] b fun g h i j=>Ab [] i j (f g h)
def Adv (c:V) (a:H) (d:V) (e:Aa) (f:V) (g:V->H->O):O :=
 AP 3 c (.fv (.int .i64 1)) fun h=>Ae 3 h a fun i b=>Ab [] b [] (Ae 3 d a fun j k=>Ab [(b,[])] k [] (Afu e a f i j g))
def AbU (a:Aa) (g:H) (b h i c j k:V):O :=
 Ai [] false false a 77 [b,h,i] g fun d e l m=>Ab [] l m ((fun (f:V->H->O)=>AO EE 3 d (.fv (.int .i64 0)) fun n=>Aj n (Adv k e c a b f) (f d e)) fun o p=>Aeq p c j o)
def AcB (b:V) (a:H) (c:V) (e:Aa) (f g:V):O :=
 AP 3 b (.fv (.int .i64 0)) fun h=>Ae 3 h a fun i d=>Ab [] d [] (Ae 3 c a fun j k=>Ab [(d,[])] k [] (AbU e a f i j c g b))
def Abl (c:H) (a d:V):O :=
 Ad 3 a d c fun b _ _=>Ap true 3 a b fun e=>Ao [e,.fv (.int .i64 10)] b
def Adz (c:H) (a d e:V):O :=
 Ad 3 a d c fun b f g=>Ab [] f g (Ap true 3 a b fun h=>Ao [h,e] b)
def Agb (c:V) (a:H) (d e f g b:AA) (h:Aa) (i j k l:V):O :=
 AP 3 c (.fv (.int .i64 0)) fun m=>Ae 3 m a fun n o=>Ab [(d,[]),(e,f),(g,[]),(b,[])] o [] (Ai [] false false h 77 [i,j,n] a fun p q r s=>Ab [(b,[])] r s (Adz q k l p))
def AdU (d:Aa) (i:H) (j k:V) (a:AA) (e:V) (f:AA) (l m:V):O :=
 Ai [] false false d 78 [j,k] i fun n g b c=>Ab [(a,[])] b c (AP 3 e (.fv (.int .i64 1)) fun o=>Ae 3 o g fun p h=>Ab [(b,c),(f,[]),(a,[])] h [] (Agb e g h b c f a d n p l m))
def Ad5 (a:H) (e c:V) (f:Aa) (g h:V):O :=
 Ae 3 e a fun i b=>Ab [] b [] (AP 3 c (.fv (.int .i64 0)) fun j=>Ae 3 j a fun k d=>Ab [(b,[])] d [] (AdU f a g k b c d h i))
def Yw (a:H) (b c:V):O :=
 Ap true 3 b a fun d=>Ao [d,c] a
def Aak (c d:AA) (a:V) (e:H) (b:V):O :=
 Ab [] c d (Aq 0 a fun f=>Aq 1 a fun g=>Ad 3 b f e fun h i j=>Ab [] i j (Yw h b g))
def Yh (b:H) (c d:V) (a:Aa) (e f:V):O :=
 AE (An EE 28 2 [(0,c),(1,d)]) 57694212 b fun g h i j=>Ab [] i j (Ai [] false false a 30 [.fv (.int .i64 16),g] h fun k l m n=>Ab [] m n (Ai [] false false a 79 [k,e] l fun o p q r=>Aak q r o p f))
def Z3 (c:V) (a:H) (d:V) (e:Aa) (f g:V):O :=
 AP 3 c (.fv (.int .i64 0)) fun h=>Ae 3 h a fun i b=>Ab [] b [] (Ae 3 d a fun j k=>Ab [(b,[])] k [] (Yh a i j e f g))
def Abu (b:V) (c:H) (d e f g h i:AA) (j k:V) (l:Aa) (m:V):O :=
 Aq 1 b fun n=>Ay 57693196 (.row [.fv (.int .i64 0),.fv (.int .i64 0),.nils] false) (.ptr (.own 57693196) 0) c fun a o p q=>Ab [(d,e),(f,[]),(g,h),(i,[])] p q (Ad 3 a j o fun r s t=>Ab [] s t (Z3 k r a l n m))
def AdH (a:H) (j:V) (b c d:AA) (e:Aa) (k l m:V):O :=
 Ae 3 j a fun n f=>Ab [(b,c),(d,[])] f [] (Ai [] false false e 19 [k,n] a fun g o h i=>Ab [] h i (Aq 0 g fun p=>Abu g o h i f b c d p l e m))
def Afr (a:H) (g:V) (b:Aa) (h c i:V):O :=
 Ae 3 g a fun j d=>Ab [] d [] (Ai [] false false b 78 [h,j] a fun k l e f=>Ab [] e f (AP 3 c (.fv (.int .i64 1)) fun m=>AdH l m e f d b k c i))
def Aa7 (b:H) (f a:V) (c:Aa) (d e:V):O :=
 Ak f b fun g _=>AO EE 3 g (.fv (.int .i64 29)) fun h=>Aj h (AP 3 a (.fv (.int .i64 0)) fun i=>Ad5 b i a c d e) (AP 3 a (.fv (.int .i64 0)) fun j=>Afr b j c d a e)
def YI (b:Aa) (d:H) (e f c g h i:V):O :=
 Ai [] false false b 21 [e] d fun j a _ _=>C8 (KN .not j) fun k=>Aj k (Ae 3 f a fun l _=>Abl a c l) (Af 0 g fun m=>Aa7 a m h b i c)
def YR (c:H) (a d e:V):O :=
 Ad 3 a d c fun b _ _=>Ap true 3 a b fun f=>Ao [f,e] b
def AaW (c:H) (a d e:V):O :=
 Ad 3 a d c fun b f g=>Ab [] f g (Ap true 3 a b fun h=>Ao [h,e] b)
def AbW (b c d e:AA) (f:Aa) (g:H) (h i j:V):O :=
 Ab [(c,d),(e,[])] b [] (Ai [] false false f 19 [h,i] g fun a k l m=>Ab [] l m (Aq 0 a fun n=>Aq 1 a fun o=>AaW k j n o))
def AcF (a:AA) (b:Aa) (f:H) (g h i j:V):O :=
 Ab [] a [] (Ai [] false false b 78 [g,h] f fun k c d e=>Ab [] d e (AP 3 i (.fv (.int .i64 1)) fun l=>Ae 3 l c fun m n=>AbW n d e a b c k m j))
def AaG (e:H) (f c d:V) (g:Aa) (h i:V):O :=
 Ay 57696264 (.row [.fv (.int .i64 0),.fv (.int .i64 0),.nils] false) (.ptr (.own 57696264) 0) e fun b j _ _=>Ad 3 b f j fun a _ _=>Ck EE 3 c (.fv (.int .i64 0)) fun k=>Aj k (Ae 3 b a fun l _=>YR a d l c) (Ae 3 b a fun m n=>AcF n g a h m i d)
def Afv (a:V) (b:H) (c:Aa) (d f:V):O :=
 AP 3 a (.fv (.int .i64 0)) fun g=>Ae 3 g b fun h _=>Ai [] false false c 19 [d,h] b fun e i _ _=>Aq 0 e fun j=>Aq 1 e fun k=>AaG i j k f c d a
def AfI (a:H) (b c:V):O :=
 Ap true 3 b a fun d=>Ao [d,c] a
def Y1 (a:H) (d b e:V):O :=
 Ae 3 d a fun f _=>Ad 3 b f a fun c _ _=>Ap true 3 b c fun g=>Ao [g,e] c
def ZI (a b:AA) (c:V->H->O) (d:H) (e:V):O :=
 Ab [] a b (c e d)
def Aff (a:H) (c d:V) (e:Aa) (f:V) (g:V->H->O):O :=
 Ae 3 c a fun h b=>Ab [] b [] (Ae 3 d a fun i j=>Ab [(b,[])] j [] (Ai [] false false e 77 [f,h,i] a fun k l m n=>ZI m n g l k))
def Y6 (a e b f:V) (c:H) (g:Aa) (h:V):O :=
 (fun (d:V->H->O)=>AO EE 3 b (.fv (.int .i64 0)) fun i=>Aj i (AP 3 f (.fv (.int .i64 2)) fun j=>Aff c j a g h d) (d b c)) fun k l=>Y1 l a e k
def AcC (a:Aa) (e:H) (b f g h:V):O :=
 Ai [] false false a 19 [b,f] e fun c i _ _=>Aq 0 c fun j=>Aq 1 c fun k=>Ay 57704456 (.row [.fv (.int .i64 0),.fv (.int .i64 0),.nils] false) (.ptr (.own 57704456) 0) i fun d l _ _=>Ad 3 d j l fun m _ _=>Y6 d g k h m a b
def Adg (c:V) (a:H) (e b d:V) (f:Aa) (g:V):O :=
 Ck EE 3 c (.fv (.int .i64 0)) fun h=>Aj h (Ae 3 e a fun i _=>Ad 3 b i a fun j _ _=>AfI j b c) (AP 3 d (.fv (.int .i64 1)) fun k=>Ae 3 k a fun l _=>AcC f a g l b d)
def YK (a:AA) (b:H) (c:V) (d:Aa) (e f g h:V):O :=
 Ab [] a [] (Ae 3 c b fun i j=>Ab [(a,[])] j [] (Ai [] false false d 77 [e,f,i] b fun k l m n=>Ab [] m n (Adg k l c g h d e)))
def Aap (c:H) (a d e:V):O :=
 Ad 3 a d c fun b _ _=>Ap true 3 a b fun f=>Ao [f,e] b
def AcN (d:Aa) (e:H) (f g a:V):O :=
 Ai [] false false d 79 [f,g] e fun b h _ _=>Aq 0 b fun i=>Aq 1 b fun j=>Ad 3 a i h fun c _ _=>Ap true 3 a c fun k=>Ao [k,j] c
def Y3 (d:H) (b e f:V) (c:Aa) (g h:V):O :=
 Ad 3 b e d fun a _ _=>Ae 3 f a fun i _=>Ae 3 b a fun j _=>AE (An EE 28 2 [(0,i),(1,j)]) 57713666 a fun k l _ _=>Ai [] false false c 30 [.fv (.int .i64 17),k] l fun m n _ _=>AcN c n m g h
def Abh (a:H) (d:V) (b:Aa) (e f g:V):O :=
 Ae 3 d a fun h _=>Ai [] false false b 19 [e,h] a fun c i _ _=>Aq 0 c fun j=>Aq 1 c fun k=>Ay 57712648 (.row [.fv (.int .i64 0),.fv (.int .i64 0),.nils] false) (.ptr (.own 57712648) 0) i fun l m _ _=>Y3 m l j f b k g
def Zb (e:H) (f c d g:V) (h:Aa) (i:V):O :=
 Ay 57709576 (.row [.fv (.int .i64 0),.fv (.int .i64 0),.nils] false) (.ptr (.own 57709576) 0) e fun a j _ _=>Ad 3 a f j fun b _ _=>Ck EE 3 c (.fv (.int .i64 0)) fun k=>Aj k (Ae 3 a b fun l _=>Aap b d l c) (AP 3 g (.fv (.int .i64 1)) fun m=>Abh b m h i a d)
def YL (a:V) (b:H) (c:Aa) (d f:V):O :=
 AP 3 a (.fv (.int .i64 0)) fun g=>Ae 3 g b fun h _=>Ai [] false false c 19 [d,h] b fun e i _ _=>Aq 0 e fun j=>Aq 1 e fun k=>Zb i j k f a c d
def Ab4 (a:H) (b c:V):O :=
 Ap true 3 b a fun d=>Ao [d,c] a
def Ac6 (d:V) (a:H) (b:V):O :=
 AP 3 d (.fv (.int .i64 1)) fun e=>Ae 3 e a fun f _=>Ad 3 b f a fun c _ _=>Ap true 3 b c fun g=>Ao [g,.fv (.int .i64 0)] c
def YW (c:V) (a:H) (d b e:V):O :=
 Ck EE 3 c (.fv (.int .i64 0)) fun f=>Aj f (Ae 3 d a fun g _=>Ad 3 b g a fun h _ _=>Ab4 h b c) (Af 2 e fun i=>Ak i a fun j _=>Ac6 j a b)
def AaE (b:V) (a:H) (c:AA) (d:Aa) (e f:V) (g:V->H->O):O :=
 AP 3 b (.fv (.int .i64 0)) fun h=>Ae 3 h a fun i j=>Ab [(c,[])] j [] (Ai [] false false d 77 [e,f,i] a fun k l m n=>Ab [] m n (g k l))
def Abn (a:H) (c d:V) (e:Aa) (f:V) (g:V->H->O):O :=
 Ae 3 c a fun h b=>Ab [] b [] (Af 2 d fun i=>Ak i a fun j k=>Ab [(b,[])] k [] (AaE j a b e f h g))
def Abw (e f a b g:V) (c:H) (h:Aa) (i:V):O :=
 (fun (d:V->H->O)=>AO EE 3 b (.fv (.int .i64 0)) fun j=>Aj j (AP 3 g (.fv (.int .i64 1)) fun k=>Abn c k a h i d) (d b c)) fun l m=>YW l m e f a
def ZE (c d:V) (a:V->H->O) (b:H) (e:V):O :=
 AI c d (.fv (.bool false)) fun f=>Aj f (a (.fv (.int .i64 12)) b) (a e b)
def Abm (g h c i:V) (j:Aa) (k d:V) (e:H):O :=
 (fun (l:V->H->O)=>AO EE 3 d (.fv (.int .i64 0)) fun a=>Ac a true e (fun m=>Af 0 c fun n=>m n e [] []) fun o b _ _=>Ac a true b (fun p=>Ak o b fun q r=>p q b r []) fun s f _ _=>Ac a true f (fun t=>Ck EE 3 s (.fv (.int .i64 16)) fun u=>t u f [] []) fun v w _ _=>ZE a v l w d) fun x y=>Abw g h c x i y j k
def AdW (a:Aa) (e:H) (b f g h i:V):O :=
 Ai [] false false a 19 [b,f] e fun c j _ _=>Aq 0 c fun k=>Aq 1 c fun l=>Ay 57715720 (.row [.fv (.int .i64 0),.fv (.int .i64 0),.nils] false) (.ptr (.own 57715720) 0) j fun d m _ _=>Ad 3 d k m fun n _ _=>Abm g h d i a b l n
def YH (a:H) (b c:V):O :=
 Ap true 3 b a fun d=>Ao [d,c] a
def AcH (c:H) (a d:V):O :=
 Ad 3 a d c fun b _ _=>Ap true 3 a b fun e=>Ao [e,.fv (.int .i64 0)] b
def AbG (b:V) (a:H) (c d:V):O :=
 Af 0 b fun e=>Ak e a fun f _=>Bd EE 3 f (.fv (.int .i64 23)) fun g=>AP 3 c g fun h=>Ae 3 h a fun i _=>AcH a d i
def AbZ (c:V) (a:H) (d b e f:V):O :=
 Ck EE 3 c (.fv (.int .i64 0)) fun g=>Aj g (Ae 3 d a fun h _=>Ad 3 b h a fun i _ _=>YH i b c) (Af 2 e fun j=>Ak j a fun k _=>AbG f a k b)
def AaP (c d:V) (a:V->H->O) (b:H) (e:V):O :=
 AI c d (.fv (.bool false)) fun f=>Aj f (a (.fv (.int .i64 12)) b) (a e b)
def Agz (g h c i d:V) (e:H):O :=
 (fun (j:V->H->O)=>AO EE 3 d (.fv (.int .i64 0)) fun a=>Ac a true e (fun k=>Af 0 c fun l=>k l e [] []) fun m b _ _=>Ac a true b (fun n=>Ak m b fun o p=>n o b p []) fun q f _ _=>Ac a true f (fun r=>Ck EE 3 q (.fv (.int .i64 17)) fun s=>r s f [] []) fun t u _ _=>AaP a t j u d) fun v w=>AbZ v w g h c i
def ZQ (c:Aa) (d:H) (e f g h i:V):O :=
 Ai [] false false c 19 [e,f] d fun a j _ _=>Aq 0 a fun k=>Aq 1 a fun l=>Ay 57725960 (.row [.fv (.int .i64 0),.fv (.int .i64 0),.nils] false) (.ptr (.own 57725960) 0) j fun b m _ _=>Ad 3 b k m fun n _ _=>Agz g h b i l n
def Adi (a:H) (b:V):O :=
 Ap true 3 b a fun c=>Ao [c,.fv (.int .i64 10)] a
def Adt (d e:V) (a:H) (f:Aa) (g c b h:V):O :=
 Aj d (AP 3 e (.fv (.int .i64 0)) fun i=>Ae 3 i a fun j _=>ZQ f a g j c b h) (Ae 3 c a fun k _=>Ad 3 b k a fun l _ _=>Adi l b)
def Ac3 (a:V) (b:V->H->O) (c:H) (d:V):O :=
 Aj a (b a c) (AO EE 3 d (.fv (.int .i64 24)) fun e=>b e c)
def AbK (a b:V) (c:H) (d:Aa) (e f g h:V):O :=
 AO EE 3 a (.fv (.int .i64 21)) fun i=>Aj i (AP 3 b (.fv (.int .i64 0)) fun j=>Ae 3 j c fun k _=>AdW d c e k f g b) ((fun (l:V->H->O)=>AO EE 3 a (.fv (.int .i64 23)) fun m=>Ac3 m l c a) fun n o=>Adt n b o d e f g h)
def AaT (c a:V) (b:H) (g:V) (d:Aa) (e f h:V):O :=
 AO EE 3 c (.fv (.int .i64 27)) fun i=>Aj i (AP 3 a (.fv (.int .i64 0)) fun j=>Ae 3 j b fun k l=>YK l b g d e k f a) (AO EE 3 c (.fv (.int .i64 22)) fun m=>Aj m (YL a b d e f) (AbK c a b d e g f h))
def Yr (i a:V) (b:H) (c:Aa) (f d g e h:V):O :=
 Aj i (AP 3 a (.fv (.int .i64 0)) fun j=>Ae 3 j b fun k _=>YI c b k f d g a e) (AO EE 3 h (.fv (.int .i64 28)) fun l=>Aj l (Afv a b c e d) (AaT h a b f c e d g))
def Adh (e:V) (f:Aa) (g h i j a:V) (b:H):O :=
 (fun (c:V->H->O)=>AO EE 3 a (.fv (.int .i64 20)) fun d=>Aj d (c d b) (AO EE 3 a (.fv (.int .i64 29)) fun k=>c k b)) fun l m=>Yr l e m f g h i j a
def AeY (c:V) (a:H) (d b e:V) (f:Aa) (g h:V):O :=
 AO EE 3 c (.fv (.int .i64 25)) fun i=>Aj i (Ae 3 d a fun j _=>Ad 3 b j a fun k _ _=>AdC k b) (AO EE 3 c (.fv (.int .i64 26)) fun l=>Aj l (AcB e a d f g b) (Adh e f d b h g c a))
def Ae2 (g:H) (a h b d e i:V) (j:Aa):O :=
 Ad 3 a h g fun c _ _=>Af 0 b fun k=>Ak k c fun f _=>AO EE 3 f (.fv (.int .i64 1)) fun l=>Aj l (Adf b c d a e) (AeY f c a e i j d b)
def S55 (a:Aa) (n:Nat) (d e:V) (f:H):O :=
 AR 57671680 e f fun b g _ _=>Ay 57671681 (.row [.fv (.int .i64 0),.fv (.int .i64 0),.nils] false) (.ptr (.own 57671681) 0) g fun h c _ _=>Af 2 b fun i=>Ak i c fun j _=>Ai [] false false a 30 [.fv (.int .i64 15),.nils] c fun k l _ _=>Ay 57673729 (.row [.fv (.int .i64 0),.fv (.int .i64 0),.nils] false) (.ptr (.own 57673729) 0) l fun m o _ _=>Ae2 o m k b d h j a
theorem AsR (a:Aa) (n:Nat) (b c:V) (d:H):Ax EE a ft.get n 55 [b,c] d=S55 a n b c d:=by kernel_rfl
def JD (b:Aa) (c:H) (a d e f:V) (g:List V->H->O) (h i:V):O :=
 Ai [true,false,false] false false b 56 [a,d,e] c fun _ j _ _=>Bv EE 3 f (.fv (.int .i64 1)) fun k=>g [a,h,i,k] j
def KI (b:V) (a:H) (c d:V) (e:Aa) (f:V) (g:List V->H->O):O :=
 Af 2 b fun h=>Ak h a fun i _=>AP 3 i c fun j=>Ae 3 j a fun k _=>Bv EE 3 d (.fv (.int .i64 1)) fun l=>JD e a f k l c g d b
def KF (c:H) (a f g h i:V) (j:Aa) (k:V) (l:List V->H->O):O :=
 Ac a true c (fun m=>Af 1 f fun n=>m n c [] []) fun o b _ _=>Ac a true b (fun p=>Ak o b fun q r=>p q b r []) fun s d _ _=>Ac a true d (fun t=>AO EE 3 s (.fv (.int .i64 0)) fun u=>t u d [] []) fun v e _ _=>AI a v (.fv (.bool false)) fun w=>Aj w (KI g e h i j k l) (Ao [] e)
def JZ (a:H) (f c d g h:V) (i:Aa) (j:List V->H->O):O :=
 Ak f a fun k _=>BF k fun l=>GC EE 3 c l fun b=>Ac b true a (fun m=>m d a [] []) fun n e _ _=>Ac b true e (fun o=>A0 n fun p=>o p e [] []) fun q r _ _=>KF r b q g c h i d j
def JV (b:List V) (c:H) (d:Aa) (e:List V->H->O):O :=
 AH b fun f g=>AH g fun h i=>AH i fun a j=>AH j fun k _=>Af 2 a fun l=>JZ c l k f a h d e
def Jx (n:Nat) (a:H) (b c d:V) (e:Aa):O :=
 BY n (fun f g h=>JV g h e f) [b,c,d,.fv (.int .i64 0)] a
def JT (a:H) (b:V) (c:H->O):O :=
 B6 b (.fv (.int .i64 5)) a fun d _ _=>c d
def KB (a:V) (b:H) (c:H->O):O :=
 Af 1 a fun d=>B6 d (.fv (.int .i64 1)) b fun e _ _=>c e
def KD (e f:AA) (a:H) (b g h:V) (c:H->O):O :=
 Ab [] e f (Ac b false a (fun i=>C8 (KN .not g) fun j=>i j a [] []) fun k d _ _=>AI b (.fv (.bool true)) k fun l=>Aj l (A0 h fun m=>KB m d c) (c d))
def KC (c d:AA) (e:H) (a g:V) (h:Aa) (i j:V) (k:H->O):O :=
 Ab [] c d (Ac a false e (fun l=>Af 1 g fun m=>l m e [] []) fun n b _ _=>Ac a false b (fun o=>Ak n b fun p q=>o p b q []) fun r f s t=>Ab [(c,d)] s t (Ac a false f (fun u=>Ai [] false false h 80 [i,r] f u) fun v w x y=>KD x y w a v j k))
def J8 (e f g h:AA) (i j:V) (c:H) (d:V) (k:Aa) (l:V) (m:H->O):O :=
 Ab [(f,g),(h,[])] e [] (BF i fun n=>Ck EE 3 j n fun a=>Ac a false c (fun o=>Af 0 d fun p=>o p c [] []) fun q b _ _=>Ac a false b (fun r=>Ak q b fun s t=>r s b t []) fun u v w x=>KC w x v a d k u l m)
def JX (a:AA) (b:Aa) (g:H) (h c i:V) (j:H->O):O :=
 Ab [] a [] (Ai [] false false b 46 [h] g fun k d e f=>Ab [] e f (Af 2 c fun l=>Ak l d fun m n=>J8 n e f a m k d c b i j))
def Ky (e b:V) (a:H) (c:H->O) (d:V) (f:Aa):O :=
 Aj e (A0 b fun g=>Af 1 g fun h=>JT a h c) (Af 0 d fun i=>Ak i a fun j k=>JX k f a j d b c)
def J9 (a:H) (d e f:V) (g:H->O) (h:V) (i:Aa):O :=
 Ak d a fun j _=>LN EE 3 j (.fv (.int .i64 3000)) fun b=>Ac b false a (fun k=>k e a [] []) fun l c _ _=>Ac b false c (fun m=>LN EE 3 l (.fv (.int .i64 120)) fun n=>m n c [] []) fun o p _ _=>AI b (.fv (.bool true)) o fun q=>Ky q f p g h i
def J5 (e:V) (f:H) (g:V) (n:Nat) (a b c:V) (d:Aa):O :=
 Af 0 e fun h=>B6 h g f fun i _ _=>(fun (j:H->O)=>A0 a fun k=>Af 0 k fun l=>J9 i l b a j c d) fun m=>Jx n m a b c d
def S56 (c:Aa) (n:Nat) (a d e:V) (f:H):O :=
 AR 58720256 d f fun g b _ _=>A0 a fun h=>Af 0 h fun i=>Ak i b fun j _=>Bv EE 3 j (.fv (.int .i64 1)) fun k=>A0 a fun l=>J5 l b k n a e g c
theorem Ash (a:Aa) (n:Nat) (b c d:V) (e:H):Ax EE a ft.get n 56 [b,c,d] e=S56 a n b c d e:=by kernel_rfl
def S57 (h:Aa) (n:Nat) (c:V) (d:H):O :=
 Ay 59768832 (.row [.fv (.int .i64 0),.fv (.int .i64 0),.nils] false) (.ptr (.own 59768832) 0) d fun a e _ _=>BJ [.fv (.int .i64 0),.fv (.int .i64 0),.nils] [] fun f=>Ad 3 a f e fun b _ _=>Ap true 3 a b fun g=>Ao [g,c] b
theorem As2 (a:Aa) (n:Nat) (b:V) (c:H):Ax EE a ft.get n 57 [b] c=S57 a n b c:=by kernel_rfl
def WQ (b c d:AA) (a:H) (e f:V):O :=
 Ab [(d,[])] b c (Ap true 3 e a fun g=>Ao [g,f] a)
def Xm (d:V) (a:H) (b e:V):O :=
 A0 d fun f=>Af 2 f fun g=>Ak g a fun h c=>Ab [] c [] (Ad 3 b e a fun i j k=>WQ j k c i b h)
def Xf (c:H) (a d:V):O :=
 Ad 3 a d c fun b _ _=>Ap true 3 a b fun e=>Ao [e,.fv (.int .i64 0)] b
def WB (a:H) (c d b e:V):O :=
 Ak c a fun f _=>Ck EE 3 f (.fv (.int .i64 0)) fun g=>Aj g (BJ [.fv (.int .i64 0),.fv (.int .i64 0),.nils] [] fun h=>Xm d a b h) (Ae 3 e a fun i _=>Xf a b i)
def W0 (c:Aa) (d:H) (a e f:V):O :=
 Ai [true,false,false,false] false false c 81 [a,e,.fv (.int .i64 0),.fv (.int .i64 1)] d fun g h _ _=>Ay 60819461 (.row [.fv (.int .i64 0),.fv (.int .i64 0),.nils] false) (.ptr (.own 60819461) 0) h fun b i _ _=>Ad 3 b g i fun j _ _=>A0 a fun k=>Af 2 k fun l=>WB j l a f b
def S58 (a:Aa) (n:Nat) (d:V) (e:H):O :=
 AR 60817408 d e fun f g _ _=>Ay 60817409 (.row [.fv (.int .i64 0),.fv (.int .i64 0),.nils] false) (.ptr (.own 60817409) 0) g fun h i _ _=>BJ [.fv (.int .i64 0),.fv (.int .i64 0),.fv (.int .i64 0)] [] fun j=>AR 60818433 j i fun b c _ _=>Ae 3 f c fun k _=>Ai [true,false,false] false false a 82 [b,k,.nils] c fun l m _ _=>W0 a m b l h
theorem Ars (a:Aa) (n:Nat) (b:V) (c:H):Ax EE a ft.get n 58 [b] c=S58 a n b c:=by kernel_rfl
def YO (c:H) (a d:V):O :=
 Ad 3 a d c fun b _ _=>Ap true 3 a b fun e=>Ao [e,.fv (.int .i64 0)] b
def Ys (c:V) (d:H) (a e:V):O :=
 Aq 1 c fun f=>Ad 3 a e d fun b _ _=>Ap true 3 a b fun g=>Ao [g,f] b
def Ago (a:H) (b:V):O :=
 Ap true 3 b a fun c=>Ao [c,.fv (.int .i64 0)] a
def Agx (c:V) (e:Aa) (a:H) (b f:V):O :=
 Ck EE 3 c (.fv (.int .i64 0)) fun g=>Aj g (Ai [] false false e 57 [c] a fun d h _ _=>Aq 0 d fun i=>Ys d h b i) (Ae 3 f a fun j _=>Ad 3 b j a fun k _ _=>Ago k b)
def Z8 (a:V) (d:H) (b:V):O :=
 Aq 0 a fun e=>Aq 1 a fun f=>Ad 3 b e d fun c _ _=>Ap true 3 b c fun g=>Ao [g,f] c
def AaA (d:Aa) (e:H) (f a:V):O :=
 Ai [] false false d 57 [f] e fun b g _ _=>Aq 0 b fun h=>Aq 1 b fun i=>Ad 3 a h g fun c _ _=>Ap true 3 a c fun j=>Ao [j,i] c
def AeM (a:H) (b c:V):O :=
 Ap true 3 b a fun d=>Ao [d,c] a
def AfS (c d:AA) (a:V) (e:H) (b:V):O :=
 Ab [] c d (Aq 0 a fun f=>Aq 1 a fun g=>Ad 3 b f e fun h i j=>Ab [] i j (AeM h b g))
def Aby (b:H) (c d:V) (a:Aa) (e:V):O :=
 AE (An EE 28 2 [(0,c),(1,d)]) 61885444 b fun f g h i=>Ab [] h i (Ai [] false false a 30 [.fv (.int .i64 16),f] g fun j k l m=>Ab [] l m (Ai [] false false a 58 [j] k fun n o p q=>AfS p q n o e))
def AfC (c:V) (a:H) (d:V) (e:Aa) (f:V):O :=
 AP 3 c (.fv (.int .i64 0)) fun g=>Ae 3 g a fun h b=>Ab [] b [] (Ae 3 d a fun i j=>Ab [(b,[])] j [] (Aby a h i e f))
def Aa4 (f g h i j k:AA) (l:H) (a m b:V) (c:Aa) (d n:V):O :=
 Ab [(h,i),(j,[]),(k,[])] f g (Ad 3 a m l fun e o p=>Ab [] o p (Ck EE 3 b (.fv (.int .i64 0)) fun q=>Aj q (AaA c e b d) (AfC n e a c d)))
def Ae7 (a:Aa) (e:H) (f g h:V) (i j:AA) (k l:V):O :=
 Ai [] false false a 83 [f,g,h] e fun b m c d=>Ab [] c d (Aq 0 b fun n=>Aq 1 b fun o=>Ay 61882379 (.row [.fv (.int .i64 0),.fv (.int .i64 0),.nils] false) (.ptr (.own 61882379) 0) m fun p q r s=>Aa4 r s c d i j q p n o a k l)
def AaO (a:H) (e c:V) (f:Aa) (g h:V):O :=
 Ae 3 e a fun i b=>Ab [] b [] (AP 3 c (.fv (.int .i64 1)) fun j=>Ae 3 j a fun k d=>Ab [(b,[])] d [] (Ae7 f a g i k d b h c))
def Abv (a:Aa) (g:H) (b h i c d:V):O :=
 Ai [] false false a 61 [b,.fv (.int .i64 1),h,i] g fun e f j k=>Ab [] j k (Ck EE 3 e (.fv (.int .i64 0)) fun l=>Aj l (Ai [] false false a 57 [e] f fun m n _ _=>Z8 m n c) (AP 3 d (.fv (.int .i64 0)) fun o=>AaO f o d a b c))
def AdX (b:V) (a:H) (d:V) (e:Aa) (f g:V):O :=
 AP 3 b (.fv (.int .i64 0)) fun h=>Ae 3 h a fun i c=>Ab [] c [] (Ae 3 d a fun j k=>Ab [(c,[])] k [] (Abv e a f i j g b))
def AeC (c:V) (d:H) (a e:V):O :=
 Aq 1 c fun f=>Ad 3 a e d fun b _ _=>Ap true 3 a b fun g=>Ao [g,f] b
def Ac2 (d:Aa) (e:H) (f a:V):O :=
 Ai [] false false d 58 [f] e fun b g _ _=>Aq 0 b fun h=>Aq 1 b fun i=>Ad 3 a h g fun c _ _=>Ap true 3 a c fun j=>Ao [j,i] c
def AdL (b:V) (c:Aa) (a:H) (d f:V):O :=
 Ck EE 3 b (.fv (.int .i64 0)) fun g=>Aj g (Ai [] false false c 57 [b] a fun e h _ _=>Aq 0 e fun i=>AeC e h d i) (AP 3 f (.fv (.int .i64 0)) fun j=>Ae 3 j a fun k _=>Ac2 c a k d)
def Acs (a:Aa) (b:H) (c:V) (d:AA) (e f:V) (g:V->H->O):O :=
 Ai [] false false a 28 [c,.fv (.int .i64 1),.fv (.int .i64 0)] b fun h i j k=>Ab [(d,[])] j k (Ai [] false false a 61 [e,.fv (.int .i64 0),f,h] i fun l m n o=>Ab [] n o (g l m))
def Yv (a:H) (f:V) (c d e:AA) (g:V) (h:Aa) (i:V) (j:V->H->O):O :=
 Ae 3 f a fun k b=>Ab [(c,d),(e,[])] b [] (AP 3 g (.fv (.int .i64 0)) fun l=>Ae 3 l a fun m n=>Ab [(b,[]),(c,d),(e,[])] n [] (Acs h a m b i k j))
def AbX (a:H) (g:V) (b:Aa) (h c:V) (i:V->H->O):O :=
 Ae 3 g a fun j d=>Ab [] d [] (Ai [] false false b 84 [h,.fv (.int .i64 0),j] a fun k l e f=>Ab [] e f (AP 3 c (.fv (.int .i64 1)) fun m=>Yv l m e f d c b k i))
def Ad8 (b:Aa) (f a c:V) (d:H) (g:V):O :=
 (fun (e:V->H->O)=>AO EE 3 c (.fv (.int .i64 0)) fun h=>Aj h (AP 3 a (.fv (.int .i64 0)) fun i=>AbX d i b g a e) (e c d)) fun j k=>AdL j b k f a
def AaM (a:AA) (b:H) (e:V) (c:Aa) (d f g h:V):O :=
 Ab [] a [] (Ae 3 e b fun i j=>Ab [(a,[])] j [] (Ai [] false false c 61 [d,.fv (.int .i64 1),f,i] b fun k l m n=>Ab [] m n (Ad8 c g h k l d)))
def AeG (a:V) (d:H) (b:V):O :=
 Aq 0 a fun e=>Aq 1 a fun f=>Ad 3 b e d fun c _ _=>Ap true 3 b c fun g=>Ao [g,f] c
def AfP (a:H) (b c:V):O :=
 Ap true 3 b a fun d=>Ao [d,c] a
def Afz (c d:AA) (a:V) (e:H) (b:V):O :=
 Ab [] c d (Aq 0 a fun f=>Aq 1 a fun g=>Ad 3 b f e fun h i j=>Ab [] i j (AfP h b g))
def AfE (a:AA) (c:V) (b:H) (d:Aa) (e f g:V):O :=
 Ab [] a [] (AP 3 c (.fv (.int .i64 1)) fun h=>Ae 3 h b fun i j=>Ab [(a,[])] j [] (Ai [] false false d 83 [e,f,i] b fun k l m n=>Afz m n k l g))
def Zl (f:H) (g b:V) (c:Aa) (d h i:V):O :=
 Ay 61894664 (.row [.fv (.int .i64 0),.fv (.int .i64 0),.nils] false) (.ptr (.own 61894664) 0) f fun e j _ _=>Ad 3 e g j fun a _ _=>Ck EE 3 b (.fv (.int .i64 0)) fun k=>Aj k (Ai [] false false c 57 [b] a fun l m _ _=>AeG l m d) (Ae 3 e a fun n o=>AfE o h a c i n d)
def Acl (a:V) (b:H) (c:Aa) (d f:V):O :=
 AP 3 a (.fv (.int .i64 0)) fun g=>Ae 3 g b fun h _=>Ai [] false false c 26 [d,.fv (.int .i64 0),h] b fun e i _ _=>Aq 0 e fun j=>Aq 1 e fun k=>Zl i j k c f a d
def Adb (c:V) (d:H) (a e:V):O :=
 Aq 1 c fun f=>Ad 3 a e d fun b _ _=>Ap true 3 a b fun g=>Ao [g,f] b
def Z7 (d:V) (a:H) (b:V):O :=
 AP 3 d (.fv (.int .i64 0)) fun e=>Ae 3 e a fun f _=>Ad 3 b f a fun c _ _=>Ap true 3 b c fun g=>Ao [g,.fv (.int .i64 0)] c
def AfV (b:V) (e:Aa) (a:H) (c f:V):O :=
 Ck EE 3 b (.fv (.int .i64 0)) fun g=>Aj g (Ai [] false false e 57 [b] a fun d h _ _=>Aq 0 d fun i=>Adb d h c i) (Af 2 f fun j=>Ak j a fun k _=>Z7 k a c)
def YV (a:Aa) (d:H) (e f g:V):O :=
 Ai [] false false a 85 [e,.fv (.int .i64 1),f,.fv (.int .i64 18)] d fun b h _ _=>Aq 0 b fun i=>Aq 1 b fun j=>Ay 61899784 (.row [.fv (.int .i64 0),.fv (.int .i64 0),.nils] false) (.ptr (.own 61899784) 0) h fun c k _ _=>Ad 3 c i k fun l _ _=>AfV j a l g c
def Ack (a:V) (d:H) (b:V):O :=
 Aq 0 a fun e=>Aq 1 a fun f=>Ad 3 b e d fun c _ _=>Ap true 3 b c fun g=>Ao [g,f] c
def Agf (e f:V) (a:H) (b:Aa) (c d g:V):O :=
 AO EE 3 e (.fv (.int .i64 30)) fun h=>Aj h (AP 3 f (.fv (.int .i64 0)) fun i=>Ae 3 i a fun j _=>YV b a c j d) (Ae 3 g a fun k _=>Ai [] false false b 86 [c,k] a fun l m _ _=>Ack l m d)
def YU (c a:V) (b:H) (g:V) (d:Aa) (e f h:V):O :=
 AO EE 3 c (.fv (.int .i64 29)) fun i=>Aj i (AP 3 a (.fv (.int .i64 0)) fun j=>Ae 3 j b fun k l=>AaM l b g d e k f a) (AO EE 3 c (.fv (.int .i64 28)) fun m=>Aj m (Acl a b d e f) (Agf c a b d e f h))
def AbY (i:V) (a:H) (f:V) (b:Aa) (c d e g h j:V):O :=
 Aj i (Ae 3 f a fun k _=>Ai [] false false b 62 [c,.fv (.int .i64 0),d,k] a fun l m _ _=>Agx l b m e f) (AO EE 3 g (.fv (.int .i64 20)) fun n=>Aj n (AdX d a h b c e) (YU g d a h b c e j))
def Z0 (a:H) (e c d:V) (f:Aa) (g h i j:V):O :=
 Ak e a fun b _=>AO EE 3 b (.fv (.int .i64 25)) fun k=>Aj k (Ae 3 c a fun l _=>YO a d l) (AO EE 3 b (.fv (.int .i64 26)) fun m=>AbY m a c f g h d b i j)
def Ags (e:H) (a f:V) (b:Aa) (c g h i:V):O :=
 Ad 3 a f e fun j _ _=>Ai [] false false b 30 [.fv (.int .i64 15),.nils] j fun k l _ _=>Ay 61869057 (.row [.fv (.int .i64 0),.fv (.int .i64 0),.nils] false) (.ptr (.own 61869057) 0) l fun d m _ _=>Ad 3 d k m fun n _ _=>Af 0 c fun o=>Z0 n o d g b h i a c
def S59 (a:Aa) (n:Nat) (d e:V) (f:H):O :=
 AR 61865984 e f fun b g _ _=>Ay 61865985 (.row [.fv (.int .i64 0),.fv (.int .i64 0),.nils] false) (.ptr (.own 61865985) 0) g fun h c _ _=>Af 2 b fun i=>Ak i c fun j _=>Ai [] false false a 30 [.fv (.int .i64 14),.nils] c fun k l _ _=>Ay 61868033 (.row [.fv (.int .i64 0),.fv (.int .i64 0),.nils] false) (.ptr (.own 61868033) 0) l fun m o _ _=>Ags o m k a b h d j
theorem Asb (a:Aa) (n:Nat) (b c:V) (d:H):Ax EE a ft.get n 59 [b,c] d=S59 a n b c d:=by kernel_rfl
def S60 (h:Aa) (n:Nat) (c:V) (d:H):O :=
 Ay 62914560 (.row [.fv (.int .i64 0),.fv (.int .i64 0),.nils] false) (.ptr (.own 62914560) 0) d fun a e _ _=>BJ [.fv (.int .i64 0),.fv (.int .i64 0),.nils] [(0,1,.fv (.int .i64 2)),(1,1,c)] fun f=>Ad 3 a f e fun b _ _=>Ap true 3 a b fun g=>Ao [g] b
theorem Ap7 (a:Aa) (n:Nat) (b:V) (c:H):Ax EE a ft.get n 60 [b] c=S60 a n b c:=by kernel_rfl
def AhK (b:V) (c:H) (g:V) (d:V->H->O):O :=
 AO EE 3 b (.fv (.int .i64 0)) fun a=>Ac a true c (fun h=>h g c [] []) fun i e _ _=>Ac a true e (fun j=>C8 (KN .not i) fun k=>j k e [] []) fun l f _ _=>AI a l (.fv (.bool false)) fun m=>Aj m (d (.fv (.int .i64 11)) f) (d b f)
def Ajo (a:H) (c:V) (d:Aa) (e:V):O :=
 Ae 3 c a fun f _=>Ai [] false false d 87 [e,f] a fun b g _ _=>Aq 0 b fun h=>Aq 1 b fun i=>(fun (j:V->H->O)=>AhK i g h j) fun k l=>Ao [k] l
def Ajg (d:H) (e b f:V) (g:Aa):O :=
 Ay 63964167 (.row [.fv (.int .i64 0),.fv (.int .i64 0),.nils] false) (.ptr (.own 63964167) 0) d fun c h _ _=>Ad 3 c e h fun a _ _=>Ck EE 3 b (.fv (.int .i64 0)) fun i=>Aj i (Ao [b] a) (Ae 3 c a fun j _=>Ajo a f g j)
def S61 (a:Aa) (n:Nat) (d e f g:V) (h:H):O :=
 AR 63963136 f h fun i j _ _=>AR 63963137 g j fun k b _ _=>Ae 3 i b fun l _=>Ai [] false false a 26 [d,e,l] b fun c m _ _=>Aq 0 c fun o=>Aq 1 c fun p=>Ajg m o p k a
theorem ArG (a:Aa) (n:Nat) (b c d e:V) (f:H):Ax EE a ft.get n 61 [b,c,d,e] f=S61 a n b c d e f:=by kernel_rfl
def Q2 (c d:AA) (a:V) (b:H) (e:V) (f:List V->H->O) (g h i j:V):O :=
 Ab [] c d (Ck EE 3 a (.fv (.int .i64 0)) fun k=>Aj k (Ao [a] b) (Bv EE 3 e (.fv (.int .i64 1)) fun l=>f [g,h,i,j,l] b))
def Qr (a:H) (f b:V) (g:Aa) (c d h:V) (i:List V->H->O) (j:V):O :=
 Ae 3 f a fun k e=>Ab [] e [] (Ae 3 b a fun l m=>Ab [(e,[])] m [] (Ai [] false false g 61 [c,d,k,l] a fun n o p q=>Q2 p q n o h i c d j b))
def P6 (a b:V) (c:H) (d:V) (e:Aa) (f g:V) (h:List V->H->O):O :=
 BF a fun i=>GC EE 3 b i fun j=>Aj j (AP 3 a b fun k=>Qr c k d e f g b h a) (Ao [.fv (.int .i64 0)] c)
def WF (a:List V) (b:H) (c:Aa) (d:List V->H->O):O :=
 AH a fun e f=>AH f fun g h=>AH h fun i j=>AH j fun k l=>AH l fun m _=>P6 i m b k c e g d
def S62 (a:Aa) (n:Nat) (b c d e:V) (f:H):O :=
 AR 65011712 e f fun g h _ _=>BY n (fun i j k=>WF j k a i) [b,c,d,g,.fv (.int .i64 0)] h
theorem AsQ (a:Aa) (n:Nat) (b c d e:V) (f:H):Ax EE a ft.get n 62 [b,c,d,e] f=S62 a n b c d e f:=by kernel_rfl
def AoX (d:Aa) (e:H) (f a:V):O :=
 Ai [] false false d 57 [f] e fun b g _ _=>Aq 0 b fun h=>Aq 1 b fun i=>Ad 3 a h g fun c _ _=>Ap true 3 a c fun j=>Ao [j,i] c
def AmO (a:V) (d:H) (b:V):O :=
 Aq 0 a fun e=>Aq 1 a fun f=>Ad 3 b e d fun c _ _=>Ap true 3 b c fun g=>Ao [g,f] c
def An5 (c:Aa) (d:H) (e a:V):O :=
 Ai [] false false c 60 [e] d fun f g _ _=>Ad 3 a f g fun b _ _=>Ap true 3 a b fun h=>Ao [h,.fv (.int .i64 0)] b
def Amx (a:V) (b:Aa) (c:H) (d f:V):O :=
 Aq 0 a fun g=>Aq 1 a fun e=>Ck EE 3 e (.fv (.int .i64 0)) fun h=>Aj h (Ai [] false false b 57 [e] c fun i j _ _=>AmO i j d) (AE (AJ EE 66071554 false .max [3,3] [f,g]) 66071554 c fun k l _ _=>An5 b l k d)
def AnA (c:V) (a:H) (d e f:AA) (b:Aa) (g h i:V):O :=
 AP 3 c (.fv (.int .i64 1)) fun j=>Ae 3 j a fun k l=>Ab [(d,e),(f,[])] l [] (Ai [] false false b 88 [g,k] a fun m n o p=>Ab [] o p (Amx m b n h i))
def AmE (a:V) (b:H) (c:Aa) (g h i:V):O :=
 AP 3 a (.fv (.int .i64 0)) fun j=>Ae 3 j b fun k d=>Ab [] d [] (Ai [] false false c 84 [g,.fv (.int .i64 1),k] b fun l m e f=>Ab [] e f (AnA a m e f d c l h i))
def AoS (a:Aa) (g:H) (b h c i:V):O :=
 Ai [] false false a 88 [b,h] g fun d e _ _=>Aq 0 d fun j=>Aq 1 d fun f=>Ck EE 3 f (.fv (.int .i64 0)) fun k=>Aj k (AoX a e f c) (AmE i e a b c j)
def AnY (c:V) (d:H) (a e:V):O :=
 Aq 1 c fun f=>Ad 3 a e d fun b _ _=>Ap true 3 a b fun g=>Ao [g,f] b
def Al1 (c:V) (d:H) (a e:V):O :=
 Aq 1 c fun f=>Ad 3 a e d fun b _ _=>Ap true 3 a b fun g=>Ao [g,f] b
def Anw (c:V) (d:H) (a e:V):O :=
 Aq 1 c fun f=>Ad 3 a e d fun b g h=>Ab [] g h (Ap true 3 a b fun i=>Ao [i,f] b)
def Amj (a:Aa) (c:H) (d e:V):O :=
 Ai [] false false a 30 [.fv (.int .i64 3),d] c fun f g h i=>Ab [] h i (Ai [] false false a 58 [f] g fun b j k l=>Ab [] k l (Aq 0 b fun m=>Anw b j e m))
def Ame (a:AA) (b:H) (c d:V) (e:Aa) (f:V):O :=
 Ab [] a [] (Ae 3 c b fun g h=>Ab [(a,[])] h [] (AE (An EE 28 2 [(0,d),(1,g)]) 66079748 b fun i j k l=>Ab [] k l (Amj e j i f)))
def AlH (e:V) (b:Aa) (a:H) (f c g h:V):O :=
 Aj e (Ai [] false false b 57 [f] a fun d i _ _=>Aq 0 d fun j=>Al1 d i c j) (AP 3 g (.fv (.int .i64 0)) fun k=>Ae 3 k a fun l m=>Ame m a h l b c)
def Amr (c:H) (d e f g h i:AA) (j a:V) (k:Aa) (l m:V):O :=
 Ay 66076684 (.row [.fv (.int .i64 0),.fv (.int .i64 0),.nils] false) (.ptr (.own 66076684) 0) c fun b n o p=>Ab [(d,e),(f,[]),(g,h),(i,[])] o p (Ad 3 b j n fun q r s=>Ab [] r s (Ck EE 3 a (.fv (.int .i64 0)) fun t=>AlH t k q a l m b))
def AlY (a b c d:AA) (e:Aa) (i:H) (j k l m:V):O :=
 Ab [(b,c),(d,[])] a [] (Ai [] false false e 26 [j,.fv (.int .i64 1),k] i fun f n g h=>Ab [] g h (Aq 0 f fun o=>Aq 1 f fun p=>Amr n g h a b c d o p e l m))
def AoV (a:AA) (b:Aa) (g:H) (h i c j:V):O :=
 Ab [] a [] (Ai [] false false b 84 [h,.fv (.int .i64 1),i] g fun k d e f=>Ab [] e f (AP 3 c (.fv (.int .i64 1)) fun l=>Ae 3 l d fun m n=>AlY n e f a b d k m j c))
def AlG (b:V) (c:Aa) (a:H) (d e g:V):O :=
 Ck EE 3 b (.fv (.int .i64 0)) fun h=>Aj h (Ai [] false false c 57 [b] a fun f i _ _=>Aq 0 f fun j=>AnY f i d j) (AP 3 e (.fv (.int .i64 0)) fun k=>Ae 3 k a fun l m=>AoV m c a g l e d)
def An9 (a:V) (b:H) (c:Aa) (d f:V):O :=
 AP 3 a (.fv (.int .i64 0)) fun g=>Ae 3 g b fun h _=>Ai [] false false c 88 [d,h] b fun e i _ _=>Aq 0 e fun _=>Aq 1 e fun j=>AlG j c i f a d
def AmS (c:V) (d:H) (a e:V):O :=
 Aq 1 c fun f=>Ad 3 a e d fun b _ _=>Ap true 3 a b fun g=>Ao [g,f] b
def Aok (a:H) (b c:V):O :=
 Ap true 3 b a fun d=>Ao [d,c] a
def Ao9 (c d:AA) (a:V) (e:H) (b:V):O :=
 Ab [] c d (Aq 0 a fun f=>Aq 1 a fun g=>Ad 3 b f e fun h i j=>Ab [] i j (Aok h b g))
def Amd (a:H) (c:V) (d e:AA) (b:Aa) (f g:V):O :=
 Ae 3 c a fun h i=>Ab [(d,[]),(e,[])] i [] (Ai [] false false b 89 [f,.fv (.int .i64 0),h] a fun j k l m=>Ab [] l m (Ai [] false false b 58 [j] k fun n o p q=>Ao9 p q n o g))
def Ank (a:AA) (d:V) (b:H) (e:V) (f:Aa) (g:V):O :=
 Ab [] a [] (AP 3 d (.fv (.int .i64 1)) fun h=>Ae 3 h b fun i c=>Ab [] c [] (AP 3 e (.fv (.int .i64 1)) fun j=>Amd b j c a f i g))
def Am0 (b:V) (c:Aa) (a:H) (d f g:V):O :=
 Ck EE 3 b (.fv (.int .i64 0)) fun h=>Aj h (Ai [] false false c 57 [b] a fun e i _ _=>Aq 0 e fun j=>AmS e i d j) (Af 2 f fun k=>Ak k a fun l m=>Ank m l a g c d)
def Anv (b:V) (a:H) (c:AA) (d:Aa) (e f:V) (g:V->H->O):O :=
 AP 3 b (.fv (.int .i64 0)) fun h=>Ae 3 h a fun i j=>Ab [(c,[])] j [] (Ai [] false false d 61 [e,.fv (.int .i64 1),f,i] a fun k l m n=>Ab [] m n (g k l))
def Aoi (a:H) (c d:V) (e:Aa) (f:V) (g:V->H->O):O :=
 Ae 3 c a fun h b=>Ab [] b [] (Af 2 d fun i=>Ak i a fun j k=>Ab [(b,[])] k [] (Anv j a b e f h g))
def AnH (a:Aa) (g b c d:V) (e:H) (h:V):O :=
 (fun (f:V->H->O)=>AO EE 3 d (.fv (.int .i64 0)) fun i=>Aj i (AP 3 c (.fv (.int .i64 1)) fun j=>Aoi e j b a h f) (f d e)) fun k l=>Am0 k a l g b c
def AmX (a:Aa) (e:H) (b f g h:V):O :=
 Ai [] false false a 85 [b,.fv (.int .i64 1),f,.fv (.int .i64 3)] e fun c i _ _=>Aq 0 c fun j=>Aq 1 c fun k=>Ay 66081800 (.row [.fv (.int .i64 0),.fv (.int .i64 0),.nils] false) (.ptr (.own 66081800) 0) i fun d l _ _=>Ad 3 d j l fun m _ _=>AnH a g d h k m b
def AoI (c:V) (d:H) (a e:V):O :=
 Aq 1 c fun f=>Ad 3 a e d fun b _ _=>Ap true 3 a b fun g=>Ao [g,f] b
def Al0 (d:V) (a:H) (b:V):O :=
 AP 3 d (.fv (.int .i64 0)) fun e=>Ae 3 e a fun f _=>Ad 3 b f a fun c _ _=>Ap true 3 b c fun g=>Ao [g,.fv (.int .i64 0)] c
def Aoe (a:V) (d:H) (b:V):O :=
 Aq 0 a fun e=>Aq 1 a fun f=>Ad 3 b e d fun c g h=>Ab [] g h (Ap true 3 b c fun i=>Ao [i,f] c)
def AlL (b c d e:AA) (a:Aa) (f:H) (g h i:V):O :=
 Ab [(d,[]),(e,[])] b c (Ai [] false false a 89 [g,.fv (.int .i64 0),h] f fun j k l m=>Ab [] l m (Ai [] false false a 58 [j] k fun n o p q=>Ab [] p q (Aoe n o i)))
def AnU (c:H) (e:V) (a b:AA) (d:Aa) (f g:V):O :=
 Ae 3 e c fun h i=>Ab [(a,[]),(b,[])] i [] (AE (An EE 28 1 [(0,h)]) 66095111 c fun j k l m=>Ab [(a,[]),(b,[])] l m (Ai [] false false d 30 [.fv (.int .i64 8),j] k fun n o p q=>AlL p q a b d o f n g))
def AoR (a:AA) (d:V) (b:H) (e:V) (f:Aa) (g:V):O :=
 Ab [] a [] (AP 3 d (.fv (.int .i64 1)) fun h=>Ae 3 h b fun i c=>Ab [] c [] (AP 3 e (.fv (.int .i64 0)) fun j=>AnU b j c a f i g))
def AnF (d b:V) (a:H) (c e:V) (f:Aa):O :=
 AO EE 3 d (.fv (.int .i64 8)) fun g=>Aj g (Af 2 b fun h=>Ak h a fun i _=>Al0 i a c) (Af 2 b fun j=>Ak j a fun k l=>AoR l k a e f c)
def AnK (b:V) (c:Aa) (a:H) (d f g h:V):O :=
 Ck EE 3 b (.fv (.int .i64 0)) fun i=>Aj i (Ai [] false false c 57 [b] a fun e j _ _=>Aq 0 e fun k=>AoI e j d k) (Af 0 f fun l=>Ak l a fun m _=>AnF m g a d h c)
def AmT (a:Aa) (d:H) (e f g h i:V):O :=
 Ai [] false false a 85 [e,.fv (.int .i64 1),f,.fv (.int .i64 6)] d fun b j _ _=>Aq 0 b fun k=>Aq 1 b fun l=>Ay 66089992 (.row [.fv (.int .i64 0),.fv (.int .i64 0),.nils] false) (.ptr (.own 66089992) 0) j fun c m _ _=>Ad 3 c k m fun n _ _=>AnK l a n g h c i
def AnJ (a:H) (b c:V):O :=
 Ap true 3 b a fun d=>Ao [d,c] a
def Anz (a:H) (d:V) (e:Aa) (f b:V):O :=
 Ae 3 d a fun g _=>Ai [] false false e 90 [f,g] a fun c h _ _=>Aq 0 c fun i=>Aq 1 c fun j=>Ad 3 b i h fun k _ _=>AnJ k b j
def Anb (a:V) (d:H) (b:V):O :=
 Aq 0 a fun e=>Aq 1 a fun f=>Ad 3 b e d fun c _ _=>Ap true 3 b c fun g=>Ao [g,f] c
def AoU (c:V) (d:H) (a e:V):O :=
 Aq 1 c fun f=>Ad 3 a e d fun b _ _=>Ap true 3 a b fun g=>Ao [g,f] b
def Ana (e:V) (a:H) (f:V) (b:Aa) (g c:V):O :=
 AO EE 3 e (.fv (.int .i64 13)) fun h=>Aj h (Ae 3 f a fun i _=>Ai [] false false b 91 [g,i] a fun j k _ _=>Anb j k c) (Ai [] false false b 57 [.fv (.int .i64 10)] a fun d l _ _=>Aq 0 d fun m=>AoU d l c m)
def Ams (h f:V) (a:H) (b:Aa) (c d e g:V):O :=
 Aj h (AP 3 f (.fv (.int .i64 0)) fun i=>Ae 3 i a fun j _=>AmT b a c j d e f) (AO EE 3 g (.fv (.int .i64 7)) fun k=>Aj k (Anz a e b c d) (Ana g a e b c d))
def Anx (a:V) (b:V->H->O) (c:H) (d:V):O :=
 Aj a (b a c) (AO EE 3 d (.fv (.int .i64 9)) fun e=>b e c)
def AlM (a b:V) (c:H) (d:Aa) (e f g:V):O :=
 AO EE 3 a (.fv (.int .i64 5)) fun h=>Aj h (AP 3 b (.fv (.int .i64 0)) fun i=>Ae 3 i c fun j _=>AmX d c e j f b) ((fun (k:V->H->O)=>AO EE 3 a (.fv (.int .i64 8)) fun l=>Anx l k c a) fun m n=>Ams m b n d e f g a)
def AlW (g a:V) (b:H) (c:Aa) (d e f h:V):O :=
 Aj g (AP 3 a (.fv (.int .i64 0)) fun i=>Ae 3 i b fun j _=>AoS c b d j e a) (AO EE 3 f (.fv (.int .i64 4)) fun k=>Aj k (An9 a b c d e) (AlM f a b c d e h))
def Aoy (e:V) (f:Aa) (g h a i:V) (b:H):O :=
 (fun (c:V->H->O)=>AO EE 3 a (.fv (.int .i64 3)) fun d=>Aj d (c d b) (AO EE 3 a (.fv (.int .i64 6)) fun j=>c j b)) fun k l=>AlW k e l f g h a i
def S63 (c:Aa) (n:Nat) (d e:V) (f:H):O :=
 AR 66060288 e f fun a g _ _=>Ay 66060289 (.row [.fv (.int .i64 0),.fv (.int .i64 0),.nils] false) (.ptr (.own 66060289) 0) g fun h b _ _=>Af 2 a fun i=>Ak i b fun j _=>Af 0 a fun k=>Ak k b fun l _=>Aoy j c d h l a b
theorem Ar0 (a:Aa) (n:Nat) (b c:V) (d:H):Ax EE a ft.get n 63 [b,c] d=S63 a n b c d:=by kernel_rfl
def S64 (i:Aa) (n:Nat) (c d:V) (e:H):O :=
 Ay 67108864 (.row [.fv (.int .i64 0),.fv (.int .i64 0),.nils] false) (.ptr (.own 67108864) 0) e fun a f _ _=>BJ [.fv (.int .i64 0),.fv (.int .i64 0),.nils] [(0,1,c),(2,1,d)] fun g=>Ad 3 a g f fun b _ _=>Ap true 3 a b fun h=>Ao [h] b
theorem Aqd (a:Aa) (n:Nat) (b c:V) (d:H):Ax EE a ft.get n 64 [b,c] d=S64 a n b c d:=by kernel_rfl
def WU (d:V) (e f:H) (a b:V) (g:List V->H->O):O :=
 Bv EE 3 d (.fv (.int .i64 1)) fun c=>BZ (e.own.map (·.1)) [70260746] [a,b,c] f fun h=>g [a,b,c] h
def Xc (a:Aa) (b:H) (c d:V) (e:V->H->O):O :=
 Ai [] false false a 96 [c,.fv (.int .i64 0),d] b fun f g _ _=>e f g
def Xp (d e:AA) (f:V->H->O) (g:V) (a:H) (h:V) (i:Aa) (b:V):O :=
 Ab [] d e ((fun (c:V->H->O)=>Aj g (Ae 3 h a fun j _=>Xc i a b j c) (c b a)) fun k l=>f k l)
def WN (a:V) (c:H) (d e f g h:AA) (i:V->H->O) (j:Aa) (k:V):O :=
 Aq 0 a fun l=>Aq 1 a fun m=>Ay 70260746 (.row [.fv (.int .i64 0),.fv (.int .i64 0),.nils] false) (.ptr (.own 70260746) 0) c fun b n o p=>Ab [(d,e),(f,[]),(g,h)] o p (Ad 3 b l n fun q r s=>Xp r s i m q b j k)
def WD (i j:V) (a:H) (b c:AA) (d:Aa) (e k:V) (l:V->H->O):O :=
 AP 3 i j fun m=>Ae 3 m a fun n f=>Ab [(b,c)] f [] (Ai [] false false d 70 [e,k,n,.fv (.int .i64 2)] a fun o p g h=>Ab [] g h (WN o p g h f b c l d e))
def X2 (a:Aa) (c:H) (b d:V) (e:V->H->O):O :=
 Ai [] false false a 69 [b,d,.fv (.int .i64 2)] c fun f g _ _=>Ai [] false false a 96 [b,.fv (.int .i64 1),f] g fun h i _ _=>e h i
def Ws (i:V) (a:Aa) (b:H) (c d e:V) (f:V->H->O):O :=
 Aj i (Ai [] false false a 30 [.fv (.int .i64 14),.nils] b fun j k g h=>Ab [] g h (WD c d k g h a e j f)) (AP 3 c d fun l=>Ae 3 l b fun m _=>X2 a b e m f)
def X1 (a b:V) (c:H) (d:Aa) (e:V) (f:V->H->O):O :=
 AP 3 a b fun g=>Af 1 g fun h=>Ak h c fun i _=>Ai [] false false d 41 [i,.fv (.int .i64 3)] c fun j k _ _=>AO EE 3 j (.fv (.int .i64 0)) fun l=>Ws l d k a b e f
def WR (c:H) (a b:V) (h:H) (d:V) (i:List V->H->O) (j:Aa) (e:V):O :=
 Ac a true c (fun k=>k b c [] []) fun l f _ _=>Ac a true f (fun m=>GC EE 3 l (.fv (.int .i64 4)) fun n=>m n f [] []) fun o g _ _=>AI a o (.fv (.bool false)) fun p=>Aj p ((fun (q:V->H->O)=>X1 d b g j e q) fun r s=>WU b h s d r i) (Ao [e] g)
def AkX (c:List V) (d e:H) (f:List V->H->O) (g:Aa):O :=
 AH c fun a h=>AH h fun i j=>AH j fun b _=>BF a fun k=>GC EE 3 b k fun l=>WR d l b e a f g i
def S67 (c:Aa) (n:Nat) (b:V) (a:H):O :=
 BZ (a.own.map (·.1)) [70260746] [b,.nils,.fv (.int .i64 0)] a fun d=>BY n (fun e f g=>AkX f g a e c) [b,.nils,.fv (.int .i64 0)] d
theorem Ark (a:Aa) (n:Nat) (b:V) (c:H):Ax EE a ft.get n 67 [b] c=S67 a n b c:=by kernel_rfl
def Aet (c:H) (a d:V):O :=
 Ad 3 a d c fun b _ _=>Ap true 3 a b fun e=>Ao [e,.fv (.bool false)] b
def YN (a:H) (b c:V):O :=
 Ap true 3 b a fun d=>Ao [d,c] a
def Agh (c:H) (a d e:V):O :=
 Ad 3 a d c fun b _ _=>Ap true 3 a b fun f=>Ao [f,e] b
def Y2 (a:H) (c d:V) (e:Aa) (f g h:V):O :=
 Ae 3 c a fun i _=>Ae 3 d a fun j _=>Ai [] false false e 98 [f,i,j,g] a fun b k _ _=>Aq 0 b fun l=>Aq 1 b fun m=>Agh k h l m
def Ad9 (a:H) (b e c f:V):O :=
 Ac b true a (fun g=>g e a [] []) fun h i _ _=>AI b h (.fv (.bool false)) fun j=>Ad 3 c f i fun d k l=>Ab [] k l (Ap true 3 c d fun m=>Ao [m,j] d)
def Aa9 (a:H) (e:V) (f b c d:AA) (g h i j k:V):O :=
 Ae 3 e a fun l m=>Ab [(f,[]),(b,c),(d,[])] m [] (AE (An EE 28 2 [(0,g),(1,l)]) 71317509 a fun n o p q=>Ab [(b,c),(d,[])] p q (BJ [.fv (.int .i64 0),.fv (.int .i64 0),.nils] [(0,1,.fv (.int .i64 26)),(1,1,h),(2,1,n)] fun r=>Ad9 o i j k r))
def Ads (a:AA) (f:Aa) (g:H) (h i j k l m:V):O :=
 Ab [] a [] (Ai [] false false f 41 [h,.fv (.int .i64 5)] g fun n d b c=>Ab [] b c (Ae 3 i d fun o e=>Ab [(b,c),(a,[])] e [] (Aa9 d j e b c a o n k l m)))
def ZS (c d e f g h i j:AA) (k:H) (a l m:V) (n:Aa) (o p q r:V):O :=
 Ab [(e,f),(g,h),(i,[]),(j,[])] c d (Ad 3 a l k fun b s t=>Ab [] s t (Af 1 m fun u=>Ak u b fun v w=>Ads w n b v o a p q r))
def Agq (a:Aa) (e:H) (f g h i:V) (j k l m:AA) (n o p q:V):O :=
 Ai [] false false a 68 [f,g,h,i] e fun b r c d=>Ab [] c d (Aq 0 b fun s=>Aq 1 b fun t=>Ay 71316490 (.row [.fv (.int .i64 0),.fv (.int .i64 0),.nils] false) (.ptr (.own 71316490) 0) r fun u v w x=>ZS w x c d j k l m v u s n a o p t q)
def AeA (b:H) (c:V) (a:AA) (d:Aa) (h i j k l m:V):O :=
 Ae 3 c b fun n e=>Ab [(a,[])] e [] (Ai [] false false d 42 [n,.fv (.int .i64 1)] b fun o p f g=>Ab [(a,[])] f g (Bd EE 3 h (.fv (.int .i64 1)) fun q=>Agq d p i j o q f g e a c k l m))
def AdN (d e f g h i j k:AA) (l:H) (a m n o:V) (p:Aa) (q r s t:V):O :=
 Ab [(f,g),(h,i),(j,[]),(k,[])] d e (Ad 3 a m l fun b u v=>Ab [] u v (Ae 3 n b fun w c=>Ab [] c [] (AeA b o c p q r w a s t)))
def AeQ (a:Aa) (f:H) (b g h i:V) (j k l m:AA) (n o p q:V):O :=
 Ai [] false false a 68 [b,g,h,i] f fun c r d e=>Ab [] d e (Aq 0 c fun s=>Aq 1 c fun t=>Ay 71315466 (.row [.fv (.int .i64 0),.fv (.int .i64 0),.nils] false) (.ptr (.own 71315466) 0) r fun u v w x=>AdN w x d e j k l m v u s n o a p b t q)
def Zj (b:H) (c:V) (a:AA) (d:Aa) (e i j k l:V):O :=
 Ae 3 c b fun m f=>Ab [(a,[])] f [] (Ai [] false false d 42 [m,.fv (.int .i64 0)] b fun n o g h=>Ab [(a,[])] g h (Bd EE 3 e (.fv (.int .i64 1)) fun p=>AeQ d o i j n p g h f a k c e l))
def AcI (a:Aa) (d:H) (e b:V):O :=
 Ai [] false false a 41 [e,.fv (.int .i64 20)] d fun f g _ _=>Bd EE 3 f (.fv (.int .i64 5)) fun h=>Ai [] false false a 31 [h] g fun i j _ _=>Ad 3 b i j fun c _ _=>Ap true 3 b c fun k=>Ao [k,.fv (.bool true)] c
def YD (g:V) (a:H) (b c:V) (d:Aa) (h i e:V):O :=
 Aj g (Ae 3 b a fun j f=>Ab [] f [] (Zj a c f d h i j b e)) (Af 1 c fun k=>Ak k a fun l _=>AcI d a l e)
def Zp (c:H) (a d:V) (e:Aa) (h i j k:V):O :=
 Ac a true c (fun l=>Af 0 d fun m=>l m c [] []) fun n b _ _=>Ac a true b (fun o=>Ak n b fun p q=>o p b q []) fun r f _ _=>Ac a true f (fun s=>Ai [] false false e 41 [r,.fv (.int .i64 2)] f s) fun t g _ _=>Ac a true g (fun u=>AO EE 3 t (.fv (.int .i64 1)) fun v=>u v g [] []) fun w x _ _=>AI a w (.fv (.bool false)) fun y=>YD y x h d e i j k
def Acq (b c:AA) (a:H) (d e:V):O :=
 Ab [] b c (Ap true 3 d a fun f=>Ao [f,e] a)
def Agw (b:H) (c d:V) (e:Aa) (a f:V):O :=
 AE (An EE 28 2 [(0,c),(1,d)]) 71321605 b fun g h i j=>Ab [] i j (Ai [] false false e 30 [.fv (.int .i64 20),g] h fun k l m n=>Ab [] m n (Ad 3 a k l fun o p q=>Acq p q o a f))
def Abi (c:V) (a:H) (d:V) (e:AA) (f:Aa) (g h:V):O :=
 AP 3 c (.fv (.int .i64 0)) fun i=>Ae 3 i a fun j b=>Ab [] b [] (Ae 3 d a fun k l=>Ab [(b,[]),(e,[])] l [] (Agw a j k f g h))
def Agj (d:H) (a e f:V) (g:Aa) (h i:V):O :=
 Ad 3 a e d fun b j k=>Ab [] j k (Af 2 f fun l=>Ak l b fun m c=>Ab [] c [] (Abi m b a c g h i))
def Afg (a b:AA) (c:V) (d:H) (e f g h i j k l m n o:AA) (p:V) (q:Aa) (r:V):O :=
 Ab [] a b (Aq 0 c fun s=>Aq 1 c fun t=>Ay 71320595 (.row [.fv (.int .i64 0),.fv (.int .i64 0),.nils] false) (.ptr (.own 71320595) 0) d fun u v w x=>Ab [(a,b),(e,f),(g,[]),(h,i),(j,[]),(k,[]),(l,m),(n,[]),(o,[])] w x (Agj v u s p q r t))
def Ad4 (b c d e f g h i j:AA) (a:Aa) (m:H) (n o p q r s:V):O :=
 Ab [(c,d),(e,[]),(f,[]),(g,h),(i,[]),(j,[])] b [] (Ai [] false false a 42 [n,.fv (.int .i64 0)] m fun t u k l=>Ab [] k l (Bd EE 3 o (.fv (.int .i64 1)) fun v=>Ai [] false false a 68 [p,q,t,v] u fun w x y z=>Afg y z w x k l b c d e f g h i j r a s))
def Af6 (a:H) (k:V) (b c d e:AA) (f:Aa) (l:V) (m:AA) (n o p q:V):O :=
 Ae 3 k a fun r g=>Ab [(b,c),(d,[]),(e,[])] g [] (Ai [] false false f 28 [r,.fv (.int .i64 1),.fv (.int .i64 0)] a fun s h i j=>Ab [] i j (Ae 3 l h fun t u=>Ad4 u i j g m b c d e f h t n o s p q))
def AfM (a b:AA) (c:V) (d:H) (e f:AA) (h:Aa) (i j k l:V):O :=
 Ab [] a b (Af 2 c fun m=>Ak m d fun n g=>Ab [(a,b),(e,[]),(f,[])] g [] (AP 3 n (.fv (.int .i64 1)) fun o=>Af6 d o a b e f h i g j k c l))
def Aag (a:AA) (e:V) (b:H) (c:Aa) (f g h i j:V):O :=
 Ab [] a [] (AP 3 e (.fv (.int .i64 0)) fun k=>Ae 3 k b fun l d=>Ab [] d [] (Ai [] false false c 96 [f,.fv (.int .i64 0),l] b fun m n o p=>AfM o p g n d a c h i m j))
def Afh (a:H) (b c:V):O :=
 Ap true 3 b a fun d=>Ao [d,c] a
def Aac (d:H) (e f:V) (g:Aa) (a h b:V):O :=
 AE (An EE 28 2 [(0,e),(1,f)]) 71325698 d fun i j _ _=>Ai [] false false g 30 [.fv (.int .i64 22),i] j fun k c _ _=>Ac a true c (fun l=>l h c [] []) fun m n _ _=>AI a m (.fv (.bool false)) fun o=>Ad 3 b k n fun p _ _=>Afh p b o
def Yu (c d e f g h i j k:AA) (l:H) (b m n:V) (o:Aa) (p q r:V):O :=
 Ab [(e,f),(g,h),(i,[]),(j,[]),(k,[])] c d (Ad 3 b m l fun a s t=>Ab [] s t (Ae 3 n a fun u _=>Ae 3 b a fun v _=>Aac a u v o p q r))
def Adm (a:Aa) (e:H) (f g h i:V) (j k l m n:AA) (o p q:V):O :=
 Ai [] false false a 68 [f,g,h,i] e fun b r c d=>Ab [] c d (Aq 0 b fun s=>Aq 1 b fun t=>Ay 71324685 (.row [.fv (.int .i64 0),.fv (.int .i64 0),.nils] false) (.ptr (.own 71324685) 0) r fun u v w x=>Yu w x c d j k l m n v u s o a p t q)
def Afi (c:H) (h:V) (a b:AA) (d:Aa) (i j k l m n:V):O :=
 Ae 3 h c fun o e=>Ab [(a,[]),(b,[])] e [] (Ai [] false false d 42 [o,.fv (.int .i64 1)] c fun p q f g=>Ab [(a,[]),(b,[])] f g (Bd EE 3 i (.fv (.int .i64 1)) fun r=>Adm d q j k p r f g e a b l m n))
def Agu (a:H) (d e:V) (f:Aa) (g h i j k:V):O :=
 Ak d a fun l b=>Ab [] b [] (AP 3 l (.fv (.int .i64 1)) fun m=>Ae 3 m a fun n c=>Ab [] c [] (Afi a e c b f g h n i j k))
def AfT (b:H) (c d e f g h i:AA) (j k l:V) (m:Aa) (n o p q:V):O :=
 Ay 71323661 (.row [.fv (.int .i64 0),.fv (.int .i64 0),.nils] false) (.ptr (.own 71323661) 0) b fun a r s t=>Ab [(c,d),(e,f),(g,[]),(h,[]),(i,[])] s t (Ad 3 a j r fun u v w=>Ab [] v w (Af 2 k fun x=>Agu u x l m n o a p q))
def Acz (a:V) (b:Aa) (g:H) (c h i:V) (j k l m n:AA) (o p q:V):O :=
 Bd EE 3 a (.fv (.int .i64 1)) fun r=>Ai [] false false b 68 [c,h,i,r] g fun d s e f=>Ab [] e f (Aq 0 d fun t=>Aq 1 d fun u=>AfT s e f j k l m n t o p b a c u q)
def AbH (a:AA) (c:H) (d:V) (b:AA) (e:Aa) (i j k l m:V):O :=
 Ab [] a [] (Ae 3 d c fun n f=>Ab [(a,[]),(b,[])] f [] (Ai [] false false e 42 [n,.fv (.int .i64 0)] c fun o p g h=>Ab [(a,[]),(b,[])] g h (Acz i e p j k o g h f a b l d m)))
def AcG (b:V) (a:H) (d:V) (e:Aa) (f g h:V):O :=
 Af 2 b fun i=>Ak i a fun j c=>Ab [] c [] (AP 3 j (.fv (.int .i64 0)) fun k=>Ae 3 k a fun l m=>AbH m a d c e f g l b h)
def Zw (a:H) (d b e:V):O :=
 Ae 3 d a fun f _=>Ad 3 b f a fun c _ _=>Ap true 3 b c fun g=>Ao [g,e] c
def Af4 (h b:V) (a:H) (d:Aa) (e f g c i j k:V):O :=
 Aj h (Af 2 b fun l=>Ak l a fun m n=>Aag n m a d e b f g c) (AO EE 3 i (.fv (.int .i64 17)) fun o=>Aj o (AcG b a f d g e c) (Zw a j c k))
def AdQ (a:V) (b:H) (c e:V) (f:Aa) (g h i j:V):O :=
 Af 0 a fun k=>Ak k b fun d _=>AO EE 3 d (.fv (.int .i64 15)) fun l=>Aj l (LN EE 3 c (.fv (.int .i64 0)) fun m=>Zp b m e f a c g h) (AO EE 3 d (.fv (.int .i64 16)) fun n=>Af4 n a b f g e c h d i j)
def Aaq (b:H) (a l:V) (c:Aa) (d e f g h m n:V):O :=
 Ac a true b (fun o=>Ak l b fun p q=>o p b q []) fun r i _ _=>Ac a true i (fun s=>Ai [] false false c 41 [r,.fv (.int .i64 3)] i s) fun t j _ _=>Ac a true j (fun u=>AO EE 3 t (.fv (.int .i64 1)) fun v=>u v j [] []) fun w k _ _=>AI a w (.fv (.bool false)) fun x=>Aj x (Y2 k d e c f g h) (AdQ d k g e c f h m n)
def AfL (h:V) (a:H) (c b d e f:V) (i:Aa) (j k:V):O :=
 Aj h (Ae 3 c a fun l _=>Ad 3 b l a fun m _ _=>YN m b d) (LN EE 3 e (.fv (.int .i64 0)) fun g=>Ac g true a (fun n=>Af 0 f fun o=>n o a [] []) fun p q _ _=>Aaq q g p i j f k e b c d)
def Aat (c:H) (a g d h i j:V) (k:Aa) (l m:V):O :=
 Ac a true c (fun n=>AO EE 3 g (.fv (.int .i64 0)) fun o=>n o c [] []) fun p e _ _=>AI a p (.fv (.bool false)) fun b=>Ac b false e (fun q=>q d e [] []) fun r f _ _=>Ac b false f (fun s=>GC EE 3 r (.fv (.int .i64 (-4))) fun t=>s t f [] []) fun u v _ _=>AI b (.fv (.bool true)) u fun w=>AfL w v h i a d j k l m
def Z5 (h:H) (i a c:V) (d:Aa) (j k l m:V):O :=
 Ay 71307272 (.row [.fv (.int .i64 0),.fv (.int .i64 0),.nils] false) (.ptr (.own 71307272) 0) h fun e n _ _=>Ad 3 e i n fun f _ _=>Ac a true f (fun o=>Af 0 c fun p=>o p f [] []) fun q b _ _=>Ac a true b (fun r=>Ak q b fun s t=>r s b t []) fun u g _ _=>Ac a true g (fun v=>Ai [] false false d 41 [u,.fv (.int .i64 3)] g v) fun w x _ _=>Aat x a w j e k c d l m
def AaX (a:V) (b:H) (c:Aa) (d f g h i:V):O :=
 Af 1 a fun j=>Ak j b fun k _=>Ai [] false false c 97 [d,.fv (.int .i64 0),f,k] b fun e l _ _=>Aq 0 e fun m=>Aq 1 e fun n=>Z5 l m n a c g h i d
def Y5 (d:V) (e:H) (a f c g:V) (h:Aa) (i j:V):O :=
 Aq 1 d fun k=>Ad 3 a f e fun b _ _=>Ck EE 3 k (.fv (.int .i64 0)) fun l=>Aj l (BJ [.fv (.int .i64 0),.fv (.int .i64 0),.nils] [] fun m=>Aet b c m) (Ae 3 a b fun n _=>AaX g b h i n j c a)
def S68 (a:Aa) (n:Nat) (e f g h:V) (i:H):O :=
 AR 71303168 f i fun b j _ _=>AR 71303169 g j fun k l _ _=>Ay 71303170 (.row [.fv (.int .i64 0),.fv (.int .i64 0),.nils] false) (.ptr (.own 71303170) 0) l fun m c _ _=>Ae 3 b c fun o _=>Ai [] false false a 58 [o] c fun d p _ _=>Aq 0 d fun q=>Y5 d p b q m k a e h
theorem Ar7 (a:Aa) (n:Nat) (b c d e:V) (f:H):Ax EE a ft.get n 68 [b,c,d,e] f=S68 a n b c d e f:=by kernel_rfl
def YG (a:H) (b:V):O :=
 Ap true 3 b a fun c=>Ao [c] a
def Aci (c:Aa) (d:H) (a:V):O :=
 Ai [] false false c 30 [.fv (.int .i64 14),.nils] d fun e f _ _=>Ad 3 a e f fun b _ _=>Ap true 3 a b fun g=>Ao [g] b
def AdT (c:H) (d:V) (e:Aa) (a:V):O :=
 AE (An EE 28 1 [(0,d)]) 72363010 c fun f g _ _=>Ai [] false false e 30 [.fv (.int .i64 18),f] g fun h i _ _=>Ad 3 a h i fun b _ _=>Ap true 3 a b fun j=>Ao [j] b
def Agl (c:Aa) (d:H) (a:V):O :=
 Ai [] false false c 60 [.fv (.int .i64 0)] d fun e f _ _=>Ad 3 a e f fun b _ _=>Ap true 3 a b fun g=>Ao [g] b
def Ae5 (c d:AA) (e:H) (a f:V):O :=
 Ab [] c d (Ad 3 a f e fun b g h=>Ab [] g h (Ap true 3 a b fun i=>Ao [i] b))
def Agk (a:Aa) (b:H) (c d e:V) (f:AA) (g h:V):O :=
 Ai [] false false a 69 [c,d,e] b fun i j k l=>Ab [(f,[])] k l (AE (An EE 28 2 [(0,g),(1,i)]) 72369161 j fun m n o p=>Ab [] o p (Ai [] false false a 30 [.fv (.int .i64 3),m] n fun q r s t=>Ae5 s t r h q))
def YS (b:H) (d:V) (e f g a:AA) (c:Aa) (h i j k:V):O :=
 Ae 3 d b fun l m=>Ab [(e,f),(g,[]),(a,[])] m [] (Ai [] false false c 42 [l,.fv (.int .i64 1)] b fun n o p q=>Ab [(a,[])] p q (Bd EE 3 h (.fv (.int .i64 1)) fun r=>Agk c o i n r a j k))
def ZR (a:AA) (b:H) (g:V) (c:Aa) (h i j k l:V):O :=
 Ab [] a [] (Ae 3 g b fun m d=>Ab [(a,[])] d [] (Ai [] false false c 96 [h,.fv (.int .i64 1),m] b fun n o e f=>Ab [(a,[])] e f (YS o i e f d a c j n k l)))
def Aeb (b:V) (c:Aa) (f:H) (d g h i:V):O :=
 Bd EE 3 b (.fv (.int .i64 1)) fun j=>Ai [] false false c 69 [d,g,j] f fun k l _ _=>Ay 72368134 (.row [.fv (.int .i64 0),.fv (.int .i64 0),.nils] false) (.ptr (.own 72368134) 0) l fun a m _ _=>Ad 3 a k m fun e _ _=>Ae 3 a e fun n o=>ZR o e a c d h b n i
def Z6 (a:H) (b:V):O :=
 Ap true 3 b a fun c=>Ao [c] a
def ZA (b c:AA) (d:Aa) (e:H) (f a:V):O :=
 Ab [] b c (Ai [] false false d 30 [.fv (.int .i64 6),f] e fun g h i j=>Ab [] i j (Ad 3 a g h fun k l m=>Ab [] l m (Z6 k a)))
def Age (c d a:AA) (e:V) (b:Aa) (f:H) (g h i j:V):O :=
 Ab [(a,[])] c d (Bd EE 3 e (.fv (.int .i64 1)) fun k=>Ai [] false false b 69 [g,h,k] f fun l m n o=>Ab [(a,[])] n o (AE (An EE 28 2 [(0,i),(1,l)]) 72372233 m fun p q r s=>ZA r s b q p j))
def Aez (a:Aa) (f:H) (g h:V) (b:AA) (i:V) (j:AA) (k l m:V):O :=
 Ai [] false false a 96 [g,.fv (.int .i64 1),h] f fun n c d e=>Ab [(b,[])] d e (Ae 3 i c fun o p=>Ab [(d,e),(j,[]),(b,[])] p [] (Ai [] false false a 42 [o,.fv (.int .i64 1)] c fun q r s t=>Age s t b k a r n q l m))
def Aav (e:H) (a f:V) (g:Aa) (h i j k:V):O :=
 Ad 3 a f e fun b _ _=>Ae 3 a b fun l c=>Ab [] c [] (Ae 3 a b fun m d=>Ab [(c,[])] d [] (Aez g b h m c i d j l k))
def ZU (b:H) (c:V) (a:Aa) (d e f:V):O :=
 Ae 3 c b fun g _=>Ai [] false false a 42 [g,.fv (.int .i64 0)] b fun h i _ _=>Bd EE 3 d (.fv (.int .i64 1)) fun j=>Ai [] false false a 69 [e,h,j] i fun k l _ _=>Ay 72371206 (.row [.fv (.int .i64 0),.fv (.int .i64 0),.nils] false) (.ptr (.own 72371206) 0) l fun m n _ _=>Aav n m k a e c d f
def Afl (a:H) (b:V):O :=
 Ap true 3 b a fun c=>Ao [c] a
def Yk (c:Aa) (d:H) (e a:V):O :=
 Ai [] false false c 30 [.fv (.int .i64 18),e] d fun f g _ _=>Ad 3 a f g fun b _ _=>Ap true 3 a b fun h=>Ao [h] b
def Aan (d:V) (c:Aa) (a:H) (b e:V):O :=
 C8 (KN .not d) fun f=>Aj f (Ai [] false false c 99 [] a fun g h _ _=>Ad 3 b g h fun i _ _=>Afl i b) (Ae 3 e a fun j _=>AE (An EE 28 1 [(0,j)]) 72376321 a fun k l _ _=>Yk c l k b)
def AcA (b:V) (c:H) (d e f g h i j:AA) (k:V) (l:Aa) (m:V):O :=
 Aq 1 b fun n=>Ay 72373258 (.row [.fv (.int .i64 0),.fv (.int .i64 0),.nils] false) (.ptr (.own 72373258) 0) c fun a o p q=>Ab [(d,e),(f,g),(h,[]),(i,j)] p q (Ad 3 a k o fun r s t=>Ab [] s t (Aan n l r m a))
def Adr (a b:AA) (g:V) (c:Aa) (h:H) (i j k:V) (l m n:AA) (o:V):O :=
 Ab [] a b (Bd EE 3 g (.fv (.int .i64 1)) fun p=>Ai [] false false c 70 [i,j,k,p] h fun d q e f=>Ab [] e f (Aq 0 d fun r=>AcA d q e f a b l m n r c o))
def Ab9 (a:Aa) (f:H) (g h i j:V):O :=
 Ai [] false false a 30 [.fv (.int .i64 14),.nils] f fun k d b c=>Ab [] b c (Ae 3 g d fun l e=>Ab [(b,c)] e [] (Ai [] false false a 42 [l,.fv (.int .i64 0)] d fun m n o p=>Adr o p h a n i k m e b c j))
def Ab7 (g:V) (a:H) (b:V) (c:Aa) (d e f h:V):O :=
 Aj g (Ae 3 b a fun i _=>Ai [] false false c 42 [i,.fv (.int .i64 0)] a fun j k _ _=>Aeb d c k e j b f) (AO EE 3 h (.fv (.int .i64 7)) fun l=>Aj l (ZU a b c d e f) (Ab9 c a b d e f))
def Ac4 (e:V) (f:Aa) (g h i a:V) (b:H):O :=
 (fun (c:V->H->O)=>AO EE 3 a (.fv (.int .i64 5)) fun d=>Aj d (c d b) (AO EE 3 a (.fv (.int .i64 6)) fun j=>c j b)) fun k l=>Ab7 k l e f g h i a
def AdG (c:V) (a:H) (e:V) (b:Aa) (d f g:V):O :=
 AO EE 3 c (.fv (.int .i64 3)) fun h=>Aj h (Ae 3 e a fun i _=>Ai [] false false b 14 [i,.fv (.int .i64 1)] a fun j k _ _=>AdT k j b d) (AO EE 3 c (.fv (.int .i64 4)) fun l=>Aj l (Agl b a d) (Ac4 e b f g d c a))
def AfK (e:V) (b:Aa) (c:H) (a d f g h:V):O :=
 Aj e (Ai [] false false b 99 [] c fun i j _ _=>Ad 3 a i j fun k _ _=>YG k a) (AO EE 3 d (.fv (.int .i64 2)) fun l=>Aj l (Aci b c a) (AdG d c f b a g h))
def AcJ (e:Aa) (f a g h i:V) (b:H):O :=
 (fun (c:V->H->O)=>AO EE 3 a (.fv (.int .i64 0)) fun d=>Aj d (c d b) (AO EE 3 a (.fv (.int .i64 1)) fun j=>c j b)) fun k l=>AfK k e l f a g h i
def AdE (a:V) (b:V->H->O) (c:H):O :=
 CC EE 3 .rem a (.fv (.int .i64 5)) fun d=>b d c
def AaV (g:V) (c:H) (a:V) (d:V->H->O):O :=
 leS EE 3 g (.fv (.int .i64 0)) fun b=>Ac b true c (fun h=>h a c [] []) fun i e _ _=>Ac b true e (fun j=>LN EE 3 i (.fv (.int .i64 4)) fun k=>j k e [] []) fun l f _ _=>AI b l (.fv (.bool false)) fun m=>Aj m (AdE a d f) (d a f)
def S69 (a:Aa) (n:Nat) (e f b:V) (g:H):O :=
 AR 72351744 f g fun c h _ _=>Ay 72351745 (.row [.fv (.int .i64 0),.fv (.int .i64 0),.nils] false) (.ptr (.own 72351745) 0) h fun i d _ _=>Af 0 c fun j=>Ak j d fun k _=>Ai [] false false a 41 [k,.fv (.int .i64 9)] d fun l m _ _=>(fun (o:V->H->O)=>AaV b m l o) fun p q=>AcJ a i p c b e q
theorem ArR (a:Aa) (n:Nat) (b c d:V) (e:H):Ax EE a ft.get n 69 [b,c,d] e=S69 a n b c d e:=by kernel_rfl
def Zv (c:H) (a d:V):O :=
 Ad 3 a d c fun b _ _=>Ap true 3 a b fun e=>Ao [e,.fv (.bool false)] b
def Abx (a:H) (b c:V):O :=
 Ap true 3 b a fun d=>Ao [d,c] a
def AaS (c:H) (a d e:V):O :=
 Ad 3 a d c fun b _ _=>Ap true 3 a b fun f=>Ao [f,e] b
def AcP (a:H) (c d:V) (e:Aa) (f g h:V):O :=
 Ae 3 c a fun i _=>Ae 3 d a fun j _=>Ai [] false false e 100 [f,i,j,g] a fun b k _ _=>Aq 0 b fun l=>Aq 1 b fun m=>AaS k h l m
def Aa5 (d:Aa) (e:H) (f g h i a:V):O :=
 Ai [] false false d 101 [f,g,h,i] e fun b j _ _=>Aq 0 b fun k=>Aq 1 b fun l=>Ad 3 a k j fun c _ _=>Ap true 3 a c fun m=>Ao [m,l] c
def Aec (b c:AA) (a:H) (d e:V):O :=
 Ab [] b c (Ap true 3 d a fun f=>Ao [f,e] a)
def AaK (b:H) (c d:V) (e:Aa) (a f:V):O :=
 AE (An EE 28 2 [(0,c),(1,d)]) 73416709 b fun g h i j=>Ab [] i j (Ai [] false false e 30 [.fv (.int .i64 4),g] h fun k l m n=>Ab [] m n (Ad 3 a k l fun o p q=>Aec p q o a f))
def Ae3 (c:V) (a:H) (d:V) (e:AA) (f:Aa) (g h:V):O :=
 AP 3 c (.fv (.int .i64 0)) fun i=>Ae 3 i a fun j b=>Ab [] b [] (Ae 3 d a fun k l=>Ab [(b,[]),(e,[])] l [] (AaK a j k f g h))
def AdS (d:H) (a e f:V) (g:Aa) (h i:V):O :=
 Ad 3 a e d fun b j k=>Ab [] j k (Af 2 f fun l=>Ak l b fun m c=>Ab [] c [] (Ae3 m b a c g h i))
def AbB (a b:AA) (c:V) (d:H) (e f g h i j k l m:AA) (n:V) (o:Aa) (p:V):O :=
 Ab [] a b (Aq 0 c fun q=>Aq 1 c fun r=>Ay 73415698 (.row [.fv (.int .i64 0),.fv (.int .i64 0),.nils] false) (.ptr (.own 73415698) 0) d fun s t u v=>Ab [(a,b),(e,f),(g,[]),(h,[]),(i,[]),(j,k),(l,[]),(m,[])] u v (AdS t s q n o p r))
def Aal (d a b e f g h:AA) (c:Aa) (k:H) (l m n o p q:V):O :=
 Ab [(a,[]),(b,[]),(e,f),(g,[]),(h,[])] d [] (Ai [] false false c 42 [l,.fv (.int .i64 0)] k fun r s i j=>Ab [(a,[]),(b,[])] i j (Bd EE 3 m (.fv (.int .i64 1)) fun t=>Ai [] false false c 70 [n,o,r,t] s fun u v w x=>AbB w x u v i j d a b e f g h p c q))
def Aco (f a b c d:AA) (h:V) (e:H) (i:V) (j:Aa) (k l m n:V):O :=
 Ab [(a,b),(c,[]),(d,[])] f [] (AP 3 h (.fv (.int .i64 1)) fun o=>Ae 3 o e fun p g=>Ab [(a,b),(c,[]),(d,[])] g [] (Ae 3 i e fun q r=>Aal r g f a b c d j e q k l p m n))
def AeO (a:AA) (b:Aa) (g:H) (h i c:V) (j:AA) (k l m:V):O :=
 Ab [] a [] (Ai [] false false b 96 [h,.fv (.int .i64 1),i] g fun n d e f=>Ab [] e f (Af 2 c fun o=>Ak o d fun p q=>Aco q e f a j p d k b l n c m))
def YJ (b:V) (a:H) (d:Aa) (e f g h:V):O :=
 Af 2 b fun i=>Ak i a fun j c=>Ab [] c [] (AP 3 j (.fv (.int .i64 0)) fun k=>Ae 3 k a fun l m=>AeO m d a e l b c f g h)
def Z4 (c:H) (a d e:V):O :=
 Ad 3 a d c fun b _ _=>Ap true 3 a b fun f=>Ao [f,e] b
def Acv (c:H) (d e f:V) (g:Aa) (a h:V):O :=
 AE (An EE 28 3 [(0,d),(1,e),(2,f)]) 73422851 c fun i j _ _=>Ai [] false false g 30 [.fv (.int .i64 7),i] j fun k l _ _=>Ad 3 a k l fun b _ _=>Ap true 3 a b fun m=>Ao [m,h] b
def AeF (c:H) (b d e f:V) (g:Aa) (h i:V):O :=
 Ad 3 b d c fun a j k=>Ab [] j k (Ae 3 e a fun l _=>Ae 3 f a fun m _=>Ae 3 b a fun n _=>Acv a l m n g h i)
def Aev (a b:AA) (c:V) (d:H) (e f g h i j k l:AA) (m n:V) (o:Aa) (p:V):O :=
 Ab [] a b (Aq 0 c fun q=>Aq 1 c fun r=>Ay 73421839 (.row [.fv (.int .i64 0),.fv (.int .i64 0),.nils] false) (.ptr (.own 73421839) 0) d fun s t u v=>Ab [(a,b),(e,f),(g,[]),(h,i),(j,[]),(k,[]),(l,[])] u v (AeF t s q m n o p r))
def AeZ (b c d e f g:AA) (a:Aa) (j:H) (k l m n o p q:V):O :=
 Ab [(c,d),(e,[]),(f,[]),(g,[])] b [] (Ai [] false false a 42 [k,.fv (.int .i64 1)] j fun r s h i=>Ab [] h i (Bd EE 3 l (.fv (.int .i64 1)) fun t=>Ai [] false false a 70 [m,n,r,t] s fun u v w x=>Aev w x u v h i b c d e f g o p a q))
def AfG (a:H) (b:V) (c d:AA) (e:Aa) (j k l m n o:V):O :=
 Ae 3 b a fun p f=>Ab [(c,[]),(d,[])] f [] (Ai [] false false e 89 [j,.fv (.int .i64 0),p] a fun q g h i=>Ab [] h i (Ae 3 k g fun r s=>AeZ s h i f c d e g r l m q n b o))
def AbF (a:H) (d e:V) (f:Aa) (g h i j k:V):O :=
 Ak d a fun l b=>Ab [] b [] (AP 3 l (.fv (.int .i64 1)) fun m=>Ae 3 m a fun n c=>Ab [] c [] (AfG a e c b f n g h i j k))
def YT (e:H) (b f g h c i d:V) (j:Aa) (k l m:V):O :=
 Ad 3 b f e fun a n o=>Ab [] n o (C8 (KN .not g) fun p=>Aj p (Ae 3 h a fun q _=>Z4 a c q i) (Af 2 d fun r=>AbF a r b j k l m d c))
def Agv (a b:AA) (c:V) (d:H) (e f g h i:AA) (j k l m:V) (n:Aa) (o p q:V):O :=
 Ab [] a b (Aq 0 c fun r=>Aq 1 c fun s=>Ay 73418765 (.row [.fv (.int .i64 0),.fv (.int .i64 0),.nils] false) (.ptr (.own 73418765) 0) d fun t u v w=>Ab [(a,b),(e,f),(g,[]),(h,[]),(i,[])] v w (YT u t r s j k l m n o p q))
def Aen (d a b:AA) (c:Aa) (i:H) (j e f k l m n o p:V):O :=
 Ab [(a,[]),(b,[])] d [] (Ai [] false false c 42 [j,.fv (.int .i64 0)] i fun q r g h=>Ab [(a,[]),(b,[])] g h (Bd EE 3 e (.fv (.int .i64 1)) fun s=>Ai [] false false c 70 [f,k,q,s] r fun t u v w=>Agv v w t u g h d a b l m n o c p e f))
def Af9 (b:AA) (e:V) (a:H) (c:V) (f:Aa) (g h i j k l:V):O :=
 Ab [] b [] (AP 3 e (.fv (.int .i64 0)) fun m=>Ae 3 m a fun n d=>Ab [] d [] (Ae 3 c a fun o p=>Aen p d b f a o g h n i j k l c))
def Ac7 (c:H) (d:V) (e:Aa) (a f:V):O :=
 AE (An EE 28 1 [(0,d)]) 73425921 c fun g h _ _=>Ai [] false false e 30 [.fv (.int .i64 19),g] h fun i j _ _=>Ad 3 a i j fun b _ _=>Ap true 3 a b fun k=>Ao [k,f] b
def Z2 (c:H) (d e f g h i j:AA) (k:V) (l:Aa) (m n:V):O :=
 Ay 73424909 (.row [.fv (.int .i64 0),.fv (.int .i64 0),.nils] false) (.ptr (.own 73424909) 0) c fun a o p q=>Ab [(d,e),(f,g),(h,[]),(i,[]),(j,[])] p q (Ad 3 a k o fun b r s=>Ab [] r s (Ae 3 a b fun t _=>Ac7 b t l m n))
def Z9 (e:V) (a:Aa) (f:H) (g h i:V) (j k l m n:AA) (o:V):O :=
 Bd EE 3 e (.fv (.int .i64 1)) fun p=>Ai [] false false a 68 [g,h,i,p] f fun b q c d=>Ab [] c d (Aq 0 b fun r=>Aq 1 b fun s=>Z2 q c d j k l m n r a o s)
def AeU (a:AA) (c:H) (h:V) (b:AA) (d:Aa) (i j k l:V):O :=
 Ab [] a [] (Ae 3 h c fun m e=>Ab [(a,[]),(b,[])] e [] (Ai [] false false d 42 [m,.fv (.int .i64 0)] c fun n o f g=>Ab [(a,[]),(b,[])] f g (Z9 i d o j k n f g e a b l)))
def Zn (c:V) (a:H) (d:V) (e:Aa) (f g h:V):O :=
 Af 2 c fun i=>Ak i a fun j b=>Ab [] b [] (AP 3 j (.fv (.int .i64 0)) fun k=>Ae 3 k a fun l m=>AeU m a d b e f g l h)
def Y7 (a:H) (d b e:V):O :=
 Ae 3 d a fun f _=>Ad 3 b f a fun c _ _=>Ap true 3 b c fun g=>Ao [g,e] c
def Y8 (d b:V) (a:H) (e:V) (f:Aa) (g h i c j:V):O :=
 AO EE 3 d (.fv (.int .i64 6)) fun k=>Aj k (Af 2 b fun l=>Ak l a fun m n=>Af9 n m a e f g h i c j b) (AO EE 3 d (.fv (.int .i64 18)) fun o=>Aj o (Zn b a e f g h c) (Y7 a i c j))
def AeD (i:V) (a:H) (b c:V) (d:Aa) (e f g h j k:V):O :=
 Aj i (Ae 3 b a fun l _=>Ae 3 c a fun m _=>Aa5 d a e l m f g) (AO EE 3 h (.fv (.int .i64 3)) fun n=>Aj n (YJ b a d e c f g) (Y8 h b a c d f e j g k))
def Zk (a:V) (b:V->H->O) (c:H):O :=
 AO EE 3 a (.fv (.int .i64 14)) fun d=>Aj d (b d c) (AO EE 3 a (.fv (.int .i64 2)) fun e=>b e c)
def AfD (c:V) (a:H) (f:V) (g:Aa) (h i j k l:V):O :=
 Af 0 c fun m=>Ak m a fun b _=>(fun (d:V->H->O)=>AO EE 3 b (.fv (.int .i64 10)) fun e=>Aj e (d e a) (Zk b d a)) fun n o=>AeD n o c f g h i j b k l
def Afw (b:H) (a l:V) (c:Aa) (d e f g h m n:V):O :=
 Ac a true b (fun o=>Ak l b fun p q=>o p b q []) fun r i _ _=>Ac a true i (fun s=>Ai [] false false c 41 [r,.fv (.int .i64 7)] i s) fun t j _ _=>Ac a true j (fun u=>AO EE 3 t (.fv (.int .i64 6)) fun v=>u v j [] []) fun w k _ _=>AI a w (.fv (.bool false)) fun x=>Aj x (AcP k d e c f g h) (AfD d k e c f g h m n)
def Acp (h:V) (a:H) (c b d e f:V) (i:Aa) (j k:V):O :=
 Aj h (Ae 3 c a fun l _=>Ad 3 b l a fun m _ _=>Abx m b d) (LN EE 3 e (.fv (.int .i64 0)) fun g=>Ac g true a (fun n=>Af 0 f fun o=>n o a [] []) fun p q _ _=>Afw q g p i j f k e b c d)
def Agc (c:H) (a g d h i j:V) (k:Aa) (l m:V):O :=
 Ac a true c (fun n=>AO EE 3 g (.fv (.int .i64 0)) fun o=>n o c [] []) fun p e _ _=>AI a p (.fv (.bool false)) fun b=>Ac b false e (fun q=>q d e [] []) fun r f _ _=>Ac b false f (fun s=>GC EE 3 r (.fv (.int .i64 (-4))) fun t=>s t f [] []) fun u v _ _=>AI b (.fv (.bool true)) u fun w=>Acp w v h i a d j k l m
def AeW (h:H) (i a c:V) (d:Aa) (j k l m:V):O :=
 Ay 73404424 (.row [.fv (.int .i64 0),.fv (.int .i64 0),.nils] false) (.ptr (.own 73404424) 0) h fun e n _ _=>Ad 3 e i n fun f _ _=>Ac a true f (fun o=>Af 0 c fun p=>o p f [] []) fun q b _ _=>Ac a true b (fun r=>Ak q b fun s t=>r s b t []) fun u g _ _=>Ac a true g (fun v=>Ai [] false false d 41 [u,.fv (.int .i64 3)] g v) fun w x _ _=>Agc x a w j e k c d l m
def Zr (a:V) (b:H) (c:Aa) (d f g h i:V):O :=
 Af 1 a fun j=>Ak j b fun k _=>Ai [] false false c 97 [d,.fv (.int .i64 1),f,k] b fun e l _ _=>Aq 0 e fun m=>Aq 1 e fun n=>AeW l m n a c g h i d
def Aem (d:V) (e:H) (a f c g:V) (h:Aa) (i j:V):O :=
 Aq 1 d fun k=>Ad 3 a f e fun b _ _=>Ck EE 3 k (.fv (.int .i64 0)) fun l=>Aj l (BJ [.fv (.int .i64 0),.fv (.int .i64 0),.nils] [] fun m=>Zv b c m) (Ae 3 a b fun n _=>Zr g b h i n j c a)
def S70 (a:Aa) (n:Nat) (e f g h:V) (i:H):O :=
 AR 73400320 f i fun b j _ _=>AR 73400321 g j fun k l _ _=>Ay 73400322 (.row [.fv (.int .i64 0),.fv (.int .i64 0),.nils] false) (.ptr (.own 73400322) 0) l fun m c _ _=>Ae 3 b c fun o _=>Ai [] false false a 58 [o] c fun d p _ _=>Aq 0 d fun q=>Aem d p b q m k a e h
theorem AqC (a:Aa) (n:Nat) (b c d e:V) (f:H):Ax EE a ft.get n 70 [b,c,d,e] f=S70 a n b c d e f:=by kernel_rfl
def Qo (a:V) (b:H) (h:V) (i:H) (c d e f:V) (j:List V->H->O):O :=
 Ck EE 35 a (.fv (.int .i64 0)) fun k=>Aj k (Ao [a] b) (Bv EE 3 h (.fv (.int .i64 1)) fun g=>BZ (i.own.map (·.1)) [74457090] [c,d,e,f,g] b fun l=>j [c,d,e,f,g] l)
def RN (e:H) (f a:V) (g:Aa) (b h:V) (i:H) (j k:V) (l:List V->H->O):O :=
 Ay 74457090 (.row [.fv (.int .i64 0),.fv (.int .i64 0),.nils] false) (.ptr (.own 74457090) 0) e fun c m _ _=>Ad 3 c f m fun d _ _=>Ae 3 c d fun n _=>Bv EE 3 a (.fv (.int .i64 1)) fun o=>Ai [false,true,false] false false g 71 [n,b,o] d fun p q _ _=>Qo p q h i b a j k l
def RO (a c d:V) (b:H) (e:V) (f:Aa) (g:V) (h:H) (i:List V->H->O):O :=
 GC EE 3 a c fun j=>Aj j (AP 3 d a fun k=>Ae 3 k b fun l _=>RN b l e f g a h d c i) (Ao [.fv (.int .i64 0)] b)
def YX (a:List V) (b:H) (c:Aa) (d:H) (e:List V->H->O):O :=
 AH a fun f g=>AH g fun h i=>AH i fun j k=>AH k fun l m=>AH m fun n _=>RO n l j b h c f d e
def R4 (b:H) (g:V) (c:H) (d e:V) (n:Nat) (h:Aa):O :=
 Ak g b fun a _=>BF a fun f=>BZ (c.own.map (·.1)) [74457090] [d,e,a,f,.fv (.int .i64 0)] b fun i=>BY n (fun j k l=>YX k l h c j) [d,e,a,f,.fv (.int .i64 0)] i
def Re (d e:AA) (a:H) (b f g:V) (h:H) (i j:V) (n:Nat) (k:Aa):O :=
 Ab [] d e (Ac b false a (fun l=>C8 (KN .not f) fun m=>l m a [] []) fun o c _ _=>AI b (.fv (.bool true)) o fun p=>Aj p (Ao [.fv (.int .i64 1)] c) (Af 2 g fun q=>R4 c q h i j n k))
def Sc (c d:AA) (e:H) (a f:V) (g:Aa) (i:V) (j:H) (k l:V) (n:Nat):O :=
 Ab [] c d (Ac a false e (fun m=>Af 1 f fun o=>m o e [] []) fun p b _ _=>Ac a false b (fun q=>Ak p b fun r s=>q r b s []) fun t h u v=>Ab [(c,d)] u v (Ac a false h (fun w=>Ai [] false false g 103 [i,t] h w) fun x y z A=>Re z A y a x f j k l n g))
def Qa (e f g h:AA) (i j:V) (c:H) (d:V) (k:Aa) (l:H) (m o:V) (n:Nat):O :=
 Ab [(f,g),(h,[])] e [] (BF i fun p=>Ck EE 3 j p fun a=>Ac a false c (fun q=>Af 0 d fun r=>q r c [] []) fun s b _ _=>Ac a false b (fun t=>Ak s b fun u v=>t u b v []) fun w x y z=>Sc y z x a d k w l m o n)
def RK (a:AA) (b:Aa) (g:H) (h c:V) (i:H) (j k:V) (n:Nat):O :=
 Ab [] a [] (Ai [] false false b 102 [h] g fun l d e f=>Ab [] e f (Af 2 c fun m=>Ak m d fun o p=>Qa p e f a o l d c b i j k n))
def Sq (c d:V) (a:H) (b:V) (e:Aa) (f:H) (g h:V) (n:Nat):O :=
 AI c (.fv (.bool true)) d fun i=>Aj i (Ao [.fv (.int .i64 5)] a) (Af 0 b fun j=>Ak j a fun k l=>RK l e a k b f g h n)
def Sm (c:V) (a:H) (d f:V) (g:Aa) (h:H) (n:Nat):O :=
 A0 c fun i=>Ak i a fun j _=>LN EE 3 j (.fv (.int .i64 3000)) fun b=>Ac b false a (fun k=>k d a [] []) fun l e _ _=>Ac b false e (fun m=>LN EE 3 l (.fv (.int .i64 120)) fun o=>m o e [] []) fun p q _ _=>Sq b p q f g h c d n
def S71 (d:Aa) (n:Nat) (e a f:V) (b:H):O :=
 AR 74448896 e b fun g c _ _=>A0 a fun h=>Ak h c fun i _=>Bv EE 3 i (.fv (.int .i64 1)) fun j=>A0 a fun k=>B6 k j c fun l _ _=>Sm a l f g d b n
theorem AqV (a:Aa) (n:Nat) (b c d:V) (e:H):Ax EE a ft.get n 71 [b,c,d] e=S71 a n b c d e:=by kernel_rfl
def Qz (d:Aa) (e:H) (a f b:V) (g:List V->H->O) (h i:V):O :=
 Pa EE d a [f] e fun j c _ _=>Aj j (Ao [b] c) (Bv EE 3 b (.fv (.int .i64 1)) fun k=>g [h,a,i,k] c)
def R0 (d b c:V) (a:H) (e:Aa) (f:V) (g:List V->H->O) (h:V):O :=
 Aj d (AP 3 b c fun i=>Ae 3 i a fun j _=>Qz e a f j c g b h) (Ao [.fv (.int .i64 (-1))] a)
def W3 (c:List V) (d:H) (e:Aa) (f:List V->H->O):O :=
 AH c fun g h=>AH h fun i j=>AH j fun a k=>AH k fun b _=>GC EE 3 b a fun l=>R0 l g b d e i f a
def S72 (b:Aa) (n:Nat) (a c:V) (d:H):O :=
 BF a fun e=>BY n (fun f g h=>W3 g h b f) [a,c,e,.fv (.int .i64 0)] d
theorem Asc (a:Aa) (n:Nat) (b c:V) (d:H):Ax EE a ft.get n 72 [b,c] d=S72 a n b c d:=by kernel_rfl
def Sl (b:H) (a g:V) (h:Aa) (i:V) (c:V->H->O) (j:V):O :=
 Ac a true b (fun k=>Ae 3 g b fun l m=>k l b m []) fun n d _ _=>Ac a true d (fun o=>Ai [] false false h 104 [i,n] d o) fun p e _ _=>Ac a true e (fun q=>C8 (KN .not p) fun r=>q r e [] []) fun s f _ _=>AI a s (.fv (.bool false)) fun t=>Aj t (c (.fv (.int .i64 11)) f) (c j f)
def RQ (e:H) (f b g:V) (h:Aa):O :=
 Ay 76547078 (.row [.fv (.int .i64 0),.fv (.int .i64 0),.nils] false) (.ptr (.own 76547078) 0) e fun c i _ _=>Ad 3 c f i fun a _ _=>(fun (j:V->H->O)=>AO EE 35 b (.fv (.int .i64 0)) fun d=>Ac d true a (fun k=>Ae 3 g a fun l m=>k l a m []) fun n o _ _=>Sl o d c h n j b) fun p q=>Ao [p] q
def S73 (a:Aa) (n:Nat) (d e f:V) (g:H):O :=
 AR 76546048 e g fun h i _ _=>AR 76546049 f i fun j b _ _=>Ae 3 h b fun k _=>Ai [] false false a 53 [d,k] b fun c l _ _=>Aq 0 c fun m=>Aq 1 c fun o=>RQ l m o j a
theorem Arr (a:Aa) (n:Nat) (b c d:V) (e:H):Ax EE a ft.get n 73 [b,c,d] e=S73 a n b c d e:=by kernel_rfl
def Ml (c:H) (a:V):O :=
 BJ [.fv (.int .i64 0),.fv (.int .i64 0),.nils] [] fun d=>Ad 3 a d c fun b _ _=>Ap true 3 a b fun e=>Ao [e,.fv (.int .i64 10)] b
def L6 (c d e:AA) (f:H) (a g h:V):O :=
 Ab [(e,[])] c d (Ad 3 a g f fun b i j=>Ab [] i j (Ap true 3 a b fun k=>Ao [k,h] b))
def Mq (a:H) (g:V) (c d e b:AA) (h:V) (i:Aa) (j k l:V):O :=
 Ae 3 g a fun m f=>Ab [(c,d),(e,[]),(b,[])] f [] (Ae 3 h a fun n o=>Ab [(f,[]),(c,d),(e,[]),(b,[])] o [] (Ai [] false false i 73 [j,m,n] a fun p q r s=>L6 r s b q k l p))
def L4 (a:AA) (b:H) (c:V) (d:Aa) (h i j k:V):O :=
 Ab [] a [] (Ae 3 c b fun l e=>Ab [(a,[])] e [] (Ai [] false false d 75 [h,l] b fun m n f g=>Ab [(a,[])] f g (Mq n i f g e a c d m j k)))
def LS (c:H) (a d e:V):O :=
 Ad 3 a d c fun b _ _=>Ap true 3 a b fun f=>Ao [f,e] b
def Mw (c:H) (d e:V) (a:Aa) (f g:V):O :=
 AE (An EE 28 2 [(0,d),(1,e)]) 77601794 c fun h i _ _=>Ai [] false false a 64 [.fv (.int .i64 16),h] i fun j k _ _=>Ai [] false false a 105 [j,f] k fun b l _ _=>Aq 0 b fun m=>Aq 1 b fun n=>LS l g m n
def Mp (c d e f g h i j:AA) (k:H) (b l m:V) (n:Aa) (o p:V):O :=
 Ab [(e,f),(g,[]),(h,i),(j,[])] c d (Ad 3 b l k fun a q r=>Ab [] q r (Ae 3 m a fun s _=>Ae 3 b a fun t _=>Mw a s t n o p))
def Mz (a:Aa) (e:H) (f g:V) (h i j k:AA) (l m:V):O :=
 Ai [] false false a 53 [f,g] e fun b n c d=>Ab [] c d (Aq 0 b fun o=>Aq 1 b fun p=>Ay 77600776 (.row [.fv (.int .i64 0),.fv (.int .i64 0),.nils] false) (.ptr (.own 77600776) 0) n fun q r s t=>Mp s t c d h i j k r q o l a p m)
def L3 (a:AA) (d:Aa) (g:H) (h i j k l:V):O :=
 Ab [] a [] (Ai [] false false d 75 [h,i] g fun m e b c=>Ab [] b c (Ae 3 j e fun n f=>Ab [(b,c),(a,[])] f [] (Mz d e m n f b c a k l)))
def LV (g:V) (a:H) (b:V) (c:Aa) (d e f:V):O :=
 Af 0 g fun h=>Ak h a fun i _=>AO EE 3 i (.fv (.int .i64 29)) fun j=>Aj j (Ae 3 b a fun k l=>L4 l a b c d e f k) (Ae 3 b a fun m n=>L3 n c a d m e b f)
def Mg (f g:AA) (a:H) (b:V) (c:Aa) (d h i j:V):O :=
 Ab [] f g (Ae 3 b a fun k _=>Ai [] false false c 52 [k] a fun l e _ _=>C8 (KN .not l) fun m=>Aj m (Ml e d) (LV h e b c i j d))
def LY (e:H) (f g a b h i:AA) (c j k:V) (l:Aa) (m n o:V):O :=
 Ay 77595657 (.row [.fv (.int .i64 0),.fv (.int .i64 0),.nils] false) (.ptr (.own 77595657) 0) e fun d p q r=>Ab [(f,g),(a,[]),(b,[]),(h,[]),(i,[])] q r (Ad 3 c j p fun s t u=>Ab [(a,[]),(b,[])] t u (Ad 3 d k s fun v w x=>Mg w x v c l m n o d))
def Mc (h:V) (d:H) (a b e:AA) (i:V) (j:Aa) (k l m:V):O :=
 AP 3 h (.fv (.int .i64 1)) fun n=>Ae 3 n d fun o c=>Ab [(a,[]),(b,[])] c [] (Ay 77595656 (.row [.fv (.int .i64 0),.fv (.int .i64 0),.nils] false) (.ptr (.own 77595656) 0) d fun p q f g=>Ab [(c,[]),(e,[]),(a,[]),(b,[])] f g (LY q f g c e a b p i o j k l m))
def Mr (a:H) (f c:V) (d:AA) (g:Aa) (h i:V):O :=
 Ae 3 f a fun j b=>Ab [] b [] (Af 2 c fun k=>Ak k a fun l e=>Ab [(b,[]),(d,[])] e [] (Mc l a b d e j g h c i))
def S74 (d:Aa) (n:Nat) (e f:V) (g:H):O :=
 AR 77594624 f g fun a h _ _=>Ay 77594625 (.row [.fv (.int .i64 0),.fv (.int .i64 0),.nils] false) (.ptr (.own 77594625) 0) h fun i b _ _=>Af 2 a fun j=>Ak j b fun k c=>Ab [] c [] (AP 3 k (.fv (.int .i64 0)) fun l=>Mr b l a c d i e)
theorem Asr (a:Aa) (n:Nat) (b c:V) (d:H):Ax EE a ft.get n 74 [b,c] d=S74 a n b c d:=by kernel_rfl
def AjQ (e a b c d:AA) (f:H) (g h:V):O :=
 Ab [(a,b),(c,d)] e [] (AE (An EE 78 1 [(0,g)]) 78644228 f fun i j k l=>Ab [(a,b),(c,d)] k l (AE (AJ EE 78644229 false .append [78,78] [h,i]) 78644229 j fun m n o p=>Ab [] o p (Ao [m] n)))
def S75 (a:Aa) (n:Nat) (g h:V) (i:H):O :=
 AR 78643200 h i fun j k _ _=>Ai [] true false a 107 [g] k fun l m b c=>Ab [] b c (Ai [] false true a 106 [l] m fun o d e f=>Ab [] e f (Ae 3 j d fun p q=>AjQ q e f b c d p o))
theorem ApU (a:Aa) (n:Nat) (b c:V) (d:H):Ax EE a ft.get n 75 [b,c] d=S75 a n b c d:=by kernel_rfl
def Ac8 (a:H) (b c:V):O :=
 Ap true 3 b a fun d=>Ao [d,c] a
def Ad0 (a:V) (d:H) (b:V):O :=
 Aq 0 a fun e=>Aq 1 a fun f=>Ad 3 b e d fun c _ _=>Ap true 3 b c fun g=>Ao [g,f] c
def YF (a:H) (c d:V) (b:Aa) (e f:V):O :=
 Ae 3 c a fun g _=>Ae 3 d a fun h _=>AE (An EE 28 2 [(0,g),(1,h)]) 79699970 a fun i j _ _=>Ai [] false false b 64 [.fv (.int .i64 17),i] j fun k l _ _=>Ai [] false false b 105 [k,e] l fun m n _ _=>Ad0 m n f
def AeI (a:Aa) (d:H) (e f g h:V):O :=
 Ai [] false false a 53 [e,f] d fun b i _ _=>Aq 0 b fun j=>Aq 1 b fun k=>Ay 79698952 (.row [.fv (.int .i64 0),.fv (.int .i64 0),.nils] false) (.ptr (.own 79698952) 0) i fun c l _ _=>Ad 3 c j l fun m _ _=>YF m g c a k h
def Ab5 (c:V) (a:H) (b d:V) (e:Aa) (f g:V):O :=
 Ck EE 35 c (.fv (.int .i64 0)) fun h=>Aj h (BJ [.fv (.int .i64 0),.fv (.int .i64 0),.nils] [] fun i=>Ad 3 b i a fun j _ _=>Ac8 j b c) (AP 3 d (.fv (.int .i64 1)) fun k=>Ae 3 k a fun l _=>AeI e a f l g b)
def Zf (a:Aa) (e:H) (b f g h:V):O :=
 Ai [] false false a 53 [b,f] e fun c i _ _=>Aq 0 c fun j=>Aq 1 c fun k=>Ay 79695880 (.row [.fv (.int .i64 0),.fv (.int .i64 0),.nils] false) (.ptr (.own 79695880) 0) i fun d l _ _=>Ad 3 d j l fun m _ _=>Ab5 k m g h a b d
def Abb (a:H) (b c:V):O :=
 Ap true 3 b a fun d=>Ao [d,c] a
def Za (c:Aa) (d:H) (e f g:V) (h:AA) (a i:V):O :=
 Ai [] false false c 73 [e,f,g] d fun j k l m=>Ab [(h,[])] l m (Ad 3 a i k fun b n o=>Ab [] n o (Ap true 3 a b fun p=>Ao [p,j] b))
def Zd (d:V) (a:H) (b:AA) (e:V) (f:Aa) (g h i:V):O :=
 AP 3 d (.fv (.int .i64 1)) fun j=>Ae 3 j a fun k c=>Ab [(b,[])] c [] (Ae 3 e a fun l m=>Ab [(c,[]),(b,[])] m [] (Za f a g k l b h i))
def Af1 (c:V) (a:H) (b e f g:V) (h:Aa) (i:V):O :=
 Ck EE 35 c (.fv (.int .i64 0)) fun j=>Aj j (BJ [.fv (.int .i64 0),.fv (.int .i64 0),.nils] [] fun k=>Ad 3 b k a fun l _ _=>Abb l b c) (Ae 3 e a fun m d=>Ab [] d [] (Zd f a d g h i b m))
def Zi (c:V) (d:H) (e f g h:V) (i:Aa) (j:V):O :=
 Aq 2 c fun k=>Ay 79702025 (.row [.fv (.int .i64 0),.fv (.int .i64 0),.nils] false) (.ptr (.own 79702025) 0) d fun a l _ _=>Ay 79702026 (.row [.fv (.int .i64 0),.fv (.int .i64 0),.nils] false) (.ptr (.own 79702026) 0) l fun b m _ _=>Ad 3 a e m fun n _ _=>Ad 3 b f n fun o _ _=>Af1 k o g b h a i j
def AfW (b:V) (c:H) (d:Aa) (e f:V):O :=
 AP 3 b (.fv (.int .i64 0)) fun g=>Ae 3 g c fun h _=>Ai [] false false d 108 [e,h,.fv (.int .i64 16)] c fun a i _ _=>Aq 0 a fun j=>Aq 1 a fun k=>Zi a i j k f b d e
def Afp (a:H) (b c:V):O :=
 Ap true 3 b a fun d=>Ao [d,c] a
def Yq (d:H) (a e f b g:V):O :=
 Ay 79707146 (.row [.fv (.int .i64 0),.fv (.int .i64 0),.nils] false) (.ptr (.own 79707146) 0) d fun h i _ _=>Ad 3 a e i fun j _ _=>Ad 3 h f j fun c _ _=>Ae 3 a c fun k _=>Ad 3 b k c fun l _ _=>Afp l b g
def Abt (b:Aa) (c:H) (d e f:V):O :=
 Ai [] false false b 108 [d,e,.fv (.int .i64 17)] c fun a g _ _=>Aq 0 a fun h=>Aq 1 a fun i=>Aq 2 a fun j=>Ay 79707145 (.row [.fv (.int .i64 0),.fv (.int .i64 0),.nils] false) (.ptr (.own 79707145) 0) g fun k l _ _=>Yq l k h i f j
def Acn (a:H) (d b e:V):O :=
 Ae 3 d a fun f _=>Ad 3 b f a fun c _ _=>Ap true 3 b c fun g=>Ao [g,e] c
def Ac1 (b:V) (c:H) (d e f:V):O :=
 Aq 2 b fun g=>Ay 79710217 (.row [.fv (.int .i64 0),.fv (.int .i64 0),.nils] false) (.ptr (.own 79710217) 0) c fun h i _ _=>Ay 79710218 (.row [.fv (.int .i64 0),.fv (.int .i64 0),.nils] false) (.ptr (.own 79710218) 0) i fun a j _ _=>Ad 3 h d j fun k _ _=>Ad 3 a e k fun l _ _=>Acn l a f g
def Ac5 (c:V) (b:H) (d:Aa) (e f:V):O :=
 AP 3 c (.fv (.int .i64 0)) fun g=>Ae 3 g b fun h _=>Ai [] false false d 108 [e,h,.fv (.int .i64 17)] b fun a i _ _=>Aq 0 a fun j=>Aq 1 a fun k=>Ac1 a i j k f
def YQ (c:H) (a:V):O :=
 BJ [.fv (.int .i64 0),.fv (.int .i64 0),.nils] [] fun d=>Ad 3 a d c fun b _ _=>Ap true 3 a b fun e=>Ao [e,.fv (.int .i64 10)] b
def AfX (c d:V) (a:H) (e:Aa) (f b:V):O :=
 AO EE 3 c (.fv (.int .i64 23)) fun g=>Aj g (AP 3 d (.fv (.int .i64 0)) fun h=>Ae 3 h a fun i _=>Abt e a f i b) (AO EE 3 c (.fv (.int .i64 24)) fun j=>Aj j (Ac5 d a e f b) (YQ a b))
def AcD (c a:V) (b:H) (d:Aa) (e f:V):O :=
 AO EE 3 c (.fv (.int .i64 22)) fun g=>Aj g (AP 3 a (.fv (.int .i64 0)) fun h=>Ae 3 h b fun i _=>Zf d b e i f a) (AO EE 3 c (.fv (.int .i64 21)) fun j=>Aj j (AfW a b d e f) (AfX c a b d e f))
def S76 (c:Aa) (n:Nat) (d e:V) (f:H):O :=
 AR 79691776 e f fun b g _ _=>Ay 79691777 (.row [.fv (.int .i64 0),.fv (.int .i64 0),.nils] false) (.ptr (.own 79691777) 0) g fun h a _ _=>Af 2 b fun i=>Ak i a fun j _=>Af 0 b fun k=>Ak k a fun l _=>AcD l j a c d h
theorem Aq3 (a:Aa) (n:Nat) (b c:V) (d:H):Ax EE a ft.get n 76 [b,c] d=S76 a n b c d:=by kernel_rfl
def Q3 (b:H) (a g:V) (h:Aa) (i:V) (c:V->H->O) (j:V):O :=
 Ac a true b (fun k=>Ae 3 g b fun l m=>k l b m []) fun n d _ _=>Ac a true d (fun o=>Ai [] false false h 18 [i,n] d o) fun p e _ _=>Ac a true e (fun q=>C8 (KN .not p) fun r=>q r e [] []) fun s f _ _=>AI a s (.fv (.bool false)) fun t=>Aj t (c (.fv (.int .i64 11)) f) (c j f)
def Su (e:H) (f b g:V) (h:Aa):O :=
 Ay 80741382 (.row [.fv (.int .i64 0),.fv (.int .i64 0),.nils] false) (.ptr (.own 80741382) 0) e fun c i _ _=>Ad 3 c f i fun a _ _=>(fun (j:V->H->O)=>AO EE 3 b (.fv (.int .i64 0)) fun d=>Ac d true a (fun k=>Ae 3 g a fun l m=>k l a m []) fun n o _ _=>Q3 o d c h n j b) fun p q=>Ao [p] q
def S77 (a:Aa) (n:Nat) (d e f:V) (g:H):O :=
 AR 80740352 e g fun h i _ _=>AR 80740353 f i fun j b _ _=>Ae 3 h b fun k _=>Ai [] false false a 19 [d,k] b fun c l _ _=>Aq 0 c fun m=>Aq 1 c fun o=>Su l m o j a
theorem AsL (a:Aa) (n:Nat) (b c d:V) (e:H):Ax EE a ft.get n 77 [b,c,d] e=S77 a n b c d e:=by kernel_rfl
def WC (e a b c d:AA) (f:H) (g h:V):O :=
 Ab [(a,b),(c,d)] e [] (AE (An EE 28 1 [(0,g)]) 81789956 f fun i j k l=>Ab [(a,b),(c,d)] k l (AE (AJ EE 81789957 false .append [28,28] [h,i]) 81789957 j fun m n o p=>Ab [] o p (Ao [m] n)))
def S78 (q:Aa) (n:Nat) (f g:V) (h:H):O :=
 AR 81788928 g h fun i j _ _=>AE (An EE 28 0 []) 81789952 j fun k l a b=>Ab [] a b (AE (AJ EE 81789954 false .append [28,28] [k,f]) 81789954 l fun m c d e=>Ab [] d e (Ae 3 i c fun o p=>WC p d e a b c o m))
theorem Art (a:Aa) (n:Nat) (b c:V) (d:H):Ax EE a ft.get n 78 [b,c] d=S78 a n b c d:=by kernel_rfl
def Xq (a:H) (d b e:V):O :=
 Ae 3 d a fun f _=>Ad 3 b f a fun c _ _=>Ap true 3 b c fun g=>Ao [g,e] c
def Xi (a:Aa) (b:H) (c:V) (d:V->H->O):O :=
 Ai [] false false a 25 [c] b fun e f _ _=>d e f
def S79 (e:Aa) (n:Nat) (f b:V) (g:H):O :=
 AR 82837504 f g fun c h _ _=>Ay 82837505 (.row [.fv (.int .i64 0),.fv (.int .i64 0),.nils] false) (.ptr (.own 82837505) 0) h fun i a _ _=>(fun (d:V->H->O)=>AO EE 3 b (.fv (.int .i64 0)) fun j=>Aj j (Ae 3 c a fun k _=>Xi e a k d) (d b a)) fun l m=>Xq m c i l
theorem Arn (a:Aa) (n:Nat) (b c:V) (d:H):Ax EE a ft.get n 79 [b,c] d=S79 a n b c d:=by kernel_rfl
def Ah0 (a:H) (b c:V):O :=
 Ac b true a (fun d=>leS EE 3 c (.fv (.int .i64 3000)) fun e=>d e a [] []) fun f g _ _=>AI b f (.fv (.bool false)) fun h=>Ao [h] g
def AjV (b:V) (c:H):O :=
 Tz EE 3 b (.fv (.int .i64 0)) fun a=>Ac a true c (fun e=>e b c [] []) fun f d _ _=>Ac a true d (fun g=>leS EE 3 f (.fv (.int .i64 2)) fun h=>g h d [] []) fun i j _ _=>AI a i (.fv (.bool false)) fun k=>Ao [k] j
def Ah7 (a:H) (b c:V):O :=
 Ac b true a (fun d=>leS EE 3 c (.fv (.int .i64 4)) fun e=>d e a [] []) fun f g _ _=>AI b f (.fv (.bool false)) fun h=>Ao [h] g
def All (a:V) (b:H):O :=
 AO EE 3 a (.fv (.int .i64 0)) fun c=>Ao [c] b
def AhY (c b:V) (a:H):O :=
 AO EE 3 c (.fv (.int .i64 26)) fun e=>Aj e (Tz EE 3 b (.fv (.int .i64 0)) fun d=>Ac d true a (fun f=>f b a [] []) fun g h _ _=>Ah7 h d g) (AO EE 3 c (.fv (.int .i64 25)) fun i=>Aj i (Ao [.fv (.bool true)] a) (All b a))
def S80 (j:Aa) (n:Nat) (c a:V) (b:H):O :=
 AO EE 3 c (.fv (.int .i64 1)) fun e=>Aj e (Tz EE 3 a (.fv (.int .i64 0)) fun d=>Ac d true b (fun f=>f a b [] []) fun g h _ _=>Ah0 h d g) (AO EE 3 c (.fv (.int .i64 2)) fun i=>Aj i (AjV a b) (AhY c a b))
theorem Ar2 (a:Aa) (n:Nat) (b c:V) (d:H):Ax EE a ft.get n 80 [b,c] d=S80 a n b c d:=by kernel_rfl
def D8 (c:H) (a:V):O :=
 BJ [.fv (.int .i64 0),.fv (.int .i64 0),.nils] [] fun d=>Ad 3 a d c fun b _ _=>Ap true 3 a b fun e=>Ao [e] b
def Eb (c:Aa) (d:H) (e a:V):O :=
 Ai [] false false c 29 [e] d fun f g _ _=>Ad 3 a f g fun b _ _=>Ap true 3 a b fun h=>Ao [h] b
def Ec (b c:V) (a:H) (d:Aa) (e:V):O :=
 Bd EE 3 b (.fv (.int .i64 1)) fun f=>A0 c fun g=>Af 1 g fun h=>Ak h a fun i _=>Bd EE 3 f i fun j=>Eb d a j e
def Ep (h i:H) (a b c d e f g:V) (j:List V->H->O):O :=
 BZ (h.own.map (·.1)) [84954117,84956171] [a,b,c,d,e,f,g] i fun k=>j [a,b,c,d,e,f,g] k
def Er (b c:AA) (a:V) (d:H) (e f:V) (g:H) (h i j k l:V) (m:List V->H->O):O :=
 Ab [] b c (Af 2 a fun n=>B6 n e d fun o p q=>Ab [] p q (Bv EE 3 f (.fv (.int .i64 1)) fun r=>Ep g o h i j k l a r m))
def DY (c:Aa) (d:H) (a e f g:V) (b:AA) (h i j:V) (k:H) (l m n o:V) (p:List V->H->O):O :=
 Ai [true,false,false,false] false false c 81 [a,e,f,g] d fun q r s t=>Ab [(b,[])] s t (AE (An EE 28 1 [(0,q)]) 84956170 r fun u v w x=>Ab [(b,[])] w x (AE (AJ EE 84956171 false .append [28,28] [h,u]) 84956171 v fun y z A B=>Er A B i z y j k a l m n o p))
def GK (a:V) (b:H) (c f d:V) (g:Aa) (h i j:V) (k:H) (l m:V) (n:List V->H->O):O :=
 Af 2 a fun o=>Ak o b fun p e=>Ab [] e [] (Bv EE 3 c f fun q=>Bv EE 3 d (.fv (.int .i64 1)) fun r=>DY g b h i q r e p a j k l c d m n)
def D1 (l m:H) (a b c d e f g h i j k:V) (n:List V->H->O):O :=
 BZ (l.own.map (·.1)) [84954117] [a,b,c,d,e,f,g,h,i,j,k] m fun o=>n [a,b,c,d,e,f,g,h,i,j,k] o
def Ek (b:V) (c:H) (d:Aa) (e f:V) (g:H) (h i j k l m n o p:V) (q:List V->H->O):O :=
 BJ [.fv (.int .i64 0),.fv (.int .i64 0),.nils,.nils,.fv (.int .i64 0),.fv (.int .i64 0),.nils] [(0,1,.fv (.int .i64 1)),(1,1,b)] fun a=>fzS (Na true 84954117 a) 84954117 a c fun r s _ _=>AE (An EE 129 1 [(0,r)]) 84954118 s fun t u _ _=>Ai [] false false d 109 [e,t] u fun v w _ _=>Bv EE 3 f (.fv (.int .i64 1)) fun x=>D1 g w h i j k l m n o p v x q
def Em (c:V) (a:H) (d:Aa) (b e:V) (f:V->V->V->V->V->V->V->V->V->H->O) (g h i j k l m:V):O :=
 Af 4 c fun n=>Ae 3 n a fun o _=>Ai [true,false,false] false false d 82 [b,o,e] a fun p q _ _=>f b g h i j k l m p q
def Ei (n:List V) (a b:V) (d:H) (e:Aa) (f:V) (o:H) (g h i j k l m:V) (p:List V->H->O) (q:V->V->V->V->V->V->V->V->V->H->O):O :=
 AH n fun c _=>GC EE 3 c a fun r=>Aj r (Bv EE 3 b c fun s=>Ek s d e f c o g h b i j k l a m p) (A0 m fun t=>Em t d e g f q h b i j k l a)
def En (a:List V) (b:V) (c:H) (d:Aa) (e:H) (f g h i:V) (j:List V->H->O) (k:V->V->V->V->V->V->V->V->V->H->O):O :=
 AH a fun l m=>AH m fun n o=>AH o fun p q=>AH q fun r s=>AH s fun t u=>Ei u p b c d t e f g h i l n r j k
def GN (a:List V) (b:H) (c:Aa) (d:H) (e:List V->H->O) (f:V->V->V->V->V->V->V->V->V->H->O):O :=
 AH a fun g h=>AH h fun i j=>AH j fun k l=>AH l fun m n=>AH n fun o p=>En p k b c d g i m o e f
def D4 (a:H) (m:V) (b:H) (c d e f g h i j k:V) (n:Nat) (o:Aa) (p:V->V->V->V->V->V->V->V->V->H->O):O :=
 Ak m a fun l _=>BZ (b.own.map (·.1)) [84954117] [c,d,e,f,g,h,i,j,k,l,.fv (.int .i64 0)] a fun q=>BY n (fun r s t=>GN s t o b r p) [c,d,e,f,g,h,i,j,k,l,.fv (.int .i64 0)] q
def D5 (l a:V) (b m:H) (c d e f g h i j:V) (n:Nat) (o:Aa) (k:V->V->V->V->V->V->V->V->V->H->O):O :=
 Aj l (A0 a fun p=>Af 3 p fun q=>D4 b q m c d e f g h i j a n o k) (k c d e f g h i j a b)
def Ee (a:H) (f b:V) (c:Aa) (d:H) (g:List V->H->O) (e h i j k l m:V) (n:Nat):O :=
 Ak f a fun o _=>AP 1 o b fun p=>Ak p a fun q _=>(fun (r:V->V->V->V->V->V->V->V->V->H->O)=>LN EE 3 e (.fv (.int .i64 0)) fun s=>D5 s q a d h i j k l m b e n c r) fun t u v w x y z A B C=>GK y C v A w c t B z d u x g
def Eh (e:V) (a:H) (b:Aa) (c d:V) (f:H) (g:List V->H->O) (h i j k l:V) (n:Nat):O :=
 Af 0 e fun m=>Ak m a fun o _=>Ai [] false false b 48 [o,c] a fun p q _ _=>A0 d fun r=>Af 2 r fun s=>Ee q s c b f g p h d i j k l n
def D0 (c:H) (a d:V):O :=
 Ad 3 a d c fun b _ _=>Ap true 3 a b fun e=>Ao [e] b
def El (f b c:V) (a:H) (g:Aa) (h:H) (i:List V->H->O) (j k l d e:V) (n:Nat):O :=
 BF f fun m=>GC EE 3 b m fun o=>Aj o (A0 c fun p=>Eh p a g b c h i j k l d e n) (Ae 3 e a fun q _=>D0 a d q)
def D9 (c:List V) (a:V) (b:H) (d:Aa) (e:H) (f:List V->H->O) (g h i j:V) (n:Nat):O :=
 AH c fun k l=>AH l fun m _=>A0 a fun o=>Af 2 o fun p=>Ak p b fun q _=>El q m a b d e f g h i j k n
def ES (a:List V) (b:H) (c:Aa) (d:H) (e:List V->H->O) (n:Nat):O :=
 AH a fun f g=>AH g fun h i=>AH i fun j k=>AH k fun l m=>AH m fun o p=>D9 p h b c d e f j l o n
def Es (h i j k:AA) (l:H) (a m:V) (b:H) (c d e f g:V) (n:Nat) (o:Aa):O :=
 Ab [(j,[]),(k,[])] h i (Ad 3 a m l fun p q r=>Ab [] q r (BZ (b.own.map (·.1)) [84954117,84956171] [c,d,e,f,g,a,.fv (.int .i64 0)] p fun s=>BY n (fun t u v=>ES u v o b t n) [c,d,e,f,g,a,.fv (.int .i64 0)] s))
def D6 (d:V) (a:H) (b:AA) (e:V) (f:H) (g h i j k:V) (n:Nat) (l:Aa):O :=
 Af 1 d fun m=>Ak m a fun o c=>Ab [(b,[])] c [] (BJ [.fv (.int .i64 0),.fv (.int .i64 0),.nils] [(0,1,e),(1,1,o)] fun p=>Ay 84942857 (.row [.fv (.int .i64 0),.fv (.int .i64 0),.nils] false) (.ptr (.own 84942857) 0) a fun q r s t=>Es s t c b r q p f g h i j k n l)
def Eg (a:V) (b d:H) (e f g h:V) (n:Nat) (i:Aa):O :=
 A0 a fun j=>Af 0 j fun k=>Ak k b fun l c=>Ab [] c [] (A0 a fun m=>D6 m b c l d e a f g h n i)
def D7 (a:V) (b:H) (c:V) (d:Aa) (e:V) (f:H) (g h:V) (n:Nat):O :=
 A0 a fun i=>Af 0 i fun j=>Ak j b fun k _=>AO EE 3 k (.fv (.int .i64 1)) fun l=>Aj l (Ec c a b d e) (Eg a b f g c h e n d)
def DW (b:V) (a:H) (c d e:V) (f:Aa) (g:H) (h:V) (n:Nat):O :=
 A0 b fun i=>Af 2 i fun j=>Ak j a fun k _=>Ck EE 3 k (.fv (.int .i64 0)) fun l=>Aj l (D8 a c) (D7 d a e f c g b h n)
def DX (a:V) (b:H) (c:H->O):O :=
 Af 2 a fun d=>B6 d (.fv (.int .i64 5)) b fun e _ _=>c e
def Ef (a:H) (b e f g:V) (c:H->O):O :=
 Ac b true a (fun h=>AI e (.fv (.bool true)) f fun i=>h i a [] []) fun j d _ _=>AI b j (.fv (.bool false)) fun k=>Aj k (A0 g fun l=>DX l d c) (c d)
def DZ (b:H) (a h i j:V) (k:H->O):O :=
 Ac a true b (fun l=>Ak h b fun m n=>l m b n []) fun o d _ _=>Ac a true d (fun p=>LN EE 3 o (.fv (.int .i64 3000)) fun q=>p q d [] []) fun r e _ _=>Ac a true e (fun s=>s r e [] []) fun c f _ _=>Ac c false f (fun t=>t i f [] []) fun u g _ _=>Ac c false g (fun v=>LN EE 3 u (.fv (.int .i64 120)) fun w=>v w g [] []) fun x y _ _=>Ef y a c x j k
def Ea (b:H) (f c g:V) (h:H->O):O :=
 Ak f b fun i _=>AO EE 3 i (.fv (.int .i64 0)) fun a=>Ac a true b (fun j=>j c b [] []) fun k d _ _=>Ac a true d (fun l=>A0 k fun m=>l m d [] []) fun n e _ _=>Ac a true e (fun o=>Af 1 n fun p=>o p e [] []) fun q r _ _=>DZ r a q g c h
def Ej (c:V) (d:H) (e a f g h:V) (i:Aa) (j:H) (b:V) (n:Nat):O :=
 Af 1 c fun k=>B6 k e d fun l _ _=>(fun (m:H->O)=>A0 a fun o=>Af 2 o fun p=>Ea l p a b m) fun q=>DW a q f g h i j b n
def S81 (d:Aa) (n:Nat) (a e f g:V) (b:H):O :=
 Ay 84934656 (.row [.fv (.int .i64 0),.fv (.int .i64 0),.nils] false) (.ptr (.own 84934656) 0) b fun h c _ _=>A0 a fun i=>Af 1 i fun j=>Ak j c fun k _=>Bv EE 3 k (.fv (.int .i64 1)) fun l=>A0 a fun m=>Ej m c l a h e f d b g n
theorem AsS (a:Aa) (n:Nat) (b c d e:V) (f:H):Ax EE a ft.get n 81 [b,c,d,e] f=S81 a n b c d e f:=by kernel_rfl
def IT (a:H):O :=
 BJ [.fv (.int .i64 0),.fv (.int .i64 0),.nils,.nils,.fv (.int .i64 0),.fv (.int .i64 0),.nils] [(0,1,.fv (.int .i64 11))] fun b=>AR 85985281 b a fun c d _ _=>Ao [c] d
def H4 (a:H) (b:V):O :=
 Ak b a fun c _=>Ao [c] a
def HU (b c:V) (a:H) (d:V):O :=
 Bd EE 3 b (.fv (.int .i64 1)) fun e=>Af 1 c fun f=>Ak f a fun g _=>Bd EE 3 e g fun h=>AP 1 d h fun i=>H4 a i
def Ii (a:H) (b:V):O :=
 AR 85989383 b a fun c d _ _=>Ao [c] d
def Ir (b c:V) (a:H):O :=
 Bd EE 3 b (.fv (.int .i64 1)) fun d=>Af 1 c fun e=>Ak e a fun f _=>Bd EE 3 d f fun g=>BJ [.fv (.int .i64 0),.fv (.int .i64 0),.nils,.nils,.fv (.int .i64 0),.fv (.int .i64 0),.nils] [(0,1,.fv (.int .i64 1)),(1,1,g)] fun h=>Ii a h
def It (b:H) (d a c:V):O :=
 Ak d b fun e _=>BF a fun f=>GC EE 3 e f fun g=>Aj g (BF a fun h=>HU h c b a) (BF a fun i=>Ir i c b)
def Iv (f:V) (g h:H) (a b c d:V) (i:List V->H->O):O :=
 Bv EE 3 f (.fv (.int .i64 1)) fun e=>BZ (g.own.map (·.1)) [85995532,85995534,85996558] [a,b,c,d,e] h fun j=>i [a,b,c,d,e] j
def Ij (a:V) (b:H) (c:V) (d:H->O):O :=
 A0 a fun e=>Af 2 e fun f=>B6 f c b fun g h i=>Ab [] h i (d g)
def IL (b c a:AA) (d:H) (e f g:V) (h:H->O):O :=
 Ab [(a,[])] b c (AE (An EE 129 1 [(0,e)]) 85995533 d fun i j k l=>Ab [(a,[])] k l (AE (AJ EE 85995534 false .append [129,129] [f,i]) 85995534 j fun m n o p=>Ab [] o p (Ij g n m h)))
def IX (c d:V) (a:H) (b:AA) (e f g:V) (h:H->O):O :=
 AP 3 c d fun i=>Ae 3 i a fun j k=>Ab [(b,[])] k [] (BJ [.fv (.int .i64 0),.fv (.int .i64 0),.nils,.nils,.fv (.int .i64 0),.fv (.int .i64 0),.nils] [(3,1,e),(4,3,j)] fun l=>AR 85995532 l a fun m n o p=>IL o p b n m f g h)
def Ib (a:H) (c d e f g:V) (h:H->O):O :=
 Ak c a fun i b=>Ab [] b [] (Af 2 d fun j=>Ak j a fun k l=>Ab [(b,[])] l [] (IX k e a b f i g h))
def Ie (a:V) (b:H) (c:V) (d:H->O):O :=
 Af 2 a fun e=>B6 e c b fun f g h=>Ab [] g h (d f)
def IU (a:H) (b:V) (c:AA) (d e:V) (f:H->O):O :=
 AE (An EE 129 1 [(0,b)]) 85996557 a fun g h i j=>Ab [(c,[])] i j (AE (AJ EE 85996558 false .append [129,129] [d,g]) 85996558 h fun k l m n=>Ab [] m n (A0 e fun o=>Ie o l k f))
def Ig (c d:V) (b:H) (a:AA) (e:Aa) (f g h i:V) (j:H->O):O :=
 AP 3 c d fun k=>Ae 3 k b fun l m=>Ab [(a,[])] m [] (Ai [true,false,false] false false e 82 [f,l,g] b fun n o p q=>Ab [(a,[])] p q (IU o n a h i j))
def In (a:H) (c d e:V) (f:Aa) (g h i:V) (j:H->O):O :=
 Ak c a fun k b=>Ab [] b [] (Af 2 d fun l=>Ak l a fun m n=>Ab [(b,[])] n [] (Ig m e a b f g h k i j))
def IR (g a:V) (b:H) (c d e:V) (f:H->O) (h:Aa) (i:V):O :=
 Aj g (A0 a fun j=>Af 2 j fun k=>Ib b k c d e a f) (A0 a fun l=>Af 2 l fun m=>In b m c d h i e a f)
def IQ (a:V) (h:H) (c d b e:V) (i:List V->H->O) (f:H) (g:Aa):O :=
 (fun (j:H->O)=>Af 0 b fun k=>Ak k f fun l _=>Ai [] false false g 48 [l,a] f fun m n _ _=>LN EE 3 m (.fv (.int .i64 0)) fun o=>IR o e n b a d j g c) fun p=>Iv a h p c d b e i
def IS (a:Aa) (b:H) (c d:V):O :=
 Ai [true,false] false false a 110 [c,d] b fun e f _ _=>Ao [e] f
def Iu (b:V) (a:H) (c:V) (g:H) (d h e:V) (i:List V->H->O) (f:Aa):O :=
 Af 2 b fun j=>Ak j a fun k _=>BF k fun l=>GC EE 3 c l fun m=>Aj m (IQ c g d h b e i a f) (IS f a d e)
def Acg (a:List V) (b c:H) (d:List V->H->O) (e:Aa):O :=
 AH a fun f g=>AH g fun h i=>AH i fun j k=>AH k fun l m=>AH m fun n _=>Iu j b n c f h l d e
def H3 (a f:H) (b c d e:V) (n:Nat) (g:Aa):O :=
 BZ (a.own.map (·.1)) [85995532,85995534,85996558] [b,c,d,e,.fv (.int .i64 0)] f fun h=>BY n (fun i j k=>Acg j k a i g) [b,c,d,e,.fv (.int .i64 0)] h
def Ia (a:H) (c b:V) (d:H) (e f:V) (n:Nat) (g:Aa):O :=
 Ak c a fun h _=>Af 1 b fun i=>Ak i a fun j _=>BJ [.fv (.int .i64 0),.fv (.int .i64 0),.nils,.nils,.fv (.int .i64 0),.fv (.int .i64 0),.nils] [(0,1,h),(1,1,j)] fun k=>AR 85990405 k a fun l m _ _=>H3 d m e f b l n g
def HV (a:V) (b:H) (c:V) (d:H) (e:V) (n:Nat) (f:Aa):O :=
 Af 0 a fun g=>Ak g b fun h _=>AO EE 3 h (.fv (.int .i64 1)) fun i=>Aj i (Af 1 a fun j=>It b j c a) (Af 0 a fun k=>Ia b k a d e c n f)
def S82 (d:Aa) (n:Nat) (b e f:V) (c:H):O :=
 AR 85983232 e c fun g a _ _=>A0 b fun h=>Af 2 h fun i=>Ak i a fun j _=>Ck EE 3 j (.fv (.int .i64 0)) fun k=>Aj k (IT a) (HV g a f c b n d)
theorem Arz (a:Aa) (n:Nat) (b c d:V) (e:H):Ax EE a ft.get n 82 [b,c,d] e=S82 a n b c d e:=by kernel_rfl
end
end Idl
end Go.Proofs.Ytdibmackcbpniaa

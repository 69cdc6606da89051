/-
  Texts of a proof, part 8: an ideal semantics of the program, its functions in shallow form, contracts of them. No statement of the seat is proved here.
-/
import Derived.Test.YtdibmackcbpniaaObjInfersK7
set_option linter.all false
noncomputable section
set_option maxRecDepth 100000
set_option linter.unusedVariables false
namespace Go.Proofs.Ytdibmackcbpniaa
namespace Idl
noncomputable section
abbrev OH:=Option (IV×Hp)
abbrev AB:=List Ref
abbrev iq (n:Int):IV:=.fv (.int .i64 n)
def R6 (g h:Hp) (a b c d e f:IV) (i:List IV→Hp→OH):OH :=
 BB (g.own.map (·.1)) [3154951] [a,b,c,d,e,f] h fun j=>i [a,b,c,d,e,f] j
def Rm (a:Hp) (b:IV) (c:Aa) (d e:IV) (f:Hp) (g h i j:IV) (k:List IV→Hp→OH):OH :=
 Ad 3 b a fun l _=>Ai [] false false c 14 [l,.fv (.int .i64 2)] a fun m n _ _=>AD (Al EE 28 1 [(0,m)]) 3154950 n fun o p _ _=>AD (AK EE 3154951 false .append [28,28] [d,o]) 3154951 p fun q r _ _=>Bv EE 3 e (.fv (.int .i64 1)) fun s=>R6 f r g h i j q s k
def RY (d e:Hp) (a b c:IV) (f:List IV→Hp→OH):OH :=
 BB (d.own.map (·.1)) [3166217,3167241] [a,b,c] e fun g=>f [a,b,c] g
def Pq (a:Hp) (b d e f:IV) (g:Hp) (h i:IV) (j:List IV→Hp→OH):OH :=
 Ac b false a (fun k=>Cg EE 4 d e fun l=>k l a [] []) fun m c _ _=>AH b (.fv (.bool true)) m fun n=>Aj n (Am [.fv (.bool false)] c) (Bv EE 3 f (.fv (.int .i64 1)) fun o=>RY g c h i o j)
def Qm (c:Hp) (a e f:IV) (g h i j:AB) (k:Aa) (l m:IV) (n:Hp) (o p:IV) (q:List IV→Hp→OH):OH :=
 Ac a false c (fun r=>AP 3 e f fun s=>r s c [] []) fun t b _ _=>Ac a false b (fun u=>Ad 3 t b fun v w=>u v b w []) fun x d y z=>Ab [(g,h),(i,j)] y z (Ac a false d (fun A=>Ai [] false false k 21 [x] d A) fun B C D E=>Ab [] D E (Pq C a l B m n o p q))
def QS (b c:AB) (d:Hp) (a:IV) (e:Aa) (l f g:IV) (m:Hp) (n:IV) (o:List IV→Hp→OH):OH :=
 Ab [] b c (Ac a false d (fun p=>Ai [] false false e 20 [l] d p) fun q h i j=>Ab [] i j (Ac a false h (fun r=>r f h [] []) fun s k _ _=>Ac a false k (fun t=>t g k [] []) fun u v _ _=>Qm v a s u i j b c e q g m n f o))
def Qz (h i:IV) (c:Hp) (d e:IV) (j:Aa) (k:Hp) (l:IV) (m:List IV→Hp→OH):OH :=
 AH h (.fv (.bool true)) i fun a=>Ac a false c (fun n=>n d c [] []) fun o f _ _=>Ac a false f (fun p=>p e f [] []) fun q g _ _=>Ac a false g (fun r=>AP 3 o q fun s=>r s g [] []) fun t b _ _=>Ac a false b (fun u=>Ad 3 t b fun v w=>u v b w []) fun x y z A=>QS z A y a j x d e k l m
def Qf (b:Hp) (a f:IV) (g h:AB) (c:Aa) (i j k:IV) (l:Hp) (m:IV) (n:List IV→Hp→OH):OH :=
 Ac a false b (fun o=>Ad 3 f b fun p q=>o p b q []) fun r d s t=>Ab [(g,h)] s t (Ac a false d (fun u=>Ai [] false false c 18 [i,r] d u) fun v e w x=>Ab [] w x (Ac a false e (fun y=>CI (Ji .not v) fun z=>y z e [] []) fun A B _ _=>Qz a A B j k c l m n))
def QO (f:Hp) (g h i j:IV) (k:Aa) (l m:IV) (n:Hp) (o:IV) (p:List IV→Hp→OH):OH :=
 Ay 3167241 (.row [.fv (.int .i64 0),.fv (.int .i64 0),.nils] false) (.ptr (.own 3167241) 0) f fun b q _ _=>Ae 3 b g q fun a _ _=>Cg EE 3 h i fun c=>Ac c false a (fun r=>Ad 3 j a fun s t=>r s a t []) fun u v d e=>Ab [] d e (Qf v c b d e k u l m n o p)
def PQ (a b:IV) (c:Hp) (d:Aa) (e g h:IV) (i:Hp) (j:List IV→Hp→OH):OH :=
 AP 3 a b fun k=>Ad 3 k c fun l _=>Ai [] false false d 19 [e,l] c fun f m _ _=>Aq 0 f fun n=>Aq 1 f fun o=>QO m n g o h d a b i e j
def R7 (a:Aa) (e:Hp) (b f g h:IV) (i:Hp) (j:List IV→Hp→OH):OH :=
 Ai [] false false a 17 [b,f] e fun c k _ _=>Aq 0 c fun l=>Aq 1 c fun m=>Ay 3166217 (.row [.fv (.int .i64 0),.fv (.int .i64 0),.nils] false) (.ptr (.own 3166217) 0) k fun d n _ _=>Ae 3 d l n fun o _ _=>PQ g h o a b m d i j
def RK (d b c:IV) (a:Hp) (e:Aa) (f:IV) (g:Hp) (h:List IV→Hp→OH):OH :=
 Aj d (AP 3 b c fun i=>Ad 3 i a fun j _=>R7 e a f j b c g h) (Am [.fv (.bool true)] a)
def FX (c:List IV) (d:Hp) (e:Aa) (f:Hp) (g:List IV→Hp→OH):OH :=
 AF c fun h i=>AF i fun a j=>AF j fun b _=>Bz a fun k=>GM EE 3 b k fun l=>RK l a b d e h f g
def Rv (a d:Hp) (b c:IV) (n:Nat) (e:Aa):OH :=
 BB (a.own.map (·.1)) [3166217,3167241] [b,c,.fv (.int .i64 0)] d fun f=>Bh n (fun g h i=>FX h i e a g) [b,c,.fv (.int .i64 0)] f
def P7 (b c:IV) (a:Hp) (d:IV→Hp→OH) (e:IV):OH :=
 AH b (.fv (.bool true)) c fun f=>Aj f (Am [.fv (.bool false)] a) (d e a)
def Qq (f:IV) (b:Hp) (g h:IV) (i:Aa) (j:IV→Hp→OH) (k:IV):OH :=
 Cg EE 35 f (.fv (.int .i64 0)) fun a=>Ac a false b (fun l=>Ad 3 g b fun m n=>l m b n []) fun o c _ _=>Ac a false c (fun p=>Ad 3 h c fun q r=>p q c r []) fun s d _ _=>Ac a false d (fun t=>Ai [] false false i 18 [o,s] d t) fun u e _ _=>Ac a false e (fun v=>CI (Ji .not u) fun w=>v w e [] []) fun x y _ _=>P7 a x y j k
def QE (a:Aa) (d:Hp) (e f:IV) (g:IV→Hp→OH) (h:IV):OH :=
 Ai [] false false a 17 [.nils,e] d fun b i _ _=>Aq 0 b fun j=>Aq 1 b fun k=>Ay 3160069 (.row [.fv (.int .i64 0),.fv (.int .i64 0),.nils] false) (.ptr (.own 3160069) 0) i fun c l _ _=>Ae 3 c j l fun m _ _=>Qq k m f c a g h
def PY (a:Hp) (b c e:IV) (f:Aa) (g:IV→Hp→OH):OH :=
 Ad 3 b a fun h _=>Ad 3 c a fun i _=>AD (Al EE 28 2 [(0,h),(1,i)]) 3159043 a fun j k _ _=>AD (AK EE 3159044 false .append [28,28] [e,j]) 3159044 k fun l d _ _=>Ad 3 b d fun m _=>QE f d m c g l
def RR (b:IV) (a:Aa) (f:Hp) (g:IV) (h:Hp) (n:Nat) (i j k:IV):OH :=
 Bz b fun l=>Ai [] false false a 16 [g,.fv (.int .i64 5),l] f fun m o _ _=>AD (Al EE 28 1 [(0,m)]) 3156996 o fun c d _ _=>(fun (e:IV→Hp→OH)=>Aj i (PY d j k c a e) (e c d)) fun p q=>Rv h q b p n a
def Rf (d:Hp) (e f g h:IV) (i:Aa) (j:Hp) (n:Nat) (k:IV):OH :=
 Ay 3155975 (.row [.fv (.int .i64 0),.fv (.int .i64 0),.nils] false) (.ptr (.own 3155975) 0) d fun a l _ _=>Ay 3155976 (.row [.fv (.int .i64 0),.fv (.int .i64 0),.nils] false) (.ptr (.own 3155976) 0) l fun b m _ _=>Ae 3 a e m fun o _ _=>Ae 3 b f o fun c _ _=>Ad 3 g c fun p _=>RR h i c p j n k a b
def R1 (b:Hp) (d:IV) (c:Aa) (e f g:IV) (h:Hp) (n:Nat):OH :=
 Ad 3 d b fun i _=>Ai [] false false c 15 [e,i] b fun a j _ _=>Aq 0 a fun k=>Aq 1 a fun l=>Aq 2 a fun m=>Rf j k l f g c h n m
def Rh (j:List IV) (a:IV) (b:Hp) (d:Aa) (e:IV) (f:Hp) (g h i:IV) (k:List IV→Hp→OH) (n:Nat):OH :=
 AF j fun c _=>Bz a fun l=>GM EE 3 c l fun m=>Aj m (AP 3 a c fun o=>Rm b o d e c f a g h i k) (Ad 3 g b fun p _=>R1 b h d p i e f n)
def S3_370 (a:List IV) (b:Hp) (c:Aa) (d:Hp) (e:List IV→Hp→OH) (n:Nat):OH :=
 AF a fun f g=>AF g fun h i=>AF i fun j k=>AF k fun l m=>AF m fun o p=>Rh p f b c o d h j l e n
def Qv (g:IV) (a b:Hp) (c d e f:IV) (n:Nat) (h:Aa):OH :=
 Aj g (Am [.fv (.bool true)] a) (BB (b.own.map (·.1)) [3154951] [c,d,e,f,.nils,.fv (.int .i64 0)] a fun i=>Bh n (fun j k l=>S3_370 k l h b j n) [c,d,e,f,.nils,.fv (.int .i64 0)] i)
def Pw (g h:IV) (b:Hp) (c:IV) (d:Aa) (i:Hp) (j k l:IV) (n:Nat):OH :=
 AH g (.fv (.bool true)) h fun a=>Ac a false b (fun m=>m c b [] []) fun o e _ _=>Ac a false e (fun p=>Ai [] false false d 13 [o] e p) fun q f _ _=>Ac a false f (fun r=>CI (Ji .not q) fun s=>r s f [] []) fun t u _ _=>AH a (.fv (.bool true)) t fun v=>Qv v u i c j k l n d
def Qs (c:Hp) (d i e:IV) (f:Aa) (j:IV) (k:Hp) (l m:IV) (n:Nat):OH :=
 Ac d false c (fun o=>CI (Ji .not i) fun p=>o p c [] []) fun q b _ _=>AH d (.fv (.bool true)) q fun a=>Ac a false b (fun r=>Ad 3 e b fun s t=>r s b t []) fun u g _ _=>Ac a false g (fun v=>Ai [] false false f 12 [u] g v) fun w h _ _=>Ac a false h (fun x=>CI (Ji .not w) fun y=>x y h [] []) fun z A _ _=>Pw a z A j f k l m e n
def Ql (d:Hp) (e:IV) (a:Aa) (f h i:IV) (j:Hp) (n:Nat):OH :=
 Ad 3 e d fun k _=>Ai [] false false a 12 [k] d fun l b _ _=>CI (Ji .not l) fun c=>Ac c false b (fun m=>Ad 3 f b fun o p=>m o b p []) fun q g _ _=>Ac c false g (fun r=>Ai [] false false a 12 [q] g r) fun s t _ _=>Qs t c s h a i j e f n
def S3 (a:Aa) (n:Nat) (d e f g:IV) (b:Hp):OH :=
 AS 3145728 d b fun h i _ _=>AS 3145729 e i fun j k _ _=>AS 3145730 f k fun l m _ _=>Ai [] false false a 11 [] m fun o c _ _=>CI (Ji .not o) fun p=>Aj p (Am [.fv (.bool false)] c) (Ql c h a j l g b n)
theorem At1 (a:Aa) (n:Nat) (b c d e:IV) (f:Hp):Ax EE a ft.get n 3 [b,c,d,e] f=S3 a n b c d e f:=by kernel_rfl
def Aq5 (a:Hp) (b d:IV) (e:Aa):OH :=
 Ac b true a (fun f=>Ad 3 d a fun g h=>f g a h []) fun i c _ _=>Ac b true c (fun j=>Ai [] false false e 20 [i] c j) fun k l _ _=>AH b k (.fv (.bool false)) fun m=>Am [m] l
def ArU (f:IV) (c:Hp) (d:IV) (g:Aa):OH :=
 AQ EE 35 f (.fv (.int .i64 0)) fun a=>Ac a true c (fun h=>Af 0 d fun i=>h i c [] []) fun j b _ _=>Ac a true b (fun k=>Ak j b fun l m=>k l b m []) fun n e _ _=>Ac a true e (fun o=>AQ EE 3 n (.fv (.int .i64 15)) fun p=>o p e [] []) fun q r _ _=>AH a q (.fv (.bool false)) fun s=>Aq5 r s d g
def S11 (a:Aa) (n:Nat) (d:Hp):OH :=
 Ai [] false false a 31 [.fv (.int .i64 5)] d fun e f _ _=>Ai [] false false a 17 [.nils,e] f fun b g _ _=>Aq 0 b fun h=>Aq 1 b fun i=>Ay 11535365 (.row [.fv (.int .i64 0),.fv (.int .i64 0),.nils] false) (.ptr (.own 11535365) 0) g fun c j _ _=>Ae 3 c h j fun k _ _=>ArU i k c a
theorem ApS (a:Aa) (n:Nat) (b:Hp):Ax EE a ft.get n 11 [] b=S11 a n b:=by kernel_rfl
def S12 (b:Aa) (n:Nat) (c:IV) (d:Hp):OH :=
 AS 12582912 c d fun e a _ _=>Ad 3 e a fun f _=>Ai [] false false b 40 [f,.fv (.int .i64 300)] a fun g h _ _=>GM EE 3 g (.fv (.int .i64 300)) fun i=>Am [i] h
theorem AoU (a:Aa) (n:Nat) (b:IV) (c:Hp):Ax EE a ft.get n 12 [b] c=S12 a n b c:=by kernel_rfl
def KD (a:IV) (b:List IV→Hp→OH) (c:Hp) (d:IV):OH :=
 Bv EE 3 a (.fv (.int .i64 1)) fun e=>b [d,e] c
def Kn (a b:IV) (c:Hp) (e:Aa) (f:List IV→Hp→OH):OH :=
 AP 3 a b fun g=>Ad 3 g c fun h _=>Ai [] false false e 12 [h] c fun i d _ _=>CI (Ji .not i) fun j=>Aj j (Am [.fv (.bool false)] d) (KD b f d a)
def Kw (a:IV) (b:Hp):OH :=
 Bz a fun c=>leS EE 3 c (.fv (.int .i64 6)) fun d=>Am [d] b
def N9 (d:List IV) (b:Hp) (e:Aa) (f:List IV→Hp→OH):OH :=
 AF d fun a g=>AF g fun c _=>Bz a fun h=>GM EE 3 c h fun i=>Aj i (Kn a c b e f) (Kw a b)
def S13 (a:Aa) (n:Nat) (b:IV) (c:Hp):OH :=
 Bh n (fun d e f=>N9 e f a d) [b,.fv (.int .i64 0)] c
theorem Arv (a:Aa) (n:Nat) (b:IV) (c:Hp):Ax EE a ft.get n 13 [b] c=S13 a n b c:=by kernel_rfl
def Pt (c:Hp) (a d:IV):OH :=
 Ae 3 a d c fun b _ _=>Ap true 3 a b fun e=>Am [e] b
def R4 (b c:AB) (a:Hp) (d:IV):OH :=
 Ab [] b c (Ap true 3 d a fun e=>Am [e] a)
def Qn (b:Hp) (c d:IV) (e:Aa) (f a:IV):OH :=
 AD (Al EE 28 2 [(0,c),(1,d)]) 14684173 b fun g h i j=>Ab [] i j (Ai [] false false e 30 [f,g] h fun k l m n=>Ab [] m n (Ae 3 a k l fun o p q=>R4 p q o a))
def PI (a:Aa) (b:Hp) (c d e f g:IV):OH :=
 Ai [] false false a 42 [c,.fv (.int .i64 1)] b fun h i j k=>Ab [] j k (Bd EE 3 d (.fv (.int .i64 1)) fun l=>Ai [] false false a 14 [h,l] i fun m n o p=>Ab [] o p (Qn n e m a f g))
def Qu (a:IV) (b:Aa) (f:Hp) (g h:IV) (i j k:AB) (l m:IV):OH :=
 Bd EE 3 a (.fv (.int .i64 1)) fun n=>Ai [] false false b 14 [g,n] f fun o c d e=>Ab [] d e (Ad 3 h c fun p q=>Ab [(d,e),(i,j),(k,[])] q [] (PI b c p a o l m))
def Ri (g:IV) (a:Hp) (b:IV) (c:Aa) (h i:IV):OH :=
 Bd EE 3 g (.fv (.int .i64 2)) fun j=>Ad 3 b a fun k d=>Ab [] d [] (Ai [] false false c 42 [k,.fv (.int .i64 0)] a fun l m e f=>Ab [] e f (Qu h c m l b e f d j i))
def Px (b:Hp) (a c:IV) (d:Aa) (e h i:IV):OH :=
 Ac a false b (fun j=>j c b [] []) fun k f _ _=>Ac a false f (fun l=>GM EE 3 k (.fv (.int .i64 2)) fun m=>l m f [] []) fun n g _ _=>AH a (.fv (.bool true)) n fun o=>Aj o (Ai [] false false d 30 [.fv (.int .i64 15),.nils] g fun p q _ _=>Pt q e p) (Bv EE 3 (.fv (.int .i64 16)) c fun r=>Ri r g h d i e)
def S14 (a:Aa) (n:Nat) (e b:IV) (f:Hp):OH :=
 AS 14680064 e f fun c g _ _=>Ay 14680065 (.row [.fv (.int .i64 0),.fv (.int .i64 0),.nils] false) (.ptr (.own 14680065) 0) g fun h d _ _=>Af 1 c fun i=>Ak i d fun j _=>Ai [] false false a 41 [j,.fv (.int .i64 4)] d fun k l _ _=>leS EE 3 b (.fv (.int .i64 0)) fun m=>Px l m k a h c b
theorem ArX (a:Aa) (n:Nat) (b c:IV) (d:Hp):Ax EE a ft.get n 14 [b,c] d=S14 a n b c d:=by kernel_rfl
def Qh (b c:AB) (a:Hp) (d e:IV):OH :=
 Ab [] b c (Ap true 3 d a fun f=>Ap true 3 e a fun g=>Am [f,g,.fv (.bool false)] a)
def QB (a:Hp) (e:IV) (f:AB) (b g c:IV):OH :=
 Ad 3 e a fun h d=>Ab [(f,[])] d [] (Ae 3 b g a fun i j k=>Ab [(d,[])] j k (Ae 3 c h i fun l m n=>Qh m n l b c))
def RS (c d e:AB) (f:Hp) (b g h i:IV):OH :=
 Ab [(e,[])] c d (Ae 3 b g f fun a j k=>Ab [] j k (Ap true 3 h a fun l=>Ap true 3 b a fun m=>Am [l,m,i] a))
def Rz (a:AB) (b:Hp) (e f c g h:IV):OH :=
 Ab [] a [] (Ad 3 e b fun i d=>Ab [(a,[])] d [] (AQ EE 3 f (.fv (.int .i64 0)) fun j=>Ae 3 c g b fun k l m=>RS l m d k h i c j))
def RJ (a:IV) (d:Hp) (e f g:IV):OH :=
 Aq 0 a fun h=>Aq 1 a fun i=>Ay 15732741 (.row [.fv (.int .i64 0),.fv (.int .i64 0),.nils] false) (.ptr (.own 15732741) 0) d fun b j _ _=>Ae 3 b h j fun c _ _=>Ad 3 b c fun k l=>Rz l c e i f k g
def P6 (g:IV) (a:Hp) (b c d e:IV) (h:Aa):OH :=
 Aj g (Ad 3 b a fun i f=>Ab [] f [] (QB a c f d i e)) (Ad 3 b a fun j _=>Ai [] false false h 44 [j] a fun k l _ _=>RJ k l c d e)
def RP (c:Hp) (d e f g h:IV) (i:Aa):OH :=
 Ay 15729672 (.row [.fv (.int .i64 0),.fv (.int .i64 0),.nils] false) (.ptr (.own 15729672) 0) c fun a j _ _=>Ay 15729673 (.row [.fv (.int .i64 0),.fv (.int .i64 0),.nils] false) (.ptr (.own 15729673) 0) j fun b k _ _=>Ae 3 a d k fun l _ _=>Ae 3 b e l fun m _ _=>CI (Ji .not f) fun n=>P6 n m b a g h i
def PJ (b:Aa) (c:Hp) (d e f g:IV):OH :=
 Ai [] false false b 43 [.nils,d,e,.fv (.bool true)] c fun a h _ _=>Aq 0 a fun _=>Aq 1 a fun i=>Aq 2 a fun j=>Aq 3 a fun k=>RP h i j k f g b
def S15 (b:Aa) (n:Nat) (c d:IV) (e:Hp):OH :=
 AS 15728640 c e fun f g _ _=>AS 15728641 d g fun h i _ _=>Ay 15728642 (.row [.fv (.int .i64 0),.fv (.int .i64 0),.nils] false) (.ptr (.own 15728642) 0) i fun j k _ _=>Ay 15728643 (.row [.fv (.int .i64 0),.fv (.int .i64 0),.nils] false) (.ptr (.own 15728643) 0) k fun l a _ _=>Ad 3 f a fun m _=>Ad 3 h a fun o _=>PJ b a m o j l
theorem Ar4 (a:Aa) (n:Nat) (b c:IV) (d:Hp):Ax EE a ft.get n 15 [b,c] d=S15 a n b c d:=by kernel_rfl
def Is (h:IV) (i j:Hp) (a b c d e f:IV) (k:List IV→Hp→OH):OH :=
 Bv EE 3 h (.fv (.int .i64 1)) fun g=>BB (i.own.map (·.1)) [16794638] [a,b,c,d,e,f,g] j fun l=>k [a,b,c,d,e,f,g] l
def HV (b:Hp) (c d a e:IV) (f:Hp) (g h i j k:IV) (l:List IV→Hp→OH):OH :=
 AD (AK EE 16794638 false .append [28,28] [c,d]) 16794638 b fun m n o p=>Ab [] o p (Af 2 a fun q=>B3 q m n fun r s t=>Ab [] s t (Is e f r g h i j k a l))
def Il (a c:IV) (d:Aa) (e:Hp) (f g:IV) (b:AB) (h i j:IV) (k:Hp) (l m n o:IV) (p:List IV→Hp→OH):OH :=
 Bv EE 3 a c fun q=>Ai [] false false d 16 [f,g,q] e fun r s t u=>Ab [(b,[])] t u (AD (Al EE 28 1 [(0,r)]) 16794637 s fun v w x y=>Ab [(b,[])] x y (HV w h v i j k l a m n o p))
def HN (a:Aa) (f:Hp) (g b:IV) (c:AB) (d e h i j:IV) (k:Hp) (l m:IV) (n:List IV→Hp→OH):OH :=
 Ai [] false false a 47 [g,b] f fun o p q r=>Ab [(c,[])] q r (Bd EE 3 d (.fv (.int .i64 1)) fun s=>Ai [] false false a 48 [e,b] p fun t u v w=>Ab [(c,[])] v w (Il h t a u o s c i j b k d l m e n))
def HY (c:IV) (a:Hp) (d:IV) (e:Aa) (f g h i:IV) (j:Hp) (k:IV) (l:List IV→Hp→OH):OH :=
 Af 2 c fun m=>Ak m a fun n b=>Ab [] b [] (Ad 3 d a fun o p=>Ab [(b,[])] p [] (HN e a o f b g h i n c j d k l))
def Iw (a:Hp) (d b:IV):OH :=
 Ad 3 d a fun e _=>Ae 3 b e a fun c _ _=>Ap true 3 b c fun f=>Am [f] c
def Iz (g:List IV) (a:Aa) (h:Hp) (b i j k:IV) (l:Hp) (c:IV) (m:List IV→Hp→OH):OH :=
 AF g fun d n=>AF n fun e _=>Ai [] false false a 46 [b] h fun o f _ _=>GM EE 3 e o fun p=>Aj p (HY d f i a e j b k l c m) (Iw f d c)
def Ig (a:List IV) (b:Aa) (c d:Hp) (e:List IV→Hp→OH):OH :=
 AF a fun f g=>AF g fun h i=>AF i fun j k=>AF k fun l m=>AF m fun n o=>Iz o b c n j f h d l e
def Hw (a h:Hp) (b c d e f g:IV) (n:Nat) (i:Aa):OH :=
 BB (a.own.map (·.1)) [16794638] [b,c,d,e,f,g,.fv (.int .i64 0)] h fun j=>Bh n (fun k l m=>Ig l i m a k) [b,c,d,e,f,g,.fv (.int .i64 0)] j
def IG (a:IV) (b:Aa) (c:Hp) (d e:IV) (f:Hp→OH):OH :=
 Bv EE 3 a (.fv (.int .i64 1)) fun g=>Ai [] false false b 45 [d,g] c fun h i _ _=>Af 1 e fun j=>B3 j h i fun k _ _=>f k
def H7 (b:IV) (a:Hp) (c:Aa) (d:IV) (e:Hp→OH):OH :=
 Af 1 b fun f=>Ak f a fun g _=>Ai [] false false c 45 [g,.fv (.int .i64 3)] a fun h i _ _=>Af 1 d fun j=>B3 j h i fun k _ _=>e k
def Ij (a:Aa) (b:Hp) (c d:IV) (e:Hp→OH):OH :=
 Ai [] false false a 45 [c,.fv (.int .i64 5)] b fun f g _ _=>Af 1 d fun h=>B3 h f g fun i _ _=>e i
def HT (b:IV) (a:Hp) (c:IV) (d:Hp→OH):OH :=
 Af 1 b fun e=>Ak e a fun f _=>Af 1 c fun g=>B3 g f a fun h _ _=>d h
def H5 (c d:IV) (a:Hp) (f:Aa) (e:IV) (b:Hp→OH):OH :=
 AQ EE 3 c (.fv (.int .i64 26)) fun g=>Aj g (Af 1 d fun h=>Ak h a fun i _=>Ij f a i e b) (AQ EE 3 c (.fv (.int .i64 25)) fun j=>Aj j (HT d a e b) (b a))
def H1 (g b:IV) (a:Hp) (h:IV) (c:Aa) (d:IV) (e:Hp→OH) (f:IV):OH :=
 Aj g (Af 1 b fun i=>Ak i a fun j _=>IG h c a j d e) (AQ EE 3 f (.fv (.int .i64 2)) fun k=>Aj k (H7 b a c d e) (H5 f b a c d e))
def Gw (a:IV) (f g:Hp) (h c d i:IV) (n:Nat) (e:Aa):OH :=
 BL [.fv (.int .i64 0),.fv (.int .i64 0),.nils] [(0,1,a)] fun j=>Ay 16781314 (.row [.fv (.int .i64 0),.fv (.int .i64 0),.nils] false) (.ptr (.own 16781314) 0) f fun b k _ _=>Ae 3 b j k fun l _ _=>(fun (m:Hp→OH)=>AQ EE 3 a (.fv (.int .i64 1)) fun o=>H1 o d l c e b m a) fun p=>Hw g p h c d i a b n e
def EG (a:Hp) (c:IV) (d:Aa) (e:IV) (f:IV→Hp→OH):OH :=
 Ak c a fun g _=>Ai [] false false d 45 [g,.fv (.int .i64 5)] a fun h b _ _=>AP 1 e h fun i=>Ak i b fun j _=>f j b
def EC (c d:IV) (a:Hp) (e:IV) (f:Aa) (b:IV→Hp→OH) (g:IV):OH :=
 AH c d (.fv (.bool false)) fun h=>Aj h (AD (Al EE 51 5 [(0,.fv (.int .i64 1)),(1,.fv (.int .i64 11)),(2,.fv (.int .i64 25)),(3,.fv (.int .i64 15)),(4,.fv (.int .i64 10))]) 16780288 a fun i j _ _=>Af 0 e fun k=>EG j k f i b) (b g a)
def EO (i:Hp) (c j d k:IV) (n:Nat) (b:Aa) (e:Hp) (f:IV):OH :=
 (fun (l:IV→Hp→OH)=>leS EE 3 c (.fv (.int .i64 0)) fun a=>Ac a true e (fun m=>m f e [] []) fun o g _ _=>Ac a true g (fun p=>Ai [] false false b 46 [o] g p) fun q h _ _=>Ac a true h (fun r=>K5 EE 3 q (.fv (.int .i64 0)) fun s=>r s h [] []) fun t u _ _=>EC a t u d b l f) fun v w=>Gw v w i c j d k n b
def S16 (a:Aa) (n:Nat) (e f g:IV) (b:Hp):OH :=
 AS 16777216 e b fun c h _ _=>Ay 16777217 (.row [.fv (.int .i64 0),.fv (.int .i64 0),.nils] false) (.ptr (.own 16777217) 0) h fun i d _ _=>Af 0 c fun j=>Ak j d fun k _=>Ai [] false false a 45 [k,.fv (.int .i64 30)] d fun l m _ _=>Bv EE 3 (.fv (.int .i64 1)) l fun o=>EO b f g c i n a m o
theorem Aqy (a:Aa) (n:Nat) (b c d:IV) (e:Hp):Ax EE a ft.get n 16 [b,c,d] e=S16 a n b c d e:=by kernel_rfl
def QF (c:Hp) (a d:IV):OH :=
 Ae 3 a d c fun b _ _=>Ap true 3 a b fun e=>Am [e,.fv (.int .i64 1)] b
def QL (a:Hp) (b c:IV):OH :=
 Ap true 3 b a fun d=>Am [d,c] a
def QH (c:Hp) (a d:IV):OH :=
 Ae 3 a d c fun b _ _=>Ap true 3 a b fun e=>Am [e,.fv (.int .i64 0)] b
def QZ (c:IV) (a:Hp) (b d:IV) (e:Aa):OH :=
 Cg EE 35 c (.fv (.int .i64 0)) fun f=>Aj f (BL [.fv (.int .i64 0),.fv (.int .i64 0),.nils] [] fun g=>Ae 3 b g a fun h _ _=>QL h b c) (Ad 3 d a fun i _=>Ai [] false false e 54 [i] a fun j k _ _=>QH k b j)
def Qx (a:Aa) (d:Hp) (e f g:IV):OH :=
 Ai [] false false a 53 [e,f] d fun b h _ _=>Aq 0 b fun i=>Aq 1 b fun j=>Ay 17828870 (.row [.fv (.int .i64 0),.fv (.int .i64 0),.nils] false) (.ptr (.own 17828870) 0) h fun c k _ _=>Ae 3 c i k fun l _ _=>QZ j l g c a
def Ro (b:Hp) (c:IV) (d:Aa) (f e g h:IV):OH :=
 Ac c false b (fun i=>Ai [] false false d 50 [f,.fv (.func (.func 51) [] [])] b i) fun j a _ _=>AH c (.fv (.bool true)) j fun k=>Aj k (BL [.fv (.int .i64 0),.fv (.int .i64 0),.nils] [] fun l=>QF a e l) (Ad 3 g a fun m _=>Qx d a h m e)
def S17 (a:Aa) (n:Nat) (b g:IV) (h:Hp):OH :=
 AS 17825792 g h fun c i _ _=>Ay 17825793 (.row [.fv (.int .i64 0),.fv (.int .i64 0),.nils] false) (.ptr (.own 17825793) 0) i fun j d _ _=>Ad 3 c d fun k _=>Ai [] false false a 49 [k] d fun l e _ _=>Cg EE 35 l (.fv (.int .i64 0)) fun f=>Ac f false e (fun m=>m b e [] []) fun o p _ _=>Ro p f a o j c b
theorem ApE (a:Aa) (n:Nat) (b c:IV) (d:Hp):Ax EE a ft.get n 17 [b,c] d=S17 a n b c d:=by kernel_rfl
def FR (a:IV) (b:List IV→Hp→OH) (c:Hp) (d e:IV):OH :=
 Bv EE 3 a (.fv (.int .i64 1)) fun f=>b [d,e,f] c
def FG (b c d:AB) (e:Aa) (f:Hp) (g h i:IV) (j:List IV→Hp→OH) (k l:IV):OH :=
 Ab [(c,[]),(d,[])] b [] (Ai [] false false e 18 [g,h] f fun m a n o=>Ab [] n o (CI (Ji .not m) fun p=>Aj p (Am [.fv (.bool false)] a) (FR i j a k l)))
def FK (b:IV) (a:Hp) (c d:AB) (e:IV) (f:Aa) (g:IV) (h:List IV→Hp→OH) (i:IV):OH :=
 Af 2 b fun j=>Ak j a fun k l=>Ab [(c,[]),(d,[])] l [] (AP 3 k e fun m=>Ad 3 m a fun n o=>FG o c d f a g n e h i b)
def FW (a:Hp) (e b f:IV) (g:Aa) (h:List IV→Hp→OH) (i:IV):OH :=
 Ak e a fun j c=>Ab [] c [] (AP 3 j b fun k=>Ad 3 k a fun l d=>Ab [] d [] (FK f a d c b g l h i))
def Fk (d a b:IV) (c:Hp) (e:IV) (f:Aa) (g:List IV→Hp→OH):OH :=
 Bz d fun h=>GM EE 3 a h fun i=>Aj i (Af 2 b fun j=>FW c j a e f g b) (Am [.fv (.bool true)] c)
def Ld (c:List IV) (a:Hp) (d:Aa) (e:List IV→Hp→OH):OH :=
 AF c fun b f=>AF f fun g h=>AF h fun i _=>Af 2 b fun j=>Ak j a fun k _=>Fk k i b a g d e
def Fu (b:IV) (a:Hp) (n:Nat) (c d:IV) (e:Aa):OH :=
 Aj b (Am [.fv (.bool false)] a) (Bh n (fun f g h=>Ld g h e f) [c,d,.fv (.int .i64 0)] a)
def Fq (c:Hp) (a d g:IV) (n:Nat) (h:IV) (i:Aa):OH :=
 Ac a false c (fun j=>Af 2 d fun k=>j k c [] []) fun l b _ _=>Ac a false b (fun m=>Ak l b fun o p=>m o b p []) fun q e _ _=>Ac a false e (fun r=>Bz q fun s=>r s e [] []) fun t f _ _=>Ac a false f (fun u=>Cg EE 3 g t fun v=>u v f [] []) fun w x _ _=>AH a (.fv (.bool true)) w fun y=>Fu y x n h d i
def FU (c:Hp) (d h i e j:IV) (n:Nat) (k:Aa):OH :=
 Ac d false c (fun l=>Cg EE 3 h i fun m=>l m c [] []) fun o f _ _=>AH d (.fv (.bool true)) o fun a=>Ac a false f (fun p=>Af 2 e fun q=>p q f [] []) fun r b _ _=>Ac a false b (fun s=>Ak r b fun t u=>s t b u []) fun v g _ _=>Ac a false g (fun w=>Bz v fun x=>w x g [] []) fun y z _ _=>Fq z a j y n e k
def FP (h i:IV) (d:Hp) (e f:IV) (n:Nat) (j:Aa):OH :=
 Cg EE 3 h i fun a=>Ac a false d (fun k=>Af 1 e fun l=>k l d [] []) fun m b _ _=>Ac a false b (fun o=>Ak m b fun p q=>o p b q []) fun r g _ _=>Ac a false g (fun s=>Af 1 f fun t=>s t g [] []) fun u c _ _=>Ac a false c (fun v=>Ak u c fun w x=>v w c x []) fun y z _ _=>FU z a r y e f n j
def S18 (d:Aa) (n:Nat) (e f:IV) (g:Hp):OH :=
 AS 18874368 e g fun b h _ _=>AS 18874369 f h fun c a _ _=>Af 0 b fun i=>Ak i a fun j _=>Af 0 c fun k=>Ak k a fun l _=>FP j l a b c n d
theorem Arj (a:Aa) (n:Nat) (b c:IV) (d:Hp):Ax EE a ft.get n 18 [b,c] d=S18 a n b c d:=by kernel_rfl
def WV (c:Hp) (a d e:IV):OH :=
 Ae 3 a d c fun b _ _=>Ap true 3 a b fun f=>Am [f,e] b
def WC (c:Hp) (a d:IV):OH :=
 Ae 3 a d c fun b _ _=>Ap true 3 a b fun e=>Am [e,.fv (.int .i64 0)] b
def WX (e:Hp) (f b c:IV):OH :=
 Ay 19923974 (.row [.fv (.int .i64 0),.fv (.int .i64 0),.nils] false) (.ptr (.own 19923974) 0) e fun d g _ _=>Ae 3 d f g fun a _ _=>Cg EE 3 b (.fv (.int .i64 0)) fun h=>Aj h (BL [.fv (.int .i64 0),.fv (.int .i64 0),.nils] [] fun i=>WV a c i b) (Ad 3 d a fun j _=>WC a c j)
def S19 (c:Aa) (n:Nat) (d e:IV) (f:Hp):OH :=
 AS 19922944 e f fun g h _ _=>Ay 19922945 (.row [.fv (.int .i64 0),.fv (.int .i64 0),.nils] false) (.ptr (.own 19922945) 0) h fun i a _ _=>Ad 3 g a fun j _=>Ai [] false false c 55 [d,j] a fun b k _ _=>Aq 0 b fun l=>Aq 1 b fun m=>WX k l m i
theorem Aqw (a:Aa) (n:Nat) (b c:IV) (d:Hp):Ax EE a ft.get n 19 [b,c] d=S19 a n b c d:=by kernel_rfl
def S20 (b:Aa) (n:Nat) (c:IV) (d:Hp):OH :=
 AS 20971520 c d fun e a _ _=>Ad 3 e a fun f _=>Ai [] false false b 52 [f] a fun g h _ _=>Am [g] h
theorem Ap2 (a:Aa) (n:Nat) (b:IV) (c:Hp):Ax EE a ft.get n 20 [b] c=S20 a n b c:=by kernel_rfl
def GV (a:IV) (b:List IV→Hp→OH) (c:Hp) (d:IV):OH :=
 Bv EE 3 a (.fv (.int .i64 1)) fun e=>b [d,e] c
def G7 (d a:IV) (b:Hp) (e:Aa) (f:List IV→Hp→OH) (g:IV):OH :=
 AP 3 d a fun h=>Ad 3 h b fun i _=>Ai [] false false e 21 [i] b fun j c _ _=>CI (Ji .not j) fun k=>Aj k (Am [.fv (.bool false)] c) (GV a f c g)
def Hm (b d c:IV) (a:Hp) (e:Aa) (f:List IV→Hp→OH):OH :=
 GM EE 3 b d fun g=>Aj g (Af 2 c fun h=>Ak h a fun i _=>G7 i b a e f c) (Am [.fv (.bool true)] a)
def Kh (c:List IV) (a:Hp) (d:Aa) (e:List IV→Hp→OH):OH :=
 AF c fun b f=>AF f fun g _=>Af 2 b fun h=>Ak h a fun i _=>Bz i fun j=>Hm g j b a d e
def Hq (b c:IV) (a:Hp) (n:Nat) (d:IV) (e:Aa):OH :=
 AH b c (.fv (.bool false)) fun f=>Aj f (Am [.fv (.bool false)] a) (Bh n (fun g h i=>Kh h i e g) [d,.fv (.int .i64 0)] a)
def Hb (c:Hp) (d h e:IV) (n:Nat) (i:Aa):OH :=
 Ac d true c (fun j=>Cg EE 3 h (.fv (.int .i64 16)) fun k=>j k c [] []) fun l f _ _=>AH d l (.fv (.bool false)) fun a=>Ac a true f (fun m=>Af 0 e fun o=>m o f [] []) fun p b _ _=>Ac a true b (fun q=>Ak p b fun r s=>q r b s []) fun t g _ _=>Ac a true g (fun u=>Cg EE 3 t (.fv (.int .i64 17)) fun v=>u v g [] []) fun w x _ _=>Hq a w x n e i
def S21 (e:Aa) (n:Nat) (f:IV) (g:Hp):OH :=
 AS 22020096 f g fun a b _ _=>Af 0 a fun h=>Ak h b fun i _=>Cg EE 3 i (.fv (.int .i64 15)) fun c=>Ac c true b (fun j=>Af 0 a fun k=>j k b [] []) fun l d _ _=>Ac c true d (fun m=>Ak l d fun o p=>m o d p []) fun q r _ _=>Hb r c q a n e
theorem AoD (a:Aa) (n:Nat) (b:IV) (c:Hp):Ax EE a ft.get n 21 [b] c=S21 a n b c:=by kernel_rfl
def AfH (b:IV) (a:Hp):OH :=
 Af 1 b fun c=>Ak c a fun d _=>Am [d] a
def S25 (c:Aa) (n:Nat) (d:IV) (e:Hp):OH :=
 AS 26214400 d e fun f g _ _=>BL [.fv (.int .i64 0),.fv (.int .i64 0)] [] fun h=>AS 26215425 h g fun a b _ _=>Ad 3 f b fun i _=>Ai [true,false,false] false false c 56 [a,i,.fv (.int .i64 1)] b fun _ j _ _=>AX a fun k=>AfH k j
theorem Ao1 (a:Aa) (n:Nat) (b:IV) (c:Hp):Ax EE a ft.get n 25 [b] c=S25 a n b c:=by kernel_rfl
def AnQ (d:Aa) (e:Hp) (a:IV):OH :=
 Ai [] false false d 57 [.fv (.int .i64 8)] e fun b f _ _=>Aq 0 b fun g=>Aq 1 b fun h=>Ae 3 a g f fun c _ _=>Ap true 3 a c fun i=>Am [i,h] c
def AjN (a:IV) (d:Hp) (b:IV):OH :=
 Aq 0 a fun e=>Aq 1 a fun f=>Ae 3 b e d fun c _ _=>Ap true 3 b c fun g=>Am [g,f] c
def Ak7 (d:Aa) (e:Hp) (f a:IV):OH :=
 Ai [] false false d 58 [f] e fun b g _ _=>Aq 0 b fun h=>Aq 1 b fun i=>Ae 3 a h g fun c _ _=>Ap true 3 a c fun j=>Am [j,i] c
def AlX (a:Hp) (c d:IV) (b:Aa) (e:IV):OH :=
 Ad 3 c a fun f _=>Af 1 d fun g=>Ak g a fun h _=>Bv EE 3 h (.fv (.int .i64 1)) fun i=>Ai [] false false b 28 [f,i,.fv (.int .i64 0)] a fun j k _ _=>Ak7 b k j e
def AlE (a:Hp) (d e:IV) (b:Aa) (c f g:IV):OH :=
 Ak d a fun h _=>Cg EE 3 h e fun i=>Aj i (Ai [] false false b 57 [.fv (.int .i64 10)] a fun j k _ _=>AjN j k c) (Af 1 f fun l=>AlX a l g b c)
def AjE (c d:IV) (b:Hp) (e:IV) (f:Aa) (g h:IV):OH :=
 AP 4 c d fun i=>Ad 4 i b fun j _=>Ay 27267081 (.row [.fv (.int .i64 0),.fv (.int .i64 0),.fv (.int .i64 0),.nils] false) (.ptr (.own 27267081) 0) b fun a k _ _=>Ae 4 a j k fun l _ _=>Af 0 a fun m=>AlE l m e f g a h
def Akj (a b:IV) (c:Hp) (d:IV) (e:Aa) (f:IV):OH :=
 Bz a fun g=>Bd EE 3 g (.fv (.int .i64 1)) fun h=>Af 1 b fun i=>Ak i c fun j _=>Bd EE 3 h j fun k=>AjE a k c d e f b
def AiN (b:IV) (a:Hp) (c:IV) (d:Aa) (e f:IV):OH :=
 Af 1 b fun g=>Ak g a fun h _=>Bz c fun i=>VX EE 3 h i fun j=>Aj j (AnQ d a e) (Akj c b a f d e)
def AiT (c:IV) (d:Hp) (a e:IV):OH :=
 Aq 1 c fun f=>Ae 3 a e d fun b _ _=>Ap true 3 a b fun g=>Am [g,f] b
def AkZ (a:Hp) (b c:IV):OH :=
 Ap true 3 b a fun d=>Am [d,c] a
def Aja (a:Hp) (d:IV) (e:Aa) (f b:IV):OH :=
 Ad 3 d a fun g _=>Ai [] false false e 59 [f,g] a fun c h _ _=>Aq 0 c fun i=>Aq 1 c fun j=>Ae 3 b i h fun k _ _=>AkZ k b j
def AiG (a:IV) (d:Hp) (b:IV):OH :=
 Aq 0 a fun e=>Aq 1 a fun f=>Ae 3 b e d fun c _ _=>Ap true 3 b c fun g=>Am [g,f] c
def AnW (a:Hp) (d:IV) (e:Aa) (b:IV):OH :=
 Ak d a fun f _=>Bv EE 3 f (.fv (.int .i64 1)) fun g=>Ai [] false false e 60 [g] a fun h i _ _=>Ae 3 b h i fun c _ _=>Ap true 3 b c fun j=>Am [j,.fv (.int .i64 0)] c
def Ajr (a:Hp) (d:IV) (b:Aa) (c e:IV):OH :=
 Ak d a fun f _=>AQ EE 3 f (.fv (.int .i64 2)) fun g=>Aj g (Ai [] false false b 57 [.fv (.int .i64 13)] a fun h i _ _=>AiG h i c) (Af 1 e fun j=>AnW a j b c)
def AlP (a:Hp) (b:IV):OH :=
 Ap true 3 b a fun c=>Am [c,.fv (.int .i64 0)] a
def Akg (c:Aa) (d:Hp) (a:IV):OH :=
 Ai [] false false c 30 [.fv (.int .i64 10),.nils] d fun e f _ _=>Ae 3 a e f fun b _ _=>Ap true 3 a b fun g=>Am [g,.fv (.int .i64 0)] b
def Amn (d:Aa) (e:Hp) (f a:IV):OH :=
 Ai [] false false d 57 [f] e fun b g _ _=>Aq 0 b fun h=>Aq 1 b fun i=>Ae 3 a h g fun c _ _=>Ap true 3 a c fun j=>Am [j,i] c
def AlD (c:Aa) (d:Hp) (a:IV):OH :=
 Ai [] false false c 30 [.fv (.int .i64 10),.nils] d fun e f _ _=>Ae 3 a e f fun b _ _=>Ap true 3 a b fun g=>Am [g,.fv (.int .i64 0)] b
def AlO (e f g h:AB) (a:Aa) (i:Hp) (j k l b:IV):OH :=
 Ab [(g,[]),(h,[])] e f (Ai [] false false a 61 [j,.fv (.int .i64 1),k,l] i fun c d m n=>Ab [] m n (Cg EE 3 c (.fv (.int .i64 0)) fun o=>Aj o (Amn a d c b) (AlD a d b)))
def Ak9 (a:AB) (e:IV) (b:Hp) (c:Aa) (f g:IV):OH :=
 Ab [] a [] (AP 3 e (.fv (.int .i64 0)) fun h=>Ad 3 h b fun i d=>Ab [] d [] (Ai [] false false c 30 [.fv (.int .i64 10),.nils] b fun j k l m=>AlO l m d a c k f i j g))
def Aj8 (c:IV) (d:Hp) (a e:IV):OH :=
 Aq 1 c fun f=>Ae 3 a e d fun b _ _=>Ap true 3 a b fun g=>Am [g,f] b
def AjV (a:Hp) (b:IV):OH :=
 Ap true 3 b a fun c=>Am [c,.fv (.int .i64 0)] a
def AnC (b:IV) (c:Aa) (d:Hp) (a:IV):OH :=
 Cg EE 3 b (.fv (.int .i64 0)) fun f=>Aj f (Ai [] false false c 57 [b] d fun e g _ _=>Aq 0 e fun h=>Aj8 e g a h) (Ai [] false false c 30 [.fv (.int .i64 14),.nils] d fun i j _ _=>Ae 3 a i j fun k _ _=>AjV k a)
def AlA (b:AB) (a:Aa) (c:Hp) (d e f:IV):OH :=
 Ab [] b [] (Ai [] false false a 30 [.fv (.int .i64 14),.nils] c fun g h i j=>Ab [(b,[])] i j (Ai [] false false a 62 [d,.fv (.int .i64 1),e,g] h fun k l m n=>Ab [] m n (AnC k a l f)))
def Ajl (c:IV) (d:Hp) (a e:IV):OH :=
 Aq 1 c fun f=>Ae 3 a e d fun b _ _=>Ap true 3 a b fun g=>Am [g,f] b
def Aiu (a:Hp) (b:IV):OH :=
 Ap true 3 b a fun c=>Am [c,.fv (.int .i64 0)] a
def Anz (b:IV) (c:Aa) (d:Hp) (a:IV):OH :=
 Cg EE 3 b (.fv (.int .i64 0)) fun f=>Aj f (Ai [] false false c 57 [b] d fun e g _ _=>Aq 0 e fun h=>Ajl e g a h) (Ai [] false false c 60 [.fv (.int .i64 0)] d fun i j _ _=>Ae 3 a i j fun k _ _=>Aiu k a)
def AjC (b:AB) (a:Aa) (c:Hp) (d:AB) (e f g:IV):OH :=
 Ab [] b [] (Ai [] false false a 30 [.fv (.int .i64 14),.nils] c fun h i j k=>Ab [(b,[]),(d,[])] j k (Ai [] false false a 61 [e,.fv (.int .i64 1),f,h] i fun l m n o=>Ab [] n o (Anz l a m g)))
def Ai4 (c:IV) (a:Hp) (d:Aa) (e f:IV):OH :=
 Af 2 c fun g=>Ak g a fun h b=>Ab [] b [] (AP 3 h (.fv (.int .i64 0)) fun i=>Ad 3 i a fun j k=>AjC k d a b e j f)
def AmO (a:IV) (d:Hp) (b:IV):OH :=
 Aq 0 a fun e=>Aq 1 a fun f=>Ae 3 b e d fun c _ _=>Ap true 3 b c fun g=>Am [g,f] c
def Aka (c:Hp) (d:IV) (e:Aa) (a:IV):OH :=
 AD (Al EE 28 1 [(0,d)]) 27307009 c fun f g _ _=>Ai [] false false e 30 [.fv (.int .i64 18),f] g fun h i _ _=>Ae 3 a h i fun b _ _=>Ap true 3 a b fun j=>Am [j,.fv (.int .i64 0)] b
def AkS (f:Hp) (g b:IV) (c:Aa) (d:IV):OH :=
 Ay 27303945 (.row [.fv (.int .i64 0),.fv (.int .i64 0),.nils] false) (.ptr (.own 27303945) 0) f fun e h _ _=>Ae 3 e g h fun a _ _=>Cg EE 3 b (.fv (.int .i64 0)) fun i=>Aj i (Ai [] false false c 57 [b] a fun j k _ _=>AmO j k d) (Ad 3 e a fun l _=>Aka a l c d)
def AnU (d:IV) (a:Hp) (b:Aa) (e f:IV):OH :=
 AP 3 d (.fv (.int .i64 0)) fun g=>Ad 3 g a fun h _=>Ai [] false false b 26 [e,.fv (.int .i64 0),h] a fun c i _ _=>Aq 0 c fun j=>Aq 1 c fun k=>AkS i j k b f
def Aiz (a:IV) (d:Hp) (b:IV):OH :=
 Aq 0 a fun e=>Aq 1 a fun f=>Ae 3 b e d fun c _ _=>Ap true 3 b c fun g=>Am [g,f] c
def AnL (f b:IV) (a:Hp) (c:Aa) (d e:IV):OH :=
 AQ EE 3 f (.fv (.int .i64 19)) fun g=>Aj g (Af 2 b fun h=>Ak h a fun i _=>AnU i a c d e) (Ad 3 b a fun j _=>Ai [] false false c 63 [d,j] a fun k l _ _=>Aiz k l e)
def Amg (g b:IV) (a:Hp) (c:Aa) (d e f:IV):OH :=
 Aj g (Af 2 b fun h=>Ak h a fun i j=>AlA j c a d i e) (AQ EE 3 f (.fv (.int .i64 18)) fun k=>Aj k (Ai4 b a c d e) (AnL f b a c d e))
def Al7 (a:IV) (b:IV→Hp→OH) (c:Hp):OH :=
 AQ EE 3 a (.fv (.int .i64 17)) fun d=>b d c
def Amv (c:IV) (a:IV→Hp→OH) (b:Hp) (d:IV):OH :=
 Aj c (a c b) (AQ EE 3 d (.fv (.int .i64 16)) fun e=>Aj e (a e b) (Al7 d a b))
def Ajx (a c:IV) (b:Hp) (d:Aa) (e f:IV):OH :=
 AQ EE 3 a (.fv (.int .i64 12)) fun g=>Aj g (Af 2 c fun h=>Ak h b fun i j=>Ak9 j i b d e f) ((fun (k:IV→Hp→OH)=>AQ EE 3 a (.fv (.int .i64 15)) fun l=>Amv l k b a) fun m n=>Amg m c n d e f a)
def Amj (e:IV) (b:Aa) (c:Hp) (a d f g:IV):OH :=
 Aj e (Ai [] false false b 60 [.fv (.int .i64 0)] c fun h i _ _=>Ae 3 a h i fun j _ _=>AlP j a) (AQ EE 3 d (.fv (.int .i64 11)) fun k=>Aj k (Akg b c a) (Ajx d f c b g a))
def AnP (a:IV) (b:IV→Hp→OH) (c:Hp):OH :=
 AQ EE 3 a (.fv (.int .i64 10)) fun d=>Aj d (b d c) (AQ EE 3 a (.fv (.int .i64 14)) fun e=>b e c)
def AiU (a:IV) (b:Hp) (d:Aa) (e f:IV):OH :=
 Af 0 a fun g=>Ak g b fun c _=>AQ EE 3 c (.fv (.int .i64 2)) fun h=>Aj h (Af 1 a fun i=>Ajr b i d e a) ((fun (j:IV→Hp→OH)=>AnP c j b) fun k l=>Amj k d l e c a f)
def Ak8 (g:IV) (a:Aa) (b:Hp) (c h d e:IV):OH :=
 Aj g (Ai [] false false a 57 [.fv (.int .i64 10)] b fun f i _ _=>Aq 0 f fun j=>AiT f i c j) (AQ EE 3 h (.fv (.int .i64 0)) fun k=>Aj k (Aja b d a e c) (AiU d b a c e))
def AmC (a:IV) (b:Hp) (c:IV) (d:Aa) (e f:IV):OH :=
 Af 0 a fun g=>Ak g b fun h _=>VX EE 3 h (.fv (.int .i64 20)) fun i=>AQ EE 3 c (.fv (.int .i64 0)) fun j=>Cg EE 4 i j fun k=>Ak8 k d b e c a f
def S26 (c:Aa) (n:Nat) (d e g:IV) (h:Hp):OH :=
 AS 27262976 g h fun a i _ _=>Ay 27262977 (.row [.fv (.int .i64 0),.fv (.int .i64 0),.nils] false) (.ptr (.own 27262977) 0) i fun f b _ _=>Af 0 a fun j=>Ak j b fun k _=>AQ EE 3 k (.fv (.int .i64 1)) fun l=>Aj l (AiN a b d c f e) (AmC a b e c f d)
theorem Aqe (a:Aa) (n:Nat) (b c d:IV) (e:Hp):Ax EE a ft.get n 26 [b,c,d] e=S26 a n b c d e:=by kernel_rfl
def FM (g:Hp) (h i j:IV) (k:Hp) (a b c d e:IV) (l:List IV→Hp→OH):OH :=
 B3 h i g fun m n o=>Ab [] n o (Bv EE 3 j (.fv (.int .i64 1)) fun f=>BB (k.own.map (·.1)) [29367312] [a,b,c,d,e,f] m fun p=>l [a,b,c,d,e,f] p)
def Ft (b:Hp) (c:IV) (d:AB) (e a f:IV) (g:Hp) (h i j k:IV) (l:List IV→Hp→OH):OH :=
 AD (Al EE 28 1 [(0,c)]) 29367311 b fun m n o p=>Ab [(d,[])] o p (AD (AK EE 29367312 false .append [28,28] [e,m]) 29367312 n fun q r s t=>Ab [] s t (Af 2 a fun u=>FM r u q f g h i j k a l))
def Fv (b:Aa) (f:Hp) (g c:IV) (h i a:AB) (d j e k l:IV) (m:Hp) (n o:IV) (p:List IV→Hp→OH):OH :=
 Ai [] false false b 48 [g,c] f fun q r s t=>Ab [(h,[]),(i,[]),(a,[])] s t (Bv EE 3 d q fun u=>Ai [] false false b 28 [j,e,u] r fun v w x y=>Ab [(a,[])] x y (Ft w v a k l c m e d n o p))
def FF (a:Hp) (f:IV) (b:AB) (d:IV) (e:AB) (g:Aa) (h i j k l:IV) (m:Hp) (n:IV) (o:List IV→Hp→OH):OH :=
 Ad 3 f a fun p c=>Ab [(b,[])] c [] (Af 0 d fun q=>Ak q a fun r s=>Ab [(c,[]),(e,[]),(b,[])] s [] (Fv g a r h c e b i p j k l m d n o))
def Fw (a:AB) (b:IV) (c:Hp) (d:IV) (f:Aa) (g h i j:IV) (k:Hp) (l:IV) (m:List IV→Hp→OH):OH :=
 Ab [] a [] (Af 2 b fun n=>Ak n c fun o e=>Ab [(a,[])] e [] (AP 3 o d fun p=>FF c p a b e f d g h i j k l m))
def Fs (a:Hp) (b:IV):OH :=
 Ap true 3 b a fun c=>Am [c] a
def Fy (d b:IV) (a:Hp) (e f:IV) (g:Aa) (h i:IV) (j:Hp) (c:IV) (k:List IV→Hp→OH):OH :=
 Aj d (Af 2 b fun l=>Ak l a fun m n=>Fw n e a f g h i m b j c k) (Ad 3 b a fun o _=>Ae 3 c o a fun p _ _=>Fs p c)
def Fx (d:List IV) (a:IV) (b:Hp) (e:IV) (f:Aa) (g h:IV) (i:Hp) (j:IV) (k:List IV→Hp→OH):OH :=
 AF d fun c _=>Af 2 a fun l=>Ak l b fun m _=>Bz m fun n=>GM EE 3 c n fun o=>Fy o e b a c f g h i j k
def Iq (a:List IV) (b:Hp) (c:Aa) (d:Hp) (e:List IV→Hp→OH):OH :=
 AF a fun f g=>AF g fun h i=>AF i fun j k=>AF k fun l m=>AF m fun n o=>Fx o j b n c h f d l e
def Fj (a g:Hp) (b c d e f:IV) (n:Nat) (h:Aa):OH :=
 BB (a.own.map (·.1)) [29367312] [b,c,d,e,f,.fv (.int .i64 0)] g fun i=>Bh n (fun j k l=>Iq k l h a j) [b,c,d,e,f,.fv (.int .i64 0)] i
def Fp (a:Hp) (b c d:IV) (e:Hp→OH):OH :=
 Ak b a fun f _=>Bv EE 3 f c fun g=>Af 1 d fun h=>B3 h g a fun i _ _=>e i
def FB (a:Hp) (b e f g h i:IV) (c:Hp→OH):OH :=
 Ac b true a (fun j=>VX EE 3 e f fun k=>j k a [] []) fun l d _ _=>AH b l (.fv (.bool false)) fun m=>Aj m (Af 1 g fun n=>Fp d n h i c) (c d)
def Fl (b:Hp) (f d g h i:IV) (j:Hp→OH):OH :=
 Ak f b fun k _=>AQ EE 3 k (.fv (.int .i64 1)) fun a=>Ac a true b (fun l=>Af 1 d fun m=>l m b [] []) fun n c _ _=>Ac a true c (fun o=>Ak n c fun p q=>o p c q []) fun r e _ _=>Ac a true e (fun s=>s g e [] []) fun t u _ _=>FB u a r t d h i j
def FL (e f:IV) (g h:Hp) (c d a i:IV) (n:Nat) (j:Aa):OH :=
 BL [.fv (.int .i64 0),.fv (.int .i64 0),.nils] [(0,1,e),(1,1,f)] fun k=>Ay 29361157 (.row [.fv (.int .i64 0),.fv (.int .i64 0),.nils] false) (.ptr (.own 29361157) 0) g fun b l _ _=>Ae 3 b k l fun m _ _=>(fun (o:Hp→OH)=>Af 0 a fun p=>Fl m p a d c b o) fun q=>Fj h q c d a i b n j
def S28 (d:Aa) (n:Nat) (e f g:IV) (c:Hp):OH :=
 AS 29360128 e c fun a h _ _=>Ay 29360129 (.row [.fv (.int .i64 0),.fv (.int .i64 0),.nils] false) (.ptr (.own 29360129) 0) h fun i b _ _=>Af 0 a fun j=>Ak j b fun k _=>Af 1 a fun l=>Ak l b fun m _=>FL k m b c f g a i n d
theorem AoT (a:Aa) (n:Nat) (b c d:IV) (e:Hp):Ax EE a ft.get n 28 [b,c,d] e=S28 a n b c d e:=by kernel_rfl
def S29 (h:Aa) (n:Nat) (c:IV) (d:Hp):OH :=
 Ay 30408704 (.row [.fv (.int .i64 0),.fv (.int .i64 0),.nils] false) (.ptr (.own 30408704) 0) d fun a e _ _=>BL [.fv (.int .i64 0),.fv (.int .i64 0),.nils] [(0,1,.fv (.int .i64 1)),(1,1,c)] fun f=>Ae 3 a f e fun b _ _=>Ap true 3 a b fun g=>Am [g] b
theorem Arx (a:Aa) (n:Nat) (b:IV) (c:Hp):Ax EE a ft.get n 29 [b] c=S29 a n b c:=by kernel_rfl
def S30 (i:Aa) (n:Nat) (c d:IV) (e:Hp):OH :=
 Ay 31457280 (.row [.fv (.int .i64 0),.fv (.int .i64 0),.nils] false) (.ptr (.own 31457280) 0) e fun a f _ _=>BL [.fv (.int .i64 0),.fv (.int .i64 0),.nils] [(0,1,c),(2,1,d)] fun g=>Ae 3 a g f fun b _ _=>Ap true 3 a b fun h=>Am [h] b
theorem ArW (a:Aa) (n:Nat) (b c:IV) (d:Hp):Ax EE a ft.get n 30 [b,c] d=S30 a n b c d:=by kernel_rfl
def S31 (h:Aa) (n:Nat) (c:IV) (d:Hp):OH :=
 Ay 32505856 (.row [.fv (.int .i64 0),.fv (.int .i64 0),.nils] false) (.ptr (.own 32505856) 0) d fun a e _ _=>BL [.fv (.int .i64 0),.fv (.int .i64 0),.nils] [(0,1,.fv (.int .i64 25)),(1,1,c)] fun f=>Ae 3 a f e fun b _ _=>Ap true 3 a b fun g=>Am [g] b
theorem Ar8 (a:Aa) (n:Nat) (b:IV) (c:Hp):Ax EE a ft.get n 31 [b] c=S31 a n b c:=by kernel_rfl
def MM (a b c:IV) (d:List IV→Hp→OH) (e:Hp) (f g:IV):OH :=
 Bv EE 3 a b fun h=>Bv EE 3 c (.fv (.int .i64 1)) fun i=>d [f,g,h,i] e
def Na (a:Hp) (e b c d:IV) (f:Aa) (g:List IV→Hp→OH) (h:IV):OH :=
 Ak e a fun i _=>AP 3 i b fun j=>Ad 3 j a fun k _=>Bd EE 3 c d fun l=>Ai [] false false f 40 [k,l] a fun m n _ _=>MM d m b g n c h
def L5 (a:Hp) (b f g c h i d:IV) (j:Aa) (k:List IV→Hp→OH):OH :=
 Ac b true a (fun l=>GM EE 3 f g fun m=>l m a [] []) fun n e _ _=>AH b n (.fv (.bool false)) fun o=>Aj o (Af 2 c fun p=>Na e p h i d j k c) (Am [d] e)
def Mv (a:Hp) (g c d e h:IV) (i:Aa) (j:List IV→Hp→OH):OH :=
 Ak g a fun k _=>Bz k fun l=>GM EE 3 c l fun b=>Ac b true a (fun m=>m d a [] []) fun n f _ _=>Ac b true f (fun o=>o e f [] []) fun p q _ _=>L5 q b n p h c e d i j
def RO (b:List IV) (c:Hp) (d:Aa) (e:List IV→Hp→OH):OH :=
 AF b fun f g=>AF g fun a h=>AF h fun i j=>AF j fun k _=>Af 2 a fun l=>Mv c l k i f a d e
def S40 (a:Aa) (n:Nat) (b c:IV) (d:Hp):OH :=
 AS 41943040 b d fun e f _ _=>Bh n (fun g h i=>RO h i a g) [c,e,.fv (.int .i64 1),.fv (.int .i64 0)] f
theorem Aq6 (a:Aa) (n:Nat) (b c:IV) (d:Hp):Ax EE a ft.get n 40 [b,c] d=S40 a n b c d:=by kernel_rfl
def S41 (j:Aa) (n:Nat) (e b:IV) (c:Hp):OH :=
 CC EE 3 .rem e b fun a=>(fun (d:IV→Hp→OH)=>GM EE 3 a (.fv (.int .i64 0)) fun f=>Aj f (Bv EE 3 a b fun g=>d g c) (d a c)) fun h i=>Am [h] i
theorem ArQ (a:Aa) (n:Nat) (b c:IV) (d:Hp):Ax EE a ft.get n 41 [b,c] d=S41 a n b c d:=by kernel_rfl
def Wl (d e:IV) (a:Hp) (b:IV):OH :=
 AP 3 d e fun f=>Ad 3 f a fun g _=>Ae 3 b g a fun c _ _=>Ap true 3 b c fun h=>Am [h] c
def Wb (c d e:IV) (f:Hp) (a:IV):OH :=
 CC EE 3 .mul (.fv (.int .i64 7)) c fun g=>Bv EE 3 d g fun h=>BL [.fv (.int .i64 0),.fv (.int .i64 0),.nils] [(0,1,e),(1,1,h)] fun i=>Ae 3 a i f fun b _ _=>Ap true 3 a b fun j=>Am [j] b
def WD (c a d:IV) (b:Hp) (e:IV):OH :=
 CC EE 3 .quo c (.fv (.int .i64 3)) fun f=>Bv EE 3 f a fun g=>Af 1 d fun h=>Ak h b fun i _=>CC EE 3 .quo i (.fv (.int .i64 5)) fun j=>Wb a j g b e
def Xj (e b:IV) (a:Hp) (c d:IV):OH :=
 Aj e (Af 2 b fun f=>Ak f a fun g _=>Wl g c a d) (Af 0 b fun h=>Ak h a fun i _=>WD i c b a d)
def S42 (l:Aa) (n:Nat) (d a:IV) (e:Hp):OH :=
 AS 44040192 d e fun b f _ _=>Ay 44040193 (.row [.fv (.int .i64 0),.fv (.int .i64 0),.nils] false) (.ptr (.own 44040193) 0) f fun g c _ _=>Af 2 b fun h=>Ak h c fun i _=>Bz i fun j=>GM EE 3 a j fun k=>Xj k b c a g
theorem Arh (a:Aa) (n:Nat) (b c:IV) (d:Hp):Ax EE a ft.get n 42 [b,c] d=S42 a n b c d:=by kernel_rfl
def AcJ (b c:AB) (a:Hp) (d e f:IV):OH :=
 Ab [] b c (Ap true 3 d a fun g=>Ap true 3 e a fun h=>Am [f,g,h,.fv (.bool false)] a)
def Ac4 (c:Aa) (d:Hp) (e:AB) (a f b g:IV):OH :=
 Ai [] false false c 31 [.fv (.int .i64 0)] d fun h i j k=>Ab [(e,[])] j k (Ae 3 a f i fun l m n=>Ab [] m n (Ae 3 b h l fun o p q=>AcJ p q o a b g))
def AaR (b c:AB) (a:Hp) (d e f:IV):OH :=
 Ab [] b c (Ap true 3 d a fun g=>Ap true 3 e a fun h=>Am [f,g,h,.fv (.bool true)] a)
def AaG (a:Hp) (e:IV) (f:AB) (b g c h:IV):OH :=
 Ad 3 e a fun i d=>Ab [(f,[])] d [] (Ae 3 b g a fun j k l=>Ab [(d,[])] k l (Ae 3 c i j fun m n o=>AaR n o m b c h))
def Adq (h i:IV) (a:Hp) (b:IV) (j:Aa) (c d e k:IV):OH :=
 AH h (.fv (.bool true)) i fun l=>Aj l (Ad 3 b a fun m f=>Ab [] f [] (Ac4 j a f c m d e)) (Ad 3 b a fun n g=>Ab [] g [] (AaG a k g c n d e))
def AcA (g:Hp) (b h i:IV) (d:Aa) (j k l m:IV):OH :=
 Ae 3 b h g fun c _ _=>CI (Ji .not i) fun a=>Ac a false c (fun n=>Ad 3 b c fun o p=>n o c p []) fun q e _ _=>Ac a false e (fun r=>Ai [] false false d 25 [q] e r) fun s f _ _=>Ac a false f (fun t=>Cg EE 3 s (.fv (.int .i64 0)) fun u=>t u f [] []) fun v w _ _=>Adq a v w j d k l m b
def YT (a:Hp) (e:IV) (b:Aa) (c f g h i:IV):OH :=
 Ad 3 e a fun j _=>Ai [] false false b 68 [c,f,j,.fv (.int .i64 5)] a fun d k _ _=>Aq 0 d fun l=>Aq 1 d fun m=>Ay 45092871 (.row [.fv (.int .i64 0),.fv (.int .i64 0),.nils] false) (.ptr (.own 45092871) 0) k fun n o _ _=>AcA o n l m b g h i c
def Acs (b:Hp) (e:IV) (c:Aa) (f g h i:IV):OH :=
 Ad 3 e b fun j _=>Ai [] false false c 14 [j,.fv (.int .i64 2)] b fun k l _ _=>Ay 45091842 (.row [.fv (.int .i64 0),.fv (.int .i64 0),.nils] false) (.ptr (.own 45091842) 0) l fun a m _ _=>Ae 3 a k m fun d _ _=>Ad 3 a d fun n _=>YT d f c g n a h i
def AaU (b c:AB) (a:Hp) (d e f:IV):OH :=
 Ab [] b c (Ap true 3 d a fun g=>Ap true 3 e a fun h=>Am [f,g,h,.fv (.bool false)] a)
def ZV (c:Aa) (d:Hp) (e:AB) (a f b g:IV):OH :=
 Ai [] false false c 30 [.fv (.int .i64 11),.nils] d fun h i j k=>Ab [(e,[])] j k (Ae 3 a f i fun l m n=>Ab [] m n (Ae 3 b h l fun o p q=>AaU p q o a b g))
def X8 (b c:AB) (a:Hp) (d e f:IV):OH :=
 Ab [] b c (Ap true 3 d a fun g=>Ap true 3 e a fun h=>Am [f,g,h,.fv (.bool true)] a)
def AdU (a:Hp) (e:IV) (f:AB) (b g c h:IV):OH :=
 Ad 3 e a fun i d=>Ab [(f,[])] d [] (Ae 3 b g a fun j k l=>Ab [(d,[])] k l (Ae 3 c i j fun m n o=>X8 n o m b c h))
def Aaf (h i:IV) (a:Hp) (b:IV) (j:Aa) (c d e k:IV):OH :=
 AH h (.fv (.bool true)) i fun l=>Aj l (Ad 3 b a fun m f=>Ab [] f [] (ZV j a f c m d e)) (Ad 3 b a fun n g=>Ab [] g [] (AdU a k g c n d e))
def Aa8 (g:Hp) (b h i:IV) (d:Aa) (j k l m:IV):OH :=
 Ae 3 b h g fun c _ _=>CI (Ji .not i) fun a=>Ac a false c (fun n=>Ad 3 b c fun o p=>n o c p []) fun q e _ _=>Ac a false e (fun r=>Ai [] false false d 25 [q] e r) fun s f _ _=>Ac a false f (fun t=>Cg EE 3 s (.fv (.int .i64 0)) fun u=>t u f [] []) fun v w _ _=>Aaf a v w j d k l m b
def Aa7 (a:Hp) (e:IV) (b:Aa) (c f g h i:IV):OH :=
 Ad 3 e a fun j _=>Ai [] false false b 70 [c,f,j,.fv (.int .i64 5)] a fun d k _ _=>Aq 0 d fun l=>Aq 1 d fun m=>Ay 45097991 (.row [.fv (.int .i64 0),.fv (.int .i64 0),.nils] false) (.ptr (.own 45097991) 0) k fun n o _ _=>Aa8 o n l m b g h i c
def Ad4 (b:Hp) (f:IV) (c:Aa) (d g h i:IV):OH :=
 Ad 3 f b fun j _=>Ai [] false false c 69 [d,j,.fv (.int .i64 2)] b fun k l _ _=>Ay 45096963 (.row [.fv (.int .i64 0),.fv (.int .i64 0),.nils] false) (.ptr (.own 45096963) 0) l fun a m _ _=>Ae 3 a k m fun e _ _=>Ad 3 a e fun n _=>Aa7 e g c d n a h i
def S43 (a:Aa) (n:Nat) (h i j k:IV) (l:Hp):OH :=
 AS 45088768 i l fun b m _ _=>AS 45088769 j m fun c o _ _=>Ay 45088771 (.row [.fv (.int .i64 0),.fv (.int .i64 0),.nils] false) (.ptr (.own 45088771) 0) o fun d p _ _=>Ay 45088772 (.row [.fv (.int .i64 0),.fv (.int .i64 0),.nils] false) (.ptr (.own 45088772) 0) p fun e q _ _=>Ai [] false false a 67 [h] q fun f g _ _=>Aj k (Acs g c a b f d e) (Ad4 g c a f b d e)
theorem AqE (a:Aa) (n:Nat) (b c d e:IV) (f:Hp):Ax EE a ft.get n 43 [b,c,d,e] f=S43 a n b c d e f:=by kernel_rfl
def Wa (c:Hp) (a d e:IV):OH :=
 Ae 3 a d c fun b _ _=>Ap true 3 a b fun f=>Am [f,e] b
def Xf (c:Hp) (a d:IV):OH :=
 Ae 3 a d c fun b _ _=>Ap true 3 a b fun e=>Am [e,.fv (.int .i64 0)] b
def Wv (e:Hp) (f b c:IV):OH :=
 Ay 46138373 (.row [.fv (.int .i64 0),.fv (.int .i64 0),.nils] false) (.ptr (.own 46138373) 0) e fun d g _ _=>Ae 3 d f g fun a _ _=>Cg EE 3 b (.fv (.int .i64 0)) fun h=>Aj h (BL [.fv (.int .i64 0),.fv (.int .i64 0),.nils] [] fun i=>Wa a c i b) (Ad 3 d a fun j _=>Xf a c j)
def S44 (c:Aa) (n:Nat) (d:IV) (e:Hp):OH :=
 AS 46137344 d e fun f g _ _=>Ay 46137345 (.row [.fv (.int .i64 0),.fv (.int .i64 0),.nils] false) (.ptr (.own 46137345) 0) g fun h a _ _=>Ad 3 f a fun i _=>Ai [] false false c 58 [i] a fun b j _ _=>Aq 0 b fun k=>Aq 1 b fun l=>Wv j k l h
theorem Aqu (a:Aa) (n:Nat) (b:IV) (c:Hp):Ax EE a ft.get n 44 [b] c=S44 a n b c:=by kernel_rfl
def S45 (j:Aa) (n:Nat) (e b:IV) (c:Hp):OH :=
 CC EE 3 .rem e b fun a=>(fun (d:IV→Hp→OH)=>GM EE 3 a (.fv (.int .i64 0)) fun f=>Aj f (Bv EE 3 a b fun g=>d g c) (d a c)) fun h i=>Am [h] i
theorem ArP (a:Aa) (n:Nat) (b c:IV) (d:Hp):Ax EE a ft.get n 45 [b,c] d=S45 a n b c d:=by kernel_rfl
def RN (b:IV) (a:Hp) (c:IV):OH :=
 Aj b (Am [.fv (.int .i64 3)] a) (AQ EE 3 c (.fv (.int .i64 13)) fun d=>Aj d (Am [.fv (.int .i64 4)] a) (Am [.fv (.int .i64 (-1))] a))
def Po (a:IV) (b:IV→Hp→OH) (c:Hp) (d:IV):OH :=
 Aj a (b a c) (AQ EE 3 d (.fv (.int .i64 27)) fun e=>b e c)
def Qc (c:IV) (b:Hp) (a:IV):OH :=
 Aj c (Am [.fv (.int .i64 2)] b) ((fun (d:IV→Hp→OH)=>AQ EE 3 a (.fv (.int .i64 7)) fun e=>Po e d b a) fun f g=>RN f g a)
def RA (a:IV) (b:IV→Hp→OH) (c:Hp):OH :=
 AQ EE 3 a (.fv (.int .i64 28)) fun d=>Aj d (b d c) (AQ EE 3 a (.fv (.int .i64 29)) fun e=>b e c)
def R8 (a:IV) (b:IV→Hp→OH) (c:Hp):OH :=
 AQ EE 3 a (.fv (.int .i64 22)) fun d=>Aj d (b d c) (AQ EE 3 a (.fv (.int .i64 26)) fun e=>Aj e (b e c) (RA a b c))
def RX (a:IV) (b:IV→Hp→OH) (c:Hp):OH :=
 AQ EE 3 a (.fv (.int .i64 20)) fun d=>Aj d (b d c) (AQ EE 3 a (.fv (.int .i64 21)) fun e=>Aj e (b e c) (R8 a b c))
def Pz (a:IV) (b:IV→Hp→OH) (c:Hp):OH :=
 AQ EE 3 a (.fv (.int .i64 16)) fun d=>Aj d (b d c) (AQ EE 3 a (.fv (.int .i64 17)) fun e=>Aj e (b e c) (RX a b c))
def QX (a:IV) (b:IV→Hp→OH) (c:Hp):OH :=
 AQ EE 3 a (.fv (.int .i64 5)) fun d=>Aj d (b d c) (AQ EE 3 a (.fv (.int .i64 6)) fun e=>Aj e (b e c) (Pz a b c))
def PH (c:IV) (a:IV→Hp→OH) (b:Hp) (d:IV):OH :=
 Aj c (a c b) (AQ EE 3 d (.fv (.int .i64 4)) fun e=>Aj e (a e b) (QX d a b))
def Rn (c:IV) (b:Hp) (a:IV):OH :=
 Aj c (Am [.fv (.int .i64 1)] b) ((fun (d:IV→Hp→OH)=>AQ EE 3 a (.fv (.int .i64 3)) fun e=>PH e d b a) fun f g=>Qc f g a)
def Ra (a:IV) (b:IV→Hp→OH) (c:Hp):OH :=
 AQ EE 3 a (.fv (.int .i64 24)) fun d=>Aj d (b d c) (AQ EE 3 a (.fv (.int .i64 30)) fun e=>b e c)
def Q7 (a:IV) (b:IV→Hp→OH) (c:Hp):OH :=
 AQ EE 3 a (.fv (.int .i64 19)) fun d=>Aj d (b d c) (AQ EE 3 a (.fv (.int .i64 23)) fun e=>Aj e (b e c) (Ra a b c))
def Rq (a:IV) (b:IV→Hp→OH) (c:Hp):OH :=
 AQ EE 3 a (.fv (.int .i64 12)) fun d=>Aj d (b d c) (AQ EE 3 a (.fv (.int .i64 18)) fun e=>Aj e (b e c) (Q7 a b c))
def Rw (c:IV) (a:IV→Hp→OH) (b:Hp) (d:IV):OH :=
 Aj c (a c b) (AQ EE 3 d (.fv (.int .i64 9)) fun e=>Aj e (a e b) (Rq d a b))
def QG (c:IV) (b:Hp) (a:IV):OH :=
 Aj c (Am [.fv (.int .i64 0)] b) ((fun (d:IV→Hp→OH)=>AQ EE 3 a (.fv (.int .i64 8)) fun e=>Rw e d b a) fun f g=>Rn f g a)
def Q6 (a:IV) (b:IV→Hp→OH) (c:Hp):OH :=
 AQ EE 3 a (.fv (.int .i64 25)) fun d=>b d c
def RM (a:IV) (b:IV→Hp→OH) (c:Hp):OH :=
 AQ EE 3 a (.fv (.int .i64 14)) fun d=>Aj d (b d c) (AQ EE 3 a (.fv (.int .i64 15)) fun e=>Aj e (b e c) (Q6 a b c))
def Rc (a:IV) (b:IV→Hp→OH) (c:Hp):OH :=
 AQ EE 3 a (.fv (.int .i64 10)) fun d=>Aj d (b d c) (AQ EE 3 a (.fv (.int .i64 11)) fun e=>Aj e (b e c) (RM a b c))
def S46 (h:Aa) (n:Nat) (a:IV) (b:Hp):OH :=
 (fun (c:IV→Hp→OH)=>AQ EE 3 a (.fv (.int .i64 1)) fun d=>Aj d (c d b) (AQ EE 3 a (.fv (.int .i64 2)) fun e=>Aj e (c e b) (Rc a c b))) fun f g=>QG f g a
theorem Ar3 (a:Aa) (n:Nat) (b:IV) (c:Hp):Ax EE a ft.get n 46 [b] c=S46 a n b c:=by kernel_rfl
def V3 (d e:IV) (a:Hp) (b:IV):OH :=
 AP 3 d e fun f=>Ad 3 f a fun g _=>Ae 3 b g a fun c _ _=>Ap true 3 b c fun h=>Am [h] c
def WN (c d:IV) (e:Hp) (a:IV):OH :=
 Bv EE 3 c d fun f=>BL [.fv (.int .i64 0),.fv (.int .i64 0),.nils] [(1,1,f)] fun g=>Ae 3 a g e fun b _ _=>Ap true 3 a b fun h=>Am [h] b
def W5 (e b:IV) (a:Hp) (c d:IV):OH :=
 Aj e (Af 2 b fun f=>Ak f a fun g _=>V3 g c a d) (Af 1 b fun h=>Ak h a fun i _=>WN i c a d)
def S47 (l:Aa) (n:Nat) (d a:IV) (e:Hp):OH :=
 AS 49283072 d e fun b f _ _=>Ay 49283073 (.row [.fv (.int .i64 0),.fv (.int .i64 0),.nils] false) (.ptr (.own 49283073) 0) f fun g c _ _=>Af 2 b fun h=>Ak h c fun i _=>Bz i fun j=>GM EE 3 a j fun k=>W5 k b c a g
theorem Ao3 (a:Aa) (n:Nat) (b c:IV) (d:Hp):Ax EE a ft.get n 47 [b,c] d=S47 a n b c d:=by kernel_rfl
def Agg (b:IV) (a:Hp) (c:Hp→OH):OH :=
 AQ EE 3 b (.fv (.int .i64 0)) fun d=>Aj d (Am [.fv (.int .i64 1)] a) (AQ EE 3 b (.fv (.int .i64 2)) fun e=>Aj e (Am [.fv (.int .i64 2)] a) (c a))
def AfP (d c:IV) (a:Hp) (b:Hp→OH) (e:IV):OH :=
 Aj d (AQ EE 3 c (.fv (.int .i64 1)) fun f=>Aj f (Am [.fv (.int .i64 1)] a) (b a)) (AQ EE 3 e (.fv (.int .i64 13)) fun g=>Aj g (Agg c a b) (b a))
def AgF (a:IV) (b:IV→Hp→OH) (c:Hp):OH :=
 AQ EE 3 a (.fv (.int .i64 29)) fun d=>b d c
def Aic (a:IV) (b:IV→Hp→OH) (c:Hp):OH :=
 AQ EE 3 a (.fv (.int .i64 20)) fun d=>Aj d (b d c) (AQ EE 3 a (.fv (.int .i64 28)) fun e=>Aj e (b e c) (AgF a b c))
def AfY (c:IV) (a:IV→Hp→OH) (b:Hp) (d:IV):OH :=
 Aj c (a c b) (AQ EE 3 d (.fv (.int .i64 6)) fun e=>Aj e (a e b) (Aic d a b))
def S48 (k:Aa) (n:Nat) (a e:IV) (b:Hp):OH :=
 (fun (f:Hp→OH)=>(fun (c:IV→Hp→OH)=>AQ EE 3 a (.fv (.int .i64 3)) fun d=>Aj d (c d b) (AQ EE 3 a (.fv (.int .i64 4)) fun g=>AfY g c b a)) fun h i=>AfP h e i f a) fun j=>Am [.fv (.int .i64 0)] j
theorem Ap3 (a:Aa) (n:Nat) (b c:IV) (d:Hp):Ax EE a ft.get n 48 [b,c] d=S48 a n b c d:=by kernel_rfl
def S49 (b:Aa) (n:Nat) (c:IV) (d:Hp):OH :=
 AS 51380224 c d fun e a _ _=>Ad 3 e a fun f _=>Ay 51381249 (.row [.fv (.int .i64 0)] false) (.ptr (.own 51381249) 0) a fun g h _ _=>Ai [false,true,false] false false b 71 [f,g,.fv (.int .i64 1)] h fun i j _ _=>Am [i] j
theorem ApY (a:Aa) (n:Nat) (b:IV) (c:Hp):Ax EE a ft.get n 49 [b] c=S49 a n b c:=by kernel_rfl
def S50 (a:Aa) (n:Nat) (b c:IV) (d:Hp):OH :=
 Ai [] false false a 72 [b,c] d fun e f _ _=>VX EE 3 e (.fv (.int .i64 0)) fun g=>Am [g] f
theorem Aox (a:Aa) (n:Nat) (b c:IV) (d:Hp):Ax EE a ft.get n 50 [b,c] d=S50 a n b c d:=by kernel_rfl
def S51 (b:Aa) (n:Nat) (c:IV) (d:Hp):OH :=
 AS 53477376 c d fun e a _ _=>Ad 3 e a fun f _=>Ai [] false false b 52 [f] a fun g h _ _=>CI (Ji .not g) fun i=>Am [i] h
theorem AoR (a:Aa) (n:Nat) (b:IV) (c:Hp):Ax EE a ft.get n 51 [b] c=S51 a n b c:=by kernel_rfl
def AfF (a:Hp) (b:IV):OH :=
 Ak b a fun c _=>Bz c fun d=>AQ EE 3 d (.fv (.int .i64 0)) fun e=>Am [e] a
def AgK (c:Hp) (a e:IV) (f:Aa):OH :=
 Ac a true c (fun g=>AP 3 e (.fv (.int .i64 1)) fun h=>g h c [] []) fun i b _ _=>Ac a true b (fun j=>Ad 3 i b fun k l=>j k b l []) fun m d _ _=>Ac a true d (fun n=>Ai [] false false f 52 [m] d n) fun o p _ _=>AH a o (.fv (.bool false)) fun q=>Am [q] p
def Ag7 (a:Hp) (b h:IV) (e:Aa) (i:IV):OH :=
 Ac b true a (fun j=>Ad 3 h a fun k l=>j k a l []) fun m f _ _=>Ac b true f (fun n=>Ai [] false false e 52 [m] f n) fun o g _ _=>AH b o (.fv (.bool false)) fun c=>Ac c true g (fun p=>Af 2 i fun q=>p q g [] []) fun r d _ _=>Ac c true d (fun s=>Ak r d fun t u=>s t d u []) fun v w _ _=>AgK w c v e
def Af8 (f:IV) (c:Hp) (d:IV) (g:Aa):OH :=
 Bz f fun h=>AQ EE 3 h (.fv (.int .i64 2)) fun a=>Ac a true c (fun i=>Af 2 d fun j=>i j c [] []) fun k b _ _=>Ac a true b (fun l=>Ak k b fun m n=>l m b n []) fun o e _ _=>Ac a true e (fun p=>AP 3 o (.fv (.int .i64 0)) fun q=>p q e [] []) fun r s _ _=>Ag7 s a r g d
def AgP (c b:IV) (a:Hp) (d:Aa):OH :=
 Aj c (Af 2 b fun e=>Ak e a fun f _=>Af8 f a b d) (Am [.fv (.bool false)] a)
def Ahn (a:IV) (b:IV→Hp→OH) (c:Hp):OH :=
 AQ EE 3 a (.fv (.int .i64 16)) fun d=>Aj d (b d c) (AQ EE 3 a (.fv (.int .i64 17)) fun e=>b e c)
def S52 (d:Aa) (n:Nat) (e:IV) (f:Hp):OH :=
 AS 54525952 e f fun a b _ _=>Af 0 a fun g=>Ak g b fun c _=>AQ EE 3 c (.fv (.int .i64 15)) fun h=>Aj h (Af 2 a fun i=>AfF b i) ((fun (j:IV→Hp→OH)=>Ahn c j b) fun k l=>AgP k a l d)
theorem Apz (a:Aa) (n:Nat) (b:IV) (c:Hp):Ax EE a ft.get n 52 [b] c=S52 a n b c:=by kernel_rfl
def Acj (c:Hp) (a d:IV):OH :=
 Ae 3 a d c fun b _ _=>Ap true 3 a b fun e=>Am [e,.fv (.int .i64 8)] b
def X3 (a:Hp) (d b:IV):OH :=
 Ad 3 d a fun e _=>Ae 3 b e a fun c _ _=>Ap true 3 b c fun f=>Am [f,.fv (.int .i64 0)] c
def Aag (b c:IV) (a:Hp) (d e:IV):OH :=
 Bd EE 3 b (.fv (.int .i64 1)) fun f=>Af 1 c fun g=>Ak g a fun h _=>Bd EE 3 f h fun i=>AP 3 d i fun j=>X3 a j e
def Adt (a d:IV) (b:Hp) (c e:IV):OH :=
 Bz a fun f=>VX EE 3 d f fun g=>Aj g (BL [.fv (.int .i64 0),.fv (.int .i64 0),.nils] [] fun h=>Acj b c h) (Bz a fun i=>Aag i e b a c)
def AaD (c:Aa) (d:Hp) (a:IV):OH :=
 Ai [] false false c 64 [.fv (.int .i64 15),.nils] d fun e f _ _=>Ae 3 a e f fun b _ _=>Ap true 3 a b fun g=>Am [g,.fv (.int .i64 0)] b
def ZN (a:Hp) (b c:IV):OH :=
 Ap true 3 b a fun d=>Am [d,c] a
def Abb (c:Aa) (d:Hp) (e f g a h:IV):OH :=
 Ai [] false false c 73 [e,f,g] d fun i j k l=>Ab [] k l (Ae 3 a h j fun b m n=>Ab [] m n (Ap true 3 a b fun o=>Am [o,i] b))
def Zr (d:IV) (a:Hp) (e f:AB) (b:Aa) (g h i:IV):OH :=
 AP 3 d (.fv (.int .i64 1)) fun j=>Ad 3 j a fun k c=>Ab [(e,f)] c [] (Ai [] false false b 64 [.fv (.int .i64 15),.nils] a fun l m n o=>Ab [(c,[])] n o (Abb b m g k l h i))
def Aat (b:IV) (c:Hp) (a:IV) (d:Aa) (g h:IV):OH :=
 Cg EE 35 b (.fv (.int .i64 0)) fun i=>Aj i (BL [.fv (.int .i64 0),.fv (.int .i64 0),.nils] [] fun j=>Ae 3 a j c fun k _ _=>ZN k a b) (Ai [] false false d 64 [.fv (.int .i64 15),.nils] c fun l m e f=>Ab [] e f (Zr g m e f d h a l))
def ZJ (b:AB) (a:Aa) (d:Hp) (c e f g:IV):OH :=
 Ab [] b [] (Ai [] false false a 64 [.fv (.int .i64 15),.nils] d fun h i j k=>Ab [(b,[])] j k (Ai [] false false a 73 [c,e,h] i fun l m n o=>Ab [] n o (Aat l m f a g c)))
def YE (a:IV) (d:Hp) (b:IV):OH :=
 Aq 0 a fun e=>Aq 1 a fun f=>Ae 3 b e d fun c _ _=>Ap true 3 b c fun g=>Am [g,f] c
def Acx (c:Hp) (a d e:IV):OH :=
 Ae 3 a d c fun b _ _=>Ap true 3 a b fun f=>Am [f,e] b
def Ac7 (c:Hp) (a d e:IV):OH :=
 Ae 3 a d c fun b f g=>Ab [] f g (Ap true 3 a b fun h=>Am [h,e] b)
def ZY (b c d e:AB) (f:Aa) (g:Hp) (h i j:IV):OH :=
 Ab [(c,d),(e,[])] b [] (Ai [] false false f 53 [h,i] g fun a k l m=>Ab [] l m (Aq 0 a fun n=>Aq 1 a fun o=>Ac7 k j n o))
def Z2 (a:AB) (b:Aa) (f:Hp) (g h i j:IV):OH :=
 Ab [] a [] (Ai [] false false b 75 [g,h] f fun k c d e=>Ab [] d e (AP 3 i (.fv (.int .i64 1)) fun l=>Ad 3 l c fun m n=>ZY n d e a b c k m j))
def XB (e:Hp) (f b c:IV) (g:Aa) (h i:IV):OH :=
 Ay 55592968 (.row [.fv (.int .i64 0),.fv (.int .i64 0),.nils] false) (.ptr (.own 55592968) 0) e fun d j _ _=>Ae 3 d f j fun a _ _=>Cg EE 35 b (.fv (.int .i64 0)) fun k=>Aj k (BL [.fv (.int .i64 0),.fv (.int .i64 0),.nils] [] fun l=>Acx a c l b) (Ad 3 d a fun m n=>Z2 n g a h m i c)
def X2 (a:IV) (b:Hp) (c:Aa) (d f:IV):OH :=
 AP 3 a (.fv (.int .i64 0)) fun g=>Ad 3 g b fun h _=>Ai [] false false c 53 [d,h] b fun e i _ _=>Aq 0 e fun j=>Aq 1 e fun k=>XB i j k f c d a
def Yk (a:Hp) (b c:IV):OH :=
 Ap true 3 b a fun d=>Am [d,c] a
def Adr (a:Hp) (b c:IV):OH :=
 Ap true 3 b a fun d=>Am [d,c] a
def Ac8 (c:Aa) (d:Hp) (e f g:IV) (h:AB) (a i:IV):OH :=
 Ai [] false false c 73 [e,f,g] d fun j k l m=>Ab [(h,[])] l m (Ae 3 a i k fun b n o=>Ab [] n o (Ap true 3 a b fun p=>Am [p,j] b))
def AcI (d:IV) (a:Hp) (b:AB) (e:IV) (f:Aa) (g h i:IV):OH :=
 AP 3 d (.fv (.int .i64 2)) fun j=>Ad 3 j a fun k c=>Ab [(b,[])] c [] (Ad 3 e a fun l m=>Ab [(c,[]),(b,[])] m [] (Ac8 f a g k l b h i))
def AcL (c:IV) (a:Hp) (b d f:IV) (g:Aa) (h:IV):OH :=
 Cg EE 35 c (.fv (.int .i64 0)) fun i=>Aj i (BL [.fv (.int .i64 0),.fv (.int .i64 0),.nils] [] fun j=>Ae 3 b j a fun k _ _=>Adr k b c) (Ad 3 d a fun l e=>Ab [] e [] (AcI f a e d g h b l))
def Aaa (a:Aa) (e:Hp) (b f g h:IV):OH :=
 Ai [] false false a 53 [b,f] e fun c i _ _=>Aq 0 c fun j=>Aq 1 c fun k=>Ay 55601160 (.row [.fv (.int .i64 0),.fv (.int .i64 0),.nils] false) (.ptr (.own 55601160) 0) i fun d l _ _=>Ae 3 d j l fun m _ _=>AcL k m g d h a b
def Ac0 (c:IV) (a:Hp) (b d:IV) (e:Aa) (f:IV):OH :=
 Cg EE 35 c (.fv (.int .i64 0)) fun g=>Aj g (BL [.fv (.int .i64 0),.fv (.int .i64 0),.nils] [] fun h=>Ae 3 b h a fun i _ _=>Yk i b c) (AP 3 d (.fv (.int .i64 1)) fun j=>Ad 3 j a fun k _=>Aaa e a f k b d)
def X4 (b:AB) (a:Aa) (d:Hp) (c e f g:IV):OH :=
 Ab [] b [] (Ai [] false false a 64 [.fv (.int .i64 15),.nils] d fun h i j k=>Ab [(b,[])] j k (Ai [] false false a 73 [c,e,h] i fun l m n o=>Ab [] n o (Ac0 l m f g a c)))
def AcZ (a:IV) (d:Hp) (b:IV):OH :=
 Aq 0 a fun e=>Aq 1 a fun f=>Ae 3 b e d fun c _ _=>Ap true 3 b c fun g=>Am [g,f] c
def Y6 (f b:IV) (a:Hp) (c:Aa) (d e g:IV):OH :=
 AQ EE 3 f (.fv (.int .i64 27)) fun h=>Aj h (AP 3 b (.fv (.int .i64 0)) fun i=>Ad 3 i a fun j k=>X4 k c a d j e b) (Ad 3 g a fun l _=>Om EE c (.fv (.func (.func 76) [] [])) [d,l] a fun m n _ _=>AcZ m n e)
def Zz (h:IV) (a:Hp) (e:IV) (b:Aa) (c d f g:IV):OH :=
 Aj h (Ad 3 e a fun i _=>Ai [] false false b 74 [c,i] a fun j k _ _=>YE j k d) (AQ EE 3 f (.fv (.int .i64 28)) fun l=>Aj l (X2 g a b c d) (Y6 f g a b c d e))
def AaB (a:IV) (b:IV→Hp→OH) (c:Hp) (d:IV):OH :=
 Aj a (b a c) (AQ EE 3 d (.fv (.int .i64 29)) fun e=>b e c)
def YC (a b:IV) (c:Hp) (d:Aa) (e f g:IV):OH :=
 AQ EE 3 a (.fv (.int .i64 26)) fun h=>Aj h (AP 3 b (.fv (.int .i64 0)) fun i=>Ad 3 i c fun j k=>ZJ k d c e j f b) ((fun (l:IV→Hp→OH)=>AQ EE 3 a (.fv (.int .i64 20)) fun m=>AaB m l c a) fun n o=>Zz n o g d e f a b)
def XH (b c:IV) (a:Hp) (e d:IV) (f:Aa) (g:IV):OH :=
 AQ EE 3 b (.fv (.int .i64 1)) fun h=>Aj h (Af 1 c fun i=>Ak i a fun j _=>Adt e j a d c) (AQ EE 3 b (.fv (.int .i64 25)) fun k=>Aj k (AaD f a d) (YC b g a f e d c))
def S53 (c:Aa) (n:Nat) (d e:IV) (f:Hp):OH :=
 AS 55574528 e f fun a g _ _=>Ay 55574529 (.row [.fv (.int .i64 0),.fv (.int .i64 0),.nils] false) (.ptr (.own 55574529) 0) g fun h b _ _=>Af 2 a fun i=>Ak i b fun j _=>Af 0 a fun k=>Ak k b fun l _=>XH l a b d h c j
theorem Apo (a:Aa) (n:Nat) (b c:IV) (d:Hp):Ax EE a ft.get n 53 [b,c] d=S53 a n b c d:=by kernel_rfl
def PP (a b:IV) (h:Hp) (i:IV) (j:Hp) (c d e f:IV) (k:List IV→Hp→OH):OH :=
 AP 3 a b fun l=>Ae 3 l i h fun m _ _=>Bv EE 3 b (.fv (.int .i64 1)) fun g=>BB (j.own.map (·.1)) [56627203] [c,d,a,e,f,g] m fun n=>k [c,d,a,e,f,g] n
def Rg (a:Hp) (d:IV) (e:Aa) (f g:IV) (h:Hp) (i j k l:IV) (m:List IV→Hp→OH):OH :=
 Ad 3 d a fun n _=>Ay 56627203 (.row [.fv (.int .i64 0),.fv (.int .i64 0),.nils] false) (.ptr (.own 56627203) 0) a fun b o _ _=>Ae 3 b n o fun c _ _=>Ad 3 b c fun p _=>Ai [] false false e 54 [p] c fun q r _ _=>PP f g r q h i j k l m
def Q1 (a:Hp) (b:IV):OH :=
 Ap true 3 b a fun c=>Am [c] a
def RD (a:Hp) (c d e b:IV):OH :=
 Ak c a fun f _=>Af 1 d fun g=>Ak g a fun h _=>BL [.fv (.int .i64 0),.fv (.int .i64 0),.nils] [(0,1,f),(1,1,h),(2,1,e)] fun i=>Ae 3 b i a fun j _ _=>Q1 j b
def PE (h:List IV) (c d:IV) (e:Hp) (i:Aa) (f:IV) (j:Hp) (a g:IV) (k:List IV→Hp→OH):OH :=
 AF h fun b _=>GM EE 3 b c fun l=>Aj l (AP 3 d b fun m=>Rg e m i f b j a g d c k) (Af 0 a fun n=>RD e n a f g)
def V5 (a:List IV) (b:Hp) (c:Aa) (d:Hp) (e:List IV→Hp→OH):OH :=
 AF a fun f g=>AF g fun h i=>AF i fun j k=>AF k fun l m=>AF m fun n o=>PE o n l b c j d f h e
def Pp (a:IV) (c d:Hp) (e f:IV) (n:Nat) (h:Aa):OH :=
 Af 2 a fun i=>Ak i c fun b _=>Bz b fun g=>BB (d.own.map (·.1)) [56627203] [a,e,f,b,g,.fv (.int .i64 0)] c fun j=>Bh n (fun k l m=>V5 l m h d k) [a,e,f,b,g,.fv (.int .i64 0)] j
def S54 (e:Aa) (n:Nat) (f:IV) (a:Hp):OH :=
 AS 56623104 f a fun b g _ _=>Ay 56623105 (.row [.fv (.int .i64 0),.fv (.int .i64 0),.nils] false) (.ptr (.own 56623105) 0) g fun h c _ _=>Af 2 b fun i=>Ak i c fun j _=>Bz j fun d=>AD (Es EE 56624131 28 d d) 56624131 c fun k l _ _=>Pp b l a h k n e
theorem AqZ (a:Aa) (n:Nat) (b:IV) (c:Hp):Ax EE a ft.get n 54 [b] c=S54 a n b c:=by kernel_rfl
def Adk (a:Hp) (d b:IV):OH :=
 Ad 3 d a fun e _=>Ae 3 b e a fun c _ _=>Ap true 3 b c fun f=>Am [f,.fv (.int .i64 8)] c
def Ad5 (d e:IV) (a:Hp) (b:IV):OH :=
 AP 3 d e fun f=>Ad 3 f a fun g _=>Ae 3 b g a fun c _ _=>Ap true 3 b c fun h=>Am [h,.fv (.int .i64 0)] c
def Abi (a c:IV) (b:Hp) (d:IV):OH :=
 Bz a fun e=>Bd EE 3 e (.fv (.int .i64 1)) fun f=>Af 1 c fun g=>Ak g b fun h _=>Bd EE 3 f h fun i=>Ad5 a i b d
def AdT (b:IV) (a:Hp) (c e d:IV):OH :=
 Af 1 b fun f=>Ak f a fun g _=>Bz c fun h=>VX EE 3 g h fun i=>Aj i (Adk a e d) (Abi c b a d)
def Aav (a:Hp) (b:IV):OH :=
 Ap true 3 b a fun c=>Am [c,.fv (.int .i64 0)] a
def Y9 (a:Hp) (d b e:IV):OH :=
 Ad 3 d a fun f _=>Ae 3 b f a fun c _ _=>Ap true 3 b c fun g=>Am [g,e] c
def AcT (a:Aa) (b:Hp) (c d e:IV) (f:IV→Hp→OH):OH :=
 Ai [] false false a 77 [c,d,e] b fun g h i j=>Ab [] i j (f g h)
def Adf (c:IV) (a:Hp) (d:IV) (e:Aa) (f:IV) (g:IV→Hp→OH):OH :=
 AP 3 c (.fv (.int .i64 1)) fun h=>Ad 3 h a fun i b=>Ab [] b [] (Ad 3 d a fun j k=>Ab [(b,[])] k [] (AcT e a f i j g))
def Abn (a:Aa) (g:Hp) (b h i c j k:IV):OH :=
 Ai [] false false a 77 [b,h,i] g fun d e l m=>Ab [] l m ((fun (f:IV→Hp→OH)=>AQ EE 3 d (.fv (.int .i64 0)) fun n=>Aj n (Adf k e c a b f) (f d e)) fun o p=>Y9 p c j o)
def Ad9 (b:IV) (a:Hp) (c:IV) (e:Aa) (f g:IV):OH :=
 AP 3 b (.fv (.int .i64 0)) fun h=>Ad 3 h a fun i d=>Ab [] d [] (Ad 3 c a fun j k=>Ab [(d,[])] k [] (Abn e a f i j c g b))
def AbJ (c:Hp) (a d:IV):OH :=
 Ae 3 a d c fun b _ _=>Ap true 3 a b fun e=>Am [e,.fv (.int .i64 10)] b
def Z1 (c:Hp) (a d e:IV):OH :=
 Ae 3 a d c fun b f g=>Ab [] f g (Ap true 3 a b fun h=>Am [h,e] b)
def ZO (c:IV) (a:Hp) (d e f g b:AB) (h:Aa) (i j k l:IV):OH :=
 AP 3 c (.fv (.int .i64 0)) fun m=>Ad 3 m a fun n o=>Ab [(d,[]),(e,f),(g,[]),(b,[])] o [] (Ai [] false false h 77 [i,j,n] a fun p q r s=>Ab [(b,[])] r s (Z1 q k l p))
def AdD (d:Aa) (i:Hp) (j k:IV) (a:AB) (e:IV) (f:AB) (l m:IV):OH :=
 Ai [] false false d 78 [j,k] i fun n g b c=>Ab [(a,[])] b c (AP 3 e (.fv (.int .i64 1)) fun o=>Ad 3 o g fun p h=>Ab [(b,c),(f,[]),(a,[])] h [] (ZO e g h b c f a d n p l m))
def Ab8 (a:Hp) (e c:IV) (f:Aa) (g h:IV):OH :=
 Ad 3 e a fun i b=>Ab [] b [] (AP 3 c (.fv (.int .i64 0)) fun j=>Ad 3 j a fun k d=>Ab [(b,[])] d [] (AdD f a g k b c d h i))
def Ab7 (a:Hp) (b c:IV):OH :=
 Ap true 3 b a fun d=>Am [d,c] a
def XL (c d:AB) (a:IV) (e:Hp) (b:IV):OH :=
 Ab [] c d (Aq 0 a fun f=>Aq 1 a fun g=>Ae 3 b f e fun h i j=>Ab [] i j (Ab7 h b g))
def Adw (b:Hp) (c d:IV) (a:Aa) (e f:IV):OH :=
 AD (Al EE 28 2 [(0,c),(1,d)]) 57694212 b fun g h i j=>Ab [] i j (Ai [] false false a 30 [.fv (.int .i64 16),g] h fun k l m n=>Ab [] m n (Ai [] false false a 79 [k,e] l fun o p q r=>XL q r o p f))
def Yn (c:IV) (a:Hp) (d:IV) (e:Aa) (f g:IV):OH :=
 AP 3 c (.fv (.int .i64 0)) fun h=>Ad 3 h a fun i b=>Ab [] b [] (Ad 3 d a fun j k=>Ab [(b,[])] k [] (Adw a i j e f g))
def AaL (b:IV) (c:Hp) (d e f g h i:AB) (j k:IV) (l:Aa) (m:IV):OH :=
 Aq 1 b fun n=>Ay 57693196 (.row [.fv (.int .i64 0),.fv (.int .i64 0),.nils] false) (.ptr (.own 57693196) 0) c fun a o p q=>Ab [(d,e),(f,[]),(g,h),(i,[])] p q (Ae 3 a j o fun r s t=>Ab [] s t (Yn k r a l n m))
def AbO (a:Hp) (j:IV) (b c d:AB) (e:Aa) (k l m:IV):OH :=
 Ad 3 j a fun n f=>Ab [(b,c),(d,[])] f [] (Ai [] false false e 19 [k,n] a fun g o h i=>Ab [] h i (Aq 0 g fun p=>AaL g o h i f b c d p l e m))
def Ace (a:Hp) (g:IV) (b:Aa) (h c i:IV):OH :=
 Ad 3 g a fun j d=>Ab [] d [] (Ai [] false false b 78 [h,j] a fun k l e f=>Ab [] e f (AP 3 c (.fv (.int .i64 1)) fun m=>AbO l m e f d b k c i))
def AdG (b:Hp) (f a:IV) (c:Aa) (d e:IV):OH :=
 Ak f b fun g _=>AQ EE 3 g (.fv (.int .i64 29)) fun h=>Aj h (AP 3 a (.fv (.int .i64 0)) fun i=>Ab8 b i a c d e) (AP 3 a (.fv (.int .i64 0)) fun j=>Ace b j c d a e)
def Aam (b:Aa) (d:Hp) (e f c g h i:IV):OH :=
 Ai [] false false b 21 [e] d fun j a _ _=>CI (Ji .not j) fun k=>Aj k (Ad 3 f a fun l _=>AbJ a c l) (Af 0 g fun m=>AdG a m h b i c)
def Aah (c:Hp) (a d e:IV):OH :=
 Ae 3 a d c fun b _ _=>Ap true 3 a b fun f=>Am [f,e] b
def Yb (c:Hp) (a d e:IV):OH :=
 Ae 3 a d c fun b f g=>Ab [] f g (Ap true 3 a b fun h=>Am [h,e] b)
def Adn (b c d e:AB) (f:Aa) (g:Hp) (h i j:IV):OH :=
 Ab [(c,d),(e,[])] b [] (Ai [] false false f 19 [h,i] g fun a k l m=>Ab [] l m (Aq 0 a fun n=>Aq 1 a fun o=>Yb k j n o))
def Aa1 (a:AB) (b:Aa) (f:Hp) (g h i j:IV):OH :=
 Ab [] a [] (Ai [] false false b 78 [g,h] f fun k c d e=>Ab [] d e (AP 3 i (.fv (.int .i64 1)) fun l=>Ad 3 l c fun m n=>Adn n d e a b c k m j))
def Aa2 (e:Hp) (f c d:IV) (g:Aa) (h i:IV):OH :=
 Ay 57696264 (.row [.fv (.int .i64 0),.fv (.int .i64 0),.nils] false) (.ptr (.own 57696264) 0) e fun b j _ _=>Ae 3 b f j fun a _ _=>Cg EE 3 c (.fv (.int .i64 0)) fun k=>Aj k (Ad 3 b a fun l _=>Aah a d l c) (Ad 3 b a fun m n=>Aa1 n g a h m i d)
def YI (a:IV) (b:Hp) (c:Aa) (d f:IV):OH :=
 AP 3 a (.fv (.int .i64 0)) fun g=>Ad 3 g b fun h _=>Ai [] false false c 19 [d,h] b fun e i _ _=>Aq 0 e fun j=>Aq 1 e fun k=>Aa2 i j k f c d a
def ZS (a:Hp) (b c:IV):OH :=
 Ap true 3 b a fun d=>Am [d,c] a
def XI (a:Hp) (d b e:IV):OH :=
 Ad 3 d a fun f _=>Ae 3 b f a fun c _ _=>Ap true 3 b c fun g=>Am [g,e] c
def AbS (a b:AB) (c:IV→Hp→OH) (d:Hp) (e:IV):OH :=
 Ab [] a b (c e d)
def YG (a:Hp) (c d:IV) (e:Aa) (f:IV) (g:IV→Hp→OH):OH :=
 Ad 3 c a fun h b=>Ab [] b [] (Ad 3 d a fun i j=>Ab [(b,[])] j [] (Ai [] false false e 77 [f,h,i] a fun k l m n=>AbS m n g l k))
def Abp (a e b f:IV) (c:Hp) (g:Aa) (h:IV):OH :=
 (fun (d:IV→Hp→OH)=>AQ EE 3 b (.fv (.int .i64 0)) fun i=>Aj i (AP 3 f (.fv (.int .i64 2)) fun j=>YG c j a g h d) (d b c)) fun k l=>XI l a e k
def Ab5 (a:Aa) (e:Hp) (b f g h:IV):OH :=
 Ai [] false false a 19 [b,f] e fun c i _ _=>Aq 0 c fun j=>Aq 1 c fun k=>Ay 57704456 (.row [.fv (.int .i64 0),.fv (.int .i64 0),.nils] false) (.ptr (.own 57704456) 0) i fun d l _ _=>Ae 3 d j l fun m _ _=>Abp d g k h m a b
def Z8 (c:IV) (a:Hp) (e b d:IV) (f:Aa) (g:IV):OH :=
 Cg EE 3 c (.fv (.int .i64 0)) fun h=>Aj h (Ad 3 e a fun i _=>Ae 3 b i a fun j _ _=>ZS j b c) (AP 3 d (.fv (.int .i64 1)) fun k=>Ad 3 k a fun l _=>Ab5 f a g l b d)
def Abf (a:AB) (b:Hp) (c:IV) (d:Aa) (e f g h:IV):OH :=
 Ab [] a [] (Ad 3 c b fun i j=>Ab [(a,[])] j [] (Ai [] false false d 77 [e,f,i] b fun k l m n=>Ab [] m n (Z8 k l c g h d e)))
def Yg (c:Hp) (a d e:IV):OH :=
 Ae 3 a d c fun b _ _=>Ap true 3 a b fun f=>Am [f,e] b
def Ac1 (d:Aa) (e:Hp) (f g a:IV):OH :=
 Ai [] false false d 79 [f,g] e fun b h _ _=>Aq 0 b fun i=>Aq 1 b fun j=>Ae 3 a i h fun c _ _=>Ap true 3 a c fun k=>Am [k,j] c
def Aap (d:Hp) (b e f:IV) (c:Aa) (g h:IV):OH :=
 Ae 3 b e d fun a _ _=>Ad 3 f a fun i _=>Ad 3 b a fun j _=>AD (Al EE 28 2 [(0,i),(1,j)]) 57713666 a fun k l _ _=>Ai [] false false c 30 [.fv (.int .i64 17),k] l fun m n _ _=>Ac1 c n m g h
def YO (a:Hp) (d:IV) (b:Aa) (e f g:IV):OH :=
 Ad 3 d a fun h _=>Ai [] false false b 19 [e,h] a fun c i _ _=>Aq 0 c fun j=>Aq 1 c fun k=>Ay 57712648 (.row [.fv (.int .i64 0),.fv (.int .i64 0),.nils] false) (.ptr (.own 57712648) 0) i fun l m _ _=>Aap m l j f b k g
def Y2 (e:Hp) (f c d g:IV) (h:Aa) (i:IV):OH :=
 Ay 57709576 (.row [.fv (.int .i64 0),.fv (.int .i64 0),.nils] false) (.ptr (.own 57709576) 0) e fun a j _ _=>Ae 3 a f j fun b _ _=>Cg EE 3 c (.fv (.int .i64 0)) fun k=>Aj k (Ad 3 a b fun l _=>Yg b d l c) (AP 3 g (.fv (.int .i64 1)) fun m=>YO b m h i a d)
def Y8 (a:IV) (b:Hp) (c:Aa) (d f:IV):OH :=
 AP 3 a (.fv (.int .i64 0)) fun g=>Ad 3 g b fun h _=>Ai [] false false c 19 [d,h] b fun e i _ _=>Aq 0 e fun j=>Aq 1 e fun k=>Y2 i j k f a c d
def AaA (a:Hp) (b c:IV):OH :=
 Ap true 3 b a fun d=>Am [d,c] a
def Zk (d:IV) (a:Hp) (b:IV):OH :=
 AP 3 d (.fv (.int .i64 1)) fun e=>Ad 3 e a fun f _=>Ae 3 b f a fun c _ _=>Ap true 3 b c fun g=>Am [g,.fv (.int .i64 0)] c
def AcY (c:IV) (a:Hp) (d b e:IV):OH :=
 Cg EE 3 c (.fv (.int .i64 0)) fun f=>Aj f (Ad 3 d a fun g _=>Ae 3 b g a fun h _ _=>AaA h b c) (Af 2 e fun i=>Ak i a fun j _=>Zk j a b)
def AbD (b:IV) (a:Hp) (c:AB) (d:Aa) (e f:IV) (g:IV→Hp→OH):OH :=
 AP 3 b (.fv (.int .i64 0)) fun h=>Ad 3 h a fun i j=>Ab [(c,[])] j [] (Ai [] false false d 77 [e,f,i] a fun k l m n=>Ab [] m n (g k l))
def AaK (a:Hp) (c d:IV) (e:Aa) (f:IV) (g:IV→Hp→OH):OH :=
 Ad 3 c a fun h b=>Ab [] b [] (Af 2 d fun i=>Ak i a fun j k=>Ab [(b,[])] k [] (AbD j a b e f h g))
def AbG (e f a b g:IV) (c:Hp) (h:Aa) (i:IV):OH :=
 (fun (d:IV→Hp→OH)=>AQ EE 3 b (.fv (.int .i64 0)) fun j=>Aj j (AP 3 g (.fv (.int .i64 1)) fun k=>AaK c k a h i d) (d b c)) fun l m=>AcY l m e f a
def Aal (c d:IV) (a:IV→Hp→OH) (b:Hp) (e:IV):OH :=
 AH c d (.fv (.bool false)) fun f=>Aj f (a (.fv (.int .i64 12)) b) (a e b)
def Yo (g h c i:IV) (j:Aa) (k d:IV) (e:Hp):OH :=
 (fun (l:IV→Hp→OH)=>AQ EE 3 d (.fv (.int .i64 0)) fun a=>Ac a true e (fun m=>Af 0 c fun n=>m n e [] []) fun o b _ _=>Ac a true b (fun p=>Ak o b fun q r=>p q b r []) fun s f _ _=>Ac a true f (fun t=>Cg EE 3 s (.fv (.int .i64 16)) fun u=>t u f [] []) fun v w _ _=>Aal a v l w d) fun x y=>AbG g h c x i y j k
def Yv (a:Aa) (e:Hp) (b f g h i:IV):OH :=
 Ai [] false false a 19 [b,f] e fun c j _ _=>Aq 0 c fun k=>Aq 1 c fun l=>Ay 57715720 (.row [.fv (.int .i64 0),.fv (.int .i64 0),.nils] false) (.ptr (.own 57715720) 0) j fun d m _ _=>Ae 3 d k m fun n _ _=>Yo g h d i a b l n
def X9 (a:Hp) (b c:IV):OH :=
 Ap true 3 b a fun d=>Am [d,c] a
def AdL (c:Hp) (a d:IV):OH :=
 Ae 3 a d c fun b _ _=>Ap true 3 a b fun e=>Am [e,.fv (.int .i64 0)] b
def AbZ (b:IV) (a:Hp) (c d:IV):OH :=
 Af 0 b fun e=>Ak e a fun f _=>Bd EE 3 f (.fv (.int .i64 23)) fun g=>AP 3 c g fun h=>Ad 3 h a fun i _=>AdL a d i
def AbK (c:IV) (a:Hp) (d b e f:IV):OH :=
 Cg EE 3 c (.fv (.int .i64 0)) fun g=>Aj g (Ad 3 d a fun h _=>Ae 3 b h a fun i _ _=>X9 i b c) (Af 2 e fun j=>Ak j a fun k _=>AbZ f a k b)
def AcD (c d:IV) (a:IV→Hp→OH) (b:Hp) (e:IV):OH :=
 AH c d (.fv (.bool false)) fun f=>Aj f (a (.fv (.int .i64 12)) b) (a e b)
def Ze (g h c i d:IV) (e:Hp):OH :=
 (fun (j:IV→Hp→OH)=>AQ EE 3 d (.fv (.int .i64 0)) fun a=>Ac a true e (fun k=>Af 0 c fun l=>k l e [] []) fun m b _ _=>Ac a true b (fun n=>Ak m b fun o p=>n o b p []) fun q f _ _=>Ac a true f (fun r=>Cg EE 3 q (.fv (.int .i64 17)) fun s=>r s f [] []) fun t u _ _=>AcD a t j u d) fun v w=>AbK v w g h c i
def Adv (c:Aa) (d:Hp) (e f g h i:IV):OH :=
 Ai [] false false c 19 [e,f] d fun a j _ _=>Aq 0 a fun k=>Aq 1 a fun l=>Ay 57725960 (.row [.fv (.int .i64 0),.fv (.int .i64 0),.nils] false) (.ptr (.own 57725960) 0) j fun b m _ _=>Ae 3 b k m fun n _ _=>Ze g h b i l n
def Ada (a:Hp) (b:IV):OH :=
 Ap true 3 b a fun c=>Am [c,.fv (.int .i64 10)] a
def ZF (d e:IV) (a:Hp) (f:Aa) (g c b h:IV):OH :=
 Aj d (AP 3 e (.fv (.int .i64 0)) fun i=>Ad 3 i a fun j _=>Adv f a g j c b h) (Ad 3 c a fun k _=>Ae 3 b k a fun l _ _=>Ada l b)
def Ad1 (a:IV) (b:IV→Hp→OH) (c:Hp) (d:IV):OH :=
 Aj a (b a c) (AQ EE 3 d (.fv (.int .i64 24)) fun e=>b e c)
def XK (a b:IV) (c:Hp) (d:Aa) (e f g h:IV):OH :=
 AQ EE 3 a (.fv (.int .i64 21)) fun i=>Aj i (AP 3 b (.fv (.int .i64 0)) fun j=>Ad 3 j c fun k _=>Yv d c e k f g b) ((fun (l:IV→Hp→OH)=>AQ EE 3 a (.fv (.int .i64 23)) fun m=>Ad1 m l c a) fun n o=>ZF n b o d e f g h)
def AdK (c a:IV) (b:Hp) (g:IV) (d:Aa) (e f h:IV):OH :=
 AQ EE 3 c (.fv (.int .i64 27)) fun i=>Aj i (AP 3 a (.fv (.int .i64 0)) fun j=>Ad 3 j b fun k l=>Abf l b g d e k f a) (AQ EE 3 c (.fv (.int .i64 22)) fun m=>Aj m (Y8 a b d e f) (XK c a b d e g f h))
def AdJ (i a:IV) (b:Hp) (c:Aa) (f d g e h:IV):OH :=
 Aj i (AP 3 a (.fv (.int .i64 0)) fun j=>Ad 3 j b fun k _=>Aam c b k f d g a e) (AQ EE 3 h (.fv (.int .i64 28)) fun l=>Aj l (YI a b c e d) (AdK h a b f c e d g))
def YH (e:IV) (f:Aa) (g h i j a:IV) (b:Hp):OH :=
 (fun (c:IV→Hp→OH)=>AQ EE 3 a (.fv (.int .i64 20)) fun d=>Aj d (c d b) (AQ EE 3 a (.fv (.int .i64 29)) fun k=>c k b)) fun l m=>AdJ l e m f g h i j a
def AbQ (c:IV) (a:Hp) (d b e:IV) (f:Aa) (g h:IV):OH :=
 AQ EE 3 c (.fv (.int .i64 25)) fun i=>Aj i (Ad 3 d a fun j _=>Ae 3 b j a fun k _ _=>Aav k b) (AQ EE 3 c (.fv (.int .i64 26)) fun l=>Aj l (Ad9 e a d f g b) (YH e f d b h g c a))
def Y0 (g:Hp) (a h b d e i:IV) (j:Aa):OH :=
 Ae 3 a h g fun c _ _=>Af 0 b fun k=>Ak k c fun f _=>AQ EE 3 f (.fv (.int .i64 1)) fun l=>Aj l (AdT b c d a e) (AbQ f c a e i j d b)
def S55 (a:Aa) (n:Nat) (d e:IV) (f:Hp):OH :=
 AS 57671680 e f fun b g _ _=>Ay 57671681 (.row [.fv (.int .i64 0),.fv (.int .i64 0),.nils] false) (.ptr (.own 57671681) 0) g fun h c _ _=>Af 2 b fun i=>Ak i c fun j _=>Ai [] false false a 30 [.fv (.int .i64 15),.nils] c fun k l _ _=>Ay 57673729 (.row [.fv (.int .i64 0),.fv (.int .i64 0),.nils] false) (.ptr (.own 57673729) 0) l fun m o _ _=>Y0 o m k b d h j a
theorem AoV (a:Aa) (n:Nat) (b c:IV) (d:Hp):Ax EE a ft.get n 55 [b,c] d=S55 a n b c d:=by kernel_rfl
def Jt (b:Aa) (c:Hp) (a d e f:IV) (g:List IV→Hp→OH) (h i:IV):OH :=
 Ai [true,false,false] false false b 56 [a,d,e] c fun _ j _ _=>Bv EE 3 f (.fv (.int .i64 1)) fun k=>g [a,h,i,k] j
def J2 (b:IV) (a:Hp) (c d:IV) (e:Aa) (f:IV) (g:List IV→Hp→OH):OH :=
 Af 2 b fun h=>Ak h a fun i _=>AP 3 i c fun j=>Ad 3 j a fun k _=>Bv EE 3 d (.fv (.int .i64 1)) fun l=>Jt e a f k l c g d b
def Jj (c:Hp) (a f g h i:IV) (j:Aa) (k:IV) (l:List IV→Hp→OH):OH :=
 Ac a true c (fun m=>Af 1 f fun n=>m n c [] []) fun o b _ _=>Ac a true b (fun p=>Ak o b fun q r=>p q b r []) fun s d _ _=>Ac a true d (fun t=>AQ EE 3 s (.fv (.int .i64 0)) fun u=>t u d [] []) fun v e _ _=>AH a v (.fv (.bool false)) fun w=>Aj w (J2 g e h i j k l) (Am [] e)
def Ju (a:Hp) (f c d g h:IV) (i:Aa) (j:List IV→Hp→OH):OH :=
 Ak f a fun k _=>Bz k fun l=>GM EE 3 c l fun b=>Ac b true a (fun m=>m d a [] []) fun n e _ _=>Ac b true e (fun o=>AX n fun p=>o p e [] []) fun q r _ _=>Jj r b q g c h i d j
def JE (b:List IV) (c:Hp) (d:Aa) (e:List IV→Hp→OH):OH :=
 AF b fun f g=>AF g fun h i=>AF i fun a j=>AF j fun k _=>Af 2 a fun l=>Ju c l k f a h d e
def Jk (n:Nat) (a:Hp) (b c d:IV) (e:Aa):OH :=
 Bh n (fun f g h=>JE g h e f) [b,c,d,.fv (.int .i64 0)] a
def JB (a:Hp) (b:IV) (c:Hp→OH):OH :=
 B3 b (.fv (.int .i64 5)) a fun d _ _=>c d
def JA (a:IV) (b:Hp) (c:Hp→OH):OH :=
 Af 1 a fun d=>B3 d (.fv (.int .i64 1)) b fun e _ _=>c e
def Jo (e f:AB) (a:Hp) (b g h:IV) (c:Hp→OH):OH :=
 Ab [] e f (Ac b false a (fun i=>CI (Ji .not g) fun j=>i j a [] []) fun k d _ _=>AH b (.fv (.bool true)) k fun l=>Aj l (AX h fun m=>JA m d c) (c d))
def J3 (c d:AB) (e:Hp) (a g:IV) (h:Aa) (i j:IV) (k:Hp→OH):OH :=
 Ab [] c d (Ac a false e (fun l=>Af 1 g fun m=>l m e [] []) fun n b _ _=>Ac a false b (fun o=>Ak n b fun p q=>o p b q []) fun r f s t=>Ab [(c,d)] s t (Ac a false f (fun u=>Ai [] false false h 80 [i,r] f u) fun v w x y=>Jo x y w a v j k))
def J1 (e f g h:AB) (i j:IV) (c:Hp) (d:IV) (k:Aa) (l:IV) (m:Hp→OH):OH :=
 Ab [(f,g),(h,[])] e [] (Bz i fun n=>Cg EE 3 j n fun a=>Ac a false c (fun o=>Af 0 d fun p=>o p c [] []) fun q b _ _=>Ac a false b (fun r=>Ak q b fun s t=>r s b t []) fun u v w x=>J3 w x v a d k u l m)
def Js (a:AB) (b:Aa) (g:Hp) (h c i:IV) (j:Hp→OH):OH :=
 Ab [] a [] (Ai [] false false b 46 [h] g fun k d e f=>Ab [] e f (Af 2 c fun l=>Ak l d fun m n=>J1 n e f a m k d c b i j))
def J5 (e b:IV) (a:Hp) (c:Hp→OH) (d:IV) (f:Aa):OH :=
 Aj e (AX b fun g=>Af 1 g fun h=>JB a h c) (Af 0 d fun i=>Ak i a fun j k=>Js k f a j d b c)
def JD (a:Hp) (d e f:IV) (g:Hp→OH) (h:IV) (i:Aa):OH :=
 Ak d a fun j _=>K5 EE 3 j (.fv (.int .i64 3000)) fun b=>Ac b false a (fun k=>k e a [] []) fun l c _ _=>Ac b false c (fun m=>K5 EE 3 l (.fv (.int .i64 120)) fun n=>m n c [] []) fun o p _ _=>AH b (.fv (.bool true)) o fun q=>J5 q f p g h i
def Jv (e:IV) (f:Hp) (g:IV) (n:Nat) (a b c:IV) (d:Aa):OH :=
 Af 0 e fun h=>B3 h g f fun i _ _=>(fun (j:Hp→OH)=>AX a fun k=>Af 0 k fun l=>JD i l b a j c d) fun m=>Jk n m a b c d
def S56 (c:Aa) (n:Nat) (a d e:IV) (f:Hp):OH :=
 AS 58720256 d f fun g b _ _=>AX a fun h=>Af 0 h fun i=>Ak i b fun j _=>Bv EE 3 j (.fv (.int .i64 1)) fun k=>AX a fun l=>Jv l b k n a e g c
theorem Apv (a:Aa) (n:Nat) (b c d:IV) (e:Hp):Ax EE a ft.get n 56 [b,c,d] e=S56 a n b c d e:=by kernel_rfl
def S57 (h:Aa) (n:Nat) (c:IV) (d:Hp):OH :=
 Ay 59768832 (.row [.fv (.int .i64 0),.fv (.int .i64 0),.nils] false) (.ptr (.own 59768832) 0) d fun a e _ _=>BL [.fv (.int .i64 0),.fv (.int .i64 0),.nils] [] fun f=>Ae 3 a f e fun b _ _=>Ap true 3 a b fun g=>Am [g,c] b
theorem Aqc (a:Aa) (n:Nat) (b:IV) (c:Hp):Ax EE a ft.get n 57 [b] c=S57 a n b c:=by kernel_rfl
def Ws (b c d:AB) (a:Hp) (e f:IV):OH :=
 Ab [(d,[])] b c (Ap true 3 e a fun g=>Am [g,f] a)
def Xq (d:IV) (a:Hp) (b e:IV):OH :=
 AX d fun f=>Af 2 f fun g=>Ak g a fun h c=>Ab [] c [] (Ae 3 b e a fun i j k=>Ws j k c i b h)
def Xi (c:Hp) (a d:IV):OH :=
 Ae 3 a d c fun b _ _=>Ap true 3 a b fun e=>Am [e,.fv (.int .i64 0)] b
def WF (a:Hp) (c d b e:IV):OH :=
 Ak c a fun f _=>Cg EE 3 f (.fv (.int .i64 0)) fun g=>Aj g (BL [.fv (.int .i64 0),.fv (.int .i64 0),.nils] [] fun h=>Xq d a b h) (Ad 3 e a fun i _=>Xi a b i)
def Wo (c:Aa) (d:Hp) (a e f:IV):OH :=
 Ai [true,false,false,false] false false c 81 [a,e,.fv (.int .i64 0),.fv (.int .i64 1)] d fun g h _ _=>Ay 60819461 (.row [.fv (.int .i64 0),.fv (.int .i64 0),.nils] false) (.ptr (.own 60819461) 0) h fun b i _ _=>Ae 3 b g i fun j _ _=>AX a fun k=>Af 2 k fun l=>WF j l a f b
def S58 (a:Aa) (n:Nat) (d:IV) (e:Hp):OH :=
 AS 60817408 d e fun f g _ _=>Ay 60817409 (.row [.fv (.int .i64 0),.fv (.int .i64 0),.nils] false) (.ptr (.own 60817409) 0) g fun h i _ _=>BL [.fv (.int .i64 0),.fv (.int .i64 0),.fv (.int .i64 0)] [] fun j=>AS 60818433 j i fun b c _ _=>Ad 3 f c fun k _=>Ai [true,false,false] false false a 82 [b,k,.nils] c fun l m _ _=>Wo a m b l h
theorem ApZ (a:Aa) (n:Nat) (b:IV) (c:Hp):Ax EE a ft.get n 58 [b] c=S58 a n b c:=by kernel_rfl
def Anh (c:Hp) (a d:IV):OH :=
 Ae 3 a d c fun b _ _=>Ap true 3 a b fun e=>Am [e,.fv (.int .i64 0)] b
def AiX (c:IV) (d:Hp) (a e:IV):OH :=
 Aq 1 c fun f=>Ae 3 a e d fun b _ _=>Ap true 3 a b fun g=>Am [g,f] b
def AkY (a:Hp) (b:IV):OH :=
 Ap true 3 b a fun c=>Am [c,.fv (.int .i64 0)] a
def Ajs (c:IV) (e:Aa) (a:Hp) (b f:IV):OH :=
 Cg EE 3 c (.fv (.int .i64 0)) fun g=>Aj g (Ai [] false false e 57 [c] a fun d h _ _=>Aq 0 d fun i=>AiX d h b i) (Ad 3 f a fun j _=>Ae 3 b j a fun k _ _=>AkY k b)
def AiI (a:IV) (d:Hp) (b:IV):OH :=
 Aq 0 a fun e=>Aq 1 a fun f=>Ae 3 b e d fun c _ _=>Ap true 3 b c fun g=>Am [g,f] c
def AiS (d:Aa) (e:Hp) (f a:IV):OH :=
 Ai [] false false d 57 [f] e fun b g _ _=>Aq 0 b fun h=>Aq 1 b fun i=>Ae 3 a h g fun c _ _=>Ap true 3 a c fun j=>Am [j,i] c
def AjR (a:Hp) (b c:IV):OH :=
 Ap true 3 b a fun d=>Am [d,c] a
def Alz (c d:AB) (a:IV) (e:Hp) (b:IV):OH :=
 Ab [] c d (Aq 0 a fun f=>Aq 1 a fun g=>Ae 3 b f e fun h i j=>Ab [] i j (AjR h b g))
def AnN (b:Hp) (c d:IV) (a:Aa) (e:IV):OH :=
 AD (Al EE 28 2 [(0,c),(1,d)]) 61885444 b fun f g h i=>Ab [] h i (Ai [] false false a 30 [.fv (.int .i64 16),f] g fun j k l m=>Ab [] l m (Ai [] false false a 58 [j] k fun n o p q=>Alz p q n o e))
def AlS (c:IV) (a:Hp) (d:IV) (e:Aa) (f:IV):OH :=
 AP 3 c (.fv (.int .i64 0)) fun g=>Ad 3 g a fun h b=>Ab [] b [] (Ad 3 d a fun i j=>Ab [(b,[])] j [] (AnN a h i e f))
def Al6 (f g h i j k:AB) (l:Hp) (a m b:IV) (c:Aa) (d n:IV):OH :=
 Ab [(h,i),(j,[]),(k,[])] f g (Ae 3 a m l fun e o p=>Ab [] o p (Cg EE 3 b (.fv (.int .i64 0)) fun q=>Aj q (AiS c e b d) (AlS n e a c d)))
def Akd (a:Aa) (e:Hp) (f g h:IV) (i j:AB) (k l:IV):OH :=
 Ai [] false false a 83 [f,g,h] e fun b m c d=>Ab [] c d (Aq 0 b fun n=>Aq 1 b fun o=>Ay 61882379 (.row [.fv (.int .i64 0),.fv (.int .i64 0),.nils] false) (.ptr (.own 61882379) 0) m fun p q r s=>Al6 r s c d i j q p n o a k l)
def Amd (a:Hp) (e c:IV) (f:Aa) (g h:IV):OH :=
 Ad 3 e a fun i b=>Ab [] b [] (AP 3 c (.fv (.int .i64 1)) fun j=>Ad 3 j a fun k d=>Ab [(b,[])] d [] (Akd f a g i k d b h c))
def Alm (a:Aa) (g:Hp) (b h i c d:IV):OH :=
 Ai [] false false a 61 [b,.fv (.int .i64 1),h,i] g fun e f j k=>Ab [] j k (Cg EE 3 e (.fv (.int .i64 0)) fun l=>Aj l (Ai [] false false a 57 [e] f fun m n _ _=>AiI m n c) (AP 3 d (.fv (.int .i64 0)) fun o=>Amd f o d a b c))
def Ana (b:IV) (a:Hp) (d:IV) (e:Aa) (f g:IV):OH :=
 AP 3 b (.fv (.int .i64 0)) fun h=>Ad 3 h a fun i c=>Ab [] c [] (Ad 3 d a fun j k=>Ab [(c,[])] k [] (Alm e a f i j g b))
def AkC (c:IV) (d:Hp) (a e:IV):OH :=
 Aq 1 c fun f=>Ae 3 a e d fun b _ _=>Ap true 3 a b fun g=>Am [g,f] b
def AnH (d:Aa) (e:Hp) (f a:IV):OH :=
 Ai [] false false d 58 [f] e fun b g _ _=>Aq 0 b fun h=>Aq 1 b fun i=>Ae 3 a h g fun c _ _=>Ap true 3 a c fun j=>Am [j,i] c
def Al2 (b:IV) (c:Aa) (a:Hp) (d f:IV):OH :=
 Cg EE 3 b (.fv (.int .i64 0)) fun g=>Aj g (Ai [] false false c 57 [b] a fun e h _ _=>Aq 0 e fun i=>AkC e h d i) (AP 3 f (.fv (.int .i64 0)) fun j=>Ad 3 j a fun k _=>AnH c a k d)
def AkQ (a:Aa) (b:Hp) (c:IV) (d:AB) (e f:IV) (g:IV→Hp→OH):OH :=
 Ai [] false false a 28 [c,.fv (.int .i64 1),.fv (.int .i64 0)] b fun h i j k=>Ab [(d,[])] j k (Ai [] false false a 61 [e,.fv (.int .i64 0),f,h] i fun l m n o=>Ab [] n o (g l m))
def Ano (a:Hp) (f:IV) (c d e:AB) (g:IV) (h:Aa) (i:IV) (j:IV→Hp→OH):OH :=
 Ad 3 f a fun k b=>Ab [(c,d),(e,[])] b [] (AP 3 g (.fv (.int .i64 0)) fun l=>Ad 3 l a fun m n=>Ab [(b,[]),(c,d),(e,[])] n [] (AkQ h a m b i k j))
def AiR (a:Hp) (g:IV) (b:Aa) (h c:IV) (i:IV→Hp→OH):OH :=
 Ad 3 g a fun j d=>Ab [] d [] (Ai [] false false b 84 [h,.fv (.int .i64 0),j] a fun k l e f=>Ab [] e f (AP 3 c (.fv (.int .i64 1)) fun m=>Ano l m e f d c b k i))
def Ak0 (b:Aa) (f a c:IV) (d:Hp) (g:IV):OH :=
 (fun (e:IV→Hp→OH)=>AQ EE 3 c (.fv (.int .i64 0)) fun h=>Aj h (AP 3 a (.fv (.int .i64 0)) fun i=>AiR d i b g a e) (e c d)) fun j k=>Al2 j b k f a
def Ai5 (a:AB) (b:Hp) (e:IV) (c:Aa) (d f g h:IV):OH :=
 Ab [] a [] (Ad 3 e b fun i j=>Ab [(a,[])] j [] (Ai [] false false c 61 [d,.fv (.int .i64 1),f,i] b fun k l m n=>Ab [] m n (Ak0 c g h k l d)))
def AiL (a:IV) (d:Hp) (b:IV):OH :=
 Aq 0 a fun e=>Aq 1 a fun f=>Ae 3 b e d fun c _ _=>Ap true 3 b c fun g=>Am [g,f] c
def Aiw (a:Hp) (b c:IV):OH :=
 Ap true 3 b a fun d=>Am [d,c] a
def AkT (c d:AB) (a:IV) (e:Hp) (b:IV):OH :=
 Ab [] c d (Aq 0 a fun f=>Aq 1 a fun g=>Ae 3 b f e fun h i j=>Ab [] i j (Aiw h b g))
def Aks (a:AB) (c:IV) (b:Hp) (d:Aa) (e f g:IV):OH :=
 Ab [] a [] (AP 3 c (.fv (.int .i64 1)) fun h=>Ad 3 h b fun i j=>Ab [(a,[])] j [] (Ai [] false false d 83 [e,f,i] b fun k l m n=>AkT m n k l g))
def AkP (f:Hp) (g b:IV) (c:Aa) (d h i:IV):OH :=
 Ay 61894664 (.row [.fv (.int .i64 0),.fv (.int .i64 0),.nils] false) (.ptr (.own 61894664) 0) f fun e j _ _=>Ae 3 e g j fun a _ _=>Cg EE 3 b (.fv (.int .i64 0)) fun k=>Aj k (Ai [] false false c 57 [b] a fun l m _ _=>AiL l m d) (Ad 3 e a fun n o=>Aks o h a c i n d)
def AkX (a:IV) (b:Hp) (c:Aa) (d f:IV):OH :=
 AP 3 a (.fv (.int .i64 0)) fun g=>Ad 3 g b fun h _=>Ai [] false false c 26 [d,.fv (.int .i64 0),h] b fun e i _ _=>Aq 0 e fun j=>Aq 1 e fun k=>AkP i j k c f a d
def AlB (c:IV) (d:Hp) (a e:IV):OH :=
 Aq 1 c fun f=>Ae 3 a e d fun b _ _=>Ap true 3 a b fun g=>Am [g,f] b
def Ajt (d:IV) (a:Hp) (b:IV):OH :=
 AP 3 d (.fv (.int .i64 0)) fun e=>Ad 3 e a fun f _=>Ae 3 b f a fun c _ _=>Ap true 3 b c fun g=>Am [g,.fv (.int .i64 0)] c
def AmH (b:IV) (e:Aa) (a:Hp) (c f:IV):OH :=
 Cg EE 3 b (.fv (.int .i64 0)) fun g=>Aj g (Ai [] false false e 57 [b] a fun d h _ _=>Aq 0 d fun i=>AlB d h c i) (Af 2 f fun j=>Ak j a fun k _=>Ajt k a c)
def Als (a:Aa) (d:Hp) (e f g:IV):OH :=
 Ai [] false false a 85 [e,.fv (.int .i64 1),f,.fv (.int .i64 18)] d fun b h _ _=>Aq 0 b fun i=>Aq 1 b fun j=>Ay 61899784 (.row [.fv (.int .i64 0),.fv (.int .i64 0),.nils] false) (.ptr (.own 61899784) 0) h fun c k _ _=>Ae 3 c i k fun l _ _=>AmH j a l g c
def Amm (a:IV) (d:Hp) (b:IV):OH :=
 Aq 0 a fun e=>Aq 1 a fun f=>Ae 3 b e d fun c _ _=>Ap true 3 b c fun g=>Am [g,f] c
def Ajz (e f:IV) (a:Hp) (b:Aa) (c d g:IV):OH :=
 AQ EE 3 e (.fv (.int .i64 30)) fun h=>Aj h (AP 3 f (.fv (.int .i64 0)) fun i=>Ad 3 i a fun j _=>Als b a c j d) (Ad 3 g a fun k _=>Ai [] false false b 86 [c,k] a fun l m _ _=>Amm l m d)
def Ajy (c a:IV) (b:Hp) (g:IV) (d:Aa) (e f h:IV):OH :=
 AQ EE 3 c (.fv (.int .i64 29)) fun i=>Aj i (AP 3 a (.fv (.int .i64 0)) fun j=>Ad 3 j b fun k l=>Ai5 l b g d e k f a) (AQ EE 3 c (.fv (.int .i64 28)) fun m=>Aj m (AkX a b d e f) (Ajz c a b d e f h))
def Akb (i:IV) (a:Hp) (f:IV) (b:Aa) (c d e g h j:IV):OH :=
 Aj i (Ad 3 f a fun k _=>Ai [] false false b 62 [c,.fv (.int .i64 0),d,k] a fun l m _ _=>Ajs l b m e f) (AQ EE 3 g (.fv (.int .i64 20)) fun n=>Aj n (Ana d a h b c e) (Ajy g d a h b c e j))
def Ali (a:Hp) (e c d:IV) (f:Aa) (g h i j:IV):OH :=
 Ak e a fun b _=>AQ EE 3 b (.fv (.int .i64 25)) fun k=>Aj k (Ad 3 c a fun l _=>Anh a d l) (AQ EE 3 b (.fv (.int .i64 26)) fun m=>Akb m a c f g h d b i j)
def Am1 (e:Hp) (a f:IV) (b:Aa) (c g h i:IV):OH :=
 Ae 3 a f e fun j _ _=>Ai [] false false b 30 [.fv (.int .i64 15),.nils] j fun k l _ _=>Ay 61869057 (.row [.fv (.int .i64 0),.fv (.int .i64 0),.nils] false) (.ptr (.own 61869057) 0) l fun d m _ _=>Ae 3 d k m fun n _ _=>Af 0 c fun o=>Ali n o d g b h i a c
def S59 (a:Aa) (n:Nat) (d e:IV) (f:Hp):OH :=
 AS 61865984 e f fun b g _ _=>Ay 61865985 (.row [.fv (.int .i64 0),.fv (.int .i64 0),.nils] false) (.ptr (.own 61865985) 0) g fun h c _ _=>Af 2 b fun i=>Ak i c fun j _=>Ai [] false false a 30 [.fv (.int .i64 14),.nils] c fun k l _ _=>Ay 61868033 (.row [.fv (.int .i64 0),.fv (.int .i64 0),.nils] false) (.ptr (.own 61868033) 0) l fun m o _ _=>Am1 o m k a b h d j
theorem Aqo (a:Aa) (n:Nat) (b c:IV) (d:Hp):Ax EE a ft.get n 59 [b,c] d=S59 a n b c d:=by kernel_rfl
def S60 (h:Aa) (n:Nat) (c:IV) (d:Hp):OH :=
 Ay 62914560 (.row [.fv (.int .i64 0),.fv (.int .i64 0),.nils] false) (.ptr (.own 62914560) 0) d fun a e _ _=>BL [.fv (.int .i64 0),.fv (.int .i64 0),.nils] [(0,1,.fv (.int .i64 2)),(1,1,c)] fun f=>Ae 3 a f e fun b _ _=>Ap true 3 a b fun g=>Am [g] b
theorem Apx (a:Aa) (n:Nat) (b:IV) (c:Hp):Ax EE a ft.get n 60 [b] c=S60 a n b c:=by kernel_rfl
def Apq (b:IV) (c:Hp) (g:IV) (d:IV→Hp→OH):OH :=
 AQ EE 3 b (.fv (.int .i64 0)) fun a=>Ac a true c (fun h=>h g c [] []) fun i e _ _=>Ac a true e (fun j=>CI (Ji .not i) fun k=>j k e [] []) fun l f _ _=>AH a l (.fv (.bool false)) fun m=>Aj m (d (.fv (.int .i64 11)) f) (d b f)
def ArI (a:Hp) (c:IV) (d:Aa) (e:IV):OH :=
 Ad 3 c a fun f _=>Ai [] false false d 87 [e,f] a fun b g _ _=>Aq 0 b fun h=>Aq 1 b fun i=>(fun (j:IV→Hp→OH)=>Apq i g h j) fun k l=>Am [k] l
def Arm (d:Hp) (e b f:IV) (g:Aa):OH :=
 Ay 63964167 (.row [.fv (.int .i64 0),.fv (.int .i64 0),.nils] false) (.ptr (.own 63964167) 0) d fun c h _ _=>Ae 3 c e h fun a _ _=>Cg EE 3 b (.fv (.int .i64 0)) fun i=>Aj i (Am [b] a) (Ad 3 c a fun j _=>ArI a f g j)
def S61 (a:Aa) (n:Nat) (d e f g:IV) (h:Hp):OH :=
 AS 63963136 f h fun i j _ _=>AS 63963137 g j fun k b _ _=>Ad 3 i b fun l _=>Ai [] false false a 26 [d,e,l] b fun c m _ _=>Aq 0 c fun o=>Aq 1 c fun p=>Arm m o p k a
theorem Aoy (a:Aa) (n:Nat) (b c d e:IV) (f:Hp):Ax EE a ft.get n 61 [b,c,d,e] f=S61 a n b c d e f:=by kernel_rfl
def Arg (c d:AB) (a:IV) (b:Hp) (e:IV) (f:List IV→Hp→OH) (g h i j:IV):OH :=
 Ab [] c d (Cg EE 3 a (.fv (.int .i64 0)) fun k=>Aj k (Am [a] b) (Bv EE 3 e (.fv (.int .i64 1)) fun l=>f [g,h,i,j,l] b))
def AqP (a:Hp) (f b:IV) (g:Aa) (c d h:IV) (i:List IV→Hp→OH) (j:IV):OH :=
 Ad 3 f a fun k e=>Ab [] e [] (Ad 3 b a fun l m=>Ab [(e,[])] m [] (Ai [] false false g 61 [c,d,k,l] a fun n o p q=>Arg p q n o h i c d j b))
def Aq4 (a b:IV) (c:Hp) (d:IV) (e:Aa) (f g:IV) (h:List IV→Hp→OH):OH :=
 Bz a fun i=>GM EE 3 b i fun j=>Aj j (AP 3 a b fun k=>AqP c k d e f g b h a) (Am [.fv (.int .i64 0)] c)
def ArD (a:List IV) (b:Hp) (c:Aa) (d:List IV→Hp→OH):OH :=
 AF a fun e f=>AF f fun g h=>AF h fun i j=>AF j fun k l=>AF l fun m _=>Aq4 i m b k c e g d
def S62 (a:Aa) (n:Nat) (b c d e:IV) (f:Hp):OH :=
 AS 65011712 e f fun g h _ _=>Bh n (fun i j k=>ArD j k a i) [b,c,d,g,.fv (.int .i64 0)] h
theorem Aqz (a:Aa) (n:Nat) (b c d e:IV) (f:Hp):Ax EE a ft.get n 62 [b,c,d,e] f=S62 a n b c d e f:=by kernel_rfl
def Ann (d:Aa) (e:Hp) (f a:IV):OH :=
 Ai [] false false d 57 [f] e fun b g _ _=>Aq 0 b fun h=>Aq 1 b fun i=>Ae 3 a h g fun c _ _=>Ap true 3 a c fun j=>Am [j,i] c
def AkK (a:IV) (d:Hp) (b:IV):OH :=
 Aq 0 a fun e=>Aq 1 a fun f=>Ae 3 b e d fun c _ _=>Ap true 3 b c fun g=>Am [g,f] c
def Aju (c:Aa) (d:Hp) (e a:IV):OH :=
 Ai [] false false c 60 [e] d fun f g _ _=>Ae 3 a f g fun b _ _=>Ap true 3 a b fun h=>Am [h,.fv (.int .i64 0)] b
def AnT (a:IV) (b:Aa) (c:Hp) (d f:IV):OH :=
 Aq 0 a fun g=>Aq 1 a fun e=>Cg EE 3 e (.fv (.int .i64 0)) fun h=>Aj h (Ai [] false false b 57 [e] c fun i j _ _=>AkK i j d) (AD (AK EE 66071554 false .max [3,3] [f,g]) 66071554 c fun k l _ _=>Aju b l k d)
def Akw (c:IV) (a:Hp) (d e f:AB) (b:Aa) (g h i:IV):OH :=
 AP 3 c (.fv (.int .i64 1)) fun j=>Ad 3 j a fun k l=>Ab [(d,e),(f,[])] l [] (Ai [] false false b 88 [g,k] a fun m n o p=>Ab [] o p (AnT m b n h i))
def Anl (a:IV) (b:Hp) (c:Aa) (g h i:IV):OH :=
 AP 3 a (.fv (.int .i64 0)) fun j=>Ad 3 j b fun k d=>Ab [] d [] (Ai [] false false c 84 [g,.fv (.int .i64 1),k] b fun l m e f=>Ab [] e f (Akw a m e f d c l h i))
def Akm (a:Aa) (g:Hp) (b h c i:IV):OH :=
 Ai [] false false a 88 [b,h] g fun d e _ _=>Aq 0 d fun j=>Aq 1 d fun f=>Cg EE 3 f (.fv (.int .i64 0)) fun k=>Aj k (Ann a e f c) (Anl i e a b c j)
def AnV (c:IV) (d:Hp) (a e:IV):OH :=
 Aq 1 c fun f=>Ae 3 a e d fun b _ _=>Ap true 3 a b fun g=>Am [g,f] b
def Akl (c:IV) (d:Hp) (a e:IV):OH :=
 Aq 1 c fun f=>Ae 3 a e d fun b _ _=>Ap true 3 a b fun g=>Am [g,f] b
def AmJ (c:IV) (d:Hp) (a e:IV):OH :=
 Aq 1 c fun f=>Ae 3 a e d fun b g h=>Ab [] g h (Ap true 3 a b fun i=>Am [i,f] b)
def Ang (a:Aa) (c:Hp) (d e:IV):OH :=
 Ai [] false false a 30 [.fv (.int .i64 3),d] c fun f g h i=>Ab [] h i (Ai [] false false a 58 [f] g fun b j k l=>Ab [] k l (Aq 0 b fun m=>AmJ b j e m))
def AlW (a:AB) (b:Hp) (c d:IV) (e:Aa) (f:IV):OH :=
 Ab [] a [] (Ad 3 c b fun g h=>Ab [(a,[])] h [] (AD (Al EE 28 2 [(0,d),(1,g)]) 66079748 b fun i j k l=>Ab [] k l (Ang e j i f)))
def AmN (e:IV) (b:Aa) (a:Hp) (f c g h:IV):OH :=
 Aj e (Ai [] false false b 57 [f] a fun d i _ _=>Aq 0 d fun j=>Akl d i c j) (AP 3 g (.fv (.int .i64 0)) fun k=>Ad 3 k a fun l m=>AlW m a h l b c)
def Ai9 (c:Hp) (d e f g h i:AB) (j a:IV) (k:Aa) (l m:IV):OH :=
 Ay 66076684 (.row [.fv (.int .i64 0),.fv (.int .i64 0),.nils] false) (.ptr (.own 66076684) 0) c fun b n o p=>Ab [(d,e),(f,[]),(g,h),(i,[])] o p (Ae 3 b j n fun q r s=>Ab [] r s (Cg EE 3 a (.fv (.int .i64 0)) fun t=>AmN t k q a l m b))
def AkH (a b c d:AB) (e:Aa) (i:Hp) (j k l m:IV):OH :=
 Ab [(b,c),(d,[])] a [] (Ai [] false false e 26 [j,.fv (.int .i64 1),k] i fun f n g h=>Ab [] g h (Aq 0 f fun o=>Aq 1 f fun p=>Ai9 n g h a b c d o p e l m))
def Am9 (a:AB) (b:Aa) (g:Hp) (h i c j:IV):OH :=
 Ab [] a [] (Ai [] false false b 84 [h,.fv (.int .i64 1),i] g fun k d e f=>Ab [] e f (AP 3 c (.fv (.int .i64 1)) fun l=>Ad 3 l d fun m n=>AkH n e f a b d k m j c))
def Ank (b:IV) (c:Aa) (a:Hp) (d e g:IV):OH :=
 Cg EE 3 b (.fv (.int .i64 0)) fun h=>Aj h (Ai [] false false c 57 [b] a fun f i _ _=>Aq 0 f fun j=>AnV f i d j) (AP 3 e (.fv (.int .i64 0)) fun k=>Ad 3 k a fun l m=>Am9 m c a g l e d)
def AjY (a:IV) (b:Hp) (c:Aa) (d f:IV):OH :=
 AP 3 a (.fv (.int .i64 0)) fun g=>Ad 3 g b fun h _=>Ai [] false false c 88 [d,h] b fun e i _ _=>Aq 0 e fun _=>Aq 1 e fun j=>Ank j c i f a d
def AnM (c:IV) (d:Hp) (a e:IV):OH :=
 Aq 1 c fun f=>Ae 3 a e d fun b _ _=>Ap true 3 a b fun g=>Am [g,f] b
def Alp (a:Hp) (b c:IV):OH :=
 Ap true 3 b a fun d=>Am [d,c] a
def Akn (c d:AB) (a:IV) (e:Hp) (b:IV):OH :=
 Ab [] c d (Aq 0 a fun f=>Aq 1 a fun g=>Ae 3 b f e fun h i j=>Ab [] i j (Alp h b g))
def AnZ (a:Hp) (c:IV) (d e:AB) (b:Aa) (f g:IV):OH :=
 Ad 3 c a fun h i=>Ab [(d,[]),(e,[])] i [] (Ai [] false false b 89 [f,.fv (.int .i64 0),h] a fun j k l m=>Ab [] l m (Ai [] false false b 58 [j] k fun n o p q=>Akn p q n o g))
def Aln (a:AB) (d:IV) (b:Hp) (e:IV) (f:Aa) (g:IV):OH :=
 Ab [] a [] (AP 3 d (.fv (.int .i64 1)) fun h=>Ad 3 h b fun i c=>Ab [] c [] (AP 3 e (.fv (.int .i64 1)) fun j=>AnZ b j c a f i g))
def AnG (b:IV) (c:Aa) (a:Hp) (d f g:IV):OH :=
 Cg EE 3 b (.fv (.int .i64 0)) fun h=>Aj h (Ai [] false false c 57 [b] a fun e i _ _=>Aq 0 e fun j=>AnM e i d j) (Af 2 f fun k=>Ak k a fun l m=>Aln m l a g c d)
def Aml (b:IV) (a:Hp) (c:AB) (d:Aa) (e f:IV) (g:IV→Hp→OH):OH :=
 AP 3 b (.fv (.int .i64 0)) fun h=>Ad 3 h a fun i j=>Ab [(c,[])] j [] (Ai [] false false d 61 [e,.fv (.int .i64 1),f,i] a fun k l m n=>Ab [] m n (g k l))
def AmE (a:Hp) (c d:IV) (e:Aa) (f:IV) (g:IV→Hp→OH):OH :=
 Ad 3 c a fun h b=>Ab [] b [] (Af 2 d fun i=>Ak i a fun j k=>Ab [(b,[])] k [] (Aml j a b e f h g))
def Ak5 (a:Aa) (g b c d:IV) (e:Hp) (h:IV):OH :=
 (fun (f:IV→Hp→OH)=>AQ EE 3 d (.fv (.int .i64 0)) fun i=>Aj i (AP 3 c (.fv (.int .i64 1)) fun j=>AmE e j b a h f) (f d e)) fun k l=>AnG k a l g b c
def Ajk (a:Aa) (e:Hp) (b f g h:IV):OH :=
 Ai [] false false a 85 [b,.fv (.int .i64 1),f,.fv (.int .i64 3)] e fun c i _ _=>Aq 0 c fun j=>Aq 1 c fun k=>Ay 66081800 (.row [.fv (.int .i64 0),.fv (.int .i64 0),.nils] false) (.ptr (.own 66081800) 0) i fun d l _ _=>Ae 3 d j l fun m _ _=>Ak5 a g d h k m b
def Akt (c:IV) (d:Hp) (a e:IV):OH :=
 Aq 1 c fun f=>Ae 3 a e d fun b _ _=>Ap true 3 a b fun g=>Am [g,f] b
def AlU (d:IV) (a:Hp) (b:IV):OH :=
 AP 3 d (.fv (.int .i64 0)) fun e=>Ad 3 e a fun f _=>Ae 3 b f a fun c _ _=>Ap true 3 b c fun g=>Am [g,.fv (.int .i64 0)] c
def AiW (a:IV) (d:Hp) (b:IV):OH :=
 Aq 0 a fun e=>Aq 1 a fun f=>Ae 3 b e d fun c g h=>Ab [] g h (Ap true 3 b c fun i=>Am [i,f] c)
def AnO (b c d e:AB) (a:Aa) (f:Hp) (g h i:IV):OH :=
 Ab [(d,[]),(e,[])] b c (Ai [] false false a 89 [g,.fv (.int .i64 0),h] f fun j k l m=>Ab [] l m (Ai [] false false a 58 [j] k fun n o p q=>Ab [] p q (AiW n o i)))
def Am0 (c:Hp) (e:IV) (a b:AB) (d:Aa) (f g:IV):OH :=
 Ad 3 e c fun h i=>Ab [(a,[]),(b,[])] i [] (AD (Al EE 28 1 [(0,h)]) 66095111 c fun j k l m=>Ab [(a,[]),(b,[])] l m (Ai [] false false d 30 [.fv (.int .i64 8),j] k fun n o p q=>AnO p q a b d o f n g))
def AnA (a:AB) (d:IV) (b:Hp) (e:IV) (f:Aa) (g:IV):OH :=
 Ab [] a [] (AP 3 d (.fv (.int .i64 1)) fun h=>Ad 3 h b fun i c=>Ab [] c [] (AP 3 e (.fv (.int .i64 0)) fun j=>Am0 b j c a f i g))
def AmX (d b:IV) (a:Hp) (c e:IV) (f:Aa):OH :=
 AQ EE 3 d (.fv (.int .i64 8)) fun g=>Aj g (Af 2 b fun h=>Ak h a fun i _=>AlU i a c) (Af 2 b fun j=>Ak j a fun k l=>AnA l k a e f c)
def Ajo (b:IV) (c:Aa) (a:Hp) (d f g h:IV):OH :=
 Cg EE 3 b (.fv (.int .i64 0)) fun i=>Aj i (Ai [] false false c 57 [b] a fun e j _ _=>Aq 0 e fun k=>Akt e j d k) (Af 0 f fun l=>Ak l a fun m _=>AmX m g a d h c)
def Aji (a:Aa) (d:Hp) (e f g h i:IV):OH :=
 Ai [] false false a 85 [e,.fv (.int .i64 1),f,.fv (.int .i64 6)] d fun b j _ _=>Aq 0 b fun k=>Aq 1 b fun l=>Ay 66089992 (.row [.fv (.int .i64 0),.fv (.int .i64 0),.nils] false) (.ptr (.own 66089992) 0) j fun c m _ _=>Ae 3 c k m fun n _ _=>Ajo l a n g h c i
def Aj7 (a:Hp) (b c:IV):OH :=
 Ap true 3 b a fun d=>Am [d,c] a
def Ami (a:Hp) (d:IV) (e:Aa) (f b:IV):OH :=
 Ad 3 d a fun g _=>Ai [] false false e 90 [f,g] a fun c h _ _=>Aq 0 c fun i=>Aq 1 c fun j=>Ae 3 b i h fun k _ _=>Aj7 k b j
def AjI (a:IV) (d:Hp) (b:IV):OH :=
 Aq 0 a fun e=>Aq 1 a fun f=>Ae 3 b e d fun c _ _=>Ap true 3 b c fun g=>Am [g,f] c
def AlL (c:IV) (d:Hp) (a e:IV):OH :=
 Aq 1 c fun f=>Ae 3 a e d fun b _ _=>Ap true 3 a b fun g=>Am [g,f] b
def Amz (e:IV) (a:Hp) (f:IV) (b:Aa) (g c:IV):OH :=
 AQ EE 3 e (.fv (.int .i64 13)) fun h=>Aj h (Ad 3 f a fun i _=>Ai [] false false b 91 [g,i] a fun j k _ _=>AjI j k c) (Ai [] false false b 57 [.fv (.int .i64 10)] a fun d l _ _=>Aq 0 d fun m=>AlL d l c m)
def AmL (h f:IV) (a:Hp) (b:Aa) (c d e g:IV):OH :=
 Aj h (AP 3 f (.fv (.int .i64 0)) fun i=>Ad 3 i a fun j _=>Aji b a c j d e f) (AQ EE 3 g (.fv (.int .i64 7)) fun k=>Aj k (Ami a e b c d) (Amz g a e b c d))
def Ak1 (a:IV) (b:IV→Hp→OH) (c:Hp) (d:IV):OH :=
 Aj a (b a c) (AQ EE 3 d (.fv (.int .i64 9)) fun e=>b e c)
def AjH (a b:IV) (c:Hp) (d:Aa) (e f g:IV):OH :=
 AQ EE 3 a (.fv (.int .i64 5)) fun h=>Aj h (AP 3 b (.fv (.int .i64 0)) fun i=>Ad 3 i c fun j _=>Ajk d c e j f b) ((fun (k:IV→Hp→OH)=>AQ EE 3 a (.fv (.int .i64 8)) fun l=>Ak1 l k c a) fun m n=>AmL m b n d e f g a)
def AiQ (g a:IV) (b:Hp) (c:Aa) (d e f h:IV):OH :=
 Aj g (AP 3 a (.fv (.int .i64 0)) fun i=>Ad 3 i b fun j _=>Akm c b d j e a) (AQ EE 3 f (.fv (.int .i64 4)) fun k=>Aj k (AjY a b c d e) (AjH f a b c d e h))
def Ajm (e:IV) (f:Aa) (g h a i:IV) (b:Hp):OH :=
 (fun (c:IV→Hp→OH)=>AQ EE 3 a (.fv (.int .i64 3)) fun d=>Aj d (c d b) (AQ EE 3 a (.fv (.int .i64 6)) fun j=>c j b)) fun k l=>AiQ k e l f g h a i
def S63 (c:Aa) (n:Nat) (d e:IV) (f:Hp):OH :=
 AS 66060288 e f fun a g _ _=>Ay 66060289 (.row [.fv (.int .i64 0),.fv (.int .i64 0),.nils] false) (.ptr (.own 66060289) 0) g fun h b _ _=>Af 2 a fun i=>Ak i b fun j _=>Af 0 a fun k=>Ak k b fun l _=>Ajm j c d h l a b
theorem Apb (a:Aa) (n:Nat) (b c:IV) (d:Hp):Ax EE a ft.get n 63 [b,c] d=S63 a n b c d:=by kernel_rfl
def S64 (i:Aa) (n:Nat) (c d:IV) (e:Hp):OH :=
 Ay 67108864 (.row [.fv (.int .i64 0),.fv (.int .i64 0),.nils] false) (.ptr (.own 67108864) 0) e fun a f _ _=>BL [.fv (.int .i64 0),.fv (.int .i64 0),.nils] [(0,1,c),(2,1,d)] fun g=>Ae 3 a g f fun b _ _=>Ap true 3 a b fun h=>Am [h] b
theorem Apc (a:Aa) (n:Nat) (b c:IV) (d:Hp):Ax EE a ft.get n 64 [b,c] d=S64 a n b c d:=by kernel_rfl
def Xl (d:IV) (e f:Hp) (a b:IV) (g:List IV→Hp→OH):OH :=
 Bv EE 3 d (.fv (.int .i64 1)) fun c=>BB (e.own.map (·.1)) [70260746] [a,b,c] f fun h=>g [a,b,c] h
def WU (a:Aa) (b:Hp) (c d:IV) (e:IV→Hp→OH):OH :=
 Ai [] false false a 96 [c,.fv (.int .i64 0),d] b fun f g _ _=>e f g
def V9 (d e:AB) (f:IV→Hp→OH) (g:IV) (a:Hp) (h:IV) (i:Aa) (b:IV):OH :=
 Ab [] d e ((fun (c:IV→Hp→OH)=>Aj g (Ad 3 h a fun j _=>WU i a b j c) (c b a)) fun k l=>f k l)
def W3 (a:IV) (c:Hp) (d e f g h:AB) (i:IV→Hp→OH) (j:Aa) (k:IV):OH :=
 Aq 0 a fun l=>Aq 1 a fun m=>Ay 70260746 (.row [.fv (.int .i64 0),.fv (.int .i64 0),.nils] false) (.ptr (.own 70260746) 0) c fun b n o p=>Ab [(d,e),(f,[]),(g,h)] o p (Ae 3 b l n fun q r s=>V9 r s i m q b j k)
def Xy (i j:IV) (a:Hp) (b c:AB) (d:Aa) (e k:IV) (l:IV→Hp→OH):OH :=
 AP 3 i j fun m=>Ad 3 m a fun n f=>Ab [(b,c)] f [] (Ai [] false false d 70 [e,k,n,.fv (.int .i64 2)] a fun o p g h=>Ab [] g h (W3 o p g h f b c l d e))
def W6 (a:Aa) (c:Hp) (b d:IV) (e:IV→Hp→OH):OH :=
 Ai [] false false a 69 [b,d,.fv (.int .i64 2)] c fun f g _ _=>Ai [] false false a 96 [b,.fv (.int .i64 1),f] g fun h i _ _=>e h i
def Xw (i:IV) (a:Aa) (b:Hp) (c d e:IV) (f:IV→Hp→OH):OH :=
 Aj i (Ai [] false false a 30 [.fv (.int .i64 14),.nils] b fun j k g h=>Ab [] g h (Xy c d k g h a e j f)) (AP 3 c d fun l=>Ad 3 l b fun m _=>W6 a b e m f)
def Xu (a b:IV) (c:Hp) (d:Aa) (e:IV) (f:IV→Hp→OH):OH :=
 AP 3 a b fun g=>Af 1 g fun h=>Ak h c fun i _=>Ai [] false false d 41 [i,.fv (.int .i64 3)] c fun j k _ _=>AQ EE 3 j (.fv (.int .i64 0)) fun l=>Xw l d k a b e f
def VZ (c:Hp) (a b:IV) (h:Hp) (d:IV) (i:List IV→Hp→OH) (j:Aa) (e:IV):OH :=
 Ac a true c (fun k=>k b c [] []) fun l f _ _=>Ac a true f (fun m=>GM EE 3 l (.fv (.int .i64 4)) fun n=>m n f [] []) fun o g _ _=>AH a o (.fv (.bool false)) fun p=>Aj p ((fun (q:IV→Hp→OH)=>Xu d b g j e q) fun r s=>Xl b h s d r i) (Am [e] g)
def Ags (c:List IV) (d e:Hp) (f:List IV→Hp→OH) (g:Aa):OH :=
 AF c fun a h=>AF h fun i j=>AF j fun b _=>Bz a fun k=>GM EE 3 b k fun l=>VZ d l b e a f g i
def S67 (c:Aa) (n:Nat) (b:IV) (a:Hp):OH :=
 BB (a.own.map (·.1)) [70260746] [b,.nils,.fv (.int .i64 0)] a fun d=>Bh n (fun e f g=>Ags f g a e c) [b,.nils,.fv (.int .i64 0)] d
theorem ApM (a:Aa) (n:Nat) (b:IV) (c:Hp):Ax EE a ft.get n 67 [b] c=S67 a n b c:=by kernel_rfl
def Yx (c:Hp) (a d:IV):OH :=
 Ae 3 a d c fun b _ _=>Ap true 3 a b fun e=>Am [e,.fv (.bool false)] b
def AcV (a:Hp) (b c:IV):OH :=
 Ap true 3 b a fun d=>Am [d,c] a
def Aaw (c:Hp) (a d e:IV):OH :=
 Ae 3 a d c fun b _ _=>Ap true 3 a b fun f=>Am [f,e] b
def AbC (a:Hp) (c d:IV) (e:Aa) (f g h:IV):OH :=
 Ad 3 c a fun i _=>Ad 3 d a fun j _=>Ai [] false false e 98 [f,i,j,g] a fun b k _ _=>Aq 0 b fun l=>Aq 1 b fun m=>Aaw k h l m
def AcO (a:Hp) (b e c f:IV):OH :=
 Ac b true a (fun g=>g e a [] []) fun h i _ _=>AH b h (.fv (.bool false)) fun j=>Ae 3 c f i fun d k l=>Ab [] k l (Ap true 3 c d fun m=>Am [m,j] d)
def AaX (a:Hp) (e:IV) (f b c d:AB) (g h i j k:IV):OH :=
 Ad 3 e a fun l m=>Ab [(f,[]),(b,c),(d,[])] m [] (AD (Al EE 28 2 [(0,g),(1,l)]) 71317509 a fun n o p q=>Ab [(b,c),(d,[])] p q (BL [.fv (.int .i64 0),.fv (.int .i64 0),.nils] [(0,1,.fv (.int .i64 26)),(1,1,h),(2,1,n)] fun r=>AcO o i j k r))
def Acq (a:AB) (f:Aa) (g:Hp) (h i j k l m:IV):OH :=
 Ab [] a [] (Ai [] false false f 41 [h,.fv (.int .i64 5)] g fun n d b c=>Ab [] b c (Ad 3 i d fun o e=>Ab [(b,c),(a,[])] e [] (AaX d j e b c a o n k l m)))
def AdN (c d e f g h i j:AB) (k:Hp) (a l m:IV) (n:Aa) (o p q r:IV):OH :=
 Ab [(e,f),(g,h),(i,[]),(j,[])] c d (Ae 3 a l k fun b s t=>Ab [] s t (Af 1 m fun u=>Ak u b fun v w=>Acq w n b v o a p q r))
def AdM (a:Aa) (e:Hp) (f g h i:IV) (j k l m:AB) (n o p q:IV):OH :=
 Ai [] false false a 68 [f,g,h,i] e fun b r c d=>Ab [] c d (Aq 0 b fun s=>Aq 1 b fun t=>Ay 71316490 (.row [.fv (.int .i64 0),.fv (.int .i64 0),.nils] false) (.ptr (.own 71316490) 0) r fun u v w x=>AdN w x c d j k l m v u s n a o p t q)
def YU (b:Hp) (c:IV) (a:AB) (d:Aa) (h i j k l m:IV):OH :=
 Ad 3 c b fun n e=>Ab [(a,[])] e [] (Ai [] false false d 42 [n,.fv (.int .i64 1)] b fun o p f g=>Ab [(a,[])] f g (Bd EE 3 h (.fv (.int .i64 1)) fun q=>AdM d p i j o q f g e a c k l m))
def Z9 (d e f g h i j k:AB) (l:Hp) (a m n o:IV) (p:Aa) (q r s t:IV):OH :=
 Ab [(f,g),(h,i),(j,[]),(k,[])] d e (Ae 3 a m l fun b u v=>Ab [] u v (Ad 3 n b fun w c=>Ab [] c [] (YU b o c p q r w a s t)))
def Z7 (a:Aa) (f:Hp) (b g h i:IV) (j k l m:AB) (n o p q:IV):OH :=
 Ai [] false false a 68 [b,g,h,i] f fun c r d e=>Ab [] d e (Aq 0 c fun s=>Aq 1 c fun t=>Ay 71315466 (.row [.fv (.int .i64 0),.fv (.int .i64 0),.nils] false) (.ptr (.own 71315466) 0) r fun u v w x=>Z9 w x d e j k l m v u s n o a p b t q)
def Yz (b:Hp) (c:IV) (a:AB) (d:Aa) (e i j k l:IV):OH :=
 Ad 3 c b fun m f=>Ab [(a,[])] f [] (Ai [] false false d 42 [m,.fv (.int .i64 0)] b fun n o g h=>Ab [(a,[])] g h (Bd EE 3 e (.fv (.int .i64 1)) fun p=>Z7 d o i j n p g h f a k c e l))
def Aas (a:Aa) (d:Hp) (e b:IV):OH :=
 Ai [] false false a 41 [e,.fv (.int .i64 20)] d fun f g _ _=>Bd EE 3 f (.fv (.int .i64 5)) fun h=>Ai [] false false a 31 [h] g fun i j _ _=>Ae 3 b i j fun c _ _=>Ap true 3 b c fun k=>Am [k,.fv (.bool true)] c
def Acy (g:IV) (a:Hp) (b c:IV) (d:Aa) (h i e:IV):OH :=
 Aj g (Ad 3 b a fun j f=>Ab [] f [] (Yz a c f d h i j b e)) (Af 1 c fun k=>Ak k a fun l _=>Aas d a l e)
def XT (c:Hp) (a d:IV) (e:Aa) (h i j k:IV):OH :=
 Ac a true c (fun l=>Af 0 d fun m=>l m c [] []) fun n b _ _=>Ac a true b (fun o=>Ak n b fun p q=>o p b q []) fun r f _ _=>Ac a true f (fun s=>Ai [] false false e 41 [r,.fv (.int .i64 2)] f s) fun t g _ _=>Ac a true g (fun u=>AQ EE 3 t (.fv (.int .i64 1)) fun v=>u v g [] []) fun w x _ _=>AH a w (.fv (.bool false)) fun y=>Acy y x h d e i j k
def Abz (b c:AB) (a:Hp) (d e:IV):OH :=
 Ab [] b c (Ap true 3 d a fun f=>Am [f,e] a)
def AbM (b:Hp) (c d:IV) (e:Aa) (a f:IV):OH :=
 AD (Al EE 28 2 [(0,c),(1,d)]) 71321605 b fun g h i j=>Ab [] i j (Ai [] false false e 30 [.fv (.int .i64 20),g] h fun k l m n=>Ab [] m n (Ae 3 a k l fun o p q=>Abz p q o a f))
def Yl (c:IV) (a:Hp) (d:IV) (e:AB) (f:Aa) (g h:IV):OH :=
 AP 3 c (.fv (.int .i64 0)) fun i=>Ad 3 i a fun j b=>Ab [] b [] (Ad 3 d a fun k l=>Ab [(b,[]),(e,[])] l [] (AbM a j k f g h))
def Zq (d:Hp) (a e f:IV) (g:Aa) (h i:IV):OH :=
 Ae 3 a e d fun b j k=>Ab [] j k (Af 2 f fun l=>Ak l b fun m c=>Ab [] c [] (Yl m b a c g h i))
def Abt (a b:AB) (c:IV) (d:Hp) (e f g h i j k l m n o:AB) (p:IV) (q:Aa) (r:IV):OH :=
 Ab [] a b (Aq 0 c fun s=>Aq 1 c fun t=>Ay 71320595 (.row [.fv (.int .i64 0),.fv (.int .i64 0),.nils] false) (.ptr (.own 71320595) 0) d fun u v w x=>Ab [(a,b),(e,f),(g,[]),(h,i),(j,[]),(k,[]),(l,m),(n,[]),(o,[])] w x (Zq v u s p q r t))
def Ab3 (b c d e f g h i j:AB) (a:Aa) (m:Hp) (n o p q r s:IV):OH :=
 Ab [(c,d),(e,[]),(f,[]),(g,h),(i,[]),(j,[])] b [] (Ai [] false false a 42 [n,.fv (.int .i64 0)] m fun t u k l=>Ab [] k l (Bd EE 3 o (.fv (.int .i64 1)) fun v=>Ai [] false false a 68 [p,q,t,v] u fun w x y z=>Abt y z w x k l b c d e f g h i j r a s))
def Abx (a:Hp) (k:IV) (b c d e:AB) (f:Aa) (l:IV) (m:AB) (n o p q:IV):OH :=
 Ad 3 k a fun r g=>Ab [(b,c),(d,[]),(e,[])] g [] (Ai [] false false f 28 [r,.fv (.int .i64 1),.fv (.int .i64 0)] a fun s h i j=>Ab [] i j (Ad 3 l h fun t u=>Ab3 u i j g m b c d e f h t n o s p q))
def X1 (a b:AB) (c:IV) (d:Hp) (e f:AB) (h:Aa) (i j k l:IV):OH :=
 Ab [] a b (Af 2 c fun m=>Ak m d fun n g=>Ab [(a,b),(e,[]),(f,[])] g [] (AP 3 n (.fv (.int .i64 1)) fun o=>Abx d o a b e f h i g j k c l))
def Abl (a:AB) (e:IV) (b:Hp) (c:Aa) (f g h i j:IV):OH :=
 Ab [] a [] (AP 3 e (.fv (.int .i64 0)) fun k=>Ad 3 k b fun l d=>Ab [] d [] (Ai [] false false c 96 [f,.fv (.int .i64 0),l] b fun m n o p=>X1 o p g n d a c h i m j))
def AcG (a:Hp) (b c:IV):OH :=
 Ap true 3 b a fun d=>Am [d,c] a
def Adp (d:Hp) (e f:IV) (g:Aa) (a h b:IV):OH :=
 AD (Al EE 28 2 [(0,e),(1,f)]) 71325698 d fun i j _ _=>Ai [] false false g 30 [.fv (.int .i64 22),i] j fun k c _ _=>Ac a true c (fun l=>l h c [] []) fun m n _ _=>AH a m (.fv (.bool false)) fun o=>Ae 3 b k n fun p _ _=>AcG p b o
def Y5 (c d e f g h i j k:AB) (l:Hp) (b m n:IV) (o:Aa) (p q r:IV):OH :=
 Ab [(e,f),(g,h),(i,[]),(j,[]),(k,[])] c d (Ae 3 b m l fun a s t=>Ab [] s t (Ad 3 n a fun u _=>Ad 3 b a fun v _=>Adp a u v o p q r))
def Y1 (a:Aa) (e:Hp) (f g h i:IV) (j k l m n:AB) (o p q:IV):OH :=
 Ai [] false false a 68 [f,g,h,i] e fun b r c d=>Ab [] c d (Aq 0 b fun s=>Aq 1 b fun t=>Ay 71324685 (.row [.fv (.int .i64 0),.fv (.int .i64 0),.nils] false) (.ptr (.own 71324685) 0) r fun u v w x=>Y5 w x c d j k l m n v u s o a p t q)
def Acg (c:Hp) (h:IV) (a b:AB) (d:Aa) (i j k l m n:IV):OH :=
 Ad 3 h c fun o e=>Ab [(a,[]),(b,[])] e [] (Ai [] false false d 42 [o,.fv (.int .i64 1)] c fun p q f g=>Ab [(a,[]),(b,[])] f g (Bd EE 3 i (.fv (.int .i64 1)) fun r=>Y1 d q j k p r f g e a b l m n))
def Aa0 (a:Hp) (d e:IV) (f:Aa) (g h i j k:IV):OH :=
 Ak d a fun l b=>Ab [] b [] (AP 3 l (.fv (.int .i64 1)) fun m=>Ad 3 m a fun n c=>Ab [] c [] (Acg a e c b f g h n i j k))
def AaO (b:Hp) (c d e f g h i:AB) (j k l:IV) (m:Aa) (n o p q:IV):OH :=
 Ay 71323661 (.row [.fv (.int .i64 0),.fv (.int .i64 0),.nils] false) (.ptr (.own 71323661) 0) b fun a r s t=>Ab [(c,d),(e,f),(g,[]),(h,[]),(i,[])] s t (Ae 3 a j r fun u v w=>Ab [] v w (Af 2 k fun x=>Aa0 u x l m n o a p q))
def YV (a:IV) (b:Aa) (g:Hp) (c h i:IV) (j k l m n:AB) (o p q:IV):OH :=
 Bd EE 3 a (.fv (.int .i64 1)) fun r=>Ai [] false false b 68 [c,h,i,r] g fun d s e f=>Ab [] e f (Aq 0 d fun t=>Aq 1 d fun u=>AaO s e f j k l m n t o p b a c u q)
def ZU (a:AB) (c:Hp) (d:IV) (b:AB) (e:Aa) (i j k l m:IV):OH :=
 Ab [] a [] (Ad 3 d c fun n f=>Ab [(a,[]),(b,[])] f [] (Ai [] false false e 42 [n,.fv (.int .i64 0)] c fun o p g h=>Ab [(a,[]),(b,[])] g h (YV i e p j k o g h f a b l d m)))
def XF (b:IV) (a:Hp) (d:IV) (e:Aa) (f g h:IV):OH :=
 Af 2 b fun i=>Ak i a fun j c=>Ab [] c [] (AP 3 j (.fv (.int .i64 0)) fun k=>Ad 3 k a fun l m=>ZU m a d c e f g l b h)
def YN (a:Hp) (d b e:IV):OH :=
 Ad 3 d a fun f _=>Ae 3 b f a fun c _ _=>Ap true 3 b c fun g=>Am [g,e] c
def AcN (h b:IV) (a:Hp) (d:Aa) (e f g c i j k:IV):OH :=
 Aj h (Af 2 b fun l=>Ak l a fun m n=>Abl n m a d e b f g c) (AQ EE 3 i (.fv (.int .i64 17)) fun o=>Aj o (XF b a f d g e c) (YN a j c k))
def Zn (a:IV) (b:Hp) (c e:IV) (f:Aa) (g h i j:IV):OH :=
 Af 0 a fun k=>Ak k b fun d _=>AQ EE 3 d (.fv (.int .i64 15)) fun l=>Aj l (K5 EE 3 c (.fv (.int .i64 0)) fun m=>XT b m e f a c g h) (AQ EE 3 d (.fv (.int .i64 16)) fun n=>AcN n a b f g e c h d i j)
def AcR (b:Hp) (a l:IV) (c:Aa) (d e f g h m n:IV):OH :=
 Ac a true b (fun o=>Ak l b fun p q=>o p b q []) fun r i _ _=>Ac a true i (fun s=>Ai [] false false c 41 [r,.fv (.int .i64 3)] i s) fun t j _ _=>Ac a true j (fun u=>AQ EE 3 t (.fv (.int .i64 1)) fun v=>u v j [] []) fun w k _ _=>AH a w (.fv (.bool false)) fun x=>Aj x (AbC k d e c f g h) (Zn d k g e c f h m n)
def Abk (h:IV) (a:Hp) (c b d e f:IV) (i:Aa) (j k:IV):OH :=
 Aj h (Ad 3 c a fun l _=>Ae 3 b l a fun m _ _=>AcV m b d) (K5 EE 3 e (.fv (.int .i64 0)) fun g=>Ac g true a (fun n=>Af 0 f fun o=>n o a [] []) fun p q _ _=>AcR q g p i j f k e b c d)
def ZT (c:Hp) (a g d h i j:IV) (k:Aa) (l m:IV):OH :=
 Ac a true c (fun n=>AQ EE 3 g (.fv (.int .i64 0)) fun o=>n o c [] []) fun p e _ _=>AH a p (.fv (.bool false)) fun b=>Ac b false e (fun q=>q d e [] []) fun r f _ _=>Ac b false f (fun s=>GM EE 3 r (.fv (.int .i64 (-4))) fun t=>s t f [] []) fun u v _ _=>AH b (.fv (.bool true)) u fun w=>Abk w v h i a d j k l m
def Yr (h:Hp) (i a c:IV) (d:Aa) (j k l m:IV):OH :=
 Ay 71307272 (.row [.fv (.int .i64 0),.fv (.int .i64 0),.nils] false) (.ptr (.own 71307272) 0) h fun e n _ _=>Ae 3 e i n fun f _ _=>Ac a true f (fun o=>Af 0 c fun p=>o p f [] []) fun q b _ _=>Ac a true b (fun r=>Ak q b fun s t=>r s b t []) fun u g _ _=>Ac a true g (fun v=>Ai [] false false d 41 [u,.fv (.int .i64 3)] g v) fun w x _ _=>ZT x a w j e k c d l m
def AcS (a:IV) (b:Hp) (c:Aa) (d f g h i:IV):OH :=
 Af 1 a fun j=>Ak j b fun k _=>Ai [] false false c 97 [d,.fv (.int .i64 0),f,k] b fun e l _ _=>Aq 0 e fun m=>Aq 1 e fun n=>Yr l m n a c g h i d
def AdZ (d:IV) (e:Hp) (a f c g:IV) (h:Aa) (i j:IV):OH :=
 Aq 1 d fun k=>Ae 3 a f e fun b _ _=>Cg EE 3 k (.fv (.int .i64 0)) fun l=>Aj l (BL [.fv (.int .i64 0),.fv (.int .i64 0),.nils] [] fun m=>Yx b c m) (Ad 3 a b fun n _=>AcS g b h i n j c a)
def S68 (a:Aa) (n:Nat) (e f g h:IV) (i:Hp):OH :=
 AS 71303168 f i fun b j _ _=>AS 71303169 g j fun k l _ _=>Ay 71303170 (.row [.fv (.int .i64 0),.fv (.int .i64 0),.nils] false) (.ptr (.own 71303170) 0) l fun m c _ _=>Ad 3 b c fun o _=>Ai [] false false a 58 [o] c fun d p _ _=>Aq 0 d fun q=>AdZ d p b q m k a e h
theorem AoI (a:Aa) (n:Nat) (b c d e:IV) (f:Hp):Ax EE a ft.get n 68 [b,c,d,e] f=S68 a n b c d e f:=by kernel_rfl
def AaW (a:Hp) (b:IV):OH :=
 Ap true 3 b a fun c=>Am [c] a
def ZH (c:Aa) (d:Hp) (a:IV):OH :=
 Ai [] false false c 30 [.fv (.int .i64 14),.nils] d fun e f _ _=>Ae 3 a e f fun b _ _=>Ap true 3 a b fun g=>Am [g] b
def ZQ (c:Hp) (d:IV) (e:Aa) (a:IV):OH :=
 AD (Al EE 28 1 [(0,d)]) 72363010 c fun f g _ _=>Ai [] false false e 30 [.fv (.int .i64 18),f] g fun h i _ _=>Ae 3 a h i fun b _ _=>Ap true 3 a b fun j=>Am [j] b
def AdH (c:Aa) (d:Hp) (a:IV):OH :=
 Ai [] false false c 60 [.fv (.int .i64 0)] d fun e f _ _=>Ae 3 a e f fun b _ _=>Ap true 3 a b fun g=>Am [g] b
def Zb (c d:AB) (e:Hp) (a f:IV):OH :=
 Ab [] c d (Ae 3 a f e fun b g h=>Ab [] g h (Ap true 3 a b fun i=>Am [i] b))
def Aao (a:Aa) (b:Hp) (c d e:IV) (f:AB) (g h:IV):OH :=
 Ai [] false false a 69 [c,d,e] b fun i j k l=>Ab [(f,[])] k l (AD (Al EE 28 2 [(0,g),(1,i)]) 72369161 j fun m n o p=>Ab [] o p (Ai [] false false a 30 [.fv (.int .i64 3),m] n fun q r s t=>Zb s t r h q))
def ZA (b:Hp) (d:IV) (e f g a:AB) (c:Aa) (h i j k:IV):OH :=
 Ad 3 d b fun l m=>Ab [(e,f),(g,[]),(a,[])] m [] (Ai [] false false c 42 [l,.fv (.int .i64 1)] b fun n o p q=>Ab [(a,[])] p q (Bd EE 3 h (.fv (.int .i64 1)) fun r=>Aao c o i n r a j k))
def ZW (a:AB) (b:Hp) (g:IV) (c:Aa) (h i j k l:IV):OH :=
 Ab [] a [] (Ad 3 g b fun m d=>Ab [(a,[])] d [] (Ai [] false false c 96 [h,.fv (.int .i64 1),m] b fun n o e f=>Ab [(a,[])] e f (ZA o i e f d a c j n k l)))
def Y7 (b:IV) (c:Aa) (f:Hp) (d g h i:IV):OH :=
 Bd EE 3 b (.fv (.int .i64 1)) fun j=>Ai [] false false c 69 [d,g,j] f fun k l _ _=>Ay 72368134 (.row [.fv (.int .i64 0),.fv (.int .i64 0),.nils] false) (.ptr (.own 72368134) 0) l fun a m _ _=>Ae 3 a k m fun e _ _=>Ad 3 a e fun n o=>ZW o e a c d h b n i
def YM (a:Hp) (b:IV):OH :=
 Ap true 3 b a fun c=>Am [c] a
def Acv (b c:AB) (d:Aa) (e:Hp) (f a:IV):OH :=
 Ab [] b c (Ai [] false false d 30 [.fv (.int .i64 6),f] e fun g h i j=>Ab [] i j (Ae 3 a g h fun k l m=>Ab [] l m (YM k a)))
def Ad6 (c d a:AB) (e:IV) (b:Aa) (f:Hp) (g h i j:IV):OH :=
 Ab [(a,[])] c d (Bd EE 3 e (.fv (.int .i64 1)) fun k=>Ai [] false false b 69 [g,h,k] f fun l m n o=>Ab [(a,[])] n o (AD (Al EE 28 2 [(0,i),(1,l)]) 72372233 m fun p q r s=>Acv r s b q p j))
def AaM (a:Aa) (f:Hp) (g h:IV) (b:AB) (i:IV) (j:AB) (k l m:IV):OH :=
 Ai [] false false a 96 [g,.fv (.int .i64 1),h] f fun n c d e=>Ab [(b,[])] d e (Ad 3 i c fun o p=>Ab [(d,e),(j,[]),(b,[])] p [] (Ai [] false false a 42 [o,.fv (.int .i64 1)] c fun q r s t=>Ad6 s t b k a r n q l m))
def ZD (e:Hp) (a f:IV) (g:Aa) (h i j k:IV):OH :=
 Ae 3 a f e fun b _ _=>Ad 3 a b fun l c=>Ab [] c [] (Ad 3 a b fun m d=>Ab [(c,[])] d [] (AaM g b h m c i d j l k))
def Zo (b:Hp) (c:IV) (a:Aa) (d e f:IV):OH :=
 Ad 3 c b fun g _=>Ai [] false false a 42 [g,.fv (.int .i64 0)] b fun h i _ _=>Bd EE 3 d (.fv (.int .i64 1)) fun j=>Ai [] false false a 69 [e,h,j] i fun k l _ _=>Ay 72371206 (.row [.fv (.int .i64 0),.fv (.int .i64 0),.nils] false) (.ptr (.own 72371206) 0) l fun m n _ _=>ZD n m k a e c d f
def Zv (a:Hp) (b:IV):OH :=
 Ap true 3 b a fun c=>Am [c] a
def Zx (c:Aa) (d:Hp) (e a:IV):OH :=
 Ai [] false false c 30 [.fv (.int .i64 18),e] d fun f g _ _=>Ae 3 a f g fun b _ _=>Ap true 3 a b fun h=>Am [h] b
def ZP (d:IV) (c:Aa) (a:Hp) (b e:IV):OH :=
 CI (Ji .not d) fun f=>Aj f (Ai [] false false c 99 [] a fun g h _ _=>Ae 3 b g h fun i _ _=>Zv i b) (Ad 3 e a fun j _=>AD (Al EE 28 1 [(0,j)]) 72376321 a fun k l _ _=>Zx c l k b)
def Acu (b:IV) (c:Hp) (d e f g h i j:AB) (k:IV) (l:Aa) (m:IV):OH :=
 Aq 1 b fun n=>Ay 72373258 (.row [.fv (.int .i64 0),.fv (.int .i64 0),.nils] false) (.ptr (.own 72373258) 0) c fun a o p q=>Ab [(d,e),(f,g),(h,[]),(i,j)] p q (Ae 3 a k o fun r s t=>Ab [] s t (ZP n l r m a))
def Yt (a b:AB) (g:IV) (c:Aa) (h:Hp) (i j k:IV) (l m n:AB) (o:IV):OH :=
 Ab [] a b (Bd EE 3 g (.fv (.int .i64 1)) fun p=>Ai [] false false c 70 [i,j,k,p] h fun d q e f=>Ab [] e f (Aq 0 d fun r=>Acu d q e f a b l m n r c o))
def Ac9 (a:Aa) (f:Hp) (g h i j:IV):OH :=
 Ai [] false false a 30 [.fv (.int .i64 14),.nils] f fun k d b c=>Ab [] b c (Ad 3 g d fun l e=>Ab [(b,c)] e [] (Ai [] false false a 42 [l,.fv (.int .i64 0)] d fun m n o p=>Yt o p h a n i k m e b c j))
def Aa6 (g:IV) (a:Hp) (b:IV) (c:Aa) (d e f h:IV):OH :=
 Aj g (Ad 3 b a fun i _=>Ai [] false false c 42 [i,.fv (.int .i64 0)] a fun j k _ _=>Y7 d c k e j b f) (AQ EE 3 h (.fv (.int .i64 7)) fun l=>Aj l (Zo a b c d e f) (Ac9 c a b d e f))
def Aca (e:IV) (f:Aa) (g h i a:IV) (b:Hp):OH :=
 (fun (c:IV→Hp→OH)=>AQ EE 3 a (.fv (.int .i64 5)) fun d=>Aj d (c d b) (AQ EE 3 a (.fv (.int .i64 6)) fun j=>c j b)) fun k l=>Aa6 k l e f g h i a
def Abr (c:IV) (a:Hp) (e:IV) (b:Aa) (d f g:IV):OH :=
 AQ EE 3 c (.fv (.int .i64 3)) fun h=>Aj h (Ad 3 e a fun i _=>Ai [] false false b 14 [i,.fv (.int .i64 1)] a fun j k _ _=>ZQ k j b d) (AQ EE 3 c (.fv (.int .i64 4)) fun l=>Aj l (AdH b a d) (Aca e b f g d c a))
def AbE (e:IV) (b:Aa) (c:Hp) (a d f g h:IV):OH :=
 Aj e (Ai [] false false b 99 [] c fun i j _ _=>Ae 3 a i j fun k _ _=>AaW k a) (AQ EE 3 d (.fv (.int .i64 2)) fun l=>Aj l (ZH b c a) (Abr d c f b a g h))
def Ack (e:Aa) (f a g h i:IV) (b:Hp):OH :=
 (fun (c:IV→Hp→OH)=>AQ EE 3 a (.fv (.int .i64 0)) fun d=>Aj d (c d b) (AQ EE 3 a (.fv (.int .i64 1)) fun j=>c j b)) fun k l=>AbE k e l f a g h i
def AaS (a:IV) (b:IV→Hp→OH) (c:Hp):OH :=
 CC EE 3 .rem a (.fv (.int .i64 5)) fun d=>b d c
def Zw (g:IV) (c:Hp) (a:IV) (d:IV→Hp→OH):OH :=
 leS EE 3 g (.fv (.int .i64 0)) fun b=>Ac b true c (fun h=>h a c [] []) fun i e _ _=>Ac b true e (fun j=>K5 EE 3 i (.fv (.int .i64 4)) fun k=>j k e [] []) fun l f _ _=>AH b l (.fv (.bool false)) fun m=>Aj m (AaS a d f) (d a f)
def S69 (a:Aa) (n:Nat) (e f b:IV) (g:Hp):OH :=
 AS 72351744 f g fun c h _ _=>Ay 72351745 (.row [.fv (.int .i64 0),.fv (.int .i64 0),.nils] false) (.ptr (.own 72351745) 0) h fun i d _ _=>Af 0 c fun j=>Ak j d fun k _=>Ai [] false false a 41 [k,.fv (.int .i64 9)] d fun l m _ _=>(fun (o:IV→Hp→OH)=>Zw b m l o) fun p q=>Ack a i p c b e q
theorem AqD (a:Aa) (n:Nat) (b c d:IV) (e:Hp):Ax EE a ft.get n 69 [b,c,d] e=S69 a n b c d e:=by kernel_rfl
def Aaz (c:Hp) (a d:IV):OH :=
 Ae 3 a d c fun b _ _=>Ap true 3 a b fun e=>Am [e,.fv (.bool false)] b
def XA (a:Hp) (b c:IV):OH :=
 Ap true 3 b a fun d=>Am [d,c] a
def XQ (c:Hp) (a d e:IV):OH :=
 Ae 3 a d c fun b _ _=>Ap true 3 a b fun f=>Am [f,e] b
def X0 (a:Hp) (c d:IV) (e:Aa) (f g h:IV):OH :=
 Ad 3 c a fun i _=>Ad 3 d a fun j _=>Ai [] false false e 100 [f,i,j,g] a fun b k _ _=>Aq 0 b fun l=>Aq 1 b fun m=>XQ k h l m
def Aai (d:Aa) (e:Hp) (f g h i a:IV):OH :=
 Ai [] false false d 101 [f,g,h,i] e fun b j _ _=>Aq 0 b fun k=>Aq 1 b fun l=>Ae 3 a k j fun c _ _=>Ap true 3 a c fun m=>Am [m,l] c
def Zj (b c:AB) (a:Hp) (d e:IV):OH :=
 Ab [] b c (Ap true 3 d a fun f=>Am [f,e] a)
def Abg (b:Hp) (c d:IV) (e:Aa) (a f:IV):OH :=
 AD (Al EE 28 2 [(0,c),(1,d)]) 73416709 b fun g h i j=>Ab [] i j (Ai [] false false e 30 [.fv (.int .i64 4),g] h fun k l m n=>Ab [] m n (Ae 3 a k l fun o p q=>Zj p q o a f))
def Aaq (c:IV) (a:Hp) (d:IV) (e:AB) (f:Aa) (g h:IV):OH :=
 AP 3 c (.fv (.int .i64 0)) fun i=>Ad 3 i a fun j b=>Ab [] b [] (Ad 3 d a fun k l=>Ab [(b,[]),(e,[])] l [] (Abg a j k f g h))
def Ya (d:Hp) (a e f:IV) (g:Aa) (h i:IV):OH :=
 Ae 3 a e d fun b j k=>Ab [] j k (Af 2 f fun l=>Ak l b fun m c=>Ab [] c [] (Aaq m b a c g h i))
def YQ (a b:AB) (c:IV) (d:Hp) (e f g h i j k l m:AB) (n:IV) (o:Aa) (p:IV):OH :=
 Ab [] a b (Aq 0 c fun q=>Aq 1 c fun r=>Ay 73415698 (.row [.fv (.int .i64 0),.fv (.int .i64 0),.nils] false) (.ptr (.own 73415698) 0) d fun s t u v=>Ab [(a,b),(e,f),(g,[]),(h,[]),(i,[]),(j,k),(l,[]),(m,[])] u v (Ya t s q n o p r))
def AdR (d a b e f g h:AB) (c:Aa) (k:Hp) (l m n o p q:IV):OH :=
 Ab [(a,[]),(b,[]),(e,f),(g,[]),(h,[])] d [] (Ai [] false false c 42 [l,.fv (.int .i64 0)] k fun r s i j=>Ab [(a,[]),(b,[])] i j (Bd EE 3 m (.fv (.int .i64 1)) fun t=>Ai [] false false c 70 [n,o,r,t] s fun u v w x=>YQ w x u v i j d a b e f g h p c q))
def YZ (f a b c d:AB) (h:IV) (e:Hp) (i:IV) (j:Aa) (k l m n:IV):OH :=
 Ab [(a,b),(c,[]),(d,[])] f [] (AP 3 h (.fv (.int .i64 1)) fun o=>Ad 3 o e fun p g=>Ab [(a,b),(c,[]),(d,[])] g [] (Ad 3 i e fun q r=>AdR r g f a b c d j e q k l p m n))
def Adz (a:AB) (b:Aa) (g:Hp) (h i c:IV) (j:AB) (k l m:IV):OH :=
 Ab [] a [] (Ai [] false false b 96 [h,.fv (.int .i64 1),i] g fun n d e f=>Ab [] e f (Af 2 c fun o=>Ak o d fun p q=>YZ q e f a j p d k b l n c m))
def Ach (b:IV) (a:Hp) (d:Aa) (e f g h:IV):OH :=
 Af 2 b fun i=>Ak i a fun j c=>Ab [] c [] (AP 3 j (.fv (.int .i64 0)) fun k=>Ad 3 k a fun l m=>Adz m d a e l b c f g h)
def AdS (c:Hp) (a d e:IV):OH :=
 Ae 3 a d c fun b _ _=>Ap true 3 a b fun f=>Am [f,e] b
def YA (c:Hp) (d e f:IV) (g:Aa) (a h:IV):OH :=
 AD (Al EE 28 3 [(0,d),(1,e),(2,f)]) 73422851 c fun i j _ _=>Ai [] false false g 30 [.fv (.int .i64 7),i] j fun k l _ _=>Ae 3 a k l fun b _ _=>Ap true 3 a b fun m=>Am [m,h] b
def X5 (c:Hp) (b d e f:IV) (g:Aa) (h i:IV):OH :=
 Ae 3 b d c fun a j k=>Ab [] j k (Ad 3 e a fun l _=>Ad 3 f a fun m _=>Ad 3 b a fun n _=>YA a l m n g h i)
def Acn (a b:AB) (c:IV) (d:Hp) (e f g h i j k l:AB) (m n:IV) (o:Aa) (p:IV):OH :=
 Ab [] a b (Aq 0 c fun q=>Aq 1 c fun r=>Ay 73421839 (.row [.fv (.int .i64 0),.fv (.int .i64 0),.nils] false) (.ptr (.own 73421839) 0) d fun s t u v=>Ab [(a,b),(e,f),(g,[]),(h,i),(j,[]),(k,[]),(l,[])] u v (X5 t s q m n o p r))
def Acr (b c d e f g:AB) (a:Aa) (j:Hp) (k l m n o p q:IV):OH :=
 Ab [(c,d),(e,[]),(f,[]),(g,[])] b [] (Ai [] false false a 42 [k,.fv (.int .i64 1)] j fun r s h i=>Ab [] h i (Bd EE 3 l (.fv (.int .i64 1)) fun t=>Ai [] false false a 70 [m,n,r,t] s fun u v w x=>Acn w x u v h i b c d e f g o p a q))
def ZI (a:Hp) (b:IV) (c d:AB) (e:Aa) (j k l m n o:IV):OH :=
 Ad 3 b a fun p f=>Ab [(c,[]),(d,[])] f [] (Ai [] false false e 89 [j,.fv (.int .i64 0),p] a fun q g h i=>Ab [] h i (Ad 3 k g fun r s=>Acr s h i f c d e g r l m q n b o))
def Ade (a:Hp) (d e:IV) (f:Aa) (g h i j k:IV):OH :=
 Ak d a fun l b=>Ab [] b [] (AP 3 l (.fv (.int .i64 1)) fun m=>Ad 3 m a fun n c=>Ab [] c [] (ZI a e c b f n g h i j k))
def YF (e:Hp) (b f g h c i d:IV) (j:Aa) (k l m:IV):OH :=
 Ae 3 b f e fun a n o=>Ab [] n o (CI (Ji .not g) fun p=>Aj p (Ad 3 h a fun q _=>AdS a c q i) (Af 2 d fun r=>Ade a r b j k l m d c))
def Ye (a b:AB) (c:IV) (d:Hp) (e f g h i:AB) (j k l m:IV) (n:Aa) (o p q:IV):OH :=
 Ab [] a b (Aq 0 c fun r=>Aq 1 c fun s=>Ay 73418765 (.row [.fv (.int .i64 0),.fv (.int .i64 0),.nils] false) (.ptr (.own 73418765) 0) d fun t u v w=>Ab [(a,b),(e,f),(g,[]),(h,[]),(i,[])] v w (YF u t r s j k l m n o p q))
def AbR (d a b:AB) (c:Aa) (i:Hp) (j e f k l m n o p:IV):OH :=
 Ab [(a,[]),(b,[])] d [] (Ai [] false false c 42 [j,.fv (.int .i64 0)] i fun q r g h=>Ab [(a,[]),(b,[])] g h (Bd EE 3 e (.fv (.int .i64 1)) fun s=>Ai [] false false c 70 [f,k,q,s] r fun t u v w=>Ye v w t u g h d a b l m n o c p e f))
def Ab1 (b:AB) (e:IV) (a:Hp) (c:IV) (f:Aa) (g h i j k l:IV):OH :=
 Ab [] b [] (AP 3 e (.fv (.int .i64 0)) fun m=>Ad 3 m a fun n d=>Ab [] d [] (Ad 3 c a fun o p=>AbR p d b f a o g h n i j k l c))
def Ado (c:Hp) (d:IV) (e:Aa) (a f:IV):OH :=
 AD (Al EE 28 1 [(0,d)]) 73425921 c fun g h _ _=>Ai [] false false e 30 [.fv (.int .i64 19),g] h fun i j _ _=>Ae 3 a i j fun b _ _=>Ap true 3 a b fun k=>Am [k,f] b
def XN (c:Hp) (d e f g h i j:AB) (k:IV) (l:Aa) (m n:IV):OH :=
 Ay 73424909 (.row [.fv (.int .i64 0),.fv (.int .i64 0),.nils] false) (.ptr (.own 73424909) 0) c fun a o p q=>Ab [(d,e),(f,g),(h,[]),(i,[]),(j,[])] p q (Ae 3 a k o fun b r s=>Ab [] r s (Ad 3 a b fun t _=>Ado b t l m n))
def Aau (e:IV) (a:Aa) (f:Hp) (g h i:IV) (j k l m n:AB) (o:IV):OH :=
 Bd EE 3 e (.fv (.int .i64 1)) fun p=>Ai [] false false a 68 [g,h,i,p] f fun b q c d=>Ab [] c d (Aq 0 b fun r=>Aq 1 b fun s=>XN q c d j k l m n r a o s)
def YP (a:AB) (c:Hp) (h:IV) (b:AB) (d:Aa) (i j k l:IV):OH :=
 Ab [] a [] (Ad 3 h c fun m e=>Ab [(a,[]),(b,[])] e [] (Ai [] false false d 42 [m,.fv (.int .i64 0)] c fun n o f g=>Ab [(a,[]),(b,[])] f g (Aau i d o j k n f g e a b l)))
def ZR (c:IV) (a:Hp) (d:IV) (e:Aa) (f g h:IV):OH :=
 Af 2 c fun i=>Ak i a fun j b=>Ab [] b [] (AP 3 j (.fv (.int .i64 0)) fun k=>Ad 3 k a fun l m=>YP m a d b e f g l h)
def AcC (a:Hp) (d b e:IV):OH :=
 Ad 3 d a fun f _=>Ae 3 b f a fun c _ _=>Ap true 3 b c fun g=>Am [g,e] c
def Aa5 (d b:IV) (a:Hp) (e:IV) (f:Aa) (g h i c j:IV):OH :=
 AQ EE 3 d (.fv (.int .i64 6)) fun k=>Aj k (Af 2 b fun l=>Ak l a fun m n=>Ab1 n m a e f g h i c j b) (AQ EE 3 d (.fv (.int .i64 18)) fun o=>Aj o (ZR b a e f g h c) (AcC a i c j))
def Adi (i:IV) (a:Hp) (b c:IV) (d:Aa) (e f g h j k:IV):OH :=
 Aj i (Ad 3 b a fun l _=>Ad 3 c a fun m _=>Aai d a e l m f g) (AQ EE 3 h (.fv (.int .i64 3)) fun n=>Aj n (Ach b a d e c f g) (Aa5 h b a c d f e j g k))
def AcW (a:IV) (b:IV→Hp→OH) (c:Hp):OH :=
 AQ EE 3 a (.fv (.int .i64 14)) fun d=>Aj d (b d c) (AQ EE 3 a (.fv (.int .i64 2)) fun e=>b e c)
def AdQ (c:IV) (a:Hp) (f:IV) (g:Aa) (h i j k l:IV):OH :=
 Af 0 c fun m=>Ak m a fun b _=>(fun (d:IV→Hp→OH)=>AQ EE 3 b (.fv (.int .i64 10)) fun e=>Aj e (d e a) (AcW b d a)) fun n o=>Adi n o c f g h i j b k l
def AaV (b:Hp) (a l:IV) (c:Aa) (d e f g h m n:IV):OH :=
 Ac a true b (fun o=>Ak l b fun p q=>o p b q []) fun r i _ _=>Ac a true i (fun s=>Ai [] false false c 41 [r,.fv (.int .i64 7)] i s) fun t j _ _=>Ac a true j (fun u=>AQ EE 3 t (.fv (.int .i64 6)) fun v=>u v j [] []) fun w k _ _=>AH a w (.fv (.bool false)) fun x=>Aj x (X0 k d e c f g h) (AdQ d k e c f g h m n)
def Ac2 (h:IV) (a:Hp) (c b d e f:IV) (i:Aa) (j k:IV):OH :=
 Aj h (Ad 3 c a fun l _=>Ae 3 b l a fun m _ _=>XA m b d) (K5 EE 3 e (.fv (.int .i64 0)) fun g=>Ac g true a (fun n=>Af 0 f fun o=>n o a [] []) fun p q _ _=>AaV q g p i j f k e b c d)
def Yd (c:Hp) (a g d h i j:IV) (k:Aa) (l m:IV):OH :=
 Ac a true c (fun n=>AQ EE 3 g (.fv (.int .i64 0)) fun o=>n o c [] []) fun p e _ _=>AH a p (.fv (.bool false)) fun b=>Ac b false e (fun q=>q d e [] []) fun r f _ _=>Ac b false f (fun s=>GM EE 3 r (.fv (.int .i64 (-4))) fun t=>s t f [] []) fun u v _ _=>AH b (.fv (.bool true)) u fun w=>Ac2 w v h i a d j k l m
def Acp (h:Hp) (i a c:IV) (d:Aa) (j k l m:IV):OH :=
 Ay 73404424 (.row [.fv (.int .i64 0),.fv (.int .i64 0),.nils] false) (.ptr (.own 73404424) 0) h fun e n _ _=>Ae 3 e i n fun f _ _=>Ac a true f (fun o=>Af 0 c fun p=>o p f [] []) fun q b _ _=>Ac a true b (fun r=>Ak q b fun s t=>r s b t []) fun u g _ _=>Ac a true g (fun v=>Ai [] false false d 41 [u,.fv (.int .i64 3)] g v) fun w x _ _=>Yd x a w j e k c d l m
def Zf (a:IV) (b:Hp) (c:Aa) (d f g h i:IV):OH :=
 Af 1 a fun j=>Ak j b fun k _=>Ai [] false false c 97 [d,.fv (.int .i64 1),f,k] b fun e l _ _=>Aq 0 e fun m=>Aq 1 e fun n=>Acp l m n a c g h i d
def Aax (d:IV) (e:Hp) (a f c g:IV) (h:Aa) (i j:IV):OH :=
 Aq 1 d fun k=>Ae 3 a f e fun b _ _=>Cg EE 3 k (.fv (.int .i64 0)) fun l=>Aj l (BL [.fv (.int .i64 0),.fv (.int .i64 0),.nils] [] fun m=>Aaz b c m) (Ad 3 a b fun n _=>Zf g b h i n j c a)
def S70 (a:Aa) (n:Nat) (e f g h:IV) (i:Hp):OH :=
 AS 73400320 f i fun b j _ _=>AS 73400321 g j fun k l _ _=>Ay 73400322 (.row [.fv (.int .i64 0),.fv (.int .i64 0),.nils] false) (.ptr (.own 73400322) 0) l fun m c _ _=>Ad 3 b c fun o _=>Ai [] false false a 58 [o] c fun d p _ _=>Aq 0 d fun q=>Aax d p b q m k a e h
theorem AqH (a:Aa) (n:Nat) (b c d e:IV) (f:Hp):Ax EE a ft.get n 70 [b,c,d,e] f=S70 a n b c d e f:=by kernel_rfl
def PX (a:IV) (b:Hp) (h:IV) (i:Hp) (c d e f:IV) (j:List IV→Hp→OH):OH :=
 Cg EE 35 a (.fv (.int .i64 0)) fun k=>Aj k (Am [a] b) (Bv EE 3 h (.fv (.int .i64 1)) fun g=>BB (i.own.map (·.1)) [74457090] [c,d,e,f,g] b fun l=>j [c,d,e,f,g] l)
def Q8 (e:Hp) (f a:IV) (g:Aa) (b h:IV) (i:Hp) (j k:IV) (l:List IV→Hp→OH):OH :=
 Ay 74457090 (.row [.fv (.int .i64 0),.fv (.int .i64 0),.nils] false) (.ptr (.own 74457090) 0) e fun c m _ _=>Ae 3 c f m fun d _ _=>Ad 3 c d fun n _=>Bv EE 3 a (.fv (.int .i64 1)) fun o=>Ai [false,true,false] false false g 71 [n,b,o] d fun p q _ _=>PX p q h i b a j k l
def Pu (a c d:IV) (b:Hp) (e:IV) (f:Aa) (g:IV) (h:Hp) (i:List IV→Hp→OH):OH :=
 GM EE 3 a c fun j=>Aj j (AP 3 d a fun k=>Ad 3 k b fun l _=>Q8 b l e f g a h d c i) (Am [.fv (.int .i64 0)] b)
def Abv (a:List IV) (b:Hp) (c:Aa) (d:Hp) (e:List IV→Hp→OH):OH :=
 AF a fun f g=>AF g fun h i=>AF i fun j k=>AF k fun l m=>AF m fun n _=>Pu n l j b h c f d e
def QI (b:Hp) (g:IV) (c:Hp) (d e:IV) (n:Nat) (h:Aa):OH :=
 Ak g b fun a _=>Bz a fun f=>BB (c.own.map (·.1)) [74457090] [d,e,a,f,.fv (.int .i64 0)] b fun i=>Bh n (fun j k l=>Abv k l h c j) [d,e,a,f,.fv (.int .i64 0)] i
def QU (d e:AB) (a:Hp) (b f g:IV) (h:Hp) (i j:IV) (n:Nat) (k:Aa):OH :=
 Ab [] d e (Ac b false a (fun l=>CI (Ji .not f) fun m=>l m a [] []) fun o c _ _=>AH b (.fv (.bool true)) o fun p=>Aj p (Am [.fv (.int .i64 1)] c) (Af 2 g fun q=>QI c q h i j n k))
def Q5 (c d:AB) (e:Hp) (a f:IV) (g:Aa) (i:IV) (j:Hp) (k l:IV) (n:Nat):OH :=
 Ab [] c d (Ac a false e (fun m=>Af 1 f fun o=>m o e [] []) fun p b _ _=>Ac a false b (fun q=>Ak p b fun r s=>q r b s []) fun t h u v=>Ab [(c,d)] u v (Ac a false h (fun w=>Ai [] false false g 103 [i,t] h w) fun x y z A=>QU z A y a x f j k l n g))
def PZ (e f g h:AB) (i j:IV) (c:Hp) (d:IV) (k:Aa) (l:Hp) (m o:IV) (n:Nat):OH :=
 Ab [(f,g),(h,[])] e [] (Bz i fun p=>Cg EE 3 j p fun a=>Ac a false c (fun q=>Af 0 d fun r=>q r c [] []) fun s b _ _=>Ac a false b (fun t=>Ak s b fun u v=>t u b v []) fun w x y z=>Q5 y z x a d k w l m o n)
def Qj (a:AB) (b:Aa) (g:Hp) (h c:IV) (i:Hp) (j k:IV) (n:Nat):OH :=
 Ab [] a [] (Ai [] false false b 102 [h] g fun l d e f=>Ab [] e f (Af 2 c fun m=>Ak m d fun o p=>PZ p e f a o l d c b i j k n))
def PV (c d:IV) (a:Hp) (b:IV) (e:Aa) (f:Hp) (g h:IV) (n:Nat):OH :=
 AH c (.fv (.bool true)) d fun i=>Aj i (Am [.fv (.int .i64 5)] a) (Af 0 b fun j=>Ak j a fun k l=>Qj l e a k b f g h n)
def Qg (c:IV) (a:Hp) (d f:IV) (g:Aa) (h:Hp) (n:Nat):OH :=
 AX c fun i=>Ak i a fun j _=>K5 EE 3 j (.fv (.int .i64 3000)) fun b=>Ac b false a (fun k=>k d a [] []) fun l e _ _=>Ac b false e (fun m=>K5 EE 3 l (.fv (.int .i64 120)) fun o=>m o e [] []) fun p q _ _=>PV b p q f g h c d n
def S71 (d:Aa) (n:Nat) (e a f:IV) (b:Hp):OH :=
 AS 74448896 e b fun g c _ _=>AX a fun h=>Ak h c fun i _=>Bv EE 3 i (.fv (.int .i64 1)) fun j=>AX a fun k=>B3 k j c fun l _ _=>Qg a l f g d b n
theorem Aqp (a:Aa) (n:Nat) (b c d:IV) (e:Hp):Ax EE a ft.get n 71 [b,c,d] e=S71 a n b c d e:=by kernel_rfl
def RE (d:Aa) (e:Hp) (a f b:IV) (g:List IV→Hp→OH) (h i:IV):OH :=
 Om EE d a [f] e fun j c _ _=>Aj j (Am [b] c) (Bv EE 3 b (.fv (.int .i64 1)) fun k=>g [h,a,i,k] c)
def Rp (d b c:IV) (a:Hp) (e:Aa) (f:IV) (g:List IV→Hp→OH) (h:IV):OH :=
 Aj d (AP 3 b c fun i=>Ad 3 i a fun j _=>RE e a f j c g b h) (Am [.fv (.int .i64 (-1))] a)
def V8 (c:List IV) (d:Hp) (e:Aa) (f:List IV→Hp→OH):OH :=
 AF c fun g h=>AF h fun i j=>AF j fun a k=>AF k fun b _=>GM EE 3 b a fun l=>Rp l g b d e i f a
def S72 (b:Aa) (n:Nat) (a c:IV) (d:Hp):OH :=
 Bz a fun e=>Bh n (fun f g h=>V8 g h b f) [a,c,e,.fv (.int .i64 0)] d
theorem Apa (a:Aa) (n:Nat) (b c:IV) (d:Hp):Ax EE a ft.get n 72 [b,c] d=S72 a n b c d:=by kernel_rfl
def Py (b:Hp) (a g:IV) (h:Aa) (i:IV) (c:IV→Hp→OH) (j:IV):OH :=
 Ac a true b (fun k=>Ad 3 g b fun l m=>k l b m []) fun n d _ _=>Ac a true d (fun o=>Ai [] false false h 104 [i,n] d o) fun p e _ _=>Ac a true e (fun q=>CI (Ji .not p) fun r=>q r e [] []) fun s f _ _=>AH a s (.fv (.bool false)) fun t=>Aj t (c (.fv (.int .i64 11)) f) (c j f)
def RG (e:Hp) (f b g:IV) (h:Aa):OH :=
 Ay 76547078 (.row [.fv (.int .i64 0),.fv (.int .i64 0),.nils] false) (.ptr (.own 76547078) 0) e fun c i _ _=>Ae 3 c f i fun a _ _=>(fun (j:IV→Hp→OH)=>AQ EE 35 b (.fv (.int .i64 0)) fun d=>Ac d true a (fun k=>Ad 3 g a fun l m=>k l a m []) fun n o _ _=>Py o d c h n j b) fun p q=>Am [p] q
def S73 (a:Aa) (n:Nat) (d e f:IV) (g:Hp):OH :=
 AS 76546048 e g fun h i _ _=>AS 76546049 f i fun j b _ _=>Ad 3 h b fun k _=>Ai [] false false a 53 [d,k] b fun c l _ _=>Aq 0 c fun m=>Aq 1 c fun o=>RG l m o j a
theorem ArF (a:Aa) (n:Nat) (b c d:IV) (e:Hp):Ax EE a ft.get n 73 [b,c,d] e=S73 a n b c d e:=by kernel_rfl
def LB (c:Hp) (a:IV):OH :=
 BL [.fv (.int .i64 0),.fv (.int .i64 0),.nils] [] fun d=>Ae 3 a d c fun b _ _=>Ap true 3 a b fun e=>Am [e,.fv (.int .i64 10)] b
def LK (c d e:AB) (f:Hp) (a g h:IV):OH :=
 Ab [(e,[])] c d (Ae 3 a g f fun b i j=>Ab [] i j (Ap true 3 a b fun k=>Am [k,h] b))
def LZ (a:Hp) (g:IV) (c d e b:AB) (h:IV) (i:Aa) (j k l:IV):OH :=
 Ad 3 g a fun m f=>Ab [(c,d),(e,[]),(b,[])] f [] (Ad 3 h a fun n o=>Ab [(f,[]),(c,d),(e,[]),(b,[])] o [] (Ai [] false false i 73 [j,m,n] a fun p q r s=>LK r s b q k l p))
def LO (a:AB) (b:Hp) (c:IV) (d:Aa) (h i j k:IV):OH :=
 Ab [] a [] (Ad 3 c b fun l e=>Ab [(a,[])] e [] (Ai [] false false d 75 [h,l] b fun m n f g=>Ab [(a,[])] f g (LZ n i f g e a c d m j k)))
def Lq (c:Hp) (a d e:IV):OH :=
 Ae 3 a d c fun b _ _=>Ap true 3 a b fun f=>Am [f,e] b
def Lx (c:Hp) (d e:IV) (a:Aa) (f g:IV):OH :=
 AD (Al EE 28 2 [(0,d),(1,e)]) 77601794 c fun h i _ _=>Ai [] false false a 64 [.fv (.int .i64 16),h] i fun j k _ _=>Ai [] false false a 105 [j,f] k fun b l _ _=>Aq 0 b fun m=>Aq 1 b fun n=>Lq l g m n
def LY (c d e f g h i j:AB) (k:Hp) (b l m:IV) (n:Aa) (o p:IV):OH :=
 Ab [(e,f),(g,[]),(h,i),(j,[])] c d (Ae 3 b l k fun a q r=>Ab [] q r (Ad 3 m a fun s _=>Ad 3 b a fun t _=>Lx a s t n o p))
def Le (a:Aa) (e:Hp) (f g:IV) (h i j k:AB) (l m:IV):OH :=
 Ai [] false false a 53 [f,g] e fun b n c d=>Ab [] c d (Aq 0 b fun o=>Aq 1 b fun p=>Ay 77600776 (.row [.fv (.int .i64 0),.fv (.int .i64 0),.nils] false) (.ptr (.own 77600776) 0) n fun q r s t=>LY s t c d h i j k r q o l a p m)
def LG (a:AB) (d:Aa) (g:Hp) (h i j k l:IV):OH :=
 Ab [] a [] (Ai [] false false d 75 [h,i] g fun m e b c=>Ab [] b c (Ad 3 j e fun n f=>Ab [(b,c),(a,[])] f [] (Le d e m n f b c a k l)))
def Lz (g:IV) (a:Hp) (b:IV) (c:Aa) (d e f:IV):OH :=
 Af 0 g fun h=>Ak h a fun i _=>AQ EE 3 i (.fv (.int .i64 29)) fun j=>Aj j (Ad 3 b a fun k l=>LO l a b c d e f k) (Ad 3 b a fun m n=>LG n c a d m e b f)
def LC (f g:AB) (a:Hp) (b:IV) (c:Aa) (d h i j:IV):OH :=
 Ab [] f g (Ad 3 b a fun k _=>Ai [] false false c 52 [k] a fun l e _ _=>CI (Ji .not l) fun m=>Aj m (LB e d) (Lz h e b c i j d))
def Ln (e:Hp) (f g a b h i:AB) (c j k:IV) (l:Aa) (m n o:IV):OH :=
 Ay 77595657 (.row [.fv (.int .i64 0),.fv (.int .i64 0),.nils] false) (.ptr (.own 77595657) 0) e fun d p q r=>Ab [(f,g),(a,[]),(b,[]),(h,[]),(i,[])] q r (Ae 3 c j p fun s t u=>Ab [(a,[]),(b,[])] t u (Ae 3 d k s fun v w x=>LC w x v c l m n o d))
def LU (h:IV) (d:Hp) (a b e:AB) (i:IV) (j:Aa) (k l m:IV):OH :=
 AP 3 h (.fv (.int .i64 1)) fun n=>Ad 3 n d fun o c=>Ab [(a,[]),(b,[])] c [] (Ay 77595656 (.row [.fv (.int .i64 0),.fv (.int .i64 0),.nils] false) (.ptr (.own 77595656) 0) d fun p q f g=>Ab [(c,[]),(e,[]),(a,[]),(b,[])] f g (Ln q f g c e a b p i o j k l m))
def Ll (a:Hp) (f c:IV) (d:AB) (g:Aa) (h i:IV):OH :=
 Ad 3 f a fun j b=>Ab [] b [] (Af 2 c fun k=>Ak k a fun l e=>Ab [(b,[]),(d,[])] e [] (LU l a b d e j g h c i))
def S74 (d:Aa) (n:Nat) (e f:IV) (g:Hp):OH :=
 AS 77594624 f g fun a h _ _=>Ay 77594625 (.row [.fv (.int .i64 0),.fv (.int .i64 0),.nils] false) (.ptr (.own 77594625) 0) h fun i b _ _=>Af 2 a fun j=>Ak j b fun k c=>Ab [] c [] (AP 3 k (.fv (.int .i64 0)) fun l=>Ll b l a c d i e)
theorem AqA (a:Aa) (n:Nat) (b c:IV) (d:Hp):Ax EE a ft.get n 74 [b,c] d=S74 a n b c d:=by kernel_rfl
def Ahb (e a b c d:AB) (f:Hp) (g h:IV):OH :=
 Ab [(a,b),(c,d)] e [] (AD (Al EE 78 1 [(0,g)]) 78644228 f fun i j k l=>Ab [(a,b),(c,d)] k l (AD (AK EE 78644229 false .append [78,78] [h,i]) 78644229 j fun m n o p=>Ab [] o p (Am [m] n)))
def S75 (a:Aa) (n:Nat) (g h:IV) (i:Hp):OH :=
 AS 78643200 h i fun j k _ _=>Ai [] true false a 107 [g] k fun l m b c=>Ab [] b c (Ai [] false true a 106 [l] m fun o d e f=>Ab [] e f (Ad 3 j d fun p q=>Ahb q e f b c d p o))
theorem AqS (a:Aa) (n:Nat) (b c:IV) (d:Hp):Ax EE a ft.get n 75 [b,c] d=S75 a n b c d:=by kernel_rfl
def Aba (a:Hp) (b c:IV):OH :=
 Ap true 3 b a fun d=>Am [d,c] a
def Ab4 (a:IV) (d:Hp) (b:IV):OH :=
 Aq 0 a fun e=>Aq 1 a fun f=>Ae 3 b e d fun c _ _=>Ap true 3 b c fun g=>Am [g,f] c
def Ac5 (a:Hp) (c d:IV) (b:Aa) (e f:IV):OH :=
 Ad 3 c a fun g _=>Ad 3 d a fun h _=>AD (Al EE 28 2 [(0,g),(1,h)]) 79699970 a fun i j _ _=>Ai [] false false b 64 [.fv (.int .i64 17),i] j fun k l _ _=>Ai [] false false b 105 [k,e] l fun m n _ _=>Ab4 m n f
def AdP (a:Aa) (d:Hp) (e f g h:IV):OH :=
 Ai [] false false a 53 [e,f] d fun b i _ _=>Aq 0 b fun j=>Aq 1 b fun k=>Ay 79698952 (.row [.fv (.int .i64 0),.fv (.int .i64 0),.nils] false) (.ptr (.own 79698952) 0) i fun c l _ _=>Ae 3 c j l fun m _ _=>Ac5 m g c a k h
def Yq (c:IV) (a:Hp) (b d:IV) (e:Aa) (f g:IV):OH :=
 Cg EE 35 c (.fv (.int .i64 0)) fun h=>Aj h (BL [.fv (.int .i64 0),.fv (.int .i64 0),.nils] [] fun i=>Ae 3 b i a fun j _ _=>Aba j b c) (AP 3 d (.fv (.int .i64 1)) fun k=>Ad 3 k a fun l _=>AdP e a f l g b)
def YL (a:Aa) (e:Hp) (b f g h:IV):OH :=
 Ai [] false false a 53 [b,f] e fun c i _ _=>Aq 0 c fun j=>Aq 1 c fun k=>Ay 79695880 (.row [.fv (.int .i64 0),.fv (.int .i64 0),.nils] false) (.ptr (.own 79695880) 0) i fun d l _ _=>Ae 3 d j l fun m _ _=>Yq k m g h a b d
def Acw (a:Hp) (b c:IV):OH :=
 Ap true 3 b a fun d=>Am [d,c] a
def Ab6 (c:Aa) (d:Hp) (e f g:IV) (h:AB) (a i:IV):OH :=
 Ai [] false false c 73 [e,f,g] d fun j k l m=>Ab [(h,[])] l m (Ae 3 a i k fun b n o=>Ab [] n o (Ap true 3 a b fun p=>Am [p,j] b))
def YS (d:IV) (a:Hp) (b:AB) (e:IV) (f:Aa) (g h i:IV):OH :=
 AP 3 d (.fv (.int .i64 1)) fun j=>Ad 3 j a fun k c=>Ab [(b,[])] c [] (Ad 3 e a fun l m=>Ab [(c,[]),(b,[])] m [] (Ab6 f a g k l b h i))
def Zc (c:IV) (a:Hp) (b e f g:IV) (h:Aa) (i:IV):OH :=
 Cg EE 35 c (.fv (.int .i64 0)) fun j=>Aj j (BL [.fv (.int .i64 0),.fv (.int .i64 0),.nils] [] fun k=>Ae 3 b k a fun l _ _=>Acw l b c) (Ad 3 e a fun m d=>Ab [] d [] (YS f a d g h i b m))
def Ac3 (c:IV) (d:Hp) (e f g h:IV) (i:Aa) (j:IV):OH :=
 Aq 2 c fun k=>Ay 79702025 (.row [.fv (.int .i64 0),.fv (.int .i64 0),.nils] false) (.ptr (.own 79702025) 0) d fun a l _ _=>Ay 79702026 (.row [.fv (.int .i64 0),.fv (.int .i64 0),.nils] false) (.ptr (.own 79702026) 0) l fun b m _ _=>Ae 3 a e m fun n _ _=>Ae 3 b f n fun o _ _=>Zc k o g b h a i j
def Abj (b:IV) (c:Hp) (d:Aa) (e f:IV):OH :=
 AP 3 b (.fv (.int .i64 0)) fun g=>Ad 3 g c fun h _=>Ai [] false false d 108 [e,h,.fv (.int .i64 16)] c fun a i _ _=>Aq 0 a fun j=>Aq 1 a fun k=>Ac3 a i j k f b d e
def AaY (a:Hp) (b c:IV):OH :=
 Ap true 3 b a fun d=>Am [d,c] a
def Z6 (d:Hp) (a e f b g:IV):OH :=
 Ay 79707146 (.row [.fv (.int .i64 0),.fv (.int .i64 0),.nils] false) (.ptr (.own 79707146) 0) d fun h i _ _=>Ae 3 a e i fun j _ _=>Ae 3 h f j fun c _ _=>Ad 3 a c fun k _=>Ae 3 b k c fun l _ _=>AaY l b g
def Aco (b:Aa) (c:Hp) (d e f:IV):OH :=
 Ai [] false false b 108 [d,e,.fv (.int .i64 17)] c fun a g _ _=>Aq 0 a fun h=>Aq 1 a fun i=>Aq 2 a fun j=>Ay 79707145 (.row [.fv (.int .i64 0),.fv (.int .i64 0),.nils] false) (.ptr (.own 79707145) 0) g fun k l _ _=>Z6 l k h i f j
def AbP (a:Hp) (d b e:IV):OH :=
 Ad 3 d a fun f _=>Ae 3 b f a fun c _ _=>Ap true 3 b c fun g=>Am [g,e] c
def XC (b:IV) (c:Hp) (d e f:IV):OH :=
 Aq 2 b fun g=>Ay 79710217 (.row [.fv (.int .i64 0),.fv (.int .i64 0),.nils] false) (.ptr (.own 79710217) 0) c fun h i _ _=>Ay 79710218 (.row [.fv (.int .i64 0),.fv (.int .i64 0),.nils] false) (.ptr (.own 79710218) 0) i fun a j _ _=>Ae 3 h d j fun k _ _=>Ae 3 a e k fun l _ _=>AbP l a f g
def Ab0 (c:IV) (b:Hp) (d:Aa) (e f:IV):OH :=
 AP 3 c (.fv (.int .i64 0)) fun g=>Ad 3 g b fun h _=>Ai [] false false d 108 [e,h,.fv (.int .i64 17)] b fun a i _ _=>Aq 0 a fun j=>Aq 1 a fun k=>XC a i j k f
def Zg (c:Hp) (a:IV):OH :=
 BL [.fv (.int .i64 0),.fv (.int .i64 0),.nils] [] fun d=>Ae 3 a d c fun b _ _=>Ap true 3 a b fun e=>Am [e,.fv (.int .i64 10)] b
def AdI (c d:IV) (a:Hp) (e:Aa) (f b:IV):OH :=
 AQ EE 3 c (.fv (.int .i64 23)) fun g=>Aj g (AP 3 d (.fv (.int .i64 0)) fun h=>Ad 3 h a fun i _=>Aco e a f i b) (AQ EE 3 c (.fv (.int .i64 24)) fun j=>Aj j (Ab0 d a e f b) (Zg a b))
def X7 (c a:IV) (b:Hp) (d:Aa) (e f:IV):OH :=
 AQ EE 3 c (.fv (.int .i64 22)) fun g=>Aj g (AP 3 a (.fv (.int .i64 0)) fun h=>Ad 3 h b fun i _=>YL d b e i f a) (AQ EE 3 c (.fv (.int .i64 21)) fun j=>Aj j (Abj a b d e f) (AdI c a b d e f))
def S76 (c:Aa) (n:Nat) (d e:IV) (f:Hp):OH :=
 AS 79691776 e f fun b g _ _=>Ay 79691777 (.row [.fv (.int .i64 0),.fv (.int .i64 0),.nils] false) (.ptr (.own 79691777) 0) g fun h a _ _=>Af 2 b fun i=>Ak i a fun j _=>Af 0 b fun k=>Ak k a fun l _=>X7 l j a c d h
theorem Ap5 (a:Aa) (n:Nat) (b c:IV) (d:Hp):Ax EE a ft.get n 76 [b,c] d=S76 a n b c d:=by kernel_rfl
def QJ (b:Hp) (a g:IV) (h:Aa) (i:IV) (c:IV→Hp→OH) (j:IV):OH :=
 Ac a true b (fun k=>Ad 3 g b fun l m=>k l b m []) fun n d _ _=>Ac a true d (fun o=>Ai [] false false h 18 [i,n] d o) fun p e _ _=>Ac a true e (fun q=>CI (Ji .not p) fun r=>q r e [] []) fun s f _ _=>AH a s (.fv (.bool false)) fun t=>Aj t (c (.fv (.int .i64 11)) f) (c j f)
def Qa (e:Hp) (f b g:IV) (h:Aa):OH :=
 Ay 80741382 (.row [.fv (.int .i64 0),.fv (.int .i64 0),.nils] false) (.ptr (.own 80741382) 0) e fun c i _ _=>Ae 3 c f i fun a _ _=>(fun (j:IV→Hp→OH)=>AQ EE 3 b (.fv (.int .i64 0)) fun d=>Ac d true a (fun k=>Ad 3 g a fun l m=>k l a m []) fun n o _ _=>QJ o d c h n j b) fun p q=>Am [p] q
def S77 (a:Aa) (n:Nat) (d e f:IV) (g:Hp):OH :=
 AS 80740352 e g fun h i _ _=>AS 80740353 f i fun j b _ _=>Ad 3 h b fun k _=>Ai [] false false a 19 [d,k] b fun c l _ _=>Aq 0 c fun m=>Aq 1 c fun o=>Qa l m o j a
theorem Aqh (a:Aa) (n:Nat) (b c d:IV) (e:Hp):Ax EE a ft.get n 77 [b,c,d] e=S77 a n b c d e:=by kernel_rfl
def Xd (e a b c d:AB) (f:Hp) (g h:IV):OH :=
 Ab [(a,b),(c,d)] e [] (AD (Al EE 28 1 [(0,g)]) 81789956 f fun i j k l=>Ab [(a,b),(c,d)] k l (AD (AK EE 81789957 false .append [28,28] [h,i]) 81789957 j fun m n o p=>Ab [] o p (Am [m] n)))
def S78 (q:Aa) (n:Nat) (f g:IV) (h:Hp):OH :=
 AS 81788928 g h fun i j _ _=>AD (Al EE 28 0 []) 81789952 j fun k l a b=>Ab [] a b (AD (AK EE 81789954 false .append [28,28] [k,f]) 81789954 l fun m c d e=>Ab [] d e (Ad 3 i c fun o p=>Xd p d e a b c o m))
theorem Aqq (a:Aa) (n:Nat) (b c:IV) (d:Hp):Ax EE a ft.get n 78 [b,c] d=S78 a n b c d:=by kernel_rfl
def Xp (a:Hp) (d b e:IV):OH :=
 Ad 3 d a fun f _=>Ae 3 b f a fun c _ _=>Ap true 3 b c fun g=>Am [g,e] c
def Wn (a:Aa) (b:Hp) (c:IV) (d:IV→Hp→OH):OH :=
 Ai [] false false a 25 [c] b fun e f _ _=>d e f
def S79 (e:Aa) (n:Nat) (f b:IV) (g:Hp):OH :=
 AS 82837504 f g fun c h _ _=>Ay 82837505 (.row [.fv (.int .i64 0),.fv (.int .i64 0),.nils] false) (.ptr (.own 82837505) 0) h fun i a _ _=>(fun (d:IV→Hp→OH)=>AQ EE 3 b (.fv (.int .i64 0)) fun j=>Aj j (Ad 3 c a fun k _=>Wn e a k d) (d b a)) fun l m=>Xp m c i l
theorem Ao6 (a:Aa) (n:Nat) (b c:IV) (d:Hp):Ax EE a ft.get n 79 [b,c] d=S79 a n b c d:=by kernel_rfl
def AfI (a:Hp) (b c:IV):OH :=
 Ac b true a (fun d=>leS EE 3 c (.fv (.int .i64 3000)) fun e=>d e a [] []) fun f g _ _=>AH b f (.fv (.bool false)) fun h=>Am [h] g
def Ahm (b:IV) (c:Hp):OH :=
 VX EE 3 b (.fv (.int .i64 0)) fun a=>Ac a true c (fun e=>e b c [] []) fun f d _ _=>Ac a true d (fun g=>leS EE 3 f (.fv (.int .i64 2)) fun h=>g h d [] []) fun i j _ _=>AH a i (.fv (.bool false)) fun k=>Am [k] j
def AfR (a:Hp) (b c:IV):OH :=
 Ac b true a (fun d=>leS EE 3 c (.fv (.int .i64 4)) fun e=>d e a [] []) fun f g _ _=>AH b f (.fv (.bool false)) fun h=>Am [h] g
def Agx (a:IV) (b:Hp):OH :=
 AQ EE 3 a (.fv (.int .i64 0)) fun c=>Am [c] b
def Ah3 (c b:IV) (a:Hp):OH :=
 AQ EE 3 c (.fv (.int .i64 26)) fun e=>Aj e (VX EE 3 b (.fv (.int .i64 0)) fun d=>Ac d true a (fun f=>f b a [] []) fun g h _ _=>AfR h d g) (AQ EE 3 c (.fv (.int .i64 25)) fun i=>Aj i (Am [.fv (.bool true)] a) (Agx b a))
def S80 (j:Aa) (n:Nat) (c a:IV) (b:Hp):OH :=
 AQ EE 3 c (.fv (.int .i64 1)) fun e=>Aj e (VX EE 3 a (.fv (.int .i64 0)) fun d=>Ac d true b (fun f=>f a b [] []) fun g h _ _=>AfI h d g) (AQ EE 3 c (.fv (.int .i64 2)) fun i=>Aj i (Ahm a b) (Ah3 c a b))
theorem Ar6 (a:Aa) (n:Nat) (b c:IV) (d:Hp):Ax EE a ft.get n 80 [b,c] d=S80 a n b c d:=by kernel_rfl
def Eh (c:Hp) (a:IV):OH :=
 BL [.fv (.int .i64 0),.fv (.int .i64 0),.nils] [] fun d=>Ae 3 a d c fun b _ _=>Ap true 3 a b fun e=>Am [e] b
def D0 (c:Aa) (d:Hp) (e a:IV):OH :=
 Ai [] false false c 29 [e] d fun f g _ _=>Ae 3 a f g fun b _ _=>Ap true 3 a b fun h=>Am [h] b
def DZ (b c:IV) (a:Hp) (d:Aa) (e:IV):OH :=
 Bd EE 3 b (.fv (.int .i64 1)) fun f=>AX c fun g=>Af 1 g fun h=>Ak h a fun i _=>Bd EE 3 f i fun j=>D0 d a j e
def Eg (h i:Hp) (a b c d e f g:IV) (j:List IV→Hp→OH):OH :=
 BB (h.own.map (·.1)) [84954117,84956171] [a,b,c,d,e,f,g] i fun k=>j [a,b,c,d,e,f,g] k
def Ej (b c:AB) (a:IV) (d:Hp) (e f:IV) (g:Hp) (h i j k l:IV) (m:List IV→Hp→OH):OH :=
 Ab [] b c (Af 2 a fun n=>B3 n e d fun o p q=>Ab [] p q (Bv EE 3 f (.fv (.int .i64 1)) fun r=>Eg g o h i j k l a r m))
def DP (c:Aa) (d:Hp) (a e f g:IV) (b:AB) (h i j:IV) (k:Hp) (l m n o:IV) (p:List IV→Hp→OH):OH :=
 Ai [true,false,false,false] false false c 81 [a,e,f,g] d fun q r s t=>Ab [(b,[])] s t (AD (Al EE 28 1 [(0,q)]) 84956170 r fun u v w x=>Ab [(b,[])] w x (AD (AK EE 84956171 false .append [28,28] [h,u]) 84956171 v fun y z A B=>Ej A B i z y j k a l m n o p))
def GD (a:IV) (b:Hp) (c f d:IV) (g:Aa) (h i j:IV) (k:Hp) (l m:IV) (n:List IV→Hp→OH):OH :=
 Af 2 a fun o=>Ak o b fun p e=>Ab [] e [] (Bv EE 3 c f fun q=>Bv EE 3 d (.fv (.int .i64 1)) fun r=>DP g b h i q r e p a j k l c d m n)
def D7 (l m:Hp) (a b c d e f g h i j k:IV) (n:List IV→Hp→OH):OH :=
 BB (l.own.map (·.1)) [84954117] [a,b,c,d,e,f,g,h,i,j,k] m fun o=>n [a,b,c,d,e,f,g,h,i,j,k] o
def D4 (b:IV) (c:Hp) (d:Aa) (e f:IV) (g:Hp) (h i j k l m n o p:IV) (q:List IV→Hp→OH):OH :=
 BL [.fv (.int .i64 0),.fv (.int .i64 0),.nils,.nils,.fv (.int .i64 0),.fv (.int .i64 0),.nils] [(0,1,.fv (.int .i64 1)),(1,1,b)] fun a=>fzS (NW true 84954117 a) 84954117 a c fun r s _ _=>AD (Al EE 129 1 [(0,r)]) 84954118 s fun t u _ _=>Ai [] false false d 109 [e,t] u fun v w _ _=>Bv EE 3 f (.fv (.int .i64 1)) fun x=>D7 g w h i j k l m n o p v x q
def DV (c:IV) (a:Hp) (d:Aa) (b e:IV) (f:IV→IV→IV→IV→IV→IV→IV→IV→IV→Hp→OH) (g h i j k l m:IV):OH :=
 Af 4 c fun n=>Ad 3 n a fun o _=>Ai [true,false,false] false false d 82 [b,o,e] a fun p q _ _=>f b g h i j k l m p q
def DU (n:List IV) (a b:IV) (d:Hp) (e:Aa) (f:IV) (o:Hp) (g h i j k l m:IV) (p:List IV→Hp→OH) (q:IV→IV→IV→IV→IV→IV→IV→IV→IV→Hp→OH):OH :=
 AF n fun c _=>GM EE 3 c a fun r=>Aj r (Bv EE 3 b c fun s=>D4 s d e f c o g h b i j k l a m p) (AX m fun t=>DV t d e g f q h b i j k l a)
def Ea (a:List IV) (b:IV) (c:Hp) (d:Aa) (e:Hp) (f g h i:IV) (j:List IV→Hp→OH) (k:IV→IV→IV→IV→IV→IV→IV→IV→IV→Hp→OH):OH :=
 AF a fun l m=>AF m fun n o=>AF o fun p q=>AF q fun r s=>AF s fun t u=>DU u p b c d t e f g h i l n r j k
def Gu (a:List IV) (b:Hp) (c:Aa) (d:Hp) (e:List IV→Hp→OH) (f:IV→IV→IV→IV→IV→IV→IV→IV→IV→Hp→OH):OH :=
 AF a fun g h=>AF h fun i j=>AF j fun k l=>AF l fun m n=>AF n fun o p=>Ea p k b c d g i m o e f
def Eb (a:Hp) (m:IV) (b:Hp) (c d e f g h i j k:IV) (n:Nat) (o:Aa) (p:IV→IV→IV→IV→IV→IV→IV→IV→IV→Hp→OH):OH :=
 Ak m a fun l _=>BB (b.own.map (·.1)) [84954117] [c,d,e,f,g,h,i,j,k,l,.fv (.int .i64 0)] a fun q=>Bh n (fun r s t=>Gu s t o b r p) [c,d,e,f,g,h,i,j,k,l,.fv (.int .i64 0)] q
def D9 (l a:IV) (b m:Hp) (c d e f g h i j:IV) (n:Nat) (o:Aa) (k:IV→IV→IV→IV→IV→IV→IV→IV→IV→Hp→OH):OH :=
 Aj l (AX a fun p=>Af 3 p fun q=>Eb b q m c d e f g h i j a n o k) (k c d e f g h i j a b)
def DR (a:Hp) (f b:IV) (c:Aa) (d:Hp) (g:List IV→Hp→OH) (e h i j k l m:IV) (n:Nat):OH :=
 Ak f a fun o _=>AP 1 o b fun p=>Ak p a fun q _=>(fun (r:IV→IV→IV→IV→IV→IV→IV→IV→IV→Hp→OH)=>K5 EE 3 e (.fv (.int .i64 0)) fun s=>D9 s q a d h i j k l m b e n c r) fun t u v w x y z A B C=>GD y C v A w c t B z d u x g
def DS (e:IV) (a:Hp) (b:Aa) (c d:IV) (f:Hp) (g:List IV→Hp→OH) (h i j k l:IV) (n:Nat):OH :=
 Af 0 e fun m=>Ak m a fun o _=>Ai [] false false b 48 [o,c] a fun p q _ _=>AX d fun r=>Af 2 r fun s=>DR q s c b f g p h d i j k l n
def DY (c:Hp) (a d:IV):OH :=
 Ae 3 a d c fun b _ _=>Ap true 3 a b fun e=>Am [e] b
def Ei (f b c:IV) (a:Hp) (g:Aa) (h:Hp) (i:List IV→Hp→OH) (j k l d e:IV) (n:Nat):OH :=
 Bz f fun m=>GM EE 3 b m fun o=>Aj o (AX c fun p=>DS p a g b c h i j k l d e n) (Ad 3 e a fun q _=>DY a d q)
def DW (c:List IV) (a:IV) (b:Hp) (d:Aa) (e:Hp) (f:List IV→Hp→OH) (g h i j:IV) (n:Nat):OH :=
 AF c fun k l=>AF l fun m _=>AX a fun o=>Af 2 o fun p=>Ak p b fun q _=>Ei q m a b d e f g h i j k n
def EI (a:List IV) (b:Hp) (c:Aa) (d:Hp) (e:List IV→Hp→OH) (n:Nat):OH :=
 AF a fun f g=>AF g fun h i=>AF i fun j k=>AF k fun l m=>AF m fun o p=>DW p h b c d e f j l o n
def D6 (h i j k:AB) (l:Hp) (a m:IV) (b:Hp) (c d e f g:IV) (n:Nat) (o:Aa):OH :=
 Ab [(j,[]),(k,[])] h i (Ae 3 a m l fun p q r=>Ab [] q r (BB (b.own.map (·.1)) [84954117,84956171] [c,d,e,f,g,a,.fv (.int .i64 0)] p fun s=>Bh n (fun t u v=>EI u v o b t n) [c,d,e,f,g,a,.fv (.int .i64 0)] s))
def Ek (d:IV) (a:Hp) (b:AB) (e:IV) (f:Hp) (g h i j k:IV) (n:Nat) (l:Aa):OH :=
 Af 1 d fun m=>Ak m a fun o c=>Ab [(b,[])] c [] (BL [.fv (.int .i64 0),.fv (.int .i64 0),.nils] [(0,1,e),(1,1,o)] fun p=>Ay 84942857 (.row [.fv (.int .i64 0),.fv (.int .i64 0),.nils] false) (.ptr (.own 84942857) 0) a fun q r s t=>D6 s t c b r q p f g h i j k n l)
def D3 (a:IV) (b d:Hp) (e f g h:IV) (n:Nat) (i:Aa):OH :=
 AX a fun j=>Af 0 j fun k=>Ak k b fun l c=>Ab [] c [] (AX a fun m=>Ek m b c l d e a f g h n i)
def D8 (a:IV) (b:Hp) (c:IV) (d:Aa) (e:IV) (f:Hp) (g h:IV) (n:Nat):OH :=
 AX a fun i=>Af 0 i fun j=>Ak j b fun k _=>AQ EE 3 k (.fv (.int .i64 1)) fun l=>Aj l (DZ c a b d e) (D3 a b f g c h e n d)
def Ec (b:IV) (a:Hp) (c d e:IV) (f:Aa) (g:Hp) (h:IV) (n:Nat):OH :=
 AX b fun i=>Af 2 i fun j=>Ak j a fun k _=>Cg EE 3 k (.fv (.int .i64 0)) fun l=>Aj l (Eh a c) (D8 d a e f c g b h n)
def Ee (a:IV) (b:Hp) (c:Hp→OH):OH :=
 Af 2 a fun d=>B3 d (.fv (.int .i64 5)) b fun e _ _=>c e
def DO (a:Hp) (b e f g:IV) (c:Hp→OH):OH :=
 Ac b true a (fun h=>AH e (.fv (.bool true)) f fun i=>h i a [] []) fun j d _ _=>AH b j (.fv (.bool false)) fun k=>Aj k (AX g fun l=>Ee l d c) (c d)
def DQ (b:Hp) (a h i j:IV) (k:Hp→OH):OH :=
 Ac a true b (fun l=>Ak h b fun m n=>l m b n []) fun o d _ _=>Ac a true d (fun p=>K5 EE 3 o (.fv (.int .i64 3000)) fun q=>p q d [] []) fun r e _ _=>Ac a true e (fun s=>s r e [] []) fun c f _ _=>Ac c false f (fun t=>t i f [] []) fun u g _ _=>Ac c false g (fun v=>K5 EE 3 u (.fv (.int .i64 120)) fun w=>v w g [] []) fun x y _ _=>DO y a c x j k
def D1 (b:Hp) (f c g:IV) (h:Hp→OH):OH :=
 Ak f b fun i _=>AQ EE 3 i (.fv (.int .i64 0)) fun a=>Ac a true b (fun j=>j c b [] []) fun k d _ _=>Ac a true d (fun l=>AX k fun m=>l m d [] []) fun n e _ _=>Ac a true e (fun o=>Af 1 n fun p=>o p e [] []) fun q r _ _=>DQ r a q g c h
def Ef (c:IV) (d:Hp) (e a f g h:IV) (i:Aa) (j:Hp) (b:IV) (n:Nat):OH :=
 Af 1 c fun k=>B3 k e d fun l _ _=>(fun (m:Hp→OH)=>AX a fun o=>Af 2 o fun p=>D1 l p a b m) fun q=>Ec a q f g h i j b n
def S81 (d:Aa) (n:Nat) (a e f g:IV) (b:Hp):OH :=
 Ay 84934656 (.row [.fv (.int .i64 0),.fv (.int .i64 0),.nils] false) (.ptr (.own 84934656) 0) b fun h c _ _=>AX a fun i=>Af 1 i fun j=>Ak j c fun k _=>Bv EE 3 k (.fv (.int .i64 1)) fun l=>AX a fun m=>Ef m c l a h e f d b g n
theorem Aqi (a:Aa) (n:Nat) (b c d e:IV) (f:Hp):Ax EE a ft.get n 81 [b,c,d,e] f=S81 a n b c d e f:=by kernel_rfl
def HL (a:Hp):OH :=
 BL [.fv (.int .i64 0),.fv (.int .i64 0),.nils,.nils,.fv (.int .i64 0),.fv (.int .i64 0),.nils] [(0,1,.fv (.int .i64 11))] fun b=>AS 85985281 b a fun c d _ _=>Am [c] d
def Im (a:Hp) (b:IV):OH :=
 Ak b a fun c _=>Am [c] a
def IH (b c:IV) (a:Hp) (d:IV):OH :=
 Bd EE 3 b (.fv (.int .i64 1)) fun e=>Af 1 c fun f=>Ak f a fun g _=>Bd EE 3 e g fun h=>AP 1 d h fun i=>Im a i
def HJ (a:Hp) (b:IV):OH :=
 AS 85989383 b a fun c d _ _=>Am [c] d
def HB (b c:IV) (a:Hp):OH :=
 Bd EE 3 b (.fv (.int .i64 1)) fun d=>Af 1 c fun e=>Ak e a fun f _=>Bd EE 3 d f fun g=>BL [.fv (.int .i64 0),.fv (.int .i64 0),.nils,.nils,.fv (.int .i64 0),.fv (.int .i64 0),.nils] [(0,1,.fv (.int .i64 1)),(1,1,g)] fun h=>HJ a h
def Iv (b:Hp) (d a c:IV):OH :=
 Ak d b fun e _=>Bz a fun f=>GM EE 3 e f fun g=>Aj g (Bz a fun h=>IH h c b a) (Bz a fun i=>HB i c b)
def If (f:IV) (g h:Hp) (a b c d:IV) (i:List IV→Hp→OH):OH :=
 Bv EE 3 f (.fv (.int .i64 1)) fun e=>BB (g.own.map (·.1)) [85995532,85995534,85996558] [a,b,c,d,e] h fun j=>i [a,b,c,d,e] j
def H0 (a:IV) (b:Hp) (c:IV) (d:Hp→OH):OH :=
 AX a fun e=>Af 2 e fun f=>B3 f c b fun g h i=>Ab [] h i (d g)
def HS (b c a:AB) (d:Hp) (e f g:IV) (h:Hp→OH):OH :=
 Ab [(a,[])] b c (AD (Al EE 129 1 [(0,e)]) 85995533 d fun i j k l=>Ab [(a,[])] k l (AD (AK EE 85995534 false .append [129,129] [f,i]) 85995534 j fun m n o p=>Ab [] o p (H0 g n m h)))
def Ic (c d:IV) (a:Hp) (b:AB) (e f g:IV) (h:Hp→OH):OH :=
 AP 3 c d fun i=>Ad 3 i a fun j k=>Ab [(b,[])] k [] (BL [.fv (.int .i64 0),.fv (.int .i64 0),.nils,.nils,.fv (.int .i64 0),.fv (.int .i64 0),.nils] [(3,1,e),(4,3,j)] fun l=>AS 85995532 l a fun m n o p=>HS o p b n m f g h)
def Ir (a:Hp) (c d e f g:IV) (h:Hp→OH):OH :=
 Ak c a fun i b=>Ab [] b [] (Af 2 d fun j=>Ak j a fun k l=>Ab [(b,[])] l [] (Ic k e a b f i g h))
def ID (a:IV) (b:Hp) (c:IV) (d:Hp→OH):OH :=
 Af 2 a fun e=>B3 e c b fun f g h=>Ab [] g h (d f)
def Hy (a:Hp) (b:IV) (c:AB) (d e:IV) (f:Hp→OH):OH :=
 AD (Al EE 129 1 [(0,b)]) 85996557 a fun g h i j=>Ab [(c,[])] i j (AD (AK EE 85996558 false .append [129,129] [d,g]) 85996558 h fun k l m n=>Ab [] m n (AX e fun o=>ID o l k f))
def IC (c d:IV) (b:Hp) (a:AB) (e:Aa) (f g h i:IV) (j:Hp→OH):OH :=
 AP 3 c d fun k=>Ad 3 k b fun l m=>Ab [(a,[])] m [] (Ai [true,false,false] false false e 82 [f,l,g] b fun n o p q=>Ab [(a,[])] p q (Hy o n a h i j))
def Hx (a:Hp) (c d e:IV) (f:Aa) (g h i:IV) (j:Hp→OH):OH :=
 Ak c a fun k b=>Ab [] b [] (Af 2 d fun l=>Ak l a fun m n=>Ab [(b,[])] n [] (IC m e a b f g h k i j))
def Ia (g a:IV) (b:Hp) (c d e:IV) (f:Hp→OH) (h:Aa) (i:IV):OH :=
 Aj g (AX a fun j=>Af 2 j fun k=>Ir b k c d e a f) (AX a fun l=>Af 2 l fun m=>Hx b m c d h i e a f)
def HI (a:IV) (h:Hp) (c d b e:IV) (i:List IV→Hp→OH) (f:Hp) (g:Aa):OH :=
 (fun (j:Hp→OH)=>Af 0 b fun k=>Ak k f fun l _=>Ai [] false false g 48 [l,a] f fun m n _ _=>K5 EE 3 m (.fv (.int .i64 0)) fun o=>Ia o e n b a d j g c) fun p=>If a h p c d b e i
def HG (a:Aa) (b:Hp) (c d:IV):OH :=
 Ai [true,false] false false a 110 [c,d] b fun e f _ _=>Am [e] f
def HH (b:IV) (a:Hp) (c:IV) (g:Hp) (d h e:IV) (i:List IV→Hp→OH) (f:Aa):OH :=
 Af 2 b fun j=>Ak j a fun k _=>Bz k fun l=>GM EE 3 c l fun m=>Aj m (HI c g d h b e i a f) (HG f a d e)
def XR (a:List IV) (b c:Hp) (d:List IV→Hp→OH) (e:Aa):OH :=
 AF a fun f g=>AF g fun h i=>AF i fun j k=>AF k fun l m=>AF m fun n _=>HH j b n c f h l d e
def H4 (a f:Hp) (b c d e:IV) (n:Nat) (g:Aa):OH :=
 BB (a.own.map (·.1)) [85995532,85995534,85996558] [b,c,d,e,.fv (.int .i64 0)] f fun h=>Bh n (fun i j k=>XR j k a i g) [b,c,d,e,.fv (.int .i64 0)] h
def IF (a:Hp) (c b:IV) (d:Hp) (e f:IV) (n:Nat) (g:Aa):OH :=
 Ak c a fun h _=>Af 1 b fun i=>Ak i a fun j _=>BL [.fv (.int .i64 0),.fv (.int .i64 0),.nils,.nils,.fv (.int .i64 0),.fv (.int .i64 0),.nils] [(0,1,h),(1,1,j)] fun k=>AS 85990405 k a fun l m _ _=>H4 d m e f b l n g
def Ie (a:IV) (b:Hp) (c:IV) (d:Hp) (e:IV) (n:Nat) (f:Aa):OH :=
 Af 0 a fun g=>Ak g b fun h _=>AQ EE 3 h (.fv (.int .i64 1)) fun i=>Aj i (Af 1 a fun j=>Iv b j c a) (Af 0 a fun k=>IF b k a d e c n f)
def S82 (d:Aa) (n:Nat) (b e f:IV) (c:Hp):OH :=
 AS 85983232 e c fun g a _ _=>AX b fun h=>Af 2 h fun i=>Ak i a fun j _=>Cg EE 3 j (.fv (.int .i64 0)) fun k=>Aj k (HL a) (Ie g a f c b n d)
theorem Ap7 (a:Aa) (n:Nat) (b c d:IV) (e:Hp):Ax EE a ft.get n 82 [b,c,d] e=S82 a n b c d e:=by kernel_rfl
end
end Idl
end Go.Proofs.Ytdibmackcbpniaa

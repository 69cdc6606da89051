/-
  Texts of a proof, part 8: an ideal semantics of the program, its functions in shallow form, contracts of them. No statement of the seat is proved here.
-/
import Derived.Test.YtkfecngimlcfoaaStageAllK7
set_option linter.all false
set_option maxRecDepth 20000
set_option maxHeartbeats 16000000
noncomputable section
set_option maxRecDepth 100000
set_option linter.unusedVariables false
namespace Go.Proofs.Ytkfecngimlcfoaa
namespace Idl
noncomputable section
abbrev OH:=Option (IV×Hp)
abbrev V:=IV
abbrev H:=Hp
abbrev O:=OH
@[reducible] def nw0 {β:Type} (s:Nat):=GY (β:=β) s (.row [.fv (.int .i64 0),.fv (.int .i64 0),.nils] false) (.ptr (.own s) 0)
@[reducible] def is0 {β:Type}:=@A0 β [] false false
abbrev bT:IV:=.fv (.bool true)
abbrev bF:IV:=.fv (.bool false)
abbrev LRf:=List Ref
abbrev iq (n:Int):IV:=.fv (.int .i64 n)
def AjC a b c d:=
 Aa b true a (fun e=>AF c bT d fun f=>e f a [] []) fun g h _ _=>AF b g bF fun i=>Al [i] h
def Amb e b h i j k l:=
 Aa b false e (fun m=>m h e [] []) fun a c _ _=>Aa a true c (fun n=>Ad 3 i c fun o p=>n o c p []) fun q d _ _=>Aa a true d (fun r=>Ad 3 j d fun s t=>r s d t []) fun u f _ _=>Aa a true f (fun v=>is0 k 17 [q,u] f v) fun w g _ _=>Aa b false g (fun x=>AF a w bF fun y=>x y g [] []) fun z A _ _=>AjC A l b z
def Ak6 c a d e j k:=
 Aa a true c (fun l=>l d c [] []) fun m f _ _=>Aa a true f (fun n=>is0 e 15 [m] f n) fun o g _ _=>Aa a true g (fun p=>p o g [] []) fun b h _ _=>Aa b false h (fun q=>q d h [] []) fun r i _ _=>Aa b false i (fun s=>AK EE 3 r (iq 0) fun t=>s t i [] []) fun u v _ _=>Amb v b u j k e a
def Ajg g b h d e i j:=
 AK EE 3 g (iq 0) fun a=>Aa a true b (fun k=>Ad 3 h b fun l m=>k l b m []) fun n c _ _=>Aa a true c (fun o=>Ad 3 d c fun p q=>o p c q []) fun r f _ _=>Aa a true f (fun s=>is0 e 17 [n,r] f s) fun t u _ _=>AF a t bF fun v=>Ak6 u v i e j d
def Aji a d e f g h:=
 is0 a 20 [.nils,iq 0,e] d fun b i _ _=>Aq 0 b fun j=>Aq 1 b fun k=>nw0 3159045 i fun c l _ _=>Ae 3 c j l fun m _ _=>Ajg f m g h a k c
def Ajf a d e f g:=
 Aq 0 a fun h=>Aq 1 a fun i=>nw0 3158021 d fun b j _ _=>Ae 3 b h j fun c _ _=>Ad 3 e c fun k _=>Aji f c k i b g
def Ajl d e a b c f:=
 AF d bT e fun g=>Ai g (Al [bF] a) (Ad 3 b a fun h _=>is0 c 19 [.nils,h] a fun i j _ _=>Ajf i j b c f)
def Akm c d i e f j:=
 Aa d false c (fun k=>CF (Kg .not i) fun l=>k l c [] []) fun m b _ _=>AF d bT m fun a=>Aa a false b (fun n=>Ad 3 e b fun o p=>n o b p []) fun q g _ _=>Aa a false g (fun r=>is0 f 18 [q] g r) fun s h _ _=>Aa a false h (fun t=>CF (Kg .not s) fun u=>t u h [] []) fun v w _ _=>Ajl a v w e f j
def AkA g b h i j e k:=
 Ae 3 b h g fun c _ _=>Ch EE 36 i (iq 0) fun a=>Aa a false c (fun l=>Ad 3 b c fun m n=>l m c n []) fun o d _ _=>Aa a false d (fun p=>Ad 3 j d fun q r=>p q d r []) fun s f _ _=>Aa a false f (fun t=>is0 e 17 [o,s] f t) fun u v _ _=>Akm v a u b e k
def AjH a d b e f:=
 Ad 3 d a fun g _=>is0 b 16 [g] a fun c h _ _=>Aq 0 c fun i=>Aq 1 c fun j=>nw0 3154949 h fun k l _ _=>AkA l k i j e b f
def Aly f b g c h i j:=
 CF (Kg .not f) fun a=>Aa a false b (fun k=>k g b [] []) fun l d _ _=>Aa a false d (fun m=>is0 c 15 [l] d m) fun n e _ _=>AF a bT n fun o=>Ai o (Al [bT] e) (AjH e h c i j)
def Amy a d e f g h:=
 is0 a 14 [e] d fun b i _ _=>Aq 0 b fun j=>Aq 1 b fun k=>nw0 3151877 i fun c l _ _=>Ae 3 c j l fun m _ _=>Aly f m k a g c h
def AjM d e f g h:=
 nw0 3150856 d fun b i _ _=>nw0 3150857 i fun a j _ _=>Ae 3 b e j fun k _ _=>Ae 3 a f k fun c _ _=>Ad 3 a c fun l _=>Amy g c l h a b
def AjN b c d e:=
 is0 b 13 [.nils,d,e,bT] c fun a f _ _=>Aq 0 a fun _=>Aq 1 a fun g=>Aq 2 a fun h=>Aq 3 a fun i=>AjM f g h b i
def Ajs b c a d e f:=
 AF b bT c fun g=>Ai g (Al [bT] a) (Ad 3 d a fun h _=>Ad 3 e a fun i _=>AjN f a h i)
def Ajr b g h d i:=
 is0 b 12 [h] g fun j c _ _=>CF (Kg .not j) fun a=>Aa a false c (fun k=>Ad 3 d c fun l m=>k l c m []) fun n e _ _=>Aa a false e (fun o=>is0 b 12 [n] e o) fun p f _ _=>Aa a false f (fun q=>CF (Kg .not p) fun r=>q r f [] []) fun s t _ _=>Ajs a s t i d b
def S3 (b:Aj) (n:Nat) (d e:V) (f:H):O :=
 AW 3145728 d f fun c g _ _=>AW 3145729 e g fun h i _ _=>is0 b 11 [] i fun j a _ _=>CF (Kg .not j) fun k=>Ai k (Al [bF] a) (Ad 3 c a fun l _=>Ajr b a l h c)
theorem AvM a n b c d:Au EE a ft.get n 3 [b,c] d=S3 a n b c d:=by kernel_rfl
def As2 c d a b e:=
 Ab [] c d (Aa b true a (fun f=>CF (Kg .not e) fun g=>f g a [] []) fun h i _ _=>AF b h bF fun j=>Al [j] i)
def Au3 e f g h b c:=
 Ab [] e f (AF g h bF fun a=>Aa a true b (fun i=>is0 c 24 [iq 10,.nils] b i) fun j d k l=>Ab [] k l (Aa a true d (fun m=>is0 c 18 [j] d m) fun n o p q=>As2 p q o a n))
def Asl b a h c:=
 Aa a true b (fun i=>Ad 3 h b fun j k=>i j b k []) fun l d e f=>Ab [] e f (Aa a true d (fun m=>is0 c 26 [iq 3] d m) fun n g o p=>Ab [(e,f)] o p (Aa a true g (fun q=>is0 c 17 [l,n] g q) fun r s t u=>Au3 t u a r s c))
def Auk a c d:=
 Aq 0 a fun e=>Aq 1 a fun f=>nw0 11535369 c fun b g _ _=>Ae 3 b e g fun h _ _=>AK EE 36 f (iq 0) fun i=>Asl h i b d
def S11 (a:Aj) (n:Nat) (b:H):O :=
 is0 a 26 [iq 3] b fun c d _ _=>Ay (Ak EE 28 1 [(0,c)]) 11535361 d fun e f _ _=>is0 a 24 [iq 19,e] f fun g h _ _=>Ay (Ak EE 28 1 [(0,g)]) 11535363 h fun i j _ _=>is0 a 24 [iq 30,i] j fun k l _ _=>is0 a 16 [k] l fun m o _ _=>Auk m o a
theorem AuM a n b:Au EE a ft.get n 11 [] b=S11 a n b:=by kernel_rfl
def S12 (b:Aj) (n:Nat) (c:V) (d:H):O :=
 AW 12582912 c d fun e a _ _=>Ad 3 e a fun f _=>is0 b 36 [f,iq 300] a fun g h _ _=>Hu EE 3 g (iq 300) fun i=>Al [i] h
theorem AuY a n b c:Au EE a ft.get n 12 [b] c=S12 a n b c:=by kernel_rfl
def Adt b c a d e f:=
 Ab [] b c (Ar true 3 d a fun g=>Ar true 3 e a fun h=>Al [f,g,h,bF] a)
def Aay c d e a f b g:=
 is0 c 26 [iq 0] d fun h i j k=>Ab [(e,[])] j k (Ae 3 a f i fun l m n=>Ab [] m n (Ae 3 b h l fun o p q=>Adt p q o a b g))
def Agu b c a d e f:=
 Ab [] b c (Ar true 3 d a fun g=>Ar true 3 e a fun h=>Al [f,g,h,bT] a)
def Acq a e f b g c h:=
 Ad 3 e a fun i d=>Ab [(f,[])] d [] (Ae 3 b g a fun j k l=>Ab [(d,[])] k l (Ae 3 c i j fun m n o=>Agu n o m b c h))
def Adz h i a b j c d e k:=
 AF h bT i fun l=>Ai l (Ad 3 b a fun m f=>Ab [] f [] (Aay j a f c m d e)) (Ad 3 b a fun n g=>Ab [] g [] (Acq a k g c n d e))
def AgX g b h i d j k l m:=
 Ae 3 b h g fun c _ _=>CF (Kg .not i) fun a=>Aa a false c (fun n=>Ad 3 b c fun o p=>n o c p []) fun q e _ _=>Aa a false e (fun r=>is0 d 35 [q] e r) fun s f _ _=>Aa a false f (fun t=>Ch EE 3 s (iq 0) fun u=>t u f [] []) fun v w _ _=>Adz a v w j d k l m b
def Aal a e b c f g h i:=
 Ad 3 e a fun j _=>is0 b 33 [c,f,j,iq 5] a fun d k _ _=>Aq 0 d fun l=>Aq 1 d fun m=>nw0 13635591 k fun n o _ _=>AgX o n l m b g h i c
def AaP b e c f g h i:=
 Ad 3 e b fun j _=>is0 c 28 [j,iq 2] b fun k l _ _=>nw0 13634562 l fun a m _ _=>Ae 3 a k m fun d _ _=>Ad 3 a d fun n _=>Aal d f c g n a h i
def AeL b c a d e f:=
 Ab [] b c (Ar true 3 d a fun g=>Ar true 3 e a fun h=>Al [f,g,h,bF] a)
def Acv c d e a f b g:=
 is0 c 24 [iq 11,.nils] d fun h i j k=>Ab [(e,[])] j k (Ae 3 a f i fun l m n=>Ab [] m n (Ae 3 b h l fun o p q=>AeL p q o a b g))
def AbV b c a d e f:=
 Ab [] b c (Ar true 3 d a fun g=>Ar true 3 e a fun h=>Al [f,g,h,bT] a)
def Aev a e f b g c h:=
 Ad 3 e a fun i d=>Ab [(f,[])] d [] (Ae 3 b g a fun j k l=>Ab [(d,[])] k l (Ae 3 c i j fun m n o=>AbV n o m b c h))
def AaR h i a b j c d e k:=
 AF h bT i fun l=>Ai l (Ad 3 b a fun m f=>Ab [] f [] (Acv j a f c m d e)) (Ad 3 b a fun n g=>Ab [] g [] (Aev a k g c n d e))
def AcC g b h i d j k l m:=
 Ae 3 b h g fun c _ _=>CF (Kg .not i) fun a=>Aa a false c (fun n=>Ad 3 b c fun o p=>n o c p []) fun q e _ _=>Aa a false e (fun r=>is0 d 35 [q] e r) fun s f _ _=>Aa a false f (fun t=>Ch EE 3 s (iq 0) fun u=>t u f [] []) fun v w _ _=>AaR a v w j d k l m b
def Ae6 a e b c f g h i:=
 Ad 3 e a fun j _=>is0 b 39 [c,f,j,iq 5] a fun d k _ _=>Aq 0 d fun l=>Aq 1 d fun m=>nw0 13640711 k fun n o _ _=>AcC o n l m b g h i c
def AeI b f c d g h i:=
 Ad 3 f b fun j _=>is0 c 38 [d,j,iq 2] b fun k l _ _=>nw0 13639683 l fun a m _ _=>Ae 3 a k m fun e _ _=>Ad 3 a e fun n _=>Ae6 e g c d n a h i
def S13 (a:Aj) (n:Nat) (h i j k:V) (l:H):O :=
 AW 13631488 i l fun b m _ _=>AW 13631489 j m fun c o _ _=>nw0 13631491 o fun d p _ _=>nw0 13631492 p fun e q _ _=>is0 a 37 [h] q fun f g _ _=>Ai k (AaP g c a b f d e) (AeI g c a f b d e)
theorem Ar8 a n b c d e f:Au EE a ft.get n 13 [b,c,d,e] f=S13 a n b c d e f:=by kernel_rfl
def V7 c a d e:=
 Ae 3 a d c fun b _ _=>Ar true 3 a b fun f=>Al [f,e] b
def WL c a d:=
 Ae 3 a d c fun b _ _=>Ar true 3 a b fun e=>Al [e,iq 0] b
def Wf e f b c:=
 nw0 14681093 e fun d g _ _=>Ae 3 d f g fun a _ _=>Ch EE 3 b (iq 0) fun h=>Ai h (By [iq 0,iq 0,.nils] [] fun i=>V7 a c i b) (Ad 3 d a fun j _=>WL a c j)
def S14 (c:Aj) (n:Nat) (d:V) (e:H):O :=
 AW 14680064 d e fun f g _ _=>nw0 14680065 g fun h a _ _=>Ad 3 f a fun i _=>is0 c 34 [i] a fun b j _ _=>Aq 0 b fun k=>Aq 1 b fun l=>Wf j k l h
theorem AuS a n b c:Au EE a ft.get n 14 [b] c=S14 a n b c:=by kernel_rfl
def S15 (l:Aj) (n:Nat) (b:V) (c:H):O :=
 AK EE 3 b (iq 17) fun a=>Aa a false c (fun e=>e b c [] []) fun f d _ _=>Aa a false d (fun g=>AK EE 3 f (iq 5) fun h=>g h d [] []) fun i j _ _=>AF a bT i fun k=>Al [k] j
theorem Auc a n b c:Au EE a ft.get n 15 [b] c=S15 a n b c:=by kernel_rfl
def AlD c a:=
 By [iq 0,iq 0,.nils] [] fun d=>Ae 3 a d c fun b _ _=>Ar true 3 a b fun e=>Al [e,iq 1] b
def Ai1 c a d e:=
 Ae 3 a d c fun b _ _=>Ar true 3 a b fun f=>Al [f,e] b
def Ajj c a d:=
 Ae 3 a d c fun b _ _=>Ar true 3 a b fun e=>Al [e,iq 10] b
def AiQ c a d:=
 Ae 3 a d c fun b _ _=>Ar true 3 a b fun e=>Al [e,iq 0] b
def Alo c d e b f:=
 is0 c 18 [e] d fun g a _ _=>CF (Kg .not g) fun h=>Ai h (By [iq 0,iq 0,.nils] [] fun i=>Ajj a b i) (Ad 3 f a fun j _=>AiQ a b j)
def Ajp e a f c d g:=
 Ae 3 a f e fun b _ _=>Ch EE 36 c (iq 0) fun h=>Ai h (By [iq 0,iq 0,.nils] [] fun i=>Ai1 b d i c) (Ad 3 a b fun j _=>Alo g b j d a)
def Ajt a d b e:=
 Ad 3 d a fun f _=>is0 b 41 [f] a fun c g _ _=>Aq 0 c fun h=>Aq 1 c fun i=>nw0 16780293 g fun j k _ _=>Ajp k j h i e b
def S16 (a:Aj) (n:Nat) (f:V) (g:H):O :=
 AW 16777216 f g fun b h _ _=>nw0 16777217 h fun c d _ _=>Ad 3 b d fun i _=>is0 a 40 [i] d fun j e _ _=>Ch EE 36 j (iq 0) fun k=>Ai k (AlD e c) (Ajt e b a c)
theorem Atx a n b c:Au EE a ft.get n 16 [b] c=S16 a n b c:=by kernel_rfl
def GP a (b:List V->H->O) c d e:=
 BD EE 3 a (iq 1) fun f=>b [d,e,f] c
def GK b c d e f g h i (j:List V->H->O) k l:=
 Ab [(c,[]),(d,[])] b [] (is0 e 17 [g,h] f fun m a n o=>Ab [] n o (CF (Kg .not m) fun p=>Ai p (Al [bF] a) (GP i j a k l)))
def GR b a c d e f g (h:List V->H->O) i:=
 Ac 2 b fun j=>Ah j a fun k l=>Ab [(c,[]),(d,[])] l [] (AN 3 k e fun m=>Ad 3 m a fun n o=>GK o c d f a g n e h i b)
def GC a e b f g (h:List V->H->O) i:=
 Ah e a fun j c=>Ab [] c [] (AN 3 j b fun k=>Ad 3 k a fun l d=>Ab [] d [] (GR f a d c b g l h i))
def Gt d a b c e f (g:List V->H->O):=
 B9 d fun h=>Hu EE 3 a h fun i=>Ai i (Ac 2 b fun j=>GC c j a e f g b) (Al [bT] c)
def Nz (c:List V) a d (e:List V->H->O):=
 AD c fun b f=>AD f fun g h=>AD h fun i _=>Ac 2 b fun j=>Ah j a fun k _=>Gt k i b a g d e
def GN b a n c d e:=
 Ai b (Al [bF] a) (BH n (fun f g h=>Nz g h e f) [c,d,iq 0] a)
def Gs c a d g n h i:=
 Aa a false c (fun j=>Ac 2 d fun k=>j k c [] []) fun l b _ _=>Aa a false b (fun m=>Ah l b fun o p=>m o b p []) fun q e _ _=>Aa a false e (fun r=>B9 q fun s=>r s e [] []) fun t f _ _=>Aa a false f (fun u=>Ch EE 3 g t fun v=>u v f [] []) fun w x _ _=>AF a bT w fun y=>GN y x n h d i
def GA c d h i e j n k:=
 Aa d false c (fun l=>Ch EE 3 h i fun m=>l m c [] []) fun o f _ _=>AF d bT o fun a=>Aa a false f (fun p=>Ac 2 e fun q=>p q f [] []) fun r b _ _=>Aa a false b (fun s=>Ah r b fun t u=>s t b u []) fun v g _ _=>Aa a false g (fun w=>B9 v fun x=>w x g [] []) fun y z _ _=>Gs z a j y n e k
def Gq h i d e f n j:=
 Ch EE 3 h i fun a=>Aa a false d (fun k=>Ac 1 e fun l=>k l d [] []) fun m b _ _=>Aa a false b (fun o=>Ah m b fun p q=>o p b q []) fun r g _ _=>Aa a false g (fun s=>Ac 1 f fun t=>s t g [] []) fun u c _ _=>Aa a false c (fun v=>Ah u c fun w x=>v w c x []) fun y z _ _=>GA z a r y e f n j
def S17 (d:Aj) (n:Nat) (e f:V) (g:H):O :=
 AW 17825792 e g fun b h _ _=>AW 17825793 f h fun c a _ _=>Ac 0 b fun i=>Ah i a fun j _=>Ac 0 c fun k=>Ah k a fun l _=>Gq j l a b c n d
theorem ArQ a n b c d:Au EE a ft.get n 17 [b,c] d=S17 a n b c d:=by kernel_rfl
def S18 (b:Aj) (n:Nat) (c:V) (d:H):O :=
 AW 18874368 c d fun e a _ _=>By [iq 0,iq 0] [(0,1,iq 20),(1,1,iq 29)] fun f=>Ad 3 e a fun g _=>is0 b 42 [f,g] a fun h i _ _=>Al [h] i
theorem AuI a n b c:Au EE a ft.get n 18 [b] c=S18 a n b c:=by kernel_rfl
def Wv c a d e:=
 Ae 3 a d c fun b _ _=>Ar true 3 a b fun f=>Al [f,e] b
def XP c a d:=
 Ae 3 a d c fun b _ _=>Ar true 3 a b fun e=>Al [e,iq 0] b
def WA e f b c:=
 nw0 19923974 e fun d g _ _=>Ae 3 d f g fun a _ _=>Ch EE 3 b (iq 0) fun h=>Ai h (By [iq 0,iq 0,.nils] [] fun i=>Wv a c i b) (Ad 3 d a fun j _=>XP a c j)
def S19 (c:Aj) (n:Nat) (d e:V) (f:H):O :=
 AW 19922944 e f fun g h _ _=>nw0 19922945 h fun i a _ _=>Ad 3 g a fun j _=>is0 c 43 [d,j] a fun b k _ _=>Aq 0 b fun l=>Aq 1 b fun m=>WA k l m i
theorem AtN a n b c d:Au EE a ft.get n 19 [b,c] d=S19 a n b c d:=by kernel_rfl
def Ahj d e a:=
 is0 d 44 [iq 8] e fun b f _ _=>Aq 0 b fun g=>Aq 1 b fun h=>Ae 3 a g f fun c _ _=>Ar true 3 a c fun i=>Al [i,h] c
def Aeb a d b:=
 Aq 0 a fun e=>Aq 1 a fun f=>Ae 3 b e d fun c _ _=>Ar true 3 b c fun g=>Al [g,f] c
def AcA d e f a:=
 is0 d 34 [f] e fun b g _ _=>Aq 0 b fun h=>Aq 1 b fun i=>Ae 3 a h g fun c _ _=>Ar true 3 a c fun j=>Al [j,i] c
def Aeg a c d b e:=
 Ad 3 c a fun f _=>Ac 1 d fun g=>Ah g a fun h _=>BD EE 3 h (iq 1) fun i=>is0 b 45 [f,i,iq 0] a fun j k _ _=>AcA b k j e
def AgO a d e b c f g:=
 Ah d a fun h _=>Ch EE 3 h e fun i=>Ai i (is0 b 44 [iq 10] a fun j k _ _=>Aeb j k c) (Ac 1 f fun l=>Aeg a l g b c)
def Y6 c d b e f g h:=
 AN 4 c d fun i=>Ad 4 i b fun j _=>GY 20975625 (.row [iq 0,iq 0,iq 0,.nils] false) (.ptr (.own 20975625) 0) b fun a k _ _=>Ae 4 a j k fun l _ _=>Ac 0 a fun m=>AgO l m e f g a h
def AaB a b c d e f:=
 B9 a fun g=>Bd EE 3 g (iq 1) fun h=>Ac 1 b fun i=>Ah i c fun j _=>Bd EE 3 h j fun k=>Y6 a k c d e f b
def Yv b a c d e f:=
 Ac 1 b fun g=>Ah g a fun h _=>B9 c fun i=>V4 EE 3 h i fun j=>Ai j (Ahj d a e) (AaB c b a f d e)
def Af6 c d a e:=
 Aq 1 c fun f=>Ae 3 a e d fun b _ _=>Ar true 3 a b fun g=>Al [g,f] b
def AdS a b c:=
 Ar true 3 b a fun d=>Al [d,c] a
def AgW a d e f b:=
 Ad 3 d a fun g _=>is0 e 46 [f,g] a fun c h _ _=>Aq 0 c fun i=>Aq 1 c fun j=>Ae 3 b i h fun k _ _=>AdS k b j
def Aa7 a d b:=
 Aq 0 a fun e=>Aq 1 a fun f=>Ae 3 b e d fun c _ _=>Ar true 3 b c fun g=>Al [g,f] c
def Abn a d e b:=
 Ah d a fun f _=>BD EE 3 f (iq 1) fun g=>is0 e 47 [g] a fun h i _ _=>Ae 3 b h i fun c _ _=>Ar true 3 b c fun j=>Al [j,iq 0] c
def AfY a d b c e:=
 Ah d a fun f _=>AK EE 3 f (iq 2) fun g=>Ai g (is0 b 44 [iq 13] a fun h i _ _=>Aa7 h i c) (Ac 1 e fun j=>Abn a j b c)
def Yz a b:=
 Ar true 3 b a fun c=>Al [c,iq 0] a
def Z3 c d a:=
 is0 c 24 [iq 10,.nils] d fun e f _ _=>Ae 3 a e f fun b _ _=>Ar true 3 a b fun g=>Al [g,iq 0] b
def Yl d e f a:=
 is0 d 44 [f] e fun b g _ _=>Aq 0 b fun h=>Aq 1 b fun i=>Ae 3 a h g fun c _ _=>Ar true 3 a c fun j=>Al [j,i] c
def AdG c d a:=
 is0 c 24 [iq 10,.nils] d fun e f _ _=>Ae 3 a e f fun b _ _=>Ar true 3 a b fun g=>Al [g,iq 0] b
def Ae4 e f g h a i j k l b:=
 Ab [(g,[]),(h,[])] e f (is0 a 48 [j,iq 1,k,l] i fun c d m n=>Ab [] m n (Ch EE 3 c (iq 0) fun o=>Ai o (Yl a d c b) (AdG a d b)))
def AeK a e b c f g:=
 Ab [] a [] (AN 3 e (iq 0) fun h=>Ad 3 h b fun i d=>Ab [] d [] (is0 c 24 [iq 10,.nils] b fun j k l m=>Ae4 l m d a c k f i j g))
def Aaa c d a e:=
 Aq 1 c fun f=>Ae 3 a e d fun b _ _=>Ar true 3 a b fun g=>Al [g,f] b
def AeS a b:=
 Ar true 3 b a fun c=>Al [c,iq 0] a
def Aax b c d a:=
 Ch EE 3 b (iq 0) fun f=>Ai f (is0 c 44 [b] d fun e g _ _=>Aq 0 e fun h=>Aaa e g a h) (is0 c 24 [iq 14,.nils] d fun i j _ _=>Ae 3 a i j fun k _ _=>AeS k a)
def AfU b a c d e f:=
 Ab [] b [] (is0 a 24 [iq 14,.nils] c fun g h i j=>Ab [(b,[])] i j (is0 a 49 [d,iq 1,e,g] h fun k l m n=>Ab [] m n (Aax k a l f)))
def Ad9 c d a e:=
 Aq 1 c fun f=>Ae 3 a e d fun b _ _=>Ar true 3 a b fun g=>Al [g,f] b
def YC a b:=
 Ar true 3 b a fun c=>Al [c,iq 0] a
def Agk b c d a:=
 Ch EE 3 b (iq 0) fun f=>Ai f (is0 c 44 [b] d fun e g _ _=>Aq 0 e fun h=>Ad9 e g a h) (is0 c 47 [iq 0] d fun i j _ _=>Ae 3 a i j fun k _ _=>YC k a)
def Abg b a c d e f g:=
 Ab [] b [] (is0 a 24 [iq 14,.nils] c fun h i j k=>Ab [(b,[]),(d,[])] j k (is0 a 48 [e,iq 1,f,h] i fun l m n o=>Ab [] n o (Agk l a m g)))
def YQ c a d e f:=
 Ac 2 c fun g=>Ah g a fun h b=>Ab [] b [] (AN 3 h (iq 0) fun i=>Ad 3 i a fun j k=>Abg k d a b e j f)
def Aez a d b:=
 Aq 0 a fun e=>Aq 1 a fun f=>Ae 3 b e d fun c _ _=>Ar true 3 b c fun g=>Al [g,f] c
def AdN c d e a:=
 Ay (Ak EE 28 1 [(0,d)]) 21015553 c fun f g _ _=>is0 e 24 [iq 18,f] g fun h i _ _=>Ae 3 a h i fun b _ _=>Ar true 3 a b fun j=>Al [j,iq 0] b
def ZZ f g b c d:=
 nw0 21012489 f fun e h _ _=>Ae 3 e g h fun a _ _=>Ch EE 3 b (iq 0) fun i=>Ai i (is0 c 44 [b] a fun j k _ _=>Aez j k d) (Ad 3 e a fun l _=>AdN a l c d)
def Afo d a b e f:=
 AN 3 d (iq 0) fun g=>Ad 3 g a fun h _=>is0 b 20 [e,iq 0,h] a fun c i _ _=>Aq 0 c fun j=>Aq 1 c fun k=>ZZ i j k b f
def AgK a d b:=
 Aq 0 a fun e=>Aq 1 a fun f=>Ae 3 b e d fun c _ _=>Ar true 3 b c fun g=>Al [g,f] c
def AaQ f b a c d e:=
 AK EE 3 f (iq 19) fun g=>Ai g (Ac 2 b fun h=>Ah h a fun i _=>Afo i a c d e) (Ad 3 b a fun j _=>is0 c 50 [d,j] a fun k l _ _=>AgK k l e)
def AdH g b a c d e f:=
 Ai g (Ac 2 b fun h=>Ah h a fun i j=>AfU j c a d i e) (AK EE 3 f (iq 18) fun k=>Ai k (YQ b a c d e) (AaQ f b a c d e))
def Aap a (b:V->H->O) c:=
 AK EE 3 a (iq 17) fun d=>b d c
def AgM c (a:V->H->O) b d:=
 Ai c (a c b) (AK EE 3 d (iq 16) fun e=>Ai e (a e b) (Aap d a b))
def Afr a c b d e f:=
 AK EE 3 a (iq 12) fun g=>Ai g (Ac 2 c fun h=>Ah h b fun i j=>AeK j i b d e f) ((fun (k:V->H->O)=>AK EE 3 a (iq 15) fun l=>AgM l k b a) fun m n=>AdH m c n d e f a)
def Afs e b c a d f g:=
 Ai e (is0 b 47 [iq 0] c fun h i _ _=>Ae 3 a h i fun j _ _=>Yz j a) (AK EE 3 d (iq 11) fun k=>Ai k (Z3 b c a) (Afr d f c b g a))
def AgB a (b:V->H->O) c:=
 AK EE 3 a (iq 10) fun d=>Ai d (b d c) (AK EE 3 a (iq 14) fun e=>b e c)
def Z1 a b d e f:=
 Ac 0 a fun g=>Ah g b fun c _=>AK EE 3 c (iq 2) fun h=>Ai h (Ac 1 a fun i=>AfY b i d e a) ((fun (j:V->H->O)=>AgB c j b) fun k l=>Afs k d l e c a f)
def AeT g a b c h d e:=
 Ai g (is0 a 44 [iq 10] b fun f i _ _=>Aq 0 f fun j=>Af6 f i c j) (AK EE 3 h (iq 0) fun k=>Ai k (AgW b d a e c) (Z1 d b a c e))
def Agb a b c d e f:=
 Ac 0 a fun g=>Ah g b fun h _=>V4 EE 3 h (iq 20) fun i=>AK EE 3 c (iq 0) fun j=>Ch EE 4 i j fun k=>AeT k d b e c a f
def S20 (c:Aj) (n:Nat) (d e g:V) (h:H):O :=
 AW 20971520 g h fun a i _ _=>nw0 20971521 i fun f b _ _=>Ac 0 a fun j=>Ah j b fun k _=>AK EE 3 k (iq 1) fun l=>Ai l (Yv a b d c f e) (Agb a b e c f d)
theorem AsO a n b c d e:Au EE a ft.get n 20 [b,c,d] e=S20 a n b c d e:=by kernel_rfl
def S24 (i:Aj) (n:Nat) (c d:V) (e:H):O :=
 nw0 25165824 e fun a f _ _=>By [iq 0,iq 0,.nils] [(0,1,c),(2,1,d)] fun g=>Ae 3 a g f fun b _ _=>Ar true 3 a b fun h=>Al [h] b
theorem AuF a n b c d:Au EE a ft.get n 24 [b,c] d=S24 a n b c d:=by kernel_rfl
def S25 (h:Aj) (n:Nat) (c:V) (d:H):O :=
 nw0 26214400 d fun a e _ _=>By [iq 0,iq 0,.nils] [(0,1,iq 1),(1,1,c)] fun f=>Ae 3 a f e fun b _ _=>Ar true 3 a b fun g=>Al [g] b
theorem Aut a n b c:Au EE a ft.get n 25 [b] c=S25 a n b c:=by kernel_rfl
def S26 (h:Aj) (n:Nat) (c:V) (d:H):O :=
 nw0 27262976 d fun a e _ _=>By [iq 0,iq 0,.nils] [(0,1,iq 25),(1,1,c)] fun f=>Ae 3 a f e fun b _ _=>Ar true 3 a b fun g=>Al [g] b
theorem Asp a n b c:Au EE a ft.get n 26 [b] c=S26 a n b c:=by kernel_rfl
def Rq b c d a e (f:List V->H->O) g h:=
 is0 b 24 [iq 12,d] c fun i j _ _=>Ae 3 a i j fun k _ _=>BD EE 3 e (iq 1) fun l=>f [g,h,a,l] k
def RM a b:=
 Ar true 3 b a fun c=>Al [c] a
def Tj d a b e f (g:List V->H->O) h c:=
 Ai d (Ad 3 b a fun i _=>Ay (Ak EE 28 1 [(0,i)]) 28316673 a fun j k _ _=>Rq e k j b f g h c) (Ad 3 b a fun l _=>Ae 3 c l a fun m _ _=>RM m c)
def XS (c:List V) d e (f:List V->H->O):=
 AD c fun a g=>AD g fun h i=>AD i fun j k=>AD k fun b _=>Hu EE 3 b a fun l=>Tj l d j e b f a h
def S27 (a:Aj) (n:Nat) (c:V) (d:H):O :=
 nw0 28311552 d fun e f _ _=>is0 a 24 [iq 11,.nils] f fun g h _ _=>nw0 28312577 h fun b i _ _=>Ae 3 b g i fun j _ _=>BH n (fun k l m=>XS l m a k) [c,e,b,iq 0] j
theorem Atr a n b c:Au EE a ft.get n 27 [b] c=S27 a n b c:=by kernel_rfl
def Rx c a d:=
 Ae 3 a d c fun b _ _=>Ar true 3 a b fun e=>Al [e] b
def Sw b c a d:=
 Ab [] b c (Ar true 3 d a fun e=>Al [e] a)
def Rk b c d e f a:=
 Ay (Ak EE 28 2 [(0,c),(1,d)]) 29364237 b fun g h i j=>Ab [] i j (is0 e 24 [f,g] h fun k l m n=>Ab [] m n (Ae 3 a k l fun o p q=>Sw p q o a))
def TE a b c d e f g:=
 is0 a 56 [c,iq 1] b fun h i j k=>Ab [] j k (Bd EE 3 d (iq 1) fun l=>is0 a 28 [h,l] i fun m n o p=>Ab [] o p (Rk n e m a f g))
def SC a b f g h i j k l m:=
 Bd EE 3 a (iq 1) fun n=>is0 b 28 [g,n] f fun o c d e=>Ab [] d e (Ad 3 h c fun p q=>Ab [(d,e),(i,j),(k,[])] q [] (TE b c p a o l m))
def SY g a b c h i:=
 Bd EE 3 g (iq 2) fun j=>Ad 3 b a fun k d=>Ab [] d [] (is0 c 56 [k,iq 0] a fun l m e f=>Ab [] e f (SC h c m l b e f d j i))
def Tx b a c d e h i:=
 Aa a false b (fun j=>j c b [] []) fun k f _ _=>Aa a false f (fun l=>Hu EE 3 k (iq 2) fun m=>l m f [] []) fun n g _ _=>AF a bT n fun o=>Ai o (is0 d 24 [iq 15,.nils] g fun p q _ _=>Rx q e p) (BD EE 3 (iq 16) c fun r=>SY r g h d i e)
def S28 (a:Aj) (n:Nat) (e b:V) (f:H):O :=
 AW 29360128 e f fun c g _ _=>nw0 29360129 g fun h d _ _=>Ac 1 c fun i=>Ah i d fun j _=>is0 a 55 [j,iq 4] d fun k l _ _=>leS EE 3 b (iq 0) fun m=>Tx l m k a h c b
theorem At0 a n b c d:Au EE a ft.get n 28 [b,c] d=S28 a n b c d:=by kernel_rfl
def Is a (b:List V->H->O) c d:=
 BD EE 3 a (iq 1) fun e=>b [d,e] c
def IB d a b e (f:List V->H->O) g:=
 AN 3 d a fun h=>Ad 3 h b fun i _=>is0 e 29 [i] b fun j c _ _=>CF (Kg .not j) fun k=>Ai k (Al [bF] c) (Is a f c g)
def Ij b d c a e (f:List V->H->O):=
 Hu EE 3 b d fun g=>Ai g (Ac 2 c fun h=>Ah h a fun i _=>IB i b a e f c) (Al [bT] a)
def L2 (c:List V) a d (e:List V->H->O):=
 AD c fun b f=>AD f fun g _=>Ac 2 b fun h=>Ah h a fun i _=>B9 i fun j=>Ij g j b a d e
def Ig b c a n d e:=
 AF b c bF fun f=>Ai f (Al [bF] a) (BH n (fun g h i=>L2 h i e g) [d,iq 0] a)
def H9 c d h e n i:=
 Aa d true c (fun j=>Ch EE 3 h (iq 16) fun k=>j k c [] []) fun l f _ _=>AF d l bF fun a=>Aa a true f (fun m=>Ac 0 e fun o=>m o f [] []) fun p b _ _=>Aa a true b (fun q=>Ah p b fun r s=>q r b s []) fun t g _ _=>Aa a true g (fun u=>Ch EE 3 t (iq 17) fun v=>u v g [] []) fun w x _ _=>Ig a w x n e i
def S29 (e:Aj) (n:Nat) (f:V) (g:H):O :=
 AW 30408704 f g fun a b _ _=>Ac 0 a fun h=>Ah h b fun i _=>Ch EE 3 i (iq 15) fun c=>Aa c true b (fun j=>Ac 0 a fun k=>j k b [] []) fun l d _ _=>Aa c true d (fun m=>Ah l d fun o p=>m o d p []) fun q r _ _=>H9 r c q a n e
theorem AtU a n b c:Au EE a ft.get n 29 [b] c=S29 a n b c:=by kernel_rfl
def Adw c a d:=
 Ae 3 a d c fun b _ _=>Ar true 3 a b fun e=>Al [e,bF] b
def Y7 a b c:=
 Ar true 3 b a fun d=>Al [d,c] a
def Afq c a d e:=
 Ae 3 a d c fun b _ _=>Ar true 3 a b fun f=>Al [f,e] b
def AaO a c d e f g h:=
 Ad 3 c a fun i _=>Ad 3 d a fun j _=>is0 e 59 [f,i,j,g] a fun b k _ _=>Aq 0 b fun l=>Aq 1 b fun m=>Afq k h l m
def YH a b e c f:=
 Aa b true a (fun g=>g e a [] []) fun h i _ _=>AF b h bF fun j=>Ae 3 c f i fun d k l=>Ab [] k l (Ar true 3 c d fun m=>Al [m,j] d)
def Yc a e f b c d g h i j k:=
 Ad 3 e a fun l m=>Ab [(f,[]),(b,c),(d,[])] m [] (Ay (Ak EE 28 2 [(0,g),(1,l)]) 34617349 a fun n o p q=>Ab [(b,c),(d,[])] p q (By [iq 0,iq 0,.nils] [(0,1,iq 26),(1,1,h),(2,1,n)] fun r=>YH o i j k r))
def Aaw a f g h i j k l m:=
 Ab [] a [] (is0 f 55 [h,iq 5] g fun n d b c=>Ab [] b c (Ad 3 i d fun o e=>Ab [(b,c),(a,[])] e [] (Yc d j e b c a o n k l m)))
def Aba c d e f g h i j k a l m n o p q r:=
 Ab [(e,f),(g,h),(i,[]),(j,[])] c d (Ae 3 a l k fun b s t=>Ab [] s t (Ac 1 m fun u=>Ah u b fun v w=>Aaw w n b v o a p q r))
def Yq a e f g h i j k l m n o p q:=
 is0 a 33 [f,g,h,i] e fun b r c d=>Ab [] c d (Aq 0 b fun s=>Aq 1 b fun t=>nw0 34616330 r fun u v w x=>Aba w x c d j k l m v u s n a o p t q)
def AcF b c a d h i j k l m:=
 Ad 3 c b fun n e=>Ab [(a,[])] e [] (is0 d 56 [n,iq 1] b fun o p f g=>Ab [(a,[])] f g (Bd EE 3 h (iq 1) fun q=>Yq d p i j o q f g e a c k l m))
def YR d e f g h i j k l a m n o p q r s t:=
 Ab [(f,g),(h,i),(j,[]),(k,[])] d e (Ae 3 a m l fun b u v=>Ab [] u v (Ad 3 n b fun w c=>Ab [] c [] (AcF b o c p q r w a s t)))
def ZS a f b g h i j k l m n o p q:=
 is0 a 33 [b,g,h,i] f fun c r d e=>Ab [] d e (Aq 0 c fun s=>Aq 1 c fun t=>nw0 34615306 r fun u v w x=>YR w x d e j k l m v u s n o a p b t q)
def Abt b c a d e i j k l:=
 Ad 3 c b fun m f=>Ab [(a,[])] f [] (is0 d 56 [m,iq 0] b fun n o g h=>Ab [(a,[])] g h (Bd EE 3 e (iq 1) fun p=>ZS d o i j n p g h f a k c e l))
def Adr a d e b:=
 is0 a 55 [e,iq 20] d fun f g _ _=>Bd EE 3 f (iq 5) fun h=>is0 a 26 [h] g fun i j _ _=>Ae 3 b i j fun c _ _=>Ar true 3 b c fun k=>Al [k,bT] c
def Afe g a b c d h i e:=
 Ai g (Ad 3 b a fun j f=>Ab [] f [] (Abt a c f d h i j b e)) (Ac 1 c fun k=>Ah k a fun l _=>Adr d a l e)
def YM c a d e h i j k:=
 Aa a true c (fun l=>Ac 0 d fun m=>l m c [] []) fun n b _ _=>Aa a true b (fun o=>Ah n b fun p q=>o p b q []) fun r f _ _=>Aa a true f (fun s=>is0 e 55 [r,iq 2] f s) fun t g _ _=>Aa a true g (fun u=>AK EE 3 t (iq 1) fun v=>u v g [] []) fun w x _ _=>AF a w bF fun y=>Afe y x h d e i j k
def AeR b c a d e:=
 Ab [] b c (Ar true 3 d a fun f=>Al [f,e] a)
def Afu b c d e a f:=
 Ay (Ak EE 28 2 [(0,c),(1,d)]) 34621445 b fun g h i j=>Ab [] i j (is0 e 24 [iq 20,g] h fun k l m n=>Ab [] m n (Ae 3 a k l fun o p q=>AeR p q o a f))
def Agf c a d e f g h:=
 AN 3 c (iq 0) fun i=>Ad 3 i a fun j b=>Ab [] b [] (Ad 3 d a fun k l=>Ab [(b,[]),(e,[])] l [] (Afu a j k f g h))
def Zg d a e f g h i:=
 Ae 3 a e d fun b j k=>Ab [] j k (Ac 2 f fun l=>Ah l b fun m c=>Ab [] c [] (Agf m b a c g h i))
def Ad3 a b c d e f g h i j k l m n o p q r:=
 Ab [] a b (Aq 0 c fun s=>Aq 1 c fun t=>nw0 34620435 d fun u v w x=>Ab [(a,b),(e,f),(g,[]),(h,i),(j,[]),(k,[]),(l,m),(n,[]),(o,[])] w x (Zg v u s p q r t))
def AdD b c d e f g h i j a m n o p q r s:=
 Ab [(c,d),(e,[]),(f,[]),(g,h),(i,[]),(j,[])] b [] (is0 a 56 [n,iq 0] m fun t u k l=>Ab [] k l (Bd EE 3 o (iq 1) fun v=>is0 a 33 [p,q,t,v] u fun w x y z=>Ad3 y z w x k l b c d e f g h i j r a s))
def ZF a k b c d e f l m n o p q:=
 Ad 3 k a fun r g=>Ab [(b,c),(d,[]),(e,[])] g [] (is0 f 45 [r,iq 1,iq 0] a fun s h i j=>Ab [] i j (Ad 3 l h fun t u=>AdD u i j g m b c d e f h t n o s p q))
def ZC a b c d e f h i j k l:=
 Ab [] a b (Ac 2 c fun m=>Ah m d fun n g=>Ab [(a,b),(e,[]),(f,[])] g [] (AN 3 n (iq 1) fun o=>ZF d o a b e f h i g j k c l))
def Aaj a e b c f g h i j:=
 Ab [] a [] (AN 3 e (iq 0) fun k=>Ad 3 k b fun l d=>Ab [] d [] (is0 c 60 [f,iq 0,l] b fun m n o p=>ZC o p g n d a c h i m j))
def Aga a b c:=
 Ar true 3 b a fun d=>Al [d,c] a
def Zk d e f g a h b:=
 Ay (Ak EE 28 2 [(0,e),(1,f)]) 34625538 d fun i j _ _=>is0 g 24 [iq 22,i] j fun k c _ _=>Aa a true c (fun l=>l h c [] []) fun m n _ _=>AF a m bF fun o=>Ae 3 b k n fun p _ _=>Aga p b o
def Abq c d e f g h i j k l b m n o p q r:=
 Ab [(e,f),(g,h),(i,[]),(j,[]),(k,[])] c d (Ae 3 b m l fun a s t=>Ab [] s t (Ad 3 n a fun u _=>Ad 3 b a fun v _=>Zk a u v o p q r))
def Adj a e f g h i j k l m n o p q:=
 is0 a 33 [f,g,h,i] e fun b r c d=>Ab [] c d (Aq 0 b fun s=>Aq 1 b fun t=>nw0 34624525 r fun u v w x=>Abq w x c d j k l m n v u s o a p t q)
def AgF c h a b d i j k l m n:=
 Ad 3 h c fun o e=>Ab [(a,[]),(b,[])] e [] (is0 d 56 [o,iq 1] c fun p q f g=>Ab [(a,[]),(b,[])] f g (Bd EE 3 i (iq 1) fun r=>Adj d q j k p r f g e a b l m n))
def Afy a d e f g h i j k:=
 Ah d a fun l b=>Ab [] b [] (AN 3 l (iq 1) fun m=>Ad 3 m a fun n c=>Ab [] c [] (AgF a e c b f g h n i j k))
def AcL b c d e f g h i j k l m n o p q:=
 nw0 34623501 b fun a r s t=>Ab [(c,d),(e,f),(g,[]),(h,[]),(i,[])] s t (Ae 3 a j r fun u v w=>Ab [] v w (Ac 2 k fun x=>Afy u x l m n o a p q))
def AbM a b g c h i j k l m n o p q:=
 Bd EE 3 a (iq 1) fun r=>is0 b 33 [c,h,i,r] g fun d s e f=>Ab [] e f (Aq 0 d fun t=>Aq 1 d fun u=>AcL s e f j k l m n t o p b a c u q)
def Yh a c d b e i j k l m:=
 Ab [] a [] (Ad 3 d c fun n f=>Ab [(a,[]),(b,[])] f [] (is0 e 56 [n,iq 0] c fun o p g h=>Ab [(a,[]),(b,[])] g h (AbM i e p j k o g h f a b l d m)))
def AgT b a d e f g h:=
 Ac 2 b fun i=>Ah i a fun j c=>Ab [] c [] (AN 3 j (iq 0) fun k=>Ad 3 k a fun l m=>Yh m a d c e f g l b h)
def Y9 a d b e:=
 Ad 3 d a fun f _=>Ae 3 b f a fun c _ _=>Ar true 3 b c fun g=>Al [g,e] c
def Abh h b a d e f g c i j k:=
 Ai h (Ac 2 b fun l=>Ah l a fun m n=>Aaj n m a d e b f g c) (AK EE 3 i (iq 17) fun o=>Ai o (AgT b a f d g e c) (Y9 a j c k))
def Afc a b c e f g h i j:=
 Ac 0 a fun k=>Ah k b fun d _=>AK EE 3 d (iq 15) fun l=>Ai l (LU EE 3 c (iq 0) fun m=>YM b m e f a c g h) (AK EE 3 d (iq 16) fun n=>Abh n a b f g e c h d i j)
def Acr b a l c d e f g h m n:=
 Aa a true b (fun o=>Ah l b fun p q=>o p b q []) fun r i _ _=>Aa a true i (fun s=>is0 c 55 [r,iq 3] i s) fun t j _ _=>Aa a true j (fun u=>AK EE 3 t (iq 1) fun v=>u v j [] []) fun w k _ _=>AF a w bF fun x=>Ai x (AaO k d e c f g h) (Afc d k g e c f h m n)
def Aam h a c b d e f i j k:=
 Ai h (Ad 3 c a fun l _=>Ae 3 b l a fun m _ _=>Y7 m b d) (LU EE 3 e (iq 0) fun g=>Aa g true a (fun n=>Ac 0 f fun o=>n o a [] []) fun p q _ _=>Acr q g p i j f k e b c d)
def Zn c a g d h i j k l m:=
 Aa a true c (fun n=>AK EE 3 g (iq 0) fun o=>n o c [] []) fun p e _ _=>AF a p bF fun b=>Aa b false e (fun q=>q d e [] []) fun r f _ _=>Aa b false f (fun s=>Hu EE 3 r (.fv (.int .i64 (-4))) fun t=>s t f [] []) fun u v _ _=>AF b bT u fun w=>Aam w v h i a d j k l m
def Ab4 h i a c d j k l m:=
 nw0 34607112 h fun e n _ _=>Ae 3 e i n fun f _ _=>Aa a true f (fun o=>Ac 0 c fun p=>o p f [] []) fun q b _ _=>Aa a true b (fun r=>Ah q b fun s t=>r s b t []) fun u g _ _=>Aa a true g (fun v=>is0 d 55 [u,iq 3] g v) fun w x _ _=>Zn x a w j e k c d l m
def X4 a b c d f g h i:=
 Ac 1 a fun j=>Ah j b fun k _=>is0 c 58 [d,iq 0,f,k] b fun e l _ _=>Aq 0 e fun m=>Aq 1 e fun n=>Ab4 l m n a c g h i d
def AdK d e a f c g h i j:=
 Aq 1 d fun k=>Ae 3 a f e fun b _ _=>Ch EE 3 k (iq 0) fun l=>Ai l (By [iq 0,iq 0,.nils] [] fun m=>Adw b c m) (Ad 3 a b fun n _=>X4 g b h i n j c a)
def S33 (a:Aj) (n:Nat) (e f g h:V) (i:H):O :=
 AW 34603008 f i fun b j _ _=>AW 34603009 g j fun k l _ _=>nw0 34603010 l fun m c _ _=>Ad 3 b c fun o _=>is0 a 34 [o] c fun d p _ _=>Aq 0 d fun q=>AdK d p b q m k a e h
theorem AtV a n b c d e f:Au EE a ft.get n 33 [b,c,d,e] f=S33 a n b c d e f:=by kernel_rfl
def Xu b c d a e f:=
 Ab [(d,[])] b c (Ar true 3 e a fun g=>Al [g,f] a)
def XR d a b e:=
 AH d fun f=>Ac 2 f fun g=>Ah g a fun h c=>Ab [] c [] (Ae 3 b e a fun i j k=>Xu j k c i b h)
def WX c a d:=
 Ae 3 a d c fun b _ _=>Ar true 3 a b fun e=>Al [e,iq 0] b
def Xv a c d b e:=
 Ah c a fun f _=>Ch EE 3 f (iq 0) fun g=>Ai g (By [iq 0,iq 0,.nils] [] fun h=>XR d a b h) (Ad 3 e a fun i _=>WX a b i)
def WZ c d a e f:=
 A0 [true,false,false,false] false false c 61 [a,e,iq 0,iq 1] d fun g h _ _=>nw0 35653637 h fun b i _ _=>Ae 3 b g i fun j _ _=>AH a fun k=>Ac 2 k fun l=>Xv j l a f b
def S34 (a:Aj) (n:Nat) (d:V) (e:H):O :=
 AW 35651584 d e fun f g _ _=>nw0 35651585 g fun h i _ _=>By [iq 0,iq 0,iq 0] [] fun j=>AW 35652609 j i fun b c _ _=>Ad 3 f c fun k _=>A0 [true,false,false] false false a 62 [b,k,.nils] c fun l m _ _=>WZ a m b l h
theorem AsN a n b c:Au EE a ft.get n 34 [b] c=S34 a n b c:=by kernel_rfl
def Ak2 b a:=
 Ac 1 b fun c=>Ah c a fun d _=>Al [d] a
def S35 (c:Aj) (n:Nat) (d:V) (e:H):O :=
 AW 36700160 d e fun f g _ _=>By [iq 0,iq 0] [] fun h=>AW 36701185 h g fun a b _ _=>Ad 3 f b fun i _=>A0 [true,false,false] false false c 63 [a,i,iq 1] b fun _ j _ _=>AH a fun k=>Ak2 k j
theorem AtW a n b c:Au EE a ft.get n 35 [b] c=S35 a n b c:=by kernel_rfl
def Po a b c (d:List V->H->O) e f g:=
 BD EE 3 a b fun h=>BD EE 3 c (iq 1) fun i=>d [f,g,h,i] e
def OK a e b c d f (g:List V->H->O) h:=
 Ah e a fun i _=>AN 3 i b fun j=>Ad 3 j a fun k _=>Bd EE 3 c d fun l=>is0 f 36 [k,l] a fun m n _ _=>Po d m b g n c h
def Pv a b f g c h i d j (k:List V->H->O):=
 Aa b true a (fun l=>Hu EE 3 f g fun m=>l m a [] []) fun n e _ _=>AF b n bF fun o=>Ai o (Ac 2 c fun p=>OK e p h i d j k c) (Al [d] e)
def Ou a g c d e h i (j:List V->H->O):=
 Ah g a fun k _=>B9 k fun l=>Hu EE 3 c l fun b=>Aa b true a (fun m=>m d a [] []) fun n f _ _=>Aa b true f (fun o=>o e f [] []) fun p q _ _=>Pv q b n p h c e d i j
def TJ (b:List V) c d (e:List V->H->O):=
 AD b fun f g=>AD g fun a h=>AD h fun i j=>AD j fun k _=>Ac 2 a fun l=>Ou c l k i f a d e
def S36 (a:Aj) (n:Nat) (b c:V) (d:H):O :=
 AW 37748736 b d fun e f _ _=>BH n (fun g h i=>TJ h i a g) [c,e,iq 1,iq 0] f
theorem AsG a n b c d:Au EE a ft.get n 36 [b,c] d=S36 a n b c d:=by kernel_rfl
def WP d (e:H) f a b (g:List V->H->O):=
 BD EE 3 d (iq 1) fun c=>Bx (e.own.map (·.1)) [38803466] [a,b,c] f fun h=>g [a,b,c] h
def Wi a b c d (e:V->H->O):=
 is0 a 60 [c,iq 0,d] b fun f g _ _=>e f g
def WB d e (f:V->H->O) g a h i b:=
 Ab [] d e ((fun (c:V->H->O)=>Ai g (Ad 3 h a fun j _=>Wi i a b j c) (c b a)) fun k l=>f k l)
def Wx a c d e f g h (i:V->H->O) j k:=
 Aq 0 a fun l=>Aq 1 a fun m=>nw0 38803466 c fun b n o p=>Ab [(d,e),(f,[]),(g,h)] o p (Ae 3 b l n fun q r s=>WB r s i m q b j k)
def Xw i j a b c d e k (l:V->H->O):=
 AN 3 i j fun m=>Ad 3 m a fun n f=>Ab [(b,c)] f [] (is0 d 39 [e,k,n,iq 2] a fun o p g h=>Ab [] g h (Wx o p g h f b c l d e))
def WC a c b d (e:V->H->O):=
 is0 a 38 [b,d,iq 2] c fun f g _ _=>is0 a 60 [b,iq 1,f] g fun h i _ _=>e h i
def XJ i a b c d e (f:V->H->O):=
 Ai i (is0 a 24 [iq 14,.nils] b fun j k g h=>Ab [] g h (Xw c d k g h a e j f)) (AN 3 c d fun l=>Ad 3 l b fun m _=>WC a b e m f)
def XL a b c d e (f:V->H->O):=
 AN 3 a b fun g=>Ac 1 g fun h=>Ah h c fun i _=>is0 d 55 [i,iq 3] c fun j k _ _=>AK EE 3 j (iq 0) fun l=>XJ l d k a b e f
def Wj c a b h d (i:List V->H->O) j e:=
 Aa a true c (fun k=>k b c [] []) fun l f _ _=>Aa a true f (fun m=>Hu EE 3 l (iq 4) fun n=>m n f [] []) fun o g _ _=>AF a o bF fun p=>Ai p ((fun (q:V->H->O)=>XL d b g j e q) fun r s=>WP b h s d r i) (Al [e] g)
def Amj (c:List V) d e (f:List V->H->O) g:=
 AD c fun a h=>AD h fun i j=>AD j fun b _=>B9 a fun k=>Hu EE 3 b k fun l=>Wj d l b e a f g i
def S37 (c:Aj) (n:Nat) (b:V) (a:H):O :=
 Bx (a.own.map (·.1)) [38803466] [b,.nils,iq 0] a fun d=>BH n (fun e f g=>Amj f g a e c) [b,.nils,iq 0] d
theorem Auj a n b c:Au EE a ft.get n 37 [b] c=S37 a n b c:=by kernel_rfl
def Af7 a b:=
 Ar true 3 b a fun c=>Al [c] a
def X2 c d a:=
 is0 c 24 [iq 14,.nils] d fun e f _ _=>Ae 3 a e f fun b _ _=>Ar true 3 a b fun g=>Al [g] b
def Adp c d e a:=
 Ay (Ak EE 28 1 [(0,d)]) 39857154 c fun f g _ _=>is0 e 24 [iq 18,f] g fun h i _ _=>Ae 3 a h i fun b _ _=>Ar true 3 a b fun j=>Al [j] b
def AgU c d a:=
 is0 c 47 [iq 0] d fun e f _ _=>Ae 3 a e f fun b _ _=>Ar true 3 a b fun g=>Al [g] b
def AeO c d e a f:=
 Ab [] c d (Ae 3 a f e fun b g h=>Ab [] g h (Ar true 3 a b fun i=>Al [i] b))
def Aeu a b c d e f g h:=
 is0 a 38 [c,d,e] b fun i j k l=>Ab [(f,[])] k l (Ay (Ak EE 28 2 [(0,g),(1,i)]) 39863305 j fun m n o p=>Ab [] o p (is0 a 24 [iq 3,m] n fun q r s t=>AeO s t r h q))
def AdF b d e f g a c h i j k:=
 Ad 3 d b fun l m=>Ab [(e,f),(g,[]),(a,[])] m [] (is0 c 56 [l,iq 1] b fun n o p q=>Ab [(a,[])] p q (Bd EE 3 h (iq 1) fun r=>Aeu c o i n r a j k))
def Ag4 a b g c h i j k l:=
 Ab [] a [] (Ad 3 g b fun m d=>Ab [(a,[])] d [] (is0 c 60 [h,iq 1,m] b fun n o e f=>Ab [(a,[])] e f (AdF o i e f d a c j n k l)))
def AfV b c f d g h i:=
 Bd EE 3 b (iq 1) fun j=>is0 c 38 [d,g,j] f fun k l _ _=>nw0 39862278 l fun a m _ _=>Ae 3 a k m fun e _ _=>Ad 3 a e fun n o=>Ag4 o e a c d h b n i
def Abr a b:=
 Ar true 3 b a fun c=>Al [c] a
def AeH b c d e f a:=
 Ab [] b c (is0 d 24 [iq 6,f] e fun g h i j=>Ab [] i j (Ae 3 a g h fun k l m=>Ab [] l m (Abr k a)))
def AbQ c d a e b f g h i j:=
 Ab [(a,[])] c d (Bd EE 3 e (iq 1) fun k=>is0 b 38 [g,h,k] f fun l m n o=>Ab [(a,[])] n o (Ay (Ak EE 28 2 [(0,i),(1,l)]) 39866377 m fun p q r s=>AeH r s b q p j))
def Adi a f g h b i j k l m:=
 is0 a 60 [g,iq 1,h] f fun n c d e=>Ab [(b,[])] d e (Ad 3 i c fun o p=>Ab [(d,e),(j,[]),(b,[])] p [] (is0 a 56 [o,iq 1] c fun q r s t=>AbQ s t b k a r n q l m))
def AbG e a f g h i j k:=
 Ae 3 a f e fun b _ _=>Ad 3 a b fun l c=>Ab [] c [] (Ad 3 a b fun m d=>Ab [(c,[])] d [] (Adi g b h m c i d j l k))
def AcD b c a d e f:=
 Ad 3 c b fun g _=>is0 a 56 [g,iq 0] b fun h i _ _=>Bd EE 3 d (iq 1) fun j=>is0 a 38 [e,h,j] i fun k l _ _=>nw0 39865350 l fun m n _ _=>AbG n m k a e c d f
def Zp a b:=
 Ar true 3 b a fun c=>Al [c] a
def Aa1 c d e a:=
 is0 c 24 [iq 18,e] d fun f g _ _=>Ae 3 a f g fun b _ _=>Ar true 3 a b fun h=>Al [h] b
def Zl d c a b e:=
 CF (Kg .not d) fun f=>Ai f (is0 c 64 [] a fun g h _ _=>Ae 3 b g h fun i _ _=>Zp i b) (Ad 3 e a fun j _=>Ay (Ak EE 28 1 [(0,j)]) 39870465 a fun k l _ _=>Aa1 c l k b)
def Acn b c d e f g h i j k l m:=
 Aq 1 b fun n=>nw0 39867402 c fun a o p q=>Ab [(d,e),(f,g),(h,[]),(i,j)] p q (Ae 3 a k o fun r s t=>Ab [] s t (Zl n l r m a))
def Ahh a b g c h i j k l m n o:=
 Ab [] a b (Bd EE 3 g (iq 1) fun p=>is0 c 39 [i,j,k,p] h fun d q e f=>Ab [] e f (Aq 0 d fun r=>Acn d q e f a b l m n r c o))
def AgA a f g h i j:=
 is0 a 24 [iq 14,.nils] f fun k d b c=>Ab [] b c (Ad 3 g d fun l e=>Ab [(b,c)] e [] (is0 a 56 [l,iq 0] d fun m n o p=>Ahh o p h a n i k m e b c j))
def Yg g a b c d e f h:=
 Ai g (Ad 3 b a fun i _=>is0 c 56 [i,iq 0] a fun j k _ _=>AfV d c k e j b f) (AK EE 3 h (iq 7) fun l=>Ai l (AcD a b c d e f) (AgA c a b d e f))
def Ab8 e f g h i a b:=
 (fun (c:V->H->O)=>AK EE 3 a (iq 5) fun d=>Ai d (c d b) (AK EE 3 a (iq 6) fun j=>c j b)) fun k l=>Yg k l e f g h i a
def Abe c a e b d f g:=
 AK EE 3 c (iq 3) fun h=>Ai h (Ad 3 e a fun i _=>is0 b 28 [i,iq 1] a fun j k _ _=>Adp k j b d) (AK EE 3 c (iq 4) fun l=>Ai l (AgU b a d) (Ab8 e b f g d c a))
def AeF e b c a d f g h:=
 Ai e (is0 b 64 [] c fun i j _ _=>Ae 3 a i j fun k _ _=>Af7 k a) (AK EE 3 d (iq 2) fun l=>Ai l (X2 b c a) (Abe d c f b a g h))
def AbF e f a g h i b:=
 (fun (c:V->H->O)=>AK EE 3 a (iq 0) fun d=>Ai d (c d b) (AK EE 3 a (iq 1) fun j=>c j b)) fun k l=>AeF k e l f a g h i
def Aek a (b:V->H->O) c:=
 C5 EE 3 .rem a (iq 5) fun d=>b d c
def AdR g c a (d:V->H->O):=
 leS EE 3 g (iq 0) fun b=>Aa b true c (fun h=>h a c [] []) fun i e _ _=>Aa b true e (fun j=>LU EE 3 i (iq 4) fun k=>j k e [] []) fun l f _ _=>AF b l bF fun m=>Ai m (Aek a d f) (d a f)
def S38 (a:Aj) (n:Nat) (e f b:V) (g:H):O :=
 AW 39845888 f g fun c h _ _=>nw0 39845889 h fun i d _ _=>Ac 0 c fun j=>Ah j d fun k _=>is0 a 55 [k,iq 9] d fun l m _ _=>(fun (o:V->H->O)=>AdR b m l o) fun p q=>AbF a i p c b e q
theorem Asa a n b c d e:Au EE a ft.get n 38 [b,c,d] e=S38 a n b c d e:=by kernel_rfl
def X9 c a d:=
 Ae 3 a d c fun b _ _=>Ar true 3 a b fun e=>Al [e,bF] b
def AbD a b c:=
 Ar true 3 b a fun d=>Al [d,c] a
def Aaz c a d e:=
 Ae 3 a d c fun b _ _=>Ar true 3 a b fun f=>Al [f,e] b
def AdE a c d e f g h:=
 Ad 3 c a fun i _=>Ad 3 d a fun j _=>is0 e 65 [f,i,j,g] a fun b k _ _=>Aq 0 b fun l=>Aq 1 b fun m=>Aaz k h l m
def Abi d e f g h i a:=
 is0 d 66 [f,g,h,i] e fun b j _ _=>Aq 0 b fun k=>Aq 1 b fun l=>Ae 3 a k j fun c _ _=>Ar true 3 a c fun m=>Al [m,l] c
def Aaf b c a d e:=
 Ab [] b c (Ar true 3 d a fun f=>Al [f,e] a)
def Ab1 b c d e a f:=
 Ay (Ak EE 28 2 [(0,c),(1,d)]) 40910853 b fun g h i j=>Ab [] i j (is0 e 24 [iq 4,g] h fun k l m n=>Ab [] m n (Ae 3 a k l fun o p q=>Aaf p q o a f))
def Yd c a d e f g h:=
 AN 3 c (iq 0) fun i=>Ad 3 i a fun j b=>Ab [] b [] (Ad 3 d a fun k l=>Ab [(b,[]),(e,[])] l [] (Ab1 a j k f g h))
def Ado d a e f g h i:=
 Ae 3 a e d fun b j k=>Ab [] j k (Ac 2 f fun l=>Ah l b fun m c=>Ab [] c [] (Yd m b a c g h i))
def AgL a b c d e f g h i j k l m n o p:=
 Ab [] a b (Aq 0 c fun q=>Aq 1 c fun r=>nw0 40909842 d fun s t u v=>Ab [(a,b),(e,f),(g,[]),(h,[]),(i,[]),(j,k),(l,[]),(m,[])] u v (Ado t s q n o p r))
def Aff d a b e f g h c k l m n o p q:=
 Ab [(a,[]),(b,[]),(e,f),(g,[]),(h,[])] d [] (is0 c 56 [l,iq 0] k fun r s i j=>Ab [(a,[]),(b,[])] i j (Bd EE 3 m (iq 1) fun t=>is0 c 39 [n,o,r,t] s fun u v w x=>AgL w x u v i j d a b e f g h p c q))
def Za f a b c d h e i j k l m n:=
 Ab [(a,b),(c,[]),(d,[])] f [] (AN 3 h (iq 1) fun o=>Ad 3 o e fun p g=>Ab [(a,b),(c,[]),(d,[])] g [] (Ad 3 i e fun q r=>Aff r g f a b c d j e q k l p m n))
def Y3 a b g h i c j k l m:=
 Ab [] a [] (is0 b 60 [h,iq 1,i] g fun n d e f=>Ab [] e f (Ac 2 c fun o=>Ah o d fun p q=>Za q e f a j p d k b l n c m))
def AgC b a d e f g h:=
 Ac 2 b fun i=>Ah i a fun j c=>Ab [] c [] (AN 3 j (iq 0) fun k=>Ad 3 k a fun l m=>Y3 m d a e l b c f g h)
def AaM c a d e:=
 Ae 3 a d c fun b _ _=>Ar true 3 a b fun f=>Al [f,e] b
def ZU c d e f g a h:=
 Ay (Ak EE 28 3 [(0,d),(1,e),(2,f)]) 40916995 c fun i j _ _=>is0 g 24 [iq 7,i] j fun k l _ _=>Ae 3 a k l fun b _ _=>Ar true 3 a b fun m=>Al [m,h] b
def Ag3 c b d e f g h i:=
 Ae 3 b d c fun a j k=>Ab [] j k (Ad 3 e a fun l _=>Ad 3 f a fun m _=>Ad 3 b a fun n _=>ZU a l m n g h i)
def AeJ a b c d e f g h i j k l m n o p:=
 Ab [] a b (Aq 0 c fun q=>Aq 1 c fun r=>nw0 40915983 d fun s t u v=>Ab [(a,b),(e,f),(g,[]),(h,i),(j,[]),(k,[]),(l,[])] u v (Ag3 t s q m n o p r))
def Abm b c d e f g a j k l m n o p q:=
 Ab [(c,d),(e,[]),(f,[]),(g,[])] b [] (is0 a 56 [k,iq 1] j fun r s h i=>Ab [] h i (Bd EE 3 l (iq 1) fun t=>is0 a 39 [m,n,r,t] s fun u v w x=>AeJ w x u v h i b c d e f g o p a q))
def AbP a b c d e j k l m n o:=
 Ad 3 b a fun p f=>Ab [(c,[]),(d,[])] f [] (is0 e 67 [j,iq 0,p] a fun q g h i=>Ab [] h i (Ad 3 k g fun r s=>Abm s h i f c d e g r l m q n b o))
def Ad1 a d e f g h i j k:=
 Ah d a fun l b=>Ab [] b [] (AN 3 l (iq 1) fun m=>Ad 3 m a fun n c=>Ab [] c [] (AbP a e c b f n g h i j k))
def Yx e b f g h c i d j k l m:=
 Ae 3 b f e fun a n o=>Ab [] n o (CF (Kg .not g) fun p=>Ai p (Ad 3 h a fun q _=>AaM a c q i) (Ac 2 d fun r=>Ad1 a r b j k l m d c))
def Agc a b c d e f g h i j k l m n o p q:=
 Ab [] a b (Aq 0 c fun r=>Aq 1 c fun s=>nw0 40912909 d fun t u v w=>Ab [(a,b),(e,f),(g,[]),(h,[]),(i,[])] v w (Yx u t r s j k l m n o p q))
def Zh d a b c i j e f k l m n o p:=
 Ab [(a,[]),(b,[])] d [] (is0 c 56 [j,iq 0] i fun q r g h=>Ab [(a,[]),(b,[])] g h (Bd EE 3 e (iq 1) fun s=>is0 c 39 [f,k,q,s] r fun t u v w=>Agc v w t u g h d a b l m n o c p e f))
def Y5 b e a c f g h i j k l:=
 Ab [] b [] (AN 3 e (iq 0) fun m=>Ad 3 m a fun n d=>Ab [] d [] (Ad 3 c a fun o p=>Zh p d b f a o g h n i j k l c))
def AeY c d e a f:=
 Ay (Ak EE 28 1 [(0,d)]) 40920065 c fun g h _ _=>is0 e 24 [iq 19,g] h fun i j _ _=>Ae 3 a i j fun b _ _=>Ar true 3 a b fun k=>Al [k,f] b
def Adq c d e f g h i j k l m n:=
 nw0 40919053 c fun a o p q=>Ab [(d,e),(f,g),(h,[]),(i,[]),(j,[])] p q (Ae 3 a k o fun b r s=>Ab [] r s (Ad 3 a b fun t _=>AeY b t l m n))
def Ad2 e a f g h i j k l m n o:=
 Bd EE 3 e (iq 1) fun p=>is0 a 33 [g,h,i,p] f fun b q c d=>Ab [] c d (Aq 0 b fun r=>Aq 1 b fun s=>Adq q c d j k l m n r a o s)
def YB a c h b d i j k l:=
 Ab [] a [] (Ad 3 h c fun m e=>Ab [(a,[]),(b,[])] e [] (is0 d 56 [m,iq 0] c fun n o f g=>Ab [(a,[]),(b,[])] f g (Ad2 i d o j k n f g e a b l)))
def AfI c a d e f g h:=
 Ac 2 c fun i=>Ah i a fun j b=>Ab [] b [] (AN 3 j (iq 0) fun k=>Ad 3 k a fun l m=>YB m a d b e f g l h)
def Aar a d b e:=
 Ad 3 d a fun f _=>Ae 3 b f a fun c _ _=>Ar true 3 b c fun g=>Al [g,e] c
def AcO d b a e f g h i c j:=
 AK EE 3 d (iq 6) fun k=>Ai k (Ac 2 b fun l=>Ah l a fun m n=>Y5 n m a e f g h i c j b) (AK EE 3 d (iq 18) fun o=>Ai o (AfI b a e f g h c) (Aar a i c j))
def Z9 i a b c d e f g h j k:=
 Ai i (Ad 3 b a fun l _=>Ad 3 c a fun m _=>Abi d a e l m f g) (AK EE 3 h (iq 3) fun n=>Ai n (AgC b a d e c f g) (AcO h b a c d f e j g k))
def Zx a (b:V->H->O) c:=
 AK EE 3 a (iq 14) fun d=>Ai d (b d c) (AK EE 3 a (iq 2) fun e=>b e c)
def Aa5 c a f g h i j k l:=
 Ac 0 c fun m=>Ah m a fun b _=>(fun (d:V->H->O)=>AK EE 3 b (iq 10) fun e=>Ai e (d e a) (Zx b d a)) fun n o=>Z9 n o c f g h i j b k l
def Z5 b a l c d e f g h m n:=
 Aa a true b (fun o=>Ah l b fun p q=>o p b q []) fun r i _ _=>Aa a true i (fun s=>is0 c 55 [r,iq 7] i s) fun t j _ _=>Aa a true j (fun u=>AK EE 3 t (iq 6) fun v=>u v j [] []) fun w k _ _=>AF a w bF fun x=>Ai x (AdE k d e c f g h) (Aa5 d k e c f g h m n)
def Z4 h a c b d e f i j k:=
 Ai h (Ad 3 c a fun l _=>Ae 3 b l a fun m _ _=>AbD m b d) (LU EE 3 e (iq 0) fun g=>Aa g true a (fun n=>Ac 0 f fun o=>n o a [] []) fun p q _ _=>Z5 q g p i j f k e b c d)
def AfL c a g d h i j k l m:=
 Aa a true c (fun n=>AK EE 3 g (iq 0) fun o=>n o c [] []) fun p e _ _=>AF a p bF fun b=>Aa b false e (fun q=>q d e [] []) fun r f _ _=>Aa b false f (fun s=>Hu EE 3 r (.fv (.int .i64 (-4))) fun t=>s t f [] []) fun u v _ _=>AF b bT u fun w=>Z4 w v h i a d j k l m
def Aef h i a c d j k l m:=
 nw0 40898568 h fun e n _ _=>Ae 3 e i n fun f _ _=>Aa a true f (fun o=>Ac 0 c fun p=>o p f [] []) fun q b _ _=>Aa a true b (fun r=>Ah q b fun s t=>r s b t []) fun u g _ _=>Aa a true g (fun v=>is0 d 55 [u,iq 3] g v) fun w x _ _=>AfL x a w j e k c d l m
def X6 a b c d f g h i:=
 Ac 1 a fun j=>Ah j b fun k _=>is0 c 58 [d,iq 1,f,k] b fun e l _ _=>Aq 0 e fun m=>Aq 1 e fun n=>Aef l m n a c g h i d
def Z6 d e a f c g h i j:=
 Aq 1 d fun k=>Ae 3 a f e fun b _ _=>Ch EE 3 k (iq 0) fun l=>Ai l (By [iq 0,iq 0,.nils] [] fun m=>X9 b c m) (Ad 3 a b fun n _=>X6 g b h i n j c a)
def S39 (a:Aj) (n:Nat) (e f g h:V) (i:H):O :=
 AW 40894464 f i fun b j _ _=>AW 40894465 g j fun k l _ _=>nw0 40894466 l fun m c _ _=>Ad 3 b c fun o _=>is0 a 34 [o] c fun d p _ _=>Aq 0 d fun q=>Z6 d p b q m k a e h
theorem Aty a n b c d e f:Au EE a ft.get n 39 [b,c,d,e] f=S39 a n b c d e f:=by kernel_rfl
def S40 (b:Aj) (n:Nat) (c:V) (d:H):O :=
 AW 41943040 c d fun e a _ _=>Ad 3 e a fun f _=>GY 41944065 (.row [iq 0] false) (.ptr (.own 41944065) 0) a fun g h _ _=>A0 [false,true,false] false false b 68 [f,g,iq 1] h fun i j _ _=>Al [i] j
theorem ArC a n b c:Au EE a ft.get n 40 [b] c=S40 a n b c:=by kernel_rfl
def NW c a:=
 By [iq 0,iq 0,.nils] [] fun d=>Ae 3 a d c fun b _ _=>Ar true 3 a b fun e=>Al [e,iq 1] b
def OA b c d a e f:=
 Ab [(d,[])] b c (Ar true 3 e a fun g=>Al [g,f] a)
def Ox d a b e:=
 AH d fun f=>Ac 3 f fun g=>Ah g a fun h c=>Ab [] c [] (Ae 3 b e a fun i j k=>OA j k c i b h)
def O7 a b c:=
 Ar true 3 b a fun d=>Al [d,c] a
def Pe d a b e:=
 Ac 3 d fun f=>Ah f a fun g c=>Ab [] c [] (Ae 3 b e a fun h i j=>Ab [(c,[])] i j (O7 h b g))
def Pl a b:=
 Ar true 3 b a fun c=>Al [c,iq 0] a
def Ol c d a b e:=
 Ch EE 36 c (iq 0) fun f=>Ai f (By [iq 0,iq 0,.nils] [] fun g=>AH d fun h=>Pe h a b g) (Ad 3 e a fun i _=>Ae 3 b i a fun j _ _=>Pl j b)
def NI d e a f:=
 nw0 42998787 d fun b g _ _=>Ae 3 b e g fun c _ _=>AH a fun h=>Ac 3 h fun i=>Ah i c fun j _=>Ol j a c f b
def OU a d b c e f:=
 Ah d a fun g _=>Ch EE 36 g (iq 0) fun h=>Ai h (By [iq 0,iq 0,.nils] [] fun i=>Ox b a c i) (A0 [true,false,false,false] false false e 72 [b,f,iq 0,iq 1] a fun j k _ _=>NI k j b c)
def NT a d e f:=
 AjO a 70 [] d fun b c _ _=>Ad 3 e c fun g _=>A0 [true,false,false] false false a 71 [b,.fv .nilp,g] c fun h i _ _=>AH b fun j=>Ac 3 j fun k=>OU i k b f a h
def S41 (a:Aj) (n:Nat) (f:V) (g:H):O :=
 AW 42991616 f g fun b h _ _=>nw0 42991617 h fun c d _ _=>Ad 3 b d fun i _=>is0 a 69 [i] d fun j e _ _=>CF (Kg .not j) fun k=>Ai k (NW e c) (NT a e b c)
theorem Aul a n b c:Au EE a ft.get n 41 [b] c=S41 a n b c:=by kernel_rfl
def OE a b c d:=
 Ah b a fun e _=>Ay (val (Dk (.func 74) [] [c])) 44049410 a fun f g _ _=>is0 d 73 [e,f] g fun h i _ _=>CF (Kg .not h) fun j=>Al [j] i
def Oo a c d e:=
 Ad 2 c a fun f _=>Ay (val (Dk (.func 42) [f] [])) 44048385 a fun g h _ _=>GY 44048386 (.row [.fv (.nilf)] false) (.ptr (.own 44048386) 0) h fun b i _ _=>Bp b g i fun j _ _=>Ac 2 d fun k=>OE j k b e
def O9 c a f g (h:H->O):=
 Aa a false c (fun i=>Ac 1 f fun j=>i j c [] []) fun k b _ _=>Aa a false b (fun l=>Ah k b fun m n=>l m b n []) fun o d _ _=>Aa a false d (fun p=>LU EE 3 g o fun q=>p q d [] []) fun r e _ _=>AF a bT r fun s=>Ai s (Al [bF] e) (h e)
def OO d a e f (g:H->O):=
 Ac 0 d fun h=>Ah h a fun i _=>Hu EE 3 e i fun b=>Aa b false a (fun j=>Ac 0 f fun k=>j k a [] []) fun l c _ _=>Aa b false c (fun m=>Ah l c fun n o=>m n c o []) fun p q _ _=>O9 q b d p g
def OV d (b:H->O) a c e:=
 Ai d (b a) (Ac 0 c fun f=>Ah f a fun g _=>OO e a g c b)
def OC a (b:V->H->O) c:=
 AK EE 3 a (iq 16) fun d=>Ai d (b d c) (AK EE 3 a (iq 17) fun e=>b e c)
def O6 a (b:V->H->O) c:=
 AK EE 3 a (iq 1) fun d=>Ai d (b d c) (AK EE 3 a (iq 15) fun e=>Ai e (b e c) (OC a b c))
def S42 (d:Aj) (n:Nat) (e f:V) (g:H):O :=
 AW 44040192 e g fun b h _ _=>AW 44040193 f h fun a c _ _=>(fun (i:H->O)=>Ac 0 a fun j=>Ah j c fun k _=>(fun (l:V->H->O)=>O6 k l c) fun m o=>OV m i o a b) fun p=>Oo p b a d
theorem AtE a n b c d:Au EE a ft.get n 42 [b,c] d=S42 a n b c d:=by kernel_rfl
def Aa2 a d b:=
 Ad 3 d a fun e _=>Ae 3 b e a fun c _ _=>Ar true 3 b c fun f=>Al [f,iq 8] c
def Ab7 d e a b:=
 AN 3 d e fun f=>Ad 3 f a fun g _=>Ae 3 b g a fun c _ _=>Ar true 3 b c fun h=>Al [h,iq 0] c
def Agx a c b d:=
 B9 a fun e=>Bd EE 3 e (iq 1) fun f=>Ac 1 c fun g=>Ah g b fun h _=>Bd EE 3 f h fun i=>Ab7 a i b d
def AfS b a c e d:=
 Ac 1 b fun f=>Ah f a fun g _=>B9 c fun h=>V4 EE 3 g h fun i=>Ai i (Aa2 a e d) (Agx c b a d)
def AbJ a b:=
 Ar true 3 b a fun c=>Al [c,iq 0] a
def Ac0 a d b e:=
 Ad 3 d a fun f _=>Ae 3 b f a fun c _ _=>Ar true 3 b c fun g=>Al [g,e] c
def Agi a b c d e (f:V->H->O):=
 is0 a 75 [c,d,e] b fun g h i j=>Ab [] i j (f g h)
def AdX c a d e f (g:V->H->O):=
 AN 3 c (iq 1) fun h=>Ad 3 h a fun i b=>Ab [] b [] (Ad 3 d a fun j k=>Ab [(b,[])] k [] (Agi e a f i j g))
def AcW a g b h i c j k:=
 is0 a 75 [b,h,i] g fun d e l m=>Ab [] l m ((fun (f:V->H->O)=>AK EE 3 d (iq 0) fun n=>Ai n (AdX k e c a b f) (f d e)) fun o p=>Ac0 p c j o)
def AgN b a c e f g:=
 AN 3 b (iq 0) fun h=>Ad 3 h a fun i d=>Ab [] d [] (Ad 3 c a fun j k=>Ab [(d,[])] k [] (AcW e a f i j c g b))
def Aew c a d:=
 Ae 3 a d c fun b _ _=>Ar true 3 a b fun e=>Al [e,iq 10] b
def Acu c a d e:=
 Ae 3 a d c fun b f g=>Ab [] f g (Ar true 3 a b fun h=>Al [h,e] b)
def Aa0 c a d e f g b h i j k l:=
 AN 3 c (iq 0) fun m=>Ad 3 m a fun n o=>Ab [(d,[]),(e,f),(g,[]),(b,[])] o [] (is0 h 75 [i,j,n] a fun p q r s=>Ab [(b,[])] r s (Acu q k l p))
def AeG d i j k a e f l m:=
 is0 d 76 [j,k] i fun n g b c=>Ab [(a,[])] b c (AN 3 e (iq 1) fun o=>Ad 3 o g fun p h=>Ab [(b,c),(f,[]),(a,[])] h [] (Aa0 e g h b c f a d n p l m))
def Ac5 a e c f g h:=
 Ad 3 e a fun i b=>Ab [] b [] (AN 3 c (iq 0) fun j=>Ad 3 j a fun k d=>Ab [(b,[])] d [] (AeG f a g k b c d h i))
def AfN a b c:=
 Ar true 3 b a fun d=>Al [d,c] a
def Ahe c d a e b:=
 Ab [] c d (Aq 0 a fun f=>Aq 1 a fun g=>Ae 3 b f e fun h i j=>Ab [] i j (AfN h b g))
def Af5 b c d a e f:=
 Ay (Ak EE 28 2 [(0,c),(1,d)]) 45111300 b fun g h i j=>Ab [] i j (is0 a 24 [iq 16,g] h fun k l m n=>Ab [] m n (is0 a 77 [k,e] l fun o p q r=>Ahe q r o p f))
def Adg c a d e f g:=
 AN 3 c (iq 0) fun h=>Ad 3 h a fun i b=>Ab [] b [] (Ad 3 d a fun j k=>Ab [(b,[])] k [] (Af5 a i j e f g))
def AaY b c d e f g h i j k l m:=
 Aq 1 b fun n=>nw0 45110284 c fun a o p q=>Ab [(d,e),(f,[]),(g,h),(i,[])] p q (Ae 3 a j o fun r s t=>Ab [] s t (Adg k r a l n m))
def Adf a j b c d e k l m:=
 Ad 3 j a fun n f=>Ab [(b,c),(d,[])] f [] (is0 e 19 [k,n] a fun g o h i=>Ab [] h i (Aq 0 g fun p=>AaY g o h i f b c d p l e m))
def Afa a g b h c i:=
 Ad 3 g a fun j d=>Ab [] d [] (is0 b 76 [h,j] a fun k l e f=>Ab [] e f (AN 3 c (iq 1) fun m=>Adf l m e f d b k c i))
def ZE b f a c d e:=
 Ah f b fun g _=>AK EE 3 g (iq 29) fun h=>Ai h (AN 3 a (iq 0) fun i=>Ac5 b i a c d e) (AN 3 a (iq 0) fun j=>Afa b j c d a e)
def Acb b d e f c g h i:=
 is0 b 29 [e] d fun j a _ _=>CF (Kg .not j) fun k=>Ai k (Ad 3 f a fun l _=>Aew a c l) (Ac 0 g fun m=>ZE a m h b i c)
def AgD c a d e:=
 Ae 3 a d c fun b _ _=>Ar true 3 a b fun f=>Al [f,e] b
def AbE c a d e:=
 Ae 3 a d c fun b f g=>Ab [] f g (Ar true 3 a b fun h=>Al [h,e] b)
def Abc b c d e f g h i j:=
 Ab [(c,d),(e,[])] b [] (is0 f 19 [h,i] g fun a k l m=>Ab [] l m (Aq 0 a fun n=>Aq 1 a fun o=>AbE k j n o))
def AbT a b f g h i j:=
 Ab [] a [] (is0 b 76 [g,h] f fun k c d e=>Ab [] d e (AN 3 i (iq 1) fun l=>Ad 3 l c fun m n=>Abc n d e a b c k m j))
def AfF e f c d g h i:=
 nw0 45113352 e fun b j _ _=>Ae 3 b f j fun a _ _=>Ch EE 3 c (iq 0) fun k=>Ai k (Ad 3 b a fun l _=>AgD a d l c) (Ad 3 b a fun m n=>AbT n g a h m i d)
def Ad5 a b c d f:=
 AN 3 a (iq 0) fun g=>Ad 3 g b fun h _=>is0 c 19 [d,h] b fun e i _ _=>Aq 0 e fun j=>Aq 1 e fun k=>AfF i j k f c d a
def Acw a b c:=
 Ar true 3 b a fun d=>Al [d,c] a
def Yi a d b e:=
 Ad 3 d a fun f _=>Ae 3 b f a fun c _ _=>Ar true 3 b c fun g=>Al [g,e] c
def Yb a b (c:V->H->O) d e:=
 Ab [] a b (c e d)
def Aee a c d e f (g:V->H->O):=
 Ad 3 c a fun h b=>Ab [] b [] (Ad 3 d a fun i j=>Ab [(b,[])] j [] (is0 e 75 [f,h,i] a fun k l m n=>Yb m n g l k))
def Afz a e b f c g h:=
 (fun (d:V->H->O)=>AK EE 3 b (iq 0) fun i=>Ai i (AN 3 f (iq 2) fun j=>Aee c j a g h d) (d b c)) fun k l=>Yi l a e k
def Ag8 a e b f g h:=
 is0 a 19 [b,f] e fun c i _ _=>Aq 0 c fun j=>Aq 1 c fun k=>nw0 45121544 i fun d l _ _=>Ae 3 d j l fun m _ _=>Afz d g k h m a b
def Ab9 c a e b d f g:=
 Ch EE 3 c (iq 0) fun h=>Ai h (Ad 3 e a fun i _=>Ae 3 b i a fun j _ _=>Acw j b c) (AN 3 d (iq 1) fun k=>Ad 3 k a fun l _=>Ag8 f a g l b d)
def Zf a b c d e f g h:=
 Ab [] a [] (Ad 3 c b fun i j=>Ab [(a,[])] j [] (is0 d 75 [e,f,i] b fun k l m n=>Ab [] m n (Ab9 k l c g h d e)))
def Ac9 c a d e:=
 Ae 3 a d c fun b _ _=>Ar true 3 a b fun f=>Al [f,e] b
def Afl d e f g a:=
 is0 d 77 [f,g] e fun b h _ _=>Aq 0 b fun i=>Aq 1 b fun j=>Ae 3 a i h fun c _ _=>Ar true 3 a c fun k=>Al [k,j] c
def Aft d b e f c g h:=
 Ae 3 b e d fun a _ _=>Ad 3 f a fun i _=>Ad 3 b a fun j _=>Ay (Ak EE 28 2 [(0,i),(1,j)]) 45130754 a fun k l _ _=>is0 c 24 [iq 17,k] l fun m n _ _=>Afl c n m g h
def YL a d b e f g:=
 Ad 3 d a fun h _=>is0 b 19 [e,h] a fun c i _ _=>Aq 0 c fun j=>Aq 1 c fun k=>nw0 45129736 i fun l m _ _=>Aft m l j f b k g
def Z0 e f c d g h i:=
 nw0 45126664 e fun a j _ _=>Ae 3 a f j fun b _ _=>Ch EE 3 c (iq 0) fun k=>Ai k (Ad 3 a b fun l _=>Ac9 b d l c) (AN 3 g (iq 1) fun m=>YL b m h i a d)
def ZI a b c d f:=
 AN 3 a (iq 0) fun g=>Ad 3 g b fun h _=>is0 c 19 [d,h] b fun e i _ _=>Aq 0 e fun j=>Aq 1 e fun k=>Z0 i j k f a c d
def AcH a b c:=
 Ar true 3 b a fun d=>Al [d,c] a
def Ael d a b:=
 AN 3 d (iq 1) fun e=>Ad 3 e a fun f _=>Ae 3 b f a fun c _ _=>Ar true 3 b c fun g=>Al [g,iq 0] c
def Adc c a d b e:=
 Ch EE 3 c (iq 0) fun f=>Ai f (Ad 3 d a fun g _=>Ae 3 b g a fun h _ _=>AcH h b c) (Ac 2 e fun i=>Ah i a fun j _=>Ael j a b)
def Yk b a c d e f (g:V->H->O):=
 AN 3 b (iq 0) fun h=>Ad 3 h a fun i j=>Ab [(c,[])] j [] (is0 d 75 [e,f,i] a fun k l m n=>Ab [] m n (g k l))
def AgJ a c d e f (g:V->H->O):=
 Ad 3 c a fun h b=>Ab [] b [] (Ac 2 d fun i=>Ah i a fun j k=>Ab [(b,[])] k [] (Yk j a b e f h g))
def Ab2 e f a b g c h i:=
 (fun (d:V->H->O)=>AK EE 3 b (iq 0) fun j=>Ai j (AN 3 g (iq 1) fun k=>AgJ c k a h i d) (d b c)) fun l m=>Adc l m e f a
def Ahk c d (a:V->H->O) b e:=
 AF c d bF fun f=>Ai f (a (iq 12) b) (a e b)
def YY g h c i j k d e:=
 (fun (l:V->H->O)=>AK EE 3 d (iq 0) fun a=>Aa a true e (fun m=>Ac 0 c fun n=>m n e [] []) fun o b _ _=>Aa a true b (fun p=>Ah o b fun q r=>p q b r []) fun s f _ _=>Aa a true f (fun t=>Ch EE 3 s (iq 16) fun u=>t u f [] []) fun v w _ _=>Ahk a v l w d) fun x y=>Ab2 g h c x i y j k
def Yf a e b f g h i:=
 is0 a 19 [b,f] e fun c j _ _=>Aq 0 c fun k=>Aq 1 c fun l=>nw0 45132808 j fun d m _ _=>Ae 3 d k m fun n _ _=>YY g h d i a b l n
def Aag a b c:=
 Ar true 3 b a fun d=>Al [d,c] a
def Ab6 c a d:=
 Ae 3 a d c fun b _ _=>Ar true 3 a b fun e=>Al [e,iq 0] b
def Adm b a c d:=
 Ac 0 b fun e=>Ah e a fun f _=>Bd EE 3 f (iq 23) fun g=>AN 3 c g fun h=>Ad 3 h a fun i _=>Ab6 a d i
def Adb c a d b e f:=
 Ch EE 3 c (iq 0) fun g=>Ai g (Ad 3 d a fun h _=>Ae 3 b h a fun i _ _=>Aag i b c) (Ac 2 e fun j=>Ah j a fun k _=>Adm f a k b)
def Abo c d (a:V->H->O) b e:=
 AF c d bF fun f=>Ai f (a (iq 12) b) (a e b)
def AbS g h c i d e:=
 (fun (j:V->H->O)=>AK EE 3 d (iq 0) fun a=>Aa a true e (fun k=>Ac 0 c fun l=>k l e [] []) fun m b _ _=>Aa a true b (fun n=>Ah m b fun o p=>n o b p []) fun q f _ _=>Aa a true f (fun r=>Ch EE 3 q (iq 17) fun s=>r s f [] []) fun t u _ _=>Abo a t j u d) fun v w=>Adb v w g h c i
def AaV c d e f g h i:=
 is0 c 19 [e,f] d fun a j _ _=>Aq 0 a fun k=>Aq 1 a fun l=>nw0 45143048 j fun b m _ _=>Ae 3 b k m fun n _ _=>AbS g h b i l n
def Aak a b:=
 Ar true 3 b a fun c=>Al [c,iq 10] a
def Zj d e a f g c b h:=
 Ai d (AN 3 e (iq 0) fun i=>Ad 3 i a fun j _=>AaV f a g j c b h) (Ad 3 c a fun k _=>Ae 3 b k a fun l _ _=>Aak l b)
def Acd a (b:V->H->O) c d:=
 Ai a (b a c) (AK EE 3 d (iq 24) fun e=>b e c)
def AaN a b c d e f g h:=
 AK EE 3 a (iq 21) fun i=>Ai i (AN 3 b (iq 0) fun j=>Ad 3 j c fun k _=>Yf d c e k f g b) ((fun (l:V->H->O)=>AK EE 3 a (iq 23) fun m=>Acd m l c a) fun n o=>Zj n b o d e f g h)
def Ac1 c a b g d e f h:=
 AK EE 3 c (iq 27) fun i=>Ai i (AN 3 a (iq 0) fun j=>Ad 3 j b fun k l=>Zf l b g d e k f a) (AK EE 3 c (iq 22) fun m=>Ai m (ZI a b d e f) (AaN c a b d e g f h))
def AeX i a b c f d g e h:=
 Ai i (AN 3 a (iq 0) fun j=>Ad 3 j b fun k _=>Acb c b k f d g a e) (AK EE 3 h (iq 28) fun l=>Ai l (Ad5 a b c e d) (Ac1 h a b f c e d g))
def Adl e f g h i j a b:=
 (fun (c:V->H->O)=>AK EE 3 a (iq 20) fun d=>Ai d (c d b) (AK EE 3 a (iq 29) fun k=>c k b)) fun l m=>AeX l e m f g h i j a
def AgE c a d b e f g h:=
 AK EE 3 c (iq 25) fun i=>Ai i (Ad 3 d a fun j _=>Ae 3 b j a fun k _ _=>AbJ k b) (AK EE 3 c (iq 26) fun l=>Ai l (AgN e a d f g b) (Adl e f d b h g c a))
def ZG g a h b d e i j:=
 Ae 3 a h g fun c _ _=>Ac 0 b fun k=>Ah k c fun f _=>AK EE 3 f (iq 1) fun l=>Ai l (AfS b c d a e) (AgE f c a e i j d b)
def S43 (a:Aj) (n:Nat) (d e:V) (f:H):O :=
 AW 45088768 e f fun b g _ _=>nw0 45088769 g fun h c _ _=>Ac 2 b fun i=>Ah i c fun j _=>is0 a 24 [iq 15,.nils] c fun k l _ _=>nw0 45090817 l fun m o _ _=>ZG o m k b d h j a
theorem Au4 a n b c d:Au EE a ft.get n 43 [b,c] d=S43 a n b c d:=by kernel_rfl
def S44 (h:Aj) (n:Nat) (c:V) (d:H):O :=
 nw0 46137344 d fun a e _ _=>By [iq 0,iq 0,.nils] [] fun f=>Ae 3 a f e fun b _ _=>Ar true 3 a b fun g=>Al [g,c] b
theorem AsJ a n b c:Au EE a ft.get n 44 [b] c=S44 a n b c:=by kernel_rfl
def GB g h i j (k:H) a b c d e (l:List V->H->O):=
 Bp h i g fun m n o=>Ab [] n o (BD EE 3 j (iq 1) fun f=>Bx (k.own.map (·.1)) [47193104] [a,b,c,d,e,f] m fun p=>l [a,b,c,d,e,f] p)
def Gm b c d e a f g h i j k (l:List V->H->O):=
 Ay (Ak EE 28 1 [(0,c)]) 47193103 b fun m n o p=>Ab [(d,[])] o p (Ay (AO EE 47193104 false .append [28,28] [e,m]) 47193104 n fun q r s t=>Ab [] s t (Ac 2 a fun u=>GB r u q f g h i j k a l))
def Gu b f g c h i a d j e k l m n o (p:List V->H->O):=
 is0 b 54 [g,c] f fun q r s t=>Ab [(h,[]),(i,[]),(a,[])] s t (BD EE 3 d q fun u=>is0 b 45 [j,e,u] r fun v w x y=>Ab [(a,[])] x y (Gm w v a k l c m e d n o p))
def Gz a f b d e g h i j k l m n (o:List V->H->O):=
 Ad 3 f a fun p c=>Ab [(b,[])] c [] (Ac 0 d fun q=>Ah q a fun r s=>Ab [(c,[]),(e,[]),(b,[])] s [] (Gu g a r h c e b i p j k l m d n o))
def GI a b c d f g h i j k l (m:List V->H->O):=
 Ab [] a [] (Ac 2 b fun n=>Ah n c fun o e=>Ab [(a,[])] e [] (AN 3 o d fun p=>Gz c p a b e f d g h i j k l m))
def GD a b:=
 Ar true 3 b a fun c=>Al [c] a
def GT d b a e f g h i j c (k:List V->H->O):=
 Ai d (Ac 2 b fun l=>Ah l a fun m n=>GI n e a f g h i m b j c k) (Ad 3 b a fun o _=>Ae 3 c o a fun p _ _=>GD p c)
def Gw (d:List V) a b e f g h i j (k:List V->H->O):=
 AD d fun c _=>Ac 2 a fun l=>Ah l b fun m _=>B9 m fun n=>Hu EE 3 c n fun o=>GT o e b a c f g h i j k
def IG (a:List V) b c d (e:List V->H->O):=
 AD a fun f g=>AD g fun h i=>AD i fun j k=>AD k fun l m=>AD m fun n o=>Gw o j b n c h f d l e
def GJ (a:H) g b c d e f n h:=
 Bx (a.own.map (·.1)) [47193104] [b,c,d,e,f,iq 0] g fun i=>BH n (fun j k l=>IG k l h a j) [b,c,d,e,f,iq 0] i
def GG a b c d (e:H->O):=
 Ah b a fun f _=>BD EE 3 f c fun g=>Ac 1 d fun h=>Bp h g a fun i _ _=>e i
def Gv a b e f g h i (c:H->O):=
 Aa b true a (fun j=>V4 EE 3 e f fun k=>j k a [] []) fun l d _ _=>AF b l bF fun m=>Ai m (Ac 1 g fun n=>GG d n h i c) (c d)
def Gl b f d g h i (j:H->O):=
 Ah f b fun k _=>AK EE 3 k (iq 1) fun a=>Aa a true b (fun l=>Ac 1 d fun m=>l m b [] []) fun n c _ _=>Aa a true c (fun o=>Ah n c fun p q=>o p c q []) fun r e _ _=>Aa a true e (fun s=>s g e [] []) fun t u _ _=>Gv u a r t d h i j
def GU e f g h c d a i n j:=
 By [iq 0,iq 0,.nils] [(0,1,e),(1,1,f)] fun k=>nw0 47186949 g fun b l _ _=>Ae 3 b k l fun m _ _=>(fun (o:H->O)=>Ac 0 a fun p=>Gl m p a d c b o) fun q=>GJ h q c d a i b n j
def S45 (d:Aj) (n:Nat) (e f g:V) (c:H):O :=
 AW 47185920 e c fun a h _ _=>nw0 47185921 h fun i b _ _=>Ac 0 a fun j=>Ah j b fun k _=>Ac 1 a fun l=>Ah l b fun m _=>GU k m b c f g a i n d
theorem ArX a n b c d e:Au EE a ft.get n 45 [b,c,d] e=S45 a n b c d e:=by kernel_rfl
def AcI c a d:=
 Ae 3 a d c fun b _ _=>Ar true 3 a b fun e=>Al [e,iq 0] b
def Zm c d a e:=
 Aq 1 c fun f=>Ae 3 a e d fun b _ _=>Ar true 3 a b fun g=>Al [g,f] b
def AdL a b:=
 Ar true 3 b a fun c=>Al [c,iq 0] a
def Aao c e a b f:=
 Ch EE 3 c (iq 0) fun g=>Ai g (is0 e 44 [c] a fun d h _ _=>Aq 0 d fun i=>Zm d h b i) (Ad 3 f a fun j _=>Ae 3 b j a fun k _ _=>AdL k b)
def Zy a d b:=
 Aq 0 a fun e=>Aq 1 a fun f=>Ae 3 b e d fun c _ _=>Ar true 3 b c fun g=>Al [g,f] c
def AaT d e f a:=
 is0 d 44 [f] e fun b g _ _=>Aq 0 b fun h=>Aq 1 b fun i=>Ae 3 a h g fun c _ _=>Ar true 3 a c fun j=>Al [j,i] c
def Aaq a b c:=
 Ar true 3 b a fun d=>Al [d,c] a
def AeD c d a e b:=
 Ab [] c d (Aq 0 a fun f=>Aq 1 a fun g=>Ae 3 b f e fun h i j=>Ab [] i j (Aaq h b g))
def ZV b c d a e:=
 Ay (Ak EE 28 2 [(0,c),(1,d)]) 48253956 b fun f g h i=>Ab [] h i (is0 a 24 [iq 16,f] g fun j k l m=>Ab [] l m (is0 a 34 [j] k fun n o p q=>AeD p q n o e))
def Agy c a d e f:=
 AN 3 c (iq 0) fun g=>Ad 3 g a fun h b=>Ab [] b [] (Ad 3 d a fun i j=>Ab [(b,[])] j [] (ZV a h i e f))
def Aet f g h i j k l a m b c d n:=
 Ab [(h,i),(j,[]),(k,[])] f g (Ae 3 a m l fun e o p=>Ab [] o p (Ch EE 3 b (iq 0) fun q=>Ai q (AaT c e b d) (Agy n e a c d)))
def ZL a e f g h i j k l:=
 is0 a 78 [f,g,h] e fun b m c d=>Ab [] c d (Aq 0 b fun n=>Aq 1 b fun o=>nw0 48250891 m fun p q r s=>Aet r s c d i j q p n o a k l)
def Aab a e c f g h:=
 Ad 3 e a fun i b=>Ab [] b [] (AN 3 c (iq 1) fun j=>Ad 3 j a fun k d=>Ab [(b,[])] d [] (ZL f a g i k d b h c))
def AfA a g b h i c d:=
 is0 a 48 [b,iq 1,h,i] g fun e f j k=>Ab [] j k (Ch EE 3 e (iq 0) fun l=>Ai l (is0 a 44 [e] f fun m n _ _=>Zy m n c) (AN 3 d (iq 0) fun o=>Aab f o d a b c))
def AdM b a d e f g:=
 AN 3 b (iq 0) fun h=>Ad 3 h a fun i c=>Ab [] c [] (Ad 3 d a fun j k=>Ab [(c,[])] k [] (AfA e a f i j g b))
def Aad c d a e:=
 Aq 1 c fun f=>Ae 3 a e d fun b _ _=>Ar true 3 a b fun g=>Al [g,f] b
def AaS d e f a:=
 is0 d 34 [f] e fun b g _ _=>Aq 0 b fun h=>Aq 1 b fun i=>Ae 3 a h g fun c _ _=>Ar true 3 a c fun j=>Al [j,i] c
def AcR b c a d f:=
 Ch EE 3 b (iq 0) fun g=>Ai g (is0 c 44 [b] a fun e h _ _=>Aq 0 e fun i=>Aad e h d i) (AN 3 f (iq 0) fun j=>Ad 3 j a fun k _=>AaS c a k d)
def Zt a b c d e f (g:V->H->O):=
 is0 a 45 [c,iq 1,iq 0] b fun h i j k=>Ab [(d,[])] j k (is0 a 48 [e,iq 0,f,h] i fun l m n o=>Ab [] n o (g l m))
def Ab5 a f c d e g h i (j:V->H->O):=
 Ad 3 f a fun k b=>Ab [(c,d),(e,[])] b [] (AN 3 g (iq 0) fun l=>Ad 3 l a fun m n=>Ab [(b,[]),(c,d),(e,[])] n [] (Zt h a m b i k j))
def Af9 a g b h c (i:V->H->O):=
 Ad 3 g a fun j d=>Ab [] d [] (is0 b 79 [h,iq 0,j] a fun k l e f=>Ab [] e f (AN 3 c (iq 1) fun m=>Ab5 l m e f d c b k i))
def Abu b f a c d g:=
 (fun (e:V->H->O)=>AK EE 3 c (iq 0) fun h=>Ai h (AN 3 a (iq 0) fun i=>Af9 d i b g a e) (e c d)) fun j k=>AcR j b k f a
def Ag1 a b e c d f g h:=
 Ab [] a [] (Ad 3 e b fun i j=>Ab [(a,[])] j [] (is0 c 48 [d,iq 1,f,i] b fun k l m n=>Ab [] m n (Abu c g h k l d)))
def AgP a d b:=
 Aq 0 a fun e=>Aq 1 a fun f=>Ae 3 b e d fun c _ _=>Ar true 3 b c fun g=>Al [g,f] c
def X5 a b c:=
 Ar true 3 b a fun d=>Al [d,c] a
def Aca c d a e b:=
 Ab [] c d (Aq 0 a fun f=>Aq 1 a fun g=>Ae 3 b f e fun h i j=>Ab [] i j (X5 h b g))
def AaL a c b d e f g:=
 Ab [] a [] (AN 3 c (iq 1) fun h=>Ad 3 h b fun i j=>Ab [(a,[])] j [] (is0 d 78 [e,f,i] b fun k l m n=>Aca m n k l g))
def AdV f g b c d h i:=
 nw0 48263176 f fun e j _ _=>Ae 3 e g j fun a _ _=>Ch EE 3 b (iq 0) fun k=>Ai k (is0 c 44 [b] a fun l m _ _=>AgP l m d) (Ad 3 e a fun n o=>AaL o h a c i n d)
def Aen a b c d f:=
 AN 3 a (iq 0) fun g=>Ad 3 g b fun h _=>is0 c 20 [d,iq 0,h] b fun e i _ _=>Aq 0 e fun j=>Aq 1 e fun k=>AdV i j k c f a d
def Aeo c d a e:=
 Aq 1 c fun f=>Ae 3 a e d fun b _ _=>Ar true 3 a b fun g=>Al [g,f] b
def Ac6 d a b:=
 AN 3 d (iq 0) fun e=>Ad 3 e a fun f _=>Ae 3 b f a fun c _ _=>Ar true 3 b c fun g=>Al [g,iq 0] c
def Agr b e a c f:=
 Ch EE 3 b (iq 0) fun g=>Ai g (is0 e 44 [b] a fun d h _ _=>Aq 0 d fun i=>Aeo d h c i) (Ac 2 f fun j=>Ah j a fun k _=>Ac6 k a c)
def Abl a d e f g:=
 is0 a 80 [e,iq 1,f,iq 18] d fun b h _ _=>Aq 0 b fun i=>Aq 1 b fun j=>nw0 48268296 h fun c k _ _=>Ae 3 c i k fun l _ _=>Agr j a l g c
def Afd a d b:=
 Aq 0 a fun e=>Aq 1 a fun f=>Ae 3 b e d fun c _ _=>Ar true 3 b c fun g=>Al [g,f] c
def Agq e f a b c d g:=
 AK EE 3 e (iq 30) fun h=>Ai h (AN 3 f (iq 0) fun i=>Ad 3 i a fun j _=>Abl b a c j d) (Ad 3 g a fun k _=>is0 b 81 [c,k] a fun l m _ _=>Afd l m d)
def AbH c a b g d e f h:=
 AK EE 3 c (iq 29) fun i=>Ai i (AN 3 a (iq 0) fun j=>Ad 3 j b fun k l=>Ag1 l b g d e k f a) (AK EE 3 c (iq 28) fun m=>Ai m (Aen a b d e f) (Agq c a b d e f h))
def AaK i a f b c d e g h j:=
 Ai i (Ad 3 f a fun k _=>is0 b 49 [c,iq 0,d,k] a fun l m _ _=>Aao l b m e f) (AK EE 3 g (iq 20) fun n=>Ai n (AdM d a h b c e) (AbH g d a h b c e j))
def Adv a e c d f g h i j:=
 Ah e a fun b _=>AK EE 3 b (iq 25) fun k=>Ai k (Ad 3 c a fun l _=>AcI a d l) (AK EE 3 b (iq 26) fun m=>AaK m a c f g h d b i j)
def AaX e a f b c g h i:=
 Ae 3 a f e fun j _ _=>is0 b 24 [iq 15,.nils] j fun k l _ _=>nw0 48237569 l fun d m _ _=>Ae 3 d k m fun n _ _=>Ac 0 c fun o=>Adv n o d g b h i a c
def S46 (a:Aj) (n:Nat) (d e:V) (f:H):O :=
 AW 48234496 e f fun b g _ _=>nw0 48234497 g fun h c _ _=>Ac 2 b fun i=>Ah i c fun j _=>is0 a 24 [iq 14,.nils] c fun k l _ _=>nw0 48236545 l fun m o _ _=>AaX o m k a b h d j
theorem Atn a n b c d:Au EE a ft.get n 46 [b,c] d=S46 a n b c d:=by kernel_rfl
def S47 (h:Aj) (n:Nat) (c:V) (d:H):O :=
 nw0 49283072 d fun a e _ _=>By [iq 0,iq 0,.nils] [(0,1,iq 2),(1,1,c)] fun f=>Ae 3 a f e fun b _ _=>Ar true 3 a b fun g=>Al [g] b
theorem At3 a n b c:Au EE a ft.get n 47 [b] c=S47 a n b c:=by kernel_rfl
def AjI b c g (d:V->H->O):=
 AK EE 3 b (iq 0) fun a=>Aa a true c (fun h=>h g c [] []) fun i e _ _=>Aa a true e (fun j=>CF (Kg .not i) fun k=>j k e [] []) fun l f _ _=>AF a l bF fun m=>Ai m (d (iq 11) f) (d b f)
def AlG a c d e:=
 Ad 3 c a fun f _=>is0 d 82 [e,f] a fun b g _ _=>Aq 0 b fun h=>Aq 1 b fun i=>(fun (j:V->H->O)=>AjI i g h j) fun k l=>Al [k] l
def Alx d e b f g:=
 nw0 50332679 d fun c h _ _=>Ae 3 c e h fun a _ _=>Ch EE 3 b (iq 0) fun i=>Ai i (Al [b] a) (Ad 3 c a fun j _=>AlG a f g j)
def S48 (a:Aj) (n:Nat) (d e f g:V) (h:H):O :=
 AW 50331648 f h fun i j _ _=>AW 50331649 g j fun k b _ _=>Ad 3 i b fun l _=>is0 a 20 [d,e,l] b fun c m _ _=>Aq 0 c fun o=>Aq 1 c fun p=>Alx m o p k a
theorem AsQ a n b c d e f:Au EE a ft.get n 48 [b,c,d,e] f=S48 a n b c d e f:=by kernel_rfl
def RL c d a b e (f:List V->H->O) g h i j:=
 Ab [] c d (Ch EE 3 a (iq 0) fun k=>Ai k (Al [a] b) (BD EE 3 e (iq 1) fun l=>f [g,h,i,j,l] b))
def Tq a f b g c d h (i:List V->H->O) j:=
 Ad 3 f a fun k e=>Ab [] e [] (Ad 3 b a fun l m=>Ab [(e,[])] m [] (is0 g 48 [c,d,k,l] a fun n o p q=>RL p q n o h i c d j b))
def QN a b c d e f g (h:List V->H->O):=
 B9 a fun i=>Hu EE 3 b i fun j=>Ai j (AN 3 a b fun k=>Tq c k d e f g b h a) (Al [iq 0] c)
def Xo (a:List V) b c (d:List V->H->O):=
 AD a fun e f=>AD f fun g h=>AD h fun i j=>AD j fun k l=>AD l fun m _=>QN i m b k c e g d
def S49 (a:Aj) (n:Nat) (b c d e:V) (f:H):O :=
 AW 51380224 e f fun g h _ _=>BH n (fun i j k=>Xo j k a i) [b,c,d,g,iq 0] h
theorem Atj a n b c d e f:Au EE a ft.get n 49 [b,c,d,e] f=S49 a n b c d e f:=by kernel_rfl
def Ao0 d e f a:=
 is0 d 44 [f] e fun b g _ _=>Aq 0 b fun h=>Aq 1 b fun i=>Ae 3 a h g fun c _ _=>Ar true 3 a c fun j=>Al [j,i] c
def AqD a d b:=
 Aq 0 a fun e=>Aq 1 a fun f=>Ae 3 b e d fun c _ _=>Ar true 3 b c fun g=>Al [g,f] c
def Aqf c d e a:=
 is0 c 47 [e] d fun f g _ _=>Ae 3 a f g fun b _ _=>Ar true 3 a b fun h=>Al [h,iq 0] b
def Aqw a b c d f:=
 Aq 0 a fun g=>Aq 1 a fun e=>Ch EE 3 e (iq 0) fun h=>Ai h (is0 b 44 [e] c fun i j _ _=>AqD i j d) (Ay (AO EE 52440066 false .max [3,3] [f,g]) 52440066 c fun k l _ _=>Aqf b l k d)
def AqC c a d e f b g h i:=
 AN 3 c (iq 1) fun j=>Ad 3 j a fun k l=>Ab [(d,e),(f,[])] l [] (is0 b 83 [g,k] a fun m n o p=>Ab [] o p (Aqw m b n h i))
def Api a b c g h i:=
 AN 3 a (iq 0) fun j=>Ad 3 j b fun k d=>Ab [] d [] (is0 c 79 [g,iq 1,k] b fun l m e f=>Ab [] e f (AqC a m e f d c l h i))
def AmX a g b h c i:=
 is0 a 83 [b,h] g fun d e _ _=>Aq 0 d fun j=>Aq 1 d fun f=>Ch EE 3 f (iq 0) fun k=>Ai k (Ao0 a e f c) (Api i e a b c j)
def AnL c d a e:=
 Aq 1 c fun f=>Ae 3 a e d fun b _ _=>Ar true 3 a b fun g=>Al [g,f] b
def Aqt c d a e:=
 Aq 1 c fun f=>Ae 3 a e d fun b _ _=>Ar true 3 a b fun g=>Al [g,f] b
def Am5 c d a e:=
 Aq 1 c fun f=>Ae 3 a e d fun b g h=>Ab [] g h (Ar true 3 a b fun i=>Al [i,f] b)
def AmY a c d e:=
 is0 a 24 [iq 3,d] c fun f g h i=>Ab [] h i (is0 a 34 [f] g fun b j k l=>Ab [] k l (Aq 0 b fun m=>Am5 b j e m))
def Aoe a b c d e f:=
 Ab [] a [] (Ad 3 c b fun g h=>Ab [(a,[])] h [] (Ay (Ak EE 28 2 [(0,d),(1,g)]) 52448260 b fun i j k l=>Ab [] k l (AmY e j i f)))
def AoL e b a f c g h:=
 Ai e (is0 b 44 [f] a fun d i _ _=>Aq 0 d fun j=>Aqt d i c j) (AN 3 g (iq 0) fun k=>Ad 3 k a fun l m=>Aoe m a h l b c)
def Aoi c d e f g h i j a k l m:=
 nw0 52445196 c fun b n o p=>Ab [(d,e),(f,[]),(g,h),(i,[])] o p (Ae 3 b j n fun q r s=>Ab [] r s (Ch EE 3 a (iq 0) fun t=>AoL t k q a l m b))
def Am9 a b c d e i j k l m:=
 Ab [(b,c),(d,[])] a [] (is0 e 20 [j,iq 1,k] i fun f n g h=>Ab [] g h (Aq 0 f fun o=>Aq 1 f fun p=>Aoi n g h a b c d o p e l m))
def Aog a b g h i c j:=
 Ab [] a [] (is0 b 79 [h,iq 1,i] g fun k d e f=>Ab [] e f (AN 3 c (iq 1) fun l=>Ad 3 l d fun m n=>Am9 n e f a b d k m j c))
def AnG b c a d e g:=
 Ch EE 3 b (iq 0) fun h=>Ai h (is0 c 44 [b] a fun f i _ _=>Aq 0 f fun j=>AnL f i d j) (AN 3 e (iq 0) fun k=>Ad 3 k a fun l m=>Aog m c a g l e d)
def Ano a b c d f:=
 AN 3 a (iq 0) fun g=>Ad 3 g b fun h _=>is0 c 83 [d,h] b fun e i _ _=>Aq 0 e fun _=>Aq 1 e fun j=>AnG j c i f a d
def ApZ c d a e:=
 Aq 1 c fun f=>Ae 3 a e d fun b _ _=>Ar true 3 a b fun g=>Al [g,f] b
def AnO a b c:=
 Ar true 3 b a fun d=>Al [d,c] a
def Ang c d a e b:=
 Ab [] c d (Aq 0 a fun f=>Aq 1 a fun g=>Ae 3 b f e fun h i j=>Ab [] i j (AnO h b g))
def Apj a c d e b f g:=
 Ad 3 c a fun h i=>Ab [(d,[]),(e,[])] i [] (is0 b 67 [f,iq 0,h] a fun j k l m=>Ab [] l m (is0 b 34 [j] k fun n o p q=>Ang p q n o g))
def Aqp a d b e f g:=
 Ab [] a [] (AN 3 d (iq 1) fun h=>Ad 3 h b fun i c=>Ab [] c [] (AN 3 e (iq 1) fun j=>Apj b j c a f i g))
def AnC b c a d f g:=
 Ch EE 3 b (iq 0) fun h=>Ai h (is0 c 44 [b] a fun e i _ _=>Aq 0 e fun j=>ApZ e i d j) (Ac 2 f fun k=>Ah k a fun l m=>Aqp m l a g c d)
def Am0 b a c d e f (g:V->H->O):=
 AN 3 b (iq 0) fun h=>Ad 3 h a fun i j=>Ab [(c,[])] j [] (is0 d 48 [e,iq 1,f,i] a fun k l m n=>Ab [] m n (g k l))
def AnW a c d e f (g:V->H->O):=
 Ad 3 c a fun h b=>Ab [] b [] (Ac 2 d fun i=>Ah i a fun j k=>Ab [(b,[])] k [] (Am0 j a b e f h g))
def Aoh a g b c d e h:=
 (fun (f:V->H->O)=>AK EE 3 d (iq 0) fun i=>Ai i (AN 3 c (iq 1) fun j=>AnW e j b a h f) (f d e)) fun k l=>AnC k a l g b c
def Anl a e b f g h:=
 is0 a 80 [b,iq 1,f,iq 3] e fun c i _ _=>Aq 0 c fun j=>Aq 1 c fun k=>nw0 52450312 i fun d l _ _=>Ae 3 d j l fun m _ _=>Aoh a g d h k m b
def App c d a e:=
 Aq 1 c fun f=>Ae 3 a e d fun b _ _=>Ar true 3 a b fun g=>Al [g,f] b
def ApI d a b:=
 AN 3 d (iq 0) fun e=>Ad 3 e a fun f _=>Ae 3 b f a fun c _ _=>Ar true 3 b c fun g=>Al [g,iq 0] c
def AoD a d b:=
 Aq 0 a fun e=>Aq 1 a fun f=>Ae 3 b e d fun c g h=>Ab [] g h (Ar true 3 b c fun i=>Al [i,f] c)
def An5 b c d e a f g h i:=
 Ab [(d,[]),(e,[])] b c (is0 a 67 [g,iq 0,h] f fun j k l m=>Ab [] l m (is0 a 34 [j] k fun n o p q=>Ab [] p q (AoD n o i)))
def Ap1 c e a b d f g:=
 Ad 3 e c fun h i=>Ab [(a,[]),(b,[])] i [] (Ay (Ak EE 28 1 [(0,h)]) 52463623 c fun j k l m=>Ab [(a,[]),(b,[])] l m (is0 d 24 [iq 8,j] k fun n o p q=>An5 p q a b d o f n g))
def ApS a d b e f g:=
 Ab [] a [] (AN 3 d (iq 1) fun h=>Ad 3 h b fun i c=>Ab [] c [] (AN 3 e (iq 0) fun j=>Ap1 b j c a f i g))
def AqG d b a c e f:=
 AK EE 3 d (iq 8) fun g=>Ai g (Ac 2 b fun h=>Ah h a fun i _=>ApI i a c) (Ac 2 b fun j=>Ah j a fun k l=>ApS l k a e f c)
def AmU b c a d f g h:=
 Ch EE 3 b (iq 0) fun i=>Ai i (is0 c 44 [b] a fun e j _ _=>Aq 0 e fun k=>App e j d k) (Ac 0 f fun l=>Ah l a fun m _=>AqG m g a d h c)
def Aoa a d e f g h i:=
 is0 a 80 [e,iq 1,f,iq 6] d fun b j _ _=>Aq 0 b fun k=>Aq 1 b fun l=>nw0 52458504 j fun c m _ _=>Ae 3 c k m fun n _ _=>AmU l a n g h c i
def Apm a b c:=
 Ar true 3 b a fun d=>Al [d,c] a
def Anv a d e f b:=
 Ad 3 d a fun g _=>is0 e 84 [f,g] a fun c h _ _=>Aq 0 c fun i=>Aq 1 c fun j=>Ae 3 b i h fun k _ _=>Apm k b j
def AoA a d b:=
 Aq 0 a fun e=>Aq 1 a fun f=>Ae 3 b e d fun c _ _=>Ar true 3 b c fun g=>Al [g,f] c
def AqB c d a e:=
 Aq 1 c fun f=>Ae 3 a e d fun b _ _=>Ar true 3 a b fun g=>Al [g,f] b
def Am2 e a f b g c:=
 AK EE 3 e (iq 13) fun h=>Ai h (Ad 3 f a fun i _=>is0 b 85 [g,i] a fun j k _ _=>AoA j k c) (is0 b 44 [iq 10] a fun d l _ _=>Aq 0 d fun m=>AqB d l c m)
def Apv h f a b c d e g:=
 Ai h (AN 3 f (iq 0) fun i=>Ad 3 i a fun j _=>Aoa b a c j d e f) (AK EE 3 g (iq 7) fun k=>Ai k (Anv a e b c d) (Am2 g a e b c d))
def AoS a (b:V->H->O) c d:=
 Ai a (b a c) (AK EE 3 d (iq 9) fun e=>b e c)
def Apz a b c d e f g:=
 AK EE 3 a (iq 5) fun h=>Ai h (AN 3 b (iq 0) fun i=>Ad 3 i c fun j _=>Anl d c e j f b) ((fun (k:V->H->O)=>AK EE 3 a (iq 8) fun l=>AoS l k c a) fun m n=>Apv m b n d e f g a)
def ApR g a b c d e f h:=
 Ai g (AN 3 a (iq 0) fun i=>Ad 3 i b fun j _=>AmX c b d j e a) (AK EE 3 f (iq 4) fun k=>Ai k (Ano a b c d e) (Apz f a b c d e h))
def Ao2 e f g h a i b:=
 (fun (c:V->H->O)=>AK EE 3 a (iq 3) fun d=>Ai d (c d b) (AK EE 3 a (iq 6) fun j=>c j b)) fun k l=>ApR k e l f g h a i
def S50 (c:Aj) (n:Nat) (d e:V) (f:H):O :=
 AW 52428800 e f fun a g _ _=>nw0 52428801 g fun h b _ _=>Ac 2 a fun i=>Ah i b fun j _=>Ac 0 a fun k=>Ah k b fun l _=>Ao2 j c d h l a b
theorem At7 a n b c d:Au EE a ft.get n 50 [b,c] d=S50 a n b c d:=by kernel_rfl
def Ry b a c:=
 Ai b (Al [iq 3] a) (AK EE 3 c (iq 13) fun d=>Ai d (Al [iq 4] a) (Al [.fv (.int .i64 (-1))] a))
def Si a (b:V->H->O) c d:=
 Ai a (b a c) (AK EE 3 d (iq 27) fun e=>b e c)
def RW c b a:=
 Ai c (Al [iq 2] b) ((fun (d:V->H->O)=>AK EE 3 a (iq 7) fun e=>Si e d b a) fun f g=>Ry f g a)
def SA a (b:V->H->O) c:=
 AK EE 3 a (iq 28) fun d=>Ai d (b d c) (AK EE 3 a (iq 29) fun e=>b e c)
def Q8 a (b:V->H->O) c:=
 AK EE 3 a (iq 22) fun d=>Ai d (b d c) (AK EE 3 a (iq 26) fun e=>Ai e (b e c) (SA a b c))
def Rg a (b:V->H->O) c:=
 AK EE 3 a (iq 20) fun d=>Ai d (b d c) (AK EE 3 a (iq 21) fun e=>Ai e (b e c) (Q8 a b c))
def Sy a (b:V->H->O) c:=
 AK EE 3 a (iq 16) fun d=>Ai d (b d c) (AK EE 3 a (iq 17) fun e=>Ai e (b e c) (Rg a b c))
def Rj a (b:V->H->O) c:=
 AK EE 3 a (iq 5) fun d=>Ai d (b d c) (AK EE 3 a (iq 6) fun e=>Ai e (b e c) (Sy a b c))
def Ta c (a:V->H->O) b d:=
 Ai c (a c b) (AK EE 3 d (iq 4) fun e=>Ai e (a e b) (Rj d a b))
def SX c b a:=
 Ai c (Al [iq 1] b) ((fun (d:V->H->O)=>AK EE 3 a (iq 3) fun e=>Ta e d b a) fun f g=>RW f g a)
def TU a (b:V->H->O) c:=
 AK EE 3 a (iq 24) fun d=>Ai d (b d c) (AK EE 3 a (iq 30) fun e=>b e c)
def Sc a (b:V->H->O) c:=
 AK EE 3 a (iq 19) fun d=>Ai d (b d c) (AK EE 3 a (iq 23) fun e=>Ai e (b e c) (TU a b c))
def Tt a (b:V->H->O) c:=
 AK EE 3 a (iq 12) fun d=>Ai d (b d c) (AK EE 3 a (iq 18) fun e=>Ai e (b e c) (Sc a b c))
def Ti c (a:V->H->O) b d:=
 Ai c (a c b) (AK EE 3 d (iq 9) fun e=>Ai e (a e b) (Tt d a b))
def SW c b a:=
 Ai c (Al [iq 0] b) ((fun (d:V->H->O)=>AK EE 3 a (iq 8) fun e=>Ti e d b a) fun f g=>SX f g a)
def RQ a (b:V->H->O) c:=
 AK EE 3 a (iq 25) fun d=>b d c
def SF a (b:V->H->O) c:=
 AK EE 3 a (iq 14) fun d=>Ai d (b d c) (AK EE 3 a (iq 15) fun e=>Ai e (b e c) (RQ a b c))
def R7 a (b:V->H->O) c:=
 AK EE 3 a (iq 10) fun d=>Ai d (b d c) (AK EE 3 a (iq 11) fun e=>Ai e (b e c) (SF a b c))
def S52 (h:Aj) (n:Nat) (a:V) (b:H):O :=
 (fun (c:V->H->O)=>AK EE 3 a (iq 1) fun d=>Ai d (c d b) (AK EE 3 a (iq 2) fun e=>Ai e (c e b) (R7 a c b))) fun f g=>SW f g a
theorem AsU a n b c:Au EE a ft.get n 52 [b] c=S52 a n b c:=by kernel_rfl
def AmH b a (c:H->O):=
 AK EE 3 b (iq 0) fun d=>Ai d (Al [iq 1] a) (AK EE 3 b (iq 2) fun e=>Ai e (Al [iq 2] a) (c a))
def Akw d c a (b:H->O) e:=
 Ai d (AK EE 3 c (iq 1) fun f=>Ai f (Al [iq 1] a) (b a)) (AK EE 3 e (iq 13) fun g=>Ai g (AmH c a b) (b a))
def Alc a (b:V->H->O) c:=
 AK EE 3 a (iq 29) fun d=>b d c
def AlB a (b:V->H->O) c:=
 AK EE 3 a (iq 20) fun d=>Ai d (b d c) (AK EE 3 a (iq 28) fun e=>Ai e (b e c) (Alc a b c))
def Ala c (a:V->H->O) b d:=
 Ai c (a c b) (AK EE 3 d (iq 6) fun e=>Ai e (a e b) (AlB d a b))
def S54 (k:Aj) (n:Nat) (a e:V) (b:H):O :=
 (fun (f:H->O)=>(fun (c:V->H->O)=>AK EE 3 a (iq 3) fun d=>Ai d (c d b) (AK EE 3 a (iq 4) fun g=>Ala g c b a)) fun h i=>Akw h e i f a) fun j=>Al [iq 0] j
theorem AuU a n b c d:Au EE a ft.get n 54 [b,c] d=S54 a n b c d:=by kernel_rfl
def S55 (j:Aj) (n:Nat) (e b:V) (c:H):O :=
 C5 EE 3 .rem e b fun a=>(fun (d:V->H->O)=>Hu EE 3 a (iq 0) fun f=>Ai f (BD EE 3 a b fun g=>d g c) (d a c)) fun h i=>Al [h] i
theorem ArE a n b c d:Au EE a ft.get n 55 [b,c] d=S55 a n b c d:=by kernel_rfl
def XM d e a b:=
 AN 3 d e fun f=>Ad 3 f a fun g _=>Ae 3 b g a fun c _ _=>Ar true 3 b c fun h=>Al [h] c
def WK c d e f a:=
 C5 EE 3 .mul (iq 7) c fun g=>BD EE 3 d g fun h=>By [iq 0,iq 0,.nils] [(0,1,e),(1,1,h)] fun i=>Ae 3 a i f fun b _ _=>Ar true 3 a b fun j=>Al [j] b
def Wp c a d b e:=
 C5 EE 3 .quo c (iq 3) fun f=>BD EE 3 f a fun g=>Ac 1 d fun h=>Ah h b fun i _=>C5 EE 3 .quo i (iq 5) fun j=>WK a j g b e
def WW e b a c d:=
 Ai e (Ac 2 b fun f=>Ah f a fun g _=>XM g c a d) (Ac 0 b fun h=>Ah h a fun i _=>Wp i c b a d)
def S56 (l:Aj) (n:Nat) (d a:V) (e:H):O :=
 AW 58720256 d e fun b f _ _=>nw0 58720257 f fun g c _ _=>Ac 2 b fun h=>Ah h c fun i _=>B9 i fun j=>Hu EE 3 a j fun k=>WW k b c a g
theorem Aus a n b c d:Au EE a ft.get n 56 [b,c] d=S56 a n b c d:=by kernel_rfl
def Rn h (i:H) j a b c d e f (k:List V->H->O):=
 BD EE 3 h (iq 1) fun g=>Bx (i.own.map (·.1)) [60823568,60825603] [a,b,c,d,e,f,g] j fun l=>k [a,b,c,d,e,f,g] l
def QY a b c (d:V->H->O):=
 Ay (Ak EE 75 1 [(0,b)]) 60825602 a fun e f _ _=>Ay (AO EE 60825603 false .append [75,75] [c,e]) 60825603 f fun g h _ _=>d g h
def TL f g a b h i j k c (d:V->H->O):=
 Ab [] f g (Aa b true a (fun l=>is0 h 17 [i,j] a l) fun m e n o=>Ab [] n o (AF b m bF fun p=>Ai p (QY e k c d) (d c e)))
def Rv d a b h i j k l m (n:V->H->O):=
 Aa a true d (fun o=>is0 b 86 [h] d o) fun p c e f=>Ab [] e f (Aa a true c (fun q=>Ad 3 i c fun r s=>q r c s []) fun t g u v=>Ab [(e,f),(j,k)] u v (Aa a true g (fun w=>is0 b 86 [t] g w) fun x y z A=>TL z A y a b p x l m n))
def Q0 f g h i j k l (m:V->H->O):=
 nw0 60823568 f fun b n _ _=>Ae 3 b g n fun a _ _=>AK EE 3 h (iq 0) fun c=>Aa c true a (fun o=>Ad 3 b a fun p q=>o p a q []) fun r s d e=>Ab [] d e (Rv s c i r j d e k l m)
def S9 b a d e f g (h:V->H->O):=
 BD EE 3 b (iq 1) fun i=>is0 a 45 [e,i,iq 0] d fun j k _ _=>is0 a 34 [j] k fun c l _ _=>Aq 0 c fun m=>Aq 1 c fun n=>Q0 l m n a f b g h
def Q6 c a d b e f g (h:V->H->O):=
 Bd EE 3 c (iq 1) fun i=>Bd EE 3 i a fun j=>AN 4 d j fun k=>Ac 1 k fun l=>Ad 3 l b fun m _=>S9 a e b m f g h
def RP e a f (b:V->H->O) c d g h i:=
 Ac 0 e fun j=>Ah j a fun k _=>Ch EE 3 k f fun l=>Ai l (b c a) (B9 d fun m=>Q6 m g d a h i c b)
def Sb b e a c f d g (h:List V->H->O) i j k:=
 (fun (l:V->H->O)=>B9 a fun m=>Bd EE 3 m (iq 1) fun n=>Bd EE 3 n b fun o=>AN 4 a o fun p=>RP p i c l j a b k d) fun q r=>Rn b e r a c f d g q h
def Ty c a d:=
 Ae 3 a d c fun b _ _=>Ar true 3 a b fun e=>Al [e,bF] b
def Sa a b:=
 Ar true 3 b a fun c=>Al [c,bT] a
def Rp a d e f g b:=
 is0 a 55 [e,f] d fun h c _ _=>AN 1 g h fun i=>Ah i c fun j _=>is0 a 25 [j] c fun k l _ _=>Ae 3 b k l fun m _ _=>Sa m b
def So a b c d e:=
 B9 a fun f=>AK EE 3 f (iq 0) fun g=>Ai g (By [iq 0,iq 0,.nils] [] fun h=>Ty b c h) (B9 a fun i=>Rp d b e i a c)
def Rf (h:List V) a i j b k c (l:List V->H->O) d e:=
 AD h fun f m=>AD m fun g _=>B9 a fun n=>Hu EE 3 g n fun o=>Ai o (Sb g i a j b k c l d f e) (So f d c e b)
def Ad4 (a:List V) b (c:List V->H->O) d e:=
 AD a fun f g=>AD g fun h i=>AD i fun j k=>AD k fun l m=>AD m fun n o=>Rf o f b h j l n c d e
def S58 (g:Aj) (n:Nat) (b c h d:V) (a:H):O :=
 AW 60817408 h a fun e i _ _=>nw0 60817409 i fun f j _ _=>Bx (a.own.map (·.1)) [60823568,60825603] [b,c,d,e,f,.nils,iq 0] j fun k=>BH n (fun l m o=>Ad4 m a l o g) [b,c,d,e,f,.nils,iq 0] k
theorem Au1 a n b c d e f:Au EE a ft.get n 58 [b,c,d,e] f=S58 a n b c d e f:=by kernel_rfl
def AbU a b c:=
 Ar true 3 b a fun d=>Al [d,c] a
def Agm a b f g c h:=
 Aa b true a (fun i=>i f a [] []) fun j d _ _=>AF b j bF fun e=>Aa e true d (fun k=>k g d [] []) fun l m _ _=>AF e l bF fun n=>Ae 3 c h m fun o _ _=>AbU o c n
def Afn a b c d e f g h i:=
 Ad 3 b a fun j _=>Ad 3 c a fun k _=>Ad 3 d a fun l _=>Ay (Ak EE 28 3 [(0,j),(1,k),(2,l)]) 61873155 a fun m n _ _=>is0 e 24 [iq 27,m] n fun o p _ _=>Agm p f g h i o
def AaU b c d e f g h i j k l m n o p:=
 Aq 1 b fun q=>nw0 61872138 c fun a r s t=>Ab [(d,e),(f,g),(h,[]),(i,[])] s t (Ae 3 a j r fun u v w=>Ab [] v w (Afn u k l a m n o q p))
def ZK a b c h d i j k l m n o p q r:=
 Ab [(c,[])] a b (Bd EE 3 h (iq 2) fun s=>is0 d 33 [j,k,l,s] i fun e t f g=>Ab [] f g (Aq 0 e fun u=>AaU e t f g a b m c u n o d p q r))
def AgH a e f c g h i j k l m:=
 Ad 3 e a fun n b=>Ab [] b [] (Ad 3 f a fun o d=>Ab [(b,[])] d [] (is0 c 56 [o,iq 2] a fun p q r s=>ZK r s b g c q h n p d i j k l m))
def AfG b c d e f g h i j k l m n o p q r:=
 Aq 1 b fun s=>nw0 61871114 c fun a t u v=>Ab [(d,e),(f,g),(h,[]),(i,[])] u v (Ae 3 a j t fun w x y=>Ab [] x y (AgH w k l m n o p a q s r))
def X8 a b c d e j f k l m n o p q r:=
 Ab [(c,[])] a b (Bd EE 3 d (iq 2) fun s=>is0 e 33 [f,k,l,s] j fun g t h i=>Ab [] h i (Aq 0 g fun u=>AfG g t h i a b m c u n o e d f p q r))
def AaD a c d e g h i j k:=
 Ad 3 c a fun l b=>Ab [] b [] (Ad 3 d a fun m f=>Ab [(b,[])] f [] (is0 e 56 [m,iq 1] a fun n o p q=>X8 p q b g e o h l n f c d i j k))
def Aa6 b c d e f g h i j k l m n o p:=
 Aq 1 b fun q=>nw0 61870090 c fun a r s t=>Ab [(d,e),(f,g),(h,[]),(i,[])] s t (Ae 3 a j r fun u v w=>Ab [] v w (AaD u k l m n o a q p))
def Ahl a b c d e j f k l m n o p:=
 Ab [(c,[])] a b (Bd EE 3 d (iq 2) fun q=>is0 e 33 [f,k,l,q] j fun g r h i=>Ab [] h i (Aq 0 g fun s=>Aa6 g r h i a b m c s n o e d f p))
def Abk a f c d g h i j:=
 Ad 3 f a fun k b=>Ab [] b [] (Ad 3 c a fun l e=>Ab [(b,[])] e [] (is0 d 56 [l,iq 0] a fun m n o p=>Ahl o p b g d n h k m e i c j))
def AcZ c a d e:=
 Ae 3 a d c fun b _ _=>Ar true 3 a b fun f=>Al [f,e] b
def Ago a d e f b g h:=
 Ad 3 d a fun i _=>Ay (Ak EE 28 2 [(0,e),(1,i)]) 61878274 a fun j k _ _=>is0 f 24 [iq 28,j] k fun l c _ _=>Aa b true c (fun m=>m g c [] []) fun n o _ _=>AF b n bF fun p=>AcZ o h l p
def Abx c d e f g h i j k l m n o p q r s t:=
 nw0 61877261 c fun a u v w=>Ab [(d,e),(f,g),(h,[]),(i,j),(k,[]),(l,m),(n,[])] v w (Ae 3 a o u fun b x y=>Ab [] x y (Ad 3 p b fun z _=>Ago b a z q r s t))
def AgG e a f g h i j k l m n o p q r s t u:=
 Bd EE 3 e (iq 2) fun v=>is0 a 33 [g,h,i,v] f fun b w c d=>Ab [] c d (Aq 0 b fun x=>Aq 1 b fun y=>Abx w c d j k l m n o p q r x s a t y u)
def Afp a b c l d e f g h m n o p q r:=
 Ab [] a b (Ad 3 l c fun s i=>Ab [(a,b),(d,[]),(e,f),(g,[])] i [] (is0 h 56 [s,iq 2] c fun t u j k=>Ab [] j k (AgG m h u n o t j k i a b d e f g p q r)))
def Aat a g h i j d k l m n o:=
 is0 a 60 [h,iq 0,i] g fun p e b c=>Ab [] b c (Ad 3 j e fun q f=>Ab [(b,c),(d,[])] f [] (is0 a 45 [q,iq 1,iq 0] e fun r s t u=>Afp t u s k f b c d a l p r m n o))
def AfT d e f g h i j k l a m n o p q r s t u:=
 Ab [(f,g),(h,i),(j,[]),(k,[])] d e (Ae 3 a m l fun b v w=>Ab [] v w (Ad 3 n b fun x c=>Ab [] c [] (Aat o b p x q c r s a t u)))
def Ace a f b g h i j k l m n o p q r:=
 is0 a 33 [b,g,h,i] f fun c s d e=>Ab [] d e (Aq 0 c fun t=>Aq 1 c fun u=>nw0 61876234 s fun v w x y=>AfT x y d e j k l m w v t n a b o p q u r)
def Ac8 b c a d e i j k l m:=
 Ad 3 c b fun n f=>Ab [(a,[])] f [] (is0 d 56 [n,iq 1] b fun o p g h=>Ab [(a,[])] g h (Bd EE 3 e (iq 2) fun q=>Ace d p i j o q g h f a k l c e m))
def Afb b e f g h i j k:=
 is0 b 28 [f,iq 1] e fun l m _ _=>nw0 61875203 m fun a n _ _=>Ae 3 a l n fun c _ _=>Ad 3 a c fun o d=>Ab [] d [] (Ac8 c g d b h i o a j k)
def Zq a b e c f:=
 Aa b true a (fun g=>g e a [] []) fun h i _ _=>AF b h bF fun j=>Ae 3 c f i fun d k l=>Ab [] k l (Ar true 3 c d fun m=>Al [m,j] d)
def ZP a b c d e f g h i j k l m n:=
 Ab [(b,c),(d,e),(f,[]),(g,[])] a [] (Ay (Ak EE 28 2 [(0,i),(1,j)]) 61883397 h fun o p q r=>Ab [] q r (is0 k 24 [iq 21,o] p fun s t u v=>Ab [] u v (Zq t l m n s)))
def Zb g h i a j k l m n o:=
 Ay (Ak EE 28 2 [(0,h),(1,i)]) 61883394 g fun p q b c=>Ab [] b c (is0 a 24 [iq 20,p] q fun r d e f=>Ab [] e f (Ad 3 j d fun s t=>ZP t e f b c k l d r s a m n o))
def AdY d e a f g h i j k l:=
 Ab [] d e (Ad 3 f a fun m b=>Ab [] b [] (Ad 3 g a fun n c=>Ab [(b,[])] c [] (Zb a m n h i c b j k l)))
def AbR a c d e f g h i j k l m n o p q r s:=
 Aq 0 a fun t=>Aq 1 a fun u=>nw0 61882381 c fun b v w x=>Ab [(d,e),(f,g),(h,[]),(i,j),(k,[]),(l,m),(n,[])] w x (Ae 3 b t v fun y z A=>AdY z A y o b p q r u s)
def Aan a f g h i j k l m n o p q r s t u:=
 is0 a 56 [g,iq 2] f fun v w b c=>Ab [] b c (Bd EE 3 h (iq 2) fun x=>is0 a 33 [i,j,v,x] w fun y z d e=>Ab [] d e (AbR y z d e b c k l m n o p q r a s t u))
def AcQ a b c d g j k l m n o p q r:=
 Ab [(b,c),(d,[])] a [] (is0 g 45 [k,iq 1,iq 0] j fun s h e f=>Ab [] e f (Ad 3 l h fun t i=>Ab [(e,f),(a,[]),(b,c),(d,[])] i [] (Aan g h t m n s i e f a b c d o p q r)))
def AeZ a b c h i j k l m n:=
 Ad 3 b a fun o d=>Ab [] d [] (is0 c 60 [h,iq 0,o] a fun p e f g=>Ab [] f g (Ad 3 i e fun q r=>AcQ r f g d c e q j k p b l m n))
def Aep b c d e f g h i j k l m n o p q:=
 Aq 1 b fun r=>nw0 61881354 c fun a s t u=>Ab [(d,e),(f,g),(h,[]),(i,[])] t u (Ae 3 a j s fun v w x=>Ab [] w x (AeZ v k l m n o p a r q))
def AbY a b c d e j f k l m n o p q:=
 Ab [(c,[])] a b (Bd EE 3 d (iq 2) fun r=>is0 e 33 [f,k,l,r] j fun g s h i=>Ab [] h i (Aq 0 g fun t=>Aep g s h i a b m c t n e f o p d q))
def AbI a c d e g h i j:=
 Ad 3 c a fun k b=>Ab [] b [] (Ad 3 d a fun l f=>Ab [(b,[])] f [] (is0 e 56 [l,iq 1] a fun m n o p=>AbY o p b g e n h k m f c i d j))
def AeV b c a e f g h:=
 Ad 3 c b fun i _=>is0 a 56 [i,iq 0] b fun j k _ _=>is0 a 28 [j,iq 1] k fun l m _ _=>nw0 61880323 m fun d n _ _=>Ae 3 d l n fun o _ _=>AbI o d c a e f g h
def Ae2 c d e a f:=
 AF c d bF fun g=>Ae 3 a f e fun b _ _=>Ar true 3 a b fun h=>Al [h,g] b
def Af1 d e f a b g h:=
 Ay (Ak EE 28 2 [(0,e),(1,f)]) 61887490 d fun i j _ _=>is0 a 24 [iq 22,i] j fun k l _ _=>Ay (Ak EE 28 1 [(0,k)]) 61887492 l fun m n _ _=>is0 a 24 [iq 23,m] n fun o c _ _=>Aa b true c (fun p=>p g c [] []) fun q r _ _=>Ae2 b q r h o
def Ab0 c d e f g h i j k b l m n o p q:=
 Ab [(e,f),(g,h),(i,[]),(j,[])] c d (Ae 3 b l k fun a r s=>Ab [] r s (Ad 3 m a fun t _=>Ad 3 b a fun u _=>Af1 a t u n o p q))
def AfD a e f g h i j k l m n o p:=
 is0 a 33 [f,g,h,i] e fun b q c d=>Ab [] c d (Aq 0 b fun r=>Aq 1 b fun s=>nw0 61886474 q fun t u v w=>Ab0 v w c d j k l m u t r n a o s p)
def Yn b g a c h i j k l m:=
 Ad 3 g b fun n d=>Ab [(a,[])] d [] (is0 c 56 [n,iq 1] b fun o p e f=>Ab [(a,[])] e f (Bd EE 3 h (iq 2) fun q=>AfD c p i j o q e f d a k l m))
def AbA d e f g h i j k l a m n o p q r s t:=
 Ab [(f,g),(h,i),(j,[]),(k,[])] d e (Ae 3 a m l fun b u v=>Ab [] u v (Ad 3 n b fun w c=>Ab [] c [] (Yn b o c p q r w a s t)))
def Yp a f b g h i j k l m n o p q:=
 is0 a 33 [b,g,h,i] f fun c r d e=>Ab [] d e (Aq 0 c fun s=>Aq 1 c fun t=>nw0 61885450 r fun u v w x=>AbA w x d e j k l m v u s n o a p b t q)
def Af0 b c a d e i j k l:=
 Ad 3 c b fun m f=>Ab [(a,[])] f [] (is0 d 56 [m,iq 0] b fun n o g h=>Ab [(a,[])] g h (Bd EE 3 e (iq 2) fun p=>Yp d o i j n p g h f a k c e l))
def AbW c a d e:=
 Ae 3 a d c fun b _ _=>Ar true 3 a b fun f=>Al [f,e] b
def Ac3 b c a d e f g h:=
 Ab [] b c (Ad 3 d a fun i _=>Ad 3 e a fun j _=>Ay (Ak EE 28 2 [(0,i),(1,j)]) 61890562 a fun k l _ _=>is0 f 24 [iq 29,k] l fun m n _ _=>AbW n g m h)
def Yt a c d e f g h i j k l m n o p q:=
 Aq 0 a fun r=>Aq 1 a fun s=>nw0 61889549 c fun b t u v=>Ab [(d,e),(f,g),(h,[]),(i,j),(k,[]),(l,m),(n,[])] u v (Ae 3 b r t fun w x y=>Ac3 x y w o b p q s)
def AfR a f g h i j k l m n o p q r s:=
 is0 a 56 [g,iq 0] f fun t u b c=>Ab [] b c (Bd EE 3 h (iq 2) fun v=>is0 a 33 [i,j,t,v] u fun w x d e=>Ab [] d e (Yt w x d e b c k l m n o p q r a s))
def Abz a b c d g j k l m n o p:=
 Ab [(b,c),(d,[])] a [] (is0 g 45 [k,iq 1,iq 0] j fun q h e f=>Ab [] e f (Ad 3 l h fun r i=>Ab [(e,f),(a,[]),(b,c),(d,[])] i [] (AfR g h r m n q i e f a b c d o p)))
def AcP b a c h i j k:=
 Ad 3 a b fun l d=>Ab [] d [] (is0 c 60 [h,iq 0,l] b fun m e f g=>Ab [] f g (Ad 3 a e fun n o=>Abz o f g d c e n i j m a k))
def AaE c d e a f:=
 Ay (Ak EE 28 1 [(0,d)]) 61892609 c fun g h _ _=>is0 e 24 [iq 30,g] h fun i j _ _=>Ae 3 a i j fun b _ _=>Ar true 3 a b fun k=>Al [k,f] b
def Agg c d e f g h i j k l m n o p q:=
 nw0 61891596 c fun a r s t=>Ab [(d,e),(f,g),(h,[]),(i,j),(k,l),(m,[])] s t (Ae 3 a n r fun b u v=>Ab [] u v (Ad 3 a b fun w _=>AaE b w o p q))
def Ada e a f g h i j k l m n o p q r:=
 Bd EE 3 e (iq 1) fun s=>is0 a 39 [g,h,i,s] f fun b t c d=>Ab [] c d (Aq 0 b fun u=>Aq 1 b fun v=>Agg t c d j k l m n o p q u a r v)
def Ad7 a b c k d e f g l m n o:=
 Ab [] a b (Ad 3 k c fun p h=>Ab [(a,b),(d,e),(f,[])] h [] (is0 g 56 [p,iq 0] c fun q r i j=>Ab [] i j (Ada l g r m n q i j h a b d e f o)))
def Ads a f b g h i j:=
 Ad 3 f a fun k c=>Ab [] c [] (Ay (Ak EE 28 1 [(0,k)]) 61891586 a fun l m d e=>Ab [] d e (is0 b 24 [iq 18,l] m fun n o p q=>Ad7 p q o g d e c b h i n j))
def Zw h a b c d e f j g:=
 AK EE 3 h (iq 3) fun k=>Ai k (Ad 3 b a fun l i=>Ab [] i [] (Af0 a c i d e f l j g)) (AK EE 3 h (iq 4) fun m=>Ai m (AcP a b d f c e g) (Ads a b d c e f g))
def Ahc d a b c e f g h i:=
 AK EE 3 d (iq 1) fun j=>Ai j (Ad 3 b a fun k _=>is0 c 56 [k,iq 0] a fun l m _ _=>Afb c m l b e f g h) (AK EE 3 d (iq 2) fun n=>Ai n (AeV a b c e f g h) (Zw d a g b c e f i h))
def Ag2 a c b d e f g h:=
 Ac 1 a fun k=>Ah k c fun l _=>is0 b 55 [l,iq 7] c fun i j _ _=>AK EE 3 i (iq 0) fun m=>Ai m (Abk j d a b e f g h) (Ahc i j a b e f g h d)
def S59 (a:Aj) (n:Nat) (c d e f:V) (g:H):O :=
 AW 61865984 d g fun h i _ _=>AW 61865985 e i fun j k _ _=>nw0 61865986 k fun l m _ _=>is0 a 24 [iq 15,.nils] m fun o p _ _=>nw0 61867009 p fun b q _ _=>Ae 3 b o q fun r _ _=>Ag2 j r a b f c h l
theorem AsT a n b c d e f:Au EE a ft.get n 59 [b,c,d,e] f=S59 a n b c d e f:=by kernel_rfl
def XB a b c d:=
 Ab [] a b (Al [d] c)
def WG e a b c d f g h i:=
 Ab [(a,b),(c,d)] e [] (By [iq 0,iq 0,iq 0,.nils] [(0,1,f),(1,3,g)] fun j=>Ay (Ak EE 27 1 [(0,j)]) 62915590 h fun k l m n=>Ab [(a,b),(c,d)] m n (Ay (AO EE 62915591 false .append [27,27] [i,k]) 62915591 l fun o p q r=>XB q r p o))
def S60 (r:Aj) (n:Nat) (f g h:V) (i:H):O :=
 AW 62914560 h i fun j k _ _=>Ay (Ak EE 27 0 []) 62915584 k fun l m a b=>Ab [] a b (Ay (AO EE 62915586 false .append [27,27] [l,f]) 62915586 m fun o c d e=>Ab [] d e (Ad 3 j c fun p q=>WG q d e a b g p c o))
theorem Ata a n b c d e:Au EE a ft.get n 60 [b,c,d] e=S60 a n b c d e:=by kernel_rfl
def EZ c a:=
 By [iq 0,iq 0,.nils] [] fun d=>Ae 3 a d c fun b _ _=>Ar true 3 a b fun e=>Al [e] b
def ED c d e a:=
 is0 c 25 [e] d fun f g _ _=>Ae 3 a f g fun b _ _=>Ar true 3 a b fun h=>Al [h] b
def E7 b c a d e:=
 Bd EE 3 b (iq 1) fun f=>AH c fun g=>Ac 1 g fun h=>Ah h a fun i _=>Bd EE 3 f i fun j=>ED d a j e
def ES (h:H) i a b c d e f g (j:List V->H->O):=
 Bx (h.own.map (·.1)) [63982597,63984651] [a,b,c,d,e,f,g] i fun k=>j [a,b,c,d,e,f,g] k
def E6 b c a d e f g h i j k l (m:List V->H->O):=
 Ab [] b c (Ac 2 a fun n=>Bp n e d fun o p q=>Ab [] p q (BD EE 3 f (iq 1) fun r=>ES g o h i j k l a r m))
def EW c d a e f g b h i j k l m n o (p:List V->H->O):=
 A0 [true,false,false,false] false false c 61 [a,e,f,g] d fun q r s t=>Ab [(b,[])] s t (Ay (Ak EE 28 1 [(0,q)]) 63984650 r fun u v w x=>Ab [(b,[])] w x (Ay (AO EE 63984651 false .append [28,28] [h,u]) 63984651 v fun y z A B=>E6 A B i z y j k a l m n o p))
def Hz a b c f d g h i j k l m (n:List V->H->O):=
 Ac 2 a fun o=>Ah o b fun p e=>Ab [] e [] (BD EE 3 c f fun q=>BD EE 3 d (iq 1) fun r=>EW g b h i q r e p a j k l c d m n)
def EX (l:H) m a b c d e f g h i j k (n:List V->H->O):=
 Bx (l.own.map (·.1)) [63982597] [a,b,c,d,e,f,g,h,i,j,k] m fun o=>n [a,b,c,d,e,f,g,h,i,j,k] o
def ER b c d e f g h i j k l m n o p (q:List V->H->O):=
 By [iq 0,iq 0,.nils,.nils,iq 0,iq 0,.nils] [(0,1,iq 1),(1,1,b)] fun a=>fzS (K5 true 63982597 a) 63982597 a c fun r s _ _=>Ay (Ak EE 114 1 [(0,r)]) 63982598 s fun t u _ _=>is0 d 87 [e,t] u fun v w _ _=>BD EE 3 f (iq 1) fun x=>EX g w h i j k l m n o p v x q
def E8 c a d b e (f:V->V->V->V->V->V->V->V->V->H->O) g h i j k l m:=
 Ac 4 c fun n=>Ad 3 n a fun o _=>A0 [true,false,false] false false d 62 [b,o,e] a fun p q _ _=>f b g h i j k l m p q
def EO (n:List V) a b d e f o g h i j k l m (p:List V->H->O) (q:V->V->V->V->V->V->V->V->V->H->O):=
 AD n fun c _=>Hu EE 3 c a fun r=>Ai r (BD EE 3 b c fun s=>ER s d e f c o g h b i j k l a m p) (AH m fun t=>E8 t d e g f q h b i j k l a)
def EN (a:List V) b c d e f g h i (j:List V->H->O) (k:V->V->V->V->V->V->V->V->V->H->O):=
 AD a fun l m=>AD m fun n o=>AD o fun p q=>AD q fun r s=>AD s fun t u=>EO u p b c d t e f g h i l n r j k
def Hw (a:List V) b c d (e:List V->H->O) (f:V->V->V->V->V->V->V->V->V->H->O):=
 AD a fun g h=>AD h fun i j=>AD j fun k l=>AD l fun m n=>AD n fun o p=>EN p k b c d g i m o e f
def EG a m (b:H) c d e f g h i j k n o (p:V->V->V->V->V->V->V->V->V->H->O):=
 Ah m a fun l _=>Bx (b.own.map (·.1)) [63982597] [c,d,e,f,g,h,i,j,k,l,iq 0] a fun q=>BH n (fun r s t=>Hw s t o b r p) [c,d,e,f,g,h,i,j,k,l,iq 0] q
def E0 l a b m c d e f g h i j n o (k:V->V->V->V->V->V->V->V->V->H->O):=
 Ai l (AH a fun p=>Ac 3 p fun q=>EG b q m c d e f g h i j a n o k) (k c d e f g h i j a b)
def EJ a f b c d (g:List V->H->O) e h i j k l m n:=
 Ah f a fun o _=>AN 1 o b fun p=>Ah p a fun q _=>(fun (r:V->V->V->V->V->V->V->V->V->H->O)=>LU EE 3 e (iq 0) fun s=>E0 s q a d h i j k l m b e n c r) fun t u v w x y z A B C=>Hz y C v A w c t B z d u x g
def EL e a b c d f (g:List V->H->O) h i j k l n:=
 Ac 0 e fun m=>Ah m a fun o _=>is0 b 54 [o,c] a fun p q _ _=>AH d fun r=>Ac 2 r fun s=>EJ q s c b f g p h d i j k l n
def EF c a d:=
 Ae 3 a d c fun b _ _=>Ar true 3 a b fun e=>Al [e] b
def E3 f b c a g h (i:List V->H->O) j k l d e n:=
 B9 f fun m=>Hu EE 3 b m fun o=>Ai o (AH c fun p=>EL p a g b c h i j k l d e n) (Ad 3 e a fun q _=>EF a d q)
def EK (c:List V) a b d e (f:List V->H->O) g h i j n:=
 AD c fun k l=>AD l fun m _=>AH a fun o=>Ac 2 o fun p=>Ah p b fun q _=>E3 q m a b d e f g h i j k n
def FC (a:List V) b c d (e:List V->H->O) n:=
 AD a fun f g=>AD g fun h i=>AD i fun j k=>AD k fun l m=>AD m fun o p=>EK p h b c d e f j l o n
def EU h i j k l a m (b:H) c d e f g n o:=
 Ab [(j,[]),(k,[])] h i (Ae 3 a m l fun p q r=>Ab [] q r (Bx (b.own.map (·.1)) [63982597,63984651] [c,d,e,f,g,a,iq 0] p fun s=>BH n (fun t u v=>FC u v o b t n) [c,d,e,f,g,a,iq 0] s))
def EQ d a b e f g h i j k n l:=
 Ac 1 d fun m=>Ah m a fun o c=>Ab [(b,[])] c [] (By [iq 0,iq 0,.nils] [(0,1,e),(1,1,o)] fun p=>nw0 63971337 a fun q r s t=>EU s t c b r q p f g h i j k n l)
def Fa a b d e f g h n i:=
 AH a fun j=>Ac 0 j fun k=>Ah k b fun l c=>Ab [] c [] (AH a fun m=>EQ m b c l d e a f g h n i)
def EH a b c d e f g h n:=
 AH a fun i=>Ac 0 i fun j=>Ah j b fun k _=>AK EE 3 k (iq 1) fun l=>Ai l (E7 c a b d e) (Fa a b f g c h e n d)
def EP b a c d e f g h n:=
 AH b fun i=>Ac 2 i fun j=>Ah j a fun k _=>Ch EE 3 k (iq 0) fun l=>Ai l (EZ a c) (EH d a e f c g b h n)
def EM a b (c:H->O):=
 Ac 2 a fun d=>Bp d (iq 5) b fun e _ _=>c e
def E9 a b e f g (c:H->O):=
 Aa b true a (fun h=>AF e bT f fun i=>h i a [] []) fun j d _ _=>AF b j bF fun k=>Ai k (AH g fun l=>EM l d c) (c d)
def E5 b a h i j (k:H->O):=
 Aa a true b (fun l=>Ah h b fun m n=>l m b n []) fun o d _ _=>Aa a true d (fun p=>LU EE 3 o (iq 3000) fun q=>p q d [] []) fun r e _ _=>Aa a true e (fun s=>s r e [] []) fun c f _ _=>Aa c false f (fun t=>t i f [] []) fun u g _ _=>Aa c false g (fun v=>LU EE 3 u (iq 120) fun w=>v w g [] []) fun x y _ _=>E9 y a c x j k
def ET b f c g (h:H->O):=
 Ah f b fun i _=>AK EE 3 i (iq 0) fun a=>Aa a true b (fun j=>j c b [] []) fun k d _ _=>Aa a true d (fun l=>AH k fun m=>l m d [] []) fun n e _ _=>Aa a true e (fun o=>Ac 1 n fun p=>o p e [] []) fun q r _ _=>E5 r a q g c h
def EY c d e a f g h i j b n:=
 Ac 1 c fun k=>Bp k e d fun l _ _=>(fun (m:H->O)=>AH a fun o=>Ac 2 o fun p=>ET l p a b m) fun q=>EP a q f g h i j b n
def S61 (d:Aj) (n:Nat) (a e f g:V) (b:H):O :=
 nw0 63963136 b fun h c _ _=>AH a fun i=>Ac 1 i fun j=>Ah j c fun k _=>BD EE 3 k (iq 1) fun l=>AH a fun m=>EY m c l a h e f d b g n
theorem Atf a n b c d e f:Au EE a ft.get n 61 [b,c,d,e] f=S61 a n b c d e f:=by kernel_rfl
def Ji a:=
 By [iq 0,iq 0,.nils,.nils,iq 0,iq 0,.nils] [(0,1,iq 11)] fun b=>AW 65013761 b a fun c d _ _=>Al [c] d
def Je a b:=
 Ah b a fun c _=>Al [c] a
def I9 b c a d:=
 Bd EE 3 b (iq 1) fun e=>Ac 1 c fun f=>Ah f a fun g _=>Bd EE 3 e g fun h=>AN 1 d h fun i=>Je a i
def Jk a b:=
 AW 65017863 b a fun c d _ _=>Al [c] d
def I2 b c a:=
 Bd EE 3 b (iq 1) fun d=>Ac 1 c fun e=>Ah e a fun f _=>Bd EE 3 d f fun g=>By [iq 0,iq 0,.nils,.nils,iq 0,iq 0,.nils] [(0,1,iq 1),(1,1,g)] fun h=>Jk a h
def JA b d a c:=
 Ah d b fun e _=>B9 a fun f=>Hu EE 3 e f fun g=>Ai g (B9 a fun h=>I9 h c b a) (B9 a fun i=>I2 i c b)
def Jt f (g:H) h a b c d (i:List V->H->O):=
 BD EE 3 f (iq 1) fun e=>Bx (g.own.map (·.1)) [65024012,65024014,65025038] [a,b,c,d,e] h fun j=>i [a,b,c,d,e] j
def IZ a b c (d:H->O):=
 AH a fun e=>Ac 2 e fun f=>Bp f c b fun g h i=>Ab [] h i (d g)
def Jl b c a d e f g (h:H->O):=
 Ab [(a,[])] b c (Ay (Ak EE 114 1 [(0,e)]) 65024013 d fun i j k l=>Ab [(a,[])] k l (Ay (AO EE 65024014 false .append [114,114] [f,i]) 65024014 j fun m n o p=>Ab [] o p (IZ g n m h)))
def Jn c d a b e f g (h:H->O):=
 AN 3 c d fun i=>Ad 3 i a fun j k=>Ab [(b,[])] k [] (By [iq 0,iq 0,.nils,.nils,iq 0,iq 0,.nils] [(3,1,e),(4,3,j)] fun l=>AW 65024012 l a fun m n o p=>Jl o p b n m f g h)
def Jr a c d e f g (h:H->O):=
 Ah c a fun i b=>Ab [] b [] (Ac 2 d fun j=>Ah j a fun k l=>Ab [(b,[])] l [] (Jn k e a b f i g h))
def IW a b c (d:H->O):=
 Ac 2 a fun e=>Bp e c b fun f g h=>Ab [] g h (d f)
def II a b c d e (f:H->O):=
 Ay (Ak EE 114 1 [(0,b)]) 65025037 a fun g h i j=>Ab [(c,[])] i j (Ay (AO EE 65025038 false .append [114,114] [d,g]) 65025038 h fun k l m n=>Ab [] m n (AH e fun o=>IW o l k f))
def IH c d b a e f g h i (j:H->O):=
 AN 3 c d fun k=>Ad 3 k b fun l m=>Ab [(a,[])] m [] (A0 [true,false,false] false false e 62 [f,l,g] b fun n o p q=>Ab [(a,[])] p q (II o n a h i j))
def Jy a c d e f g h i (j:H->O):=
 Ah c a fun k b=>Ab [] b [] (Ac 2 d fun l=>Ah l a fun m n=>Ab [(b,[])] n [] (IH m e a b f g h k i j))
def Ja g a b c d e (f:H->O) h i:=
 Ai g (AH a fun j=>Ac 2 j fun k=>Jr b k c d e a f) (AH a fun l=>Ac 2 l fun m=>Jy b m c d h i e a f)
def IJ a h c d b e (i:List V->H->O) f g:=
 (fun (j:H->O)=>Ac 0 b fun k=>Ah k f fun l _=>is0 g 54 [l,a] f fun m n _ _=>LU EE 3 m (iq 0) fun o=>Ja o e n b a d j g c) fun p=>Jt a h p c d b e i
def IM a b c d:=
 A0 [true,false] false false a 88 [c,d] b fun e f _ _=>Al [e] f
def IR b a c g d h e (i:List V->H->O) f:=
 Ac 2 b fun j=>Ah j a fun k _=>B9 k fun l=>Hu EE 3 c l fun m=>Ai m (IJ c g d h b e i a f) (IM f a d e)
def Afm (a:List V) b c (d:List V->H->O) e:=
 AD a fun f g=>AD g fun h i=>AD i fun j k=>AD k fun l m=>AD m fun n _=>IR j b n c f h l d e
def Ju (a:H) f b c d e n g:=
 Bx (a.own.map (·.1)) [65024012,65024014,65025038] [b,c,d,e,iq 0] f fun h=>BH n (fun i j k=>Afm j k a i g) [b,c,d,e,iq 0] h
def JH a c b d e f n g:=
 Ah c a fun h _=>Ac 1 b fun i=>Ah i a fun j _=>By [iq 0,iq 0,.nils,.nils,iq 0,iq 0,.nils] [(0,1,h),(1,1,j)] fun k=>AW 65018885 k a fun l m _ _=>Ju d m e f b l n g
def Jz a b c d e n f:=
 Ac 0 a fun g=>Ah g b fun h _=>AK EE 3 h (iq 1) fun i=>Ai i (Ac 1 a fun j=>JA b j c a) (Ac 0 a fun k=>JH b k a d e c n f)
def S62 (d:Aj) (n:Nat) (b e f:V) (c:H):O :=
 AW 65011712 e c fun g a _ _=>AH b fun h=>Ac 2 h fun i=>Ah i a fun j _=>Ch EE 3 j (iq 0) fun k=>Ai k (Ji a) (Jz g a f c b n d)
theorem AsD a n b c d e:Au EE a ft.get n 62 [b,c,d] e=S62 a n b c d e:=by kernel_rfl
def Kx b c a d e f (g:List V->H->O) h i:=
 A0 [true,false,false] false false b 63 [a,d,e] c fun _ j _ _=>BD EE 3 f (iq 1) fun k=>g [a,h,i,k] j
def KH b a c d e f (g:List V->H->O):=
 Ac 2 b fun h=>Ah h a fun i _=>AN 3 i c fun j=>Ad 3 j a fun k _=>BD EE 3 d (iq 1) fun l=>Kx e a f k l c g d b
def KB c a f g h i j k (l:List V->H->O):=
 Aa a true c (fun m=>Ac 1 f fun n=>m n c [] []) fun o b _ _=>Aa a true b (fun p=>Ah o b fun q r=>p q b r []) fun s d _ _=>Aa a true d (fun t=>AK EE 3 s (iq 0) fun u=>t u d [] []) fun v e _ _=>AF a v bF fun w=>Ai w (KH g e h i j k l) (Al [] e)
def Lv a f c d g h i (j:List V->H->O):=
 Ah f a fun k _=>B9 k fun l=>Hu EE 3 c l fun b=>Aa b true a (fun m=>m d a [] []) fun n e _ _=>Aa b true e (fun o=>AH n fun p=>o p e [] []) fun q r _ _=>KB r b q g c h i d j
def KQ (b:List V) c d (e:List V->H->O):=
 AD b fun f g=>AD g fun h i=>AD i fun a j=>AD j fun k _=>Ac 2 a fun l=>Lv c l k f a h d e
def Lu n a b c d e:=
 BH n (fun f g h=>KQ g h e f) [b,c,d,iq 0] a
def LA a b (c:H->O):=
 Bp b (iq 5) a fun d _ _=>c d
def Lh a b (c:H->O):=
 Ac 1 a fun d=>Bp d (iq 1) b fun e _ _=>c e
def LC e f a b g h (c:H->O):=
 Ab [] e f (Aa b false a (fun i=>CF (Kg .not g) fun j=>i j a [] []) fun k d _ _=>AF b bT k fun l=>Ai l (AH h fun m=>Lh m d c) (c d))
def LH c d e a g h i j (k:H->O):=
 Ab [] c d (Aa a false e (fun l=>Ac 1 g fun m=>l m e [] []) fun n b _ _=>Aa a false b (fun o=>Ah n b fun p q=>o p b q []) fun r f s t=>Ab [(c,d)] s t (Aa a false f (fun u=>is0 h 89 [i,r] f u) fun v w x y=>LC x y w a v j k))
def LB e f g h i j c d k l (m:H->O):=
 Ab [(f,g),(h,[])] e [] (B9 i fun n=>Ch EE 3 j n fun a=>Aa a false c (fun o=>Ac 0 d fun p=>o p c [] []) fun q b _ _=>Aa a false b (fun r=>Ah q b fun s t=>r s b t []) fun u v w x=>LH w x v a d k u l m)
def KW a b g h c i (j:H->O):=
 Ab [] a [] (is0 b 52 [h] g fun k d e f=>Ab [] e f (Ac 2 c fun l=>Ah l d fun m n=>LB n e f a m k d c b i j))
def Lo e b a (c:H->O) d f:=
 Ai e (AH b fun g=>Ac 1 g fun h=>LA a h c) (Ac 0 d fun i=>Ah i a fun j k=>KW k f a j d b c)
def Lc a d e f (g:H->O) h i:=
 Ah d a fun j _=>LU EE 3 j (iq 3000) fun b=>Aa b false a (fun k=>k e a [] []) fun l c _ _=>Aa b false c (fun m=>LU EE 3 l (iq 120) fun n=>m n c [] []) fun o p _ _=>AF b bT o fun q=>Lo q f p g h i
def KO e f g n a b c d:=
 Ac 0 e fun h=>Bp h g f fun i _ _=>(fun (j:H->O)=>AH a fun k=>Ac 0 k fun l=>Lc i l b a j c d) fun m=>Lu n m a b c d
def S63 (c:Aj) (n:Nat) (a d e:V) (f:H):O :=
 AW 66060288 d f fun g b _ _=>AH a fun h=>Ac 0 h fun i=>Ah i b fun j _=>BD EE 3 j (iq 1) fun k=>AH a fun l=>KO l b k n a e g c
theorem At6 a n b c d e:Au EE a ft.get n 63 [b,c,d] e=S63 a n b c d e:=by kernel_rfl
def S64 (c:Aj) (n:Nat) (d:H):O :=
 nw0 67108864 d fun a e _ _=>is0 c 24 [iq 10,.nils] e fun f g _ _=>Ae 3 a f g fun b _ _=>Ar true 3 a b fun h=>Al [h] b
theorem Atc a n b:Au EE a ft.get n 64 [] b=S64 a n b:=by kernel_rfl
def KN c d e a f:=
 AF c d bF fun g=>Ae 3 a f e fun b _ _=>Ar true 3 a b fun h=>Al [h,g] b
def Kh d e f g a b h i:=
 Ay (Ak EE 28 3 [(0,e),(1,f),(2,g)]) 68163587 d fun j k _ _=>is0 a 24 [iq 7,j] k fun l m _ _=>Ay (Ak EE 28 1 [(0,l)]) 68163589 m fun n o _ _=>is0 a 24 [iq 8,n] o fun p c _ _=>Aa b true c (fun q=>q h c [] []) fun r s _ _=>KN b r s i p
def Km c b d e f g h i j:=
 Ae 3 b d c fun a k l=>Ab [] k l (Ad 3 b a fun m _=>Ad 3 e a fun n _=>Ad 3 f a fun o _=>Kh a m n o g h i j)
def LN a b c f g h i j k l m n o p:=
 Ab [] a b (is0 c 24 [iq 6,g] f fun q r d e=>Ab [] d e (nw0 68162565 r fun s t u v=>Ab [(d,e),(a,b),(h,i),(j,[]),(k,[])] u v (Km t s q l m c n o p)))
def Lq b g a c h i j k l m:=
 Ad 3 g b fun n d=>Ab [(a,[])] d [] (is0 c 45 [n,iq 1,iq 0] b fun o p e f=>Ab [(a,[])] e f (Ay (Ak EE 28 2 [(0,h),(1,o)]) 68162563 p fun q r s t=>LN s t c r q e f d a i j k l m))
def KM d e f g h i j k l a m n o p q r s t:=
 Ab [(f,g),(h,i),(j,[]),(k,[])] d e (Ae 3 a m l fun b u v=>Ab [] u v (Ad 3 n b fun w c=>Ab [] c [] (Lq b o c p w a q r s t)))
def LD a e f g h i j k l m n o p q r:=
 is0 a 39 [f,g,h,i] e fun b s c d=>Ab [] c d (Aq 0 b fun t=>Aq 1 b fun u=>nw0 68161546 s fun v w x y=>KM x y c d j k l m w v t n o a p q u r)
def Kk b g a c h i j k l m n o:=
 Ad 3 g b fun p d=>Ab [(a,[])] d [] (is0 c 56 [p,iq 2] b fun q r e f=>Ab [(a,[])] e f (Bd EE 3 h (iq 2) fun s=>LD c r i j q s e f d a k l m n o))
def K7 c a d e:=
 Ae 3 a d c fun b f g=>Ab [] f g (Ar true 3 a b fun h=>Al [h,e] b)
def LG c d e f g a h i:=
 Ab [] c d (is0 e 24 [iq 5,g] f fun j b k l=>Ab [] k l (Aa a true b (fun m=>m h b [] []) fun n o _ _=>AF a n bF fun p=>K7 o i j p))
def KG a e f g h i j k l m n:=
 is0 a 24 [iq 4,f] e fun o b c d=>Ab [] c d (Ad 3 g b fun p q=>Ab [(c,d),(h,i),(j,[]),(k,[])] q [] (Ay (Ak EE 28 2 [(0,o),(1,p)]) 68165637 b fun r s t u=>LG t u a s r l m n))
def Kv a b f g h i j k l:=
 Ab [] a [] (Ad 3 f b fun m c=>Ab [(a,[])] c [] (Ay (Ak EE 28 2 [(0,g),(1,m)]) 68165634 b fun n o d e=>Ab [] d e (KG h o n i d e c a j k l)))
def La c d e f g h i j k l m n o p q r s t u:=
 nw0 68164621 c fun a v w x=>Ab [(d,e),(f,g),(h,[]),(i,j),(k,[]),(l,m),(n,[])] w x (Ae 3 a o v fun b y z=>Ab [] y z (Ad 3 p b fun A B=>Kv B b a A q r s t u))
def Lr e a f g h i j k l m n o p q r s t u v:=
 Bd EE 3 e (iq 2) fun w=>is0 a 39 [g,h,i,w] f fun b x c d=>Ab [] c d (Aq 0 b fun y=>Aq 1 b fun z=>La x c d j k l m n o p q r y s a t u z v)
def K3 a b c l d e f g h m n o p q r s:=
 Ab [] a b (Ad 3 l c fun t i=>Ab [(a,b),(d,[]),(e,f),(g,[])] i [] (is0 h 56 [t,iq 2] c fun u v j k=>Ab [] j k (Lr m h v n o u j k i a b d e f g p q r s)))
def Li a g h i j d k l m n o p:=
 is0 a 60 [h,iq 1,i] g fun q e b c=>Ab [] b c (Ad 3 j e fun r f=>Ab [(b,c),(d,[])] f [] (is0 a 45 [r,iq 1,iq 0] e fun s t u v=>K3 u v t k f b c d a l q s m n o p))
def Lm m a b d e f g c h i j:=
 AK EE 3 m (iq 0) fun n=>Ai n (Ad 3 b a fun o k=>Ab [] k [] (Kk a d k e f g o b c h i j)) (Ad 3 c a fun p l=>Ab [] l [] (Li e a g p b l d f c h i j))
def Kw e a f b c g h i j k l:=
 Ae 3 a f e fun d m n=>Ab [] m n (Ac 1 b fun o=>Ah o d fun p _=>is0 c 55 [p,iq 3] d fun q r _ _=>Lm q r g b c h i j a k l)
def KF a b c d e f g h i j k l m n o:=
 Ab [] a b (Aq 0 c fun p=>Aq 1 c fun q=>nw0 68159498 d fun r s t u=>Ab [(a,b),(e,f),(g,[]),(h,[])] t u (Kw s r p i j k l m n q o))
def KU c a b h i d e j k l m n:=
 Ab [(a,[])] c [] (is0 b 56 [i,iq 1] h fun o p f g=>Ab [(a,[])] f g (Bd EE 3 d (iq 2) fun q=>is0 b 39 [e,j,o,q] p fun r s t u=>KF t u r s f g c a k b l d e m n))
def Ki e f c g h i j k:=
 nw0 68158468 e fun a l _ _=>Ae 3 a f l fun b _ _=>Ad 3 a b fun m d=>Ab [] d [] (Ad 3 c b fun n o=>KU o d g b n h i m c j a k)
def S65 (a:Aj) (n:Nat) (b e f g:V) (h:H):O :=
 AW 68157440 e h fun i j _ _=>AW 68157441 f j fun c k _ _=>nw0 68157442 k fun l d _ _=>Ad 3 c d fun m _=>is0 a 56 [m,iq 0] d fun o p _ _=>is0 a 38 [b,o,iq 1] p fun q r _ _=>Ki r q c a g b i l
theorem AsF a n b c d e f:Au EE a ft.get n 65 [b,c,d,e] f=S65 a n b c d e f:=by kernel_rfl
def Aes b c a d e:=
 Ab [] b c (Ar true 3 d a fun f=>Al [f,e] a)
def Afv a b f g c h:=
 Aa b true a (fun i=>i f a [] []) fun j d _ _=>AF b j bF fun e=>Aa e true d (fun k=>k g d [] []) fun l m _ _=>AF e l bF fun n=>Ae 3 c h m fun o p q=>Aes p q o c n
def Ady a b c d e f g h i j k l m n o p:=
 Ab [(b,[]),(c,[]),(d,e),(f,[])] a [] (Ay (Ak EE 28 4 [(0,h),(1,i),(2,j),(3,k)]) 69211141 g fun q r s t=>Ab [] s t (is0 l 24 [iq 13,q] r fun u v w x=>Ab [] w x (Afv v m n o p u)))
def Aah a g b c d h i j k l m n o:=
 Ad 3 g a fun p e=>Ab [(b,c),(d,[])] e [] (Ad 3 h a fun q f=>Ab [(e,[]),(b,c),(d,[])] f [] (Ad 3 i a fun r s=>Ady s f e b c d a j p q r k l m n o))
def AeQ f g a h b i j k l m n o:=
 Ab [] f g (Ad 3 h a fun p c=>Ab [] c [] (is0 b 45 [p,iq 1,iq 0] a fun q r d e=>Ab [] d e (Aah r i d e c j k q b l m n o)))
def Abj a c d e f g h i j k l m n o p q r s t u v w x y z A:=
 Aq 0 a fun B=>Aq 1 a fun C=>nw0 69210128 c fun b D E F=>Ab [(d,e),(f,g),(h,[]),(i,j),(k,[]),(l,m),(n,o),(p,[]),(q,r),(s,t)] E F (Ae 3 b B D fun G I J=>AeQ I J G u v w b x y z C A)
def Ach a f g h i j k l m n o p q r s t u v w x y z A B C:=
 is0 a 56 [g,iq 2] f fun D E b c=>Ab [] b c (Bd EE 3 h (iq 2) fun F=>is0 a 39 [i,j,D,F] E fun G I d e=>Ab [] d e (Abj G I d e b c k l m n o p q r s t u v w x a y z A B C))
def Acz a b c d e f g h i j m p q r s t u v w x y z:=
 Ab [(b,c),(d,e),(f,[]),(g,h),(i,j)] a [] (is0 m 45 [q,iq 2,iq 0] p fun A n k l=>Ab [] k l (Ad 3 r n fun B o=>Ab [(k,l),(a,[]),(b,c),(d,e),(f,[]),(g,h),(i,j)] o [] (Ach m n B s t A o k l a b c d e f g h i j u v w x y z)))
def AeC a h i j b k l m n o p q r s t u v:=
 is0 a 45 [i,iq 1,iq 0] h fun w x c d=>Ab [] c d (is0 a 60 [j,iq 1,w] x fun y e f g=>Ab [] f g (Ad 3 b e fun z A=>Acz A f g c d k l m n o a e z p q y b r s t u v))
def AgI a b e i j k f l m n o p q r:=
 Ab [] a b (is0 e 60 [j,iq 1,k] i fun s g c d=>Ab [] c d (Ad 3 f g fun t h=>Ab [(c,d),(a,b)] h [] (AeC e g t s f h c d a b l m n o p q r)))
def AbZ c d e f g h i j a k l m n o p q r:=
 nw0 69209098 c fun b s t u=>Ab [(d,e),(f,g),(h,[]),(i,[])] t u (Ae 3 b j s fun v w x=>Ab [] w x (is0 a 64 [] v fun y z A B=>AgI A B a z k y l m n b o p q r))
def ZD a b g c h i j k l m n o p q r:=
 Bd EE 3 a (iq 2) fun s=>is0 b 39 [c,h,i,s] g fun d t e f=>Ab [] e f (Aq 0 d fun u=>Aq 1 d fun v=>AbZ t e f j k l m u b c n o a p q v r)
def Afx a b c d h i j k l m n:=
 Ab [] a [] (Ad 3 c b fun o e=>Ab [(a,[])] e [] (is0 d 56 [o,iq 1] b fun p q f g=>Ab [(a,[])] f g (ZD h d q i j p f g e a k c l m n)))
def Acc d e f g h i j k l a m n o p q r:=
 nw0 69208074 d fun b s t u=>Ab [(e,f),(g,h),(i,[]),(j,k)] t u (Ae 3 b l s fun c v w=>Ab [] v w (Ad 3 a c fun x y=>Afx y c m n o p x a b q r))
def AfB a b g c h i j k l m n o p q:=
 Bd EE 3 a (iq 2) fun r=>is0 b 39 [c,h,i,r] g fun d s e f=>Ab [] e f (Aq 0 d fun t=>Aq 1 d fun u=>Acc s e f j k l m n t o p b a c u q)
def AeB a b c d e i j k l m:=
 Ab [] a b (Ad 3 d c fun n f=>Ab [(a,b)] f [] (is0 e 56 [n,iq 0] c fun o p g h=>Ab [] g h (AfB i e p j k o g h f a b l d m)))
def Yr c d e a f:=
 is0 c 24 [iq 12,e] d fun g h _ _=>Ae 3 a g h fun b _ _=>Ar true 3 a b fun i=>Al [i,f] b
def X7 c d e f g h i j k a l m n o:=
 Ab [(e,f),(g,h),(i,[]),(j,[])] c d (Ae 3 a l k fun b p q=>Ab [] p q (Ad 3 a b fun r _=>Ay (Ak EE 28 1 [(0,r)]) 69216257 b fun s t _ _=>Yr m t s n o))
def AdO a e f g h i j k l m n:=
 is0 a 39 [f,g,h,i] e fun b o c d=>Ab [] c d (Aq 0 b fun p=>Aq 1 b fun q=>nw0 69215242 o fun r s t u=>X7 t u c d j k l m s r p a n q)
def Ae9 b g a c h i j k:=
 Ad 3 g b fun l d=>Ab [(a,[])] d [] (is0 c 56 [l,iq 0] b fun m n e f=>Ab [(a,[])] e f (Bd EE 3 h (iq 1) fun o=>AdO c n i j m o e f d a k))
def YS a d e b:=
 is0 a 55 [e,iq 4] d fun f g _ _=>is0 a 27 [f] g fun h i _ _=>Ae 3 b h i fun c _ _=>Ar true 3 b c fun j=>Al [j,bT] c
def YX f a g b c h i d:=
 Ai f (Ad 3 g a fun j e=>Ab [] e [] (Ae9 a b e c h i j d)) (Ac 1 b fun k=>Ah k a fun l _=>YS c a l d)
def AcS c a d e h i j k:=
 Aa a true c (fun l=>Ac 0 d fun m=>l m c [] []) fun n b _ _=>Aa a true b (fun o=>Ah n b fun p q=>o p b q []) fun r f _ _=>Aa a true f (fun s=>is0 e 55 [r,iq 2] f s) fun t g _ _=>Aa a true g (fun u=>AK EE 3 t (iq 1) fun v=>u v g [] []) fun w x _ _=>AF a w bF fun y=>YX y x h d e i j k
def ZW c d e a f:=
 AF c d bF fun g=>Ae 3 a f e fun b h i=>Ab [] h i (Ar true 3 a b fun j=>Al [j,g] b)
def AdZ c d e f g h i j a k l:=
 Ay (Ak EE 28 2 [(0,d),(1,e)]) 69222406 c fun m n o p=>Ab [(f,g),(h,[])] o p (is0 i 24 [j,m] n fun q b r s=>Ab [] r s (Aa a true b (fun t=>t k b [] []) fun u v _ _=>ZW a u v l q))
def Af4 f a g b c d h i j k l:=
 BD EE 3 (iq 16) f fun m=>Ad 3 g a fun n e=>Ab [(b,c),(d,[])] e [] (Ad 3 h a fun o p=>Ab [(e,[]),(b,c),(d,[])] p [] (AdZ a n o b c d i m j k l))
def AfJ f a b g h i j k:=
 Ac 1 f fun l=>Ah l a fun m c=>Ab [] c [] (is0 b 55 [m,iq 2] a fun n o d e=>Ab [] d e (Af4 n o g d e c h b i j k))
def AfH b c d e f g h i j k l m n o:=
 Aq 1 b fun p=>nw0 69221386 c fun a q r s=>Ab [(d,e),(f,g),(h,[]),(i,[])] r s (Ae 3 a j q fun t u v=>Ab [] u v (AfJ k t l m a n p o))
def AeE a b c h d i j k l m n o p q:=
 Ab [(c,[])] a b (Bd EE 3 h (iq 1) fun r=>is0 d 39 [j,k,l,r] i fun e s f g=>Ab [] f g (Aq 0 e fun t=>AfH e s f g a b m c t n d o p q))
def Acx a f c d g h i j k:=
 Ad 3 f a fun l b=>Ab [] b [] (Ad 3 c a fun m e=>Ab [(b,[])] e [] (is0 d 56 [m,iq 1] a fun n o p q=>AeE p q b g d o h l n e c i j k))
def AbB b c d e f g h i j k l m n o p:=
 Aq 1 b fun q=>nw0 69220362 c fun a r s t=>Ab [(d,e),(f,g),(h,[]),(i,[])] s t (Ae 3 a j r fun u v w=>Ab [] v w (Acx u k l m n o a q p))
def AcT a b c d e j f k l m n o p:=
 Ab [(c,[])] a b (Bd EE 3 d (iq 1) fun q=>is0 e 39 [f,k,l,q] j fun g r h i=>Ab [] h i (Aq 0 g fun s=>AbB g r h i a b m c s n o e d f p))
def Aau a c d e g h i:=
 Ad 3 c a fun j b=>Ab [] b [] (Ad 3 d a fun k f=>Ab [(b,[])] f [] (is0 e 56 [k,iq 0] a fun l m n o=>AcT n o b g e m h j l f c d i))
def AcE c d a:=
 is0 c 24 [iq 15,.nils] d fun e f _ _=>Ae 3 a e f fun b _ _=>Ar true 3 a b fun g=>Al [g,bT] b
def Abb b a h c i j k l d:=
 Aa a true b (fun m=>Ah h b fun n o=>m n b o []) fun p e _ _=>Aa a true e (fun q=>is0 c 55 [p,iq 5] e q) fun r f _ _=>Aa a true f (fun s=>LU EE 3 r (iq 1) fun t=>s t f [] []) fun u g _ _=>AF a u bF fun v=>Ai v (Aau g i j c k l d) (AcE c g d)
def Acs c d e a:=
 Bd EE 3 c (iq 1) fun f=>is0 d 47 [f] e fun g h _ _=>Ae 3 a g h fun b _ _=>Ar true 3 a b fun i=>Al [i,bT] b
def X3 a b c:=
 Ar true 3 b a fun d=>Al [d,c] a
def Ae8 d e a b f c g:=
 Ab [] d e (Aa b true a (fun h=>h f a [] []) fun i j _ _=>AF b i bF fun k=>Ae 3 c g j fun l m n=>Ab [] m n (X3 l c k))
def Zu a e f b c d g h i j k l:=
 Ad 3 e a fun m n=>Ab [(f,[]),(b,[]),(c,d)] n [] (Ay (Ak EE 28 2 [(0,g),(1,m)]) 69230599 a fun o p q r=>Ab [(b,[]),(c,d)] q r (is0 h 24 [i,o] p fun s t u v=>Ae8 u v t j k l s))
def Yw f g a h c d i j k l m:=
 AN 1 f g fun n=>Ah n a fun o b=>Ab [] b [] (Ad 3 h a fun p e=>Ab [(b,[]),(c,d)] e [] (Zu a i e b c d p j o k l m))
def Z7 d a e f g h i j k:=
 Ae 3 a e d fun l m n=>Ab [] m n (Ay (Ak EE 75 2 [(0,iq 3),(1,iq 6)]) 69230592 l fun o p b c=>Ab [] b c (Bd EE 3 f (iq 2) fun q=>Yw o q p g b c a h i j k))
def AaC a b c d e f g h i j k l m n o p:=
 Ab [] a b (Aq 0 c fun q=>Aq 1 c fun r=>nw0 69229580 d fun s t u v=>Ab [(a,b),(e,f),(g,[]),(h,[]),(i,j),(k,[])] u v (Z7 t s q l m n o r p))
def ZO c a d e f b i j k l m n o p q:=
 Ab [(a,[]),(d,e),(f,[])] c [] (is0 b 56 [j,iq 1] i fun r s g h=>Ab [(a,[])] g h (Bd EE 3 k (iq 1) fun t=>is0 b 39 [l,m,r,t] s fun u v w x=>AaC w x u v g h c a d e f n o b p q))
def ZA d g h i j e k l m n o p:=
 is0 d 60 [h,iq 1,i] g fun q a b c=>Ab [] b c (Ad 3 j a fun r f=>Ab [(b,c),(e,[])] f [] (Ad 3 k a fun s t=>ZO t f b c e d a s l q r m n o p))
def Ae0 d e f g h i j k l a m n o p q r s t u:=
 Ab [(f,g),(h,i),(j,[]),(k,[])] d e (Ae 3 a m l fun b v w=>Ab [] v w (Ad 3 a b fun x c=>Ab [] c [] (ZA n b o x p c q r s a t u)))
def AcM a f b g h i j k l m n o p q r:=
 is0 a 39 [b,g,h,i] f fun c s d e=>Ab [] d e (Aq 0 c fun t=>Aq 1 c fun u=>nw0 69228554 s fun v w x y=>Ae0 x y d e j k l m w v t a b n o p q u r)
def AbK b c a d e i j k l m:=
 Ad 3 c b fun n f=>Ab [(a,[])] f [] (is0 d 56 [n,iq 0] b fun o p g h=>Ab [(a,[])] g h (Bd EE 3 e (iq 1) fun q=>AcM d p i j o q g h f a k c e l m))
def Adu a b:=
 Ar true 3 b a fun c=>Al [c,bT] a
def YE c d a b:=
 AN 3 c d fun e=>Ad 3 e a fun f g=>Ab [] g [] (Ae 3 b f a fun h i j=>Ab [] i j (Adu h b))
def Abs d a b c e f g h i j k l m n o p q:=
 Ac 1 d fun r=>Ah r a fun s t=>Ab [(b,c),(e,f),(g,h),(i,j),(k,l),(m,n)] t [] (is0 o 55 [s,iq 3] a fun u v w x=>Ab [(b,c)] w x (YE p u v q))
def Yj a b c h i j k l m n o p q r s:=
 Ab [] a b (is0 c 24 [iq 18,i] h fun t u d e=>Ab [] d e (Ay (Ak EE 28 3 [(0,j),(1,k),(2,t)]) 69231621 u fun v w f g=>Ab [] f g (Abs l w f g d e a b m n o p q r c v s)))
def Ae5 a f g h i j k:=
 is0 a 24 [iq 14,.nils] f fun l m b c=>Ab [] b c (is0 a 24 [iq 15,.nils] m fun n o d e=>Ab [] d e (Ay (Ak EE 28 1 [(0,n)]) 69231619 o fun p q r s=>Yj r s a q p g l h d e b c i j k))
def AgZ i a c d b j k l e:=
 Ai i (Ad 3 c a fun m f=>Ab [] f [] (AbK a d f b j k m c l e)) (is0 b 64 [] a fun n o g h=>Ab [] g h (Ae5 b o n d g h e))
def AbL b g h c i j k l:=
 is0 b 55 [h,iq 4] g fun d e _ _=>LU EE 3 c (iq 0) fun a=>Aa a true e (fun m=>m d e [] []) fun n f _ _=>Aa a true f (fun o=>LU EE 3 n (iq 1) fun p=>o p f [] []) fun q r _ _=>AF a q bF fun s=>AgZ s r i j b c k d l
def Ahf f b a c d e g h:=
 LU EE 3 f (iq 0) fun i=>Ai i (Ac 1 b fun j=>Ah j a fun k _=>Acs k c a d) (Ac 0 e fun l=>Ah l a fun m _=>AbL c a m g b e h d)
def YA i b a c e d f g:=
 Ai i (LU EE 3 b (iq 0) fun h=>Aa h true a (fun j=>Ac 0 c fun k=>j k a [] []) fun l m _ _=>Abb m h l e d c b f g) (Ac 1 d fun n=>Ah n a fun o _=>Ahf o d a e g c b f)
def AfX a i b c d e f g:=
 Ah i a fun h _=>AK EE 3 h (iq 10) fun j=>Ai j (LU EE 3 b (iq 0) fun k=>AcS a k c d e b f g) (AK EE 3 h (iq 14) fun l=>YA l b a c d e f g)
def ZQ c d j a e f g b h:=
 Aa d true c (fun k=>Ch EE 3 j (iq 2) fun l=>k l c [] []) fun m i _ _=>AF d m bF fun n=>Ai n (is0 a 64 [] i fun o p q r=>AeB q r p e a f g o b h) (Ac 0 b fun s=>AfX i s f e a b g h)
def Aej d a e i f j k l m:=
 Aa a true d (fun n=>is0 e 55 [i,iq 5] d n) fun o g _ _=>Aa a true g (fun p=>AK EE 3 o (iq 4) fun q=>p q g [] []) fun r h _ _=>AF a r bF fun b=>Aa b true h (fun s=>Ac 0 f fun t=>s t h [] []) fun u c _ _=>Aa b true c (fun v=>Ah u c fun w x=>v w c x []) fun y z _ _=>ZQ z b y e j k l f m
def S66 (f:Aj) (n:Nat) (g h i c:V) (j:H):O :=
 AW 69206016 h j fun k l _ _=>AW 69206017 i l fun d m _ _=>nw0 69206018 m fun o e _ _=>LU EE 3 c (iq 0) fun a=>Aa a true e (fun p=>Ac 0 d fun q=>p q e [] []) fun r b _ _=>Aa a true b (fun s=>Ah r b fun t u=>s t b u []) fun v w _ _=>Aej w a f v k d c g o
theorem Ase a n b c d e f:Au EE a ft.get n 66 [b,c,d,e] f=S66 a n b c d e f:=by kernel_rfl
def AmA c a d:=
 Ae 3 a d c fun b _ _=>Ar true 3 a b fun e=>Al [e] b
def S67 (b:Aj) (n:Nat) (c d e:V) (f:H):O :=
 AW 70254592 c f fun g h _ _=>AW 70254593 e h fun i j _ _=>nw0 70254594 j fun k a _ _=>Ad 3 g a fun l _=>Ad 3 i a fun m _=>is0 b 90 [l,d,iq 0,m] a fun o p _ _=>AmA p k o
theorem AtK a n b c d e:Au EE a ft.get n 67 [b,c,d] e=S67 a n b c d e:=by kernel_rfl
def QM a b h (i:H) c d e f (j:List V->H->O):=
 Ch EE 36 a (iq 0) fun k=>Ai k (Al [a] b) (BD EE 3 h (iq 1) fun g=>Bx (i.own.map (·.1)) [71311362] [c,d,e,f,g] b fun l=>j [c,d,e,f,g] l)
def Q4 e f a g b h i j k (l:List V->H->O):=
 nw0 71311362 e fun c m _ _=>Ae 3 c f m fun d _ _=>Ad 3 c d fun n _=>BD EE 3 a (iq 1) fun o=>A0 [false,true,false] false false g 68 [n,b,o] d fun p q _ _=>QM p q h i b a j k l
def Sl a c d b e f g h (i:List V->H->O):=
 Hu EE 3 a c fun j=>Ai j (AN 3 d a fun k=>Ad 3 k b fun l _=>Q4 b l e f g a h d c i) (Al [iq 0] b)
def AfC (a:List V) b c d (e:List V->H->O):=
 AD a fun f g=>AD g fun h i=>AD i fun j k=>AD k fun l m=>AD m fun n _=>Sl n l j b h c f d e
def Se b g (c:H) d e n h:=
 Ah g b fun a _=>B9 a fun f=>Bx (c.own.map (·.1)) [71311362] [d,e,a,f,iq 0] b fun i=>BH n (fun j k l=>AfC k l h c j) [d,e,a,f,iq 0] i
def RG d e a b f g h i j n k:=
 Ab [] d e (Aa b false a (fun l=>CF (Kg .not f) fun m=>l m a [] []) fun o c _ _=>AF b bT o fun p=>Ai p (Al [iq 1] c) (Ac 2 g fun q=>Se c q h i j n k))
def Sk c d e a f g i j k l n:=
 Ab [] c d (Aa a false e (fun m=>Ac 1 f fun o=>m o e [] []) fun p b _ _=>Aa a false b (fun q=>Ah p b fun r s=>q r b s []) fun t h u v=>Ab [(c,d)] u v (Aa a false h (fun w=>is0 g 92 [i,t] h w) fun x y z A=>RG z A y a x f j k l n g))
def SL e f g h i j c d k l m o n:=
 Ab [(f,g),(h,[])] e [] (B9 i fun p=>Ch EE 3 j p fun a=>Aa a false c (fun q=>Ac 0 d fun r=>q r c [] []) fun s b _ _=>Aa a false b (fun t=>Ah s b fun u v=>t u b v []) fun w x y z=>Sk y z x a d k w l m o n)
def RE a b g h c i j k n:=
 Ab [] a [] (is0 b 91 [h] g fun l d e f=>Ab [] e f (Ac 2 c fun m=>Ah m d fun o p=>SL p e f a o l d c b i j k n))
def R4 c d a b e f g h n:=
 AF c bT d fun i=>Ai i (Al [iq 5] a) (Ac 0 b fun j=>Ah j a fun k l=>RE l e a k b f g h n)
def Su c a d f g h n:=
 AH c fun i=>Ah i a fun j _=>LU EE 3 j (iq 3000) fun b=>Aa b false a (fun k=>k d a [] []) fun l e _ _=>Aa b false e (fun m=>LU EE 3 l (iq 120) fun o=>m o e [] []) fun p q _ _=>R4 b p q f g h c d n
def S68 (d:Aj) (n:Nat) (e a f:V) (b:H):O :=
 AW 71303168 e b fun g c _ _=>AH a fun h=>Ah h c fun i _=>BD EE 3 i (iq 1) fun j=>AH a fun k=>Bp k j c fun l _ _=>Su a l f g d b n
theorem Atk a n b c d e:Au EE a ft.get n 68 [b,c,d] e=S68 a n b c d e:=by kernel_rfl
def KC (d:H) e a b c (f:List V->H->O):=
 Bx (d.own.map (·.1)) [72357890] [a,b,c] e fun g=>f [a,b,c] g
def LM b c d e f g h (i:List V->H->O):=
 is0 b 69 [d] c fun j a _ _=>CF (Kg .not j) fun k=>Ai k (Al [bF] a) (BD EE 3 e (iq 1) fun l=>KC f a g h l i)
def KE a b c f g h (i:List V->H->O):=
 AN 3 a b fun j=>Ad 3 j c fun k _=>nw0 72357890 c fun d l _ _=>Ae 3 d k l fun e _ _=>Ad 3 d e fun m _=>LM f e m b g a h i
def Ko (d:List V) a e f (g:List V->H->O):=
 AD d fun h i=>AD i fun b j=>AD j fun c _=>Hu EE 3 c b fun k=>Ai k (KE h c a e f b g) (Al [bT] a)
def LI e b (c:H) n f:=
 Ac 2 e fun g=>Ah g b fun a _=>B9 a fun d=>Bx (c.own.map (·.1)) [72357890] [a,d,iq 0] b fun h=>BH n (fun i j k=>Ko j k f c i) [a,d,iq 0] h
def Lp a b g c h i n j:=
 Aa b true a (fun k=>Ah g a fun l m=>k l a m []) fun o d _ _=>Aa b true d (fun p=>Hu EE 3 o (iq 0) fun q=>p q d [] []) fun r e _ _=>Aa c false e (fun s=>AF b r bF fun t=>s t e [] []) fun u f _ _=>AF c bT u fun v=>Ai v (Al [bF] f) (LI h f i n j)
def KA d a b i n j:=
 Aa a false d (fun k=>Ac 0 b fun l=>k l d [] []) fun m c _ _=>Aa a false c (fun o=>Ah m c fun p q=>o p c q []) fun r e _ _=>Aa a false e (fun s=>AK EE 3 r (iq 1) fun t=>s t e [] []) fun u f _ _=>Aa a false f (fun v=>v u f [] []) fun g h _ _=>Aa g true h (fun w=>Ac 1 b fun x=>w x h [] []) fun y z _ _=>Lp z g y a b i n j
def Le c a d g h n i:=
 Aa a true c (fun j=>Ac 2 d fun k=>j k c [] []) fun l b _ _=>Aa a true b (fun m=>Ah l b fun o p=>m o b p []) fun q e _ _=>Aa a true e (fun r=>B9 q fun s=>r s e [] []) fun t f _ _=>Aa a true f (fun u=>Ch EE 3 g t fun v=>u v f [] []) fun w x _ _=>AF a w bF fun y=>KA x y d h n i
def S69 (a:Aj) (n:Nat) (h:V) (b:H):O :=
 AW 72351744 h b fun c d _ _=>Ac 0 c fun i=>Ah i d fun j _=>is0 a 93 [j] d fun e f _ _=>V4 EE 3 e (iq 0) fun g=>Aa g true f (fun k=>k e f [] []) fun l m _ _=>Le m g c l b n a
theorem Auu a n b c:Au EE a ft.get n 69 [b] c=S69 a n b c:=by kernel_rfl
def RR a b c:=
 AH a fun d=>Ac 4 d fun e=>Bp e c b fun f _ _=>Al [a] f
def TA c d a b:=
 By [.fv (.nilf)] [(0,1,c)] fun e=>Ay (Cc EE 98 a (iq 30) e) 73402389 d fun _ f _ _=>Ay (val (Dk (.func 98) [b] [])) 73402391 f fun g h _ _=>By [.fv (.nilf)] [(0,1,g)] fun i=>Ay (Cc EE 98 a (iq 19) i) 73402393 h fun _ j _ _=>RR b j a
def SZ c a d b:=
 Ay (Cc EE 98 a (iq 9) d) 73402381 c fun _ e _ _=>Ay (val (Dk (.func 96) [b] [])) 73402383 e fun f g _ _=>By [.fv (.nilf)] [(0,1,f)] fun h=>Ay (Cc EE 98 a (iq 13) h) 73402385 g fun _ i _ _=>Ay (val (Dk (.func 97) [b] [])) 73402387 i fun j k _ _=>TA j k a b
def Xz c a b:=
 Ay (val (Dk (.func 95) [a] [])) 73402375 c fun d e _ _=>By [.fv (.nilf)] [(0,1,d)] fun f=>Ay (Cc EE 98 b (iq 8) f) 73402377 e fun _ g _ _=>Ay (val (Dk (.func 95) [a] [])) 73402379 g fun h i _ _=>By [.fv (.nilf)] [(0,1,h)] fun j=>SZ i b j a
def S70 (k:Aj) (n:Nat) (c:H):O :=
 By [iq 0,iq 0,iq 0,iq 0,.dead] [(0,1,iq 100000),(1,1,iq 5000000)] fun d=>AW 73401345 d c fun a e _ _=>Ay (Hd 73402369) 73402369 e fun b f _ _=>Ay (val (Dk (.func 94) [a] [])) 73402371 f fun g h _ _=>By [.fv (.nilf)] [(0,1,g)] fun i=>Ay (Cc EE 98 b (iq 5) i) 73402373 h fun _ j _ _=>Xz j a b
theorem AsV a n b:Au EE a ft.get n 70 [] b=S70 a n b:=by kernel_rfl
def M2 b a c d:=
 Ac 1 b fun e=>Ah e a fun f _=>is0 c 100 [d,f] a fun g h _ _=>Al [g] h
def M6 h (i:H) j a b c d e f (k:List V->H->O):=
 BD EE 3 h (iq 1) fun g=>Bx (i.own.map (·.1)) [74458115] [a,b,c,d,e,f,g] j fun l=>k [a,b,c,d,e,f,g] l
def Ni a b c d e f g h (i:H->O):=
 A0 [true,false,false] false false a 71 [c,d,e] b fun j k l m=>Ab [(f,[])] l m (AN 1 g h fun n=>Bp n j k fun o p q=>Ab [] p q (i o))
def Ny c a d e f g h (i:H->O):=
 Ac 2 c fun j=>Ah j a fun k b=>Ab [] b [] (Ad 3 d a fun l m=>Ab [(b,[])] m [] (Ni e a f g l b k h i))
def MS a f b c g h i j (d:H->O):=
 Ah f a fun k _=>is0 b 101 [k,c] a fun l e _ _=>AK EE 3 l (iq 0) fun m=>Ai m (AH g fun n=>Ny n e h b i j c d) (d e)
def M1 d a b e f g h i (j:H->O):=
 AN 3 d a fun k=>Ad 3 k b fun l _=>nw0 74458115 b fun c m _ _=>Ae 3 c l m fun n _ _=>Ac 0 e fun o=>MS n o f a g c h i j
def MU c a b d e:=
 Ac 3 c fun f=>Ah f a fun g _=>Ch EE 36 g (iq 0) fun h=>Ai h (Al [b] a) (A0 [true,false] false false d 102 [e,b] a fun i j _ _=>Al [i] j)
def Nq (j:List V) k a d e b f (l:List V->H->O) g h:=
 AD j fun i m=>AD m fun c _=>Hu EE 3 c i fun n=>Ai n ((fun (o:H->O)=>M1 f c g e h b a d o) fun p=>M6 c k p a d e b f i l) (AH a fun q=>MU q g b h a)
def AfP (a:List V) b (c:List V->H->O) d e:=
 AD a fun f g=>AD g fun h i=>AD i fun j k=>AD k fun l m=>AD m fun n o=>Nq o b f h j l n c d e
def Nd a (b:H) h c d e f n i:=
 B9 a fun g=>Bx (b.own.map (·.1)) [74458115] [c,d,e,f,a,g,iq 0] h fun j=>BH n (fun k l m=>AfP l b k m i) [c,d,e,f,a,g,iq 0] j
def M7 d a b c e f g n h:=
 Ch EE 36 d (iq 0) fun i=>Ai i (Al [b] a) (Ac 2 c fun j=>Ah j a fun k _=>Nd k e a f g c b n h)
def Nn c d a e f g n h:=
 AW 74453003 d c fun i b j k=>Ab [] j k (AH a fun l=>Ac 3 l fun m=>Ah m b fun o _=>M7 o b i e f a g n h)
def Nf i a b c d j k l e m o n p:=
 Ay (BW EE 74452999 127 a a) 74452999 i fun q f g h=>Ab [(b,[]),(c,[])] g h (Ad 3 d f fun r s=>Ab [(g,h),(j,[]),(b,[]),(c,[])] s [] (By [iq 0,iq 0,.nils,iq 0,iq 0,.nils,.fv (.nilp)] [(0,1,k),(1,1,l),(2,1,q),(3,3,r),(6,1,e)] fun t=>Nn f t m d o e n p))
def Na a b c d f g h i j n k:=
 Ab [(b,[])] a [] (Ac 2 c fun l=>Ah l d fun m e=>Ab [(a,[]),(b,[])] e [] (B9 m fun o=>Nf d o a b c e f g h i j n k))
def MZ a b d e f n g:=
 Ac 0 a fun h=>Ah h b fun i c=>Ab [] c [] (Ac 1 a fun j=>Ah j b fun k l=>Na l c a b i k d e f n g)
def S71 (a:Aj) (n:Nat) (d e g:V) (f:H):O :=
 AW 74448896 g f fun b h _ _=>A0 [true] false false a 99 [d] h fun _ c _ _=>Ac 0 b fun i=>Ah i c fun j _=>AK EE 3 j (iq 1) fun k=>Ai k (M2 b c a e) (MZ b c e d f n a)
theorem Asz a n b c d e:Au EE a ft.get n 71 [b,c,d] e=S71 a n b c d e:=by kernel_rfl
def D0 a b:=
 Ar true 3 b a fun c=>Al [c] a
def Dw c a d:=
 Ae 3 a d c fun b _ _=>Ar true 3 a b fun e=>Al [e] b
def D7 b a c d:=
 AH b fun e=>Ac 1 e fun f=>Ah f a fun g _=>Bd EE 3 c g fun h=>By [iq 0,iq 0,.nils] [(0,1,iq 1),(1,1,h)] fun i=>Dw a d i
def Ds c a:=
 By [iq 0,iq 0,.nils] [] fun d=>Ae 3 a d c fun b _ _=>Ar true 3 a b fun e=>Al [e] b
def D6 i (j:H) k a b c d e f g (l:List V->H->O):=
 BD EE 3 i (iq 1) fun h=>Bx (j.own.map (·.1)) [75512833,75516934] [a,b,c,d,e,f,g,h] k fun m=>l [a,b,c,d,e,f,g,h] m
def DJ a e b f g c h d i j k l m n (o:List V->H->O):=
 BD EE 3 a e fun p=>BD EE 3 b (iq 1) fun q=>A0 [true,false,false,false] false false f 72 [c,h,p,q] g fun r s _ _=>AN 3 d i fun t=>Ae 3 t r s fun u _ _=>D6 j k u c l a b m d n o
def CP b a c d e f g h i j k l m n (o:List V->H->O):=
 AH b fun p=>Ac 3 p fun q=>Ah q a fun r _=>Ch EE 36 r (iq 0) fun s=>Ai s (Ds a c) (DJ d e f g a b h i j k l m c n o)
def D9 n (o:H) p a b c d e f g h i j k l (q:List V->H->O):=
 BD EE 3 n (iq 1) fun m=>Bx (o.own.map (·.1)) [75516934] [a,b,c,d,e,f,g,h,i,j,k,l,m] p fun r=>q [a,b,c,d,e,f,g,h,i,j,k,l,m] r
def DW b a e c f g h i j k l m n o p (q:List V->H->O):=
 BD EE 3 b a fun r=>By [iq 0,iq 0,.nils,iq 0,iq 0,.nils,.fv (.nilp)] [(0,1,iq 1),(1,1,r)] fun d=>fzS (K5 true 75516934 d) 75516934 d e fun s t _ _=>AN 1 c a fun u=>Bp u s t fun v _ _=>D9 a f v g h b i j k l m c n o p q
def DR d e a b c f (g:V->V->V->V->V->V->V->V->V->V->V->H->O) h i j k l m n:=
 A0 [true,false,false,false] false false d 103 [a,b,c,f] e fun o p _ _=>g a b h i j k c o l m n p
def DI (o:List V) a b c p d e f g h i j k (q:List V->H->O) r (s:V->V->V->V->V->V->V->V->V->V->V->H->O):=
 AD o fun l t=>AD t fun m u=>AD u fun n _=>Hu EE 3 n m fun v=>Ai v (DW a n b c p d e f g h i j k l m q) (DR r b d e i c s a f g h j k l)
def D1 (a:List V) b c d e f g h (i:List V->H->O) j (k:V->V->V->V->V->V->V->V->V->V->V->H->O):=
 AD a fun l m=>AD m fun n o=>AD o fun p q=>AD q fun r s=>AD s fun t u=>DI u b c r d e f g h l n p t i j k
def Fy (a:List V) b c (d:List V->H->O) e (f:V->V->V->V->V->V->V->V->V->V->V->H->O):=
 AD a fun g h=>AD h fun i j=>AD j fun k l=>AD l fun m n=>AD n fun o p=>D1 p k b c g i m o d e f
def Eb (b:H) m c d e f g h a i j k l n o (p:V->V->V->V->V->V->V->V->V->V->V->H->O):=
 Bx (b.own.map (·.1)) [75516934] [c,d,e,f,g,h,a,i,j,k,a,l,iq 0] m fun q=>BH n (fun r s t=>Fy s t b r o p) [c,d,e,f,g,h,a,i,j,k,a,l,iq 0] q
def D8 m c a o d e f g h i b j n p (k:V->V->V->V->V->V->V->V->V->V->V->H->O) q:=
 Ai m (Ay (BW EE 75512833 127 a a) 75512833 c fun l r _ _=>B9 l fun s=>Eb o r d e f g h i b a l j s n p k) (k d e f g h i b q a j b c)
def Du g b c a h i d e (j:List V->H->O) k l m o p q r n s:=
 Ab [(b,[]),(c,[])] g [] (is0 a 101 [i,d] h fun f t u v=>Ab [(b,[]),(c,[])] u v ((fun (w:V->V->V->V->V->V->V->V->V->V->V->H->O)=>LU EE 3 f (iq 0) fun x=>D8 x t f e k l m o p q d r n a w s) fun y z A B C D E F G I J K=>CP y K C A G B a F D E J e z I j))
def D5 a d b e f g h (i:List V->H->O) j k l m o p n:=
 Ah d a fun q c=>Ab [] c [] (AH b fun r=>Ac 0 r fun s=>Ah s a fun t u=>Du u c e f a t g h i j b k l m o p n q)
def DB a b c e f (g:List V->H->O) h i j k l m n:=
 AH a fun o=>Ac 2 o fun p=>Ah p b fun q d=>Ab [] d [] (AN 1 q c fun r=>D5 b r a d e c f g h i j k l m n)
def Ec b c a d:=
 Ab [] b c (Ar true 3 d a fun e=>Al [e] a)
def DE c a d e f b:=
 Ac 1 c fun g=>Ah g a fun h i=>Ab [(d,[])] i [] (By [iq 0,iq 0,.nils] [(0,1,e),(1,1,h),(2,1,f)] fun j=>Ae 3 b j a fun k l m=>Ec l m k b)
def DX a b d e:=
 AH a fun f=>Ac 0 f fun g=>Ah g b fun h c=>Ab [] c [] (AH a fun i=>DE i b c h d e)
def D3 (g:List V) a b h i (j:List V->H->O) k l m c n:=
 AD g fun d o=>AD o fun e p=>AD p fun f _=>Hu EE 3 f e fun q=>Ai q (DB a b f h i j k l m c d e n) (DX a b d c)
def Fp (a:List V) b c d (e:List V->H->O) n:=
 AD a fun f g=>AD g fun h i=>AD i fun j k=>AD k fun l m=>AD m fun o p=>D3 p h b c d e f j l o n
def Dy (a:H) i b c d e f g h n j:=
 Bx (a.own.map (·.1)) [75512833,75516934] [b,c,d,e,f,g,h,iq 0] i fun k=>BH n (fun l m o=>Fp m o j a l n) [b,c,d,e,f,g,h,iq 0] k
def DL d a e f g h i j n k:=
 Ac 2 d fun l=>Ah l a fun m _=>B9 m fun b=>Ay (BW EE 75506693 28 b b) 75506693 a fun c o _ _=>B9 c fun p=>Dy e o f g h i j c p n k
def DU a e c b d f g h n i:=
 Ah e a fun j _=>AK EE 3 j (iq 1) fun k=>Ai k (Bd EE 3 c (iq 1) fun l=>D7 b a l d) (AH b fun m=>DL m a f g b c h d n i)
def Dv d b a c e f g h n i:=
 Ai d (By [iq 0,iq 0,.nils] [] fun j=>Ae 3 a j b fun k _ _=>D0 k a) (AH c fun l=>Ac 0 l fun m=>DU b m e c a f g h n i)
def Fu b d a e f g h i n:=
 A0 [true] false false b 99 [a] d fun _ c _ _=>AH a fun j=>Ac 3 j fun k=>Ah k c fun l _=>Ch EE 36 l (iq 0) fun m=>Dv m c e f g h a i n b
def Dt a b (c:H->O):=
 Ac 3 a fun d=>Bp d (iq 5) b fun e _ _=>c e
def DY a b e f g (c:H->O):=
 Aa b true a (fun h=>AF e bT f fun i=>h i a [] []) fun j d _ _=>AF b j bF fun k=>Ai k (AH g fun l=>Dt l d c) (c d)
def DO b a h i j (k:H->O):=
 Aa a true b (fun l=>Ah h b fun m n=>l m b n []) fun o d _ _=>Aa a true d (fun p=>LU EE 3 o (iq 3000) fun q=>p q d [] []) fun r e _ _=>Aa a true e (fun s=>s r e [] []) fun c f _ _=>Aa c false f (fun t=>t i f [] []) fun u g _ _=>Aa c false g (fun v=>LU EE 3 u (iq 120) fun w=>v w g [] []) fun x y _ _=>DY y a c x j k
def DK b f c g (h:H->O):=
 Ah f b fun i _=>AK EE 36 i (iq 0) fun a=>Aa a true b (fun j=>j c b [] []) fun k d _ _=>Aa a true d (fun l=>AH k fun m=>l m d [] []) fun n e _ _=>Aa a true e (fun o=>Ac 2 n fun p=>o p e [] []) fun q r _ _=>DO r a q g c h
def Dx a b c d (e:H->O):=
 AH a fun f=>Ac 2 f fun g=>Bp g c b fun h _ _=>AH a fun i=>Ac 3 i fun j=>DK h j a d e
def S72 (e:Aj) (n:Nat) (a f g b:V) (c:H):O :=
 nw0 75497472 c fun h d _ _=>(fun (i:H->O)=>AH a fun j=>Ac 2 j fun k=>Ah k d fun l _=>BD EE 3 l (iq 1) fun m=>Dx a d m b i) fun o=>Fu e o a h f g c b n
theorem Atd a n b c d e f:Au EE a ft.get n 72 [b,c,d,e] f=S72 a n b c d e f:=by kernel_rfl
def S73 (a:Aj) (n:Nat) (b c:V) (d:H):O :=
 is0 a 104 [b,c] d fun e f _ _=>V4 EE 3 e (iq 0) fun g=>Al [g] f
theorem AuQ a n b c d:Au EE a ft.get n 73 [b,c] d=S73 a n b c d:=by kernel_rfl
def S74 (b:Aj) (n:Nat) (c d:V) (e:H):O :=
 AW 77594624 c e fun f a _ _=>Ah d a fun g _=>Ad 3 f a fun h _=>FN EE b g [h] a fun i j _ _=>CF (Kg .not i) fun k=>Al [k] j
theorem AuP a n b c d:Au EE a ft.get n 74 [b,c] d=S74 a n b c d:=by kernel_rfl
def T7 b a g h i (c:V->H->O) j:=
 Aa a true b (fun k=>Ad 3 g b fun l m=>k l b m []) fun n d _ _=>Aa a true d (fun o=>is0 h 17 [i,n] d o) fun p e _ _=>Aa a true e (fun q=>CF (Kg .not p) fun r=>q r e [] []) fun s f _ _=>AF a s bF fun t=>Ai t (c (iq 11) f) (c j f)
def Sx e f b g h:=
 nw0 78644230 e fun c i _ _=>Ae 3 c f i fun a _ _=>(fun (j:V->H->O)=>AK EE 3 b (iq 0) fun d=>Aa d true a (fun k=>Ad 3 g a fun l m=>k l a m []) fun n o _ _=>T7 o d c h n j b) fun p q=>Al [p] q
def S75 (a:Aj) (n:Nat) (d e f:V) (g:H):O :=
 AW 78643200 e g fun h i _ _=>AW 78643201 f i fun j b _ _=>Ad 3 h b fun k _=>is0 a 19 [d,k] b fun c l _ _=>Aq 0 c fun m=>Aq 1 c fun o=>Sx l m o j a
theorem ArZ a n b c d e:Au EE a ft.get n 75 [b,c,d] e=S75 a n b c d e:=by kernel_rfl
def W0 e a b c d f g h:=
 Ab [(a,b),(c,d)] e [] (Ay (Ak EE 28 1 [(0,g)]) 79692804 f fun i j k l=>Ab [(a,b),(c,d)] k l (Ay (AO EE 79692805 false .append [28,28] [h,i]) 79692805 j fun m n o p=>Ab [] o p (Al [m] n)))
def S76 (q:Aj) (n:Nat) (f g:V) (h:H):O :=
 AW 79691776 g h fun i j _ _=>Ay (Ak EE 28 0 []) 79692800 j fun k l a b=>Ab [] a b (Ay (AO EE 79692802 false .append [28,28] [k,f]) 79692802 l fun m c d e=>Ab [] d e (Ad 3 i c fun o p=>W0 p d e a b c o m))
theorem ArS a n b c d:Au EE a ft.get n 76 [b,c] d=S76 a n b c d:=by kernel_rfl
def Wy a d b e:=
 Ad 3 d a fun f _=>Ae 3 b f a fun c _ _=>Ar true 3 b c fun g=>Al [g,e] c
def Xj a b c (d:V->H->O):=
 is0 a 35 [c] b fun e f _ _=>d e f
def S77 (e:Aj) (n:Nat) (f b:V) (g:H):O :=
 AW 80740352 f g fun c h _ _=>nw0 80740353 h fun i a _ _=>(fun (d:V->H->O)=>AK EE 3 b (iq 0) fun j=>Ai j (Ad 3 c a fun k _=>Xj e a k d) (d b a)) fun l m=>Wy m c i l
theorem Atz a n b c d:Au EE a ft.get n 77 [b,c] d=S77 a n b c d:=by kernel_rfl
def Alz a d b:=
 Aq 0 a fun e=>Aq 1 a fun f=>Ae 3 b e d fun c _ _=>Ar true 3 b c fun g=>Al [g,f] c
def AlK d e f a:=
 is0 d 105 [f] e fun b g _ _=>Aq 0 b fun h=>Aq 1 b fun i=>Ae 3 a h g fun c _ _=>Ar true 3 a c fun j=>Al [j,i] c
def AkJ e f b c a d g:=
 Ab [] e f (Ch EE 3 b (iq 0) fun h=>Ai h (is0 c 44 [b] a fun i j _ _=>Alz i j d) (Ad 3 g a fun k _=>AlK c a k d))
def Aiz a c d e f g h i j k:=
 Aq 0 a fun l=>Aq 1 a fun m=>nw0 81789960 c fun b n o p=>Ab [(d,e),(f,[]),(g,h),(i,[])] o p (Ae 3 b l n fun q r s=>AkJ r s m j q k b)
def Ako a b c i d e j k:=
 Ab [] a b (Ad 3 i c fun l f=>Ab [(a,b),(d,[])] f [] (is0 e 20 [j,iq 0,l] c fun m n g h=>Ab [] g h (Aiz m n g h f a b d e k)))
def S78 (a:Aj) (n:Nat) (d e f:V) (g:H):O :=
 AW 81788928 e g fun h i _ _=>AW 81788929 f i fun j k _ _=>nw0 81788930 k fun l b _ _=>Ad 3 h b fun m c=>Ab [] c [] (is0 a 79 [d,iq 0,m] b fun o p q r=>Ako q r p j c a o l)
theorem Atw a n b c d e:Au EE a ft.get n 78 [b,c,d] e=S78 a n b c d e:=by kernel_rfl
def Xx a b c d:=
 Ab [] a b (Al [d] c)
def WH e a b c d f g h i:=
 Ab [(a,b),(c,d)] e [] (By [iq 0,iq 0,iq 0,.nils] [(0,1,f),(1,3,g)] fun j=>Ay (Ak EE 27 1 [(0,j)]) 82838534 h fun k l m n=>Ab [(a,b),(c,d)] m n (Ay (AO EE 82838535 false .append [27,27] [i,k]) 82838535 l fun o p q r=>Xx q r p o))
def S79 (r:Aj) (n:Nat) (f g h:V) (i:H):O :=
 AW 82837504 h i fun j k _ _=>Ay (Ak EE 27 0 []) 82838528 k fun l m a b=>Ab [] a b (Ay (AO EE 82838530 false .append [27,27] [l,f]) 82838530 m fun o c d e=>Ab [] d e (Ad 3 j c fun p q=>WH q d e a b g p c o))
theorem Ark a n b c d e:Au EE a ft.get n 79 [b,c,d] e=S79 a n b c d e:=by kernel_rfl
def AiG c d a e:=
 Aq 1 c fun f=>Ae 3 a e d fun b _ _=>Ar true 3 a b fun g=>Al [g,f] b
def Ai2 a b:=
 Ar true 3 b a fun c=>Al [c,iq 0] a
def Amw c e a b f:=
 Ch EE 3 c (iq 0) fun g=>Ai g (is0 e 44 [c] a fun d h _ _=>Aq 0 d fun i=>AiG d h b i) (Ad 3 f a fun j _=>Ae 3 b j a fun k _ _=>Ai2 k b)
def Amh b a g h (c:V->H->O) i:=
 Aa a true b (fun j=>Ah g b fun k l=>j k b l []) fun m d _ _=>Aa a true d (fun n=>n h d [] []) fun o e _ _=>Aa a true e (fun p=>Ch EE 3 m o fun q=>p q e [] []) fun r f _ _=>AF a r bF fun s=>Ai s (c (iq 12) f) (c i f)
def AiK e f g h b i:=
 nw0 83887111 e fun a j _ _=>Ae 3 a f j fun c _ _=>(fun (k:V->H->O)=>AK EE 3 b (iq 0) fun d=>Aa d true c (fun l=>Ac 0 a fun m=>l m c [] []) fun n o _ _=>Amh o d n i k b) fun p q=>Amw p g q h a
def S80 (a:Aj) (n:Nat) (d e f g:V) (h:H):O :=
 AW 83886080 f h fun i j _ _=>nw0 83886081 j fun k b _ _=>Ad 3 i b fun l _=>is0 a 20 [d,e,l] b fun c m _ _=>Aq 0 c fun o=>Aq 1 c fun p=>AiK m o a k p g
theorem ArM a n b c d e f:Au EE a ft.get n 80 [b,c,d,e] f=S80 a n b c d e f:=by kernel_rfl
def Ae7 c d a e:=
 Aq 1 c fun f=>Ae 3 a e d fun b _ _=>Ar true 3 a b fun g=>Al [g,f] b
def Afj d a b:=
 AN 3 d (iq 1) fun e=>Ad 3 e a fun f _=>Ae 3 b f a fun c _ _=>Ar true 3 b c fun g=>Al [g,iq 0] c
def AcN b e a c f:=
 Ch EE 3 b (iq 0) fun g=>Ai g (is0 e 44 [b] a fun d h _ _=>Aq 0 d fun i=>Ae7 d h c i) (Ac 2 f fun j=>Ah j a fun k _=>Afj k a c)
def AcJ b a c d e f (g:V->H->O):=
 AN 3 b (iq 0) fun h=>Ad 3 h a fun i j=>Ab [(c,[])] j [] (is0 d 48 [e,iq 0,f,i] a fun k l m n=>Ab [] m n (g k l))
def AcX a c d e f (g:V->H->O):=
 Ad 3 c a fun h b=>Ab [] b [] (Ac 2 d fun i=>Ah i a fun j k=>Ab [(b,[])] k [] (AcJ j a b e f h g))
def AbN a f b c g d h:=
 (fun (e:V->H->O)=>AK EE 3 c (iq 0) fun i=>Ai i (AN 3 g (iq 1) fun j=>AcX d j b a h e) (e c d)) fun k l=>AcN k a l f b
def X0 a e b f g h:=
 is0 a 80 [b,iq 0,f,iq 16] e fun c i _ _=>Aq 0 c fun j=>Aq 1 c fun k=>nw0 84938760 i fun d l _ _=>Ae 3 d j l fun m _ _=>AbN a g d k h m b
def AaH a d b:=
 Aq 0 a fun e=>Aq 1 a fun f=>Ae 3 b e d fun c _ _=>Ar true 3 b c fun g=>Al [g,f] c
def ZB a d b:=
 Aq 0 a fun e=>Aq 1 a fun f=>Ae 3 b e d fun c _ _=>Ar true 3 b c fun g=>Al [g,f] c
def AaA c d a e:=
 Aq 1 c fun f=>Ae 3 a e d fun b _ _=>Ar true 3 a b fun g=>Al [g,f] b
def AeM a d e b f:=
 Ad 3 d a fun g _=>Ay (Ak EE 28 2 [(0,e),(1,g)]) 84952066 a fun h i _ _=>is0 b 24 [iq 17,h] i fun j k _ _=>is0 b 34 [j] k fun c l _ _=>Aq 0 c fun m=>AaA c l f m
def Y0 f b g c d e h:=
 Ae 3 b g f fun a _ _=>Ch EE 3 c (iq 0) fun i=>Ai i (is0 d 44 [c] a fun j k _ _=>ZB j k e) (Ad 3 h a fun l _=>AeM a b l d e)
def AaJ a d b e f g:=
 Ad 3 d a fun h _=>is0 b 20 [e,iq 0,h] a fun c i _ _=>Aq 0 c fun j=>Aq 1 c fun k=>nw0 84949000 i fun l m _ _=>Y0 m l j k b f g
def AgV f g a b c h i:=
 nw0 84945928 f fun d j _ _=>Ae 3 d g j fun e _ _=>Ch EE 3 a (iq 0) fun k=>Ai k (is0 b 44 [a] e fun l m _ _=>AaH l m c) (AN 3 h (iq 1) fun n=>AaJ e n b i c d)
def Aem a b c d f:=
 AN 3 a (iq 0) fun g=>Ad 3 g b fun h _=>is0 c 20 [d,iq 0,h] b fun e i _ _=>Aq 0 e fun j=>Aq 1 e fun k=>AgV i j k c f a d
def YJ c d a e:=
 Aq 1 c fun f=>Ae 3 a e d fun b _ _=>Ar true 3 a b fun g=>Al [g,f] b
def Ac7 c d a e:=
 Aq 1 c fun f=>Ae 3 a e d fun b _ _=>Ar true 3 a b fun g=>Al [g,f] b
def Zi a b:=
 Ar true 3 b a fun c=>Al [c,iq 0] a
def ZN c e a b f:=
 Ch EE 3 c (iq 0) fun g=>Ai g (is0 e 44 [c] a fun d h _ _=>Aq 0 d fun i=>Ac7 d h b i) (Ad 3 f a fun j _=>Ae 3 b j a fun k _ _=>Zi k b)
def Abw a b (c:V->H->O) d e:=
 Ab [] a b (c e d)
def Afk a c d e f (g:V->H->O):=
 Ad 3 c a fun h b=>Ab [] b [] (Ad 3 d a fun i j=>Ab [(b,[])] j [] (is0 e 48 [f,iq 0,h,i] a fun k l m n=>Abw m n g l k))
def AgR a f b c g d h:=
 (fun (e:V->H->O)=>AK EE 3 c (iq 0) fun i=>Ai i (AN 3 g (iq 2) fun j=>Afk d j b a h e) (e c d)) fun k l=>ZN k a l f b
def Agn a e b f g h:=
 is0 a 20 [b,iq 0,f] e fun c i _ _=>Aq 0 c fun j=>Aq 1 c fun k=>nw0 84957192 i fun d l _ _=>Ae 3 d j l fun m _ _=>AgR a g d k h m b
def AcY b c a d e g:=
 Ch EE 3 b (iq 0) fun h=>Ai h (is0 c 44 [b] a fun f i _ _=>Aq 0 f fun j=>YJ f i d j) (AN 3 e (iq 1) fun k=>Ad 3 k a fun l _=>Agn c a g l d e)
def AaW b a d c e f g:=
 Ab [] b [] (is0 a 24 [iq 15,.nils] d fun h i j k=>Ab [(b,[])] j k (is0 a 48 [c,iq 0,e,h] i fun l m n o=>Ab [] n o (AcY l a m f g c)))
def ZX c d a e:=
 Aq 1 c fun f=>Ae 3 a e d fun b _ _=>Ar true 3 a b fun g=>Al [g,f] b
def AdI c a d:=
 Ae 3 a d c fun b _ _=>Ar true 3 a b fun e=>Al [e,iq 0] b
def Agl b a c d:=
 Ac 0 b fun e=>Ah e a fun f _=>Bd EE 3 f (iq 23) fun g=>AN 3 c g fun h=>Ad 3 h a fun i _=>AdI a d i
def Zd b e a c f g:=
 Ch EE 3 b (iq 0) fun h=>Ai h (is0 e 44 [b] a fun d i _ _=>Aq 0 d fun j=>ZX d i c j) (Ac 2 f fun k=>Ah k a fun l _=>Agl g a l c)
def AaI a d e f g h:=
 is0 a 80 [e,iq 0,f,iq 17] d fun b i _ _=>Aq 0 b fun j=>Aq 1 b fun k=>nw0 84963336 i fun c l _ _=>Ae 3 c j l fun m _ _=>Zd k a m g c h
def Y8 f b a c d e g:=
 AK EE 3 f (iq 27) fun h=>Ai h (AN 3 b (iq 0) fun i=>Ad 3 i a fun j k=>AaW k c a d j e b) (AN 3 b (iq 0) fun l=>Ad 3 l a fun m _=>AaI c a d m e g)
def Agz c a b d e f g:=
 AK EE 3 c (iq 21) fun h=>Ai h (AN 3 a (iq 0) fun i=>Ad 3 i b fun j _=>X0 d b e j f a) (AK EE 3 c (iq 22) fun k=>Ai k (Aem a b d e f) (Y8 c a b d e f g))
def S81 (c:Aj) (n:Nat) (d e:V) (f:H):O :=
 AW 84934656 e f fun a g _ _=>nw0 84934657 g fun h b _ _=>Ac 2 a fun i=>Ah i b fun j _=>Ac 0 a fun k=>Ah k b fun l _=>Agz l j b c d h a
theorem Arm a n b c d:Au EE a ft.get n 81 [b,c] d=S81 a n b c d:=by kernel_rfl
def AjR a b c d e f:=
 Ab [] a b (is0 c 17 [e,f] d fun g h i j=>Ab [] i j (Al [g,iq 0] h))
def AiP a e f g h:=
 is0 a 86 [f] e fun i b c d=>Ab [] c d (Ad 3 g b fun j k=>Ab [(c,d),(h,[])] k [] (is0 a 86 [j] b fun l m n o=>AjR n o a m i l))
def Aj3 b a d e f:=
 Ch EE 3 b (iq 0) fun g=>Ai g (Al [bF,b] a) (Ad 3 d a fun h c=>Ab [] c [] (AiP e a h f c))
def Amx a d e f:=
 is0 a 34 [e] d fun b g _ _=>Aq 0 b fun h=>Aq 1 b fun i=>nw0 85987333 g fun c j _ _=>Ae 3 c h j fun k _ _=>Aj3 i k f a c
def AkH d e b f g:=
 nw0 85984261 d fun c h _ _=>Ae 3 c e h fun a _ _=>Ch EE 3 b (iq 0) fun i=>Ai i (Al [bF,b] a) (Ad 3 f a fun j _=>Amx g a j c)
def S82 (a:Aj) (n:Nat) (d e:V) (f:H):O :=
 AW 85983232 d f fun g h _ _=>AW 85983233 e h fun i b _ _=>Ad 3 g b fun j _=>is0 a 34 [j] b fun c k _ _=>Aq 0 c fun l=>Aq 1 c fun m=>AkH k l m i a
theorem Ar7 a n b c d:Au EE a ft.get n 82 [b,c] d=S82 a n b c d:=by kernel_rfl
def Asc a b:=
 Ah b a fun c _=>Al [c,iq 0] a
def AtC a b c:=
 Ah b a fun d _=>Ch EE 3 d (iq 2) fun e=>Ai e (Al [iq 0,iq 12] a) (Ac 1 c fun f=>Asc a f)
def AtY d a e b:=
 Ae 3 a e d fun c _ _=>Ch EE 3 b (iq 0) fun f=>Ai f (Al [iq 0,b] c) (Ac 0 a fun g=>AtC c g a)
def S83 (c:Aj) (n:Nat) (d e:V) (f:H):O :=
 AW 87031808 e f fun g a _ _=>Ad 3 g a fun h _=>is0 c 20 [d,iq 1,h] a fun b i _ _=>Aq 0 b fun j=>Aq 1 b fun k=>nw0 87032838 i fun l m _ _=>AtY m l j k
theorem Au0 a n b c d:Au EE a ft.get n 83 [b,c] d=S83 a n b c d:=by kernel_rfl
def ApW d e f a:=
 is0 d 44 [f] e fun b g _ _=>Aq 0 b fun h=>Aq 1 b fun i=>Ae 3 a h g fun c _ _=>Ar true 3 a c fun j=>Al [j,i] c
def ApV c d a e:=
 Aq 1 c fun f=>Ae 3 a e d fun b _ _=>Ar true 3 a b fun g=>Al [g,f] b
def AmS c d a e:=
 Aq 1 c fun f=>Ae 3 a e d fun b _ _=>Ar true 3 a b fun g=>Al [g,f] b
def AnD a b:=
 Ar true 3 b a fun c=>Al [c,iq 0] a
def AoC c e a b f:=
 Ch EE 3 c (iq 0) fun g=>Ai g (is0 e 44 [c] a fun d h _ _=>Aq 0 d fun i=>AmS d h b i) (Ad 3 f a fun j _=>Ae 3 b j a fun k _ _=>AnD k b)
def Aqo a b c d e (f:V->H->O):=
 is0 a 48 [c,iq 1,d,e] b fun g h i j=>Ab [] i j (f g h)
def Aph e a f g b c d h i j (k:V->H->O):=
 AN 3 e (iq 1) fun l=>Ad 3 l a fun m n=>Ab [(f,[]),(g,[]),(b,[]),(c,[])] n [] (is0 d 67 [h,iq 0,m] a fun o p q r=>Ab [(b,[]),(c,[])] q r (Aqo d p i j o k))
def Aop a f b c g e h i j (k:V->H->O):=
 Ad 3 f a fun l d=>Ab [(b,[]),(c,[])] d [] (Ac 2 g fun m=>Ah m a fun n o=>Ab [(d,[]),(e,[]),(b,[]),(c,[])] o [] (Aph n a d e b c h l i j k))
def Aqj a e b c f g h i (j:V->H->O):=
 Ab [] a [] (Ac 2 e fun k=>Ah k b fun l d=>Ab [(a,[]),(c,[])] d [] (AN 3 l (iq 1) fun m=>Aop b m a c f d g h i j))
def Ana b a d e f (g:V->H->O):=
 Ac 2 b fun h=>Ah h a fun i c=>Ab [] c [] (AN 3 i (iq 2) fun j=>Ad 3 j a fun k l=>Aqj l d a c b e f k g)
def Apa a g b h i j c k:=
 is0 a 48 [b,iq 1,h,i] g fun d e l m=>Ab [] l m ((fun (f:V->H->O)=>AK EE 3 d (iq 0) fun n=>Ai n (Ana k e c a b f) (f d e)) fun o p=>AoC o a p j c)
def AnR a d b c e f g h i j:=
 Ah d a fun k l=>Ab [(b,[]),(c,[])] l [] (AN 3 k (iq 0) fun m=>Ad 3 m a fun n o=>Ab [(b,[]),(c,[])] o [] (Apa e a f g n h i j))
def ApY a e b c f g h i:=
 Ab [] a [] (AN 3 e (iq 1) fun j=>Ad 3 j b fun k d=>Ab [] d [] (Ac 2 c fun l=>AnR b l d a f g k h c i))
def Apy b c a d e g h:=
 Ch EE 3 b (iq 0) fun i=>Ai i (is0 c 44 [b] a fun f j _ _=>Aq 0 f fun k=>ApV f j d k) (Ac 2 e fun l=>Ah l a fun m n=>ApY n m a g c h d e)
def Any c (a:V->H->O) b d:=
 Ai c (a (iq 12) b) (a d b)
def Aqi c d f (g:V->H->O):=
 AK EE 3 c (iq 0) fun a=>Aa a true d (fun h=>Ac 0 f fun i=>h i d [] []) fun j b _ _=>Aa a true b (fun k=>Ah j b fun l m=>k l b m []) fun n e _ _=>Aa a true e (fun o=>Ch EE 3 n (iq 6) fun p=>o p e [] []) fun q r _ _=>AF a q bF fun s=>Any s g r c
def AmW b c d e f g:=
 Aq 0 b fun h=>Aq 1 b fun i=>nw0 88084488 c fun a j _ _=>Ae 3 a h j fun k _ _=>(fun (l:V->H->O)=>Aqi i k a l) fun m n=>Apy m d n e f a g
def Aqa b a c d e:=
 Ac 2 b fun f=>Ah f a fun g _=>AN 3 g (iq 0) fun h=>Ad 3 h a fun i _=>is0 c 34 [i] a fun j k _ _=>AmW j k c d b e
def Aok a g b h c i:=
 is0 a 83 [b,h] g fun d e _ _=>Aq 0 d fun _=>Aq 1 d fun f=>Ch EE 3 f (iq 0) fun j=>Ai j (ApW a e f c) (Aqa i e a c b)
def S84 (c:Aj) (n:Nat) (d e:V) (f:H):O :=
 AW 88080384 e f fun b g _ _=>nw0 88080385 g fun h a _ _=>Ac 2 b fun i=>Ah i a fun j _=>AN 3 j (iq 0) fun k=>Ad 3 k a fun l _=>Aok c a d l h b
theorem Arl a n b c d:Au EE a ft.get n 84 [b,c] d=S84 a n b c d:=by kernel_rfl
def AmR c d a e:=
 Aq 1 c fun f=>Ae 3 a e d fun b _ _=>Ar true 3 a b fun g=>Al [g,f] b
def ApC a d b:=
 Aq 0 a fun e=>Aq 1 a fun f=>Ae 3 b e d fun c g h=>Ab [] g h (Ar true 3 b c fun i=>Al [i,f] c)
def Ap5 b c a d e f g:=
 Ab [(c,[])] b [] (is0 a 67 [e,iq 0,f] d fun h i j k=>Ab [] j k (is0 a 34 [h] i fun l m n o=>Ab [] n o (ApC l m g)))
def Anc c a b d e f:=
 Ac 2 c fun g=>Ah g a fun h i=>Ab [(b,[])] i [] (AN 3 h (iq 3) fun j=>Ad 3 j a fun k l=>Ap5 l b d a e k f)
def An8 b c a d g h:=
 Ch EE 3 b (iq 0) fun i=>Ai i (is0 c 44 [b] a fun e j _ _=>Aq 0 e fun k=>AmR e j d k) (Ad 3 g a fun l f=>Ab [] f [] (Anc h a f c l d))
def Aow a b c d e f g (h:V->H->O):=
 Ad 3 b a fun i j=>Ab [(c,[]),(d,[])] j [] (is0 e 48 [f,iq 1,g,i] a fun k l m n=>Ab [] m n (h k l))
def AnQ a d e f g (h:V->H->O):=
 Ah d a fun i b=>Ab [] b [] (AN 3 i (iq 3) fun j=>Ad 3 j a fun k c=>Ab [] c [] (Aow a e c b f g k h))
def AoY a f g b c d h i:=
 (fun (e:V->H->O)=>AK EE 3 c (iq 0) fun j=>Ai j (Ac 2 b fun k=>AnQ d k h a i e) (e c d)) fun l m=>An8 l a m f g b
def AnZ a b c d e f g (h:V->H->O):=
 is0 a 106 [c] b fun i j k l=>Ab [(d,[]),(e,[])] k l (is0 a 48 [f,iq 1,g,i] j fun m n o p=>Ab [] o p (h m n))
def AoZ j a c d e f g h k i l m (n:V->H->O):=
 AN 3 j (iq 2) fun o=>Ad 3 o a fun p b=>Ab [(c,d),(e,[]),(f,g),(h,[])] b [] (Ad 3 k a fun q r=>Ab [(b,[]),(i,[]),(c,d),(e,[]),(f,g),(h,[])] r [] (AnZ l a q b i m p n))
def Ape c j k l m d e f g n (o:V->H->O):=
 is0 c 79 [k,iq 1,l] j fun p h a b=>Ab [] a b (Ac 2 m fun q=>Ah q h fun r i=>Ab [(a,b),(d,[]),(e,f),(g,[])] i [] (AoZ r h a b d e f g n i c p o))
def ApA a d h i j e k (l:V->H->O):=
 Ab [] a [] (is0 d 79 [i,iq 1,j] h fun m f b c=>Ab [] b c (Ad 3 e f fun n g=>Ab [(b,c),(a,[])] g [] (Ape d f m n k g b c a e l)))
def Aoc b i c d e f g a:=
 (fun (h:V->H->O)=>AK EE 3 g (iq 0) fun j=>Ai j (Ad 3 e a fun k l=>ApA l b a f k c d h) (h g a)) fun m n=>AoY b i c d m n e f
def AnJ a b c d e f g h i (j:V->H->O):=
 Ab [(c,[]),(d,[])] a b (is0 e 48 [g,iq 1,h,i] f fun k l m n=>Ab [] m n (j k l))
def Aql d f a b c g h (i:V->H->O):=
 Ad 3 f d fun j e=>Ab [(a,[]),(b,[])] e [] (is0 c 24 [iq 11,.nils] d fun k l m n=>Ab [(e,[]),(a,[]),(b,[])] m n (is0 c 67 [j,iq 0,k] l fun o p q r=>AnJ q r a b c p g h o i))
def An7 a d e f g (h:V->H->O):=
 Ah d a fun i b=>Ab [] b [] (AN 3 i (iq 1) fun j=>Ad 3 j a fun k c=>Ab [] c [] (Aql a e c b f g k h))
def Apo a h b c i d e f:=
 (fun (g:V->H->O)=>AK EE 3 e (iq 0) fun j=>Ai j (Ac 2 c fun k=>An7 f k b a d g) (g e f)) fun l m=>Aoc a h b c i d l m
def Apr c d e f a g h i j k l m n:=
 Ab [(d,e),(f,[])] c [] (is0 a 83 [h,i] g fun b o p q=>Ab [] p q (Aq 0 b fun _=>Aq 1 b fun r=>Apo a j k l m n r o))
def AoU a b c d e j k:=
 Ad 3 b a fun l f=>Ab [] f [] (is0 c 79 [d,iq 1,l] a fun m g h i=>Ab [] h i (Ad 3 e g fun n o=>Apr o h i f c g m n j e k b d))
def Ani a c d e f g h:=
 Ah c a fun i _=>AN 3 i (iq 0) fun j=>Ad 3 j a fun k _=>nw0 89131012 a fun b l _ _=>Ae 3 b k l fun m _ _=>AoU m d e f b g h
def S85 (a:Aj) (n:Nat) (d e:V) (f:H):O :=
 AW 89128960 e f fun b g _ _=>nw0 89128961 g fun h i _ _=>is0 a 24 [iq 10,.nils] i fun j k _ _=>nw0 89129985 k fun c l _ _=>Ae 3 c j l fun m _ _=>Ac 2 b fun o=>Ani m o c a d h b
theorem Ary a n b c d:Au EE a ft.get n 85 [b,c] d=S85 a n b c d:=by kernel_rfl
end
end Idl
end Go.Proofs.Ytkfecngimlcfoaa

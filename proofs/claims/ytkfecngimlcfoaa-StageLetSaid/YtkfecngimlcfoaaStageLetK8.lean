/-
  Texts of a proof, part 8: an ideal semantics of the program, its functions in shallow form, contracts of them. No statement of the seat is proved here.
-/
import Derived.Test.YtkfecngimlcfoaaStageLetK7
set_option linter.all false
set_option maxRecDepth 20000
set_option maxHeartbeats 16000000
noncomputable section
set_option maxRecDepth 100000
set_option linter.unusedVariables false
namespace Go.Proofs.Ytkfecngimlcfoaa
namespace Idl
noncomputable section
abbrev OH:=Option (IV×Hp)
abbrev V:=IV
abbrev H:=Hp
abbrev O:=OH
@[reducible] def nw0 {β:Type} (s:Nat):=GX (β:=β) s (.row [.fv (.int .i64 0),.fv (.int .i64 0),.nils] false) (.ptr (.own s) 0)
@[reducible] def is0 {β:Type}:=@A4 β [] false false
abbrev bT:IV:=.fv (.bool true)
abbrev bF:IV:=.fv (.bool false)
abbrev LRf:=List Ref
abbrev iq (n:Int):IV:=.fv (.int .i64 n)
def NF b a c d (e:List V->H->O) f g h i j k:=
 Ah 3 a c b fun l m n=>Ac [] m n (BE EE 3 d (iq 1) fun o=>e [f,g,h,i,j,k,a,o] l)
def ND a b c d e f g h i j k l m n (o:List V->H->O) p q r s t u:=
 Ai 3 b a fun v w=>Ac [(c,d),(e,f),(g,h),(i,j),(k,l)] w [] (Ay (Aj EE 28 2 [(0,m),(1,v)]) 10499078 a fun x y z A=>Ac [] z A (BI [iq 0,iq 0,.nils] [(0,1,iq 26),(2,1,x)] fun B=>NF y b B n o p q r s t u))
def OA a b g h i j k l m n o (p:List V->H->O) q r s t u v:=
 Ac [] a b (Ay (Aj EE 28 1 [(0,h)]) 10499075 g fun w x c d=>Ac [] c d (is0 i 24 [iq 30,w] x fun y z e f=>Ac [] e f (ND z j e f c d a b k l m n y o p q r s t u v)))
def On a f g h (i:List V->H->O) j k l m n o:=
 is0 a 25 [iq 0] f fun p q b c=>Ac [] b c (Ay (Aj EE 28 1 [(0,p)]) 10499073 q fun r s d e=>Ac [] d e (is0 a 24 [iq 19,r] s fun t u v w=>OA v w u t a g d e b c h i j k l m n o))
def NM c d a b e f:=
 Ac [] c d (Aa b true a (fun g=>AJ e bT f fun h=>g h a [] []) fun i j _ _=>AJ b i bF fun k=>Am [k] j)
def NW b a g h i j:=
 Aa a false b (fun k=>Ai 3 g b fun l m=>k l b m []) fun n c d e=>Ac [] d e (Aa a false c (fun o=>Ai 3 h c fun p q=>o p c q []) fun r f s t=>Ac [(d,e)] s t (Aa a false f (fun u=>is0 i 17 [n,r] f u) fun v w x y=>NM x y w j a v))
def NY f g b h c i j:=
 AJ f g bF fun a=>Aa a true b (fun k=>k h b [] []) fun l d _ _=>Aa a true d (fun m=>is0 c 15 [l] d m) fun n e o p=>Ac [] o p (Aa a true e (fun q=>q n e [] []) fun r s _ _=>NW s r i j c a)
def NA f g b a h i j k l m:=
 Ac [] f g (Aa a true b (fun n=>n h b [] []) fun o c _ _=>Aa a true c (fun p=>CK EE 3 .mul (iq 2) o fun q=>p q c [] []) fun r d _ _=>Aa a true d (fun s=>BE EE 3 r (iq 1) fun t=>s t d [] []) fun u e _ _=>Aa a true e (fun v=>AS EE 3 i u fun w=>v w e [] []) fun x y _ _=>NY a x y j k l m)
def Nx f g c a h d i j k l:=
 Ac [] f g (Aa a true c (fun m=>AU 3 h (iq 1) fun n=>m n c [] []) fun o b _ _=>Aa a true b (fun p=>Ai 3 o b fun q r=>p q b r []) fun s e t u=>Ac [] t u (Aa a true e (fun v=>is0 d 31 [s] e v) fun w x y z=>NA y z x a i w j d k l))
def NO c d e g h i j k l m:=
 Aa d true c (fun n=>is0 e 17 [g,h] c n) fun o f p q=>Ac [] p q (AJ d o bF fun a=>Aa a true f (fun r=>Ab 2 i fun s=>r s f [] []) fun t b _ _=>Aa a true b (fun u=>Af t b fun v w=>u v b w []) fun x y z A=>Nx z A y a x e j k l m)
def NB d a g h i j k l m n o p:=
 Aa a true d (fun q=>AU 3 g (iq 0) fun r=>q r d [] []) fun s b _ _=>Aa a true b (fun t=>Ai 3 s b fun u v=>t u b v []) fun w c e f=>Ac [] e f (Aa a true c (fun x=>Ai 3 h c fun y z=>x y c z []) fun A B C D=>Ac [(e,f),(i,j)] C D (NO B a k w A l m n o p))
def Og c d i e j k l m n o:=
 Aa d true c (fun p=>AS EE 3 i (iq 2) fun q=>p q c [] []) fun r f _ _=>AJ d r bF fun a=>Aa a true f (fun s=>Ab 2 e fun t=>s t f [] []) fun u b _ _=>Aa a true b (fun v=>Af u b fun w x=>v w b x []) fun y z g h=>Ac [] g h (NB z a y j g h k e l m n o)
def Oi f c d g h i j k l:=
 AS EE 36 f (iq 0) fun a=>Aa a true c (fun m=>Ab 2 d fun n=>m n c [] []) fun o b _ _=>Aa a true b (fun p=>Af o b fun q r=>p q b r []) fun s e t u=>Ac [] t u (Aa a true e (fun v=>Ci s fun w=>v w e [] []) fun x y _ _=>Og y a x d g h i j k l)
def Nv a d e f g h i j:=
 is0 a 20 [.nils,iq 0,e] d fun b k _ _=>Aq 0 b fun l=>Aq 1 b fun m=>nw0 10507269 k fun c n _ _=>Ah 3 c l n fun o _ _=>Oi f o g h a i m c j
def NV a d e f g h i:=
 Aq 0 a fun j=>Aq 1 a fun k=>nw0 10506245 d fun b l _ _=>Ah 3 b j l fun c _ _=>Ai 3 e c fun m _=>Nv f c m k b g h i
def Ox a d e c f g h:=
 is0 a 15 [e] d fun i b _ _=>Ak i (Am [bT] b) (Ai 3 c b fun j _=>is0 a 16 [j] b fun k l _ _=>NV k l c a f g h)
def Ny a c d e f g h:=
 is0 a 34 [d] c fun b i _ _=>Aq 0 b fun j=>Aq 1 b fun k=>nw0 10503173 i fun l m _ _=>Ah 3 l j m fun n _ _=>Ox a n k e f g h
def Nf c a d g e h i j:=
 Aa a false c (fun k=>is0 d 35 [g] c k) fun l f _ _=>Aa a false f (fun m=>CE EE 3 l (iq 0) fun n=>m n f [] []) fun o b _ _=>AJ a bT o fun p=>Ak p (Am [bT] b) (Ai 3 e b fun q _=>Ny d b q e h i j)
def Ol b a d e f j k:=
 Aa a false b (fun l=>Ai 3 d b fun m n=>l m b n []) fun o g _ _=>Aa a false g (fun p=>is0 e 31 [o] g p) fun q h _ _=>Aa a false h (fun r=>KN EE 3 q (iq 1000) fun s=>r s h [] []) fun t c _ _=>AJ a bT t fun i=>Aa i false c (fun u=>Ai 3 f c fun v w=>u v c w []) fun x y _ _=>Nf y i e x f d j k
def NJ f b g h i c j k l:=
 Ah 3 b g f fun d _ _=>Eh (Qw .not h) fun a=>Aa a false d (fun m=>m i d [] []) fun n e _ _=>Aa a false e (fun o=>is0 c 15 [n] e o) fun p q _ _=>AJ a bT p fun r=>Ol q r j c b k l
def NP a c d b e f g h i:=
 Ai 3 c a fun j _=>Ai 3 d a fun k _=>Ay (Aj EE 28 2 [(0,j),(1,k)]) 10500098 a fun l m _ _=>is0 b 24 [iq 28,l] m fun n o _ _=>nw0 10500100 o fun p q _ _=>NJ q p n e f b g h i
def Oo (k:List V) a b c (l:List V->H->O) d e f g:=
 AC k fun h m=>AC m fun i n=>AC n fun j _=>Hm EE 3 j a fun o=>Ak o (On b c i j l a d e f g h) (NP c e i b f h g a d)
def Sw (a:List V) b c (d:List V->H->O):=
 AC a fun e f=>AC f fun g h=>AC h fun i j=>AC j fun k l=>AC l fun m n=>Oo n e b c d g i k m
def NK a c d n e f g h i:=
 is0 a 23 [d,iq 20] c fun j k _ _=>is0 a 25 [iq 0] k fun l m _ _=>nw0 10494977 m fun b o _ _=>Ah 3 b l o fun p _ _=>BQ n (fun q r s=>Sw r a s q) [j,e,f,g,h,i,b,iq 0] p
def Oc a d e f n g h i:=
 is0 a 34 [e] d fun b j _ _=>Aq 0 b fun k=>Aq 1 b fun l=>nw0 10492933 j fun c m _ _=>Ah 3 c k m fun o _ _=>NK a o f n g h i c l
def Oh b d e f n g:=
 Aq 0 b fun h=>Aq 1 b fun i=>nw0 10491910 d fun a j _ _=>Ah 3 a h j fun c _ _=>Ai 3 a c fun k _=>Oc e c k f n g a i
def OB d e f c g n:=
 nw0 10490881 d fun a h _ _=>Ah 3 a e h fun b _ _=>Ai 3 a b fun i _=>Ai 3 f b fun j _=>is0 c 33 [.nils,i,j,iq 3] b fun k l _ _=>Oh k l c g n a
def Oz a c d e f n:=
 is0 a 12 [d] c fun g b _ _=>Eh (Qw .not g) fun h=>Ak h (Am [bT] b) (is0 a 24 [iq 15,.nils] b fun i j _ _=>OB j i e a f n)
def S10 (b:Al) (n:Nat) (d e:V) (f:H):O :=
 A7 10485760 d f fun c g _ _=>is0 b 11 [] g fun h a _ _=>Eh (Qw .not h) fun i=>Ak i (Am [bF] a) (Ai 3 c a fun j _=>Oz b a j c e n)
theorem AuN a n b c d:Ax EE a ft.get n 10 [b,c] d=S10 a n b c d:=by kernel_rfl
def Ata c d a b e:=
 Ac [] c d (Aa b true a (fun f=>Eh (Qw .not e) fun g=>f g a [] []) fun h i _ _=>AJ b h bF fun j=>Am [j] i)
def Atr e f g h b c:=
 Ac [] e f (AJ g h bF fun a=>Aa a true b (fun i=>is0 c 24 [iq 10,.nils] b i) fun j d k l=>Ac [] k l (Aa a true d (fun m=>is0 c 18 [j] d m) fun n o p q=>Ata p q o a n))
def Aq6 b a h c:=
 Aa a true b (fun i=>Ai 3 h b fun j k=>i j b k []) fun l d e f=>Ac [] e f (Aa a true d (fun m=>is0 c 26 [iq 3] d m) fun n g o p=>Ac [(e,f)] o p (Aa a true g (fun q=>is0 c 17 [l,n] g q) fun r s t u=>Atr t u a r s c))
def Auo a c d:=
 Aq 0 a fun e=>Aq 1 a fun f=>nw0 11535369 c fun b g _ _=>Ah 3 b e g fun h _ _=>AS EE 36 f (iq 0) fun i=>Aq6 h i b d
def S11 (a:Al) (n:Nat) (b:H):O :=
 is0 a 26 [iq 3] b fun c d _ _=>Ay (Aj EE 28 1 [(0,c)]) 11535361 d fun e f _ _=>is0 a 24 [iq 19,e] f fun g h _ _=>Ay (Aj EE 28 1 [(0,g)]) 11535363 h fun i j _ _=>is0 a 24 [iq 30,i] j fun k l _ _=>is0 a 16 [k] l fun m o _ _=>Auo m o a
theorem Auc a n b:Ax EE a ft.get n 11 [] b=S11 a n b:=by kernel_rfl
def S12 (b:Al) (n:Nat) (c:V) (d:H):O :=
 A7 12582912 c d fun e a _ _=>Ai 3 e a fun f _=>is0 b 36 [f,iq 300] a fun g h _ _=>Hm EE 3 g (iq 300) fun i=>Am [i] h
theorem AuI a n b c:Ax EE a ft.get n 12 [b] c=S12 a n b c:=by kernel_rfl
def S15 (l:Al) (n:Nat) (b:V) (c:H):O :=
 AS EE 3 b (iq 17) fun a=>Aa a false c (fun e=>e b c [] []) fun f d _ _=>Aa a false d (fun g=>AS EE 3 f (iq 5) fun h=>g h d [] []) fun i j _ _=>AJ a bT i fun k=>Am [k] j
theorem AsS a n b c:Ax EE a ft.get n 15 [b] c=S15 a n b c:=by kernel_rfl
def Amp c a:=
 BI [iq 0,iq 0,.nils] [] fun d=>Ah 3 a d c fun b _ _=>As true 3 a b fun e=>Am [e,iq 1] b
def Alm c a d e:=
 Ah 3 a d c fun b _ _=>As true 3 a b fun f=>Am [f,e] b
def AmF c a d:=
 Ah 3 a d c fun b _ _=>As true 3 a b fun e=>Am [e,iq 10] b
def Am1 c a d:=
 Ah 3 a d c fun b _ _=>As true 3 a b fun e=>Am [e,iq 0] b
def AlB c d e b f:=
 is0 c 18 [e] d fun g a _ _=>Eh (Qw .not g) fun h=>Ak h (BI [iq 0,iq 0,.nils] [] fun i=>AmF a b i) (Ai 3 f a fun j _=>Am1 a b j)
def AkD e a f c d g:=
 Ah 3 a f e fun b _ _=>CE EE 36 c (iq 0) fun h=>Ak h (BI [iq 0,iq 0,.nils] [] fun i=>Alm b d i c) (Ai 3 a b fun j _=>AlB g b j d a)
def AkX a d b e:=
 Ai 3 d a fun f _=>is0 b 41 [f] a fun c g _ _=>Aq 0 c fun h=>Aq 1 c fun i=>nw0 16780293 g fun j k _ _=>AkD k j h i e b
def S16 (a:Al) (n:Nat) (f:V) (g:H):O :=
 A7 16777216 f g fun b h _ _=>nw0 16777217 h fun c d _ _=>Ai 3 b d fun i _=>is0 a 40 [i] d fun j e _ _=>CE EE 36 j (iq 0) fun k=>Ak k (Amp e c) (AkX e b a c)
theorem Ats a n b c:Ax EE a ft.get n 16 [b] c=S16 a n b c:=by kernel_rfl
def Gp a (b:List V->H->O) c d e:=
 BE EE 3 a (iq 1) fun f=>b [d,e,f] c
def Gz b c d e f g h i (j:List V->H->O) k l:=
 Ac [(c,[]),(d,[])] b [] (is0 e 17 [g,h] f fun m a n o=>Ac [] n o (Eh (Qw .not m) fun p=>Ak p (Am [bF] a) (Gp i j a k l)))
def Gw b a c d e f g (h:List V->H->O) i:=
 Ab 2 b fun j=>Af j a fun k l=>Ac [(c,[]),(d,[])] l [] (AU 3 k e fun m=>Ai 3 m a fun n o=>Gz o c d f a g n e h i b)
def Gk a e b f g (h:List V->H->O) i:=
 Af e a fun j c=>Ac [] c [] (AU 3 j b fun k=>Ai 3 k a fun l d=>Ac [] d [] (Gw f a d c b g l h i))
def GP d a b c e f (g:List V->H->O):=
 Ci d fun h=>Hm EE 3 a h fun i=>Ak i (Ab 2 b fun j=>Gk c j a e f g b) (Am [bT] c)
def Oe (c:List V) a d (e:List V->H->O):=
 AC c fun b f=>AC f fun g h=>AC h fun i _=>Ab 2 b fun j=>Af j a fun k _=>GP k i b a g d e
def GL b a n c d e:=
 Ak b (Am [bF] a) (BQ n (fun f g h=>Oe g h e f) [c,d,iq 0] a)
def Gl c a d g n h i:=
 Aa a false c (fun j=>Ab 2 d fun k=>j k c [] []) fun l b _ _=>Aa a false b (fun m=>Af l b fun o p=>m o b p []) fun q e _ _=>Aa a false e (fun r=>Ci q fun s=>r s e [] []) fun t f _ _=>Aa a false f (fun u=>CE EE 3 g t fun v=>u v f [] []) fun w x _ _=>AJ a bT w fun y=>GL y x n h d i
def Gs c d h i e j n k:=
 Aa d false c (fun l=>CE EE 3 h i fun m=>l m c [] []) fun o f _ _=>AJ d bT o fun a=>Aa a false f (fun p=>Ab 2 e fun q=>p q f [] []) fun r b _ _=>Aa a false b (fun s=>Af r b fun t u=>s t b u []) fun v g _ _=>Aa a false g (fun w=>Ci v fun x=>w x g [] []) fun y z _ _=>Gl z a j y n e k
def Gv h i d e f n j:=
 CE EE 3 h i fun a=>Aa a false d (fun k=>Ab 1 e fun l=>k l d [] []) fun m b _ _=>Aa a false b (fun o=>Af m b fun p q=>o p b q []) fun r g _ _=>Aa a false g (fun s=>Ab 1 f fun t=>s t g [] []) fun u c _ _=>Aa a false c (fun v=>Af u c fun w x=>v w c x []) fun y z _ _=>Gs z a r y e f n j
def S17 (d:Al) (n:Nat) (e f:V) (g:H):O :=
 A7 17825792 e g fun b h _ _=>A7 17825793 f h fun c a _ _=>Ab 0 b fun i=>Af i a fun j _=>Ab 0 c fun k=>Af k a fun l _=>Gv j l a b c n d
theorem AtL a n b c d:Ax EE a ft.get n 17 [b,c] d=S17 a n b c d:=by kernel_rfl
def S18 (b:Al) (n:Nat) (c:V) (d:H):O :=
 A7 18874368 c d fun e a _ _=>BI [iq 0,iq 0] [(0,1,iq 20),(1,1,iq 29)] fun f=>Ai 3 e a fun g _=>is0 b 42 [f,g] a fun h i _ _=>Am [h] i
theorem ArT a n b c:Ax EE a ft.get n 18 [b] c=S18 a n b c:=by kernel_rfl
def Aam d e a:=
 is0 d 44 [iq 8] e fun b f _ _=>Aq 0 b fun g=>Aq 1 b fun h=>Ah 3 a g f fun c _ _=>As true 3 a c fun i=>Am [i,h] c
def AcS a d b:=
 Aq 0 a fun e=>Aq 1 a fun f=>Ah 3 b e d fun c _ _=>As true 3 b c fun g=>Am [g,f] c
def Ahw d e f a:=
 is0 d 34 [f] e fun b g _ _=>Aq 0 b fun h=>Aq 1 b fun i=>Ah 3 a h g fun c _ _=>As true 3 a c fun j=>Am [j,i] c
def Ahx a c d b e:=
 Ai 3 c a fun f _=>Ab 1 d fun g=>Af g a fun h _=>BE EE 3 h (iq 1) fun i=>is0 b 45 [f,i,iq 0] a fun j k _ _=>Ahw b k j e
def Ah0 a d e b c f g:=
 Af d a fun h _=>CE EE 3 h e fun i=>Ak i (is0 b 44 [iq 10] a fun j k _ _=>AcS j k c) (Ab 1 f fun l=>Ahx a l g b c)
def Afh c d b e f g h:=
 AU 4 c d fun i=>Ai 4 i b fun j _=>GX 20975625 (.row [iq 0,iq 0,iq 0,.nils] false) (.ptr (.own 20975625) 0) b fun a k _ _=>Ah 4 a j k fun l _ _=>Ab 0 a fun m=>Ah0 l m e f g a h
def Zo a b c d e f:=
 Ci a fun g=>Bj EE 3 g (iq 1) fun h=>Ab 1 b fun i=>Af i c fun j _=>Bj EE 3 h j fun k=>Afh a k c d e f b
def Ahf b a c d e f:=
 Ab 1 b fun g=>Af g a fun h _=>Ci c fun i=>Yf EE 3 h i fun j=>Ak j (Aam d a e) (Zo c b a f d e)
def AaO c d a e:=
 Aq 1 c fun f=>Ah 3 a e d fun b _ _=>As true 3 a b fun g=>Am [g,f] b
def ZD a b c:=
 As true 3 b a fun d=>Am [d,c] a
def Adk a d e f b:=
 Ai 3 d a fun g _=>is0 e 46 [f,g] a fun c h _ _=>Aq 0 c fun i=>Aq 1 c fun j=>Ah 3 b i h fun k _ _=>ZD k b j
def AdA a d b:=
 Aq 0 a fun e=>Aq 1 a fun f=>Ah 3 b e d fun c _ _=>As true 3 b c fun g=>Am [g,f] c
def AaI a d e b:=
 Af d a fun f _=>BE EE 3 f (iq 1) fun g=>is0 e 47 [g] a fun h i _ _=>Ah 3 b h i fun c _ _=>As true 3 b c fun j=>Am [j,iq 0] c
def Ah8 a d b c e:=
 Af d a fun f _=>AS EE 3 f (iq 2) fun g=>Ak g (is0 b 44 [iq 13] a fun h i _ _=>AdA h i c) (Ab 1 e fun j=>AaI a j b c)
def Ado a b:=
 As true 3 b a fun c=>Am [c,iq 0] a
def AfM c d a:=
 is0 c 24 [iq 10,.nils] d fun e f _ _=>Ah 3 a e f fun b _ _=>As true 3 a b fun g=>Am [g,iq 0] b
def AbP d e f a:=
 is0 d 44 [f] e fun b g _ _=>Aq 0 b fun h=>Aq 1 b fun i=>Ah 3 a h g fun c _ _=>As true 3 a c fun j=>Am [j,i] c
def Agc c d a:=
 is0 c 24 [iq 10,.nils] d fun e f _ _=>Ah 3 a e f fun b _ _=>As true 3 a b fun g=>Am [g,iq 0] b
def Ait e f g h a i j k l b:=
 Ac [(g,[]),(h,[])] e f (is0 a 48 [j,iq 1,k,l] i fun c d m n=>Ac [] m n (CE EE 3 c (iq 0) fun o=>Ak o (AbP a d c b) (Agc a d b)))
def AgA a e b c f g:=
 Ac [] a [] (AU 3 e (iq 0) fun h=>Ai 3 h b fun i d=>Ac [] d [] (is0 c 24 [iq 10,.nils] b fun j k l m=>Ait l m d a c k f i j g))
def AgF c d a e:=
 Aq 1 c fun f=>Ah 3 a e d fun b _ _=>As true 3 a b fun g=>Am [g,f] b
def Aef a b:=
 As true 3 b a fun c=>Am [c,iq 0] a
def Ahh b c d a:=
 CE EE 3 b (iq 0) fun f=>Ak f (is0 c 44 [b] d fun e g _ _=>Aq 0 e fun h=>AgF e g a h) (is0 c 24 [iq 14,.nils] d fun i j _ _=>Ah 3 a i j fun k _ _=>Aef k a)
def AfK b a c d e f:=
 Ac [] b [] (is0 a 24 [iq 14,.nils] c fun g h i j=>Ac [(b,[])] i j (is0 a 49 [d,iq 1,e,g] h fun k l m n=>Ac [] m n (Ahh k a l f)))
def Zp c d a e:=
 Aq 1 c fun f=>Ah 3 a e d fun b _ _=>As true 3 a b fun g=>Am [g,f] b
def AhD a b:=
 As true 3 b a fun c=>Am [c,iq 0] a
def Afb b c d a:=
 CE EE 3 b (iq 0) fun f=>Ak f (is0 c 44 [b] d fun e g _ _=>Aq 0 e fun h=>Zp e g a h) (is0 c 47 [iq 0] d fun i j _ _=>Ah 3 a i j fun k _ _=>AhD k a)
def Ah9 b a c d e f g:=
 Ac [] b [] (is0 a 24 [iq 14,.nils] c fun h i j k=>Ac [(b,[]),(d,[])] j k (is0 a 48 [e,iq 1,f,h] i fun l m n o=>Ac [] n o (Afb l a m g)))
def AeT c a d e f:=
 Ab 2 c fun g=>Af g a fun h b=>Ac [] b [] (AU 3 h (iq 0) fun i=>Ai 3 i a fun j k=>Ah9 k d a b e j f)
def Ad5 a d b:=
 Aq 0 a fun e=>Aq 1 a fun f=>Ah 3 b e d fun c _ _=>As true 3 b c fun g=>Am [g,f] c
def Ag5 c d e a:=
 Ay (Aj EE 28 1 [(0,d)]) 21015553 c fun f g _ _=>is0 e 24 [iq 18,f] g fun h i _ _=>Ah 3 a h i fun b _ _=>As true 3 a b fun j=>Am [j,iq 0] b
def Ae6 f g b c d:=
 nw0 21012489 f fun e h _ _=>Ah 3 e g h fun a _ _=>CE EE 3 b (iq 0) fun i=>Ak i (is0 c 44 [b] a fun j k _ _=>Ad5 j k d) (Ai 3 e a fun l _=>Ag5 a l c d)
def Aax d a b e f:=
 AU 3 d (iq 0) fun g=>Ai 3 g a fun h _=>is0 b 20 [e,iq 0,h] a fun c i _ _=>Aq 0 c fun j=>Aq 1 c fun k=>Ae6 i j k b f
def Abr a d b:=
 Aq 0 a fun e=>Aq 1 a fun f=>Ah 3 b e d fun c _ _=>As true 3 b c fun g=>Am [g,f] c
def Agt f b a c d e:=
 AS EE 3 f (iq 19) fun g=>Ak g (Ab 2 b fun h=>Af h a fun i _=>Aax i a c d e) (Ai 3 b a fun j _=>is0 c 50 [d,j] a fun k l _ _=>Abr k l e)
def AaQ g b a c d e f:=
 Ak g (Ab 2 b fun h=>Af h a fun i j=>AfK j c a d i e) (AS EE 3 f (iq 18) fun k=>Ak k (AeT b a c d e) (Agt f b a c d e))
def Ae5 a (b:V->H->O) c:=
 AS EE 3 a (iq 17) fun d=>b d c
def AgW c (a:V->H->O) b d:=
 Ak c (a c b) (AS EE 3 d (iq 16) fun e=>Ak e (a e b) (Ae5 d a b))
def Ahk a c b d e f:=
 AS EE 3 a (iq 12) fun g=>Ak g (Ab 2 c fun h=>Af h b fun i j=>AgA j i b d e f) ((fun (k:V->H->O)=>AS EE 3 a (iq 15) fun l=>AgW l k b a) fun m n=>AaQ m c n d e f a)
def AfN e b c a d f g:=
 Ak e (is0 b 47 [iq 0] c fun h i _ _=>Ah 3 a h i fun j _ _=>Ado j a) (AS EE 3 d (iq 11) fun k=>Ak k (AfM b c a) (Ahk d f c b g a))
def AfA a (b:V->H->O) c:=
 AS EE 3 a (iq 10) fun d=>Ak d (b d c) (AS EE 3 a (iq 14) fun e=>b e c)
def Air a b d e f:=
 Ab 0 a fun g=>Af g b fun c _=>AS EE 3 c (iq 2) fun h=>Ak h (Ab 1 a fun i=>Ah8 b i d e a) ((fun (j:V->H->O)=>AfA c j b) fun k l=>AfN k d l e c a f)
def Aan g a b c h d e:=
 Ak g (is0 a 44 [iq 10] b fun f i _ _=>Aq 0 f fun j=>AaO f i c j) (AS EE 3 h (iq 0) fun k=>Ak k (Adk b d a e c) (Air d b a c e))
def Ab1 a b c d e f:=
 Ab 0 a fun g=>Af g b fun h _=>Yf EE 3 h (iq 20) fun i=>AS EE 3 c (iq 0) fun j=>CE EE 4 i j fun k=>Aan k d b e c a f
def S20 (c:Al) (n:Nat) (d e g:V) (h:H):O :=
 A7 20971520 g h fun a i _ _=>nw0 20971521 i fun f b _ _=>Ab 0 a fun j=>Af j b fun k _=>AS EE 3 k (iq 1) fun l=>Ak l (Ahf a b d c f e) (Ab1 a b e c f d)
theorem ArU a n b c d e:Ax EE a ft.get n 20 [b,c,d] e=S20 a n b c d e:=by kernel_rfl
def S23 (j:Al) (n:Nat) (e b:V) (c:H):O :=
 CK EE 3 .rem e b fun a=>(fun (d:V->H->O)=>Hm EE 3 a (iq 0) fun f=>Ak f (BE EE 3 a b fun g=>d g c) (d a c)) fun h i=>Am [h] i
theorem Auk a n b c d:Ax EE a ft.get n 23 [b,c] d=S23 a n b c d:=by kernel_rfl
def S24 (i:Al) (n:Nat) (c d:V) (e:H):O :=
 nw0 25165824 e fun a f _ _=>BI [iq 0,iq 0,.nils] [(0,1,c),(2,1,d)] fun g=>Ah 3 a g f fun b _ _=>As true 3 a b fun h=>Am [h] b
theorem Asa a n b c d:Ax EE a ft.get n 24 [b,c] d=S24 a n b c d:=by kernel_rfl
def S25 (h:Al) (n:Nat) (c:V) (d:H):O :=
 nw0 26214400 d fun a e _ _=>BI [iq 0,iq 0,.nils] [(0,1,iq 1),(1,1,c)] fun f=>Ah 3 a f e fun b _ _=>As true 3 a b fun g=>Am [g] b
theorem Ard a n b c:Ax EE a ft.get n 25 [b] c=S25 a n b c:=by kernel_rfl
def S26 (h:Al) (n:Nat) (c:V) (d:H):O :=
 nw0 27262976 d fun a e _ _=>BI [iq 0,iq 0,.nils] [(0,1,iq 25),(1,1,c)] fun f=>Ah 3 a f e fun b _ _=>As true 3 a b fun g=>Am [g] b
theorem Atd a n b c:Ax EE a ft.get n 26 [b] c=S26 a n b c:=by kernel_rfl
def S5 b c d a e (f:List V->H->O) g h:=
 is0 b 24 [iq 12,d] c fun i j _ _=>Ah 3 a i j fun k _ _=>BE EE 3 e (iq 1) fun l=>f [g,h,a,l] k
def Vg a b:=
 As true 3 b a fun c=>Am [c] a
def UV d a b e f (g:List V->H->O) h c:=
 Ak d (Ai 3 b a fun i _=>Ay (Aj EE 28 1 [(0,i)]) 28316673 a fun j k _ _=>S5 e k j b f g h c) (Ai 3 b a fun l _=>Ah 3 c l a fun m _ _=>Vg m c)
def YS (c:List V) d e (f:List V->H->O):=
 AC c fun a g=>AC g fun h i=>AC i fun j k=>AC k fun b _=>Hm EE 3 b a fun l=>UV l d j e b f a h
def S27 (a:Al) (n:Nat) (c:V) (d:H):O :=
 nw0 28311552 d fun e f _ _=>is0 a 24 [iq 11,.nils] f fun g h _ _=>nw0 28312577 h fun b i _ _=>Ah 3 b g i fun j _ _=>BQ n (fun k l m=>YS l m a k) [c,e,b,iq 0] j
theorem As0 a n b c:Ax EE a ft.get n 27 [b] c=S27 a n b c:=by kernel_rfl
def RP c a d:=
 Ah 3 a d c fun b _ _=>As true 3 a b fun e=>Am [e] b
def Vc b c a d:=
 Ac [] b c (As true 3 d a fun e=>Am [e] a)
def Ta b c d e f a:=
 Ay (Aj EE 28 2 [(0,c),(1,d)]) 29364237 b fun g h i j=>Ac [] i j (is0 e 24 [f,g] h fun k l m n=>Ac [] m n (Ah 3 a k l fun o p q=>Vc p q o a))
def Se a b c d e f g:=
 is0 a 56 [c,iq 1] b fun h i j k=>Ac [] j k (Bj EE 3 d (iq 1) fun l=>is0 a 28 [h,l] i fun m n o p=>Ac [] o p (Ta n e m a f g))
def Sk a b f g h i j k l m:=
 Bj EE 3 a (iq 1) fun n=>is0 b 28 [g,n] f fun o c d e=>Ac [] d e (Ai 3 h c fun p q=>Ac [(d,e),(i,j),(k,[])] q [] (Se b c p a o l m))
def S8 g a b c h i:=
 Bj EE 3 g (iq 2) fun j=>Ai 3 b a fun k d=>Ac [] d [] (is0 c 56 [k,iq 0] a fun l m e f=>Ac [] e f (Sk h c m l b e f d j i))
def Uf b a c d e h i:=
 Aa a false b (fun j=>j c b [] []) fun k f _ _=>Aa a false f (fun l=>Hm EE 3 k (iq 2) fun m=>l m f [] []) fun n g _ _=>AJ a bT n fun o=>Ak o (is0 d 24 [iq 15,.nils] g fun p q _ _=>RP q e p) (BE EE 3 (iq 16) c fun r=>S8 r g h d i e)
def S28 (a:Al) (n:Nat) (e b:V) (f:H):O :=
 A7 29360128 e f fun c g _ _=>nw0 29360129 g fun h d _ _=>Ab 1 c fun i=>Af i d fun j _=>is0 a 55 [j,iq 4] d fun k l _ _=>leS EE 3 b (iq 0) fun m=>Uf l m k a h c b
theorem At7 a n b c d:Ax EE a ft.get n 28 [b,c] d=S28 a n b c d:=by kernel_rfl
def Ue a (b:List V->H->O) c d e:=
 BE EE 3 a (iq 1) fun f=>b [d,e,f] c
def Up a c b d e (f:List V->H->O) g:=
 Af c a fun h _=>AU 3 h b fun i=>Ai 3 i a fun j _=>is0 d 31 [j] a fun k l _ _=>BE EE 3 e k fun m=>Ue b f l g m
def RN e a b c f d (g:List V->H->O):=
 Ci e fun h=>Hm EE 3 a h fun i=>Ak i (Ab 2 b fun j=>Up c j a f d g b) (Am [d] c)
def XO (c:List V) a d (e:List V->H->O):=
 AC c fun b f=>AC f fun g h=>AC h fun i _=>Ab 2 b fun j=>Af j a fun k _=>RN k i b a d g e
def S31 (a:Al) (n:Nat) (b:V) (c:H):O :=
 A7 32505856 b c fun d e _ _=>BQ n (fun f g h=>XO g h a f) [d,iq 1,iq 0] e
theorem ArH a n b c:Ax EE a ft.get n 31 [b] c=S31 a n b c:=by kernel_rfl
def Ag1 c a d:=
 Ah 3 a d c fun b _ _=>As true 3 a b fun e=>Am [e,bF] b
def Af8 a b c:=
 As true 3 b a fun d=>Am [d,c] a
def AdE c a d e:=
 Ah 3 a d c fun b _ _=>As true 3 a b fun f=>Am [f,e] b
def Z2 a c d e f g h:=
 Ai 3 c a fun i _=>Ai 3 d a fun j _=>is0 e 59 [f,i,j,g] a fun b k _ _=>Aq 0 b fun l=>Aq 1 b fun m=>AdE k h l m
def Zj a b e c f:=
 Aa b true a (fun g=>g e a [] []) fun h i _ _=>AJ b h bF fun j=>Ah 3 c f i fun d k l=>Ac [] k l (As true 3 c d fun m=>Am [m,j] d)
def ZS a e f b c d g h i j k:=
 Ai 3 e a fun l m=>Ac [(f,[]),(b,c),(d,[])] m [] (Ay (Aj EE 28 2 [(0,g),(1,l)]) 34617349 a fun n o p q=>Ac [(b,c),(d,[])] p q (BI [iq 0,iq 0,.nils] [(0,1,iq 26),(1,1,h),(2,1,n)] fun r=>Zj o i j k r))
def Afo a f g h i j k l m:=
 Ac [] a [] (is0 f 55 [h,iq 5] g fun n d b c=>Ac [] b c (Ai 3 i d fun o e=>Ac [(b,c),(a,[])] e [] (ZS d j e b c a o n k l m)))
def Abp c d e f g h i j k a l m n o p q r:=
 Ac [(e,f),(g,h),(i,[]),(j,[])] c d (Ah 3 a l k fun b s t=>Ac [] s t (Ab 1 m fun u=>Af u b fun v w=>Afo w n b v o a p q r))
def AgS a e f g h i j k l m n o p q:=
 is0 a 33 [f,g,h,i] e fun b r c d=>Ac [] c d (Aq 0 b fun s=>Aq 1 b fun t=>nw0 34616330 r fun u v w x=>Abp w x c d j k l m v u s n a o p t q)
def Aav b c a d h i j k l m:=
 Ai 3 c b fun n e=>Ac [(a,[])] e [] (is0 d 56 [n,iq 1] b fun o p f g=>Ac [(a,[])] f g (Bj EE 3 h (iq 1) fun q=>AgS d p i j o q f g e a c k l m))
def ZC d e f g h i j k l a m n o p q r s t:=
 Ac [(f,g),(h,i),(j,[]),(k,[])] d e (Ah 3 a m l fun b u v=>Ac [] u v (Ai 3 n b fun w c=>Ac [] c [] (Aav b o c p q r w a s t)))
def Ab6 a f b g h i j k l m n o p q:=
 is0 a 33 [b,g,h,i] f fun c r d e=>Ac [] d e (Aq 0 c fun s=>Aq 1 c fun t=>nw0 34615306 r fun u v w x=>ZC w x d e j k l m v u s n o a p b t q)
def Ac5 b c a d e i j k l:=
 Ai 3 c b fun m f=>Ac [(a,[])] f [] (is0 d 56 [m,iq 0] b fun n o g h=>Ac [(a,[])] g h (Bj EE 3 e (iq 1) fun p=>Ab6 d o i j n p g h f a k c e l))
def Af9 a d e b:=
 is0 a 55 [e,iq 20] d fun f g _ _=>Bj EE 3 f (iq 5) fun h=>is0 a 26 [h] g fun i j _ _=>Ah 3 b i j fun c _ _=>As true 3 b c fun k=>Am [k,bT] c
def AdU g a b c d h i e:=
 Ak g (Ai 3 b a fun j f=>Ac [] f [] (Ac5 a c f d h i j b e)) (Ab 1 c fun k=>Af k a fun l _=>Af9 d a l e)
def ZL c a d e h i j k:=
 Aa a true c (fun l=>Ab 0 d fun m=>l m c [] []) fun n b _ _=>Aa a true b (fun o=>Af n b fun p q=>o p b q []) fun r f _ _=>Aa a true f (fun s=>is0 e 55 [r,iq 2] f s) fun t g _ _=>Aa a true g (fun u=>AS EE 3 t (iq 1) fun v=>u v g [] []) fun w x _ _=>AJ a w bF fun y=>AdU y x h d e i j k
def Aib b c a d e:=
 Ac [] b c (As true 3 d a fun f=>Am [f,e] a)
def Aa3 b c d e a f:=
 Ay (Aj EE 28 2 [(0,c),(1,d)]) 34621445 b fun g h i j=>Ac [] i j (is0 e 24 [iq 20,g] h fun k l m n=>Ac [] m n (Ah 3 a k l fun o p q=>Aib p q o a f))
def Aio c a d e f g h:=
 AU 3 c (iq 0) fun i=>Ai 3 i a fun j b=>Ac [] b [] (Ai 3 d a fun k l=>Ac [(b,[]),(e,[])] l [] (Aa3 a j k f g h))
def Acv d a e f g h i:=
 Ah 3 a e d fun b j k=>Ac [] j k (Ab 2 f fun l=>Af l b fun m c=>Ac [] c [] (Aio m b a c g h i))
def Zs a b c d e f g h i j k l m n o p q r:=
 Ac [] a b (Aq 0 c fun s=>Aq 1 c fun t=>nw0 34620435 d fun u v w x=>Ac [(a,b),(e,f),(g,[]),(h,i),(j,[]),(k,[]),(l,m),(n,[]),(o,[])] w x (Acv v u s p q r t))
def AaP b c d e f g h i j a m n o p q r s:=
 Ac [(c,d),(e,[]),(f,[]),(g,h),(i,[]),(j,[])] b [] (is0 a 56 [n,iq 0] m fun t u k l=>Ac [] k l (Bj EE 3 o (iq 1) fun v=>is0 a 33 [p,q,t,v] u fun w x y z=>Zs y z w x k l b c d e f g h i j r a s))
def Ahn a k b c d e f l m n o p q:=
 Ai 3 k a fun r g=>Ac [(b,c),(d,[]),(e,[])] g [] (is0 f 45 [r,iq 1,iq 0] a fun s h i j=>Ac [] i j (Ai 3 l h fun t u=>AaP u i j g m b c d e f h t n o s p q))
def AbL a b c d e f h i j k l:=
 Ac [] a b (Ab 2 c fun m=>Af m d fun n g=>Ac [(a,b),(e,[]),(f,[])] g [] (AU 3 n (iq 1) fun o=>Ahn d o a b e f h i g j k c l))
def Ad7 a e b c f g h i j:=
 Ac [] a [] (AU 3 e (iq 0) fun k=>Ai 3 k b fun l d=>Ac [] d [] (is0 c 60 [f,iq 0,l] b fun m n o p=>AbL o p g n d a c h i m j))
def AgZ a b c:=
 As true 3 b a fun d=>Am [d,c] a
def Aev d e f g a h b:=
 Ay (Aj EE 28 2 [(0,e),(1,f)]) 34625538 d fun i j _ _=>is0 g 24 [iq 22,i] j fun k c _ _=>Aa a true c (fun l=>l h c [] []) fun m n _ _=>AJ a m bF fun o=>Ah 3 b k n fun p _ _=>AgZ p b o
def AhQ c d e f g h i j k l b m n o p q r:=
 Ac [(e,f),(g,h),(i,[]),(j,[]),(k,[])] c d (Ah 3 b m l fun a s t=>Ac [] s t (Ai 3 n a fun u _=>Ai 3 b a fun v _=>Aev a u v o p q r))
def AgI a e f g h i j k l m n o p q:=
 is0 a 33 [f,g,h,i] e fun b r c d=>Ac [] c d (Aq 0 b fun s=>Aq 1 b fun t=>nw0 34624525 r fun u v w x=>AhQ w x c d j k l m n v u s o a p t q)
def AdZ c h a b d i j k l m n:=
 Ai 3 h c fun o e=>Ac [(a,[]),(b,[])] e [] (is0 d 56 [o,iq 1] c fun p q f g=>Ac [(a,[]),(b,[])] f g (Bj EE 3 i (iq 1) fun r=>AgI d q j k p r f g e a b l m n))
def Abk a d e f g h i j k:=
 Af d a fun l b=>Ac [] b [] (AU 3 l (iq 1) fun m=>Ai 3 m a fun n c=>Ac [] c [] (AdZ a e c b f g h n i j k))
def AaS b c d e f g h i j k l m n o p q:=
 nw0 34623501 b fun a r s t=>Ac [(c,d),(e,f),(g,[]),(h,[]),(i,[])] s t (Ah 3 a j r fun u v w=>Ac [] v w (Ab 2 k fun x=>Abk u x l m n o a p q))
def Aea a b g c h i j k l m n o p q:=
 Bj EE 3 a (iq 1) fun r=>is0 b 33 [c,h,i,r] g fun d s e f=>Ac [] e f (Aq 0 d fun t=>Aq 1 d fun u=>AaS s e f j k l m n t o p b a c u q)
def AaJ a c d b e i j k l m:=
 Ac [] a [] (Ai 3 d c fun n f=>Ac [(a,[]),(b,[])] f [] (is0 e 56 [n,iq 0] c fun o p g h=>Ac [(a,[]),(b,[])] g h (Aea i e p j k o g h f a b l d m)))
def AbZ b a d e f g h:=
 Ab 2 b fun i=>Af i a fun j c=>Ac [] c [] (AU 3 j (iq 0) fun k=>Ai 3 k a fun l m=>AaJ m a d c e f g l b h)
def Ail a d b e:=
 Ai 3 d a fun f _=>Ah 3 b f a fun c _ _=>As true 3 b c fun g=>Am [g,e] c
def Aik h b a d e f g c i j k:=
 Ak h (Ab 2 b fun l=>Af l a fun m n=>Ad7 n m a d e b f g c) (AS EE 3 i (iq 17) fun o=>Ak o (AbZ b a f d g e c) (Ail a j c k))
def AhI a b c e f g h i j:=
 Ab 0 a fun k=>Af k b fun d _=>AS EE 3 d (iq 15) fun l=>Ak l (KN EE 3 c (iq 0) fun m=>ZL b m e f a c g h) (AS EE 3 d (iq 16) fun n=>Aik n a b f g e c h d i j)
def Agg b a l c d e f g h m n:=
 Aa a true b (fun o=>Af l b fun p q=>o p b q []) fun r i _ _=>Aa a true i (fun s=>is0 c 55 [r,iq 3] i s) fun t j _ _=>Aa a true j (fun u=>AS EE 3 t (iq 1) fun v=>u v j [] []) fun w k _ _=>AJ a w bF fun x=>Ak x (Z2 k d e c f g h) (AhI d k g e c f h m n)
def AdD h a c b d e f i j k:=
 Ak h (Ai 3 c a fun l _=>Ah 3 b l a fun m _ _=>Af8 m b d) (KN EE 3 e (iq 0) fun g=>Aa g true a (fun n=>Ab 0 f fun o=>n o a [] []) fun p q _ _=>Agg q g p i j f k e b c d)
def AeF c a g d h i j k l m:=
 Aa a true c (fun n=>AS EE 3 g (iq 0) fun o=>n o c [] []) fun p e _ _=>AJ a p bF fun b=>Aa b false e (fun q=>q d e [] []) fun r f _ _=>Aa b false f (fun s=>Hm EE 3 r (.fv (.int .i64 (-4))) fun t=>s t f [] []) fun u v _ _=>AJ b bT u fun w=>AdD w v h i a d j k l m
def Y9 h i a c d j k l m:=
 nw0 34607112 h fun e n _ _=>Ah 3 e i n fun f _ _=>Aa a true f (fun o=>Ab 0 c fun p=>o p f [] []) fun q b _ _=>Aa a true b (fun r=>Af q b fun s t=>r s b t []) fun u g _ _=>Aa a true g (fun v=>is0 d 55 [u,iq 3] g v) fun w x _ _=>AeF x a w j e k c d l m
def AhR a b c d f g h i:=
 Ab 1 a fun j=>Af j b fun k _=>is0 c 58 [d,iq 0,f,k] b fun e l _ _=>Aq 0 e fun m=>Aq 1 e fun n=>Y9 l m n a c g h i d
def AbB d e a f c g h i j:=
 Aq 1 d fun k=>Ah 3 a f e fun b _ _=>CE EE 3 k (iq 0) fun l=>Ak l (BI [iq 0,iq 0,.nils] [] fun m=>Ag1 b c m) (Ai 3 a b fun n _=>AhR g b h i n j c a)
def S33 (a:Al) (n:Nat) (e f g h:V) (i:H):O :=
 A7 34603008 f i fun b j _ _=>A7 34603009 g j fun k l _ _=>nw0 34603010 l fun m c _ _=>Ai 3 b c fun o _=>is0 a 34 [o] c fun d p _ _=>Aq 0 d fun q=>AbB d p b q m k a e h
theorem Ask a n b c d e f:Ax EE a ft.get n 33 [b,c,d,e] f=S33 a n b c d e f:=by kernel_rfl
def X3 b c d a e f:=
 Ac [(d,[])] b c (As true 3 e a fun g=>Am [g,f] a)
def Xs d a b e:=
 AH d fun f=>Ab 2 f fun g=>Af g a fun h c=>Ac [] c [] (Ah 3 b e a fun i j k=>X3 j k c i b h)
def YT c a d:=
 Ah 3 a d c fun b _ _=>As true 3 a b fun e=>Am [e,iq 0] b
def YQ a c d b e:=
 Af c a fun f _=>CE EE 3 f (iq 0) fun g=>Ak g (BI [iq 0,iq 0,.nils] [] fun h=>Xs d a b h) (Ai 3 e a fun i _=>YT a b i)
def Xr c d a e f:=
 A4 [true,false,false,false] false false c 61 [a,e,iq 0,iq 1] d fun g h _ _=>nw0 35653637 h fun b i _ _=>Ah 3 b g i fun j _ _=>AH a fun k=>Ab 2 k fun l=>YQ j l a f b
def S34 (a:Al) (n:Nat) (d:V) (e:H):O :=
 A7 35651584 d e fun f g _ _=>nw0 35651585 g fun h i _ _=>BI [iq 0,iq 0,iq 0] [] fun j=>A7 35652609 j i fun b c _ _=>Ai 3 f c fun k _=>A4 [true,false,false] false false a 62 [b,k,.nils] c fun l m _ _=>Xr a m b l h
theorem AuF a n b c:Ax EE a ft.get n 34 [b] c=S34 a n b c:=by kernel_rfl
def AmQ b a:=
 Ab 1 b fun c=>Af c a fun d _=>Am [d] a
def S35 (c:Al) (n:Nat) (d:V) (e:H):O :=
 A7 36700160 d e fun f g _ _=>BI [iq 0,iq 0] [] fun h=>A7 36701185 h g fun a b _ _=>Ai 3 f b fun i _=>A4 [true,false,false] false false c 63 [a,i,iq 1] b fun _ j _ _=>AH a fun k=>AmQ k j
theorem AsK a n b c:Ax EE a ft.get n 35 [b] c=S35 a n b c:=by kernel_rfl
def P4 a b c (d:List V->H->O) e f g:=
 BE EE 3 a b fun h=>BE EE 3 c (iq 1) fun i=>d [f,g,h,i] e
def O1 a e b c d f (g:List V->H->O) h:=
 Af e a fun i _=>AU 3 i b fun j=>Ai 3 j a fun k _=>Bj EE 3 c d fun l=>is0 f 36 [k,l] a fun m n _ _=>P4 d m b g n c h
def PC a b f g c h i d j (k:List V->H->O):=
 Aa b true a (fun l=>Hm EE 3 f g fun m=>l m a [] []) fun n e _ _=>AJ b n bF fun o=>Ak o (Ab 2 c fun p=>O1 e p h i d j k c) (Am [d] e)
def Qo a g c d e h i (j:List V->H->O):=
 Af g a fun k _=>Ci k fun l=>Hm EE 3 c l fun b=>Aa b true a (fun m=>m d a [] []) fun n f _ _=>Aa b true f (fun o=>o e f [] []) fun p q _ _=>PC q b n p h c e d i j
def SO (b:List V) c d (e:List V->H->O):=
 AC b fun f g=>AC g fun a h=>AC h fun i j=>AC j fun k _=>Ab 2 a fun l=>Qo c l k i f a d e
def S36 (a:Al) (n:Nat) (b c:V) (d:H):O :=
 A7 37748736 b d fun e f _ _=>BQ n (fun g h i=>SO h i a g) [c,e,iq 1,iq 0] f
theorem Atg a n b c d:Ax EE a ft.get n 36 [b,c] d=S36 a n b c d:=by kernel_rfl
def Abe a b:=
 As true 3 b a fun c=>Am [c] a
def Ag6 c d a:=
 is0 c 24 [iq 14,.nils] d fun e f _ _=>Ah 3 a e f fun b _ _=>As true 3 a b fun g=>Am [g] b
def AeY c d e a:=
 Ay (Aj EE 28 1 [(0,d)]) 39857154 c fun f g _ _=>is0 e 24 [iq 18,f] g fun h i _ _=>Ah 3 a h i fun b _ _=>As true 3 a b fun j=>Am [j] b
def AbU c d a:=
 is0 c 47 [iq 0] d fun e f _ _=>Ah 3 a e f fun b _ _=>As true 3 a b fun g=>Am [g] b
def AaL c d e a f:=
 Ac [] c d (Ah 3 a f e fun b g h=>Ac [] g h (As true 3 a b fun i=>Am [i] b))
def Ahc a b c d e f g h:=
 is0 a 38 [c,d,e] b fun i j k l=>Ac [(f,[])] k l (Ay (Aj EE 28 2 [(0,g),(1,i)]) 39863305 j fun m n o p=>Ac [] o p (is0 a 24 [iq 3,m] n fun q r s t=>AaL s t r h q))
def Acj b d e f g a c h i j k:=
 Ai 3 d b fun l m=>Ac [(e,f),(g,[]),(a,[])] m [] (is0 c 56 [l,iq 1] b fun n o p q=>Ac [(a,[])] p q (Bj EE 3 h (iq 1) fun r=>Ahc c o i n r a j k))
def Abf a b g c h i j k l:=
 Ac [] a [] (Ai 3 g b fun m d=>Ac [(a,[])] d [] (is0 c 60 [h,iq 1,m] b fun n o e f=>Ac [(a,[])] e f (Acj o i e f d a c j n k l)))
def Ain b c f d g h i:=
 Bj EE 3 b (iq 1) fun j=>is0 c 38 [d,g,j] f fun k l _ _=>nw0 39862278 l fun a m _ _=>Ah 3 a k m fun e _ _=>Ai 3 a e fun n o=>Abf o e a c d h b n i
def AgG a b:=
 As true 3 b a fun c=>Am [c] a
def AgP b c d e f a:=
 Ac [] b c (is0 d 24 [iq 6,f] e fun g h i j=>Ac [] i j (Ah 3 a g h fun k l m=>Ac [] l m (AgG k a)))
def AgM c d a e b f g h i j:=
 Ac [(a,[])] c d (Bj EE 3 e (iq 1) fun k=>is0 b 38 [g,h,k] f fun l m n o=>Ac [(a,[])] n o (Ay (Aj EE 28 2 [(0,i),(1,l)]) 39866377 m fun p q r s=>AgP r s b q p j))
def AeU a f g h b i j k l m:=
 is0 a 60 [g,iq 1,h] f fun n c d e=>Ac [(b,[])] d e (Ai 3 i c fun o p=>Ac [(d,e),(j,[]),(b,[])] p [] (is0 a 56 [o,iq 1] c fun q r s t=>AgM s t b k a r n q l m))
def Ahe e a f g h i j k:=
 Ah 3 a f e fun b _ _=>Ai 3 a b fun l c=>Ac [] c [] (Ai 3 a b fun m d=>Ac [(c,[])] d [] (AeU g b h m c i d j l k))
def Afp b c a d e f:=
 Ai 3 c b fun g _=>is0 a 56 [g,iq 0] b fun h i _ _=>Bj EE 3 d (iq 1) fun j=>is0 a 38 [e,h,j] i fun k l _ _=>nw0 39865350 l fun m n _ _=>Ahe n m k a e c d f
def Y8 a b:=
 As true 3 b a fun c=>Am [c] a
def Agv c d e a:=
 is0 c 24 [iq 18,e] d fun f g _ _=>Ah 3 a f g fun b _ _=>As true 3 a b fun h=>Am [h] b
def ZA d c a b e:=
 Eh (Qw .not d) fun f=>Ak f (is0 c 64 [] a fun g h _ _=>Ah 3 b g h fun i _ _=>Y8 i b) (Ai 3 e a fun j _=>Ay (Aj EE 28 1 [(0,j)]) 39870465 a fun k l _ _=>Agv c l k b)
def AfT b c d e f g h i j k l m:=
 Aq 1 b fun n=>nw0 39867402 c fun a o p q=>Ac [(d,e),(f,g),(h,[]),(i,j)] p q (Ah 3 a k o fun r s t=>Ac [] s t (ZA n l r m a))
def Agj a b g c h i j k l m n o:=
 Ac [] a b (Bj EE 3 g (iq 1) fun p=>is0 c 39 [i,j,k,p] h fun d q e f=>Ac [] e f (Aq 0 d fun r=>AfT d q e f a b l m n r c o))
def Z3 a f g h i j:=
 is0 a 24 [iq 14,.nils] f fun k d b c=>Ac [] b c (Ai 3 g d fun l e=>Ac [(b,c)] e [] (is0 a 56 [l,iq 0] d fun m n o p=>Agj o p h a n i k m e b c j))
def Aeb g a b c d e f h:=
 Ak g (Ai 3 b a fun i _=>is0 c 56 [i,iq 0] a fun j k _ _=>Ain d c k e j b f) (AS EE 3 h (iq 7) fun l=>Ak l (Afp a b c d e f) (Z3 c a b d e f))
def Adu e f g h i a b:=
 (fun (c:V->H->O)=>AS EE 3 a (iq 5) fun d=>Ak d (c d b) (AS EE 3 a (iq 6) fun j=>c j b)) fun k l=>Aeb k l e f g h i a
def Agr c a e b d f g:=
 AS EE 3 c (iq 3) fun h=>Ak h (Ai 3 e a fun i _=>is0 b 28 [i,iq 1] a fun j k _ _=>AeY k j b d) (AS EE 3 c (iq 4) fun l=>Ak l (AbU b a d) (Adu e b f g d c a))
def AcP e b c a d f g h:=
 Ak e (is0 b 64 [] c fun i j _ _=>Ah 3 a i j fun k _ _=>Abe k a) (AS EE 3 d (iq 2) fun l=>Ak l (Ag6 b c a) (Agr d c f b a g h))
def Aew e f a g h i b:=
 (fun (c:V->H->O)=>AS EE 3 a (iq 0) fun d=>Ak d (c d b) (AS EE 3 a (iq 1) fun j=>c j b)) fun k l=>AcP k e l f a g h i
def Ab9 a (b:V->H->O) c:=
 CK EE 3 .rem a (iq 5) fun d=>b d c
def AfI g c a (d:V->H->O):=
 leS EE 3 g (iq 0) fun b=>Aa b true c (fun h=>h a c [] []) fun i e _ _=>Aa b true e (fun j=>KN EE 3 i (iq 4) fun k=>j k e [] []) fun l f _ _=>AJ b l bF fun m=>Ak m (Ab9 a d f) (d a f)
def S38 (a:Al) (n:Nat) (e f b:V) (g:H):O :=
 A7 39845888 f g fun c h _ _=>nw0 39845889 h fun i d _ _=>Ab 0 c fun j=>Af j d fun k _=>is0 a 55 [k,iq 9] d fun l m _ _=>(fun (o:V->H->O)=>AfI b m l o) fun p q=>Aew a i p c b e q
theorem ArP a n b c d e:Ax EE a ft.get n 38 [b,c,d] e=S38 a n b c d e:=by kernel_rfl
def AfC c a d:=
 Ah 3 a d c fun b _ _=>As true 3 a b fun e=>Am [e,bF] b
def Abb a b c:=
 As true 3 b a fun d=>Am [d,c] a
def Y2 c a d e:=
 Ah 3 a d c fun b _ _=>As true 3 a b fun f=>Am [f,e] b
def ZW a c d e f g h:=
 Ai 3 c a fun i _=>Ai 3 d a fun j _=>is0 e 65 [f,i,j,g] a fun b k _ _=>Aq 0 b fun l=>Aq 1 b fun m=>Y2 k h l m
def Aaz d e f g h i a:=
 is0 d 66 [f,g,h,i] e fun b j _ _=>Aq 0 b fun k=>Aq 1 b fun l=>Ah 3 a k j fun c _ _=>As true 3 a c fun m=>Am [m,l] c
def ZK b c a d e:=
 Ac [] b c (As true 3 d a fun f=>Am [f,e] a)
def AhW b c d e a f:=
 Ay (Aj EE 28 2 [(0,c),(1,d)]) 40910853 b fun g h i j=>Ac [] i j (is0 e 24 [iq 4,g] h fun k l m n=>Ac [] m n (Ah 3 a k l fun o p q=>ZK p q o a f))
def AfS c a d e f g h:=
 AU 3 c (iq 0) fun i=>Ai 3 i a fun j b=>Ac [] b [] (Ai 3 d a fun k l=>Ac [(b,[]),(e,[])] l [] (AhW a j k f g h))
def Zr d a e f g h i:=
 Ah 3 a e d fun b j k=>Ac [] j k (Ab 2 f fun l=>Af l b fun m c=>Ac [] c [] (AfS m b a c g h i))
def AcT a b c d e f g h i j k l m n o p:=
 Ac [] a b (Aq 0 c fun q=>Aq 1 c fun r=>nw0 40909842 d fun s t u v=>Ac [(a,b),(e,f),(g,[]),(h,[]),(i,[]),(j,k),(l,[]),(m,[])] u v (Zr t s q n o p r))
def Afi d a b e f g h c k l m n o p q:=
 Ac [(a,[]),(b,[]),(e,f),(g,[]),(h,[])] d [] (is0 c 56 [l,iq 0] k fun r s i j=>Ac [(a,[]),(b,[])] i j (Bj EE 3 m (iq 1) fun t=>is0 c 39 [n,o,r,t] s fun u v w x=>AcT w x u v i j d a b e f g h p c q))
def Z5 f a b c d h e i j k l m n:=
 Ac [(a,b),(c,[]),(d,[])] f [] (AU 3 h (iq 1) fun o=>Ai 3 o e fun p g=>Ac [(a,b),(c,[]),(d,[])] g [] (Ai 3 i e fun q r=>Afi r g f a b c d j e q k l p m n))
def AbC a b g h i c j k l m:=
 Ac [] a [] (is0 b 60 [h,iq 1,i] g fun n d e f=>Ac [] e f (Ab 2 c fun o=>Af o d fun p q=>Z5 q e f a j p d k b l n c m))
def Zi b a d e f g h:=
 Ab 2 b fun i=>Af i a fun j c=>Ac [] c [] (AU 3 j (iq 0) fun k=>Ai 3 k a fun l m=>AbC m d a e l b c f g h)
def Afy c a d e:=
 Ah 3 a d c fun b _ _=>As true 3 a b fun f=>Am [f,e] b
def Aah c d e f g a h:=
 Ay (Aj EE 28 3 [(0,d),(1,e),(2,f)]) 40916995 c fun i j _ _=>is0 g 24 [iq 7,i] j fun k l _ _=>Ah 3 a k l fun b _ _=>As true 3 a b fun m=>Am [m,h] b
def AaW c b d e f g h i:=
 Ah 3 b d c fun a j k=>Ac [] j k (Ai 3 e a fun l _=>Ai 3 f a fun m _=>Ai 3 b a fun n _=>Aah a l m n g h i)
def AaG a b c d e f g h i j k l m n o p:=
 Ac [] a b (Aq 0 c fun q=>Aq 1 c fun r=>nw0 40915983 d fun s t u v=>Ac [(a,b),(e,f),(g,[]),(h,i),(j,[]),(k,[]),(l,[])] u v (AaW t s q m n o p r))
def AfF b c d e f g a j k l m n o p q:=
 Ac [(c,d),(e,[]),(f,[]),(g,[])] b [] (is0 a 56 [k,iq 1] j fun r s h i=>Ac [] h i (Bj EE 3 l (iq 1) fun t=>is0 a 39 [m,n,r,t] s fun u v w x=>AaG w x u v h i b c d e f g o p a q))
def AdR a b c d e j k l m n o:=
 Ai 3 b a fun p f=>Ac [(c,[]),(d,[])] f [] (is0 e 67 [j,iq 0,p] a fun q g h i=>Ac [] h i (Ai 3 k g fun r s=>AfF s h i f c d e g r l m q n b o))
def Aab a d e f g h i j k:=
 Af d a fun l b=>Ac [] b [] (AU 3 l (iq 1) fun m=>Ai 3 m a fun n c=>Ac [] c [] (AdR a e c b f n g h i j k))
def AcW e b f g h c i d j k l m:=
 Ah 3 b f e fun a n o=>Ac [] n o (Eh (Qw .not g) fun p=>Ak p (Ai 3 h a fun q _=>Afy a c q i) (Ab 2 d fun r=>Aab a r b j k l m d c))
def AcK a b c d e f g h i j k l m n o p q:=
 Ac [] a b (Aq 0 c fun r=>Aq 1 c fun s=>nw0 40912909 d fun t u v w=>Ac [(a,b),(e,f),(g,[]),(h,[]),(i,[])] v w (AcW u t r s j k l m n o p q))
def Ad4 d a b c i j e f k l m n o p:=
 Ac [(a,[]),(b,[])] d [] (is0 c 56 [j,iq 0] i fun q r g h=>Ac [(a,[]),(b,[])] g h (Bj EE 3 e (iq 1) fun s=>is0 c 39 [f,k,q,s] r fun t u v w=>AcK v w t u g h d a b l m n o c p e f))
def AhT b e a c f g h i j k l:=
 Ac [] b [] (AU 3 e (iq 0) fun m=>Ai 3 m a fun n d=>Ac [] d [] (Ai 3 c a fun o p=>Ad4 p d b f a o g h n i j k l c))
def Zx c d e a f:=
 Ay (Aj EE 28 1 [(0,d)]) 40920065 c fun g h _ _=>is0 e 24 [iq 19,g] h fun i j _ _=>Ah 3 a i j fun b _ _=>As true 3 a b fun k=>Am [k,f] b
def Aa2 c d e f g h i j k l m n:=
 nw0 40919053 c fun a o p q=>Ac [(d,e),(f,g),(h,[]),(i,[]),(j,[])] p q (Ah 3 a k o fun b r s=>Ac [] r s (Ai 3 a b fun t _=>Zx b t l m n))
def Acl e a f g h i j k l m n o:=
 Bj EE 3 e (iq 1) fun p=>is0 a 33 [g,h,i,p] f fun b q c d=>Ac [] c d (Aq 0 b fun r=>Aq 1 b fun s=>Aa2 q c d j k l m n r a o s)
def AbV a c h b d i j k l:=
 Ac [] a [] (Ai 3 h c fun m e=>Ac [(a,[]),(b,[])] e [] (is0 d 56 [m,iq 0] c fun n o f g=>Ac [(a,[]),(b,[])] f g (Acl i d o j k n f g e a b l)))
def AhG c a d e f g h:=
 Ab 2 c fun i=>Af i a fun j b=>Ac [] b [] (AU 3 j (iq 0) fun k=>Ai 3 k a fun l m=>AbV m a d b e f g l h)
def Af2 a d b e:=
 Ai 3 d a fun f _=>Ah 3 b f a fun c _ _=>As true 3 b c fun g=>Am [g,e] c
def Agf d b a e f g h i c j:=
 AS EE 3 d (iq 6) fun k=>Ak k (Ab 2 b fun l=>Af l a fun m n=>AhT n m a e f g h i c j b) (AS EE 3 d (iq 18) fun o=>Ak o (AhG b a e f g h c) (Af2 a i c j))
def Aeg i a b c d e f g h j k:=
 Ak i (Ai 3 b a fun l _=>Ai 3 c a fun m _=>Aaz d a e l m f g) (AS EE 3 h (iq 3) fun n=>Ak n (Zi b a d e c f g) (Agf h b a c d f e j g k))
def Aft a (b:V->H->O) c:=
 AS EE 3 a (iq 14) fun d=>Ak d (b d c) (AS EE 3 a (iq 2) fun e=>b e c)
def Adt c a f g h i j k l:=
 Ab 0 c fun m=>Af m a fun b _=>(fun (d:V->H->O)=>AS EE 3 b (iq 10) fun e=>Ak e (d e a) (Aft b d a)) fun n o=>Aeg n o c f g h i j b k l
def Aao b a l c d e f g h m n:=
 Aa a true b (fun o=>Af l b fun p q=>o p b q []) fun r i _ _=>Aa a true i (fun s=>is0 c 55 [r,iq 7] i s) fun t j _ _=>Aa a true j (fun u=>AS EE 3 t (iq 6) fun v=>u v j [] []) fun w k _ _=>AJ a w bF fun x=>Ak x (ZW k d e c f g h) (Adt d k e c f g h m n)
def Ahl h a c b d e f i j k:=
 Ak h (Ai 3 c a fun l _=>Ah 3 b l a fun m _ _=>Abb m b d) (KN EE 3 e (iq 0) fun g=>Aa g true a (fun n=>Ab 0 f fun o=>n o a [] []) fun p q _ _=>Aao q g p i j f k e b c d)
def Zm c a g d h i j k l m:=
 Aa a true c (fun n=>AS EE 3 g (iq 0) fun o=>n o c [] []) fun p e _ _=>AJ a p bF fun b=>Aa b false e (fun q=>q d e [] []) fun r f _ _=>Aa b false f (fun s=>Hm EE 3 r (.fv (.int .i64 (-4))) fun t=>s t f [] []) fun u v _ _=>AJ b bT u fun w=>Ahl w v h i a d j k l m
def Agh h i a c d j k l m:=
 nw0 40898568 h fun e n _ _=>Ah 3 e i n fun f _ _=>Aa a true f (fun o=>Ab 0 c fun p=>o p f [] []) fun q b _ _=>Aa a true b (fun r=>Af q b fun s t=>r s b t []) fun u g _ _=>Aa a true g (fun v=>is0 d 55 [u,iq 3] g v) fun w x _ _=>Zm x a w j e k c d l m
def Aal a b c d f g h i:=
 Ab 1 a fun j=>Af j b fun k _=>is0 c 58 [d,iq 1,f,k] b fun e l _ _=>Aq 0 e fun m=>Aq 1 e fun n=>Agh l m n a c g h i d
def Ab5 d e a f c g h i j:=
 Aq 1 d fun k=>Ah 3 a f e fun b _ _=>CE EE 3 k (iq 0) fun l=>Ak l (BI [iq 0,iq 0,.nils] [] fun m=>AfC b c m) (Ai 3 a b fun n _=>Aal g b h i n j c a)
def S39 (a:Al) (n:Nat) (e f g h:V) (i:H):O :=
 A7 40894464 f i fun b j _ _=>A7 40894465 g j fun k l _ _=>nw0 40894466 l fun m c _ _=>Ai 3 b c fun o _=>is0 a 34 [o] c fun d p _ _=>Aq 0 d fun q=>Ab5 d p b q m k a e h
theorem Asz a n b c d e f:Ax EE a ft.get n 39 [b,c,d,e] f=S39 a n b c d e f:=by kernel_rfl
def S40 (b:Al) (n:Nat) (c:V) (d:H):O :=
 A7 41943040 c d fun e a _ _=>Ai 3 e a fun f _=>GX 41944065 (.row [iq 0] false) (.ptr (.own 41944065) 0) a fun g h _ _=>A4 [false,true,false] false false b 68 [f,g,iq 1] h fun i j _ _=>Am [i] j
theorem Auy a n b c:Ax EE a ft.get n 40 [b] c=S40 a n b c:=by kernel_rfl
def Pj c a:=
 BI [iq 0,iq 0,.nils] [] fun d=>Ah 3 a d c fun b _ _=>As true 3 a b fun e=>Am [e,iq 1] b
def PS b c d a e f:=
 Ac [(d,[])] b c (As true 3 e a fun g=>Am [g,f] a)
def Pm d a b e:=
 AH d fun f=>Ab 3 f fun g=>Af g a fun h c=>Ac [] c [] (Ah 3 b e a fun i j k=>PS j k c i b h)
def P1 a b c:=
 As true 3 b a fun d=>Am [d,c] a
def OM d a b e:=
 Ab 3 d fun f=>Af f a fun g c=>Ac [] c [] (Ah 3 b e a fun h i j=>Ac [(c,[])] i j (P1 h b g))
def PR a b:=
 As true 3 b a fun c=>Am [c,iq 0] a
def O9 c d a b e:=
 CE EE 36 c (iq 0) fun f=>Ak f (BI [iq 0,iq 0,.nils] [] fun g=>AH d fun h=>OM h a b g) (Ai 3 e a fun i _=>Ah 3 b i a fun j _ _=>PR j b)
def OY d e a f:=
 nw0 42998787 d fun b g _ _=>Ah 3 b e g fun c _ _=>AH a fun h=>Ab 3 h fun i=>Af i c fun j _=>O9 j a c f b
def Pf a d b c e f:=
 Af d a fun g _=>CE EE 36 g (iq 0) fun h=>Ak h (BI [iq 0,iq 0,.nils] [] fun i=>Pm b a c i) (A4 [true,false,false,false] false false e 72 [b,f,iq 0,iq 1] a fun j k _ _=>OY k j b c)
def Qk a d e f:=
 AlE a 70 [] d fun b c _ _=>Ai 3 e c fun g _=>A4 [true,false,false] false false a 71 [b,.fv .nilp,g] c fun h i _ _=>AH b fun j=>Ab 3 j fun k=>Pf i k b f a h
def S41 (a:Al) (n:Nat) (f:V) (g:H):O :=
 A7 42991616 f g fun b h _ _=>nw0 42991617 h fun c d _ _=>Ai 3 b d fun i _=>is0 a 69 [i] d fun j e _ _=>Eh (Qw .not j) fun k=>Ak k (Pj e c) (Qk a e b c)
theorem Atx a n b c:Ax EE a ft.get n 41 [b] c=S41 a n b c:=by kernel_rfl
def P7 a b c d:=
 Af b a fun e _=>Ay (val (Db (.func 74) [] [c])) 44049410 a fun f g _ _=>is0 d 73 [e,f] g fun h i _ _=>Eh (Qw .not h) fun j=>Am [j] i
def O6 a c d e:=
 Ai 2 c a fun f _=>Ay (val (Db (.func 42) [f] [])) 44048385 a fun g h _ _=>GX 44048386 (.row [.fv (.nilf)] false) (.ptr (.own 44048386) 0) h fun b i _ _=>Bv b g i fun j _ _=>Ab 2 d fun k=>P7 j k b e
def Pb c a f g (h:H->O):=
 Aa a false c (fun i=>Ab 1 f fun j=>i j c [] []) fun k b _ _=>Aa a false b (fun l=>Af k b fun m n=>l m b n []) fun o d _ _=>Aa a false d (fun p=>KN EE 3 g o fun q=>p q d [] []) fun r e _ _=>AJ a bT r fun s=>Ak s (Am [bF] e) (h e)
def OL d a e f (g:H->O):=
 Ab 0 d fun h=>Af h a fun i _=>Hm EE 3 e i fun b=>Aa b false a (fun j=>Ab 0 f fun k=>j k a [] []) fun l c _ _=>Aa b false c (fun m=>Af l c fun n o=>m n c o []) fun p q _ _=>Pb q b d p g
def Pi d (b:H->O) a c e:=
 Ak d (b a) (Ab 0 c fun f=>Af f a fun g _=>OL e a g c b)
def Pk a (b:V->H->O) c:=
 AS EE 3 a (iq 16) fun d=>Ak d (b d c) (AS EE 3 a (iq 17) fun e=>b e c)
def OQ a (b:V->H->O) c:=
 AS EE 3 a (iq 1) fun d=>Ak d (b d c) (AS EE 3 a (iq 15) fun e=>Ak e (b e c) (Pk a b c))
def S42 (d:Al) (n:Nat) (e f:V) (g:H):O :=
 A7 44040192 e g fun b h _ _=>A7 44040193 f h fun a c _ _=>(fun (i:H->O)=>Ab 0 a fun j=>Af j c fun k _=>(fun (l:V->H->O)=>OQ k l c) fun m o=>Pi m i o a b) fun p=>O6 p b a d
theorem Auw a n b c d:Ax EE a ft.get n 42 [b,c] d=S42 a n b c d:=by kernel_rfl
def S44 (h:Al) (n:Nat) (c:V) (d:H):O :=
 nw0 46137344 d fun a e _ _=>BI [iq 0,iq 0,.nils] [] fun f=>Ah 3 a f e fun b _ _=>As true 3 a b fun g=>Am [g,c] b
theorem Auq a n b c:Ax EE a ft.get n 44 [b] c=S44 a n b c:=by kernel_rfl
def Gj g h i j (k:H) a b c d e (l:List V->H->O):=
 Bv h i g fun m n o=>Ac [] n o (BE EE 3 j (iq 1) fun f=>BO (k.own.map (·.1)) [47193104] [a,b,c,d,e,f] m fun p=>l [a,b,c,d,e,f] p)
def GJ b c d e a f g h i j k (l:List V->H->O):=
 Ay (Aj EE 28 1 [(0,c)]) 47193103 b fun m n o p=>Ac [(d,[])] o p (Ay (AT EE 47193104 false .append [28,28] [e,m]) 47193104 n fun q r s t=>Ac [] s t (Ab 2 a fun u=>Gj r u q f g h i j k a l))
def Gm b f g c h i a d j e k l m n o (p:List V->H->O):=
 is0 b 54 [g,c] f fun q r s t=>Ac [(h,[]),(i,[]),(a,[])] s t (BE EE 3 d q fun u=>is0 b 45 [j,e,u] r fun v w x y=>Ac [(a,[])] x y (GJ w v a k l c m e d n o p))
def GD a f b d e g h i j k l m n (o:List V->H->O):=
 Ai 3 f a fun p c=>Ac [(b,[])] c [] (Ab 0 d fun q=>Af q a fun r s=>Ac [(c,[]),(e,[]),(b,[])] s [] (Gm g a r h c e b i p j k l m d n o))
def GC a b c d f g h i j k l (m:List V->H->O):=
 Ac [] a [] (Ab 2 b fun n=>Af n c fun o e=>Ac [(a,[])] e [] (AU 3 o d fun p=>GD c p a b e f d g h i j k l m))
def GO a b:=
 As true 3 b a fun c=>Am [c] a
def GM d b a e f g h i j c (k:List V->H->O):=
 Ak d (Ab 2 b fun l=>Af l a fun m n=>GC n e a f g h i m b j c k) (Ai 3 b a fun o _=>Ah 3 c o a fun p _ _=>GO p c)
def GR (d:List V) a b e f g h i j (k:List V->H->O):=
 AC d fun c _=>Ab 2 a fun l=>Af l b fun m _=>Ci m fun n=>Hm EE 3 c n fun o=>GM o e b a c f g h i j k
def IQ (a:List V) b c d (e:List V->H->O):=
 AC a fun f g=>AC g fun h i=>AC i fun j k=>AC k fun l m=>AC m fun n o=>GR o j b n c h f d l e
def GI (a:H) g b c d e f n h:=
 BO (a.own.map (·.1)) [47193104] [b,c,d,e,f,iq 0] g fun i=>BQ n (fun j k l=>IQ k l h a j) [b,c,d,e,f,iq 0] i
def GQ a b c d (e:H->O):=
 Af b a fun f _=>BE EE 3 f c fun g=>Ab 1 d fun h=>Bv h g a fun i _ _=>e i
def Gq a b e f g h i (c:H->O):=
 Aa b true a (fun j=>Yf EE 3 e f fun k=>j k a [] []) fun l d _ _=>AJ b l bF fun m=>Ak m (Ab 1 g fun n=>GQ d n h i c) (c d)
def Gu b f d g h i (j:H->O):=
 Af f b fun k _=>AS EE 3 k (iq 1) fun a=>Aa a true b (fun l=>Ab 1 d fun m=>l m b [] []) fun n c _ _=>Aa a true c (fun o=>Af n c fun p q=>o p c q []) fun r e _ _=>Aa a true e (fun s=>s g e [] []) fun t u _ _=>Gq u a r t d h i j
def Gn e f g h c d a i n j:=
 BI [iq 0,iq 0,.nils] [(0,1,e),(1,1,f)] fun k=>nw0 47186949 g fun b l _ _=>Ah 3 b k l fun m _ _=>(fun (o:H->O)=>Ab 0 a fun p=>Gu m p a d c b o) fun q=>GI h q c d a i b n j
def S45 (d:Al) (n:Nat) (e f g:V) (c:H):O :=
 A7 47185920 e c fun a h _ _=>nw0 47185921 h fun i b _ _=>Ab 0 a fun j=>Af j b fun k _=>Ab 1 a fun l=>Af l b fun m _=>Gn k m b c f g a i n d
theorem Are a n b c d e:Ax EE a ft.get n 45 [b,c,d] e=S45 a n b c d e:=by kernel_rfl
def Afs c a d:=
 Ah 3 a d c fun b _ _=>As true 3 a b fun e=>Am [e,iq 0] b
def Zw c d a e:=
 Aq 1 c fun f=>Ah 3 a e d fun b _ _=>As true 3 a b fun g=>Am [g,f] b
def Ad6 a b:=
 As true 3 b a fun c=>Am [c,iq 0] a
def AbS c e a b f:=
 CE EE 3 c (iq 0) fun g=>Ak g (is0 e 44 [c] a fun d h _ _=>Aq 0 d fun i=>Zw d h b i) (Ai 3 f a fun j _=>Ah 3 b j a fun k _ _=>Ad6 k b)
def Z8 a d b:=
 Aq 0 a fun e=>Aq 1 a fun f=>Ah 3 b e d fun c _ _=>As true 3 b c fun g=>Am [g,f] c
def Aei d e f a:=
 is0 d 44 [f] e fun b g _ _=>Aq 0 b fun h=>Aq 1 b fun i=>Ah 3 a h g fun c _ _=>As true 3 a c fun j=>Am [j,i] c
def Ah6 a b c:=
 As true 3 b a fun d=>Am [d,c] a
def Adx c d a e b:=
 Ac [] c d (Aq 0 a fun f=>Aq 1 a fun g=>Ah 3 b f e fun h i j=>Ac [] i j (Ah6 h b g))
def Afn b c d a e:=
 Ay (Aj EE 28 2 [(0,c),(1,d)]) 48253956 b fun f g h i=>Ac [] h i (is0 a 24 [iq 16,f] g fun j k l m=>Ac [] l m (is0 a 34 [j] k fun n o p q=>Adx p q n o e))
def AeJ c a d e f:=
 AU 3 c (iq 0) fun g=>Ai 3 g a fun h b=>Ac [] b [] (Ai 3 d a fun i j=>Ac [(b,[])] j [] (Afn a h i e f))
def AcB f g h i j k l a m b c d n:=
 Ac [(h,i),(j,[]),(k,[])] f g (Ah 3 a m l fun e o p=>Ac [] o p (CE EE 3 b (iq 0) fun q=>Ak q (Aei c e b d) (AeJ n e a c d)))
def Ahj a e f g h i j k l:=
 is0 a 78 [f,g,h] e fun b m c d=>Ac [] c d (Aq 0 b fun n=>Aq 1 b fun o=>nw0 48250891 m fun p q r s=>AcB r s c d i j q p n o a k l)
def Abs a e c f g h:=
 Ai 3 e a fun i b=>Ac [] b [] (AU 3 c (iq 1) fun j=>Ai 3 j a fun k d=>Ac [(b,[])] d [] (Ahj f a g i k d b h c))
def Aaj a g b h i c d:=
 is0 a 48 [b,iq 1,h,i] g fun e f j k=>Ac [] j k (CE EE 3 e (iq 0) fun l=>Ak l (is0 a 44 [e] f fun m n _ _=>Z8 m n c) (AU 3 d (iq 0) fun o=>Abs f o d a b c))
def Ac8 b a d e f g:=
 AU 3 b (iq 0) fun h=>Ai 3 h a fun i c=>Ac [] c [] (Ai 3 d a fun j k=>Ac [(c,[])] k [] (Aaj e a f i j g b))
def AdX c d a e:=
 Aq 1 c fun f=>Ah 3 a e d fun b _ _=>As true 3 a b fun g=>Am [g,f] b
def Adf d e f a:=
 is0 d 34 [f] e fun b g _ _=>Aq 0 b fun h=>Aq 1 b fun i=>Ah 3 a h g fun c _ _=>As true 3 a c fun j=>Am [j,i] c
def AcZ b c a d f:=
 CE EE 3 b (iq 0) fun g=>Ak g (is0 c 44 [b] a fun e h _ _=>Aq 0 e fun i=>AdX e h d i) (AU 3 f (iq 0) fun j=>Ai 3 j a fun k _=>Adf c a k d)
def AcA a b c d e f (g:V->H->O):=
 is0 a 45 [c,iq 1,iq 0] b fun h i j k=>Ac [(d,[])] j k (is0 a 48 [e,iq 0,f,h] i fun l m n o=>Ac [] n o (g l m))
def AfZ a f c d e g h i (j:V->H->O):=
 Ai 3 f a fun k b=>Ac [(c,d),(e,[])] b [] (AU 3 g (iq 0) fun l=>Ai 3 l a fun m n=>Ac [(b,[]),(c,d),(e,[])] n [] (AcA h a m b i k j))
def AaB a g b h c (i:V->H->O):=
 Ai 3 g a fun j d=>Ac [] d [] (is0 b 79 [h,iq 0,j] a fun k l e f=>Ac [] e f (AU 3 c (iq 1) fun m=>AfZ l m e f d c b k i))
def AaX b f a c d g:=
 (fun (e:V->H->O)=>AS EE 3 c (iq 0) fun h=>Ak h (AU 3 a (iq 0) fun i=>AaB d i b g a e) (e c d)) fun j k=>AcZ j b k f a
def Aad a b e c d f g h:=
 Ac [] a [] (Ai 3 e b fun i j=>Ac [(a,[])] j [] (is0 c 48 [d,iq 1,f,i] b fun k l m n=>Ac [] m n (AaX c g h k l d)))
def AhL a d b:=
 Aq 0 a fun e=>Aq 1 a fun f=>Ah 3 b e d fun c _ _=>As true 3 b c fun g=>Am [g,f] c
def Aai a b c:=
 As true 3 b a fun d=>Am [d,c] a
def Acg c d a e b:=
 Ac [] c d (Aq 0 a fun f=>Aq 1 a fun g=>Ah 3 b f e fun h i j=>Ac [] i j (Aai h b g))
def AhP a c b d e f g:=
 Ac [] a [] (AU 3 c (iq 1) fun h=>Ai 3 h b fun i j=>Ac [(a,[])] j [] (is0 d 78 [e,f,i] b fun k l m n=>Acg m n k l g))
def AfV f g b c d h i:=
 nw0 48263176 f fun e j _ _=>Ah 3 e g j fun a _ _=>CE EE 3 b (iq 0) fun k=>Ak k (is0 c 44 [b] a fun l m _ _=>AhL l m d) (Ai 3 e a fun n o=>AhP o h a c i n d)
def AbH a b c d f:=
 AU 3 a (iq 0) fun g=>Ai 3 g b fun h _=>is0 c 20 [d,iq 0,h] b fun e i _ _=>Aq 0 e fun j=>Aq 1 e fun k=>AfV i j k c f a d
def Aau c d a e:=
 Aq 1 c fun f=>Ah 3 a e d fun b _ _=>As true 3 a b fun g=>Am [g,f] b
def Ac3 d a b:=
 AU 3 d (iq 0) fun e=>Ai 3 e a fun f _=>Ah 3 b f a fun c _ _=>As true 3 b c fun g=>Am [g,iq 0] c
def Aim b e a c f:=
 CE EE 3 b (iq 0) fun g=>Ak g (is0 e 44 [b] a fun d h _ _=>Aq 0 d fun i=>Aau d h c i) (Ab 2 f fun j=>Af j a fun k _=>Ac3 k a c)
def AgY a d e f g:=
 is0 a 80 [e,iq 1,f,iq 18] d fun b h _ _=>Aq 0 b fun i=>Aq 1 b fun j=>nw0 48268296 h fun c k _ _=>Ah 3 c i k fun l _ _=>Aim j a l g c
def AcO a d b:=
 Aq 0 a fun e=>Aq 1 a fun f=>Ah 3 b e d fun c _ _=>As true 3 b c fun g=>Am [g,f] c
def Ags e f a b c d g:=
 AS EE 3 e (iq 30) fun h=>Ak h (AU 3 f (iq 0) fun i=>Ai 3 i a fun j _=>AgY b a c j d) (Ai 3 g a fun k _=>is0 b 81 [c,k] a fun l m _ _=>AcO l m d)
def AdS c a b g d e f h:=
 AS EE 3 c (iq 29) fun i=>Ak i (AU 3 a (iq 0) fun j=>Ai 3 j b fun k l=>Aad l b g d e k f a) (AS EE 3 c (iq 28) fun m=>Ak m (AbH a b d e f) (Ags c a b d e f h))
def Aaw i a f b c d e g h j:=
 Ak i (Ai 3 f a fun k _=>is0 b 49 [c,iq 0,d,k] a fun l m _ _=>AbS l b m e f) (AS EE 3 g (iq 20) fun n=>Ak n (Ac8 d a h b c e) (AdS g d a h b c e j))
def Zk a e c d f g h i j:=
 Af e a fun b _=>AS EE 3 b (iq 25) fun k=>Ak k (Ai 3 c a fun l _=>Afs a d l) (AS EE 3 b (iq 26) fun m=>Aaw m a c f g h d b i j)
def AfG e a f b c g h i:=
 Ah 3 a f e fun j _ _=>is0 b 24 [iq 15,.nils] j fun k l _ _=>nw0 48237569 l fun d m _ _=>Ah 3 d k m fun n _ _=>Ab 0 c fun o=>Zk n o d g b h i a c
def S46 (a:Al) (n:Nat) (d e:V) (f:H):O :=
 A7 48234496 e f fun b g _ _=>nw0 48234497 g fun h c _ _=>Ab 2 b fun i=>Af i c fun j _=>is0 a 24 [iq 14,.nils] c fun k l _ _=>nw0 48236545 l fun m o _ _=>AfG o m k a b h d j
theorem AsU a n b c d:Ax EE a ft.get n 46 [b,c] d=S46 a n b c d:=by kernel_rfl
def S47 (h:Al) (n:Nat) (c:V) (d:H):O :=
 nw0 49283072 d fun a e _ _=>BI [iq 0,iq 0,.nils] [(0,1,iq 2),(1,1,c)] fun f=>Ah 3 a f e fun b _ _=>As true 3 a b fun g=>Am [g] b
theorem Ara a n b c:Ax EE a ft.get n 47 [b] c=S47 a n b c:=by kernel_rfl
def RX b c g (d:V->H->O):=
 AS EE 3 b (iq 0) fun a=>Aa a true c (fun h=>h g c [] []) fun i e _ _=>Aa a true e (fun j=>Eh (Qw .not i) fun k=>j k e [] []) fun l f _ _=>AJ a l bF fun m=>Ak m (d (iq 11) f) (d b f)
def Sp a c d e:=
 Ai 3 c a fun f _=>is0 d 82 [e,f] a fun b g _ _=>Aq 0 b fun h=>Aq 1 b fun i=>(fun (j:V->H->O)=>RX i g h j) fun k l=>Am [k] l
def UF d e b f g:=
 nw0 50332679 d fun c h _ _=>Ah 3 c e h fun a _ _=>CE EE 3 b (iq 0) fun i=>Ak i (Am [b] a) (Ai 3 c a fun j _=>Sp a f g j)
def S48 (a:Al) (n:Nat) (d e f g:V) (h:H):O :=
 A7 50331648 f h fun i j _ _=>A7 50331649 g j fun k b _ _=>Ai 3 i b fun l _=>is0 a 20 [d,e,l] b fun c m _ _=>Aq 0 c fun o=>Aq 1 c fun p=>UF m o p k a
theorem ArE a n b c d e f:Ax EE a ft.get n 48 [b,c,d,e] f=S48 a n b c d e f:=by kernel_rfl
def J6 c d a b e (f:List V->H->O) g h i j:=
 Ac [] c d (CE EE 3 a (iq 0) fun k=>Ak k (Am [a] b) (BE EE 3 e (iq 1) fun l=>f [g,h,i,j,l] b))
def Km a f b g c d h (i:List V->H->O) j:=
 Ai 3 f a fun k e=>Ac [] e [] (Ai 3 b a fun l m=>Ac [(e,[])] m [] (is0 g 48 [c,d,k,l] a fun n o p q=>J6 p q n o h i c d j b))
def Kl a b c d e f g (h:List V->H->O):=
 Ci a fun i=>Hm EE 3 b i fun j=>Ak j (AU 3 a b fun k=>Km c k d e f g b h a) (Am [iq 0] c)
def PD (a:List V) b c (d:List V->H->O):=
 AC a fun e f=>AC f fun g h=>AC h fun i j=>AC j fun k l=>AC l fun m _=>Kl i m b k c e g d
def S49 (a:Al) (n:Nat) (b c d e:V) (f:H):O :=
 A7 51380224 e f fun g h _ _=>BQ n (fun i j k=>PD j k a i) [b,c,d,g,iq 0] h
theorem AuH a n b c d e f:Ax EE a ft.get n 49 [b,c,d,e] f=S49 a n b c d e f:=by kernel_rfl
def Abl d e f a:=
 is0 d 44 [f] e fun b g _ _=>Aq 0 b fun h=>Aq 1 b fun i=>Ah 3 a h g fun c _ _=>As true 3 a c fun j=>Am [j,i] c
def Agb a d b:=
 Aq 0 a fun e=>Aq 1 a fun f=>Ah 3 b e d fun c _ _=>As true 3 b c fun g=>Am [g,f] c
def Ab4 c d e a:=
 is0 c 47 [e] d fun f g _ _=>Ah 3 a f g fun b _ _=>As true 3 a b fun h=>Am [h,iq 0] b
def Ae0 a b c d f:=
 Aq 0 a fun g=>Aq 1 a fun e=>CE EE 3 e (iq 0) fun h=>Ak h (is0 b 44 [e] c fun i j _ _=>Agb i j d) (Ay (AT EE 52440066 false .max [3,3] [f,g]) 52440066 c fun k l _ _=>Ab4 b l k d)
def AhB c a d e f b g h i:=
 AU 3 c (iq 1) fun j=>Ai 3 j a fun k l=>Ac [(d,e),(f,[])] l [] (is0 b 83 [g,k] a fun m n o p=>Ac [] o p (Ae0 m b n h i))
def AgN a b c g h i:=
 AU 3 a (iq 0) fun j=>Ai 3 j b fun k d=>Ac [] d [] (is0 c 79 [g,iq 1,k] b fun l m e f=>Ac [] e f (AhB a m e f d c l h i))
def Ad0 a g b h c i:=
 is0 a 83 [b,h] g fun d e _ _=>Aq 0 d fun j=>Aq 1 d fun f=>CE EE 3 f (iq 0) fun k=>Ak k (Abl a e f c) (AgN i e a b c j)
def AhN c d a e:=
 Aq 1 c fun f=>Ah 3 a e d fun b _ _=>As true 3 a b fun g=>Am [g,f] b
def AgD c d a e:=
 Aq 1 c fun f=>Ah 3 a e d fun b _ _=>As true 3 a b fun g=>Am [g,f] b
def Aig c d a e:=
 Aq 1 c fun f=>Ah 3 a e d fun b g h=>Ac [] g h (As true 3 a b fun i=>Am [i,f] b)
def Aac a c d e:=
 is0 a 24 [iq 3,d] c fun f g h i=>Ac [] h i (is0 a 34 [f] g fun b j k l=>Ac [] k l (Aq 0 b fun m=>Aig b j e m))
def Acp a b c d e f:=
 Ac [] a [] (Ai 3 c b fun g h=>Ac [(a,[])] h [] (Ay (Aj EE 28 2 [(0,d),(1,g)]) 52448260 b fun i j k l=>Ac [] k l (Aac e j i f)))
def AaR e b a f c g h:=
 Ak e (is0 b 44 [f] a fun d i _ _=>Aq 0 d fun j=>AgD d i c j) (AU 3 g (iq 0) fun k=>Ai 3 k a fun l m=>Acp m a h l b c)
def Af5 c d e f g h i j a k l m:=
 nw0 52445196 c fun b n o p=>Ac [(d,e),(f,[]),(g,h),(i,[])] o p (Ah 3 b j n fun q r s=>Ac [] r s (CE EE 3 a (iq 0) fun t=>AaR t k q a l m b))
def Ae2 a b c d e i j k l m:=
 Ac [(b,c),(d,[])] a [] (is0 e 20 [j,iq 1,k] i fun f n g h=>Ac [] g h (Aq 0 f fun o=>Aq 1 f fun p=>Af5 n g h a b c d o p e l m))
def Y6 a b g h i c j:=
 Ac [] a [] (is0 b 79 [h,iq 1,i] g fun k d e f=>Ac [] e f (AU 3 c (iq 1) fun l=>Ai 3 l d fun m n=>Ae2 n e f a b d k m j c))
def Ago b c a d e g:=
 CE EE 3 b (iq 0) fun h=>Ak h (is0 c 44 [b] a fun f i _ _=>Aq 0 f fun j=>AhN f i d j) (AU 3 e (iq 0) fun k=>Ai 3 k a fun l m=>Y6 m c a g l e d)
def AgL a b c d f:=
 AU 3 a (iq 0) fun g=>Ai 3 g b fun h _=>is0 c 83 [d,h] b fun e i _ _=>Aq 0 e fun _=>Aq 1 e fun j=>Ago j c i f a d
def Za c d a e:=
 Aq 1 c fun f=>Ah 3 a e d fun b _ _=>As true 3 a b fun g=>Am [g,f] b
def Aey a b c:=
 As true 3 b a fun d=>Am [d,c] a
def AaN c d a e b:=
 Ac [] c d (Aq 0 a fun f=>Aq 1 a fun g=>Ah 3 b f e fun h i j=>Ac [] i j (Aey h b g))
def Ahu a c d e b f g:=
 Ai 3 c a fun h i=>Ac [(d,[]),(e,[])] i [] (is0 b 67 [f,iq 0,h] a fun j k l m=>Ac [] l m (is0 b 34 [j] k fun n o p q=>AaN p q n o g))
def AaY a d b e f g:=
 Ac [] a [] (AU 3 d (iq 1) fun h=>Ai 3 h b fun i c=>Ac [] c [] (AU 3 e (iq 1) fun j=>Ahu b j c a f i g))
def AfR b c a d f g:=
 CE EE 3 b (iq 0) fun h=>Ak h (is0 c 44 [b] a fun e i _ _=>Aq 0 e fun j=>Za e i d j) (Ab 2 f fun k=>Af k a fun l m=>AaY m l a g c d)
def AbA b a c d e f (g:V->H->O):=
 AU 3 b (iq 0) fun h=>Ai 3 h a fun i j=>Ac [(c,[])] j [] (is0 d 48 [e,iq 1,f,i] a fun k l m n=>Ac [] m n (g k l))
def AdT a c d e f (g:V->H->O):=
 Ai 3 c a fun h b=>Ac [] b [] (Ab 2 d fun i=>Af i a fun j k=>Ac [(b,[])] k [] (AbA j a b e f h g))
def Ag3 a g b c d e h:=
 (fun (f:V->H->O)=>AS EE 3 d (iq 0) fun i=>Ak i (AU 3 c (iq 1) fun j=>AdT e j b a h f) (f d e)) fun k l=>AfR k a l g b c
def Aih a e b f g h:=
 is0 a 80 [b,iq 1,f,iq 3] e fun c i _ _=>Aq 0 c fun j=>Aq 1 c fun k=>nw0 52450312 i fun d l _ _=>Ah 3 d j l fun m _ _=>Ag3 a g d h k m b
def Af7 c d a e:=
 Aq 1 c fun f=>Ah 3 a e d fun b _ _=>As true 3 a b fun g=>Am [g,f] b
def Aie d a b:=
 AU 3 d (iq 0) fun e=>Ai 3 e a fun f _=>Ah 3 b f a fun c _ _=>As true 3 b c fun g=>Am [g,iq 0] c
def AhY a d b:=
 Aq 0 a fun e=>Aq 1 a fun f=>Ah 3 b e d fun c g h=>Ac [] g h (As true 3 b c fun i=>Am [i,f] c)
def Abc b c d e a f g h i:=
 Ac [(d,[]),(e,[])] b c (is0 a 67 [g,iq 0,h] f fun j k l m=>Ac [] l m (is0 a 34 [j] k fun n o p q=>Ac [] p q (AhY n o i)))
def ZR c e a b d f g:=
 Ai 3 e c fun h i=>Ac [(a,[]),(b,[])] i [] (Ay (Aj EE 28 1 [(0,h)]) 52463623 c fun j k l m=>Ac [(a,[]),(b,[])] l m (is0 d 24 [iq 8,j] k fun n o p q=>Abc p q a b d o f n g))
def Af0 a d b e f g:=
 Ac [] a [] (AU 3 d (iq 1) fun h=>Ai 3 h b fun i c=>Ac [] c [] (AU 3 e (iq 0) fun j=>ZR b j c a f i g))
def Agi d b a c e f:=
 AS EE 3 d (iq 8) fun g=>Ak g (Ab 2 b fun h=>Af h a fun i _=>Aie i a c) (Ab 2 b fun j=>Af j a fun k l=>Af0 l k a e f c)
def Zl b c a d f g h:=
 CE EE 3 b (iq 0) fun i=>Ak i (is0 c 44 [b] a fun e j _ _=>Aq 0 e fun k=>Af7 e j d k) (Ab 0 f fun l=>Af l a fun m _=>Agi m g a d h c)
def Ac0 a d e f g h i:=
 is0 a 80 [e,iq 1,f,iq 6] d fun b j _ _=>Aq 0 b fun k=>Aq 1 b fun l=>nw0 52458504 j fun c m _ _=>Ah 3 c k m fun n _ _=>Zl l a n g h c i
def Acw a b c:=
 As true 3 b a fun d=>Am [d,c] a
def AaA a d e f b:=
 Ai 3 d a fun g _=>is0 e 84 [f,g] a fun c h _ _=>Aq 0 c fun i=>Aq 1 c fun j=>Ah 3 b i h fun k _ _=>Acw k b j
def Ada a d b:=
 Aq 0 a fun e=>Aq 1 a fun f=>Ah 3 b e d fun c _ _=>As true 3 b c fun g=>Am [g,f] c
def AbN c d a e:=
 Aq 1 c fun f=>Ah 3 a e d fun b _ _=>As true 3 a b fun g=>Am [g,f] b
def Adi e a f b g c:=
 AS EE 3 e (iq 13) fun h=>Ak h (Ai 3 f a fun i _=>is0 b 85 [g,i] a fun j k _ _=>Ada j k c) (is0 b 44 [iq 10] a fun d l _ _=>Aq 0 d fun m=>AbN d l c m)
def AfD h f a b c d e g:=
 Ak h (AU 3 f (iq 0) fun i=>Ai 3 i a fun j _=>Ac0 b a c j d e f) (AS EE 3 g (iq 7) fun k=>Ak k (AaA a e b c d) (Adi g a e b c d))
def AbE a (b:V->H->O) c d:=
 Ak a (b a c) (AS EE 3 d (iq 9) fun e=>b e c)
def Ahv a b c d e f g:=
 AS EE 3 a (iq 5) fun h=>Ak h (AU 3 b (iq 0) fun i=>Ai 3 i c fun j _=>Aih d c e j f b) ((fun (k:V->H->O)=>AS EE 3 a (iq 8) fun l=>AbE l k c a) fun m n=>AfD m b n d e f g a)
def AbG g a b c d e f h:=
 Ak g (AU 3 a (iq 0) fun i=>Ai 3 i b fun j _=>Ad0 c b d j e a) (AS EE 3 f (iq 4) fun k=>Ak k (AgL a b c d e) (Ahv f a b c d e h))
def Acb e f g h a i b:=
 (fun (c:V->H->O)=>AS EE 3 a (iq 3) fun d=>Ak d (c d b) (AS EE 3 a (iq 6) fun j=>c j b)) fun k l=>AbG k e l f g h a i
def S50 (c:Al) (n:Nat) (d e:V) (f:H):O :=
 A7 52428800 e f fun a g _ _=>nw0 52428801 g fun h b _ _=>Ab 2 a fun i=>Af i b fun j _=>Ab 0 a fun k=>Af k b fun l _=>Acb j c d h l a b
theorem ArX a n b c d:Ax EE a ft.get n 50 [b,c] d=S50 a n b c d:=by kernel_rfl
def Ve b a c:=
 Ak b (Am [iq 3] a) (AS EE 3 c (iq 13) fun d=>Ak d (Am [iq 4] a) (Am [.fv (.int .i64 (-1))] a))
def U5 a (b:V->H->O) c d:=
 Ak a (b a c) (AS EE 3 d (iq 27) fun e=>b e c)
def SM c b a:=
 Ak c (Am [iq 2] b) ((fun (d:V->H->O)=>AS EE 3 a (iq 7) fun e=>U5 e d b a) fun f g=>Ve f g a)
def Uc a (b:V->H->O) c:=
 AS EE 3 a (iq 28) fun d=>Ak d (b d c) (AS EE 3 a (iq 29) fun e=>b e c)
def Sb a (b:V->H->O) c:=
 AS EE 3 a (iq 22) fun d=>Ak d (b d c) (AS EE 3 a (iq 26) fun e=>Ak e (b e c) (Uc a b c))
def UJ a (b:V->H->O) c:=
 AS EE 3 a (iq 20) fun d=>Ak d (b d c) (AS EE 3 a (iq 21) fun e=>Ak e (b e c) (Sb a b c))
def Ss a (b:V->H->O) c:=
 AS EE 3 a (iq 16) fun d=>Ak d (b d c) (AS EE 3 a (iq 17) fun e=>Ak e (b e c) (UJ a b c))
def R0 a (b:V->H->O) c:=
 AS EE 3 a (iq 5) fun d=>Ak d (b d c) (AS EE 3 a (iq 6) fun e=>Ak e (b e c) (Ss a b c))
def Vm c (a:V->H->O) b d:=
 Ak c (a c b) (AS EE 3 d (iq 4) fun e=>Ak e (a e b) (R0 d a b))
def UB c b a:=
 Ak c (Am [iq 1] b) ((fun (d:V->H->O)=>AS EE 3 a (iq 3) fun e=>Vm e d b a) fun f g=>SM f g a)
def RM a (b:V->H->O) c:=
 AS EE 3 a (iq 24) fun d=>Ak d (b d c) (AS EE 3 a (iq 30) fun e=>b e c)
def Uw a (b:V->H->O) c:=
 AS EE 3 a (iq 19) fun d=>Ak d (b d c) (AS EE 3 a (iq 23) fun e=>Ak e (b e c) (RM a b c))
def U8 a (b:V->H->O) c:=
 AS EE 3 a (iq 12) fun d=>Ak d (b d c) (AS EE 3 a (iq 18) fun e=>Ak e (b e c) (Uw a b c))
def SL c (a:V->H->O) b d:=
 Ak c (a c b) (AS EE 3 d (iq 9) fun e=>Ak e (a e b) (U8 d a b))
def RU c b a:=
 Ak c (Am [iq 0] b) ((fun (d:V->H->O)=>AS EE 3 a (iq 8) fun e=>SL e d b a) fun f g=>UB f g a)
def TP a (b:V->H->O) c:=
 AS EE 3 a (iq 25) fun d=>b d c
def Tl a (b:V->H->O) c:=
 AS EE 3 a (iq 14) fun d=>Ak d (b d c) (AS EE 3 a (iq 15) fun e=>Ak e (b e c) (TP a b c))
def SJ a (b:V->H->O) c:=
 AS EE 3 a (iq 10) fun d=>Ak d (b d c) (AS EE 3 a (iq 11) fun e=>Ak e (b e c) (Tl a b c))
def S52 (h:Al) (n:Nat) (a:V) (b:H):O :=
 (fun (c:V->H->O)=>AS EE 3 a (iq 1) fun d=>Ak d (c d b) (AS EE 3 a (iq 2) fun e=>Ak e (c e b) (SJ a c b))) fun f g=>RU f g a
theorem As9 a n b c:Ax EE a ft.get n 52 [b] c=S52 a n b c:=by kernel_rfl
def AmJ b a (c:H->O):=
 AS EE 3 b (iq 0) fun d=>Ak d (Am [iq 1] a) (AS EE 3 b (iq 2) fun e=>Ak e (Am [iq 2] a) (c a))
def Ang d c a (b:H->O) e:=
 Ak d (AS EE 3 c (iq 1) fun f=>Ak f (Am [iq 1] a) (b a)) (AS EE 3 e (iq 13) fun g=>Ak g (AmJ c a b) (b a))
def Aj2 a (b:V->H->O) c:=
 AS EE 3 a (iq 29) fun d=>b d c
def AkG a (b:V->H->O) c:=
 AS EE 3 a (iq 20) fun d=>Ak d (b d c) (AS EE 3 a (iq 28) fun e=>Ak e (b e c) (Aj2 a b c))
def Alq c (a:V->H->O) b d:=
 Ak c (a c b) (AS EE 3 d (iq 6) fun e=>Ak e (a e b) (AkG d a b))
def S54 (k:Al) (n:Nat) (a e:V) (b:H):O :=
 (fun (f:H->O)=>(fun (c:V->H->O)=>AS EE 3 a (iq 3) fun d=>Ak d (c d b) (AS EE 3 a (iq 4) fun g=>Alq g c b a)) fun h i=>Ang h e i f a) fun j=>Am [iq 0] j
theorem Aui a n b c d:Ax EE a ft.get n 54 [b,c] d=S54 a n b c d:=by kernel_rfl
def S55 (j:Al) (n:Nat) (e b:V) (c:H):O :=
 CK EE 3 .rem e b fun a=>(fun (d:V->H->O)=>Hm EE 3 a (iq 0) fun f=>Ak f (BE EE 3 a b fun g=>d g c) (d a c)) fun h i=>Am [h] i
theorem Ar0 a n b c d:Ax EE a ft.get n 55 [b,c] d=S55 a n b c d:=by kernel_rfl
def YK d e a b:=
 AU 3 d e fun f=>Ai 3 f a fun g _=>Ah 3 b g a fun c _ _=>As true 3 b c fun h=>Am [h] c
def YR c d e f a:=
 CK EE 3 .mul (iq 7) c fun g=>BE EE 3 d g fun h=>BI [iq 0,iq 0,.nils] [(0,1,e),(1,1,h)] fun i=>Ah 3 a i f fun b _ _=>As true 3 a b fun j=>Am [j] b
def YM c a d b e:=
 CK EE 3 .quo c (iq 3) fun f=>BE EE 3 f a fun g=>Ab 1 d fun h=>Af h b fun i _=>CK EE 3 .quo i (iq 5) fun j=>YR a j g b e
def Xf e b a c d:=
 Ak e (Ab 2 b fun f=>Af f a fun g _=>YK g c a d) (Ab 0 b fun h=>Af h a fun i _=>YM i c b a d)
def S56 (l:Al) (n:Nat) (d a:V) (e:H):O :=
 A7 58720256 d e fun b f _ _=>nw0 58720257 f fun g c _ _=>Ab 2 b fun h=>Af h c fun i _=>Ci i fun j=>Hm EE 3 a j fun k=>Xf k b c a g
theorem Aq2 a n b c d:Ax EE a ft.get n 56 [b,c] d=S56 a n b c d:=by kernel_rfl
def Vl h (i:H) j a b c d e f (k:List V->H->O):=
 BE EE 3 h (iq 1) fun g=>BO (i.own.map (·.1)) [60823568,60825603] [a,b,c,d,e,f,g] j fun l=>k [a,b,c,d,e,f,g] l
def TR a b c (d:V->H->O):=
 Ay (Aj EE 75 1 [(0,b)]) 60825602 a fun e f _ _=>Ay (AT EE 60825603 false .append [75,75] [c,e]) 60825603 f fun g h _ _=>d g h
def R1 f g a b h i j k c (d:V->H->O):=
 Ac [] f g (Aa b true a (fun l=>is0 h 17 [i,j] a l) fun m e n o=>Ac [] n o (AJ b m bF fun p=>Ak p (TR e k c d) (d c e)))
def U4 d a b h i j k l m (n:V->H->O):=
 Aa a true d (fun o=>is0 b 86 [h] d o) fun p c e f=>Ac [] e f (Aa a true c (fun q=>Ai 3 i c fun r s=>q r c s []) fun t g u v=>Ac [(e,f),(j,k)] u v (Aa a true g (fun w=>is0 b 86 [t] g w) fun x y z A=>R1 z A y a b p x l m n))
def R9 f g h i j k l (m:V->H->O):=
 nw0 60823568 f fun b n _ _=>Ah 3 b g n fun a _ _=>AS EE 3 h (iq 0) fun c=>Aa c true a (fun o=>Ai 3 b a fun p q=>o p a q []) fun r s d e=>Ac [] d e (U4 s c i r j d e k l m)
def SI b a d e f g (h:V->H->O):=
 BE EE 3 b (iq 1) fun i=>is0 a 45 [e,i,iq 0] d fun j k _ _=>is0 a 34 [j] k fun c l _ _=>Aq 0 c fun m=>Aq 1 c fun n=>R9 l m n a f b g h
def SA c a d b e f g (h:V->H->O):=
 Bj EE 3 c (iq 1) fun i=>Bj EE 3 i a fun j=>AU 4 d j fun k=>Ab 1 k fun l=>Ai 3 l b fun m _=>SI a e b m f g h
def U0 e a f (b:V->H->O) c d g h i:=
 Ab 0 e fun j=>Af j a fun k _=>CE EE 3 k f fun l=>Ak l (b c a) (Ci d fun m=>SA m g d a h i c b)
def T7 b e a c f d g (h:List V->H->O) i j k:=
 (fun (l:V->H->O)=>Ci a fun m=>Bj EE 3 m (iq 1) fun n=>Bj EE 3 n b fun o=>AU 4 a o fun p=>U0 p i c l j a b k d) fun q r=>Vl b e r a c f d g q h
def Ur c a d:=
 Ah 3 a d c fun b _ _=>As true 3 a b fun e=>Am [e,bF] b
def Ui a b:=
 As true 3 b a fun c=>Am [c,bT] a
def TE a d e f g b:=
 is0 a 55 [e,f] d fun h c _ _=>AU 1 g h fun i=>Af i c fun j _=>is0 a 25 [j] c fun k l _ _=>Ah 3 b k l fun m _ _=>Ui m b
def T8 a b c d e:=
 Ci a fun f=>AS EE 3 f (iq 0) fun g=>Ak g (BI [iq 0,iq 0,.nils] [] fun h=>Ur b c h) (Ci a fun i=>TE d b e i a c)
def SH (h:List V) a i j b k c (l:List V->H->O) d e:=
 AC h fun f m=>AC m fun g _=>Ci a fun n=>Hm EE 3 g n fun o=>Ak o (T7 g i a j b k c l d f e) (T8 f d c e b)
def Adp (a:List V) b (c:List V->H->O) d e:=
 AC a fun f g=>AC g fun h i=>AC i fun j k=>AC k fun l m=>AC m fun n o=>SH o f b h j l n c d e
def S58 (g:Al) (n:Nat) (b c h d:V) (a:H):O :=
 A7 60817408 h a fun e i _ _=>nw0 60817409 i fun f j _ _=>BO (a.own.map (·.1)) [60823568,60825603] [b,c,d,e,f,.nils,iq 0] j fun k=>BQ n (fun l m o=>Adp m a l o g) [b,c,d,e,f,.nils,iq 0] k
theorem AuJ a n b c d e f:Ax EE a ft.get n 58 [b,c,d,e] f=S58 a n b c d e f:=by kernel_rfl
def Adq a b c:=
 As true 3 b a fun d=>Am [d,c] a
def Aas a b f g c h:=
 Aa b true a (fun i=>i f a [] []) fun j d _ _=>AJ b j bF fun e=>Aa e true d (fun k=>k g d [] []) fun l m _ _=>AJ e l bF fun n=>Ah 3 c h m fun o _ _=>Adq o c n
def Afu a b c d e f g h i:=
 Ai 3 b a fun j _=>Ai 3 c a fun k _=>Ai 3 d a fun l _=>Ay (Aj EE 28 3 [(0,j),(1,k),(2,l)]) 61873155 a fun m n _ _=>is0 e 24 [iq 27,m] n fun o p _ _=>Aas p f g h i o
def Abt b c d e f g h i j k l m n o p:=
 Aq 1 b fun q=>nw0 61872138 c fun a r s t=>Ac [(d,e),(f,g),(h,[]),(i,[])] s t (Ah 3 a j r fun u v w=>Ac [] v w (Afu u k l a m n o q p))
def AdL a b c h d i j k l m n o p q r:=
 Ac [(c,[])] a b (Bj EE 3 h (iq 2) fun s=>is0 d 33 [j,k,l,s] i fun e t f g=>Ac [] f g (Aq 0 e fun u=>Abt e t f g a b m c u n o d p q r))
def Ahi a e f c g h i j k l m:=
 Ai 3 e a fun n b=>Ac [] b [] (Ai 3 f a fun o d=>Ac [(b,[])] d [] (is0 c 56 [o,iq 2] a fun p q r s=>AdL r s b g c q h n p d i j k l m))
def Abi b c d e f g h i j k l m n o p q r:=
 Aq 1 b fun s=>nw0 61871114 c fun a t u v=>Ac [(d,e),(f,g),(h,[]),(i,[])] u v (Ah 3 a j t fun w x y=>Ac [] x y (Ahi w k l m n o p a q s r))
def AbF a b c d e j f k l m n o p q r:=
 Ac [(c,[])] a b (Bj EE 3 d (iq 2) fun s=>is0 e 33 [f,k,l,s] j fun g t h i=>Ac [] h i (Aq 0 g fun u=>Abi g t h i a b m c u n o e d f p q r))
def Aar a c d e g h i j k:=
 Ai 3 c a fun l b=>Ac [] b [] (Ai 3 d a fun m f=>Ac [(b,[])] f [] (is0 e 56 [m,iq 1] a fun n o p q=>AbF p q b g e o h l n f c d i j k))
def AaC b c d e f g h i j k l m n o p:=
 Aq 1 b fun q=>nw0 61870090 c fun a r s t=>Ac [(d,e),(f,g),(h,[]),(i,[])] s t (Ah 3 a j r fun u v w=>Ac [] v w (Aar u k l m n o a q p))
def Aez a b c d e j f k l m n o p:=
 Ac [(c,[])] a b (Bj EE 3 d (iq 2) fun q=>is0 e 33 [f,k,l,q] j fun g r h i=>Ac [] h i (Aq 0 g fun s=>AaC g r h i a b m c s n o e d f p))
def AaU a f c d g h i j:=
 Ai 3 f a fun k b=>Ac [] b [] (Ai 3 c a fun l e=>Ac [(b,[])] e [] (is0 d 56 [l,iq 0] a fun m n o p=>Aez o p b g d n h k m e i c j))
def Ah1 c a d e:=
 Ah 3 a d c fun b _ _=>As true 3 a b fun f=>Am [f,e] b
def Aa1 a d e f b g h:=
 Ai 3 d a fun i _=>Ay (Aj EE 28 2 [(0,e),(1,i)]) 61878274 a fun j k _ _=>is0 f 24 [iq 28,j] k fun l c _ _=>Aa b true c (fun m=>m g c [] []) fun n o _ _=>AJ b n bF fun p=>Ah1 o h l p
def Adm c d e f g h i j k l m n o p q r s t:=
 nw0 61877261 c fun a u v w=>Ac [(d,e),(f,g),(h,[]),(i,j),(k,[]),(l,m),(n,[])] v w (Ah 3 a o u fun b x y=>Ac [] x y (Ai 3 p b fun z _=>Aa1 b a z q r s t))
def Aay e a f g h i j k l m n o p q r s t u:=
 Bj EE 3 e (iq 2) fun v=>is0 a 33 [g,h,i,v] f fun b w c d=>Ac [] c d (Aq 0 b fun x=>Aq 1 b fun y=>Adm w c d j k l m n o p q r x s a t y u)
def ZP a b c l d e f g h m n o p q r:=
 Ac [] a b (Ai 3 l c fun s i=>Ac [(a,b),(d,[]),(e,f),(g,[])] i [] (is0 h 56 [s,iq 2] c fun t u j k=>Ac [] j k (Aay m h u n o t j k i a b d e f g p q r)))
def Aeq a g h i j d k l m n o:=
 is0 a 60 [h,iq 0,i] g fun p e b c=>Ac [] b c (Ai 3 j e fun q f=>Ac [(b,c),(d,[])] f [] (is0 a 45 [q,iq 1,iq 0] e fun r s t u=>ZP t u s k f b c d a l p r m n o))
def AeP d e f g h i j k l a m n o p q r s t u:=
 Ac [(f,g),(h,i),(j,[]),(k,[])] d e (Ah 3 a m l fun b v w=>Ac [] v w (Ai 3 n b fun x c=>Ac [] c [] (Aeq o b p x q c r s a t u)))
def Z1 a f b g h i j k l m n o p q r:=
 is0 a 33 [b,g,h,i] f fun c s d e=>Ac [] d e (Aq 0 c fun t=>Aq 1 c fun u=>nw0 61876234 s fun v w x y=>AeP x y d e j k l m w v t n a b o p q u r)
def Aco b c a d e i j k l m:=
 Ai 3 c b fun n f=>Ac [(a,[])] f [] (is0 d 56 [n,iq 1] b fun o p g h=>Ac [(a,[])] g h (Bj EE 3 e (iq 2) fun q=>Z1 d p i j o q g h f a k l c e m))
def AeK b e f g h i j k:=
 is0 b 28 [f,iq 1] e fun l m _ _=>nw0 61875203 m fun a n _ _=>Ah 3 a l n fun c _ _=>Ai 3 a c fun o d=>Ac [] d [] (Aco c g d b h i o a j k)
def ZO a b e c f:=
 Aa b true a (fun g=>g e a [] []) fun h i _ _=>AJ b h bF fun j=>Ah 3 c f i fun d k l=>Ac [] k l (As true 3 c d fun m=>Am [m,j] d)
def AhK a b c d e f g h i j k l m n:=
 Ac [(b,c),(d,e),(f,[]),(g,[])] a [] (Ay (Aj EE 28 2 [(0,i),(1,j)]) 61883397 h fun o p q r=>Ac [] q r (is0 k 24 [iq 21,o] p fun s t u v=>Ac [] u v (ZO t l m n s)))
def AgO g h i a j k l m n o:=
 Ay (Aj EE 28 2 [(0,h),(1,i)]) 61883394 g fun p q b c=>Ac [] b c (is0 a 24 [iq 20,p] q fun r d e f=>Ac [] e f (Ai 3 j d fun s t=>AhK t e f b c k l d r s a m n o))
def AcR d e a f g h i j k l:=
 Ac [] d e (Ai 3 f a fun m b=>Ac [] b [] (Ai 3 g a fun n c=>Ac [(b,[])] c [] (AgO a m n h i c b j k l)))
def Y0 a c d e f g h i j k l m n o p q r s:=
 Aq 0 a fun t=>Aq 1 a fun u=>nw0 61882381 c fun b v w x=>Ac [(d,e),(f,g),(h,[]),(i,j),(k,[]),(l,m),(n,[])] w x (Ah 3 b t v fun y z A=>AcR z A y o b p q r u s)
def AgV a f g h i j k l m n o p q r s t u:=
 is0 a 56 [g,iq 2] f fun v w b c=>Ac [] b c (Bj EE 3 h (iq 2) fun x=>is0 a 33 [i,j,v,x] w fun y z d e=>Ac [] d e (Y0 y z d e b c k l m n o p q r a s t u))
def Ac4 a b c d g j k l m n o p q r:=
 Ac [(b,c),(d,[])] a [] (is0 g 45 [k,iq 1,iq 0] j fun s h e f=>Ac [] e f (Ai 3 l h fun t i=>Ac [(e,f),(a,[]),(b,c),(d,[])] i [] (AgV g h t m n s i e f a b c d o p q r)))
def Adv a b c h i j k l m n:=
 Ai 3 b a fun o d=>Ac [] d [] (is0 c 60 [h,iq 0,o] a fun p e f g=>Ac [] f g (Ai 3 i e fun q r=>Ac4 r f g d c e q j k p b l m n))
def Ag2 b c d e f g h i j k l m n o p q:=
 Aq 1 b fun r=>nw0 61881354 c fun a s t u=>Ac [(d,e),(f,g),(h,[]),(i,[])] t u (Ah 3 a j s fun v w x=>Ac [] w x (Adv v k l m n o p a r q))
def Aej a b c d e j f k l m n o p q:=
 Ac [(c,[])] a b (Bj EE 3 d (iq 2) fun r=>is0 e 33 [f,k,l,r] j fun g s h i=>Ac [] h i (Aq 0 g fun t=>Ag2 g s h i a b m c t n e f o p d q))
def Afx a c d e g h i j:=
 Ai 3 c a fun k b=>Ac [] b [] (Ai 3 d a fun l f=>Ac [(b,[])] f [] (is0 e 56 [l,iq 1] a fun m n o p=>Aej o p b g e n h k m f c i d j))
def Ac7 b c a e f g h:=
 Ai 3 c b fun i _=>is0 a 56 [i,iq 0] b fun j k _ _=>is0 a 28 [j,iq 1] k fun l m _ _=>nw0 61880323 m fun d n _ _=>Ah 3 d l n fun o _ _=>Afx o d c a e f g h
def AfW c d e a f:=
 AJ c d bF fun g=>Ah 3 a f e fun b _ _=>As true 3 a b fun h=>Am [h,g] b
def Adr d e f a b g h:=
 Ay (Aj EE 28 2 [(0,e),(1,f)]) 61887490 d fun i j _ _=>is0 a 24 [iq 22,i] j fun k l _ _=>Ay (Aj EE 28 1 [(0,k)]) 61887492 l fun m n _ _=>is0 a 24 [iq 23,m] n fun o c _ _=>Aa b true c (fun p=>p g c [] []) fun q r _ _=>AfW b q r h o
def Y1 c d e f g h i j k b l m n o p q:=
 Ac [(e,f),(g,h),(i,[]),(j,[])] c d (Ah 3 b l k fun a r s=>Ac [] r s (Ai 3 m a fun t _=>Ai 3 b a fun u _=>Adr a t u n o p q))
def Zh a e f g h i j k l m n o p:=
 is0 a 33 [f,g,h,i] e fun b q c d=>Ac [] c d (Aq 0 b fun r=>Aq 1 b fun s=>nw0 61886474 q fun t u v w=>Y1 v w c d j k l m u t r n a o s p)
def Aa7 b g a c h i j k l m:=
 Ai 3 g b fun n d=>Ac [(a,[])] d [] (is0 c 56 [n,iq 1] b fun o p e f=>Ac [(a,[])] e f (Bj EE 3 h (iq 2) fun q=>Zh c p i j o q e f d a k l m))
def Adw d e f g h i j k l a m n o p q r s t:=
 Ac [(f,g),(h,i),(j,[]),(k,[])] d e (Ah 3 a m l fun b u v=>Ac [] u v (Ai 3 n b fun w c=>Ac [] c [] (Aa7 b o c p q r w a s t)))
def ZU a f b g h i j k l m n o p q:=
 is0 a 33 [b,g,h,i] f fun c r d e=>Ac [] d e (Aq 0 c fun s=>Aq 1 c fun t=>nw0 61885450 r fun u v w x=>Adw w x d e j k l m v u s n o a p b t q)
def AcH b c a d e i j k l:=
 Ai 3 c b fun m f=>Ac [(a,[])] f [] (is0 d 56 [m,iq 0] b fun n o g h=>Ac [(a,[])] g h (Bj EE 3 e (iq 2) fun p=>ZU d o i j n p g h f a k c e l))
def Ag4 c a d e:=
 Ah 3 a d c fun b _ _=>As true 3 a b fun f=>Am [f,e] b
def Abh b c a d e f g h:=
 Ac [] b c (Ai 3 d a fun i _=>Ai 3 e a fun j _=>Ay (Aj EE 28 2 [(0,i),(1,j)]) 61890562 a fun k l _ _=>is0 f 24 [iq 29,k] l fun m n _ _=>Ag4 n g m h)
def Abq a c d e f g h i j k l m n o p q:=
 Aq 0 a fun r=>Aq 1 a fun s=>nw0 61889549 c fun b t u v=>Ac [(d,e),(f,g),(h,[]),(i,j),(k,[]),(l,m),(n,[])] u v (Ah 3 b r t fun w x y=>Abh x y w o b p q s)
def Adl a f g h i j k l m n o p q r s:=
 is0 a 56 [g,iq 0] f fun t u b c=>Ac [] b c (Bj EE 3 h (iq 2) fun v=>is0 a 33 [i,j,t,v] u fun w x d e=>Ac [] d e (Abq w x d e b c k l m n o p q r a s))
def Acf a b c d g j k l m n o p:=
 Ac [(b,c),(d,[])] a [] (is0 g 45 [k,iq 1,iq 0] j fun q h e f=>Ac [] e f (Ai 3 l h fun r i=>Ac [(e,f),(a,[]),(b,c),(d,[])] i [] (Adl g h r m n q i e f a b c d o p)))
def AbI b a c h i j k:=
 Ai 3 a b fun l d=>Ac [] d [] (is0 c 60 [h,iq 0,l] b fun m e f g=>Ac [] f g (Ai 3 a e fun n o=>Acf o f g d c e n i j m a k))
def Y4 c d e a f:=
 Ay (Aj EE 28 1 [(0,d)]) 61892609 c fun g h _ _=>is0 e 24 [iq 30,g] h fun i j _ _=>Ah 3 a i j fun b _ _=>As true 3 a b fun k=>Am [k,f] b
def Aij c d e f g h i j k l m n o p q:=
 nw0 61891596 c fun a r s t=>Ac [(d,e),(f,g),(h,[]),(i,j),(k,l),(m,[])] s t (Ah 3 a n r fun b u v=>Ac [] u v (Ai 3 a b fun w _=>Y4 b w o p q))
def Aca e a f g h i j k l m n o p q r:=
 Bj EE 3 e (iq 1) fun s=>is0 a 39 [g,h,i,s] f fun b t c d=>Ac [] c d (Aq 0 b fun u=>Aq 1 b fun v=>Aij t c d j k l m n o p q u a r v)
def AdF a b c k d e f g l m n o:=
 Ac [] a b (Ai 3 k c fun p h=>Ac [(a,b),(d,e),(f,[])] h [] (is0 g 56 [p,iq 0] c fun q r i j=>Ac [] i j (Aca l g r m n q i j h a b d e f o)))
def AeG a f b g h i j:=
 Ai 3 f a fun k c=>Ac [] c [] (Ay (Aj EE 28 1 [(0,k)]) 61891586 a fun l m d e=>Ac [] d e (is0 b 24 [iq 18,l] m fun n o p q=>AdF p q o g d e c b h i n j))
def Abd h a b c d e f j g:=
 AS EE 3 h (iq 3) fun k=>Ak k (Ai 3 b a fun l i=>Ac [] i [] (AcH a c i d e f l j g)) (AS EE 3 h (iq 4) fun m=>Ak m (AbI a b d f c e g) (AeG a b d c e f g))
def AgX d a b c e f g h i:=
 AS EE 3 d (iq 1) fun j=>Ak j (Ai 3 b a fun k _=>is0 c 56 [k,iq 0] a fun l m _ _=>AeK c m l b e f g h) (AS EE 3 d (iq 2) fun n=>Ak n (Ac7 a b c e f g h) (Abd d a g b c e f i h))
def Aee a c b d e f g h:=
 Ab 1 a fun k=>Af k c fun l _=>is0 b 55 [l,iq 7] c fun i j _ _=>AS EE 3 i (iq 0) fun m=>Ak m (AaU j d a b e f g h) (AgX i j a b e f g h d)
def S59 (a:Al) (n:Nat) (c d e f:V) (g:H):O :=
 A7 61865984 d g fun h i _ _=>A7 61865985 e i fun j k _ _=>nw0 61865986 k fun l m _ _=>is0 a 24 [iq 15,.nils] m fun o p _ _=>nw0 61867009 p fun b q _ _=>Ah 3 b o q fun r _ _=>Aee j r a b f c h l
theorem Asy a n b c d e f:Ax EE a ft.get n 59 [b,c,d,e] f=S59 a n b c d e f:=by kernel_rfl
def X4 a b c d:=
 Ac [] a b (Am [d] c)
def Yx e a b c d f g h i:=
 Ac [(a,b),(c,d)] e [] (BI [iq 0,iq 0,iq 0,.nils] [(0,1,f),(1,3,g)] fun j=>Ay (Aj EE 27 1 [(0,j)]) 62915590 h fun k l m n=>Ac [(a,b),(c,d)] m n (Ay (AT EE 62915591 false .append [27,27] [i,k]) 62915591 l fun o p q r=>X4 q r p o))
def S60 (r:Al) (n:Nat) (f g h:V) (i:H):O :=
 A7 62914560 h i fun j k _ _=>Ay (Aj EE 27 0 []) 62915584 k fun l m a b=>Ac [] a b (Ay (AT EE 62915586 false .append [27,27] [l,f]) 62915586 m fun o c d e=>Ac [] d e (Ai 3 j c fun p q=>Yx q d e a b g p c o))
theorem Arz a n b c d e:Ax EE a ft.get n 60 [b,c,d] e=S60 a n b c d e:=by kernel_rfl
def E6 c a:=
 BI [iq 0,iq 0,.nils] [] fun d=>Ah 3 a d c fun b _ _=>As true 3 a b fun e=>Am [e] b
def EZ c d e a:=
 is0 c 25 [e] d fun f g _ _=>Ah 3 a f g fun b _ _=>As true 3 a b fun h=>Am [h] b
def EP b c a d e:=
 Bj EE 3 b (iq 1) fun f=>AH c fun g=>Ab 1 g fun h=>Af h a fun i _=>Bj EE 3 f i fun j=>EZ d a j e
def E1 (h:H) i a b c d e f g (j:List V->H->O):=
 BO (h.own.map (·.1)) [63982597,63984651] [a,b,c,d,e,f,g] i fun k=>j [a,b,c,d,e,f,g] k
def EV b c a d e f g h i j k l (m:List V->H->O):=
 Ac [] b c (Ab 2 a fun n=>Bv n e d fun o p q=>Ac [] p q (BE EE 3 f (iq 1) fun r=>E1 g o h i j k l a r m))
def E3 c d a e f g b h i j k l m n o (p:List V->H->O):=
 A4 [true,false,false,false] false false c 61 [a,e,f,g] d fun q r s t=>Ac [(b,[])] s t (Ay (Aj EE 28 1 [(0,q)]) 63984650 r fun u v w x=>Ac [(b,[])] w x (Ay (AT EE 63984651 false .append [28,28] [h,u]) 63984651 v fun y z A B=>EV A B i z y j k a l m n o p))
def Hx a b c f d g h i j k l m (n:List V->H->O):=
 Ab 2 a fun o=>Af o b fun p e=>Ac [] e [] (BE EE 3 c f fun q=>BE EE 3 d (iq 1) fun r=>E3 g b h i q r e p a j k l c d m n)
def EQ (l:H) m a b c d e f g h i j k (n:List V->H->O):=
 BO (l.own.map (·.1)) [63982597] [a,b,c,d,e,f,g,h,i,j,k] m fun o=>n [a,b,c,d,e,f,g,h,i,j,k] o
def EH b c d e f g h i j k l m n o p (q:List V->H->O):=
 BI [iq 0,iq 0,.nils,.nils,iq 0,iq 0,.nils] [(0,1,iq 1),(1,1,b)] fun a=>fzS (LU true 63982597 a) 63982597 a c fun r s _ _=>Ay (Aj EE 114 1 [(0,r)]) 63982598 s fun t u _ _=>is0 d 87 [e,t] u fun v w _ _=>BE EE 3 f (iq 1) fun x=>EQ g w h i j k l m n o p v x q
def EM c a d b e (f:V->V->V->V->V->V->V->V->V->H->O) g h i j k l m:=
 Ab 4 c fun n=>Ai 3 n a fun o _=>A4 [true,false,false] false false d 62 [b,o,e] a fun p q _ _=>f b g h i j k l m p q
def E8 (n:List V) a b d e f o g h i j k l m (p:List V->H->O) (q:V->V->V->V->V->V->V->V->V->H->O):=
 AC n fun c _=>Hm EE 3 c a fun r=>Ak r (BE EE 3 b c fun s=>EH s d e f c o g h b i j k l a m p) (AH m fun t=>EM t d e g f q h b i j k l a)
def EG (a:List V) b c d e f g h i (j:List V->H->O) (k:V->V->V->V->V->V->V->V->V->H->O):=
 AC a fun l m=>AC m fun n o=>AC o fun p q=>AC q fun r s=>AC s fun t u=>E8 u p b c d t e f g h i l n r j k
def Hs (a:List V) b c d (e:List V->H->O) (f:V->V->V->V->V->V->V->V->V->H->O):=
 AC a fun g h=>AC h fun i j=>AC j fun k l=>AC l fun m n=>AC n fun o p=>EG p k b c d g i m o e f
def ES a m (b:H) c d e f g h i j k n o (p:V->V->V->V->V->V->V->V->V->H->O):=
 Af m a fun l _=>BO (b.own.map (·.1)) [63982597] [c,d,e,f,g,h,i,j,k,l,iq 0] a fun q=>BQ n (fun r s t=>Hs s t o b r p) [c,d,e,f,g,h,i,j,k,l,iq 0] q
def E7 l a b m c d e f g h i j n o (k:V->V->V->V->V->V->V->V->V->H->O):=
 Ak l (AH a fun p=>Ab 3 p fun q=>ES b q m c d e f g h i j a n o k) (k c d e f g h i j a b)
def EK a f b c d (g:List V->H->O) e h i j k l m n:=
 Af f a fun o _=>AU 1 o b fun p=>Af p a fun q _=>(fun (r:V->V->V->V->V->V->V->V->V->H->O)=>KN EE 3 e (iq 0) fun s=>E7 s q a d h i j k l m b e n c r) fun t u v w x y z A B C=>Hx y C v A w c t B z d u x g
def E5 e a b c d f (g:List V->H->O) h i j k l n:=
 Ab 0 e fun m=>Af m a fun o _=>is0 b 54 [o,c] a fun p q _ _=>AH d fun r=>Ab 2 r fun s=>EK q s c b f g p h d i j k l n
def ER c a d:=
 Ah 3 a d c fun b _ _=>As true 3 a b fun e=>Am [e] b
def EI f b c a g h (i:List V->H->O) j k l d e n:=
 Ci f fun m=>Hm EE 3 b m fun o=>Ak o (AH c fun p=>E5 p a g b c h i j k l d e n) (Ai 3 e a fun q _=>ER a d q)
def ED (c:List V) a b d e (f:List V->H->O) g h i j n:=
 AC c fun k l=>AC l fun m _=>AH a fun o=>Ab 2 o fun p=>Af p b fun q _=>EI q m a b d e f g h i j k n
def FB (a:List V) b c d (e:List V->H->O) n:=
 AC a fun f g=>AC g fun h i=>AC i fun j k=>AC k fun l m=>AC m fun o p=>ED p h b c d e f j l o n
def E9 h i j k l a m (b:H) c d e f g n o:=
 Ac [(j,[]),(k,[])] h i (Ah 3 a m l fun p q r=>Ac [] q r (BO (b.own.map (·.1)) [63982597,63984651] [c,d,e,f,g,a,iq 0] p fun s=>BQ n (fun t u v=>FB u v o b t n) [c,d,e,f,g,a,iq 0] s))
def E4 d a b e f g h i j k n l:=
 Ab 1 d fun m=>Af m a fun o c=>Ac [(b,[])] c [] (BI [iq 0,iq 0,.nils] [(0,1,e),(1,1,o)] fun p=>nw0 63971337 a fun q r s t=>E9 s t c b r q p f g h i j k n l)
def EN a b d e f g h n i:=
 AH a fun j=>Ab 0 j fun k=>Af k b fun l c=>Ac [] c [] (AH a fun m=>E4 m b c l d e a f g h n i)
def EY a b c d e f g h n:=
 AH a fun i=>Ab 0 i fun j=>Af j b fun k _=>AS EE 3 k (iq 1) fun l=>Ak l (EP c a b d e) (EN a b f g c h e n d)
def ET b a c d e f g h n:=
 AH b fun i=>Ab 2 i fun j=>Af j a fun k _=>CE EE 3 k (iq 0) fun l=>Ak l (E6 a c) (EY d a e f c g b h n)
def EW a b (c:H->O):=
 Ab 2 a fun d=>Bv d (iq 5) b fun e _ _=>c e
def E0 a b e f g (c:H->O):=
 Aa b true a (fun h=>AJ e bT f fun i=>h i a [] []) fun j d _ _=>AJ b j bF fun k=>Ak k (AH g fun l=>EW l d c) (c d)
def EF b a h i j (k:H->O):=
 Aa a true b (fun l=>Af h b fun m n=>l m b n []) fun o d _ _=>Aa a true d (fun p=>KN EE 3 o (iq 3000) fun q=>p q d [] []) fun r e _ _=>Aa a true e (fun s=>s r e [] []) fun c f _ _=>Aa c false f (fun t=>t i f [] []) fun u g _ _=>Aa c false g (fun v=>KN EE 3 u (iq 120) fun w=>v w g [] []) fun x y _ _=>E0 y a c x j k
def EL b f c g (h:H->O):=
 Af f b fun i _=>AS EE 3 i (iq 0) fun a=>Aa a true b (fun j=>j c b [] []) fun k d _ _=>Aa a true d (fun l=>AH k fun m=>l m d [] []) fun n e _ _=>Aa a true e (fun o=>Ab 1 n fun p=>o p e [] []) fun q r _ _=>EF r a q g c h
def EU c d e a f g h i j b n:=
 Ab 1 c fun k=>Bv k e d fun l _ _=>(fun (m:H->O)=>AH a fun o=>Ab 2 o fun p=>EL l p a b m) fun q=>ET a q f g h i j b n
def S61 (d:Al) (n:Nat) (a e f g:V) (b:H):O :=
 nw0 63963136 b fun h c _ _=>AH a fun i=>Ab 1 i fun j=>Af j c fun k _=>BE EE 3 k (iq 1) fun l=>AH a fun m=>EU m c l a h e f d b g n
theorem AsO a n b c d e f:Ax EE a ft.get n 61 [b,c,d,e] f=S61 a n b c d e f:=by kernel_rfl
def Jr a:=
 BI [iq 0,iq 0,.nils,.nils,iq 0,iq 0,.nils] [(0,1,iq 11)] fun b=>A7 65013761 b a fun c d _ _=>Am [c] d
def IX a b:=
 Af b a fun c _=>Am [c] a
def IY b c a d:=
 Bj EE 3 b (iq 1) fun e=>Ab 1 c fun f=>Af f a fun g _=>Bj EE 3 e g fun h=>AU 1 d h fun i=>IX a i
def IU a b:=
 A7 65017863 b a fun c d _ _=>Am [c] d
def I0 b c a:=
 Bj EE 3 b (iq 1) fun d=>Ab 1 c fun e=>Af e a fun f _=>Bj EE 3 d f fun g=>BI [iq 0,iq 0,.nils,.nils,iq 0,iq 0,.nils] [(0,1,iq 1),(1,1,g)] fun h=>IU a h
def I6 b d a c:=
 Af d b fun e _=>Ci a fun f=>Hm EE 3 e f fun g=>Ak g (Ci a fun h=>IY h c b a) (Ci a fun i=>I0 i c b)
def Je f (g:H) h a b c d (i:List V->H->O):=
 BE EE 3 f (iq 1) fun e=>BO (g.own.map (·.1)) [65024012,65024014,65025038] [a,b,c,d,e] h fun j=>i [a,b,c,d,e] j
def Jy a b c (d:H->O):=
 AH a fun e=>Ab 2 e fun f=>Bv f c b fun g h i=>Ac [] h i (d g)
def Ja b c a d e f g (h:H->O):=
 Ac [(a,[])] b c (Ay (Aj EE 114 1 [(0,e)]) 65024013 d fun i j k l=>Ac [(a,[])] k l (Ay (AT EE 65024014 false .append [114,114] [f,i]) 65024014 j fun m n o p=>Ac [] o p (Jy g n m h)))
def Jw c d a b e f g (h:H->O):=
 AU 3 c d fun i=>Ai 3 i a fun j k=>Ac [(b,[])] k [] (BI [iq 0,iq 0,.nils,.nils,iq 0,iq 0,.nils] [(3,1,e),(4,3,j)] fun l=>A7 65024012 l a fun m n o p=>Ja o p b n m f g h)
def IH a c d e f g (h:H->O):=
 Af c a fun i b=>Ac [] b [] (Ab 2 d fun j=>Af j a fun k l=>Ac [(b,[])] l [] (Jw k e a b f i g h))
def Jc a b c (d:H->O):=
 Ab 2 a fun e=>Bv e c b fun f g h=>Ac [] g h (d f)
def Iu a b c d e (f:H->O):=
 Ay (Aj EE 114 1 [(0,b)]) 65025037 a fun g h i j=>Ac [(c,[])] i j (Ay (AT EE 65025038 false .append [114,114] [d,g]) 65025038 h fun k l m n=>Ac [] m n (AH e fun o=>Jc o l k f))
def Iv c d b a e f g h i (j:H->O):=
 AU 3 c d fun k=>Ai 3 k b fun l m=>Ac [(a,[])] m [] (A4 [true,false,false] false false e 62 [f,l,g] b fun n o p q=>Ac [(a,[])] p q (Iu o n a h i j))
def Jl a c d e f g h i (j:H->O):=
 Af c a fun k b=>Ac [] b [] (Ab 2 d fun l=>Af l a fun m n=>Ac [(b,[])] n [] (Iv m e a b f g h k i j))
def IA g a b c d e (f:H->O) h i:=
 Ak g (AH a fun j=>Ab 2 j fun k=>IH b k c d e a f) (AH a fun l=>Ab 2 l fun m=>Jl b m c d h i e a f)
def I1 a h c d b e (i:List V->H->O) f g:=
 (fun (j:H->O)=>Ab 0 b fun k=>Af k f fun l _=>is0 g 54 [l,a] f fun m n _ _=>KN EE 3 m (iq 0) fun o=>IA o e n b a d j g c) fun p=>Je a h p c d b e i
def IM a b c d:=
 A4 [true,false] false false a 88 [c,d] b fun e f _ _=>Am [e] f
def IW b a c g d h e (i:List V->H->O) f:=
 Ab 2 b fun j=>Af j a fun k _=>Ci k fun l=>Hm EE 3 c l fun m=>Ak m (I1 c g d h b e i a f) (IM f a d e)
def Acm (a:List V) b c (d:List V->H->O) e:=
 AC a fun f g=>AC g fun h i=>AC i fun j k=>AC k fun l m=>AC m fun n _=>IW j b n c f h l d e
def Jb (a:H) f b c d e n g:=
 BO (a.own.map (·.1)) [65024012,65024014,65025038] [b,c,d,e,iq 0] f fun h=>BQ n (fun i j k=>Acm j k a i g) [b,c,d,e,iq 0] h
def Jj a c b d e f n g:=
 Af c a fun h _=>Ab 1 b fun i=>Af i a fun j _=>BI [iq 0,iq 0,.nils,.nils,iq 0,iq 0,.nils] [(0,1,h),(1,1,j)] fun k=>A7 65018885 k a fun l m _ _=>Jb d m e f b l n g
def Jz a b c d e n f:=
 Ab 0 a fun g=>Af g b fun h _=>AS EE 3 h (iq 1) fun i=>Ak i (Ab 1 a fun j=>I6 b j c a) (Ab 0 a fun k=>Jj b k a d e c n f)
def S62 (d:Al) (n:Nat) (b e f:V) (c:H):O :=
 A7 65011712 e c fun g a _ _=>AH b fun h=>Ab 2 h fun i=>Af i a fun j _=>CE EE 3 j (iq 0) fun k=>Ak k (Jr a) (Jz g a f c b n d)
theorem As1 a n b c d e:Ax EE a ft.get n 62 [b,c,d] e=S62 a n b c d e:=by kernel_rfl
def L0 b c a d e f (g:List V->H->O) h i:=
 A4 [true,false,false] false false b 63 [a,d,e] c fun _ j _ _=>BE EE 3 f (iq 1) fun k=>g [a,h,i,k] j
def Kw b a c d e f (g:List V->H->O):=
 Ab 2 b fun h=>Af h a fun i _=>AU 3 i c fun j=>Ai 3 j a fun k _=>BE EE 3 d (iq 1) fun l=>L0 e a f k l c g d b
def Ku c a f g h i j k (l:List V->H->O):=
 Aa a true c (fun m=>Ab 1 f fun n=>m n c [] []) fun o b _ _=>Aa a true b (fun p=>Af o b fun q r=>p q b r []) fun s d _ _=>Aa a true d (fun t=>AS EE 3 s (iq 0) fun u=>t u d [] []) fun v e _ _=>AJ a v bF fun w=>Ak w (Kw g e h i j k l) (Am [] e)
def LW a f c d g h i (j:List V->H->O):=
 Af f a fun k _=>Ci k fun l=>Hm EE 3 c l fun b=>Aa b true a (fun m=>m d a [] []) fun n e _ _=>Aa b true e (fun o=>AH n fun p=>o p e [] []) fun q r _ _=>Ku r b q g c h i d j
def KY (b:List V) c d (e:List V->H->O):=
 AC b fun f g=>AC g fun h i=>AC i fun a j=>AC j fun k _=>Ab 2 a fun l=>LW c l k f a h d e
def Lj n a b c d e:=
 BQ n (fun f g h=>KY g h e f) [b,c,d,iq 0] a
def KA a b (c:H->O):=
 Bv b (iq 5) a fun d _ _=>c d
def LR a b (c:H->O):=
 Ab 1 a fun d=>Bv d (iq 1) b fun e _ _=>c e
def Lw e f a b g h (c:H->O):=
 Ac [] e f (Aa b false a (fun i=>Eh (Qw .not g) fun j=>i j a [] []) fun k d _ _=>AJ b bT k fun l=>Ak l (AH h fun m=>LR m d c) (c d))
def K8 c d e a g h i j (k:H->O):=
 Ac [] c d (Aa a false e (fun l=>Ab 1 g fun m=>l m e [] []) fun n b _ _=>Aa a false b (fun o=>Af n b fun p q=>o p b q []) fun r f s t=>Ac [(c,d)] s t (Aa a false f (fun u=>is0 h 89 [i,r] f u) fun v w x y=>Lw x y w a v j k))
def Ld e f g h i j c d k l (m:H->O):=
 Ac [(f,g),(h,[])] e [] (Ci i fun n=>CE EE 3 j n fun a=>Aa a false c (fun o=>Ab 0 d fun p=>o p c [] []) fun q b _ _=>Aa a false b (fun r=>Af q b fun s t=>r s b t []) fun u v w x=>K8 w x v a d k u l m)
def LV a b g h c i (j:H->O):=
 Ac [] a [] (is0 b 52 [h] g fun k d e f=>Ac [] e f (Ab 2 c fun l=>Af l d fun m n=>Ld n e f a m k d c b i j))
def Lh e b a (c:H->O) d f:=
 Ak e (AH b fun g=>Ab 1 g fun h=>KA a h c) (Ab 0 d fun i=>Af i a fun j k=>LV k f a j d b c)
def LX a d e f (g:H->O) h i:=
 Af d a fun j _=>KN EE 3 j (iq 3000) fun b=>Aa b false a (fun k=>k e a [] []) fun l c _ _=>Aa b false c (fun m=>KN EE 3 l (iq 120) fun n=>m n c [] []) fun o p _ _=>AJ b bT o fun q=>Lh q f p g h i
def Lp e f g n a b c d:=
 Ab 0 e fun h=>Bv h g f fun i _ _=>(fun (j:H->O)=>AH a fun k=>Ab 0 k fun l=>LX i l b a j c d) fun m=>Lj n m a b c d
def S63 (c:Al) (n:Nat) (a d e:V) (f:H):O :=
 A7 66060288 d f fun g b _ _=>AH a fun h=>Ab 0 h fun i=>Af i b fun j _=>BE EE 3 j (iq 1) fun k=>AH a fun l=>Lp l b k n a e g c
theorem AsN a n b c d e:Ax EE a ft.get n 63 [b,c,d] e=S63 a n b c d e:=by kernel_rfl
def S64 (c:Al) (n:Nat) (d:H):O :=
 nw0 67108864 d fun a e _ _=>is0 c 24 [iq 10,.nils] e fun f g _ _=>Ah 3 a f g fun b _ _=>As true 3 a b fun h=>Am [h] b
theorem Arg a n b:Ax EE a ft.get n 64 [] b=S64 a n b:=by kernel_rfl
def La c d e a f:=
 AJ c d bF fun g=>Ah 3 a f e fun b _ _=>As true 3 a b fun h=>Am [h,g] b
def L2 d e f g a b h i:=
 Ay (Aj EE 28 3 [(0,e),(1,f),(2,g)]) 68163587 d fun j k _ _=>is0 a 24 [iq 7,j] k fun l m _ _=>Ay (Aj EE 28 1 [(0,l)]) 68163589 m fun n o _ _=>is0 a 24 [iq 8,n] o fun p c _ _=>Aa b true c (fun q=>q h c [] []) fun r s _ _=>La b r s i p
def Ls c b d e f g h i j:=
 Ah 3 b d c fun a k l=>Ac [] k l (Ai 3 b a fun m _=>Ai 3 e a fun n _=>Ai 3 f a fun o _=>L2 a m n o g h i j)
def K6 a b c f g h i j k l m n o p:=
 Ac [] a b (is0 c 24 [iq 6,g] f fun q r d e=>Ac [] d e (nw0 68162565 r fun s t u v=>Ac [(d,e),(a,b),(h,i),(j,[]),(k,[])] u v (Ls t s q l m c n o p)))
def Lr b g a c h i j k l m:=
 Ai 3 g b fun n d=>Ac [(a,[])] d [] (is0 c 45 [n,iq 1,iq 0] b fun o p e f=>Ac [(a,[])] e f (Ay (Aj EE 28 2 [(0,h),(1,o)]) 68162563 p fun q r s t=>K6 s t c r q e f d a i j k l m))
def KH d e f g h i j k l a m n o p q r s t:=
 Ac [(f,g),(h,i),(j,[]),(k,[])] d e (Ah 3 a m l fun b u v=>Ac [] u v (Ai 3 n b fun w c=>Ac [] c [] (Lr b o c p w a q r s t)))
def L3 a e f g h i j k l m n o p q r:=
 is0 a 39 [f,g,h,i] e fun b s c d=>Ac [] c d (Aq 0 b fun t=>Aq 1 b fun u=>nw0 68161546 s fun v w x y=>KH x y c d j k l m w v t n o a p q u r)
def Lm b g a c h i j k l m n o:=
 Ai 3 g b fun p d=>Ac [(a,[])] d [] (is0 c 56 [p,iq 2] b fun q r e f=>Ac [(a,[])] e f (Bj EE 3 h (iq 2) fun s=>L3 c r i j q s e f d a k l m n o))
def KM c a d e:=
 Ah 3 a d c fun b f g=>Ac [] f g (As true 3 a b fun h=>Am [h,e] b)
def KV c d e f g a h i:=
 Ac [] c d (is0 e 24 [iq 5,g] f fun j b k l=>Ac [] k l (Aa a true b (fun m=>m h b [] []) fun n o _ _=>AJ a n bF fun p=>KM o i j p))
def L7 a e f g h i j k l m n:=
 is0 a 24 [iq 4,f] e fun o b c d=>Ac [] c d (Ai 3 g b fun p q=>Ac [(c,d),(h,i),(j,[]),(k,[])] q [] (Ay (Aj EE 28 2 [(0,o),(1,p)]) 68165637 b fun r s t u=>KV t u a s r l m n))
def LG a b f g h i j k l:=
 Ac [] a [] (Ai 3 f b fun m c=>Ac [(a,[])] c [] (Ay (Aj EE 28 2 [(0,g),(1,m)]) 68165634 b fun n o d e=>Ac [] d e (L7 h o n i d e c a j k l)))
def Lx c d e f g h i j k l m n o p q r s t u:=
 nw0 68164621 c fun a v w x=>Ac [(d,e),(f,g),(h,[]),(i,j),(k,[]),(l,m),(n,[])] w x (Ah 3 a o v fun b y z=>Ac [] y z (Ai 3 p b fun A B=>LG B b a A q r s t u))
def Lo e a f g h i j k l m n o p q r s t u v:=
 Bj EE 3 e (iq 2) fun w=>is0 a 39 [g,h,i,w] f fun b x c d=>Ac [] c d (Aq 0 b fun y=>Aq 1 b fun z=>Lx x c d j k l m n o p q r y s a t u z v)
def Lv a b c l d e f g h m n o p q r s:=
 Ac [] a b (Ai 3 l c fun t i=>Ac [(a,b),(d,[]),(e,f),(g,[])] i [] (is0 h 56 [t,iq 2] c fun u v j k=>Ac [] j k (Lo m h v n o u j k i a b d e f g p q r s)))
def Lz a g h i j d k l m n o p:=
 is0 a 60 [h,iq 1,i] g fun q e b c=>Ac [] b c (Ai 3 j e fun r f=>Ac [(b,c),(d,[])] f [] (is0 a 45 [r,iq 1,iq 0] e fun s t u v=>Lv u v t k f b c d a l q s m n o p))
def Lk m a b d e f g c h i j:=
 AS EE 3 m (iq 0) fun n=>Ak n (Ai 3 b a fun o k=>Ac [] k [] (Lm a d k e f g o b c h i j)) (Ai 3 c a fun p l=>Ac [] l [] (Lz e a g p b l d f c h i j))
def Lf e a f b c g h i j k l:=
 Ah 3 a f e fun d m n=>Ac [] m n (Ab 1 b fun o=>Af o d fun p _=>is0 c 55 [p,iq 3] d fun q r _ _=>Lk q r g b c h i j a k l)
def K9 a b c d e f g h i j k l m n o:=
 Ac [] a b (Aq 0 c fun p=>Aq 1 c fun q=>nw0 68159498 d fun r s t u=>Ac [(a,b),(e,f),(g,[]),(h,[])] t u (Lf s r p i j k l m n q o))
def LP c a b h i d e j k l m n:=
 Ac [(a,[])] c [] (is0 b 56 [i,iq 1] h fun o p f g=>Ac [(a,[])] f g (Bj EE 3 d (iq 2) fun q=>is0 b 39 [e,j,o,q] p fun r s t u=>K9 t u r s f g c a k b l d e m n))
def KD e f c g h i j k:=
 nw0 68158468 e fun a l _ _=>Ah 3 a f l fun b _ _=>Ai 3 a b fun m d=>Ac [] d [] (Ai 3 c b fun n o=>LP o d g b n h i m c j a k)
def S65 (a:Al) (n:Nat) (b e f g:V) (h:H):O :=
 A7 68157440 e h fun i j _ _=>A7 68157441 f j fun c k _ _=>nw0 68157442 k fun l d _ _=>Ai 3 c d fun m _=>is0 a 56 [m,iq 0] d fun o p _ _=>is0 a 38 [b,o,iq 1] p fun q r _ _=>KD r q c a g b i l
theorem AuP a n b c d e f:Ax EE a ft.get n 65 [b,c,d,e] f=S65 a n b c d e f:=by kernel_rfl
def Age b c a d e:=
 Ac [] b c (As true 3 d a fun f=>Am [f,e] a)
def AdG a b f g c h:=
 Aa b true a (fun i=>i f a [] []) fun j d _ _=>AJ b j bF fun e=>Aa e true d (fun k=>k g d [] []) fun l m _ _=>AJ e l bF fun n=>Ah 3 c h m fun o p q=>Age p q o c n
def AaZ a b c d e f g h i j k l m n o p:=
 Ac [(b,[]),(c,[]),(d,e),(f,[])] a [] (Ay (Aj EE 28 4 [(0,h),(1,i),(2,j),(3,k)]) 69211141 g fun q r s t=>Ac [] s t (is0 l 24 [iq 13,q] r fun u v w x=>Ac [] w x (AdG v m n o p u)))
def Zy a g b c d h i j k l m n o:=
 Ai 3 g a fun p e=>Ac [(b,c),(d,[])] e [] (Ai 3 h a fun q f=>Ac [(e,[]),(b,c),(d,[])] f [] (Ai 3 i a fun r s=>AaZ s f e b c d a j p q r k l m n o))
def AeX f g a h b i j k l m n o:=
 Ac [] f g (Ai 3 h a fun p c=>Ac [] c [] (is0 b 45 [p,iq 1,iq 0] a fun q r d e=>Ac [] d e (Zy r i d e c j k q b l m n o)))
def AfU a c d e f g h i j k l m n o p q r s t u v w x y z A:=
 Aq 0 a fun B=>Aq 1 a fun C=>nw0 69210128 c fun b D E F=>Ac [(d,e),(f,g),(h,[]),(i,j),(k,[]),(l,m),(n,o),(p,[]),(q,r),(s,t)] E F (Ah 3 b B D fun G I J=>AeX I J G u v w b x y z C A)
def Afa a f g h i j k l m n o p q r s t u v w x y z A B C:=
 is0 a 56 [g,iq 2] f fun D E b c=>Ac [] b c (Bj EE 3 h (iq 2) fun F=>is0 a 39 [i,j,D,F] E fun G I d e=>Ac [] d e (AfU G I d e b c k l m n o p q r s t u v w x a y z A B C))
def Ac9 a b c d e f g h i j m p q r s t u v w x y z:=
 Ac [(b,c),(d,e),(f,[]),(g,h),(i,j)] a [] (is0 m 45 [q,iq 2,iq 0] p fun A n k l=>Ac [] k l (Ai 3 r n fun B o=>Ac [(k,l),(a,[]),(b,c),(d,e),(f,[]),(g,h),(i,j)] o [] (Afa m n B s t A o k l a b c d e f g h i j u v w x y z)))
def Zd a h i j b k l m n o p q r s t u v:=
 is0 a 45 [i,iq 1,iq 0] h fun w x c d=>Ac [] c d (is0 a 60 [j,iq 1,w] x fun y e f g=>Ac [] f g (Ai 3 b e fun z A=>Ac9 A f g c d k l m n o a e z p q y b r s t u v))
def AdJ a b e i j k f l m n o p q r:=
 Ac [] a b (is0 e 60 [j,iq 1,k] i fun s g c d=>Ac [] c d (Ai 3 f g fun t h=>Ac [(c,d),(a,b)] h [] (Zd e g t s f h c d a b l m n o p q r)))
def ZX c d e f g h i j a k l m n o p q r:=
 nw0 69209098 c fun b s t u=>Ac [(d,e),(f,g),(h,[]),(i,[])] t u (Ah 3 b j s fun v w x=>Ac [] w x (is0 a 64 [] v fun y z A B=>AdJ A B a z k y l m n b o p q r))
def Adb a b g c h i j k l m n o p q r:=
 Bj EE 3 a (iq 2) fun s=>is0 b 39 [c,h,i,s] g fun d t e f=>Ac [] e f (Aq 0 d fun u=>Aq 1 d fun v=>ZX t e f j k l m u b c n o a p q v r)
def Ab3 a b c d h i j k l m n:=
 Ac [] a [] (Ai 3 c b fun o e=>Ac [(a,[])] e [] (is0 d 56 [o,iq 1] b fun p q f g=>Ac [(a,[])] f g (Adb h d q i j p f g e a k c l m n)))
def Y7 d e f g h i j k l a m n o p q r:=
 nw0 69208074 d fun b s t u=>Ac [(e,f),(g,h),(i,[]),(j,k)] t u (Ah 3 b l s fun c v w=>Ac [] v w (Ai 3 a c fun x y=>Ab3 y c m n o p x a b q r))
def Y5 a b g c h i j k l m n o p q:=
 Bj EE 3 a (iq 2) fun r=>is0 b 39 [c,h,i,r] g fun d s e f=>Ac [] e f (Aq 0 d fun t=>Aq 1 d fun u=>Y7 s e f j k l m n t o p b a c u q)
def Afw a b c d e i j k l m:=
 Ac [] a b (Ai 3 d c fun n f=>Ac [(a,b)] f [] (is0 e 56 [n,iq 0] c fun o p g h=>Ac [] g h (Y5 i e p j k o g h f a b l d m)))
def AeD c d e a f:=
 is0 c 24 [iq 12,e] d fun g h _ _=>Ah 3 a g h fun b _ _=>As true 3 a b fun i=>Am [i,f] b
def Afr c d e f g h i j k a l m n o:=
 Ac [(e,f),(g,h),(i,[]),(j,[])] c d (Ah 3 a l k fun b p q=>Ac [] p q (Ai 3 a b fun r _=>Ay (Aj EE 28 1 [(0,r)]) 69216257 b fun s t _ _=>AeD m t s n o))
def AhU a e f g h i j k l m n:=
 is0 a 39 [f,g,h,i] e fun b o c d=>Ac [] c d (Aq 0 b fun p=>Aq 1 b fun q=>nw0 69215242 o fun r s t u=>Afr t u c d j k l m s r p a n q)
def AbK b g a c h i j k:=
 Ai 3 g b fun l d=>Ac [(a,[])] d [] (is0 c 56 [l,iq 0] b fun m n e f=>Ac [(a,[])] e f (Bj EE 3 h (iq 1) fun o=>AhU c n i j m o e f d a k))
def ZE a d e b:=
 is0 a 55 [e,iq 4] d fun f g _ _=>is0 a 27 [f] g fun h i _ _=>Ah 3 b h i fun c _ _=>As true 3 b c fun j=>Am [j,bT] c
def Ahq f a g b c h i d:=
 Ak f (Ai 3 g a fun j e=>Ac [] e [] (AbK a b e c h i j d)) (Ab 1 b fun k=>Af k a fun l _=>ZE c a l d)
def Ais c a d e h i j k:=
 Aa a true c (fun l=>Ab 0 d fun m=>l m c [] []) fun n b _ _=>Aa a true b (fun o=>Af n b fun p q=>o p b q []) fun r f _ _=>Aa a true f (fun s=>is0 e 55 [r,iq 2] f s) fun t g _ _=>Aa a true g (fun u=>AS EE 3 t (iq 1) fun v=>u v g [] []) fun w x _ _=>AJ a w bF fun y=>Ahq y x h d e i j k
def Ah5 c d e a f:=
 AJ c d bF fun g=>Ah 3 a f e fun b h i=>Ac [] h i (As true 3 a b fun j=>Am [j,g] b)
def Afe c d e f g h i j a k l:=
 Ay (Aj EE 28 2 [(0,d),(1,e)]) 69222406 c fun m n o p=>Ac [(f,g),(h,[])] o p (is0 i 24 [j,m] n fun q b r s=>Ac [] r s (Aa a true b (fun t=>t k b [] []) fun u v _ _=>Ah5 a u v l q))
def Agp f a g b c d h i j k l:=
 BE EE 3 (iq 16) f fun m=>Ai 3 g a fun n e=>Ac [(b,c),(d,[])] e [] (Ai 3 h a fun o p=>Ac [(e,[]),(b,c),(d,[])] p [] (Afe a n o b c d i m j k l))
def Z4 f a b g h i j k:=
 Ab 1 f fun l=>Af l a fun m c=>Ac [] c [] (is0 b 55 [m,iq 2] a fun n o d e=>Ac [] d e (Agp n o g d e c h b i j k))
def Acy b c d e f g h i j k l m n o:=
 Aq 1 b fun p=>nw0 69221386 c fun a q r s=>Ac [(d,e),(f,g),(h,[]),(i,[])] r s (Ah 3 a j q fun t u v=>Ac [] u v (Z4 k t l m a n p o))
def AdI a b c h d i j k l m n o p q:=
 Ac [(c,[])] a b (Bj EE 3 h (iq 1) fun r=>is0 d 39 [j,k,l,r] i fun e s f g=>Ac [] f g (Aq 0 e fun t=>Acy e s f g a b m c t n d o p q))
def Af3 a f c d g h i j k:=
 Ai 3 f a fun l b=>Ac [] b [] (Ai 3 c a fun m e=>Ac [(b,[])] e [] (is0 d 56 [m,iq 1] a fun n o p q=>AdI p q b g d o h l n e c i j k))
def Ab0 b c d e f g h i j k l m n o p:=
 Aq 1 b fun q=>nw0 69220362 c fun a r s t=>Ac [(d,e),(f,g),(h,[]),(i,[])] s t (Ah 3 a j r fun u v w=>Ac [] v w (Af3 u k l m n o a q p))
def AhJ a b c d e j f k l m n o p:=
 Ac [(c,[])] a b (Bj EE 3 d (iq 1) fun q=>is0 e 39 [f,k,l,q] j fun g r h i=>Ac [] h i (Aq 0 g fun s=>Ab0 g r h i a b m c s n o e d f p))
def AbW a c d e g h i:=
 Ai 3 c a fun j b=>Ac [] b [] (Ai 3 d a fun k f=>Ac [(b,[])] f [] (is0 e 56 [k,iq 0] a fun l m n o=>AhJ n o b g e m h j l f c d i))
def Adg c d a:=
 is0 c 24 [iq 15,.nils] d fun e f _ _=>Ah 3 a e f fun b _ _=>As true 3 a b fun g=>Am [g,bT] b
def Y3 b a h c i j k l d:=
 Aa a true b (fun m=>Af h b fun n o=>m n b o []) fun p e _ _=>Aa a true e (fun q=>is0 c 55 [p,iq 5] e q) fun r f _ _=>Aa a true f (fun s=>KN EE 3 r (iq 1) fun t=>s t f [] []) fun u g _ _=>AJ a u bF fun v=>Ak v (AbW g i j c k l d) (Adg c g d)
def AfY c d e a:=
 Bj EE 3 c (iq 1) fun f=>is0 d 47 [f] e fun g h _ _=>Ah 3 a g h fun b _ _=>As true 3 a b fun i=>Am [i,bT] b
def Adh a b c:=
 As true 3 b a fun d=>Am [d,c] a
def Zg d e a b f c g:=
 Ac [] d e (Aa b true a (fun h=>h f a [] []) fun i j _ _=>AJ b i bF fun k=>Ah 3 c g j fun l m n=>Ac [] m n (Adh l c k))
def Ahz a e f b c d g h i j k l:=
 Ai 3 e a fun m n=>Ac [(f,[]),(b,[]),(c,d)] n [] (Ay (Aj EE 28 2 [(0,g),(1,m)]) 69230599 a fun o p q r=>Ac [(b,[]),(c,d)] q r (is0 h 24 [i,o] p fun s t u v=>Zg u v t j k l s))
def Aen f g a h c d i j k l m:=
 AU 1 f g fun n=>Af n a fun o b=>Ac [] b [] (Ai 3 h a fun p e=>Ac [(b,[]),(c,d)] e [] (Ahz a i e b c d p j o k l m))
def Ag9 d a e f g h i j k:=
 Ah 3 a e d fun l m n=>Ac [] m n (Ay (Aj EE 75 2 [(0,iq 3),(1,iq 6)]) 69230592 l fun o p b c=>Ac [] b c (Bj EE 3 f (iq 2) fun q=>Aen o q p g b c a h i j k))
def AeS a b c d e f g h i j k l m n o p:=
 Ac [] a b (Aq 0 c fun q=>Aq 1 c fun r=>nw0 69229580 d fun s t u v=>Ac [(a,b),(e,f),(g,[]),(h,[]),(i,j),(k,[])] u v (Ag9 t s q l m n o r p))
def Ahr c a d e f b i j k l m n o p q:=
 Ac [(a,[]),(d,e),(f,[])] c [] (is0 b 56 [j,iq 1] i fun r s g h=>Ac [(a,[])] g h (Bj EE 3 k (iq 1) fun t=>is0 b 39 [l,m,r,t] s fun u v w x=>AeS w x u v g h c a d e f n o b p q))
def Acz d g h i j e k l m n o p:=
 is0 d 60 [h,iq 1,i] g fun q a b c=>Ac [] b c (Ai 3 j a fun r f=>Ac [(b,c),(e,[])] f [] (Ai 3 k a fun s t=>Ahr t f b c e d a s l q r m n o p))
def Aeu d e f g h i j k l a m n o p q r s t u:=
 Ac [(f,g),(h,i),(j,[]),(k,[])] d e (Ah 3 a m l fun b v w=>Ac [] v w (Ai 3 a b fun x c=>Ac [] c [] (Acz n b o x p c q r s a t u)))
def Agx a f b g h i j k l m n o p q r:=
 is0 a 39 [b,g,h,i] f fun c s d e=>Ac [] d e (Aq 0 c fun t=>Aq 1 c fun u=>nw0 69228554 s fun v w x y=>Aeu x y d e j k l m w v t a b n o p q u r)
def Ab8 b c a d e i j k l m:=
 Ai 3 c b fun n f=>Ac [(a,[])] f [] (is0 d 56 [n,iq 0] b fun o p g h=>Ac [(a,[])] g h (Bj EE 3 e (iq 1) fun q=>Agx d p i j o q g h f a k c e l m))
def Abw a b:=
 As true 3 b a fun c=>Am [c,bT] a
def Abz c d a b:=
 AU 3 c d fun e=>Ai 3 e a fun f g=>Ac [] g [] (Ah 3 b f a fun h i j=>Ac [] i j (Abw h b))
def AcL d a b c e f g h i j k l m n o p q:=
 Ab 1 d fun r=>Af r a fun s t=>Ac [(b,c),(e,f),(g,h),(i,j),(k,l),(m,n)] t [] (is0 o 55 [s,iq 3] a fun u v w x=>Ac [(b,c)] w x (Abz p u v q))
def AfL a b c h i j k l m n o p q r s:=
 Ac [] a b (is0 c 24 [iq 18,i] h fun t u d e=>Ac [] d e (Ay (Aj EE 28 3 [(0,j),(1,k),(2,t)]) 69231621 u fun v w f g=>Ac [] f g (AcL l w f g d e a b m n o p q r c v s)))
def Ae4 a f g h i j k:=
 is0 a 24 [iq 14,.nils] f fun l m b c=>Ac [] b c (is0 a 24 [iq 15,.nils] m fun n o d e=>Ac [] d e (Ay (Aj EE 28 1 [(0,n)]) 69231619 o fun p q r s=>AfL r s a q p g l h d e b c i j k))
def AdP i a c d b j k l e:=
 Ak i (Ai 3 c a fun m f=>Ac [] f [] (Ab8 a d f b j k m c l e)) (is0 b 64 [] a fun n o g h=>Ac [] g h (Ae4 b o n d g h e))
def Af1 b g h c i j k l:=
 is0 b 55 [h,iq 4] g fun d e _ _=>KN EE 3 c (iq 0) fun a=>Aa a true e (fun m=>m d e [] []) fun n f _ _=>Aa a true f (fun o=>KN EE 3 n (iq 1) fun p=>o p f [] []) fun q r _ _=>AJ a q bF fun s=>AdP s r i j b c k d l
def Abm f b a c d e g h:=
 KN EE 3 f (iq 0) fun i=>Ak i (Ab 1 b fun j=>Af j a fun k _=>AfY k c a d) (Ab 0 e fun l=>Af l a fun m _=>Af1 c a m g b e h d)
def AgU i b a c e d f g:=
 Ak i (KN EE 3 b (iq 0) fun h=>Aa h true a (fun j=>Ab 0 c fun k=>j k a [] []) fun l m _ _=>Y3 m h l e d c b f g) (Ab 1 d fun n=>Af n a fun o _=>Abm o d a e g c b f)
def Ahb a i b c d e f g:=
 Af i a fun h _=>AS EE 3 h (iq 10) fun j=>Ak j (KN EE 3 b (iq 0) fun k=>Ais a k c d e b f g) (AS EE 3 h (iq 14) fun l=>AgU l b a c d e f g)
def Acq c d j a e f g b h:=
 Aa d true c (fun k=>CE EE 3 j (iq 2) fun l=>k l c [] []) fun m i _ _=>AJ d m bF fun n=>Ak n (is0 a 64 [] i fun o p q r=>Afw q r p e a f g o b h) (Ab 0 b fun s=>Ahb i s f e a b g h)
def Acd d a e i f j k l m:=
 Aa a true d (fun n=>is0 e 55 [i,iq 5] d n) fun o g _ _=>Aa a true g (fun p=>AS EE 3 o (iq 4) fun q=>p q g [] []) fun r h _ _=>AJ a r bF fun b=>Aa b true h (fun s=>Ab 0 f fun t=>s t h [] []) fun u c _ _=>Aa b true c (fun v=>Af u c fun w x=>v w c x []) fun y z _ _=>Acq z b y e j k l f m
def S66 (f:Al) (n:Nat) (g h i c:V) (j:H):O :=
 A7 69206016 h j fun k l _ _=>A7 69206017 i l fun d m _ _=>nw0 69206018 m fun o e _ _=>KN EE 3 c (iq 0) fun a=>Aa a true e (fun p=>Ab 0 d fun q=>p q e [] []) fun r b _ _=>Aa a true b (fun s=>Af r b fun t u=>s t b u []) fun v w _ _=>Acd w a f v k d c g o
theorem ArN a n b c d e f:Ax EE a ft.get n 66 [b,c,d,e] f=S66 a n b c d e f:=by kernel_rfl
def AmR c a d:=
 Ah 3 a d c fun b _ _=>As true 3 a b fun e=>Am [e] b
def S67 (b:Al) (n:Nat) (c d e:V) (f:H):O :=
 A7 70254592 c f fun g h _ _=>A7 70254593 e h fun i j _ _=>nw0 70254594 j fun k a _ _=>Ai 3 g a fun l _=>Ai 3 i a fun m _=>is0 b 90 [l,d,iq 0,m] a fun o p _ _=>AmR p k o
theorem As5 a n b c d e:Ax EE a ft.get n 67 [b,c,d] e=S67 a n b c d e:=by kernel_rfl
def Sy a b h (i:H) c d e f (j:List V->H->O):=
 CE EE 36 a (iq 0) fun k=>Ak k (Am [a] b) (BE EE 3 h (iq 1) fun g=>BO (i.own.map (·.1)) [71311362] [c,d,e,f,g] b fun l=>j [c,d,e,f,g] l)
def RI e f a g b h i j k (l:List V->H->O):=
 nw0 71311362 e fun c m _ _=>Ah 3 c f m fun d _ _=>Ai 3 c d fun n _=>BE EE 3 a (iq 1) fun o=>A4 [false,true,false] false false g 68 [n,b,o] d fun p q _ _=>Sy p q h i b a j k l
def S9 a c d b e f g h (i:List V->H->O):=
 Hm EE 3 a c fun j=>Ak j (AU 3 d a fun k=>Ai 3 k b fun l _=>RI b l e f g a h d c i) (Am [iq 0] b)
def Abx (a:List V) b c d (e:List V->H->O):=
 AC a fun f g=>AC g fun h i=>AC i fun j k=>AC k fun l m=>AC m fun n _=>S9 n l j b h c f d e
def SU b g (c:H) d e n h:=
 Af g b fun a _=>Ci a fun f=>BO (c.own.map (·.1)) [71311362] [d,e,a,f,iq 0] b fun i=>BQ n (fun j k l=>Abx k l h c j) [d,e,a,f,iq 0] i
def Su d e a b f g h i j n k:=
 Ac [] d e (Aa b false a (fun l=>Eh (Qw .not f) fun m=>l m a [] []) fun o c _ _=>AJ b bT o fun p=>Ak p (Am [iq 1] c) (Ab 2 g fun q=>SU c q h i j n k))
def Vb c d e a f g i j k l n:=
 Ac [] c d (Aa a false e (fun m=>Ab 1 f fun o=>m o e [] []) fun p b _ _=>Aa a false b (fun q=>Af p b fun r s=>q r b s []) fun t h u v=>Ac [(c,d)] u v (Aa a false h (fun w=>is0 g 92 [i,t] h w) fun x y z A=>Su z A y a x f j k l n g))
def SQ e f g h i j c d k l m o n:=
 Ac [(f,g),(h,[])] e [] (Ci i fun p=>CE EE 3 j p fun a=>Aa a false c (fun q=>Ab 0 d fun r=>q r c [] []) fun s b _ _=>Aa a false b (fun t=>Af s b fun u v=>t u b v []) fun w x y z=>Vb y z x a d k w l m o n)
def T5 a b g h c i j k n:=
 Ac [] a [] (is0 b 91 [h] g fun l d e f=>Ac [] e f (Ab 2 c fun m=>Af m d fun o p=>SQ p e f a o l d c b i j k n))
def TW c d a b e f g h n:=
 AJ c bT d fun i=>Ak i (Am [iq 5] a) (Ab 0 b fun j=>Af j a fun k l=>T5 l e a k b f g h n)
def Ty c a d f g h n:=
 AH c fun i=>Af i a fun j _=>KN EE 3 j (iq 3000) fun b=>Aa b false a (fun k=>k d a [] []) fun l e _ _=>Aa b false e (fun m=>KN EE 3 l (iq 120) fun o=>m o e [] []) fun p q _ _=>TW b p q f g h c d n
def S68 (d:Al) (n:Nat) (e a f:V) (b:H):O :=
 A7 71303168 e b fun g c _ _=>AH a fun h=>Af h c fun i _=>BE EE 3 i (iq 1) fun j=>AH a fun k=>Bv k j c fun l _ _=>Ty a l f g d b n
theorem AsY a n b c d e:Ax EE a ft.get n 68 [b,c,d] e=S68 a n b c d e:=by kernel_rfl
def KF (d:H) e a b c (f:List V->H->O):=
 BO (d.own.map (·.1)) [72357890] [a,b,c] e fun g=>f [a,b,c] g
def L8 b c d e f g h (i:List V->H->O):=
 is0 b 69 [d] c fun j a _ _=>Eh (Qw .not j) fun k=>Ak k (Am [bF] a) (BE EE 3 e (iq 1) fun l=>KF f a g h l i)
def K7 a b c f g h (i:List V->H->O):=
 AU 3 a b fun j=>Ai 3 j c fun k _=>nw0 72357890 c fun d l _ _=>Ah 3 d k l fun e _ _=>Ai 3 d e fun m _=>L8 f e m b g a h i
def LN (d:List V) a e f (g:List V->H->O):=
 AC d fun h i=>AC i fun b j=>AC j fun c _=>Hm EE 3 c b fun k=>Ak k (K7 h c a e f b g) (Am [bT] a)
def Ky e b (c:H) n f:=
 Ab 2 e fun g=>Af g b fun a _=>Ci a fun d=>BO (c.own.map (·.1)) [72357890] [a,d,iq 0] b fun h=>BQ n (fun i j k=>LN j k f c i) [a,d,iq 0] h
def Lb a b g c h i n j:=
 Aa b true a (fun k=>Af g a fun l m=>k l a m []) fun o d _ _=>Aa b true d (fun p=>Hm EE 3 o (iq 0) fun q=>p q d [] []) fun r e _ _=>Aa c false e (fun s=>AJ b r bF fun t=>s t e [] []) fun u f _ _=>AJ c bT u fun v=>Ak v (Am [bF] f) (Ky h f i n j)
def L4 d a b i n j:=
 Aa a false d (fun k=>Ab 0 b fun l=>k l d [] []) fun m c _ _=>Aa a false c (fun o=>Af m c fun p q=>o p c q []) fun r e _ _=>Aa a false e (fun s=>AS EE 3 r (iq 1) fun t=>s t e [] []) fun u f _ _=>Aa a false f (fun v=>v u f [] []) fun g h _ _=>Aa g true h (fun w=>Ab 1 b fun x=>w x h [] []) fun y z _ _=>Lb z g y a b i n j
def K4 c a d g h n i:=
 Aa a true c (fun j=>Ab 2 d fun k=>j k c [] []) fun l b _ _=>Aa a true b (fun m=>Af l b fun o p=>m o b p []) fun q e _ _=>Aa a true e (fun r=>Ci q fun s=>r s e [] []) fun t f _ _=>Aa a true f (fun u=>CE EE 3 g t fun v=>u v f [] []) fun w x _ _=>AJ a w bF fun y=>L4 x y d h n i
def S69 (a:Al) (n:Nat) (h:V) (b:H):O :=
 A7 72351744 h b fun c d _ _=>Ab 0 c fun i=>Af i d fun j _=>is0 a 93 [j] d fun e f _ _=>Yf EE 3 e (iq 0) fun g=>Aa g true f (fun k=>k e f [] []) fun l m _ _=>K4 m g c l b n a
theorem At8 a n b c:Ax EE a ft.get n 69 [b] c=S69 a n b c:=by kernel_rfl
def S0 a b c:=
 AH a fun d=>Ab 4 d fun e=>Bv e c b fun f _ _=>Am [a] f
def Sv c d a b:=
 BI [.fv (.nilf)] [(0,1,c)] fun e=>Ay (Ch EE 98 a (iq 30) e) 73402389 d fun _ f _ _=>Ay (val (Db (.func 98) [b] [])) 73402391 f fun g h _ _=>BI [.fv (.nilf)] [(0,1,g)] fun i=>Ay (Ch EE 98 a (iq 19) i) 73402393 h fun _ j _ _=>S0 b j a
def R8 c a d b:=
 Ay (Ch EE 98 a (iq 9) d) 73402381 c fun _ e _ _=>Ay (val (Db (.func 96) [b] [])) 73402383 e fun f g _ _=>BI [.fv (.nilf)] [(0,1,f)] fun h=>Ay (Ch EE 98 a (iq 13) h) 73402385 g fun _ i _ _=>Ay (val (Db (.func 97) [b] [])) 73402387 i fun j k _ _=>Sv j k a b
def XG c a b:=
 Ay (val (Db (.func 95) [a] [])) 73402375 c fun d e _ _=>BI [.fv (.nilf)] [(0,1,d)] fun f=>Ay (Ch EE 98 b (iq 8) f) 73402377 e fun _ g _ _=>Ay (val (Db (.func 95) [a] [])) 73402379 g fun h i _ _=>BI [.fv (.nilf)] [(0,1,h)] fun j=>R8 i b j a
def S70 (k:Al) (n:Nat) (c:H):O :=
 BI [iq 0,iq 0,iq 0,iq 0,.dead] [(0,1,iq 100000),(1,1,iq 5000000)] fun d=>A7 73401345 d c fun a e _ _=>Ay (Hi 73402369) 73402369 e fun b f _ _=>Ay (val (Db (.func 94) [a] [])) 73402371 f fun g h _ _=>BI [.fv (.nilf)] [(0,1,g)] fun i=>Ay (Ch EE 98 b (iq 5) i) 73402373 h fun _ j _ _=>XG j a b
theorem Arf a n b:Ax EE a ft.get n 70 [] b=S70 a n b:=by kernel_rfl
def Nh b a c d:=
 Ab 1 b fun e=>Af e a fun f _=>is0 c 100 [d,f] a fun g h _ _=>Am [g] h
def Od h (i:H) j a b c d e f (k:List V->H->O):=
 BE EE 3 h (iq 1) fun g=>BO (i.own.map (·.1)) [74458115] [a,b,c,d,e,f,g] j fun l=>k [a,b,c,d,e,f,g] l
def Oa a b c d e f g h (i:H->O):=
 A4 [true,false,false] false false a 71 [c,d,e] b fun j k l m=>Ac [(f,[])] l m (AU 1 g h fun n=>Bv n j k fun o p q=>Ac [] p q (i o))
def Nz c a d e f g h (i:H->O):=
 Ab 2 c fun j=>Af j a fun k b=>Ac [] b [] (Ai 3 d a fun l m=>Ac [(b,[])] m [] (Oa e a f g l b k h i))
def Om a f b c g h i j (d:H->O):=
 Af f a fun k _=>is0 b 101 [k,c] a fun l e _ _=>AS EE 3 l (iq 0) fun m=>Ak m (AH g fun n=>Nz n e h b i j c d) (d e)
def Ni d a b e f g h i (j:H->O):=
 AU 3 d a fun k=>Ai 3 k b fun l _=>nw0 74458115 b fun c m _ _=>Ah 3 c l m fun n _ _=>Ab 0 e fun o=>Om n o f a g c h i j
def Nq c a b d e:=
 Ab 3 c fun f=>Af f a fun g _=>CE EE 36 g (iq 0) fun h=>Ak h (Am [b] a) (A4 [true,false] false false d 102 [e,b] a fun i j _ _=>Am [i] j)
def NC (j:List V) k a d e b f (l:List V->H->O) g h:=
 AC j fun i m=>AC m fun c _=>Hm EE 3 c i fun n=>Ak n ((fun (o:H->O)=>Ni f c g e h b a d o) fun p=>Od c k p a d e b f i l) (AH a fun q=>Nq q g b h a)
def AbQ (a:List V) b (c:List V->H->O) d e:=
 AC a fun f g=>AC g fun h i=>AC i fun j k=>AC k fun l m=>AC m fun n o=>NC o b f h j l n c d e
def Nk a (b:H) h c d e f n i:=
 Ci a fun g=>BO (b.own.map (·.1)) [74458115] [c,d,e,f,a,g,iq 0] h fun j=>BQ n (fun k l m=>AbQ l b k m i) [c,d,e,f,a,g,iq 0] j
def NU d a b c e f g n h:=
 CE EE 36 d (iq 0) fun i=>Ak i (Am [b] a) (Ab 2 c fun j=>Af j a fun k _=>Nk k e a f g c b n h)
def Nn c d a e f g n h:=
 A7 74453003 d c fun i b j k=>Ac [] j k (AH a fun l=>Ab 3 l fun m=>Af m b fun o _=>NU o b i e f a g n h)
def NS i a b c d j k l e m o n p:=
 Ay (B6 EE 74452999 127 a a) 74452999 i fun q f g h=>Ac [(b,[]),(c,[])] g h (Ai 3 d f fun r s=>Ac [(g,h),(j,[]),(b,[]),(c,[])] s [] (BI [iq 0,iq 0,.nils,iq 0,iq 0,.nils,.fv (.nilp)] [(0,1,k),(1,1,l),(2,1,q),(3,3,r),(6,1,e)] fun t=>Nn f t m d o e n p))
def Ot a b c d f g h i j n k:=
 Ac [(b,[])] a [] (Ab 2 c fun l=>Af l d fun m e=>Ac [(a,[]),(b,[])] e [] (Ci m fun o=>NS d o a b c e f g h i j n k))
def NZ a b d e f n g:=
 Ab 0 a fun h=>Af h b fun i c=>Ac [] c [] (Ab 1 a fun j=>Af j b fun k l=>Ot l c a b i k d e f n g)
def S71 (a:Al) (n:Nat) (d e g:V) (f:H):O :=
 A7 74448896 g f fun b h _ _=>A4 [true] false false a 99 [d] h fun _ c _ _=>Ab 0 b fun i=>Af i c fun j _=>AS EE 3 j (iq 1) fun k=>Ak k (Nh b c a e) (NZ b c e d f n a)
theorem Ari a n b c d e:Ax EE a ft.get n 71 [b,c,d] e=S71 a n b c d e:=by kernel_rfl
def Eb a b:=
 As true 3 b a fun c=>Am [c] a
def Ee c a d:=
 Ah 3 a d c fun b _ _=>As true 3 a b fun e=>Am [e] b
def DL b a c d:=
 AH b fun e=>Ab 1 e fun f=>Af f a fun g _=>Bj EE 3 c g fun h=>BI [iq 0,iq 0,.nils] [(0,1,iq 1),(1,1,h)] fun i=>Ee a d i
def DV c a:=
 BI [iq 0,iq 0,.nils] [] fun d=>Ah 3 a d c fun b _ _=>As true 3 a b fun e=>Am [e] b
def Ef i (j:H) k a b c d e f g (l:List V->H->O):=
 BE EE 3 i (iq 1) fun h=>BO (j.own.map (·.1)) [75512833,75516934] [a,b,c,d,e,f,g,h] k fun m=>l [a,b,c,d,e,f,g,h] m
def Ec a e b f g c h d i j k l m n (o:List V->H->O):=
 BE EE 3 a e fun p=>BE EE 3 b (iq 1) fun q=>A4 [true,false,false,false] false false f 72 [c,h,p,q] g fun r s _ _=>AU 3 d i fun t=>Ah 3 t r s fun u _ _=>Ef j k u c l a b m d n o
def CO b a c d e f g h i j k l m n (o:List V->H->O):=
 AH b fun p=>Ab 3 p fun q=>Af q a fun r _=>CE EE 36 r (iq 0) fun s=>Ak s (DV a c) (Ec d e f g a b h i j k l m c n o)
def D5 n (o:H) p a b c d e f g h i j k l (q:List V->H->O):=
 BE EE 3 n (iq 1) fun m=>BO (o.own.map (·.1)) [75516934] [a,b,c,d,e,f,g,h,i,j,k,l,m] p fun r=>q [a,b,c,d,e,f,g,h,i,j,k,l,m] r
def D3 b a e c f g h i j k l m n o p (q:List V->H->O):=
 BE EE 3 b a fun r=>BI [iq 0,iq 0,.nils,iq 0,iq 0,.nils,.fv (.nilp)] [(0,1,iq 1),(1,1,r)] fun d=>fzS (LU true 75516934 d) 75516934 d e fun s t _ _=>AU 1 c a fun u=>Bv u s t fun v _ _=>D5 a f v g h b i j k l m c n o p q
def DW d e a b c f (g:V->V->V->V->V->V->V->V->V->V->V->H->O) h i j k l m n:=
 A4 [true,false,false,false] false false d 103 [a,b,c,f] e fun o p _ _=>g a b h i j k c o l m n p
def D8 (o:List V) a b c p d e f g h i j k (q:List V->H->O) r (s:V->V->V->V->V->V->V->V->V->V->V->H->O):=
 AC o fun l t=>AC t fun m u=>AC u fun n _=>Hm EE 3 n m fun v=>Ak v (D3 a n b c p d e f g h i j k l m q) (DW r b d e i c s a f g h j k l)
def DM (a:List V) b c d e f g h (i:List V->H->O) j (k:V->V->V->V->V->V->V->V->V->V->V->H->O):=
 AC a fun l m=>AC m fun n o=>AC o fun p q=>AC q fun r s=>AC s fun t u=>D8 u b c r d e f g h l n p t i j k
def FF (a:List V) b c (d:List V->H->O) e (f:V->V->V->V->V->V->V->V->V->V->V->H->O):=
 AC a fun g h=>AC h fun i j=>AC j fun k l=>AC l fun m n=>AC n fun o p=>DM p k b c g i m o d e f
def Dp (b:H) m c d e f g h a i j k l n o (p:V->V->V->V->V->V->V->V->V->V->V->H->O):=
 BO (b.own.map (·.1)) [75516934] [c,d,e,f,g,h,a,i,j,k,a,l,iq 0] m fun q=>BQ n (fun r s t=>FF s t b r o p) [c,d,e,f,g,h,a,i,j,k,a,l,iq 0] q
def Ed m c a o d e f g h i b j n p (k:V->V->V->V->V->V->V->V->V->V->V->H->O) q:=
 Ak m (Ay (B6 EE 75512833 127 a a) 75512833 c fun l r _ _=>Ci l fun s=>Dp o r d e f g h i b a l j s n p k) (k d e f g h i b q a j b c)
def DS g b c a h i d e (j:List V->H->O) k l m o p q r n s:=
 Ac [(b,[]),(c,[])] g [] (is0 a 101 [i,d] h fun f t u v=>Ac [(b,[]),(c,[])] u v ((fun (w:V->V->V->V->V->V->V->V->V->V->V->H->O)=>KN EE 3 f (iq 0) fun x=>Ed x t f e k l m o p q d r n a w s) fun y z A B C D E F G I J K=>CO y K C A G B a F D E J e z I j))
def Dn a d b e f g h (i:List V->H->O) j k l m o p n:=
 Af d a fun q c=>Ac [] c [] (AH b fun r=>Ab 0 r fun s=>Af s a fun t u=>DS u c e f a t g h i j b k l m o p n q)
def Ds a b c e f (g:List V->H->O) h i j k l m n:=
 AH a fun o=>Ab 2 o fun p=>Af p b fun q d=>Ac [] d [] (AU 1 q c fun r=>Dn b r a d e c f g h i j k l m n)
def Ea b c a d:=
 Ac [] b c (As true 3 d a fun e=>Am [e] a)
def DQ c a d e f b:=
 Ab 1 c fun g=>Af g a fun h i=>Ac [(d,[])] i [] (BI [iq 0,iq 0,.nils] [(0,1,e),(1,1,h),(2,1,f)] fun j=>Ah 3 b j a fun k l m=>Ea l m k b)
def DF a b d e:=
 AH a fun f=>Ab 0 f fun g=>Af g b fun h c=>Ac [] c [] (AH a fun i=>DQ i b c h d e)
def Dv (g:List V) a b h i (j:List V->H->O) k l m c n:=
 AC g fun d o=>AC o fun e p=>AC p fun f _=>Hm EE 3 f e fun q=>Ak q (Ds a b f h i j k l m c d e n) (DF a b d c)
def Fw (a:List V) b c d (e:List V->H->O) n:=
 AC a fun f g=>AC g fun h i=>AC i fun j k=>AC k fun l m=>AC m fun o p=>Dv p h b c d e f j l o n
def Dz (a:H) i b c d e f g h n j:=
 BO (a.own.map (·.1)) [75512833,75516934] [b,c,d,e,f,g,h,iq 0] i fun k=>BQ n (fun l m o=>Fw m o j a l n) [b,c,d,e,f,g,h,iq 0] k
def DX d a e f g h i j n k:=
 Ab 2 d fun l=>Af l a fun m _=>Ci m fun b=>Ay (B6 EE 75506693 28 b b) 75506693 a fun c o _ _=>Ci c fun p=>Dz e o f g h i j c p n k
def Dw a e c b d f g h n i:=
 Af e a fun j _=>AS EE 3 j (iq 1) fun k=>Ak k (Bj EE 3 c (iq 1) fun l=>DL b a l d) (AH b fun m=>DX m a f g b c h d n i)
def DG d b a c e f g h n i:=
 Ak d (BI [iq 0,iq 0,.nils] [] fun j=>Ah 3 a j b fun k _ _=>Eb k a) (AH c fun l=>Ab 0 l fun m=>Dw b m e c a f g h n i)
def Fu b d a e f g h i n:=
 A4 [true] false false b 99 [a] d fun _ c _ _=>AH a fun j=>Ab 3 j fun k=>Af k c fun l _=>CE EE 36 l (iq 0) fun m=>DG m c e f g h a i n b
def DR a b (c:H->O):=
 Ab 3 a fun d=>Bv d (iq 5) b fun e _ _=>c e
def DY a b e f g (c:H->O):=
 Aa b true a (fun h=>AJ e bT f fun i=>h i a [] []) fun j d _ _=>AJ b j bF fun k=>Ak k (AH g fun l=>DR l d c) (c d)
def D6 b a h i j (k:H->O):=
 Aa a true b (fun l=>Af h b fun m n=>l m b n []) fun o d _ _=>Aa a true d (fun p=>KN EE 3 o (iq 3000) fun q=>p q d [] []) fun r e _ _=>Aa a true e (fun s=>s r e [] []) fun c f _ _=>Aa c false f (fun t=>t i f [] []) fun u g _ _=>Aa c false g (fun v=>KN EE 3 u (iq 120) fun w=>v w g [] []) fun x y _ _=>DY y a c x j k
def D7 b f c g (h:H->O):=
 Af f b fun i _=>AS EE 36 i (iq 0) fun a=>Aa a true b (fun j=>j c b [] []) fun k d _ _=>Aa a true d (fun l=>AH k fun m=>l m d [] []) fun n e _ _=>Aa a true e (fun o=>Ab 2 n fun p=>o p e [] []) fun q r _ _=>D6 r a q g c h
def Dr a b c d (e:H->O):=
 AH a fun f=>Ab 2 f fun g=>Bv g c b fun h _ _=>AH a fun i=>Ab 3 i fun j=>D7 h j a d e
def S72 (e:Al) (n:Nat) (a f g b:V) (c:H):O :=
 nw0 75497472 c fun h d _ _=>(fun (i:H->O)=>AH a fun j=>Ab 2 j fun k=>Af k d fun l _=>BE EE 3 l (iq 1) fun m=>Dr a d m b i) fun o=>Fu e o a h f g c b n
theorem As4 a n b c d e f:Ax EE a ft.get n 72 [b,c,d,e] f=S72 a n b c d e f:=by kernel_rfl
def S73 (a:Al) (n:Nat) (b c:V) (d:H):O :=
 is0 a 104 [b,c] d fun e f _ _=>Yf EE 3 e (iq 0) fun g=>Am [g] f
theorem ArW a n b c d:Ax EE a ft.get n 73 [b,c] d=S73 a n b c d:=by kernel_rfl
def S74 (b:Al) (n:Nat) (c d:V) (e:H):O :=
 A7 77594624 c e fun f a _ _=>Af d a fun g _=>Ai 3 f a fun h _=>FW EE b g [h] a fun i j _ _=>Eh (Qw .not i) fun k=>Am [k] j
theorem Atv a n b c d:Ax EE a ft.get n 74 [b,c] d=S74 a n b c d:=by kernel_rfl
def X0 a d b:=
 Aq 0 a fun e=>Aq 1 a fun f=>Ah 3 b e d fun c _ _=>As true 3 b c fun g=>Am [g,f] c
def Ym d e f a:=
 is0 d 105 [f] e fun b g _ _=>Aq 0 b fun h=>Aq 1 b fun i=>Ah 3 a h g fun c _ _=>As true 3 a c fun j=>Am [j,i] c
def Xm e f b c a d g:=
 Ac [] e f (CE EE 3 b (iq 0) fun h=>Ak h (is0 c 44 [b] a fun i j _ _=>X0 i j d) (Ai 3 g a fun k _=>Ym c a k d))
def YY a c d e f g h i j k:=
 Aq 0 a fun l=>Aq 1 a fun m=>nw0 81789960 c fun b n o p=>Ac [(d,e),(f,[]),(g,h),(i,[])] o p (Ah 3 b l n fun q r s=>Xm r s m j q k b)
def Xu a b c i d e j k:=
 Ac [] a b (Ai 3 i c fun l f=>Ac [(a,b),(d,[])] f [] (is0 e 20 [j,iq 0,l] c fun m n g h=>Ac [] g h (YY m n g h f a b d e k)))
def S78 (a:Al) (n:Nat) (d e f:V) (g:H):O :=
 A7 81788928 e g fun h i _ _=>A7 81788929 f i fun j k _ _=>nw0 81788930 k fun l b _ _=>Ai 3 h b fun m c=>Ac [] c [] (is0 a 79 [d,iq 0,m] b fun o p q r=>Xu q r p j c a o l)
theorem ArF a n b c d e:Ax EE a ft.get n 78 [b,c,d] e=S78 a n b c d e:=by kernel_rfl
def Xh a b c d:=
 Ac [] a b (Am [d] c)
def Yh e a b c d f g h i:=
 Ac [(a,b),(c,d)] e [] (BI [iq 0,iq 0,iq 0,.nils] [(0,1,f),(1,3,g)] fun j=>Ay (Aj EE 27 1 [(0,j)]) 82838534 h fun k l m n=>Ac [(a,b),(c,d)] m n (Ay (AT EE 82838535 false .append [27,27] [i,k]) 82838535 l fun o p q r=>Xh q r p o))
def S79 (r:Al) (n:Nat) (f g h:V) (i:H):O :=
 A7 82837504 h i fun j k _ _=>Ay (Aj EE 27 0 []) 82838528 k fun l m a b=>Ac [] a b (Ay (AT EE 82838530 false .append [27,27] [l,f]) 82838530 m fun o c d e=>Ac [] d e (Ai 3 j c fun p q=>Yh q d e a b g p c o))
theorem AsW a n b c d e:Ax EE a ft.get n 79 [b,c,d] e=S79 a n b c d e:=by kernel_rfl
def Ya c d a e:=
 Aq 1 c fun f=>Ah 3 a e d fun b _ _=>As true 3 a b fun g=>Am [g,f] b
def Xd a b:=
 As true 3 b a fun c=>Am [c,iq 0] a
def XZ c e a b f:=
 CE EE 3 c (iq 0) fun g=>Ak g (is0 e 44 [c] a fun d h _ _=>Aq 0 d fun i=>Ya d h b i) (Ai 3 f a fun j _=>Ah 3 b j a fun k _ _=>Xd k b)
def Yp b a g h (c:V->H->O) i:=
 Aa a true b (fun j=>Af g b fun k l=>j k b l []) fun m d _ _=>Aa a true d (fun n=>n h d [] []) fun o e _ _=>Aa a true e (fun p=>CE EE 3 m o fun q=>p q e [] []) fun r f _ _=>AJ a r bF fun s=>Ak s (c (iq 12) f) (c i f)
def XU e f g h b i:=
 nw0 83887111 e fun a j _ _=>Ah 3 a f j fun c _ _=>(fun (k:V->H->O)=>AS EE 3 b (iq 0) fun d=>Aa d true c (fun l=>Ab 0 a fun m=>l m c [] []) fun n o _ _=>Yp o d n i k b) fun p q=>XZ p g q h a
def S80 (a:Al) (n:Nat) (d e f g:V) (h:H):O :=
 A7 83886080 f h fun i j _ _=>nw0 83886081 j fun k b _ _=>Ai 3 i b fun l _=>is0 a 20 [d,e,l] b fun c m _ _=>Aq 0 c fun o=>Aq 1 c fun p=>XU m o a k p g
theorem AsQ a n b c d e f:Ax EE a ft.get n 80 [b,c,d,e] f=S80 a n b c d e f:=by kernel_rfl
def ZF c d a e:=
 Aq 1 c fun f=>Ah 3 a e d fun b _ _=>As true 3 a b fun g=>Am [g,f] b
def ZJ d a b:=
 AU 3 d (iq 1) fun e=>Ai 3 e a fun f _=>Ah 3 b f a fun c _ _=>As true 3 b c fun g=>Am [g,iq 0] c
def Agz b e a c f:=
 CE EE 3 b (iq 0) fun g=>Ak g (is0 e 44 [b] a fun d h _ _=>Aq 0 d fun i=>ZF d h c i) (Ab 2 f fun j=>Af j a fun k _=>ZJ k a c)
def AaV b a c d e f (g:V->H->O):=
 AU 3 b (iq 0) fun h=>Ai 3 h a fun i j=>Ac [(c,[])] j [] (is0 d 48 [e,iq 0,f,i] a fun k l m n=>Ac [] m n (g k l))
def AcX a c d e f (g:V->H->O):=
 Ai 3 c a fun h b=>Ac [] b [] (Ab 2 d fun i=>Af i a fun j k=>Ac [(b,[])] k [] (AaV j a b e f h g))
def Aer a f b c g d h:=
 (fun (e:V->H->O)=>AS EE 3 c (iq 0) fun i=>Ak i (AU 3 g (iq 1) fun j=>AcX d j b a h e) (e c d)) fun k l=>Agz k a l f b
def Zn a e b f g h:=
 is0 a 80 [b,iq 0,f,iq 16] e fun c i _ _=>Aq 0 c fun j=>Aq 1 c fun k=>nw0 84938760 i fun d l _ _=>Ah 3 d j l fun m _ _=>Aer a g d k h m b
def AhZ a d b:=
 Aq 0 a fun e=>Aq 1 a fun f=>Ah 3 b e d fun c _ _=>As true 3 b c fun g=>Am [g,f] c
def Aeo a d b:=
 Aq 0 a fun e=>Aq 1 a fun f=>Ah 3 b e d fun c _ _=>As true 3 b c fun g=>Am [g,f] c
def Aep c d a e:=
 Aq 1 c fun f=>Ah 3 a e d fun b _ _=>As true 3 a b fun g=>Am [g,f] b
def AeN a d e b f:=
 Ai 3 d a fun g _=>Ay (Aj EE 28 2 [(0,e),(1,g)]) 84952066 a fun h i _ _=>is0 b 24 [iq 17,h] i fun j k _ _=>is0 b 34 [j] k fun c l _ _=>Aq 0 c fun m=>Aep c l f m
def Agn f b g c d e h:=
 Ah 3 b g f fun a _ _=>CE EE 3 c (iq 0) fun i=>Ak i (is0 d 44 [c] a fun j k _ _=>Aeo j k e) (Ai 3 h a fun l _=>AeN a b l d e)
def AcF a d b e f g:=
 Ai 3 d a fun h _=>is0 b 20 [e,iq 0,h] a fun c i _ _=>Aq 0 c fun j=>Aq 1 c fun k=>nw0 84949000 i fun l m _ _=>Agn m l j k b f g
def AeA f g a b c h i:=
 nw0 84945928 f fun d j _ _=>Ah 3 d g j fun e _ _=>CE EE 3 a (iq 0) fun k=>Ak k (is0 b 44 [a] e fun l m _ _=>AhZ l m c) (AU 3 h (iq 1) fun n=>AcF e n b i c d)
def AeZ a b c d f:=
 AU 3 a (iq 0) fun g=>Ai 3 g b fun h _=>is0 c 20 [d,iq 0,h] b fun e i _ _=>Aq 0 e fun j=>Aq 1 e fun k=>AeA i j k c f a d
def Ahp c d a e:=
 Aq 1 c fun f=>Ah 3 a e d fun b _ _=>As true 3 a b fun g=>Am [g,f] b
def AeQ c d a e:=
 Aq 1 c fun f=>Ah 3 a e d fun b _ _=>As true 3 a b fun g=>Am [g,f] b
def Aap a b:=
 As true 3 b a fun c=>Am [c,iq 0] a
def AaD c e a b f:=
 CE EE 3 c (iq 0) fun g=>Ak g (is0 e 44 [c] a fun d h _ _=>Aq 0 d fun i=>AeQ d h b i) (Ai 3 f a fun j _=>Ah 3 b j a fun k _ _=>Aap k b)
def Ah4 a b (c:V->H->O) d e:=
 Ac [] a b (c e d)
def AcC a c d e f (g:V->H->O):=
 Ai 3 c a fun h b=>Ac [] b [] (Ai 3 d a fun i j=>Ac [(b,[])] j [] (is0 e 48 [f,iq 0,h,i] a fun k l m n=>Ah4 m n g l k))
def Ze a f b c g d h:=
 (fun (e:V->H->O)=>AS EE 3 c (iq 0) fun i=>Ak i (AU 3 g (iq 2) fun j=>AcC d j b a h e) (e c d)) fun k l=>AaD k a l f b
def AeL a e b f g h:=
 is0 a 20 [b,iq 0,f] e fun c i _ _=>Aq 0 c fun j=>Aq 1 c fun k=>nw0 84957192 i fun d l _ _=>Ah 3 d j l fun m _ _=>Ze a g d k h m b
def Aby b c a d e g:=
 CE EE 3 b (iq 0) fun h=>Ak h (is0 c 44 [b] a fun f i _ _=>Aq 0 f fun j=>Ahp f i d j) (AU 3 e (iq 1) fun k=>Ai 3 k a fun l _=>AeL c a g l d e)
def AdW b a d c e f g:=
 Ac [] b [] (is0 a 24 [iq 15,.nils] d fun h i j k=>Ac [(b,[])] j k (is0 a 48 [c,iq 0,e,h] i fun l m n o=>Ac [] n o (Aby l a m f g c)))
def AcM c d a e:=
 Aq 1 c fun f=>Ah 3 a e d fun b _ _=>As true 3 a b fun g=>Am [g,f] b
def Ady c a d:=
 Ah 3 a d c fun b _ _=>As true 3 a b fun e=>Am [e,iq 0] b
def AeB b a c d:=
 Ab 0 b fun e=>Af e a fun f _=>Bj EE 3 f (iq 23) fun g=>AU 3 c g fun h=>Ai 3 h a fun i _=>Ady a d i
def AeC b e a c f g:=
 CE EE 3 b (iq 0) fun h=>Ak h (is0 e 44 [b] a fun d i _ _=>Aq 0 d fun j=>AcM d i c j) (Ab 2 f fun k=>Af k a fun l _=>AeB g a l c)
def AdQ a d e f g h:=
 is0 a 80 [e,iq 0,f,iq 17] d fun b i _ _=>Aq 0 b fun j=>Aq 1 b fun k=>nw0 84963336 i fun c l _ _=>Ah 3 c j l fun m _ _=>AeC k a m g c h
def AcN f b a c d e g:=
 AS EE 3 f (iq 27) fun h=>Ak h (AU 3 b (iq 0) fun i=>Ai 3 i a fun j k=>AdW k c a d j e b) (AU 3 b (iq 0) fun l=>Ai 3 l a fun m _=>AdQ c a d m e g)
def AeH c a b d e f g:=
 AS EE 3 c (iq 21) fun h=>Ak h (AU 3 a (iq 0) fun i=>Ai 3 i b fun j _=>Zn d b e j f a) (AS EE 3 c (iq 22) fun k=>Ak k (AeZ a b d e f) (AcN c a b d e f g))
def S81 (c:Al) (n:Nat) (d e:V) (f:H):O :=
 A7 84934656 e f fun a g _ _=>nw0 84934657 g fun h b _ _=>Ab 2 a fun i=>Af i b fun j _=>Ab 0 a fun k=>Af k b fun l _=>AeH l j b c d h a
theorem AtG a n b c d:Ax EE a ft.get n 81 [b,c] d=S81 a n b c d:=by kernel_rfl
def UM a b c d e f:=
 Ac [] a b (is0 c 17 [e,f] d fun g h i j=>Ac [] i j (Am [g,iq 0] h))
def UR a e f g h:=
 is0 a 86 [f] e fun i b c d=>Ac [] c d (Ai 3 g b fun j k=>Ac [(c,d),(h,[])] k [] (is0 a 86 [j] b fun l m n o=>UM n o a m i l))
def Ti b a d e f:=
 CE EE 3 b (iq 0) fun g=>Ak g (Am [bF,b] a) (Ai 3 d a fun h c=>Ac [] c [] (UR e a h f c))
def RZ a d e f:=
 is0 a 34 [e] d fun b g _ _=>Aq 0 b fun h=>Aq 1 b fun i=>nw0 85987333 g fun c j _ _=>Ah 3 c h j fun k _ _=>Ti i k f a c
def Vk d e b f g:=
 nw0 85984261 d fun c h _ _=>Ah 3 c e h fun a _ _=>CE EE 3 b (iq 0) fun i=>Ak i (Am [bF,b] a) (Ai 3 f a fun j _=>RZ g a j c)
def S82 (a:Al) (n:Nat) (d e:V) (f:H):O :=
 A7 85983232 d f fun g h _ _=>A7 85983233 e h fun i b _ _=>Ai 3 g b fun j _=>is0 a 34 [j] b fun c k _ _=>Aq 0 c fun l=>Aq 1 c fun m=>Vk k l m i a
theorem Aua a n b c d:Ax EE a ft.get n 82 [b,c] d=S82 a n b c d:=by kernel_rfl
def X7 a b:=
 Af b a fun c _=>Am [c,iq 0] a
def Xg a b c:=
 Af b a fun d _=>CE EE 3 d (iq 2) fun e=>Ak e (Am [iq 0,iq 12] a) (Ab 1 c fun f=>X7 a f)
def YZ d a e b:=
 Ah 3 a e d fun c _ _=>CE EE 3 b (iq 0) fun f=>Ak f (Am [iq 0,b] c) (Ab 0 a fun g=>Xg c g a)
def S83 (c:Al) (n:Nat) (d e:V) (f:H):O :=
 A7 87031808 e f fun g a _ _=>Ai 3 g a fun h _=>is0 c 20 [d,iq 1,h] a fun b i _ _=>Aq 0 b fun j=>Aq 1 b fun k=>nw0 87032838 i fun l m _ _=>YZ m l j k
theorem ArB a n b c d:Ax EE a ft.get n 83 [b,c] d=S83 a n b c d:=by kernel_rfl
def AbJ d e f a:=
 is0 d 44 [f] e fun b g _ _=>Aq 0 b fun h=>Aq 1 b fun i=>Ah 3 a h g fun c _ _=>As true 3 a c fun j=>Am [j,i] c
def Aa0 c d a e:=
 Aq 1 c fun f=>Ah 3 a e d fun b _ _=>As true 3 a b fun g=>Am [g,f] b
def Ac2 c d a e:=
 Aq 1 c fun f=>Ah 3 a e d fun b _ _=>As true 3 a b fun g=>Am [g,f] b
def Aii a b:=
 As true 3 b a fun c=>Am [c,iq 0] a
def Ad8 c e a b f:=
 CE EE 3 c (iq 0) fun g=>Ak g (is0 e 44 [c] a fun d h _ _=>Aq 0 d fun i=>Ac2 d h b i) (Ai 3 f a fun j _=>Ah 3 b j a fun k _ _=>Aii k b)
def AeV a b c d e (f:V->H->O):=
 is0 a 48 [c,iq 1,d,e] b fun g h i j=>Ac [] i j (f g h)
def AeM e a f g b c d h i j (k:V->H->O):=
 AU 3 e (iq 1) fun l=>Ai 3 l a fun m n=>Ac [(f,[]),(g,[]),(b,[]),(c,[])] n [] (is0 d 67 [h,iq 0,m] a fun o p q r=>Ac [(b,[]),(c,[])] q r (AeV d p i j o k))
def AaK a f b c g e h i j (k:V->H->O):=
 Ai 3 f a fun l d=>Ac [(b,[]),(c,[])] d [] (Ab 2 g fun m=>Af m a fun n o=>Ac [(d,[]),(e,[]),(b,[]),(c,[])] o [] (AeM n a d e b c h l i j k))
def Aa8 a e b c f g h i (j:V->H->O):=
 Ac [] a [] (Ab 2 e fun k=>Af k b fun l d=>Ac [(a,[]),(c,[])] d [] (AU 3 l (iq 1) fun m=>AaK b m a c f d g h i j))
def Ace b a d e f (g:V->H->O):=
 Ab 2 b fun h=>Af h a fun i c=>Ac [] c [] (AU 3 i (iq 2) fun j=>Ai 3 j a fun k l=>Aa8 l d a c b e f k g)
def Acr a g b h i j c k:=
 is0 a 48 [b,iq 1,h,i] g fun d e l m=>Ac [] l m ((fun (f:V->H->O)=>AS EE 3 d (iq 0) fun n=>Ak n (Ace k e c a b f) (f d e)) fun o p=>Ad8 o a p j c)
def Agl a d b c e f g h i j:=
 Af d a fun k l=>Ac [(b,[]),(c,[])] l [] (AU 3 k (iq 0) fun m=>Ai 3 m a fun n o=>Ac [(b,[]),(c,[])] o [] (Acr e a f g n h i j))
def AbM a e b c f g h i:=
 Ac [] a [] (AU 3 e (iq 1) fun j=>Ai 3 j b fun k d=>Ac [] d [] (Ab 2 c fun l=>Agl b l d a f g k h c i))
def Aa4 b c a d e g h:=
 CE EE 3 b (iq 0) fun i=>Ak i (is0 c 44 [b] a fun f j _ _=>Aq 0 f fun k=>Aa0 f j d k) (Ab 2 e fun l=>Af l a fun m n=>AbM n m a g c h d e)
def Ahm c (a:V->H->O) b d:=
 Ak c (a (iq 12) b) (a d b)
def Aek c d f (g:V->H->O):=
 AS EE 3 c (iq 0) fun a=>Aa a true d (fun h=>Ab 0 f fun i=>h i d [] []) fun j b _ _=>Aa a true b (fun k=>Af j b fun l m=>k l b m []) fun n e _ _=>Aa a true e (fun o=>CE EE 3 n (iq 6) fun p=>o p e [] []) fun q r _ _=>AJ a q bF fun s=>Ahm s g r c
def AbY b c d e f g:=
 Aq 0 b fun h=>Aq 1 b fun i=>nw0 88084488 c fun a j _ _=>Ah 3 a h j fun k _ _=>(fun (l:V->H->O)=>Aek i k a l) fun m n=>Aa4 m d n e f a g
def AgK b a c d e:=
 Ab 2 b fun f=>Af f a fun g _=>AU 3 g (iq 0) fun h=>Ai 3 h a fun i _=>is0 c 34 [i] a fun j k _ _=>AbY j k c d b e
def AaM a g b h c i:=
 is0 a 83 [b,h] g fun d e _ _=>Aq 0 d fun _=>Aq 1 d fun f=>CE EE 3 f (iq 0) fun j=>Ak j (AbJ a e f c) (AgK i e a c b)
def S84 (c:Al) (n:Nat) (d e:V) (f:H):O :=
 A7 88080384 e f fun b g _ _=>nw0 88080385 g fun h a _ _=>Ab 2 b fun i=>Af i a fun j _=>AU 3 j (iq 0) fun k=>Ai 3 k a fun l _=>AaM c a d l h b
theorem AtH a n b c d:Ax EE a ft.get n 84 [b,c] d=S84 a n b c d:=by kernel_rfl
def AcD c d a e:=
 Aq 1 c fun f=>Ah 3 a e d fun b _ _=>As true 3 a b fun g=>Am [g,f] b
def Aaf a d b:=
 Aq 0 a fun e=>Aq 1 a fun f=>Ah 3 b e d fun c g h=>Ac [] g h (As true 3 b c fun i=>Am [i,f] c)
def Af6 b c a d e f g:=
 Ac [(c,[])] b [] (is0 a 67 [e,iq 0,f] d fun h i j k=>Ac [] j k (is0 a 34 [h] i fun l m n o=>Ac [] n o (Aaf l m g)))
def Aia c a b d e f:=
 Ab 2 c fun g=>Af g a fun h i=>Ac [(b,[])] i [] (AU 3 h (iq 3) fun j=>Ai 3 j a fun k l=>Af6 l b d a e k f)
def AbT b c a d g h:=
 CE EE 3 b (iq 0) fun i=>Ak i (is0 c 44 [b] a fun e j _ _=>Aq 0 e fun k=>AcD e j d k) (Ai 3 g a fun l f=>Ac [] f [] (Aia h a f c l d))
def Aec a b c d e f g (h:V->H->O):=
 Ai 3 b a fun i j=>Ac [(c,[]),(d,[])] j [] (is0 e 48 [f,iq 1,g,i] a fun k l m n=>Ac [] m n (h k l))
def ZQ a d e f g (h:V->H->O):=
 Af d a fun i b=>Ac [] b [] (AU 3 i (iq 3) fun j=>Ai 3 j a fun k c=>Ac [] c [] (Aec a e c b f g k h))
def Acc a f g b c d h i:=
 (fun (e:V->H->O)=>AS EE 3 c (iq 0) fun j=>Ak j (Ab 2 b fun k=>ZQ d k h a i e) (e c d)) fun l m=>AbT l a m f g b
def Aes a b c d e f g (h:V->H->O):=
 is0 a 106 [c] b fun i j k l=>Ac [(d,[]),(e,[])] k l (is0 a 48 [f,iq 1,g,i] j fun m n o p=>Ac [] o p (h m n))
def Abj j a c d e f g h k i l m (n:V->H->O):=
 AU 3 j (iq 2) fun o=>Ai 3 o a fun p b=>Ac [(c,d),(e,[]),(f,g),(h,[])] b [] (Ai 3 k a fun q r=>Ac [(b,[]),(i,[]),(c,d),(e,[]),(f,g),(h,[])] r [] (Aes l a q b i m p n))
def AcV c j k l m d e f g n (o:V->H->O):=
 is0 c 79 [k,iq 1,l] j fun p h a b=>Ac [] a b (Ab 2 m fun q=>Af q h fun r i=>Ac [(a,b),(d,[]),(e,f),(g,[])] i [] (Abj r h a b d e f g n i c p o))
def AhE a d h i j e k (l:V->H->O):=
 Ac [] a [] (is0 d 79 [i,iq 1,j] h fun m f b c=>Ac [] b c (Ai 3 e f fun n g=>Ac [(b,c),(a,[])] g [] (AcV d f m n k g b c a e l)))
def ZB b i c d e f g a:=
 (fun (h:V->H->O)=>AS EE 3 g (iq 0) fun j=>Ak j (Ai 3 e a fun k l=>AhE l b a f k c d h) (h g a)) fun m n=>Acc b i c d m n e f
def Zt a b c d e f g h i (j:V->H->O):=
 Ac [(c,[]),(d,[])] a b (is0 e 48 [g,iq 1,h,i] f fun k l m n=>Ac [] m n (j k l))
def Afg d f a b c g h (i:V->H->O):=
 Ai 3 f d fun j e=>Ac [(a,[]),(b,[])] e [] (is0 c 24 [iq 11,.nils] d fun k l m n=>Ac [(e,[]),(a,[]),(b,[])] m n (is0 c 67 [j,iq 0,k] l fun o p q r=>Zt q r a b c p g h o i))
def AdC a d e f g (h:V->H->O):=
 Af d a fun i b=>Ac [] b [] (AU 3 i (iq 1) fun j=>Ai 3 j a fun k c=>Ac [] c [] (Afg a e c b f g k h))
def ZT a h b c i d e f:=
 (fun (g:V->H->O)=>AS EE 3 e (iq 0) fun j=>Ak j (Ab 2 c fun k=>AdC f k b a d g) (g e f)) fun l m=>ZB a h b c i d l m
def Aic c d e f a g h i j k l m n:=
 Ac [(d,e),(f,[])] c [] (is0 a 83 [h,i] g fun b o p q=>Ac [] p q (Aq 0 b fun _=>Aq 1 b fun r=>ZT a j k l m n r o))
def AbO a b c d e j k:=
 Ai 3 b a fun l f=>Ac [] f [] (is0 c 79 [d,iq 1,l] a fun m g h i=>Ac [] h i (Ai 3 e g fun n o=>Aic o h i f c g m n j e k b d))
def Zf a c d e f g h:=
 Af c a fun i _=>AU 3 i (iq 0) fun j=>Ai 3 j a fun k _=>nw0 89131012 a fun b l _ _=>Ah 3 b k l fun m _ _=>AbO m d e f b g h
def S85 (a:Al) (n:Nat) (d e:V) (f:H):O :=
 A7 89128960 e f fun b g _ _=>nw0 89128961 g fun h i _ _=>is0 a 24 [iq 10,.nils] i fun j k _ _=>nw0 89129985 k fun c l _ _=>Ah 3 c j l fun m _ _=>Ab 2 b fun o=>Zf m o c a d h b
theorem Ar2 a n b c d:Ax EE a ft.get n 85 [b,c] d=S85 a n b c d:=by kernel_rfl
def RO a e f g (h:H) b c (i:List V->H->O):=
 Ab 2 a fun j=>Bv j f e fun k _ _=>BE EE 3 g (iq 1) fun d=>BO (h.own.map (·.1)) [90182662,90185732] [b,c,a,d] k fun l=>i [b,c,a,d] l
def T9 b a c d e f g (h:List V->H->O):=
 Ab 2 b fun i=>Af i a fun j _=>Ai 3 c a fun k _=>Ay (Aj EE 28 1 [(0,k)]) 90185731 a fun l m _ _=>Ay (AT EE 90185732 false .append [28,28] [j,l]) 90185732 m fun n o _ _=>RO b o n d e f g h
def So a b c (d:H->O):=
 Ah 3 b c a fun e _ _=>d e
def TF a b e f g h (c:H->O):=
 Aa b true a (fun i=>AJ e bT f fun j=>i j a [] []) fun k d _ _=>AJ b k bF fun l=>Ak l (is0 g 24 [iq 11,.nils] d fun m n _ _=>So n h m c) (c d)
def Sg d b h i j k (l:H->O):=
 Aa b true d (fun m=>AS EE 3 h (iq 4) fun n=>m n d [] []) fun o e _ _=>Aa b true e (fun p=>p o e [] []) fun a f _ _=>Aa a false f (fun q=>Ab 0 i fun r=>q r f [] []) fun s c _ _=>Aa a false c (fun t=>Af s c fun u v=>t u c v []) fun w g _ _=>Aa a false g (fun x=>AS EE 3 w (iq 7) fun y=>x y g [] []) fun z A _ _=>TF A b a z j k l
def ST g a h i e j b k (l:List V->H->O) m:=
 Ah 3 a h g fun f _ _=>(fun (n:H->O)=>AS EE 3 e (iq 0) fun c=>Aa c true f (fun o=>Ab 0 b fun p=>o p f [] []) fun q d _ _=>Aa c true d (fun r=>Af q d fun s t=>r s d t []) fun u v _ _=>Sg v c u b m a n) fun w=>T9 i w a e j b k l
def Us a d b c e f g h (i:List V->H->O):=
 Af d a fun j _=>AU 3 j b fun k=>Ai 3 k a fun l _=>is0 c 86 [l] a fun m n _ _=>nw0 90182662 n fun o p _ _=>ST p o m e b f g h i c
def Tu c d e f a:=
 is0 c 67 [e,iq 0,f] d fun g h i j=>Ac [] i j (Ah 3 a g h fun b k l=>Ac [] k l (As true 3 a b fun m=>Am [m] b))
def U3 d a b e f g:=
 AU 3 d (iq 0) fun h=>Ai 3 h a fun i c=>Ac [] c [] (is0 b 24 [iq 11,.nils] a fun j k l m=>Ac [(c,[]),(e,[]),(f,[])] l m (Tu b k i j g))
def UX a d b e f:=
 Ac [] a [] (AU 3 d (iq 1) fun g=>Ab 2 g fun h=>Af h b fun i c=>Ac [] c [] (U3 i b e c a f))
def SY a d b:=
 Ai 3 d a fun e _=>Ah 3 b e a fun c _ _=>As true 3 b c fun f=>Am [f] c
def Vd a b c:=
 Af b a fun d _=>AU 3 d (iq 1) fun e=>Ab 2 e fun f=>Af f a fun g _=>AU 3 g (iq 0) fun h=>SY a h c
def Ua c a d:=
 Ah 3 a d c fun b _ _=>As true 3 a b fun e=>Am [e] b
def TU b c f g h d e:=
 Aa c true b (fun i=>is0 f 17 [g,h] b i) fun j a k l=>Ac [] k l (AJ c j bF fun m=>Ak m (Ab 2 d fun n=>Vd a n e) (Ai 3 d a fun o _=>Ua a e o))
def US b a k d e f g h i l m n o:=
 Aa a true b (fun p=>Af k b fun q r=>p q b r []) fun s j t u=>Ac [(d,e),(f,g),(h,i)] t u (Aa a true j (fun v=>AU 3 s (iq 0) fun w=>v w j [] []) fun x c _ _=>Aa a true c (fun y=>Ai 3 x c fun z A=>y z c A []) fun B C D E=>Ac [(d,e),(f,g),(h,i)] D E (TU C a l m B n o))
def R7 c a d e f g h i j m n o:=
 Aa a true c (fun p=>Ab 2 d fun q=>p q c [] []) fun r b _ _=>Aa a true b (fun s=>Af r b fun t u=>s t b u []) fun v k w x=>Ac [(e,f),(g,h),(i,j)] w x (Aa a true k (fun y=>AU 3 v (iq 2) fun z=>y z k [] []) fun A l _ _=>Aa a true l (fun B=>Ab 2 A fun C=>B C l [] []) fun D E _ _=>US E a D e f g h i j m n d o)
def Ub b a i j k l m n:=
 Aa a true b (fun o=>Af i b fun p q=>o p b q []) fun r d e f=>Ac [] e f (Aa a true d (fun s=>AU 3 r (iq 0) fun t=>s t d [] []) fun u c _ _=>Aa a true c (fun v=>Ai 3 u c fun w x=>v w c x []) fun y z g h=>Ac [] g h (R7 z a j g h e f k l m y n))
def Sz c a d i j:=
 Aa a true c (fun k=>Ab 2 d fun l=>k l c [] []) fun m b _ _=>Aa a true b (fun n=>Af m b fun o p=>n o b p []) fun q e f g=>Ac [] f g (Aa a true e (fun r=>AU 3 q (iq 1) fun s=>r s e [] []) fun t h _ _=>Aa a true h (fun u=>Ab 2 t fun v=>u v h [] []) fun w x _ _=>Ub x a w d f g i j)
def Tf c a e f g h:=
 Aa a true c (fun i=>Ab 0 e fun j=>i j c [] []) fun k b _ _=>Aa a true b (fun l=>Af k b fun m n=>l m b n []) fun o d p q=>Ac [] p q (Aa a true d (fun r=>AS EE 3 o (iq 9) fun s=>r s d [] []) fun t u _ _=>AJ a t bF fun v=>Sz u v f g h)
def SR f g c d h i:=
 AJ f g bF fun a=>Aa a true c (fun j=>Ab 2 d fun k=>j k c [] []) fun l b _ _=>Aa a true b (fun m=>Af l b fun n o=>m n b o []) fun p e q r=>Ac [] q r (Aa a true e (fun s=>AU 3 p (iq 2) fun t=>s t e [] []) fun u v _ _=>Tf v a u d h i)
def U9 c a f g h i:=
 Aa a true c (fun j=>AU 3 f (iq 1) fun k=>j k c [] []) fun l d _ _=>Aa a true d (fun m=>Ab 0 l fun n=>m n d [] []) fun o b _ _=>Aa a true b (fun p=>Af o b fun q r=>p q b r []) fun s e t u=>Ac [] t u (Aa a true e (fun v=>AS EE 3 s (iq 8) fun w=>v w e [] []) fun x y _ _=>SR a x y g h i)
def RR e f c d g h:=
 Ac [] e [] (AS EE 3 f (iq 7) fun a=>Aa a true c (fun i=>Ab 2 d fun j=>i j c [] []) fun k b _ _=>Aa a true b (fun l=>Af k b fun m n=>l m b n []) fun o p q r=>Ac [] q r (U9 p a o d g h))
def Tc e f b a c d g:=
 AJ e f bF fun h=>Ak h (Ab 2 b fun i=>Af i a fun j k=>UX k j a c d) (Ab 0 g fun l=>Af l a fun m n=>RR n m a b c d)
def R3 b a f c g h i:=
 Aa a true b (fun j=>Ai 3 f b fun k l=>j k b l []) fun m d n o=>Ac [] n o (Aa a true d (fun p=>is0 c 107 [m,iq 0] d p) fun q e r s=>Ac [] r s (Aa a true e (fun t=>Eh (Qw .not q) fun u=>t u e [] []) fun v w _ _=>Tc a v g w c h i))
def Tj c a f g h i j:=
 Aa a true c (fun k=>AU 3 f (iq 1) fun l=>k l c [] []) fun m d _ _=>Aa a true d (fun n=>Ab 2 m fun o=>n o d [] []) fun p b _ _=>Aa a true b (fun q=>Af p b fun r s=>q r b s []) fun t e u v=>Ac [] u v (Aa a true e (fun w=>AU 3 t (iq 0) fun x=>w x e [] []) fun y z _ _=>R3 z a y g h i j)
def UW e f g h c d i j k:=
 Ac [] e f (AJ g h bF fun a=>Aa a true c (fun l=>Ab 2 d fun m=>l m c [] []) fun n b _ _=>Aa a true b (fun o=>Af n b fun p q=>o p b q []) fun r s t u=>Ac [] t u (Tj s a r i d j k))
def Vj b a h c i j k l m n o:=
 Aa a true b (fun p=>Ai 3 h b fun q r=>p q b r []) fun s d e f=>Ac [] e f (Aa a true d (fun t=>is0 c 25 [iq 0] d t) fun u g v w=>Ac [(e,f),(i,j),(k,l)] v w (Aa a true g (fun x=>is0 c 17 [s,u] g x) fun y z A B=>UW A B a y z m c n o))
def TA c a h i j k l m n:=
 Aa a true c (fun o=>AU 3 h (iq 1) fun p=>o p c [] []) fun q d _ _=>Aa a true d (fun r=>Ab 2 q fun s=>r s d [] []) fun t b _ _=>Aa a true b (fun u=>Af t b fun v w=>u v b w []) fun x e f g=>Ac [] f g (Aa a true e (fun y=>AU 3 x (iq 1) fun z=>y z e [] []) fun A B _ _=>Vj B a A i f g j k l m n)
def Ux c d i e j k l:=
 Aa d true c (fun m=>AS EE 3 i (iq 5) fun n=>m n c [] []) fun o f _ _=>AJ d o bF fun a=>Aa a true f (fun p=>Ab 2 e fun q=>p q f [] []) fun r b _ _=>Aa a true b (fun s=>Af r b fun t u=>s t b u []) fun v w g h=>Ac [] g h (TA w a v j g h e k l)
def R5 e f c a g h i j k:=
 Ac [] e f (Aa a true c (fun l=>AU 3 g (iq 1) fun m=>l m c [] []) fun n d _ _=>Aa a true d (fun o=>Ab 0 n fun p=>o p d [] []) fun q b _ _=>Aa a true b (fun r=>Af q b fun s t=>r s b t []) fun u v w x=>Ac [] w x (Ux v a u h i j k))
def RS a e d f g h:=
 Af e a fun i j=>Ac [] j [] (AS EE 3 i (iq 4) fun b=>Aa b true a (fun k=>Ab 2 d fun l=>k l a [] []) fun m c _ _=>Aa b true c (fun n=>Af m c fun o p=>n o c p []) fun q r s t=>R5 s t r b q d f g h)
def Ut b g c a d e h f (i:List V->H->O):=
 Af g b fun j _=>Ci j fun k=>Hm EE 3 c k fun l=>Ak l (Ab 2 a fun m=>Us b m c d e h a f i) (Ab 0 a fun n=>RS b n e d f a)
def IL (b:List V) c d e (f:List V->H->O):=
 AC b fun a g=>AC g fun h i=>AC i fun j k=>AC k fun l _=>Ab 2 a fun m=>Ut c m l a d j e h f
def UY e f g (b:H) c d n h:=
 BI [iq 0,iq 0,.nils] [(0,1,e),(1,1,f)] fun i=>nw0 90178565 g fun a j _ _=>Ah 3 a i j fun k _ _=>BO (b.own.map (·.1)) [90182662,90185732] [c,d,a,iq 0] k fun l=>BQ n (fun m o p=>IL o p h b m) [c,d,a,iq 0] l
def S86 (d:Al) (n:Nat) (e:V) (c:H):O :=
 A7 90177536 e c fun a f _ _=>nw0 90177537 f fun g b _ _=>Ab 0 a fun h=>Af h b fun i _=>Ab 1 a fun j=>Af j b fun k _=>UY i k b c a g n d
theorem Asj a n b c:Ax EE a ft.get n 86 [b] c=S86 a n b c:=by kernel_rfl
def S87 (j:Al) (n:Nat) (a b:V) (c:H):O :=
 Ay (Aj EE 114 0 []) 91227136 c fun d e _ _=>Ay (AT EE 91227138 false .append [114,114] [d,a]) 91227138 e fun f g _ _=>Ay (AT EE 91227140 false .append [114,114] [f,b]) 91227140 g fun h i _ _=>Am [h] i
theorem ArI a n b c d:Ax EE a ft.get n 87 [b,c] d=S87 a n b c d:=by kernel_rfl
def Zq a b c d:=
 Ac [] a b (Am [d] c)
def AaE c d e a b f g h:=
 Ay (Aj EE 114 1 [(0,d)]) 92280847 c fun i j k l=>Ac [(e,[]),(a,[])] k l (is0 b 87 [f,i] j fun m n o p=>Ac [(a,[])] o p (A4 [true,false,false] false false b 62 [g,h,m] n fun q r s t=>Zq s t r q))
def Afj a d b c e f g h:=
 Af d a fun i j=>Ac [(b,[]),(c,[])] j [] (AU 1 i (iq 1) fun k=>Af k a fun l m=>Ac [(b,[]),(c,[])] m [] (AaE a l b c e f g h))
def Agu d a b e f g h:=
 Ab 3 d fun i=>Af i a fun j c=>Ac [(b,[])] c [] (AH e fun k=>Ab 2 k fun l=>Afj a l c b f j g h)
def AgE a b d e f:=
 AH a fun g=>Ab 4 g fun h=>Ai 3 h b fun i c=>Ac [] c [] (AH a fun j=>Agu j b c d e f i)
def AaH b a c d e:=
 AH b fun f=>Ab 2 f fun g=>Af g a fun h _=>AU 1 h (iq 1) fun i=>Af i a fun j _=>AgE j a c d e
def AfO b a c d:=
 AH b fun e=>Ab 2 e fun f=>Af f a fun g _=>AU 1 g (iq 0) fun h=>Af h a fun i _=>AaH i a b c d
def AdO b c a:=
 AU 1 b c fun d=>Af d a fun e f=>Ac [] f [] (Am [e] a)
def AfH b a c d e f:=
 Ab 0 b fun g=>Af g a fun h i=>Ac [(c,[]),(d,[]),(e,[])] i [] (BE EE 3 (iq 1) h fun j=>Bj EE 3 j (iq 8) fun k=>AdO f k a)
def Adn c a d e f:=
 AH c fun g=>Ab 2 g fun h=>Af h a fun i b=>Ac [] b [] (AH d fun j=>AfH j a b e f i)
def ZZ a d e:=
 Af d a fun f b=>Ac [] b [] (AU 1 f (iq 0) fun g=>Af g a fun h c=>Ac [] c [] (Adn h a e c b))
def Afq c d e a (f:H->O):=
 A4 [true] false false c 108 [e] d fun g b _ _=>Ak g (AH a fun h=>Ab 2 h fun i=>ZZ b i a) (f b)
def AbX b a:=
 AH b fun c=>Ab 2 c fun d=>Af d a fun e _=>AU 1 e (iq 0) fun f=>Af f a fun g _=>Am [g] a
def AgT b a:=
 AH b fun c=>Ab 2 c fun d=>Af d a fun e _=>AU 1 e (iq 0) fun f=>Af f a fun g _=>AbX g a
def AdV a b:=
 Af b a fun c _=>AU 1 c (iq 1) fun d=>Af d a fun e _=>Am [e] a
def Aif b c a (d:H->O):=
 Ak b (AH c fun e=>Ab 2 e fun f=>AdV a f) (d a)
def Afm c d e a b f g h i j:=
 Ac [(e,[]),(a,[])] c d (is0 b 87 [g,h] f fun k l m n=>Ac [(a,[])] m n (A4 [true,false,false] false false b 62 [i,j,k] l fun o p q r=>Ac [] q r (Am [o] p)))
def Ab2 d a b e f g h i:=
 AH d fun j=>Ab 3 j fun k=>Af k a fun l c=>Ac [(b,[])] c [] (Ay (Aj EE 114 2 [(0,e),(1,f)]) 92297227 a fun m n o p=>Afm o p c b g n l m h i)
def Aba a d e f g h:=
 Af d a fun b _=>AH b fun i=>Ab 4 i fun j=>Ai 3 j a fun k c=>Ac [] c [] (Ab2 b a c e f g h k)
def Aff b c d a e f g h:=
 Ac [] b c (AH d fun i=>Ab 2 i fun j=>Af j a fun k _=>AU 1 k (iq 2) fun l=>Aba a l e f g h)
def AgR c d e f a b g h:=
 Ac [] c d (BI [iq 0,iq 0,.nils,.nils,iq 0,iq 0,.nils] [(0,1,iq 13),(2,1,e)] fun i=>A7 92295190 i f fun j k l m=>Ac [] l m (A4 [true,false] false false a 88 [b,j] k fun n o p q=>Aff p q g o h n a b))
def ZI g a b c d h e i j f k l m:=
 Ac [(a,[]),(b,[]),(c,[]),(d,[])] g [] (AU 1 h (iq 2) fun n=>Af n e fun o p=>Ac [(a,[]),(b,[]),(c,[]),(d,[])] p [] (Ay (Aj EE 114 4 [(0,i),(1,j),(2,o),(3,f)]) 92295188 e fun q r s t=>AgR s t q r k l m f))
def Aa9 a f b c d g h i j k:=
 Af f a fun l e=>Ac [(b,[]),(c,[])] e [] (AH d fun m=>Ab 2 m fun n=>Af n a fun o p=>ZI p e g b c o a h l i j k d)
def AgH a b c d f g h i:=
 AH a fun j=>Ab 2 j fun k=>Af k b fun l e=>Ac [(c,[]),(d,[])] e [] (AU 1 l (iq 1) fun m=>Aa9 b m c d a e f g h i)
def AhX a d e f g h:=
 Af d a fun i b=>Ac [] b [] (AU 1 i (iq 0) fun j=>Af j a fun k c=>Ac [] c [] (AgH e a c b k f g h))
def AaT a c b d e:=
 Af c a fun f _=>AU 1 f (iq 0) fun g=>Af g a fun h _=>AH b fun i=>Ab 2 i fun j=>AhX a j b h d e
def ZH a b c d e:=
 Af b a fun f _=>AU 1 f (iq 3) fun g=>Af g a fun h _=>AH h fun i=>Ab 2 i fun j=>AaT a j c d e
def Ag8 a e b c (f:H->O):=
 A4 [true] false false a 108 [b] e fun g d _ _=>Ak g (AH c fun h=>Ab 2 h fun i=>ZH d i c a b) (f d)
def AcI c a g h i j (d:H->O):=
 Aa a true c (fun k=>Ab 0 g fun l=>k l c [] []) fun m b _ _=>Aa a true b (fun n=>Af m b fun o p=>n o b p []) fun q e _ _=>Aa a true e (fun r=>AS EE 3 q (iq 12) fun s=>r s e [] []) fun t f _ _=>AJ a t bF fun u=>Ak u (Ag8 h f i j d) (d f)
def Ahy d a g h i j (k:H->O):=
 Aa a true d (fun l=>Ab 2 g fun m=>l m d [] []) fun n b _ _=>Aa a true b (fun o=>Af n b fun p q=>o p b q []) fun r e _ _=>Aa a true e (fun s=>AU 1 r (iq 3) fun t=>s t e [] []) fun u c _ _=>Aa a true c (fun v=>Af u c fun w x=>v w c x []) fun y f _ _=>Aa a true f (fun z=>AH y fun A=>z A f [] []) fun B C _ _=>AcI C a B h i j k
def Zz e a c f g (h:H->O):=
 Ab 0 e fun i=>Af i a fun j _=>AS EE 3 j (iq 13) fun b=>Aa b true a (fun k=>k c a [] []) fun l d _ _=>Aa b true d (fun m=>AH l fun n=>m n d [] []) fun o p _ _=>Ahy p b o f g c h
def Adj a b i d e c (f:H->O):=
 Aa b true a (fun j=>Af i a fun k l=>j k a l []) fun m g _ _=>Aa b true g (fun n=>AS EE 3 m (iq 11) fun o=>n o g [] []) fun p h _ _=>AJ b p bF fun q=>Ak q (A4 [true] false false d 108 [e] h fun r s _ _=>Aif r c s f) (AH c fun t=>Zz t h c d e f)
def Aa5 b a g h i j (k:H->O):=
 Aa a true b (fun l=>Af g b fun m n=>l m b n []) fun o d _ _=>Aa a true d (fun p=>AU 1 o (iq 3) fun q=>p q d [] []) fun r c _ _=>Aa a true c (fun s=>Af r c fun t u=>s t c u []) fun v e _ _=>Aa a true e (fun w=>AH v fun x=>w x e [] []) fun y f _ _=>Aa a true f (fun z=>Ab 0 y fun A=>z A f [] []) fun B C _ _=>Adj C a B h i j k
def ZN b f c g h (i:H->O):=
 Af f b fun j _=>AS EE 3 j (iq 13) fun a=>Aa a true b (fun k=>k c b [] []) fun l d _ _=>Aa a true d (fun m=>AH l fun n=>m n d [] []) fun o e _ _=>Aa a true e (fun p=>Ab 2 o fun q=>p q e [] []) fun r s _ _=>Aa5 s a r g h c i
def ZM g b c d a (e:H->O):=
 Ak g (A4 [true] false false b 108 [d] c fun h f _ _=>Ak h (AgT a f) (e f)) (AH a fun i=>Ab 0 i fun j=>ZN c j a b d e)
def Acn a b d (e:V->H->O):=
 Aa b true a (fun f=>Af d a fun g h=>f g a h []) fun i c _ _=>Aa b true c (fun j=>AS EE 3 i (iq 30) fun k=>j k c [] []) fun l m _ _=>AJ b l bF fun n=>e n m
def Aag b a g (h:V->H->O):=
 Aa a true b (fun i=>Af g b fun j k=>i j b k []) fun l d _ _=>Aa a true d (fun m=>AU 1 l (iq 0) fun n=>m n d [] []) fun o c _ _=>Aa a true c (fun p=>Af o c fun q r=>p q c r []) fun s e _ _=>Aa a true e (fun t=>AH s fun u=>t u e [] []) fun v f _ _=>Aa a true f (fun w=>Ab 0 v fun x=>w x f [] []) fun y z _ _=>Acn z a y h
def AhM b e f (g:V->H->O):=
 Af e b fun h _=>AS EE 3 h (iq 19) fun a=>Aa a true b (fun i=>i f b [] []) fun j c _ _=>Aa a true c (fun k=>AH j fun l=>k l c [] []) fun m d _ _=>Aa a true d (fun n=>Ab 2 m fun o=>n o d [] []) fun p q _ _=>Aag q a p g
def AcU e f (a:V->H->O) b c:=
 AJ e f bF fun d=>Ak d (a d b) (AH c fun g=>Ab 0 g fun h=>AhM b h c a)
def ZV b a g (h:V->H->O) i:=
 Aa a true b (fun j=>Af g b fun k l=>j k b l []) fun m d _ _=>Aa a true d (fun n=>AH m fun o=>n o d [] []) fun p e _ _=>Aa a true e (fun q=>Ab 0 p fun r=>q r e [] []) fun s c _ _=>Aa a true c (fun t=>Af s c fun u v=>t u c v []) fun w f _ _=>Aa a true f (fun x=>AS EE 3 w (iq 19) fun y=>x y f [] []) fun z A _ _=>AcU a z h A i
def AaF c a d (h:V->H->O):=
 Aa a true c (fun i=>i d c [] []) fun j e _ _=>Aa a true e (fun k=>AH j fun l=>k l e [] []) fun m f _ _=>Aa a true f (fun n=>Ab 2 m fun o=>n o f [] []) fun p b _ _=>Aa a true b (fun q=>Af p b fun r s=>q r b s []) fun t g _ _=>Aa a true g (fun u=>AU 1 t (iq 0) fun v=>u v g [] []) fun w x _ _=>ZV x a w h d
def Ael c d a (e:H->O) b:=
 (fun (f:V->H->O)=>AH a fun g=>Ab 0 g fun h=>Af h b fun i _=>AS EE 3 i (iq 30) fun j=>AaF b j a f) fun k l=>ZM k c l d a e
def AfQ c a j d e f (g:H->O):=
 Aa a true c (fun k=>Ab 0 j fun l=>k l c [] []) fun m b _ _=>Aa a true b (fun n=>Af m b fun o p=>n o b p []) fun q h _ _=>Aa a true h (fun r=>AS EE 3 q (iq 7) fun s=>r s h [] []) fun t i _ _=>AJ a t bF fun u=>Ak u (Afq d i e f g) (Ael d e f g i)
def Adz d a g h i j (k:H->O):=
 Aa a true d (fun l=>Ab 2 g fun m=>l m d [] []) fun n b _ _=>Aa a true b (fun o=>Af n b fun p q=>o p b q []) fun r e _ _=>Aa a true e (fun s=>AU 1 r (iq 0) fun t=>s t e [] []) fun u c _ _=>Aa a true c (fun v=>Af u c fun w x=>v w c x []) fun y f _ _=>Aa a true f (fun z=>AH y fun A=>z A f [] []) fun B C _ _=>AfQ C a B h i j k
def Aet a b h d i j (k:H->O):=
 Aa b false a (fun l=>Af h a fun m n=>l m a n []) fun o e _ _=>Aa b false e (fun p=>AS EE 3 o (iq 9) fun q=>p q e [] []) fun r f _ _=>AJ b bT r fun c=>Aa c true f (fun s=>s d f [] []) fun t g _ _=>Aa c true g (fun u=>AH t fun v=>u v g [] []) fun w x _ _=>Adz x c w i j d k
def AhV b f c g h (i:H->O):=
 Af f b fun j _=>AS EE 3 j (iq 8) fun a=>Aa a false b (fun k=>k c b [] []) fun l d _ _=>Aa a false d (fun m=>AH l fun n=>m n d [] []) fun o e _ _=>Aa a false e (fun p=>Ab 0 o fun q=>p q e [] []) fun r s _ _=>Aet s a r c g h i
def Aaq g a d b c (e:H->O):=
 Ak g (A4 [true] false false a 108 [b] d fun h f _ _=>Ak h (AfO c f a b) (e f)) (AH c fun i=>Ab 0 i fun j=>AhV d j c a b e)
def Afz c a f g h i (j:H->O):=
 Aa a true c (fun k=>AH f fun l=>k l c [] []) fun m d _ _=>Aa a true d (fun n=>Ab 0 m fun o=>n o d [] []) fun p b _ _=>Aa a true b (fun q=>Af p b fun r s=>q r b s []) fun t e _ _=>Aa a true e (fun u=>AS EE 3 t (iq 4) fun v=>u v e [] []) fun w x _ _=>AJ a w bF fun y=>Aaq y g x h i j
def Agw d a g h i j (k:H->O):=
 Aa a true d (fun l=>AH g fun m=>l m d [] []) fun n e _ _=>Aa a true e (fun o=>Ab 2 n fun p=>o p e [] []) fun q b _ _=>Aa a true b (fun r=>Af q b fun s t=>r s b t []) fun u f _ _=>Aa a true f (fun v=>AU 1 u (iq 0) fun w=>v w f [] []) fun x c _ _=>Aa a true c (fun y=>Af x c fun z A=>y z c A []) fun B C _ _=>Afz C a B h i j k
def Ah7 a b d e (f:H->O):=
 AH a fun g=>Ab 0 g fun h=>Af h b fun i _=>AS EE 3 i (iq 5) fun c=>Aa c true b (fun j=>j a b [] []) fun k l _ _=>Agw l c k d e a f
def S88 (d:Al) (n:Nat) (c a:V) (b:H):O :=
 (fun (e:H->O)=>AH c fun f=>Ab 2 f fun g=>Af g b fun h _=>CE EE 3 h (iq 0) fun i=>Ak i (Am [a] b) (Ah7 a b d c e)) fun j=>Am [a] j
theorem AsX a n b c d:Ax EE a ft.get n 88 [b,c] d=S88 a n b c d:=by kernel_rfl
end
end Idl
end Go.Proofs.Ytkfecngimlcfoaa

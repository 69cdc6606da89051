/-
  Texts of a proof, part 9: an ideal semantics of the program, its functions in shallow form, contracts of them. No statement of the seat is proved here.
-/
import Derived.Test.YtkfecngimlcfoaaStageAllK8
set_option linter.all false
set_option maxRecDepth 20000
set_option maxHeartbeats 16000000
noncomputable section
set_option maxRecDepth 100000
set_option linter.unusedVariables false
namespace Go.Proofs.Ytkfecngimlcfoaa
namespace Idl
noncomputable section
def Tv a e f g (h:H) b c (i:List V->H->O):=
 Ac 2 a fun j=>Bp j f e fun k _ _=>BD EE 3 g (iq 1) fun d=>Bx (h.own.map (·.1)) [90182662,90185732] [b,c,a,d] k fun l=>i [b,c,a,d] l
def R6 b a c d e f g (h:List V->H->O):=
 Ac 2 b fun i=>Ah i a fun j _=>Ad 3 c a fun k _=>Ay (Ak EE 28 1 [(0,k)]) 90185731 a fun l m _ _=>Ay (AO EE 90185732 false .append [28,28] [j,l]) 90185732 m fun n o _ _=>Tv b o n d e f g h
def SQ a b c (d:H->O):=
 Ae 3 b c a fun e _ _=>d e
def ST a b e f g h (c:H->O):=
 Aa b true a (fun i=>AF e bT f fun j=>i j a [] []) fun k d _ _=>AF b k bF fun l=>Ai l (is0 g 24 [iq 11,.nils] d fun m n _ _=>SQ n h m c) (c d)
def S5 d b h i j k (l:H->O):=
 Aa b true d (fun m=>AK EE 3 h (iq 4) fun n=>m n d [] []) fun o e _ _=>Aa b true e (fun p=>p o e [] []) fun a f _ _=>Aa a false f (fun q=>Ac 0 i fun r=>q r f [] []) fun s c _ _=>Aa a false c (fun t=>Ah s c fun u v=>t u c v []) fun w g _ _=>Aa a false g (fun x=>AK EE 3 w (iq 7) fun y=>x y g [] []) fun z A _ _=>ST A b a z j k l
def Q1 g a h i e j b k (l:List V->H->O) m:=
 Ae 3 a h g fun f _ _=>(fun (n:H->O)=>AK EE 3 e (iq 0) fun c=>Aa c true f (fun o=>Ac 0 b fun p=>o p f [] []) fun q d _ _=>Aa c true d (fun r=>Ah q d fun s t=>r s d t []) fun u v _ _=>S5 v c u b m a n) fun w=>R6 i w a e j b k l
def Rh a d b c e f g h (i:List V->H->O):=
 Ah d a fun j _=>AN 3 j b fun k=>Ad 3 k a fun l _=>is0 c 86 [l] a fun m n _ _=>nw0 90182662 n fun o p _ _=>Q1 p o m e b f g h i c
def SR c d e f a:=
 is0 c 67 [e,iq 0,f] d fun g h i j=>Ab [] i j (Ae 3 a g h fun b k l=>Ab [] k l (Ar true 3 a b fun m=>Al [m] b))
def To d a b e f g:=
 AN 3 d (iq 0) fun h=>Ad 3 h a fun i c=>Ab [] c [] (is0 b 24 [iq 11,.nils] a fun j k l m=>Ab [(c,[]),(e,[]),(f,[])] l m (SR b k i j g))
def Sd a d b e f:=
 Ab [] a [] (AN 3 d (iq 1) fun g=>Ac 2 g fun h=>Ah h b fun i c=>Ab [] c [] (To i b e c a f))
def TF a d b:=
 Ad 3 d a fun e _=>Ae 3 b e a fun c _ _=>Ar true 3 b c fun f=>Al [f] c
def Re a b c:=
 Ah b a fun d _=>AN 3 d (iq 1) fun e=>Ac 2 e fun f=>Ah f a fun g _=>AN 3 g (iq 0) fun h=>TF a h c
def QU c a d:=
 Ae 3 a d c fun b _ _=>Ar true 3 a b fun e=>Al [e] b
def S0 b c f g h d e:=
 Aa c true b (fun i=>is0 f 17 [g,h] b i) fun j a k l=>Ab [] k l (AF c j bF fun m=>Ai m (Ac 2 d fun n=>Re a n e) (Ad 3 d a fun o _=>QU a e o))
def TV b a k d e f g h i l m n o:=
 Aa a true b (fun p=>Ah k b fun q r=>p q b r []) fun s j t u=>Ab [(d,e),(f,g),(h,i)] t u (Aa a true j (fun v=>AN 3 s (iq 0) fun w=>v w j [] []) fun x c _ _=>Aa a true c (fun y=>Ad 3 x c fun z A=>y z c A []) fun B C D E=>Ab [(d,e),(f,g),(h,i)] D E (S0 C a l m B n o))
def SB c a d e f g h i j m n o:=
 Aa a true c (fun p=>Ac 2 d fun q=>p q c [] []) fun r b _ _=>Aa a true b (fun s=>Ah r b fun t u=>s t b u []) fun v k w x=>Ab [(e,f),(g,h),(i,j)] w x (Aa a true k (fun y=>AN 3 v (iq 2) fun z=>y z k [] []) fun A l _ _=>Aa a true l (fun B=>Ac 2 A fun C=>B C l [] []) fun D E _ _=>TV E a D e f g h i j m n d o)
def SG b a i j k l m n:=
 Aa a true b (fun o=>Ah i b fun p q=>o p b q []) fun r d e f=>Ab [] e f (Aa a true d (fun s=>AN 3 r (iq 0) fun t=>s t d [] []) fun u c _ _=>Aa a true c (fun v=>Ad 3 u c fun w x=>v w c x []) fun y z g h=>Ab [] g h (SB z a j g h e f k l m y n))
def TP c a d i j:=
 Aa a true c (fun k=>Ac 2 d fun l=>k l c [] []) fun m b _ _=>Aa a true b (fun n=>Ah m b fun o p=>n o b p []) fun q e f g=>Ab [] f g (Aa a true e (fun r=>AN 3 q (iq 1) fun s=>r s e [] []) fun t h _ _=>Aa a true h (fun u=>Ac 2 t fun v=>u v h [] []) fun w x _ _=>SG x a w d f g i j)
def RS c a e f g h:=
 Aa a true c (fun i=>Ac 0 e fun j=>i j c [] []) fun k b _ _=>Aa a true b (fun l=>Ah k b fun m n=>l m b n []) fun o d p q=>Ab [] p q (Aa a true d (fun r=>AK EE 3 o (iq 9) fun s=>r s d [] []) fun t u _ _=>AF a t bF fun v=>TP u v f g h)
def Ua f g c d h i:=
 AF f g bF fun a=>Aa a true c (fun j=>Ac 2 d fun k=>j k c [] []) fun l b _ _=>Aa a true b (fun m=>Ah l b fun n o=>m n b o []) fun p e q r=>Ab [] q r (Aa a true e (fun s=>AN 3 p (iq 2) fun t=>s t e [] []) fun u v _ _=>RS v a u d h i)
def SE c a f g h i:=
 Aa a true c (fun j=>AN 3 f (iq 1) fun k=>j k c [] []) fun l d _ _=>Aa a true d (fun m=>Ac 0 l fun n=>m n d [] []) fun o b _ _=>Aa a true b (fun p=>Ah o b fun q r=>p q b r []) fun s e t u=>Ab [] t u (Aa a true e (fun v=>AK EE 3 s (iq 8) fun w=>v w e [] []) fun x y _ _=>Ua a x y g h i)
def Tg e f c d g h:=
 Ab [] e [] (AK EE 3 f (iq 7) fun a=>Aa a true c (fun i=>Ac 2 d fun j=>i j c [] []) fun k b _ _=>Aa a true b (fun l=>Ah k b fun m n=>l m b n []) fun o p q r=>Ab [] q r (SE p a o d g h))
def Tb e f b a c d g:=
 AF e f bF fun h=>Ai h (Ac 2 b fun i=>Ah i a fun j k=>Sd k j a c d) (Ac 0 g fun l=>Ah l a fun m n=>Tg n m a b c d)
def S7 b a f c g h i:=
 Aa a true b (fun j=>Ad 3 f b fun k l=>j k b l []) fun m d n o=>Ab [] n o (Aa a true d (fun p=>is0 c 107 [m,iq 0] d p) fun q e r s=>Ab [] r s (Aa a true e (fun t=>CF (Kg .not q) fun u=>t u e [] []) fun v w _ _=>Tb a v g w c h i))
def RD c a f g h i j:=
 Aa a true c (fun k=>AN 3 f (iq 1) fun l=>k l c [] []) fun m d _ _=>Aa a true d (fun n=>Ac 2 m fun o=>n o d [] []) fun p b _ _=>Aa a true b (fun q=>Ah p b fun r s=>q r b s []) fun t e u v=>Ab [] u v (Aa a true e (fun w=>AN 3 t (iq 0) fun x=>w x e [] []) fun y z _ _=>S7 z a y g h i j)
def Ss e f g h c d i j k:=
 Ab [] e f (AF g h bF fun a=>Aa a true c (fun l=>Ac 2 d fun m=>l m c [] []) fun n b _ _=>Aa a true b (fun o=>Ah n b fun p q=>o p b q []) fun r s t u=>Ab [] t u (RD s a r i d j k))
def Ub b a h c i j k l m n o:=
 Aa a true b (fun p=>Ad 3 h b fun q r=>p q b r []) fun s d e f=>Ab [] e f (Aa a true d (fun t=>is0 c 25 [iq 0] d t) fun u g v w=>Ab [(e,f),(i,j),(k,l)] v w (Aa a true g (fun x=>is0 c 17 [s,u] g x) fun y z A B=>Ss A B a y z m c n o))
def TR c a h i j k l m n:=
 Aa a true c (fun o=>AN 3 h (iq 1) fun p=>o p c [] []) fun q d _ _=>Aa a true d (fun r=>Ac 2 q fun s=>r s d [] []) fun t b _ _=>Aa a true b (fun u=>Ah t b fun v w=>u v b w []) fun x e f g=>Ab [] f g (Aa a true e (fun y=>AN 3 x (iq 1) fun z=>y z e [] []) fun A B _ _=>Ub B a A i f g j k l m n)
def Sq c d i e j k l:=
 Aa d true c (fun m=>AK EE 3 i (iq 5) fun n=>m n c [] []) fun o f _ _=>AF d o bF fun a=>Aa a true f (fun p=>Ac 2 e fun q=>p q f [] []) fun r b _ _=>Aa a true b (fun s=>Ah r b fun t u=>s t b u []) fun v w g h=>Ab [] g h (TR w a v j g h e k l)
def R5 e f c a g h i j k:=
 Ab [] e f (Aa a true c (fun l=>AN 3 g (iq 1) fun m=>l m c [] []) fun n d _ _=>Aa a true d (fun o=>Ac 0 n fun p=>o p d [] []) fun q b _ _=>Aa a true b (fun r=>Ah q b fun s t=>r s b t []) fun u v w x=>Ab [] w x (Sq v a u h i j k))
def QO a e d f g h:=
 Ah e a fun i j=>Ab [] j [] (AK EE 3 i (iq 4) fun b=>Aa b true a (fun k=>Ac 2 d fun l=>k l a [] []) fun m c _ _=>Aa b true c (fun n=>Ah m c fun o p=>n o c p []) fun q r s t=>R5 s t r b q d f g h)
def RZ b g c a d e h f (i:List V->H->O):=
 Ah g b fun j _=>B9 j fun k=>Hu EE 3 c k fun l=>Ai l (Ac 2 a fun m=>Rh b m c d e h a f i) (Ac 0 a fun n=>QO b n e d f a)
def Js (b:List V) c d e (f:List V->H->O):=
 AD b fun a g=>AD g fun h i=>AD i fun j k=>AD k fun l _=>Ac 2 a fun m=>RZ c m l a d j e h f
def SD e f g (b:H) c d n h:=
 By [iq 0,iq 0,.nils] [(0,1,e),(1,1,f)] fun i=>nw0 90178565 g fun a j _ _=>Ae 3 a i j fun k _ _=>Bx (b.own.map (·.1)) [90182662,90185732] [c,d,a,iq 0] k fun l=>BH n (fun m o p=>Js o p h b m) [c,d,a,iq 0] l
def S86 (d:Aj) (n:Nat) (e:V) (c:H):O :=
 AW 90177536 e c fun a f _ _=>nw0 90177537 f fun g b _ _=>Ac 0 a fun h=>Ah h b fun i _=>Ac 1 a fun j=>Ah j b fun k _=>SD i k b c a g n d
theorem AsI a n b c:Au EE a ft.get n 86 [b] c=S86 a n b c:=by kernel_rfl
def S87 (j:Aj) (n:Nat) (a b:V) (c:H):O :=
 Ay (Ak EE 114 0 []) 91227136 c fun d e _ _=>Ay (AO EE 91227138 false .append [114,114] [d,a]) 91227138 e fun f g _ _=>Ay (AO EE 91227140 false .append [114,114] [f,b]) 91227140 g fun h i _ _=>Al [h] i
theorem Aux a n b c d:Au EE a ft.get n 87 [b,c] d=S87 a n b c d:=by kernel_rfl
def Ac4 a b c d:=
 Ab [] a b (Al [d] c)
def YW c d e a b f g h:=
 Ay (Ak EE 114 1 [(0,d)]) 92280847 c fun i j k l=>Ab [(e,[]),(a,[])] k l (is0 b 87 [f,i] j fun m n o p=>Ab [(a,[])] o p (A0 [true,false,false] false false b 62 [g,h,m] n fun q r s t=>Ac4 s t r q))
def Af3 a d b c e f g h:=
 Ah d a fun i j=>Ab [(b,[]),(c,[])] j [] (AN 1 i (iq 1) fun k=>Ah k a fun l m=>Ab [(b,[]),(c,[])] m [] (YW a l b c e f g h))
def Aav d a b e f g h:=
 Ac 3 d fun i=>Ah i a fun j c=>Ab [(b,[])] c [] (AH e fun k=>Ac 2 k fun l=>Af3 a l c b f j g h)
def Agt a b d e f:=
 AH a fun g=>Ac 4 g fun h=>Ad 3 h b fun i c=>Ab [] c [] (AH a fun j=>Aav j b c d e f i)
def Ad6 b a c d e:=
 AH b fun f=>Ac 2 f fun g=>Ah g a fun h _=>AN 1 h (iq 1) fun i=>Ah i a fun j _=>Agt j a c d e
def Acy b a c d:=
 AH b fun e=>Ac 2 e fun f=>Ah f a fun g _=>AN 1 g (iq 0) fun h=>Ah h a fun i _=>Ad6 i a b c d
def Agv b c a:=
 AN 1 b c fun d=>Ah d a fun e f=>Ab [] f [] (Al [e] a)
def Yy b a c d e f:=
 Ac 0 b fun g=>Ah g a fun h i=>Ab [(c,[]),(d,[]),(e,[])] i [] (BD EE 3 (iq 1) h fun j=>Bd EE 3 j (iq 8) fun k=>Agv f k a)
def Aec c a d e f:=
 AH c fun g=>Ac 2 g fun h=>Ah h a fun i b=>Ab [] b [] (AH d fun j=>Yy j a b e f i)
def Ahm a d e:=
 Ah d a fun f b=>Ab [] b [] (AN 1 f (iq 0) fun g=>Ah g a fun h c=>Ab [] c [] (Aec h a e c b))
def Ahd c d e a (f:H->O):=
 A0 [true] false false c 108 [e] d fun g b _ _=>Ai g (AH a fun h=>Ac 2 h fun i=>Ahm b i a) (f b)
def AaG b a:=
 AH b fun c=>Ac 2 c fun d=>Ah d a fun e _=>AN 1 e (iq 0) fun f=>Ah f a fun g _=>Al [g] a
def YZ b a:=
 AH b fun c=>Ac 2 c fun d=>Ah d a fun e _=>AN 1 e (iq 0) fun f=>Ah f a fun g _=>AaG g a
def Zr a b:=
 Ah b a fun c _=>AN 1 c (iq 1) fun d=>Ah d a fun e _=>Al [e] a
def Aco b c a (d:H->O):=
 Ai b (AH c fun e=>Ac 2 e fun f=>Zr a f) (d a)
def Abv c d e a b f g h i j:=
 Ab [(e,[]),(a,[])] c d (is0 b 87 [g,h] f fun k l m n=>Ab [(a,[])] m n (A0 [true,false,false] false false b 62 [i,j,k] l fun o p q r=>Ab [] q r (Al [o] p)))
def Aac d a b e f g h i:=
 AH d fun j=>Ac 3 j fun k=>Ah k a fun l c=>Ab [(b,[])] c [] (Ay (Ak EE 114 2 [(0,e),(1,f)]) 92297227 a fun m n o p=>Abv o p c b g n l m h i)
def Ahi a d e f g h:=
 Ah d a fun b _=>AH b fun i=>Ac 4 i fun j=>Ad 3 j a fun k c=>Ab [] c [] (Aac b a c e f g h k)
def Afg b c d a e f g h:=
 Ab [] b c (AH d fun i=>Ac 2 i fun j=>Ah j a fun k _=>AN 1 k (iq 2) fun l=>Ahi a l e f g h)
def Aex c d e f a b g h:=
 Ab [] c d (By [iq 0,iq 0,.nils,.nils,iq 0,iq 0,.nils] [(0,1,iq 13),(2,1,e)] fun i=>AW 92295190 i f fun j k l m=>Ab [] l m (A0 [true,false] false false a 88 [b,j] k fun n o p q=>Afg p q g o h n a b))
def Acj g a b c d h e i j f k l m:=
 Ab [(a,[]),(b,[]),(c,[]),(d,[])] g [] (AN 1 h (iq 2) fun n=>Ah n e fun o p=>Ab [(a,[]),(b,[]),(c,[]),(d,[])] p [] (Ay (Ak EE 114 4 [(0,i),(1,j),(2,o),(3,f)]) 92295188 e fun q r s t=>Aex s t q r k l m f))
def Aeh a f b c d g h i j k:=
 Ah f a fun l e=>Ab [(b,[]),(c,[])] e [] (AH d fun m=>Ac 2 m fun n=>Ah n a fun o p=>Acj p e g b c o a h l i j k d)
def AfW a b c d f g h i:=
 AH a fun j=>Ac 2 j fun k=>Ah k b fun l e=>Ab [(c,[]),(d,[])] e [] (AN 1 l (iq 1) fun m=>Aeh b m c d a e f g h i)
def Acf a d e f g h:=
 Ah d a fun i b=>Ab [] b [] (AN 1 i (iq 0) fun j=>Ah j a fun k c=>Ab [] c [] (AfW e a c b k f g h))
def YI a c b d e:=
 Ah c a fun f _=>AN 1 f (iq 0) fun g=>Ah g a fun h _=>AH b fun i=>Ac 2 i fun j=>Acf a j b h d e
def YV a b c d e:=
 Ah b a fun f _=>AN 1 f (iq 3) fun g=>Ah g a fun h _=>AH h fun i=>Ac 2 i fun j=>YI a j c d e
def Ya a e b c (f:H->O):=
 A0 [true] false false a 108 [b] e fun g d _ _=>Ai g (AH c fun h=>Ac 2 h fun i=>YV d i c a b) (f d)
def AbC c a g h i j (d:H->O):=
 Aa a true c (fun k=>Ac 0 g fun l=>k l c [] []) fun m b _ _=>Aa a true b (fun n=>Ah m b fun o p=>n o b p []) fun q e _ _=>Aa a true e (fun r=>AK EE 3 q (iq 12) fun s=>r s e [] []) fun t f _ _=>AF a t bF fun u=>Ai u (Ya h f i j d) (d f)
def Age d a g h i j (k:H->O):=
 Aa a true d (fun l=>Ac 2 g fun m=>l m d [] []) fun n b _ _=>Aa a true b (fun o=>Ah n b fun p q=>o p b q []) fun r e _ _=>Aa a true e (fun s=>AN 1 r (iq 3) fun t=>s t e [] []) fun u c _ _=>Aa a true c (fun v=>Ah u c fun w x=>v w c x []) fun y f _ _=>Aa a true f (fun z=>AH y fun A=>z A f [] []) fun B C _ _=>AbC C a B h i j k
def Aa8 e a c f g (h:H->O):=
 Ac 0 e fun i=>Ah i a fun j _=>AK EE 3 j (iq 13) fun b=>Aa b true a (fun k=>k c a [] []) fun l d _ _=>Aa b true d (fun m=>AH l fun n=>m n d [] []) fun o p _ _=>Age p b o f g c h
def AcK a b i d e c (f:H->O):=
 Aa b true a (fun j=>Ah i a fun k l=>j k a l []) fun m g _ _=>Aa b true g (fun n=>AK EE 3 m (iq 11) fun o=>n o g [] []) fun p h _ _=>AF b p bF fun q=>Ai q (A0 [true] false false d 108 [e] h fun r s _ _=>Aco r c s f) (AH c fun t=>Aa8 t h c d e f)
def AdB b a g h i j (k:H->O):=
 Aa a true b (fun l=>Ah g b fun m n=>l m b n []) fun o d _ _=>Aa a true d (fun p=>AN 1 o (iq 3) fun q=>p q d [] []) fun r c _ _=>Aa a true c (fun s=>Ah r c fun t u=>s t c u []) fun v e _ _=>Aa a true e (fun w=>AH v fun x=>w x e [] []) fun y f _ _=>Aa a true f (fun z=>Ac 0 y fun A=>z A f [] []) fun B C _ _=>AcK C a B h i j k
def AeU b f c g h (i:H->O):=
 Ah f b fun j _=>AK EE 3 j (iq 13) fun a=>Aa a true b (fun k=>k c b [] []) fun l d _ _=>Aa a true d (fun m=>AH l fun n=>m n d [] []) fun o e _ _=>Aa a true e (fun p=>Ac 2 o fun q=>p q e [] []) fun r s _ _=>AdB s a r g h c i
def Ag6 g b c d a (e:H->O):=
 Ai g (A0 [true] false false b 108 [d] c fun h f _ _=>Ai h (YZ a f) (e f)) (AH a fun i=>Ac 0 i fun j=>AeU c j a b d e)
def Agw a b d (e:V->H->O):=
 Aa b true a (fun f=>Ah d a fun g h=>f g a h []) fun i c _ _=>Aa b true c (fun j=>AK EE 3 i (iq 30) fun k=>j k c [] []) fun l m _ _=>AF b l bF fun n=>e n m
def Aed b a g (h:V->H->O):=
 Aa a true b (fun i=>Ah g b fun j k=>i j b k []) fun l d _ _=>Aa a true d (fun m=>AN 1 l (iq 0) fun n=>m n d [] []) fun o c _ _=>Aa a true c (fun p=>Ah o c fun q r=>p q c r []) fun s e _ _=>Aa a true e (fun t=>AH s fun u=>t u e [] []) fun v f _ _=>Aa a true f (fun w=>Ac 0 v fun x=>w x f [] []) fun y z _ _=>Agw z a y h
def AfM b e f (g:V->H->O):=
 Ah e b fun h _=>AK EE 3 h (iq 19) fun a=>Aa a true b (fun i=>i f b [] []) fun j c _ _=>Aa a true c (fun k=>AH j fun l=>k l c [] []) fun m d _ _=>Aa a true d (fun n=>Ac 2 m fun o=>n o d [] []) fun p q _ _=>Aed q a p g
def AcV e f (a:V->H->O) b c:=
 AF e f bF fun d=>Ai d (a d b) (AH c fun g=>Ac 0 g fun h=>AfM b h c a)
def Af8 b a g (h:V->H->O) i:=
 Aa a true b (fun j=>Ah g b fun k l=>j k b l []) fun m d _ _=>Aa a true d (fun n=>AH m fun o=>n o d [] []) fun p e _ _=>Aa a true e (fun q=>Ac 0 p fun r=>q r e [] []) fun s c _ _=>Aa a true c (fun t=>Ah s c fun u v=>t u c v []) fun w f _ _=>Aa a true f (fun x=>AK EE 3 w (iq 19) fun y=>x y f [] []) fun z A _ _=>AcV a z h A i
def Ack c a d (h:V->H->O):=
 Aa a true c (fun i=>i d c [] []) fun j e _ _=>Aa a true e (fun k=>AH j fun l=>k l e [] []) fun m f _ _=>Aa a true f (fun n=>Ac 2 m fun o=>n o f [] []) fun p b _ _=>Aa a true b (fun q=>Ah p b fun r s=>q r b s []) fun t g _ _=>Aa a true g (fun u=>AN 1 t (iq 0) fun v=>u v g [] []) fun w x _ _=>Af8 x a w h d
def Abf c d a (e:H->O) b:=
 (fun (f:V->H->O)=>AH a fun g=>Ac 0 g fun h=>Ah h b fun i _=>AK EE 3 i (iq 30) fun j=>Ack b j a f) fun k l=>Ag6 k c l d a e
def Yu c a j d e f (g:H->O):=
 Aa a true c (fun k=>Ac 0 j fun l=>k l c [] []) fun m b _ _=>Aa a true b (fun n=>Ah m b fun o p=>n o b p []) fun q h _ _=>Aa a true h (fun r=>AK EE 3 q (iq 7) fun s=>r s h [] []) fun t i _ _=>AF a t bF fun u=>Ai u (Ahd d i e f g) (Abf d e f g i)
def Aa9 d a g h i j (k:H->O):=
 Aa a true d (fun l=>Ac 2 g fun m=>l m d [] []) fun n b _ _=>Aa a true b (fun o=>Ah n b fun p q=>o p b q []) fun r e _ _=>Aa a true e (fun s=>AN 1 r (iq 0) fun t=>s t e [] []) fun u c _ _=>Aa a true c (fun v=>Ah u c fun w x=>v w c x []) fun y f _ _=>Aa a true f (fun z=>AH y fun A=>z A f [] []) fun B C _ _=>Yu C a B h i j k
def AeA a b h d i j (k:H->O):=
 Aa b false a (fun l=>Ah h a fun m n=>l m a n []) fun o e _ _=>Aa b false e (fun p=>AK EE 3 o (iq 9) fun q=>p q e [] []) fun r f _ _=>AF b bT r fun c=>Aa c true f (fun s=>s d f [] []) fun t g _ _=>Aa c true g (fun u=>AH t fun v=>u v g [] []) fun w x _ _=>Aa9 x c w i j d k
def Ag9 b f c g h (i:H->O):=
 Ah f b fun j _=>AK EE 3 j (iq 8) fun a=>Aa a false b (fun k=>k c b [] []) fun l d _ _=>Aa a false d (fun m=>AH l fun n=>m n d [] []) fun o e _ _=>Aa a false e (fun p=>Ac 0 o fun q=>p q e [] []) fun r s _ _=>AeA s a r c g h i
def ZR g a d b c (e:H->O):=
 Ai g (A0 [true] false false a 108 [b] d fun h f _ _=>Ai h (Acy c f a b) (e f)) (AH c fun i=>Ac 0 i fun j=>Ag9 d j c a b e)
def AfK c a f g h i (j:H->O):=
 Aa a true c (fun k=>AH f fun l=>k l c [] []) fun m d _ _=>Aa a true d (fun n=>Ac 0 m fun o=>n o d [] []) fun p b _ _=>Aa a true b (fun q=>Ah p b fun r s=>q r b s []) fun t e _ _=>Aa a true e (fun u=>AK EE 3 t (iq 4) fun v=>u v e [] []) fun w x _ _=>AF a w bF fun y=>ZR y g x h i j
def YP d a g h i j (k:H->O):=
 Aa a true d (fun l=>AH g fun m=>l m d [] []) fun n e _ _=>Aa a true e (fun o=>Ac 2 n fun p=>o p e [] []) fun q b _ _=>Aa a true b (fun r=>Ah q b fun s t=>r s b t []) fun u f _ _=>Aa a true f (fun v=>AN 1 u (iq 0) fun w=>v w f [] []) fun x c _ _=>Aa a true c (fun y=>Ah x c fun z A=>y z c A []) fun B C _ _=>AfK C a B h i j k
def AfO a b d e (f:H->O):=
 AH a fun g=>Ac 0 g fun h=>Ah h b fun i _=>AK EE 3 i (iq 5) fun c=>Aa c true b (fun j=>j a b [] []) fun k l _ _=>YP l c k d e a f
def S88 (d:Aj) (n:Nat) (c a:V) (b:H):O :=
 (fun (e:H->O)=>AH c fun f=>Ac 2 f fun g=>Ah g b fun h _=>Ch EE 3 h (iq 0) fun i=>Ai i (Al [a] b) (AfO a b d c e)) fun j=>Al [a] j
theorem Asn a n b c d:Au EE a ft.get n 88 [b,c] d=S88 a n b c d:=by kernel_rfl
def Alj a b c:=
 Aa b true a (fun d=>leS EE 3 c (iq 3000) fun e=>d e a [] []) fun f g _ _=>AF b f bF fun h=>Al [h] g
def Amu b c:=
 V4 EE 3 b (iq 0) fun a=>Aa a true c (fun e=>e b c [] []) fun f d _ _=>Aa a true d (fun g=>leS EE 3 f (iq 2) fun h=>g h d [] []) fun i j _ _=>AF a i bF fun k=>Al [k] j
def Akq a b c:=
 Aa b true a (fun d=>leS EE 3 c (iq 4) fun e=>d e a [] []) fun f g _ _=>AF b f bF fun h=>Al [h] g
def AjY a b:=
 AK EE 3 a (iq 0) fun c=>Al [c] b
def AiM c b a:=
 AK EE 3 c (iq 26) fun e=>Ai e (V4 EE 3 b (iq 0) fun d=>Aa d true a (fun f=>f b a [] []) fun g h _ _=>Akq h d g) (AK EE 3 c (iq 25) fun i=>Ai i (Al [bT] a) (AjY b a))
def S89 (j:Aj) (n:Nat) (c a:V) (b:H):O :=
 AK EE 3 c (iq 1) fun e=>Ai e (V4 EE 3 a (iq 0) fun d=>Aa d true b (fun f=>f a b [] []) fun g h _ _=>Alj h d g) (AK EE 3 c (iq 2) fun i=>Ai i (Amu a b) (AiM c a b))
theorem AuO a n b c d:Au EE a ft.get n 89 [b,c] d=S89 a n b c d:=by kernel_rfl
def Jh c a d:=
 Ae 3 a d c fun b _ _=>Ar true 3 a b fun e=>Al [e] b
def IS c d a:=
 Bd EE 3 c (iq 1) fun e=>By [iq 0,iq 0,.nils] [(0,1,iq 1),(1,1,e)] fun f=>Ae 3 a f d fun b _ _=>Ar true 3 a b fun g=>Al [g] b
def Jw a b:=
 Ar true 3 b a fun c=>Al [c] a
def I7 d e c a b:=
 LU EE 3 d e fun f=>Ai f (Ac 1 c fun g=>Ah g a fun h _=>IS h a b) (Ad 3 c a fun i _=>Ae 3 b i a fun j _ _=>Jw j b)
def Jv e b a f g h c d:=
 AK EE 3 e b fun i=>Ai i (Ad 3 f a fun j _=>is0 g 45 [j,h,iq 0] a fun k l _ _=>Jh l c k) (Ac 1 d fun m=>Ah m a fun n _=>I7 n b d a c)
def I4 a h i j (k:H) b c d e f (l:List V->H->O):=
 Ac 2 a fun m=>Bp m i h fun n o p=>Ab [] o p (BD EE 3 j (iq 1) fun g=>Bx (k.own.map (·.1)) [94384144] [b,c,d,e,f,a,g] n fun q=>l [b,c,d,e,f,a,g] q)
def I1 b c a d e f g h i j k l m n (o:List V->H->O):=
 Ab [(a,[])] b c (Ay (Ak EE 28 1 [(0,e)]) 94384143 d fun p q r s=>Ab [(a,[])] r s (Ay (AO EE 94384144 false .append [28,28] [f,p]) 94384144 q fun t u v w=>Ab [] v w (I4 g u t h i j k l m n o)))
def IF a b c d e g h f i j k l m n o p (q:List V->H->O):=
 BD EE 3 a b fun r=>BD EE 3 c b fun s=>Ad 3 e d fun t u=>Ab [(g,[]),(h,[]),(f,[])] u [] (is0 i 90 [j,r,s,t] d fun v w x y=>I1 x y f w v k l m n a c o e p q)
def I5 a f b c g h i j k l m n o p (q:List V->H->O):=
 Ah f a fun r d=>Ab [(b,[])] d [] (AN 3 r c fun s=>Ad 3 s a fun t e=>Ab [(b,[])] e [] (IF g h i a j e d b k t l m c n o p q))
def ID a g h b c d i j k l m (n:List V->H->O):=
 is0 a 54 [h,b] g fun o e _ _=>Ac 2 c fun p=>Ah p e fun q f=>Ab [] f [] (Ac 2 d fun r=>I5 e r f b i o j k a q c l d m n)
def IN a b:=
 Ar true 3 b a fun c=>Al [c] a
def IQ c f d a g e h i j k b (l:List V->H->O):=
 Hu EE 3 c f fun m=>Ai m (Ac 0 d fun n=>Ah n a fun o _=>ID g a o c e d h i j k b l) (Ad 3 e a fun p _=>Ae 3 b p a fun q _ _=>IN q b)
def JC (c:List V) a b d e f g h i (j:List V->H->O):=
 AD c fun k l=>AD l fun m _=>Ac 2 a fun n=>Ah n b fun o _=>B9 o fun p=>IQ m p a b d k e f g h i j
def IY (a:List V) b c d (e:List V->H->O):=
 AD a fun f g=>AD g fun h i=>AD i fun j k=>AD k fun l m=>AD m fun n o=>JC o j b c f h l d n e
def IK (a:H) h b c d e f g n i:=
 Bx (a.own.map (·.1)) [94384144] [b,c,d,e,f,g,iq 0] h fun j=>BH n (fun k l m=>IY l m i a k) [b,c,d,e,f,g,iq 0] j
def Jb a b d e f g h i n j:=
 Ac 1 a fun k=>Ah k b fun l _=>By [iq 0,iq 0,.nils] [(0,1,d),(1,1,l)] fun m=>nw0 94379013 b fun c o _ _=>Ae 3 c m o fun p _ _=>IK e p f g a h i c n j
def IU h a b c d e f g i n:=
 Ai h (Ac 1 a fun j=>Ah j b fun k _=>Jv k c b d e f g a) (Ac 0 a fun l=>Ah l b fun m _=>Jb a b m i c f d g n e)
def S90 (d:Aj) (n:Nat) (e f g h:V) (a:H):O :=
 AW 94371840 e a fun b i _ _=>AW 94371841 h i fun j k _ _=>nw0 94371842 k fun l c _ _=>Ac 0 b fun m=>Ah m c fun o _=>AK EE 3 o (iq 1) fun p=>IU p b c f j d g l a n
theorem Ar6 a n b c d e f:Au EE a ft.get n 90 [b,c,d,e] f=S90 a n b c d e f:=by kernel_rfl
def Xd b c a d e:=
 AF b bT c fun f=>Ai f (Al [.fv (.int .i64 (-1))] a) (ixA 31 1 d e fun g=>Ah g a fun h _=>Al [h] a)
def S91 (q:Aj) (n:Nat) (a:V) (f:H):O :=
 Ay (Ns EE 132 [(0,.fv (.int .i64 (-1))),(1,iq 0),(2,iq 0),(3,iq 2),(4,iq 2),(5,iq 2),(6,iq 2),(7,iq 3),(8,iq 1),(9,iq 1),(10,iq 0),(11,iq 0),(12,iq 1),(13,iq 4),(14,iq 0),(15,iq 0),(16,iq 2),(17,iq 2),(18,iq 1),(19,iq 1),(20,iq 2),(21,iq 2),(22,iq 2),(23,iq 1),(24,iq 1),(25,iq 0),(26,iq 2),(27,iq 3),(28,iq 2),(29,iq 2),(30,iq 1)]) 95421440 f fun g h _ _=>GY 95421441 (.row [iq 0,iq 0,iq 0,iq 0,iq 0,iq 0,iq 0,iq 0,iq 0,iq 0,iq 0,iq 0,iq 0,iq 0,iq 0,iq 0,iq 0,iq 0,iq 0,iq 0,iq 0,iq 0,iq 0,iq 0,iq 0,iq 0,iq 0,iq 0,iq 0,iq 0,iq 0] false) (.ptr (.own 95421441) 0) h fun c i _ _=>Ae 31 c g i fun d _ _=>Hu EE 120 a (iq 0) fun b=>Aa b false d (fun j=>j a d [] []) fun k e _ _=>Aa b false e (fun l=>V4 EE 3 k (iq 31) fun m=>l m e [] []) fun o p _ _=>Xd b o p c a
theorem AtT a n b c:Au EE a ft.get n 91 [b] c=S91 a n b c:=by kernel_rfl
def Alk a b c:=
 Aa b true a (fun d=>leS EE 3 c (iq 3000) fun e=>d e a [] []) fun f g _ _=>AF b f bF fun h=>Al [h] g
def Al9 b c:=
 V4 EE 3 b (iq 0) fun a=>Aa a true c (fun e=>e b c [] []) fun f d _ _=>Aa a true d (fun g=>leS EE 3 f (iq 2) fun h=>g h d [] []) fun i j _ _=>AF a i bF fun k=>Al [k] j
def Al4 a b c:=
 Aa b true a (fun d=>leS EE 3 c (iq 4) fun e=>d e a [] []) fun f g _ _=>AF b f bF fun h=>Al [h] g
def AmC a b:=
 AK EE 3 a (iq 0) fun c=>Al [c] b
def AjB c b a:=
 AK EE 3 c (iq 26) fun e=>Ai e (V4 EE 3 b (iq 0) fun d=>Aa d true a (fun f=>f b a [] []) fun g h _ _=>Al4 h d g) (AK EE 3 c (iq 25) fun i=>Ai i (Al [bT] a) (AmC b a))
def S92 (j:Aj) (n:Nat) (c a:V) (b:H):O :=
 AK EE 3 c (iq 1) fun e=>Ai e (V4 EE 3 a (iq 0) fun d=>Aa d true b (fun f=>f a b [] []) fun g h _ _=>Alk h d g) (AK EE 3 c (iq 2) fun i=>Ai i (Al9 a b) (AjB c a b))
theorem Asu a n b c d:Au EE a ft.get n 92 [b,c] d=S92 a n b c d:=by kernel_rfl
def Akb b a:=
 AK EE 3 b (iq 13) fun c=>Ai c (Al [iq 4] a) (Al [.fv (.int .i64 (-1))] a)
def AlC c a b:=
 Ai c (Al [iq 2] a) (AK EE 3 b (iq 7) fun d=>Ai d (Al [iq 3] a) (Akb b a))
def Akd a (b:V->H->O) c d:=
 Ai a (b a c) (AK EE 3 d (iq 5) fun e=>b e c)
def Als c b a:=
 Ai c (Al [iq 1] b) ((fun (d:V->H->O)=>AK EE 3 a (iq 4) fun e=>Akd e d b a) fun f g=>AlC f g a)
def Amn a (b:V->H->O) c:=
 AK EE 3 a (iq 30) fun d=>b d c
def AlF a (b:V->H->O) c:=
 AK EE 3 a (iq 12) fun d=>Ai d (b d c) (AK EE 3 a (iq 19) fun e=>Ai e (b e c) (Amn a b c))
def S93 (h:Aj) (n:Nat) (a:V) (b:H):O :=
 (fun (c:V->H->O)=>AK EE 3 a (iq 8) fun d=>Ai d (c d b) (AK EE 3 a (iq 9) fun e=>Ai e (c e b) (AlF a c b))) fun f g=>Als f g a
theorem AsS a n b c:Au EE a ft.get n 93 [b] c=S93 a n b c:=by kernel_rfl
def Wt a b c d e:=
 A0 [true,false,false,false] false false a 103 [c,d,iq 1,e] b fun f g _ _=>Al [f] g
def Xb b a c d e:=
 Ac 2 b fun f=>Ah f a fun g _=>AN 1 g (iq 1) fun h=>Ah h a fun i _=>Ay (Ak EE 127 1 [(0,i)]) 98569224 a fun j k _ _=>Wt c k d e j
def W9 b a c d e f:=
 Ac 0 b fun g=>Ah g a fun h _=>AK EE 3 h (iq 4) fun i=>Ai i (AH c fun j=>Xb j a d e f) (Al [.fv .nilp] a)
def S94 (d:Aj) (n:Nat) (e b:V) (a:H):O :=
 AH b fun f=>Ac 2 f fun g=>Ah g a fun h _=>AN 1 h (iq 0) fun i=>Ah i a fun c _=>AH c fun j=>W9 j a b d e c
theorem AuL a n b c d:Au EE a ft.get n 94 [b,c] d=S94 a n b c d:=by kernel_rfl
def QR b a:=
 Ac 2 b fun c=>Ah c a fun d _=>AN 1 d (iq 1) fun e=>Ah e a fun f _=>Al [f] a
def RH b a:=
 Ac 2 b fun c=>Ah c a fun d _=>AN 1 d (iq 2) fun e=>Ah e a fun f _=>Al [f] a
def RB c a b:=
 Ac 0 c fun d=>Ah d a fun e _=>AK EE 3 e (iq 8) fun f=>Ai f (AH b fun g=>QR g a) (AH b fun h=>RH h a)
def Q3 b a c d:=
 Ac 0 b fun e=>Ah e a fun f _=>Ch EE 3 f (iq 7) fun g=>Ai g (Al [.fv .nilp] a) (AH c fun h=>RB h a d)
def S95 (i:Aj) (n:Nat) (j b:V) (a:H):O :=
 AH b fun d=>Ac 2 d fun e=>Ah e a fun f _=>AN 1 f (iq 0) fun g=>Ah g a fun c _=>AH c fun h=>Q3 h a b c
theorem AuC a n b c d:Au EE a ft.get n 95 [b,c] d=S95 a n b c d:=by kernel_rfl
def Q9 b a:=
 Ac 2 b fun c=>Ah c a fun d _=>AN 1 d (iq 1) fun e=>Ah e a fun f _=>Al [f] a
def Rl a b c d e f:=
 Ay (Ak EE 127 2 [(0,b),(1,c)]) 100671498 a fun g h i j=>Ab [] i j (A0 [true,false,false,false] false false d 103 [e,f,iq 2,g] h fun k l m n=>Ab [] m n (Al [k] l))
def Sn e a b c f g h:=
 AN 1 e (iq 0) fun i=>Ah i a fun j d=>Ab [] d [] (A0 [true,false] false false b 102 [c,f] a fun k l m n=>Ab [(d,[]),(g,[])] m n (Rl l j k b c h))
def T8 c d e a f g h i:=
 Ab [] c d (AH e fun j=>Ac 2 j fun k=>Ah k a fun l b=>Ab [] b [] (Sn l a f g h b i))
def Ro b c d e f g a h i j k:=
 Ab [(c,[]),(d,[])] b [] (Ay (Ak EE 127 4 [(0,.fv .nilp),(1,f),(2,.fv .nilp),(3,g)]) 100670476 e fun l m n o=>Ab [] n o (Ac 2 a fun p=>Bp p l m fun q r s=>T8 r s h q i j a k))
def RX d a b c e f g h i j:=
 Ac 2 d fun k=>Ah k a fun l m=>Ab [(b,[]),(c,[])] m [] (AN 1 l (iq 0) fun n=>Ah n a fun o p=>Ro p b c a e o f g h i j)
def SU a e b c f g h i:=
 Ab [] a [] (AN 1 e (iq 1) fun j=>Ah j b fun k d=>Ab [] d [] (AH c fun l=>RX l b d a k f c g h i))
def RI d e a f g h:=
 GY 100669443 (.row [iq 0,iq 0,.nils,iq 0,iq 0,.nils,.fv (.nilp)] false) (.ptr (.own 100669443) 0) d fun b i _ _=>Ae 7 b e i fun c _ _=>AH a fun j=>Ac 2 j fun k=>Ah k c fun l m=>SU m l c f b g h a
def Ra c b a d e f:=
 Ai c (AH b fun g=>Ad 7 g a fun h _=>RI a h b d e f) (Al [.fv .nilp] a)
def Rr d a b e f g:=
 Ac 0 d fun h=>Ah h a fun c _=>AK EE 3 c (iq 11) fun i=>Ai i (AH b fun j=>Q9 j a) (AK EE 3 c (iq 12) fun k=>Ra k b a e f g)
def S96 (d:Aj) (n:Nat) (e b:V) (a:H):O :=
 AH b fun f=>Ac 2 f fun g=>Ah g a fun h _=>AN 1 h (iq 3) fun i=>Ah i a fun c _=>AH c fun j=>Rr j a b c d e
theorem ArA a n b c d:Au EE a ft.get n 96 [b,c] d=S96 a n b c d:=by kernel_rfl
def S97 (a:Aj) (n:Nat) (f b:V) (c:H):O :=
 is0 a 109 [b,iq 19] c fun d e _ _=>Al [d] e
theorem ArW a n b c d:Au EE a ft.get n 97 [b,c] d=S97 a n b c d:=by kernel_rfl
def S98 (a:Aj) (n:Nat) (f b:V) (c:H):O :=
 is0 a 109 [b,iq 30] c fun d e _ _=>Al [d] e
theorem Arj a n b c d:Au EE a ft.get n 98 [b,c] d=S98 a n b c d:=by kernel_rfl
def Sr a b:=
 Bp b (iq 17) a fun c _ _=>Al [] c
def Rz b c d a:=
 AF b c bF fun e=>Ai e (AH d fun f=>Ac 3 f fun g=>Sr a g) (Al [] a)
def T4 c a d:=
 Aa a true c (fun h=>h d c [] []) fun i e _ _=>Aa a true e (fun j=>AH i fun k=>j k e [] []) fun l f _ _=>Aa a true f (fun m=>Ac 3 l fun n=>m n f [] []) fun o b _ _=>Aa a true b (fun p=>Ah o b fun q r=>p q b r []) fun s g _ _=>Aa a true g (fun t=>AK EE 36 s (iq 0) fun u=>t u g [] []) fun v w _ _=>Rz a v d w
def TM c d e a:=
 Bp d e c fun b _ _=>AH a fun f=>Ac 1 f fun g=>Ah g b fun h _=>Hu EE 3 h (iq 0) fun i=>T4 b i a
def S99 (i:Aj) (n:Nat) (a:V) (b:H):O :=
 AH a fun c=>Ac 1 c fun d=>Ah d b fun e _=>Bd EE 3 e (iq 1) fun f=>AH a fun g=>Ac 1 g fun h=>TM b h f a
theorem AuX a n b c:Au EE a ft.get n 99 [b] c=S99 a n b c:=by kernel_rfl
def Nv a b:=
 Ah b a fun c _=>Al [c] a
def M8 b a (c:List V->H->O) d:=
 Ac 1 b fun e=>Ah e a fun f _=>c [f,d] a
def MY c a b d (e:List V->H->O):=
 Ai c (AH a fun f=>Ac 0 f fun g=>Nv b g) (Bd EE 3 d (iq 1) fun h=>AH a fun i=>M8 i b e h)
def M5 a b:=
 By [iq 0,iq 0,.nils,iq 0,iq 0,.nils,.fv (.nilp)] [(0,1,iq 1),(1,1,a)] fun c=>AW 104863747 c b fun d e _ _=>Al [d] e
def K9 (d:List V) b (e:List V->H->O):=
 AD d fun c f=>AD f fun a _=>Ch EE 125 c (.fv .nilp) fun g=>Ai g (AK EE 3 a (iq 0) fun h=>MY h c b a e) (Bd EE 3 (.fv (.int .i64 (-1))) a fun i=>M5 i b)
def Ahv (g:Aj) (n:Nat) (a b:V) (c:H):O :=
 BH n (fun d e f=>K9 e f d) [a,b] c
theorem Anu a n b c d:Au EE a ft.get n 100 [b,c] d=Ahv a n b c d:=by kernel_rfl
def AoI (a:Aj) (n:Nat) (b c:V) (d:H):O :=
 FN EE a (.fv (.func (.func 110) [] [])) [b,c] d fun e f _ _=>Al [e] f
theorem An9 a n b c d:Au EE a ft.get n 101 [b,c] d=AoI a n b c d:=by kernel_rfl
def U1 a b (c:H->O):=
 Bp b (iq 17) a fun d _ _=>c d
def U2 c d a (b:H->O):=
 Ai c (AH d fun e=>Ac 3 e fun f=>U1 a f b) (b a)
def U8 c d e a (f:H->O):=
 Bp d e c fun b _ _=>AH a fun g=>Ac 0 g fun h=>Ah h b fun i _=>Hu EE 3 i (iq 0) fun j=>U2 j a b f
def Vl c a b (d:H->O):=
 Ac 0 c fun e=>Ah e a fun f _=>Bd EE 3 f (iq 1) fun g=>AH b fun h=>Ac 0 h fun i=>U8 a i g b d
def Vn c a d e b:=
 Ai c (Al [d] a) ((fun (f:H->O)=>AH b fun g=>Vl g a b f) fun h=>Al [e] h)
def VO c a f g h i:=
 Aa a false c (fun j=>AH f fun k=>j k c [] []) fun l d _ _=>Aa a false d (fun m=>Ac 3 l fun n=>m n d [] []) fun o b _ _=>Aa a false b (fun p=>Ah o b fun q r=>p q b r []) fun s e _ _=>Aa a false e (fun t=>Ch EE 36 s (iq 0) fun u=>t u e [] []) fun v w _ _=>AF a bT v fun x=>Vn x w g h i
def Vk g a h b c:=
 Ac 0 g fun i=>Ah i a fun j _=>FN EE h j [b] a fun d e _ _=>AK EE 96 d (.fv .nilp) fun f=>Aa f false e (fun k=>k c e [] []) fun l m _ _=>VO m f l b d c
def Uy b a c d e:=
 AH b fun f=>Ac 3 f fun g=>Ah g a fun h _=>Ch EE 36 h (iq 0) fun i=>Ai i (Al [c] a) (Vk d a e c b)
def VL a b g c d e h:=
 Aa b false a (fun i=>Ch EE 36 g (iq 0) fun j=>i j a [] []) fun k f _ _=>AF b bT k fun l=>Ai l (Al [c] f) (A0 [true] false false d 99 [e] f fun _ m _ _=>Uy e m c h d)
def Vg g c d h i j:=
 CF (Kg .not g) fun a=>Aa a false c (fun k=>k d c [] []) fun l e _ _=>Aa a false e (fun m=>AH l fun n=>m n e [] []) fun o f _ _=>Aa a false f (fun p=>Ac 3 o fun q=>p q f [] []) fun r b _ _=>Aa a false b (fun s=>Ah r b fun t u=>s t b u []) fun v w _ _=>VL w a v h i d j
def VS b c d e f g h i j k:=
 Aq 1 b fun l=>GY 106955788 (.row [.fv (.nilf)] false) (.ptr (.own 106955788) 0) c fun a m n o=>Ab [(d,e),(f,[]),(g,[])] n o (Bp a h m fun p q r=>Ab [] q r (Vg l p i j k a))
def Vj a g b h i j k:=
 Ah g a fun l c=>Ab [(b,[])] c [] (Ay (Hr EE 98 h l true) 106955784 a fun d m e f=>Ab [] e f (Aq 0 d fun n=>VS d m e f c b n i j k))
def S102 (e:Aj) (n:Nat) (a b:V) (c:H):O :=
 AH a fun f=>Ac 4 f fun g=>Ah g c fun h d=>Ab [] d [] (AH b fun i=>Ac 0 i fun j=>Vj c j d h a b e)
theorem AnY a n b c d:Au EE a ft.get n 102 [b,c] d=S102 a n b c d:=by kernel_rfl
def AaF b c a d e f g h i:=
 AN 3 b c fun j=>Ad 3 j a fun k l=>Ab [(d,e),(f,[])] l [] (A0 [true,false,false] false false g 71 [h,i,k] a fun m n o p=>Ab [] o p (Al [m] n))
def ZJ e a b c d f g h i:=
 AH e fun j=>Ac 3 j fun k=>Ac 2 k fun l=>Ah l a fun m n=>Ab [(b,c),(d,[])] n [] (AaF m f a b c d g h i)
def AqF (a:Aj) (n:Nat) (g b h i:V) (c:H):O :=
 AH b fun j=>Ac 6 j fun k=>Ah k c fun l d=>Ab [] d [] (is0 a 111 [l,i] c fun m o e f=>Ab [] e f (ZJ b o e f d h a g m))
theorem Apg a n b c d e f:Au EE a ft.get n 103 [b,c,d,e] f=AqF a n b c d e f:=by kernel_rfl
def KK d e a f b (g:List V->H->O) h i:=
 FN EE d a [f] e fun j c _ _=>Ai j (Al [b] c) (BD EE 3 b (iq 1) fun k=>g [h,a,i,k] c)
def Lk d b c a e f (g:List V->H->O) h:=
 Ai d (AN 3 b c fun i=>Ad 3 i a fun j _=>KK e a f j c g b h) (Al [.fv (.int .i64 (-1))] a)
def Np (c:List V) d e (f:List V->H->O):=
 AD c fun g h=>AD h fun i j=>AD j fun a k=>AD k fun b _=>Hu EE 3 b a fun l=>Lk l g b d e i f a
def Ww (b:Aj) (n:Nat) (a c:V) (d:H):O :=
 B9 a fun e=>BH n (fun f g h=>Np g h b f) [a,c,e,iq 0] d
theorem Ap8 a n b c d:Au EE a ft.get n 104 [b,c] d=Ww a n b c d:=by kernel_rfl
def Afh a d b:=
 Aq 0 a fun e=>Aq 1 a fun f=>Ae 3 b e d fun c _ _=>Ar true 3 b c fun g=>Al [g,f] c
def Zz c a d:=
 Ae 3 a d c fun b e f=>Ab [] e f (Ar true 3 a b fun g=>Al [g,iq 0] b)
def Ahb a b c d e:=
 Ab [] a [] (is0 b 24 [iq 11,.nils] c fun f g h i=>Ab [(a,[])] h i (is0 b 67 [d,iq 0,f] g fun j k l m=>Ab [] l m (Zz k e j)))
def AmZ (a:Aj) (n:Nat) (f:V) (g:H):O :=
 AW 110100480 f g fun c h _ _=>nw0 110100481 h fun d e _ _=>Ad 3 c e fun i _=>is0 a 107 [i,iq 0] e fun j b _ _=>Ai j (is0 a 44 [iq 14] b fun k l _ _=>Afh k l d) (Ad 3 c b fun m o=>Ahb o a b m d)
theorem Ant a n b c:Au EE a ft.get n 105 [b] c=AmZ a n b c:=by kernel_rfl
def ApN a d e f b:=
 is0 a 24 [iq 12,e] d fun g h _ _=>is0 a 67 [f,iq 0,g] h fun i j _ _=>Ae 3 b i j fun c _ _=>Ar true 3 b c fun k=>Al [k] c
def Awr (a:Aj) (n:Nat) (c:V) (d:H):O :=
 AW 111149056 c d fun e f _ _=>nw0 111149057 f fun g b _ _=>Ad 3 e b fun h _=>is0 a 45 [h,iq 2,iq 1] b fun i j _ _=>is0 a 25 [iq 1] j fun k l _ _=>Ay (Ak EE 28 1 [(0,k)]) 111150083 l fun m o _ _=>ApN a o m i g
theorem Aqm a n b c:Au EE a ft.get n 106 [b] c=Awr a n b c:=by kernel_rfl
def Jd a b c:=
 Ah b a fun d _=>AK EE 3 d c fun e=>Al [e] a
def IX a c d e f g (h:List V->H->O) i:=
 BD EE 3 a c fun j=>is0 d 107 [f,j] e fun k b l m=>Ab [] l m (Ai k (Al [bT] b) (BD EE 3 g (iq 1) fun n=>h [a,i,n] b))
def IP a b c d e f g h (i:List V->H->O):=
 Ac 0 a fun j=>Ah j b fun k l=>Ab [(c,[]),(d,[])] l [] (is0 e 54 [k,f] b fun m n o p=>Ab [(c,[]),(d,[])] o p (IX g m e n h f i a))
def IE a e b f g h (i:List V->H->O):=
 Ah e a fun j c=>Ab [] c [] (AN 3 j b fun k=>Ad 3 k a fun l d=>Ab [] d [] (IP f a d c g b h l i))
def Jg d a b c e f (g:List V->H->O):=
 B9 d fun h=>Hu EE 3 a h fun i=>Ai i (Ac 2 b fun j=>IE c j a b e f g) (Al [bF] c)
def Nt (c:List V) a d (e:List V->H->O):=
 AD c fun f g=>AD g fun b h=>AD h fun i _=>Ac 2 b fun j=>Ah j a fun k _=>Jg k i b a d f e
def UX (d:Aj) (n:Nat) (e c:V) (f:H):O :=
 AW 112197632 e f fun a b _ _=>Ac 0 a fun g=>Ah g b fun h _=>AK EE 3 h (iq 1) fun i=>Ai i (Ac 1 a fun j=>Jd b j c) (BH n (fun k l m=>Nt l m d k) [c,a,iq 0] b)
theorem Ap3 a n b c d:Au EE a ft.get n 107 [b,c] d=UX a n b c d:=by kernel_rfl
def Uc b a:=
 AH b fun c=>Ac 2 c fun d=>Ah d a fun e _=>AK EE 3 e (iq 0) fun f=>Al [f] a
def Q5 a b (c:H->O):=
 Bp b (iq 17) a fun d _ _=>c d
def TN c d a (b:H->O):=
 LU EE 3 c (iq 1000) fun e=>Ai e (AH d fun f=>Ac 2 f fun g=>Q5 a g b) (b a)
def Sj c d e a:=
 Bp d e c fun b _ _=>(fun (f:H->O)=>AH a fun g=>Ac 0 g fun h=>Ah h b fun i _=>TN i a b f) fun j=>Uc a j
def AiL (i:Aj) (n:Nat) (a:V) (b:H):O :=
 AH a fun c=>Ac 0 c fun d=>Ah d b fun e _=>BD EE 3 e (iq 1) fun f=>AH a fun g=>Ac 0 g fun h=>Sj b h f a
theorem ApJ a n b c:Au EE a ft.get n 108 [b] c=AiL a n b c:=by kernel_rfl
def SO b a:=
 Ac 2 b fun c=>Ah c a fun d _=>AN 1 d (iq 0) fun e=>Ah e a fun f _=>Al [f] a
def RY b a:=
 Ac 2 b fun c=>Ah c a fun d _=>AN 1 d (iq 0) fun e=>Ah e a fun f _=>AH f fun g=>SO g a
def RO b a c d:=
 Ac 0 b fun e=>Ah e a fun f _=>Ch EE 3 f c fun g=>Ai g (Al [.fv .nilp] a) (AH d fun h=>RY h a)
def Aju (j:Aj) (n:Nat) (b c:V) (a:H):O :=
 AH b fun d=>Ac 2 d fun e=>Ah e a fun f _=>AN 1 f (iq 0) fun g=>Ah g a fun h _=>AH h fun i=>RO i a c b
theorem AoG a n b c d:Au EE a ft.get n 109 [b,c] d=Aju a n b c d:=by kernel_rfl
def Aas b a (c:H->O):=
 AK EE 3 b (iq 0) fun d=>Ai d (Al [iq 1] a) (AK EE 3 b (iq 2) fun e=>Ai e (Al [iq 2] a) (c a))
def Aey d c a (b:H->O) e:=
 Ai d (AK EE 3 c (iq 1) fun f=>Ai f (Al [iq 1] a) (b a)) (AK EE 3 e (iq 13) fun g=>Ai g (Aas c a b) (b a))
def Ag7 a (b:V->H->O) c:=
 AK EE 3 a (iq 29) fun d=>b d c
def ZM a (b:V->H->O) c:=
 AK EE 3 a (iq 20) fun d=>Ai d (b d c) (AK EE 3 a (iq 28) fun e=>Ai e (b e c) (Ag7 a b c))
def AgS c (a:V->H->O) b d:=
 Ai c (a c b) (AK EE 3 d (iq 6) fun e=>Ai e (a e b) (ZM d a b))
def S110 (k:Aj) (n:Nat) (a e:V) (b:H):O :=
 (fun (f:H->O)=>(fun (c:V->H->O)=>AK EE 3 a (iq 3) fun d=>Ai d (c d b) (AK EE 3 a (iq 4) fun g=>AgS g c b a)) fun h i=>Aey h e i f a) fun j=>Al [iq 0] j
theorem AnM a n b c d:Au EE a ft.get n 110 [b,c] d=S110 a n b c d:=by kernel_rfl
def Nw f g h i (j:H) a b (k:List V->H->O):=
 By [.fv (.nilp),.fv (.nilp)] [(0,1,f),(1,1,g)] fun c=>fzS (K5 true 116396035 c) 116396035 c h fun d l _ _=>BD EE 3 i (iq 1) fun e=>Bx (j.own.map (·.1)) [116396035] [d,a,b,e] l fun m=>k [d,a,b,e] m
def NB e b c a d f g (h:List V->H->O):=
 Ai e (AN 1 b c fun i=>Ah i a fun j _=>Nw j d a c f b g h) (Al [d] a)
def Tl (c:List V) d e (f:List V->H->O):=
 AD c fun g h=>AD h fun i j=>AD j fun a k=>AD k fun b _=>Hu EE 3 b a fun l=>NB l i b d g e a f
def Ait (i:Aj) (n:Nat) (c a:V) (b:H):O :=
 B9 a fun d=>Bx (b.own.map (·.1)) [116396035] [c,a,d,iq 0] b fun e=>BH n (fun f g h=>Tl g h b f) [c,a,d,iq 0] e
theorem Ao9 a n b c d:Au EE a ft.get n 111 [b,c] d=Ait a n b c d:=by kernel_rfl
end
noncomputable section
def dt:DT :=
 .node 65 (.node 39 (.node 24 (.node 15 (.node 12 (.node 11 (.leaf 3 (fun ih n=>G9 (S3 ih n)))
 (.leaf 11 (fun ih n=>PD (S11 ih n))))
 (.node 13 (.leaf 12 (fun ih n=>Mq (S12 ih n)))
 (.node 14 (.leaf 13 (fun ih n=>V6 (S13 ih n)))
 (.leaf 14 (fun ih n=>Mq (S14 ih n))))))
 (.node 18 (.node 16 (.leaf 15 (fun ih n=>Mq (S15 ih n)))
 (.node 17 (.leaf 16 (fun ih n=>Mq (S16 ih n)))
 (.leaf 17 (fun ih n=>G9 (S17 ih n)))))
 (.node 19 (.leaf 18 (fun ih n=>Mq (S18 ih n)))
 (.node 20 (.leaf 19 (fun ih n=>G9 (S19 ih n)))
 (.leaf 20 (fun ih n=>ar3 (S20 ih n)))))))
 (.node 33 (.node 27 (.node 25 (.leaf 24 (fun ih n=>G9 (S24 ih n)))
 (.node 26 (.leaf 25 (fun ih n=>Mq (S25 ih n)))
 (.leaf 26 (fun ih n=>Mq (S26 ih n)))))
 (.node 28 (.leaf 27 (fun ih n=>Mq (S27 ih n)))
 (.node 29 (.leaf 28 (fun ih n=>G9 (S28 ih n)))
 (.leaf 29 (fun ih n=>Mq (S29 ih n))))))
 (.node 36 (.node 34 (.leaf 33 (fun ih n=>V6 (S33 ih n)))
 (.node 35 (.leaf 34 (fun ih n=>Mq (S34 ih n)))
 (.leaf 35 (fun ih n=>Mq (S35 ih n)))))
 (.node 37 (.leaf 36 (fun ih n=>G9 (S36 ih n)))
 (.node 38 (.leaf 37 (fun ih n=>Mq (S37 ih n)))
 (.leaf 38 (fun ih n=>ar3 (S38 ih n))))))))
 (.node 50 (.node 44 (.node 41 (.node 40 (.leaf 39 (fun ih n=>V6 (S39 ih n)))
 (.leaf 40 (fun ih n=>Mq (S40 ih n))))
 (.node 42 (.leaf 41 (fun ih n=>Mq (S41 ih n)))
 (.node 43 (.leaf 42 (fun ih n=>G9 (S42 ih n)))
 (.leaf 43 (fun ih n=>G9 (S43 ih n))))))
 (.node 47 (.node 45 (.leaf 44 (fun ih n=>Mq (S44 ih n)))
 (.node 46 (.leaf 45 (fun ih n=>ar3 (S45 ih n)))
 (.leaf 46 (fun ih n=>G9 (S46 ih n)))))
 (.node 48 (.leaf 47 (fun ih n=>Mq (S47 ih n)))
 (.node 49 (.leaf 48 (fun ih n=>V6 (S48 ih n)))
 (.leaf 49 (fun ih n=>V6 (S49 ih n)))))))
 (.node 59 (.node 55 (.node 52 (.leaf 50 (fun ih n=>G9 (S50 ih n)))
 (.node 54 (.leaf 52 (fun ih n=>Mq (S52 ih n)))
 (.leaf 54 (fun ih n=>G9 (S54 ih n)))))
 (.node 56 (.leaf 55 (fun ih n=>G9 (S55 ih n)))
 (.node 58 (.leaf 56 (fun ih n=>G9 (S56 ih n)))
 (.leaf 58 (fun ih n=>V6 (S58 ih n))))))
 (.node 62 (.node 60 (.leaf 59 (fun ih n=>V6 (S59 ih n)))
 (.node 61 (.leaf 60 (fun ih n=>ar3 (S60 ih n)))
 (.leaf 61 (fun ih n=>V6 (S61 ih n)))))
 (.node 63 (.leaf 62 (fun ih n=>ar3 (S62 ih n)))
 (.node 64 (.leaf 63 (fun ih n=>ar3 (S63 ih n)))
 (.leaf 64 (fun ih n=>PD (S64 ih n)))))))))
 (.node 88 (.node 76 (.node 70 (.node 67 (.node 66 (.leaf 65 (fun ih n=>V6 (S65 ih n)))
 (.leaf 66 (fun ih n=>V6 (S66 ih n))))
 (.node 68 (.leaf 67 (fun ih n=>ar3 (S67 ih n)))
 (.node 69 (.leaf 68 (fun ih n=>ar3 (S68 ih n)))
 (.leaf 69 (fun ih n=>Mq (S69 ih n))))))
 (.node 73 (.node 71 (.leaf 70 (fun ih n=>PD (S70 ih n)))
 (.node 72 (.leaf 71 (fun ih n=>ar3 (S71 ih n)))
 (.leaf 72 (fun ih n=>V6 (S72 ih n)))))
 (.node 74 (.leaf 73 (fun ih n=>G9 (S73 ih n)))
 (.node 75 (.leaf 74 (fun ih n=>G9 (S74 ih n)))
 (.leaf 75 (fun ih n=>ar3 (S75 ih n)))))))
 (.node 82 (.node 79 (.node 77 (.leaf 76 (fun ih n=>G9 (S76 ih n)))
 (.node 78 (.leaf 77 (fun ih n=>G9 (S77 ih n)))
 (.leaf 78 (fun ih n=>ar3 (S78 ih n)))))
 (.node 80 (.leaf 79 (fun ih n=>ar3 (S79 ih n)))
 (.node 81 (.leaf 80 (fun ih n=>V6 (S80 ih n)))
 (.leaf 81 (fun ih n=>G9 (S81 ih n))))))
 (.node 85 (.node 83 (.leaf 82 (fun ih n=>G9 (S82 ih n)))
 (.node 84 (.leaf 83 (fun ih n=>G9 (S83 ih n)))
 (.leaf 84 (fun ih n=>G9 (S84 ih n)))))
 (.node 86 (.leaf 85 (fun ih n=>G9 (S85 ih n)))
 (.node 87 (.leaf 86 (fun ih n=>Mq (S86 ih n)))
 (.leaf 87 (fun ih n=>G9 (S87 ih n))))))))
 (.node 100 (.node 94 (.node 91 (.node 89 (.leaf 88 (fun ih n=>G9 (S88 ih n)))
 (.node 90 (.leaf 89 (fun ih n=>G9 (S89 ih n)))
 (.leaf 90 (fun ih n=>V6 (S90 ih n)))))
 (.node 92 (.leaf 91 (fun ih n=>Mq (S91 ih n)))
 (.node 93 (.leaf 92 (fun ih n=>G9 (S92 ih n)))
 (.leaf 93 (fun ih n=>Mq (S93 ih n))))))
 (.node 97 (.node 95 (.leaf 94 (fun ih n=>G9 (S94 ih n)))
 (.node 96 (.leaf 95 (fun ih n=>G9 (S95 ih n)))
 (.leaf 96 (fun ih n=>G9 (S96 ih n)))))
 (.node 98 (.leaf 97 (fun ih n=>G9 (S97 ih n)))
 (.node 99 (.leaf 98 (fun ih n=>G9 (S98 ih n)))
 (.leaf 99 (fun ih n=>Mq (S99 ih n)))))))
 (.node 106 (.node 103 (.node 101 (.leaf 100 (fun ih n=>G9 (Ahv ih n)))
 (.node 102 (.leaf 101 (fun ih n=>G9 (AoI ih n)))
 (.leaf 102 (fun ih n=>G9 (S102 ih n)))))
 (.node 104 (.leaf 103 (fun ih n=>V6 (AqF ih n)))
 (.node 105 (.leaf 104 (fun ih n=>G9 (Ww ih n)))
 (.leaf 105 (fun ih n=>Mq (AmZ ih n))))))
 (.node 109 (.node 107 (.leaf 106 (fun ih n=>Mq (Awr ih n)))
 (.node 108 (.leaf 107 (fun ih n=>G9 (UX ih n)))
 (.leaf 108 (fun ih n=>Mq (AiL ih n)))))
 (.node 110 (.leaf 109 (fun ih n=>G9 (Aju ih n)))
 (.node 111 (.leaf 110 (fun ih n=>G9 (S110 ih n)))
 (.leaf 111 (fun ih n=>G9 (Ait ih n)))))))))
theorem AvE:dt.Ok EE ft.get :=
 ⟨⟨⟨⟨⟨⟨(fun ih n _ _ _ e=>A3 (F:=Au EE ih ft.get n 3) (AvM ih n) e),
 (fun ih n _ _ _ e=>WD (F:=Au EE ih ft.get n 11) (AuM ih n) e)⟩,
 ⟨(fun ih n _ _ _ e=>BN (F:=Au EE ih ft.get n 12) (AuY ih n) e),
 ⟨(fun ih n _ _ _ e=>DN (F:=Au EE ih ft.get n 13) (Ar8 ih n) e),
 (fun ih n _ _ _ e=>BN (F:=Au EE ih ft.get n 14) (AuS ih n) e)⟩⟩⟩,
 ⟨⟨(fun ih n _ _ _ e=>BN (F:=Au EE ih ft.get n 15) (Auc ih n) e),
 ⟨(fun ih n _ _ _ e=>BN (F:=Au EE ih ft.get n 16) (Atx ih n) e),
 (fun ih n _ _ _ e=>A3 (F:=Au EE ih ft.get n 17) (ArQ ih n) e)⟩⟩,
 ⟨(fun ih n _ _ _ e=>BN (F:=Au EE ih ft.get n 18) (AuI ih n) e),
 ⟨(fun ih n _ _ _ e=>A3 (F:=Au EE ih ft.get n 19) (AtN ih n) e),
 (fun ih n _ _ _ e=>Fi (F:=Au EE ih ft.get n 20) (AsO ih n) e)⟩⟩⟩⟩,
 ⟨⟨⟨(fun ih n _ _ _ e=>A3 (F:=Au EE ih ft.get n 24) (AuF ih n) e),
 ⟨(fun ih n _ _ _ e=>BN (F:=Au EE ih ft.get n 25) (Aut ih n) e),
 (fun ih n _ _ _ e=>BN (F:=Au EE ih ft.get n 26) (Asp ih n) e)⟩⟩,
 ⟨(fun ih n _ _ _ e=>BN (F:=Au EE ih ft.get n 27) (Atr ih n) e),
 ⟨(fun ih n _ _ _ e=>A3 (F:=Au EE ih ft.get n 28) (At0 ih n) e),
 (fun ih n _ _ _ e=>BN (F:=Au EE ih ft.get n 29) (AtU ih n) e)⟩⟩⟩,
 ⟨⟨(fun ih n _ _ _ e=>DN (F:=Au EE ih ft.get n 33) (AtV ih n) e),
 ⟨(fun ih n _ _ _ e=>BN (F:=Au EE ih ft.get n 34) (AsN ih n) e),
 (fun ih n _ _ _ e=>BN (F:=Au EE ih ft.get n 35) (AtW ih n) e)⟩⟩,
 ⟨(fun ih n _ _ _ e=>A3 (F:=Au EE ih ft.get n 36) (AsG ih n) e),
 ⟨(fun ih n _ _ _ e=>BN (F:=Au EE ih ft.get n 37) (Auj ih n) e),
 (fun ih n _ _ _ e=>Fi (F:=Au EE ih ft.get n 38) (Asa ih n) e)⟩⟩⟩⟩⟩,
 ⟨⟨⟨⟨(fun ih n _ _ _ e=>DN (F:=Au EE ih ft.get n 39) (Aty ih n) e),
 (fun ih n _ _ _ e=>BN (F:=Au EE ih ft.get n 40) (ArC ih n) e)⟩,
 ⟨(fun ih n _ _ _ e=>BN (F:=Au EE ih ft.get n 41) (Aul ih n) e),
 ⟨(fun ih n _ _ _ e=>A3 (F:=Au EE ih ft.get n 42) (AtE ih n) e),
 (fun ih n _ _ _ e=>A3 (F:=Au EE ih ft.get n 43) (Au4 ih n) e)⟩⟩⟩,
 ⟨⟨(fun ih n _ _ _ e=>BN (F:=Au EE ih ft.get n 44) (AsJ ih n) e),
 ⟨(fun ih n _ _ _ e=>Fi (F:=Au EE ih ft.get n 45) (ArX ih n) e),
 (fun ih n _ _ _ e=>A3 (F:=Au EE ih ft.get n 46) (Atn ih n) e)⟩⟩,
 ⟨(fun ih n _ _ _ e=>BN (F:=Au EE ih ft.get n 47) (At3 ih n) e),
 ⟨(fun ih n _ _ _ e=>DN (F:=Au EE ih ft.get n 48) (AsQ ih n) e),
 (fun ih n _ _ _ e=>DN (F:=Au EE ih ft.get n 49) (Atj ih n) e)⟩⟩⟩⟩,
 ⟨⟨⟨(fun ih n _ _ _ e=>A3 (F:=Au EE ih ft.get n 50) (At7 ih n) e),
 ⟨(fun ih n _ _ _ e=>BN (F:=Au EE ih ft.get n 52) (AsU ih n) e),
 (fun ih n _ _ _ e=>A3 (F:=Au EE ih ft.get n 54) (AuU ih n) e)⟩⟩,
 ⟨(fun ih n _ _ _ e=>A3 (F:=Au EE ih ft.get n 55) (ArE ih n) e),
 ⟨(fun ih n _ _ _ e=>A3 (F:=Au EE ih ft.get n 56) (Aus ih n) e),
 (fun ih n _ _ _ e=>DN (F:=Au EE ih ft.get n 58) (Au1 ih n) e)⟩⟩⟩,
 ⟨⟨(fun ih n _ _ _ e=>DN (F:=Au EE ih ft.get n 59) (AsT ih n) e),
 ⟨(fun ih n _ _ _ e=>Fi (F:=Au EE ih ft.get n 60) (Ata ih n) e),
 (fun ih n _ _ _ e=>DN (F:=Au EE ih ft.get n 61) (Atf ih n) e)⟩⟩,
 ⟨(fun ih n _ _ _ e=>Fi (F:=Au EE ih ft.get n 62) (AsD ih n) e),
 ⟨(fun ih n _ _ _ e=>Fi (F:=Au EE ih ft.get n 63) (At6 ih n) e),
 (fun ih n _ _ _ e=>WD (F:=Au EE ih ft.get n 64) (Atc ih n) e)⟩⟩⟩⟩⟩⟩,
 ⟨⟨⟨⟨⟨(fun ih n _ _ _ e=>DN (F:=Au EE ih ft.get n 65) (AsF ih n) e),
 (fun ih n _ _ _ e=>DN (F:=Au EE ih ft.get n 66) (Ase ih n) e)⟩,
 ⟨(fun ih n _ _ _ e=>Fi (F:=Au EE ih ft.get n 67) (AtK ih n) e),
 ⟨(fun ih n _ _ _ e=>Fi (F:=Au EE ih ft.get n 68) (Atk ih n) e),
 (fun ih n _ _ _ e=>BN (F:=Au EE ih ft.get n 69) (Auu ih n) e)⟩⟩⟩,
 ⟨⟨(fun ih n _ _ _ e=>WD (F:=Au EE ih ft.get n 70) (AsV ih n) e),
 ⟨(fun ih n _ _ _ e=>Fi (F:=Au EE ih ft.get n 71) (Asz ih n) e),
 (fun ih n _ _ _ e=>DN (F:=Au EE ih ft.get n 72) (Atd ih n) e)⟩⟩,
 ⟨(fun ih n _ _ _ e=>A3 (F:=Au EE ih ft.get n 73) (AuQ ih n) e),
 ⟨(fun ih n _ _ _ e=>A3 (F:=Au EE ih ft.get n 74) (AuP ih n) e),
 (fun ih n _ _ _ e=>Fi (F:=Au EE ih ft.get n 75) (ArZ ih n) e)⟩⟩⟩⟩,
 ⟨⟨⟨(fun ih n _ _ _ e=>A3 (F:=Au EE ih ft.get n 76) (ArS ih n) e),
 ⟨(fun ih n _ _ _ e=>A3 (F:=Au EE ih ft.get n 77) (Atz ih n) e),
 (fun ih n _ _ _ e=>Fi (F:=Au EE ih ft.get n 78) (Atw ih n) e)⟩⟩,
 ⟨(fun ih n _ _ _ e=>Fi (F:=Au EE ih ft.get n 79) (Ark ih n) e),
 ⟨(fun ih n _ _ _ e=>DN (F:=Au EE ih ft.get n 80) (ArM ih n) e),
 (fun ih n _ _ _ e=>A3 (F:=Au EE ih ft.get n 81) (Arm ih n) e)⟩⟩⟩,
 ⟨⟨(fun ih n _ _ _ e=>A3 (F:=Au EE ih ft.get n 82) (Ar7 ih n) e),
 ⟨(fun ih n _ _ _ e=>A3 (F:=Au EE ih ft.get n 83) (Au0 ih n) e),
 (fun ih n _ _ _ e=>A3 (F:=Au EE ih ft.get n 84) (Arl ih n) e)⟩⟩,
 ⟨(fun ih n _ _ _ e=>A3 (F:=Au EE ih ft.get n 85) (Ary ih n) e),
 ⟨(fun ih n _ _ _ e=>BN (F:=Au EE ih ft.get n 86) (AsI ih n) e),
 (fun ih n _ _ _ e=>A3 (F:=Au EE ih ft.get n 87) (Aux ih n) e)⟩⟩⟩⟩⟩,
 ⟨⟨⟨⟨(fun ih n _ _ _ e=>A3 (F:=Au EE ih ft.get n 88) (Asn ih n) e),
 ⟨(fun ih n _ _ _ e=>A3 (F:=Au EE ih ft.get n 89) (AuO ih n) e),
 (fun ih n _ _ _ e=>DN (F:=Au EE ih ft.get n 90) (Ar6 ih n) e)⟩⟩,
 ⟨(fun ih n _ _ _ e=>BN (F:=Au EE ih ft.get n 91) (AtT ih n) e),
 ⟨(fun ih n _ _ _ e=>A3 (F:=Au EE ih ft.get n 92) (Asu ih n) e),
 (fun ih n _ _ _ e=>BN (F:=Au EE ih ft.get n 93) (AsS ih n) e)⟩⟩⟩,
 ⟨⟨(fun ih n _ _ _ e=>A3 (F:=Au EE ih ft.get n 94) (AuL ih n) e),
 ⟨(fun ih n _ _ _ e=>A3 (F:=Au EE ih ft.get n 95) (AuC ih n) e),
 (fun ih n _ _ _ e=>A3 (F:=Au EE ih ft.get n 96) (ArA ih n) e)⟩⟩,
 ⟨(fun ih n _ _ _ e=>A3 (F:=Au EE ih ft.get n 97) (ArW ih n) e),
 ⟨(fun ih n _ _ _ e=>A3 (F:=Au EE ih ft.get n 98) (Arj ih n) e),
 (fun ih n _ _ _ e=>BN (F:=Au EE ih ft.get n 99) (AuX ih n) e)⟩⟩⟩⟩,
 ⟨⟨⟨(fun ih n _ _ _ e=>A3 (F:=Au EE ih ft.get n 100) (Anu ih n) e),
 ⟨(fun ih n _ _ _ e=>A3 (F:=Au EE ih ft.get n 101) (An9 ih n) e),
 (fun ih n _ _ _ e=>A3 (F:=Au EE ih ft.get n 102) (AnY ih n) e)⟩⟩,
 ⟨(fun ih n _ _ _ e=>DN (F:=Au EE ih ft.get n 103) (Apg ih n) e),
 ⟨(fun ih n _ _ _ e=>A3 (F:=Au EE ih ft.get n 104) (Ap8 ih n) e),
 (fun ih n _ _ _ e=>BN (F:=Au EE ih ft.get n 105) (Ant ih n) e)⟩⟩⟩,
 ⟨⟨(fun ih n _ _ _ e=>BN (F:=Au EE ih ft.get n 106) (Aqm ih n) e),
 ⟨(fun ih n _ _ _ e=>A3 (F:=Au EE ih ft.get n 107) (Ap3 ih n) e),
 (fun ih n _ _ _ e=>BN (F:=Au EE ih ft.get n 108) (ApJ ih n) e)⟩⟩,
 ⟨(fun ih n _ _ _ e=>A3 (F:=Au EE ih ft.get n 109) (AoG ih n) e),
 ⟨(fun ih n _ _ _ e=>A3 (F:=Au EE ih ft.get n 110) (AnM ih n) e),
 (fun ih n _ _ _ e=>A3 (F:=Au EE ih ft.get n 111) (Ao9 ih n) e)⟩⟩⟩⟩⟩⟩⟩
theorem At9:∀n f args h x,SS dt n f args h=some x->run EE n f args h=some x:=AxC AwF AvE
end
end Idl
end Go.Proofs.Ytkfecngimlcfoaa

/-
  Texts of a proof, part 9: an ideal semantics of the program, its functions in shallow form, contracts of them. No statement of the seat is proved here.
-/
import Derived.Test.YtaifgaidaglblaaEqualThreeK8
set_option linter.all false
noncomputable section
set_option maxRecDepth 100000
set_option linter.unusedVariables false
namespace Go.Proofs.Ytaifgaidaglblaa
namespace Idl
noncomputable section
def LF (d e:Hp) (a b c:IV) (f:List IV→Hp→OH):OH :=
 Bf (d.own.map (·.1)) [66066434] [a,b,c] e fun g=>f [a,b,c] g
def Ko (b:Aa) (c:Hp) (d e:IV) (f:Hp) (g h:IV) (i:List IV→Hp→OH):OH :=
 Al [] false false b 63 [d] c fun j a _ _=>CL (L5 .not j) fun k=>Am k (An [.fv (.bool false)] a) (By EE 3 e (.fv (.int .i64 1)) fun l=>LF f a g h l i)
def LV (a b:IV) (c:Hp) (f:Aa) (g:Hp) (h:IV) (i:List IV→Hp→OH):OH :=
 A7 3 a b fun j=>Ai 3 j c fun k _=>AH 66066434 (.row [.fv (.int .i64 0),.fv (.int .i64 0),.nils] false) (.ptr (.own 66066434) 0) c fun d l _ _=>Ak 3 d k l fun e _ _=>Ai 3 d e fun m _=>Ko f e m b g a h i
def KA (d:List IV) (a:Hp) (e:Aa) (f:Hp) (g:List IV→Hp→OH):OH :=
 Av d fun h i=>Av i fun b j=>Av j fun c _=>G8 EE 3 c b fun k=>Am k (LV h c a e f b g) (An [.fv (.bool true)] a)
def LI (e:IV) (b c:Hp) (n:Nat) (f:Aa):OH :=
 Ac 2 e fun g=>Af g b fun a _=>BS a fun d=>Bf (c.own.map (·.1)) [66066434] [a,d,.fv (.int .i64 0)] b fun h=>BF n (fun i j k=>KA j k f c i) [a,d,.fv (.int .i64 0)] h
def Kn (a:Hp) (b g c h:IV) (i:Hp) (n:Nat) (j:Aa):OH :=
 Ab b true a (fun k=>Af g a fun l m=>k l a m []) fun o d _ _=>Ab b true d (fun p=>G8 EE 3 o (.fv (.int .i64 0)) fun q=>p q d [] []) fun r e _ _=>Ab c false e (fun s=>AG b r (.fv (.bool false)) fun t=>s t e [] []) fun u f _ _=>AG c (.fv (.bool true)) u fun v=>Am v (An [.fv (.bool false)] f) (LI h f i n j)
def Lr (d:Hp) (a b:IV) (i:Hp) (n:Nat) (j:Aa):OH :=
 Ab a false d (fun k=>Ac 0 b fun l=>k l d [] []) fun m c _ _=>Ab a false c (fun o=>Af m c fun p q=>o p c q []) fun r e _ _=>Ab a false e (fun s=>A5 EE 3 r (.fv (.int .i64 1)) fun t=>s t e [] []) fun u f _ _=>Ab a false f (fun v=>v u f [] []) fun g h _ _=>Ab g true h (fun w=>Ac 1 b fun x=>w x h [] []) fun y z _ _=>Kn z g y a b i n j
def Kq (c:Hp) (a d g:IV) (h:Hp) (n:Nat) (i:Aa):OH :=
 Ab a true c (fun j=>Ac 2 d fun k=>j k c [] []) fun l b _ _=>Ab a true b (fun m=>Af l b fun o p=>m o b p []) fun q e _ _=>Ab a true e (fun r=>BS q fun s=>r s e [] []) fun t f _ _=>Ab a true f (fun u=>Ha EE 3 g t fun v=>u v f [] []) fun w x _ _=>AG a w (.fv (.bool false)) fun y=>Lr x y d h n i
def S63 (a:Aa) (n:Nat) (h:IV) (b:Hp):OH :=
 A2 66060288 h b fun c d _ _=>Ac 0 c fun i=>Af i d fun j _=>Al [] false false a 71 [j] d fun e f _ _=>geS EE 3 e (.fv (.int .i64 0)) fun g=>Ab g true f (fun k=>k e f [] []) fun l m _ _=>Kq m g c l b n a
theorem AoS (a:Aa) (n:Nat) (b:IV) (c:Hp):Aw EE a ft.get n 63 [b] c=S63 a n b c:=by kernel_rfl
def Rc (a:IV) (b:Hp) (c:IV):OH :=
 AF a fun d=>Ac 4 d fun e=>BA e c b fun f _ _=>An [a] f
def TL (c:IV) (d:Hp) (a b:IV):OH :=
 BC [.fv (.nilf)] [(0,1,c)] fun e=>AB (Cb EE 100 a (.fv (.int .i64 30)) e) 67110933 d fun _ f _ _=>AB (val (CQ (.func 76) [b] [])) 67110935 f fun g h _ _=>BC [.fv (.nilf)] [(0,1,g)] fun i=>AB (Cb EE 100 a (.fv (.int .i64 19)) i) 67110937 h fun _ j _ _=>Rc b j a
def Rr (c:Hp) (a d b:IV):OH :=
 AB (Cb EE 100 a (.fv (.int .i64 9)) d) 67110925 c fun _ e _ _=>AB (val (CQ (.func 74) [b] [])) 67110927 e fun f g _ _=>BC [.fv (.nilf)] [(0,1,f)] fun h=>AB (Cb EE 100 a (.fv (.int .i64 13)) h) 67110929 g fun _ i _ _=>AB (val (CQ (.func 75) [b] [])) 67110931 i fun j k _ _=>TL j k a b
def W1 (c:Hp) (a b:IV):OH :=
 AB (val (CQ (.func 73) [a] [])) 67110919 c fun d e _ _=>BC [.fv (.nilf)] [(0,1,d)] fun f=>AB (Cb EE 100 b (.fv (.int .i64 8)) f) 67110921 e fun _ g _ _=>AB (val (CQ (.func 73) [a] [])) 67110923 g fun h i _ _=>BC [.fv (.nilf)] [(0,1,h)] fun j=>Rr i b j a
def S64 (k:Aa) (n:Nat) (c:Hp):OH :=
 BC [.fv (.int .i64 0),.fv (.int .i64 0),.fv (.int .i64 0),.fv (.int .i64 0),.dead] [(0,1,.fv (.int .i64 100000)),(1,1,.fv (.int .i64 5000000))] fun d=>A2 67109889 d c fun a e _ _=>AB (GS 67110913) 67110913 e fun b f _ _=>AB (val (CQ (.func 72) [a] [])) 67110915 f fun g h _ _=>BC [.fv (.nilf)] [(0,1,g)] fun i=>AB (Cb EE 100 b (.fv (.int .i64 5)) i) 67110917 h fun _ j _ _=>W1 j a b
theorem Aqi (a:Aa) (n:Nat) (b:Hp):Aw EE a ft.get n 64 [] b=S64 a n b:=by kernel_rfl
def Ob (b:IV) (a:Hp) (c:Aa) (d:IV):OH :=
 Ac 1 b fun e=>Af e a fun f _=>Al [] false false c 78 [d,f] a fun g h _ _=>An [g] h
def NJ (h:IV) (i j:Hp) (a b c d e f:IV) (k:List IV→Hp→OH):OH :=
 By EE 3 h (.fv (.int .i64 1)) fun g=>Bf (i.own.map (·.1)) [68166659] [a,b,c,d,e,f,g] j fun l=>k [a,b,c,d,e,f,g] l
def ND (a:Aa) (b:Hp) (c d e:IV) (f:AI) (g h:IV) (i:Hp→OH):OH :=
 Al [true,false,false] false false a 65 [c,d,e] b fun j k l m=>Ad [(f,[])] l m (A7 1 g h fun n=>BA n j k fun o p q=>Ad [] p q (i o))
def NP (c:IV) (a:Hp) (d:IV) (e:Aa) (f g h:IV) (i:Hp→OH):OH :=
 Ac 2 c fun j=>Af j a fun k b=>Ad [] b [] (Ai 3 d a fun l m=>Ad [(b,[])] m [] (ND e a f g l b k h i))
def NK (a:Hp) (f:IV) (b:Aa) (c g h i j:IV) (d:Hp→OH):OH :=
 Af f a fun k _=>Al [] false false b 79 [k,c] a fun l e _ _=>A5 EE 3 l (.fv (.int .i64 0)) fun m=>Am m (AF g fun n=>NP n e h b i j c d) (d e)
def NX (d a:IV) (b:Hp) (e:IV) (f:Aa) (g h i:IV) (j:Hp→OH):OH :=
 A7 3 d a fun k=>Ai 3 k b fun l _=>AH 68166659 (.row [.fv (.int .i64 0),.fv (.int .i64 0),.nils] false) (.ptr (.own 68166659) 0) b fun c m _ _=>Ak 3 c l m fun n _ _=>Ac 0 e fun o=>NK n o f a g c h i j
def N6 (c:IV) (a:Hp) (b:IV) (d:Aa) (e:IV):OH :=
 Ac 3 c fun f=>Af f a fun g _=>Ha EE 37 g (.fv (.int .i64 0)) fun h=>Am h (An [b] a) (Al [true,false] false false d 80 [e,b] a fun i j _ _=>An [i] j)
def NV (j:List IV) (k:Hp) (a d e b f:IV) (l:List IV→Hp→OH) (g:Hp) (h:Aa):OH :=
 Av j fun i m=>Av m fun c _=>G8 EE 3 c i fun n=>Am n ((fun (o:Hp→OH)=>NX f c g e h b a d o) fun p=>NJ c k p a d e b f i l) (AF a fun q=>N6 q g b h a)
def XQ (a:List IV) (b:Hp) (c:List IV→Hp→OH) (d:Hp) (e:Aa):OH :=
 Av a fun f g=>Av g fun h i=>Av i fun j k=>Av k fun l m=>Av m fun n o=>NV o b f h j l n c d e
def NL (a:IV) (b h:Hp) (c d e f:IV) (n:Nat) (i:Aa):OH :=
 BS a fun g=>Bf (b.own.map (·.1)) [68166659] [c,d,e,f,a,g,.fv (.int .i64 0)] h fun j=>BF n (fun k l m=>XQ l b k m i) [c,d,e,f,a,g,.fv (.int .i64 0)] j
def Oc (d:IV) (a:Hp) (b c:IV) (e:Hp) (f g:IV) (n:Nat) (h:Aa):OH :=
 Ha EE 37 d (.fv (.int .i64 0)) fun i=>Am i (An [b] a) (Ac 2 c fun j=>Af j a fun k _=>NL k e a f g c b n h)
def N9 (c:Hp) (d a e:IV) (f:Hp) (g:IV) (n:Nat) (h:Aa):OH :=
 A2 68161547 d c fun i b j k=>Ad [] j k (AF a fun l=>Ac 3 l fun m=>Af m b fun o _=>Oc o b i e f a g n h)
def NT (i:Hp) (a:IV) (b c:AI) (d:IV) (j:AI) (k l e m:IV) (o:Hp) (n:Nat) (p:Aa):OH :=
 AB (Bn EE 68161543 110 a a) 68161543 i fun q f g h=>Ad [(b,[]),(c,[])] g h (Ai 3 d f fun r s=>Ad [(g,h),(j,[]),(b,[]),(c,[])] s [] (BC [.fv (.int .i64 0),.fv (.int .i64 0),.nils,.fv (.int .i64 0),.fv (.int .i64 0),.nils,.fv (.nilp)] [(0,1,k),(1,1,l),(2,1,q),(3,3,r),(6,1,e)] fun t=>N9 f t m d o e n p))
def NH (a b:AI) (c:IV) (d:Hp) (f g h i:IV) (j:Hp) (n:Nat) (k:Aa):OH :=
 Ad [(b,[])] a [] (Ac 2 c fun l=>Af l d fun m e=>Ad [(a,[]),(b,[])] e [] (BS m fun o=>NT d o a b c e f g h i j n k))
def N7 (a:IV) (b:Hp) (d e:IV) (f:Hp) (n:Nat) (g:Aa):OH :=
 Ac 0 a fun h=>Af h b fun i c=>Ad [] c [] (Ac 1 a fun j=>Af j b fun k l=>NH l c a b i k d e f n g)
def S65 (a:Aa) (n:Nat) (d e g:IV) (f:Hp):OH :=
 A2 68157440 g f fun b h _ _=>Al [true] false false a 77 [d] h fun _ c _ _=>Ac 0 b fun i=>Af i c fun j _=>A5 EE 3 j (.fv (.int .i64 1)) fun k=>Am k (Ob b c a e) (N7 b c e d f n a)
theorem Aqj (a:Aa) (n:Nat) (b c d:IV) (e:Hp):Aw EE a ft.get n 65 [b,c,d] e=S65 a n b c d e:=by kernel_rfl
def Dy (a:Hp) (b:IV):OH :=
 Ax true 3 b a fun c=>An [c] a
def DP (c:Hp) (a d:IV):OH :=
 Ak 3 a d c fun b _ _=>Ax true 3 a b fun e=>An [e] b
def Dt (b:IV) (a:Hp) (c d:IV):OH :=
 AF b fun e=>Ac 1 e fun f=>Af f a fun g _=>Bd EE 3 c g fun h=>BC [.fv (.int .i64 0),.fv (.int .i64 0),.nils] [(0,1,.fv (.int .i64 1)),(1,1,h)] fun i=>DP a d i
def Dp (c:Hp) (a:IV):OH :=
 BC [.fv (.int .i64 0),.fv (.int .i64 0),.nils] [] fun d=>Ak 3 a d c fun b _ _=>Ax true 3 a b fun e=>An [e] b
def DL (i:IV) (j k:Hp) (a b c d e f g:IV) (l:List IV→Hp→OH):OH :=
 By EE 3 i (.fv (.int .i64 1)) fun h=>Bf (j.own.map (·.1)) [69221377,69225478] [a,b,c,d,e,f,g,h] k fun m=>l [a,b,c,d,e,f,g,h] m
def DD (a e b:IV) (f:Aa) (g:Hp) (c h d i j:IV) (k:Hp) (l m n:IV) (o:List IV→Hp→OH):OH :=
 By EE 3 a e fun p=>By EE 3 b (.fv (.int .i64 1)) fun q=>Al [true,false,false,false] false false f 66 [c,h,p,q] g fun r s _ _=>A7 3 d i fun t=>Ak 3 t r s fun u _ _=>DL j k u c l a b m d n o
def CJ (b:IV) (a:Hp) (c d e f:IV) (g:Aa) (h i j k:IV) (l:Hp) (m n:IV) (o:List IV→Hp→OH):OH :=
 AF b fun p=>Ac 3 p fun q=>Af q a fun r _=>Ha EE 37 r (.fv (.int .i64 0)) fun s=>Am s (Dp a c) (DD d e f g a b h i j k l m c n o)
def Do (n:IV) (o p:Hp) (a b c d e f g h i j k l:IV) (q:List IV→Hp→OH):OH :=
 By EE 3 n (.fv (.int .i64 1)) fun m=>Bf (o.own.map (·.1)) [69225478] [a,b,c,d,e,f,g,h,i,j,k,l,m] p fun r=>q [a,b,c,d,e,f,g,h,i,j,k,l,m] r
def Dl (b a:IV) (e:Hp) (c:IV) (f:Hp) (g h i j k l m n o p:IV) (q:List IV→Hp→OH):OH :=
 By EE 3 b a fun r=>BC [.fv (.int .i64 0),.fv (.int .i64 0),.nils,.fv (.int .i64 0),.fv (.int .i64 0),.nils,.fv (.nilp)] [(0,1,.fv (.int .i64 1)),(1,1,r)] fun d=>fzS (LN true 69225478 d) 69225478 d e fun s t _ _=>A7 1 c a fun u=>BA u s t fun v _ _=>Do a f v g h b i j k l m c n o p q
def DI (d:Aa) (e:Hp) (a b c f:IV) (g:IV→IV→IV→IV→IV→IV→IV→IV→IV→IV→IV→Hp→OH) (h i j k l m n:IV):OH :=
 Al [true,false,false,false] false false d 81 [a,b,c,f] e fun o p _ _=>g a b h i j k c o l m n p
def Dw (o:List IV) (a:IV) (b:Hp) (c:IV) (p:Hp) (d e f g h i j k:IV) (q:List IV→Hp→OH) (r:Aa) (s:IV→IV→IV→IV→IV→IV→IV→IV→IV→IV→IV→Hp→OH):OH :=
 Av o fun l t=>Av t fun m u=>Av u fun n _=>G8 EE 3 n m fun v=>Am v (Dl a n b c p d e f g h i j k l m q) (DI r b d e i c s a f g h j k l)
def DQ (a:List IV) (b:IV) (c d:Hp) (e f g h:IV) (i:List IV→Hp→OH) (j:Aa) (k:IV→IV→IV→IV→IV→IV→IV→IV→IV→IV→IV→Hp→OH):OH :=
 Av a fun l m=>Av m fun n o=>Av o fun p q=>Av q fun r s=>Av s fun t u=>Dw u b c r d e f g h l n p t i j k
def Fm (a:List IV) (b c:Hp) (d:List IV→Hp→OH) (e:Aa) (f:IV→IV→IV→IV→IV→IV→IV→IV→IV→IV→IV→Hp→OH):OH :=
 Av a fun g h=>Av h fun i j=>Av j fun k l=>Av l fun m n=>Av n fun o p=>DQ p k b c g i m o d e f
def D0 (b m:Hp) (c d e f g h a i j k l:IV) (n:Nat) (o:Aa) (p:IV→IV→IV→IV→IV→IV→IV→IV→IV→IV→IV→Hp→OH):OH :=
 Bf (b.own.map (·.1)) [69225478] [c,d,e,f,g,h,a,i,j,k,a,l,.fv (.int .i64 0)] m fun q=>BF n (fun r s t=>Fm s t b r o p) [c,d,e,f,g,h,a,i,j,k,a,l,.fv (.int .i64 0)] q
def DH (m:IV) (c:Hp) (a:IV) (o:Hp) (d e f g h i b j:IV) (n:Nat) (p:Aa) (k:IV→IV→IV→IV→IV→IV→IV→IV→IV→IV→IV→Hp→OH) (q:IV):OH :=
 Am m (AB (Bn EE 69221377 110 a a) 69221377 c fun l r _ _=>BS l fun s=>D0 o r d e f g h i b a l j s n p k) (k d e f g h i b q a j b c)
def DZ (g b c:AI) (a:Aa) (h:Hp) (i d:IV) (e:Hp) (j:List IV→Hp→OH) (k l m o p q r:IV) (n:Nat) (s:IV):OH :=
 Ad [(b,[]),(c,[])] g [] (Al [] false false a 79 [i,d] h fun f t u v=>Ad [(b,[]),(c,[])] u v ((fun (w:IV→IV→IV→IV→IV→IV→IV→IV→IV→IV→IV→Hp→OH)=>Mj EE 3 f (.fv (.int .i64 0)) fun x=>DH x t f e k l m o p q d r n a w s) fun y z A B C D E F G H I J=>CJ y J C A G B a F D E I e z H j))
def Dr (a:Hp) (d b:IV) (e:AI) (f:Aa) (g:IV) (h:Hp) (i:List IV→Hp→OH) (j k l m o p:IV) (n:Nat):OH :=
 Af d a fun q c=>Ad [] c [] (AF b fun r=>Ac 0 r fun s=>Af s a fun t u=>DZ u c e f a t g h i j b k l m o p n q)
def Dj (a:IV) (b:Hp) (c:IV) (e:Aa) (f:Hp) (g:List IV→Hp→OH) (h i j k l m:IV) (n:Nat):OH :=
 AF a fun o=>Ac 2 o fun p=>Af p b fun q d=>Ad [] d [] (A7 1 q c fun r=>Dr b r a d e c f g h i j k l m n)
def DY (b c:AI) (a:Hp) (d:IV):OH :=
 Ad [] b c (Ax true 3 d a fun e=>An [e] a)
def Dn (c:IV) (a:Hp) (d:AI) (e f b:IV):OH :=
 Ac 1 c fun g=>Af g a fun h i=>Ad [(d,[])] i [] (BC [.fv (.int .i64 0),.fv (.int .i64 0),.nils] [(0,1,e),(1,1,h),(2,1,f)] fun j=>Ak 3 b j a fun k l m=>DY l m k b)
def DO (a:IV) (b:Hp) (d e:IV):OH :=
 AF a fun f=>Ac 0 f fun g=>Af g b fun h c=>Ad [] c [] (AF a fun i=>Dn i b c h d e)
def Du (g:List IV) (a:IV) (b:Hp) (h:Aa) (i:Hp) (j:List IV→Hp→OH) (k l m c:IV) (n:Nat):OH :=
 Av g fun d o=>Av o fun e p=>Av p fun f _=>G8 EE 3 f e fun q=>Am q (Dj a b f h i j k l m c d e n) (DO a b d c)
def Fq (a:List IV) (b:Hp) (c:Aa) (d:Hp) (e:List IV→Hp→OH) (n:Nat):OH :=
 Av a fun f g=>Av g fun h i=>Av i fun j k=>Av k fun l m=>Av m fun o p=>Du p h b c d e f j l o n
def DE (a i:Hp) (b c d e f g h:IV) (n:Nat) (j:Aa):OH :=
 Bf (a.own.map (·.1)) [69221377,69225478] [b,c,d,e,f,g,h,.fv (.int .i64 0)] i fun k=>BF n (fun l m o=>Fq m o j a l n) [b,c,d,e,f,g,h,.fv (.int .i64 0)] k
def Dx (d:IV) (a e:Hp) (f g h i j:IV) (n:Nat) (k:Aa):OH :=
 Ac 2 d fun l=>Af l a fun m _=>BS m fun b=>AB (Bn EE 69215237 29 b b) 69215237 a fun c o _ _=>BS c fun p=>DE e o f g h i j c p n k
def DA (a:Hp) (e c b d:IV) (f:Hp) (g h:IV) (n:Nat) (i:Aa):OH :=
 Af e a fun j _=>A5 EE 3 j (.fv (.int .i64 1)) fun k=>Am k (Bd EE 3 c (.fv (.int .i64 1)) fun l=>Dt b a l d) (AF b fun m=>Dx m a f g b c h d n i)
def DK (d:IV) (b:Hp) (a c e:IV) (f:Hp) (g h:IV) (n:Nat) (i:Aa):OH :=
 Am d (BC [.fv (.int .i64 0),.fv (.int .i64 0),.nils] [] fun j=>Ak 3 a j b fun k _ _=>Dy k a) (AF c fun l=>Ac 0 l fun m=>DA b m e c a f g h n i)
def Fk (b:Aa) (d:Hp) (a e f g:IV) (h:Hp) (i:IV) (n:Nat):OH :=
 Al [true] false false b 77 [a] d fun _ c _ _=>AF a fun j=>Ac 3 j fun k=>Af k c fun l _=>Ha EE 37 l (.fv (.int .i64 0)) fun m=>DK m c e f g h a i n b
def Di (a:IV) (b:Hp) (c:Hp→OH):OH :=
 Ac 3 a fun d=>BA d (.fv (.int .i64 5)) b fun e _ _=>c e
def Dv (a:Hp) (b e f g:IV) (c:Hp→OH):OH :=
 Ab b true a (fun h=>AG e (.fv (.bool true)) f fun i=>h i a [] []) fun j d _ _=>AG b j (.fv (.bool false)) fun k=>Am k (AF g fun l=>Di l d c) (c d)
def DF (b:Hp) (a h i j:IV) (k:Hp→OH):OH :=
 Ab a true b (fun l=>Af h b fun m n=>l m b n []) fun o d _ _=>Ab a true d (fun p=>Mj EE 3 o (.fv (.int .i64 3000)) fun q=>p q d [] []) fun r e _ _=>Ab a true e (fun s=>s r e [] []) fun c f _ _=>Ab c false f (fun t=>t i f [] []) fun u g _ _=>Ab c false g (fun v=>Mj EE 3 u (.fv (.int .i64 120)) fun w=>v w g [] []) fun x y _ _=>Dv y a c x j k
def DJ (b:Hp) (f c g:IV) (h:Hp→OH):OH :=
 Af f b fun i _=>A5 EE 37 i (.fv (.int .i64 0)) fun a=>Ab a true b (fun j=>j c b [] []) fun k d _ _=>Ab a true d (fun l=>AF k fun m=>l m d [] []) fun n e _ _=>Ab a true e (fun o=>Ac 2 n fun p=>o p e [] []) fun q r _ _=>DF r a q g c h
def Dq (a:IV) (b:Hp) (c d:IV) (e:Hp→OH):OH :=
 AF a fun f=>Ac 2 f fun g=>BA g c b fun h _ _=>AF a fun i=>Ac 3 i fun j=>DJ h j a d e
def S66 (e:Aa) (n:Nat) (a f g b:IV) (c:Hp):OH :=
 AH 69206016 (.row [.fv (.int .i64 0),.fv (.int .i64 0),.nils] false) (.ptr (.own 69206016) 0) c fun h d _ _=>(fun (i:Hp→OH)=>AF a fun j=>Ac 2 j fun k=>Af k d fun l _=>By EE 3 l (.fv (.int .i64 1)) fun m=>Dq a d m b i) fun o=>Fk e o a h f g c b n
theorem Aog (a:Aa) (n:Nat) (b c d e:IV) (f:Hp):Aw EE a ft.get n 66 [b,c,d,e] f=S66 a n b c d e f:=by kernel_rfl
def Ann (a b:IV) (h:Hp) (i:IV) (j:Hp) (c d e f:IV) (k:List IV→Hp→OH):OH :=
 A7 3 a b fun l=>Ak 3 l i h fun m _ _=>By EE 3 b (.fv (.int .i64 1)) fun g=>Bf (j.own.map (·.1)) [70258691] [c,d,a,e,f,g] m fun n=>k [c,d,a,e,f,g] n
def ApY (a:Hp) (d:IV) (e:Aa) (f g:IV) (h:Hp) (i j k l:IV) (m:List IV→Hp→OH):OH :=
 Ai 3 d a fun n _=>AH 70258691 (.row [.fv (.int .i64 0),.fv (.int .i64 0),.nils] false) (.ptr (.own 70258691) 0) a fun b o _ _=>Ak 3 b n o fun c _ _=>Ai 3 b c fun p _=>Al [] false false e 67 [p] c fun q r _ _=>Ann f g r q h i j k l m
def Aos (a:Hp) (b:IV):OH :=
 Ax true 3 b a fun c=>An [c] a
def Aqh (a:Hp) (c d e b:IV):OH :=
 Af c a fun f _=>Ac 1 d fun g=>Af g a fun h _=>BC [.fv (.int .i64 0),.fv (.int .i64 0),.nils] [(0,1,f),(1,1,h),(2,1,e)] fun i=>Ak 3 b i a fun j _ _=>Aos j b
def AnV (h:List IV) (c d:IV) (e:Hp) (i:Aa) (f:IV) (j:Hp) (a g:IV) (k:List IV→Hp→OH):OH :=
 Av h fun b _=>G8 EE 3 b c fun l=>Am l (A7 3 d b fun m=>ApY e m i f b j a g d c k) (Ac 0 a fun n=>Aqh e n a f g)
def AnY (a:List IV) (b:Hp) (c:Aa) (d:Hp) (e:List IV→Hp→OH):OH :=
 Av a fun f g=>Av g fun h i=>Av i fun j k=>Av k fun l m=>Av m fun n o=>AnV o n l b c j d f h e
def Apw (a:IV) (c d:Hp) (e f:IV) (n:Nat) (h:Aa):OH :=
 Ac 2 a fun i=>Af i c fun b _=>BS b fun g=>Bf (d.own.map (·.1)) [70258691] [a,e,f,b,g,.fv (.int .i64 0)] c fun j=>BF n (fun k l m=>AnY l m h d k) [a,e,f,b,g,.fv (.int .i64 0)] j
def S67 (e:Aa) (n:Nat) (f:IV) (a:Hp):OH :=
 A2 70254592 f a fun b g _ _=>AH 70254593 (.row [.fv (.int .i64 0),.fv (.int .i64 0),.nils] false) (.ptr (.own 70254593) 0) g fun h c _ _=>Ac 2 b fun i=>Af i c fun j _=>BS j fun d=>AB (Bn EE 70255619 29 d d) 70255619 c fun k l _ _=>Apw b l a h k n e
theorem Ao0 (a:Aa) (n:Nat) (b:IV) (c:Hp):Aw EE a ft.get n 67 [b] c=S67 a n b c:=by kernel_rfl
def I1 (h a:IV) (i:Hp) (j:IV) (k:Hp) (b c d e f:IV) (l:List IV→Hp→OH):OH :=
 A7 3 h a fun m=>Ak 3 m j i fun n o p=>Ad [] o p (By EE 3 a (.fv (.int .i64 1)) fun g=>Bf (k.own.map (·.1)) [71307267] [b,c,d,e,f,g] n fun q=>l [b,c,d,e,f,g] q)
def IC (a:AI) (b:Hp) (c:IV) (d:Aa) (e f:IV) (g:Hp) (h i j k l:IV) (m:List IV→Hp→OH):OH :=
 Ad [] a [] (Ai 3 c b fun n o=>Ad [(a,[])] o [] (Al [] false false d 68 [n] b fun p q r s=>Ad [(a,[])] r s (I1 e f q p g h i j k l m)))
def Iv (a:Hp) (e b:IV) (f:Aa) (g:IV) (h:Hp) (i j k l:IV) (m:List IV→Hp→OH):OH :=
 Ai 3 e a fun n _=>AH 71307267 (.row [.fv (.int .i64 0),.fv (.int .i64 0),.nils] false) (.ptr (.own 71307267) 0) a fun c o _ _=>Ak 3 c n o fun d _ _=>Ac 2 b fun p=>Af p d fun q r=>IC r d c f q g h i j b k l m
def Is (c:Aa) (d:Hp) (e a:IV):OH :=
 Al [] false false c 82 [e] d fun f g _ _=>Ak 3 a f g fun b _ _=>Ax true 3 a b fun h=>An [h] b
def Jj (a:Hp) (c d:IV) (e:Aa) (f:IV):OH :=
 Af c a fun g _=>BC [.fv (.int .i64 0),.fv (.int .i64 0),.nils] [(0,1,.fv (.int .i64 11))] fun h=>A7 3 g (.fv (.int .i64 0)) fun i=>Ak 3 i h a fun b _ _=>Ai 3 d b fun j _=>Is e b j f
def IA (c:Hp) (a d:IV):OH :=
 Ak 3 a d c fun b _ _=>Ax true 3 a b fun e=>An [e] b
def Iy (b:IV) (c:Hp) (d:IV) (e:Aa) (f:IV):OH :=
 BC [.fv (.int .i64 0),.fv (.int .i64 0),.nils] [(0,1,.fv (.int .i64 11))] fun g=>A7 3 b (.fv (.int .i64 0)) fun h=>Ak 3 h g c fun a _ _=>Ai 3 d a fun i _=>Al [] false false e 83 [i] a fun j k _ _=>IA k f j
def I9 (a:Hp) (b:IV):OH :=
 Ax true 3 b a fun c=>An [c] a
def Jd (d b:IV) (a:Hp) (e:Aa) (c:IV):OH :=
 Am d (Ac 2 b fun f=>Af f a fun g _=>Iy g a b e c) (Ai 3 b a fun h _=>Ak 3 c h a fun i _ _=>I9 i c)
def Iw (a:Hp) (f b:IV) (c:Aa) (d:IV):OH :=
 Af f a fun e _=>A5 EE 3 e (.fv (.int .i64 4)) fun g=>Am g (Ac 2 b fun h=>Jj a h b c d) (A5 EE 3 e (.fv (.int .i64 7)) fun i=>Jd i b a c d)
def IX (i:List IV) (b c:IV) (d:Hp) (e:IV) (f:Aa) (j:Hp) (g h:IV) (k:List IV→Hp→OH):OH :=
 Av i fun a _=>G8 EE 3 a b fun l=>Am l (A7 3 c a fun m=>Iv d m e f a j g h c b k) (Ac 0 g fun n=>Iw d n e f h)
def Kc (a:List IV) (b:Hp) (c:Aa) (d:Hp) (e:List IV→Hp→OH):OH :=
 Av a fun f g=>Av g fun h i=>Av i fun j k=>Av k fun l m=>Av m fun n o=>IX o n l b j c d f h e
def Il (a:IV) (b g:Hp) (c d e:IV) (n:Nat) (h:Aa):OH :=
 BS a fun f=>Bf (b.own.map (·.1)) [71307267] [c,d,e,a,f,.fv (.int .i64 0)] g fun i=>BF n (fun j k l=>Kc k l h b j) [c,d,e,a,f,.fv (.int .i64 0)] i
def Ik (d e f g h i j:AI) (k:Hp) (a l b:IV) (m:Hp) (o:IV) (n:Nat) (p:Aa):OH :=
 Ad [(f,g),(h,[]),(i,[]),(j,[])] d e (Ak 3 a l k fun c q r=>Ad [] q r (Ac 2 b fun s=>Af s c fun t _=>Il t m c b o a n p))
def IZ (f:IV) (g:Hp) (a b:AI) (h i:IV) (j:AI) (k:IV) (l:Hp) (m:IV) (n:Nat) (o:Aa):OH :=
 BS f fun c=>AB (Bn EE 71304199 29 c c) 71304199 g fun p q d e=>Ad [(a,[]),(b,[])] d e (BC [.fv (.int .i64 0),.fv (.int .i64 0),.nils] [(0,1,h),(1,1,i),(2,1,p)] fun r=>AH 71304201 (.row [.fv (.int .i64 0),.fv (.int .i64 0),.nils] false) (.ptr (.own 71304201) 0) q fun s t u v=>Ik u v d e j a b t s r k l m n o)
def Jg (a:Hp) (f:IV) (b:AI) (d g:IV) (h:Hp) (i:IV) (n:Nat) (j:Aa):OH :=
 Af f a fun k c=>Ad [(b,[])] c [] (Ac 2 d fun l=>Af l a fun m e=>Ad [(c,[]),(b,[])] e [] (IZ m a c b g k e d h i n j))
def S68 (e:Aa) (n:Nat) (f:IV) (b:Hp):OH :=
 A2 71303168 f b fun a g _ _=>AH 71303169 (.row [.fv (.int .i64 0),.fv (.int .i64 0),.nils] false) (.ptr (.own 71303169) 0) g fun h c _ _=>Ac 0 a fun i=>Af i c fun j d=>Ad [] d [] (Ac 1 a fun k=>Jg c k d a j b h n e)
theorem AoN (a:Aa) (n:Nat) (b:IV) (c:Hp):Aw EE a ft.get n 68 [b] c=S68 a n b c:=by kernel_rfl
def MS (g:IV) (a:Hp) (h:IV) (i:Hp) (b c d e:IV) (j:List IV→Hp→OH):OH :=
 Am g (An [.fv (.bool false)] a) (By EE 3 h (.fv (.int .i64 1)) fun f=>Bf (i.own.map (·.1)) [72356867,72357892] [b,c,d,e,f] a fun k=>j [b,c,d,e,f] k)
def Ma (d:Hp) (b e f:IV) (g:Aa) (c h:IV) (i:Hp) (j k l:IV) (m:List IV→Hp→OH):OH :=
 Ak 3 b e d fun a _ _=>Ai 3 f a fun n _=>Ai 3 b a fun o _=>D6 EE g c [n,o] a fun p q _ _=>CL (L5 .not p) fun r=>MS r q h i j c k l m
def Mo (e:Hp) (f a b:IV) (g:Aa) (h:IV) (i:Hp) (j k:IV) (l:List IV→Hp→OH):OH :=
 AH 72356867 (.row [.fv (.int .i64 0),.fv (.int .i64 0),.nils] false) (.ptr (.own 72356867) 0) e fun c m _ _=>Ak 3 c f m fun d _ _=>A7 3 a b fun n=>Ai 3 n d fun o _=>AH 72357892 (.row [.fv (.int .i64 0),.fv (.int .i64 0),.nils] false) (.ptr (.own 72357892) 0) d fun p q _ _=>Ma q p o c g h b i a j k l
def Mt (a c d:IV) (b:Hp) (e:IV) (f:Aa) (g:IV) (h:Hp) (i:List IV→Hp→OH):OH :=
 G8 EE 3 a c fun j=>Am j (A7 3 d a fun k=>Ai 3 k b fun l _=>Mo b l e a f g h d c i) (An [.fv (.bool true)] b)
def Ow (a:List IV) (b:Hp) (c:Aa) (d:Hp) (e:List IV→Hp→OH):OH :=
 Av a fun f g=>Av g fun h i=>Av i fun j k=>Av k fun l m=>Av m fun n _=>Mt n l j b f c h d e
def Mx (a:Hp) (b c d e:IV) (n:Nat) (f:Aa):OH :=
 Bf (a.own.map (·.1)) [72356867,72357892] [b,c,d,e,.fv (.int .i64 0)] a fun g=>BF n (fun h i j=>Ow i j f a h) [b,c,d,e,.fv (.int .i64 0)] g
def S69 (d:Aa) (n:Nat) (a b e:IV) (c:Hp):OH :=
 BS a fun f=>BS b fun g=>Ha EE 3 f g fun h=>Am h (An [.fv (.bool false)] c) (BS a fun i=>Mx c b e a i n d)
theorem Amz (a:Aa) (n:Nat) (b c d:IV) (e:Hp):Aw EE a ft.get n 69 [b,c,d] e=S69 a n b c d e:=by kernel_rfl
def Wf (b:IV) (a:Hp):OH :=
 AF b fun c=>Ac 2 c fun d=>Af d a fun e _=>A5 EE 3 e (.fv (.int .i64 0)) fun f=>An [f] a
def WV (a:Hp) (b:IV) (c:Hp→OH):OH :=
 BA b (.fv (.int .i64 17)) a fun d _ _=>c d
def WN (c d:IV) (a:Hp) (b:Hp→OH):OH :=
 Mj EE 3 c (.fv (.int .i64 1000)) fun e=>Am e (AF d fun f=>Ac 2 f fun g=>WV a g b) (b a)
def Xq (c:Hp) (d e a:IV):OH :=
 BA d e c fun b _ _=>(fun (f:Hp→OH)=>AF a fun g=>Ac 0 g fun h=>Af h b fun i _=>WN i a b f) fun j=>Wf a j
def S70 (i:Aa) (n:Nat) (a:IV) (b:Hp):OH :=
 AF a fun c=>Ac 0 c fun d=>Af d b fun e _=>By EE 3 e (.fv (.int .i64 1)) fun f=>AF a fun g=>Ac 0 g fun h=>Xq b h f a
theorem Ane (a:Aa) (n:Nat) (b:IV) (c:Hp):Aw EE a ft.get n 70 [b] c=S70 a n b c:=by kernel_rfl
def Aik (b:IV) (a:Hp):OH :=
 A5 EE 3 b (.fv (.int .i64 13)) fun c=>Am c (An [.fv (.int .i64 4)] a) (An [.fv (.int .i64 (-1))] a)
def Ajm (c:IV) (a:Hp) (b:IV):OH :=
 Am c (An [.fv (.int .i64 2)] a) (A5 EE 3 b (.fv (.int .i64 7)) fun d=>Am d (An [.fv (.int .i64 3)] a) (Aik b a))
def AhL (a:IV) (b:IV→Hp→OH) (c:Hp) (d:IV):OH :=
 Am a (b a c) (A5 EE 3 d (.fv (.int .i64 5)) fun e=>b e c)
def Ajn (c:IV) (b:Hp) (a:IV):OH :=
 Am c (An [.fv (.int .i64 1)] b) ((fun (d:IV→Hp→OH)=>A5 EE 3 a (.fv (.int .i64 4)) fun e=>AhL e d b a) fun f g=>Ajm f g a)
def Agh (a:IV) (b:IV→Hp→OH) (c:Hp):OH :=
 A5 EE 3 a (.fv (.int .i64 30)) fun d=>b d c
def AfA (a:IV) (b:IV→Hp→OH) (c:Hp):OH :=
 A5 EE 3 a (.fv (.int .i64 12)) fun d=>Am d (b d c) (A5 EE 3 a (.fv (.int .i64 19)) fun e=>Am e (b e c) (Agh a b c))
def S71 (h:Aa) (n:Nat) (a:IV) (b:Hp):OH :=
 (fun (c:IV→Hp→OH)=>A5 EE 3 a (.fv (.int .i64 8)) fun d=>Am d (c d b) (A5 EE 3 a (.fv (.int .i64 9)) fun e=>Am e (c e b) (AfA a c b))) fun f g=>Ajn f g a
theorem Aor (a:Aa) (n:Nat) (b:IV) (c:Hp):Aw EE a ft.get n 71 [b] c=S71 a n b c:=by kernel_rfl
def Xf (a:Aa) (b:Hp) (c d e:IV):OH :=
 Al [true,false,false,false] false false a 81 [c,d,.fv (.int .i64 1),e] b fun f g _ _=>An [f] g
def WY (b:IV) (a:Hp) (c:Aa) (d e:IV):OH :=
 Ac 2 b fun f=>Af f a fun g _=>A7 1 g (.fv (.int .i64 1)) fun h=>Af h a fun i _=>AB (Aj EE 110 1 [(0,i)]) 75500552 a fun j k _ _=>Xf c k d e j
def Wn (b:IV) (a:Hp) (c:IV) (d:Aa) (e f:IV):OH :=
 Ac 0 b fun g=>Af g a fun h _=>A5 EE 3 h (.fv (.int .i64 4)) fun i=>Am i (AF c fun j=>WY j a d e f) (An [.fv .nilp] a)
def S72 (d:Aa) (n:Nat) (e b:IV) (a:Hp):OH :=
 AF b fun f=>Ac 2 f fun g=>Af g a fun h _=>A7 1 h (.fv (.int .i64 0)) fun i=>Af i a fun c _=>AF c fun j=>Wn j a b d e c
theorem Am0 (a:Aa) (n:Nat) (b c:IV) (d:Hp):Aw EE a ft.get n 72 [b,c] d=S72 a n b c d:=by kernel_rfl
def SG (b:IV) (a:Hp):OH :=
 Ac 2 b fun c=>Af c a fun d _=>A7 1 d (.fv (.int .i64 1)) fun e=>Af e a fun f _=>An [f] a
def SX (b:IV) (a:Hp):OH :=
 Ac 2 b fun c=>Af c a fun d _=>A7 1 d (.fv (.int .i64 2)) fun e=>Af e a fun f _=>An [f] a
def SK (c:IV) (a:Hp) (b:IV):OH :=
 Ac 0 c fun d=>Af d a fun e _=>A5 EE 3 e (.fv (.int .i64 8)) fun f=>Am f (AF b fun g=>SG g a) (AF b fun h=>SX h a)
def RD (b:IV) (a:Hp) (c d:IV):OH :=
 Ac 0 b fun e=>Af e a fun f _=>Ha EE 3 f (.fv (.int .i64 7)) fun g=>Am g (An [.fv .nilp] a) (AF c fun h=>SK h a d)
def S73 (i:Aa) (n:Nat) (j b:IV) (a:Hp):OH :=
 AF b fun d=>Ac 2 d fun e=>Af e a fun f _=>A7 1 f (.fv (.int .i64 0)) fun g=>Af g a fun c _=>AF c fun h=>RD h a b c
theorem Aqg (a:Aa) (n:Nat) (b c:IV) (d:Hp):Aw EE a ft.get n 73 [b,c] d=S73 a n b c d:=by kernel_rfl
def Uh (b:IV) (a:Hp):OH :=
 Ac 2 b fun c=>Af c a fun d _=>A7 1 d (.fv (.int .i64 1)) fun e=>Af e a fun f _=>An [f] a
def TU (a:Hp) (b c:IV) (d:Aa) (e f:IV):OH :=
 AB (Aj EE 110 2 [(0,b),(1,c)]) 77602826 a fun g h i j=>Ad [] i j (Al [true,false,false,false] false false d 81 [e,f,.fv (.int .i64 2),g] h fun k l m n=>Ad [] m n (An [k] l))
def Q5 (e:IV) (a:Hp) (b:Aa) (c f:IV) (g:AI) (h:IV):OH :=
 A7 1 e (.fv (.int .i64 0)) fun i=>Af i a fun j d=>Ad [] d [] (Al [true,false] false false b 80 [c,f] a fun k l m n=>Ad [(d,[]),(g,[])] m n (TU l j k b c h))
def TN (c d:AI) (e:IV) (a:Hp) (f:Aa) (g h i:IV):OH :=
 Ad [] c d (AF e fun j=>Ac 2 j fun k=>Af k a fun l b=>Ad [] b [] (Q5 l a f g h b i))
def Sq (b c d:AI) (e:Hp) (f g a h:IV) (i:Aa) (j k:IV):OH :=
 Ad [(c,[]),(d,[])] b [] (AB (Aj EE 110 4 [(0,.fv .nilp),(1,f),(2,.fv .nilp),(3,g)]) 77601804 e fun l m n o=>Ad [] n o (Ac 2 a fun p=>BA p l m fun q r s=>TN r s h q i j a k))
def Uj (d:IV) (a:Hp) (b c:AI) (e f g:IV) (h:Aa) (i j:IV):OH :=
 Ac 2 d fun k=>Af k a fun l m=>Ad [(b,[]),(c,[])] m [] (A7 1 l (.fv (.int .i64 0)) fun n=>Af n a fun o p=>Sq p b c a e o f g h i j)
def R2 (a:AI) (e:IV) (b:Hp) (c f:IV) (g:Aa) (h i:IV):OH :=
 Ad [] a [] (A7 1 e (.fv (.int .i64 1)) fun j=>Af j b fun k d=>Ad [] d [] (AF c fun l=>Uj l b d a k f c g h i))
def TH (d:Hp) (e a f:IV) (g:Aa) (h:IV):OH :=
 AH 77600771 (.row [.fv (.int .i64 0),.fv (.int .i64 0),.nils,.fv (.int .i64 0),.fv (.int .i64 0),.nils,.fv (.nilp)] false) (.ptr (.own 77600771) 0) d fun b i _ _=>Ak 7 b e i fun c _ _=>AF a fun j=>Ac 2 j fun k=>Af k c fun l m=>R2 m l c f b g h a
def Sw (c b:IV) (a:Hp) (d:IV) (e:Aa) (f:IV):OH :=
 Am c (AF b fun g=>Ai 7 g a fun h _=>TH a h b d e f) (An [.fv .nilp] a)
def Sz (d:IV) (a:Hp) (b e:IV) (f:Aa) (g:IV):OH :=
 Ac 0 d fun h=>Af h a fun c _=>A5 EE 3 c (.fv (.int .i64 11)) fun i=>Am i (AF b fun j=>Uh j a) (A5 EE 3 c (.fv (.int .i64 12)) fun k=>Sw k b a e f g)
def S74 (d:Aa) (n:Nat) (e b:IV) (a:Hp):OH :=
 AF b fun f=>Ac 2 f fun g=>Af g a fun h _=>A7 1 h (.fv (.int .i64 3)) fun i=>Af i a fun c _=>AF c fun j=>Sz j a b c d e
theorem Aod (a:Aa) (n:Nat) (b c:IV) (d:Hp):Aw EE a ft.get n 74 [b,c] d=S74 a n b c d:=by kernel_rfl
def S75 (a:Aa) (n:Nat) (f b:IV) (c:Hp):OH :=
 Al [] false false a 84 [b,.fv (.int .i64 19)] c fun d e _ _=>An [d] e
theorem AoG (a:Aa) (n:Nat) (b c:IV) (d:Hp):Aw EE a ft.get n 75 [b,c] d=S75 a n b c d:=by kernel_rfl
def S76 (a:Aa) (n:Nat) (f b:IV) (c:Hp):OH :=
 Al [] false false a 84 [b,.fv (.int .i64 30)] c fun d e _ _=>An [d] e
theorem AmJ (a:Aa) (n:Nat) (b c:IV) (d:Hp):Aw EE a ft.get n 76 [b,c] d=S76 a n b c d:=by kernel_rfl
def Sn (a:Hp) (b:IV):OH :=
 BA b (.fv (.int .i64 17)) a fun c _ _=>An [] c
def RY (b c d:IV) (a:Hp):OH :=
 AG b c (.fv (.bool false)) fun e=>Am e (AF d fun f=>Ac 3 f fun g=>Sn a g) (An [] a)
def To (c:Hp) (a d:IV):OH :=
 Ab a true c (fun h=>h d c [] []) fun i e _ _=>Ab a true e (fun j=>AF i fun k=>j k e [] []) fun l f _ _=>Ab a true f (fun m=>Ac 3 l fun n=>m n f [] []) fun o b _ _=>Ab a true b (fun p=>Af o b fun q r=>p q b r []) fun s g _ _=>Ab a true g (fun t=>A5 EE 37 s (.fv (.int .i64 0)) fun u=>t u g [] []) fun v w _ _=>RY a v d w
def Sr (c:Hp) (d e a:IV):OH :=
 BA d e c fun b _ _=>AF a fun f=>Ac 1 f fun g=>Af g b fun h _=>G8 EE 3 h (.fv (.int .i64 0)) fun i=>To b i a
def S77 (i:Aa) (n:Nat) (a:IV) (b:Hp):OH :=
 AF a fun c=>Ac 1 c fun d=>Af d b fun e _=>Bd EE 3 e (.fv (.int .i64 1)) fun f=>AF a fun g=>Ac 1 g fun h=>Sr b h f a
theorem AnH (a:Aa) (n:Nat) (b:IV) (c:Hp):Aw EE a ft.get n 77 [b] c=S77 a n b c:=by kernel_rfl
def RH (a:Hp) (b:IV):OH :=
 Af b a fun c _=>An [c] a
def T9 (b:IV) (a:Hp) (c:List IV→Hp→OH) (d:IV):OH :=
 Ac 1 b fun e=>Af e a fun f _=>c [f,d] a
def R4 (c a:IV) (b:Hp) (d:IV) (e:List IV→Hp→OH):OH :=
 Am c (AF a fun f=>Ac 0 f fun g=>RH b g) (Bd EE 3 d (.fv (.int .i64 1)) fun h=>AF a fun i=>T9 i b e h)
def Ub (a:IV) (b:Hp):OH :=
 BC [.fv (.int .i64 0),.fv (.int .i64 0),.nils,.fv (.int .i64 0),.fv (.int .i64 0),.nils,.fv (.nilp)] [(0,1,.fv (.int .i64 1)),(1,1,a)] fun c=>A2 81795075 c b fun d e _ _=>An [d] e
def OS (d:List IV) (b:Hp) (e:List IV→Hp→OH):OH :=
 Av d fun c f=>Av f fun a _=>Ha EE 108 c (.fv .nilp) fun g=>Am g (A5 EE 3 a (.fv (.int .i64 0)) fun h=>R4 h c b a e) (Bd EE 3 (.fv (.int .i64 (-1))) a fun i=>Ub i b)
def S78 (g:Aa) (n:Nat) (a b:IV) (c:Hp):OH :=
 BF n (fun d e f=>OS e f d) [a,b] c
theorem AnA (a:Aa) (n:Nat) (b c:IV) (d:Hp):Aw EE a ft.get n 78 [b,c] d=S78 a n b c d:=by kernel_rfl
def S79 (a:Aa) (n:Nat) (b c:IV) (d:Hp):OH :=
 D6 EE a (.fv (.func (.func 85) [] [])) [b,c] d fun e f _ _=>An [e] f
theorem AoE (a:Aa) (n:Nat) (b c:IV) (d:Hp):Aw EE a ft.get n 79 [b,c] d=S79 a n b c d:=by kernel_rfl
def Abi (a:Hp) (b:IV) (c:Hp→OH):OH :=
 BA b (.fv (.int .i64 17)) a fun d _ _=>c d
def Y9 (c d:IV) (a:Hp) (b:Hp→OH):OH :=
 Am c (AF d fun e=>Ac 3 e fun f=>Abi a f b) (b a)
def Z5 (c:Hp) (d e a:IV) (f:Hp→OH):OH :=
 BA d e c fun b _ _=>AF a fun g=>Ac 0 g fun h=>Af h b fun i _=>G8 EE 3 i (.fv (.int .i64 0)) fun j=>Y9 j a b f
def Aaf (c:IV) (a:Hp) (b:IV) (d:Hp→OH):OH :=
 Ac 0 c fun e=>Af e a fun f _=>Bd EE 3 f (.fv (.int .i64 1)) fun g=>AF b fun h=>Ac 0 h fun i=>Z5 a i g b d
def Zl (c:IV) (a:Hp) (d e b:IV):OH :=
 Am c (An [d] a) ((fun (f:Hp→OH)=>AF b fun g=>Aaf g a b f) fun h=>An [e] h)
def AcG (c:Hp) (a f g h i:IV):OH :=
 Ab a false c (fun j=>AF f fun k=>j k c [] []) fun l d _ _=>Ab a false d (fun m=>Ac 3 l fun n=>m n d [] []) fun o b _ _=>Ab a false b (fun p=>Af o b fun q r=>p q b r []) fun s e _ _=>Ab a false e (fun t=>Ha EE 37 s (.fv (.int .i64 0)) fun u=>t u e [] []) fun v w _ _=>AG a (.fv (.bool true)) v fun x=>Zl x w g h i
def ZE (g:IV) (a:Hp) (h:Aa) (b c:IV):OH :=
 Ac 0 g fun i=>Af i a fun j _=>D6 EE h j [b] a fun d e _ _=>A5 EE 98 d (.fv .nilp) fun f=>Ab f false e (fun k=>k c e [] []) fun l m _ _=>AcG m f l b d c
def AcI (b:IV) (a:Hp) (c d:IV) (e:Aa):OH :=
 AF b fun f=>Ac 3 f fun g=>Af g a fun h _=>Ha EE 37 h (.fv (.int .i64 0)) fun i=>Am i (An [c] a) (ZE d a e c b)
def AbR (a:Hp) (b g c:IV) (d:Aa) (e h:IV):OH :=
 Ab b false a (fun i=>Ha EE 37 g (.fv (.int .i64 0)) fun j=>i j a [] []) fun k f _ _=>AG b (.fv (.bool true)) k fun l=>Am l (An [c] f) (Al [true] false false d 77 [e] f fun _ m _ _=>AcI e m c h d)
def Aa9 (g:IV) (c:Hp) (d h:IV) (i:Aa) (j:IV):OH :=
 CL (L5 .not g) fun a=>Ab a false c (fun k=>k d c [] []) fun l e _ _=>Ab a false e (fun m=>AF l fun n=>m n e [] []) fun o f _ _=>Ab a false f (fun p=>Ac 3 o fun q=>p q f [] []) fun r b _ _=>Ab a false b (fun s=>Af r b fun t u=>s t b u []) fun v w _ _=>AbR w a v h i d j
def Aam (b:IV) (c:Hp) (d e f g:AI) (h i j:IV) (k:Aa):OH :=
 AO 1 b fun l=>AH 83887116 (.row [.fv (.nilf)] false) (.ptr (.own 83887116) 0) c fun a m n o=>Ad [(d,e),(f,[]),(g,[])] n o (BA a h m fun p q r=>Ad [] q r (Aa9 l p i j k a))
def Aaa (a:Hp) (g:IV) (b:AI) (h i j:IV) (k:Aa):OH :=
 Af g a fun l c=>Ad [(b,[])] c [] (AB (GW EE 100 h l true) 83887112 a fun d m e f=>Ad [] e f (AO 0 d fun n=>Aam d m e f c b n i j k))
def S80 (e:Aa) (n:Nat) (a b:IV) (c:Hp):OH :=
 AF a fun f=>Ac 4 f fun g=>Af g c fun h d=>Ad [] d [] (AF b fun i=>Ac 0 i fun j=>Aaa c j d h a b e)
theorem Aoq (a:Aa) (n:Nat) (b c:IV) (d:Hp):Aw EE a ft.get n 80 [b,c] d=S80 a n b c d:=by kernel_rfl
def AiQ (b c:IV) (a:Hp) (d e f:AI) (g:Aa) (h i:IV):OH :=
 A7 3 b c fun j=>Ai 3 j a fun k l=>Ad [(d,e),(f,[])] l [] (Al [true,false,false] false false g 65 [h,i,k] a fun m n o p=>Ad [] o p (An [m] n))
def AfX (e:IV) (a:Hp) (b c d:AI) (f:IV) (g:Aa) (h i:IV):OH :=
 AF e fun j=>Ac 3 j fun k=>Ac 2 k fun l=>Af l a fun m n=>Ad [(b,c),(d,[])] n [] (AiQ m f a b c d g h i)
def S81 (a:Aa) (n:Nat) (g b h i:IV) (c:Hp):OH :=
 AF b fun j=>Ac 6 j fun k=>Af k c fun l d=>Ad [] d [] (Al [] false false a 86 [l,i] c fun m o e f=>Ad [] e f (AfX b o e f d h a g m))
theorem AmG (a:Aa) (n:Nat) (b c d e:IV) (f:Hp):Aw EE a ft.get n 81 [b,c,d,e] f=S81 a n b c d e f:=by kernel_rfl
def Ab3 (a:Hp) (b:IV):OH :=
 Ax true 3 b a fun c=>An [c] a
def ZG (a:Hp) (b:IV):OH :=
 Ax true 3 b a fun c=>An [c] a
def AaT (c:IV) (a:Hp) (d:Aa) (b:IV):OH :=
 A7 3 c (.fv (.int .i64 0)) fun e=>Ai 3 e a fun f _=>BC [.fv (.int .i64 0),.fv (.int .i64 0),.nils] [(0,1,.fv (.int .i64 11))] fun g=>Al [] false false d 88 [f,.fv (.int .i64 0),g] a fun h i _ _=>Ak 3 b h i fun j _ _=>ZG j b
def YV (c:IV) (a:Hp) (d b e:IV) (f:Aa):OH :=
 Am c (Ai 3 d a fun g _=>Ak 3 b g a fun h _ _=>Ab3 h b) (Ac 2 e fun i=>Af i a fun j _=>AaT j a f b)
def Aby (b:Hp) (a g:IV) (d:Aa) (h i j:IV):OH :=
 Ab a false b (fun k=>Af g b fun l m=>k l b m []) fun n e _ _=>Ab a false e (fun o=>A7 3 n (.fv (.int .i64 0)) fun p=>o p e [] []) fun q c _ _=>Ab a false c (fun r=>Ai 3 q c fun s t=>r s c t []) fun u f _ _=>Ab a false f (fun v=>Al [] false false d 87 [u,.fv (.int .i64 0)] f v) fun w x _ _=>AG a (.fv (.bool true)) w fun y=>YV y x h i j d
def Abt (c:Hp) (a h d:IV) (i:Aa) (j k:IV):OH :=
 Ab a false c (fun l=>Ac 1 h fun m=>l m c [] []) fun n b _ _=>Ab a false b (fun o=>Af n b fun p q=>o p b q []) fun r e _ _=>Ab a false e (fun s=>Ha EE 3 r (.fv (.int .i64 0)) fun t=>s t e [] []) fun u f _ _=>AG a (.fv (.bool true)) u fun g=>Ab g false f (fun v=>Ac 2 d fun w=>v w f [] []) fun x y _ _=>Aby y g x i j k d
def Z4 (c:Hp) (d h e:IV) (i:Aa) (j k:IV):OH :=
 Ab d false c (fun l=>Ha EE 3 h (.fv (.int .i64 1)) fun m=>l m c [] []) fun n f _ _=>AG d (.fv (.bool true)) n fun a=>Ab a false f (fun o=>Ac 2 e fun p=>o p f [] []) fun q b _ _=>Ab a false b (fun r=>Af q b fun s t=>r s b t []) fun u g _ _=>Ab a false g (fun v=>A7 3 u (.fv (.int .i64 1)) fun w=>v w g [] []) fun x y _ _=>Abt y a x e i j k
def Acm (d:Hp) (a e:IV) (h:Aa) (i j:IV):OH :=
 Ab a false d (fun k=>Ac 2 e fun l=>k l d [] []) fun m b _ _=>Ab a false b (fun n=>Af m b fun o p=>n o b p []) fun q f _ _=>Ab a false f (fun r=>A7 3 q (.fv (.int .i64 1)) fun s=>r s f [] []) fun t g _ _=>Ab a false g (fun u=>Ac 0 t fun v=>u v g [] []) fun w c _ _=>Ab a false c (fun x=>Af w c fun y z=>x y c z []) fun A B _ _=>Z4 B a A e h i j
def ZX (c:Hp) (d:IV) (e:Aa) (f g:IV):OH :=
 AH 85984260 (.row [.fv (.int .i64 0),.fv (.int .i64 0),.nils] false) (.ptr (.own 85984260) 0) c fun a h _ _=>Ak 3 a d h fun b _ _=>Ac 0 a fun i=>Af i b fun j _=>Ha EE 3 j (.fv (.int .i64 5)) fun k=>Acm b k a e f g
def S82 (c:Aa) (n:Nat) (d:IV) (e:Hp):OH :=
 A2 85983232 d e fun b f _ _=>AH 85983233 (.row [.fv (.int .i64 0),.fv (.int .i64 0),.nils] false) (.ptr (.own 85983233) 0) f fun g a _ _=>Ac 2 b fun h=>Af h a fun i _=>A7 3 i (.fv (.int .i64 1)) fun j=>Ai 3 j a fun k _=>ZX a k c b g
theorem AoI (a:Aa) (n:Nat) (b:IV) (c:Hp):Aw EE a ft.get n 82 [b] c=S82 a n b c:=by kernel_rfl
def KD (a:Hp) (b:IV):OH :=
 Ax true 3 b a fun c=>An [c] a
def LC (d:IV) (a:Hp) (b:IV):OH :=
 A7 3 d (.fv (.int .i64 0)) fun e=>Ai 3 e a fun f _=>Ak 3 b f a fun c _ _=>Ax true 3 b c fun g=>An [g] c
def Le (c d:IV) (a:Hp) (e b f:IV):OH :=
 AG c (.fv (.bool true)) d fun g=>Am g (Ai 3 e a fun h _=>Ak 3 b h a fun i _ _=>KD i b) (Ac 2 f fun j=>Af j a fun k _=>LC k a b)
def Kd (b:Hp) (a e:IV) (f g h i:AI) (j:Aa) (k l m n:IV):OH :=
 Ab a false b (fun o=>Ai 3 e b fun p q=>o p b q []) fun r c s t=>Ad [(f,g),(h,i)] s t (Ab a false c (fun u=>Al [] false false j 57 [k,r] c u) fun v d w x=>Ad [] w x (Ab a false d (fun y=>CL (L5 .not v) fun z=>y z d [] []) fun A B _ _=>Le a A B l m n))
def K0 (b c:AI) (e:Hp) (a i:IV) (f g:AI) (j:Aa) (k l m n:IV):OH :=
 Ad [] b c (Ab a false e (fun o=>Ac 2 i fun p=>o p e [] []) fun q d _ _=>Ab a false d (fun r=>Af q d fun s t=>r s d t []) fun u h v w=>Ad [(b,c),(f,g)] v w (Ab a false h (fun x=>A7 3 u (.fv (.int .i64 0)) fun y=>x y h [] []) fun z A _ _=>Kd A a z b c f g j k l m n))
def Lp (d:Hp) (a e i:IV) (j:Aa) (k l:IV):OH :=
 Ab a false d (fun m=>Ac 2 e fun n=>m n d [] []) fun o b _ _=>Ab a false b (fun p=>Af o b fun q r=>p q b r []) fun s f g h=>Ad [] g h (Ab a false f (fun t=>A7 3 s (.fv (.int .i64 0)) fun u=>t u f [] []) fun v c _ _=>Ab a false c (fun w=>Ai 3 v c fun x y=>w x c y []) fun z A B C=>K0 B C A a i g h j z k l e)
def KF (c:Hp) (a d f:IV) (g:Aa) (h i:IV):OH :=
 Ab a false c (fun j=>Ac 0 d fun k=>j k c [] []) fun l b _ _=>Ab a false b (fun m=>Af l b fun n o=>m n b o []) fun p e q r=>Ad [] q r (Ab a false e (fun s=>Ha EE 3 p (.fv (.int .i64 9)) fun t=>s t e [] []) fun u v _ _=>AG a (.fv (.bool true)) u fun w=>Lp v w f d g h i)
def KL (c d:AI) (a:IV) (b:Hp) (e:IV) (f:Aa) (g h:IV):OH :=
 Ad [] c d (Ac 0 a fun i=>Af i b fun j k=>Ad [] k [] (Ha EE 3 j (.fv (.int .i64 8)) fun l=>KF b l e a f g h))
def KO (e:Hp) (f g a b h i:AI) (c j k:IV) (l:Aa) (m n:IV):OH :=
 AH 87032841 (.row [.fv (.int .i64 0),.fv (.int .i64 0),.nils] false) (.ptr (.own 87032841) 0) e fun d o p q=>Ad [(f,g),(a,[]),(b,[]),(h,[]),(i,[])] p q (Ak 3 c j o fun r s t=>Ad [(a,[]),(b,[])] s t (Ak 3 d k r fun u v w=>KL v w c u d l m n))
def Ka (h:IV) (d:Hp) (a b e:AI) (i:IV) (j:Aa) (k l:IV):OH :=
 A7 3 h (.fv (.int .i64 2)) fun m=>Ai 3 m d fun n c=>Ad [(a,[]),(b,[])] c [] (AH 87032840 (.row [.fv (.int .i64 0),.fv (.int .i64 0),.nils] false) (.ptr (.own 87032840) 0) d fun o p f g=>Ad [(c,[]),(e,[]),(a,[]),(b,[])] f g (KO p f g c e a b o i n j k l))
def Ly (a:Hp) (f c:IV) (d:AI) (g:Aa) (h:IV):OH :=
 Ai 3 f a fun i b=>Ad [] b [] (Ac 2 c fun j=>Af j a fun k e=>Ad [(b,[]),(d,[])] e [] (Ka k a b d e i g c h))
def S83 (d:Aa) (n:Nat) (e:IV) (f:Hp):OH :=
 A2 87031808 e f fun a g _ _=>AH 87031809 (.row [.fv (.int .i64 0),.fv (.int .i64 0),.nils] false) (.ptr (.own 87031809) 0) g fun h b _ _=>Ac 2 a fun i=>Af i b fun j c=>Ad [] c [] (A7 3 j (.fv (.int .i64 1)) fun k=>Ly b k a c d h)
theorem ApJ (a:Aa) (n:Nat) (b:IV) (c:Hp):Aw EE a ft.get n 83 [b] c=S83 a n b c:=by kernel_rfl
def W7 (b:IV) (a:Hp):OH :=
 Ac 2 b fun c=>Af c a fun d _=>A7 1 d (.fv (.int .i64 0)) fun e=>Af e a fun f _=>An [f] a
def WT (b:IV) (a:Hp):OH :=
 Ac 2 b fun c=>Af c a fun d _=>A7 1 d (.fv (.int .i64 0)) fun e=>Af e a fun f _=>AF f fun g=>W7 g a
def Xy (b:IV) (a:Hp) (c d:IV):OH :=
 Ac 0 b fun e=>Af e a fun f _=>Ha EE 3 f c fun g=>Am g (An [.fv .nilp] a) (AF d fun h=>WT h a)
def S84 (j:Aa) (n:Nat) (b c:IV) (a:Hp):OH :=
 AF b fun d=>Ac 2 d fun e=>Af e a fun f _=>A7 1 f (.fv (.int .i64 0)) fun g=>Af g a fun h _=>AF h fun i=>Xy i a c b
theorem Apz (a:Aa) (n:Nat) (b c:IV) (d:Hp):Aw EE a ft.get n 84 [b,c] d=S84 a n b c d:=by kernel_rfl
def AiY (b:IV) (a:Hp) (c:Hp→OH):OH :=
 A5 EE 3 b (.fv (.int .i64 0)) fun d=>Am d (An [.fv (.int .i64 1)] a) (A5 EE 3 b (.fv (.int .i64 2)) fun e=>Am e (An [.fv (.int .i64 2)] a) (c a))
def AfR (d c:IV) (a:Hp) (b:Hp→OH) (e:IV):OH :=
 Am d (A5 EE 3 c (.fv (.int .i64 1)) fun f=>Am f (An [.fv (.int .i64 1)] a) (b a)) (A5 EE 3 e (.fv (.int .i64 13)) fun g=>Am g (AiY c a b) (b a))
def AhW (a:IV) (b:IV→Hp→OH) (c:Hp):OH :=
 A5 EE 3 a (.fv (.int .i64 29)) fun d=>b d c
def Aix (a:IV) (b:IV→Hp→OH) (c:Hp):OH :=
 A5 EE 3 a (.fv (.int .i64 20)) fun d=>Am d (b d c) (A5 EE 3 a (.fv (.int .i64 28)) fun e=>Am e (b e c) (AhW a b c))
def Ahu (c:IV) (a:IV→Hp→OH) (b:Hp) (d:IV):OH :=
 Am c (a c b) (A5 EE 3 d (.fv (.int .i64 6)) fun e=>Am e (a e b) (Aix d a b))
def S85 (k:Aa) (n:Nat) (a e:IV) (b:Hp):OH :=
 (fun (f:Hp→OH)=>(fun (c:IV→Hp→OH)=>A5 EE 3 a (.fv (.int .i64 3)) fun d=>Am d (c d b) (A5 EE 3 a (.fv (.int .i64 4)) fun g=>Ahu g c b a)) fun h i=>AfR h e i f a) fun j=>An [.fv (.int .i64 0)] j
theorem ApN (a:Aa) (n:Nat) (b c:IV) (d:Hp):Aw EE a ft.get n 85 [b,c] d=S85 a n b c d:=by kernel_rfl
def Sx (f g:IV) (h:Hp) (i:IV) (j:Hp) (a b:IV) (k:List IV→Hp→OH):OH :=
 BC [.fv (.nilp),.fv (.nilp)] [(0,1,f),(1,1,g)] fun c=>fzS (LN true 90181635 c) 90181635 c h fun d l _ _=>By EE 3 i (.fv (.int .i64 1)) fun e=>Bf (j.own.map (·.1)) [90181635] [d,a,b,e] l fun m=>k [d,a,b,e] m
def Tj (e b c:IV) (a:Hp) (d:IV) (f:Hp) (g:IV) (h:List IV→Hp→OH):OH :=
 Am e (A7 1 b c fun i=>Af i a fun j _=>Sx j d a c f b g h) (An [d] a)
def Wu (c:List IV) (d e:Hp) (f:List IV→Hp→OH):OH :=
 Av c fun g h=>Av h fun i j=>Av j fun a k=>Av k fun b _=>G8 EE 3 b a fun l=>Tj l i b d g e a f
def S86 (i:Aa) (n:Nat) (c a:IV) (b:Hp):OH :=
 BS a fun d=>Bf (b.own.map (·.1)) [90181635] [c,a,d,.fv (.int .i64 0)] b fun e=>BF n (fun f g h=>Wu g h b f) [c,a,d,.fv (.int .i64 0)] e
theorem Aqc (a:Aa) (n:Nat) (b c:IV) (d:Hp):Aw EE a ft.get n 86 [b,c] d=S86 a n b c d:=by kernel_rfl
def S87 (b:Aa) (n:Nat) (c d:IV) (e:Hp):OH :=
 A2 91226112 c e fun f g _ _=>A2 91226113 d g fun h a _ _=>Ai 3 f a fun i _=>AB (val (CQ (.func 90) [] [h])) 91227137 a fun j k _ _=>Al [] false false b 89 [i,.fv (.int .i64 0),j] k fun l m _ _=>An [l] m
theorem ApQ (a:Aa) (n:Nat) (b c:IV) (d:Hp):Aw EE a ft.get n 87 [b,c] d=S87 a n b c d:=by kernel_rfl
def Aib (c:Aa) (d:Hp) (e f a:IV):OH :=
 Al [] false false c 91 [e,.fv (.int .i64 0),f] d fun g h _ _=>Ak 3 a g h fun b _ _=>Ax true 3 a b fun i=>An [i] b
def S88 (b:Aa) (n:Nat) (c d e:IV) (f:Hp):OH :=
 A2 92274688 c f fun g h _ _=>A2 92274689 d h fun i j _ _=>A2 92274690 e j fun k l _ _=>AH 92274691 (.row [.fv (.int .i64 0),.fv (.int .i64 0),.nils] false) (.ptr (.own 92274691) 0) l fun m a _ _=>Ai 3 g a fun o _=>AB (val (CQ (.func 92) [] [i,k])) 92275713 a fun p q _ _=>Aib b q o p m
theorem Ao8 (a:Aa) (n:Nat) (b c d:IV) (e:Hp):Aw EE a ft.get n 88 [b,c,d] e=S88 a n b c d e:=by kernel_rfl
def MD (a:Hp) (b:IV) (c:Aa) (d e:IV):OH :=
 Af b a fun f _=>D6 EE c d [f,e] a fun g h _ _=>An [g] h
def Mv (g h:Hp) (a b c d e f:IV) (i:List IV→Hp→OH):OH :=
 Bf (g.own.map (·.1)) [93328387] [a,b,c,d,e,f] h fun j=>i [a,b,c,d,e,f] j
def L8 (a d:IV) (e:Aa) (f:Hp) (g b h:IV) (i:Hp) (j k l:IV) (m:List IV→Hp→OH):OH :=
 By EE 3 a d fun n=>Al [] false false e 89 [g,n,b] f fun o c p q=>Ad [] p q (Am o (An [.fv (.bool true)] c) (By EE 3 h (.fv (.int .i64 1)) fun r=>Mv i c a b j k l r m))
def MB (a:IV) (b:Hp) (c:AI) (d:Aa) (e f g h:IV) (i:Hp) (j k:IV) (l:List IV→Hp→OH):OH :=
 Ac 0 a fun m=>Af m b fun n o=>Ad [(c,[])] o [] (Al [] false false d 79 [n,e] b fun p q r s=>Ad [(c,[])] r s (L8 f p d q g h e i a j k l))
def MV (a:Hp) (e f:IV) (g:Aa) (h i j:IV) (k:Hp) (l m:IV) (n:List IV→Hp→OH):OH :=
 Ai 3 e a fun o _=>AH 93328387 (.row [.fv (.int .i64 0),.fv (.int .i64 0),.nils] false) (.ptr (.own 93328387) 0) a fun b p _ _=>Ak 3 b o p fun c _ _=>Ai 3 b c fun q d=>Ad [] d [] (MB f c d g h i q j k l m n)
def Mn (e:List IV) (b c:IV) (d:Hp) (f:IV) (g:Aa) (h i:IV) (j:Hp) (k:List IV→Hp→OH):OH :=
 Av e fun a _=>G8 EE 3 a b fun l=>Am l (A7 3 c a fun m=>MV d m f g a h i j c b k) (An [.fv (.bool false)] d)
def RJ (a:List IV) (b:Hp) (c:Aa) (d:Hp) (e:List IV→Hp→OH):OH :=
 Av a fun f g=>Av g fun h i=>Av i fun j k=>Av k fun l m=>Av m fun n o=>Mn o n l b j c f h d e
def MF (b:Hp) (h:IV) (c:Hp) (d e f:IV) (n:Nat) (i:Aa):OH :=
 Af h b fun a _=>BS a fun g=>Bf (c.own.map (·.1)) [93328387] [d,e,f,a,g,.fv (.int .i64 0)] b fun j=>BF n (fun k l m=>RJ l m i c k) [d,e,f,a,g,.fv (.int .i64 0)] j
def S89 (c:Aa) (n:Nat) (g d e:IV) (f:Hp):OH :=
 A2 93323264 g f fun a b _ _=>Ac 0 a fun h=>Af h b fun i _=>A5 EE 3 i (.fv (.int .i64 1)) fun j=>Am j (Ac 1 a fun k=>MD b k c e d) (Ac 2 a fun l=>MF b l f d e a n c)
theorem AoU (a:Aa) (n:Nat) (b c d:IV) (e:Hp):Aw EE a ft.get n 89 [b,c,d] e=S89 a n b c d e:=by kernel_rfl
def T7 (a b:IV) (c:Hp):OH :=
 AG a b (.fv (.bool false)) fun d=>An [d] c
def S90 (s:Aa) (n:Nat) (c d g:IV) (b:Hp):OH :=
 Bd EE 3 c d fun h=>Af g b fun i _=>A5 EE 3 h i fun a=>Ab a true b (fun j=>j c b [] []) fun k e _ _=>Ab a true e (fun l=>l d e [] []) fun m f _ _=>Ab a true f (fun o=>geS EE 3 k m fun p=>o p f [] []) fun q r _ _=>T7 a q r
theorem Ape (a:Aa) (n:Nat) (b c d:IV) (e:Hp):Aw EE a ft.get n 90 [b,c,d] e=S90 a n b c d e:=by kernel_rfl
def Ki (a:Hp) (d:IV) (e:Aa) (f g b:IV):OH :=
 Ai 3 d a fun h _=>D6 EE e f [h,g] a fun i j _ _=>Ak 3 b i j fun c _ _=>Ax true 3 b c fun k=>An [k] c
def LK (i:Hp) (j k l:IV) (m:Hp) (a b c d e f g:IV) (n:List IV→Hp→OH):OH :=
 Ak 3 j k i fun o p q=>Ad [] p q (By EE 3 l (.fv (.int .i64 1)) fun h=>Bf (m.own.map (·.1)) [95426563] [a,b,c,d,e,f,g,h] o fun r=>n [a,b,c,d,e,f,g,h] r)
def LJ (e f g:AI) (a h:IV) (i:Aa) (j:Hp) (k b c d:IV) (l:Hp) (m n o p:IV) (q:List IV→Hp→OH):OH :=
 Ad [(g,[])] e f (By EE 3 a h fun r=>Al [] false false i 91 [k,r,b] j fun s t u v=>Ad [] u v (A7 3 c d fun w=>LK t w s d l a b m n c o p q))
def KS (a:AI) (b:IV) (c:Hp) (d:Aa) (e f g h i:IV) (j:Hp) (k l m:IV) (n:List IV→Hp→OH):OH :=
 Ad [] a [] (Ac 0 b fun o=>Af o c fun p q=>Ad [(a,[])] q [] (Al [] false false d 79 [p,e] c fun r s t u=>LJ t u a f r d s g h i e j b k l m n))
def LU (a b:IV) (c:Hp) (f:IV) (g:Aa) (h i j:IV) (k:Hp) (l m:IV) (n:List IV→Hp→OH):OH :=
 A7 3 a b fun o=>Ai 3 o c fun p _=>AH 95426563 (.row [.fv (.int .i64 0),.fv (.int .i64 0),.nils] false) (.ptr (.own 95426563) 0) c fun d q _ _=>Ak 3 d p q fun e _ _=>Ai 3 d e fun r s=>KS s f e g b h r i j k l a m n
def Kb (c:Hp) (a d:IV):OH :=
 Ak 3 a d c fun b _ _=>Ax true 3 a b fun e=>An [e] b
def K9 (b:IV) (a:Hp) (c d:IV):OH :=
 Ac 0 b fun e=>Af e a fun f _=>Ac 1 b fun g=>Af g a fun h _=>BC [.fv (.int .i64 0),.fv (.int .i64 0),.nils] [(0,1,f),(1,1,h),(2,1,c)] fun i=>Kb a d i
def KH (g:List IV) (a:Hp) (b:IV) (h:Aa) (i j c:IV) (k:Hp) (d:IV) (l:List IV→Hp→OH):OH :=
 Av g fun m n=>Av n fun e o=>Av o fun f _=>G8 EE 3 f e fun p=>Am p (LU m f a b h i j c k d e l) (K9 b a c d)
def Rb (a:List IV) (b:Hp) (c:Aa) (d:Hp) (e:List IV→Hp→OH):OH :=
 Av a fun f g=>Av g fun h i=>Av i fun j k=>Av k fun l m=>Av m fun n o=>KH o b j c f h n d l e
def LB (b:Hp) (j:IV) (c:Hp) (d e f g h:IV) (n:Nat) (k:Aa):OH :=
 Af j b fun a _=>BS a fun i=>Bf (c.own.map (·.1)) [95426563] [d,e,f,g,h,a,i,.fv (.int .i64 0)] b fun l=>BF n (fun m o p=>Rb o p k c m) [d,e,f,g,h,a,i,.fv (.int .i64 0)] l
def Lz (a:IV) (b d:Hp) (e f g:IV) (n:Nat) (h:Aa):OH :=
 Ac 2 a fun i=>Af i b fun j _=>BS j fun c=>AB (Bn EE 95423491 29 c c) 95423491 b fun k l _ _=>Ac 2 a fun m=>LB l m d e f a g k n h
def S91 (c:Aa) (n:Nat) (h d e:IV) (f:Hp):OH :=
 A2 95420416 h f fun a i _ _=>AH 95420417 (.row [.fv (.int .i64 0),.fv (.int .i64 0),.nils] false) (.ptr (.own 95420417) 0) i fun g b _ _=>Ac 0 a fun j=>Af j b fun k _=>A5 EE 3 k (.fv (.int .i64 1)) fun l=>Am l (Ki b a c e d g) (Lz a b f d e g n c)
theorem Apg (a:Aa) (n:Nat) (b c d:IV) (e:Hp):Aw EE a ft.get n 91 [b,c,d] e=S91 a n b c d e:=by kernel_rfl
def Sc (c:Hp) (a d:IV):OH :=
 Ak 3 a d c fun b _ _=>Ax true 3 a b fun e=>An [e] b
def TJ (c:Hp) (a d:IV):OH :=
 Ak 3 a d c fun b _ _=>Ax true 3 a b fun e=>An [e] b
def T5 (c:Hp) (a d:IV):OH :=
 Ak 3 a d c fun b _ _=>Ax true 3 a b fun e=>An [e] b
def Q2 (d:IV) (a:Hp) (e:IV) (b:Aa) (f c g:IV):OH :=
 Am d (Ai 3 e a fun h _=>Al [] false false b 94 [h,f,.fv (.int .i64 0)] a fun i j _ _=>TJ j c i) (Ai 3 g a fun k _=>Al [] false false b 93 [k,.fv (.int .i64 0)] a fun l m _ _=>T5 m c l)
def RN (b f:IV) (a:Hp) (c:IV) (d:Aa) (e g h i:IV):OH :=
 Mj EE 3 b f fun j=>Am j (Ai 3 c a fun k _=>Al [] false false d 93 [k,.fv (.int .i64 (-1))] a fun l m _ _=>Sc m e l) (Af g a fun n _=>A5 EE 3 b n fun o=>Q2 o a h d i e c)
def S92 (e:Aa) (n:Nat) (f b c g:IV) (h:Hp):OH :=
 A2 96468992 f h fun d i _ _=>AH 96468993 (.row [.fv (.int .i64 0),.fv (.int .i64 0),.nils] false) (.ptr (.own 96468993) 0) i fun j a _ _=>Ac 1 d fun k=>Af k a fun l _=>Bd EE 3 l b fun m=>Af c a fun o _=>RN m o a d e j c g b
theorem Ant (a:Aa) (n:Nat) (b c d e:IV) (f:Hp):Aw EE a ft.get n 92 [b,c,d,e] f=S92 a n b c d e f:=by kernel_rfl
def Aig (c:Hp) (a d:IV):OH :=
 Ak 3 a d c fun b _ _=>Ax true 3 a b fun e=>An [e] b
def S93 (l:Aa) (n:Nat) (b c:IV) (d:Hp):OH :=
 A2 97517568 b d fun e f _ _=>AH 97517569 (.row [.fv (.int .i64 0),.fv (.int .i64 0),.nils] false) (.ptr (.own 97517569) 0) f fun g a _ _=>Ac 1 e fun h=>Af h a fun i _=>By EE 3 i c fun j=>BC [.fv (.int .i64 0),.fv (.int .i64 0),.nils] [(0,1,.fv (.int .i64 1)),(1,1,j)] fun k=>Aig a g k
theorem Aot (a:Aa) (n:Nat) (b c:IV) (d:Hp):Aw EE a ft.get n 93 [b,c] d=S93 a n b c d:=by kernel_rfl
def AfB (c:Aa) (d:Hp) (e f a:IV):OH :=
 Al [] false false c 91 [e,.fv (.int .i64 0),f] d fun g h _ _=>Ak 3 a g h fun b _ _=>Ax true 3 a b fun i=>An [i] b
def S94 (b:Aa) (n:Nat) (c d e:IV) (f:Hp):OH :=
 A2 98566144 c f fun g h _ _=>A2 98566145 d h fun i j _ _=>A2 98566146 e j fun k l _ _=>AH 98566147 (.row [.fv (.int .i64 0),.fv (.int .i64 0),.nils] false) (.ptr (.own 98566147) 0) l fun m a _ _=>Ai 3 g a fun o _=>AB (val (CQ (.func 95) [] [k,i])) 98567169 a fun p q _ _=>AfB b q o p m
theorem Anb (a:Aa) (n:Nat) (b c d:IV) (e:Hp):Aw EE a ft.get n 94 [b,c,d] e=S94 a n b c d e:=by kernel_rfl
def WO (c:Aa) (d:Hp) (e f a:IV):OH :=
 Al [] false false c 93 [e,f] d fun g h _ _=>Ak 3 a g h fun b _ _=>Ax true 3 a b fun i=>An [i] b
def Wz (c:Hp) (a d:IV):OH :=
 Ak 3 a d c fun b _ _=>Ax true 3 a b fun e=>An [e] b
def W3 (e f:IV) (a:Hp) (b g:IV) (c:Aa) (d:IV):OH :=
 geS EE 3 e f fun h=>Am h (Ai 3 b a fun i _=>Af g a fun j _=>WO c a i j d) (Ai 3 b a fun k _=>Al [] false false c 93 [k,.fv (.int .i64 0)] a fun l m _ _=>Wz m d l)
def S95 (c:Aa) (n:Nat) (d e f g:IV) (h:Hp):OH :=
 A2 99614720 d h fun b i _ _=>AH 99614721 (.row [.fv (.int .i64 0),.fv (.int .i64 0),.nils] false) (.ptr (.own 99614721) 0) i fun j a _ _=>Ac 1 b fun k=>Af k a fun l _=>Bd EE 3 l e fun m=>Af f a fun o _=>W3 m o a b g c j
theorem AoF (a:Aa) (n:Nat) (b c d e:IV) (f:Hp):Aw EE a ft.get n 95 [b,c,d,e] f=S95 a n b c d e f:=by kernel_rfl
end
noncomputable section
def dt:DT :=
 .node 55 (.node 34 (.node 21 (.node 15 (.node 11 (.node 10 (.leaf 7 (fun ih n=>ar5 (S7 ih n)))
 (.leaf 10 (fun ih n=>OT (S10 ih n))))
 (.node 12 (.leaf 11 (fun ih n=>Fe (S11 ih n)))
 (.node 13 (.leaf 12 (fun ih n=>Fe (S12 ih n)))
 (.leaf 13 (fun ih n=>L4 (S13 ih n))))))
 (.node 17 (.node 16 (.leaf 15 (fun ih n=>Fe (S15 ih n)))
 (.leaf 16 (fun ih n=>D5 (S16 ih n))))
 (.node 18 (.leaf 17 (fun ih n=>Fe (S17 ih n)))
 (.node 20 (.leaf 18 (fun ih n=>Fe (S18 ih n)))
 (.leaf 20 (fun ih n=>Fe (S20 ih n)))))))
 (.node 26 (.node 23 (.node 22 (.leaf 21 (fun ih n=>L6 (S21 ih n)))
 (.leaf 22 (fun ih n=>L6 (S22 ih n))))
 (.node 24 (.leaf 23 (fun ih n=>L4 (S23 ih n)))
 (.node 25 (.leaf 24 (fun ih n=>D5 (S24 ih n)))
 (.leaf 25 (fun ih n=>L6 (S25 ih n))))))
 (.node 29 (.node 27 (.leaf 26 (fun ih n=>Fe (S26 ih n)))
 (.leaf 27 (fun ih n=>Fe (S27 ih n))))
 (.node 30 (.leaf 29 (fun ih n=>Fe (S29 ih n)))
 (.node 33 (.leaf 30 (fun ih n=>D5 (S30 ih n)))
 (.leaf 33 (fun ih n=>D5 (S33 ih n))))))))
 (.node 44 (.node 39 (.node 36 (.node 35 (.leaf 34 (fun ih n=>D5 (S34 ih n)))
 (.leaf 35 (fun ih n=>L4 (S35 ih n))))
 (.node 37 (.leaf 36 (fun ih n=>Fe (S36 ih n)))
 (.node 38 (.leaf 37 (fun ih n=>D5 (S37 ih n)))
 (.leaf 38 (fun ih n=>Fe (S38 ih n))))))
 (.node 41 (.node 40 (.leaf 39 (fun ih n=>Fe (S39 ih n)))
 (.leaf 40 (fun ih n=>D5 (S40 ih n))))
 (.node 42 (.leaf 41 (fun ih n=>L4 (S41 ih n)))
 (.node 43 (.leaf 42 (fun ih n=>L6 (S42 ih n)))
 (.leaf 43 (fun ih n=>D5 (S43 ih n)))))))
 (.node 49 (.node 46 (.node 45 (.leaf 44 (fun ih n=>OT (S44 ih n)))
 (.leaf 45 (fun ih n=>Fe (S45 ih n))))
 (.node 47 (.leaf 46 (fun ih n=>D5 (S46 ih n)))
 (.node 48 (.leaf 47 (fun ih n=>L4 (S47 ih n)))
 (.leaf 48 (fun ih n=>L4 (S48 ih n))))))
 (.node 52 (.node 50 (.leaf 49 (fun ih n=>L4 (S49 ih n)))
 (.node 51 (.leaf 50 (fun ih n=>L6 (S50 ih n)))
 (.leaf 51 (fun ih n=>D5 (S51 ih n)))))
 (.node 53 (.leaf 52 (fun ih n=>L6 (S52 ih n)))
 (.node 54 (.leaf 53 (fun ih n=>L4 (S53 ih n)))
 (.leaf 54 (fun ih n=>D5 (S54 ih n)))))))))
 (.node 75 (.node 65 (.node 60 (.node 57 (.node 56 (.leaf 55 (fun ih n=>Fe (S55 ih n)))
 (.leaf 56 (fun ih n=>Fe (S56 ih n))))
 (.node 58 (.leaf 57 (fun ih n=>D5 (S57 ih n)))
 (.node 59 (.leaf 58 (fun ih n=>D5 (S58 ih n)))
 (.leaf 59 (fun ih n=>D5 (S59 ih n))))))
 (.node 62 (.node 61 (.leaf 60 (fun ih n=>L4 (S60 ih n)))
 (.leaf 61 (fun ih n=>Fe (S61 ih n))))
 (.node 63 (.leaf 62 (fun ih n=>D5 (S62 ih n)))
 (.node 64 (.leaf 63 (fun ih n=>Fe (S63 ih n)))
 (.leaf 64 (fun ih n=>OT (S64 ih n)))))))
 (.node 70 (.node 67 (.node 66 (.leaf 65 (fun ih n=>L6 (S65 ih n)))
 (.leaf 66 (fun ih n=>L4 (S66 ih n))))
 (.node 68 (.leaf 67 (fun ih n=>Fe (S67 ih n)))
 (.node 69 (.leaf 68 (fun ih n=>Fe (S68 ih n)))
 (.leaf 69 (fun ih n=>L6 (S69 ih n))))))
 (.node 72 (.node 71 (.leaf 70 (fun ih n=>Fe (S70 ih n)))
 (.leaf 71 (fun ih n=>Fe (S71 ih n))))
 (.node 73 (.leaf 72 (fun ih n=>D5 (S72 ih n)))
 (.node 74 (.leaf 73 (fun ih n=>D5 (S73 ih n)))
 (.leaf 74 (fun ih n=>D5 (S74 ih n))))))))
 (.node 85 (.node 80 (.node 77 (.node 76 (.leaf 75 (fun ih n=>D5 (S75 ih n)))
 (.leaf 76 (fun ih n=>D5 (S76 ih n))))
 (.node 78 (.leaf 77 (fun ih n=>Fe (S77 ih n)))
 (.node 79 (.leaf 78 (fun ih n=>D5 (S78 ih n)))
 (.leaf 79 (fun ih n=>D5 (S79 ih n))))))
 (.node 82 (.node 81 (.leaf 80 (fun ih n=>D5 (S80 ih n)))
 (.leaf 81 (fun ih n=>L4 (S81 ih n))))
 (.node 83 (.leaf 82 (fun ih n=>Fe (S82 ih n)))
 (.node 84 (.leaf 83 (fun ih n=>Fe (S83 ih n)))
 (.leaf 84 (fun ih n=>D5 (S84 ih n)))))))
 (.node 90 (.node 87 (.node 86 (.leaf 85 (fun ih n=>D5 (S85 ih n)))
 (.leaf 86 (fun ih n=>D5 (S86 ih n))))
 (.node 88 (.leaf 87 (fun ih n=>D5 (S87 ih n)))
 (.node 89 (.leaf 88 (fun ih n=>L6 (S88 ih n)))
 (.leaf 89 (fun ih n=>L6 (S89 ih n))))))
 (.node 93 (.node 91 (.leaf 90 (fun ih n=>L6 (S90 ih n)))
 (.node 92 (.leaf 91 (fun ih n=>L6 (S91 ih n)))
 (.leaf 92 (fun ih n=>L4 (S92 ih n)))))
 (.node 94 (.leaf 93 (fun ih n=>D5 (S93 ih n)))
 (.node 95 (.leaf 94 (fun ih n=>L6 (S94 ih n)))
 (.leaf 95 (fun ih n=>L4 (S95 ih n)))))))))
theorem Arb:dt.Ok EE ft.get :=
 ⟨⟨⟨⟨⟨⟨(fun ih n _ _ _ e=>ApA (F:=Aw EE ih ft.get n 7) (AsS ih n) e),
 (fun ih n _ _ _ e=>WD (F:=Aw EE ih ft.get n 10) (Ap1 ih n) e)⟩,
 ⟨(fun ih n _ _ _ e=>BT (F:=Aw EE ih ft.get n 11) (AnX ih n) e),
 ⟨(fun ih n _ _ _ e=>BT (F:=Aw EE ih ft.get n 12) (An5 ih n) e),
 (fun ih n _ _ _ e=>Ej (F:=Aw EE ih ft.get n 13) (AmV ih n) e)⟩⟩⟩,
 ⟨⟨(fun ih n _ _ _ e=>BT (F:=Aw EE ih ft.get n 15) (Aqp ih n) e),
 (fun ih n _ _ _ e=>BB (F:=Aw EE ih ft.get n 16) (Aof ih n) e)⟩,
 ⟨(fun ih n _ _ _ e=>BT (F:=Aw EE ih ft.get n 17) (Ani ih n) e),
 ⟨(fun ih n _ _ _ e=>BT (F:=Aw EE ih ft.get n 18) (AmY ih n) e),
 (fun ih n _ _ _ e=>BT (F:=Aw EE ih ft.get n 20) (AnO ih n) e)⟩⟩⟩⟩,
 ⟨⟨⟨(fun ih n _ _ _ e=>El (F:=Aw EE ih ft.get n 21) (Aqn ih n) e),
 (fun ih n _ _ _ e=>El (F:=Aw EE ih ft.get n 22) (AoZ ih n) e)⟩,
 ⟨(fun ih n _ _ _ e=>Ej (F:=Aw EE ih ft.get n 23) (Apc ih n) e),
 ⟨(fun ih n _ _ _ e=>BB (F:=Aw EE ih ft.get n 24) (Aob ih n) e),
 (fun ih n _ _ _ e=>El (F:=Aw EE ih ft.get n 25) (Ao3 ih n) e)⟩⟩⟩,
 ⟨⟨(fun ih n _ _ _ e=>BT (F:=Aw EE ih ft.get n 26) (AnP ih n) e),
 (fun ih n _ _ _ e=>BT (F:=Aw EE ih ft.get n 27) (AnB ih n) e)⟩,
 ⟨(fun ih n _ _ _ e=>BT (F:=Aw EE ih ft.get n 29) (AmL ih n) e),
 ⟨(fun ih n _ _ _ e=>BB (F:=Aw EE ih ft.get n 30) (AoA ih n) e),
 (fun ih n _ _ _ e=>BB (F:=Aw EE ih ft.get n 33) (AnK ih n) e)⟩⟩⟩⟩⟩,
 ⟨⟨⟨⟨(fun ih n _ _ _ e=>BB (F:=Aw EE ih ft.get n 34) (Aol ih n) e),
 (fun ih n _ _ _ e=>Ej (F:=Aw EE ih ft.get n 35) (An4 ih n) e)⟩,
 ⟨(fun ih n _ _ _ e=>BT (F:=Aw EE ih ft.get n 36) (AmT ih n) e),
 ⟨(fun ih n _ _ _ e=>BB (F:=Aw EE ih ft.get n 37) (Ao7 ih n) e),
 (fun ih n _ _ _ e=>BT (F:=Aw EE ih ft.get n 38) (AoY ih n) e)⟩⟩⟩,
 ⟨⟨(fun ih n _ _ _ e=>BT (F:=Aw EE ih ft.get n 39) (Aoz ih n) e),
 (fun ih n _ _ _ e=>BB (F:=Aw EE ih ft.get n 40) (Aqd ih n) e)⟩,
 ⟨(fun ih n _ _ _ e=>Ej (F:=Aw EE ih ft.get n 41) (Apo ih n) e),
 ⟨(fun ih n _ _ _ e=>El (F:=Aw EE ih ft.get n 42) (ApG ih n) e),
 (fun ih n _ _ _ e=>BB (F:=Aw EE ih ft.get n 43) (AnU ih n) e)⟩⟩⟩⟩,
 ⟨⟨⟨(fun ih n _ _ _ e=>WD (F:=Aw EE ih ft.get n 44) (AmH ih n) e),
 (fun ih n _ _ _ e=>BT (F:=Aw EE ih ft.get n 45) (ApE ih n) e)⟩,
 ⟨(fun ih n _ _ _ e=>BB (F:=Aw EE ih ft.get n 46) (Aow ih n) e),
 ⟨(fun ih n _ _ _ e=>Ej (F:=Aw EE ih ft.get n 47) (AnQ ih n) e),
 (fun ih n _ _ _ e=>Ej (F:=Aw EE ih ft.get n 48) (Anx ih n) e)⟩⟩⟩,
 ⟨⟨(fun ih n _ _ _ e=>Ej (F:=Aw EE ih ft.get n 49) (AmE ih n) e),
 ⟨(fun ih n _ _ _ e=>El (F:=Aw EE ih ft.get n 50) (An2 ih n) e),
 (fun ih n _ _ _ e=>BB (F:=Aw EE ih ft.get n 51) (AoT ih n) e)⟩⟩,
 ⟨(fun ih n _ _ _ e=>El (F:=Aw EE ih ft.get n 52) (AoC ih n) e),
 ⟨(fun ih n _ _ _ e=>Ej (F:=Aw EE ih ft.get n 53) (AnJ ih n) e),
 (fun ih n _ _ _ e=>BB (F:=Aw EE ih ft.get n 54) (ApP ih n) e)⟩⟩⟩⟩⟩⟩,
 ⟨⟨⟨⟨⟨(fun ih n _ _ _ e=>BT (F:=Aw EE ih ft.get n 55) (Aph ih n) e),
 (fun ih n _ _ _ e=>BT (F:=Aw EE ih ft.get n 56) (AmR ih n) e)⟩,
 ⟨(fun ih n _ _ _ e=>BB (F:=Aw EE ih ft.get n 57) (AnN ih n) e),
 ⟨(fun ih n _ _ _ e=>BB (F:=Aw EE ih ft.get n 58) (An7 ih n) e),
 (fun ih n _ _ _ e=>BB (F:=Aw EE ih ft.get n 59) (AoV ih n) e)⟩⟩⟩,
 ⟨⟨(fun ih n _ _ _ e=>Ej (F:=Aw EE ih ft.get n 60) (Aoe ih n) e),
 (fun ih n _ _ _ e=>BT (F:=Aw EE ih ft.get n 61) (Aqo ih n) e)⟩,
 ⟨(fun ih n _ _ _ e=>BB (F:=Aw EE ih ft.get n 62) (AnT ih n) e),
 ⟨(fun ih n _ _ _ e=>BT (F:=Aw EE ih ft.get n 63) (AoS ih n) e),
 (fun ih n _ _ _ e=>WD (F:=Aw EE ih ft.get n 64) (Aqi ih n) e)⟩⟩⟩⟩,
 ⟨⟨⟨(fun ih n _ _ _ e=>El (F:=Aw EE ih ft.get n 65) (Aqj ih n) e),
 (fun ih n _ _ _ e=>Ej (F:=Aw EE ih ft.get n 66) (Aog ih n) e)⟩,
 ⟨(fun ih n _ _ _ e=>BT (F:=Aw EE ih ft.get n 67) (Ao0 ih n) e),
 ⟨(fun ih n _ _ _ e=>BT (F:=Aw EE ih ft.get n 68) (AoN ih n) e),
 (fun ih n _ _ _ e=>El (F:=Aw EE ih ft.get n 69) (Amz ih n) e)⟩⟩⟩,
 ⟨⟨(fun ih n _ _ _ e=>BT (F:=Aw EE ih ft.get n 70) (Ane ih n) e),
 (fun ih n _ _ _ e=>BT (F:=Aw EE ih ft.get n 71) (Aor ih n) e)⟩,
 ⟨(fun ih n _ _ _ e=>BB (F:=Aw EE ih ft.get n 72) (Am0 ih n) e),
 ⟨(fun ih n _ _ _ e=>BB (F:=Aw EE ih ft.get n 73) (Aqg ih n) e),
 (fun ih n _ _ _ e=>BB (F:=Aw EE ih ft.get n 74) (Aod ih n) e)⟩⟩⟩⟩⟩,
 ⟨⟨⟨⟨(fun ih n _ _ _ e=>BB (F:=Aw EE ih ft.get n 75) (AoG ih n) e),
 (fun ih n _ _ _ e=>BB (F:=Aw EE ih ft.get n 76) (AmJ ih n) e)⟩,
 ⟨(fun ih n _ _ _ e=>BT (F:=Aw EE ih ft.get n 77) (AnH ih n) e),
 ⟨(fun ih n _ _ _ e=>BB (F:=Aw EE ih ft.get n 78) (AnA ih n) e),
 (fun ih n _ _ _ e=>BB (F:=Aw EE ih ft.get n 79) (AoE ih n) e)⟩⟩⟩,
 ⟨⟨(fun ih n _ _ _ e=>BB (F:=Aw EE ih ft.get n 80) (Aoq ih n) e),
 (fun ih n _ _ _ e=>Ej (F:=Aw EE ih ft.get n 81) (AmG ih n) e)⟩,
 ⟨(fun ih n _ _ _ e=>BT (F:=Aw EE ih ft.get n 82) (AoI ih n) e),
 ⟨(fun ih n _ _ _ e=>BT (F:=Aw EE ih ft.get n 83) (ApJ ih n) e),
 (fun ih n _ _ _ e=>BB (F:=Aw EE ih ft.get n 84) (Apz ih n) e)⟩⟩⟩⟩,
 ⟨⟨⟨(fun ih n _ _ _ e=>BB (F:=Aw EE ih ft.get n 85) (ApN ih n) e),
 (fun ih n _ _ _ e=>BB (F:=Aw EE ih ft.get n 86) (Aqc ih n) e)⟩,
 ⟨(fun ih n _ _ _ e=>BB (F:=Aw EE ih ft.get n 87) (ApQ ih n) e),
 ⟨(fun ih n _ _ _ e=>El (F:=Aw EE ih ft.get n 88) (Ao8 ih n) e),
 (fun ih n _ _ _ e=>El (F:=Aw EE ih ft.get n 89) (AoU ih n) e)⟩⟩⟩,
 ⟨⟨(fun ih n _ _ _ e=>El (F:=Aw EE ih ft.get n 90) (Ape ih n) e),
 ⟨(fun ih n _ _ _ e=>El (F:=Aw EE ih ft.get n 91) (Apg ih n) e),
 (fun ih n _ _ _ e=>Ej (F:=Aw EE ih ft.get n 92) (Ant ih n) e)⟩⟩,
 ⟨(fun ih n _ _ _ e=>BB (F:=Aw EE ih ft.get n 93) (Aot ih n) e),
 ⟨(fun ih n _ _ _ e=>El (F:=Aw EE ih ft.get n 94) (Anb ih n) e),
 (fun ih n _ _ _ e=>Ej (F:=Aw EE ih ft.get n 95) (AoF ih n) e)⟩⟩⟩⟩⟩⟩⟩
theorem Ap6:∀n f args h x,SS dt n f args h=some x→run EE n f args h=some x:=Aq6 ArT Arb
end
end Idl
end Go.Proofs.Ytaifgaidaglblaa

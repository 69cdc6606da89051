/-
  Texts of a proof, part 9: an ideal semantics of the program, its functions in shallow form, contracts of them. No statement of the seat is proved here.
-/
import Derived.Test.YtaifgaidaglblaaEqualPartsK8
set_option linter.all false
noncomputable section
set_option maxRecDepth 100000
set_option linter.unusedVariables false
namespace Go.Proofs.Ytaifgaidaglblaa
namespace Idl
noncomputable section
def AhN (a:Hp) (b c:IV):OH :=
 Ab b true a (fun d=>leS EE 3 c (.fv (.int .i64 3000)) fun e=>d e a [] []) fun f g _ _=>AH b f (.fv (.bool false)) fun h=>An [h] g
def AiN (b:IV) (c:Hp):OH :=
 geS EE 3 b (.fv (.int .i64 0)) fun a=>Ab a true c (fun e=>e b c [] []) fun f d _ _=>Ab a true d (fun g=>leS EE 3 f (.fv (.int .i64 2)) fun h=>g h d [] []) fun i j _ _=>AH a i (.fv (.bool false)) fun k=>An [k] j
def Ahg (a:Hp) (b c:IV):OH :=
 Ab b true a (fun d=>leS EE 3 c (.fv (.int .i64 4)) fun e=>d e a [] []) fun f g _ _=>AH b f (.fv (.bool false)) fun h=>An [h] g
def Aha (a:IV) (b:Hp):OH :=
 A4 EE 3 a (.fv (.int .i64 0)) fun c=>An [c] b
def Aik (c b:IV) (a:Hp):OH :=
 A4 EE 3 c (.fv (.int .i64 26)) fun e=>Am e (geS EE 3 b (.fv (.int .i64 0)) fun d=>Ab d true a (fun f=>f b a [] []) fun g h _ _=>Ahg h d g) (A4 EE 3 c (.fv (.int .i64 25)) fun i=>Am i (An [.fv (.bool true)] a) (Aha b a))
def S62 (j:Aa) (n:Nat) (c a:IV) (b:Hp):OH :=
 A4 EE 3 c (.fv (.int .i64 1)) fun e=>Am e (geS EE 3 a (.fv (.int .i64 0)) fun d=>Ab d true b (fun f=>f a b [] []) fun g h _ _=>AhN h d g) (A4 EE 3 c (.fv (.int .i64 2)) fun i=>Am i (AiN a b) (Aik c a b))
theorem Aqh (a:Aa) (n:Nat) (b c:IV) (d:Hp):Ax EE a ft.get n 62 [b,c] d=S62 a n b c d:=by kernel_rfl
def KZ (d e:Hp) (a b c:IV) (f:List IV→Hp→OH):OH :=
 Bf (d.own.map (·.1)) [66066434] [a,b,c] e fun g=>f [a,b,c] g
def Kd (b:Aa) (c:Hp) (d e:IV) (f:Hp) (g h:IV) (i:List IV→Hp→OH):OH :=
 Al [] false false b 63 [d] c fun j a _ _=>C9 (Nq .not j) fun k=>Am k (An [.fv (.bool false)] a) (Bw EE 3 e (.fv (.int .i64 1)) fun l=>KZ f a g h l i)
def K4 (a b:IV) (c:Hp) (f:Aa) (g:Hp) (h:IV) (i:List IV→Hp→OH):OH :=
 A8 3 a b fun j=>Aj 3 j c fun k _=>AJ 66066434 (.row [.fv (.int .i64 0),.fv (.int .i64 0),.nils] false) (.ptr (.own 66066434) 0) c fun d l _ _=>Ak 3 d k l fun e _ _=>Aj 3 d e fun m _=>Kd f e m b g a h i
def Lu (d:List IV) (a:Hp) (e:Aa) (f:Hp) (g:List IV→Hp→OH):OH :=
 Ay d fun h i=>Ay i fun b j=>Ay j fun c _=>GP EE 3 c b fun k=>Am k (K4 h c a e f b g) (An [.fv (.bool true)] a)
def KA (e:IV) (b c:Hp) (n:Nat) (f:Aa):OH :=
 Ac 2 e fun g=>Af g b fun a _=>BS a fun d=>Bf (c.own.map (·.1)) [66066434] [a,d,.fv (.int .i64 0)] b fun h=>BF n (fun i j k=>Lu j k f c i) [a,d,.fv (.int .i64 0)] h
def LF (a:Hp) (b g c h:IV) (i:Hp) (n:Nat) (j:Aa):OH :=
 Ab b true a (fun k=>Af g a fun l m=>k l a m []) fun o d _ _=>Ab b true d (fun p=>GP EE 3 o (.fv (.int .i64 0)) fun q=>p q d [] []) fun r e _ _=>Ab c false e (fun s=>AH b r (.fv (.bool false)) fun t=>s t e [] []) fun u f _ _=>AH c (.fv (.bool true)) u fun v=>Am v (An [.fv (.bool false)] f) (KA h f i n j)
def Lv (d:Hp) (a b:IV) (i:Hp) (n:Nat) (j:Aa):OH :=
 Ab a false d (fun k=>Ac 0 b fun l=>k l d [] []) fun m c _ _=>Ab a false c (fun o=>Af m c fun p q=>o p c q []) fun r e _ _=>Ab a false e (fun s=>A4 EE 3 r (.fv (.int .i64 1)) fun t=>s t e [] []) fun u f _ _=>Ab a false f (fun v=>v u f [] []) fun g h _ _=>Ab g true h (fun w=>Ac 1 b fun x=>w x h [] []) fun y z _ _=>LF z g y a b i n j
def Lq (c:Hp) (a d g:IV) (h:Hp) (n:Nat) (i:Aa):OH :=
 Ab a true c (fun j=>Ac 2 d fun k=>j k c [] []) fun l b _ _=>Ab a true b (fun m=>Af l b fun o p=>m o b p []) fun q e _ _=>Ab a true e (fun r=>BS q fun s=>r s e [] []) fun t f _ _=>Ab a true f (fun u=>Hb EE 3 g t fun v=>u v f [] []) fun w x _ _=>AH a w (.fv (.bool false)) fun y=>Lv x y d h n i
def S63 (a:Aa) (n:Nat) (h:IV) (b:Hp):OH :=
 A3 66060288 h b fun c d _ _=>Ac 0 c fun i=>Af i d fun j _=>Al [] false false a 71 [j] d fun e f _ _=>geS EE 3 e (.fv (.int .i64 0)) fun g=>Ab g true f (fun k=>k e f [] []) fun l m _ _=>Lq m g c l b n a
theorem AoB (a:Aa) (n:Nat) (b:IV) (c:Hp):Ax EE a ft.get n 63 [b] c=S63 a n b c:=by kernel_rfl
def Ub (a:IV) (b:Hp) (c:IV):OH :=
 AF a fun d=>Ac 4 d fun e=>BA e c b fun f _ _=>An [a] f
def TX (c:IV) (d:Hp) (a b:IV):OH :=
 BD [.fv (.nilf)] [(0,1,c)] fun e=>Az (Cc EE 100 a (.fv (.int .i64 30)) e) 67110933 d fun _ f _ _=>Az (val (CR (.func 76) [b] [])) 67110935 f fun g h _ _=>BD [.fv (.nilf)] [(0,1,g)] fun i=>Az (Cc EE 100 a (.fv (.int .i64 19)) i) 67110937 h fun _ j _ _=>Ub b j a
def SF (c:Hp) (a d b:IV):OH :=
 Az (Cc EE 100 a (.fv (.int .i64 9)) d) 67110925 c fun _ e _ _=>Az (val (CR (.func 74) [b] [])) 67110927 e fun f g _ _=>BD [.fv (.nilf)] [(0,1,f)] fun h=>Az (Cc EE 100 a (.fv (.int .i64 13)) h) 67110929 g fun _ i _ _=>Az (val (CR (.func 75) [b] [])) 67110931 i fun j k _ _=>TX j k a b
def Wo (c:Hp) (a b:IV):OH :=
 Az (val (CR (.func 73) [a] [])) 67110919 c fun d e _ _=>BD [.fv (.nilf)] [(0,1,d)] fun f=>Az (Cc EE 100 b (.fv (.int .i64 8)) f) 67110921 e fun _ g _ _=>Az (val (CR (.func 73) [a] [])) 67110923 g fun h i _ _=>BD [.fv (.nilf)] [(0,1,h)] fun j=>SF i b j a
def S64 (k:Aa) (n:Nat) (c:Hp):OH :=
 BD [.fv (.int .i64 0),.fv (.int .i64 0),.fv (.int .i64 0),.fv (.int .i64 0),.dead] [(0,1,.fv (.int .i64 100000)),(1,1,.fv (.int .i64 5000000))] fun d=>A3 67109889 d c fun a e _ _=>Az (GW 67110913) 67110913 e fun b f _ _=>Az (val (CR (.func 72) [a] [])) 67110915 f fun g h _ _=>BD [.fv (.nilf)] [(0,1,g)] fun i=>Az (Cc EE 100 b (.fv (.int .i64 5)) i) 67110917 h fun _ j _ _=>Wo j a b
theorem Apf (a:Aa) (n:Nat) (b:Hp):Ax EE a ft.get n 64 [] b=S64 a n b:=by kernel_rfl
def NJ (b:IV) (a:Hp) (c:Aa) (d:IV):OH :=
 Ac 1 b fun e=>Af e a fun f _=>Al [] false false c 78 [d,f] a fun g h _ _=>An [g] h
def NP (h:IV) (i j:Hp) (a b c d e f:IV) (k:List IV→Hp→OH):OH :=
 Bw EE 3 h (.fv (.int .i64 1)) fun g=>Bf (i.own.map (·.1)) [68166659] [a,b,c,d,e,f,g] j fun l=>k [a,b,c,d,e,f,g] l
def N6 (a:Aa) (b:Hp) (c d e:IV) (f:AG) (g h:IV) (i:Hp→OH):OH :=
 Al [true,false,false] false false a 65 [c,d,e] b fun j k l m=>Ad [(f,[])] l m (A8 1 g h fun n=>BA n j k fun o p q=>Ad [] p q (i o))
def NL (c:IV) (a:Hp) (d:IV) (e:Aa) (f g h:IV) (i:Hp→OH):OH :=
 Ac 2 c fun j=>Af j a fun k b=>Ad [] b [] (Aj 3 d a fun l m=>Ad [(b,[])] m [] (N6 e a f g l b k h i))
def Nz (a:Hp) (f:IV) (b:Aa) (c g h i j:IV) (d:Hp→OH):OH :=
 Af f a fun k _=>Al [] false false b 79 [k,c] a fun l e _ _=>A4 EE 3 l (.fv (.int .i64 0)) fun m=>Am m (AF g fun n=>NL n e h b i j c d) (d e)
def NC (d a:IV) (b:Hp) (e:IV) (f:Aa) (g h i:IV) (j:Hp→OH):OH :=
 A8 3 d a fun k=>Aj 3 k b fun l _=>AJ 68166659 (.row [.fv (.int .i64 0),.fv (.int .i64 0),.nils] false) (.ptr (.own 68166659) 0) b fun c m _ _=>Ak 3 c l m fun n _ _=>Ac 0 e fun o=>Nz n o f a g c h i j
def NB (c:IV) (a:Hp) (b:IV) (d:Aa) (e:IV):OH :=
 Ac 3 c fun f=>Af f a fun g _=>Hb EE 37 g (.fv (.int .i64 0)) fun h=>Am h (An [b] a) (Al [true,false] false false d 80 [e,b] a fun i j _ _=>An [i] j)
def NA (j:List IV) (k:Hp) (a d e b f:IV) (l:List IV→Hp→OH) (g:Hp) (h:Aa):OH :=
 Ay j fun i m=>Ay m fun c _=>GP EE 3 c i fun n=>Am n ((fun (o:Hp→OH)=>NC f c g e h b a d o) fun p=>NP c k p a d e b f i l) (AF a fun q=>NB q g b h a)
def Aag (a:List IV) (b:Hp) (c:List IV→Hp→OH) (d:Hp) (e:Aa):OH :=
 Ay a fun f g=>Ay g fun h i=>Ay i fun j k=>Ay k fun l m=>Ay m fun n o=>NA o b f h j l n c d e
def NR (a:IV) (b h:Hp) (c d e f:IV) (n:Nat) (i:Aa):OH :=
 BS a fun g=>Bf (b.own.map (·.1)) [68166659] [c,d,e,f,a,g,.fv (.int .i64 0)] h fun j=>BF n (fun k l m=>Aag l b k m i) [c,d,e,f,a,g,.fv (.int .i64 0)] j
def NE (d:IV) (a:Hp) (b c:IV) (e:Hp) (f g:IV) (n:Nat) (h:Aa):OH :=
 Hb EE 37 d (.fv (.int .i64 0)) fun i=>Am i (An [b] a) (Ac 2 c fun j=>Af j a fun k _=>NR k e a f g c b n h)
def NW (c:Hp) (d a e:IV) (f:Hp) (g:IV) (n:Nat) (h:Aa):OH :=
 A3 68161547 d c fun i b j k=>Ad [] j k (AF a fun l=>Ac 3 l fun m=>Af m b fun o _=>NE o b i e f a g n h)
def Nv (i:Hp) (a:IV) (b c:AG) (d:IV) (j:AG) (k l e m:IV) (o:Hp) (n:Nat) (p:Aa):OH :=
 Az (Bn EE 68161543 110 a a) 68161543 i fun q f g h=>Ad [(b,[]),(c,[])] g h (Aj 3 d f fun r s=>Ad [(g,h),(j,[]),(b,[]),(c,[])] s [] (BD [.fv (.int .i64 0),.fv (.int .i64 0),.nils,.fv (.int .i64 0),.fv (.int .i64 0),.nils,.fv (.nilp)] [(0,1,k),(1,1,l),(2,1,q),(3,3,r),(6,1,e)] fun t=>NW f t m d o e n p))
def NY (a b:AG) (c:IV) (d:Hp) (f g h i:IV) (j:Hp) (n:Nat) (k:Aa):OH :=
 Ad [(b,[])] a [] (Ac 2 c fun l=>Af l d fun m e=>Ad [(a,[]),(b,[])] e [] (BS m fun o=>Nv d o a b c e f g h i j n k))
def NI (a:IV) (b:Hp) (d e:IV) (f:Hp) (n:Nat) (g:Aa):OH :=
 Ac 0 a fun h=>Af h b fun i c=>Ad [] c [] (Ac 1 a fun j=>Af j b fun k l=>NY l c a b i k d e f n g)
def S65 (a:Aa) (n:Nat) (d e g:IV) (f:Hp):OH :=
 A3 68157440 g f fun b h _ _=>Al [true] false false a 77 [d] h fun _ c _ _=>Ac 0 b fun i=>Af i c fun j _=>A4 EE 3 j (.fv (.int .i64 1)) fun k=>Am k (NJ b c a e) (NI b c e d f n a)
theorem ApL (a:Aa) (n:Nat) (b c d:IV) (e:Hp):Ax EE a ft.get n 65 [b,c,d] e=S65 a n b c d e:=by kernel_rfl
def DR (a:Hp) (b:IV):OH :=
 Aw true 3 b a fun c=>An [c] a
def DZ (c:Hp) (a d:IV):OH :=
 Ak 3 a d c fun b _ _=>Aw true 3 a b fun e=>An [e] b
def DN (b:IV) (a:Hp) (c d:IV):OH :=
 AF b fun e=>Ac 1 e fun f=>Af f a fun g _=>Bd EE 3 c g fun h=>BD [.fv (.int .i64 0),.fv (.int .i64 0),.nils] [(0,1,.fv (.int .i64 1)),(1,1,h)] fun i=>DZ a d i
def DF (c:Hp) (a:IV):OH :=
 BD [.fv (.int .i64 0),.fv (.int .i64 0),.nils] [] fun d=>Ak 3 a d c fun b _ _=>Aw true 3 a b fun e=>An [e] b
def Dj (i:IV) (j k:Hp) (a b c d e f g:IV) (l:List IV→Hp→OH):OH :=
 Bw EE 3 i (.fv (.int .i64 1)) fun h=>Bf (j.own.map (·.1)) [69221377,69225478] [a,b,c,d,e,f,g,h] k fun m=>l [a,b,c,d,e,f,g,h] m
def Dx (a e b:IV) (f:Aa) (g:Hp) (c h d i j:IV) (k:Hp) (l m n:IV) (o:List IV→Hp→OH):OH :=
 Bw EE 3 a e fun p=>Bw EE 3 b (.fv (.int .i64 1)) fun q=>Al [true,false,false,false] false false f 66 [c,h,p,q] g fun r s _ _=>A8 3 d i fun t=>Ak 3 t r s fun u _ _=>Dj j k u c l a b m d n o
def CI (b:IV) (a:Hp) (c d e f:IV) (g:Aa) (h i j k:IV) (l:Hp) (m n:IV) (o:List IV→Hp→OH):OH :=
 AF b fun p=>Ac 3 p fun q=>Af q a fun r _=>Hb EE 37 r (.fv (.int .i64 0)) fun s=>Am s (DF a c) (Dx d e f g a b h i j k l m c n o)
def DA (n:IV) (o p:Hp) (a b c d e f g h i j k l:IV) (q:List IV→Hp→OH):OH :=
 Bw EE 3 n (.fv (.int .i64 1)) fun m=>Bf (o.own.map (·.1)) [69225478] [a,b,c,d,e,f,g,h,i,j,k,l,m] p fun r=>q [a,b,c,d,e,f,g,h,i,j,k,l,m] r
def D3 (b a:IV) (e:Hp) (c:IV) (f:Hp) (g h i j k l m n o p:IV) (q:List IV→Hp→OH):OH :=
 Bw EE 3 b a fun r=>BD [.fv (.int .i64 0),.fv (.int .i64 0),.nils,.fv (.int .i64 0),.fv (.int .i64 0),.nils,.fv (.nilp)] [(0,1,.fv (.int .i64 1)),(1,1,r)] fun d=>fzS (Ly true 69225478 d) 69225478 d e fun s t _ _=>A8 1 c a fun u=>BA u s t fun v _ _=>DA a f v g h b i j k l m c n o p q
def DD (d:Aa) (e:Hp) (a b c f:IV) (g:IV→IV→IV→IV→IV→IV→IV→IV→IV→IV→IV→Hp→OH) (h i j k l m n:IV):OH :=
 Al [true,false,false,false] false false d 81 [a,b,c,f] e fun o p _ _=>g a b h i j k c o l m n p
def DI (o:List IV) (a:IV) (b:Hp) (c:IV) (p:Hp) (d e f g h i j k:IV) (q:List IV→Hp→OH) (r:Aa) (s:IV→IV→IV→IV→IV→IV→IV→IV→IV→IV→IV→Hp→OH):OH :=
 Ay o fun l t=>Ay t fun m u=>Ay u fun n _=>GP EE 3 n m fun v=>Am v (D3 a n b c p d e f g h i j k l m q) (DD r b d e i c s a f g h j k l)
def Dl (a:List IV) (b:IV) (c d:Hp) (e f g h:IV) (i:List IV→Hp→OH) (j:Aa) (k:IV→IV→IV→IV→IV→IV→IV→IV→IV→IV→IV→Hp→OH):OH :=
 Ay a fun l m=>Ay m fun n o=>Ay o fun p q=>Ay q fun r s=>Ay s fun t u=>DI u b c r d e f g h l n p t i j k
def Fp (a:List IV) (b c:Hp) (d:List IV→Hp→OH) (e:Aa) (f:IV→IV→IV→IV→IV→IV→IV→IV→IV→IV→IV→Hp→OH):OH :=
 Ay a fun g h=>Ay h fun i j=>Ay j fun k l=>Ay l fun m n=>Ay n fun o p=>Dl p k b c g i m o d e f
def Do (b m:Hp) (c d e f g h a i j k l:IV) (n:Nat) (o:Aa) (p:IV→IV→IV→IV→IV→IV→IV→IV→IV→IV→IV→Hp→OH):OH :=
 Bf (b.own.map (·.1)) [69225478] [c,d,e,f,g,h,a,i,j,k,a,l,.fv (.int .i64 0)] m fun q=>BF n (fun r s t=>Fp s t b r o p) [c,d,e,f,g,h,a,i,j,k,a,l,.fv (.int .i64 0)] q
def DB (m:IV) (c:Hp) (a:IV) (o:Hp) (d e f g h i b j:IV) (n:Nat) (p:Aa) (k:IV→IV→IV→IV→IV→IV→IV→IV→IV→IV→IV→Hp→OH) (q:IV):OH :=
 Am m (Az (Bn EE 69221377 110 a a) 69221377 c fun l r _ _=>BS l fun s=>Do o r d e f g h i b a l j s n p k) (k d e f g h i b q a j b c)
def Dk (g b c:AG) (a:Aa) (h:Hp) (i d:IV) (e:Hp) (j:List IV→Hp→OH) (k l m o p q r:IV) (n:Nat) (s:IV):OH :=
 Ad [(b,[]),(c,[])] g [] (Al [] false false a 79 [i,d] h fun f t u v=>Ad [(b,[]),(c,[])] u v ((fun (w:IV→IV→IV→IV→IV→IV→IV→IV→IV→IV→IV→Hp→OH)=>L0 EE 3 f (.fv (.int .i64 0)) fun x=>DB x t f e k l m o p q d r n a w s) fun y z A B C D E F G H I J=>CI y J C A G B a F D E I e z H j))
def Dp (a:Hp) (d b:IV) (e:AG) (f:Aa) (g:IV) (h:Hp) (i:List IV→Hp→OH) (j k l m o p:IV) (n:Nat):OH :=
 Af d a fun q c=>Ad [] c [] (AF b fun r=>Ac 0 r fun s=>Af s a fun t u=>Dk u c e f a t g h i j b k l m o p n q)
def DJ (a:IV) (b:Hp) (c:IV) (e:Aa) (f:Hp) (g:List IV→Hp→OH) (h i j k l m:IV) (n:Nat):OH :=
 AF a fun o=>Ac 2 o fun p=>Af p b fun q d=>Ad [] d [] (A8 1 q c fun r=>Dp b r a d e c f g h i j k l m n)
def DO (b c:AG) (a:Hp) (d:IV):OH :=
 Ad [] b c (Aw true 3 d a fun e=>An [e] a)
def D6 (c:IV) (a:Hp) (d:AG) (e f b:IV):OH :=
 Ac 1 c fun g=>Af g a fun h i=>Ad [(d,[])] i [] (BD [.fv (.int .i64 0),.fv (.int .i64 0),.nils] [(0,1,e),(1,1,h),(2,1,f)] fun j=>Ak 3 b j a fun k l m=>DO l m k b)
def DQ (a:IV) (b:Hp) (d e:IV):OH :=
 AF a fun f=>Ac 0 f fun g=>Af g b fun h c=>Ad [] c [] (AF a fun i=>D6 i b c h d e)
def Ds (g:List IV) (a:IV) (b:Hp) (h:Aa) (i:Hp) (j:List IV→Hp→OH) (k l m c:IV) (n:Nat):OH :=
 Ay g fun d o=>Ay o fun e p=>Ay p fun f _=>GP EE 3 f e fun q=>Am q (DJ a b f h i j k l m c d e n) (DQ a b d c)
def Fy (a:List IV) (b:Hp) (c:Aa) (d:Hp) (e:List IV→Hp→OH) (n:Nat):OH :=
 Ay a fun f g=>Ay g fun h i=>Ay i fun j k=>Ay k fun l m=>Ay m fun o p=>Ds p h b c d e f j l o n
def DU (a i:Hp) (b c d e f g h:IV) (n:Nat) (j:Aa):OH :=
 Bf (a.own.map (·.1)) [69221377,69225478] [b,c,d,e,f,g,h,.fv (.int .i64 0)] i fun k=>BF n (fun l m o=>Fy m o j a l n) [b,c,d,e,f,g,h,.fv (.int .i64 0)] k
def Du (d:IV) (a e:Hp) (f g h i j:IV) (n:Nat) (k:Aa):OH :=
 Ac 2 d fun l=>Af l a fun m _=>BS m fun b=>Az (Bn EE 69215237 29 b b) 69215237 a fun c o _ _=>BS c fun p=>DU e o f g h i j c p n k
def Dq (a:Hp) (e c b d:IV) (f:Hp) (g h:IV) (n:Nat) (i:Aa):OH :=
 Af e a fun j _=>A4 EE 3 j (.fv (.int .i64 1)) fun k=>Am k (Bd EE 3 c (.fv (.int .i64 1)) fun l=>DN b a l d) (AF b fun m=>Du m a f g b c h d n i)
def DC (d:IV) (b:Hp) (a c e:IV) (f:Hp) (g h:IV) (n:Nat) (i:Aa):OH :=
 Am d (BD [.fv (.int .i64 0),.fv (.int .i64 0),.nils] [] fun j=>Ak 3 a j b fun k _ _=>DR k a) (AF c fun l=>Ac 0 l fun m=>Dq b m e c a f g h n i)
def Fv (b:Aa) (d:Hp) (a e f g:IV) (h:Hp) (i:IV) (n:Nat):OH :=
 Al [true] false false b 77 [a] d fun _ c _ _=>AF a fun j=>Ac 3 j fun k=>Af k c fun l _=>Hb EE 37 l (.fv (.int .i64 0)) fun m=>DC m c e f g h a i n b
def DS (a:IV) (b:Hp) (c:Hp→OH):OH :=
 Ac 3 a fun d=>BA d (.fv (.int .i64 5)) b fun e _ _=>c e
def Dy (a:Hp) (b e f g:IV) (c:Hp→OH):OH :=
 Ab b true a (fun h=>AH e (.fv (.bool true)) f fun i=>h i a [] []) fun j d _ _=>AH b j (.fv (.bool false)) fun k=>Am k (AF g fun l=>DS l d c) (c d)
def Dz (b:Hp) (a h i j:IV) (k:Hp→OH):OH :=
 Ab a true b (fun l=>Af h b fun m n=>l m b n []) fun o d _ _=>Ab a true d (fun p=>L0 EE 3 o (.fv (.int .i64 3000)) fun q=>p q d [] []) fun r e _ _=>Ab a true e (fun s=>s r e [] []) fun c f _ _=>Ab c false f (fun t=>t i f [] []) fun u g _ _=>Ab c false g (fun v=>L0 EE 3 u (.fv (.int .i64 120)) fun w=>v w g [] []) fun x y _ _=>Dy y a c x j k
def DX (b:Hp) (f c g:IV) (h:Hp→OH):OH :=
 Af f b fun i _=>A4 EE 37 i (.fv (.int .i64 0)) fun a=>Ab a true b (fun j=>j c b [] []) fun k d _ _=>Ab a true d (fun l=>AF k fun m=>l m d [] []) fun n e _ _=>Ab a true e (fun o=>Ac 2 n fun p=>o p e [] []) fun q r _ _=>Dz r a q g c h
def DM (a:IV) (b:Hp) (c d:IV) (e:Hp→OH):OH :=
 AF a fun f=>Ac 2 f fun g=>BA g c b fun h _ _=>AF a fun i=>Ac 3 i fun j=>DX h j a d e
def S66 (e:Aa) (n:Nat) (a f g b:IV) (c:Hp):OH :=
 AJ 69206016 (.row [.fv (.int .i64 0),.fv (.int .i64 0),.nils] false) (.ptr (.own 69206016) 0) c fun h d _ _=>(fun (i:Hp→OH)=>AF a fun j=>Ac 2 j fun k=>Af k d fun l _=>Bw EE 3 l (.fv (.int .i64 1)) fun m=>DM a d m b i) fun o=>Fv e o a h f g c b n
theorem Aqo (a:Aa) (n:Nat) (b c d e:IV) (f:Hp):Ax EE a ft.get n 66 [b,c,d,e] f=S66 a n b c d e f:=by kernel_rfl
def Anq (a b:IV) (h:Hp) (i:IV) (j:Hp) (c d e f:IV) (k:List IV→Hp→OH):OH :=
 A8 3 a b fun l=>Ak 3 l i h fun m _ _=>Bw EE 3 b (.fv (.int .i64 1)) fun g=>Bf (j.own.map (·.1)) [70258691] [c,d,a,e,f,g] m fun n=>k [c,d,a,e,f,g] n
def Anv (a:Hp) (d:IV) (e:Aa) (f g:IV) (h:Hp) (i j k l:IV) (m:List IV→Hp→OH):OH :=
 Aj 3 d a fun n _=>AJ 70258691 (.row [.fv (.int .i64 0),.fv (.int .i64 0),.nils] false) (.ptr (.own 70258691) 0) a fun b o _ _=>Ak 3 b n o fun c _ _=>Aj 3 b c fun p _=>Al [] false false e 67 [p] c fun q r _ _=>Anq f g r q h i j k l m
def Ao5 (a:Hp) (b:IV):OH :=
 Aw true 3 b a fun c=>An [c] a
def AoN (a:Hp) (c d e b:IV):OH :=
 Af c a fun f _=>Ac 1 d fun g=>Af g a fun h _=>BD [.fv (.int .i64 0),.fv (.int .i64 0),.nils] [(0,1,f),(1,1,h),(2,1,e)] fun i=>Ak 3 b i a fun j _ _=>Ao5 j b
def Aqn (h:List IV) (c d:IV) (e:Hp) (i:Aa) (f:IV) (j:Hp) (a g:IV) (k:List IV→Hp→OH):OH :=
 Ay h fun b _=>GP EE 3 b c fun l=>Am l (A8 3 d b fun m=>Anv e m i f b j a g d c k) (Ac 0 a fun n=>AoN e n a f g)
def AmX (a:List IV) (b:Hp) (c:Aa) (d:Hp) (e:List IV→Hp→OH):OH :=
 Ay a fun f g=>Ay g fun h i=>Ay i fun j k=>Ay k fun l m=>Ay m fun n o=>Aqn o n l b c j d f h e
def An4 (a:IV) (c d:Hp) (e f:IV) (n:Nat) (h:Aa):OH :=
 Ac 2 a fun i=>Af i c fun b _=>BS b fun g=>Bf (d.own.map (·.1)) [70258691] [a,e,f,b,g,.fv (.int .i64 0)] c fun j=>BF n (fun k l m=>AmX l m h d k) [a,e,f,b,g,.fv (.int .i64 0)] j
def S67 (e:Aa) (n:Nat) (f:IV) (a:Hp):OH :=
 A3 70254592 f a fun b g _ _=>AJ 70254593 (.row [.fv (.int .i64 0),.fv (.int .i64 0),.nils] false) (.ptr (.own 70254593) 0) g fun h c _ _=>Ac 2 b fun i=>Af i c fun j _=>BS j fun d=>Az (Bn EE 70255619 29 d d) 70255619 c fun k l _ _=>An4 b l a h k n e
theorem AnM (a:Aa) (n:Nat) (b:IV) (c:Hp):Ax EE a ft.get n 67 [b] c=S67 a n b c:=by kernel_rfl
def Jg (h a:IV) (i:Hp) (j:IV) (k:Hp) (b c d e f:IV) (l:List IV→Hp→OH):OH :=
 A8 3 h a fun m=>Ak 3 m j i fun n o p=>Ad [] o p (Bw EE 3 a (.fv (.int .i64 1)) fun g=>Bf (k.own.map (·.1)) [71307267] [b,c,d,e,f,g] n fun q=>l [b,c,d,e,f,g] q)
def I9 (a:AG) (b:Hp) (c:IV) (d:Aa) (e f:IV) (g:Hp) (h i j k l:IV) (m:List IV→Hp→OH):OH :=
 Ad [] a [] (Aj 3 c b fun n o=>Ad [(a,[])] o [] (Al [] false false d 68 [n] b fun p q r s=>Ad [(a,[])] r s (Jg e f q p g h i j k l m)))
def Js (a:Hp) (e b:IV) (f:Aa) (g:IV) (h:Hp) (i j k l:IV) (m:List IV→Hp→OH):OH :=
 Aj 3 e a fun n _=>AJ 71307267 (.row [.fv (.int .i64 0),.fv (.int .i64 0),.nils] false) (.ptr (.own 71307267) 0) a fun c o _ _=>Ak 3 c n o fun d _ _=>Ac 2 b fun p=>Af p d fun q r=>I9 r d c f q g h i j b k l m
def IQ (c:Aa) (d:Hp) (e a:IV):OH :=
 Al [] false false c 82 [e] d fun f g _ _=>Ak 3 a f g fun b _ _=>Aw true 3 a b fun h=>An [h] b
def IM (a:Hp) (c d:IV) (e:Aa) (f:IV):OH :=
 Af c a fun g _=>BD [.fv (.int .i64 0),.fv (.int .i64 0),.nils] [(0,1,.fv (.int .i64 11))] fun h=>A8 3 g (.fv (.int .i64 0)) fun i=>Ak 3 i h a fun b _ _=>Aj 3 d b fun j _=>IQ e b j f
def Je (c:Hp) (a d:IV):OH :=
 Ak 3 a d c fun b _ _=>Aw true 3 a b fun e=>An [e] b
def Ir (b:IV) (c:Hp) (d:IV) (e:Aa) (f:IV):OH :=
 BD [.fv (.int .i64 0),.fv (.int .i64 0),.nils] [(0,1,.fv (.int .i64 11))] fun g=>A8 3 b (.fv (.int .i64 0)) fun h=>Ak 3 h g c fun a _ _=>Aj 3 d a fun i _=>Al [] false false e 83 [i] a fun j k _ _=>Je k f j
def Jp (a:Hp) (b:IV):OH :=
 Aw true 3 b a fun c=>An [c] a
def IP (d b:IV) (a:Hp) (e:Aa) (c:IV):OH :=
 Am d (Ac 2 b fun f=>Af f a fun g _=>Ir g a b e c) (Aj 3 b a fun h _=>Ak 3 c h a fun i _ _=>Jp i c)
def Ij (a:Hp) (f b:IV) (c:Aa) (d:IV):OH :=
 Af f a fun e _=>A4 EE 3 e (.fv (.int .i64 4)) fun g=>Am g (Ac 2 b fun h=>IM a h b c d) (A4 EE 3 e (.fv (.int .i64 7)) fun i=>IP i b a c d)
def IL (i:List IV) (b c:IV) (d:Hp) (e:IV) (f:Aa) (j:Hp) (g h:IV) (k:List IV→Hp→OH):OH :=
 Ay i fun a _=>GP EE 3 a b fun l=>Am l (A8 3 c a fun m=>Js d m e f a j g h c b k) (Ac 0 g fun n=>Ij d n e f h)
def Km (a:List IV) (b:Hp) (c:Aa) (d:Hp) (e:List IV→Hp→OH):OH :=
 Ay a fun f g=>Ay g fun h i=>Ay i fun j k=>Ay k fun l m=>Ay m fun n o=>IL o n l b j c d f h e
def IE (a:IV) (b g:Hp) (c d e:IV) (n:Nat) (h:Aa):OH :=
 BS a fun f=>Bf (b.own.map (·.1)) [71307267] [c,d,e,a,f,.fv (.int .i64 0)] g fun i=>BF n (fun j k l=>Km k l h b j) [c,d,e,a,f,.fv (.int .i64 0)] i
def IY (d e f g h i j:AG) (k:Hp) (a l b:IV) (m:Hp) (o:IV) (n:Nat) (p:Aa):OH :=
 Ad [(f,g),(h,[]),(i,[]),(j,[])] d e (Ak 3 a l k fun c q r=>Ad [] q r (Ac 2 b fun s=>Af s c fun t _=>IE t m c b o a n p))
def Jd (f:IV) (g:Hp) (a b:AG) (h i:IV) (j:AG) (k:IV) (l:Hp) (m:IV) (n:Nat) (o:Aa):OH :=
 BS f fun c=>Az (Bn EE 71304199 29 c c) 71304199 g fun p q d e=>Ad [(a,[]),(b,[])] d e (BD [.fv (.int .i64 0),.fv (.int .i64 0),.nils] [(0,1,h),(1,1,i),(2,1,p)] fun r=>AJ 71304201 (.row [.fv (.int .i64 0),.fv (.int .i64 0),.nils] false) (.ptr (.own 71304201) 0) q fun s t u v=>IY u v d e j a b t s r k l m n o)
def I3 (a:Hp) (f:IV) (b:AG) (d g:IV) (h:Hp) (i:IV) (n:Nat) (j:Aa):OH :=
 Af f a fun k c=>Ad [(b,[])] c [] (Ac 2 d fun l=>Af l a fun m e=>Ad [(c,[]),(b,[])] e [] (Jd m a c b g k e d h i n j))
def S68 (e:Aa) (n:Nat) (f:IV) (b:Hp):OH :=
 A3 71303168 f b fun a g _ _=>AJ 71303169 (.row [.fv (.int .i64 0),.fv (.int .i64 0),.nils] false) (.ptr (.own 71303169) 0) g fun h c _ _=>Ac 0 a fun i=>Af i c fun j d=>Ad [] d [] (Ac 1 a fun k=>I3 c k d a j b h n e)
theorem AoT (a:Aa) (n:Nat) (b:IV) (c:Hp):Ax EE a ft.get n 68 [b] c=S68 a n b c:=by kernel_rfl
def Mr (g:IV) (a:Hp) (h:IV) (i:Hp) (b c d e:IV) (j:List IV→Hp→OH):OH :=
 Am g (An [.fv (.bool false)] a) (Bw EE 3 h (.fv (.int .i64 1)) fun f=>Bf (i.own.map (·.1)) [72356867,72357892] [b,c,d,e,f] a fun k=>j [b,c,d,e,f] k)
def L2 (d:Hp) (b e f:IV) (g:Aa) (c h:IV) (i:Hp) (j k l:IV) (m:List IV→Hp→OH):OH :=
 Ak 3 b e d fun a _ _=>Aj 3 f a fun n _=>Aj 3 b a fun o _=>Ed EE g c [n,o] a fun p q _ _=>C9 (Nq .not p) fun r=>Mr r q h i j c k l m
def MI (e:Hp) (f a b:IV) (g:Aa) (h:IV) (i:Hp) (j k:IV) (l:List IV→Hp→OH):OH :=
 AJ 72356867 (.row [.fv (.int .i64 0),.fv (.int .i64 0),.nils] false) (.ptr (.own 72356867) 0) e fun c m _ _=>Ak 3 c f m fun d _ _=>A8 3 a b fun n=>Aj 3 n d fun o _=>AJ 72357892 (.row [.fv (.int .i64 0),.fv (.int .i64 0),.nils] false) (.ptr (.own 72357892) 0) d fun p q _ _=>L2 q p o c g h b i a j k l
def MK (a c d:IV) (b:Hp) (e:IV) (f:Aa) (g:IV) (h:Hp) (i:List IV→Hp→OH):OH :=
 GP EE 3 a c fun j=>Am j (A8 3 d a fun k=>Aj 3 k b fun l _=>MI b l e a f g h d c i) (An [.fv (.bool true)] b)
def OK (a:List IV) (b:Hp) (c:Aa) (d:Hp) (e:List IV→Hp→OH):OH :=
 Ay a fun f g=>Ay g fun h i=>Ay i fun j k=>Ay k fun l m=>Ay m fun n _=>MK n l j b f c h d e
def MN (a:Hp) (b c d e:IV) (n:Nat) (f:Aa):OH :=
 Bf (a.own.map (·.1)) [72356867,72357892] [b,c,d,e,.fv (.int .i64 0)] a fun g=>BF n (fun h i j=>OK i j f a h) [b,c,d,e,.fv (.int .i64 0)] g
def S69 (d:Aa) (n:Nat) (a b e:IV) (c:Hp):OH :=
 BS a fun f=>BS b fun g=>Hb EE 3 f g fun h=>Am h (An [.fv (.bool false)] c) (BS a fun i=>MN c b e a i n d)
theorem Ap0 (a:Aa) (n:Nat) (b c d:IV) (e:Hp):Ax EE a ft.get n 69 [b,c,d] e=S69 a n b c d e:=by kernel_rfl
def Wk (b:IV) (a:Hp):OH :=
 AF b fun c=>Ac 2 c fun d=>Af d a fun e _=>A4 EE 3 e (.fv (.int .i64 0)) fun f=>An [f] a
def WR (a:Hp) (b:IV) (c:Hp→OH):OH :=
 BA b (.fv (.int .i64 17)) a fun d _ _=>c d
def XL (c d:IV) (a:Hp) (b:Hp→OH):OH :=
 L0 EE 3 c (.fv (.int .i64 1000)) fun e=>Am e (AF d fun f=>Ac 2 f fun g=>WR a g b) (b a)
def Wh (c:Hp) (d e a:IV):OH :=
 BA d e c fun b _ _=>(fun (f:Hp→OH)=>AF a fun g=>Ac 0 g fun h=>Af h b fun i _=>XL i a b f) fun j=>Wk a j
def S70 (i:Aa) (n:Nat) (a:IV) (b:Hp):OH :=
 AF a fun c=>Ac 0 c fun d=>Af d b fun e _=>Bw EE 3 e (.fv (.int .i64 1)) fun f=>AF a fun g=>Ac 0 g fun h=>Wh b h f a
theorem ApA (a:Aa) (n:Nat) (b:IV) (c:Hp):Ax EE a ft.get n 70 [b] c=S70 a n b c:=by kernel_rfl
def AiA (b:IV) (a:Hp):OH :=
 A4 EE 3 b (.fv (.int .i64 13)) fun c=>Am c (An [.fv (.int .i64 4)] a) (An [.fv (.int .i64 (-1))] a)
def Ahf (c:IV) (a:Hp) (b:IV):OH :=
 Am c (An [.fv (.int .i64 2)] a) (A4 EE 3 b (.fv (.int .i64 7)) fun d=>Am d (An [.fv (.int .i64 3)] a) (AiA b a))
def Ais (a:IV) (b:IV→Hp→OH) (c:Hp) (d:IV):OH :=
 Am a (b a c) (A4 EE 3 d (.fv (.int .i64 5)) fun e=>b e c)
def Ai2 (c:IV) (b:Hp) (a:IV):OH :=
 Am c (An [.fv (.int .i64 1)] b) ((fun (d:IV→Hp→OH)=>A4 EE 3 a (.fv (.int .i64 4)) fun e=>Ais e d b a) fun f g=>Ahf f g a)
def Ag2 (a:IV) (b:IV→Hp→OH) (c:Hp):OH :=
 A4 EE 3 a (.fv (.int .i64 30)) fun d=>b d c
def Aiu (a:IV) (b:IV→Hp→OH) (c:Hp):OH :=
 A4 EE 3 a (.fv (.int .i64 12)) fun d=>Am d (b d c) (A4 EE 3 a (.fv (.int .i64 19)) fun e=>Am e (b e c) (Ag2 a b c))
def S71 (h:Aa) (n:Nat) (a:IV) (b:Hp):OH :=
 (fun (c:IV→Hp→OH)=>A4 EE 3 a (.fv (.int .i64 8)) fun d=>Am d (c d b) (A4 EE 3 a (.fv (.int .i64 9)) fun e=>Am e (c e b) (Aiu a c b))) fun f g=>Ai2 f g a
theorem Ao2 (a:Aa) (n:Nat) (b:IV) (c:Hp):Ax EE a ft.get n 71 [b] c=S71 a n b c:=by kernel_rfl
def Xt (a:Aa) (b:Hp) (c d e:IV):OH :=
 Al [true,false,false,false] false false a 81 [c,d,.fv (.int .i64 1),e] b fun f g _ _=>An [f] g
def Ww (b:IV) (a:Hp) (c:Aa) (d e:IV):OH :=
 Ac 2 b fun f=>Af f a fun g _=>A8 1 g (.fv (.int .i64 1)) fun h=>Af h a fun i _=>Az (Ah EE 110 1 [(0,i)]) 75500552 a fun j k _ _=>Xt c k d e j
def Wc (b:IV) (a:Hp) (c:IV) (d:Aa) (e f:IV):OH :=
 Ac 0 b fun g=>Af g a fun h _=>A4 EE 3 h (.fv (.int .i64 4)) fun i=>Am i (AF c fun j=>Ww j a d e f) (An [.fv .nilp] a)
def S72 (d:Aa) (n:Nat) (e b:IV) (a:Hp):OH :=
 AF b fun f=>Ac 2 f fun g=>Af g a fun h _=>A8 1 h (.fv (.int .i64 0)) fun i=>Af i a fun c _=>AF c fun j=>Wc j a b d e c
theorem Aoq (a:Aa) (n:Nat) (b c:IV) (d:Hp):Ax EE a ft.get n 72 [b,c] d=S72 a n b c d:=by kernel_rfl
def Rw (b:IV) (a:Hp):OH :=
 Ac 2 b fun c=>Af c a fun d _=>A8 1 d (.fv (.int .i64 1)) fun e=>Af e a fun f _=>An [f] a
def TA (b:IV) (a:Hp):OH :=
 Ac 2 b fun c=>Af c a fun d _=>A8 1 d (.fv (.int .i64 2)) fun e=>Af e a fun f _=>An [f] a
def Tz (c:IV) (a:Hp) (b:IV):OH :=
 Ac 0 c fun d=>Af d a fun e _=>A4 EE 3 e (.fv (.int .i64 8)) fun f=>Am f (AF b fun g=>Rw g a) (AF b fun h=>TA h a)
def Si (b:IV) (a:Hp) (c d:IV):OH :=
 Ac 0 b fun e=>Af e a fun f _=>Hb EE 3 f (.fv (.int .i64 7)) fun g=>Am g (An [.fv .nilp] a) (AF c fun h=>Tz h a d)
def S73 (i:Aa) (n:Nat) (j b:IV) (a:Hp):OH :=
 AF b fun d=>Ac 2 d fun e=>Af e a fun f _=>A8 1 f (.fv (.int .i64 0)) fun g=>Af g a fun c _=>AF c fun h=>Si h a b c
theorem AnR (a:Aa) (n:Nat) (b c:IV) (d:Hp):Ax EE a ft.get n 73 [b,c] d=S73 a n b c d:=by kernel_rfl
def SV (b:IV) (a:Hp):OH :=
 Ac 2 b fun c=>Af c a fun d _=>A8 1 d (.fv (.int .i64 1)) fun e=>Af e a fun f _=>An [f] a
def S9 (a:Hp) (b c:IV) (d:Aa) (e f:IV):OH :=
 Az (Ah EE 110 2 [(0,b),(1,c)]) 77602826 a fun g h i j=>Ad [] i j (Al [true,false,false,false] false false d 81 [e,f,.fv (.int .i64 2),g] h fun k l m n=>Ad [] m n (An [k] l))
def Sy (e:IV) (a:Hp) (b:Aa) (c f:IV) (g:AG) (h:IV):OH :=
 A8 1 e (.fv (.int .i64 0)) fun i=>Af i a fun j d=>Ad [] d [] (Al [true,false] false false b 80 [c,f] a fun k l m n=>Ad [(d,[]),(g,[])] m n (S9 l j k b c h))
def Tu (c d:AG) (e:IV) (a:Hp) (f:Aa) (g h i:IV):OH :=
 Ad [] c d (AF e fun j=>Ac 2 j fun k=>Af k a fun l b=>Ad [] b [] (Sy l a f g h b i))
def Tp (b c d:AG) (e:Hp) (f g a h:IV) (i:Aa) (j k:IV):OH :=
 Ad [(c,[]),(d,[])] b [] (Az (Ah EE 110 4 [(0,.fv .nilp),(1,f),(2,.fv .nilp),(3,g)]) 77601804 e fun l m n o=>Ad [] n o (Ac 2 a fun p=>BA p l m fun q r s=>Tu r s h q i j a k))
def Q8 (d:IV) (a:Hp) (b c:AG) (e f g:IV) (h:Aa) (i j:IV):OH :=
 Ac 2 d fun k=>Af k a fun l m=>Ad [(b,[]),(c,[])] m [] (A8 1 l (.fv (.int .i64 0)) fun n=>Af n a fun o p=>Tp p b c a e o f g h i j)
def RC (a:AG) (e:IV) (b:Hp) (c f:IV) (g:Aa) (h i:IV):OH :=
 Ad [] a [] (A8 1 e (.fv (.int .i64 1)) fun j=>Af j b fun k d=>Ad [] d [] (AF c fun l=>Q8 l b d a k f c g h i))
def Ti (d:Hp) (e a f:IV) (g:Aa) (h:IV):OH :=
 AJ 77600771 (.row [.fv (.int .i64 0),.fv (.int .i64 0),.nils,.fv (.int .i64 0),.fv (.int .i64 0),.nils,.fv (.nilp)] false) (.ptr (.own 77600771) 0) d fun b i _ _=>Ak 7 b e i fun c _ _=>AF a fun j=>Ac 2 j fun k=>Af k c fun l m=>RC m l c f b g h a
def Sg (c b:IV) (a:Hp) (d:IV) (e:Aa) (f:IV):OH :=
 Am c (AF b fun g=>Aj 7 g a fun h _=>Ti a h b d e f) (An [.fv .nilp] a)
def T5 (d:IV) (a:Hp) (b e:IV) (f:Aa) (g:IV):OH :=
 Ac 0 d fun h=>Af h a fun c _=>A4 EE 3 c (.fv (.int .i64 11)) fun i=>Am i (AF b fun j=>SV j a) (A4 EE 3 c (.fv (.int .i64 12)) fun k=>Sg k b a e f g)
def S74 (d:Aa) (n:Nat) (e b:IV) (a:Hp):OH :=
 AF b fun f=>Ac 2 f fun g=>Af g a fun h _=>A8 1 h (.fv (.int .i64 3)) fun i=>Af i a fun c _=>AF c fun j=>T5 j a b c d e
theorem Aqv (a:Aa) (n:Nat) (b c:IV) (d:Hp):Ax EE a ft.get n 74 [b,c] d=S74 a n b c d:=by kernel_rfl
def S75 (a:Aa) (n:Nat) (f b:IV) (c:Hp):OH :=
 Al [] false false a 84 [b,.fv (.int .i64 19)] c fun d e _ _=>An [d] e
theorem AnU (a:Aa) (n:Nat) (b c:IV) (d:Hp):Ax EE a ft.get n 75 [b,c] d=S75 a n b c d:=by kernel_rfl
def S76 (a:Aa) (n:Nat) (f b:IV) (c:Hp):OH :=
 Al [] false false a 84 [b,.fv (.int .i64 30)] c fun d e _ _=>An [d] e
theorem An0 (a:Aa) (n:Nat) (b c:IV) (d:Hp):Ax EE a ft.get n 76 [b,c] d=S76 a n b c d:=by kernel_rfl
def Tv (a:Hp) (b:IV):OH :=
 BA b (.fv (.int .i64 17)) a fun c _ _=>An [] c
def Sm (b c d:IV) (a:Hp):OH :=
 AH b c (.fv (.bool false)) fun e=>Am e (AF d fun f=>Ac 3 f fun g=>Tv a g) (An [] a)
def Q2 (c:Hp) (a d:IV):OH :=
 Ab a true c (fun h=>h d c [] []) fun i e _ _=>Ab a true e (fun j=>AF i fun k=>j k e [] []) fun l f _ _=>Ab a true f (fun m=>Ac 3 l fun n=>m n f [] []) fun o b _ _=>Ab a true b (fun p=>Af o b fun q r=>p q b r []) fun s g _ _=>Ab a true g (fun t=>A4 EE 37 s (.fv (.int .i64 0)) fun u=>t u g [] []) fun v w _ _=>Sm a v d w
def SK (c:Hp) (d e a:IV):OH :=
 BA d e c fun b _ _=>AF a fun f=>Ac 1 f fun g=>Af g b fun h _=>GP EE 3 h (.fv (.int .i64 0)) fun i=>Q2 b i a
def S77 (i:Aa) (n:Nat) (a:IV) (b:Hp):OH :=
 AF a fun c=>Ac 1 c fun d=>Af d b fun e _=>Bd EE 3 e (.fv (.int .i64 1)) fun f=>AF a fun g=>Ac 1 g fun h=>SK b h f a
theorem Aod (a:Aa) (n:Nat) (b:IV) (c:Hp):Ax EE a ft.get n 77 [b] c=S77 a n b c:=by kernel_rfl
def TJ (a:Hp) (b:IV):OH :=
 Af b a fun c _=>An [c] a
def QZ (b:IV) (a:Hp) (c:List IV→Hp→OH) (d:IV):OH :=
 Ac 1 b fun e=>Af e a fun f _=>c [f,d] a
def Rb (c a:IV) (b:Hp) (d:IV) (e:List IV→Hp→OH):OH :=
 Am c (AF a fun f=>Ac 0 f fun g=>TJ b g) (Bd EE 3 d (.fv (.int .i64 1)) fun h=>AF a fun i=>QZ i b e h)
def Ua (a:IV) (b:Hp):OH :=
 BD [.fv (.int .i64 0),.fv (.int .i64 0),.nils,.fv (.int .i64 0),.fv (.int .i64 0),.nils,.fv (.nilp)] [(0,1,.fv (.int .i64 1)),(1,1,a)] fun c=>A3 81795075 c b fun d e _ _=>An [d] e
def PK (d:List IV) (b:Hp) (e:List IV→Hp→OH):OH :=
 Ay d fun c f=>Ay f fun a _=>Hb EE 108 c (.fv .nilp) fun g=>Am g (A4 EE 3 a (.fv (.int .i64 0)) fun h=>Rb h c b a e) (Bd EE 3 (.fv (.int .i64 (-1))) a fun i=>Ua i b)
def S78 (g:Aa) (n:Nat) (a b:IV) (c:Hp):OH :=
 BF n (fun d e f=>PK e f d) [a,b] c
theorem AqB (a:Aa) (n:Nat) (b c:IV) (d:Hp):Ax EE a ft.get n 78 [b,c] d=S78 a n b c d:=by kernel_rfl
def S79 (a:Aa) (n:Nat) (b c:IV) (d:Hp):OH :=
 Ed EE a (.fv (.func (.func 85) [] [])) [b,c] d fun e f _ _=>An [e] f
theorem AoH (a:Aa) (n:Nat) (b c:IV) (d:Hp):Ax EE a ft.get n 79 [b,c] d=S79 a n b c d:=by kernel_rfl
def AaG (a:Hp) (b:IV) (c:Hp→OH):OH :=
 BA b (.fv (.int .i64 17)) a fun d _ _=>c d
def ZY (c d:IV) (a:Hp) (b:Hp→OH):OH :=
 Am c (AF d fun e=>Ac 3 e fun f=>AaG a f b) (b a)
def Y7 (c:Hp) (d e a:IV) (f:Hp→OH):OH :=
 BA d e c fun b _ _=>AF a fun g=>Ac 0 g fun h=>Af h b fun i _=>GP EE 3 i (.fv (.int .i64 0)) fun j=>ZY j a b f
def Aav (c:IV) (a:Hp) (b:IV) (d:Hp→OH):OH :=
 Ac 0 c fun e=>Af e a fun f _=>Bd EE 3 f (.fv (.int .i64 1)) fun g=>AF b fun h=>Ac 0 h fun i=>Y7 a i g b d
def Aae (c:IV) (a:Hp) (d e b:IV):OH :=
 Am c (An [d] a) ((fun (f:Hp→OH)=>AF b fun g=>Aav g a b f) fun h=>An [e] h)
def Aej (c:Hp) (a f g h i:IV):OH :=
 Ab a false c (fun j=>AF f fun k=>j k c [] []) fun l d _ _=>Ab a false d (fun m=>Ac 3 l fun n=>m n d [] []) fun o b _ _=>Ab a false b (fun p=>Af o b fun q r=>p q b r []) fun s e _ _=>Ab a false e (fun t=>Hb EE 37 s (.fv (.int .i64 0)) fun u=>t u e [] []) fun v w _ _=>AH a (.fv (.bool true)) v fun x=>Aae x w g h i
def XR (g:IV) (a:Hp) (h:Aa) (b c:IV):OH :=
 Ac 0 g fun i=>Af i a fun j _=>Ed EE h j [b] a fun d e _ _=>A4 EE 98 d (.fv .nilp) fun f=>Ab f false e (fun k=>k c e [] []) fun l m _ _=>Aej m f l b d c
def AcJ (b:IV) (a:Hp) (c d:IV) (e:Aa):OH :=
 AF b fun f=>Ac 3 f fun g=>Af g a fun h _=>Hb EE 37 h (.fv (.int .i64 0)) fun i=>Am i (An [c] a) (XR d a e c b)
def Yk (a:Hp) (b g c:IV) (d:Aa) (e h:IV):OH :=
 Ab b false a (fun i=>Hb EE 37 g (.fv (.int .i64 0)) fun j=>i j a [] []) fun k f _ _=>AH b (.fv (.bool true)) k fun l=>Am l (An [c] f) (Al [true] false false d 77 [e] f fun _ m _ _=>AcJ e m c h d)
def Y1 (g:IV) (c:Hp) (d h:IV) (i:Aa) (j:IV):OH :=
 C9 (Nq .not g) fun a=>Ab a false c (fun k=>k d c [] []) fun l e _ _=>Ab a false e (fun m=>AF l fun n=>m n e [] []) fun o f _ _=>Ab a false f (fun p=>Ac 3 o fun q=>p q f [] []) fun r b _ _=>Ab a false b (fun s=>Af r b fun t u=>s t b u []) fun v w _ _=>Yk w a v h i d j
def YU (b:IV) (c:Hp) (d e f g:AG) (h i j:IV) (k:Aa):OH :=
 AQ 1 b fun l=>AJ 83887116 (.row [.fv (.nilf)] false) (.ptr (.own 83887116) 0) c fun a m n o=>Ad [(d,e),(f,[]),(g,[])] n o (BA a h m fun p q r=>Ad [] q r (Y1 l p i j k a))
def Zf (a:Hp) (g:IV) (b:AG) (h i j:IV) (k:Aa):OH :=
 Af g a fun l c=>Ad [(b,[])] c [] (Az (GY EE 100 h l true) 83887112 a fun d m e f=>Ad [] e f (AQ 0 d fun n=>YU d m e f c b n i j k))
def S80 (e:Aa) (n:Nat) (a b:IV) (c:Hp):OH :=
 AF a fun f=>Ac 4 f fun g=>Af g c fun h d=>Ad [] d [] (AF b fun i=>Ac 0 i fun j=>Zf c j d h a b e)
theorem ApV (a:Aa) (n:Nat) (b c:IV) (d:Hp):Ax EE a ft.get n 80 [b,c] d=S80 a n b c d:=by kernel_rfl
def Agl (b c:IV) (a:Hp) (d e f:AG) (g:Aa) (h i:IV):OH :=
 A8 3 b c fun j=>Aj 3 j a fun k l=>Ad [(d,e),(f,[])] l [] (Al [true,false,false] false false g 65 [h,i,k] a fun m n o p=>Ad [] o p (An [m] n))
def AiH (e:IV) (a:Hp) (b c d:AG) (f:IV) (g:Aa) (h i:IV):OH :=
 AF e fun j=>Ac 3 j fun k=>Ac 2 k fun l=>Af l a fun m n=>Ad [(b,c),(d,[])] n [] (Agl m f a b c d g h i)
def S81 (a:Aa) (n:Nat) (g b h i:IV) (c:Hp):OH :=
 AF b fun j=>Ac 6 j fun k=>Af k c fun l d=>Ad [] d [] (Al [] false false a 86 [l,i] c fun m o e f=>Ad [] e f (AiH b o e f d h a g m))
theorem Aqz (a:Aa) (n:Nat) (b c d e:IV) (f:Hp):Ax EE a ft.get n 81 [b,c,d,e] f=S81 a n b c d e f:=by kernel_rfl
def Ads (a:Hp) (b:IV):OH :=
 Aw true 3 b a fun c=>An [c] a
def YB (a:Hp) (b:IV):OH :=
 Aw true 3 b a fun c=>An [c] a
def AbT (c:IV) (a:Hp) (d:Aa) (b:IV):OH :=
 A8 3 c (.fv (.int .i64 0)) fun e=>Aj 3 e a fun f _=>BD [.fv (.int .i64 0),.fv (.int .i64 0),.nils] [(0,1,.fv (.int .i64 11))] fun g=>Al [] false false d 88 [f,.fv (.int .i64 0),g] a fun h i _ _=>Ak 3 b h i fun j _ _=>YB j b
def Aac (c:IV) (a:Hp) (d b e:IV) (f:Aa):OH :=
 Am c (Aj 3 d a fun g _=>Ak 3 b g a fun h _ _=>Ads h b) (Ac 2 e fun i=>Af i a fun j _=>AbT j a f b)
def Aa6 (b:Hp) (a g:IV) (d:Aa) (h i j:IV):OH :=
 Ab a false b (fun k=>Af g b fun l m=>k l b m []) fun n e _ _=>Ab a false e (fun o=>A8 3 n (.fv (.int .i64 0)) fun p=>o p e [] []) fun q c _ _=>Ab a false c (fun r=>Aj 3 q c fun s t=>r s c t []) fun u f _ _=>Ab a false f (fun v=>Al [] false false d 87 [u,.fv (.int .i64 0)] f v) fun w x _ _=>AH a (.fv (.bool true)) w fun y=>Aac y x h i j d
def Aes (c:Hp) (a h d:IV) (i:Aa) (j k:IV):OH :=
 Ab a false c (fun l=>Ac 1 h fun m=>l m c [] []) fun n b _ _=>Ab a false b (fun o=>Af n b fun p q=>o p b q []) fun r e _ _=>Ab a false e (fun s=>Hb EE 3 r (.fv (.int .i64 0)) fun t=>s t e [] []) fun u f _ _=>AH a (.fv (.bool true)) u fun g=>Ab g false f (fun v=>Ac 2 d fun w=>v w f [] []) fun x y _ _=>Aa6 y g x i j k d
def Aby (c:Hp) (d h e:IV) (i:Aa) (j k:IV):OH :=
 Ab d false c (fun l=>Hb EE 3 h (.fv (.int .i64 1)) fun m=>l m c [] []) fun n f _ _=>AH d (.fv (.bool true)) n fun a=>Ab a false f (fun o=>Ac 2 e fun p=>o p f [] []) fun q b _ _=>Ab a false b (fun r=>Af q b fun s t=>r s b t []) fun u g _ _=>Ab a false g (fun v=>A8 3 u (.fv (.int .i64 1)) fun w=>v w g [] []) fun x y _ _=>Aes y a x e i j k
def AcR (d:Hp) (a e:IV) (h:Aa) (i j:IV):OH :=
 Ab a false d (fun k=>Ac 2 e fun l=>k l d [] []) fun m b _ _=>Ab a false b (fun n=>Af m b fun o p=>n o b p []) fun q f _ _=>Ab a false f (fun r=>A8 3 q (.fv (.int .i64 1)) fun s=>r s f [] []) fun t g _ _=>Ab a false g (fun u=>Ac 0 t fun v=>u v g [] []) fun w c _ _=>Ab a false c (fun x=>Af w c fun y z=>x y c z []) fun A B _ _=>Aby B a A e h i j
def YF (c:Hp) (d:IV) (e:Aa) (f g:IV):OH :=
 AJ 85984260 (.row [.fv (.int .i64 0),.fv (.int .i64 0),.nils] false) (.ptr (.own 85984260) 0) c fun a h _ _=>Ak 3 a d h fun b _ _=>Ac 0 a fun i=>Af i b fun j _=>Hb EE 3 j (.fv (.int .i64 5)) fun k=>AcR b k a e f g
def S82 (c:Aa) (n:Nat) (d:IV) (e:Hp):OH :=
 A3 85983232 d e fun b f _ _=>AJ 85983233 (.row [.fv (.int .i64 0),.fv (.int .i64 0),.nils] false) (.ptr (.own 85983233) 0) f fun g a _ _=>Ac 2 b fun h=>Af h a fun i _=>A8 3 i (.fv (.int .i64 1)) fun j=>Aj 3 j a fun k _=>YF a k c b g
theorem Ao9 (a:Aa) (n:Nat) (b:IV) (c:Hp):Ax EE a ft.get n 82 [b] c=S82 a n b c:=by kernel_rfl
def Kc (a:Hp) (b:IV):OH :=
 Aw true 3 b a fun c=>An [c] a
def K6 (d:IV) (a:Hp) (b:IV):OH :=
 A8 3 d (.fv (.int .i64 0)) fun e=>Aj 3 e a fun f _=>Ak 3 b f a fun c _ _=>Aw true 3 b c fun g=>An [g] c
def Kj (c d:IV) (a:Hp) (e b f:IV):OH :=
 AH c (.fv (.bool true)) d fun g=>Am g (Aj 3 e a fun h _=>Ak 3 b h a fun i _ _=>Kc i b) (Ac 2 f fun j=>Af j a fun k _=>K6 k a b)
def KK (b:Hp) (a e:IV) (f g h i:AG) (j:Aa) (k l m n:IV):OH :=
 Ab a false b (fun o=>Aj 3 e b fun p q=>o p b q []) fun r c s t=>Ad [(f,g),(h,i)] s t (Ab a false c (fun u=>Al [] false false j 57 [k,r] c u) fun v d w x=>Ad [] w x (Ab a false d (fun y=>C9 (Nq .not v) fun z=>y z d [] []) fun A B _ _=>Kj a A B l m n))
def Li (b c:AG) (e:Hp) (a i:IV) (f g:AG) (j:Aa) (k l m n:IV):OH :=
 Ad [] b c (Ab a false e (fun o=>Ac 2 i fun p=>o p e [] []) fun q d _ _=>Ab a false d (fun r=>Af q d fun s t=>r s d t []) fun u h v w=>Ad [(b,c),(f,g)] v w (Ab a false h (fun x=>A8 3 u (.fv (.int .i64 0)) fun y=>x y h [] []) fun z A _ _=>KK A a z b c f g j k l m n))
def Lx (d:Hp) (a e i:IV) (j:Aa) (k l:IV):OH :=
 Ab a false d (fun m=>Ac 2 e fun n=>m n d [] []) fun o b _ _=>Ab a false b (fun p=>Af o b fun q r=>p q b r []) fun s f g h=>Ad [] g h (Ab a false f (fun t=>A8 3 s (.fv (.int .i64 0)) fun u=>t u f [] []) fun v c _ _=>Ab a false c (fun w=>Aj 3 v c fun x y=>w x c y []) fun z A B C=>Li B C A a i g h j z k l e)
def LC (c:Hp) (a d f:IV) (g:Aa) (h i:IV):OH :=
 Ab a false c (fun j=>Ac 0 d fun k=>j k c [] []) fun l b _ _=>Ab a false b (fun m=>Af l b fun n o=>m n b o []) fun p e q r=>Ad [] q r (Ab a false e (fun s=>Hb EE 3 p (.fv (.int .i64 9)) fun t=>s t e [] []) fun u v _ _=>AH a (.fv (.bool true)) u fun w=>Lx v w f d g h i)
def KG (c d:AG) (a:IV) (b:Hp) (e:IV) (f:Aa) (g h:IV):OH :=
 Ad [] c d (Ac 0 a fun i=>Af i b fun j k=>Ad [] k [] (Hb EE 3 j (.fv (.int .i64 8)) fun l=>LC b l e a f g h))
def KF (e:Hp) (f g a b h i:AG) (c j k:IV) (l:Aa) (m n:IV):OH :=
 AJ 87032841 (.row [.fv (.int .i64 0),.fv (.int .i64 0),.nils] false) (.ptr (.own 87032841) 0) e fun d o p q=>Ad [(f,g),(a,[]),(b,[]),(h,[]),(i,[])] p q (Ak 3 c j o fun r s t=>Ad [(a,[]),(b,[])] s t (Ak 3 d k r fun u v w=>KG v w c u d l m n))
def LU (h:IV) (d:Hp) (a b e:AG) (i:IV) (j:Aa) (k l:IV):OH :=
 A8 3 h (.fv (.int .i64 2)) fun m=>Aj 3 m d fun n c=>Ad [(a,[]),(b,[])] c [] (AJ 87032840 (.row [.fv (.int .i64 0),.fv (.int .i64 0),.nils] false) (.ptr (.own 87032840) 0) d fun o p f g=>Ad [(c,[]),(e,[]),(a,[]),(b,[])] f g (KF p f g c e a b o i n j k l))
def KL (a:Hp) (f c:IV) (d:AG) (g:Aa) (h:IV):OH :=
 Aj 3 f a fun i b=>Ad [] b [] (Ac 2 c fun j=>Af j a fun k e=>Ad [(b,[]),(d,[])] e [] (LU k a b d e i g c h))
def S83 (d:Aa) (n:Nat) (e:IV) (f:Hp):OH :=
 A3 87031808 e f fun a g _ _=>AJ 87031809 (.row [.fv (.int .i64 0),.fv (.int .i64 0),.nils] false) (.ptr (.own 87031809) 0) g fun h b _ _=>Ac 2 a fun i=>Af i b fun j c=>Ad [] c [] (A8 3 j (.fv (.int .i64 1)) fun k=>KL b k a c d h)
theorem ApB (a:Aa) (n:Nat) (b:IV) (c:Hp):Ax EE a ft.get n 83 [b] c=S83 a n b c:=by kernel_rfl
def WT (b:IV) (a:Hp):OH :=
 Ac 2 b fun c=>Af c a fun d _=>A8 1 d (.fv (.int .i64 0)) fun e=>Af e a fun f _=>An [f] a
def V8 (b:IV) (a:Hp):OH :=
 Ac 2 b fun c=>Af c a fun d _=>A8 1 d (.fv (.int .i64 0)) fun e=>Af e a fun f _=>AF f fun g=>WT g a
def Wl (b:IV) (a:Hp) (c d:IV):OH :=
 Ac 0 b fun e=>Af e a fun f _=>Hb EE 3 f c fun g=>Am g (An [.fv .nilp] a) (AF d fun h=>V8 h a)
def S84 (j:Aa) (n:Nat) (b c:IV) (a:Hp):OH :=
 AF b fun d=>Ac 2 d fun e=>Af e a fun f _=>A8 1 f (.fv (.int .i64 0)) fun g=>Af g a fun h _=>AF h fun i=>Wl i a c b
theorem Aof (a:Aa) (n:Nat) (b c:IV) (d:Hp):Ax EE a ft.get n 84 [b,c] d=S84 a n b c d:=by kernel_rfl
def Ajr (b:IV) (a:Hp) (c:Hp→OH):OH :=
 A4 EE 3 b (.fv (.int .i64 0)) fun d=>Am d (An [.fv (.int .i64 1)] a) (A4 EE 3 b (.fv (.int .i64 2)) fun e=>Am e (An [.fv (.int .i64 2)] a) (c a))
def Ahd (d c:IV) (a:Hp) (b:Hp→OH) (e:IV):OH :=
 Am d (A4 EE 3 c (.fv (.int .i64 1)) fun f=>Am f (An [.fv (.int .i64 1)] a) (b a)) (A4 EE 3 e (.fv (.int .i64 13)) fun g=>Am g (Ajr c a b) (b a))
def AfP (a:IV) (b:IV→Hp→OH) (c:Hp):OH :=
 A4 EE 3 a (.fv (.int .i64 29)) fun d=>b d c
def AfX (a:IV) (b:IV→Hp→OH) (c:Hp):OH :=
 A4 EE 3 a (.fv (.int .i64 20)) fun d=>Am d (b d c) (A4 EE 3 a (.fv (.int .i64 28)) fun e=>Am e (b e c) (AfP a b c))
def AiI (c:IV) (a:IV→Hp→OH) (b:Hp) (d:IV):OH :=
 Am c (a c b) (A4 EE 3 d (.fv (.int .i64 6)) fun e=>Am e (a e b) (AfX d a b))
def S85 (k:Aa) (n:Nat) (a e:IV) (b:Hp):OH :=
 (fun (f:Hp→OH)=>(fun (c:IV→Hp→OH)=>A4 EE 3 a (.fv (.int .i64 3)) fun d=>Am d (c d b) (A4 EE 3 a (.fv (.int .i64 4)) fun g=>AiI g c b a)) fun h i=>Ahd h e i f a) fun j=>An [.fv (.int .i64 0)] j
theorem Aov (a:Aa) (n:Nat) (b c:IV) (d:Hp):Ax EE a ft.get n 85 [b,c] d=S85 a n b c d:=by kernel_rfl
def To (f g:IV) (h:Hp) (i:IV) (j:Hp) (a b:IV) (k:List IV→Hp→OH):OH :=
 BD [.fv (.nilp),.fv (.nilp)] [(0,1,f),(1,1,g)] fun c=>fzS (Ly true 90181635 c) 90181635 c h fun d l _ _=>Bw EE 3 i (.fv (.int .i64 1)) fun e=>Bf (j.own.map (·.1)) [90181635] [d,a,b,e] l fun m=>k [d,a,b,e] m
def Sb (e b c:IV) (a:Hp) (d:IV) (f:Hp) (g:IV) (h:List IV→Hp→OH):OH :=
 Am e (A8 1 b c fun i=>Af i a fun j _=>To j d a c f b g h) (An [d] a)
def WQ (c:List IV) (d e:Hp) (f:List IV→Hp→OH):OH :=
 Ay c fun g h=>Ay h fun i j=>Ay j fun a k=>Ay k fun b _=>GP EE 3 b a fun l=>Sb l i b d g e a f
def S86 (i:Aa) (n:Nat) (c a:IV) (b:Hp):OH :=
 BS a fun d=>Bf (b.own.map (·.1)) [90181635] [c,a,d,.fv (.int .i64 0)] b fun e=>BF n (fun f g h=>WQ g h b f) [c,a,d,.fv (.int .i64 0)] e
theorem Aou (a:Aa) (n:Nat) (b c:IV) (d:Hp):Ax EE a ft.get n 86 [b,c] d=S86 a n b c d:=by kernel_rfl
def S87 (b:Aa) (n:Nat) (c d:IV) (e:Hp):OH :=
 A3 91226112 c e fun f g _ _=>A3 91226113 d g fun h a _ _=>Aj 3 f a fun i _=>Az (val (CR (.func 90) [] [h])) 91227137 a fun j k _ _=>Al [] false false b 89 [i,.fv (.int .i64 0),j] k fun l m _ _=>An [l] m
theorem AnD (a:Aa) (n:Nat) (b c:IV) (d:Hp):Ax EE a ft.get n 87 [b,c] d=S87 a n b c d:=by kernel_rfl
def Af3 (c:Aa) (d:Hp) (e f a:IV):OH :=
 Al [] false false c 91 [e,.fv (.int .i64 0),f] d fun g h _ _=>Ak 3 a g h fun b _ _=>Aw true 3 a b fun i=>An [i] b
def S88 (b:Aa) (n:Nat) (c d e:IV) (f:Hp):OH :=
 A3 92274688 c f fun g h _ _=>A3 92274689 d h fun i j _ _=>A3 92274690 e j fun k l _ _=>AJ 92274691 (.row [.fv (.int .i64 0),.fv (.int .i64 0),.nils] false) (.ptr (.own 92274691) 0) l fun m a _ _=>Aj 3 g a fun o _=>Az (val (CR (.func 92) [] [i,k])) 92275713 a fun p q _ _=>Af3 b q o p m
theorem Aol (a:Aa) (n:Nat) (b c d:IV) (e:Hp):Ax EE a ft.get n 88 [b,c,d] e=S88 a n b c d e:=by kernel_rfl
def L5 (a:Hp) (b:IV) (c:Aa) (d e:IV):OH :=
 Af b a fun f _=>Ed EE c d [f,e] a fun g h _ _=>An [g] h
def MS (g h:Hp) (a b c d e f:IV) (i:List IV→Hp→OH):OH :=
 Bf (g.own.map (·.1)) [93328387] [a,b,c,d,e,f] h fun j=>i [a,b,c,d,e,f] j
def Mb (a d:IV) (e:Aa) (f:Hp) (g b h:IV) (i:Hp) (j k l:IV) (m:List IV→Hp→OH):OH :=
 Bw EE 3 a d fun n=>Al [] false false e 89 [g,n,b] f fun o c p q=>Ad [] p q (Am o (An [.fv (.bool true)] c) (Bw EE 3 h (.fv (.int .i64 1)) fun r=>MS i c a b j k l r m))
def Mg (a:IV) (b:Hp) (c:AG) (d:Aa) (e f g h:IV) (i:Hp) (j k:IV) (l:List IV→Hp→OH):OH :=
 Ac 0 a fun m=>Af m b fun n o=>Ad [(c,[])] o [] (Al [] false false d 79 [n,e] b fun p q r s=>Ad [(c,[])] r s (Mb f p d q g h e i a j k l))
def Mm (a:Hp) (e f:IV) (g:Aa) (h i j:IV) (k:Hp) (l m:IV) (n:List IV→Hp→OH):OH :=
 Aj 3 e a fun o _=>AJ 93328387 (.row [.fv (.int .i64 0),.fv (.int .i64 0),.nils] false) (.ptr (.own 93328387) 0) a fun b p _ _=>Ak 3 b o p fun c _ _=>Aj 3 b c fun q d=>Ad [] d [] (Mg f c d g h i q j k l m n)
def Ma (e:List IV) (b c:IV) (d:Hp) (f:IV) (g:Aa) (h i:IV) (j:Hp) (k:List IV→Hp→OH):OH :=
 Ay e fun a _=>GP EE 3 a b fun l=>Am l (A8 3 c a fun m=>Mm d m f g a h i j c b k) (An [.fv (.bool false)] d)
def Tb (a:List IV) (b:Hp) (c:Aa) (d:Hp) (e:List IV→Hp→OH):OH :=
 Ay a fun f g=>Ay g fun h i=>Ay i fun j k=>Ay k fun l m=>Ay m fun n o=>Ma o n l b j c f h d e
def Mc (b:Hp) (h:IV) (c:Hp) (d e f:IV) (n:Nat) (i:Aa):OH :=
 Af h b fun a _=>BS a fun g=>Bf (c.own.map (·.1)) [93328387] [d,e,f,a,g,.fv (.int .i64 0)] b fun j=>BF n (fun k l m=>Tb l m i c k) [d,e,f,a,g,.fv (.int .i64 0)] j
def S89 (c:Aa) (n:Nat) (g d e:IV) (f:Hp):OH :=
 A3 93323264 g f fun a b _ _=>Ac 0 a fun h=>Af h b fun i _=>A4 EE 3 i (.fv (.int .i64 1)) fun j=>Am j (Ac 1 a fun k=>L5 b k c e d) (Ac 2 a fun l=>Mc b l f d e a n c)
theorem Aqq (a:Aa) (n:Nat) (b c d:IV) (e:Hp):Ax EE a ft.get n 89 [b,c,d] e=S89 a n b c d e:=by kernel_rfl
def TO (a b:IV) (c:Hp):OH :=
 AH a b (.fv (.bool false)) fun d=>An [d] c
def S90 (s:Aa) (n:Nat) (c d g:IV) (b:Hp):OH :=
 Bd EE 3 c d fun h=>Af g b fun i _=>A4 EE 3 h i fun a=>Ab a true b (fun j=>j c b [] []) fun k e _ _=>Ab a true e (fun l=>l d e [] []) fun m f _ _=>Ab a true f (fun o=>geS EE 3 k m fun p=>o p f [] []) fun q r _ _=>TO a q r
theorem Aqx (a:Aa) (n:Nat) (b c d:IV) (e:Hp):Ax EE a ft.get n 90 [b,c,d] e=S90 a n b c d e:=by kernel_rfl
def KB (a:Hp) (d:IV) (e:Aa) (f g b:IV):OH :=
 Aj 3 d a fun h _=>Ed EE e f [h,g] a fun i j _ _=>Ak 3 b i j fun c _ _=>Aw true 3 b c fun k=>An [k] c
def KQ (i:Hp) (j k l:IV) (m:Hp) (a b c d e f g:IV) (n:List IV→Hp→OH):OH :=
 Ak 3 j k i fun o p q=>Ad [] p q (Bw EE 3 l (.fv (.int .i64 1)) fun h=>Bf (m.own.map (·.1)) [95426563] [a,b,c,d,e,f,g,h] o fun r=>n [a,b,c,d,e,f,g,h] r)
def KW (e f g:AG) (a h:IV) (i:Aa) (j:Hp) (k b c d:IV) (l:Hp) (m n o p:IV) (q:List IV→Hp→OH):OH :=
 Ad [(g,[])] e f (Bw EE 3 a h fun r=>Al [] false false i 91 [k,r,b] j fun s t u v=>Ad [] u v (A8 3 c d fun w=>KQ t w s d l a b m n c o p q))
def Lo (a:AG) (b:IV) (c:Hp) (d:Aa) (e f g h i:IV) (j:Hp) (k l m:IV) (n:List IV→Hp→OH):OH :=
 Ad [] a [] (Ac 0 b fun o=>Af o c fun p q=>Ad [(a,[])] q [] (Al [] false false d 79 [p,e] c fun r s t u=>KW t u a f r d s g h i e j b k l m n))
def K1 (a b:IV) (c:Hp) (f:IV) (g:Aa) (h i j:IV) (k:Hp) (l m:IV) (n:List IV→Hp→OH):OH :=
 A8 3 a b fun o=>Aj 3 o c fun p _=>AJ 95426563 (.row [.fv (.int .i64 0),.fv (.int .i64 0),.nils] false) (.ptr (.own 95426563) 0) c fun d q _ _=>Ak 3 d p q fun e _ _=>Aj 3 d e fun r s=>Lo s f e g b h r i j k l a m n
def LD (c:Hp) (a d:IV):OH :=
 Ak 3 a d c fun b _ _=>Aw true 3 a b fun e=>An [e] b
def LQ (b:IV) (a:Hp) (c d:IV):OH :=
 Ac 0 b fun e=>Af e a fun f _=>Ac 1 b fun g=>Af g a fun h _=>BD [.fv (.int .i64 0),.fv (.int .i64 0),.nils] [(0,1,f),(1,1,h),(2,1,c)] fun i=>LD a d i
def K7 (g:List IV) (a:Hp) (b:IV) (h:Aa) (i j c:IV) (k:Hp) (d:IV) (l:List IV→Hp→OH):OH :=
 Ay g fun m n=>Ay n fun e o=>Ay o fun f _=>GP EE 3 f e fun p=>Am p (K1 m f a b h i j c k d e l) (LQ b a c d)
def Sr (a:List IV) (b:Hp) (c:Aa) (d:Hp) (e:List IV→Hp→OH):OH :=
 Ay a fun f g=>Ay g fun h i=>Ay i fun j k=>Ay k fun l m=>Ay m fun n o=>K7 o b j c f h n d l e
def Ku (b:Hp) (j:IV) (c:Hp) (d e f g h:IV) (n:Nat) (k:Aa):OH :=
 Af j b fun a _=>BS a fun i=>Bf (c.own.map (·.1)) [95426563] [d,e,f,g,h,a,i,.fv (.int .i64 0)] b fun l=>BF n (fun m o p=>Sr o p k c m) [d,e,f,g,h,a,i,.fv (.int .i64 0)] l
def Kg (a:IV) (b d:Hp) (e f g:IV) (n:Nat) (h:Aa):OH :=
 Ac 2 a fun i=>Af i b fun j _=>BS j fun c=>Az (Bn EE 95423491 29 c c) 95423491 b fun k l _ _=>Ac 2 a fun m=>Ku l m d e f a g k n h
def S91 (c:Aa) (n:Nat) (h d e:IV) (f:Hp):OH :=
 A3 95420416 h f fun a i _ _=>AJ 95420417 (.row [.fv (.int .i64 0),.fv (.int .i64 0),.nils] false) (.ptr (.own 95420417) 0) i fun g b _ _=>Ac 0 a fun j=>Af j b fun k _=>A4 EE 3 k (.fv (.int .i64 1)) fun l=>Am l (KB b a c e d g) (Kg a b f d e g n c)
theorem Aqk (a:Aa) (n:Nat) (b c d:IV) (e:Hp):Ax EE a ft.get n 91 [b,c,d] e=S91 a n b c d e:=by kernel_rfl
def Rk (c:Hp) (a d:IV):OH :=
 Ak 3 a d c fun b _ _=>Aw true 3 a b fun e=>An [e] b
def Tn (c:Hp) (a d:IV):OH :=
 Ak 3 a d c fun b _ _=>Aw true 3 a b fun e=>An [e] b
def RK (c:Hp) (a d:IV):OH :=
 Ak 3 a d c fun b _ _=>Aw true 3 a b fun e=>An [e] b
def Q3 (d:IV) (a:Hp) (e:IV) (b:Aa) (f c g:IV):OH :=
 Am d (Aj 3 e a fun h _=>Al [] false false b 94 [h,f,.fv (.int .i64 0)] a fun i j _ _=>Tn j c i) (Aj 3 g a fun k _=>Al [] false false b 93 [k,.fv (.int .i64 0)] a fun l m _ _=>RK m c l)
def Uj (b f:IV) (a:Hp) (c:IV) (d:Aa) (e g h i:IV):OH :=
 L0 EE 3 b f fun j=>Am j (Aj 3 c a fun k _=>Al [] false false d 93 [k,.fv (.int .i64 (-1))] a fun l m _ _=>Rk m e l) (Af g a fun n _=>A4 EE 3 b n fun o=>Q3 o a h d i e c)
def S92 (e:Aa) (n:Nat) (f b c g:IV) (h:Hp):OH :=
 A3 96468992 f h fun d i _ _=>AJ 96468993 (.row [.fv (.int .i64 0),.fv (.int .i64 0),.nils] false) (.ptr (.own 96468993) 0) i fun j a _ _=>Ac 1 d fun k=>Af k a fun l _=>Bd EE 3 l b fun m=>Af c a fun o _=>Uj m o a d e j c g b
theorem Ap9 (a:Aa) (n:Nat) (b c d e:IV) (f:Hp):Ax EE a ft.get n 92 [b,c,d,e] f=S92 a n b c d e f:=by kernel_rfl
def Aip (c:Hp) (a d:IV):OH :=
 Ak 3 a d c fun b _ _=>Aw true 3 a b fun e=>An [e] b
def S93 (l:Aa) (n:Nat) (b c:IV) (d:Hp):OH :=
 A3 97517568 b d fun e f _ _=>AJ 97517569 (.row [.fv (.int .i64 0),.fv (.int .i64 0),.nils] false) (.ptr (.own 97517569) 0) f fun g a _ _=>Ac 1 e fun h=>Af h a fun i _=>Bw EE 3 i c fun j=>BD [.fv (.int .i64 0),.fv (.int .i64 0),.nils] [(0,1,.fv (.int .i64 1)),(1,1,j)] fun k=>Aip a g k
theorem Ane (a:Aa) (n:Nat) (b c:IV) (d:Hp):Ax EE a ft.get n 93 [b,c] d=S93 a n b c d:=by kernel_rfl
def Ajt (c:Aa) (d:Hp) (e f a:IV):OH :=
 Al [] false false c 91 [e,.fv (.int .i64 0),f] d fun g h _ _=>Ak 3 a g h fun b _ _=>Aw true 3 a b fun i=>An [i] b
def S94 (b:Aa) (n:Nat) (c d e:IV) (f:Hp):OH :=
 A3 98566144 c f fun g h _ _=>A3 98566145 d h fun i j _ _=>A3 98566146 e j fun k l _ _=>AJ 98566147 (.row [.fv (.int .i64 0),.fv (.int .i64 0),.nils] false) (.ptr (.own 98566147) 0) l fun m a _ _=>Aj 3 g a fun o _=>Az (val (CR (.func 95) [] [k,i])) 98567169 a fun p q _ _=>Ajt b q o p m
theorem Aoo (a:Aa) (n:Nat) (b c d:IV) (e:Hp):Ax EE a ft.get n 94 [b,c,d] e=S94 a n b c d e:=by kernel_rfl
def XH (c:Aa) (d:Hp) (e f a:IV):OH :=
 Al [] false false c 93 [e,f] d fun g h _ _=>Ak 3 a g h fun b _ _=>Aw true 3 a b fun i=>An [i] b
def XA (c:Hp) (a d:IV):OH :=
 Ak 3 a d c fun b _ _=>Aw true 3 a b fun e=>An [e] b
def WD (e f:IV) (a:Hp) (b g:IV) (c:Aa) (d:IV):OH :=
 geS EE 3 e f fun h=>Am h (Aj 3 b a fun i _=>Af g a fun j _=>XH c a i j d) (Aj 3 b a fun k _=>Al [] false false c 93 [k,.fv (.int .i64 0)] a fun l m _ _=>XA m d l)
def S95 (c:Aa) (n:Nat) (d e f g:IV) (h:Hp):OH :=
 A3 99614720 d h fun b i _ _=>AJ 99614721 (.row [.fv (.int .i64 0),.fv (.int .i64 0),.nils] false) (.ptr (.own 99614721) 0) i fun j a _ _=>Ac 1 b fun k=>Af k a fun l _=>Bd EE 3 l e fun m=>Af f a fun o _=>WD m o a b g c j
theorem AoZ (a:Aa) (n:Nat) (b c d e:IV) (f:Hp):Ax EE a ft.get n 95 [b,c,d,e] f=S95 a n b c d e f:=by kernel_rfl
end
noncomputable section
def dt:DT :=
 .node 54 (.node 33 (.node 20 (.node 15 (.node 11 (.node 10 (.leaf 4 (fun ih n=>J6 (S4 ih n)))
 (.leaf 10 (fun ih n=>Pm (S10 ih n))))
 (.node 12 (.leaf 11 (fun ih n=>Fi (S11 ih n)))
 (.node 13 (.leaf 12 (fun ih n=>Fi (S12 ih n)))
 (.leaf 13 (fun ih n=>J6 (S13 ih n))))))
 (.node 17 (.node 16 (.leaf 15 (fun ih n=>Fi (S15 ih n)))
 (.leaf 16 (fun ih n=>Ea (S16 ih n))))
 (.node 18 (.leaf 17 (fun ih n=>Fi (S17 ih n)))
 (.node 19 (.leaf 18 (fun ih n=>Fi (S18 ih n)))
 (.leaf 19 (fun ih n=>J7 (S19 ih n)))))))
 (.node 25 (.node 22 (.node 21 (.leaf 20 (fun ih n=>Fi (S20 ih n)))
 (.leaf 21 (fun ih n=>J7 (S21 ih n))))
 (.node 23 (.leaf 22 (fun ih n=>J7 (S22 ih n)))
 (.node 24 (.leaf 23 (fun ih n=>J6 (S23 ih n)))
 (.leaf 24 (fun ih n=>Ea (S24 ih n))))))
 (.node 27 (.node 26 (.leaf 25 (fun ih n=>J7 (S25 ih n)))
 (.leaf 26 (fun ih n=>Fi (S26 ih n))))
 (.node 28 (.leaf 27 (fun ih n=>Fi (S27 ih n)))
 (.node 29 (.leaf 28 (fun ih n=>Ea (S28 ih n)))
 (.leaf 29 (fun ih n=>Fi (S29 ih n))))))))
 (.node 43 (.node 38 (.node 35 (.node 34 (.leaf 33 (fun ih n=>Ea (S33 ih n)))
 (.leaf 34 (fun ih n=>Ea (S34 ih n))))
 (.node 36 (.leaf 35 (fun ih n=>J6 (S35 ih n)))
 (.node 37 (.leaf 36 (fun ih n=>Fi (S36 ih n)))
 (.leaf 37 (fun ih n=>Ea (S37 ih n))))))
 (.node 40 (.node 39 (.leaf 38 (fun ih n=>Fi (S38 ih n)))
 (.leaf 39 (fun ih n=>Fi (S39 ih n))))
 (.node 41 (.leaf 40 (fun ih n=>Ea (S40 ih n)))
 (.node 42 (.leaf 41 (fun ih n=>J6 (S41 ih n)))
 (.leaf 42 (fun ih n=>J7 (S42 ih n)))))))
 (.node 48 (.node 45 (.node 44 (.leaf 43 (fun ih n=>Ea (S43 ih n)))
 (.leaf 44 (fun ih n=>Pm (S44 ih n))))
 (.node 46 (.leaf 45 (fun ih n=>Fi (S45 ih n)))
 (.node 47 (.leaf 46 (fun ih n=>Ea (S46 ih n)))
 (.leaf 47 (fun ih n=>J6 (S47 ih n))))))
 (.node 51 (.node 49 (.leaf 48 (fun ih n=>J6 (S48 ih n)))
 (.node 50 (.leaf 49 (fun ih n=>J6 (S49 ih n)))
 (.leaf 50 (fun ih n=>J7 (S50 ih n)))))
 (.node 52 (.leaf 51 (fun ih n=>Ea (S51 ih n)))
 (.node 53 (.leaf 52 (fun ih n=>J7 (S52 ih n)))
 (.leaf 53 (fun ih n=>J6 (S53 ih n)))))))))
 (.node 75 (.node 64 (.node 59 (.node 56 (.node 55 (.leaf 54 (fun ih n=>Ea (S54 ih n)))
 (.leaf 55 (fun ih n=>Fi (S55 ih n))))
 (.node 57 (.leaf 56 (fun ih n=>Fi (S56 ih n)))
 (.node 58 (.leaf 57 (fun ih n=>Ea (S57 ih n)))
 (.leaf 58 (fun ih n=>Ea (S58 ih n))))))
 (.node 61 (.node 60 (.leaf 59 (fun ih n=>Ea (S59 ih n)))
 (.leaf 60 (fun ih n=>J6 (S60 ih n))))
 (.node 62 (.leaf 61 (fun ih n=>Fi (S61 ih n)))
 (.node 63 (.leaf 62 (fun ih n=>Ea (S62 ih n)))
 (.leaf 63 (fun ih n=>Fi (S63 ih n)))))))
 (.node 69 (.node 66 (.node 65 (.leaf 64 (fun ih n=>Pm (S64 ih n)))
 (.leaf 65 (fun ih n=>J7 (S65 ih n))))
 (.node 67 (.leaf 66 (fun ih n=>J6 (S66 ih n)))
 (.node 68 (.leaf 67 (fun ih n=>Fi (S67 ih n)))
 (.leaf 68 (fun ih n=>Fi (S68 ih n))))))
 (.node 72 (.node 70 (.leaf 69 (fun ih n=>J7 (S69 ih n)))
 (.node 71 (.leaf 70 (fun ih n=>Fi (S70 ih n)))
 (.leaf 71 (fun ih n=>Fi (S71 ih n)))))
 (.node 73 (.leaf 72 (fun ih n=>Ea (S72 ih n)))
 (.node 74 (.leaf 73 (fun ih n=>Ea (S73 ih n)))
 (.leaf 74 (fun ih n=>Ea (S74 ih n))))))))
 (.node 85 (.node 80 (.node 77 (.node 76 (.leaf 75 (fun ih n=>Ea (S75 ih n)))
 (.leaf 76 (fun ih n=>Ea (S76 ih n))))
 (.node 78 (.leaf 77 (fun ih n=>Fi (S77 ih n)))
 (.node 79 (.leaf 78 (fun ih n=>Ea (S78 ih n)))
 (.leaf 79 (fun ih n=>Ea (S79 ih n))))))
 (.node 82 (.node 81 (.leaf 80 (fun ih n=>Ea (S80 ih n)))
 (.leaf 81 (fun ih n=>J6 (S81 ih n))))
 (.node 83 (.leaf 82 (fun ih n=>Fi (S82 ih n)))
 (.node 84 (.leaf 83 (fun ih n=>Fi (S83 ih n)))
 (.leaf 84 (fun ih n=>Ea (S84 ih n)))))))
 (.node 90 (.node 87 (.node 86 (.leaf 85 (fun ih n=>Ea (S85 ih n)))
 (.leaf 86 (fun ih n=>Ea (S86 ih n))))
 (.node 88 (.leaf 87 (fun ih n=>Ea (S87 ih n)))
 (.node 89 (.leaf 88 (fun ih n=>J7 (S88 ih n)))
 (.leaf 89 (fun ih n=>J7 (S89 ih n))))))
 (.node 93 (.node 91 (.leaf 90 (fun ih n=>J7 (S90 ih n)))
 (.node 92 (.leaf 91 (fun ih n=>J7 (S91 ih n)))
 (.leaf 92 (fun ih n=>J6 (S92 ih n)))))
 (.node 94 (.leaf 93 (fun ih n=>Ea (S93 ih n)))
 (.node 95 (.leaf 94 (fun ih n=>J7 (S94 ih n)))
 (.leaf 95 (fun ih n=>J6 (S95 ih n)))))))))
theorem Asf:dt.Ok EE ft.get :=
 ⟨⟨⟨⟨⟨⟨(fun ih n _ _ _ e=>D9 (F:=Ax EE ih ft.get n 4) (ArY ih n) e),
 (fun ih n _ _ _ e=>W0 (F:=Ax EE ih ft.get n 10) (Anw ih n) e)⟩,
 ⟨(fun ih n _ _ _ e=>BU (F:=Ax EE ih ft.get n 11) (ApT ih n) e),
 ⟨(fun ih n _ _ _ e=>BU (F:=Ax EE ih ft.get n 12) (ApM ih n) e),
 (fun ih n _ _ _ e=>D9 (F:=Ax EE ih ft.get n 13) (An5 ih n) e)⟩⟩⟩,
 ⟨⟨(fun ih n _ _ _ e=>BU (F:=Ax EE ih ft.get n 15) (ApH ih n) e),
 (fun ih n _ _ _ e=>BB (F:=Ax EE ih ft.get n 16) (Anh ih n) e)⟩,
 ⟨(fun ih n _ _ _ e=>BU (F:=Ax EE ih ft.get n 17) (AnP ih n) e),
 ⟨(fun ih n _ _ _ e=>BU (F:=Ax EE ih ft.get n 18) (AoM ih n) e),
 (fun ih n _ _ _ e=>DY (F:=Ax EE ih ft.get n 19) (Aqb ih n) e)⟩⟩⟩⟩,
 ⟨⟨⟨(fun ih n _ _ _ e=>BU (F:=Ax EE ih ft.get n 20) (Aqf ih n) e),
 (fun ih n _ _ _ e=>DY (F:=Ax EE ih ft.get n 21) (AqF ih n) e)⟩,
 ⟨(fun ih n _ _ _ e=>DY (F:=Ax EE ih ft.get n 22) (AmY ih n) e),
 ⟨(fun ih n _ _ _ e=>D9 (F:=Ax EE ih ft.get n 23) (Am9 ih n) e),
 (fun ih n _ _ _ e=>BB (F:=Ax EE ih ft.get n 24) (ApR ih n) e)⟩⟩⟩,
 ⟨⟨(fun ih n _ _ _ e=>DY (F:=Ax EE ih ft.get n 25) (AnY ih n) e),
 (fun ih n _ _ _ e=>BU (F:=Ax EE ih ft.get n 26) (AoO ih n) e)⟩,
 ⟨(fun ih n _ _ _ e=>BU (F:=Ax EE ih ft.get n 27) (AnC ih n) e),
 ⟨(fun ih n _ _ _ e=>BB (F:=Ax EE ih ft.get n 28) (Ao3 ih n) e),
 (fun ih n _ _ _ e=>BU (F:=Ax EE ih ft.get n 29) (AnJ ih n) e)⟩⟩⟩⟩⟩,
 ⟨⟨⟨⟨(fun ih n _ _ _ e=>BB (F:=Ax EE ih ft.get n 33) (Apb ih n) e),
 (fun ih n _ _ _ e=>BB (F:=Ax EE ih ft.get n 34) (AoS ih n) e)⟩,
 ⟨(fun ih n _ _ _ e=>D9 (F:=Ax EE ih ft.get n 35) (Ap2 ih n) e),
 ⟨(fun ih n _ _ _ e=>BU (F:=Ax EE ih ft.get n 36) (Aon ih n) e),
 (fun ih n _ _ _ e=>BB (F:=Ax EE ih ft.get n 37) (AnH ih n) e)⟩⟩⟩,
 ⟨⟨(fun ih n _ _ _ e=>BU (F:=Ax EE ih ft.get n 38) (ApP ih n) e),
 (fun ih n _ _ _ e=>BU (F:=Ax EE ih ft.get n 39) (AnK ih n) e)⟩,
 ⟨(fun ih n _ _ _ e=>BB (F:=Ax EE ih ft.get n 40) (Ann ih n) e),
 ⟨(fun ih n _ _ _ e=>D9 (F:=Ax EE ih ft.get n 41) (ApE ih n) e),
 (fun ih n _ _ _ e=>DY (F:=Ax EE ih ft.get n 42) (Apg ih n) e)⟩⟩⟩⟩,
 ⟨⟨⟨(fun ih n _ _ _ e=>BB (F:=Ax EE ih ft.get n 43) (Aqw ih n) e),
 (fun ih n _ _ _ e=>W0 (F:=Ax EE ih ft.get n 44) (Aqa ih n) e)⟩,
 ⟨(fun ih n _ _ _ e=>BU (F:=Ax EE ih ft.get n 45) (AnB ih n) e),
 ⟨(fun ih n _ _ _ e=>BB (F:=Ax EE ih ft.get n 46) (AnN ih n) e),
 (fun ih n _ _ _ e=>D9 (F:=Ax EE ih ft.get n 47) (Ani ih n) e)⟩⟩⟩,
 ⟨⟨(fun ih n _ _ _ e=>D9 (F:=Ax EE ih ft.get n 48) (AqC ih n) e),
 ⟨(fun ih n _ _ _ e=>D9 (F:=Ax EE ih ft.get n 49) (AqH ih n) e),
 (fun ih n _ _ _ e=>DY (F:=Ax EE ih ft.get n 50) (AoP ih n) e)⟩⟩,
 ⟨(fun ih n _ _ _ e=>BB (F:=Ax EE ih ft.get n 51) (Ape ih n) e),
 ⟨(fun ih n _ _ _ e=>DY (F:=Ax EE ih ft.get n 52) (AoY ih n) e),
 (fun ih n _ _ _ e=>D9 (F:=Ax EE ih ft.get n 53) (Anp ih n) e)⟩⟩⟩⟩⟩⟩,
 ⟨⟨⟨⟨⟨(fun ih n _ _ _ e=>BB (F:=Ax EE ih ft.get n 54) (App ih n) e),
 (fun ih n _ _ _ e=>BU (F:=Ax EE ih ft.get n 55) (An1 ih n) e)⟩,
 ⟨(fun ih n _ _ _ e=>BU (F:=Ax EE ih ft.get n 56) (Aoi ih n) e),
 ⟨(fun ih n _ _ _ e=>BB (F:=Ax EE ih ft.get n 57) (Aqu ih n) e),
 (fun ih n _ _ _ e=>BB (F:=Ax EE ih ft.get n 58) (Aqi ih n) e)⟩⟩⟩,
 ⟨⟨(fun ih n _ _ _ e=>BB (F:=Ax EE ih ft.get n 59) (Aoc ih n) e),
 (fun ih n _ _ _ e=>D9 (F:=Ax EE ih ft.get n 60) (Apr ih n) e)⟩,
 ⟨(fun ih n _ _ _ e=>BU (F:=Ax EE ih ft.get n 61) (Aqs ih n) e),
 ⟨(fun ih n _ _ _ e=>BB (F:=Ax EE ih ft.get n 62) (Aqh ih n) e),
 (fun ih n _ _ _ e=>BU (F:=Ax EE ih ft.get n 63) (AoB ih n) e)⟩⟩⟩⟩,
 ⟨⟨⟨(fun ih n _ _ _ e=>W0 (F:=Ax EE ih ft.get n 64) (Apf ih n) e),
 (fun ih n _ _ _ e=>DY (F:=Ax EE ih ft.get n 65) (ApL ih n) e)⟩,
 ⟨(fun ih n _ _ _ e=>D9 (F:=Ax EE ih ft.get n 66) (Aqo ih n) e),
 ⟨(fun ih n _ _ _ e=>BU (F:=Ax EE ih ft.get n 67) (AnM ih n) e),
 (fun ih n _ _ _ e=>BU (F:=Ax EE ih ft.get n 68) (AoT ih n) e)⟩⟩⟩,
 ⟨⟨(fun ih n _ _ _ e=>DY (F:=Ax EE ih ft.get n 69) (Ap0 ih n) e),
 ⟨(fun ih n _ _ _ e=>BU (F:=Ax EE ih ft.get n 70) (ApA ih n) e),
 (fun ih n _ _ _ e=>BU (F:=Ax EE ih ft.get n 71) (Ao2 ih n) e)⟩⟩,
 ⟨(fun ih n _ _ _ e=>BB (F:=Ax EE ih ft.get n 72) (Aoq ih n) e),
 ⟨(fun ih n _ _ _ e=>BB (F:=Ax EE ih ft.get n 73) (AnR ih n) e),
 (fun ih n _ _ _ e=>BB (F:=Ax EE ih ft.get n 74) (Aqv ih n) e)⟩⟩⟩⟩⟩,
 ⟨⟨⟨⟨(fun ih n _ _ _ e=>BB (F:=Ax EE ih ft.get n 75) (AnU ih n) e),
 (fun ih n _ _ _ e=>BB (F:=Ax EE ih ft.get n 76) (An0 ih n) e)⟩,
 ⟨(fun ih n _ _ _ e=>BU (F:=Ax EE ih ft.get n 77) (Aod ih n) e),
 ⟨(fun ih n _ _ _ e=>BB (F:=Ax EE ih ft.get n 78) (AqB ih n) e),
 (fun ih n _ _ _ e=>BB (F:=Ax EE ih ft.get n 79) (AoH ih n) e)⟩⟩⟩,
 ⟨⟨(fun ih n _ _ _ e=>BB (F:=Ax EE ih ft.get n 80) (ApV ih n) e),
 (fun ih n _ _ _ e=>D9 (F:=Ax EE ih ft.get n 81) (Aqz ih n) e)⟩,
 ⟨(fun ih n _ _ _ e=>BU (F:=Ax EE ih ft.get n 82) (Ao9 ih n) e),
 ⟨(fun ih n _ _ _ e=>BU (F:=Ax EE ih ft.get n 83) (ApB ih n) e),
 (fun ih n _ _ _ e=>BB (F:=Ax EE ih ft.get n 84) (Aof ih n) e)⟩⟩⟩⟩,
 ⟨⟨⟨(fun ih n _ _ _ e=>BB (F:=Ax EE ih ft.get n 85) (Aov ih n) e),
 (fun ih n _ _ _ e=>BB (F:=Ax EE ih ft.get n 86) (Aou ih n) e)⟩,
 ⟨(fun ih n _ _ _ e=>BB (F:=Ax EE ih ft.get n 87) (AnD ih n) e),
 ⟨(fun ih n _ _ _ e=>DY (F:=Ax EE ih ft.get n 88) (Aol ih n) e),
 (fun ih n _ _ _ e=>DY (F:=Ax EE ih ft.get n 89) (Aqq ih n) e)⟩⟩⟩,
 ⟨⟨(fun ih n _ _ _ e=>DY (F:=Ax EE ih ft.get n 90) (Aqx ih n) e),
 ⟨(fun ih n _ _ _ e=>DY (F:=Ax EE ih ft.get n 91) (Aqk ih n) e),
 (fun ih n _ _ _ e=>D9 (F:=Ax EE ih ft.get n 92) (Ap9 ih n) e)⟩⟩,
 ⟨(fun ih n _ _ _ e=>BB (F:=Ax EE ih ft.get n 93) (Ane ih n) e),
 ⟨(fun ih n _ _ _ e=>DY (F:=Ax EE ih ft.get n 94) (Aoo ih n) e),
 (fun ih n _ _ _ e=>D9 (F:=Ax EE ih ft.get n 95) (AoZ ih n) e)⟩⟩⟩⟩⟩⟩⟩
theorem An8:∀n f args h x,SS dt n f args h=some x→run EE n f args h=some x:=ArL AsK Asf
end
end Idl
end Go.Proofs.Ytaifgaidaglblaa

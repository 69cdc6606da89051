/-
  Texts of a proof, part 9: an ideal semantics of the program, its functions in shallow form, contracts of them. No statement of the seat is proved here.
-/
import Derived.Test.YtaifgaidaglblaaEqualEtaK8
set_option linter.all false
noncomputable section
set_option maxRecDepth 100000
set_option linter.unusedVariables false
namespace Go.Proofs.Ytaifgaidaglblaa
namespace Idl
noncomputable section
def Rj (a:IV) (b:Hp) (c:IV):OH :=
 AE a fun d=>Ac 4 d fun e=>BB e c b fun f _ _=>An [a] f
def Uc (c:IV) (d:Hp) (a b:IV):OH :=
 BA [.fv (.nilf)] [(0,1,c)] fun e=>Ay (Ca EE 100 a (.fv (.int .i64 30)) e) 67110933 d fun _ f _ _=>Ay (val (CS (.func 76) [b] [])) 67110935 f fun g h _ _=>BA [.fv (.nilf)] [(0,1,g)] fun i=>Ay (Ca EE 100 a (.fv (.int .i64 19)) i) 67110937 h fun _ j _ _=>Rj b j a
def Sd (c:Hp) (a d b:IV):OH :=
 Ay (Ca EE 100 a (.fv (.int .i64 9)) d) 67110925 c fun _ e _ _=>Ay (val (CS (.func 74) [b] [])) 67110927 e fun f g _ _=>BA [.fv (.nilf)] [(0,1,f)] fun h=>Ay (Ca EE 100 a (.fv (.int .i64 13)) h) 67110929 g fun _ i _ _=>Ay (val (CS (.func 75) [b] [])) 67110931 i fun j k _ _=>Uc j k a b
def Yh (c:Hp) (a b:IV):OH :=
 Ay (val (CS (.func 73) [a] [])) 67110919 c fun d e _ _=>BA [.fv (.nilf)] [(0,1,d)] fun f=>Ay (Ca EE 100 b (.fv (.int .i64 8)) f) 67110921 e fun _ g _ _=>Ay (val (CS (.func 73) [a] [])) 67110923 g fun h i _ _=>BA [.fv (.nilf)] [(0,1,h)] fun j=>Sd i b j a
def S64 (k:Aa) (n:Nat) (c:Hp):OH :=
 BA [.fv (.int .i64 0),.fv (.int .i64 0),.fv (.int .i64 0),.fv (.int .i64 0),.dead] [(0,1,.fv (.int .i64 100000)),(1,1,.fv (.int .i64 5000000))] fun d=>A4 67109889 d c fun a e _ _=>Ay (GX 67110913) 67110913 e fun b f _ _=>Ay (val (CS (.func 72) [a] [])) 67110915 f fun g h _ _=>BA [.fv (.nilf)] [(0,1,g)] fun i=>Ay (Ca EE 100 b (.fv (.int .i64 5)) i) 67110917 h fun _ j _ _=>Yh j a b
theorem Aql (a:Aa) (n:Nat) (b:Hp):Az EE a ft.get n 64 [] b=S64 a n b:=by kernel_rfl
def NU (b:IV) (a:Hp) (c:Aa) (d:IV):OH :=
 Ac 1 b fun e=>Af e a fun f _=>Al [] false false c 78 [d,f] a fun g h _ _=>An [g] h
def NO (h:IV) (i j:Hp) (a b c d e f:IV) (k:List IV→Hp→OH):OH :=
 BC EE 3 h (.fv (.int .i64 1)) fun g=>Bg (i.own.map (·.1)) [68166659] [a,b,c,d,e,f,g] j fun l=>k [a,b,c,d,e,f,g] l
def NT (a:Aa) (b:Hp) (c d e:IV) (f:AF) (g h:IV) (i:Hp→OH):OH :=
 Al [true,false,false] false false a 65 [c,d,e] b fun j k l m=>Ad [(f,[])] l m (A7 1 g h fun n=>BB n j k fun o p q=>Ad [] p q (i o))
def Om (c:IV) (a:Hp) (d:IV) (e:Aa) (f g h:IV) (i:Hp→OH):OH :=
 Ac 2 c fun j=>Af j a fun k b=>Ad [] b [] (Aj 3 d a fun l m=>Ad [(b,[])] m [] (NT e a f g l b k h i))
def Oj (a:Hp) (f:IV) (b:Aa) (c g h i j:IV) (d:Hp→OH):OH :=
 Af f a fun k _=>Al [] false false b 79 [k,c] a fun l e _ _=>A5 EE 3 l (.fv (.int .i64 0)) fun m=>Am m (AE g fun n=>Om n e h b i j c d) (d e)
def NG (d a:IV) (b:Hp) (e:IV) (f:Aa) (g h i:IV) (j:Hp→OH):OH :=
 A7 3 d a fun k=>Aj 3 k b fun l _=>AH 68166659 (.row [.fv (.int .i64 0),.fv (.int .i64 0),.nils] false) (.ptr (.own 68166659) 0) b fun c m _ _=>Ak 3 c l m fun n _ _=>Ac 0 e fun o=>Oj n o f a g c h i j
def NL (c:IV) (a:Hp) (b:IV) (d:Aa) (e:IV):OH :=
 Ac 3 c fun f=>Af f a fun g _=>Hg EE 37 g (.fv (.int .i64 0)) fun h=>Am h (An [b] a) (Al [true,false] false false d 80 [e,b] a fun i j _ _=>An [i] j)
def Od (j:List IV) (k:Hp) (a d e b f:IV) (l:List IV→Hp→OH) (g:Hp) (h:Aa):OH :=
 Aw j fun i m=>Aw m fun c _=>GV EE 3 c i fun n=>Am n ((fun (o:Hp→OH)=>NG f c g e h b a d o) fun p=>NO c k p a d e b f i l) (AE a fun q=>NL q g b h a)
def YS (a:List IV) (b:Hp) (c:List IV→Hp→OH) (d:Hp) (e:Aa):OH :=
 Aw a fun f g=>Aw g fun h i=>Aw i fun j k=>Aw k fun l m=>Aw m fun n o=>Od o b f h j l n c d e
def Of (a:IV) (b h:Hp) (c d e f:IV) (n:Nat) (i:Aa):OH :=
 BP a fun g=>Bg (b.own.map (·.1)) [68166659] [c,d,e,f,a,g,.fv (.int .i64 0)] h fun j=>BE n (fun k l m=>YS l b k m i) [c,d,e,f,a,g,.fv (.int .i64 0)] j
def NV (d:IV) (a:Hp) (b c:IV) (e:Hp) (f g:IV) (n:Nat) (h:Aa):OH :=
 Hg EE 37 d (.fv (.int .i64 0)) fun i=>Am i (An [b] a) (Ac 2 c fun j=>Af j a fun k _=>Of k e a f g c b n h)
def NH (c:Hp) (d a e:IV) (f:Hp) (g:IV) (n:Nat) (h:Aa):OH :=
 A4 68161547 d c fun i b j k=>Ad [] j k (AE a fun l=>Ac 3 l fun m=>Af m b fun o _=>NV o b i e f a g n h)
def NE (i:Hp) (a:IV) (b c:AF) (d:IV) (j:AF) (k l e m:IV) (o:Hp) (n:Nat) (p:Aa):OH :=
 Ay (Bn EE 68161543 110 a a) 68161543 i fun q f g h=>Ad [(b,[]),(c,[])] g h (Aj 3 d f fun r s=>Ad [(g,h),(j,[]),(b,[]),(c,[])] s [] (BA [.fv (.int .i64 0),.fv (.int .i64 0),.nils,.fv (.int .i64 0),.fv (.int .i64 0),.nils,.fv (.nilp)] [(0,1,k),(1,1,l),(2,1,q),(3,3,r),(6,1,e)] fun t=>NH f t m d o e n p))
def NB (a b:AF) (c:IV) (d:Hp) (f g h i:IV) (j:Hp) (n:Nat) (k:Aa):OH :=
 Ad [(b,[])] a [] (Ac 2 c fun l=>Af l d fun m e=>Ad [(a,[]),(b,[])] e [] (BP m fun o=>NE d o a b c e f g h i j n k))
def Oe (a:IV) (b:Hp) (d e:IV) (f:Hp) (n:Nat) (g:Aa):OH :=
 Ac 0 a fun h=>Af h b fun i c=>Ad [] c [] (Ac 1 a fun j=>Af j b fun k l=>NB l c a b i k d e f n g)
def S65 (a:Aa) (n:Nat) (d e g:IV) (f:Hp):OH :=
 A4 68157440 g f fun b h _ _=>Al [true] false false a 77 [d] h fun _ c _ _=>Ac 0 b fun i=>Af i c fun j _=>A5 EE 3 j (.fv (.int .i64 1)) fun k=>Am k (NU b c a e) (Oe b c e d f n a)
theorem Aps (a:Aa) (n:Nat) (b c d:IV) (e:Hp):Az EE a ft.get n 65 [b,c,d] e=S65 a n b c d e:=by kernel_rfl
def D6 (a:Hp) (b:IV):OH :=
 AA true 3 b a fun c=>An [c] a
def DS (c:Hp) (a d:IV):OH :=
 Ak 3 a d c fun b _ _=>AA true 3 a b fun e=>An [e] b
def D3 (b:IV) (a:Hp) (c d:IV):OH :=
 AE b fun e=>Ac 1 e fun f=>Af f a fun g _=>Be EE 3 c g fun h=>BA [.fv (.int .i64 0),.fv (.int .i64 0),.nils] [(0,1,.fv (.int .i64 1)),(1,1,h)] fun i=>DS a d i
def Dw (c:Hp) (a:IV):OH :=
 BA [.fv (.int .i64 0),.fv (.int .i64 0),.nils] [] fun d=>Ak 3 a d c fun b _ _=>AA true 3 a b fun e=>An [e] b
def DH (i:IV) (j k:Hp) (a b c d e f g:IV) (l:List IV→Hp→OH):OH :=
 BC EE 3 i (.fv (.int .i64 1)) fun h=>Bg (j.own.map (·.1)) [69221377,69225478] [a,b,c,d,e,f,g,h] k fun m=>l [a,b,c,d,e,f,g,h] m
def DD (a e b:IV) (f:Aa) (g:Hp) (c h d i j:IV) (k:Hp) (l m n:IV) (o:List IV→Hp→OH):OH :=
 BC EE 3 a e fun p=>BC EE 3 b (.fv (.int .i64 1)) fun q=>Al [true,false,false,false] false false f 66 [c,h,p,q] g fun r s _ _=>A7 3 d i fun t=>Ak 3 t r s fun u _ _=>DH j k u c l a b m d n o
def CN (b:IV) (a:Hp) (c d e f:IV) (g:Aa) (h i j k:IV) (l:Hp) (m n:IV) (o:List IV→Hp→OH):OH :=
 AE b fun p=>Ac 3 p fun q=>Af q a fun r _=>Hg EE 37 r (.fv (.int .i64 0)) fun s=>Am s (Dw a c) (DD d e f g a b h i j k l m c n o)
def DX (n:IV) (o p:Hp) (a b c d e f g h i j k l:IV) (q:List IV→Hp→OH):OH :=
 BC EE 3 n (.fv (.int .i64 1)) fun m=>Bg (o.own.map (·.1)) [69225478] [a,b,c,d,e,f,g,h,i,j,k,l,m] p fun r=>q [a,b,c,d,e,f,g,h,i,j,k,l,m] r
def DM (b a:IV) (e:Hp) (c:IV) (f:Hp) (g h i j k l m n o p:IV) (q:List IV→Hp→OH):OH :=
 BC EE 3 b a fun r=>BA [.fv (.int .i64 0),.fv (.int .i64 0),.nils,.fv (.int .i64 0),.fv (.int .i64 0),.nils,.fv (.nilp)] [(0,1,.fv (.int .i64 1)),(1,1,r)] fun d=>fzS (K3 true 69225478 d) 69225478 d e fun s t _ _=>A7 1 c a fun u=>BB u s t fun v _ _=>DX a f v g h b i j k l m c n o p q
def Dz (d:Aa) (e:Hp) (a b c f:IV) (g:IV→IV→IV→IV→IV→IV→IV→IV→IV→IV→IV→Hp→OH) (h i j k l m n:IV):OH :=
 Al [true,false,false,false] false false d 81 [a,b,c,f] e fun o p _ _=>g a b h i j k c o l m n p
def DV (o:List IV) (a:IV) (b:Hp) (c:IV) (p:Hp) (d e f g h i j k:IV) (q:List IV→Hp→OH) (r:Aa) (s:IV→IV→IV→IV→IV→IV→IV→IV→IV→IV→IV→Hp→OH):OH :=
 Aw o fun l t=>Aw t fun m u=>Aw u fun n _=>GV EE 3 n m fun v=>Am v (DM a n b c p d e f g h i j k l m q) (Dz r b d e i c s a f g h j k l)
def Dr (a:List IV) (b:IV) (c d:Hp) (e f g h:IV) (i:List IV→Hp→OH) (j:Aa) (k:IV→IV→IV→IV→IV→IV→IV→IV→IV→IV→IV→Hp→OH):OH :=
 Aw a fun l m=>Aw m fun n o=>Aw o fun p q=>Aw q fun r s=>Aw s fun t u=>DV u b c r d e f g h l n p t i j k
def Fx (a:List IV) (b c:Hp) (d:List IV→Hp→OH) (e:Aa) (f:IV→IV→IV→IV→IV→IV→IV→IV→IV→IV→IV→Hp→OH):OH :=
 Aw a fun g h=>Aw h fun i j=>Aw j fun k l=>Aw l fun m n=>Aw n fun o p=>Dr p k b c g i m o d e f
def Dy (b m:Hp) (c d e f g h a i j k l:IV) (n:Nat) (o:Aa) (p:IV→IV→IV→IV→IV→IV→IV→IV→IV→IV→IV→Hp→OH):OH :=
 Bg (b.own.map (·.1)) [69225478] [c,d,e,f,g,h,a,i,j,k,a,l,.fv (.int .i64 0)] m fun q=>BE n (fun r s t=>Fx s t b r o p) [c,d,e,f,g,h,a,i,j,k,a,l,.fv (.int .i64 0)] q
def DG (m:IV) (c:Hp) (a:IV) (o:Hp) (d e f g h i b j:IV) (n:Nat) (p:Aa) (k:IV→IV→IV→IV→IV→IV→IV→IV→IV→IV→IV→Hp→OH) (q:IV):OH :=
 Am m (Ay (Bn EE 69221377 110 a a) 69221377 c fun l r _ _=>BP l fun s=>Dy o r d e f g h i b a l j s n p k) (k d e f g h i b q a j b c)
def Dm (g b c:AF) (a:Aa) (h:Hp) (i d:IV) (e:Hp) (j:List IV→Hp→OH) (k l m o p q r:IV) (n:Nat) (s:IV):OH :=
 Ad [(b,[]),(c,[])] g [] (Al [] false false a 79 [i,d] h fun f t u v=>Ad [(b,[]),(c,[])] u v ((fun (w:IV→IV→IV→IV→IV→IV→IV→IV→IV→IV→IV→Hp→OH)=>Nb EE 3 f (.fv (.int .i64 0)) fun x=>DG x t f e k l m o p q d r n a w s) fun y z A B C D E F G H I J=>CN y J C A G B a F D E I e z H j))
def Dl (a:Hp) (d b:IV) (e:AF) (f:Aa) (g:IV) (h:Hp) (i:List IV→Hp→OH) (j k l m o p:IV) (n:Nat):OH :=
 Af d a fun q c=>Ad [] c [] (AE b fun r=>Ac 0 r fun s=>Af s a fun t u=>Dm u c e f a t g h i j b k l m o p n q)
def DI (a:IV) (b:Hp) (c:IV) (e:Aa) (f:Hp) (g:List IV→Hp→OH) (h i j k l m:IV) (n:Nat):OH :=
 AE a fun o=>Ac 2 o fun p=>Af p b fun q d=>Ad [] d [] (A7 1 q c fun r=>Dl b r a d e c f g h i j k l m n)
def DJ (b c:AF) (a:Hp) (d:IV):OH :=
 Ad [] b c (AA true 3 d a fun e=>An [e] a)
def DL (c:IV) (a:Hp) (d:AF) (e f b:IV):OH :=
 Ac 1 c fun g=>Af g a fun h i=>Ad [(d,[])] i [] (BA [.fv (.int .i64 0),.fv (.int .i64 0),.nils] [(0,1,e),(1,1,h),(2,1,f)] fun j=>Ak 3 b j a fun k l m=>DJ l m k b)
def DU (a:IV) (b:Hp) (d e:IV):OH :=
 AE a fun f=>Ac 0 f fun g=>Af g b fun h c=>Ad [] c [] (AE a fun i=>DL i b c h d e)
def DN (g:List IV) (a:IV) (b:Hp) (h:Aa) (i:Hp) (j:List IV→Hp→OH) (k l m c:IV) (n:Nat):OH :=
 Aw g fun d o=>Aw o fun e p=>Aw p fun f _=>GV EE 3 f e fun q=>Am q (DI a b f h i j k l m c d e n) (DU a b d c)
def FD (a:List IV) (b:Hp) (c:Aa) (d:Hp) (e:List IV→Hp→OH) (n:Nat):OH :=
 Aw a fun f g=>Aw g fun h i=>Aw i fun j k=>Aw k fun l m=>Aw m fun o p=>DN p h b c d e f j l o n
def Do (a i:Hp) (b c d e f g h:IV) (n:Nat) (j:Aa):OH :=
 Bg (a.own.map (·.1)) [69221377,69225478] [b,c,d,e,f,g,h,.fv (.int .i64 0)] i fun k=>BE n (fun l m o=>FD m o j a l n) [b,c,d,e,f,g,h,.fv (.int .i64 0)] k
def Dn (d:IV) (a e:Hp) (f g h i j:IV) (n:Nat) (k:Aa):OH :=
 Ac 2 d fun l=>Af l a fun m _=>BP m fun b=>Ay (Bn EE 69215237 29 b b) 69215237 a fun c o _ _=>BP c fun p=>Do e o f g h i j c p n k
def DR (a:Hp) (e c b d:IV) (f:Hp) (g h:IV) (n:Nat) (i:Aa):OH :=
 Af e a fun j _=>A5 EE 3 j (.fv (.int .i64 1)) fun k=>Am k (Be EE 3 c (.fv (.int .i64 1)) fun l=>D3 b a l d) (AE b fun m=>Dn m a f g b c h d n i)
def Dt (d:IV) (b:Hp) (a c e:IV) (f:Hp) (g h:IV) (n:Nat) (i:Aa):OH :=
 Am d (BA [.fv (.int .i64 0),.fv (.int .i64 0),.nils] [] fun j=>Ak 3 a j b fun k _ _=>D6 k a) (AE c fun l=>Ac 0 l fun m=>DR b m e c a f g h n i)
def Fr (b:Aa) (d:Hp) (a e f g:IV) (h:Hp) (i:IV) (n:Nat):OH :=
 Al [true] false false b 77 [a] d fun _ c _ _=>AE a fun j=>Ac 3 j fun k=>Af k c fun l _=>Hg EE 37 l (.fv (.int .i64 0)) fun m=>Dt m c e f g h a i n b
def Dx (a:IV) (b:Hp) (c:Hp→OH):OH :=
 Ac 3 a fun d=>BB d (.fv (.int .i64 5)) b fun e _ _=>c e
def DQ (a:Hp) (b e f g:IV) (c:Hp→OH):OH :=
 Ab b true a (fun h=>AG e (.fv (.bool true)) f fun i=>h i a [] []) fun j d _ _=>AG b j (.fv (.bool false)) fun k=>Am k (AE g fun l=>Dx l d c) (c d)
def Dk (b:Hp) (a h i j:IV) (k:Hp→OH):OH :=
 Ab a true b (fun l=>Af h b fun m n=>l m b n []) fun o d _ _=>Ab a true d (fun p=>Nb EE 3 o (.fv (.int .i64 3000)) fun q=>p q d [] []) fun r e _ _=>Ab a true e (fun s=>s r e [] []) fun c f _ _=>Ab c false f (fun t=>t i f [] []) fun u g _ _=>Ab c false g (fun v=>Nb EE 3 u (.fv (.int .i64 120)) fun w=>v w g [] []) fun x y _ _=>DQ y a c x j k
def DO (b:Hp) (f c g:IV) (h:Hp→OH):OH :=
 Af f b fun i _=>A5 EE 37 i (.fv (.int .i64 0)) fun a=>Ab a true b (fun j=>j c b [] []) fun k d _ _=>Ab a true d (fun l=>AE k fun m=>l m d [] []) fun n e _ _=>Ab a true e (fun o=>Ac 2 n fun p=>o p e [] []) fun q r _ _=>Dk r a q g c h
def DP (a:IV) (b:Hp) (c d:IV) (e:Hp→OH):OH :=
 AE a fun f=>Ac 2 f fun g=>BB g c b fun h _ _=>AE a fun i=>Ac 3 i fun j=>DO h j a d e
def S66 (e:Aa) (n:Nat) (a f g b:IV) (c:Hp):OH :=
 AH 69206016 (.row [.fv (.int .i64 0),.fv (.int .i64 0),.nils] false) (.ptr (.own 69206016) 0) c fun h d _ _=>(fun (i:Hp→OH)=>AE a fun j=>Ac 2 j fun k=>Af k d fun l _=>BC EE 3 l (.fv (.int .i64 1)) fun m=>DP a d m b i) fun o=>Fr e o a h f g c b n
theorem AoX (a:Aa) (n:Nat) (b c d e:IV) (f:Hp):Az EE a ft.get n 66 [b,c,d,e] f=S66 a n b c d e f:=by kernel_rfl
def AnQ (a b:IV) (h:Hp) (i:IV) (j:Hp) (c d e f:IV) (k:List IV→Hp→OH):OH :=
 A7 3 a b fun l=>Ak 3 l i h fun m _ _=>BC EE 3 b (.fv (.int .i64 1)) fun g=>Bg (j.own.map (·.1)) [70258691] [c,d,a,e,f,g] m fun n=>k [c,d,a,e,f,g] n
def Am4 (a:Hp) (d:IV) (e:Aa) (f g:IV) (h:Hp) (i j k l:IV) (m:List IV→Hp→OH):OH :=
 Aj 3 d a fun n _=>AH 70258691 (.row [.fv (.int .i64 0),.fv (.int .i64 0),.nils] false) (.ptr (.own 70258691) 0) a fun b o _ _=>Ak 3 b n o fun c _ _=>Aj 3 b c fun p _=>Al [] false false e 67 [p] c fun q r _ _=>AnQ f g r q h i j k l m
def Ap9 (a:Hp) (b:IV):OH :=
 AA true 3 b a fun c=>An [c] a
def AoH (a:Hp) (c d e b:IV):OH :=
 Af c a fun f _=>Ac 1 d fun g=>Af g a fun h _=>BA [.fv (.int .i64 0),.fv (.int .i64 0),.nils] [(0,1,f),(1,1,h),(2,1,e)] fun i=>Ak 3 b i a fun j _ _=>Ap9 j b
def Am6 (h:List IV) (c d:IV) (e:Hp) (i:Aa) (f:IV) (j:Hp) (a g:IV) (k:List IV→Hp→OH):OH :=
 Aw h fun b _=>GV EE 3 b c fun l=>Am l (A7 3 d b fun m=>Am4 e m i f b j a g d c k) (Ac 0 a fun n=>AoH e n a f g)
def An6 (a:List IV) (b:Hp) (c:Aa) (d:Hp) (e:List IV→Hp→OH):OH :=
 Aw a fun f g=>Aw g fun h i=>Aw i fun j k=>Aw k fun l m=>Aw m fun n o=>Am6 o n l b c j d f h e
def AoF (a:IV) (c d:Hp) (e f:IV) (n:Nat) (h:Aa):OH :=
 Ac 2 a fun i=>Af i c fun b _=>BP b fun g=>Bg (d.own.map (·.1)) [70258691] [a,e,f,b,g,.fv (.int .i64 0)] c fun j=>BE n (fun k l m=>An6 l m h d k) [a,e,f,b,g,.fv (.int .i64 0)] j
def S67 (e:Aa) (n:Nat) (f:IV) (a:Hp):OH :=
 A4 70254592 f a fun b g _ _=>AH 70254593 (.row [.fv (.int .i64 0),.fv (.int .i64 0),.nils] false) (.ptr (.own 70254593) 0) g fun h c _ _=>Ac 2 b fun i=>Af i c fun j _=>BP j fun d=>Ay (Bn EE 70255619 29 d d) 70255619 c fun k l _ _=>AoF b l a h k n e
theorem AmC (a:Aa) (n:Nat) (b:IV) (c:Hp):Az EE a ft.get n 67 [b] c=S67 a n b c:=by kernel_rfl
def JB (h a:IV) (i:Hp) (j:IV) (k:Hp) (b c d e f:IV) (l:List IV→Hp→OH):OH :=
 A7 3 h a fun m=>Ak 3 m j i fun n o p=>Ad [] o p (BC EE 3 a (.fv (.int .i64 1)) fun g=>Bg (k.own.map (·.1)) [71307267] [b,c,d,e,f,g] n fun q=>l [b,c,d,e,f,g] q)
def IR (a:AF) (b:Hp) (c:IV) (d:Aa) (e f:IV) (g:Hp) (h i j k l:IV) (m:List IV→Hp→OH):OH :=
 Ad [] a [] (Aj 3 c b fun n o=>Ad [(a,[])] o [] (Al [] false false d 68 [n] b fun p q r s=>Ad [(a,[])] r s (JB e f q p g h i j k l m)))
def ID (a:Hp) (e b:IV) (f:Aa) (g:IV) (h:Hp) (i j k l:IV) (m:List IV→Hp→OH):OH :=
 Aj 3 e a fun n _=>AH 71307267 (.row [.fv (.int .i64 0),.fv (.int .i64 0),.nils] false) (.ptr (.own 71307267) 0) a fun c o _ _=>Ak 3 c n o fun d _ _=>Ac 2 b fun p=>Af p d fun q r=>IR r d c f q g h i j b k l m
def Iu (c:Aa) (d:Hp) (e a:IV):OH :=
 Al [] false false c 82 [e] d fun f g _ _=>Ak 3 a f g fun b _ _=>AA true 3 a b fun h=>An [h] b
def IX (a:Hp) (c d:IV) (e:Aa) (f:IV):OH :=
 Af c a fun g _=>BA [.fv (.int .i64 0),.fv (.int .i64 0),.nils] [(0,1,.fv (.int .i64 11))] fun h=>A7 3 g (.fv (.int .i64 0)) fun i=>Ak 3 i h a fun b _ _=>Aj 3 d b fun j _=>Iu e b j f
def Jd (c:Hp) (a d:IV):OH :=
 Ak 3 a d c fun b _ _=>AA true 3 a b fun e=>An [e] b
def I3 (b:IV) (c:Hp) (d:IV) (e:Aa) (f:IV):OH :=
 BA [.fv (.int .i64 0),.fv (.int .i64 0),.nils] [(0,1,.fv (.int .i64 11))] fun g=>A7 3 b (.fv (.int .i64 0)) fun h=>Ak 3 h g c fun a _ _=>Aj 3 d a fun i _=>Al [] false false e 83 [i] a fun j k _ _=>Jd k f j
def IU (a:Hp) (b:IV):OH :=
 AA true 3 b a fun c=>An [c] a
def Iy (d b:IV) (a:Hp) (e:Aa) (c:IV):OH :=
 Am d (Ac 2 b fun f=>Af f a fun g _=>I3 g a b e c) (Aj 3 b a fun h _=>Ak 3 c h a fun i _ _=>IU i c)
def I6 (a:Hp) (f b:IV) (c:Aa) (d:IV):OH :=
 Af f a fun e _=>A5 EE 3 e (.fv (.int .i64 4)) fun g=>Am g (Ac 2 b fun h=>IX a h b c d) (A5 EE 3 e (.fv (.int .i64 7)) fun i=>Iy i b a c d)
def JG (i:List IV) (b c:IV) (d:Hp) (e:IV) (f:Aa) (j:Hp) (g h:IV) (k:List IV→Hp→OH):OH :=
 Aw i fun a _=>GV EE 3 a b fun l=>Am l (A7 3 c a fun m=>ID d m e f a j g h c b k) (Ac 0 g fun n=>I6 d n e f h)
def KT (a:List IV) (b:Hp) (c:Aa) (d:Hp) (e:List IV→Hp→OH):OH :=
 Aw a fun f g=>Aw g fun h i=>Aw i fun j k=>Aw k fun l m=>Aw m fun n o=>JG o n l b j c d f h e
def Jv (a:IV) (b g:Hp) (c d e:IV) (n:Nat) (h:Aa):OH :=
 BP a fun f=>Bg (b.own.map (·.1)) [71307267] [c,d,e,a,f,.fv (.int .i64 0)] g fun i=>BE n (fun j k l=>KT k l h b j) [c,d,e,a,f,.fv (.int .i64 0)] i
def IY (d e f g h i j:AF) (k:Hp) (a l b:IV) (m:Hp) (o:IV) (n:Nat) (p:Aa):OH :=
 Ad [(f,g),(h,[]),(i,[]),(j,[])] d e (Ak 3 a l k fun c q r=>Ad [] q r (Ac 2 b fun s=>Af s c fun t _=>Jv t m c b o a n p))
def Jo (f:IV) (g:Hp) (a b:AF) (h i:IV) (j:AF) (k:IV) (l:Hp) (m:IV) (n:Nat) (o:Aa):OH :=
 BP f fun c=>Ay (Bn EE 71304199 29 c c) 71304199 g fun p q d e=>Ad [(a,[]),(b,[])] d e (BA [.fv (.int .i64 0),.fv (.int .i64 0),.nils] [(0,1,h),(1,1,i),(2,1,p)] fun r=>AH 71304201 (.row [.fv (.int .i64 0),.fv (.int .i64 0),.nils] false) (.ptr (.own 71304201) 0) q fun s t u v=>IY u v d e j a b t s r k l m n o)
def I7 (a:Hp) (f:IV) (b:AF) (d g:IV) (h:Hp) (i:IV) (n:Nat) (j:Aa):OH :=
 Af f a fun k c=>Ad [(b,[])] c [] (Ac 2 d fun l=>Af l a fun m e=>Ad [(c,[]),(b,[])] e [] (Jo m a c b g k e d h i n j))
def S68 (e:Aa) (n:Nat) (f:IV) (b:Hp):OH :=
 A4 71303168 f b fun a g _ _=>AH 71303169 (.row [.fv (.int .i64 0),.fv (.int .i64 0),.nils] false) (.ptr (.own 71303169) 0) g fun h c _ _=>Ac 0 a fun i=>Af i c fun j d=>Ad [] d [] (Ac 1 a fun k=>I7 c k d a j b h n e)
theorem AoO (a:Aa) (n:Nat) (b:IV) (c:Hp):Az EE a ft.get n 68 [b] c=S68 a n b c:=by kernel_rfl
def MR (g:IV) (a:Hp) (h:IV) (i:Hp) (b c d e:IV) (j:List IV→Hp→OH):OH :=
 Am g (An [.fv (.bool false)] a) (BC EE 3 h (.fv (.int .i64 1)) fun f=>Bg (i.own.map (·.1)) [72356867,72357892] [b,c,d,e,f] a fun k=>j [b,c,d,e,f] k)
def Mg (d:Hp) (b e f:IV) (g:Aa) (c h:IV) (i:Hp) (j k l:IV) (m:List IV→Hp→OH):OH :=
 Ak 3 b e d fun a _ _=>Aj 3 f a fun n _=>Aj 3 b a fun o _=>D8 EE g c [n,o] a fun p q _ _=>CO (L9 .not p) fun r=>MR r q h i j c k l m
def Mi (e:Hp) (f a b:IV) (g:Aa) (h:IV) (i:Hp) (j k:IV) (l:List IV→Hp→OH):OH :=
 AH 72356867 (.row [.fv (.int .i64 0),.fv (.int .i64 0),.nils] false) (.ptr (.own 72356867) 0) e fun c m _ _=>Ak 3 c f m fun d _ _=>A7 3 a b fun n=>Aj 3 n d fun o _=>AH 72357892 (.row [.fv (.int .i64 0),.fv (.int .i64 0),.nils] false) (.ptr (.own 72357892) 0) d fun p q _ _=>Mg q p o c g h b i a j k l
def Mt (a c d:IV) (b:Hp) (e:IV) (f:Aa) (g:IV) (h:Hp) (i:List IV→Hp→OH):OH :=
 GV EE 3 a c fun j=>Am j (A7 3 d a fun k=>Aj 3 k b fun l _=>Mi b l e a f g h d c i) (An [.fv (.bool true)] b)
def Pd (a:List IV) (b:Hp) (c:Aa) (d:Hp) (e:List IV→Hp→OH):OH :=
 Aw a fun f g=>Aw g fun h i=>Aw i fun j k=>Aw k fun l m=>Aw m fun n _=>Mt n l j b f c h d e
def MO (a:Hp) (b c d e:IV) (n:Nat) (f:Aa):OH :=
 Bg (a.own.map (·.1)) [72356867,72357892] [b,c,d,e,.fv (.int .i64 0)] a fun g=>BE n (fun h i j=>Pd i j f a h) [b,c,d,e,.fv (.int .i64 0)] g
def S69 (d:Aa) (n:Nat) (a b e:IV) (c:Hp):OH :=
 BP a fun f=>BP b fun g=>Hg EE 3 f g fun h=>Am h (An [.fv (.bool false)] c) (BP a fun i=>MO c b e a i n d)
theorem AnM (a:Aa) (n:Nat) (b c d:IV) (e:Hp):Az EE a ft.get n 69 [b,c,d] e=S69 a n b c d e:=by kernel_rfl
def X8 (b:IV) (a:Hp):OH :=
 AE b fun c=>Ac 2 c fun d=>Af d a fun e _=>A5 EE 3 e (.fv (.int .i64 0)) fun f=>An [f] a
def WX (a:Hp) (b:IV) (c:Hp→OH):OH :=
 BB b (.fv (.int .i64 17)) a fun d _ _=>c d
def Yl (c d:IV) (a:Hp) (b:Hp→OH):OH :=
 Nb EE 3 c (.fv (.int .i64 1000)) fun e=>Am e (AE d fun f=>Ac 2 f fun g=>WX a g b) (b a)
def W1 (c:Hp) (d e a:IV):OH :=
 BB d e c fun b _ _=>(fun (f:Hp→OH)=>AE a fun g=>Ac 0 g fun h=>Af h b fun i _=>Yl i a b f) fun j=>X8 a j
def S70 (i:Aa) (n:Nat) (a:IV) (b:Hp):OH :=
 AE a fun c=>Ac 0 c fun d=>Af d b fun e _=>BC EE 3 e (.fv (.int .i64 1)) fun f=>AE a fun g=>Ac 0 g fun h=>W1 b h f a
theorem AnR (a:Aa) (n:Nat) (b:IV) (c:Hp):Az EE a ft.get n 70 [b] c=S70 a n b c:=by kernel_rfl
def Ajm (b:IV) (a:Hp):OH :=
 A5 EE 3 b (.fv (.int .i64 13)) fun c=>Am c (An [.fv (.int .i64 4)] a) (An [.fv (.int .i64 (-1))] a)
def Aih (c:IV) (a:Hp) (b:IV):OH :=
 Am c (An [.fv (.int .i64 2)] a) (A5 EE 3 b (.fv (.int .i64 7)) fun d=>Am d (An [.fv (.int .i64 3)] a) (Ajm b a))
def AfY (a:IV) (b:IV→Hp→OH) (c:Hp) (d:IV):OH :=
 Am a (b a c) (A5 EE 3 d (.fv (.int .i64 5)) fun e=>b e c)
def Ahd (c:IV) (b:Hp) (a:IV):OH :=
 Am c (An [.fv (.int .i64 1)] b) ((fun (d:IV→Hp→OH)=>A5 EE 3 a (.fv (.int .i64 4)) fun e=>AfY e d b a) fun f g=>Aih f g a)
def Aid (a:IV) (b:IV→Hp→OH) (c:Hp):OH :=
 A5 EE 3 a (.fv (.int .i64 30)) fun d=>b d c
def Aip (a:IV) (b:IV→Hp→OH) (c:Hp):OH :=
 A5 EE 3 a (.fv (.int .i64 12)) fun d=>Am d (b d c) (A5 EE 3 a (.fv (.int .i64 19)) fun e=>Am e (b e c) (Aid a b c))
def S71 (h:Aa) (n:Nat) (a:IV) (b:Hp):OH :=
 (fun (c:IV→Hp→OH)=>A5 EE 3 a (.fv (.int .i64 8)) fun d=>Am d (c d b) (A5 EE 3 a (.fv (.int .i64 9)) fun e=>Am e (c e b) (Aip a c b))) fun f g=>Ahd f g a
theorem AmR (a:Aa) (n:Nat) (b:IV) (c:Hp):Az EE a ft.get n 71 [b] c=S71 a n b c:=by kernel_rfl
def XO (a:Aa) (b:Hp) (c d e:IV):OH :=
 Al [true,false,false,false] false false a 81 [c,d,.fv (.int .i64 1),e] b fun f g _ _=>An [f] g
def WT (b:IV) (a:Hp) (c:Aa) (d e:IV):OH :=
 Ac 2 b fun f=>Af f a fun g _=>A7 1 g (.fv (.int .i64 1)) fun h=>Af h a fun i _=>Ay (Ah EE 110 1 [(0,i)]) 75500552 a fun j k _ _=>XO c k d e j
def Xd (b:IV) (a:Hp) (c:IV) (d:Aa) (e f:IV):OH :=
 Ac 0 b fun g=>Af g a fun h _=>A5 EE 3 h (.fv (.int .i64 4)) fun i=>Am i (AE c fun j=>WT j a d e f) (An [.fv .nilp] a)
def S72 (d:Aa) (n:Nat) (e b:IV) (a:Hp):OH :=
 AE b fun f=>Ac 2 f fun g=>Af g a fun h _=>A7 1 h (.fv (.int .i64 0)) fun i=>Af i a fun c _=>AE c fun j=>Xd j a b d e c
theorem Aoy (a:Aa) (n:Nat) (b c:IV) (d:Hp):Az EE a ft.get n 72 [b,c] d=S72 a n b c d:=by kernel_rfl
def Sl (b:IV) (a:Hp):OH :=
 Ac 2 b fun c=>Af c a fun d _=>A7 1 d (.fv (.int .i64 1)) fun e=>Af e a fun f _=>An [f] a
def TR (b:IV) (a:Hp):OH :=
 Ac 2 b fun c=>Af c a fun d _=>A7 1 d (.fv (.int .i64 2)) fun e=>Af e a fun f _=>An [f] a
def Rh (c:IV) (a:Hp) (b:IV):OH :=
 Ac 0 c fun d=>Af d a fun e _=>A5 EE 3 e (.fv (.int .i64 8)) fun f=>Am f (AE b fun g=>Sl g a) (AE b fun h=>TR h a)
def SB (b:IV) (a:Hp) (c d:IV):OH :=
 Ac 0 b fun e=>Af e a fun f _=>Hg EE 3 f (.fv (.int .i64 7)) fun g=>Am g (An [.fv .nilp] a) (AE c fun h=>Rh h a d)
def S73 (i:Aa) (n:Nat) (j b:IV) (a:Hp):OH :=
 AE b fun d=>Ac 2 d fun e=>Af e a fun f _=>A7 1 f (.fv (.int .i64 0)) fun g=>Af g a fun c _=>AE c fun h=>SB h a b c
theorem AmS (a:Aa) (n:Nat) (b c:IV) (d:Hp):Az EE a ft.get n 73 [b,c] d=S73 a n b c d:=by kernel_rfl
def Sj (b:IV) (a:Hp):OH :=
 Ac 2 b fun c=>Af c a fun d _=>A7 1 d (.fv (.int .i64 1)) fun e=>Af e a fun f _=>An [f] a
def Va (a:Hp) (b c:IV) (d:Aa) (e f:IV):OH :=
 Ay (Ah EE 110 2 [(0,b),(1,c)]) 77602826 a fun g h i j=>Ad [] i j (Al [true,false,false,false] false false d 81 [e,f,.fv (.int .i64 2),g] h fun k l m n=>Ad [] m n (An [k] l))
def Sq (e:IV) (a:Hp) (b:Aa) (c f:IV) (g:AF) (h:IV):OH :=
 A7 1 e (.fv (.int .i64 0)) fun i=>Af i a fun j d=>Ad [] d [] (Al [true,false] false false b 80 [c,f] a fun k l m n=>Ad [(d,[]),(g,[])] m n (Va l j k b c h))
def SF (c d:AF) (e:IV) (a:Hp) (f:Aa) (g h i:IV):OH :=
 Ad [] c d (AE e fun j=>Ac 2 j fun k=>Af k a fun l b=>Ad [] b [] (Sq l a f g h b i))
def Tz (b c d:AF) (e:Hp) (f g a h:IV) (i:Aa) (j k:IV):OH :=
 Ad [(c,[]),(d,[])] b [] (Ay (Ah EE 110 4 [(0,.fv .nilp),(1,f),(2,.fv .nilp),(3,g)]) 77601804 e fun l m n o=>Ad [] n o (Ac 2 a fun p=>BB p l m fun q r s=>SF r s h q i j a k))
def Tt (d:IV) (a:Hp) (b c:AF) (e f g:IV) (h:Aa) (i j:IV):OH :=
 Ac 2 d fun k=>Af k a fun l m=>Ad [(b,[]),(c,[])] m [] (A7 1 l (.fv (.int .i64 0)) fun n=>Af n a fun o p=>Tz p b c a e o f g h i j)
def Su (a:AF) (e:IV) (b:Hp) (c f:IV) (g:Aa) (h i:IV):OH :=
 Ad [] a [] (A7 1 e (.fv (.int .i64 1)) fun j=>Af j b fun k d=>Ad [] d [] (AE c fun l=>Tt l b d a k f c g h i))
def Sy (d:Hp) (e a f:IV) (g:Aa) (h:IV):OH :=
 AH 77600771 (.row [.fv (.int .i64 0),.fv (.int .i64 0),.nils,.fv (.int .i64 0),.fv (.int .i64 0),.nils,.fv (.nilp)] false) (.ptr (.own 77600771) 0) d fun b i _ _=>Ak 7 b e i fun c _ _=>AE a fun j=>Ac 2 j fun k=>Af k c fun l m=>Su m l c f b g h a
def SM (c b:IV) (a:Hp) (d:IV) (e:Aa) (f:IV):OH :=
 Am c (AE b fun g=>Aj 7 g a fun h _=>Sy a h b d e f) (An [.fv .nilp] a)
def Sn (d:IV) (a:Hp) (b e:IV) (f:Aa) (g:IV):OH :=
 Ac 0 d fun h=>Af h a fun c _=>A5 EE 3 c (.fv (.int .i64 11)) fun i=>Am i (AE b fun j=>Sj j a) (A5 EE 3 c (.fv (.int .i64 12)) fun k=>SM k b a e f g)
def S74 (d:Aa) (n:Nat) (e b:IV) (a:Hp):OH :=
 AE b fun f=>Ac 2 f fun g=>Af g a fun h _=>A7 1 h (.fv (.int .i64 3)) fun i=>Af i a fun c _=>AE c fun j=>Sn j a b c d e
theorem Apl (a:Aa) (n:Nat) (b c:IV) (d:Hp):Az EE a ft.get n 74 [b,c] d=S74 a n b c d:=by kernel_rfl
def S75 (a:Aa) (n:Nat) (f b:IV) (c:Hp):OH :=
 Al [] false false a 84 [b,.fv (.int .i64 19)] c fun d e _ _=>An [d] e
theorem Anl (a:Aa) (n:Nat) (b c:IV) (d:Hp):Az EE a ft.get n 75 [b,c] d=S75 a n b c d:=by kernel_rfl
def S76 (a:Aa) (n:Nat) (f b:IV) (c:Hp):OH :=
 Al [] false false a 84 [b,.fv (.int .i64 30)] c fun d e _ _=>An [d] e
theorem Apu (a:Aa) (n:Nat) (b c:IV) (d:Hp):Az EE a ft.get n 76 [b,c] d=S76 a n b c d:=by kernel_rfl
def S0 (a:Hp) (b:IV):OH :=
 BB b (.fv (.int .i64 17)) a fun c _ _=>An [] c
def RX (b c d:IV) (a:Hp):OH :=
 AG b c (.fv (.bool false)) fun e=>Am e (AE d fun f=>Ac 3 f fun g=>S0 a g) (An [] a)
def U8 (c:Hp) (a d:IV):OH :=
 Ab a true c (fun h=>h d c [] []) fun i e _ _=>Ab a true e (fun j=>AE i fun k=>j k e [] []) fun l f _ _=>Ab a true f (fun m=>Ac 3 l fun n=>m n f [] []) fun o b _ _=>Ab a true b (fun p=>Af o b fun q r=>p q b r []) fun s g _ _=>Ab a true g (fun t=>A5 EE 37 s (.fv (.int .i64 0)) fun u=>t u g [] []) fun v w _ _=>RX a v d w
def TC (c:Hp) (d e a:IV):OH :=
 BB d e c fun b _ _=>AE a fun f=>Ac 1 f fun g=>Af g b fun h _=>GV EE 3 h (.fv (.int .i64 0)) fun i=>U8 b i a
def S77 (i:Aa) (n:Nat) (a:IV) (b:Hp):OH :=
 AE a fun c=>Ac 1 c fun d=>Af d b fun e _=>Be EE 3 e (.fv (.int .i64 1)) fun f=>AE a fun g=>Ac 1 g fun h=>TC b h f a
theorem AoL (a:Aa) (n:Nat) (b:IV) (c:Hp):Az EE a ft.get n 77 [b] c=S77 a n b c:=by kernel_rfl
def Ut (a:Hp) (b:IV):OH :=
 Af b a fun c _=>An [c] a
def S9 (b:IV) (a:Hp) (c:List IV→Hp→OH) (d:IV):OH :=
 Ac 1 b fun e=>Af e a fun f _=>c [f,d] a
def RT (c a:IV) (b:Hp) (d:IV) (e:List IV→Hp→OH):OH :=
 Am c (AE a fun f=>Ac 0 f fun g=>Ut b g) (Be EE 3 d (.fv (.int .i64 1)) fun h=>AE a fun i=>S9 i b e h)
def Tq (a:IV) (b:Hp):OH :=
 BA [.fv (.int .i64 0),.fv (.int .i64 0),.nils,.fv (.int .i64 0),.fv (.int .i64 0),.nils,.fv (.nilp)] [(0,1,.fv (.int .i64 1)),(1,1,a)] fun c=>A4 81795075 c b fun d e _ _=>An [d] e
def Ot (d:List IV) (b:Hp) (e:List IV→Hp→OH):OH :=
 Aw d fun c f=>Aw f fun a _=>Hg EE 108 c (.fv .nilp) fun g=>Am g (A5 EE 3 a (.fv (.int .i64 0)) fun h=>RT h c b a e) (Be EE 3 (.fv (.int .i64 (-1))) a fun i=>Tq i b)
def S78 (g:Aa) (n:Nat) (a b:IV) (c:Hp):OH :=
 BE n (fun d e f=>Ot e f d) [a,b] c
theorem Anw (a:Aa) (n:Nat) (b c:IV) (d:Hp):Az EE a ft.get n 78 [b,c] d=S78 a n b c d:=by kernel_rfl
def S79 (a:Aa) (n:Nat) (b c:IV) (d:Hp):OH :=
 D8 EE a (.fv (.func (.func 85) [] [])) [b,c] d fun e f _ _=>An [e] f
theorem An9 (a:Aa) (n:Nat) (b c:IV) (d:Hp):Az EE a ft.get n 79 [b,c] d=S79 a n b c d:=by kernel_rfl
def Abj (a:Hp) (b:IV) (c:Hp→OH):OH :=
 BB b (.fv (.int .i64 17)) a fun d _ _=>c d
def ZO (c d:IV) (a:Hp) (b:Hp→OH):OH :=
 Am c (AE d fun e=>Ac 3 e fun f=>Abj a f b) (b a)
def AaJ (c:Hp) (d e a:IV) (f:Hp→OH):OH :=
 BB d e c fun b _ _=>AE a fun g=>Ac 0 g fun h=>Af h b fun i _=>GV EE 3 i (.fv (.int .i64 0)) fun j=>ZO j a b f
def Aau (c:IV) (a:Hp) (b:IV) (d:Hp→OH):OH :=
 Ac 0 c fun e=>Af e a fun f _=>Be EE 3 f (.fv (.int .i64 1)) fun g=>AE b fun h=>Ac 0 h fun i=>AaJ a i g b d
def Abm (c:IV) (a:Hp) (d e b:IV):OH :=
 Am c (An [d] a) ((fun (f:Hp→OH)=>AE b fun g=>Aau g a b f) fun h=>An [e] h)
def Aeg (c:Hp) (a f g h i:IV):OH :=
 Ab a false c (fun j=>AE f fun k=>j k c [] []) fun l d _ _=>Ab a false d (fun m=>Ac 3 l fun n=>m n d [] []) fun o b _ _=>Ab a false b (fun p=>Af o b fun q r=>p q b r []) fun s e _ _=>Ab a false e (fun t=>Hg EE 37 s (.fv (.int .i64 0)) fun u=>t u e [] []) fun v w _ _=>AG a (.fv (.bool true)) v fun x=>Abm x w g h i
def Aat (g:IV) (a:Hp) (h:Aa) (b c:IV):OH :=
 Ac 0 g fun i=>Af i a fun j _=>D8 EE h j [b] a fun d e _ _=>A5 EE 98 d (.fv .nilp) fun f=>Ab f false e (fun k=>k c e [] []) fun l m _ _=>Aeg m f l b d c
def Abi (b:IV) (a:Hp) (c d:IV) (e:Aa):OH :=
 AE b fun f=>Ac 3 f fun g=>Af g a fun h _=>Hg EE 37 h (.fv (.int .i64 0)) fun i=>Am i (An [c] a) (Aat d a e c b)
def AbR (a:Hp) (b g c:IV) (d:Aa) (e h:IV):OH :=
 Ab b false a (fun i=>Hg EE 37 g (.fv (.int .i64 0)) fun j=>i j a [] []) fun k f _ _=>AG b (.fv (.bool true)) k fun l=>Am l (An [c] f) (Al [true] false false d 77 [e] f fun _ m _ _=>Abi e m c h d)
def Ab3 (g:IV) (c:Hp) (d h:IV) (i:Aa) (j:IV):OH :=
 CO (L9 .not g) fun a=>Ab a false c (fun k=>k d c [] []) fun l e _ _=>Ab a false e (fun m=>AE l fun n=>m n e [] []) fun o f _ _=>Ab a false f (fun p=>Ac 3 o fun q=>p q f [] []) fun r b _ _=>Ab a false b (fun s=>Af r b fun t u=>s t b u []) fun v w _ _=>AbR w a v h i d j
def Zs (b:IV) (c:Hp) (d e f g:AF) (h i j:IV) (k:Aa):OH :=
 AQ 1 b fun l=>AH 83887116 (.row [.fv (.nilf)] false) (.ptr (.own 83887116) 0) c fun a m n o=>Ad [(d,e),(f,[]),(g,[])] n o (BB a h m fun p q r=>Ad [] q r (Ab3 l p i j k a))
def Abp (a:Hp) (g:IV) (b:AF) (h i j:IV) (k:Aa):OH :=
 Af g a fun l c=>Ad [(b,[])] c [] (Ay (Ha EE 100 h l true) 83887112 a fun d m e f=>Ad [] e f (AQ 0 d fun n=>Zs d m e f c b n i j k))
def S80 (e:Aa) (n:Nat) (a b:IV) (c:Hp):OH :=
 AE a fun f=>Ac 4 f fun g=>Af g c fun h d=>Ad [] d [] (AE b fun i=>Ac 0 i fun j=>Abp c j d h a b e)
theorem ApK (a:Aa) (n:Nat) (b c:IV) (d:Hp):Az EE a ft.get n 80 [b,c] d=S80 a n b c d:=by kernel_rfl
def Af5 (b c:IV) (a:Hp) (d e f:AF) (g:Aa) (h i:IV):OH :=
 A7 3 b c fun j=>Aj 3 j a fun k l=>Ad [(d,e),(f,[])] l [] (Al [true,false,false] false false g 65 [h,i,k] a fun m n o p=>Ad [] o p (An [m] n))
def AiB (e:IV) (a:Hp) (b c d:AF) (f:IV) (g:Aa) (h i:IV):OH :=
 AE e fun j=>Ac 3 j fun k=>Ac 2 k fun l=>Af l a fun m n=>Ad [(b,c),(d,[])] n [] (Af5 m f a b c d g h i)
def S81 (a:Aa) (n:Nat) (g b h i:IV) (c:Hp):OH :=
 AE b fun j=>Ac 6 j fun k=>Af k c fun l d=>Ad [] d [] (Al [] false false a 86 [l,i] c fun m o e f=>Ad [] e f (AiB b o e f d h a g m))
theorem AnK (a:Aa) (n:Nat) (b c d e:IV) (f:Hp):Az EE a ft.get n 81 [b,c,d,e] f=S81 a n b c d e f:=by kernel_rfl
def Acw (a:Hp) (b:IV):OH :=
 AA true 3 b a fun c=>An [c] a
def Y2 (a:Hp) (b:IV):OH :=
 AA true 3 b a fun c=>An [c] a
def AdT (c:IV) (a:Hp) (d:Aa) (b:IV):OH :=
 A7 3 c (.fv (.int .i64 0)) fun e=>Aj 3 e a fun f _=>BA [.fv (.int .i64 0),.fv (.int .i64 0),.nils] [(0,1,.fv (.int .i64 11))] fun g=>Al [] false false d 88 [f,.fv (.int .i64 0),g] a fun h i _ _=>Ak 3 b h i fun j _ _=>Y2 j b
def AbP (c:IV) (a:Hp) (d b e:IV) (f:Aa):OH :=
 Am c (Aj 3 d a fun g _=>Ak 3 b g a fun h _ _=>Acw h b) (Ac 2 e fun i=>Af i a fun j _=>AdT j a f b)
def AaF (b:Hp) (a g:IV) (d:Aa) (h i j:IV):OH :=
 Ab a false b (fun k=>Af g b fun l m=>k l b m []) fun n e _ _=>Ab a false e (fun o=>A7 3 n (.fv (.int .i64 0)) fun p=>o p e [] []) fun q c _ _=>Ab a false c (fun r=>Aj 3 q c fun s t=>r s c t []) fun u f _ _=>Ab a false f (fun v=>Al [] false false d 87 [u,.fv (.int .i64 0)] f v) fun w x _ _=>AG a (.fv (.bool true)) w fun y=>AbP y x h i j d
def AaT (c:Hp) (a h d:IV) (i:Aa) (j k:IV):OH :=
 Ab a false c (fun l=>Ac 1 h fun m=>l m c [] []) fun n b _ _=>Ab a false b (fun o=>Af n b fun p q=>o p b q []) fun r e _ _=>Ab a false e (fun s=>Hg EE 3 r (.fv (.int .i64 0)) fun t=>s t e [] []) fun u f _ _=>AG a (.fv (.bool true)) u fun g=>Ab g false f (fun v=>Ac 2 d fun w=>v w f [] []) fun x y _ _=>AaF y g x i j k d
def AaC (c:Hp) (d h e:IV) (i:Aa) (j k:IV):OH :=
 Ab d false c (fun l=>Hg EE 3 h (.fv (.int .i64 1)) fun m=>l m c [] []) fun n f _ _=>AG d (.fv (.bool true)) n fun a=>Ab a false f (fun o=>Ac 2 e fun p=>o p f [] []) fun q b _ _=>Ab a false b (fun r=>Af q b fun s t=>r s b t []) fun u g _ _=>Ab a false g (fun v=>A7 3 u (.fv (.int .i64 1)) fun w=>v w g [] []) fun x y _ _=>AaT y a x e i j k
def AdH (d:Hp) (a e:IV) (h:Aa) (i j:IV):OH :=
 Ab a false d (fun k=>Ac 2 e fun l=>k l d [] []) fun m b _ _=>Ab a false b (fun n=>Af m b fun o p=>n o b p []) fun q f _ _=>Ab a false f (fun r=>A7 3 q (.fv (.int .i64 1)) fun s=>r s f [] []) fun t g _ _=>Ab a false g (fun u=>Ac 0 t fun v=>u v g [] []) fun w c _ _=>Ab a false c (fun x=>Af w c fun y z=>x y c z []) fun A B _ _=>AaC B a A e h i j
def YF (c:Hp) (d:IV) (e:Aa) (f g:IV):OH :=
 AH 85984260 (.row [.fv (.int .i64 0),.fv (.int .i64 0),.nils] false) (.ptr (.own 85984260) 0) c fun a h _ _=>Ak 3 a d h fun b _ _=>Ac 0 a fun i=>Af i b fun j _=>Hg EE 3 j (.fv (.int .i64 5)) fun k=>AdH b k a e f g
def S82 (c:Aa) (n:Nat) (d:IV) (e:Hp):OH :=
 A4 85983232 d e fun b f _ _=>AH 85983233 (.row [.fv (.int .i64 0),.fv (.int .i64 0),.nils] false) (.ptr (.own 85983233) 0) f fun g a _ _=>Ac 2 b fun h=>Af h a fun i _=>A7 3 i (.fv (.int .i64 1)) fun j=>Aj 3 j a fun k _=>YF a k c b g
theorem Am0 (a:Aa) (n:Nat) (b:IV) (c:Hp):Az EE a ft.get n 82 [b] c=S82 a n b c:=by kernel_rfl
def Lf (a:Hp) (b:IV):OH :=
 AA true 3 b a fun c=>An [c] a
def LA (d:IV) (a:Hp) (b:IV):OH :=
 A7 3 d (.fv (.int .i64 0)) fun e=>Aj 3 e a fun f _=>Ak 3 b f a fun c _ _=>AA true 3 b c fun g=>An [g] c
def Ld (c d:IV) (a:Hp) (e b f:IV):OH :=
 AG c (.fv (.bool true)) d fun g=>Am g (Aj 3 e a fun h _=>Ak 3 b h a fun i _ _=>Lf i b) (Ac 2 f fun j=>Af j a fun k _=>LA k a b)
def K2 (b:Hp) (a e:IV) (f g h i:AF) (j:Aa) (k l m n:IV):OH :=
 Ab a false b (fun o=>Aj 3 e b fun p q=>o p b q []) fun r c s t=>Ad [(f,g),(h,i)] s t (Ab a false c (fun u=>Al [] false false j 57 [k,r] c u) fun v d w x=>Ad [] w x (Ab a false d (fun y=>CO (L9 .not v) fun z=>y z d [] []) fun A B _ _=>Ld a A B l m n))
def LJ (b c:AF) (e:Hp) (a i:IV) (f g:AF) (j:Aa) (k l m n:IV):OH :=
 Ad [] b c (Ab a false e (fun o=>Ac 2 i fun p=>o p e [] []) fun q d _ _=>Ab a false d (fun r=>Af q d fun s t=>r s d t []) fun u h v w=>Ad [(b,c),(f,g)] v w (Ab a false h (fun x=>A7 3 u (.fv (.int .i64 0)) fun y=>x y h [] []) fun z A _ _=>K2 A a z b c f g j k l m n))
def L3 (d:Hp) (a e i:IV) (j:Aa) (k l:IV):OH :=
 Ab a false d (fun m=>Ac 2 e fun n=>m n d [] []) fun o b _ _=>Ab a false b (fun p=>Af o b fun q r=>p q b r []) fun s f g h=>Ad [] g h (Ab a false f (fun t=>A7 3 s (.fv (.int .i64 0)) fun u=>t u f [] []) fun v c _ _=>Ab a false c (fun w=>Aj 3 v c fun x y=>w x c y []) fun z A B C=>LJ B C A a i g h j z k l e)
def LR (c:Hp) (a d f:IV) (g:Aa) (h i:IV):OH :=
 Ab a false c (fun j=>Ac 0 d fun k=>j k c [] []) fun l b _ _=>Ab a false b (fun m=>Af l b fun n o=>m n b o []) fun p e q r=>Ad [] q r (Ab a false e (fun s=>Hg EE 3 p (.fv (.int .i64 9)) fun t=>s t e [] []) fun u v _ _=>AG a (.fv (.bool true)) u fun w=>L3 v w f d g h i)
def Ls (c d:AF) (a:IV) (b:Hp) (e:IV) (f:Aa) (g h:IV):OH :=
 Ad [] c d (Ac 0 a fun i=>Af i b fun j k=>Ad [] k [] (Hg EE 3 j (.fv (.int .i64 8)) fun l=>LR b l e a f g h))
def Kn (e:Hp) (f g a b h i:AF) (c j k:IV) (l:Aa) (m n:IV):OH :=
 AH 87032841 (.row [.fv (.int .i64 0),.fv (.int .i64 0),.nils] false) (.ptr (.own 87032841) 0) e fun d o p q=>Ad [(f,g),(a,[]),(b,[]),(h,[]),(i,[])] p q (Ak 3 c j o fun r s t=>Ad [(a,[]),(b,[])] s t (Ak 3 d k r fun u v w=>Ls v w c u d l m n))
def KW (h:IV) (d:Hp) (a b e:AF) (i:IV) (j:Aa) (k l:IV):OH :=
 A7 3 h (.fv (.int .i64 2)) fun m=>Aj 3 m d fun n c=>Ad [(a,[]),(b,[])] c [] (AH 87032840 (.row [.fv (.int .i64 0),.fv (.int .i64 0),.nils] false) (.ptr (.own 87032840) 0) d fun o p f g=>Ad [(c,[]),(e,[]),(a,[]),(b,[])] f g (Kn p f g c e a b o i n j k l))
def Lh (a:Hp) (f c:IV) (d:AF) (g:Aa) (h:IV):OH :=
 Aj 3 f a fun i b=>Ad [] b [] (Ac 2 c fun j=>Af j a fun k e=>Ad [(b,[]),(d,[])] e [] (KW k a b d e i g c h))
def S83 (d:Aa) (n:Nat) (e:IV) (f:Hp):OH :=
 A4 87031808 e f fun a g _ _=>AH 87031809 (.row [.fv (.int .i64 0),.fv (.int .i64 0),.nils] false) (.ptr (.own 87031809) 0) g fun h b _ _=>Ac 2 a fun i=>Af i b fun j c=>Ad [] c [] (A7 3 j (.fv (.int .i64 1)) fun k=>Lh b k a c d h)
theorem Anm (a:Aa) (n:Nat) (b:IV) (c:Hp):Az EE a ft.get n 83 [b] c=S83 a n b c:=by kernel_rfl
def X0 (b:IV) (a:Hp):OH :=
 Ac 2 b fun c=>Af c a fun d _=>A7 1 d (.fv (.int .i64 0)) fun e=>Af e a fun f _=>An [f] a
def Yk (b:IV) (a:Hp):OH :=
 Ac 2 b fun c=>Af c a fun d _=>A7 1 d (.fv (.int .i64 0)) fun e=>Af e a fun f _=>AE f fun g=>X0 g a
def X3 (b:IV) (a:Hp) (c d:IV):OH :=
 Ac 0 b fun e=>Af e a fun f _=>Hg EE 3 f c fun g=>Am g (An [.fv .nilp] a) (AE d fun h=>Yk h a)
def S84 (j:Aa) (n:Nat) (b c:IV) (a:Hp):OH :=
 AE b fun d=>Ac 2 d fun e=>Af e a fun f _=>A7 1 f (.fv (.int .i64 0)) fun g=>Af g a fun h _=>AE h fun i=>X3 i a c b
theorem AoK (a:Aa) (n:Nat) (b c:IV) (d:Hp):Az EE a ft.get n 84 [b,c] d=S84 a n b c d:=by kernel_rfl
def AgV (b:IV) (a:Hp) (c:Hp→OH):OH :=
 A5 EE 3 b (.fv (.int .i64 0)) fun d=>Am d (An [.fv (.int .i64 1)] a) (A5 EE 3 b (.fv (.int .i64 2)) fun e=>Am e (An [.fv (.int .i64 2)] a) (c a))
def Ahp (d c:IV) (a:Hp) (b:Hp→OH) (e:IV):OH :=
 Am d (A5 EE 3 c (.fv (.int .i64 1)) fun f=>Am f (An [.fv (.int .i64 1)] a) (b a)) (A5 EE 3 e (.fv (.int .i64 13)) fun g=>Am g (AgV c a b) (b a))
def AhG (a:IV) (b:IV→Hp→OH) (c:Hp):OH :=
 A5 EE 3 a (.fv (.int .i64 29)) fun d=>b d c
def Ajn (a:IV) (b:IV→Hp→OH) (c:Hp):OH :=
 A5 EE 3 a (.fv (.int .i64 20)) fun d=>Am d (b d c) (A5 EE 3 a (.fv (.int .i64 28)) fun e=>Am e (b e c) (AhG a b c))
def AhT (c:IV) (a:IV→Hp→OH) (b:Hp) (d:IV):OH :=
 Am c (a c b) (A5 EE 3 d (.fv (.int .i64 6)) fun e=>Am e (a e b) (Ajn d a b))
def S85 (k:Aa) (n:Nat) (a e:IV) (b:Hp):OH :=
 (fun (f:Hp→OH)=>(fun (c:IV→Hp→OH)=>A5 EE 3 a (.fv (.int .i64 3)) fun d=>Am d (c d b) (A5 EE 3 a (.fv (.int .i64 4)) fun g=>AhT g c b a)) fun h i=>Ahp h e i f a) fun j=>An [.fv (.int .i64 0)] j
theorem Anq (a:Aa) (n:Nat) (b c:IV) (d:Hp):Az EE a ft.get n 85 [b,c] d=S85 a n b c d:=by kernel_rfl
def RQ (f g:IV) (h:Hp) (i:IV) (j:Hp) (a b:IV) (k:List IV→Hp→OH):OH :=
 BA [.fv (.nilp),.fv (.nilp)] [(0,1,f),(1,1,g)] fun c=>fzS (K3 true 90181635 c) 90181635 c h fun d l _ _=>BC EE 3 i (.fv (.int .i64 1)) fun e=>Bg (j.own.map (·.1)) [90181635] [d,a,b,e] l fun m=>k [d,a,b,e] m
def TH (e b c:IV) (a:Hp) (d:IV) (f:Hp) (g:IV) (h:List IV→Hp→OH):OH :=
 Am e (A7 1 b c fun i=>Af i a fun j _=>RQ j d a c f b g h) (An [d] a)
def WN (c:List IV) (d e:Hp) (f:List IV→Hp→OH):OH :=
 Aw c fun g h=>Aw h fun i j=>Aw j fun a k=>Aw k fun b _=>GV EE 3 b a fun l=>TH l i b d g e a f
def S86 (i:Aa) (n:Nat) (c a:IV) (b:Hp):OH :=
 BP a fun d=>Bg (b.own.map (·.1)) [90181635] [c,a,d,.fv (.int .i64 0)] b fun e=>BE n (fun f g h=>WN g h b f) [c,a,d,.fv (.int .i64 0)] e
theorem Apy (a:Aa) (n:Nat) (b c:IV) (d:Hp):Az EE a ft.get n 86 [b,c] d=S86 a n b c d:=by kernel_rfl
def S87 (b:Aa) (n:Nat) (c d:IV) (e:Hp):OH :=
 A4 91226112 c e fun f g _ _=>A4 91226113 d g fun h a _ _=>Aj 3 f a fun i _=>Ay (val (CS (.func 90) [] [h])) 91227137 a fun j k _ _=>Al [] false false b 89 [i,.fv (.int .i64 0),j] k fun l m _ _=>An [l] m
theorem Apj (a:Aa) (n:Nat) (b c:IV) (d:Hp):Az EE a ft.get n 87 [b,c] d=S87 a n b c d:=by kernel_rfl
def Agj (c:Aa) (d:Hp) (e f a:IV):OH :=
 Al [] false false c 91 [e,.fv (.int .i64 0),f] d fun g h _ _=>Ak 3 a g h fun b _ _=>AA true 3 a b fun i=>An [i] b
def S88 (b:Aa) (n:Nat) (c d e:IV) (f:Hp):OH :=
 A4 92274688 c f fun g h _ _=>A4 92274689 d h fun i j _ _=>A4 92274690 e j fun k l _ _=>AH 92274691 (.row [.fv (.int .i64 0),.fv (.int .i64 0),.nils] false) (.ptr (.own 92274691) 0) l fun m a _ _=>Aj 3 g a fun o _=>Ay (val (CS (.func 92) [] [i,k])) 92275713 a fun p q _ _=>Agj b q o p m
theorem Apz (a:Aa) (n:Nat) (b c d:IV) (e:Hp):Az EE a ft.get n 88 [b,c,d] e=S88 a n b c d e:=by kernel_rfl
def ML (a:Hp) (b:IV) (c:Aa) (d e:IV):OH :=
 Af b a fun f _=>D8 EE c d [f,e] a fun g h _ _=>An [g] h
def MJ (g h:Hp) (a b c d e f:IV) (i:List IV→Hp→OH):OH :=
 Bg (g.own.map (·.1)) [93328387] [a,b,c,d,e,f] h fun j=>i [a,b,c,d,e,f] j
def MD (a d:IV) (e:Aa) (f:Hp) (g b h:IV) (i:Hp) (j k l:IV) (m:List IV→Hp→OH):OH :=
 BC EE 3 a d fun n=>Al [] false false e 89 [g,n,b] f fun o c p q=>Ad [] p q (Am o (An [.fv (.bool true)] c) (BC EE 3 h (.fv (.int .i64 1)) fun r=>MJ i c a b j k l r m))
def MN (a:IV) (b:Hp) (c:AF) (d:Aa) (e f g h:IV) (i:Hp) (j k:IV) (l:List IV→Hp→OH):OH :=
 Ac 0 a fun m=>Af m b fun n o=>Ad [(c,[])] o [] (Al [] false false d 79 [n,e] b fun p q r s=>Ad [(c,[])] r s (MD f p d q g h e i a j k l))
def MM (a:Hp) (e f:IV) (g:Aa) (h i j:IV) (k:Hp) (l m:IV) (n:List IV→Hp→OH):OH :=
 Aj 3 e a fun o _=>AH 93328387 (.row [.fv (.int .i64 0),.fv (.int .i64 0),.nils] false) (.ptr (.own 93328387) 0) a fun b p _ _=>Ak 3 b o p fun c _ _=>Aj 3 b c fun q d=>Ad [] d [] (MN f c d g h i q j k l m n)
def Mq (e:List IV) (b c:IV) (d:Hp) (f:IV) (g:Aa) (h i:IV) (j:Hp) (k:List IV→Hp→OH):OH :=
 Aw e fun a _=>GV EE 3 a b fun l=>Am l (A7 3 c a fun m=>MM d m f g a h i j c b k) (An [.fv (.bool false)] d)
def Ui (a:List IV) (b:Hp) (c:Aa) (d:Hp) (e:List IV→Hp→OH):OH :=
 Aw a fun f g=>Aw g fun h i=>Aw i fun j k=>Aw k fun l m=>Aw m fun n o=>Mq o n l b j c f h d e
def MY (b:Hp) (h:IV) (c:Hp) (d e f:IV) (n:Nat) (i:Aa):OH :=
 Af h b fun a _=>BP a fun g=>Bg (c.own.map (·.1)) [93328387] [d,e,f,a,g,.fv (.int .i64 0)] b fun j=>BE n (fun k l m=>Ui l m i c k) [d,e,f,a,g,.fv (.int .i64 0)] j
def S89 (c:Aa) (n:Nat) (g d e:IV) (f:Hp):OH :=
 A4 93323264 g f fun a b _ _=>Ac 0 a fun h=>Af h b fun i _=>A5 EE 3 i (.fv (.int .i64 1)) fun j=>Am j (Ac 1 a fun k=>ML b k c e d) (Ac 2 a fun l=>MY b l f d e a n c)
theorem An0 (a:Aa) (n:Nat) (b c d:IV) (e:Hp):Az EE a ft.get n 89 [b,c,d] e=S89 a n b c d e:=by kernel_rfl
def U1 (a b:IV) (c:Hp):OH :=
 AG a b (.fv (.bool false)) fun d=>An [d] c
def S90 (s:Aa) (n:Nat) (c d g:IV) (b:Hp):OH :=
 Be EE 3 c d fun h=>Af g b fun i _=>A5 EE 3 h i fun a=>Ab a true b (fun j=>j c b [] []) fun k e _ _=>Ab a true e (fun l=>l d e [] []) fun m f _ _=>Ab a true f (fun o=>geS EE 3 k m fun p=>o p f [] []) fun q r _ _=>U1 a q r
theorem AmW (a:Aa) (n:Nat) (b c d:IV) (e:Hp):Az EE a ft.get n 90 [b,c,d] e=S90 a n b c d e:=by kernel_rfl
def Kq (a:Hp) (d:IV) (e:Aa) (f g b:IV):OH :=
 Aj 3 d a fun h _=>D8 EE e f [h,g] a fun i j _ _=>Ak 3 b i j fun c _ _=>AA true 3 b c fun k=>An [k] c
def Kz (i:Hp) (j k l:IV) (m:Hp) (a b c d e f g:IV) (n:List IV→Hp→OH):OH :=
 Ak 3 j k i fun o p q=>Ad [] p q (BC EE 3 l (.fv (.int .i64 1)) fun h=>Bg (m.own.map (·.1)) [95426563] [a,b,c,d,e,f,g,h] o fun r=>n [a,b,c,d,e,f,g,h] r)
def LH (e f g:AF) (a h:IV) (i:Aa) (j:Hp) (k b c d:IV) (l:Hp) (m n o p:IV) (q:List IV→Hp→OH):OH :=
 Ad [(g,[])] e f (BC EE 3 a h fun r=>Al [] false false i 91 [k,r,b] j fun s t u v=>Ad [] u v (A7 3 c d fun w=>Kz t w s d l a b m n c o p q))
def KC (a:AF) (b:IV) (c:Hp) (d:Aa) (e f g h i:IV) (j:Hp) (k l m:IV) (n:List IV→Hp→OH):OH :=
 Ad [] a [] (Ac 0 b fun o=>Af o c fun p q=>Ad [(a,[])] q [] (Al [] false false d 79 [p,e] c fun r s t u=>LH t u a f r d s g h i e j b k l m n))
def L0 (a b:IV) (c:Hp) (f:IV) (g:Aa) (h i j:IV) (k:Hp) (l m:IV) (n:List IV→Hp→OH):OH :=
 A7 3 a b fun o=>Aj 3 o c fun p _=>AH 95426563 (.row [.fv (.int .i64 0),.fv (.int .i64 0),.nils] false) (.ptr (.own 95426563) 0) c fun d q _ _=>Ak 3 d p q fun e _ _=>Aj 3 d e fun r s=>KC s f e g b h r i j k l a m n
def KM (c:Hp) (a d:IV):OH :=
 Ak 3 a d c fun b _ _=>AA true 3 a b fun e=>An [e] b
def Li (b:IV) (a:Hp) (c d:IV):OH :=
 Ac 0 b fun e=>Af e a fun f _=>Ac 1 b fun g=>Af g a fun h _=>BA [.fv (.int .i64 0),.fv (.int .i64 0),.nils] [(0,1,f),(1,1,h),(2,1,c)] fun i=>KM a d i
def LB (g:List IV) (a:Hp) (b:IV) (h:Aa) (i j c:IV) (k:Hp) (d:IV) (l:List IV→Hp→OH):OH :=
 Aw g fun m n=>Aw n fun e o=>Aw o fun f _=>GV EE 3 f e fun p=>Am p (L0 m f a b h i j c k d e l) (Li b a c d)
def Ri (a:List IV) (b:Hp) (c:Aa) (d:Hp) (e:List IV→Hp→OH):OH :=
 Aw a fun f g=>Aw g fun h i=>Aw i fun j k=>Aw k fun l m=>Aw m fun n o=>LB o b j c f h n d l e
def LG (b:Hp) (j:IV) (c:Hp) (d e f g h:IV) (n:Nat) (k:Aa):OH :=
 Af j b fun a _=>BP a fun i=>Bg (c.own.map (·.1)) [95426563] [d,e,f,g,h,a,i,.fv (.int .i64 0)] b fun l=>BE n (fun m o p=>Ri o p k c m) [d,e,f,g,h,a,i,.fv (.int .i64 0)] l
def Lq (a:IV) (b d:Hp) (e f g:IV) (n:Nat) (h:Aa):OH :=
 Ac 2 a fun i=>Af i b fun j _=>BP j fun c=>Ay (Bn EE 95423491 29 c c) 95423491 b fun k l _ _=>Ac 2 a fun m=>LG l m d e f a g k n h
def S91 (c:Aa) (n:Nat) (h d e:IV) (f:Hp):OH :=
 A4 95420416 h f fun a i _ _=>AH 95420417 (.row [.fv (.int .i64 0),.fv (.int .i64 0),.nils] false) (.ptr (.own 95420417) 0) i fun g b _ _=>Ac 0 a fun j=>Af j b fun k _=>A5 EE 3 k (.fv (.int .i64 1)) fun l=>Am l (Kq b a c e d g) (Lq a b f d e g n c)
theorem AmJ (a:Aa) (n:Nat) (b c d:IV) (e:Hp):Az EE a ft.get n 91 [b,c,d] e=S91 a n b c d e:=by kernel_rfl
def UR (c:Hp) (a d:IV):OH :=
 Ak 3 a d c fun b _ _=>AA true 3 a b fun e=>An [e] b
def RY (c:Hp) (a d:IV):OH :=
 Ak 3 a d c fun b _ _=>AA true 3 a b fun e=>An [e] b
def Tg (c:Hp) (a d:IV):OH :=
 Ak 3 a d c fun b _ _=>AA true 3 a b fun e=>An [e] b
def Se (d:IV) (a:Hp) (e:IV) (b:Aa) (f c g:IV):OH :=
 Am d (Aj 3 e a fun h _=>Al [] false false b 94 [h,f,.fv (.int .i64 0)] a fun i j _ _=>RY j c i) (Aj 3 g a fun k _=>Al [] false false b 93 [k,.fv (.int .i64 0)] a fun l m _ _=>Tg m c l)
def Tu (b f:IV) (a:Hp) (c:IV) (d:Aa) (e g h i:IV):OH :=
 Nb EE 3 b f fun j=>Am j (Aj 3 c a fun k _=>Al [] false false d 93 [k,.fv (.int .i64 (-1))] a fun l m _ _=>UR m e l) (Af g a fun n _=>A5 EE 3 b n fun o=>Se o a h d i e c)
def S92 (e:Aa) (n:Nat) (f b c g:IV) (h:Hp):OH :=
 A4 96468992 f h fun d i _ _=>AH 96468993 (.row [.fv (.int .i64 0),.fv (.int .i64 0),.nils] false) (.ptr (.own 96468993) 0) i fun j a _ _=>Ac 1 d fun k=>Af k a fun l _=>Be EE 3 l b fun m=>Af c a fun o _=>Tu m o a d e j c g b
theorem AoQ (a:Aa) (n:Nat) (b c d e:IV) (f:Hp):Az EE a ft.get n 92 [b,c,d,e] f=S92 a n b c d e f:=by kernel_rfl
def AiH (c:Hp) (a d:IV):OH :=
 Ak 3 a d c fun b _ _=>AA true 3 a b fun e=>An [e] b
def S93 (l:Aa) (n:Nat) (b c:IV) (d:Hp):OH :=
 A4 97517568 b d fun e f _ _=>AH 97517569 (.row [.fv (.int .i64 0),.fv (.int .i64 0),.nils] false) (.ptr (.own 97517569) 0) f fun g a _ _=>Ac 1 e fun h=>Af h a fun i _=>BC EE 3 i c fun j=>BA [.fv (.int .i64 0),.fv (.int .i64 0),.nils] [(0,1,.fv (.int .i64 1)),(1,1,j)] fun k=>AiH a g k
theorem AmO (a:Aa) (n:Nat) (b c:IV) (d:Hp):Az EE a ft.get n 93 [b,c] d=S93 a n b c d:=by kernel_rfl
def Ahm (c:Aa) (d:Hp) (e f a:IV):OH :=
 Al [] false false c 91 [e,.fv (.int .i64 0),f] d fun g h _ _=>Ak 3 a g h fun b _ _=>AA true 3 a b fun i=>An [i] b
def S94 (b:Aa) (n:Nat) (c d e:IV) (f:Hp):OH :=
 A4 98566144 c f fun g h _ _=>A4 98566145 d h fun i j _ _=>A4 98566146 e j fun k l _ _=>AH 98566147 (.row [.fv (.int .i64 0),.fv (.int .i64 0),.nils] false) (.ptr (.own 98566147) 0) l fun m a _ _=>Aj 3 g a fun o _=>Ay (val (CS (.func 95) [] [k,i])) 98567169 a fun p q _ _=>Ahm b q o p m
theorem AoB (a:Aa) (n:Nat) (b c d:IV) (e:Hp):Az EE a ft.get n 94 [b,c,d] e=S94 a n b c d e:=by kernel_rfl
def Yu (c:Aa) (d:Hp) (e f a:IV):OH :=
 Al [] false false c 93 [e,f] d fun g h _ _=>Ak 3 a g h fun b _ _=>AA true 3 a b fun i=>An [i] b
def X1 (c:Hp) (a d:IV):OH :=
 Ak 3 a d c fun b _ _=>AA true 3 a b fun e=>An [e] b
def Xo (e f:IV) (a:Hp) (b g:IV) (c:Aa) (d:IV):OH :=
 geS EE 3 e f fun h=>Am h (Aj 3 b a fun i _=>Af g a fun j _=>Yu c a i j d) (Aj 3 b a fun k _=>Al [] false false c 93 [k,.fv (.int .i64 0)] a fun l m _ _=>X1 m d l)
def S95 (c:Aa) (n:Nat) (d e f g:IV) (h:Hp):OH :=
 A4 99614720 d h fun b i _ _=>AH 99614721 (.row [.fv (.int .i64 0),.fv (.int .i64 0),.nils] false) (.ptr (.own 99614721) 0) i fun j a _ _=>Ac 1 b fun k=>Af k a fun l _=>Be EE 3 l e fun m=>Af f a fun o _=>Xo m o a b g c j
theorem An3 (a:Aa) (n:Nat) (b c d e:IV) (f:Hp):Az EE a ft.get n 95 [b,c,d,e] f=S95 a n b c d e f:=by kernel_rfl
end
noncomputable section
def dt:DT :=
 .node 56 (.node 36 (.node 22 (.node 16 (.node 11 (.node 10 (.leaf 5 (fun ih n=>Ma (S5 ih n)))
 (.leaf 10 (fun ih n=>Pp (S10 ih n))))
 (.node 12 (.leaf 11 (fun ih n=>Fv (S11 ih n)))
 (.node 15 (.leaf 12 (fun ih n=>Fv (S12 ih n)))
 (.leaf 15 (fun ih n=>Fv (S15 ih n))))))
 (.node 18 (.node 17 (.leaf 16 (fun ih n=>Ed (S16 ih n)))
 (.leaf 17 (fun ih n=>Fv (S17 ih n))))
 (.node 20 (.leaf 18 (fun ih n=>Fv (S18 ih n)))
 (.node 21 (.leaf 20 (fun ih n=>Fv (S20 ih n)))
 (.leaf 21 (fun ih n=>L8 (S21 ih n)))))))
 (.node 27 (.node 24 (.node 23 (.leaf 22 (fun ih n=>L8 (S22 ih n)))
 (.leaf 23 (fun ih n=>Ma (S23 ih n))))
 (.node 25 (.leaf 24 (fun ih n=>Ed (S24 ih n)))
 (.node 26 (.leaf 25 (fun ih n=>L8 (S25 ih n)))
 (.leaf 26 (fun ih n=>Fv (S26 ih n))))))
 (.node 33 (.node 29 (.leaf 27 (fun ih n=>Fv (S27 ih n)))
 (.leaf 29 (fun ih n=>Fv (S29 ih n))))
 (.node 34 (.leaf 33 (fun ih n=>Ed (S33 ih n)))
 (.node 35 (.leaf 34 (fun ih n=>Ed (S34 ih n)))
 (.leaf 35 (fun ih n=>Ma (S35 ih n))))))))
 (.node 46 (.node 41 (.node 38 (.node 37 (.leaf 36 (fun ih n=>Fv (S36 ih n)))
 (.leaf 37 (fun ih n=>Ed (S37 ih n))))
 (.node 39 (.leaf 38 (fun ih n=>Fv (S38 ih n)))
 (.node 40 (.leaf 39 (fun ih n=>Fv (S39 ih n)))
 (.leaf 40 (fun ih n=>Ed (S40 ih n))))))
 (.node 43 (.node 42 (.leaf 41 (fun ih n=>Ma (S41 ih n)))
 (.leaf 42 (fun ih n=>L8 (S42 ih n))))
 (.node 44 (.leaf 43 (fun ih n=>Ed (S43 ih n)))
 (.node 45 (.leaf 44 (fun ih n=>Pp (S44 ih n)))
 (.leaf 45 (fun ih n=>Fv (S45 ih n)))))))
 (.node 51 (.node 48 (.node 47 (.leaf 46 (fun ih n=>Ed (S46 ih n)))
 (.leaf 47 (fun ih n=>Ma (S47 ih n))))
 (.node 49 (.leaf 48 (fun ih n=>Ma (S48 ih n)))
 (.node 50 (.leaf 49 (fun ih n=>Ma (S49 ih n)))
 (.leaf 50 (fun ih n=>L8 (S50 ih n))))))
 (.node 53 (.node 52 (.leaf 51 (fun ih n=>Ed (S51 ih n)))
 (.leaf 52 (fun ih n=>L8 (S52 ih n))))
 (.node 54 (.leaf 53 (fun ih n=>Ma (S53 ih n)))
 (.node 55 (.leaf 54 (fun ih n=>Ed (S54 ih n)))
 (.leaf 55 (fun ih n=>Fv (S55 ih n)))))))))
 (.node 76 (.node 66 (.node 61 (.node 58 (.node 57 (.leaf 56 (fun ih n=>Fv (S56 ih n)))
 (.leaf 57 (fun ih n=>Ed (S57 ih n))))
 (.node 59 (.leaf 58 (fun ih n=>Ed (S58 ih n)))
 (.node 60 (.leaf 59 (fun ih n=>Ed (S59 ih n)))
 (.leaf 60 (fun ih n=>Ma (S60 ih n))))))
 (.node 63 (.node 62 (.leaf 61 (fun ih n=>Fv (S61 ih n)))
 (.leaf 62 (fun ih n=>Ed (S62 ih n))))
 (.node 64 (.leaf 63 (fun ih n=>Fv (S63 ih n)))
 (.node 65 (.leaf 64 (fun ih n=>Pp (S64 ih n)))
 (.leaf 65 (fun ih n=>L8 (S65 ih n)))))))
 (.node 71 (.node 68 (.node 67 (.leaf 66 (fun ih n=>Ma (S66 ih n)))
 (.leaf 67 (fun ih n=>Fv (S67 ih n))))
 (.node 69 (.leaf 68 (fun ih n=>Fv (S68 ih n)))
 (.node 70 (.leaf 69 (fun ih n=>L8 (S69 ih n)))
 (.leaf 70 (fun ih n=>Fv (S70 ih n))))))
 (.node 73 (.node 72 (.leaf 71 (fun ih n=>Fv (S71 ih n)))
 (.leaf 72 (fun ih n=>Ed (S72 ih n))))
 (.node 74 (.leaf 73 (fun ih n=>Ed (S73 ih n)))
 (.node 75 (.leaf 74 (fun ih n=>Ed (S74 ih n)))
 (.leaf 75 (fun ih n=>Ed (S75 ih n))))))))
 (.node 86 (.node 81 (.node 78 (.node 77 (.leaf 76 (fun ih n=>Ed (S76 ih n)))
 (.leaf 77 (fun ih n=>Fv (S77 ih n))))
 (.node 79 (.leaf 78 (fun ih n=>Ed (S78 ih n)))
 (.node 80 (.leaf 79 (fun ih n=>Ed (S79 ih n)))
 (.leaf 80 (fun ih n=>Ed (S80 ih n))))))
 (.node 83 (.node 82 (.leaf 81 (fun ih n=>Ma (S81 ih n)))
 (.leaf 82 (fun ih n=>Fv (S82 ih n))))
 (.node 84 (.leaf 83 (fun ih n=>Fv (S83 ih n)))
 (.node 85 (.leaf 84 (fun ih n=>Ed (S84 ih n)))
 (.leaf 85 (fun ih n=>Ed (S85 ih n)))))))
 (.node 91 (.node 88 (.node 87 (.leaf 86 (fun ih n=>Ed (S86 ih n)))
 (.leaf 87 (fun ih n=>Ed (S87 ih n))))
 (.node 89 (.leaf 88 (fun ih n=>L8 (S88 ih n)))
 (.node 90 (.leaf 89 (fun ih n=>L8 (S89 ih n)))
 (.leaf 90 (fun ih n=>L8 (S90 ih n))))))
 (.node 93 (.node 92 (.leaf 91 (fun ih n=>L8 (S91 ih n)))
 (.leaf 92 (fun ih n=>Ma (S92 ih n))))
 (.node 94 (.leaf 93 (fun ih n=>Ed (S93 ih n)))
 (.node 95 (.leaf 94 (fun ih n=>L8 (S94 ih n)))
 (.leaf 95 (fun ih n=>Ma (S95 ih n)))))))))
theorem Arz:dt.Ok EE ft.get :=
 ⟨⟨⟨⟨⟨⟨(fun ih n _ _ _ e=>Es (F:=Az EE ih ft.get n 5) (AsQ ih n) e),
 (fun ih n _ _ _ e=>WZ (F:=Az EE ih ft.get n 10) (ApB ih n) e)⟩,
 ⟨(fun ih n _ _ _ e=>BU (F:=Az EE ih ft.get n 11) (Aog ih n) e),
 ⟨(fun ih n _ _ _ e=>BU (F:=Az EE ih ft.get n 12) (An8 ih n) e),
 (fun ih n _ _ _ e=>BU (F:=Az EE ih ft.get n 15) (AoG ih n) e)⟩⟩⟩,
 ⟨⟨(fun ih n _ _ _ e=>BH (F:=Az EE ih ft.get n 16) (ApY ih n) e),
 (fun ih n _ _ _ e=>BU (F:=Az EE ih ft.get n 17) (Apk ih n) e)⟩,
 ⟨(fun ih n _ _ _ e=>BU (F:=Az EE ih ft.get n 18) (An4 ih n) e),
 ⟨(fun ih n _ _ _ e=>BU (F:=Az EE ih ft.get n 20) (Apf ih n) e),
 (fun ih n _ _ _ e=>Ek (F:=Az EE ih ft.get n 21) (AoP ih n) e)⟩⟩⟩⟩,
 ⟨⟨⟨(fun ih n _ _ _ e=>Ek (F:=Az EE ih ft.get n 22) (ApT ih n) e),
 (fun ih n _ _ _ e=>Es (F:=Az EE ih ft.get n 23) (AoZ ih n) e)⟩,
 ⟨(fun ih n _ _ _ e=>BH (F:=Az EE ih ft.get n 24) (AnL ih n) e),
 ⟨(fun ih n _ _ _ e=>Ek (F:=Az EE ih ft.get n 25) (AnV ih n) e),
 (fun ih n _ _ _ e=>BU (F:=Az EE ih ft.get n 26) (Ao8 ih n) e)⟩⟩⟩,
 ⟨⟨(fun ih n _ _ _ e=>BU (F:=Az EE ih ft.get n 27) (AmQ ih n) e),
 (fun ih n _ _ _ e=>BU (F:=Az EE ih ft.get n 29) (ApZ ih n) e)⟩,
 ⟨(fun ih n _ _ _ e=>BH (F:=Az EE ih ft.get n 33) (AoS ih n) e),
 ⟨(fun ih n _ _ _ e=>BH (F:=Az EE ih ft.get n 34) (ApN ih n) e),
 (fun ih n _ _ _ e=>Es (F:=Az EE ih ft.get n 35) (Aoj ih n) e)⟩⟩⟩⟩⟩,
 ⟨⟨⟨⟨(fun ih n _ _ _ e=>BU (F:=Az EE ih ft.get n 36) (AoU ih n) e),
 (fun ih n _ _ _ e=>BH (F:=Az EE ih ft.get n 37) (Aor ih n) e)⟩,
 ⟨(fun ih n _ _ _ e=>BU (F:=Az EE ih ft.get n 38) (AoE ih n) e),
 ⟨(fun ih n _ _ _ e=>BU (F:=Az EE ih ft.get n 39) (AnH ih n) e),
 (fun ih n _ _ _ e=>BH (F:=Az EE ih ft.get n 40) (Am7 ih n) e)⟩⟩⟩,
 ⟨⟨(fun ih n _ _ _ e=>Es (F:=Az EE ih ft.get n 41) (AmV ih n) e),
 (fun ih n _ _ _ e=>Ek (F:=Az EE ih ft.get n 42) (Aod ih n) e)⟩,
 ⟨(fun ih n _ _ _ e=>BH (F:=Az EE ih ft.get n 43) (ApE ih n) e),
 ⟨(fun ih n _ _ _ e=>WZ (F:=Az EE ih ft.get n 44) (Ao1 ih n) e),
 (fun ih n _ _ _ e=>BU (F:=Az EE ih ft.get n 45) (Ap5 ih n) e)⟩⟩⟩⟩,
 ⟨⟨⟨(fun ih n _ _ _ e=>BH (F:=Az EE ih ft.get n 46) (Api ih n) e),
 (fun ih n _ _ _ e=>Es (F:=Az EE ih ft.get n 47) (Anp ih n) e)⟩,
 ⟨(fun ih n _ _ _ e=>Es (F:=Az EE ih ft.get n 48) (Ao2 ih n) e),
 ⟨(fun ih n _ _ _ e=>Es (F:=Az EE ih ft.get n 49) (AmG ih n) e),
 (fun ih n _ _ _ e=>Ek (F:=Az EE ih ft.get n 50) (Aom ih n) e)⟩⟩⟩,
 ⟨⟨(fun ih n _ _ _ e=>BH (F:=Az EE ih ft.get n 51) (AoM ih n) e),
 (fun ih n _ _ _ e=>Ek (F:=Az EE ih ft.get n 52) (AmD ih n) e)⟩,
 ⟨(fun ih n _ _ _ e=>Es (F:=Az EE ih ft.get n 53) (AnT ih n) e),
 ⟨(fun ih n _ _ _ e=>BH (F:=Az EE ih ft.get n 54) (AnJ ih n) e),
 (fun ih n _ _ _ e=>BU (F:=Az EE ih ft.get n 55) (App ih n) e)⟩⟩⟩⟩⟩⟩,
 ⟨⟨⟨⟨⟨(fun ih n _ _ _ e=>BU (F:=Az EE ih ft.get n 56) (Ao3 ih n) e),
 (fun ih n _ _ _ e=>BH (F:=Az EE ih ft.get n 57) (AnC ih n) e)⟩,
 ⟨(fun ih n _ _ _ e=>BH (F:=Az EE ih ft.get n 58) (AmL ih n) e),
 ⟨(fun ih n _ _ _ e=>BH (F:=Az EE ih ft.get n 59) (Ao7 ih n) e),
 (fun ih n _ _ _ e=>Es (F:=Az EE ih ft.get n 60) (AoA ih n) e)⟩⟩⟩,
 ⟨⟨(fun ih n _ _ _ e=>BU (F:=Az EE ih ft.get n 61) (Aqc ih n) e),
 (fun ih n _ _ _ e=>BH (F:=Az EE ih ft.get n 62) (ApQ ih n) e)⟩,
 ⟨(fun ih n _ _ _ e=>BU (F:=Az EE ih ft.get n 63) (ApL ih n) e),
 ⟨(fun ih n _ _ _ e=>WZ (F:=Az EE ih ft.get n 64) (Aql ih n) e),
 (fun ih n _ _ _ e=>Ek (F:=Az EE ih ft.get n 65) (Aps ih n) e)⟩⟩⟩⟩,
 ⟨⟨⟨(fun ih n _ _ _ e=>Es (F:=Az EE ih ft.get n 66) (AoX ih n) e),
 (fun ih n _ _ _ e=>BU (F:=Az EE ih ft.get n 67) (AmC ih n) e)⟩,
 ⟨(fun ih n _ _ _ e=>BU (F:=Az EE ih ft.get n 68) (AoO ih n) e),
 ⟨(fun ih n _ _ _ e=>Ek (F:=Az EE ih ft.get n 69) (AnM ih n) e),
 (fun ih n _ _ _ e=>BU (F:=Az EE ih ft.get n 70) (AnR ih n) e)⟩⟩⟩,
 ⟨⟨(fun ih n _ _ _ e=>BU (F:=Az EE ih ft.get n 71) (AmR ih n) e),
 (fun ih n _ _ _ e=>BH (F:=Az EE ih ft.get n 72) (Aoy ih n) e)⟩,
 ⟨(fun ih n _ _ _ e=>BH (F:=Az EE ih ft.get n 73) (AmS ih n) e),
 ⟨(fun ih n _ _ _ e=>BH (F:=Az EE ih ft.get n 74) (Apl ih n) e),
 (fun ih n _ _ _ e=>BH (F:=Az EE ih ft.get n 75) (Anl ih n) e)⟩⟩⟩⟩⟩,
 ⟨⟨⟨⟨(fun ih n _ _ _ e=>BH (F:=Az EE ih ft.get n 76) (Apu ih n) e),
 (fun ih n _ _ _ e=>BU (F:=Az EE ih ft.get n 77) (AoL ih n) e)⟩,
 ⟨(fun ih n _ _ _ e=>BH (F:=Az EE ih ft.get n 78) (Anw ih n) e),
 ⟨(fun ih n _ _ _ e=>BH (F:=Az EE ih ft.get n 79) (An9 ih n) e),
 (fun ih n _ _ _ e=>BH (F:=Az EE ih ft.get n 80) (ApK ih n) e)⟩⟩⟩,
 ⟨⟨(fun ih n _ _ _ e=>Es (F:=Az EE ih ft.get n 81) (AnK ih n) e),
 (fun ih n _ _ _ e=>BU (F:=Az EE ih ft.get n 82) (Am0 ih n) e)⟩,
 ⟨(fun ih n _ _ _ e=>BU (F:=Az EE ih ft.get n 83) (Anm ih n) e),
 ⟨(fun ih n _ _ _ e=>BH (F:=Az EE ih ft.get n 84) (AoK ih n) e),
 (fun ih n _ _ _ e=>BH (F:=Az EE ih ft.get n 85) (Anq ih n) e)⟩⟩⟩⟩,
 ⟨⟨⟨(fun ih n _ _ _ e=>BH (F:=Az EE ih ft.get n 86) (Apy ih n) e),
 (fun ih n _ _ _ e=>BH (F:=Az EE ih ft.get n 87) (Apj ih n) e)⟩,
 ⟨(fun ih n _ _ _ e=>Ek (F:=Az EE ih ft.get n 88) (Apz ih n) e),
 ⟨(fun ih n _ _ _ e=>Ek (F:=Az EE ih ft.get n 89) (An0 ih n) e),
 (fun ih n _ _ _ e=>Ek (F:=Az EE ih ft.get n 90) (AmW ih n) e)⟩⟩⟩,
 ⟨⟨(fun ih n _ _ _ e=>Ek (F:=Az EE ih ft.get n 91) (AmJ ih n) e),
 (fun ih n _ _ _ e=>Es (F:=Az EE ih ft.get n 92) (AoQ ih n) e)⟩,
 ⟨(fun ih n _ _ _ e=>BH (F:=Az EE ih ft.get n 93) (AmO ih n) e),
 ⟨(fun ih n _ _ _ e=>Ek (F:=Az EE ih ft.get n 94) (AoB ih n) e),
 (fun ih n _ _ _ e=>Es (F:=Az EE ih ft.get n 95) (An3 ih n) e)⟩⟩⟩⟩⟩⟩⟩
theorem ApX:∀n f args h x,SS dt n f args h=some x→run EE n f args h=some x:=Ara ArE Arz
end
end Idl
end Go.Proofs.Ytaifgaidaglblaa

/-
  Texts of a proof, part 9: an ideal semantics of the program, its functions in shallow form, contracts of them. No statement of the seat is proved here.
-/
import Derived.Test.YtnenpcghegcnhaaGreatKernelTypesK8
set_option linter.all false
set_option maxRecDepth 20000
set_option maxHeartbeats 16000000
noncomputable section
set_option maxRecDepth 100000
set_option linter.unusedVariables false
namespace Go.Proofs.YtnenpcghegcnhaaGreat
namespace Idl
noncomputable section
def RA m a f g b h c (d:V->H->O) i:=Ai m (Ae 3 f a fun n e=>Aa [] e [] (Ae 3 f a fun o j=>Aa [(e,[])] j [] (Ab 2 g fun p=>Ag p a fun q r=>Aa [(j,[]),(e,[])] r [] (is0 b 105 [h,iq 1,o,q] a fun s t u v=>Aa [(e,[])] u v (Ad 3 c n t fun w x y=>Aa [] x y (d s w)))))) (AN EE 3 i (iq 18) fun z=>Ai z (Ae 3 f a fun A _=>Ab 2 g fun B=>Ag B a fun C _=>is0 b 105 [h,iq 1,A,C] a fun D E _ _=>d D E) (AN EE 3 i (iq 19) fun F=>Ai F (Ab 2 g fun G=>Ag G a fun I _=>AP 3 I (iq 0) fun J=>Ae 3 J a fun K _=>is0 b 58 [h,iq 0,K] a fun k L _ _=>Ao 0 k fun M=>Ao 1 k fun N=>Ad 3 c M L fun l _ _=>Ae 3 c l fun P _=>Ay (Al EE 29 1 [(0,P)]) 120602625 l fun Q R _ _=>is0 b 71 [iq 18,Q] R fun S T _ _=>Ad 3 c S T fun U _ _=>d N U) (d (iq 0) a)))
def Rr a n d e (f:V->H->O) h i j o:=Ag n a fun b _=>AN EE 3 b (iq 11) fun p=>Ai p (Ae 3 d a fun q _=>Ad 3 e q a fun r _ _=>f (iq 0) r) (AN EE 3 b (iq 12) fun s=>Ai s (Ae 3 d a fun t c=>Aa [] c [] (Ae 3 d a fun u k=>Aa [(c,[])] k [] (Ab 2 h fun v=>Ag v a fun w x=>Aa [(k,[]),(c,[])] x [] (is0 i 105 [j,iq 1,u,w] a fun y z A B=>Aa [(c,[])] A B (Ad 3 e t z fun C D E=>Aa [] D E (f y C)))))) ((fun (g:V->H->O)=>AN EE 3 b (iq 15) fun l=>Ai l (g l a) (AN EE 3 b (iq 16) fun m=>Ai m (g m a) (AN EE 3 b (iq 17) fun F=>g F a))) fun G I=>RA G I o h i j e f b))
def Rc l d m n o a e p q:=nw0 120587268 l fun f r _ _=>nw0 120587269 r fun g s _ _=>Ad 3 d m s fun t _ _=>Ad 3 f n t fun u _ _=>Ad 3 g o u fun h _ _=>Ae 3 g h fun v _=>nw0 120588289 h fun b w _ _=>Ad 3 b v w fun x _ _=>(fun (y:V->H->O)=>Ab 0 e fun z=>Rr x z d b y e p q f) fun i c=>BJ EE 41 i (iq 0) fun A=>Ai A (A5 [iq 0,iq 0,.nils] [] fun B=>Ad 3 a B c fun j _ _=>An true 3 a j fun C=>Aj [C,i] j) (Ae 3 b c fun D _=>Ad 3 a D c fun k _ _=>An true 3 a k fun E=>Aj [E,iq 0] k)
def S115 (a:Ah) (n:Nat) (b c:V) (d:H):O :=AE 120586240 c d fun e f _ _=>nw0 120586241 f fun g h _ _=>is0 a 71 [iq 10,.nils] h fun i j _ _=>is0 a 71 [iq 14,.nils] j fun k l _ _=>is0 a 71 [iq 2,.nils] l fun m o _ _=>nw0 120587267 o fun p q _ _=>Rc q p i k m g e a b
def lZ (x:Ah) (n:Nat) (a:V) (c:H):O :=AJ a fun f=>Ab 0 f fun g=>Ag g c fun h _=>Bq EE 3 h (iq 1) fun i=>AJ a fun j=>Ab 0 j fun k=>BK k i c fun b _ _=>(fun (d:H->O)=>AJ a fun l=>Ab 0 l fun m=>Ag m b fun o _=>J4 EE 3 o (iq 1000) fun p=>Ai p (AJ a fun q=>Ab 2 q fun r=>BK r (iq 17) b fun s _ _=>d s) (d b)) fun e=>AJ a fun t=>Ab 2 t fun u=>Ag u e fun v _=>AN EE 3 v (iq 0) fun w=>Aj [w] e
def vN (c:Ah) (n:Nat) (j:V) (k:H):O :=AE 122683392 j k fun l m _ _=>ET 122683393 (.row [iq 0,iq 0,.nils,iq 0] false) (.ptr (.own 122683393) 0) m fun a d _ _=>Ae 3 l d fun o _=>is0 c 82 [o] d fun e p _ _=>Ao 0 e fun q=>Ao 1 e fun f=>nw0 122684421 p fun g r _ _=>Ad 3 g q r fun b _ _=>BJ EE 41 f (iq 0) fun s=>Ai s (A5 [iq 0,iq 0,.nils,iq 0] [(3,1,f)] fun t=>Ad 4 a t b fun h _ _=>An true 4 a h fun u=>Aj [u] h) (Ae 3 g b fun v _=>is0 c 138 [v] b fun w x _ _=>A5 [iq 0,iq 0,.nils,iq 0] [(0,3,w)] fun y=>Ad 4 a y x fun i _ _=>An true 4 a i fun z=>Aj [z] i)
def uC (b:Ah) (n:Nat) (c d:V) (e:H):O :=AE 123731968 c e fun f g _ _=>AE 123731969 d g fun h a _ _=>Ab 0 f fun i=>Ae 3 i a fun j _=>Ab 0 h fun k=>Ae 3 k a fun l _=>is0 b 139 [j,l] a fun m o _ _=>Aj [m] o
def SG (s:Ah) (n:Nat) (a:V) (b:H):O :=(fun (c:V->H->O)=>AN EE 3 a (iq 8) fun f=>Ai f (c f b) (AN EE 3 a (iq 9) fun g=>Ai g (c g b) (AN EE 3 a (iq 12) fun h=>Ai h (c h b) (AN EE 3 a (iq 19) fun i=>Ai i (c i b) (AN EE 3 a (iq 30) fun l=>c l b))))) fun m e=>Ai m (Aj [iq 1] e) ((fun (j:V->H->O)=>AN EE 3 a (iq 4) fun k=>Ai k (j k e) (AN EE 3 a (iq 5) fun o=>j o e)) fun p d=>Ai p (Aj [iq 2] d) (AN EE 3 a (iq 7) fun q=>Ai q (Aj [iq 3] d) (AN EE 3 a (iq 13) fun r=>Ai r (Aj [iq 4] d) (Aj [.fv (.int .i64 (-1))] d))))
def lA (d:Ah) (n:Nat) (e b:V) (a:H):O :=AJ b fun f=>Ab 2 f fun g=>Ag g a fun h _=>AP 1 h (iq 0) fun i=>Ag i a fun c _=>AJ c fun j=>Ab 0 j fun k=>Ag k a fun l _=>AN EE 3 l (iq 4) fun m=>Ai m (AJ b fun o=>Ab 2 o fun p=>Ag p a fun q _=>AP 1 q (iq 1) fun r=>Ag r a fun s _=>Ay (Al EE 146 1 [(0,s)]) 125832200 a fun t u _ _=>A0 [true,false,false,false] false false d 129 [e,c,iq 1,t] u fun v w _ _=>Aj [v] w) (Aj [.fv .nilp] a)
def Zb (A:Ah) (n:Nat) (B c:V) (a:H):O :=AJ c fun d=>Ab 2 d fun e=>Ag e a fun f _=>AP 1 f (iq 0) fun g=>Ag g a fun b _=>AJ b fun h=>Ab 0 h fun i=>Ag i a fun j _=>BJ EE 3 j (iq 7) fun k=>Ai k (Aj [.fv .nilp] a) (AJ c fun l=>Ab 0 l fun m=>Ag m a fun o _=>AN EE 3 o (iq 8) fun p=>Ai p (AJ b fun q=>Ab 2 q fun r=>Ag r a fun s _=>AP 1 s (iq 1) fun t=>Ag t a fun u _=>Aj [u] a) (AJ b fun v=>Ab 2 v fun w=>Ag w a fun x _=>AP 1 x (iq 2) fun y=>Ag y a fun z _=>Aj [z] a))
def Lf b k a e f g h l:=Aa [] b [] (AP 1 k (iq 1) fun m=>Ag m a fun n c=>Aa [] c [] (AJ e fun o=>Ab 2 o fun p=>Ag p a fun q r=>Aa [(c,[]),(b,[])] r [] (AP 1 q (iq 0) fun s=>Ag s a fun t u=>Aa [(c,[]),(b,[])] u [] (Ay (Al EE 146 4 [(0,.fv .nilp),(1,n),(2,.fv .nilp),(3,t)]) 127933452 a fun v w x y=>Aa [] x y (Ab 2 f fun z=>BK z v w fun d A B=>Aa [] A B (AJ e fun C=>Ab 2 C fun D=>Ag D d fun E i=>Aa [] i [] (AP 1 E (iq 0) fun F=>Ag F d fun G j=>Aa [] j [] (A0 [true,false] false false g 128 [h,f] d fun I J K L=>Aa [(j,[]),(i,[])] K L (Ay (Al EE 146 2 [(0,G),(1,I)]) 127934474 J fun M N P Q=>Aa [] P Q (A0 [true,false,false,false] false false g 129 [h,l,iq 2,M] N fun R S T U=>Aa [] T U (Aj [R] S)))))))))))
def aN (g:Ah) (n:Nat) (h b:V) (a:H):O :=AJ b fun i=>Ab 2 i fun j=>Ag j a fun k _=>AP 1 k (iq 3) fun l=>Ag l a fun c _=>AJ c fun m=>Ab 0 m fun o=>Ag o a fun d _=>AN EE 3 d (iq 11) fun p=>Ai p (AJ b fun q=>Ab 2 q fun r=>Ag r a fun s _=>AP 1 s (iq 1) fun t=>Ag t a fun u _=>Aj [u] a) (AN EE 3 d (iq 12) fun v=>Ai v (AJ b fun w=>Ae 7 w a fun x _=>ET 127932419 (.row [iq 0,iq 0,.nils,iq 0,iq 0,.nils,.fv (.nilp)] false) (.ptr (.own 127932419) 0) a fun e y _ _=>Ad 7 e x y fun f _ _=>AJ b fun z=>Ab 2 z fun A=>Ag A f fun B C=>Lf C B f c e g h b) (Aj [.fv .nilp] a))
def tL (a:Ah) (n:Nat) (f b:V) (c:H):O :=is0 a 140 [b,iq 19] c fun d e _ _=>Aj [d] e
def p8 (a:Ah) (n:Nat) (f b:V) (c:H):O :=is0 a 140 [b,iq 30] c fun d e _ _=>Aj [d] e
def cR (N:Ah) (n:Nat) (b:V) (e:H):O :=AJ b fun j=>Ab 1 j fun k=>Ag k e fun l _=>Bl EE 3 l (iq 1) fun m=>AJ b fun o=>Ab 1 o fun p=>BK p m e fun c _ _=>AJ b fun q=>Ab 1 q fun r=>Ag r c fun s _=>Fa EE 3 s (iq 0) fun a=>Ac a true c (fun t=>t b c [] []) fun u f _ _=>Ac a true f (fun v=>AJ u fun w=>v w f [] []) fun x g _ _=>Ac a true g (fun y=>Ab 3 x fun z=>y z g [] []) fun A d _ _=>Ac a true d (fun B=>Ag A d fun C D=>B C d D []) fun E h _ _=>Ac a true h (fun F=>AN EE 41 E (iq 0) fun G=>F G h [] []) fun I i _ _=>AB a I bF fun J=>Ai J (AJ b fun K=>Ab 3 K fun L=>BK L (iq 17) i fun M _ _=>Aj [] M) (Aj [] i)
def Jr (d:List V) a (e:List V->H->O):=Az d fun b f=>Az f fun c _=>BJ EE 144 b (.fv .nilp) fun g=>Ai g (AN EE 3 c (iq 0) fun h=>Ai h (AJ b fun i=>Ab 0 i fun j=>Ag j a fun k _=>Aj [k] a) (Bl EE 3 c (iq 1) fun l=>AJ b fun m=>Ab 1 m fun n=>Ag n a fun o _=>e [o,l] a)) (Bl EE 3 (.fv (.int .i64 (-1))) c fun p=>A5 [iq 0,iq 0,.nils,iq 0,iq 0,.nils,.fv (.nilp)] [(0,1,iq 1),(1,1,p)] fun q=>AE 132126723 q a fun r s _ _=>Aj [r] s)
def Zu (g:Ah) (n:Nat) (a b:V) (c:H):O :=BF n (fun d e f=>Jr e f d) [a,b] c
def uR (a:Ah) (n:Nat) (b c:V) (d:H):O :=CJ EE a (.fv (.func (.func 141) [] [])) [b,c] d fun e f _ _=>Aj [e] f
def EJ a c d n o:=AJ a fun p=>Ab 3 p fun q=>Ag q c fun r _=>BJ EE 41 r (iq 0) fun s=>Ai s (Aj [d] c) (Ab 0 n fun t=>Ag t c fun u _=>CJ EE o u [d] c fun h i _ _=>AN EE 122 h (.fv .nilp) fun b=>Ac b false i (fun v=>v a i [] []) fun w j _ _=>Ac b false j (fun x=>AJ w fun y=>x y j [] []) fun z k _ _=>Ac b false k (fun A=>Ab 3 z fun B=>A B k [] []) fun C e _ _=>Ac b false e (fun D=>Ag C e fun E F=>D E e F []) fun G l _ _=>Ac b false l (fun I=>BJ EE 41 G (iq 0) fun J=>I J l [] []) fun K f _ _=>AB b bT K fun L=>Ai L (Aj [d] f) ((fun (m:H->O)=>AJ a fun M=>Ab 0 M fun N=>Ag N f fun P _=>Bl EE 3 P (iq 1) fun Q=>AJ a fun R=>Ab 0 R fun S=>BK S Q f fun g _ _=>AJ a fun T=>Ab 0 T fun U=>Ag U g fun W _=>Fa EE 3 W (iq 0) fun X=>Ai X (AJ a fun Y=>Ab 3 Y fun Z=>BK Z (iq 17) g fun a0 _ _=>m a0) (m g)) fun a1=>Aj [h] a1))
def Pf (g:Ah) (n:Nat) (b c:V) (d:H):O :=AJ b fun s=>Ab 4 s fun t=>Ag t d fun u e=>Aa [] e [] (AJ c fun v=>Ab 0 v fun w=>Ag w d fun x h=>Aa [(e,[])] h [] (Ay (Gn EE 124 u x true) 134218760 d fun i y j k=>Aa [] j k (Ao 0 i fun z=>Ao 1 i fun A=>ET 134218764 (.row [.fv (.nilf)] false) (.ptr (.own 134218764) 0) y fun l B C D=>Aa [(j,k),(h,[]),(e,[])] C D (BK l z B fun m E F=>Aa [] E F (CK (IQ .not A) fun a=>Ac a false m (fun G=>G b m [] []) fun I o _ _=>Ac a false o (fun J=>AJ I fun K=>J K o [] []) fun L p _ _=>Ac a false p (fun M=>Ab 3 L fun N=>M N p [] []) fun P f _ _=>Ac a false f (fun Q=>Ag P f fun R S=>Q R f S []) fun T q _ _=>Ac a false q (fun U=>BJ EE 41 T (iq 0) fun W=>U W q [] []) fun X r _ _=>AB a bT X fun Y=>Ai Y (Aj [c] r) (A0 [true] false false g 125 [b] r fun _ Z _ _=>EJ b Z c l g))))))
def s9 (e:Ah) (n:Nat) (h f i j:V) (g:H):O :=AJ f fun k=>Ab 6 k fun l=>Ag l g fun m a=>Aa [] a [] (is0 e 142 [m,j] g fun o b c d=>Aa [] c d (AJ f fun p=>Ab 3 p fun q=>Ab 2 q fun r=>Ag r b fun s t=>Aa [(c,d),(a,[])] t [] (AP 3 s i fun u=>Ae 3 u b fun v w=>Aa [(c,d),(a,[])] w [] (A0 [true,false,false] false false e 97 [h,o,v] b fun x y z A=>Aa [] z A (Aj [x] y)))))
def Ho (p:List V) a b l f g d (q:H) e (r:List V->H->O):=Az p fun h s=>Az s fun i t=>Az t fun c _=>Fa EE 3 c i fun u=>Ai u (AP 3 h c fun v=>Ae 3 v a fun w _=>nw0 136321027 a fun m x _ _=>Ad 3 m w x fun j _ _=>Ae 3 m j fun y k=>Aa [] k [] (Ab 0 b fun z=>Ag z j fun A B=>Aa [(k,[])] B [] (is0 l 127 [A,c] j fun C D E F=>Aa [(k,[])] E F (Bq EE 3 f C fun G=>is0 l 130 [y,G,g] D fun I J K L=>Aa [] K L (AP 3 d c fun M=>Ad 3 M I J fun N P Q=>Aa [] P Q (Bq EE 3 c (iq 1) fun n=>Bm (q.own.map (·.1)) [136321027] [f,g,b,e,d,h,i,n] N fun R=>r [f,g,b,e,d,h,i,n] R)))))) (Ab 0 b fun S=>Ag S a fun T _=>Ab 1 b fun U=>Ag U a fun W _=>A5 [iq 0,iq 0,.nils] [(0,1,T),(1,1,W),(2,1,d)] fun X=>Ad 3 e X a fun o _ _=>An true 3 e o fun Y=>Aj [Y] o)
def MG (a:List V) b c d (e:List V->H->O):=Az a fun f g=>Az g fun h i=>Az i fun j k=>Az k fun l m=>Az m fun n o=>Ho o b j c f h n d l e
def XF (h:Ah) (n:Nat) (o d e:V) (f:H):O :=AE 136314880 o f fun a p _ _=>nw0 136314881 p fun c b _ _=>Ab 0 a fun q=>Ag q b fun r _=>AN EE 3 r (iq 1) fun s=>Ai s (Ae 3 a b fun t _=>CJ EE h e [t,d] b fun u v _ _=>Ad 3 c u v fun i _ _=>An true 3 c i fun w=>Aj [w] i) (Ab 2 a fun x=>Ag x b fun y _=>BC y fun j=>Ay (BE EE 136317955 29 j j) 136317955 b fun k l _ _=>Ab 2 a fun z=>Ag z l fun g _=>BC g fun m=>Bm (f.own.map (·.1)) [136321027] [d,e,a,c,k,g,m,iq 0] l fun A=>BF n (fun B C D=>MG C D h f B) [d,e,a,c,k,g,m,iq 0] A)
def iS (d:Ah) (n:Nat) (g h i j:V) (k:H):O :=AE 137363456 g k fun c l _ _=>nw0 137363457 l fun b a _ _=>Ab 1 c fun m=>Ag m a fun o _=>Bl EE 3 o h fun p=>Ag i a fun q _=>Pb EE 3 p q fun r=>Ai r (Ae 3 c a fun s _=>Ag j a fun t _=>is0 d 132 [s,t] a fun u v _ _=>Ad 3 b u v fun e _ _=>An true 3 b e fun w=>Aj [w] e) (Ae 3 c a fun x _=>is0 d 132 [x,iq 0] a fun y z _ _=>Ad 3 b y z fun f _ _=>An true 3 b f fun A=>Aj [A] f)
def pX (o:Ah) (n:Nat) (d e:V) (f:H):O :=AE 138412032 d f fun g h _ _=>nw0 138412033 h fun a b _ _=>Ab 1 g fun i=>Ag i b fun j _=>Bq EE 3 j e fun k=>A5 [iq 0,iq 0,.nils] [(0,1,iq 1),(1,1,k)] fun l=>Ad 3 a l b fun c _ _=>An true 3 a c fun m=>Aj [m] c
def sT (e:Ah) (n:Nat) (g h i:V) (j:H):O :=AE 139460608 i j fun k l _ _=>A0 [] true false e 144 [g] l fun m o a b=>Aa [] a b (A0 [] false true e 143 [m] o fun p f c d=>Aa [] c d (Ae 3 k f fun q r=>Aa [(c,d),(a,b)] r [] (A5 [iq 0,iq 0,iq 0,.nils] [(0,1,h),(1,3,q)] fun s=>Ay (Al EE 85 1 [(0,s)]) 139461638 f fun t u v w=>Aa [(c,d),(a,b)] v w (Ay (AR EE 139461639 false .append [85,85] [p,t]) 139461639 u fun x y z A=>Aa [] z A (Aj [x] y)))))
def qH (b:Ah) (n:Nat) (c d:V) (e:H):O :=AE 140509184 c e fun f g _ _=>AE 140509185 d g fun h a _ _=>Ae 3 f a fun i _=>Ay (val (CE (.func 146) [] [h])) 140510209 a fun j k _ _=>is0 b 145 [i,iq 0,j] k fun l m _ _=>Aj [l] m
def wU (d:Ah) (n:Nat) (e f g:V) (h:H):O :=AE 141557760 e h fun i j _ _=>AE 141557761 f j fun k l _ _=>AE 141557762 g l fun m o _ _=>nw0 141557763 o fun a b _ _=>Ae 3 i b fun p _=>Ay (val (CE (.func 147) [] [k,m])) 141558785 b fun q r _ _=>is0 d 130 [p,iq 0,q] r fun s t _ _=>Ad 3 a s t fun c _ _=>An true 3 a c fun u=>Aj [u] c
def qO (f:Ah) (n:Nat) (g h:V) (i:H):O :=AE 142606336 h i fun j c _ _=>Ae 3 j c fun k _=>is0 f 58 [g,iq 1,k] c fun d l _ _=>Ao 0 d fun m=>Ao 1 d fun e=>nw0 142607366 l fun b o _ _=>Ad 3 b m o fun a _ _=>BJ EE 41 e (iq 0) fun p=>Ai p (Aj [iq 0,e] a) (Ab 0 b fun q=>Ag q a fun r _=>BJ EE 3 r (iq 2) fun s=>Ai s (Aj [iq 0,iq 12] a) (Ab 1 b fun t=>Ag t a fun u _=>Aj [u,iq 0] a))
def tO (b:Ah) (n:Nat) (f g:V) (h:H):O :=AE 143654912 f h fun i j _ _=>AE 143654913 g j fun k l _ _=>nw0 143654914 l fun c a _ _=>Ae 3 i a fun m _=>Ae 3 k a fun o _=>is0 b 135 [m,iq 0,o] a fun p q _ _=>is0 b 82 [p] q fun d r _ _=>Ao 0 d fun s=>Ao 1 d fun t=>Ad 3 c s r fun e _ _=>An true 3 c e fun u=>Aj [u,t] e
def rO (c:Ah) (n:Nat) (h:V) (i:H):O :=AE 144703488 h i fun d j _ _=>nw0 144703489 j fun a e _ _=>Ae 3 d e fun k _=>is0 c 95 [k] e fun l b _ _=>CK (IQ .not l) fun m=>Ai m (Ae 3 d b fun o _=>is0 c 148 [o] b fun p q _ _=>Ad 3 a p q fun f _ _=>An true 3 a f fun r=>Aj [r] f) (Ae 3 d b fun s _=>is0 c 149 [s] b fun t u _ _=>Ad 3 a t u fun g _ _=>An true 3 a g fun v=>Aj [v] g)
def Zk (p:Ah) (n:Nat) (q r:V) (s:H):O :=AE 145752064 q s fun d t _ _=>AE 145752065 r t fun e c _ _=>Ab 0 d fun u=>Ag u c fun v _=>Ab 0 e fun w=>Ag w c fun x _=>AN EE 3 v x fun a=>Ac a true c (fun y=>Ab 1 d fun z=>y z c [] []) fun A f _ _=>Ac a true f (fun B=>Ag A f fun C D=>B C f D []) fun E j _ _=>Ac a true j (fun F=>Ab 1 e fun G=>F G j [] []) fun I g _ _=>Ac a true g (fun J=>Ag I g fun K L=>J K g L []) fun M k _ _=>Ac a true k (fun N=>AN EE 3 E M fun P=>N P k [] []) fun Q l _ _=>AB a Q bF fun b=>Ac b true l (fun R=>Ab 2 d fun S=>R S l [] []) fun T h _ _=>Ac b true h (fun U=>Ag T h fun W X=>U W h X []) fun Y m _ _=>Ac b true m (fun Z=>Ab 2 e fun a0=>Z a0 m [] []) fun a1 i _ _=>Ac b true i (fun a2=>Ag a1 i fun a3 a4=>a2 a3 i a4 []) fun a5 o _ _=>Ac b true o (fun a6=>is0 p 150 [Y,a5,.fv (.func (.func 139) [] [])] o a6) fun a7 a8 _ _=>AB b a7 bF fun a9=>Aj [a9] a8
def iP (x:Ah) (n:Nat) (b c:V) (a:H):O :=AJ b fun d=>Ab 2 d fun e=>Ag e a fun f _=>AP 1 f (iq 0) fun g=>Ag g a fun h _=>AJ h fun i=>Ab 0 i fun j=>Ag j a fun k _=>BJ EE 3 k c fun l=>Ai l (Aj [.fv .nilp] a) (AJ b fun m=>Ab 2 m fun o=>Ag o a fun p _=>AP 1 p (iq 0) fun q=>Ag q a fun r _=>AJ r fun s=>Ab 2 s fun t=>Ag t a fun u _=>AP 1 u (iq 0) fun v=>Ag v a fun w _=>Aj [w] a)
def RU (t:Ah) (n:Nat) (a e:V) (b:H):O :=(fun (f:H->O)=>(fun (c:V->H->O)=>AN EE 3 a (iq 3) fun g=>Ai g (c g b) (AN EE 3 a (iq 4) fun h=>Ai h (c h b) (AN EE 3 a (iq 6) fun i=>Ai i (c i b) (AN EE 3 a (iq 20) fun j=>Ai j (c j b) (AN EE 3 a (iq 28) fun k=>Ai k (c k b) (AN EE 3 a (iq 29) fun l=>c l b)))))) fun m d=>Ai m (AN EE 3 e (iq 1) fun o=>Ai o (Aj [iq 1] d) (f d)) (AN EE 3 a (iq 13) fun p=>Ai p (AN EE 3 e (iq 0) fun q=>Ai q (Aj [iq 1] d) (AN EE 3 e (iq 2) fun r=>Ai r (Aj [iq 2] d) (f d))) (f d))) fun s=>Aj [iq 0] s
def Lv i a c b d (j:H) e (k:List V->H->O):=Ai i (AP 1 a c fun l=>Ag l b fun m _=>A5 [.fv (.nilp),.fv (.nilp)] [(0,1,m),(1,1,d)] fun f=>qC (I4 true 148901891 f) 148901891 f b fun g n _ _=>Bq EE 3 c (iq 1) fun h=>Bm (j.own.map (·.1)) [148901891] [g,a,e,h] n fun o=>k [g,a,e,h] o) (Aj [d] b)
def Qf (c:List V) d e (f:List V->H->O):=Az c fun g h=>Az h fun i j=>Az j fun a k=>Az k fun b _=>Fa EE 3 b a fun l=>Lv l i b d g e a f
def dE (i:Ah) (n:Nat) (c a:V) (b:H):O :=BC a fun d=>Bm (b.own.map (·.1)) [148901891] [c,a,d,iq 0] b fun e=>BF n (fun f g h=>Qf g h b f) [c,a,d,iq 0] e
def rM (g:Ah) (n:Nat) (a:V) (b:H):O :=BC a fun c=>BC a fun d=>Ay (IP EE 85 a none (some c) (some d)) 149947397 b fun e f _ _=>Aj [e] f
def sN (h:Ah) (n:Nat) (a:V) (b:H):O :=AN EE 85 a .nils fun c=>Ai c (Aj [.nils] b) (Ay (Al EE 85 0 []) 150998016 b fun d e _ _=>Ay (AR EE 150998018 false .append [85,85] [d,a]) 150998018 e fun f g _ _=>Aj [f] g)
def HH (n:List V) b c d e j f g (o:H) (p:List V->H->O):=Az n fun a _=>Fa EE 3 a b fun q=>Ai q (AP 3 c a fun r=>Ae 3 r d fun s _=>nw0 152048643 d fun k t _ _=>Ad 3 k s t fun h _ _=>Ae 3 k h fun u i=>Aa [] i [] (Ab 0 e fun v=>Ag v h fun w x=>Aa [(i,[])] x [] (is0 j 127 [w,a] h fun y z A B=>Aa [(i,[])] A B (Bq EE 3 f y fun C=>is0 j 145 [u,C,g] z fun D l E F=>Aa [] E F (Ai D (Aj [bT] l) (Bq EE 3 a (iq 1) fun m=>Bm (o.own.map (·.1)) [152048643] [f,g,e,c,b,m] l fun G=>p [f,g,e,c,b,m] G)))))) (Aj [bF] d)
def Lt (a:List V) b c d (e:List V->H->O):=Az a fun f g=>Az g fun h i=>Az i fun j k=>Az k fun l m=>Az m fun n o=>HH o n l b j c f h d e
def Tz (g:Ah) (n:Nat) (i c d:V) (e:H):O :=AE 152043520 i e fun a b _ _=>Ab 0 a fun j=>Ag j b fun k _=>AN EE 3 k (iq 1) fun l=>Ai l (Ab 1 a fun m=>Ag m b fun o _=>CJ EE g d [o,c] b fun p q _ _=>Aj [p] q) (Ab 2 a fun r=>Ag r b fun f _=>BC f fun h=>Bm (e.own.map (·.1)) [152048643] [c,d,a,f,h,iq 0] b fun s=>BF n (fun t u v=>Lt u v g e t) [c,d,a,f,h,iq 0] s)
def Z9 (t:Ah) (n:Nat) (c d g:V) (b:H):O :=Bl EE 3 c d fun h=>Ag g b fun i _=>AN EE 3 h i fun a=>Ac a true b (fun j=>j c b [] []) fun k e _ _=>Ac a true e (fun l=>l d e [] []) fun m f _ _=>Ac a true f (fun o=>Pb EE 3 k m fun p=>o p f [] []) fun q r _ _=>AB a q bF fun s=>Aj [s] r
def dU (c:Ah) (n:Nat) (k e f l:V) (m:H):O :=AE 154140672 k m fun d o _ _=>nw0 154140673 o fun b a _ _=>Ab 1 d fun p=>Ag p a fun q _=>Bl EE 3 q e fun g=>Ag f a fun r _=>J4 EE 3 g r fun s=>Ai s (Ae 3 d a fun t _=>is0 c 132 [t,.fv (.int .i64 (-1))] a fun u v _ _=>Ad 3 b u v fun h _ _=>An true 3 b h fun w=>Aj [w] h) (Ag f a fun x _=>AN EE 3 g x fun y=>Ai y (Ae 3 l a fun z _=>is0 c 99 [z,e,iq 0] a fun A B _ _=>Ad 3 b A B fun i _ _=>An true 3 b i fun C=>Aj [C] i) (Ae 3 d a fun D _=>is0 c 132 [D,iq 0] a fun E F _ _=>Ad 3 b E F fun j _ _=>An true 3 b j fun G=>Aj [G] j))
def kG f j (k:H) l m n t:=Ab 2 f fun u=>Ag u j fun g _=>BC g fun o=>Bm (k.own.map (·.1)) [155193347] [f,l,m,g,o,iq 0] j fun v=>BF n (fun w x a=>Az x fun b y=>Az y fun c z=>Az z fun d A=>Az A fun h B=>Az B fun i C=>Az C fun e _=>Fa EE 3 e i fun D=>Ai D (AP 3 h e fun E=>Ae 3 E a fun F _=>nw0 155193347 a fun p G _ _=>Ad 3 p F G fun q _ _=>Ae 3 p q fun I _=>is0 t 148 [I] q fun J K _ _=>AP 3 d e fun L=>Ad 3 L J K fun M _ _=>Bq EE 3 e (iq 1) fun r=>Bm (k.own.map (·.1)) [155193347] [b,c,d,h,i,r] M fun N=>w [b,c,d,h,i,r] N) (Ab 0 b fun P=>Ag P a fun Q _=>Ab 1 b fun R=>Ag R a fun S _=>A5 [iq 0,iq 0,.nils] [(0,1,Q),(1,1,S),(2,1,d)] fun T=>Ad 3 c T a fun s _ _=>An true 3 c s fun U=>Aj [U] s)) [f,l,m,g,o,iq 0] v
def Acf (e:Ah) (n:Nat) (f:V) (a:H):O :=AE 155189248 f a fun b g _ _=>nw0 155189249 g fun h c _ _=>Ab 2 b fun i=>Ag i c fun j _=>BC j fun d=>Ay (BE EE 155190275 29 d d) 155190275 c fun k l _ _=>kG b l a h k n e
def Gi a k c d b:=Ag k a fun e _=>AN EE 3 e (iq 4) fun l=>Ai l (Ab 2 c fun m=>Ag m a fun n _=>A5 [iq 0,iq 0,.nils] [(0,1,iq 11)] fun o=>AP 3 n (iq 0) fun p=>Ad 3 p o a fun f _ _=>Ae 3 c f fun q _=>is0 d 151 [q] f fun r s _ _=>Ad 3 b r s fun g _ _=>An true 3 b g fun t=>Aj [t] g) (AN EE 3 e (iq 7) fun u=>Ai u (Ab 2 c fun v=>Ag v a fun w _=>A5 [iq 0,iq 0,.nils] [(0,1,iq 11)] fun x=>AP 3 w (iq 0) fun y=>Ad 3 y x a fun h _ _=>Ae 3 c h fun z _=>is0 d 152 [z] h fun A B _ _=>Ad 3 b A B fun i _ _=>An true 3 b i fun C=>Aj [C] i) (Ae 3 c a fun D _=>Ad 3 b D a fun j _ _=>An true 3 b j fun E=>Aj [E] j))
def Gv (m:List V) c d e a j (n:H) f g (o:List V->H->O):=Az m fun b _=>Fa EE 3 b c fun p=>Ai p (AP 3 d b fun q=>Ae 3 q e fun r _=>nw0 156241923 e fun k s _ _=>Ad 3 k r s fun h _ _=>Ab 2 a fun t=>Ag t h fun u i=>Aa [] i [] (Ae 3 k h fun v w=>Aa [(i,[])] w [] (is0 j 149 [v] h fun x y z A=>Aa [(i,[])] z A (AP 3 u b fun B=>Ad 3 B x y fun C D E=>Aa [] D E (Bq EE 3 b (iq 1) fun l=>Bm (n.own.map (·.1)) [156241923] [f,g,a,d,c,l] C fun F=>o [f,g,a,d,c,l] F))))) (Ab 0 f fun G=>Gi e G a j g)
def HD (a:List V) b c d (e:List V->H->O):=Az a fun f g=>Az g fun h i=>Az i fun j k=>Az k fun l m=>Az m fun n o=>Gv o n l b j c d f h e
def Sz (p:Ah) (n:Nat) (q:V) (e:H):O :=AE 156237824 q e fun a r _ _=>nw0 156237825 r fun h c _ _=>Ab 0 a fun s=>Ag s c fun t b=>Aa [] b [] (Ab 1 a fun u=>Ag u c fun v d=>Aa [(b,[])] d [] (Ab 2 a fun w=>Ag w c fun x i=>Aa [(d,[]),(b,[])] i [] (BC x fun j=>Ay (BE EE 156238855 29 j j) 156238855 c fun y z k l=>Aa [(d,[]),(b,[])] k l (A5 [iq 0,iq 0,.nils] [(0,1,t),(1,1,v),(2,1,y)] fun A=>nw0 156238857 z fun f B C D=>Aa [(k,l),(i,[]),(d,[]),(b,[])] C D (Ad 3 f A B fun m E F=>Aa [] E F (Ab 2 a fun G=>Ag G m fun g _=>BC g fun o=>Bm (e.own.map (·.1)) [156241923] [a,h,f,g,o,iq 0] m fun I=>BF n (fun J K L=>HD K L p e J) [a,h,f,g,o,iq 0] I))))))
def HZ a b c d e m f (n:H) (o:List V->H->O):=Fa EE 3 a b fun p=>Ai p (AP 3 c a fun q=>Ae 3 q d fun r _=>nw0 157291523 d fun h s _ _=>Ad 3 h r s fun i _ _=>AP 3 e a fun t=>Ae 3 t i fun u _=>nw0 157292548 i fun j v _ _=>Ad 3 j u v fun g _ _=>Ae 3 h g fun w _=>Ae 3 j g fun x _=>CJ EE m f [w,x] g fun y k _ _=>CK (IQ .not y) fun z=>Ai z (Aj [bF] k) (Bq EE 3 a (iq 1) fun l=>Bm (n.own.map (·.1)) [157291523,157292548] [e,f,c,b,l] k fun A=>o [e,f,c,b,l] A)) (Aj [bT] d)
def Jv (a:List V) b c d (e:List V->H->O):=Az a fun f g=>Az g fun h i=>Az i fun j k=>Az k fun l m=>Az m fun n _=>HZ n l j b f c h d e
def SU (f:Ah) (n:Nat) (a c d:V) (b:H):O :=BC a fun g=>BC c fun h=>BJ EE 3 g h fun i=>Ai i (Aj [bF] b) (BC a fun e=>Bm (b.own.map (·.1)) [157291523,157292548] [c,d,a,e,iq 0] b fun j=>BF n (fun k l m=>Jv l m f b k) [c,d,a,e,iq 0] j)
def RT d a k f l c m:=Ac a false d (fun n=>Ag k d fun o p=>n o d p []) fun q g _ _=>Ac a false g (fun r=>AP 3 q (iq 0) fun s=>r s g [] []) fun t e _ _=>Ac a false e (fun u=>Ae 3 t e fun v w=>u v e w []) fun x h _ _=>Ac a false h (fun y=>is0 f 134 [x,iq 0] h y) fun z b _ _=>AB a bT z fun A=>Ai A (Ae 3 l b fun B _=>Ad 3 c B b fun i _ _=>An true 3 c i fun C=>Aj [C] i) (Ab 2 m fun D=>Ag D b fun E _=>AP 3 E (iq 0) fun F=>Ae 3 F b fun G _=>A5 [iq 0,iq 0,.nils] [(0,1,iq 11)] fun I=>is0 f 135 [G,iq 0,I] b fun J K _ _=>Ad 3 c J K fun j _ _=>An true 3 c j fun L=>Aj [L] j)
def QF e f m b n o p:=Ac f false e (fun q=>BJ EE 3 m (iq 1) fun r=>q r e [] []) fun s g _ _=>AB f bT s fun a=>Ac a false g (fun t=>Ab 2 b fun u=>t u g [] []) fun v c _ _=>Ac a false c (fun w=>Ag v c fun x y=>w x c y []) fun z h _ _=>Ac a false h (fun A=>AP 3 z (iq 1) fun B=>A B h [] []) fun C i _ _=>Ac a false i (fun D=>Ab 1 C fun E=>D E i [] []) fun F d _ _=>Ac a false d (fun G=>Ag F d fun I J=>G I d J []) fun K j _ _=>Ac a false j (fun L=>BJ EE 3 K (iq 0) fun M=>L M j [] []) fun N k _ _=>AB a bT N fun l=>Ac l false k (fun P=>Ab 2 b fun Q=>P Q k [] []) fun R S _ _=>RT S l R n o p b
def S151 (j:Ah) (n:Nat) (k:V) (l:H):O :=AE 158334976 k l fun g m _ _=>nw0 158334977 m fun o c _ _=>Ab 2 g fun p=>Ag p c fun q _=>AP 3 q (iq 1) fun r=>Ae 3 r c fun s _=>nw0 158336004 c fun b t _ _=>Ad 3 b s t fun d _ _=>Ab 0 b fun u=>Ag u d fun v _=>BJ EE 3 v (iq 5) fun a=>Ac a false d (fun w=>Ab 2 b fun x=>w x d [] []) fun y e _ _=>Ac a false e (fun z=>Ag y e fun A B=>z A e B []) fun C h _ _=>Ac a false h (fun D=>AP 3 C (iq 1) fun E=>D E h [] []) fun F i _ _=>Ac a false i (fun G=>Ab 0 F fun I=>G I i [] []) fun J f _ _=>Ac a false f (fun K=>Ag J f fun L M=>K L f M []) fun N P _ _=>QF P a N b j g o
def G5 d e h a p i j q r s c t:=Aa [] d e (Ac a false h (fun u=>Ab 2 p fun v=>u v h [] []) fun w f _ _=>Ac a false f (fun x=>Ag w f fun y z=>x y f z []) fun A k B C=>Aa [(d,e),(i,j)] B C (Ac a false k (fun D=>AP 3 A (iq 0) fun E=>D E k [] []) fun F g _ _=>Ac a false g (fun G=>Ae 3 F g fun I J=>G I g J []) fun K l L M=>Aa [(d,e),(i,j)] L M (Ac a false l (fun N=>is0 q 139 [r,K] l N) fun P m Q R=>Aa [] Q R (Ac a false m (fun S=>CK (IQ .not P) fun T=>S T m [] []) fun U b _ _=>AB a bT U fun W=>Ai W (Ae 3 s b fun X _=>Ad 3 c X b fun n _ _=>An true 3 c n fun Y=>Aj [Y] n) (Ab 2 t fun Z=>Ag Z b fun a0 _=>AP 3 a0 (iq 0) fun a1=>Ae 3 a1 b fun a2 _=>Ad 3 c a2 b fun o _ _=>An true 3 c o fun a3=>Aj [a3] o)))))
def Ha p q r i j s t b u v w x y:=nw0 159384585 p fun d z A B=>Aa [(q,r),(i,[]),(j,[]),(s,[]),(t,[])] A B (Ad 3 b u z fun C D E=>Aa [(i,[]),(j,[])] D E (Ad 3 d v C fun e F G=>Aa [] F G (Ab 0 b fun I=>Ag I e fun J K=>Aa [] K [] (BJ EE 3 J (iq 8) fun c=>Ac c false e (fun L=>Ab 0 d fun M=>L M e [] []) fun N f _ _=>Ac c false f (fun P=>Ag N f fun Q R=>P Q f R []) fun S k T U=>Aa [] T U (Ac c false k (fun W=>BJ EE 3 S (iq 9) fun X=>W X k [] []) fun Y l _ _=>AB c bT Y fun a=>Ac a false l (fun Z=>Ab 2 b fun a0=>Z a0 l [] []) fun a1 g _ _=>Ac a false g (fun a2=>Ag a1 g fun a3 a4=>a2 a3 g a4 []) fun a5 m n o=>Aa [] n o (Ac a false m (fun a6=>AP 3 a5 (iq 0) fun a7=>a6 a7 m [] []) fun a8 h _ _=>Ac a false h (fun a9=>Ae 3 a8 h fun b0 b1=>a9 b0 h b1 []) fun b2 b3 b4 b5=>G5 b4 b5 b3 a d n o w b2 x y b))))))
def Yw (i:Ah) (n:Nat) (j:V) (k:H):O :=AE 159383552 j k fun d l _ _=>nw0 159383553 l fun m a _ _=>Ab 2 d fun o=>Ag o a fun p b=>Aa [] b [] (AP 3 p (iq 1) fun q=>Ae 3 q a fun r c=>Aa [] c [] (Ab 2 d fun s=>Ag s a fun t e=>Aa [(c,[]),(b,[])] e [] (AP 3 t (iq 2) fun u=>Ae 3 u a fun v f=>Aa [(c,[]),(b,[])] f [] (nw0 159384584 a fun w x g h=>Aa [(f,[]),(e,[]),(c,[]),(b,[])] g h (Ha x g h f e c b w r v i d m)))))
end
noncomputable section
abbrev jR:={t:DT // t.Ok EE ft.get}
def nd (m:Nat) (a b:jR):jR:=⟨.node m a.1 b.1,a.2,b.2⟩
def lf0 (f:Nat) (G:Ah->Nat->Hp->OH) (e:(fun ih n h=>It EE ih ft.get n f [] h)=fun ih n h=>G ih n h:=by kernel_rfl):jR :=⟨.leaf f fun ih n=>ar0 (G ih n),fun ih n _ _ _ r=>rK (F:=It EE ih ft.get n f) (fun h=>congrFun (congrFun (congrFun e ih) n) h) r⟩
def Ir (f:Nat) (G:Ah->Nat->IV->Hp->OH) (e:(fun ih n a h=>It EE ih ft.get n f [a] h)=fun ih n a h=>G ih n a h:=by kernel_rfl):jR :=⟨.leaf f fun ih n=>ar1 (G ih n),fun ih n _ _ _ r=>sP (F:=It EE ih ft.get n f) (fun a h=>congrFun (congrFun (congrFun (congrFun e ih) n) a) h) r⟩
def Fe (f:Nat) (G:Ah->Nat->IV->IV->Hp->OH) (e:(fun ih n a b h=>It EE ih ft.get n f [a,b] h)=fun ih n a b h=>G ih n a b h:=by kernel_rfl):jR :=⟨.leaf f fun ih n=>ar2 (G ih n),fun ih n _ _ _ r=>sH (F:=It EE ih ft.get n f) (fun a b h=>congrFun (congrFun (congrFun (congrFun (congrFun e ih) n) a) b) h) r⟩
def J5 (f:Nat) (G:Ah->Nat->IV->IV->IV->Hp->OH) (e:(fun ih n a b c h=>It EE ih ft.get n f [a,b,c] h)=fun ih n a b c h=>G ih n a b c h:=by kernel_rfl):jR :=⟨.leaf f fun ih n=>ar3 (G ih n),fun ih n _ _ _ r=>v4 (F:=It EE ih ft.get n f) (fun a b c h=>congrFun (congrFun (congrFun (congrFun (congrFun (congrFun e ih) n) a) b) c) h) r⟩
def MH (f:Nat) (G:Ah->Nat->IV->IV->IV->IV->Hp->OH) (e:(fun ih n a b c d h=>It EE ih ft.get n f [a,b,c,d] h)=fun ih n a b c d h=>G ih n a b c d h:=by kernel_rfl):jR :=⟨.leaf f fun ih n=>ar4 (G ih n),fun ih n _ _ _ r=>rC (F:=It EE ih ft.get n f) (fun a b c d h=>congrFun (congrFun (congrFun (congrFun (congrFun (congrFun (congrFun e ih) n) a) b) c) d) h) r⟩
def lf5 (f:Nat) (G:Ah->Nat->IV->IV->IV->IV->IV->Hp->OH) (e:(fun ih n a b c d x h=>It EE ih ft.get n f [a,b,c,d,x] h)=fun ih n a b c d x h=>G ih n a b c d x h:=by kernel_rfl):jR :=⟨.leaf f fun ih n=>ar5 (G ih n),fun ih n _ _ _ r=>tI (F:=It EE ih ft.get n f) (fun a b c d x h=>congrFun (congrFun (congrFun (congrFun (congrFun (congrFun (congrFun (congrFun e ih) n) a) b) c) d) x) h) r⟩
def ttr:jR :=
 nd 86 (nd 52 (nd 30 (nd 22 (nd 14 (nd 12 (nd 11 (MH 4 S4)
 (lf0 11 S11))
 (nd 13 (Ir 12 vA)
 (Ir 13 S13)))
 (nd 20 (nd 19 (MH 14 S14)
 (J5 19 S19))
 (nd 21 (Ir 20 S20)
 (Ir 21 S21))))
 (nd 26 (nd 24 (nd 23 (J5 22 S22)
 (Fe 23 kZ))
 (nd 25 (Ir 24 S24)
 (Fe 25 xE)))
 (nd 28 (nd 27 (Fe 26 S26)
 (MH 27 S27))
 (nd 29 (Ir 28 S28)
 (J5 29 S29)))))
 (nd 41 (nd 35 (nd 32 (nd 31 (MH 30 S30)
 (J5 31 S31))
 (nd 33 (J5 32 S32)
 (MH 33 S33)))
 (nd 39 (nd 38 (J5 35 lE)
 (Fe 38 S38))
 (nd 40 (Ir 39 S39)
 (Fe 40 xK))))
 (nd 47 (nd 43 (nd 42 (Fe 41 S41)
 (MH 42 S42))
 (nd 45 (Ir 43 S43)
 (Ir 45 xF)))
 (nd 49 (nd 48 (Fe 47 nS)
 (Ir 48 S48))
 (nd 50 (Fe 49 S49)
 (nd 51 (Ir 50 S50)
 (MH 51 nI)))))))
 (nd 69 (nd 60 (nd 56 (nd 54 (nd 53 (Fe 52 S52)
 (J5 53 S53))
 (nd 55 (Ir 54 S54)
 (Fe 55 S55)))
 (nd 58 (nd 57 (Ir 56 S56)
 (Fe 57 S57))
 (nd 59 (J5 58 S58)
 (MH 59 S59))))
 (nd 64 (nd 62 (nd 61 (J5 60 S60)
 (Ir 61 S61))
 (nd 63 (Fe 62 S62)
 (Fe 63 S63)))
 (nd 66 (nd 65 (lf0 64 S64)
 (Fe 65 S65))
 (nd 67 (MH 66 S66)
 (nd 68 (MH 67 xB)
 (MH 68 S68))))))
 (nd 77 (nd 73 (nd 71 (nd 70 (MH 69 S69)
 (Fe 70 S70))
 (nd 72 (Fe 71 S71)
 (MH 72 S72)))
 (nd 75 (nd 74 (J5 73 S73)
 (J5 74 S74))
 (nd 76 (MH 75 S75)
 (Fe 76 S76))))
 (nd 81 (nd 79 (nd 78 (Fe 77 S77)
 (Fe 78 S78))
 (nd 80 (Fe 79 p7)
 (J5 80 S80)))
 (nd 83 (nd 82 (Fe 81 S81)
 (Ir 82 w9))
 (nd 84 (J5 83 S83)
 (nd 85 (Fe 84 S84)
 (Fe 85 S85))))))))
 (nd 119 (nd 102 (nd 94 (nd 90 (nd 88 (nd 87 (Fe 86 S86)
 (Fe 87 S87))
 (nd 89 (Fe 88 tJ)
 (Fe 89 S89)))
 (nd 92 (nd 91 (Ir 90 yD)
 (Ir 91 S91))
 (nd 93 (Ir 92 S92)
 (Ir 93 S93))))
 (nd 98 (nd 96 (nd 95 (Fe 94 pS)
 (Ir 95 S95))
 (nd 97 (lf0 96 S96)
 (J5 97 S97)))
 (nd 100 (nd 99 (MH 98 S98)
 (J5 99 S99))
 (nd 101 (J5 100 sS)
 (MH 101 rX)))))
 (nd 110 (nd 106 (nd 104 (nd 103 (MH 102 rP)
 (Fe 103 bR))
 (nd 105 (J5 104 pM)
 (MH 105 Ze)))
 (nd 108 (nd 107 (MH 106 pL)
 (J5 107 wW))
 (nd 109 (J5 108 wI)
 (J5 109 uO))))
 (nd 114 (nd 112 (nd 111 (J5 110 qP)
 (J5 111 sL))
 (nd 113 (MH 112 r9)
 (Fe 113 wJ)))
 (nd 116 (nd 115 (lf5 114 rS)
 (Fe 115 S115))
 (nd 117 (Ir 116 lZ)
 (nd 118 (Ir 117 vN)
 (Fe 118 uC)))))))
 (nd 136 (nd 127 (nd 123 (nd 121 (nd 120 (Ir 119 SG)
 (Fe 120 lA))
 (nd 122 (Fe 121 Zb)
 (Fe 122 aN)))
 (nd 125 (nd 124 (Fe 123 tL)
 (Fe 124 p8))
 (nd 126 (Ir 125 cR)
 (Fe 126 Zu))))
 (nd 131 (nd 129 (nd 128 (Fe 127 uR)
 (Fe 128 Pf))
 (nd 130 (MH 129 s9)
 (J5 130 XF)))
 (nd 133 (nd 132 (MH 131 iS)
 (Fe 132 pX))
 (nd 134 (J5 133 sT)
 (nd 135 (Fe 134 qH)
 (J5 135 wU))))))
 (nd 144 (nd 140 (nd 138 (nd 137 (Fe 136 qO)
 (Fe 137 tO))
 (nd 139 (Ir 138 rO)
 (Fe 139 Zk)))
 (nd 142 (nd 141 (Fe 140 iP)
 (Fe 141 RU))
 (nd 143 (Fe 142 dE)
 (Ir 143 rM))))
 (nd 148 (nd 146 (nd 145 (Ir 144 sN)
 (J5 145 Tz))
 (nd 147 (J5 146 Z9)
 (MH 147 dU)))
 (nd 150 (nd 149 (Ir 148 Acf)
 (Ir 149 Sz))
 (nd 151 (J5 150 SU)
 (nd 152 (Ir 151 S151)
 (Ir 152 Yw))))))))
def dt:DT:=ttr.1
theorem Aa5:dt.Ok EE ft.get:=ttr.2
theorem vR:∀n f args h x,SS dt n f args h=some x->run EE n f args h=some x:=Aai Abh Aa5
end
end Idl
end Go.Proofs.YtnenpcghegcnhaaGreat

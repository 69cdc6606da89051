/- Part 9 of a proof. No statement is proved here. -/
import Derived.Test.YtnenpcghegcnhaaGreatKernelShiftK8
set_option linter.all false
set_option maxRecDepth 20000
set_option maxHeartbeats 16000000
noncomputable section
set_option maxRecDepth 100000
set_option linter.unusedVariables false
namespace Go.Proofs.YtnenpcghegcnhaaGreat
namespace Idl
noncomputable section
def lM (x:Ah) (n:Nat) (a:V) (c:H):O :=AK a fun f=>Ab 0 f fun g=>Ag g c fun h _=>Bs EE 3 h (iq 1) fun i=>AK a fun j=>Ab 0 j fun k=>BM k i c fun b _ _=>(fun (d:H->O)=>AK a fun l=>Ab 0 l fun m=>Ag m b fun o _=>Kd EE 3 o (iq 1000) fun p=>Ai p (AK a fun q=>Ab 2 q fun r=>BM r (iq 17) b fun s _ _=>d s) (d b)) fun e=>AK a fun t=>Ab 2 t fun u=>Ag u e fun v _=>AP EE 3 v (iq 0) fun w=>Aj [w] e
def vV (c:Ah) (n:Nat) (j:V) (k:H):O :=AE 122683392 j k fun l m _ _=>EU 122683393 (.row [iq 0,iq 0,.nils,iq 0] false) (.ptr (.own 122683393) 0) m fun a d _ _=>Ae 3 l d fun o _=>is0 c 82 [o] d fun e p _ _=>Ao 0 e fun q=>Ao 1 e fun f=>nw0 122684421 p fun g r _ _=>Ac 3 g q r fun b _ _=>BL EE 41 f (iq 0) fun s=>Ai s (A7 [iq 0,iq 0,.nils,iq 0] [(3,1,f)] fun t=>Ac 4 a t b fun h _ _=>An true 4 a h fun u=>Aj [u] h) (Ae 3 g b fun v _=>is0 c 138 [v] b fun w x _ _=>A7 [iq 0,iq 0,.nils,iq 0] [(0,3,w)] fun y=>Ac 4 a y x fun i _ _=>An true 4 a i fun z=>Aj [z] i)
def vU (b:Ah) (n:Nat) (c d:V) (e:H):O :=AE 123731968 c e fun f g _ _=>AE 123731969 d g fun h a _ _=>Ab 0 f fun i=>Ae 3 i a fun j _=>Ab 0 h fun k=>Ae 3 k a fun l _=>is0 b 139 [j,l] a fun m o _ _=>Aj [m] o
def Tl (s:Ah) (n:Nat) (a:V) (b:H):O :=(fun (c:V->H->O)=>AP EE 3 a (iq 8) fun f=>Ai f (c f b) (AP EE 3 a (iq 9) fun g=>Ai g (c g b) (AP EE 3 a (iq 12) fun h=>Ai h (c h b) (AP EE 3 a (iq 19) fun i=>Ai i (c i b) (AP EE 3 a (iq 30) fun l=>c l b))))) fun m e=>Ai m (Aj [iq 1] e) ((fun (j:V->H->O)=>AP EE 3 a (iq 4) fun k=>Ai k (j k e) (AP EE 3 a (iq 5) fun o=>j o e)) fun p d=>Ai p (Aj [iq 2] d) (AP EE 3 a (iq 7) fun q=>Ai q (Aj [iq 3] d) (AP EE 3 a (iq 13) fun r=>Ai r (Aj [iq 4] d) (Aj [.fv (.int .i64 (-1))] d))))
def oH (d:Ah) (n:Nat) (e b:V) (a:H):O :=AK b fun f=>Ab 2 f fun g=>Ag g a fun h _=>AQ 1 h (iq 0) fun i=>Ag i a fun c _=>AK c fun j=>Ab 0 j fun k=>Ag k a fun l _=>AP EE 3 l (iq 4) fun m=>Ai m (AK b fun o=>Ab 2 o fun p=>Ag p a fun q _=>AQ 1 q (iq 1) fun r=>Ag r a fun s _=>Az (Al EE 146 1 [(0,s)]) 125832200 a fun t u _ _=>A5 [true,false,false,false] false false d 129 [e,c,iq 1,t] u fun v w _ _=>Aj [v] w) (Aj [.fv .nilp] a)
def bK (A:Ah) (n:Nat) (B c:V) (a:H):O :=AK c fun d=>Ab 2 d fun e=>Ag e a fun f _=>AQ 1 f (iq 0) fun g=>Ag g a fun b _=>AK b fun h=>Ab 0 h fun i=>Ag i a fun j _=>BL EE 3 j (iq 7) fun k=>Ai k (Aj [.fv .nilp] a) (AK c fun l=>Ab 0 l fun m=>Ag m a fun o _=>AP EE 3 o (iq 8) fun p=>Ai p (AK b fun q=>Ab 2 q fun r=>Ag r a fun s _=>AQ 1 s (iq 1) fun t=>Ag t a fun u _=>Aj [u] a) (AK b fun v=>Ab 2 v fun w=>Ag w a fun x _=>AQ 1 x (iq 2) fun y=>Ag y a fun z _=>Aj [z] a))
def Lx b k a e f g h l:=Aa [] b [] (AQ 1 k (iq 1) fun m=>Ag m a fun n c=>Aa [] c [] (AK e fun o=>Ab 2 o fun p=>Ag p a fun q r=>Aa [(c,[]),(b,[])] r [] (AQ 1 q (iq 0) fun s=>Ag s a fun t u=>Aa [(c,[]),(b,[])] u [] (Az (Al EE 146 4 [(0,.fv .nilp),(1,n),(2,.fv .nilp),(3,t)]) 127933452 a fun v w x y=>Aa [] x y (Ab 2 f fun z=>BM z v w fun d A B=>Aa [] A B (AK e fun C=>Ab 2 C fun D=>Ag D d fun E i=>Aa [] i [] (AQ 1 E (iq 0) fun F=>Ag F d fun G j=>Aa [] j [] (A5 [true,false] false false g 128 [h,f] d fun I J K L=>Aa [(j,[]),(i,[])] K L (Az (Al EE 146 2 [(0,G),(1,I)]) 127934474 J fun M N P Q=>Aa [] P Q (A5 [true,false,false,false] false false g 129 [h,l,iq 2,M] N fun R S T U=>Aa [] T U (Aj [R] S)))))))))))
def cW (g:Ah) (n:Nat) (h b:V) (a:H):O :=AK b fun i=>Ab 2 i fun j=>Ag j a fun k _=>AQ 1 k (iq 3) fun l=>Ag l a fun c _=>AK c fun m=>Ab 0 m fun o=>Ag o a fun d _=>AP EE 3 d (iq 11) fun p=>Ai p (AK b fun q=>Ab 2 q fun r=>Ag r a fun s _=>AQ 1 s (iq 1) fun t=>Ag t a fun u _=>Aj [u] a) (AP EE 3 d (iq 12) fun v=>Ai v (AK b fun w=>Ae 7 w a fun x _=>EU 127932419 (.row [iq 0,iq 0,.nils,iq 0,iq 0,.nils,.fv (.nilp)] false) (.ptr (.own 127932419) 0) a fun e y _ _=>Ac 7 e x y fun f _ _=>AK b fun z=>Ab 2 z fun A=>Ag A f fun B C=>Lx C B f c e g h b) (Aj [.fv .nilp] a))
def uB (a:Ah) (n:Nat) (f b:V) (c:H):O :=is0 a 140 [b,iq 19] c fun d e _ _=>Aj [d] e
def vI (a:Ah) (n:Nat) (f b:V) (c:H):O :=is0 a 140 [b,iq 30] c fun d e _ _=>Aj [d] e
def dI (N:Ah) (n:Nat) (b:V) (e:H):O :=AK b fun j=>Ab 1 j fun k=>Ag k e fun l _=>Bn EE 3 l (iq 1) fun m=>AK b fun o=>Ab 1 o fun p=>BM p m e fun c _ _=>AK b fun q=>Ab 1 q fun r=>Ag r c fun s _=>Fk EE 3 s (iq 0) fun a=>Ad a true c (fun t=>t b c [] []) fun u f _ _=>Ad a true f (fun v=>AK u fun w=>v w f [] []) fun x g _ _=>Ad a true g (fun y=>Ab 3 x fun z=>y z g [] []) fun A d _ _=>Ad a true d (fun B=>Ag A d fun C D=>B C d D []) fun E h _ _=>Ad a true h (fun F=>AP EE 41 E (iq 0) fun G=>F G h [] []) fun I i _ _=>AC a I bF fun J=>Ai J (AK b fun K=>Ab 3 K fun L=>BM L (iq 17) i fun M _ _=>Aj [] M) (Aj [] i)
def I9 (d:List V) a (e:List V->H->O):=Ay d fun b f=>Ay f fun c _=>BL EE 144 b (.fv .nilp) fun g=>Ai g (AP EE 3 c (iq 0) fun h=>Ai h (AK b fun i=>Ab 0 i fun j=>Ag j a fun k _=>Aj [k] a) (Bn EE 3 c (iq 1) fun l=>AK b fun m=>Ab 1 m fun n=>Ag n a fun o _=>e [o,l] a)) (Bn EE 3 (.fv (.int .i64 (-1))) c fun p=>A7 [iq 0,iq 0,.nils,iq 0,iq 0,.nils,.fv (.nilp)] [(0,1,iq 1),(1,1,p)] fun q=>AE 132126723 q a fun r s _ _=>Aj [r] s)
def hZ (g:Ah) (n:Nat) (a b:V) (c:H):O :=BG n (fun d e f=>I9 e f d) [a,b] c
def zE (a:Ah) (n:Nat) (b c:V) (d:H):O :=CN EE a (.fv (.func (.func 141) [] [])) [b,c] d fun e f _ _=>Aj [e] f
def EI a c d n o:=AK a fun p=>Ab 3 p fun q=>Ag q c fun r _=>BL EE 41 r (iq 0) fun s=>Ai s (Aj [d] c) (Ab 0 n fun t=>Ag t c fun u _=>CN EE o u [d] c fun h i _ _=>AP EE 122 h (.fv .nilp) fun b=>Ad b false i (fun v=>v a i [] []) fun w j _ _=>Ad b false j (fun x=>AK w fun y=>x y j [] []) fun z k _ _=>Ad b false k (fun A=>Ab 3 z fun B=>A B k [] []) fun C e _ _=>Ad b false e (fun D=>Ag C e fun E F=>D E e F []) fun G l _ _=>Ad b false l (fun I=>BL EE 41 G (iq 0) fun J=>I J l [] []) fun K f _ _=>AC b bT K fun L=>Ai L (Aj [d] f) ((fun (m:H->O)=>AK a fun M=>Ab 0 M fun N=>Ag N f fun P _=>Bn EE 3 P (iq 1) fun Q=>AK a fun R=>Ab 0 R fun S=>BM S Q f fun g _ _=>AK a fun T=>Ab 0 T fun U=>Ag U g fun W _=>Fk EE 3 W (iq 0) fun X=>Ai X (AK a fun Y=>Ab 3 Y fun Z=>BM Z (iq 17) g fun a0 _ _=>m a0) (m g)) fun a1=>Aj [h] a1))
def Pi (g:Ah) (n:Nat) (b c:V) (d:H):O :=AK b fun s=>Ab 4 s fun t=>Ag t d fun u e=>Aa [] e [] (AK c fun v=>Ab 0 v fun w=>Ag w d fun x h=>Aa [(e,[])] h [] (Az (Gu EE 124 u x true) 134218760 d fun i y j k=>Aa [] j k (Ao 0 i fun z=>Ao 1 i fun A=>EU 134218764 (.row [.fv (.nilf)] false) (.ptr (.own 134218764) 0) y fun l B C D=>Aa [(j,k),(h,[]),(e,[])] C D (BM l z B fun m E F=>Aa [] E F (C5 (KE .not A) fun a=>Ad a false m (fun G=>G b m [] []) fun I o _ _=>Ad a false o (fun J=>AK I fun K=>J K o [] []) fun L p _ _=>Ad a false p (fun M=>Ab 3 L fun N=>M N p [] []) fun P f _ _=>Ad a false f (fun Q=>Ag P f fun R S=>Q R f S []) fun T q _ _=>Ad a false q (fun U=>BL EE 41 T (iq 0) fun W=>U W q [] []) fun X r _ _=>AC a bT X fun Y=>Ai Y (Aj [c] r) (A5 [true] false false g 125 [b] r fun _ Z _ _=>EI b Z c l g))))))
def sG (e:Ah) (n:Nat) (h f i j:V) (g:H):O :=AK f fun k=>Ab 6 k fun l=>Ag l g fun m a=>Aa [] a [] (is0 e 142 [m,j] g fun o b c d=>Aa [] c d (AK f fun p=>Ab 3 p fun q=>Ab 2 q fun r=>Ag r b fun s t=>Aa [(c,d),(a,[])] t [] (AQ 3 s i fun u=>Ae 3 u b fun v w=>Aa [(c,d),(a,[])] w [] (A5 [true,false,false] false false e 97 [h,o,v] b fun x y z A=>Aa [] z A (Aj [x] y)))))
def HF (p:List V) a b l f g d (q:H) e (r:List V->H->O):=Ay p fun h s=>Ay s fun i t=>Ay t fun c _=>Fk EE 3 c i fun u=>Ai u (AQ 3 h c fun v=>Ae 3 v a fun w _=>nw0 136321027 a fun m x _ _=>Ac 3 m w x fun j _ _=>Ae 3 m j fun y k=>Aa [] k [] (Ab 0 b fun z=>Ag z j fun A B=>Aa [(k,[])] B [] (is0 l 127 [A,c] j fun C D E F=>Aa [(k,[])] E F (Bs EE 3 f C fun G=>is0 l 130 [y,G,g] D fun I J K L=>Aa [] K L (AQ 3 d c fun M=>Ac 3 M I J fun N P Q=>Aa [] P Q (Bs EE 3 c (iq 1) fun n=>Bm (q.own.map (·.1)) [136321027] [f,g,b,e,d,h,i,n] N fun R=>r [f,g,b,e,d,h,i,n] R)))))) (Ab 0 b fun S=>Ag S a fun T _=>Ab 1 b fun U=>Ag U a fun W _=>A7 [iq 0,iq 0,.nils] [(0,1,T),(1,1,W),(2,1,d)] fun X=>Ac 3 e X a fun o _ _=>An true 3 e o fun Y=>Aj [Y] o)
def Mr (a:List V) b c d (e:List V->H->O):=Ay a fun f g=>Ay g fun h i=>Ay i fun j k=>Ay k fun l m=>Ay m fun n o=>HF o b j c f h n d l e
def YU (h:Ah) (n:Nat) (o d e:V) (f:H):O :=AE 136314880 o f fun a p _ _=>nw0 136314881 p fun c b _ _=>Ab 0 a fun q=>Ag q b fun r _=>AP EE 3 r (iq 1) fun s=>Ai s (Ae 3 a b fun t _=>CN EE h e [t,d] b fun u v _ _=>Ac 3 c u v fun i _ _=>An true 3 c i fun w=>Aj [w] i) (Ab 2 a fun x=>Ag x b fun y _=>Bv y fun j=>Az (BH EE 136317955 29 j j) 136317955 b fun k l _ _=>Ab 2 a fun z=>Ag z l fun g _=>Bv g fun m=>Bm (f.own.map (·.1)) [136321027] [d,e,a,c,k,g,m,iq 0] l fun A=>BG n (fun B C D=>Mr C D h f B) [d,e,a,c,k,g,m,iq 0] A)
def i5 (d:Ah) (n:Nat) (g h i j:V) (k:H):O :=AE 137363456 g k fun c l _ _=>nw0 137363457 l fun b a _ _=>Ab 1 c fun m=>Ag m a fun o _=>Bn EE 3 o h fun p=>Ag i a fun q _=>O6 EE 3 p q fun r=>Ai r (Ae 3 c a fun s _=>Ag j a fun t _=>is0 d 132 [s,t] a fun u v _ _=>Ac 3 b u v fun e _ _=>An true 3 b e fun w=>Aj [w] e) (Ae 3 c a fun x _=>is0 d 132 [x,iq 0] a fun y z _ _=>Ac 3 b y z fun f _ _=>An true 3 b f fun A=>Aj [A] f)
def tZ (o:Ah) (n:Nat) (d e:V) (f:H):O :=AE 138412032 d f fun g h _ _=>nw0 138412033 h fun a b _ _=>Ab 1 g fun i=>Ag i b fun j _=>Bs EE 3 j e fun k=>A7 [iq 0,iq 0,.nils] [(0,1,iq 1),(1,1,k)] fun l=>Ac 3 a l b fun c _ _=>An true 3 a c fun m=>Aj [m] c
def vK (e:Ah) (n:Nat) (g h i:V) (j:H):O :=AE 139460608 i j fun k l _ _=>A5 [] true false e 144 [g] l fun m o a b=>Aa [] a b (A5 [] false true e 143 [m] o fun p f c d=>Aa [] c d (Ae 3 k f fun q r=>Aa [(c,d),(a,b)] r [] (A7 [iq 0,iq 0,iq 0,.nils] [(0,1,h),(1,3,q)] fun s=>Az (Al EE 85 1 [(0,s)]) 139461638 f fun t u v w=>Aa [(c,d),(a,b)] v w (Az (AT EE 139461639 false .append [85,85] [p,t]) 139461639 u fun x y z A=>Aa [] z A (Aj [x] y)))))
def xX (b:Ah) (n:Nat) (c d:V) (e:H):O :=AE 140509184 c e fun f g _ _=>AE 140509185 d g fun h a _ _=>Ae 3 f a fun i _=>Az (val (CI (.func 146) [] [h])) 140510209 a fun j k _ _=>is0 b 145 [i,iq 0,j] k fun l m _ _=>Aj [l] m
def wO (d:Ah) (n:Nat) (e f g:V) (h:H):O :=AE 141557760 e h fun i j _ _=>AE 141557761 f j fun k l _ _=>AE 141557762 g l fun m o _ _=>nw0 141557763 o fun a b _ _=>Ae 3 i b fun p _=>Az (val (CI (.func 147) [] [k,m])) 141558785 b fun q r _ _=>is0 d 130 [p,iq 0,q] r fun s t _ _=>Ac 3 a s t fun c _ _=>An true 3 a c fun u=>Aj [u] c
def sQ (f:Ah) (n:Nat) (g h:V) (i:H):O :=AE 142606336 h i fun j c _ _=>Ae 3 j c fun k _=>is0 f 58 [g,iq 1,k] c fun d l _ _=>Ao 0 d fun m=>Ao 1 d fun e=>nw0 142607366 l fun b o _ _=>Ac 3 b m o fun a _ _=>BL EE 41 e (iq 0) fun p=>Ai p (Aj [iq 0,e] a) (Ab 0 b fun q=>Ag q a fun r _=>BL EE 3 r (iq 2) fun s=>Ai s (Aj [iq 0,iq 12] a) (Ab 1 b fun t=>Ag t a fun u _=>Aj [u,iq 0] a))
def tJ (b:Ah) (n:Nat) (f g:V) (h:H):O :=AE 143654912 f h fun i j _ _=>AE 143654913 g j fun k l _ _=>nw0 143654914 l fun c a _ _=>Ae 3 i a fun m _=>Ae 3 k a fun o _=>is0 b 135 [m,iq 0,o] a fun p q _ _=>is0 b 82 [p] q fun d r _ _=>Ao 0 d fun s=>Ao 1 d fun t=>Ac 3 c s r fun e _ _=>An true 3 c e fun u=>Aj [u,t] e
def rT (c:Ah) (n:Nat) (h:V) (i:H):O :=AE 144703488 h i fun d j _ _=>nw0 144703489 j fun a e _ _=>Ae 3 d e fun k _=>is0 c 95 [k] e fun l b _ _=>C5 (KE .not l) fun m=>Ai m (Ae 3 d b fun o _=>is0 c 148 [o] b fun p q _ _=>Ac 3 a p q fun f _ _=>An true 3 a f fun r=>Aj [r] f) (Ae 3 d b fun s _=>is0 c 149 [s] b fun t u _ _=>Ac 3 a t u fun g _ _=>An true 3 a g fun v=>Aj [v] g)
def ZT (p:Ah) (n:Nat) (q r:V) (s:H):O :=AE 145752064 q s fun d t _ _=>AE 145752065 r t fun e c _ _=>Ab 0 d fun u=>Ag u c fun v _=>Ab 0 e fun w=>Ag w c fun x _=>AP EE 3 v x fun a=>Ad a true c (fun y=>Ab 1 d fun z=>y z c [] []) fun A f _ _=>Ad a true f (fun B=>Ag A f fun C D=>B C f D []) fun E j _ _=>Ad a true j (fun F=>Ab 1 e fun G=>F G j [] []) fun I g _ _=>Ad a true g (fun J=>Ag I g fun K L=>J K g L []) fun M k _ _=>Ad a true k (fun N=>AP EE 3 E M fun P=>N P k [] []) fun Q l _ _=>AC a Q bF fun b=>Ad b true l (fun R=>Ab 2 d fun S=>R S l [] []) fun T h _ _=>Ad b true h (fun U=>Ag T h fun W X=>U W h X []) fun Y m _ _=>Ad b true m (fun Z=>Ab 2 e fun a0=>Z a0 m [] []) fun a1 i _ _=>Ad b true i (fun a2=>Ag a1 i fun a3 a4=>a2 a3 i a4 []) fun a5 o _ _=>Ad b true o (fun a6=>is0 p 150 [Y,a5,.fv (.func (.func 139) [] [])] o a6) fun a7 a8 _ _=>AC b a7 bF fun a9=>Aj [a9] a8
def lZ (x:Ah) (n:Nat) (b c:V) (a:H):O :=AK b fun d=>Ab 2 d fun e=>Ag e a fun f _=>AQ 1 f (iq 0) fun g=>Ag g a fun h _=>AK h fun i=>Ab 0 i fun j=>Ag j a fun k _=>BL EE 3 k c fun l=>Ai l (Aj [.fv .nilp] a) (AK b fun m=>Ab 2 m fun o=>Ag o a fun p _=>AQ 1 p (iq 0) fun q=>Ag q a fun r _=>AK r fun s=>Ab 2 s fun t=>Ag t a fun u _=>AQ 1 u (iq 0) fun v=>Ag v a fun w _=>Aj [w] a)
def RO (t:Ah) (n:Nat) (a e:V) (b:H):O :=(fun (f:H->O)=>(fun (c:V->H->O)=>AP EE 3 a (iq 3) fun g=>Ai g (c g b) (AP EE 3 a (iq 4) fun h=>Ai h (c h b) (AP EE 3 a (iq 6) fun i=>Ai i (c i b) (AP EE 3 a (iq 20) fun j=>Ai j (c j b) (AP EE 3 a (iq 28) fun k=>Ai k (c k b) (AP EE 3 a (iq 29) fun l=>c l b)))))) fun m d=>Ai m (AP EE 3 e (iq 1) fun o=>Ai o (Aj [iq 1] d) (f d)) (AP EE 3 a (iq 13) fun p=>Ai p (AP EE 3 e (iq 0) fun q=>Ai q (Aj [iq 1] d) (AP EE 3 e (iq 2) fun r=>Ai r (Aj [iq 2] d) (f d))) (f d))) fun s=>Aj [iq 0] s
def LD i a c b d (j:H) e (k:List V->H->O):=Ai i (AQ 1 a c fun l=>Ag l b fun m _=>A7 [.fv (.nilp),.fv (.nilp)] [(0,1,m),(1,1,d)] fun f=>sP (Jv true 148901891 f) 148901891 f b fun g n _ _=>Bs EE 3 c (iq 1) fun h=>Bm (j.own.map (·.1)) [148901891] [g,a,e,h] n fun o=>k [g,a,e,h] o) (Aj [d] b)
def O5 (c:List V) d e (f:List V->H->O):=Ay c fun g h=>Ay h fun i j=>Ay j fun a k=>Ay k fun b _=>Fk EE 3 b a fun l=>LD l i b d g e a f
def d7 (i:Ah) (n:Nat) (c a:V) (b:H):O :=Bv a fun d=>Bm (b.own.map (·.1)) [148901891] [c,a,d,iq 0] b fun e=>BG n (fun f g h=>O5 g h b f) [c,a,d,iq 0] e
def v5 (g:Ah) (n:Nat) (a:V) (b:H):O :=Bv a fun c=>Bv a fun d=>Az (Iz EE 85 a none (some c) (some d)) 149947397 b fun e f _ _=>Aj [e] f
def rX (h:Ah) (n:Nat) (a:V) (b:H):O :=AP EE 85 a .nils fun c=>Ai c (Aj [.nils] b) (Az (Al EE 85 0 []) 150998016 b fun d e _ _=>Az (AT EE 150998018 false .append [85,85] [d,a]) 150998018 e fun f g _ _=>Aj [f] g)
def If (n:List V) b c d e j f g (o:H) (p:List V->H->O):=Ay n fun a _=>Fk EE 3 a b fun q=>Ai q (AQ 3 c a fun r=>Ae 3 r d fun s _=>nw0 152048643 d fun k t _ _=>Ac 3 k s t fun h _ _=>Ae 3 k h fun u i=>Aa [] i [] (Ab 0 e fun v=>Ag v h fun w x=>Aa [(i,[])] x [] (is0 j 127 [w,a] h fun y z A B=>Aa [(i,[])] A B (Bs EE 3 f y fun C=>is0 j 145 [u,C,g] z fun D l E F=>Aa [] E F (Ai D (Aj [bT] l) (Bs EE 3 a (iq 1) fun m=>Bm (o.own.map (·.1)) [152048643] [f,g,e,c,b,m] l fun G=>p [f,g,e,c,b,m] G)))))) (Aj [bF] d)
def LI (a:List V) b c d (e:List V->H->O):=Ay a fun f g=>Ay g fun h i=>Ay i fun j k=>Ay k fun l m=>Ay m fun n o=>If o n l b j c f h d e
def SX (g:Ah) (n:Nat) (i c d:V) (e:H):O :=AE 152043520 i e fun a b _ _=>Ab 0 a fun j=>Ag j b fun k _=>AP EE 3 k (iq 1) fun l=>Ai l (Ab 1 a fun m=>Ag m b fun o _=>CN EE g d [o,c] b fun p q _ _=>Aj [p] q) (Ab 2 a fun r=>Ag r b fun f _=>Bv f fun h=>Bm (e.own.map (·.1)) [152048643] [c,d,a,f,h,iq 0] b fun s=>BG n (fun t u v=>LI u v g e t) [c,d,a,f,h,iq 0] s)
def Z2 (t:Ah) (n:Nat) (c d g:V) (b:H):O :=Bn EE 3 c d fun h=>Ag g b fun i _=>AP EE 3 h i fun a=>Ad a true b (fun j=>j c b [] []) fun k e _ _=>Ad a true e (fun l=>l d e [] []) fun m f _ _=>Ad a true f (fun o=>O6 EE 3 k m fun p=>o p f [] []) fun q r _ _=>AC a q bF fun s=>Aj [s] r
def gN (c:Ah) (n:Nat) (k e f l:V) (m:H):O :=AE 154140672 k m fun d o _ _=>nw0 154140673 o fun b a _ _=>Ab 1 d fun p=>Ag p a fun q _=>Bn EE 3 q e fun g=>Ag f a fun r _=>Kd EE 3 g r fun s=>Ai s (Ae 3 d a fun t _=>is0 c 132 [t,.fv (.int .i64 (-1))] a fun u v _ _=>Ac 3 b u v fun h _ _=>An true 3 b h fun w=>Aj [w] h) (Ag f a fun x _=>AP EE 3 g x fun y=>Ai y (Ae 3 l a fun z _=>is0 c 99 [z,e,iq 0] a fun A B _ _=>Ac 3 b A B fun i _ _=>An true 3 b i fun C=>Aj [C] i) (Ae 3 d a fun D _=>is0 c 132 [D,iq 0] a fun E F _ _=>Ac 3 b E F fun j _ _=>An true 3 b j fun G=>Aj [G] j))
def iZ f j (k:H) l m n t:=Ab 2 f fun u=>Ag u j fun g _=>Bv g fun o=>Bm (k.own.map (·.1)) [155193347] [f,l,m,g,o,iq 0] j fun v=>BG n (fun w x a=>Ay x fun b y=>Ay y fun c z=>Ay z fun d A=>Ay A fun h B=>Ay B fun i C=>Ay C fun e _=>Fk EE 3 e i fun D=>Ai D (AQ 3 h e fun E=>Ae 3 E a fun F _=>nw0 155193347 a fun p G _ _=>Ac 3 p F G fun q _ _=>Ae 3 p q fun I _=>is0 t 148 [I] q fun J K _ _=>AQ 3 d e fun L=>Ac 3 L J K fun M _ _=>Bs EE 3 e (iq 1) fun r=>Bm (k.own.map (·.1)) [155193347] [b,c,d,h,i,r] M fun N=>w [b,c,d,h,i,r] N) (Ab 0 b fun P=>Ag P a fun Q _=>Ab 1 b fun R=>Ag R a fun S _=>A7 [iq 0,iq 0,.nils] [(0,1,Q),(1,1,S),(2,1,d)] fun T=>Ac 3 c T a fun s _ _=>An true 3 c s fun U=>Aj [U] s)) [f,l,m,g,o,iq 0] v
def AdH (e:Ah) (n:Nat) (f:V) (a:H):O :=AE 155189248 f a fun b g _ _=>nw0 155189249 g fun h c _ _=>Ab 2 b fun i=>Ag i c fun j _=>Bv j fun d=>Az (BH EE 155190275 29 d d) 155190275 c fun k l _ _=>iZ b l a h k n e
def Gw a k c d b:=Ag k a fun e _=>AP EE 3 e (iq 4) fun l=>Ai l (Ab 2 c fun m=>Ag m a fun n _=>A7 [iq 0,iq 0,.nils] [(0,1,iq 11)] fun o=>AQ 3 n (iq 0) fun p=>Ac 3 p o a fun f _ _=>Ae 3 c f fun q _=>is0 d 151 [q] f fun r s _ _=>Ac 3 b r s fun g _ _=>An true 3 b g fun t=>Aj [t] g) (AP EE 3 e (iq 7) fun u=>Ai u (Ab 2 c fun v=>Ag v a fun w _=>A7 [iq 0,iq 0,.nils] [(0,1,iq 11)] fun x=>AQ 3 w (iq 0) fun y=>Ac 3 y x a fun h _ _=>Ae 3 c h fun z _=>is0 d 152 [z] h fun A B _ _=>Ac 3 b A B fun i _ _=>An true 3 b i fun C=>Aj [C] i) (Ae 3 c a fun D _=>Ac 3 b D a fun j _ _=>An true 3 b j fun E=>Aj [E] j))
def Gv (m:List V) c d e a j (n:H) f g (o:List V->H->O):=Ay m fun b _=>Fk EE 3 b c fun p=>Ai p (AQ 3 d b fun q=>Ae 3 q e fun r _=>nw0 156241923 e fun k s _ _=>Ac 3 k r s fun h _ _=>Ab 2 a fun t=>Ag t h fun u i=>Aa [] i [] (Ae 3 k h fun v w=>Aa [(i,[])] w [] (is0 j 149 [v] h fun x y z A=>Aa [(i,[])] z A (AQ 3 u b fun B=>Ac 3 B x y fun C D E=>Aa [] D E (Bs EE 3 b (iq 1) fun l=>Bm (n.own.map (·.1)) [156241923] [f,g,a,d,c,l] C fun F=>o [f,g,a,d,c,l] F))))) (Ab 0 f fun G=>Gw e G a j g)
def Hl (a:List V) b c d (e:List V->H->O):=Ay a fun f g=>Ay g fun h i=>Ay i fun j k=>Ay k fun l m=>Ay m fun n o=>Gv o n l b j c d f h e
def Ta (p:Ah) (n:Nat) (q:V) (e:H):O :=AE 156237824 q e fun a r _ _=>nw0 156237825 r fun h c _ _=>Ab 0 a fun s=>Ag s c fun t b=>Aa [] b [] (Ab 1 a fun u=>Ag u c fun v d=>Aa [(b,[])] d [] (Ab 2 a fun w=>Ag w c fun x i=>Aa [(d,[]),(b,[])] i [] (Bv x fun j=>Az (BH EE 156238855 29 j j) 156238855 c fun y z k l=>Aa [(d,[]),(b,[])] k l (A7 [iq 0,iq 0,.nils] [(0,1,t),(1,1,v),(2,1,y)] fun A=>nw0 156238857 z fun f B C D=>Aa [(k,l),(i,[]),(d,[]),(b,[])] C D (Ac 3 f A B fun m E F=>Aa [] E F (Ab 2 a fun G=>Ag G m fun g _=>Bv g fun o=>Bm (e.own.map (·.1)) [156241923] [a,h,f,g,o,iq 0] m fun I=>BG n (fun J K L=>Hl K L p e J) [a,h,f,g,o,iq 0] I))))))
def H4 a b c d e m f (n:H) (o:List V->H->O):=Fk EE 3 a b fun p=>Ai p (AQ 3 c a fun q=>Ae 3 q d fun r _=>nw0 157291523 d fun h s _ _=>Ac 3 h r s fun i _ _=>AQ 3 e a fun t=>Ae 3 t i fun u _=>nw0 157292548 i fun j v _ _=>Ac 3 j u v fun g _ _=>Ae 3 h g fun w _=>Ae 3 j g fun x _=>CN EE m f [w,x] g fun y k _ _=>C5 (KE .not y) fun z=>Ai z (Aj [bF] k) (Bs EE 3 a (iq 1) fun l=>Bm (n.own.map (·.1)) [157291523,157292548] [e,f,c,b,l] k fun A=>o [e,f,c,b,l] A)) (Aj [bT] d)
def Jm (a:List V) b c d (e:List V->H->O):=Ay a fun f g=>Ay g fun h i=>Ay i fun j k=>Ay k fun l m=>Ay m fun n _=>H4 n l j b f c h d e
def Tg (f:Ah) (n:Nat) (a c d:V) (b:H):O :=Bv a fun g=>Bv c fun h=>BL EE 3 g h fun i=>Ai i (Aj [bF] b) (Bv a fun e=>Bm (b.own.map (·.1)) [157291523,157292548] [c,d,a,e,iq 0] b fun j=>BG n (fun k l m=>Jm l m f b k) [c,d,a,e,iq 0] j)
def Sc d a k f l c m:=Ad a false d (fun n=>Ag k d fun o p=>n o d p []) fun q g _ _=>Ad a false g (fun r=>AQ 3 q (iq 0) fun s=>r s g [] []) fun t e _ _=>Ad a false e (fun u=>Ae 3 t e fun v w=>u v e w []) fun x h _ _=>Ad a false h (fun y=>is0 f 134 [x,iq 0] h y) fun z b _ _=>AC a bT z fun A=>Ai A (Ae 3 l b fun B _=>Ac 3 c B b fun i _ _=>An true 3 c i fun C=>Aj [C] i) (Ab 2 m fun D=>Ag D b fun E _=>AQ 3 E (iq 0) fun F=>Ae 3 F b fun G _=>A7 [iq 0,iq 0,.nils] [(0,1,iq 11)] fun I=>is0 f 135 [G,iq 0,I] b fun J K _ _=>Ac 3 c J K fun j _ _=>An true 3 c j fun L=>Aj [L] j)
def Sj e f m b n o p:=Ad f false e (fun q=>BL EE 3 m (iq 1) fun r=>q r e [] []) fun s g _ _=>AC f bT s fun a=>Ad a false g (fun t=>Ab 2 b fun u=>t u g [] []) fun v c _ _=>Ad a false c (fun w=>Ag v c fun x y=>w x c y []) fun z h _ _=>Ad a false h (fun A=>AQ 3 z (iq 1) fun B=>A B h [] []) fun C i _ _=>Ad a false i (fun D=>Ab 1 C fun E=>D E i [] []) fun F d _ _=>Ad a false d (fun G=>Ag F d fun I J=>G I d J []) fun K j _ _=>Ad a false j (fun L=>BL EE 3 K (iq 0) fun M=>L M j [] []) fun N k _ _=>AC a bT N fun l=>Ad l false k (fun P=>Ab 2 b fun Q=>P Q k [] []) fun R S _ _=>Sc S l R n o p b
def S151 (j:Ah) (n:Nat) (k:V) (l:H):O :=AE 158334976 k l fun g m _ _=>nw0 158334977 m fun o c _ _=>Ab 2 g fun p=>Ag p c fun q _=>AQ 3 q (iq 1) fun r=>Ae 3 r c fun s _=>nw0 158336004 c fun b t _ _=>Ac 3 b s t fun d _ _=>Ab 0 b fun u=>Ag u d fun v _=>BL EE 3 v (iq 5) fun a=>Ad a false d (fun w=>Ab 2 b fun x=>w x d [] []) fun y e _ _=>Ad a false e (fun z=>Ag y e fun A B=>z A e B []) fun C h _ _=>Ad a false h (fun D=>AQ 3 C (iq 1) fun E=>D E h [] []) fun F i _ _=>Ad a false i (fun G=>Ab 0 F fun I=>G I i [] []) fun J f _ _=>Ad a false f (fun K=>Ag J f fun L M=>K L f M []) fun N P _ _=>Sj P a N b j g o
def Hx d e h a p i j q r s c t:=Aa [] d e (Ad a false h (fun u=>Ab 2 p fun v=>u v h [] []) fun w f _ _=>Ad a false f (fun x=>Ag w f fun y z=>x y f z []) fun A k B C=>Aa [(d,e),(i,j)] B C (Ad a false k (fun D=>AQ 3 A (iq 0) fun E=>D E k [] []) fun F g _ _=>Ad a false g (fun G=>Ae 3 F g fun I J=>G I g J []) fun K l L M=>Aa [(d,e),(i,j)] L M (Ad a false l (fun N=>is0 q 139 [r,K] l N) fun P m Q R=>Aa [] Q R (Ad a false m (fun S=>C5 (KE .not P) fun T=>S T m [] []) fun U b _ _=>AC a bT U fun W=>Ai W (Ae 3 s b fun X _=>Ac 3 c X b fun n _ _=>An true 3 c n fun Y=>Aj [Y] n) (Ab 2 t fun Z=>Ag Z b fun a0 _=>AQ 3 a0 (iq 0) fun a1=>Ae 3 a1 b fun a2 _=>Ac 3 c a2 b fun o _ _=>An true 3 c o fun a3=>Aj [a3] o)))))
def HK p q r i j s t b u v w x y:=nw0 159384585 p fun d z A B=>Aa [(q,r),(i,[]),(j,[]),(s,[]),(t,[])] A B (Ac 3 b u z fun C D E=>Aa [(i,[]),(j,[])] D E (Ac 3 d v C fun e F G=>Aa [] F G (Ab 0 b fun I=>Ag I e fun J K=>Aa [] K [] (BL EE 3 J (iq 8) fun c=>Ad c false e (fun L=>Ab 0 d fun M=>L M e [] []) fun N f _ _=>Ad c false f (fun P=>Ag N f fun Q R=>P Q f R []) fun S k T U=>Aa [] T U (Ad c false k (fun W=>BL EE 3 S (iq 9) fun X=>W X k [] []) fun Y l _ _=>AC c bT Y fun a=>Ad a false l (fun Z=>Ab 2 b fun a0=>Z a0 l [] []) fun a1 g _ _=>Ad a false g (fun a2=>Ag a1 g fun a3 a4=>a2 a3 g a4 []) fun a5 m n o=>Aa [] n o (Ad a false m (fun a6=>AQ 3 a5 (iq 0) fun a7=>a6 a7 m [] []) fun a8 h _ _=>Ad a false h (fun a9=>Ae 3 a8 h fun b0 b1=>a9 b0 h b1 []) fun b2 b3 b4 b5=>Hx b4 b5 b3 a d n o w b2 x y b))))))
def Yk (i:Ah) (n:Nat) (j:V) (k:H):O :=AE 159383552 j k fun d l _ _=>nw0 159383553 l fun m a _ _=>Ab 2 d fun o=>Ag o a fun p b=>Aa [] b [] (AQ 3 p (iq 1) fun q=>Ae 3 q a fun r c=>Aa [] c [] (Ab 2 d fun s=>Ag s a fun t e=>Aa [(c,[]),(b,[])] e [] (AQ 3 t (iq 2) fun u=>Ae 3 u a fun v f=>Aa [(c,[]),(b,[])] f [] (nw0 159384584 a fun w x g h=>Aa [(f,[]),(e,[]),(c,[]),(b,[])] g h (HK x g h f e c b w r v i d m)))))
end
noncomputable section
abbrev nG:={t:DT // t.Ok EE ft.get}
def nd (m:Nat) (a b:nG):nG:=⟨.node m a.1 b.1,a.2,b.2⟩
def lf0 (f:Nat) (G:Ah->Nat->Hp->OH) (e:(fun ih n h=>IF EE ih ft.get n f [] h)=fun ih n h=>G ih n h:=by kernel_rfl):nG :=⟨.leaf f fun ih n=>ar0 (G ih n),fun ih n _ _ _ r=>s8 (F:=IF EE ih ft.get n f) (fun h=>congrFun (congrFun (congrFun e ih) n) h) r⟩
def I1 (f:Nat) (G:Ah->Nat->IV->Hp->OH) (e:(fun ih n a h=>IF EE ih ft.get n f [a] h)=fun ih n a h=>G ih n a h:=by kernel_rfl):nG :=⟨.leaf f fun ih n=>ar1 (G ih n),fun ih n _ _ _ r=>y7 (F:=IF EE ih ft.get n f) (fun a h=>congrFun (congrFun (congrFun (congrFun e ih) n) a) h) r⟩
def Ff (f:Nat) (G:Ah->Nat->IV->IV->Hp->OH) (e:(fun ih n a b h=>IF EE ih ft.get n f [a,b] h)=fun ih n a b h=>G ih n a b h:=by kernel_rfl):nG :=⟨.leaf f fun ih n=>ar2 (G ih n),fun ih n _ _ _ r=>sU (F:=IF EE ih ft.get n f) (fun a b h=>congrFun (congrFun (congrFun (congrFun (congrFun e ih) n) a) b) h) r⟩
def Ke (f:Nat) (G:Ah->Nat->IV->IV->IV->Hp->OH) (e:(fun ih n a b c h=>IF EE ih ft.get n f [a,b,c] h)=fun ih n a b c h=>G ih n a b c h:=by kernel_rfl):nG :=⟨.leaf f fun ih n=>ar3 (G ih n),fun ih n _ _ _ r=>wD (F:=IF EE ih ft.get n f) (fun a b c h=>congrFun (congrFun (congrFun (congrFun (congrFun (congrFun e ih) n) a) b) c) h) r⟩
def Nu (f:Nat) (G:Ah->Nat->IV->IV->IV->IV->Hp->OH) (e:(fun ih n a b c d h=>IF EE ih ft.get n f [a,b,c,d] h)=fun ih n a b c d h=>G ih n a b c d h:=by kernel_rfl):nG :=⟨.leaf f fun ih n=>ar4 (G ih n),fun ih n _ _ _ r=>tG (F:=IF EE ih ft.get n f) (fun a b c d h=>congrFun (congrFun (congrFun (congrFun (congrFun (congrFun (congrFun e ih) n) a) b) c) d) h) r⟩
def lf5 (f:Nat) (G:Ah->Nat->IV->IV->IV->IV->IV->Hp->OH) (e:(fun ih n a b c d x h=>IF EE ih ft.get n f [a,b,c,d,x] h)=fun ih n a b c d x h=>G ih n a b c d x h:=by kernel_rfl):nG :=⟨.leaf f fun ih n=>ar5 (G ih n),fun ih n _ _ _ r=>wK (F:=IF EE ih ft.get n f) (fun a b c d x h=>congrFun (congrFun (congrFun (congrFun (congrFun (congrFun (congrFun (congrFun e ih) n) a) b) c) d) x) h) r⟩
def ttr:nG :=
 nd 86 (nd 52 (nd 31 (nd 22 (nd 14 (nd 12 (nd 11 (lf5 7 S7)
 (lf0 11 S11))
 (nd 13 (I1 12 uL)
 (I1 13 S13)))
 (nd 20 (nd 19 (Nu 14 S14)
 (Ke 19 S19))
 (nd 21 (I1 20 S20)
 (I1 21 S21))))
 (nd 27 (nd 24 (nd 23 (Ke 22 S22)
 (Ff 23 kZ))
 (nd 26 (I1 24 S24)
 (Ff 26 S26)))
 (nd 29 (nd 28 (Nu 27 S27)
 (I1 28 S28))
 (nd 30 (Ke 29 S29)
 (Nu 30 S30)))))
 (nd 41 (nd 35 (nd 33 (nd 32 (Ke 31 S31)
 (Ke 32 S32))
 (nd 34 (Nu 33 S33)
 (Ff 34 S34)))
 (nd 39 (nd 38 (Ke 35 mR)
 (Ff 38 S38))
 (nd 40 (I1 39 S39)
 (Ff 40 zL))))
 (nd 47 (nd 43 (nd 42 (Ff 41 S41)
 (Nu 42 S42))
 (nd 45 (I1 43 S43)
 (I1 45 zN)))
 (nd 49 (nd 48 (Ff 47 qN)
 (I1 48 S48))
 (nd 50 (Ff 49 S49)
 (nd 51 (I1 50 S50)
 (Nu 51 pR)))))))
 (nd 69 (nd 60 (nd 56 (nd 54 (nd 53 (Ff 52 S52)
 (Ke 53 S53))
 (nd 55 (I1 54 S54)
 (Ff 55 S55)))
 (nd 58 (nd 57 (I1 56 S56)
 (Ff 57 S57))
 (nd 59 (Ke 58 S58)
 (Nu 59 S59))))
 (nd 64 (nd 62 (nd 61 (Ke 60 S60)
 (I1 61 S61))
 (nd 63 (Ff 62 S62)
 (Ff 63 S63)))
 (nd 66 (nd 65 (lf0 64 S64)
 (Ff 65 S65))
 (nd 67 (Nu 66 S66)
 (nd 68 (Nu 67 zQ)
 (Nu 68 S68))))))
 (nd 77 (nd 73 (nd 71 (nd 70 (Nu 69 S69)
 (Ff 70 S70))
 (nd 72 (Ff 71 S71)
 (Nu 72 S72)))
 (nd 75 (nd 74 (Ke 73 S73)
 (Ke 74 S74))
 (nd 76 (Nu 75 S75)
 (Ff 76 S76))))
 (nd 81 (nd 79 (nd 78 (Ff 77 S77)
 (Ff 78 S78))
 (nd 80 (Ff 79 tO)
 (Ke 80 S80)))
 (nd 83 (nd 82 (Ff 81 S81)
 (I1 82 zI))
 (nd 84 (Ke 83 S83)
 (nd 85 (Ff 84 S84)
 (Ff 85 S85))))))))
 (nd 119 (nd 102 (nd 94 (nd 90 (nd 88 (nd 87 (Ff 86 S86)
 (Ff 87 S87))
 (nd 89 (Ff 88 vP)
 (Ff 89 S89)))
 (nd 92 (nd 91 (I1 90 S90)
 (I1 91 S91))
 (nd 93 (I1 92 S92)
 (I1 93 S93))))
 (nd 98 (nd 96 (nd 95 (Ff 94 xR)
 (I1 95 S95))
 (nd 97 (lf0 96 S96)
 (Ke 97 S97)))
 (nd 100 (nd 99 (Nu 98 S98)
 (Ke 99 S99))
 (nd 101 (Ke 100 w6)
 (Nu 101 wA)))))
 (nd 110 (nd 106 (nd 104 (nd 103 (Nu 102 uH)
 (Ff 103 gB))
 (nd 105 (Ke 104 yN)
 (Nu 105 bU)))
 (nd 108 (nd 107 (Nu 106 sL)
 (Ke 107 tY))
 (nd 109 (Ke 108 vE)
 (Ke 109 rH))))
 (nd 114 (nd 112 (nd 111 (Ke 110 sI)
 (Ke 111 yT))
 (nd 113 (Nu 112 v8)
 (Ff 113 v6)))
 (nd 116 (nd 115 (lf5 114 tL)
 (Ff 115 S115))
 (nd 117 (I1 116 lM)
 (nd 118 (I1 117 vV)
 (Ff 118 vU)))))))
 (nd 136 (nd 127 (nd 123 (nd 121 (nd 120 (I1 119 Tl)
 (Ff 120 oH))
 (nd 122 (Ff 121 bK)
 (Ff 122 cW)))
 (nd 125 (nd 124 (Ff 123 uB)
 (Ff 124 vI))
 (nd 126 (I1 125 dI)
 (Ff 126 hZ))))
 (nd 131 (nd 129 (nd 128 (Ff 127 zE)
 (Ff 128 Pi))
 (nd 130 (Nu 129 sG)
 (Ke 130 YU)))
 (nd 133 (nd 132 (Nu 131 i5)
 (Ff 132 tZ))
 (nd 134 (Ke 133 vK)
 (nd 135 (Ff 134 xX)
 (Ke 135 wO))))))
 (nd 144 (nd 140 (nd 138 (nd 137 (Ff 136 sQ)
 (Ff 137 tJ))
 (nd 139 (I1 138 rT)
 (Ff 139 ZT)))
 (nd 142 (nd 141 (Ff 140 lZ)
 (Ff 141 RO))
 (nd 143 (Ff 142 d7)
 (I1 143 v5))))
 (nd 148 (nd 146 (nd 145 (I1 144 rX)
 (Ke 145 SX))
 (nd 147 (Ke 146 Z2)
 (Nu 147 gN)))
 (nd 150 (nd 149 (I1 148 AdH)
 (I1 149 Ta))
 (nd 151 (Ke 150 Tg)
 (nd 152 (I1 151 S151)
 (I1 152 Yk))))))))
def dt:DT:=ttr.1
theorem Acs:dt.Ok EE ft.get:=ttr.2
theorem sK:∀n f args h x,SS dt n f args h=some x->run EE n f args h=some x:=Aca AaX Acs
end
end Idl
end Go.Proofs.YtnenpcghegcnhaaGreat

/- Part 9 of a proof. No statement is proved here. -/
import Derived.Test.YtnenpcghegcnhaaGreatKernelChecksK8
set_option linter.all false
set_option maxRecDepth 20000
set_option maxHeartbeats 16000000
noncomputable section
set_option maxRecDepth 100000
set_option linter.unusedVariables false
namespace Go.Proofs.YtnenpcghegcnhaaGreat
namespace Idl
noncomputable section
def gN (x:Ai) (n:Nat) (a:V) (c:H):O :=AL a fun f=>Ab 0 f fun g=>Ah g c fun h _=>Bv EE 3 h (iq 1) fun i=>AL a fun j=>Ab 0 j fun k=>BN k i c fun b _ _=>(fun (d:H->O)=>AL a fun l=>Ab 0 l fun m=>Ah m b fun o _=>Ka EE 3 o (iq 1000) fun p=>Aj p (AL a fun q=>Ab 2 q fun r=>BN r (iq 17) b fun s _ _=>d s) (d b)) fun e=>AL a fun t=>Ab 2 t fun u=>Ah u e fun v _=>AP EE 3 v (iq 0) fun w=>Ak [w] e
def uM (c:Ai) (n:Nat) (j:V) (k:H):O :=AH 122683392 j k fun l m _ _=>E1 122683393 (.row [iq 0,iq 0,.nils,iq 0] false) (.ptr (.own 122683393) 0) m fun a d _ _=>Af 3 l d fun o _=>is0 c 82 [o] d fun e p _ _=>Ap 0 e fun q=>Ap 1 e fun f=>nw0 122684421 p fun g r _ _=>Ac 3 g q r fun b _ _=>BM EE 41 f (iq 0) fun s=>Aj s (A9 [iq 0,iq 0,.nils,iq 0] [(3,1,f)] fun t=>Ac 4 a t b fun h _ _=>Ao true 4 a h fun u=>Ak [u] h) (Af 3 g b fun v _=>is0 c 138 [v] b fun w x _ _=>A9 [iq 0,iq 0,.nils,iq 0] [(0,3,w)] fun y=>Ac 4 a y x fun i _ _=>Ao true 4 a i fun z=>Ak [z] i)
def vB (b:Ai) (n:Nat) (c d:V) (e:H):O :=AH 123731968 c e fun f g _ _=>AH 123731969 d g fun h a _ _=>Ab 0 f fun i=>Af 3 i a fun j _=>Ab 0 h fun k=>Af 3 k a fun l _=>is0 b 139 [j,l] a fun m o _ _=>Ak [m] o
def S5 (s:Ai) (n:Nat) (a:V) (b:H):O :=(fun (c:V->H->O)=>AP EE 3 a (iq 8) fun f=>Aj f (c f b) (AP EE 3 a (iq 9) fun g=>Aj g (c g b) (AP EE 3 a (iq 12) fun h=>Aj h (c h b) (AP EE 3 a (iq 19) fun i=>Aj i (c i b) (AP EE 3 a (iq 30) fun l=>c l b))))) fun m e=>Aj m (Ak [iq 1] e) ((fun (j:V->H->O)=>AP EE 3 a (iq 4) fun k=>Aj k (j k e) (AP EE 3 a (iq 5) fun o=>j o e)) fun p d=>Aj p (Ak [iq 2] d) (AP EE 3 a (iq 7) fun q=>Aj q (Ak [iq 3] d) (AP EE 3 a (iq 13) fun r=>Aj r (Ak [iq 4] d) (Ak [.fv (.int .i64 (-1))] d))))
def lZ (d:Ai) (n:Nat) (e b:V) (a:H):O :=AL b fun f=>Ab 2 f fun g=>Ah g a fun h _=>AR 1 h (iq 0) fun i=>Ah i a fun c _=>AL c fun j=>Ab 0 j fun k=>Ah k a fun l _=>AP EE 3 l (iq 4) fun m=>Aj m (AL b fun o=>Ab 2 o fun p=>Ah p a fun q _=>AR 1 q (iq 1) fun r=>Ah r a fun s _=>AA (Am EE 146 1 [(0,s)]) 125832200 a fun t u _ _=>A5 [true,false,false,false] false false d 129 [e,c,iq 1,t] u fun v w _ _=>Ak [v] w) (Ak [.fv .nilp] a)
def aW (A:Ai) (n:Nat) (B c:V) (a:H):O :=AL c fun d=>Ab 2 d fun e=>Ah e a fun f _=>AR 1 f (iq 0) fun g=>Ah g a fun b _=>AL b fun h=>Ab 0 h fun i=>Ah i a fun j _=>BM EE 3 j (iq 7) fun k=>Aj k (Ak [.fv .nilp] a) (AL c fun l=>Ab 0 l fun m=>Ah m a fun o _=>AP EE 3 o (iq 8) fun p=>Aj p (AL b fun q=>Ab 2 q fun r=>Ah r a fun s _=>AR 1 s (iq 1) fun t=>Ah t a fun u _=>Ak [u] a) (AL b fun v=>Ab 2 v fun w=>Ah w a fun x _=>AR 1 x (iq 2) fun y=>Ah y a fun z _=>Ak [z] a))
def LB b k a e f g h l:=Aa [] b [] (AR 1 k (iq 1) fun m=>Ah m a fun n c=>Aa [] c [] (AL e fun o=>Ab 2 o fun p=>Ah p a fun q r=>Aa [(c,[]),(b,[])] r [] (AR 1 q (iq 0) fun s=>Ah s a fun t u=>Aa [(c,[]),(b,[])] u [] (AA (Am EE 146 4 [(0,.fv .nilp),(1,n),(2,.fv .nilp),(3,t)]) 127933452 a fun v w x y=>Aa [] x y (Ab 2 f fun z=>BN z v w fun d A B=>Aa [] A B (AL e fun C=>Ab 2 C fun D=>Ah D d fun E i=>Aa [] i [] (AR 1 E (iq 0) fun F=>Ah F d fun G j=>Aa [] j [] (A5 [true,false] false false g 128 [h,f] d fun I J K L=>Aa [(j,[]),(i,[])] K L (AA (Am EE 146 2 [(0,G),(1,I)]) 127934474 J fun M N P Q=>Aa [] P Q (A5 [true,false,false,false] false false g 129 [h,l,iq 2,M] N fun R S T U=>Aa [] T U (Ak [R] S)))))))))))
def Y9 (g:Ai) (n:Nat) (h b:V) (a:H):O :=AL b fun i=>Ab 2 i fun j=>Ah j a fun k _=>AR 1 k (iq 3) fun l=>Ah l a fun c _=>AL c fun m=>Ab 0 m fun o=>Ah o a fun d _=>AP EE 3 d (iq 11) fun p=>Aj p (AL b fun q=>Ab 2 q fun r=>Ah r a fun s _=>AR 1 s (iq 1) fun t=>Ah t a fun u _=>Ak [u] a) (AP EE 3 d (iq 12) fun v=>Aj v (AL b fun w=>Af 7 w a fun x _=>E1 127932419 (.row [iq 0,iq 0,.nils,iq 0,iq 0,.nils,.fv (.nilp)] false) (.ptr (.own 127932419) 0) a fun e y _ _=>Ac 7 e x y fun f _ _=>AL b fun z=>Ab 2 z fun A=>Ah A f fun B C=>LB C B f c e g h b) (Ak [.fv .nilp] a))
def sC (a:Ai) (n:Nat) (f b:V) (c:H):O :=is0 a 140 [b,iq 19] c fun d e _ _=>Ak [d] e
def uY (a:Ai) (n:Nat) (f b:V) (c:H):O :=is0 a 140 [b,iq 30] c fun d e _ _=>Ak [d] e
def ZJ (N:Ai) (n:Nat) (b:V) (e:H):O :=AL b fun j=>Ab 1 j fun k=>Ah k e fun l _=>Bn EE 3 l (iq 1) fun m=>AL b fun o=>Ab 1 o fun p=>BN p m e fun c _ _=>AL b fun q=>Ab 1 q fun r=>Ah r c fun s _=>FG EE 3 s (iq 0) fun a=>Ae a true c (fun t=>t b c [] []) fun u f _ _=>Ae a true f (fun v=>AL u fun w=>v w f [] []) fun x g _ _=>Ae a true g (fun y=>Ab 3 x fun z=>y z g [] []) fun A d _ _=>Ae a true d (fun B=>Ah A d fun C D=>B C d D []) fun E h _ _=>Ae a true h (fun F=>AP EE 41 E (iq 0) fun G=>F G h [] []) fun I i _ _=>AG a I bF fun J=>Aj J (AL b fun K=>Ab 3 K fun L=>BN L (iq 17) i fun M _ _=>Ak [] M) (Ak [] i)
def JX (d:List V) a (e:List V->H->O):=AB d fun b f=>AB f fun c _=>BM EE 144 b (.fv .nilp) fun g=>Aj g (AP EE 3 c (iq 0) fun h=>Aj h (AL b fun i=>Ab 0 i fun j=>Ah j a fun k _=>Ak [k] a) (Bn EE 3 c (iq 1) fun l=>AL b fun m=>Ab 1 m fun n=>Ah n a fun o _=>e [o,l] a)) (Bn EE 3 (.fv (.int .i64 (-1))) c fun p=>A9 [iq 0,iq 0,.nils,iq 0,iq 0,.nils,.fv (.nilp)] [(0,1,iq 1),(1,1,p)] fun q=>AH 132126723 q a fun r s _ _=>Ak [r] s)
def eJ (g:Ai) (n:Nat) (a b:V) (c:H):O :=BK n (fun d e f=>JX e f d) [a,b] c
def qI (a:Ai) (n:Nat) (b c:V) (d:H):O :=CN EE a (.fv (.func (.func 141) [] [])) [b,c] d fun e f _ _=>Ak [e] f
def EJ a c d n o:=AL a fun p=>Ab 3 p fun q=>Ah q c fun r _=>BM EE 41 r (iq 0) fun s=>Aj s (Ak [d] c) (Ab 0 n fun t=>Ah t c fun u _=>CN EE o u [d] c fun h i _ _=>AP EE 122 h (.fv .nilp) fun b=>Ae b false i (fun v=>v a i [] []) fun w j _ _=>Ae b false j (fun x=>AL w fun y=>x y j [] []) fun z k _ _=>Ae b false k (fun A=>Ab 3 z fun B=>A B k [] []) fun C e _ _=>Ae b false e (fun D=>Ah C e fun E F=>D E e F []) fun G l _ _=>Ae b false l (fun I=>BM EE 41 G (iq 0) fun J=>I J l [] []) fun K f _ _=>AG b bT K fun L=>Aj L (Ak [d] f) ((fun (m:H->O)=>AL a fun M=>Ab 0 M fun N=>Ah N f fun P _=>Bn EE 3 P (iq 1) fun Q=>AL a fun R=>Ab 0 R fun S=>BN S Q f fun g _ _=>AL a fun T=>Ab 0 T fun U=>Ah U g fun W _=>FG EE 3 W (iq 0) fun X=>Aj X (AL a fun Y=>Ab 3 Y fun Z=>BN Z (iq 17) g fun a0 _ _=>m a0) (m g)) fun a1=>Ak [h] a1))
def Pu (g:Ai) (n:Nat) (b c:V) (d:H):O :=AL b fun s=>Ab 4 s fun t=>Ah t d fun u e=>Aa [] e [] (AL c fun v=>Ab 0 v fun w=>Ah w d fun x h=>Aa [(e,[])] h [] (AA (Gq EE 124 u x true) 134218760 d fun i y j k=>Aa [] j k (Ap 0 i fun z=>Ap 1 i fun A=>E1 134218764 (.row [.fv (.nilf)] false) (.ptr (.own 134218764) 0) y fun l B C D=>Aa [(j,k),(h,[]),(e,[])] C D (BN l z B fun m E F=>Aa [] E F (CY (Kb .not A) fun a=>Ae a false m (fun G=>G b m [] []) fun I o _ _=>Ae a false o (fun J=>AL I fun K=>J K o [] []) fun L p _ _=>Ae a false p (fun M=>Ab 3 L fun N=>M N p [] []) fun P f _ _=>Ae a false f (fun Q=>Ah P f fun R S=>Q R f S []) fun T q _ _=>Ae a false q (fun U=>BM EE 41 T (iq 0) fun W=>U W q [] []) fun X r _ _=>AG a bT X fun Y=>Aj Y (Ak [c] r) (A5 [true] false false g 125 [b] r fun _ Z _ _=>EJ b Z c l g))))))
def vN (e:Ai) (n:Nat) (h f i j:V) (g:H):O :=AL f fun k=>Ab 6 k fun l=>Ah l g fun m a=>Aa [] a [] (is0 e 142 [m,j] g fun o b c d=>Aa [] c d (AL f fun p=>Ab 3 p fun q=>Ab 2 q fun r=>Ah r b fun s t=>Aa [(c,d),(a,[])] t [] (AR 3 s i fun u=>Af 3 u b fun v w=>Aa [(c,d),(a,[])] w [] (A5 [true,false,false] false false e 97 [h,o,v] b fun x y z A=>Aa [] z A (Ak [x] y)))))
def HD (p:List V) a b l f g d (q:H) e (r:List V->H->O):=AB p fun h s=>AB s fun i t=>AB t fun c _=>FG EE 3 c i fun u=>Aj u (AR 3 h c fun v=>Af 3 v a fun w _=>nw0 136321027 a fun m x _ _=>Ac 3 m w x fun j _ _=>Af 3 m j fun y k=>Aa [] k [] (Ab 0 b fun z=>Ah z j fun A B=>Aa [(k,[])] B [] (is0 l 127 [A,c] j fun C D E F=>Aa [(k,[])] E F (Bv EE 3 f C fun G=>is0 l 130 [y,G,g] D fun I J K L=>Aa [] K L (AR 3 d c fun M=>Ac 3 M I J fun N P Q=>Aa [] P Q (Bv EE 3 c (iq 1) fun n=>Bo (q.own.map (·.1)) [136321027] [f,g,b,e,d,h,i,n] N fun R=>r [f,g,b,e,d,h,i,n] R)))))) (Ab 0 b fun S=>Ah S a fun T _=>Ab 1 b fun U=>Ah U a fun W _=>A9 [iq 0,iq 0,.nils] [(0,1,T),(1,1,W),(2,1,d)] fun X=>Ac 3 e X a fun o _ _=>Ao true 3 e o fun Y=>Ak [Y] o)
def LQ (a:List V) b c d (e:List V->H->O):=AB a fun f g=>AB g fun h i=>AB i fun j k=>AB k fun l m=>AB m fun n o=>HD o b j c f h n d l e
def Ys (h:Ai) (n:Nat) (o d e:V) (f:H):O :=AH 136314880 o f fun a p _ _=>nw0 136314881 p fun c b _ _=>Ab 0 a fun q=>Ah q b fun r _=>AP EE 3 r (iq 1) fun s=>Aj s (Af 3 a b fun t _=>CN EE h e [t,d] b fun u v _ _=>Ac 3 c u v fun i _ _=>Ao true 3 c i fun w=>Ak [w] i) (Ab 2 a fun x=>Ah x b fun y _=>BH y fun j=>AA (BD EE 136317955 29 j j) 136317955 b fun k l _ _=>Ab 2 a fun z=>Ah z l fun g _=>BH g fun m=>Bo (f.own.map (·.1)) [136321027] [d,e,a,c,k,g,m,iq 0] l fun A=>BK n (fun B C D=>LQ C D h f B) [d,e,a,c,k,g,m,iq 0] A)
def jS (d:Ai) (n:Nat) (g h i j:V) (k:H):O :=AH 137363456 g k fun c l _ _=>nw0 137363457 l fun b a _ _=>Ab 1 c fun m=>Ah m a fun o _=>Bn EE 3 o h fun p=>Ah i a fun q _=>PY EE 3 p q fun r=>Aj r (Af 3 c a fun s _=>Ah j a fun t _=>is0 d 132 [s,t] a fun u v _ _=>Ac 3 b u v fun e _ _=>Ao true 3 b e fun w=>Ak [w] e) (Af 3 c a fun x _=>is0 d 132 [x,iq 0] a fun y z _ _=>Ac 3 b y z fun f _ _=>Ao true 3 b f fun A=>Ak [A] f)
def uF (o:Ai) (n:Nat) (d e:V) (f:H):O :=AH 138412032 d f fun g h _ _=>nw0 138412033 h fun a b _ _=>Ab 1 g fun i=>Ah i b fun j _=>Bv EE 3 j e fun k=>A9 [iq 0,iq 0,.nils] [(0,1,iq 1),(1,1,k)] fun l=>Ac 3 a l b fun c _ _=>Ao true 3 a c fun m=>Ak [m] c
def rZ (e:Ai) (n:Nat) (g h i:V) (j:H):O :=AH 139460608 i j fun k l _ _=>A5 [] true false e 144 [g] l fun m o a b=>Aa [] a b (A5 [] false true e 143 [m] o fun p f c d=>Aa [] c d (Af 3 k f fun q r=>Aa [(c,d),(a,b)] r [] (A9 [iq 0,iq 0,iq 0,.nils] [(0,1,h),(1,3,q)] fun s=>AA (Am EE 85 1 [(0,s)]) 139461638 f fun t u v w=>Aa [(c,d),(a,b)] v w (AA (AU EE 139461639 false .append [85,85] [p,t]) 139461639 u fun x y z A=>Aa [] z A (Ak [x] y)))))
def uC (b:Ai) (n:Nat) (c d:V) (e:H):O :=AH 140509184 c e fun f g _ _=>AH 140509185 d g fun h a _ _=>Af 3 f a fun i _=>AA (val (CJ (.func 146) [] [h])) 140510209 a fun j k _ _=>is0 b 145 [i,iq 0,j] k fun l m _ _=>Ak [l] m
def qW (d:Ai) (n:Nat) (e f g:V) (h:H):O :=AH 141557760 e h fun i j _ _=>AH 141557761 f j fun k l _ _=>AH 141557762 g l fun m o _ _=>nw0 141557763 o fun a b _ _=>Af 3 i b fun p _=>AA (val (CJ (.func 147) [] [k,m])) 141558785 b fun q r _ _=>is0 d 130 [p,iq 0,q] r fun s t _ _=>Ac 3 a s t fun c _ _=>Ao true 3 a c fun u=>Ak [u] c
def pV (f:Ai) (n:Nat) (g h:V) (i:H):O :=AH 142606336 h i fun j c _ _=>Af 3 j c fun k _=>is0 f 58 [g,iq 1,k] c fun d l _ _=>Ap 0 d fun m=>Ap 1 d fun e=>nw0 142607366 l fun b o _ _=>Ac 3 b m o fun a _ _=>BM EE 41 e (iq 0) fun p=>Aj p (Ak [iq 0,e] a) (Ab 0 b fun q=>Ah q a fun r _=>BM EE 3 r (iq 2) fun s=>Aj s (Ak [iq 0,iq 12] a) (Ab 1 b fun t=>Ah t a fun u _=>Ak [u,iq 0] a))
def sG (b:Ai) (n:Nat) (f g:V) (h:H):O :=AH 143654912 f h fun i j _ _=>AH 143654913 g j fun k l _ _=>nw0 143654914 l fun c a _ _=>Af 3 i a fun m _=>Af 3 k a fun o _=>is0 b 135 [m,iq 0,o] a fun p q _ _=>is0 b 82 [p] q fun d r _ _=>Ap 0 d fun s=>Ap 1 d fun t=>Ac 3 c s r fun e _ _=>Ao true 3 c e fun u=>Ak [u,t] e
def tQ (c:Ai) (n:Nat) (h:V) (i:H):O :=AH 144703488 h i fun d j _ _=>nw0 144703489 j fun a e _ _=>Af 3 d e fun k _=>is0 c 95 [k] e fun l b _ _=>CY (Kb .not l) fun m=>Aj m (Af 3 d b fun o _=>is0 c 148 [o] b fun p q _ _=>Ac 3 a p q fun f _ _=>Ao true 3 a f fun r=>Ak [r] f) (Af 3 d b fun s _=>is0 c 149 [s] b fun t u _ _=>Ac 3 a t u fun g _ _=>Ao true 3 a g fun v=>Ak [v] g)
def cC (p:Ai) (n:Nat) (q r:V) (s:H):O :=AH 145752064 q s fun d t _ _=>AH 145752065 r t fun e c _ _=>Ab 0 d fun u=>Ah u c fun v _=>Ab 0 e fun w=>Ah w c fun x _=>AP EE 3 v x fun a=>Ae a true c (fun y=>Ab 1 d fun z=>y z c [] []) fun A f _ _=>Ae a true f (fun B=>Ah A f fun C D=>B C f D []) fun E j _ _=>Ae a true j (fun F=>Ab 1 e fun G=>F G j [] []) fun I g _ _=>Ae a true g (fun J=>Ah I g fun K L=>J K g L []) fun M k _ _=>Ae a true k (fun N=>AP EE 3 E M fun P=>N P k [] []) fun Q l _ _=>AG a Q bF fun b=>Ae b true l (fun R=>Ab 2 d fun S=>R S l [] []) fun T h _ _=>Ae b true h (fun U=>Ah T h fun W X=>U W h X []) fun Y m _ _=>Ae b true m (fun Z=>Ab 2 e fun a0=>Z a0 m [] []) fun a1 i _ _=>Ae b true i (fun a2=>Ah a1 i fun a3 a4=>a2 a3 i a4 []) fun a5 o _ _=>Ae b true o (fun a6=>is0 p 150 [Y,a5,.fv (.func (.func 139) [] [])] o a6) fun a7 a8 _ _=>AG b a7 bF fun a9=>Ak [a9] a8
def iU (x:Ai) (n:Nat) (b c:V) (a:H):O :=AL b fun d=>Ab 2 d fun e=>Ah e a fun f _=>AR 1 f (iq 0) fun g=>Ah g a fun h _=>AL h fun i=>Ab 0 i fun j=>Ah j a fun k _=>BM EE 3 k c fun l=>Aj l (Ak [.fv .nilp] a) (AL b fun m=>Ab 2 m fun o=>Ah o a fun p _=>AR 1 p (iq 0) fun q=>Ah q a fun r _=>AL r fun s=>Ab 2 s fun t=>Ah t a fun u _=>AR 1 u (iq 0) fun v=>Ah v a fun w _=>Ak [w] a)
def QW (t:Ai) (n:Nat) (a e:V) (b:H):O :=(fun (f:H->O)=>(fun (c:V->H->O)=>AP EE 3 a (iq 3) fun g=>Aj g (c g b) (AP EE 3 a (iq 4) fun h=>Aj h (c h b) (AP EE 3 a (iq 6) fun i=>Aj i (c i b) (AP EE 3 a (iq 20) fun j=>Aj j (c j b) (AP EE 3 a (iq 28) fun k=>Aj k (c k b) (AP EE 3 a (iq 29) fun l=>c l b)))))) fun m d=>Aj m (AP EE 3 e (iq 1) fun o=>Aj o (Ak [iq 1] d) (f d)) (AP EE 3 a (iq 13) fun p=>Aj p (AP EE 3 e (iq 0) fun q=>Aj q (Ak [iq 1] d) (AP EE 3 e (iq 2) fun r=>Aj r (Ak [iq 2] d) (f d))) (f d))) fun s=>Ak [iq 0] s
def Li i a c b d (j:H) e (k:List V->H->O):=Aj i (AR 1 a c fun l=>Ah l b fun m _=>A9 [.fv (.nilp),.fv (.nilp)] [(0,1,m),(1,1,d)] fun f=>xJ (Jv true 148901891 f) 148901891 f b fun g n _ _=>Bv EE 3 c (iq 1) fun h=>Bo (j.own.map (·.1)) [148901891] [g,a,e,h] n fun o=>k [g,a,e,h] o) (Ak [d] b)
def OR (c:List V) d e (f:List V->H->O):=AB c fun g h=>AB h fun i j=>AB j fun a k=>AB k fun b _=>FG EE 3 b a fun l=>Li l i b d g e a f
def cN (i:Ai) (n:Nat) (c a:V) (b:H):O :=BH a fun d=>Bo (b.own.map (·.1)) [148901891] [c,a,d,iq 0] b fun e=>BK n (fun f g h=>OR g h b f) [c,a,d,iq 0] e
def rQ (g:Ai) (n:Nat) (a:V) (b:H):O :=BH a fun c=>BH a fun d=>AA (IA EE 85 a none (some c) (some d)) 149947397 b fun e f _ _=>Ak [e] f
def tS (h:Ai) (n:Nat) (a:V) (b:H):O :=AP EE 85 a .nils fun c=>Aj c (Ak [.nils] b) (AA (Am EE 85 0 []) 150998016 b fun d e _ _=>AA (AU EE 150998018 false .append [85,85] [d,a]) 150998018 e fun f g _ _=>Ak [f] g)
def H4 (n:List V) b c d e j f g (o:H) (p:List V->H->O):=AB n fun a _=>FG EE 3 a b fun q=>Aj q (AR 3 c a fun r=>Af 3 r d fun s _=>nw0 152048643 d fun k t _ _=>Ac 3 k s t fun h _ _=>Af 3 k h fun u i=>Aa [] i [] (Ab 0 e fun v=>Ah v h fun w x=>Aa [(i,[])] x [] (is0 j 127 [w,a] h fun y z A B=>Aa [(i,[])] A B (Bv EE 3 f y fun C=>is0 j 145 [u,C,g] z fun D l E F=>Aa [] E F (Aj D (Ak [bT] l) (Bv EE 3 a (iq 1) fun m=>Bo (o.own.map (·.1)) [152048643] [f,g,e,c,b,m] l fun G=>p [f,g,e,c,b,m] G)))))) (Ak [bF] d)
def Lh (a:List V) b c d (e:List V->H->O):=AB a fun f g=>AB g fun h i=>AB i fun j k=>AB k fun l m=>AB m fun n o=>H4 o n l b j c f h d e
def T5 (g:Ai) (n:Nat) (i c d:V) (e:H):O :=AH 152043520 i e fun a b _ _=>Ab 0 a fun j=>Ah j b fun k _=>AP EE 3 k (iq 1) fun l=>Aj l (Ab 1 a fun m=>Ah m b fun o _=>CN EE g d [o,c] b fun p q _ _=>Ak [p] q) (Ab 2 a fun r=>Ah r b fun f _=>BH f fun h=>Bo (e.own.map (·.1)) [152048643] [c,d,a,f,h,iq 0] b fun s=>BK n (fun t u v=>Lh u v g e t) [c,d,a,f,h,iq 0] s)
def Zd (t:Ai) (n:Nat) (c d g:V) (b:H):O :=Bn EE 3 c d fun h=>Ah g b fun i _=>AP EE 3 h i fun a=>Ae a true b (fun j=>j c b [] []) fun k e _ _=>Ae a true e (fun l=>l d e [] []) fun m f _ _=>Ae a true f (fun o=>PY EE 3 k m fun p=>o p f [] []) fun q r _ _=>AG a q bF fun s=>Ak [s] r
def aY (c:Ai) (n:Nat) (k e f l:V) (m:H):O :=AH 154140672 k m fun d o _ _=>nw0 154140673 o fun b a _ _=>Ab 1 d fun p=>Ah p a fun q _=>Bn EE 3 q e fun g=>Ah f a fun r _=>Ka EE 3 g r fun s=>Aj s (Af 3 d a fun t _=>is0 c 132 [t,.fv (.int .i64 (-1))] a fun u v _ _=>Ac 3 b u v fun h _ _=>Ao true 3 b h fun w=>Ak [w] h) (Ah f a fun x _=>AP EE 3 g x fun y=>Aj y (Af 3 l a fun z _=>is0 c 99 [z,e,iq 0] a fun A B _ _=>Ac 3 b A B fun i _ _=>Ao true 3 b i fun C=>Ak [C] i) (Af 3 d a fun D _=>is0 c 132 [D,iq 0] a fun E F _ _=>Ac 3 b E F fun j _ _=>Ao true 3 b j fun G=>Ak [G] j))
def kS f j (k:H) l m n t:=Ab 2 f fun u=>Ah u j fun g _=>BH g fun o=>Bo (k.own.map (·.1)) [155193347] [f,l,m,g,o,iq 0] j fun v=>BK n (fun w x a=>AB x fun b y=>AB y fun c z=>AB z fun d A=>AB A fun h B=>AB B fun i C=>AB C fun e _=>FG EE 3 e i fun D=>Aj D (AR 3 h e fun E=>Af 3 E a fun F _=>nw0 155193347 a fun p G _ _=>Ac 3 p F G fun q _ _=>Af 3 p q fun I _=>is0 t 148 [I] q fun J K _ _=>AR 3 d e fun L=>Ac 3 L J K fun M _ _=>Bv EE 3 e (iq 1) fun r=>Bo (k.own.map (·.1)) [155193347] [b,c,d,h,i,r] M fun N=>w [b,c,d,h,i,r] N) (Ab 0 b fun P=>Ah P a fun Q _=>Ab 1 b fun R=>Ah R a fun S _=>A9 [iq 0,iq 0,.nils] [(0,1,Q),(1,1,S),(2,1,d)] fun T=>Ac 3 c T a fun s _ _=>Ao true 3 c s fun U=>Ak [U] s)) [f,l,m,g,o,iq 0] v
def Ach (e:Ai) (n:Nat) (f:V) (a:H):O :=AH 155189248 f a fun b g _ _=>nw0 155189249 g fun h c _ _=>Ab 2 b fun i=>Ah i c fun j _=>BH j fun d=>AA (BD EE 155190275 29 d d) 155190275 c fun k l _ _=>kS b l a h k n e
def Gt a k c d b:=Ah k a fun e _=>AP EE 3 e (iq 4) fun l=>Aj l (Ab 2 c fun m=>Ah m a fun n _=>A9 [iq 0,iq 0,.nils] [(0,1,iq 11)] fun o=>AR 3 n (iq 0) fun p=>Ac 3 p o a fun f _ _=>Af 3 c f fun q _=>is0 d 151 [q] f fun r s _ _=>Ac 3 b r s fun g _ _=>Ao true 3 b g fun t=>Ak [t] g) (AP EE 3 e (iq 7) fun u=>Aj u (Ab 2 c fun v=>Ah v a fun w _=>A9 [iq 0,iq 0,.nils] [(0,1,iq 11)] fun x=>AR 3 w (iq 0) fun y=>Ac 3 y x a fun h _ _=>Af 3 c h fun z _=>is0 d 152 [z] h fun A B _ _=>Ac 3 b A B fun i _ _=>Ao true 3 b i fun C=>Ak [C] i) (Af 3 c a fun D _=>Ac 3 b D a fun j _ _=>Ao true 3 b j fun E=>Ak [E] j))
def Gs (m:List V) c d e a j (n:H) f g (o:List V->H->O):=AB m fun b _=>FG EE 3 b c fun p=>Aj p (AR 3 d b fun q=>Af 3 q e fun r _=>nw0 156241923 e fun k s _ _=>Ac 3 k r s fun h _ _=>Ab 2 a fun t=>Ah t h fun u i=>Aa [] i [] (Af 3 k h fun v w=>Aa [(i,[])] w [] (is0 j 149 [v] h fun x y z A=>Aa [(i,[])] z A (AR 3 u b fun B=>Ac 3 B x y fun C D E=>Aa [] D E (Bv EE 3 b (iq 1) fun l=>Bo (n.own.map (·.1)) [156241923] [f,g,a,d,c,l] C fun F=>o [f,g,a,d,c,l] F))))) (Ab 0 f fun G=>Gt e G a j g)
def Hr (a:List V) b c d (e:List V->H->O):=AB a fun f g=>AB g fun h i=>AB i fun j k=>AB k fun l m=>AB m fun n o=>Gs o n l b j c d f h e
def SX (p:Ai) (n:Nat) (q:V) (e:H):O :=AH 156237824 q e fun a r _ _=>nw0 156237825 r fun h c _ _=>Ab 0 a fun s=>Ah s c fun t b=>Aa [] b [] (Ab 1 a fun u=>Ah u c fun v d=>Aa [(b,[])] d [] (Ab 2 a fun w=>Ah w c fun x i=>Aa [(d,[]),(b,[])] i [] (BH x fun j=>AA (BD EE 156238855 29 j j) 156238855 c fun y z k l=>Aa [(d,[]),(b,[])] k l (A9 [iq 0,iq 0,.nils] [(0,1,t),(1,1,v),(2,1,y)] fun A=>nw0 156238857 z fun f B C D=>Aa [(k,l),(i,[]),(d,[]),(b,[])] C D (Ac 3 f A B fun m E F=>Aa [] E F (Ab 2 a fun G=>Ah G m fun g _=>BH g fun o=>Bo (e.own.map (·.1)) [156241923] [a,h,f,g,o,iq 0] m fun I=>BK n (fun J K L=>Hr K L p e J) [a,h,f,g,o,iq 0] I))))))
def HO a b c d e m f (n:H) (o:List V->H->O):=FG EE 3 a b fun p=>Aj p (AR 3 c a fun q=>Af 3 q d fun r _=>nw0 157291523 d fun h s _ _=>Ac 3 h r s fun i _ _=>AR 3 e a fun t=>Af 3 t i fun u _=>nw0 157292548 i fun j v _ _=>Ac 3 j u v fun g _ _=>Af 3 h g fun w _=>Af 3 j g fun x _=>CN EE m f [w,x] g fun y k _ _=>CY (Kb .not y) fun z=>Aj z (Ak [bF] k) (Bv EE 3 a (iq 1) fun l=>Bo (n.own.map (·.1)) [157291523,157292548] [e,f,c,b,l] k fun A=>o [e,f,c,b,l] A)) (Ak [bT] d)
def J2 (a:List V) b c d (e:List V->H->O):=AB a fun f g=>AB g fun h i=>AB i fun j k=>AB k fun l m=>AB m fun n _=>HO n l j b f c h d e
def Tk (f:Ai) (n:Nat) (a c d:V) (b:H):O :=BH a fun g=>BH c fun h=>BM EE 3 g h fun i=>Aj i (Ak [bF] b) (BH a fun e=>Bo (b.own.map (·.1)) [157291523,157292548] [c,d,a,e,iq 0] b fun j=>BK n (fun k l m=>J2 l m f b k) [c,d,a,e,iq 0] j)
def Rh d a k f l c m:=Ae a false d (fun n=>Ah k d fun o p=>n o d p []) fun q g _ _=>Ae a false g (fun r=>AR 3 q (iq 0) fun s=>r s g [] []) fun t e _ _=>Ae a false e (fun u=>Af 3 t e fun v w=>u v e w []) fun x h _ _=>Ae a false h (fun y=>is0 f 134 [x,iq 0] h y) fun z b _ _=>AG a bT z fun A=>Aj A (Af 3 l b fun B _=>Ac 3 c B b fun i _ _=>Ao true 3 c i fun C=>Ak [C] i) (Ab 2 m fun D=>Ah D b fun E _=>AR 3 E (iq 0) fun F=>Af 3 F b fun G _=>A9 [iq 0,iq 0,.nils] [(0,1,iq 11)] fun I=>is0 f 135 [G,iq 0,I] b fun J K _ _=>Ac 3 c J K fun j _ _=>Ao true 3 c j fun L=>Ak [L] j)
def Rj e f m b n o p:=Ae f false e (fun q=>BM EE 3 m (iq 1) fun r=>q r e [] []) fun s g _ _=>AG f bT s fun a=>Ae a false g (fun t=>Ab 2 b fun u=>t u g [] []) fun v c _ _=>Ae a false c (fun w=>Ah v c fun x y=>w x c y []) fun z h _ _=>Ae a false h (fun A=>AR 3 z (iq 1) fun B=>A B h [] []) fun C i _ _=>Ae a false i (fun D=>Ab 1 C fun E=>D E i [] []) fun F d _ _=>Ae a false d (fun G=>Ah F d fun I J=>G I d J []) fun K j _ _=>Ae a false j (fun L=>BM EE 3 K (iq 0) fun M=>L M j [] []) fun N k _ _=>AG a bT N fun l=>Ae l false k (fun P=>Ab 2 b fun Q=>P Q k [] []) fun R S _ _=>Rh S l R n o p b
def S151 (j:Ai) (n:Nat) (k:V) (l:H):O :=AH 158334976 k l fun g m _ _=>nw0 158334977 m fun o c _ _=>Ab 2 g fun p=>Ah p c fun q _=>AR 3 q (iq 1) fun r=>Af 3 r c fun s _=>nw0 158336004 c fun b t _ _=>Ac 3 b s t fun d _ _=>Ab 0 b fun u=>Ah u d fun v _=>BM EE 3 v (iq 5) fun a=>Ae a false d (fun w=>Ab 2 b fun x=>w x d [] []) fun y e _ _=>Ae a false e (fun z=>Ah y e fun A B=>z A e B []) fun C h _ _=>Ae a false h (fun D=>AR 3 C (iq 1) fun E=>D E h [] []) fun F i _ _=>Ae a false i (fun G=>Ab 0 F fun I=>G I i [] []) fun J f _ _=>Ae a false f (fun K=>Ah J f fun L M=>K L f M []) fun N P _ _=>Rj P a N b j g o
def HE d e h a p i j q r s c t:=Aa [] d e (Ae a false h (fun u=>Ab 2 p fun v=>u v h [] []) fun w f _ _=>Ae a false f (fun x=>Ah w f fun y z=>x y f z []) fun A k B C=>Aa [(d,e),(i,j)] B C (Ae a false k (fun D=>AR 3 A (iq 0) fun E=>D E k [] []) fun F g _ _=>Ae a false g (fun G=>Af 3 F g fun I J=>G I g J []) fun K l L M=>Aa [(d,e),(i,j)] L M (Ae a false l (fun N=>is0 q 139 [r,K] l N) fun P m Q R=>Aa [] Q R (Ae a false m (fun S=>CY (Kb .not P) fun T=>S T m [] []) fun U b _ _=>AG a bT U fun W=>Aj W (Af 3 s b fun X _=>Ac 3 c X b fun n _ _=>Ao true 3 c n fun Y=>Ak [Y] n) (Ab 2 t fun Z=>Ah Z b fun a0 _=>AR 3 a0 (iq 0) fun a1=>Af 3 a1 b fun a2 _=>Ac 3 c a2 b fun o _ _=>Ao true 3 c o fun a3=>Ak [a3] o)))))
def HF p q r i j s t b u v w x y:=nw0 159384585 p fun d z A B=>Aa [(q,r),(i,[]),(j,[]),(s,[]),(t,[])] A B (Ac 3 b u z fun C D E=>Aa [(i,[]),(j,[])] D E (Ac 3 d v C fun e F G=>Aa [] F G (Ab 0 b fun I=>Ah I e fun J K=>Aa [] K [] (BM EE 3 J (iq 8) fun c=>Ae c false e (fun L=>Ab 0 d fun M=>L M e [] []) fun N f _ _=>Ae c false f (fun P=>Ah N f fun Q R=>P Q f R []) fun S k T U=>Aa [] T U (Ae c false k (fun W=>BM EE 3 S (iq 9) fun X=>W X k [] []) fun Y l _ _=>AG c bT Y fun a=>Ae a false l (fun Z=>Ab 2 b fun a0=>Z a0 l [] []) fun a1 g _ _=>Ae a false g (fun a2=>Ah a1 g fun a3 a4=>a2 a3 g a4 []) fun a5 m n o=>Aa [] n o (Ae a false m (fun a6=>AR 3 a5 (iq 0) fun a7=>a6 a7 m [] []) fun a8 h _ _=>Ae a false h (fun a9=>Af 3 a8 h fun b0 b1=>a9 b0 h b1 []) fun b2 b3 b4 b5=>HE b4 b5 b3 a d n o w b2 x y b))))))
def Yq (i:Ai) (n:Nat) (j:V) (k:H):O :=AH 159383552 j k fun d l _ _=>nw0 159383553 l fun m a _ _=>Ab 2 d fun o=>Ah o a fun p b=>Aa [] b [] (AR 3 p (iq 1) fun q=>Af 3 q a fun r c=>Aa [] c [] (Ab 2 d fun s=>Ah s a fun t e=>Aa [(c,[]),(b,[])] e [] (AR 3 t (iq 2) fun u=>Af 3 u a fun v f=>Aa [(c,[]),(b,[])] f [] (nw0 159384584 a fun w x g h=>Aa [(f,[]),(e,[]),(c,[]),(b,[])] g h (HF x g h f e c b w r v i d m)))))
end
noncomputable section
abbrev jR:={t:DT // t.Ok EE ft.get}
def nd (m:Nat) (a b:jR):jR:=⟨.node m a.1 b.1,a.2,b.2⟩
def lf0 (f:Nat) (G:Ai->Nat->Hp->OH) (e:(fun ih n h=>IH EE ih ft.get n f [] h)=fun ih n h=>G ih n h:=by kernel_rfl):jR :=⟨.leaf f fun ih n=>ar0 (G ih n),fun ih n _ _ _ r=>vO (F:=IH EE ih ft.get n f) (fun h=>congrFun (congrFun (congrFun e ih) n) h) r⟩
def IX (f:Nat) (G:Ai->Nat->IV->Hp->OH) (e:(fun ih n a h=>IH EE ih ft.get n f [a] h)=fun ih n a h=>G ih n a h:=by kernel_rfl):jR :=⟨.leaf f fun ih n=>ar1 (G ih n),fun ih n _ _ _ r=>u7 (F:=IH EE ih ft.get n f) (fun a h=>congrFun (congrFun (congrFun (congrFun e ih) n) a) h) r⟩
def Fd (f:Nat) (G:Ai->Nat->IV->IV->Hp->OH) (e:(fun ih n a b h=>IH EE ih ft.get n f [a,b] h)=fun ih n a b h=>G ih n a b h:=by kernel_rfl):jR :=⟨.leaf f fun ih n=>ar2 (G ih n),fun ih n _ _ _ r=>p9 (F:=IH EE ih ft.get n f) (fun a b h=>congrFun (congrFun (congrFun (congrFun (congrFun e ih) n) a) b) h) r⟩
def J8 (f:Nat) (G:Ai->Nat->IV->IV->IV->Hp->OH) (e:(fun ih n a b c h=>IH EE ih ft.get n f [a,b,c] h)=fun ih n a b c h=>G ih n a b c h:=by kernel_rfl):jR :=⟨.leaf f fun ih n=>ar3 (G ih n),fun ih n _ _ _ r=>uL (F:=IH EE ih ft.get n f) (fun a b c h=>congrFun (congrFun (congrFun (congrFun (congrFun (congrFun e ih) n) a) b) c) h) r⟩
def My (f:Nat) (G:Ai->Nat->IV->IV->IV->IV->Hp->OH) (e:(fun ih n a b c d h=>IH EE ih ft.get n f [a,b,c,d] h)=fun ih n a b c d h=>G ih n a b c d h:=by kernel_rfl):jR :=⟨.leaf f fun ih n=>ar4 (G ih n),fun ih n _ _ _ r=>xE (F:=IH EE ih ft.get n f) (fun a b c d h=>congrFun (congrFun (congrFun (congrFun (congrFun (congrFun (congrFun e ih) n) a) b) c) d) h) r⟩
def lf5 (f:Nat) (G:Ai->Nat->IV->IV->IV->IV->IV->Hp->OH) (e:(fun ih n a b c d x h=>IH EE ih ft.get n f [a,b,c,d,x] h)=fun ih n a b c d x h=>G ih n a b c d x h:=by kernel_rfl):jR :=⟨.leaf f fun ih n=>ar5 (G ih n),fun ih n _ _ _ r=>uJ (F:=IH EE ih ft.get n f) (fun a b c d x h=>congrFun (congrFun (congrFun (congrFun (congrFun (congrFun (congrFun (congrFun e ih) n) a) b) c) d) x) h) r⟩
def ttr:jR :=
 nd 86 (nd 52 (nd 31 (nd 22 (nd 14 (nd 12 (nd 11 (My 8 S8)
 (lf0 11 S11))
 (nd 13 (IX 12 tL)
 (IX 13 S13)))
 (nd 20 (nd 19 (My 14 S14)
 (J8 19 S19))
 (nd 21 (IX 20 S20)
 (IX 21 S21))))
 (nd 27 (nd 24 (nd 23 (J8 22 S22)
 (Fd 23 jX))
 (nd 26 (IX 24 S24)
 (Fd 26 S26)))
 (nd 29 (nd 28 (My 27 S27)
 (IX 28 S28))
 (nd 30 (J8 29 S29)
 (My 30 S30)))))
 (nd 41 (nd 35 (nd 33 (nd 32 (J8 31 S31)
 (J8 32 S32))
 (nd 34 (My 33 xX)
 (Fd 34 S34)))
 (nd 39 (nd 38 (J8 35 jI)
 (Fd 38 S38))
 (nd 40 (IX 39 S39)
 (Fd 40 xL))))
 (nd 47 (nd 43 (nd 42 (Fd 41 S41)
 (My 42 S42))
 (nd 45 (IX 43 S43)
 (IX 45 xO)))
 (nd 49 (nd 48 (Fd 47 oF)
 (IX 48 S48))
 (nd 50 (Fd 49 S49)
 (nd 51 (IX 50 S50)
 (My 51 oI)))))))
 (nd 69 (nd 60 (nd 56 (nd 54 (nd 53 (Fd 52 S52)
 (J8 53 S53))
 (nd 55 (IX 54 S54)
 (Fd 55 S55)))
 (nd 58 (nd 57 (IX 56 S56)
 (Fd 57 S57))
 (nd 59 (J8 58 S58)
 (My 59 S59))))
 (nd 64 (nd 62 (nd 61 (J8 60 S60)
 (IX 61 S61))
 (nd 63 (Fd 62 S62)
 (Fd 63 S63)))
 (nd 66 (nd 65 (lf0 64 S64)
 (Fd 65 S65))
 (nd 67 (My 66 S66)
 (nd 68 (My 67 xS)
 (My 68 S68))))))
 (nd 77 (nd 73 (nd 71 (nd 70 (My 69 S69)
 (Fd 70 S70))
 (nd 72 (Fd 71 S71)
 (My 72 S72)))
 (nd 75 (nd 74 (J8 73 S73)
 (J8 74 S74))
 (nd 76 (My 75 S75)
 (Fd 76 S76))))
 (nd 81 (nd 79 (nd 78 (Fd 77 S77)
 (Fd 78 S78))
 (nd 80 (Fd 79 pX)
 (J8 80 S80)))
 (nd 83 (nd 82 (Fd 81 S81)
 (IX 82 xV))
 (nd 84 (J8 83 S83)
 (nd 85 (Fd 84 S84)
 (Fd 85 S85))))))))
 (nd 119 (nd 102 (nd 94 (nd 90 (nd 88 (nd 87 (Fd 86 S86)
 (Fd 87 S87))
 (nd 89 (Fd 88 tC)
 (Fd 89 S89)))
 (nd 92 (nd 91 (IX 90 S90)
 (IX 91 S91))
 (nd 93 (IX 92 S92)
 (IX 93 S93))))
 (nd 98 (nd 96 (nd 95 (Fd 94 sA)
 (IX 95 S95))
 (nd 97 (lf0 96 S96)
 (J8 97 S97)))
 (nd 100 (nd 99 (My 98 S98)
 (J8 99 S99))
 (nd 101 (J8 100 pZ)
 (My 101 wC)))))
 (nd 110 (nd 106 (nd 104 (nd 103 (My 102 vW)
 (Fd 103 Zj))
 (nd 105 (J8 104 tP)
 (My 105 ZS)))
 (nd 108 (nd 107 (My 106 qT)
 (J8 107 t9))
 (nd 109 (J8 108 rC)
 (J8 109 vQ))))
 (nd 114 (nd 112 (nd 111 (J8 110 sQ)
 (J8 111 uA))
 (nd 113 (My 112 vL)
 (Fd 113 vH)))
 (nd 116 (nd 115 (lf5 114 tN)
 (Fd 115 S115))
 (nd 117 (IX 116 gN)
 (nd 118 (IX 117 uM)
 (Fd 118 vB)))))))
 (nd 136 (nd 127 (nd 123 (nd 121 (nd 120 (IX 119 S5)
 (Fd 120 lZ))
 (nd 122 (Fd 121 aW)
 (Fd 122 Y9)))
 (nd 125 (nd 124 (Fd 123 sC)
 (Fd 124 uY))
 (nd 126 (IX 125 ZJ)
 (Fd 126 eJ))))
 (nd 131 (nd 129 (nd 128 (Fd 127 qI)
 (Fd 128 Pu))
 (nd 130 (My 129 vN)
 (J8 130 Ys)))
 (nd 133 (nd 132 (My 131 jS)
 (Fd 132 uF))
 (nd 134 (J8 133 rZ)
 (nd 135 (Fd 134 uC)
 (J8 135 qW))))))
 (nd 144 (nd 140 (nd 138 (nd 137 (Fd 136 pV)
 (Fd 137 sG))
 (nd 139 (IX 138 tQ)
 (Fd 139 cC)))
 (nd 142 (nd 141 (Fd 140 iU)
 (Fd 141 QW))
 (nd 143 (Fd 142 cN)
 (IX 143 rQ))))
 (nd 148 (nd 146 (nd 145 (IX 144 tS)
 (J8 145 T5))
 (nd 147 (J8 146 Zd)
 (My 147 aY)))
 (nd 150 (nd 149 (IX 148 Ach)
 (IX 149 SX))
 (nd 151 (J8 150 Tk)
 (nd 152 (IX 151 S151)
 (IX 152 Yq))))))))
def dt:DT:=ttr.1
theorem AaH:dt.Ok EE ft.get:=ttr.2
theorem uW:∀n f args h x,SS dt n f args h=some x->run EE n f args h=some x:=Aa4 Aau AaH
end
end Idl
end Go.Proofs.YtnenpcghegcnhaaGreat

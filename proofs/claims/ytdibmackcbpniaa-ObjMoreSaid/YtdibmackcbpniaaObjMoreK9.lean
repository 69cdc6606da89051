/-
  Texts of a proof, part 9: an ideal semantics of the program, its functions in shallow form, contracts of them. No statement of the seat is proved here.
-/
import Derived.Test.YtdibmackcbpniaaObjMoreK8
set_option linter.all false
noncomputable section
set_option maxRecDepth 100000
set_option linter.unusedVariables false
namespace Go.Proofs.Ytdibmackcbpniaa
namespace Idl
noncomputable section
def Ll (a:IV) (e:Hp) (f g:IV) (h:Hp) (b c:IV) (i:List IV→Hp→OH):OH :=
 Ae 2 a fun j=>Ck j f e fun k _ _=>B2 EE 3 g (.fv (.int .i64 1)) fun d=>BH (h.own.map (·.1)) [117445638,117448708] [b,c,a,d] k fun l=>i [b,c,a,d] l
def MP (b:IV) (a:Hp) (c d:IV) (e:Hp) (f g:IV) (h:List IV→Hp→OH):OH :=
 Ae 2 b fun i=>Ak i a fun j _=>Ag 3 c a fun k _=>AE (Aj EE 28 1 [(0,k)]) 117448707 a fun l m _ _=>AE (AM EE 117448708 false .append [28,28] [j,l]) 117448708 m fun n o _ _=>Ll b o n d e f g h
def MR (a:Hp) (b c:IV) (d:Hp→OH):OH :=
 Ah 3 b c a fun e _ _=>d e
def MK (a:Hp) (b e f:IV) (g:Aa) (h:IV) (c:Hp→OH):OH :=
 Ab b true a (fun i=>AG e (.fv (.bool true)) f fun j=>i j a [] []) fun k d _ _=>AG b k (.fv (.bool false)) fun l=>An l (Am [] false false g 30 [.fv (.int .i64 11),.nils] d fun m n _ _=>MR n h m c) (c d)
def M6 (d:Hp) (b h i:IV) (j:Aa) (k:IV) (l:Hp→OH):OH :=
 Ab b true d (fun m=>A0 EE 3 h (.fv (.int .i64 4)) fun n=>m n d [] []) fun o e _ _=>Ab b true e (fun p=>p o e [] []) fun a f _ _=>Ab a false f (fun q=>Ae 0 i fun r=>q r f [] []) fun s c _ _=>Ab a false c (fun t=>Ak s c fun u v=>t u c v []) fun w g _ _=>Ab a false g (fun x=>A0 EE 3 w (.fv (.int .i64 7)) fun y=>x y g [] []) fun z A _ _=>MK A b a z j k l
def LA (g:Hp) (a h i e:IV) (j:Hp) (b k:IV) (l:List IV→Hp→OH) (m:Aa):OH :=
 Ah 3 a h g fun f _ _=>(fun (n:Hp→OH)=>A0 EE 3 e (.fv (.int .i64 0)) fun c=>Ab c true f (fun o=>Ae 0 b fun p=>o p f [] []) fun q d _ _=>Ab c true d (fun r=>Ak q d fun s t=>r s d t []) fun u v _ _=>M6 v c u b m a n) fun w=>MP i w a e j b k l
def Lw (a:Hp) (d b:IV) (c:Aa) (e:IV) (f:Hp) (g h:IV) (i:List IV→Hp→OH):OH :=
 Ak d a fun j _=>Bh 3 j b fun k=>Ag 3 k a fun l _=>Am [] false false c 112 [l] a fun m n _ _=>AB 117445638 (.row [.fv (.int .i64 0),.fv (.int .i64 0),.nils] false) (.ptr (.own 117445638) 0) n fun o p _ _=>LA p o m e b f g h i c
def Mq (c:Aa) (d:Hp) (e f a:IV):OH :=
 Am [] false false c 89 [e,.fv (.int .i64 0),f] d fun g h i j=>Ac [] i j (Ah 3 a g h fun b k l=>Ac [] k l (As true 3 a b fun m=>Ao [m] b))
def Mf (d:IV) (a:Hp) (b:Aa) (e f:AF) (g:IV):OH :=
 Bh 3 d (.fv (.int .i64 0)) fun h=>Ag 3 h a fun i c=>Ac [] c [] (Am [] false false b 30 [.fv (.int .i64 11),.nils] a fun j k l m=>Ac [(c,[]),(e,[]),(f,[])] l m (Mq b k i j g))
def Nq (a:AF) (d:IV) (b:Hp) (e:Aa) (f:IV):OH :=
 Ac [] a [] (Bh 3 d (.fv (.int .i64 1)) fun g=>Ae 2 g fun h=>Ak h b fun i c=>Ac [] c [] (Mf i b e c a f))
def Lv (a:Hp) (d b:IV):OH :=
 Ag 3 d a fun e _=>Ah 3 b e a fun c _ _=>As true 3 b c fun f=>Ao [f] c
def Ng (a:Hp) (b c:IV):OH :=
 Ak b a fun d _=>Bh 3 d (.fv (.int .i64 1)) fun e=>Ae 2 e fun f=>Ak f a fun g _=>Bh 3 g (.fv (.int .i64 0)) fun h=>Lv a h c
def Nf (c:Hp) (a d:IV):OH :=
 Ah 3 a d c fun b _ _=>As true 3 a b fun e=>Ao [e] b
def L8 (b:Hp) (c:IV) (f:Aa) (g h d e:IV):OH :=
 Ab c true b (fun i=>Am [] false false f 18 [g,h] b i) fun j a k l=>Ac [] k l (AG c j (.fv (.bool false)) fun m=>An m (Ae 2 d fun n=>Ng a n e) (Ag 3 d a fun o _=>Nf a e o))
def Mh (b:Hp) (a k:IV) (d e f g h i:AF) (l:Aa) (m n o:IV):OH :=
 Ab a true b (fun p=>Ak k b fun q r=>p q b r []) fun s j t u=>Ac [(d,e),(f,g),(h,i)] t u (Ab a true j (fun v=>Bh 3 s (.fv (.int .i64 0)) fun w=>v w j [] []) fun x c _ _=>Ab a true c (fun y=>Ag 3 x c fun z A=>y z c A []) fun B C D E=>Ac [(d,e),(f,g),(h,i)] D E (L8 C a l m B n o))
def L6 (c:Hp) (a d:IV) (e f g h i j:AF) (m:Aa) (n o:IV):OH :=
 Ab a true c (fun p=>Ae 2 d fun q=>p q c [] []) fun r b _ _=>Ab a true b (fun s=>Ak r b fun t u=>s t b u []) fun v k w x=>Ac [(e,f),(g,h),(i,j)] w x (Ab a true k (fun y=>Bh 3 v (.fv (.int .i64 2)) fun z=>y z k [] []) fun A l _ _=>Ab a true l (fun B=>Ae 2 A fun C=>B C l [] []) fun D E _ _=>Mh E a D e f g h i j m n d o)
def MW (b:Hp) (a i j:IV) (k l:AF) (m:Aa) (n:IV):OH :=
 Ab a true b (fun o=>Ak i b fun p q=>o p b q []) fun r d e f=>Ac [] e f (Ab a true d (fun s=>Bh 3 r (.fv (.int .i64 0)) fun t=>s t d [] []) fun u c _ _=>Ab a true c (fun v=>Ag 3 u c fun w x=>v w c x []) fun y z g h=>Ac [] g h (L6 z a j g h e f k l m y n))
def ME (c:Hp) (a d:IV) (i:Aa) (j:IV):OH :=
 Ab a true c (fun k=>Ae 2 d fun l=>k l c [] []) fun m b _ _=>Ab a true b (fun n=>Ak m b fun o p=>n o b p []) fun q e f g=>Ac [] f g (Ab a true e (fun r=>Bh 3 q (.fv (.int .i64 1)) fun s=>r s e [] []) fun t h _ _=>Ab a true h (fun u=>Ae 2 t fun v=>u v h [] []) fun w x _ _=>MW x a w d f g i j)
def LX (c:Hp) (a e f:IV) (g:Aa) (h:IV):OH :=
 Ab a true c (fun i=>Ae 0 e fun j=>i j c [] []) fun k b _ _=>Ab a true b (fun l=>Ak k b fun m n=>l m b n []) fun o d p q=>Ac [] p q (Ab a true d (fun r=>A0 EE 3 o (.fv (.int .i64 9)) fun s=>r s d [] []) fun t u _ _=>AG a t (.fv (.bool false)) fun v=>ME u v f g h)
def LU (f g:IV) (c:Hp) (d:IV) (h:Aa) (i:IV):OH :=
 AG f g (.fv (.bool false)) fun a=>Ab a true c (fun j=>Ae 2 d fun k=>j k c [] []) fun l b _ _=>Ab a true b (fun m=>Ak l b fun n o=>m n b o []) fun p e q r=>Ac [] q r (Ab a true e (fun s=>Bh 3 p (.fv (.int .i64 2)) fun t=>s t e [] []) fun u v _ _=>LX v a u d h i)
def Mb (c:Hp) (a f g:IV) (h:Aa) (i:IV):OH :=
 Ab a true c (fun j=>Bh 3 f (.fv (.int .i64 1)) fun k=>j k c [] []) fun l d _ _=>Ab a true d (fun m=>Ae 0 l fun n=>m n d [] []) fun o b _ _=>Ab a true b (fun p=>Ak o b fun q r=>p q b r []) fun s e t u=>Ac [] t u (Ab a true e (fun v=>A0 EE 3 s (.fv (.int .i64 8)) fun w=>v w e [] []) fun x y _ _=>LU a x y g h i)
def Ni (e:AF) (f:IV) (c:Hp) (d:IV) (g:Aa) (h:IV):OH :=
 Ac [] e [] (A0 EE 3 f (.fv (.int .i64 7)) fun a=>Ab a true c (fun i=>Ae 2 d fun j=>i j c [] []) fun k b _ _=>Ab a true b (fun l=>Ak k b fun m n=>l m b n []) fun o p q r=>Ac [] q r (Mb p a o d g h))
def M0 (e f b:IV) (a:Hp) (c:Aa) (d g:IV):OH :=
 AG e f (.fv (.bool false)) fun h=>An h (Ae 2 b fun i=>Ak i a fun j k=>Nq k j a c d) (Ae 0 g fun l=>Ak l a fun m n=>Ni n m a b c d)
def Lo (b:Hp) (a f:IV) (c:Aa) (g h i:IV):OH :=
 Ab a true b (fun j=>Ag 3 f b fun k l=>j k b l []) fun m d n o=>Ac [] n o (Ab a true d (fun p=>Am [] false false c 118 [m,.fv (.int .i64 0)] d p) fun q e r s=>Ac [] r s (Ab a true e (fun t=>Dw (M5 .not q) fun u=>t u e [] []) fun v w _ _=>M0 a v g w c h i))
def Mc (c:Hp) (a f:IV) (g:Aa) (h i j:IV):OH :=
 Ab a true c (fun k=>Bh 3 f (.fv (.int .i64 1)) fun l=>k l c [] []) fun m d _ _=>Ab a true d (fun n=>Ae 2 m fun o=>n o d [] []) fun p b _ _=>Ab a true b (fun q=>Ak p b fun r s=>q r b s []) fun t e u v=>Ac [] u v (Ab a true e (fun w=>Bh 3 t (.fv (.int .i64 0)) fun x=>w x e [] []) fun y z _ _=>Lo z a y g h i j)
def MS (e f:AF) (g h:IV) (c:Hp) (d:IV) (i:Aa) (j k:IV):OH :=
 Ac [] e f (AG g h (.fv (.bool false)) fun a=>Ab a true c (fun l=>Ae 2 d fun m=>l m c [] []) fun n b _ _=>Ab a true b (fun o=>Ak n b fun p q=>o p b q []) fun r s t u=>Ac [] t u (Mc s a r i d j k))
def M1 (b:Hp) (a h:IV) (c:Aa) (i j k l:AF) (m n o:IV):OH :=
 Ab a true b (fun p=>Ag 3 h b fun q r=>p q b r []) fun s d e f=>Ac [] e f (Ab a true d (fun t=>Am [] false false c 29 [.fv (.int .i64 0)] d t) fun u g v w=>Ac [(e,f),(i,j),(k,l)] v w (Ab a true g (fun x=>Am [] false false c 18 [s,u] g x) fun y z A B=>MS A B a y z m c n o))
def LS (c:Hp) (a h:IV) (i:Aa) (j k:AF) (l m n:IV):OH :=
 Ab a true c (fun o=>Bh 3 h (.fv (.int .i64 1)) fun p=>o p c [] []) fun q d _ _=>Ab a true d (fun r=>Ae 2 q fun s=>r s d [] []) fun t b _ _=>Ab a true b (fun u=>Ak t b fun v w=>u v b w []) fun x e f g=>Ac [] f g (Ab a true e (fun y=>Bh 3 x (.fv (.int .i64 1)) fun z=>y z e [] []) fun A B _ _=>M1 B a A i f g j k l m n)
def L4 (c:Hp) (d i e:IV) (j:Aa) (k l:IV):OH :=
 Ab d true c (fun m=>A0 EE 3 i (.fv (.int .i64 5)) fun n=>m n c [] []) fun o f _ _=>AG d o (.fv (.bool false)) fun a=>Ab a true f (fun p=>Ae 2 e fun q=>p q f [] []) fun r b _ _=>Ab a true b (fun s=>Ak r b fun t u=>s t b u []) fun v w g h=>Ac [] g h (LS w a v j g h e k l)
def Nn (e f:AF) (c:Hp) (a g h:IV) (i:Aa) (j k:IV):OH :=
 Ac [] e f (Ab a true c (fun l=>Bh 3 g (.fv (.int .i64 1)) fun m=>l m c [] []) fun n d _ _=>Ab a true d (fun o=>Ae 0 n fun p=>o p d [] []) fun q b _ _=>Ab a true b (fun r=>Ak q b fun s t=>r s b t []) fun u v w x=>Ac [] w x (L4 v a u h i j k))
def MC (a:Hp) (e d:IV) (f:Aa) (g h:IV):OH :=
 Ak e a fun i j=>Ac [] j [] (A0 EE 3 i (.fv (.int .i64 4)) fun b=>Ab b true a (fun k=>Ae 2 d fun l=>k l a [] []) fun m c _ _=>Ab b true c (fun n=>Ak m c fun o p=>n o c p []) fun q r s t=>Nn s t r b q d f g h)
def Mm (b:Hp) (g c a:IV) (d:Aa) (e:IV) (h:Hp) (f:IV) (i:List IV→Hp→OH):OH :=
 Ak g b fun j _=>BV j fun k=>H4 EE 3 c k fun l=>An l (Ae 2 a fun m=>Lw b m c d e h a f i) (Ae 0 a fun n=>MC b n e d f a)
def FX (b:List IV) (c:Hp) (d:Aa) (e:Hp) (f:List IV→Hp→OH):OH :=
 AH b fun a g=>AH g fun h i=>AH i fun j k=>AH k fun l _=>Ae 2 a fun m=>Mm c m l a d j e h f
def Lz (e f:IV) (g b:Hp) (c d:IV) (n:Nat) (h:Aa):OH :=
 BW [.fv (.int .i64 0),.fv (.int .i64 0),.nils] [(0,1,e),(1,1,f)] fun i=>AB 117441541 (.row [.fv (.int .i64 0),.fv (.int .i64 0),.nils] false) (.ptr (.own 117441541) 0) g fun a j _ _=>Ah 3 a i j fun k _ _=>BH (b.own.map (·.1)) [117445638,117448708] [c,d,a,.fv (.int .i64 0)] k fun l=>B5 n (fun m o p=>FX o p h b m) [c,d,a,.fv (.int .i64 0)] l
def S112 (d:Aa) (n:Nat) (e:IV) (c:Hp):OH :=
 A4 117440512 e c fun a f _ _=>AB 117440513 (.row [.fv (.int .i64 0),.fv (.int .i64 0),.nils] false) (.ptr (.own 117440513) 0) f fun g b _ _=>Ae 0 a fun h=>Ak h b fun i _=>Ae 1 a fun j=>Ak j b fun k _=>Lz i k b c a g n d
theorem Ah4 (a:Aa) (n:Nat) (b:IV) (c:Hp):AC EE a ft.get n 112 [b] c=S112 a n b c:=by kernel_rfl
def LK (c:Hp) (a d:IV):OH :=
 Ah 3 a d c fun b _ _=>As true 3 a b fun e=>Ao [e] b
def MD (c:IV) (d:Hp) (a:IV):OH :=
 Bg EE 3 c (.fv (.int .i64 1)) fun e=>BW [.fv (.int .i64 0),.fv (.int .i64 0),.nils] [(0,1,.fv (.int .i64 1)),(1,1,e)] fun f=>Ah 3 a f d fun b _ _=>As true 3 a b fun g=>Ao [g] b
def LY (a:Hp) (b:IV):OH :=
 As true 3 b a fun c=>Ao [c] a
def Lr (d e c:IV) (a:Hp) (b:IV):OH :=
 Ko EE 3 d e fun f=>An f (Ae 1 c fun g=>Ak g a fun h _=>MD h a b) (Ag 3 c a fun i _=>Ah 3 b i a fun j _ _=>LY j b)
def MF (e b:IV) (a:Hp) (f:IV) (g:Aa) (h c d:IV):OH :=
 A0 EE 3 e b fun i=>An i (Ag 3 f a fun j _=>Am [] false false g 28 [j,h,.fv (.int .i64 0)] a fun k l _ _=>LK l c k) (Ae 1 d fun m=>Ak m a fun n _=>Lr n b d a c)
def LP (a:IV) (h:Hp) (i j:IV) (k:Hp) (b c d e f:IV) (l:List IV→Hp→OH):OH :=
 Ae 2 a fun m=>Ck m i h fun n o p=>Ac [] o p (B2 EE 3 j (.fv (.int .i64 1)) fun g=>BH (k.own.map (·.1)) [118501392] [b,c,d,e,f,a,g] n fun q=>l [b,c,d,e,f,a,g] q)
def Mz (b c a:AF) (d:Hp) (e f g h:IV) (i:Hp) (j k l m n:IV) (o:List IV→Hp→OH):OH :=
 Ac [(a,[])] b c (AE (Aj EE 28 1 [(0,e)]) 118501391 d fun p q r s=>Ac [(a,[])] r s (AE (AM EE 118501392 false .append [28,28] [f,p]) 118501392 q fun t u v w=>Ac [] v w (LP g u t h i j k l m n o)))
def MO (a b c:IV) (d:Hp) (e:IV) (g h f:AF) (i:Aa) (j k l m:IV) (n:Hp) (o p:IV) (q:List IV→Hp→OH):OH :=
 B2 EE 3 a b fun r=>B2 EE 3 c b fun s=>Ag 3 e d fun t u=>Ac [(g,[]),(h,[]),(f,[])] u [] (Am [] false false i 113 [j,r,s,t] d fun v w x y=>Mz x y f w v k l m n a c o e p q)
def Mr (a:Hp) (f:IV) (b:AF) (c g h i j:IV) (k:Aa) (l m:IV) (n:Hp) (o p:IV) (q:List IV→Hp→OH):OH :=
 Ak f a fun r d=>Ac [(b,[])] d [] (Bh 3 r c fun s=>Ag 3 s a fun t e=>Ac [(b,[])] e [] (MO g h i a j e d b k t l m c n o p q))
def LV (a:Aa) (g:Hp) (h b c d i j k:IV) (l:Hp) (m:IV) (n:List IV→Hp→OH):OH :=
 Am [] false false a 48 [h,b] g fun o e _ _=>Ae 2 c fun p=>Ak p e fun q f=>Ac [] f [] (Ae 2 d fun r=>Mr e r f b i o j k a q c l d m n)
def Mw (a:Hp) (b:IV):OH :=
 As true 3 b a fun c=>Ao [c] a
def Mo (c f d:IV) (a:Hp) (g:Aa) (e h i j:IV) (k:Hp) (b:IV) (l:List IV→Hp→OH):OH :=
 H4 EE 3 c f fun m=>An m (Ae 0 d fun n=>Ak n a fun o _=>LV g a o c e d h i j k b l) (Ag 3 e a fun p _=>Ah 3 b p a fun q _ _=>Mw q b)
def Np (c:List IV) (a:IV) (b:Hp) (d:Aa) (e f g:IV) (h:Hp) (i:IV) (j:List IV→Hp→OH):OH :=
 AH c fun k l=>AH l fun m _=>Ae 2 a fun n=>Ak n b fun o _=>BV o fun p=>Mo m p a b d k e f g h i j
def LH (a:List IV) (b:Hp) (c:Aa) (d:Hp) (e:List IV→Hp→OH):OH :=
 AH a fun f g=>AH g fun h i=>AH i fun j k=>AH k fun l m=>AH m fun n o=>Np o j b c f h l d n e
def Lq (a h:Hp) (b c d e f g:IV) (n:Nat) (i:Aa):OH :=
 BH (a.own.map (·.1)) [118501392] [b,c,d,e,f,g,.fv (.int .i64 0)] h fun j=>B5 n (fun k l m=>LH l m i a k) [b,c,d,e,f,g,.fv (.int .i64 0)] j
def LI (a:IV) (b:Hp) (d:IV) (e:Hp) (f g h i:IV) (n:Nat) (j:Aa):OH :=
 Ae 1 a fun k=>Ak k b fun l _=>BW [.fv (.int .i64 0),.fv (.int .i64 0),.nils] [(0,1,d),(1,1,l)] fun m=>AB 118496261 (.row [.fv (.int .i64 0),.fv (.int .i64 0),.nils] false) (.ptr (.own 118496261) 0) b fun c o _ _=>Ah 3 c m o fun p _ _=>Lq e p f g a h i c n j
def MY (h a:IV) (b:Hp) (c d:IV) (e:Aa) (f g:IV) (i:Hp) (n:Nat):OH :=
 An h (Ae 1 a fun j=>Ak j b fun k _=>MF k c b d e f g a) (Ae 0 a fun l=>Ak l b fun m _=>LI a b m i c f d g n e)
def S113 (d:Aa) (n:Nat) (e f g h:IV) (a:Hp):OH :=
 A4 118489088 e a fun b i _ _=>A4 118489089 h i fun j k _ _=>AB 118489090 (.row [.fv (.int .i64 0),.fv (.int .i64 0),.nils] false) (.ptr (.own 118489090) 0) k fun l c _ _=>Ae 0 b fun m=>Ak m c fun o _=>A0 EE 3 o (.fv (.int .i64 1)) fun p=>MY p b c f j d g l a n
theorem Ag4 (a:Aa) (n:Nat) (b c d e:IV) (f:Hp):AC EE a ft.get n 113 [b,c,d,e] f=S113 a n b c d e f:=by kernel_rfl
def KZ (b:Aa) (c:Hp) (d a e:IV) (f:List IV→Hp→OH) (g h:IV):OH :=
 Am [] false false b 30 [.fv (.int .i64 12),d] c fun i j _ _=>Ah 3 a i j fun k _ _=>B2 EE 3 e (.fv (.int .i64 1)) fun l=>f [g,h,a,l] k
def Li (a:Hp) (b:IV):OH :=
 As true 3 b a fun c=>Ao [c] a
def KD (d:IV) (a:Hp) (b:IV) (e:Aa) (f:IV) (g:List IV→Hp→OH) (h c:IV):OH :=
 An d (Ag 3 b a fun i _=>AE (Aj EE 28 1 [(0,i)]) 120591361 a fun j k _ _=>KZ e k j b f g h c) (Ag 3 b a fun l _=>Ah 3 c l a fun m _ _=>Li m c)
def QL (c:List IV) (d:Hp) (e:Aa) (f:List IV→Hp→OH):OH :=
 AH c fun a g=>AH g fun h i=>AH i fun j k=>AH k fun b _=>H4 EE 3 b a fun l=>KD l d j e b f a h
def V9 (a:Aa) (n:Nat) (c:IV) (d:Hp):OH :=
 AB 120586240 (.row [.fv (.int .i64 0),.fv (.int .i64 0),.nils] false) (.ptr (.own 120586240) 0) d fun e f _ _=>Am [] false false a 30 [.fv (.int .i64 11),.nils] f fun g h _ _=>AB 120587265 (.row [.fv (.int .i64 0),.fv (.int .i64 0),.nils] false) (.ptr (.own 120587265) 0) h fun b i _ _=>Ah 3 b g i fun j _ _=>B5 n (fun k l m=>QL l m a k) [c,e,b,.fv (.int .i64 0)] j
theorem AgT (a:Aa) (n:Nat) (b:IV) (c:Hp):AC EE a ft.get n 115 [b] c=V9 a n b c:=by kernel_rfl
def Hu (g:IV) (a:Hp) (h:IV) (i:Hp) (b c d e:IV) (j:List IV→Hp→OH):OH :=
 An g (Ao [.fv (.bool false)] a) (B2 EE 3 h (.fv (.int .i64 1)) fun f=>BH (i.own.map (·.1)) [121639939,121640964] [b,c,d,e,f] a fun k=>j [b,c,d,e,f] k)
def HZ (d:Hp) (b e f:IV) (g:Aa) (c h:IV) (i:Hp) (j k l:IV) (m:List IV→Hp→OH):OH :=
 Ah 3 b e d fun a _ _=>Ag 3 f a fun n _=>Ag 3 b a fun o _=>ND EE g c [n,o] a fun p q _ _=>Dw (M5 .not p) fun r=>Hu r q h i j c k l m
def Hr (e:Hp) (f a b:IV) (g:Aa) (h:IV) (i:Hp) (j k:IV) (l:List IV→Hp→OH):OH :=
 AB 121639939 (.row [.fv (.int .i64 0),.fv (.int .i64 0),.nils] false) (.ptr (.own 121639939) 0) e fun c m _ _=>Ah 3 c f m fun d _ _=>Bh 3 a b fun n=>Ag 3 n d fun o _=>AB 121640964 (.row [.fv (.int .i64 0),.fv (.int .i64 0),.nils] false) (.ptr (.own 121640964) 0) d fun p q _ _=>HZ q p o c g h b i a j k l
def HV (a c d:IV) (b:Hp) (e:IV) (f:Aa) (g:IV) (h:Hp) (i:List IV→Hp→OH):OH :=
 H4 EE 3 a c fun j=>An j (Bh 3 d a fun k=>Ag 3 k b fun l _=>Hr b l e a f g h d c i) (Ao [.fv (.bool true)] b)
def Jx (a:List IV) (b:Hp) (c:Aa) (d:Hp) (e:List IV→Hp→OH):OH :=
 AH a fun f g=>AH g fun h i=>AH i fun j k=>AH k fun l m=>AH m fun n _=>HV n l j b f c h d e
def Hg (a:Hp) (b c d e:IV) (n:Nat) (f:Aa):OH :=
 BH (a.own.map (·.1)) [121639939,121640964] [b,c,d,e,.fv (.int .i64 0)] a fun g=>B5 n (fun h i j=>Jx i j f a h) [b,c,d,e,.fv (.int .i64 0)] g
def Qf (d:Aa) (n:Nat) (a b e:IV) (c:Hp):OH :=
 BV a fun f=>BV b fun g=>H9 EE 3 f g fun h=>An h (Ao [.fv (.bool false)] c) (BV a fun i=>Hg c b e a i n d)
theorem Ah8 (a:Aa) (n:Nat) (b c d:IV) (e:Hp):AC EE a ft.get n 116 [b,c,d] e=Qf a n b c d e:=by kernel_rfl
def QA (b:IV) (a:Hp):OH :=
 AU b fun c=>Ae 2 c fun d=>Ak d a fun e _=>A0 EE 3 e (.fv (.int .i64 0)) fun f=>Ao [f] a
def PL (a:Hp) (b:IV) (c:Hp→OH):OH :=
 Ck b (.fv (.int .i64 17)) a fun d _ _=>c d
def Qk (c d:IV) (a:Hp) (b:Hp→OH):OH :=
 Ko EE 3 c (.fv (.int .i64 1000)) fun e=>An e (AU d fun f=>Ae 2 f fun g=>PL a g b) (b a)
def O8 (c:Hp) (d e a:IV):OH :=
 Ck d e c fun b _ _=>(fun (f:Hp→OH)=>AU a fun g=>Ae 0 g fun h=>Ak h b fun i _=>Qk i a b f) fun j=>QA a j
def Ach (i:Aa) (n:Nat) (a:IV) (b:Hp):OH :=
 AU a fun c=>Ae 0 c fun d=>Ak d b fun e _=>B2 EE 3 e (.fv (.int .i64 1)) fun f=>AU a fun g=>Ae 0 g fun h=>O8 b h f a
theorem Ag5 (a:Aa) (n:Nat) (b:IV) (c:Hp):AC EE a ft.get n 117 [b] c=Ach a n b c:=by kernel_rfl
def Hc (a:Hp) (b c:IV):OH :=
 Ak b a fun d _=>A0 EE 3 d c fun e=>Ao [e] a
def HU (a c:IV) (d:Aa) (e:Hp) (f g:IV) (h:List IV→Hp→OH) (i:IV):OH :=
 B2 EE 3 a c fun j=>Am [] false false d 118 [f,j] e fun k b l m=>Ac [] l m (An k (Ao [.fv (.bool true)] b) (B2 EE 3 g (.fv (.int .i64 1)) fun n=>h [a,i,n] b))
def Ha (a:IV) (b:Hp) (c d:AF) (e:Aa) (f g h:IV) (i:List IV→Hp→OH):OH :=
 Ae 0 a fun j=>Ak j b fun k l=>Ac [(c,[]),(d,[])] l [] (Am [] false false e 48 [k,f] b fun m n o p=>Ac [(c,[]),(d,[])] o p (HU g m e n h f i a))
def Hk (a:Hp) (e b f:IV) (g:Aa) (h:IV) (i:List IV→Hp→OH):OH :=
 Ak e a fun j c=>Ac [] c [] (Bh 3 j b fun k=>Ag 3 k a fun l d=>Ac [] d [] (Ha f a d c g b h l i))
def HJ (d a b:IV) (c:Hp) (e:Aa) (f:IV) (g:List IV→Hp→OH):OH :=
 BV d fun h=>H4 EE 3 a h fun i=>An i (Ae 2 b fun j=>Hk c j a b e f g) (Ao [.fv (.bool false)] c)
def KF (c:List IV) (a:Hp) (d:Aa) (e:List IV→Hp→OH):OH :=
 AH c fun f g=>AH g fun b h=>AH h fun i _=>Ae 2 b fun j=>Ak j a fun k _=>HJ k i b a d f e
def OP (d:Aa) (n:Nat) (e c:IV) (f:Hp):OH :=
 A4 123731968 e f fun a b _ _=>Ae 0 a fun g=>Ak g b fun h _=>A0 EE 3 h (.fv (.int .i64 1)) fun i=>An i (Ae 1 a fun j=>Hc b j c) (B5 n (fun k l m=>KF l m d k) [c,a,.fv (.int .i64 0)] b)
theorem AfZ (a:Aa) (n:Nat) (b c:IV) (d:Hp):AC EE a ft.get n 118 [b,c] d=OP a n b c d:=by kernel_rfl
end
noncomputable section
def dt:DT :=
 .node 69 (.node 43 (.node 25 (.node 15 (.node 12 (.node 11 (.leaf 5 (fun ih n=>KX (S5 ih n)))
 (.leaf 11 (fun ih n=>NK (S11 ih n))))
 (.node 14 (.leaf 12 (fun ih n=>F5 (S12 ih n)))
 (.leaf 14 (fun ih n=>ED (S14 ih n)))))
 (.node 18 (.node 17 (.leaf 15 (fun ih n=>ED (S15 ih n)))
 (.leaf 17 (fun ih n=>ED (S17 ih n))))
 (.node 20 (.leaf 18 (fun ih n=>ED (S18 ih n)))
 (.leaf 20 (fun ih n=>F5 (S20 ih n))))))
 (.node 31 (.node 29 (.node 28 (.leaf 25 (fun ih n=>F5 (S25 ih n)))
 (.leaf 28 (fun ih n=>KX (S28 ih n))))
 (.node 30 (.leaf 29 (fun ih n=>F5 (S29 ih n)))
 (.leaf 30 (fun ih n=>ED (S30 ih n)))))
 (.node 41 (.node 40 (.leaf 31 (fun ih n=>F5 (S31 ih n)))
 (.leaf 40 (fun ih n=>ED (S40 ih n))))
 (.node 42 (.leaf 41 (fun ih n=>ED (S41 ih n)))
 (.leaf 42 (fun ih n=>ED (S42 ih n)))))))
 (.node 53 (.node 49 (.node 46 (.node 44 (.leaf 43 (fun ih n=>OA (S43 ih n)))
 (.leaf 44 (fun ih n=>F5 (S44 ih n))))
 (.node 48 (.leaf 46 (fun ih n=>F5 (S46 ih n)))
 (.leaf 48 (fun ih n=>ED (S48 ih n)))))
 (.node 51 (.node 50 (.leaf 49 (fun ih n=>F5 (S49 ih n)))
 (.leaf 50 (fun ih n=>ED (S50 ih n))))
 (.node 52 (.leaf 51 (fun ih n=>F5 (S51 ih n)))
 (.leaf 52 (fun ih n=>F5 (S52 ih n))))))
 (.node 60 (.node 56 (.node 54 (.leaf 53 (fun ih n=>ED (S53 ih n)))
 (.leaf 54 (fun ih n=>F5 (S54 ih n))))
 (.node 58 (.leaf 56 (fun ih n=>KX (S56 ih n)))
 (.leaf 58 (fun ih n=>F5 (S58 ih n)))))
 (.node 67 (.node 64 (.leaf 60 (fun ih n=>F5 (S60 ih n)))
 (.leaf 64 (fun ih n=>ED (S64 ih n))))
 (.node 68 (.leaf 67 (fun ih n=>F5 (S67 ih n)))
 (.leaf 68 (fun ih n=>OA (S68 ih n))))))))
 (.node 100 (.node 80 (.node 73 (.node 71 (.node 70 (.leaf 69 (fun ih n=>KX (S69 ih n)))
 (.leaf 70 (fun ih n=>OA (S70 ih n))))
 (.node 72 (.leaf 71 (fun ih n=>KX (S71 ih n)))
 (.leaf 72 (fun ih n=>ED (S72 ih n)))))
 (.node 75 (.node 74 (.leaf 73 (fun ih n=>KX (S73 ih n)))
 (.leaf 74 (fun ih n=>ED (S74 ih n))))
 (.node 76 (.leaf 75 (fun ih n=>ED (S75 ih n)))
 (.leaf 76 (fun ih n=>ED (S76 ih n))))))
 (.node 96 (.node 82 (.node 81 (.leaf 80 (fun ih n=>ED (S80 ih n)))
 (.leaf 81 (fun ih n=>OA (S81 ih n))))
 (.node 89 (.leaf 82 (fun ih n=>KX (S82 ih n)))
 (.leaf 89 (fun ih n=>KX (S89 ih n)))))
 (.node 98 (.node 97 (.leaf 96 (fun ih n=>KX (S96 ih n)))
 (.leaf 97 (fun ih n=>OA (S97 ih n))))
 (.node 99 (.leaf 98 (fun ih n=>OA (S98 ih n)))
 (.leaf 99 (fun ih n=>NK (S99 ih n)))))))
 (.node 108 (.node 104 (.node 102 (.node 101 (.leaf 100 (fun ih n=>OA (S100 ih n)))
 (.leaf 101 (fun ih n=>OA (S101 ih n))))
 (.node 103 (.leaf 102 (fun ih n=>F5 (Ace ih n)))
 (.leaf 103 (fun ih n=>ED (S103 ih n)))))
 (.node 106 (.node 105 (.leaf 104 (fun ih n=>ED (UY ih n)))
 (.leaf 105 (fun ih n=>ED (Ack ih n))))
 (.node 107 (.leaf 106 (fun ih n=>F5 (AdB ih n)))
 (.leaf 107 (fun ih n=>F5 (AfE ih n))))))
 (.node 113 (.node 110 (.node 109 (.leaf 108 (fun ih n=>KX (V8 ih n)))
 (.leaf 109 (fun ih n=>ED (Acg ih n))))
 (.node 112 (.leaf 110 (fun ih n=>ED (S110 ih n)))
 (.leaf 112 (fun ih n=>F5 (S112 ih n)))))
 (.node 116 (.node 115 (.leaf 113 (fun ih n=>OA (S113 ih n)))
 (.leaf 115 (fun ih n=>F5 (V9 ih n))))
 (.node 117 (.leaf 116 (fun ih n=>KX (Qf ih n)))
 (.node 118 (.leaf 117 (fun ih n=>F5 (Ach ih n)))
 (.leaf 118 (fun ih n=>ED (OP ih n)))))))))
theorem AmD:dt.Ok EE ft.get :=
 ⟨⟨⟨⟨⟨⟨(fun ih n _ _ _ e=>E5 (F:=AC EE ih ft.get n 5) (Am0 ih n) e),
 (fun ih n _ _ _ e=>AeW (F:=AC EE ih ft.get n 11) (AjS ih n) e)⟩,
 ⟨(fun ih n _ _ _ e=>Ca (F:=AC EE ih ft.get n 12) (Ajy ih n) e),
 (fun ih n _ _ _ e=>BQ (F:=AC EE ih ft.get n 14) (Aki ih n) e)⟩⟩,
 ⟨⟨(fun ih n _ _ _ e=>BQ (F:=AC EE ih ft.get n 15) (AkM ih n) e),
 (fun ih n _ _ _ e=>BQ (F:=AC EE ih ft.get n 17) (AjQ ih n) e)⟩,
 ⟨(fun ih n _ _ _ e=>BQ (F:=AC EE ih ft.get n 18) (Akm ih n) e),
 (fun ih n _ _ _ e=>Ca (F:=AC EE ih ft.get n 20) (All ih n) e)⟩⟩⟩,
 ⟨⟨⟨(fun ih n _ _ _ e=>Ca (F:=AC EE ih ft.get n 25) (AjY ih n) e),
 (fun ih n _ _ _ e=>E5 (F:=AC EE ih ft.get n 28) (AkW ih n) e)⟩,
 ⟨(fun ih n _ _ _ e=>Ca (F:=AC EE ih ft.get n 29) (AjZ ih n) e),
 (fun ih n _ _ _ e=>BQ (F:=AC EE ih ft.get n 30) (Alc ih n) e)⟩⟩,
 ⟨⟨(fun ih n _ _ _ e=>Ca (F:=AC EE ih ft.get n 31) (AjO ih n) e),
 (fun ih n _ _ _ e=>BQ (F:=AC EE ih ft.get n 40) (Aj7 ih n) e)⟩,
 ⟨(fun ih n _ _ _ e=>BQ (F:=AC EE ih ft.get n 41) (AkF ih n) e),
 (fun ih n _ _ _ e=>BQ (F:=AC EE ih ft.get n 42) (AjM ih n) e)⟩⟩⟩⟩,
 ⟨⟨⟨⟨(fun ih n _ _ _ e=>Gz (F:=AC EE ih ft.get n 43) (AjP ih n) e),
 (fun ih n _ _ _ e=>Ca (F:=AC EE ih ft.get n 44) (Ak0 ih n) e)⟩,
 ⟨(fun ih n _ _ _ e=>Ca (F:=AC EE ih ft.get n 46) (Ak6 ih n) e),
 (fun ih n _ _ _ e=>BQ (F:=AC EE ih ft.get n 48) (AiP ih n) e)⟩⟩,
 ⟨⟨(fun ih n _ _ _ e=>Ca (F:=AC EE ih ft.get n 49) (AjT ih n) e),
 (fun ih n _ _ _ e=>BQ (F:=AC EE ih ft.get n 50) (Akb ih n) e)⟩,
 ⟨(fun ih n _ _ _ e=>Ca (F:=AC EE ih ft.get n 51) (Alg ih n) e),
 (fun ih n _ _ _ e=>Ca (F:=AC EE ih ft.get n 52) (Ajn ih n) e)⟩⟩⟩,
 ⟨⟨⟨(fun ih n _ _ _ e=>BQ (F:=AC EE ih ft.get n 53) (Aj0 ih n) e),
 (fun ih n _ _ _ e=>Ca (F:=AC EE ih ft.get n 54) (Alj ih n) e)⟩,
 ⟨(fun ih n _ _ _ e=>E5 (F:=AC EE ih ft.get n 56) (AkB ih n) e),
 (fun ih n _ _ _ e=>Ca (F:=AC EE ih ft.get n 58) (Ajd ih n) e)⟩⟩,
 ⟨⟨(fun ih n _ _ _ e=>Ca (F:=AC EE ih ft.get n 60) (Akh ih n) e),
 (fun ih n _ _ _ e=>BQ (F:=AC EE ih ft.get n 64) (Ajk ih n) e)⟩,
 ⟨(fun ih n _ _ _ e=>Ca (F:=AC EE ih ft.get n 67) (Alb ih n) e),
 (fun ih n _ _ _ e=>Gz (F:=AC EE ih ft.get n 68) (Akk ih n) e)⟩⟩⟩⟩⟩,
 ⟨⟨⟨⟨⟨(fun ih n _ _ _ e=>E5 (F:=AC EE ih ft.get n 69) (AjV ih n) e),
 (fun ih n _ _ _ e=>Gz (F:=AC EE ih ft.get n 70) (Ajl ih n) e)⟩,
 ⟨(fun ih n _ _ _ e=>E5 (F:=AC EE ih ft.get n 71) (AkE ih n) e),
 (fun ih n _ _ _ e=>BQ (F:=AC EE ih ft.get n 72) (AiX ih n) e)⟩⟩,
 ⟨⟨(fun ih n _ _ _ e=>E5 (F:=AC EE ih ft.get n 73) (AjJ ih n) e),
 (fun ih n _ _ _ e=>BQ (F:=AC EE ih ft.get n 74) (AiJ ih n) e)⟩,
 ⟨(fun ih n _ _ _ e=>BQ (F:=AC EE ih ft.get n 75) (Akc ih n) e),
 (fun ih n _ _ _ e=>BQ (F:=AC EE ih ft.get n 76) (Akv ih n) e)⟩⟩⟩,
 ⟨⟨⟨(fun ih n _ _ _ e=>BQ (F:=AC EE ih ft.get n 80) (Ale ih n) e),
 (fun ih n _ _ _ e=>Gz (F:=AC EE ih ft.get n 81) (Ai7 ih n) e)⟩,
 ⟨(fun ih n _ _ _ e=>E5 (F:=AC EE ih ft.get n 82) (Ajv ih n) e),
 (fun ih n _ _ _ e=>E5 (F:=AC EE ih ft.get n 89) (AjF ih n) e)⟩⟩,
 ⟨⟨(fun ih n _ _ _ e=>E5 (F:=AC EE ih ft.get n 96) (Aky ih n) e),
 (fun ih n _ _ _ e=>Gz (F:=AC EE ih ft.get n 97) (Ai2 ih n) e)⟩,
 ⟨(fun ih n _ _ _ e=>Gz (F:=AC EE ih ft.get n 98) (Ai9 ih n) e),
 (fun ih n _ _ _ e=>AeW (F:=AC EE ih ft.get n 99) (AkV ih n) e)⟩⟩⟩⟩,
 ⟨⟨⟨⟨(fun ih n _ _ _ e=>Gz (F:=AC EE ih ft.get n 100) (Af1 ih n) e),
 (fun ih n _ _ _ e=>Gz (F:=AC EE ih ft.get n 101) (AgD ih n) e)⟩,
 ⟨(fun ih n _ _ _ e=>Ca (F:=AC EE ih ft.get n 102) (Ag1 ih n) e),
 (fun ih n _ _ _ e=>BQ (F:=AC EE ih ft.get n 103) (Ahn ih n) e)⟩⟩,
 ⟨⟨(fun ih n _ _ _ e=>BQ (F:=AC EE ih ft.get n 104) (Ahj ih n) e),
 (fun ih n _ _ _ e=>BQ (F:=AC EE ih ft.get n 105) (Ag8 ih n) e)⟩,
 ⟨(fun ih n _ _ _ e=>Ca (F:=AC EE ih ft.get n 106) (AgW ih n) e),
 (fun ih n _ _ _ e=>Ca (F:=AC EE ih ft.get n 107) (Ah6 ih n) e)⟩⟩⟩,
 ⟨⟨⟨(fun ih n _ _ _ e=>E5 (F:=AC EE ih ft.get n 108) (Agk ih n) e),
 (fun ih n _ _ _ e=>BQ (F:=AC EE ih ft.get n 109) (Ah9 ih n) e)⟩,
 ⟨(fun ih n _ _ _ e=>BQ (F:=AC EE ih ft.get n 110) (Ahi ih n) e),
 (fun ih n _ _ _ e=>Ca (F:=AC EE ih ft.get n 112) (Ah4 ih n) e)⟩⟩,
 ⟨⟨(fun ih n _ _ _ e=>Gz (F:=AC EE ih ft.get n 113) (Ag4 ih n) e),
 (fun ih n _ _ _ e=>Ca (F:=AC EE ih ft.get n 115) (AgT ih n) e)⟩,
 ⟨(fun ih n _ _ _ e=>E5 (F:=AC EE ih ft.get n 116) (Ah8 ih n) e),
 ⟨(fun ih n _ _ _ e=>Ca (F:=AC EE ih ft.get n 117) (Ag5 ih n) e),
 (fun ih n _ _ _ e=>BQ (F:=AC EE ih ft.get n 118) (AfZ ih n) e)⟩⟩⟩⟩⟩⟩⟩
theorem Ak7:∀n f args h x,SS dt n f args h=some x→run EE n f args h=some x:=Anb Anm AmD
end
end Idl
end Go.Proofs.Ytdibmackcbpniaa

/-
  Texts of a proof, part 8: an ideal semantics of the program, its functions in shallow form, contracts of them. No statement of the seat is proved here.
-/
import Derived.Test.YtaifgaidaglblaaEqualThreeK7
set_option linter.all false
noncomputable section
set_option maxRecDepth 100000
set_option linter.unusedVariables false
namespace Go.Proofs.Ytaifgaidaglblaa
namespace Idl
noncomputable section
abbrev OH:=Option (IV×Hp)
abbrev AI:=List Ref
abbrev iq (n:Int):IV:=.fv (.int .i64 n)
def Ahr (b:Hp) (a:IV) (d:Aa) (e f g:IV):OH :=
 Ab a true b (fun h=>Al [] false false d 30 [e,f] b h) fun i c j k=>Ad [] j k (Ab a true c (fun l=>A5 EE 4 g i fun m=>l m c [] []) fun n o _ _=>AG a n (.fv (.bool false)) fun p=>An [p] o)
def Aii (a b:AI) (c:Hp) (d l:IV) (f g h i:AI) (m:IV) (n:Aa) (o:IV):OH :=
 Ad [] a b (Ab d true c (fun p=>Ai 3 l c fun q r=>p q c r []) fun s e j k=>Ad [(a,b),(f,g),(h,i)] j k (Ab d true e (fun t=>Ai 3 m e fun u v=>t u e v []) fun w x y z=>Ad [(j,k),(a,b),(f,g),(h,i)] y z (Ahr x d n s w o)))
def AhR (b:Hp) (a k f:IV) (g:Aa) (l:IV):OH :=
 Ab a true b (fun m=>Ai 3 k b fun n o=>m n b o []) fun p c d e=>Ad [] d e (Ab a true c (fun q=>Ai 3 f c fun r s=>q r c s []) fun t h i j=>Ad [(d,e)] i j (Ab a true h (fun u=>Al [] false false g 30 [p,t] h u) fun v w x y=>Aii x y w a l i j d e f g v))
def AfV (a:AI) (b:Hp) (c:IV) (d:Aa) (e f g:IV):OH :=
 Ad [] a [] (Ai 3 c b fun h i=>Ad [(a,[])] i [] (Al [] false false d 30 [e,h] b fun j k l m=>Ad [] l m (AhR k j f g d c)))
def Agk (d:Hp) (e f:IV) (b:Aa) (g c h i:IV):OH :=
 Ak 3 e f d fun j _ _=>Al [] false false b 15 [g] j fun k a _ _=>Am k (An [.fv (.bool true)] a) (Ai 3 c a fun l m=>AfV m a h b l c i)
def AfC (a:Hp) (b:IV) (c:Aa) (e f:IV):OH :=
 Ai 3 b a fun g _=>Al [] false false c 17 [g] a fun d h _ _=>AO 0 d fun i=>AO 1 d fun j=>AH 7354373 (.row [.fv (.int .i64 0),.fv (.int .i64 0),.nils] false) (.ptr (.own 7354373) 0) h fun k l _ _=>Agk l k i c j e b f
def AgE (a b:AI) (c:Hp→OH) (d:Hp):OH :=
 Ad [] a b (c d)
def AgF (a:Hp) (b c:IV) (d:Aa) (e:IV) (f:Hp→OH):OH :=
 AB (Aj EE 29 2 [(0,b),(1,c)]) 7353353 a fun g h i j=>Ad [] i j (Al [] false false d 24 [.fv (.int .i64 4),g] h fun k l m n=>Ad [] m n (Ak 3 e k l fun o p q=>AgE p q f o))
def AfJ (d e a b:AI) (f:Hp) (g h:IV) (c:Aa) (i j:IV) (k:Hp→OH):OH :=
 Ad [(a,[]),(b,[])] d e (AB (Aj EE 29 2 [(0,g),(1,h)]) 7353351 f fun l m n o=>Ad [(a,[]),(b,[])] n o (Al [] false false c 24 [.fv (.int .i64 5),l] m fun p q r s=>Ad [(a,[]),(b,[])] r s (AgF q i p c j k)))
def Ahj (d:Hp) (e:IV) (a b:AI) (c:Aa) (f g:IV) (h:Hp→OH):OH :=
 Ai 3 e d fun i j=>Ad [(a,[]),(b,[])] j [] (Al [] false false c 25 [i,.fv (.int .i64 1),.fv (.int .i64 0)] d fun k l m n=>Ad [(a,[]),(b,[])] m n (Al [] false false c 26 [.fv (.int .i64 0)] l fun o p q r=>AfJ q r a b p k o c f g h))
def Ah2 (a:Hp) (d e:IV) (f:Aa) (g:IV) (h:Hp→OH):OH :=
 Af d a fun i b=>Ad [] b [] (A7 3 i (.fv (.int .i64 0)) fun j=>Ai 3 j a fun k c=>Ad [] c [] (Ahj a e c b f k g h))
def Ajl (a:Hp) (b f g h:IV) (i:Aa) (j:IV) (c:Hp→OH):OH :=
 Ab b true a (fun k=>Af f a fun l m=>k l a m []) fun n d _ _=>Ab b true d (fun o=>A5 EE 3 n (.fv (.int .i64 3)) fun p=>o p d [] []) fun q e _ _=>AG b q (.fv (.bool false)) fun r=>Am r (Ac 2 g fun s=>Ah2 e s h i j c) (c e)
def Ahi (f:Hp) (g:IV) (b:Aa) (h i j c k:IV):OH :=
 AH 7351297 (.row [.fv (.int .i64 0),.fv (.int .i64 0),.nils] false) (.ptr (.own 7351297) 0) f fun a l _ _=>Ak 3 a g l fun d _ _=>(fun (m:Hp→OH)=>CL (L5 .not j) fun e=>Ab e true d (fun n=>Ac 0 c fun o=>n o d [] []) fun p q _ _=>Ajl q e p c k b a m) fun r=>AfC r a b h i
def Ah9 (c:Hp) (a:IV) (d:Aa) (g e h i j k:IV):OH :=
 Ab a false c (fun l=>Al [] false false d 18 [g] c l) fun m f _ _=>Ab a false f (fun n=>Mj EE 3 m (.fv (.int .i64 1000)) fun o=>n o f [] []) fun p b _ _=>AG a (.fv (.bool true)) p fun q=>Am q (An [.fv (.bool true)] b) (Ai 3 e b fun r _=>Ahi b r d h i j k e)
def AgV (h i:IV) (c:Hp) (j:IV) (d:Aa) (e k l m n:IV):OH :=
 AG h (.fv (.bool true)) i fun a=>Ab a false c (fun o=>o j c [] []) fun p f _ _=>Ab a false f (fun q=>Al [] false false d 15 [p] f q) fun r b _ _=>AG a (.fv (.bool true)) r fun g=>Ab g false b (fun s=>Ai 3 e b fun t u=>s t b u []) fun v w _ _=>Ah9 w g d v e k l m n
def Ahw (c:Hp) (a h i:IV) (d:Aa) (j k l m n o:IV):OH :=
 Ab a false c (fun p=>p h c [] []) fun q e _ _=>Ab a false e (fun r=>CL (L5 .not q) fun s=>r s e [] []) fun t f _ _=>AG a (.fv (.bool true)) t fun b=>Ab b false f (fun u=>u i f [] []) fun v g _ _=>Ab b false g (fun w=>Al [] false false d 15 [v] g w) fun x y _ _=>AgV b x y j d k l m n o
def Ajf (a:IV) (b:Hp) (c d e:IV) (f:Aa) (g h i j k:IV):OH :=
 AO 0 a fun l=>AO 1 a fun m=>AH 7348229 (.row [.fv (.int .i64 0),.fv (.int .i64 0),.nils] false) (.ptr (.own 7348229) 0) b fun n o _ _=>Ak 3 n l o fun p _ _=>CL (L5 .not c) fun q=>Ahw p q d e f m g h i j k
def AfU (e:IV) (f:Hp) (g a:IV) (b:Aa) (h i j k l:IV):OH :=
 AO 1 e fun m=>AH 7347205 (.row [.fv (.int .i64 0),.fv (.int .i64 0),.nils] false) (.ptr (.own 7347205) 0) f fun c n _ _=>Ak 3 c g n fun d _ _=>Ai 3 a d fun o _=>Al [] false false b 17 [o] d fun p q _ _=>Ajf p q h i m b c j a k l
def Aga (f:Hp) (g h a i b:IV) (c:Aa) (j k l m:IV):OH :=
 Ak 3 g h f fun n _ _=>Ak 3 a i n fun d _ _=>Ai 3 b d fun o _=>Al [] false false c 17 [o] d fun e p _ _=>AO 0 e fun q=>AfU e p q a c j k b l m
def AfY (a:IV) (b:Hp) (c:IV) (d:Aa) (e f g:IV):OH :=
 AO 1 a fun h=>AO 2 a fun i=>AO 3 a fun j=>AH 7346186 (.row [.fv (.int .i64 0),.fv (.int .i64 0),.nils] false) (.ptr (.own 7346186) 0) b fun k l _ _=>AH 7346187 (.row [.fv (.int .i64 0),.fv (.int .i64 0),.nils] false) (.ptr (.own 7346187) 0) l fun m n _ _=>Aga n k h m i c d e j f g
def AhI (f:Hp) (b g h i:IV) (c:Aa) (j d k l:IV):OH :=
 Ak 3 b g f fun a _ _=>Ai 3 h a fun m _=>Ai 3 i a fun n _=>Al [] false false c 13 [j,m,n,d] a fun e o _ _=>AO 0 e fun _=>AfY e o b c k d l
def AiL (a:IV) (c:Hp) (d e f:IV) (g:Aa) (h i:IV):OH :=
 AO 2 a fun j=>AO 3 a fun k=>AH 7345162 (.row [.fv (.int .i64 0),.fv (.int .i64 0),.nils] false) (.ptr (.own 7345162) 0) c fun b l _ _=>AH 7345163 (.row [.fv (.int .i64 0),.fv (.int .i64 0),.nils] false) (.ptr (.own 7345163) 0) l fun m n _ _=>Ak 3 b d n fun o _ _=>AhI o m j e f g h i k b
def AiI (a:Hp) (g c:IV) (d:Aa) (e f h:IV):OH :=
 Ai 3 g a fun i _=>Ai 3 c a fun j _=>Al [] false false d 13 [e,i,j,f] a fun b k _ _=>AO 0 b fun _=>AO 1 b fun l=>AiL b k l h c d e f
def Ai0 (b:Hp) (a c:IV) (d:Aa) (h i j k:IV):OH :=
 Ab a false b (fun l=>Ai 3 c b fun m n=>l m b n []) fun o e _ _=>Ab a false e (fun p=>Al [] false false d 12 [o] e p) fun q f _ _=>Ab a false f (fun r=>CL (L5 .not q) fun s=>r s f [] []) fun t g _ _=>AG a (.fv (.bool true)) t fun u=>Am u (An [.fv (.bool true)] g) (AiI g h c d i j k)
def Ai4 (g h:IV) (b:Hp) (c:IV) (d:Aa) (i j k l:IV):OH :=
 AG g (.fv (.bool true)) h fun a=>Ab a false b (fun m=>Ai 3 c b fun n o=>m n b o []) fun p e _ _=>Ab a false e (fun q=>Al [] false false d 12 [p] e q) fun r f _ _=>Ab a false f (fun s=>CL (L5 .not r) fun t=>s t f [] []) fun u v _ _=>AG a (.fv (.bool true)) u fun w=>Ai0 v w i d j k l c
def AgJ (b:Aa) (h:Hp) (d e i j k:IV):OH :=
 Al [] false false b 11 [d] h fun l c _ _=>CL (L5 .not l) fun a=>Ab a false c (fun m=>Ai 3 e c fun n o=>m n c o []) fun p f _ _=>Ab a false f (fun q=>Al [] false false b 12 [p] f q) fun r g _ _=>Ab a false g (fun s=>CL (L5 .not r) fun t=>s t g [] []) fun u v _ _=>Ai4 a u v i b j e d k
def S7 (a:Aa) (n:Nat) (c d e f g:IV) (h:Hp):OH :=
 A2 7340032 d h fun i j _ _=>A2 7340033 e j fun k l _ _=>A2 7340034 f l fun m o _ _=>Al [] false false a 10 [] o fun p b _ _=>CL (L5 .not p) fun q=>Am q (An [.fv (.bool false)] b) (AgJ a b c i k m g)
theorem AsS (a:Aa) (n:Nat) (b c d e f:IV) (g:Hp):Aw EE a ft.get n 7 [b,c,d,e,f] g=S7 a n b c d e f g:=by kernel_rfl
def An6 (a b:IV) (c:Hp):OH :=
 AG a b (.fv (.bool false)) fun d=>An [d] c
def Anf (c:Hp) (a g h:IV):OH :=
 Ab a true c (fun i=>i g c [] []) fun j d _ _=>Ab a true d (fun k=>CL (L5 .not j) fun l=>k l d [] []) fun m e _ _=>AG a m (.fv (.bool false)) fun b=>Ab b true e (fun n=>n h e [] []) fun o f _ _=>Ab b true f (fun p=>A5 EE 37 o (.fv (.int .i64 0)) fun q=>p q f [] []) fun r s _ _=>An6 b r s
def Ak4 (b:IV) (c:Hp) (a e:IV):OH :=
 AO 0 b fun f=>AO 1 b fun g=>Ab a true c (fun h=>h e c [] []) fun i d _ _=>Ab a true d (fun j=>A5 EE 37 i (.fv (.int .i64 0)) fun k=>j k d [] []) fun l m _ _=>AG a l (.fv (.bool false)) fun n=>Anf m n f g
def AjD (b:IV) (a:Aa) (c:Hp):OH :=
 AO 0 b fun d=>AO 1 b fun e=>Al [] false false a 29 [.fv (.int .i64 1)] c fun f g _ _=>Al [] false false a 29 [.fv (.int .i64 2)] g fun h i _ _=>Al [] false false a 16 [f,h] i fun j k _ _=>Ak4 j k d e
def AlI (c d b:AI) (a:Aa) (e:Hp) (f g:IV):OH :=
 Ad [(b,[])] c d (Al [] false false a 24 [.fv (.int .i64 4),f] e fun h i j k=>Ad [(b,[])] j k (Al [] false false a 16 [g,h] i fun l m n o=>Ad [] n o (AjD l a m)))
def AkL (c:Hp) (d e:IV) (a:AI) (b:Aa) (f g:IV):OH :=
 AB (Aj EE 29 2 [(0,d),(1,e)]) 10487812 c fun h i j k=>Ad [(a,[])] j k (Al [] false false b 24 [.fv (.int .i64 5),h] i fun l m n o=>Ad [(a,[])] n o (AB (Aj EE 29 2 [(0,f),(1,l)]) 10487814 m fun p q r s=>AlI r s a b q p g))
def Akq (c d a:AI) (b:Aa) (e:Hp) (f g:IV):OH :=
 Ad [(a,[])] c d (Al [] false false b 26 [.fv (.int .i64 1)] e fun h i j k=>Ad [(a,[])] j k (Al [] false false b 26 [.fv (.int .i64 0)] i fun l m n o=>Ad [(a,[])] n o (AkL m h l a b f g)))
def S10 (a:Aa) (n:Nat) (e:Hp):OH :=
 Al [] false false a 26 [.fv (.int .i64 0)] e fun f g _ _=>AH 10486785 (.row [.fv (.int .i64 0),.fv (.int .i64 0),.nils] false) (.ptr (.own 10486785) 0) g fun b h _ _=>Ak 3 b f h fun c _ _=>Ai 3 b c fun i d=>Ad [] d [] (Al [] false false a 24 [.fv (.int .i64 10),.nils] c fun j k l m=>Akq l m d a k j i)
theorem Ap1 (a:Aa) (n:Nat) (b:Hp):Aw EE a ft.get n 10 [] b=S10 a n b:=by kernel_rfl
def MH (a:IV) (b:List IV→Hp→OH) (c:Hp) (d:IV):OH :=
 By EE 3 a (.fv (.int .i64 1)) fun e=>b [d,e] c
def MW (a b:IV) (c:Hp) (e:Aa) (f:List IV→Hp→OH):OH :=
 A7 3 a b fun g=>Ai 3 g c fun h _=>Al [] false false e 12 [h] c fun i d _ _=>CL (L5 .not i) fun j=>Am j (An [.fv (.bool false)] d) (MH b f d a)
def Mp (a:IV) (b:Hp):OH :=
 BS a fun c=>leS EE 3 c (.fv (.int .i64 6)) fun d=>An [d] b
def Pw (d:List IV) (b:Hp) (e:Aa) (f:List IV→Hp→OH):OH :=
 Av d fun a g=>Av g fun c _=>BS a fun h=>G8 EE 3 c h fun i=>Am i (MW a c b e f) (Mp a b)
def S11 (a:Aa) (n:Nat) (b:IV) (c:Hp):OH :=
 BF n (fun d e f=>Pw e f a d) [b,.fv (.int .i64 0)] c
theorem AnX (a:Aa) (n:Nat) (b:IV) (c:Hp):Aw EE a ft.get n 11 [b] c=S11 a n b c:=by kernel_rfl
def S12 (b:Aa) (n:Nat) (c:IV) (d:Hp):OH :=
 A2 12582912 c d fun e a _ _=>Ai 3 e a fun f _=>Al [] false false b 33 [f,.fv (.int .i64 300)] a fun g h _ _=>G8 EE 3 g (.fv (.int .i64 300)) fun i=>An [i] h
theorem An5 (a:Aa) (n:Nat) (b:IV) (c:Hp):Aw EE a ft.get n 12 [b] c=S12 a n b c:=by kernel_rfl
def AbD (b c:AI) (a:Hp) (d e f:IV):OH :=
 Ad [] b c (Ax true 3 d a fun g=>Ax true 3 e a fun h=>An [f,g,h,.fv (.bool false)] a)
def AbE (c:Aa) (d:Hp) (e:AI) (a f b g:IV):OH :=
 Al [] false false c 36 [.fv (.int .i64 0)] d fun h i j k=>Ad [(e,[])] j k (Ak 3 a f i fun l m n=>Ad [] m n (Ak 3 b h l fun o p q=>AbD p q o a b g))
def AaU (b c:AI) (a:Hp) (d e f:IV):OH :=
 Ad [] b c (Ax true 3 d a fun g=>Ax true 3 e a fun h=>An [f,g,h,.fv (.bool true)] a)
def Ac6 (a:Hp) (e:IV) (f:AI) (b g c h:IV):OH :=
 Ai 3 e a fun i d=>Ad [(f,[])] d [] (Ak 3 b g a fun j k l=>Ad [(d,[])] k l (Ak 3 c i j fun m n o=>AaU n o m b c h))
def YN (h i:IV) (a:Hp) (b:IV) (j:Aa) (c d e k:IV):OH :=
 AG h (.fv (.bool true)) i fun l=>Am l (Ai 3 b a fun m f=>Ad [] f [] (AbE j a f c m d e)) (Ai 3 b a fun n g=>Ad [] g [] (Ac6 a k g c n d e))
def Zt (g:Hp) (b h i:IV) (d:Aa) (j k l m:IV):OH :=
 Ak 3 b h g fun c _ _=>CL (L5 .not i) fun a=>Ab a false c (fun n=>Ai 3 b c fun o p=>n o c p []) fun q e _ _=>Ab a false e (fun r=>Al [] false false d 27 [q] e r) fun s f _ _=>Ab a false f (fun t=>Ha EE 3 s (.fv (.int .i64 0)) fun u=>t u f [] []) fun v w _ _=>YN a v w j d k l m b
def X6 (a:Hp) (e:IV) (b:Aa) (c f g h i:IV):OH :=
 Ai 3 e a fun j _=>Al [] false false b 35 [c,f,j,.fv (.int .i64 5)] a fun d k _ _=>AO 0 d fun l=>AO 1 d fun m=>AH 13635591 (.row [.fv (.int .i64 0),.fv (.int .i64 0),.nils] false) (.ptr (.own 13635591) 0) k fun n o _ _=>Zt o n l m b g h i c
def XO (b:Hp) (e:IV) (c:Aa) (f g h i:IV):OH :=
 Ai 3 e b fun j _=>Al [] false false c 34 [j,.fv (.int .i64 2)] b fun k l _ _=>AH 13634562 (.row [.fv (.int .i64 0),.fv (.int .i64 0),.nils] false) (.ptr (.own 13634562) 0) l fun a m _ _=>Ak 3 a k m fun d _ _=>Ai 3 a d fun n _=>X6 d f c g n a h i
def AaO (b c:AI) (a:Hp) (d e f:IV):OH :=
 Ad [] b c (Ax true 3 d a fun g=>Ax true 3 e a fun h=>An [f,g,h,.fv (.bool false)] a)
def AbH (c:Aa) (d:Hp) (e:AI) (a f b g:IV):OH :=
 Al [] false false c 24 [.fv (.int .i64 11),.nils] d fun h i j k=>Ad [(e,[])] j k (Ak 3 a f i fun l m n=>Ad [] m n (Ak 3 b h l fun o p q=>AaO p q o a b g))
def ZP (b c:AI) (a:Hp) (d e f:IV):OH :=
 Ad [] b c (Ax true 3 d a fun g=>Ax true 3 e a fun h=>An [f,g,h,.fv (.bool true)] a)
def AbX (a:Hp) (e:IV) (f:AI) (b g c h:IV):OH :=
 Ai 3 e a fun i d=>Ad [(f,[])] d [] (Ak 3 b g a fun j k l=>Ad [(d,[])] k l (Ak 3 c i j fun m n o=>ZP n o m b c h))
def AcU (h i:IV) (a:Hp) (b:IV) (j:Aa) (c d e k:IV):OH :=
 AG h (.fv (.bool true)) i fun l=>Am l (Ai 3 b a fun m f=>Ad [] f [] (AbH j a f c m d e)) (Ai 3 b a fun n g=>Ad [] g [] (AbX a k g c n d e))
def Aed (g:Hp) (b h i:IV) (d:Aa) (j k l m:IV):OH :=
 Ak 3 b h g fun c _ _=>CL (L5 .not i) fun a=>Ab a false c (fun n=>Ai 3 b c fun o p=>n o c p []) fun q e _ _=>Ab a false e (fun r=>Al [] false false d 27 [q] e r) fun s f _ _=>Ab a false f (fun t=>Ha EE 3 s (.fv (.int .i64 0)) fun u=>t u f [] []) fun v w _ _=>AcU a v w j d k l m b
def Yr (a:Hp) (e:IV) (b:Aa) (c f g h i:IV):OH :=
 Ai 3 e a fun j _=>Al [] false false b 23 [c,f,j,.fv (.int .i64 5)] a fun d k _ _=>AO 0 d fun l=>AO 1 d fun m=>AH 13640711 (.row [.fv (.int .i64 0),.fv (.int .i64 0),.nils] false) (.ptr (.own 13640711) 0) k fun n o _ _=>Aed o n l m b g h i c
def AcL (b:Hp) (f:IV) (c:Aa) (d g h i:IV):OH :=
 Ai 3 f b fun j _=>Al [] false false c 21 [d,j,.fv (.int .i64 2)] b fun k l _ _=>AH 13639683 (.row [.fv (.int .i64 0),.fv (.int .i64 0),.nils] false) (.ptr (.own 13639683) 0) l fun a m _ _=>Ak 3 a k m fun e _ _=>Ai 3 a e fun n _=>Yr e g c d n a h i
def S13 (a:Aa) (n:Nat) (h i j k:IV) (l:Hp):OH :=
 A2 13631488 i l fun b m _ _=>A2 13631489 j m fun c o _ _=>AH 13631491 (.row [.fv (.int .i64 0),.fv (.int .i64 0),.nils] false) (.ptr (.own 13631491) 0) o fun d p _ _=>AH 13631492 (.row [.fv (.int .i64 0),.fv (.int .i64 0),.nils] false) (.ptr (.own 13631492) 0) p fun e q _ _=>Al [] false false a 20 [h] q fun f g _ _=>Am k (XO g c a b f d e) (AcL g c a f b d e)
theorem AmV (a:Aa) (n:Nat) (b c d e:IV) (f:Hp):Aw EE a ft.get n 13 [b,c,d,e] f=S13 a n b c d e f:=by kernel_rfl
def S15 (l:Aa) (n:Nat) (b:IV) (c:Hp):OH :=
 A5 EE 3 b (.fv (.int .i64 17)) fun a=>Ab a false c (fun e=>e b c [] []) fun f d _ _=>Ab a false d (fun g=>A5 EE 3 f (.fv (.int .i64 5)) fun h=>g h d [] []) fun i j _ _=>AG a (.fv (.bool true)) i fun k=>An [k] j
theorem Aqp (a:Aa) (n:Nat) (b:IV) (c:Hp):Aw EE a ft.get n 15 [b] c=S15 a n b c:=by kernel_rfl
def Aij (a:AI) (b:Hp) (c:IV):OH :=
 Ad [] a [] (An [.fv (.bool false),c] b)
def Agy (a:AI) (b:Hp) (c:IV):OH :=
 Ad [] a [] (An [.fv (.bool false),c] b)
def Af6 (a:Aa) (b:Hp) (c d:IV):OH :=
 D6 EE a (.fv (.func (.func 40) [] [])) [c,d] b fun e f _ _=>An [e,.fv (.int .i64 0)] f
def Ahs (c b:IV) (a:Hp) (d:IV) (e:Aa):OH :=
 Ha EE 37 c (.fv (.int .i64 0)) fun f=>Am f (Ac 3 b fun g=>Af g a fun h i=>Agy i a h) (Ai 4 d a fun j _=>Ai 4 b a fun k _=>Af6 e a j k)
def Agi (d b:IV) (a:Hp) (c:IV) (e:Aa):OH :=
 Am d (Ac 3 b fun f=>Af f a fun g h=>Aij h a g) (Ac 3 c fun i=>Af i a fun j _=>Ahs j c a b e)
def Ai7 (d:Hp) (a e b:IV) (f:Aa):OH :=
 Ak 4 a e d fun c g h=>Ad [] g h (Ac 3 b fun i=>Af i c fun j _=>Ha EE 37 j (.fv (.int .i64 0)) fun k=>Agi k b c a f)
def AiX (a b c d e f g h:AI) (j:Hp) (i k l:IV) (m:Aa):OH :=
 Ad [(c,d),(e,[]),(f,g),(h,[])] a b (AH 16778245 (.row [.fv (.int .i64 0),.fv (.int .i64 0),.nils,.fv (.int .i64 0)] false) (.ptr (.own 16778245) 0) j fun n o p q=>Ad [(a,b),(c,d),(e,[]),(f,g),(h,[])] p q (Ak 4 i k o fun r s t=>Ad [] s t (Ai7 r n l i m)))
def AiD (a:Hp) (i:IV) (b c d:AI) (e:Aa) (j:IV):OH :=
 Ai 3 i a fun k f=>Ad [(b,c),(d,[])] f [] (Al [] false false e 39 [k] a fun l m g h=>Ad [] g h (AH 16778244 (.row [.fv (.int .i64 0),.fv (.int .i64 0),.nils,.fv (.int .i64 0)] false) (.ptr (.own 16778244) 0) m fun n o p q=>AiX p q g h f b c d o n j l e))
def S16 (a:Aa) (n:Nat) (f g:IV) (h:Hp):OH :=
 A2 16777216 f h fun i j _ _=>A2 16777217 g j fun k b _ _=>Ai 3 i b fun l c=>Ad [] c [] (Al [] false false a 39 [l] b fun m o d e=>Ad [] d e (AiD o k d e c a m))
theorem Aof (a:Aa) (n:Nat) (b c:IV) (d:Hp):Aw EE a ft.get n 16 [b,c] d=S16 a n b c d:=by kernel_rfl
def WA (b c d:AI) (a:Hp) (e f:IV):OH :=
 Ad [(d,[])] b c (Ax true 3 e a fun g=>An [g,f] a)
def Xn (d:IV) (a:Hp) (b e:IV):OH :=
 AF d fun f=>Ac 2 f fun g=>Af g a fun h c=>Ad [] c [] (Ak 3 b e a fun i j k=>WA j k c i b h)
def W4 (c:Hp) (a d:IV):OH :=
 Ak 3 a d c fun b _ _=>Ax true 3 a b fun e=>An [e,.fv (.int .i64 0)] b
def WW (a:Hp) (c d b e:IV):OH :=
 Af c a fun f _=>Ha EE 3 f (.fv (.int .i64 0)) fun g=>Am g (BC [.fv (.int .i64 0),.fv (.int .i64 0),.nils] [] fun h=>Xn d a b h) (Ai 3 e a fun i _=>W4 a b i)
def Xc (c:Aa) (d:Hp) (a e f:IV):OH :=
 Al [true,false,false,false] false false c 41 [a,e,.fv (.int .i64 0),.fv (.int .i64 1)] d fun g h _ _=>AH 17827845 (.row [.fv (.int .i64 0),.fv (.int .i64 0),.nils] false) (.ptr (.own 17827845) 0) h fun b i _ _=>Ak 3 b g i fun j _ _=>AF a fun k=>Ac 2 k fun l=>WW j l a f b
def S17 (a:Aa) (n:Nat) (d:IV) (e:Hp):OH :=
 A2 17825792 d e fun f g _ _=>AH 17825793 (.row [.fv (.int .i64 0),.fv (.int .i64 0),.nils] false) (.ptr (.own 17825793) 0) g fun h i _ _=>BC [.fv (.int .i64 0),.fv (.int .i64 0),.fv (.int .i64 0)] [] fun j=>A2 17826817 j i fun b c _ _=>Ai 3 f c fun k _=>Al [true,false,false] false false a 42 [b,k,.nils] c fun l m _ _=>Xc a m b l h
theorem Ani (a:Aa) (n:Nat) (b:IV) (c:Hp):Aw EE a ft.get n 17 [b] c=S17 a n b c:=by kernel_rfl
def RI (a:IV) (b:List IV→Hp→OH) (c:Hp) (d e:IV):OH :=
 By EE 3 a (.fv (.int .i64 1)) fun f=>b [d,e,f] c
def RS (a:Hp) (c b:IV) (d:Aa) (e:IV) (f:List IV→Hp→OH) (g:IV):OH :=
 Af c a fun h _=>A7 3 h b fun i=>Ai 3 i a fun j _=>Al [] false false d 18 [j] a fun k l _ _=>By EE 3 e k fun m=>RI b f l g m
def Su (e a b:IV) (c:Hp) (f:Aa) (d:IV) (g:List IV→Hp→OH):OH :=
 BS e fun h=>G8 EE 3 a h fun i=>Am i (Ac 2 b fun j=>RS c j a f d g b) (An [d] c)
def Wt (c:List IV) (a:Hp) (d:Aa) (e:List IV→Hp→OH):OH :=
 Av c fun b f=>Av f fun g h=>Av h fun i _=>Ac 2 b fun j=>Af j a fun k _=>Su k i b a d g e
def S18 (a:Aa) (n:Nat) (b:IV) (c:Hp):OH :=
 A2 18874368 b c fun d e _ _=>BF n (fun f g h=>Wt g h a f) [d,.fv (.int .i64 1),.fv (.int .i64 0)] e
theorem AmY (a:Aa) (n:Nat) (b:IV) (c:Hp):Aw EE a ft.get n 18 [b] c=S18 a n b c:=by kernel_rfl
def VZ (d:IV) (e f:Hp) (a b:IV) (g:List IV→Hp→OH):OH :=
 By EE 3 d (.fv (.int .i64 1)) fun c=>Bf (e.own.map (·.1)) [20977674] [a,b,c] f fun h=>g [a,b,c] h
def VS (a:Aa) (b:Hp) (c d:IV) (e:IV→Hp→OH):OH :=
 Al [] false false a 22 [c,.fv (.int .i64 0),d] b fun f g _ _=>e f g
def W9 (d e:AI) (f:IV→Hp→OH) (g:IV) (a:Hp) (h:IV) (i:Aa) (b:IV):OH :=
 Ad [] d e ((fun (c:IV→Hp→OH)=>Am g (Ai 3 h a fun j _=>VS i a b j c) (c b a)) fun k l=>f k l)
def WZ (a:IV) (c:Hp) (d e f g h:AI) (i:IV→Hp→OH) (j:Aa) (k:IV):OH :=
 AO 0 a fun l=>AO 1 a fun m=>AH 20977674 (.row [.fv (.int .i64 0),.fv (.int .i64 0),.nils] false) (.ptr (.own 20977674) 0) c fun b n o p=>Ad [(d,e),(f,[]),(g,h)] o p (Ak 3 b l n fun q r s=>W9 r s i m q b j k)
def V9 (i j:IV) (a:Hp) (b c:AI) (d:Aa) (e k:IV) (l:IV→Hp→OH):OH :=
 A7 3 i j fun m=>Ai 3 m a fun n f=>Ad [(b,c)] f [] (Al [] false false d 23 [e,k,n,.fv (.int .i64 2)] a fun o p g h=>Ad [] g h (WZ o p g h f b c l d e))
def Wm (a:Aa) (c:Hp) (b d:IV) (e:IV→Hp→OH):OH :=
 Al [] false false a 21 [b,d,.fv (.int .i64 2)] c fun f g _ _=>Al [] false false a 22 [b,.fv (.int .i64 1),f] g fun h i _ _=>e h i
def Wv (i:IV) (a:Aa) (b:Hp) (c d e:IV) (f:IV→Hp→OH):OH :=
 Am i (Al [] false false a 24 [.fv (.int .i64 14),.nils] b fun j k g h=>Ad [] g h (V9 c d k g h a e j f)) (A7 3 c d fun l=>Ai 3 l b fun m _=>Wm a b e m f)
def W2 (a b:IV) (c:Hp) (d:Aa) (e:IV) (f:IV→Hp→OH):OH :=
 A7 3 a b fun g=>Ac 1 g fun h=>Af h c fun i _=>Al [] false false d 43 [i,.fv (.int .i64 3)] c fun j k _ _=>A5 EE 3 j (.fv (.int .i64 0)) fun l=>Wv l d k a b e f
def WP (c:Hp) (a b:IV) (h:Hp) (d:IV) (i:List IV→Hp→OH) (j:Aa) (e:IV):OH :=
 Ab a true c (fun k=>k b c [] []) fun l f _ _=>Ab a true f (fun m=>G8 EE 3 l (.fv (.int .i64 4)) fun n=>m n f [] []) fun o g _ _=>AG a o (.fv (.bool false)) fun p=>Am p ((fun (q:IV→Hp→OH)=>W2 d b g j e q) fun r s=>VZ b h s d r i) (An [e] g)
def Ais (c:List IV) (d e:Hp) (f:List IV→Hp→OH) (g:Aa):OH :=
 Av c fun a h=>Av h fun i j=>Av j fun b _=>BS a fun k=>G8 EE 3 b k fun l=>WP d l b e a f g i
def S20 (c:Aa) (n:Nat) (b:IV) (a:Hp):OH :=
 Bf (a.own.map (·.1)) [20977674] [b,.nils,.fv (.int .i64 0)] a fun d=>BF n (fun e f g=>Ais f g a e c) [b,.nils,.fv (.int .i64 0)] d
theorem AnO (a:Aa) (n:Nat) (b:IV) (c:Hp):Aw EE a ft.get n 20 [b] c=S20 a n b c:=by kernel_rfl
def AaV (a:Hp) (b:IV):OH :=
 Ax true 3 b a fun c=>An [c] a
def Aeh (c:Aa) (d:Hp) (a:IV):OH :=
 Al [] false false c 24 [.fv (.int .i64 14),.nils] d fun e f _ _=>Ak 3 a e f fun b _ _=>Ax true 3 a b fun g=>An [g] b
def ZM (c:Hp) (d:IV) (e:Aa) (a:IV):OH :=
 AB (Aj EE 29 1 [(0,d)]) 22031362 c fun f g _ _=>Al [] false false e 24 [.fv (.int .i64 18),f] g fun h i _ _=>Ak 3 a h i fun b _ _=>Ax true 3 a b fun j=>An [j] b
def YF (c:Aa) (d:Hp) (a:IV):OH :=
 Al [] false false c 45 [.fv (.int .i64 0)] d fun e f _ _=>Ak 3 a e f fun b _ _=>Ax true 3 a b fun g=>An [g] b
def Aan (c d:AI) (e:Hp) (a f:IV):OH :=
 Ad [] c d (Ak 3 a f e fun b g h=>Ad [] g h (Ax true 3 a b fun i=>An [i] b))
def AaQ (a:Aa) (b:Hp) (c d e:IV) (f:AI) (g h:IV):OH :=
 Al [] false false a 21 [c,d,e] b fun i j k l=>Ad [(f,[])] k l (AB (Aj EE 29 2 [(0,g),(1,i)]) 22037513 j fun m n o p=>Ad [] o p (Al [] false false a 24 [.fv (.int .i64 3),m] n fun q r s t=>Aan s t r h q))
def ZJ (b:Hp) (d:IV) (e f g a:AI) (c:Aa) (h i j k:IV):OH :=
 Ai 3 d b fun l m=>Ad [(e,f),(g,[]),(a,[])] m [] (Al [] false false c 46 [l,.fv (.int .i64 1)] b fun n o p q=>Ad [(a,[])] p q (Bd EE 3 h (.fv (.int .i64 1)) fun r=>AaQ c o i n r a j k))
def Ac4 (a:AI) (b:Hp) (g:IV) (c:Aa) (h i j k l:IV):OH :=
 Ad [] a [] (Ai 3 g b fun m d=>Ad [(a,[])] d [] (Al [] false false c 22 [h,.fv (.int .i64 1),m] b fun n o e f=>Ad [(a,[])] e f (ZJ o i e f d a c j n k l)))
def AaR (b:IV) (c:Aa) (f:Hp) (d g h i:IV):OH :=
 Bd EE 3 b (.fv (.int .i64 1)) fun j=>Al [] false false c 21 [d,g,j] f fun k l _ _=>AH 22036486 (.row [.fv (.int .i64 0),.fv (.int .i64 0),.nils] false) (.ptr (.own 22036486) 0) l fun a m _ _=>Ak 3 a k m fun e _ _=>Ai 3 a e fun n o=>Ac4 o e a c d h b n i
def XZ (a:Hp) (b:IV):OH :=
 Ax true 3 b a fun c=>An [c] a
def AcQ (b c:AI) (d:Aa) (e:Hp) (f a:IV):OH :=
 Ad [] b c (Al [] false false d 24 [.fv (.int .i64 6),f] e fun g h i j=>Ad [] i j (Ak 3 a g h fun k l m=>Ad [] l m (XZ k a)))
def AaI (c d a:AI) (e:IV) (b:Aa) (f:Hp) (g h i j:IV):OH :=
 Ad [(a,[])] c d (Bd EE 3 e (.fv (.int .i64 1)) fun k=>Al [] false false b 21 [g,h,k] f fun l m n o=>Ad [(a,[])] n o (AB (Aj EE 29 2 [(0,i),(1,l)]) 22040585 m fun p q r s=>AcQ r s b q p j))
def YL (a:Aa) (f:Hp) (g h:IV) (b:AI) (i:IV) (j:AI) (k l m:IV):OH :=
 Al [] false false a 22 [g,.fv (.int .i64 1),h] f fun n c d e=>Ad [(b,[])] d e (Ai 3 i c fun o p=>Ad [(d,e),(j,[]),(b,[])] p [] (Al [] false false a 46 [o,.fv (.int .i64 1)] c fun q r s t=>AaI s t b k a r n q l m))
def AbQ (e:Hp) (a f:IV) (g:Aa) (h i j k:IV):OH :=
 Ak 3 a f e fun b _ _=>Ai 3 a b fun l c=>Ad [] c [] (Ai 3 a b fun m d=>Ad [(c,[])] d [] (YL g b h m c i d j l k))
def Zw (b:Hp) (c:IV) (a:Aa) (d e f:IV):OH :=
 Ai 3 c b fun g _=>Al [] false false a 46 [g,.fv (.int .i64 0)] b fun h i _ _=>Bd EE 3 d (.fv (.int .i64 1)) fun j=>Al [] false false a 21 [e,h,j] i fun k l _ _=>AH 22039558 (.row [.fv (.int .i64 0),.fv (.int .i64 0),.nils] false) (.ptr (.own 22039558) 0) l fun m n _ _=>AbQ n m k a e c d f
def YU (a:Hp) (b:IV):OH :=
 Ax true 3 b a fun c=>An [c] a
def AbG (c:Aa) (d:Hp) (e a:IV):OH :=
 Al [] false false c 24 [.fv (.int .i64 18),e] d fun f g _ _=>Ak 3 a f g fun b _ _=>Ax true 3 a b fun h=>An [h] b
def Ad7 (d:IV) (c:Aa) (a:Hp) (b e:IV):OH :=
 CL (L5 .not d) fun f=>Am f (Al [] false false c 44 [] a fun g h _ _=>Ak 3 b g h fun i _ _=>YU i b) (Ai 3 e a fun j _=>AB (Aj EE 29 1 [(0,j)]) 22044673 a fun k l _ _=>AbG c l k b)
def ZD (b:IV) (c:Hp) (d e f g h i j:AI) (k:IV) (l:Aa) (m:IV):OH :=
 AO 1 b fun n=>AH 22041610 (.row [.fv (.int .i64 0),.fv (.int .i64 0),.nils] false) (.ptr (.own 22041610) 0) c fun a o p q=>Ad [(d,e),(f,g),(h,[]),(i,j)] p q (Ak 3 a k o fun r s t=>Ad [] s t (Ad7 n l r m a))
def Adz (a b:AI) (g:IV) (c:Aa) (h:Hp) (i j k:IV) (l m n:AI) (o:IV):OH :=
 Ad [] a b (Bd EE 3 g (.fv (.int .i64 1)) fun p=>Al [] false false c 23 [i,j,k,p] h fun d q e f=>Ad [] e f (AO 0 d fun r=>ZD d q e f a b l m n r c o))
def Aax (a:Aa) (f:Hp) (g h i j:IV):OH :=
 Al [] false false a 24 [.fv (.int .i64 14),.nils] f fun k d b c=>Ad [] b c (Ai 3 g d fun l e=>Ad [(b,c)] e [] (Al [] false false a 46 [l,.fv (.int .i64 0)] d fun m n o p=>Adz o p h a n i k m e b c j))
def Zd (g:IV) (a:Hp) (b:IV) (c:Aa) (d e f h:IV):OH :=
 Am g (Ai 3 b a fun i _=>Al [] false false c 46 [i,.fv (.int .i64 0)] a fun j k _ _=>AaR d c k e j b f) (A5 EE 3 h (.fv (.int .i64 7)) fun l=>Am l (Zw a b c d e f) (Aax c a b d e f))
def AdB (e:IV) (f:Aa) (g h i a:IV) (b:Hp):OH :=
 (fun (c:IV→Hp→OH)=>A5 EE 3 a (.fv (.int .i64 5)) fun d=>Am d (c d b) (A5 EE 3 a (.fv (.int .i64 6)) fun j=>c j b)) fun k l=>Zd k l e f g h i a
def AaA (c:IV) (a:Hp) (e:IV) (b:Aa) (d f g:IV):OH :=
 A5 EE 3 c (.fv (.int .i64 3)) fun h=>Am h (Ai 3 e a fun i _=>Al [] false false b 34 [i,.fv (.int .i64 1)] a fun j k _ _=>ZM k j b d) (A5 EE 3 c (.fv (.int .i64 4)) fun l=>Am l (YF b a d) (AdB e b f g d c a))
def ZR (e:IV) (b:Aa) (c:Hp) (a d f g h:IV):OH :=
 Am e (Al [] false false b 44 [] c fun i j _ _=>Ak 3 a i j fun k _ _=>AaV k a) (A5 EE 3 d (.fv (.int .i64 2)) fun l=>Am l (Aeh b c a) (AaA d c f b a g h))
def ZN (e:Aa) (f a g h i:IV) (b:Hp):OH :=
 (fun (c:IV→Hp→OH)=>A5 EE 3 a (.fv (.int .i64 0)) fun d=>Am d (c d b) (A5 EE 3 a (.fv (.int .i64 1)) fun j=>c j b)) fun k l=>ZR k e l f a g h i
def ZY (a:IV) (b:IV→Hp→OH) (c:Hp):OH :=
 CS EE 3 .rem a (.fv (.int .i64 5)) fun d=>b d c
def Ad3 (g:IV) (c:Hp) (a:IV) (d:IV→Hp→OH):OH :=
 leS EE 3 g (.fv (.int .i64 0)) fun b=>Ab b true c (fun h=>h a c [] []) fun i e _ _=>Ab b true e (fun j=>Mj EE 3 i (.fv (.int .i64 4)) fun k=>j k e [] []) fun l f _ _=>AG b l (.fv (.bool false)) fun m=>Am m (ZY a d f) (d a f)
def S21 (a:Aa) (n:Nat) (e f b:IV) (g:Hp):OH :=
 A2 22020096 f g fun c h _ _=>AH 22020097 (.row [.fv (.int .i64 0),.fv (.int .i64 0),.nils] false) (.ptr (.own 22020097) 0) h fun i d _ _=>Ac 0 c fun j=>Af j d fun k _=>Al [] false false a 43 [k,.fv (.int .i64 9)] d fun l m _ _=>(fun (o:IV→Hp→OH)=>Ad3 b m l o) fun p q=>ZN a i p c b e q
theorem Aqn (a:Aa) (n:Nat) (b c d:IV) (e:Hp):Aw EE a ft.get n 21 [b,c,d] e=S21 a n b c d e:=by kernel_rfl
def WE (a b:AI) (c:Hp) (d:IV):OH :=
 Ad [] a b (An [d] c)
def Xb (e a b c d:AI) (f g:IV) (h:Hp) (i:IV):OH :=
 Ad [(a,b),(c,d)] e [] (BC [.fv (.int .i64 0),.fv (.int .i64 0),.fv (.int .i64 0),.nils] [(0,1,f),(1,3,g)] fun j=>AB (Aj EE 28 1 [(0,j)]) 23069702 h fun k l m n=>Ad [(a,b),(c,d)] m n (AB (AY EE 23069703 false .append [28,28] [i,k]) 23069703 l fun o p q r=>WE q r p o))
def S22 (r:Aa) (n:Nat) (f g h:IV) (i:Hp):OH :=
 A2 23068672 h i fun j k _ _=>AB (Aj EE 28 0 []) 23069696 k fun l m a b=>Ad [] a b (AB (AY EE 23069698 false .append [28,28] [l,f]) 23069698 m fun o c d e=>Ad [] d e (Ai 3 j c fun p q=>Xb q d e a b g p c o))
theorem AoZ (a:Aa) (n:Nat) (b c d:IV) (e:Hp):Aw EE a ft.get n 22 [b,c,d] e=S22 a n b c d e:=by kernel_rfl
def Aej (c:Hp) (a d:IV):OH :=
 Ak 3 a d c fun b _ _=>Ax true 3 a b fun e=>An [e,.fv (.bool false)] b
def Zz (a:Hp) (b c:IV):OH :=
 Ax true 3 b a fun d=>An [d,c] a
def Zi (c:Hp) (a d e:IV):OH :=
 Ak 3 a d c fun b _ _=>Ax true 3 a b fun f=>An [f,e] b
def AaS (a:Hp) (c d:IV) (e:Aa) (f g h:IV):OH :=
 Ai 3 c a fun i _=>Ai 3 d a fun j _=>Al [] false false e 48 [f,i,j,g] a fun b k _ _=>AO 0 b fun l=>AO 1 b fun m=>Zi k h l m
def AaB (d:Aa) (e:Hp) (f g h i a:IV):OH :=
 Al [] false false d 49 [f,g,h,i] e fun b j _ _=>AO 0 b fun k=>AO 1 b fun l=>Ak 3 a k j fun c _ _=>Ax true 3 a c fun m=>An [m,l] c
def XM (b c:AI) (a:Hp) (d e:IV):OH :=
 Ad [] b c (Ax true 3 d a fun f=>An [f,e] a)
def Zr (b:Hp) (c d:IV) (e:Aa) (a f:IV):OH :=
 AB (Aj EE 29 2 [(0,c),(1,d)]) 24133637 b fun g h i j=>Ad [] i j (Al [] false false e 24 [.fv (.int .i64 4),g] h fun k l m n=>Ad [] m n (Ak 3 a k l fun o p q=>XM p q o a f))
def Adv (c:IV) (a:Hp) (d:IV) (e:AI) (f:Aa) (g h:IV):OH :=
 A7 3 c (.fv (.int .i64 0)) fun i=>Ai 3 i a fun j b=>Ad [] b [] (Ai 3 d a fun k l=>Ad [(b,[]),(e,[])] l [] (Zr a j k f g h))
def Zm (d:Hp) (a e f:IV) (g:Aa) (h i:IV):OH :=
 Ak 3 a e d fun b j k=>Ad [] j k (Ac 2 f fun l=>Af l b fun m c=>Ad [] c [] (Adv m b a c g h i))
def Aab (a b:AI) (c:IV) (d:Hp) (e f g h i j k l m:AI) (n:IV) (o:Aa) (p:IV):OH :=
 Ad [] a b (AO 0 c fun q=>AO 1 c fun r=>AH 24132626 (.row [.fv (.int .i64 0),.fv (.int .i64 0),.nils] false) (.ptr (.own 24132626) 0) d fun s t u v=>Ad [(a,b),(e,f),(g,[]),(h,[]),(i,[]),(j,k),(l,[]),(m,[])] u v (Zm t s q n o p r))
def Abx (d a b e f g h:AI) (c:Aa) (k:Hp) (l m n o p q:IV):OH :=
 Ad [(a,[]),(b,[]),(e,f),(g,[]),(h,[])] d [] (Al [] false false c 46 [l,.fv (.int .i64 0)] k fun r s i j=>Ad [(a,[]),(b,[])] i j (Bd EE 3 m (.fv (.int .i64 1)) fun t=>Al [] false false c 23 [n,o,r,t] s fun u v w x=>Aab w x u v i j d a b e f g h p c q))
def Ac0 (f a b c d:AI) (h:IV) (e:Hp) (i:IV) (j:Aa) (k l m n:IV):OH :=
 Ad [(a,b),(c,[]),(d,[])] f [] (A7 3 h (.fv (.int .i64 1)) fun o=>Ai 3 o e fun p g=>Ad [(a,b),(c,[]),(d,[])] g [] (Ai 3 i e fun q r=>Abx r g f a b c d j e q k l p m n))
def Adr (a:AI) (b:Aa) (g:Hp) (h i c:IV) (j:AI) (k l m:IV):OH :=
 Ad [] a [] (Al [] false false b 22 [h,.fv (.int .i64 1),i] g fun n d e f=>Ad [] e f (Ac 2 c fun o=>Af o d fun p q=>Ac0 q e f a j p d k b l n c m))
def AdQ (b:IV) (a:Hp) (d:Aa) (e f g h:IV):OH :=
 Ac 2 b fun i=>Af i a fun j c=>Ad [] c [] (A7 3 j (.fv (.int .i64 0)) fun k=>Ai 3 k a fun l m=>Adr m d a e l b c f g h)
def YJ (c:Hp) (a d e:IV):OH :=
 Ak 3 a d c fun b _ _=>Ax true 3 a b fun f=>An [f,e] b
def Yw (c:Hp) (d e f:IV) (g:Aa) (a h:IV):OH :=
 AB (Aj EE 29 3 [(0,d),(1,e),(2,f)]) 24139779 c fun i j _ _=>Al [] false false g 24 [.fv (.int .i64 7),i] j fun k l _ _=>Ak 3 a k l fun b _ _=>Ax true 3 a b fun m=>An [m,h] b
def Ab4 (c:Hp) (b d e f:IV) (g:Aa) (h i:IV):OH :=
 Ak 3 b d c fun a j k=>Ad [] j k (Ai 3 e a fun l _=>Ai 3 f a fun m _=>Ai 3 b a fun n _=>Yw a l m n g h i)
def AaP (a b:AI) (c:IV) (d:Hp) (e f g h i j k l:AI) (m n:IV) (o:Aa) (p:IV):OH :=
 Ad [] a b (AO 0 c fun q=>AO 1 c fun r=>AH 24138767 (.row [.fv (.int .i64 0),.fv (.int .i64 0),.nils] false) (.ptr (.own 24138767) 0) d fun s t u v=>Ad [(a,b),(e,f),(g,[]),(h,i),(j,[]),(k,[]),(l,[])] u v (Ab4 t s q m n o p r))
def AbU (b c d e f g:AI) (a:Aa) (j:Hp) (k l m n o p q:IV):OH :=
 Ad [(c,d),(e,[]),(f,[]),(g,[])] b [] (Al [] false false a 46 [k,.fv (.int .i64 1)] j fun r s h i=>Ad [] h i (Bd EE 3 l (.fv (.int .i64 1)) fun t=>Al [] false false a 23 [m,n,r,t] s fun u v w x=>AaP w x u v h i b c d e f g o p a q))
def AdG (a:Hp) (b:IV) (c d:AI) (e:Aa) (j k l m n o:IV):OH :=
 Ai 3 b a fun p f=>Ad [(c,[]),(d,[])] f [] (Al [] false false e 50 [j,.fv (.int .i64 0),p] a fun q g h i=>Ad [] h i (Ai 3 k g fun r s=>AbU s h i f c d e g r l m q n b o))
def Z6 (a:Hp) (d e:IV) (f:Aa) (g h i j k:IV):OH :=
 Af d a fun l b=>Ad [] b [] (A7 3 l (.fv (.int .i64 1)) fun m=>Ai 3 m a fun n c=>Ad [] c [] (AdG a e c b f n g h i j k))
def Ya (e:Hp) (b f g h c i d:IV) (j:Aa) (k l m:IV):OH :=
 Ak 3 b f e fun a n o=>Ad [] n o (CL (L5 .not g) fun p=>Am p (Ai 3 h a fun q _=>YJ a c q i) (Ac 2 d fun r=>Z6 a r b j k l m d c))
def Aar (a b:AI) (c:IV) (d:Hp) (e f g h i:AI) (j k l m:IV) (n:Aa) (o p q:IV):OH :=
 Ad [] a b (AO 0 c fun r=>AO 1 c fun s=>AH 24135693 (.row [.fv (.int .i64 0),.fv (.int .i64 0),.nils] false) (.ptr (.own 24135693) 0) d fun t u v w=>Ad [(a,b),(e,f),(g,[]),(h,[]),(i,[])] v w (Ya u t r s j k l m n o p q))
def Adw (d a b:AI) (c:Aa) (i:Hp) (j e f k l m n o p:IV):OH :=
 Ad [(a,[]),(b,[])] d [] (Al [] false false c 46 [j,.fv (.int .i64 0)] i fun q r g h=>Ad [(a,[]),(b,[])] g h (Bd EE 3 e (.fv (.int .i64 1)) fun s=>Al [] false false c 23 [f,k,q,s] r fun t u v w=>Aar v w t u g h d a b l m n o c p e f))
def Yd (b:AI) (e:IV) (a:Hp) (c:IV) (f:Aa) (g h i j k l:IV):OH :=
 Ad [] b [] (A7 3 e (.fv (.int .i64 0)) fun m=>Ai 3 m a fun n d=>Ad [] d [] (Ai 3 c a fun o p=>Adw p d b f a o g h n i j k l c))
def Aa0 (c:Hp) (d:IV) (e:Aa) (a f:IV):OH :=
 AB (Aj EE 29 1 [(0,d)]) 24142849 c fun g h _ _=>Al [] false false e 24 [.fv (.int .i64 19),g] h fun i j _ _=>Ak 3 a i j fun b _ _=>Ax true 3 a b fun k=>An [k,f] b
def Zg (c:Hp) (d e f g h i j:AI) (k:IV) (l:Aa) (m n:IV):OH :=
 AH 24141837 (.row [.fv (.int .i64 0),.fv (.int .i64 0),.nils] false) (.ptr (.own 24141837) 0) c fun a o p q=>Ad [(d,e),(f,g),(h,[]),(i,[]),(j,[])] p q (Ak 3 a k o fun b r s=>Ad [] r s (Ai 3 a b fun t _=>Aa0 b t l m n))
def AcS (e:IV) (a:Aa) (f:Hp) (g h i:IV) (j k l m n:AI) (o:IV):OH :=
 Bd EE 3 e (.fv (.int .i64 1)) fun p=>Al [] false false a 35 [g,h,i,p] f fun b q c d=>Ad [] c d (AO 0 b fun r=>AO 1 b fun s=>Zg q c d j k l m n r a o s)
def Abm (a:AI) (c:Hp) (h:IV) (b:AI) (d:Aa) (i j k l:IV):OH :=
 Ad [] a [] (Ai 3 h c fun m e=>Ad [(a,[]),(b,[])] e [] (Al [] false false d 46 [m,.fv (.int .i64 0)] c fun n o f g=>Ad [(a,[]),(b,[])] f g (AcS i d o j k n f g e a b l)))
def YK (c:IV) (a:Hp) (d:IV) (e:Aa) (f g h:IV):OH :=
 Ac 2 c fun i=>Af i a fun j b=>Ad [] b [] (A7 3 j (.fv (.int .i64 0)) fun k=>Ai 3 k a fun l m=>Abm m a d b e f g l h)
def Abj (a:Hp) (d b e:IV):OH :=
 Ai 3 d a fun f _=>Ak 3 b f a fun c _ _=>Ax true 3 b c fun g=>An [g,e] c
def Acb (d b:IV) (a:Hp) (e:IV) (f:Aa) (g h i c j:IV):OH :=
 A5 EE 3 d (.fv (.int .i64 6)) fun k=>Am k (Ac 2 b fun l=>Af l a fun m n=>Yd n m a e f g h i c j b) (A5 EE 3 d (.fv (.int .i64 18)) fun o=>Am o (YK b a e f g h c) (Abj a i c j))
def Ac3 (i:IV) (a:Hp) (b c:IV) (d:Aa) (e f g h j k:IV):OH :=
 Am i (Ai 3 b a fun l _=>Ai 3 c a fun m _=>AaB d a e l m f g) (A5 EE 3 h (.fv (.int .i64 3)) fun n=>Am n (AdQ b a d e c f g) (Acb h b a c d f e j g k))
def AaX (a:IV) (b:IV→Hp→OH) (c:Hp):OH :=
 A5 EE 3 a (.fv (.int .i64 14)) fun d=>Am d (b d c) (A5 EE 3 a (.fv (.int .i64 2)) fun e=>b e c)
def Abh (c:IV) (a:Hp) (f:IV) (g:Aa) (h i j k l:IV):OH :=
 Ac 0 c fun m=>Af m a fun b _=>(fun (d:IV→Hp→OH)=>A5 EE 3 b (.fv (.int .i64 10)) fun e=>Am e (d e a) (AaX b d a)) fun n o=>Ac3 n o c f g h i j b k l
def Aef (b:Hp) (a l:IV) (c:Aa) (d e f g h m n:IV):OH :=
 Ab a true b (fun o=>Af l b fun p q=>o p b q []) fun r i _ _=>Ab a true i (fun s=>Al [] false false c 43 [r,.fv (.int .i64 7)] i s) fun t j _ _=>Ab a true j (fun u=>A5 EE 3 t (.fv (.int .i64 6)) fun v=>u v j [] []) fun w k _ _=>AG a w (.fv (.bool false)) fun x=>Am x (AaS k d e c f g h) (Abh d k e c f g h m n)
def ZT (h:IV) (a:Hp) (c b d e f:IV) (i:Aa) (j k:IV):OH :=
 Am h (Ai 3 c a fun l _=>Ak 3 b l a fun m _ _=>Zz m b d) (Mj EE 3 e (.fv (.int .i64 0)) fun g=>Ab g true a (fun n=>Ac 0 f fun o=>n o a [] []) fun p q _ _=>Aef q g p i j f k e b c d)
def X9 (c:Hp) (a g d h i j:IV) (k:Aa) (l m:IV):OH :=
 Ab a true c (fun n=>A5 EE 3 g (.fv (.int .i64 0)) fun o=>n o c [] []) fun p e _ _=>AG a p (.fv (.bool false)) fun b=>Ab b false e (fun q=>q d e [] []) fun r f _ _=>Ab b false f (fun s=>G8 EE 3 r (.fv (.int .i64 (-4))) fun t=>s t f [] []) fun u v _ _=>AG b (.fv (.bool true)) u fun w=>ZT w v h i a d j k l m
def Ye (h:Hp) (i a c:IV) (d:Aa) (j k l m:IV):OH :=
 AH 24121352 (.row [.fv (.int .i64 0),.fv (.int .i64 0),.nils] false) (.ptr (.own 24121352) 0) h fun e n _ _=>Ak 3 e i n fun f _ _=>Ab a true f (fun o=>Ac 0 c fun p=>o p f [] []) fun q b _ _=>Ab a true b (fun r=>Af q b fun s t=>r s b t []) fun u g _ _=>Ab a true g (fun v=>Al [] false false d 43 [u,.fv (.int .i64 3)] g v) fun w x _ _=>X9 x a w j e k c d l m
def Y7 (a:IV) (b:Hp) (c:Aa) (d f g h i:IV):OH :=
 Ac 1 a fun j=>Af j b fun k _=>Al [] false false c 47 [d,.fv (.int .i64 1),f,k] b fun e l _ _=>AO 0 e fun m=>AO 1 e fun n=>Ye l m n a c g h i d
def Zc (d:IV) (e:Hp) (a f c g:IV) (h:Aa) (i j:IV):OH :=
 AO 1 d fun k=>Ak 3 a f e fun b _ _=>Ha EE 3 k (.fv (.int .i64 0)) fun l=>Am l (BC [.fv (.int .i64 0),.fv (.int .i64 0),.nils] [] fun m=>Aej b c m) (Ai 3 a b fun n _=>Y7 g b h i n j c a)
def S23 (a:Aa) (n:Nat) (e f g h:IV) (i:Hp):OH :=
 A2 24117248 f i fun b j _ _=>A2 24117249 g j fun k l _ _=>AH 24117250 (.row [.fv (.int .i64 0),.fv (.int .i64 0),.nils] false) (.ptr (.own 24117250) 0) l fun m c _ _=>Ai 3 b c fun o _=>Al [] false false a 17 [o] c fun d p _ _=>AO 0 d fun q=>Zc d p b q m k a e h
theorem Apc (a:Aa) (n:Nat) (b c d e:IV) (f:Hp):Aw EE a ft.get n 23 [b,c,d,e] f=S23 a n b c d e f:=by kernel_rfl
def S24 (i:Aa) (n:Nat) (c d:IV) (e:Hp):OH :=
 AH 25165824 (.row [.fv (.int .i64 0),.fv (.int .i64 0),.nils] false) (.ptr (.own 25165824) 0) e fun a f _ _=>BC [.fv (.int .i64 0),.fv (.int .i64 0),.nils] [(0,1,c),(2,1,d)] fun g=>Ak 3 a g f fun b _ _=>Ax true 3 a b fun h=>An [h] b
theorem Aob (a:Aa) (n:Nat) (b c:IV) (d:Hp):Aw EE a ft.get n 24 [b,c] d=S24 a n b c d:=by kernel_rfl
def GH (g:Hp) (h i j:IV) (k:Hp) (a b c d e:IV) (l:List IV→Hp→OH):OH :=
 BA h i g fun m n o=>Ad [] n o (By EE 3 j (.fv (.int .i64 1)) fun f=>Bf (k.own.map (·.1)) [26221584] [a,b,c,d,e,f] m fun p=>l [a,b,c,d,e,f] p)
def Gw (b:Hp) (c:IV) (d:AI) (e a f:IV) (g:Hp) (h i j k:IV) (l:List IV→Hp→OH):OH :=
 AB (Aj EE 29 1 [(0,c)]) 26221583 b fun m n o p=>Ad [(d,[])] o p (AB (AY EE 26221584 false .append [29,29] [e,m]) 26221584 n fun q r s t=>Ad [] s t (Ac 2 a fun u=>GH r u q f g h i j k a l))
def GI (b:Aa) (f:Hp) (g c:IV) (h i a:AI) (d j e k l:IV) (m:Hp) (n o:IV) (p:List IV→Hp→OH):OH :=
 Al [] false false b 51 [g,c] f fun q r s t=>Ad [(h,[]),(i,[]),(a,[])] s t (By EE 3 d q fun u=>Al [] false false b 25 [j,e,u] r fun v w x y=>Ad [(a,[])] x y (Gw w v a k l c m e d n o p))
def Gv (a:Hp) (f:IV) (b:AI) (d:IV) (e:AI) (g:Aa) (h i j k l:IV) (m:Hp) (n:IV) (o:List IV→Hp→OH):OH :=
 Ai 3 f a fun p c=>Ad [(b,[])] c [] (Ac 0 d fun q=>Af q a fun r s=>Ad [(c,[]),(e,[]),(b,[])] s [] (GI g a r h c e b i p j k l m d n o))
def Gz (a:AI) (b:IV) (c:Hp) (d:IV) (f:Aa) (g h i j:IV) (k:Hp) (l:IV) (m:List IV→Hp→OH):OH :=
 Ad [] a [] (Ac 2 b fun n=>Af n c fun o e=>Ad [(a,[])] e [] (A7 3 o d fun p=>Gv c p a b e f d g h i j k l m))
def Gt (a:Hp) (b:IV):OH :=
 Ax true 3 b a fun c=>An [c] a
def Gs (d b:IV) (a:Hp) (e f:IV) (g:Aa) (h i:IV) (j:Hp) (c:IV) (k:List IV→Hp→OH):OH :=
 Am d (Ac 2 b fun l=>Af l a fun m n=>Gz n e a f g h i m b j c k) (Ai 3 b a fun o _=>Ak 3 c o a fun p _ _=>Gt p c)
def GE (d:List IV) (a:IV) (b:Hp) (e:IV) (f:Aa) (g h:IV) (i:Hp) (j:IV) (k:List IV→Hp→OH):OH :=
 Av d fun c _=>Ac 2 a fun l=>Af l b fun m _=>BS m fun n=>G8 EE 3 c n fun o=>Gs o e b a c f g h i j k
def IL (a:List IV) (b:Hp) (c:Aa) (d:Hp) (e:List IV→Hp→OH):OH :=
 Av a fun f g=>Av g fun h i=>Av i fun j k=>Av k fun l m=>Av m fun n o=>GE o j b n c h f d l e
def Gg (a g:Hp) (b c d e f:IV) (n:Nat) (h:Aa):OH :=
 Bf (a.own.map (·.1)) [26221584] [b,c,d,e,f,.fv (.int .i64 0)] g fun i=>BF n (fun j k l=>IL k l h a j) [b,c,d,e,f,.fv (.int .i64 0)] i
def Gh (a:Hp) (b c d:IV) (e:Hp→OH):OH :=
 Af b a fun f _=>By EE 3 f c fun g=>Ac 1 d fun h=>BA h g a fun i _ _=>e i
def Gc (a:Hp) (b e f g h i:IV) (c:Hp→OH):OH :=
 Ab b true a (fun j=>geS EE 3 e f fun k=>j k a [] []) fun l d _ _=>AG b l (.fv (.bool false)) fun m=>Am m (Ac 1 g fun n=>Gh d n h i c) (c d)
def Gk (b:Hp) (f d g h i:IV) (j:Hp→OH):OH :=
 Af f b fun k _=>A5 EE 3 k (.fv (.int .i64 1)) fun a=>Ab a true b (fun l=>Ac 1 d fun m=>l m b [] []) fun n c _ _=>Ab a true c (fun o=>Af n c fun p q=>o p c q []) fun r e _ _=>Ab a true e (fun s=>s g e [] []) fun t u _ _=>Gc u a r t d h i j
def Gl (e f:IV) (g h:Hp) (c d a i:IV) (n:Nat) (j:Aa):OH :=
 BC [.fv (.int .i64 0),.fv (.int .i64 0),.nils] [(0,1,e),(1,1,f)] fun k=>AH 26215429 (.row [.fv (.int .i64 0),.fv (.int .i64 0),.nils] false) (.ptr (.own 26215429) 0) g fun b l _ _=>Ak 3 b k l fun m _ _=>(fun (o:Hp→OH)=>Ac 0 a fun p=>Gk m p a d c b o) fun q=>Gg h q c d a i b n j
def S25 (d:Aa) (n:Nat) (e f g:IV) (c:Hp):OH :=
 A2 26214400 e c fun a h _ _=>AH 26214401 (.row [.fv (.int .i64 0),.fv (.int .i64 0),.nils] false) (.ptr (.own 26214401) 0) h fun i b _ _=>Ac 0 a fun j=>Af j b fun k _=>Ac 1 a fun l=>Af l b fun m _=>Gl k m b c f g a i n d
theorem Ao3 (a:Aa) (n:Nat) (b c d:IV) (e:Hp):Aw EE a ft.get n 25 [b,c,d] e=S25 a n b c d e:=by kernel_rfl
def S26 (h:Aa) (n:Nat) (c:IV) (d:Hp):OH :=
 AH 27262976 (.row [.fv (.int .i64 0),.fv (.int .i64 0),.nils] false) (.ptr (.own 27262976) 0) d fun a e _ _=>BC [.fv (.int .i64 0),.fv (.int .i64 0),.nils] [(0,1,.fv (.int .i64 1)),(1,1,c)] fun f=>Ak 3 a f e fun b _ _=>Ax true 3 a b fun g=>An [g] b
theorem AnP (a:Aa) (n:Nat) (b:IV) (c:Hp):Aw EE a ft.get n 26 [b] c=S26 a n b c:=by kernel_rfl
def Ahy (b:IV) (a:Hp):OH :=
 Ac 1 b fun c=>Af c a fun d _=>An [d] a
def S27 (c:Aa) (n:Nat) (d:IV) (e:Hp):OH :=
 A2 28311552 d e fun f g _ _=>BC [.fv (.int .i64 0),.fv (.int .i64 0)] [] fun h=>A2 28312577 h g fun a b _ _=>Ai 3 f b fun i _=>Al [true,false,false] false false c 52 [a,i,.fv (.int .i64 1)] b fun _ j _ _=>AF a fun k=>Ahy k j
theorem AnB (a:Aa) (n:Nat) (b:IV) (c:Hp):Aw EE a ft.get n 27 [b] c=S27 a n b c:=by kernel_rfl
def Ry (b:Aa) (c:Hp) (d a e:IV) (f:List IV→Hp→OH) (g h:IV):OH :=
 Al [] false false b 24 [.fv (.int .i64 12),d] c fun i j _ _=>Ak 3 a i j fun k _ _=>By EE 3 e (.fv (.int .i64 1)) fun l=>f [g,h,a,l] k
def Se (a:Hp) (b:IV):OH :=
 Ax true 3 b a fun c=>An [c] a
def RC (d:IV) (a:Hp) (b:IV) (e:Aa) (f:IV) (g:List IV→Hp→OH) (h c:IV):OH :=
 Am d (Ai 3 b a fun i _=>AB (Aj EE 29 1 [(0,i)]) 30413825 a fun j k _ _=>Ry e k j b f g h c) (Ai 3 b a fun l _=>Ak 3 c l a fun m _ _=>Se m c)
def WQ (c:List IV) (d:Hp) (e:Aa) (f:List IV→Hp→OH):OH :=
 Av c fun a g=>Av g fun h i=>Av i fun j k=>Av k fun b _=>G8 EE 3 b a fun l=>RC l d j e b f a h
def S29 (a:Aa) (n:Nat) (c:IV) (d:Hp):OH :=
 AH 30408704 (.row [.fv (.int .i64 0),.fv (.int .i64 0),.nils] false) (.ptr (.own 30408704) 0) d fun e f _ _=>Al [] false false a 24 [.fv (.int .i64 11),.nils] f fun g h _ _=>AH 30409729 (.row [.fv (.int .i64 0),.fv (.int .i64 0),.nils] false) (.ptr (.own 30409729) 0) h fun b i _ _=>Ak 3 b g i fun j _ _=>BF n (fun k l m=>WQ l m a k) [c,e,b,.fv (.int .i64 0)] j
theorem AmL (a:Aa) (n:Nat) (b:IV) (c:Hp):Aw EE a ft.get n 29 [b] c=S29 a n b c:=by kernel_rfl
def XG (c:IV) (a:Hp) (d:IV):OH :=
 AO 1 c fun e=>A5 EE 37 e (.fv (.int .i64 0)) fun b=>Ab b true a (fun f=>f d a [] []) fun g h _ _=>AG b g (.fv (.bool false)) fun i=>An [i] h
def S30 (c:Aa) (n:Nat) (d e:IV) (f:Hp):OH :=
 A2 31457280 d f fun g h _ _=>A2 31457281 e h fun i a _ _=>Ai 3 g a fun j _=>Ai 3 i a fun k _=>Al [] false false c 16 [j,k] a fun b l _ _=>AO 0 b fun m=>XG b l m
theorem AoA (a:Aa) (n:Nat) (b c:IV) (d:Hp):Aw EE a ft.get n 30 [b,c] d=S30 a n b c d:=by kernel_rfl
def Pz (a b c:IV) (d:List IV→Hp→OH) (e:Hp) (f g:IV):OH :=
 By EE 3 a b fun h=>By EE 3 c (.fv (.int .i64 1)) fun i=>d [f,g,h,i] e
def OO (a:Hp) (e b c d:IV) (f:Aa) (g:List IV→Hp→OH) (h:IV):OH :=
 Af e a fun i _=>A7 3 i b fun j=>Ai 3 j a fun k _=>Bd EE 3 c d fun l=>Al [] false false f 33 [k,l] a fun m n _ _=>Pz d m b g n c h
def Oq (a:Hp) (b f g c h i d:IV) (j:Aa) (k:List IV→Hp→OH):OH :=
 Ab b true a (fun l=>G8 EE 3 f g fun m=>l m a [] []) fun n e _ _=>AG b n (.fv (.bool false)) fun o=>Am o (Ac 2 c fun p=>OO e p h i d j k c) (An [d] e)
def Pl (a:Hp) (g c d e h:IV) (i:Aa) (j:List IV→Hp→OH):OH :=
 Af g a fun k _=>BS k fun l=>G8 EE 3 c l fun b=>Ab b true a (fun m=>m d a [] []) fun n f _ _=>Ab b true f (fun o=>o e f [] []) fun p q _ _=>Oq q b n p h c e d i j
def Q4 (b:List IV) (c:Hp) (d:Aa) (e:List IV→Hp→OH):OH :=
 Av b fun f g=>Av g fun a h=>Av h fun i j=>Av j fun k _=>Ac 2 a fun l=>Pl c l k i f a d e
def S33 (a:Aa) (n:Nat) (b c:IV) (d:Hp):OH :=
 A2 34603008 b d fun e f _ _=>BF n (fun g h i=>Q4 h i a g) [c,e,.fv (.int .i64 1),.fv (.int .i64 0)] f
theorem AnK (a:Aa) (n:Nat) (b c:IV) (d:Hp):Aw EE a ft.get n 33 [b,c] d=S33 a n b c d:=by kernel_rfl
def SJ (c:Hp) (a d:IV):OH :=
 Ak 3 a d c fun b _ _=>Ax true 3 a b fun e=>An [e] b
def SD (b c:AI) (a:Hp) (d:IV):OH :=
 Ad [] b c (Ax true 3 d a fun e=>An [e] a)
def Q7 (b:Hp) (c d:IV) (e:Aa) (f a:IV):OH :=
 AB (Aj EE 29 2 [(0,c),(1,d)]) 35655693 b fun g h i j=>Ad [] i j (Al [] false false e 24 [f,g] h fun k l m n=>Ad [] m n (Ak 3 a k l fun o p q=>SD p q o a))
def R5 (a:Aa) (b:Hp) (c d e f g:IV):OH :=
 Al [] false false a 46 [c,.fv (.int .i64 1)] b fun h i j k=>Ad [] j k (Bd EE 3 d (.fv (.int .i64 1)) fun l=>Al [] false false a 34 [h,l] i fun m n o p=>Ad [] o p (Q7 n e m a f g))
def Tx (a:IV) (b:Aa) (f:Hp) (g h:IV) (i j k:AI) (l m:IV):OH :=
 Bd EE 3 a (.fv (.int .i64 1)) fun n=>Al [] false false b 34 [g,n] f fun o c d e=>Ad [] d e (Ai 3 h c fun p q=>Ad [(d,e),(i,j),(k,[])] q [] (R5 b c p a o l m))
def Sf (g:IV) (a:Hp) (b:IV) (c:Aa) (h i:IV):OH :=
 Bd EE 3 g (.fv (.int .i64 2)) fun j=>Ai 3 b a fun k d=>Ad [] d [] (Al [] false false c 46 [k,.fv (.int .i64 0)] a fun l m e f=>Ad [] e f (Tx h c m l b e f d j i))
def TV (b:Hp) (a c:IV) (d:Aa) (e h i:IV):OH :=
 Ab a false b (fun j=>j c b [] []) fun k f _ _=>Ab a false f (fun l=>G8 EE 3 k (.fv (.int .i64 2)) fun m=>l m f [] []) fun n g _ _=>AG a (.fv (.bool true)) n fun o=>Am o (Al [] false false d 24 [.fv (.int .i64 15),.nils] g fun p q _ _=>SJ q e p) (By EE 3 (.fv (.int .i64 16)) c fun r=>Sf r g h d i e)
def S34 (a:Aa) (n:Nat) (e b:IV) (f:Hp):OH :=
 A2 35651584 e f fun c g _ _=>AH 35651585 (.row [.fv (.int .i64 0),.fv (.int .i64 0),.nils] false) (.ptr (.own 35651585) 0) g fun h d _ _=>Ac 1 c fun i=>Af i d fun j _=>Al [] false false a 43 [j,.fv (.int .i64 4)] d fun k l _ _=>leS EE 3 b (.fv (.int .i64 0)) fun m=>TV l m k a h c b
theorem Aol (a:Aa) (n:Nat) (b c:IV) (d:Hp):Aw EE a ft.get n 34 [b,c] d=S34 a n b c d:=by kernel_rfl
def Adl (c:Hp) (a d:IV):OH :=
 Ak 3 a d c fun b _ _=>Ax true 3 a b fun e=>An [e,.fv (.bool false)] b
def Ac8 (a:Hp) (b c:IV):OH :=
 Ax true 3 b a fun d=>An [d,c] a
def YE (c:Hp) (a d e:IV):OH :=
 Ak 3 a d c fun b _ _=>Ax true 3 a b fun f=>An [f,e] b
def Aek (a:Hp) (c d:IV) (e:Aa) (f g h:IV):OH :=
 Ai 3 c a fun i _=>Ai 3 d a fun j _=>Al [] false false e 53 [f,i,j,g] a fun b k _ _=>AO 0 b fun l=>AO 1 b fun m=>YE k h l m
def X8 (a:Hp) (b e c f:IV):OH :=
 Ab b true a (fun g=>g e a [] []) fun h i _ _=>AG b h (.fv (.bool false)) fun j=>Ak 3 c f i fun d k l=>Ad [] k l (Ax true 3 c d fun m=>An [m,j] d)
def XS (a:Hp) (e:IV) (f b c d:AI) (g h i j k:IV):OH :=
 Ai 3 e a fun l m=>Ad [(f,[]),(b,c),(d,[])] m [] (AB (Aj EE 29 2 [(0,g),(1,l)]) 36714501 a fun n o p q=>Ad [(b,c),(d,[])] p q (BC [.fv (.int .i64 0),.fv (.int .i64 0),.nils] [(0,1,.fv (.int .i64 26)),(1,1,h),(2,1,n)] fun r=>X8 o i j k r))
def YD (a:AI) (f:Aa) (g:Hp) (h i j k l m:IV):OH :=
 Ad [] a [] (Al [] false false f 43 [h,.fv (.int .i64 5)] g fun n d b c=>Ad [] b c (Ai 3 i d fun o e=>Ad [(b,c),(a,[])] e [] (XS d j e b c a o n k l m)))
def ZI (c d e f g h i j:AI) (k:Hp) (a l m:IV) (n:Aa) (o p q r:IV):OH :=
 Ad [(e,f),(g,h),(i,[]),(j,[])] c d (Ak 3 a l k fun b s t=>Ad [] s t (Ac 1 m fun u=>Af u b fun v w=>YD w n b v o a p q r))
def AbZ (a:Aa) (e:Hp) (f g h i:IV) (j k l m:AI) (n o p q:IV):OH :=
 Al [] false false a 35 [f,g,h,i] e fun b r c d=>Ad [] c d (AO 0 b fun s=>AO 1 b fun t=>AH 36713482 (.row [.fv (.int .i64 0),.fv (.int .i64 0),.nils] false) (.ptr (.own 36713482) 0) r fun u v w x=>ZI w x c d j k l m v u s n a o p t q)
def X1 (b:Hp) (c:IV) (a:AI) (d:Aa) (h i j k l m:IV):OH :=
 Ai 3 c b fun n e=>Ad [(a,[])] e [] (Al [] false false d 46 [n,.fv (.int .i64 1)] b fun o p f g=>Ad [(a,[])] f g (Bd EE 3 h (.fv (.int .i64 1)) fun q=>AbZ d p i j o q f g e a c k l m))
def Aaz (d e f g h i j k:AI) (l:Hp) (a m n o:IV) (p:Aa) (q r s t:IV):OH :=
 Ad [(f,g),(h,i),(j,[]),(k,[])] d e (Ak 3 a m l fun b u v=>Ad [] u v (Ai 3 n b fun w c=>Ad [] c [] (X1 b o c p q r w a s t)))
def Yt (a:Aa) (f:Hp) (b g h i:IV) (j k l m:AI) (n o p q:IV):OH :=
 Al [] false false a 35 [b,g,h,i] f fun c r d e=>Ad [] d e (AO 0 c fun s=>AO 1 c fun t=>AH 36712458 (.row [.fv (.int .i64 0),.fv (.int .i64 0),.nils] false) (.ptr (.own 36712458) 0) r fun u v w x=>Aaz w x d e j k l m v u s n o a p b t q)
def Yf (b:Hp) (c:IV) (a:AI) (d:Aa) (e i j k l:IV):OH :=
 Ai 3 c b fun m f=>Ad [(a,[])] f [] (Al [] false false d 46 [m,.fv (.int .i64 0)] b fun n o g h=>Ad [(a,[])] g h (Bd EE 3 e (.fv (.int .i64 1)) fun p=>Yt d o i j n p g h f a k c e l))
def Aal (a:Aa) (d:Hp) (e b:IV):OH :=
 Al [] false false a 43 [e,.fv (.int .i64 20)] d fun f g _ _=>Bd EE 3 f (.fv (.int .i64 5)) fun h=>Al [] false false a 36 [h] g fun i j _ _=>Ak 3 b i j fun c _ _=>Ax true 3 b c fun k=>An [k,.fv (.bool true)] c
def AcE (g:IV) (a:Hp) (b c:IV) (d:Aa) (h i e:IV):OH :=
 Am g (Ai 3 b a fun j f=>Ad [] f [] (Yf a c f d h i j b e)) (Ac 1 c fun k=>Af k a fun l _=>Aal d a l e)
def AcD (c:Hp) (a d:IV) (e:Aa) (h i j k:IV):OH :=
 Ab a true c (fun l=>Ac 0 d fun m=>l m c [] []) fun n b _ _=>Ab a true b (fun o=>Af n b fun p q=>o p b q []) fun r f _ _=>Ab a true f (fun s=>Al [] false false e 43 [r,.fv (.int .i64 2)] f s) fun t g _ _=>Ab a true g (fun u=>A5 EE 3 t (.fv (.int .i64 1)) fun v=>u v g [] []) fun w x _ _=>AG a w (.fv (.bool false)) fun y=>AcE y x h d e i j k
def Y1 (b c:AI) (a:Hp) (d e:IV):OH :=
 Ad [] b c (Ax true 3 d a fun f=>An [f,e] a)
def ZK (b:Hp) (c d:IV) (e:Aa) (a f:IV):OH :=
 AB (Aj EE 29 2 [(0,c),(1,d)]) 36718597 b fun g h i j=>Ad [] i j (Al [] false false e 24 [.fv (.int .i64 20),g] h fun k l m n=>Ad [] m n (Ak 3 a k l fun o p q=>Y1 p q o a f))
def YC (c:IV) (a:Hp) (d:IV) (e:AI) (f:Aa) (g h:IV):OH :=
 A7 3 c (.fv (.int .i64 0)) fun i=>Ai 3 i a fun j b=>Ad [] b [] (Ai 3 d a fun k l=>Ad [(b,[]),(e,[])] l [] (ZK a j k f g h))
def Ad8 (d:Hp) (a e f:IV) (g:Aa) (h i:IV):OH :=
 Ak 3 a e d fun b j k=>Ad [] j k (Ac 2 f fun l=>Af l b fun m c=>Ad [] c [] (YC m b a c g h i))
def AaH (a b:AI) (c:IV) (d:Hp) (e f g h i j k l m n o:AI) (p:IV) (q:Aa) (r:IV):OH :=
 Ad [] a b (AO 0 c fun s=>AO 1 c fun t=>AH 36717587 (.row [.fv (.int .i64 0),.fv (.int .i64 0),.nils] false) (.ptr (.own 36717587) 0) d fun u v w x=>Ad [(a,b),(e,f),(g,[]),(h,i),(j,[]),(k,[]),(l,m),(n,[]),(o,[])] w x (Ad8 v u s p q r t))
def AcJ (b c d e f g h i j:AI) (a:Aa) (m:Hp) (n o p q r s:IV):OH :=
 Ad [(c,d),(e,[]),(f,[]),(g,h),(i,[]),(j,[])] b [] (Al [] false false a 46 [n,.fv (.int .i64 0)] m fun t u k l=>Ad [] k l (Bd EE 3 o (.fv (.int .i64 1)) fun v=>Al [] false false a 35 [p,q,t,v] u fun w x y z=>AaH y z w x k l b c d e f g h i j r a s))
def Ab9 (a:Hp) (k:IV) (b c d e:AI) (f:Aa) (l:IV) (m:AI) (n o p q:IV):OH :=
 Ai 3 k a fun r g=>Ad [(b,c),(d,[]),(e,[])] g [] (Al [] false false f 25 [r,.fv (.int .i64 1),.fv (.int .i64 0)] a fun s h i j=>Ad [] i j (Ai 3 l h fun t u=>AcJ u i j g m b c d e f h t n o s p q))
def AdT (a b:AI) (c:IV) (d:Hp) (e f:AI) (h:Aa) (i j k l:IV):OH :=
 Ad [] a b (Ac 2 c fun m=>Af m d fun n g=>Ad [(a,b),(e,[]),(f,[])] g [] (A7 3 n (.fv (.int .i64 1)) fun o=>Ab9 d o a b e f h i g j k c l))
def Acg (a:AI) (e:IV) (b:Hp) (c:Aa) (f g h i j:IV):OH :=
 Ad [] a [] (A7 3 e (.fv (.int .i64 0)) fun k=>Ai 3 k b fun l d=>Ad [] d [] (Al [] false false c 22 [f,.fv (.int .i64 0),l] b fun m n o p=>AdT o p g n d a c h i m j))
def Aen (a:Hp) (b c:IV):OH :=
 Ax true 3 b a fun d=>An [d,c] a
def Ado (d:Hp) (e f:IV) (g:Aa) (a h b:IV):OH :=
 AB (Aj EE 29 2 [(0,e),(1,f)]) 36722690 d fun i j _ _=>Al [] false false g 24 [.fv (.int .i64 22),i] j fun k c _ _=>Ab a true c (fun l=>l h c [] []) fun m n _ _=>AG a m (.fv (.bool false)) fun o=>Ak 3 b k n fun p _ _=>Aen p b o
def YX (c d e f g h i j k:AI) (l:Hp) (b m n:IV) (o:Aa) (p q r:IV):OH :=
 Ad [(e,f),(g,h),(i,[]),(j,[]),(k,[])] c d (Ak 3 b m l fun a s t=>Ad [] s t (Ai 3 n a fun u _=>Ai 3 b a fun v _=>Ado a u v o p q r))
def YG (a:Aa) (e:Hp) (f g h i:IV) (j k l m n:AI) (o p q:IV):OH :=
 Al [] false false a 35 [f,g,h,i] e fun b r c d=>Ad [] c d (AO 0 b fun s=>AO 1 b fun t=>AH 36721677 (.row [.fv (.int .i64 0),.fv (.int .i64 0),.nils] false) (.ptr (.own 36721677) 0) r fun u v w x=>YX w x c d j k l m n v u s o a p t q)
def Adc (c:Hp) (h:IV) (a b:AI) (d:Aa) (i j k l m n:IV):OH :=
 Ai 3 h c fun o e=>Ad [(a,[]),(b,[])] e [] (Al [] false false d 46 [o,.fv (.int .i64 1)] c fun p q f g=>Ad [(a,[]),(b,[])] f g (Bd EE 3 i (.fv (.int .i64 1)) fun r=>YG d q j k p r f g e a b l m n))
def Acd (a:Hp) (d e:IV) (f:Aa) (g h i j k:IV):OH :=
 Af d a fun l b=>Ad [] b [] (A7 3 l (.fv (.int .i64 1)) fun m=>Ai 3 m a fun n c=>Ad [] c [] (Adc a e c b f g h n i j k))
def AbO (b:Hp) (c d e f g h i:AI) (j k l:IV) (m:Aa) (n o p q:IV):OH :=
 AH 36720653 (.row [.fv (.int .i64 0),.fv (.int .i64 0),.nils] false) (.ptr (.own 36720653) 0) b fun a r s t=>Ad [(c,d),(e,f),(g,[]),(h,[]),(i,[])] s t (Ak 3 a j r fun u v w=>Ad [] v w (Ac 2 k fun x=>Acd u x l m n o a p q))
def X2 (a:IV) (b:Aa) (g:Hp) (c h i:IV) (j k l m n:AI) (o p q:IV):OH :=
 Bd EE 3 a (.fv (.int .i64 1)) fun r=>Al [] false false b 35 [c,h,i,r] g fun d s e f=>Ad [] e f (AO 0 d fun t=>AO 1 d fun u=>AbO s e f j k l m n t o p b a c u q)
def Adh (a:AI) (c:Hp) (d:IV) (b:AI) (e:Aa) (i j k l m:IV):OH :=
 Ad [] a [] (Ai 3 d c fun n f=>Ad [(a,[]),(b,[])] f [] (Al [] false false e 46 [n,.fv (.int .i64 0)] c fun o p g h=>Ad [(a,[]),(b,[])] g h (X2 i e p j k o g h f a b l d m)))
def Aaw (b:IV) (a:Hp) (d:IV) (e:Aa) (f g h:IV):OH :=
 Ac 2 b fun i=>Af i a fun j c=>Ad [] c [] (A7 3 j (.fv (.int .i64 0)) fun k=>Ai 3 k a fun l m=>Adh m a d c e f g l b h)
def Abe (a:Hp) (d b e:IV):OH :=
 Ai 3 d a fun f _=>Ak 3 b f a fun c _ _=>Ax true 3 b c fun g=>An [g,e] c
def Ad4 (h b:IV) (a:Hp) (d:Aa) (e f g c i j k:IV):OH :=
 Am h (Ac 2 b fun l=>Af l a fun m n=>Acg n m a d e b f g c) (A5 EE 3 i (.fv (.int .i64 17)) fun o=>Am o (Aaw b a f d g e c) (Abe a j c k))
def Acz (a:IV) (b:Hp) (c e:IV) (f:Aa) (g h i j:IV):OH :=
 Ac 0 a fun k=>Af k b fun d _=>A5 EE 3 d (.fv (.int .i64 15)) fun l=>Am l (Mj EE 3 c (.fv (.int .i64 0)) fun m=>AcD b m e f a c g h) (A5 EE 3 d (.fv (.int .i64 16)) fun n=>Ad4 n a b f g e c h d i j)
def Yz (b:Hp) (a l:IV) (c:Aa) (d e f g h m n:IV):OH :=
 Ab a true b (fun o=>Af l b fun p q=>o p b q []) fun r i _ _=>Ab a true i (fun s=>Al [] false false c 43 [r,.fv (.int .i64 3)] i s) fun t j _ _=>Ab a true j (fun u=>A5 EE 3 t (.fv (.int .i64 1)) fun v=>u v j [] []) fun w k _ _=>AG a w (.fv (.bool false)) fun x=>Am x (Aek k d e c f g h) (Acz d k g e c f h m n)
def AcB (h:IV) (a:Hp) (c b d e f:IV) (i:Aa) (j k:IV):OH :=
 Am h (Ai 3 c a fun l _=>Ak 3 b l a fun m _ _=>Ac8 m b d) (Mj EE 3 e (.fv (.int .i64 0)) fun g=>Ab g true a (fun n=>Ac 0 f fun o=>n o a [] []) fun p q _ _=>Yz q g p i j f k e b c d)
def Acf (c:Hp) (a g d h i j:IV) (k:Aa) (l m:IV):OH :=
 Ab a true c (fun n=>A5 EE 3 g (.fv (.int .i64 0)) fun o=>n o c [] []) fun p e _ _=>AG a p (.fv (.bool false)) fun b=>Ab b false e (fun q=>q d e [] []) fun r f _ _=>Ab b false f (fun s=>G8 EE 3 r (.fv (.int .i64 (-4))) fun t=>s t f [] []) fun u v _ _=>AG b (.fv (.bool true)) u fun w=>AcB w v h i a d j k l m
def Z3 (h:Hp) (i a c:IV) (d:Aa) (j k l m:IV):OH :=
 AH 36704264 (.row [.fv (.int .i64 0),.fv (.int .i64 0),.nils] false) (.ptr (.own 36704264) 0) h fun e n _ _=>Ak 3 e i n fun f _ _=>Ab a true f (fun o=>Ac 0 c fun p=>o p f [] []) fun q b _ _=>Ab a true b (fun r=>Af q b fun s t=>r s b t []) fun u g _ _=>Ab a true g (fun v=>Al [] false false d 43 [u,.fv (.int .i64 3)] g v) fun w x _ _=>Acf x a w j e k c d l m
def AaZ (a:IV) (b:Hp) (c:Aa) (d f g h i:IV):OH :=
 Ac 1 a fun j=>Af j b fun k _=>Al [] false false c 47 [d,.fv (.int .i64 0),f,k] b fun e l _ _=>AO 0 e fun m=>AO 1 e fun n=>Z3 l m n a c g h i d
def Za (d:IV) (e:Hp) (a f c g:IV) (h:Aa) (i j:IV):OH :=
 AO 1 d fun k=>Ak 3 a f e fun b _ _=>Ha EE 3 k (.fv (.int .i64 0)) fun l=>Am l (BC [.fv (.int .i64 0),.fv (.int .i64 0),.nils] [] fun m=>Adl b c m) (Ai 3 a b fun n _=>AaZ g b h i n j c a)
def S35 (a:Aa) (n:Nat) (e f g h:IV) (i:Hp):OH :=
 A2 36700160 f i fun b j _ _=>A2 36700161 g j fun k l _ _=>AH 36700162 (.row [.fv (.int .i64 0),.fv (.int .i64 0),.nils] false) (.ptr (.own 36700162) 0) l fun m c _ _=>Ai 3 b c fun o _=>Al [] false false a 17 [o] c fun d p _ _=>AO 0 d fun q=>Za d p b q m k a e h
theorem An4 (a:Aa) (n:Nat) (b c d e:IV) (f:Hp):Aw EE a ft.get n 35 [b,c,d,e] f=S35 a n b c d e f:=by kernel_rfl
def S36 (h:Aa) (n:Nat) (c:IV) (d:Hp):OH :=
 AH 37748736 (.row [.fv (.int .i64 0),.fv (.int .i64 0),.nils] false) (.ptr (.own 37748736) 0) d fun a e _ _=>BC [.fv (.int .i64 0),.fv (.int .i64 0),.nils] [(0,1,.fv (.int .i64 25)),(1,1,c)] fun f=>Ak 3 a f e fun b _ _=>Ax true 3 a b fun g=>An [g] b
theorem AmT (a:Aa) (n:Nat) (b:IV) (c:Hp):Aw EE a ft.get n 36 [b] c=S36 a n b c:=by kernel_rfl
def Gp (a:IV) (b:List IV→Hp→OH) (c:Hp) (d e:IV):OH :=
 By EE 3 a (.fv (.int .i64 1)) fun f=>b [d,e,f] c
def Gx (b c d:AI) (e:Aa) (f:Hp) (g h i:IV) (j:List IV→Hp→OH) (k l:IV):OH :=
 Ad [(c,[]),(d,[])] b [] (Al [] false false e 37 [g,h] f fun m a n o=>Ad [] n o (CL (L5 .not m) fun p=>Am p (An [.fv (.bool false)] a) (Gp i j a k l)))
def GC (b:IV) (a:Hp) (c d:AI) (e:IV) (f:Aa) (g:IV) (h:List IV→Hp→OH) (i:IV):OH :=
 Ac 2 b fun j=>Af j a fun k l=>Ad [(c,[]),(d,[])] l [] (A7 3 k e fun m=>Ai 3 m a fun n o=>Gx o c d f a g n e h i b)
def Ge (a:Hp) (e b f:IV) (g:Aa) (h:List IV→Hp→OH) (i:IV):OH :=
 Af e a fun j c=>Ad [] c [] (A7 3 j b fun k=>Ai 3 k a fun l d=>Ad [] d [] (GC f a d c b g l h i))
def GA (d a b:IV) (c:Hp) (e:IV) (f:Aa) (g:List IV→Hp→OH):OH :=
 BS d fun h=>G8 EE 3 a h fun i=>Am i (Ac 2 b fun j=>Ge c j a e f g b) (An [.fv (.bool true)] c)
def NS (c:List IV) (a:Hp) (d:Aa) (e:List IV→Hp→OH):OH :=
 Av c fun b f=>Av f fun g h=>Av h fun i _=>Ac 2 b fun j=>Af j a fun k _=>GA k i b a g d e
def Gn (b:IV) (a:Hp) (n:Nat) (c d:IV) (e:Aa):OH :=
 Am b (An [.fv (.bool false)] a) (BF n (fun f g h=>NS g h e f) [c,d,.fv (.int .i64 0)] a)
def Gy (c:Hp) (a d g:IV) (n:Nat) (h:IV) (i:Aa):OH :=
 Ab a false c (fun j=>Ac 2 d fun k=>j k c [] []) fun l b _ _=>Ab a false b (fun m=>Af l b fun o p=>m o b p []) fun q e _ _=>Ab a false e (fun r=>BS q fun s=>r s e [] []) fun t f _ _=>Ab a false f (fun u=>Ha EE 3 g t fun v=>u v f [] []) fun w x _ _=>AG a (.fv (.bool true)) w fun y=>Gn y x n h d i
def Gq (c:Hp) (d h i e j:IV) (n:Nat) (k:Aa):OH :=
 Ab d false c (fun l=>Ha EE 3 h i fun m=>l m c [] []) fun o f _ _=>AG d (.fv (.bool true)) o fun a=>Ab a false f (fun p=>Ac 2 e fun q=>p q f [] []) fun r b _ _=>Ab a false b (fun s=>Af r b fun t u=>s t b u []) fun v g _ _=>Ab a false g (fun w=>BS v fun x=>w x g [] []) fun y z _ _=>Gy z a j y n e k
def Gi (h i:IV) (d:Hp) (e f:IV) (n:Nat) (j:Aa):OH :=
 Ha EE 3 h i fun a=>Ab a false d (fun k=>Ac 1 e fun l=>k l d [] []) fun m b _ _=>Ab a false b (fun o=>Af m b fun p q=>o p b q []) fun r g _ _=>Ab a false g (fun s=>Ac 1 f fun t=>s t g [] []) fun u c _ _=>Ab a false c (fun v=>Af u c fun w x=>v w c x []) fun y z _ _=>Gq z a r y e f n j
def S37 (d:Aa) (n:Nat) (e f:IV) (g:Hp):OH :=
 A2 38797312 e g fun b h _ _=>A2 38797313 f h fun c a _ _=>Ac 0 b fun i=>Af i a fun j _=>Ac 0 c fun k=>Af k a fun l _=>Gi j l a b c n d
theorem Ao7 (a:Aa) (n:Nat) (b c:IV) (d:Hp):Aw EE a ft.get n 37 [b,c] d=S37 a n b c d:=by kernel_rfl
def Rk (a:IV) (e:Hp) (f g:IV) (h:Hp) (b c:IV) (i:List IV→Hp→OH):OH :=
 Ac 2 a fun j=>BA j f e fun k _ _=>By EE 3 g (.fv (.int .i64 1)) fun d=>Bf (h.own.map (·.1)) [39851014,39854084] [b,c,a,d] k fun l=>i [b,c,a,d] l
def Sp (b:IV) (a:Hp) (c d:IV) (e:Hp) (f g:IV) (h:List IV→Hp→OH):OH :=
 Ac 2 b fun i=>Af i a fun j _=>Ai 3 c a fun k _=>AB (Aj EE 29 1 [(0,k)]) 39854083 a fun l m _ _=>AB (AY EE 39854084 false .append [29,29] [j,l]) 39854084 m fun n o _ _=>Rk b o n d e f g h
def R0 (a:Hp) (b c:IV) (d:Hp→OH):OH :=
 Ak 3 b c a fun e _ _=>d e
def Q6 (a:Hp) (b e f:IV) (g:Aa) (h:IV) (c:Hp→OH):OH :=
 Ab b true a (fun i=>AG e (.fv (.bool true)) f fun j=>i j a [] []) fun k d _ _=>AG b k (.fv (.bool false)) fun l=>Am l (Al [] false false g 24 [.fv (.int .i64 11),.nils] d fun m n _ _=>R0 n h m c) (c d)
def TM (d:Hp) (b h i:IV) (j:Aa) (k:IV) (l:Hp→OH):OH :=
 Ab b true d (fun m=>A5 EE 3 h (.fv (.int .i64 4)) fun n=>m n d [] []) fun o e _ _=>Ab b true e (fun p=>p o e [] []) fun a f _ _=>Ab a false f (fun q=>Ac 0 i fun r=>q r f [] []) fun s c _ _=>Ab a false c (fun t=>Af s c fun u v=>t u c v []) fun w g _ _=>Ab a false g (fun x=>A5 EE 3 w (.fv (.int .i64 7)) fun y=>x y g [] []) fun z A _ _=>Q6 A b a z j k l
def R8 (g:Hp) (a h i e:IV) (j:Hp) (b k:IV) (l:List IV→Hp→OH) (m:Aa):OH :=
 Ak 3 a h g fun f _ _=>(fun (n:Hp→OH)=>A5 EE 3 e (.fv (.int .i64 0)) fun c=>Ab c true f (fun o=>Ac 0 b fun p=>o p f [] []) fun q d _ _=>Ab c true d (fun r=>Af q d fun s t=>r s d t []) fun u v _ _=>TM v c u b m a n) fun w=>Sp i w a e j b k l
def SR (a:Hp) (d b:IV) (c:Aa) (e:IV) (f:Hp) (g h:IV) (i:List IV→Hp→OH):OH :=
 Af d a fun j _=>A7 3 j b fun k=>Ai 3 k a fun l _=>Al [] false false c 38 [l] a fun m n _ _=>AH 39851014 (.row [.fv (.int .i64 0),.fv (.int .i64 0),.nils] false) (.ptr (.own 39851014) 0) n fun o p _ _=>R8 p o m e b f g h i c
def TD (c:Aa) (d:Hp) (e f a:IV):OH :=
 Al [] false false c 50 [e,.fv (.int .i64 0),f] d fun g h i j=>Ad [] i j (Ak 3 a g h fun b k l=>Ad [] k l (Ax true 3 a b fun m=>An [m] b))
def Sv (d:IV) (a:Hp) (b:Aa) (e f:AI) (g:IV):OH :=
 A7 3 d (.fv (.int .i64 0)) fun h=>Ai 3 h a fun i c=>Ad [] c [] (Al [] false false b 24 [.fv (.int .i64 11),.nils] a fun j k l m=>Ad [(c,[]),(e,[]),(f,[])] l m (TD b k i j g))
def Sj (a:AI) (d:IV) (b:Hp) (e:Aa) (f:IV):OH :=
 Ad [] a [] (A7 3 d (.fv (.int .i64 1)) fun g=>Ac 2 g fun h=>Af h b fun i c=>Ad [] c [] (Sv i b e c a f))
def SZ (a:Hp) (d b:IV):OH :=
 Ai 3 d a fun e _=>Ak 3 b e a fun c _ _=>Ax true 3 b c fun f=>An [f] c
def RP (a:Hp) (b c:IV):OH :=
 Af b a fun d _=>A7 3 d (.fv (.int .i64 1)) fun e=>Ac 2 e fun f=>Af f a fun g _=>A7 3 g (.fv (.int .i64 0)) fun h=>SZ a h c
def R3 (c:Hp) (a d:IV):OH :=
 Ak 3 a d c fun b _ _=>Ax true 3 a b fun e=>An [e] b
def Si (b:Hp) (c:IV) (f:Aa) (g h d e:IV):OH :=
 Ab c true b (fun i=>Al [] false false f 37 [g,h] b i) fun j a k l=>Ad [] k l (AG c j (.fv (.bool false)) fun m=>Am m (Ac 2 d fun n=>RP a n e) (Ai 3 d a fun o _=>R3 a e o))
def RW (b:Hp) (a k:IV) (d e f g h i:AI) (l:Aa) (m n o:IV):OH :=
 Ab a true b (fun p=>Af k b fun q r=>p q b r []) fun s j t u=>Ad [(d,e),(f,g),(h,i)] t u (Ab a true j (fun v=>A7 3 s (.fv (.int .i64 0)) fun w=>v w j [] []) fun x c _ _=>Ab a true c (fun y=>Ai 3 x c fun z A=>y z c A []) fun B C D E=>Ad [(d,e),(f,g),(h,i)] D E (Si C a l m B n o))
def SE (c:Hp) (a d:IV) (e f g h i j:AI) (m:Aa) (n o:IV):OH :=
 Ab a true c (fun p=>Ac 2 d fun q=>p q c [] []) fun r b _ _=>Ab a true b (fun s=>Af r b fun t u=>s t b u []) fun v k w x=>Ad [(e,f),(g,h),(i,j)] w x (Ab a true k (fun y=>A7 3 v (.fv (.int .i64 2)) fun z=>y z k [] []) fun A l _ _=>Ab a true l (fun B=>Ac 2 A fun C=>B C l [] []) fun D E _ _=>RW E a D e f g h i j m n d o)
def SL (b:Hp) (a i j:IV) (k l:AI) (m:Aa) (n:IV):OH :=
 Ab a true b (fun o=>Af i b fun p q=>o p b q []) fun r d e f=>Ad [] e f (Ab a true d (fun s=>A7 3 r (.fv (.int .i64 0)) fun t=>s t d [] []) fun u c _ _=>Ab a true c (fun v=>Ai 3 u c fun w x=>v w c x []) fun y z g h=>Ad [] g h (SE z a j g h e f k l m y n))
def Ru (c:Hp) (a d:IV) (i:Aa) (j:IV):OH :=
 Ab a true c (fun k=>Ac 2 d fun l=>k l c [] []) fun m b _ _=>Ab a true b (fun n=>Af m b fun o p=>n o b p []) fun q e f g=>Ad [] f g (Ab a true e (fun r=>A7 3 q (.fv (.int .i64 1)) fun s=>r s e [] []) fun t h _ _=>Ab a true h (fun u=>Ac 2 t fun v=>u v h [] []) fun w x _ _=>SL x a w d f g i j)
def SU (c:Hp) (a e f:IV) (g:Aa) (h:IV):OH :=
 Ab a true c (fun i=>Ac 0 e fun j=>i j c [] []) fun k b _ _=>Ab a true b (fun l=>Af k b fun m n=>l m b n []) fun o d p q=>Ad [] p q (Ab a true d (fun r=>A5 EE 3 o (.fv (.int .i64 9)) fun s=>r s d [] []) fun t u _ _=>AG a t (.fv (.bool false)) fun v=>Ru u v f g h)
def Ug (f g:IV) (c:Hp) (d:IV) (h:Aa) (i:IV):OH :=
 AG f g (.fv (.bool false)) fun a=>Ab a true c (fun j=>Ac 2 d fun k=>j k c [] []) fun l b _ _=>Ab a true b (fun m=>Af l b fun n o=>m n b o []) fun p e q r=>Ad [] q r (Ab a true e (fun s=>A7 3 p (.fv (.int .i64 2)) fun t=>s t e [] []) fun u v _ _=>SU v a u d h i)
def Tq (c:Hp) (a f g:IV) (h:Aa) (i:IV):OH :=
 Ab a true c (fun j=>A7 3 f (.fv (.int .i64 1)) fun k=>j k c [] []) fun l d _ _=>Ab a true d (fun m=>Ac 0 l fun n=>m n d [] []) fun o b _ _=>Ab a true b (fun p=>Af o b fun q r=>p q b r []) fun s e t u=>Ad [] t u (Ab a true e (fun v=>A5 EE 3 s (.fv (.int .i64 8)) fun w=>v w e [] []) fun x y _ _=>Ug a x y g h i)
def Rp (e:AI) (f:IV) (c:Hp) (d:IV) (g:Aa) (h:IV):OH :=
 Ad [] e [] (A5 EE 3 f (.fv (.int .i64 7)) fun a=>Ab a true c (fun i=>Ac 2 d fun j=>i j c [] []) fun k b _ _=>Ab a true b (fun l=>Af k b fun m n=>l m b n []) fun o p q r=>Ad [] q r (Tq p a o d g h))
def Ty (e f b:IV) (a:Hp) (c:Aa) (d g:IV):OH :=
 AG e f (.fv (.bool false)) fun h=>Am h (Ac 2 b fun i=>Af i a fun j k=>Sj k j a c d) (Ac 0 g fun l=>Af l a fun m n=>Rp n m a b c d)
def RT (b:Hp) (a f:IV) (c:Aa) (g h i:IV):OH :=
 Ab a true b (fun j=>Ai 3 f b fun k l=>j k b l []) fun m d n o=>Ad [] n o (Ab a true d (fun p=>Al [] false false c 54 [m,.fv (.int .i64 0)] d p) fun q e r s=>Ad [] r s (Ab a true e (fun t=>CL (L5 .not q) fun u=>t u e [] []) fun v w _ _=>Ty a v g w c h i))
def Rf (c:Hp) (a f:IV) (g:Aa) (h i j:IV):OH :=
 Ab a true c (fun k=>A7 3 f (.fv (.int .i64 1)) fun l=>k l c [] []) fun m d _ _=>Ab a true d (fun n=>Ac 2 m fun o=>n o d [] []) fun p b _ _=>Ab a true b (fun q=>Af p b fun r s=>q r b s []) fun t e u v=>Ad [] u v (Ab a true e (fun w=>A7 3 t (.fv (.int .i64 0)) fun x=>w x e [] []) fun y z _ _=>RT z a y g h i j)
def Q8 (e f:AI) (g h:IV) (c:Hp) (d:IV) (i:Aa) (j k:IV):OH :=
 Ad [] e f (AG g h (.fv (.bool false)) fun a=>Ab a true c (fun l=>Ac 2 d fun m=>l m c [] []) fun n b _ _=>Ab a true b (fun o=>Af n b fun p q=>o p b q []) fun r s t u=>Ad [] t u (Rf s a r i d j k))
def RE (b:Hp) (a h:IV) (c:Aa) (i j k l:AI) (m n o:IV):OH :=
 Ab a true b (fun p=>Ai 3 h b fun q r=>p q b r []) fun s d e f=>Ad [] e f (Ab a true d (fun t=>Al [] false false c 26 [.fv (.int .i64 0)] d t) fun u g v w=>Ad [(e,f),(i,j),(k,l)] v w (Ab a true g (fun x=>Al [] false false c 37 [s,u] g x) fun y z A B=>Q8 A B a y z m c n o))
def Tt (c:Hp) (a h:IV) (i:Aa) (j k:AI) (l m n:IV):OH :=
 Ab a true c (fun o=>A7 3 h (.fv (.int .i64 1)) fun p=>o p c [] []) fun q d _ _=>Ab a true d (fun r=>Ac 2 q fun s=>r s d [] []) fun t b _ _=>Ab a true b (fun u=>Af t b fun v w=>u v b w []) fun x e f g=>Ad [] f g (Ab a true e (fun y=>A7 3 x (.fv (.int .i64 1)) fun z=>y z e [] []) fun A B _ _=>RE B a A i f g j k l m n)
def Q3 (c:Hp) (d i e:IV) (j:Aa) (k l:IV):OH :=
 Ab d true c (fun m=>A5 EE 3 i (.fv (.int .i64 5)) fun n=>m n c [] []) fun o f _ _=>AG d o (.fv (.bool false)) fun a=>Ab a true f (fun p=>Ac 2 e fun q=>p q f [] []) fun r b _ _=>Ab a true b (fun s=>Af r b fun t u=>s t b u []) fun v w g h=>Ad [] g h (Tt w a v j g h e k l)
def Rt (e f:AI) (c:Hp) (a g h:IV) (i:Aa) (j k:IV):OH :=
 Ad [] e f (Ab a true c (fun l=>A7 3 g (.fv (.int .i64 1)) fun m=>l m c [] []) fun n d _ _=>Ab a true d (fun o=>Ac 0 n fun p=>o p d [] []) fun q b _ _=>Ab a true b (fun r=>Af q b fun s t=>r s b t []) fun u v w x=>Ad [] w x (Q3 v a u h i j k))
def So (a:Hp) (e d:IV) (f:Aa) (g h:IV):OH :=
 Af e a fun i j=>Ad [] j [] (A5 EE 3 i (.fv (.int .i64 4)) fun b=>Ab b true a (fun k=>Ac 2 d fun l=>k l a [] []) fun m c _ _=>Ab b true c (fun n=>Af m c fun o p=>n o c p []) fun q r s t=>Rt s t r b q d f g h)
def SF (b:Hp) (g c a:IV) (d:Aa) (e:IV) (h:Hp) (f:IV) (i:List IV→Hp→OH):OH :=
 Af g b fun j _=>BS j fun k=>G8 EE 3 c k fun l=>Am l (Ac 2 a fun m=>SR b m c d e h a f i) (Ac 0 a fun n=>So b n e d f a)
def IN (b:List IV) (c:Hp) (d:Aa) (e:Hp) (f:List IV→Hp→OH):OH :=
 Av b fun a g=>Av g fun h i=>Av i fun j k=>Av k fun l _=>Ac 2 a fun m=>SF c m l a d j e h f
def S0 (e f:IV) (g b:Hp) (c d:IV) (n:Nat) (h:Aa):OH :=
 BC [.fv (.int .i64 0),.fv (.int .i64 0),.nils] [(0,1,e),(1,1,f)] fun i=>AH 39846917 (.row [.fv (.int .i64 0),.fv (.int .i64 0),.nils] false) (.ptr (.own 39846917) 0) g fun a j _ _=>Ak 3 a i j fun k _ _=>Bf (b.own.map (·.1)) [39851014,39854084] [c,d,a,.fv (.int .i64 0)] k fun l=>BF n (fun m o p=>IN o p h b m) [c,d,a,.fv (.int .i64 0)] l
def S38 (d:Aa) (n:Nat) (e:IV) (c:Hp):OH :=
 A2 39845888 e c fun a f _ _=>AH 39845889 (.row [.fv (.int .i64 0),.fv (.int .i64 0),.nils] false) (.ptr (.own 39845889) 0) f fun g b _ _=>Ac 0 a fun h=>Af h b fun i _=>Ac 1 a fun j=>Af j b fun k _=>S0 i k b c a g n d
theorem AoY (a:Aa) (n:Nat) (b:IV) (c:Hp):Aw EE a ft.get n 38 [b] c=S38 a n b c:=by kernel_rfl
def AhA (c:Hp) (a d:IV):OH :=
 Ak 4 a d c fun b _ _=>Ax true 4 a b fun e=>An [e] b
def AgN (c:Aa) (d:Hp) (e a:IV):OH :=
 Al [] false false c 56 [e] d fun f g _ _=>BC [.fv (.int .i64 0),.fv (.int .i64 0),.nils,.fv (.int .i64 0)] [(0,3,f)] fun h=>Ak 4 a h g fun b _ _=>Ax true 4 a b fun i=>An [i] b
def AgH (e:Hp) (f b c:IV) (g:Aa):OH :=
 AH 40895493 (.row [.fv (.int .i64 0),.fv (.int .i64 0),.nils] false) (.ptr (.own 40895493) 0) e fun d h _ _=>Ak 3 d f h fun a _ _=>Ha EE 37 b (.fv (.int .i64 0)) fun i=>Am i (BC [.fv (.int .i64 0),.fv (.int .i64 0),.nils,.fv (.int .i64 0)] [(3,1,b)] fun j=>AhA a c j) (Ai 3 d a fun k _=>AgN g a k c)
def S39 (a:Aa) (n:Nat) (d:IV) (e:Hp):OH :=
 A2 40894464 d e fun f g _ _=>AH 40894465 (.row [.fv (.int .i64 0),.fv (.int .i64 0),.nils,.fv (.int .i64 0)] false) (.ptr (.own 40894465) 0) g fun h b _ _=>Ai 3 f b fun i _=>Al [] false false a 55 [i] b fun c j _ _=>AO 0 c fun k=>AO 1 c fun l=>AgH j k l h a
theorem Aoz (a:Aa) (n:Nat) (b:IV) (c:Hp):Aw EE a ft.get n 39 [b] c=S39 a n b c:=by kernel_rfl
def Ain (a:Aa) (b:Hp) (c d:IV):OH :=
 Al [] false false a 57 [c,d] b fun e f _ _=>An [e] f
def S40 (b:Aa) (n:Nat) (c d:IV) (e:Hp):OH :=
 A2 41943040 c e fun f g _ _=>A2 41943041 d g fun h a _ _=>Ac 0 f fun i=>Ai 3 i a fun j _=>Ac 0 h fun k=>Ai 3 k a fun l _=>Ain b a j l
theorem Aqd (a:Aa) (n:Nat) (b c:IV) (d:Hp):Aw EE a ft.get n 40 [b,c] d=S40 a n b c d:=by kernel_rfl
def EF (c:Hp) (a:IV):OH :=
 BC [.fv (.int .i64 0),.fv (.int .i64 0),.nils] [] fun d=>Ak 3 a d c fun b _ _=>Ax true 3 a b fun e=>An [e] b
def ED (c:Aa) (d:Hp) (e a:IV):OH :=
 Al [] false false c 26 [e] d fun f g _ _=>Ak 3 a f g fun b _ _=>Ax true 3 a b fun h=>An [h] b
def EK (b c:IV) (a:Hp) (d:Aa) (e:IV):OH :=
 Bd EE 3 b (.fv (.int .i64 1)) fun f=>AF c fun g=>Ac 1 g fun h=>Af h a fun i _=>Bd EE 3 f i fun j=>ED d a j e
def EQ (h i:Hp) (a b c d e f g:IV) (j:List IV→Hp→OH):OH :=
 Bf (h.own.map (·.1)) [43011077,43013131] [a,b,c,d,e,f,g] i fun k=>j [a,b,c,d,e,f,g] k
def EJ (b c:AI) (a:IV) (d:Hp) (e f:IV) (g:Hp) (h i j k l:IV) (m:List IV→Hp→OH):OH :=
 Ad [] b c (Ac 2 a fun n=>BA n e d fun o p q=>Ad [] p q (By EE 3 f (.fv (.int .i64 1)) fun r=>EQ g o h i j k l a r m))
def EC (c:Aa) (d:Hp) (a e f g:IV) (b:AI) (h i j:IV) (k:Hp) (l m n o:IV) (p:List IV→Hp→OH):OH :=
 Al [true,false,false,false] false false c 41 [a,e,f,g] d fun q r s t=>Ad [(b,[])] s t (AB (Aj EE 29 1 [(0,q)]) 43013130 r fun u v w x=>Ad [(b,[])] w x (AB (AY EE 43013131 false .append [29,29] [h,u]) 43013131 v fun y z A B=>EJ A B i z y j k a l m n o p))
def Hj (a:IV) (b:Hp) (c f d:IV) (g:Aa) (h i j:IV) (k:Hp) (l m:IV) (n:List IV→Hp→OH):OH :=
 Ac 2 a fun o=>Af o b fun p e=>Ad [] e [] (By EE 3 c f fun q=>By EE 3 d (.fv (.int .i64 1)) fun r=>EC g b h i q r e p a j k l c d m n)
def ES (l m:Hp) (a b c d e f g h i j k:IV) (n:List IV→Hp→OH):OH :=
 Bf (l.own.map (·.1)) [43011077] [a,b,c,d,e,f,g,h,i,j,k] m fun o=>n [a,b,c,d,e,f,g,h,i,j,k] o
def Ez (b:IV) (c:Hp) (d:Aa) (e f:IV) (g:Hp) (h i j k l m n o p:IV) (q:List IV→Hp→OH):OH :=
 BC [.fv (.int .i64 0),.fv (.int .i64 0),.nils,.nils,.fv (.int .i64 0),.fv (.int .i64 0),.nils] [(0,1,.fv (.int .i64 1)),(1,1,b)] fun a=>fzS (LN true 43011077 a) 43011077 a c fun r s _ _=>AB (Aj EE 87 1 [(0,r)]) 43011078 s fun t u _ _=>Al [] false false d 58 [e,t] u fun v w _ _=>By EE 3 f (.fv (.int .i64 1)) fun x=>ES g w h i j k l m n o p v x q
def EU (c:IV) (a:Hp) (d:Aa) (b e:IV) (f:IV→IV→IV→IV→IV→IV→IV→IV→IV→Hp→OH) (g h i j k l m:IV):OH :=
 Ac 4 c fun n=>Ai 3 n a fun o _=>Al [true,false,false] false false d 42 [b,o,e] a fun p q _ _=>f b g h i j k l m p q
def Ew (n:List IV) (a b:IV) (d:Hp) (e:Aa) (f:IV) (o:Hp) (g h i j k l m:IV) (p:List IV→Hp→OH) (q:IV→IV→IV→IV→IV→IV→IV→IV→IV→Hp→OH):OH :=
 Av n fun c _=>G8 EE 3 c a fun r=>Am r (By EE 3 b c fun s=>Ez s d e f c o g h b i j k l a m p) (AF m fun t=>EU t d e g f q h b i j k l a)
def EH (a:List IV) (b:IV) (c:Hp) (d:Aa) (e:Hp) (f g h i:IV) (j:List IV→Hp→OH) (k:IV→IV→IV→IV→IV→IV→IV→IV→IV→Hp→OH):OH :=
 Av a fun l m=>Av m fun n o=>Av o fun p q=>Av q fun r s=>Av s fun t u=>Ew u p b c d t e f g h i l n r j k
def He (a:List IV) (b:Hp) (c:Aa) (d:Hp) (e:List IV→Hp→OH) (f:IV→IV→IV→IV→IV→IV→IV→IV→IV→Hp→OH):OH :=
 Av a fun g h=>Av h fun i j=>Av j fun k l=>Av l fun m n=>Av n fun o p=>EH p k b c d g i m o e f
def Ey (a:Hp) (m:IV) (b:Hp) (c d e f g h i j k:IV) (n:Nat) (o:Aa) (p:IV→IV→IV→IV→IV→IV→IV→IV→IV→Hp→OH):OH :=
 Af m a fun l _=>Bf (b.own.map (·.1)) [43011077] [c,d,e,f,g,h,i,j,k,l,.fv (.int .i64 0)] a fun q=>BF n (fun r s t=>He s t o b r p) [c,d,e,f,g,h,i,j,k,l,.fv (.int .i64 0)] q
def EI (l a:IV) (b m:Hp) (c d e f g h i j:IV) (n:Nat) (o:Aa) (k:IV→IV→IV→IV→IV→IV→IV→IV→IV→Hp→OH):OH :=
 Am l (AF a fun p=>Ac 3 p fun q=>Ey b q m c d e f g h i j a n o k) (k c d e f g h i j a b)
def EP (a:Hp) (f b:IV) (c:Aa) (d:Hp) (g:List IV→Hp→OH) (e h i j k l m:IV) (n:Nat):OH :=
 Af f a fun o _=>A7 1 o b fun p=>Af p a fun q _=>(fun (r:IV→IV→IV→IV→IV→IV→IV→IV→IV→Hp→OH)=>Mj EE 3 e (.fv (.int .i64 0)) fun s=>EI s q a d h i j k l m b e n c r) fun t u v w x y z A B C=>Hj y C v A w c t B z d u x g
def Et (e:IV) (a:Hp) (b:Aa) (c d:IV) (f:Hp) (g:List IV→Hp→OH) (h i j k l:IV) (n:Nat):OH :=
 Ac 0 e fun m=>Af m a fun o _=>Al [] false false b 51 [o,c] a fun p q _ _=>AF d fun r=>Ac 2 r fun s=>EP q s c b f g p h d i j k l n
def Es (c:Hp) (a d:IV):OH :=
 Ak 3 a d c fun b _ _=>Ax true 3 a b fun e=>An [e] b
def EL (f b c:IV) (a:Hp) (g:Aa) (h:Hp) (i:List IV→Hp→OH) (j k l d e:IV) (n:Nat):OH :=
 BS f fun m=>G8 EE 3 b m fun o=>Am o (AF c fun p=>Et p a g b c h i j k l d e n) (Ai 3 e a fun q _=>Es a d q)
def EV (c:List IV) (a:IV) (b:Hp) (d:Aa) (e:Hp) (f:List IV→Hp→OH) (g h i j:IV) (n:Nat):OH :=
 Av c fun k l=>Av l fun m _=>AF a fun o=>Ac 2 o fun p=>Af p b fun q _=>EL q m a b d e f g h i j k n
def Fg (a:List IV) (b:Hp) (c:Aa) (d:Hp) (e:List IV→Hp→OH) (n:Nat):OH :=
 Av a fun f g=>Av g fun h i=>Av i fun j k=>Av k fun l m=>Av m fun o p=>EV p h b c d e f j l o n
def EG (h i j k:AI) (l:Hp) (a m:IV) (b:Hp) (c d e f g:IV) (n:Nat) (o:Aa):OH :=
 Ad [(j,[]),(k,[])] h i (Ak 3 a m l fun p q r=>Ad [] q r (Bf (b.own.map (·.1)) [43011077,43013131] [c,d,e,f,g,a,.fv (.int .i64 0)] p fun s=>BF n (fun t u v=>Fg u v o b t n) [c,d,e,f,g,a,.fv (.int .i64 0)] s))
def Eu (d:IV) (a:Hp) (b:AI) (e:IV) (f:Hp) (g h i j k:IV) (n:Nat) (l:Aa):OH :=
 Ac 1 d fun m=>Af m a fun o c=>Ad [(b,[])] c [] (BC [.fv (.int .i64 0),.fv (.int .i64 0),.nils] [(0,1,e),(1,1,o)] fun p=>AH 42999817 (.row [.fv (.int .i64 0),.fv (.int .i64 0),.nils] false) (.ptr (.own 42999817) 0) a fun q r s t=>EG s t c b r q p f g h i j k n l)
def EW (a:IV) (b d:Hp) (e f g h:IV) (n:Nat) (i:Aa):OH :=
 AF a fun j=>Ac 0 j fun k=>Af k b fun l c=>Ad [] c [] (AF a fun m=>Eu m b c l d e a f g h n i)
def ET (a:IV) (b:Hp) (c:IV) (d:Aa) (e:IV) (f:Hp) (g h:IV) (n:Nat):OH :=
 AF a fun i=>Ac 0 i fun j=>Af j b fun k _=>A5 EE 3 k (.fv (.int .i64 1)) fun l=>Am l (EK c a b d e) (EW a b f g c h e n d)
def EN (b:IV) (a:Hp) (c d e:IV) (f:Aa) (g:Hp) (h:IV) (n:Nat):OH :=
 AF b fun i=>Ac 2 i fun j=>Af j a fun k _=>Ha EE 3 k (.fv (.int .i64 0)) fun l=>Am l (EF a c) (ET d a e f c g b h n)
def EM (a:IV) (b:Hp) (c:Hp→OH):OH :=
 Ac 2 a fun d=>BA d (.fv (.int .i64 5)) b fun e _ _=>c e
def Er (a:Hp) (b e f g:IV) (c:Hp→OH):OH :=
 Ab b true a (fun h=>AG e (.fv (.bool true)) f fun i=>h i a [] []) fun j d _ _=>AG b j (.fv (.bool false)) fun k=>Am k (AF g fun l=>EM l d c) (c d)
def Ep (b:Hp) (a h i j:IV) (k:Hp→OH):OH :=
 Ab a true b (fun l=>Af h b fun m n=>l m b n []) fun o d _ _=>Ab a true d (fun p=>Mj EE 3 o (.fv (.int .i64 3000)) fun q=>p q d [] []) fun r e _ _=>Ab a true e (fun s=>s r e [] []) fun c f _ _=>Ab c false f (fun t=>t i f [] []) fun u g _ _=>Ab c false g (fun v=>Mj EE 3 u (.fv (.int .i64 120)) fun w=>v w g [] []) fun x y _ _=>Er y a c x j k
def EB (b:Hp) (f c g:IV) (h:Hp→OH):OH :=
 Af f b fun i _=>A5 EE 3 i (.fv (.int .i64 0)) fun a=>Ab a true b (fun j=>j c b [] []) fun k d _ _=>Ab a true d (fun l=>AF k fun m=>l m d [] []) fun n e _ _=>Ab a true e (fun o=>Ac 1 n fun p=>o p e [] []) fun q r _ _=>Ep r a q g c h
def EO (c:IV) (d:Hp) (e a f g h:IV) (i:Aa) (j:Hp) (b:IV) (n:Nat):OH :=
 Ac 1 c fun k=>BA k e d fun l _ _=>(fun (m:Hp→OH)=>AF a fun o=>Ac 2 o fun p=>EB l p a b m) fun q=>EN a q f g h i j b n
def S41 (d:Aa) (n:Nat) (a e f g:IV) (b:Hp):OH :=
 AH 42991616 (.row [.fv (.int .i64 0),.fv (.int .i64 0),.nils] false) (.ptr (.own 42991616) 0) b fun h c _ _=>AF a fun i=>Ac 1 i fun j=>Af j c fun k _=>By EE 3 k (.fv (.int .i64 1)) fun l=>AF a fun m=>EO m c l a h e f d b g n
theorem Apo (a:Aa) (n:Nat) (b c d e:IV) (f:Hp):Aw EE a ft.get n 41 [b,c,d,e] f=S41 a n b c d e f:=by kernel_rfl
def Ij (a:Hp):OH :=
 BC [.fv (.int .i64 0),.fv (.int .i64 0),.nils,.nils,.fv (.int .i64 0),.fv (.int .i64 0),.nils] [(0,1,.fv (.int .i64 11))] fun b=>A2 44042241 b a fun c d _ _=>An [c] d
def IU (a:Hp) (b:IV):OH :=
 Af b a fun c _=>An [c] a
def IK (b c:IV) (a:Hp) (d:IV):OH :=
 Bd EE 3 b (.fv (.int .i64 1)) fun e=>Ac 1 c fun f=>Af f a fun g _=>Bd EE 3 e g fun h=>A7 1 d h fun i=>IU a i
def I7 (a:Hp) (b:IV):OH :=
 A2 44046343 b a fun c d _ _=>An [c] d
def IG (b c:IV) (a:Hp):OH :=
 Bd EE 3 b (.fv (.int .i64 1)) fun d=>Ac 1 c fun e=>Af e a fun f _=>Bd EE 3 d f fun g=>BC [.fv (.int .i64 0),.fv (.int .i64 0),.nils,.nils,.fv (.int .i64 0),.fv (.int .i64 0),.nils] [(0,1,.fv (.int .i64 1)),(1,1,g)] fun h=>I7 a h
def I8 (b:Hp) (d a c:IV):OH :=
 Af d b fun e _=>BS a fun f=>G8 EE 3 e f fun g=>Am g (BS a fun h=>IK h c b a) (BS a fun i=>IG i c b)
def IW (f:IV) (g h:Hp) (a b c d:IV) (i:List IV→Hp→OH):OH :=
 By EE 3 f (.fv (.int .i64 1)) fun e=>Bf (g.own.map (·.1)) [44052492,44052494,44053518] [a,b,c,d,e] h fun j=>i [a,b,c,d,e] j
def I5 (a:IV) (b:Hp) (c:IV) (d:Hp→OH):OH :=
 AF a fun e=>Ac 2 e fun f=>BA f c b fun g h i=>Ad [] h i (d g)
def Jm (b c a:AI) (d:Hp) (e f g:IV) (h:Hp→OH):OH :=
 Ad [(a,[])] b c (AB (Aj EE 87 1 [(0,e)]) 44052493 d fun i j k l=>Ad [(a,[])] k l (AB (AY EE 44052494 false .append [87,87] [f,i]) 44052494 j fun m n o p=>Ad [] o p (I5 g n m h)))
def I2 (c d:IV) (a:Hp) (b:AI) (e f g:IV) (h:Hp→OH):OH :=
 A7 3 c d fun i=>Ai 3 i a fun j k=>Ad [(b,[])] k [] (BC [.fv (.int .i64 0),.fv (.int .i64 0),.nils,.nils,.fv (.int .i64 0),.fv (.int .i64 0),.nils] [(3,1,e),(4,3,j)] fun l=>A2 44052492 l a fun m n o p=>Jm o p b n m f g h)
def IJ (a:Hp) (c d e f g:IV) (h:Hp→OH):OH :=
 Af c a fun i b=>Ad [] b [] (Ac 2 d fun j=>Af j a fun k l=>Ad [(b,[])] l [] (I2 k e a b f i g h))
def Iq (a:IV) (b:Hp) (c:IV) (d:Hp→OH):OH :=
 Ac 2 a fun e=>BA e c b fun f g h=>Ad [] g h (d f)
def IB (a:Hp) (b:IV) (c:AI) (d e:IV) (f:Hp→OH):OH :=
 AB (Aj EE 87 1 [(0,b)]) 44053517 a fun g h i j=>Ad [(c,[])] i j (AB (AY EE 44053518 false .append [87,87] [d,g]) 44053518 h fun k l m n=>Ad [] m n (AF e fun o=>Iq o l k f))
def Ji (c d:IV) (b:Hp) (a:AI) (e:Aa) (f g h i:IV) (j:Hp→OH):OH :=
 A7 3 c d fun k=>Ai 3 k b fun l m=>Ad [(a,[])] m [] (Al [true,false,false] false false e 42 [f,l,g] b fun n o p q=>Ad [(a,[])] p q (IB o n a h i j))
def Jc (a:Hp) (c d e:IV) (f:Aa) (g h i:IV) (j:Hp→OH):OH :=
 Af c a fun k b=>Ad [] b [] (Ac 2 d fun l=>Af l a fun m n=>Ad [(b,[])] n [] (Ji m e a b f g h k i j))
def Jk (g a:IV) (b:Hp) (c d e:IV) (f:Hp→OH) (h:Aa) (i:IV):OH :=
 Am g (AF a fun j=>Ac 2 j fun k=>IJ b k c d e a f) (AF a fun l=>Ac 2 l fun m=>Jc b m c d h i e a f)
def In (a:IV) (h:Hp) (c d b e:IV) (i:List IV→Hp→OH) (f:Hp) (g:Aa):OH :=
 (fun (j:Hp→OH)=>Ac 0 b fun k=>Af k f fun l _=>Al [] false false g 51 [l,a] f fun m n _ _=>Mj EE 3 m (.fv (.int .i64 0)) fun o=>Jk o e n b a d j g c) fun p=>IW a h p c d b e i
def I6 (a:Aa) (b:Hp) (c d:IV):OH :=
 Al [true,false] false false a 59 [c,d] b fun e f _ _=>An [e] f
def It (b:IV) (a:Hp) (c:IV) (g:Hp) (d h e:IV) (i:List IV→Hp→OH) (f:Aa):OH :=
 Ac 2 b fun j=>Af j a fun k _=>BS k fun l=>G8 EE 3 c l fun m=>Am m (In c g d h b e i a f) (I6 f a d e)
def Aat (a:List IV) (b c:Hp) (d:List IV→Hp→OH) (e:Aa):OH :=
 Av a fun f g=>Av g fun h i=>Av i fun j k=>Av k fun l m=>Av m fun n _=>It j b n c f h l d e
def IQ (a f:Hp) (b c d e:IV) (n:Nat) (g:Aa):OH :=
 Bf (a.own.map (·.1)) [44052492,44052494,44053518] [b,c,d,e,.fv (.int .i64 0)] f fun h=>BF n (fun i j k=>Aat j k a i g) [b,c,d,e,.fv (.int .i64 0)] h
def Jn (a:Hp) (c b:IV) (d:Hp) (e f:IV) (n:Nat) (g:Aa):OH :=
 Af c a fun h _=>Ac 1 b fun i=>Af i a fun j _=>BC [.fv (.int .i64 0),.fv (.int .i64 0),.nils,.nils,.fv (.int .i64 0),.fv (.int .i64 0),.nils] [(0,1,h),(1,1,j)] fun k=>A2 44047365 k a fun l m _ _=>IQ d m e f b l n g
def ID (a:IV) (b:Hp) (c:IV) (d:Hp) (e:IV) (n:Nat) (f:Aa):OH :=
 Ac 0 a fun g=>Af g b fun h _=>A5 EE 3 h (.fv (.int .i64 1)) fun i=>Am i (Ac 1 a fun j=>I8 b j c a) (Ac 0 a fun k=>Jn b k a d e c n f)
def S42 (d:Aa) (n:Nat) (b e f:IV) (c:Hp):OH :=
 A2 44040192 e c fun g a _ _=>AF b fun h=>Ac 2 h fun i=>Af i a fun j _=>Ha EE 3 j (.fv (.int .i64 0)) fun k=>Am k (Ij a) (ID g a f c b n d)
theorem ApG (a:Aa) (n:Nat) (b c d:IV) (e:Hp):Aw EE a ft.get n 42 [b,c,d] e=S42 a n b c d e:=by kernel_rfl
def S43 (j:Aa) (n:Nat) (e b:IV) (c:Hp):OH :=
 CS EE 3 .rem e b fun a=>(fun (d:IV→Hp→OH)=>G8 EE 3 a (.fv (.int .i64 0)) fun f=>Am f (By EE 3 a b fun g=>d g c) (d a c)) fun h i=>An [h] i
theorem AnU (a:Aa) (n:Nat) (b c:IV) (d:Hp):Aw EE a ft.get n 43 [b,c] d=S43 a n b c d:=by kernel_rfl
def S44 (c:Aa) (n:Nat) (d:Hp):OH :=
 AH 46137344 (.row [.fv (.int .i64 0),.fv (.int .i64 0),.nils] false) (.ptr (.own 46137344) 0) d fun a e _ _=>Al [] false false c 24 [.fv (.int .i64 10),.nils] e fun f g _ _=>Ak 3 a f g fun b _ _=>Ax true 3 a b fun h=>An [h] b
theorem AmH (a:Aa) (n:Nat) (b:Hp):Aw EE a ft.get n 44 [] b=S44 a n b:=by kernel_rfl
def S45 (h:Aa) (n:Nat) (c:IV) (d:Hp):OH :=
 AH 47185920 (.row [.fv (.int .i64 0),.fv (.int .i64 0),.nils] false) (.ptr (.own 47185920) 0) d fun a e _ _=>BC [.fv (.int .i64 0),.fv (.int .i64 0),.nils] [(0,1,.fv (.int .i64 2)),(1,1,c)] fun f=>Ak 3 a f e fun b _ _=>Ax true 3 a b fun g=>An [g] b
theorem ApE (a:Aa) (n:Nat) (b:IV) (c:Hp):Aw EE a ft.get n 45 [b] c=S45 a n b c:=by kernel_rfl
def Xk (d e:IV) (a:Hp) (b:IV):OH :=
 A7 3 d e fun f=>Ai 3 f a fun g _=>Ak 3 b g a fun c _ _=>Ax true 3 b c fun h=>An [h] c
def WU (c d e:IV) (f:Hp) (a:IV):OH :=
 CS EE 3 .mul (.fv (.int .i64 7)) c fun g=>By EE 3 d g fun h=>BC [.fv (.int .i64 0),.fv (.int .i64 0),.nils] [(0,1,e),(1,1,h)] fun i=>Ak 3 a i f fun b _ _=>Ax true 3 a b fun j=>An [j] b
def V8 (c a d:IV) (b:Hp) (e:IV):OH :=
 CS EE 3 .quo c (.fv (.int .i64 3)) fun f=>By EE 3 f a fun g=>Ac 1 d fun h=>Af h b fun i _=>CS EE 3 .quo i (.fv (.int .i64 5)) fun j=>WU a j g b e
def WF (e b:IV) (a:Hp) (c d:IV):OH :=
 Am e (Ac 2 b fun f=>Af f a fun g _=>Xk g c a d) (Ac 0 b fun h=>Af h a fun i _=>V8 i c b a d)
def S46 (l:Aa) (n:Nat) (d a:IV) (e:Hp):OH :=
 A2 48234496 d e fun b f _ _=>AH 48234497 (.row [.fv (.int .i64 0),.fv (.int .i64 0),.nils] false) (.ptr (.own 48234497) 0) f fun g c _ _=>Ac 2 b fun h=>Af h c fun i _=>BS i fun j=>G8 EE 3 a j fun k=>WF k b c a g
theorem Aow (a:Aa) (n:Nat) (b c:IV) (d:Hp):Aw EE a ft.get n 46 [b,c] d=S46 a n b c d:=by kernel_rfl
def R1 (h:IV) (i j:Hp) (a b c d e f:IV) (k:List IV→Hp→OH):OH :=
 By EE 3 h (.fv (.int .i64 1)) fun g=>Bf (i.own.map (·.1)) [49289232,49291267] [a,b,c,d,e,f,g] j fun l=>k [a,b,c,d,e,f,g] l
def Sk (a:Hp) (b c:IV) (d:IV→Hp→OH):OH :=
 AB (Aj EE 92 1 [(0,b)]) 49291266 a fun e f _ _=>AB (AY EE 49291267 false .append [92,92] [c,e]) 49291267 f fun g h _ _=>d g h
def RG (f g:AI) (a:Hp) (b:IV) (h:Aa) (i j k c:IV) (d:IV→Hp→OH):OH :=
 Ad [] f g (Ab b true a (fun l=>Al [] false false h 37 [i,j] a l) fun m e n o=>Ad [] n o (AG b m (.fv (.bool false)) fun p=>Am p (Sk e k c d) (d c e)))
def S6 (d:Hp) (a:IV) (b:Aa) (h i:IV) (j k:AI) (l m:IV) (n:IV→Hp→OH):OH :=
 Ab a true d (fun o=>Al [] false false b 38 [h] d o) fun p c e f=>Ad [] e f (Ab a true c (fun q=>Ai 3 i c fun r s=>q r c s []) fun t g u v=>Ad [(e,f),(j,k)] u v (Ab a true g (fun w=>Al [] false false b 38 [t] g w) fun x y z A=>RG z A y a b p x l m n))
def RR (f:Hp) (g h:IV) (i:Aa) (j k l:IV) (m:IV→Hp→OH):OH :=
 AH 49289232 (.row [.fv (.int .i64 0),.fv (.int .i64 0),.nils] false) (.ptr (.own 49289232) 0) f fun b n _ _=>Ak 3 b g n fun a _ _=>A5 EE 3 h (.fv (.int .i64 0)) fun c=>Ab c true a (fun o=>Ai 3 b a fun p q=>o p a q []) fun r s d e=>Ad [] d e (S6 s c i r j d e k l m)
def RO (b:IV) (a:Aa) (d:Hp) (e f g:IV) (h:IV→Hp→OH):OH :=
 By EE 3 b (.fv (.int .i64 1)) fun i=>Al [] false false a 25 [e,i,.fv (.int .i64 0)] d fun j k _ _=>Al [] false false a 17 [j] k fun c l _ _=>AO 0 c fun m=>AO 1 c fun n=>RR l m n a f b g h
def RB (c a d:IV) (b:Hp) (e:Aa) (f g:IV) (h:IV→Hp→OH):OH :=
 Bd EE 3 c (.fv (.int .i64 1)) fun i=>Bd EE 3 i a fun j=>A7 4 d j fun k=>Ac 1 k fun l=>Ai 3 l b fun m _=>RO a e b m f g h
def Tz (e:IV) (a:Hp) (f:IV) (b:IV→Hp→OH) (c d g:IV) (h:Aa) (i:IV):OH :=
 Ac 0 e fun j=>Af j a fun k _=>Ha EE 3 k f fun l=>Am l (b c a) (BS d fun m=>RB m g d a h i c b)
def Rv (b:IV) (e:Hp) (a c f d g:IV) (h:List IV→Hp→OH) (i:Hp) (j:IV) (k:Aa):OH :=
 (fun (l:IV→Hp→OH)=>BS a fun m=>Bd EE 3 m (.fv (.int .i64 1)) fun n=>Bd EE 3 n b fun o=>A7 4 a o fun p=>Tz p i c l j a b k d) fun q r=>R1 b e r a c f d g q h
def TS (c:Hp) (a d:IV):OH :=
 Ak 3 a d c fun b _ _=>Ax true 3 a b fun e=>An [e,.fv (.bool false)] b
def SH (a:Hp) (b:IV):OH :=
 Ax true 3 b a fun c=>An [c,.fv (.bool true)] a
def Rz (a:Aa) (d:Hp) (e f g b:IV):OH :=
 Al [] false false a 43 [e,f] d fun h c _ _=>A7 1 g h fun i=>Af i c fun j _=>Al [] false false a 26 [j] c fun k l _ _=>Ak 3 b k l fun m _ _=>SH m b
def R9 (a:IV) (b:Hp) (c:IV) (d:Aa) (e:IV):OH :=
 BS a fun f=>A5 EE 3 f (.fv (.int .i64 0)) fun g=>Am g (BC [.fv (.int .i64 0),.fv (.int .i64 0),.nils] [] fun h=>TS b c h) (BS a fun i=>Rz d b e i a c)
def Ue (h:List IV) (a:IV) (i:Hp) (j b k c:IV) (l:List IV→Hp→OH) (d:Hp) (e:Aa):OH :=
 Av h fun f m=>Av m fun g _=>BS a fun n=>G8 EE 3 g n fun o=>Am o (Rv g i a j b k c l d f e) (R9 f d c e b)
def Zq (a:List IV) (b:Hp) (c:List IV→Hp→OH) (d:Hp) (e:Aa):OH :=
 Av a fun f g=>Av g fun h i=>Av i fun j k=>Av k fun l m=>Av m fun n o=>Ue o f b h j l n c d e
def S47 (g:Aa) (n:Nat) (b c h d:IV) (a:Hp):OH :=
 A2 49283072 h a fun e i _ _=>AH 49283073 (.row [.fv (.int .i64 0),.fv (.int .i64 0),.nils] false) (.ptr (.own 49283073) 0) i fun f j _ _=>Bf (a.own.map (·.1)) [49289232,49291267] [b,c,d,e,f,.nils,.fv (.int .i64 0)] j fun k=>BF n (fun l m o=>Zq m a l o g) [b,c,d,e,f,.nils,.fv (.int .i64 0)] k
theorem AnQ (a:Aa) (n:Nat) (b c d e:IV) (f:Hp):Aw EE a ft.get n 47 [b,c,d,e] f=S47 a n b c d e f:=by kernel_rfl
def KJ (c d:IV) (e:Hp) (a f:IV):OH :=
 AG c d (.fv (.bool false)) fun g=>Ak 3 a f e fun b _ _=>Ax true 3 a b fun h=>An [h,g] b
def LS (d:Hp) (e f g:IV) (a:Aa) (b h i:IV):OH :=
 AB (Aj EE 29 3 [(0,e),(1,f),(2,g)]) 50337795 d fun j k _ _=>Al [] false false a 24 [.fv (.int .i64 7),j] k fun l m _ _=>AB (Aj EE 29 1 [(0,l)]) 50337797 m fun n o _ _=>Al [] false false a 24 [.fv (.int .i64 8),n] o fun p c _ _=>Ab b true c (fun q=>q h c [] []) fun r s _ _=>KJ b r s i p
def KY (c:Hp) (b d e f:IV) (g:Aa) (h i j:IV):OH :=
 Ak 3 b d c fun a k l=>Ad [] k l (Ai 3 b a fun m _=>Ai 3 e a fun n _=>Ai 3 f a fun o _=>LS a m n o g h i j)
def KQ (a b:AI) (c:Aa) (f:Hp) (g:IV) (h i j k:AI) (l m n o p:IV):OH :=
 Ad [] a b (Al [] false false c 24 [.fv (.int .i64 6),g] f fun q r d e=>Ad [] d e (AH 50336773 (.row [.fv (.int .i64 0),.fv (.int .i64 0),.nils] false) (.ptr (.own 50336773) 0) r fun s t u v=>Ad [(d,e),(a,b),(h,i),(j,[]),(k,[])] u v (KY t s q l m c n o p)))
def K4 (b:Hp) (g:IV) (a:AI) (c:Aa) (h i j k l m:IV):OH :=
 Ai 3 g b fun n d=>Ad [(a,[])] d [] (Al [] false false c 25 [n,.fv (.int .i64 1),.fv (.int .i64 0)] b fun o p e f=>Ad [(a,[])] e f (AB (Aj EE 29 2 [(0,h),(1,o)]) 50336771 p fun q r s t=>KQ s t c r q e f d a i j k l m))
def Ku (d e f g h i j k:AI) (l:Hp) (a m n o:IV) (p:Aa) (q r s t:IV):OH :=
 Ad [(f,g),(h,i),(j,[]),(k,[])] d e (Ak 3 a m l fun b u v=>Ad [] u v (Ai 3 n b fun w c=>Ad [] c [] (K4 b o c p w a q r s t)))
def Lf (a:Aa) (e:Hp) (f g h i:IV) (j k l m:AI) (n o p q r:IV):OH :=
 Al [] false false a 23 [f,g,h,i] e fun b s c d=>Ad [] c d (AO 0 b fun t=>AO 1 b fun u=>AH 50335754 (.row [.fv (.int .i64 0),.fv (.int .i64 0),.nils] false) (.ptr (.own 50335754) 0) s fun v w x y=>Ku x y c d j k l m w v t n o a p q u r)
def Li (b:Hp) (g:IV) (a:AI) (c:Aa) (h i j k l m n o:IV):OH :=
 Ai 3 g b fun p d=>Ad [(a,[])] d [] (Al [] false false c 46 [p,.fv (.int .i64 2)] b fun q r e f=>Ad [(a,[])] e f (Bd EE 3 h (.fv (.int .i64 2)) fun s=>Lf c r i j q s e f d a k l m n o))
def L3 (c:Hp) (a d e:IV):OH :=
 Ak 3 a d c fun b f g=>Ad [] f g (Ax true 3 a b fun h=>An [h,e] b)
def L2 (c d:AI) (e:Aa) (f:Hp) (g a h i:IV):OH :=
 Ad [] c d (Al [] false false e 24 [.fv (.int .i64 5),g] f fun j b k l=>Ad [] k l (Ab a true b (fun m=>m h b [] []) fun n o _ _=>AG a n (.fv (.bool false)) fun p=>L3 o i j p))
def LP (a:Aa) (e:Hp) (f g:IV) (h i j k:AI) (l m n:IV):OH :=
 Al [] false false a 24 [.fv (.int .i64 4),f] e fun o b c d=>Ad [] c d (Ai 3 g b fun p q=>Ad [(c,d),(h,i),(j,[]),(k,[])] q [] (AB (Aj EE 29 2 [(0,o),(1,p)]) 50339845 b fun r s t u=>L2 t u a s r l m n))
def Kz (a:AI) (b:Hp) (f g:IV) (h:Aa) (i j k l:IV):OH :=
 Ad [] a [] (Ai 3 f b fun m c=>Ad [(a,[])] c [] (AB (Aj EE 29 2 [(0,g),(1,m)]) 50339842 b fun n o d e=>Ad [] d e (LP h o n i d e c a j k l)))
def Lw (c:Hp) (d e f g h i j k l m n:AI) (o p:IV) (q:Aa) (r s t u:IV):OH :=
 AH 50338829 (.row [.fv (.int .i64 0),.fv (.int .i64 0),.nils] false) (.ptr (.own 50338829) 0) c fun a v w x=>Ad [(d,e),(f,g),(h,[]),(i,j),(k,[]),(l,m),(n,[])] w x (Ak 3 a o v fun b y z=>Ad [] y z (Ai 3 p b fun A B=>Kz B b a A q r s t u))
def Ll (e:IV) (a:Aa) (f:Hp) (g h i:IV) (j k l m n o p q r:AI) (s t u v:IV):OH :=
 Bd EE 3 e (.fv (.int .i64 2)) fun w=>Al [] false false a 23 [g,h,i,w] f fun b x c d=>Ad [] c d (AO 0 b fun y=>AO 1 b fun z=>Lw x c d j k l m n o p q r y s a t u z v)
def K8 (a b:AI) (c:Hp) (l:IV) (d e f g:AI) (h:Aa) (m n o p q r s:IV):OH :=
 Ad [] a b (Ai 3 l c fun t i=>Ad [(a,b),(d,[]),(e,f),(g,[])] i [] (Al [] false false h 46 [t,.fv (.int .i64 2)] c fun u v j k=>Ad [] j k (Ll m h v n o u j k i a b d e f g p q r s)))
def KI (a:Aa) (g:Hp) (h i j:IV) (d:AI) (k l m n o p:IV):OH :=
 Al [] false false a 22 [h,.fv (.int .i64 1),i] g fun q e b c=>Ad [] b c (Ai 3 j e fun r f=>Ad [(b,c),(d,[])] f [] (Al [] false false a 25 [r,.fv (.int .i64 1),.fv (.int .i64 0)] e fun s t u v=>K8 u v t k f b c d a l q s m n o p))
def J9 (m:IV) (a:Hp) (b d:IV) (e:Aa) (f g c h i j:IV):OH :=
 A5 EE 3 m (.fv (.int .i64 0)) fun n=>Am n (Ai 3 b a fun o k=>Ad [] k [] (Li a d k e f g o b c h i j)) (Ai 3 c a fun p l=>Ad [] l [] (KI e a g p b l d f c h i j))
def Kh (e:Hp) (a f b:IV) (c:Aa) (g h i j k l:IV):OH :=
 Ak 3 a f e fun d m n=>Ad [] m n (Ac 1 b fun o=>Af o d fun p _=>Al [] false false c 43 [p,.fv (.int .i64 3)] d fun q r _ _=>J9 q r g b c h i j a k l)
def KP (a b:AI) (c:IV) (d:Hp) (e f g h:AI) (i:IV) (j:Aa) (k l m n o:IV):OH :=
 Ad [] a b (AO 0 c fun p=>AO 1 c fun q=>AH 50333706 (.row [.fv (.int .i64 0),.fv (.int .i64 0),.nils] false) (.ptr (.own 50333706) 0) d fun r s t u=>Ad [(a,b),(e,f),(g,[]),(h,[])] t u (Kh s r p i j k l m n q o))
def Ln (c a:AI) (b:Aa) (h:Hp) (i d e j k l m n:IV):OH :=
 Ad [(a,[])] c [] (Al [] false false b 46 [i,.fv (.int .i64 1)] h fun o p f g=>Ad [(a,[])] f g (Bd EE 3 d (.fv (.int .i64 2)) fun q=>Al [] false false b 23 [e,j,o,q] p fun r s t u=>KP t u r s f g c a k b l d e m n))
def LX (e:Hp) (f c:IV) (g:Aa) (h i j k:IV):OH :=
 AH 50332676 (.row [.fv (.int .i64 0),.fv (.int .i64 0),.nils] false) (.ptr (.own 50332676) 0) e fun a l _ _=>Ak 3 a f l fun b _ _=>Ai 3 a b fun m d=>Ad [] d [] (Ai 3 c b fun n o=>Ln o d g b n h i m c j a k)
def S48 (a:Aa) (n:Nat) (b e f g:IV) (h:Hp):OH :=
 A2 50331648 e h fun i j _ _=>A2 50331649 f j fun c k _ _=>AH 50331650 (.row [.fv (.int .i64 0),.fv (.int .i64 0),.nils] false) (.ptr (.own 50331650) 0) k fun l d _ _=>Ai 3 c d fun m _=>Al [] false false a 46 [m,.fv (.int .i64 0)] d fun o p _ _=>Al [] false false a 21 [b,o,.fv (.int .i64 1)] p fun q r _ _=>LX r q c a g b i l
theorem Anx (a:Aa) (n:Nat) (b c d e:IV) (f:Hp):Aw EE a ft.get n 48 [b,c,d,e] f=S48 a n b c d e f:=by kernel_rfl
def Ael (b c:AI) (a:Hp) (d e:IV):OH :=
 Ad [] b c (Ax true 3 d a fun f=>An [f,e] a)
def Abf (a:Hp) (b f g c h:IV):OH :=
 Ab b true a (fun i=>i f a [] []) fun j d _ _=>AG b j (.fv (.bool false)) fun e=>Ab e true d (fun k=>k g d [] []) fun l m _ _=>AG e l (.fv (.bool false)) fun n=>Ak 3 c h m fun o p q=>Ael p q o c n
def ZU (a b c d e f:AI) (g:Hp) (h i j k:IV) (l:Aa) (m n o p:IV):OH :=
 Ad [(b,[]),(c,[]),(d,e),(f,[])] a [] (AB (Aj EE 29 4 [(0,h),(1,i),(2,j),(3,k)]) 51385349 g fun q r s t=>Ad [] s t (Al [] false false l 24 [.fv (.int .i64 13),q] r fun u v w x=>Ad [] w x (Abf v m n o p u)))
def Z7 (a:Hp) (g:IV) (b c d:AI) (h i j:IV) (k:Aa) (l m n o:IV):OH :=
 Ai 3 g a fun p e=>Ad [(b,c),(d,[])] e [] (Ai 3 h a fun q f=>Ad [(e,[]),(b,c),(d,[])] f [] (Ai 3 i a fun r s=>ZU s f e b c d a j p q r k l m n o))
def XW (f g:AI) (a:Hp) (h:IV) (b:Aa) (i j k l m n o:IV):OH :=
 Ad [] f g (Ai 3 h a fun p c=>Ad [] c [] (Al [] false false b 25 [p,.fv (.int .i64 1),.fv (.int .i64 0)] a fun q r d e=>Ad [] d e (Z7 r i d e c j k q b l m n o)))
def Ab6 (a:IV) (c:Hp) (d e f g h i j k l m n o p q r s t:AI) (u:IV) (v:Aa) (w x y z A:IV):OH :=
 AO 0 a fun B=>AO 1 a fun C=>AH 51384336 (.row [.fv (.int .i64 0),.fv (.int .i64 0),.nils] false) (.ptr (.own 51384336) 0) c fun b D E F=>Ad [(d,e),(f,g),(h,[]),(i,j),(k,[]),(l,m),(n,o),(p,[]),(q,r),(s,t)] E F (Ak 3 b B D fun G H I=>XW H I G u v w b x y z C A)
def ZZ (a:Aa) (f:Hp) (g h i j:IV) (k l m n o p q r s t u v w:AI) (x y z A B C:IV):OH :=
 Al [] false false a 46 [g,.fv (.int .i64 2)] f fun D E b c=>Ad [] b c (Bd EE 3 h (.fv (.int .i64 2)) fun F=>Al [] false false a 23 [i,j,D,F] E fun G H d e=>Ad [] d e (Ab6 G H d e b c k l m n o p q r s t u v w x a y z A B C))
def Ac9 (a b c d e f g h i j:AI) (m:Aa) (p:Hp) (q r s t u v w x y z:IV):OH :=
 Ad [(b,c),(d,e),(f,[]),(g,h),(i,j)] a [] (Al [] false false m 25 [q,.fv (.int .i64 2),.fv (.int .i64 0)] p fun A n k l=>Ad [] k l (Ai 3 r n fun B o=>Ad [(k,l),(a,[]),(b,c),(d,e),(f,[]),(g,h),(i,j)] o [] (ZZ m n B s t A o k l a b c d e f g h i j u v w x y z)))
def AbL (a:Aa) (h:Hp) (i j b:IV) (k l m n o:AI) (p q r s t u v:IV):OH :=
 Al [] false false a 25 [i,.fv (.int .i64 1),.fv (.int .i64 0)] h fun w x c d=>Ad [] c d (Al [] false false a 22 [j,.fv (.int .i64 1),w] x fun y e f g=>Ad [] f g (Ai 3 b e fun z A=>Ac9 A f g c d k l m n o a e z p q y b r s t u v))
def Adg (a b:AI) (e:Aa) (i:Hp) (j k f l m n o p q r:IV):OH :=
 Ad [] a b (Al [] false false e 22 [j,.fv (.int .i64 1),k] i fun s g c d=>Ad [] c d (Ai 3 f g fun t h=>Ad [(c,d),(a,b)] h [] (AbL e g t s f h c d a b l m n o p q r)))
def AdW (c:Hp) (d e f g h i:AI) (j:IV) (a:Aa) (k l m n o p q r:IV):OH :=
 AH 51383306 (.row [.fv (.int .i64 0),.fv (.int .i64 0),.nils] false) (.ptr (.own 51383306) 0) c fun b s t u=>Ad [(d,e),(f,g),(h,[]),(i,[])] t u (Ak 3 b j s fun v w x=>Ad [] w x (Al [] false false a 44 [] v fun y z A B=>Adg A B a z k y l m n b o p q r))
def YZ (a:IV) (b:Aa) (g:Hp) (c h i:IV) (j k l m:AI) (n o p q r:IV):OH :=
 Bd EE 3 a (.fv (.int .i64 2)) fun s=>Al [] false false b 23 [c,h,i,s] g fun d t e f=>Ad [] e f (AO 0 d fun u=>AO 1 d fun v=>AdW t e f j k l m u b c n o a p q v r)
def Ab1 (a:AI) (b:Hp) (c:IV) (d:Aa) (h i j k l m n:IV):OH :=
 Ad [] a [] (Ai 3 c b fun o e=>Ad [(a,[])] e [] (Al [] false false d 46 [o,.fv (.int .i64 1)] b fun p q f g=>Ad [(a,[])] f g (YZ h d q i j p f g e a k c l m n)))
def AdR (d:Hp) (e f g h i j k:AI) (l a m:IV) (n:Aa) (o p q r:IV):OH :=
 AH 51382282 (.row [.fv (.int .i64 0),.fv (.int .i64 0),.nils] false) (.ptr (.own 51382282) 0) d fun b s t u=>Ad [(e,f),(g,h),(i,[]),(j,k)] t u (Ak 3 b l s fun c v w=>Ad [] v w (Ai 3 a c fun x y=>Ab1 y c m n o p x a b q r))
def Yy (a:IV) (b:Aa) (g:Hp) (c h i:IV) (j k l m n:AI) (o p q:IV):OH :=
 Bd EE 3 a (.fv (.int .i64 2)) fun r=>Al [] false false b 23 [c,h,i,r] g fun d s e f=>Ad [] e f (AO 0 d fun t=>AO 1 d fun u=>AdR s e f j k l m n t o p b a c u q)
def AcP (a b:AI) (c:Hp) (d:IV) (e:Aa) (i j k l m:IV):OH :=
 Ad [] a b (Ai 3 d c fun n f=>Ad [(a,b)] f [] (Al [] false false e 46 [n,.fv (.int .i64 0)] c fun o p g h=>Ad [] g h (Yy i e p j k o g h f a b l d m)))
def Aa7 (c:Aa) (d:Hp) (e a f:IV):OH :=
 Al [] false false c 24 [.fv (.int .i64 12),e] d fun g h _ _=>Ak 3 a g h fun b _ _=>Ax true 3 a b fun i=>An [i,f] b
def Zu (c d e f g h i j:AI) (k:Hp) (a l:IV) (m:Aa) (n o:IV):OH :=
 Ad [(e,f),(g,h),(i,[]),(j,[])] c d (Ak 3 a l k fun b p q=>Ad [] p q (Ai 3 a b fun r _=>AB (Aj EE 29 1 [(0,r)]) 51390465 b fun s t _ _=>Aa7 m t s n o))
def YW (a:Aa) (e:Hp) (f g h i:IV) (j k l m:AI) (n:IV):OH :=
 Al [] false false a 23 [f,g,h,i] e fun b o c d=>Ad [] c d (AO 0 b fun p=>AO 1 b fun q=>AH 51389450 (.row [.fv (.int .i64 0),.fv (.int .i64 0),.nils] false) (.ptr (.own 51389450) 0) o fun r s t u=>Zu t u c d j k l m s r p a n q)
def AcM (b:Hp) (g:IV) (a:AI) (c:Aa) (h i j k:IV):OH :=
 Ai 3 g b fun l d=>Ad [(a,[])] d [] (Al [] false false c 46 [l,.fv (.int .i64 0)] b fun m n e f=>Ad [(a,[])] e f (Bd EE 3 h (.fv (.int .i64 1)) fun o=>YW c n i j m o e f d a k))
def Aak (a:Aa) (d:Hp) (e b:IV):OH :=
 Al [] false false a 43 [e,.fv (.int .i64 4)] d fun f g _ _=>Al [] false false a 29 [f] g fun h i _ _=>Ak 3 b h i fun c _ _=>Ax true 3 b c fun j=>An [j,.fv (.bool true)] c
def AcC (f:IV) (a:Hp) (g b:IV) (c:Aa) (h i d:IV):OH :=
 Am f (Ai 3 g a fun j e=>Ad [] e [] (AcM a b e c h i j d)) (Ac 1 b fun k=>Af k a fun l _=>Aak c a l d)
def Yk (c:Hp) (a d:IV) (e:Aa) (h i j k:IV):OH :=
 Ab a true c (fun l=>Ac 0 d fun m=>l m c [] []) fun n b _ _=>Ab a true b (fun o=>Af n b fun p q=>o p b q []) fun r f _ _=>Ab a true f (fun s=>Al [] false false e 43 [r,.fv (.int .i64 2)] f s) fun t g _ _=>Ab a true g (fun u=>A5 EE 3 t (.fv (.int .i64 1)) fun v=>u v g [] []) fun w x _ _=>AG a w (.fv (.bool false)) fun y=>AcC y x h d e i j k
def Aba (c d:IV) (e:Hp) (a f:IV):OH :=
 AG c d (.fv (.bool false)) fun g=>Ak 3 a f e fun b h i=>Ad [] h i (Ax true 3 a b fun j=>An [j,g] b)
def Yv (c:Hp) (d e:IV) (f g h:AI) (i:Aa) (j a k l:IV):OH :=
 AB (Aj EE 29 2 [(0,d),(1,e)]) 51396614 c fun m n o p=>Ad [(f,g),(h,[])] o p (Al [] false false i 24 [j,m] n fun q b r s=>Ad [] r s (Ab a true b (fun t=>t k b [] []) fun u v _ _=>Aba a u v l q))
def Ze (f:IV) (a:Hp) (g:IV) (b c d:AI) (h:IV) (i:Aa) (j k l:IV):OH :=
 By EE 3 (.fv (.int .i64 16)) f fun m=>Ai 3 g a fun n e=>Ad [(b,c),(d,[])] e [] (Ai 3 h a fun o p=>Ad [(e,[]),(b,c),(d,[])] p [] (Yv a n o b c d i m j k l))
def Zb (f:IV) (a:Hp) (b:Aa) (g h i j k:IV):OH :=
 Ac 1 f fun l=>Af l a fun m c=>Ad [] c [] (Al [] false false b 43 [m,.fv (.int .i64 2)] a fun n o d e=>Ad [] d e (Ze n o g d e c h b i j k))
def Abr (b:IV) (c:Hp) (d e f g h i:AI) (j k:IV) (l:Aa) (m n o:IV):OH :=
 AO 1 b fun p=>AH 51395594 (.row [.fv (.int .i64 0),.fv (.int .i64 0),.nils] false) (.ptr (.own 51395594) 0) c fun a q r s=>Ad [(d,e),(f,g),(h,[]),(i,[])] r s (Ak 3 a j q fun t u v=>Ad [] u v (Zb k t l m a n p o))
def Acj (a b c:AI) (h:IV) (d:Aa) (i:Hp) (j k l:IV) (m:AI) (n o p q:IV):OH :=
 Ad [(c,[])] a b (Bd EE 3 h (.fv (.int .i64 1)) fun r=>Al [] false false d 23 [j,k,l,r] i fun e s f g=>Ad [] f g (AO 0 e fun t=>Abr e s f g a b m c t n d o p q))
def Zn (a:Hp) (f c:IV) (d:Aa) (g h i j k:IV):OH :=
 Ai 3 f a fun l b=>Ad [] b [] (Ai 3 c a fun m e=>Ad [(b,[])] e [] (Al [] false false d 46 [m,.fv (.int .i64 1)] a fun n o p q=>Acj p q b g d o h l n e c i j k))
def Abp (b:IV) (c:Hp) (d e f g h i:AI) (j k l:IV) (m:Aa) (n o p:IV):OH :=
 AO 1 b fun q=>AH 51394570 (.row [.fv (.int .i64 0),.fv (.int .i64 0),.nils] false) (.ptr (.own 51394570) 0) c fun a r s t=>Ad [(d,e),(f,g),(h,[]),(i,[])] s t (Ak 3 a j r fun u v w=>Ad [] v w (Zn u k l m n o a q p))
def AaW (a b c:AI) (d:IV) (e:Aa) (j:Hp) (f k l:IV) (m:AI) (n o p:IV):OH :=
 Ad [(c,[])] a b (Bd EE 3 d (.fv (.int .i64 1)) fun q=>Al [] false false e 23 [f,k,l,q] j fun g r h i=>Ad [] h i (AO 0 g fun s=>Abp g r h i a b m c s n o e d f p))
def Abb (a:Hp) (c d:IV) (e:Aa) (g h i:IV):OH :=
 Ai 3 c a fun j b=>Ad [] b [] (Ai 3 d a fun k f=>Ad [(b,[])] f [] (Al [] false false e 46 [k,.fv (.int .i64 0)] a fun l m n o=>AaW n o b g e m h j l f c d i))
def AbJ (c:Aa) (d:Hp) (a:IV):OH :=
 Al [] false false c 24 [.fv (.int .i64 15),.nils] d fun e f _ _=>Ak 3 a e f fun b _ _=>Ax true 3 a b fun g=>An [g,.fv (.bool true)] b
def Aao (b:Hp) (a h:IV) (c:Aa) (i j k l d:IV):OH :=
 Ab a true b (fun m=>Af h b fun n o=>m n b o []) fun p e _ _=>Ab a true e (fun q=>Al [] false false c 43 [p,.fv (.int .i64 5)] e q) fun r f _ _=>Ab a true f (fun s=>Mj EE 3 r (.fv (.int .i64 1)) fun t=>s t f [] []) fun u g _ _=>AG a u (.fv (.bool false)) fun v=>Am v (Abb g i j c k l d) (AbJ c g d)
def Yh (c:IV) (d:Aa) (e:Hp) (a:IV):OH :=
 Bd EE 3 c (.fv (.int .i64 1)) fun f=>Al [] false false d 45 [f] e fun g h _ _=>Ak 3 a g h fun b _ _=>Ax true 3 a b fun i=>An [i,.fv (.bool true)] b
def ZS (a:Hp) (b c:IV):OH :=
 Ax true 3 b a fun d=>An [d,c] a
def Zo (d e:AI) (a:Hp) (b f c g:IV):OH :=
 Ad [] d e (Ab b true a (fun h=>h f a [] []) fun i j _ _=>AG b i (.fv (.bool false)) fun k=>Ak 3 c g j fun l m n=>Ad [] m n (ZS l c k))
def AdM (a:Hp) (e:IV) (f b c d:AI) (g:IV) (h:Aa) (i j k l:IV):OH :=
 Ai 3 e a fun m n=>Ad [(f,[]),(b,[]),(c,d)] n [] (AB (Aj EE 29 2 [(0,g),(1,m)]) 51404807 a fun o p q r=>Ad [(b,[]),(c,d)] q r (Al [] false false h 24 [i,o] p fun s t u v=>Zo u v t j k l s))
def AcR (f g:IV) (a:Hp) (h:IV) (c d:AI) (i:IV) (j:Aa) (k l m:IV):OH :=
 A7 1 f g fun n=>Af n a fun o b=>Ad [] b [] (Ai 3 h a fun p e=>Ad [(b,[]),(c,d)] e [] (AdM a i e b c d p j o k l m))
def Ac7 (d:Hp) (a e f g:IV) (h:Aa) (i j k:IV):OH :=
 Ak 3 a e d fun l m n=>Ad [] m n (AB (Aj EE 92 2 [(0,.fv (.int .i64 3)),(1,.fv (.int .i64 6))]) 51404800 l fun o p b c=>Ad [] b c (Bd EE 3 f (.fv (.int .i64 2)) fun q=>AcR o q p g b c a h i j k))
def Acp (a b:AI) (c:IV) (d:Hp) (e f g h i j k:AI) (l m:IV) (n:Aa) (o p:IV):OH :=
 Ad [] a b (AO 0 c fun q=>AO 1 c fun r=>AH 51403788 (.row [.fv (.int .i64 0),.fv (.int .i64 0),.nils] false) (.ptr (.own 51403788) 0) d fun s t u v=>Ad [(a,b),(e,f),(g,[]),(h,[]),(i,j),(k,[])] u v (Ac7 t s q l m n o r p))
def AcO (c a d e f:AI) (b:Aa) (i:Hp) (j k l m n o p q:IV):OH :=
 Ad [(a,[]),(d,e),(f,[])] c [] (Al [] false false b 46 [j,.fv (.int .i64 1)] i fun r s g h=>Ad [(a,[])] g h (Bd EE 3 k (.fv (.int .i64 1)) fun t=>Al [] false false b 23 [l,m,r,t] s fun u v w x=>Acp w x u v g h c a d e f n o b p q))
def Abz (d:Aa) (g:Hp) (h i j:IV) (e:AI) (k l m n o p:IV):OH :=
 Al [] false false d 22 [h,.fv (.int .i64 1),i] g fun q a b c=>Ad [] b c (Ai 3 j a fun r f=>Ad [(b,c),(e,[])] f [] (Ai 3 k a fun s t=>AcO t f b c e d a s l q r m n o p))
def Aas (d e f g h i j k:AI) (l:Hp) (a m:IV) (n:Aa) (o p q r s t u:IV):OH :=
 Ad [(f,g),(h,i),(j,[]),(k,[])] d e (Ak 3 a m l fun b v w=>Ad [] v w (Ai 3 a b fun x c=>Ad [] c [] (Abz n b o x p c q r s a t u)))
def Aad (a:Aa) (f:Hp) (b g h i:IV) (j k l m:AI) (n o p q r:IV):OH :=
 Al [] false false a 23 [b,g,h,i] f fun c s d e=>Ad [] d e (AO 0 c fun t=>AO 1 c fun u=>AH 51402762 (.row [.fv (.int .i64 0),.fv (.int .i64 0),.nils] false) (.ptr (.own 51402762) 0) s fun v w x y=>Aas x y d e j k l m w v t a b n o p q u r)
def AaN (b:Hp) (c:IV) (a:AI) (d:Aa) (e i j k l m:IV):OH :=
 Ai 3 c b fun n f=>Ad [(a,[])] f [] (Al [] false false d 46 [n,.fv (.int .i64 0)] b fun o p g h=>Ad [(a,[])] g h (Bd EE 3 e (.fv (.int .i64 1)) fun q=>Aad d p i j o q g h f a k c e l m))
def AcT (a:Hp) (b:IV):OH :=
 Ax true 3 b a fun c=>An [c,.fv (.bool true)] a
def AcX (c d:IV) (a:Hp) (b:IV):OH :=
 A7 3 c d fun e=>Ai 3 e a fun f g=>Ad [] g [] (Ak 3 b f a fun h i j=>Ad [] i j (AcT h b))
def AdN (d:IV) (a:Hp) (b c e f g h i j k l m n:AI) (o:Aa) (p q:IV):OH :=
 Ac 1 d fun r=>Af r a fun s t=>Ad [(b,c),(e,f),(g,h),(i,j),(k,l),(m,n)] t [] (Al [] false false o 43 [s,.fv (.int .i64 3)] a fun u v w x=>Ad [(b,c)] w x (AcX p u v q))
def Z8 (a b:AI) (c:Aa) (h:Hp) (i j k l:IV) (m n o p q r:AI) (s:IV):OH :=
 Ad [] a b (Al [] false false c 24 [.fv (.int .i64 18),i] h fun t u d e=>Ad [] d e (AB (Aj EE 29 3 [(0,j),(1,k),(2,t)]) 51405829 u fun v w f g=>Ad [] f g (AdN l w f g d e a b m n o p q r c v s)))
def AdU (a:Aa) (f:Hp) (g h:IV) (i j:AI) (k:IV):OH :=
 Al [] false false a 24 [.fv (.int .i64 14),.nils] f fun l m b c=>Ad [] b c (Al [] false false a 24 [.fv (.int .i64 15),.nils] m fun n o d e=>Ad [] d e (AB (Aj EE 29 1 [(0,n)]) 51405827 o fun p q r s=>Z8 r s a q p g l h d e b c i j k))
def Yc (i:IV) (a:Hp) (c d:IV) (b:Aa) (j k l e:IV):OH :=
 Am i (Ai 3 c a fun m f=>Ad [] f [] (AaN a d f b j k m c l e)) (Al [] false false b 44 [] a fun n o g h=>Ad [] g h (AdU b o n d g h e))
def AdZ (b:Aa) (g:Hp) (h c i j k l:IV):OH :=
 Al [] false false b 43 [h,.fv (.int .i64 4)] g fun d e _ _=>Mj EE 3 c (.fv (.int .i64 0)) fun a=>Ab a true e (fun m=>m d e [] []) fun n f _ _=>Ab a true f (fun o=>Mj EE 3 n (.fv (.int .i64 1)) fun p=>o p f [] []) fun q r _ _=>AG a q (.fv (.bool false)) fun s=>Yc s r i j b c k d l
def AdS (f b:IV) (a:Hp) (c:Aa) (d e g h:IV):OH :=
 Mj EE 3 f (.fv (.int .i64 0)) fun i=>Am i (Ac 1 b fun j=>Af j a fun k _=>Yh k c a d) (Ac 0 e fun l=>Af l a fun m _=>AdZ c a m g b e h d)
def AdK (i b:IV) (a:Hp) (c:IV) (e:Aa) (d f g:IV):OH :=
 Am i (Mj EE 3 b (.fv (.int .i64 0)) fun h=>Ab h true a (fun j=>Ac 0 c fun k=>j k a [] []) fun l m _ _=>Aao m h l e d c b f g) (Ac 1 d fun n=>Af n a fun o _=>AdS o d a e g c b f)
def AcZ (a:Hp) (i b c:IV) (d:Aa) (e f g:IV):OH :=
 Af i a fun h _=>A5 EE 3 h (.fv (.int .i64 10)) fun j=>Am j (Mj EE 3 b (.fv (.int .i64 0)) fun k=>Yk a k c d e b f g) (A5 EE 3 h (.fv (.int .i64 14)) fun l=>AdK l b a c d e f g)
def YP (c:Hp) (d j:IV) (a:Aa) (e f g b h:IV):OH :=
 Ab d true c (fun k=>Ha EE 3 j (.fv (.int .i64 2)) fun l=>k l c [] []) fun m i _ _=>AG d m (.fv (.bool false)) fun n=>Am n (Al [] false false a 44 [] i fun o p q r=>AcP q r p e a f g o b h) (Ac 0 b fun s=>AcZ i s f e a b g h)
def AcK (d:Hp) (a:IV) (e:Aa) (i f j k l m:IV):OH :=
 Ab a true d (fun n=>Al [] false false e 43 [i,.fv (.int .i64 5)] d n) fun o g _ _=>Ab a true g (fun p=>A5 EE 3 o (.fv (.int .i64 4)) fun q=>p q g [] []) fun r h _ _=>AG a r (.fv (.bool false)) fun b=>Ab b true h (fun s=>Ac 0 f fun t=>s t h [] []) fun u c _ _=>Ab b true c (fun v=>Af u c fun w x=>v w c x []) fun y z _ _=>YP z b y e j k l f m
def S49 (f:Aa) (n:Nat) (g h i c:IV) (j:Hp):OH :=
 A2 51380224 h j fun k l _ _=>A2 51380225 i l fun d m _ _=>AH 51380226 (.row [.fv (.int .i64 0),.fv (.int .i64 0),.nils] false) (.ptr (.own 51380226) 0) m fun o e _ _=>Mj EE 3 c (.fv (.int .i64 0)) fun a=>Ab a true e (fun p=>Ac 0 d fun q=>p q e [] []) fun r b _ _=>Ab a true b (fun s=>Af r b fun t u=>s t b u []) fun v w _ _=>AcK w a f v k d c g o
theorem AmE (a:Aa) (n:Nat) (b c d e:IV) (f:Hp):Aw EE a ft.get n 49 [b,c,d,e] f=S49 a n b c d e f:=by kernel_rfl
def Air (c:Hp) (a d:IV):OH :=
 Ak 3 a d c fun b _ _=>Ax true 3 a b fun e=>An [e] b
def S50 (b:Aa) (n:Nat) (c d e:IV) (f:Hp):OH :=
 A2 52428800 c f fun g h _ _=>A2 52428801 e h fun i j _ _=>AH 52428802 (.row [.fv (.int .i64 0),.fv (.int .i64 0),.nils] false) (.ptr (.own 52428802) 0) j fun k a _ _=>Ai 3 g a fun l _=>Ai 3 i a fun m _=>Al [] false false b 60 [l,d,.fv (.int .i64 0),m] a fun o p _ _=>Air p k o
theorem An2 (a:Aa) (n:Nat) (b c d:IV) (e:Hp):Aw EE a ft.get n 50 [b,c,d] e=S50 a n b c d e:=by kernel_rfl
def Afm (b:IV) (a:Hp) (c:Hp→OH):OH :=
 A5 EE 3 b (.fv (.int .i64 0)) fun d=>Am d (An [.fv (.int .i64 1)] a) (A5 EE 3 b (.fv (.int .i64 2)) fun e=>Am e (An [.fv (.int .i64 2)] a) (c a))
def AgW (d c:IV) (a:Hp) (b:Hp→OH) (e:IV):OH :=
 Am d (A5 EE 3 c (.fv (.int .i64 1)) fun f=>Am f (An [.fv (.int .i64 1)] a) (b a)) (A5 EE 3 e (.fv (.int .i64 13)) fun g=>Am g (Afm c a b) (b a))
def AfK (a:IV) (b:IV→Hp→OH) (c:Hp):OH :=
 A5 EE 3 a (.fv (.int .i64 29)) fun d=>b d c
def Agm (a:IV) (b:IV→Hp→OH) (c:Hp):OH :=
 A5 EE 3 a (.fv (.int .i64 20)) fun d=>Am d (b d c) (A5 EE 3 a (.fv (.int .i64 28)) fun e=>Am e (b e c) (AfK a b c))
def AiW (c:IV) (a:IV→Hp→OH) (b:Hp) (d:IV):OH :=
 Am c (a c b) (A5 EE 3 d (.fv (.int .i64 6)) fun e=>Am e (a e b) (Agm d a b))
def S51 (k:Aa) (n:Nat) (a e:IV) (b:Hp):OH :=
 (fun (f:Hp→OH)=>(fun (c:IV→Hp→OH)=>A5 EE 3 a (.fv (.int .i64 3)) fun d=>Am d (c d b) (A5 EE 3 a (.fv (.int .i64 4)) fun g=>AiW g c b a)) fun h i=>AgW h e i f a) fun j=>An [.fv (.int .i64 0)] j
theorem AoT (a:Aa) (n:Nat) (b c:IV) (d:Hp):Aw EE a ft.get n 51 [b,c] d=S51 a n b c d:=by kernel_rfl
def L1 (b:Aa) (c:Hp) (a d e f:IV) (g:List IV→Hp→OH) (h i:IV):OH :=
 Al [true,false,false] false false b 52 [a,d,e] c fun _ j _ _=>By EE 3 f (.fv (.int .i64 1)) fun k=>g [a,h,i,k] j
def Lu (b:IV) (a:Hp) (c d:IV) (e:Aa) (f:IV) (g:List IV→Hp→OH):OH :=
 Ac 2 b fun h=>Af h a fun i _=>A7 3 i c fun j=>Ai 3 j a fun k _=>By EE 3 d (.fv (.int .i64 1)) fun l=>L1 e a f k l c g d b
def Lv (c:Hp) (a f g h i:IV) (j:Aa) (k:IV) (l:List IV→Hp→OH):OH :=
 Ab a true c (fun m=>Ac 1 f fun n=>m n c [] []) fun o b _ _=>Ab a true b (fun p=>Af o b fun q r=>p q b r []) fun s d _ _=>Ab a true d (fun t=>A5 EE 3 s (.fv (.int .i64 0)) fun u=>t u d [] []) fun v e _ _=>AG a v (.fv (.bool false)) fun w=>Am w (Lu g e h i j k l) (An [] e)
def KW (a:Hp) (f c d g h:IV) (i:Aa) (j:List IV→Hp→OH):OH :=
 Af f a fun k _=>BS k fun l=>G8 EE 3 c l fun b=>Ab b true a (fun m=>m d a [] []) fun n e _ _=>Ab b true e (fun o=>AF n fun p=>o p e [] []) fun q r _ _=>Lv r b q g c h i d j
def KT (b:List IV) (c:Hp) (d:Aa) (e:List IV→Hp→OH):OH :=
 Av b fun f g=>Av g fun h i=>Av i fun a j=>Av j fun k _=>Ac 2 a fun l=>KW c l k f a h d e
def K5 (n:Nat) (a:Hp) (b c d:IV) (e:Aa):OH :=
 BF n (fun f g h=>KT g h e f) [b,c,d,.fv (.int .i64 0)] a
def K6 (a:Hp) (b:IV) (c:Hp→OH):OH :=
 BA b (.fv (.int .i64 5)) a fun d _ _=>c d
def Lq (a:IV) (b:Hp) (c:Hp→OH):OH :=
 Ac 1 a fun d=>BA d (.fv (.int .i64 1)) b fun e _ _=>c e
def LO (e f:AI) (a:Hp) (b g h:IV) (c:Hp→OH):OH :=
 Ad [] e f (Ab b false a (fun i=>CL (L5 .not g) fun j=>i j a [] []) fun k d _ _=>AG b (.fv (.bool true)) k fun l=>Am l (AF h fun m=>Lq m d c) (c d))
def Ke (c d:AI) (e:Hp) (a g:IV) (h:Aa) (i j:IV) (k:Hp→OH):OH :=
 Ad [] c d (Ab a false e (fun l=>Ac 1 g fun m=>l m e [] []) fun n b _ _=>Ab a false b (fun o=>Af n b fun p q=>o p b q []) fun r f s t=>Ad [(c,d)] s t (Ab a false f (fun u=>Al [] false false h 62 [i,r] f u) fun v w x y=>LO x y w a v j k))
def Ky (e f g h:AI) (i j:IV) (c:Hp) (d:IV) (k:Aa) (l:IV) (m:Hp→OH):OH :=
 Ad [(f,g),(h,[])] e [] (BS i fun n=>Ha EE 3 j n fun a=>Ab a false c (fun o=>Ac 0 d fun p=>o p c [] []) fun q b _ _=>Ab a false b (fun r=>Af q b fun s t=>r s b t []) fun u v w x=>Ke w x v a d k u l m)
def KC (a:AI) (b:Aa) (g:Hp) (h c i:IV) (j:Hp→OH):OH :=
 Ad [] a [] (Al [] false false b 61 [h] g fun k d e f=>Ad [] e f (Ac 2 c fun l=>Af l d fun m n=>Ky n e f a m k d c b i j))
def KM (e b:IV) (a:Hp) (c:Hp→OH) (d:IV) (f:Aa):OH :=
 Am e (AF b fun g=>Ac 1 g fun h=>K6 a h c) (Ac 0 d fun i=>Af i a fun j k=>KC k f a j d b c)
def Kv (a:Hp) (d e f:IV) (g:Hp→OH) (h:IV) (i:Aa):OH :=
 Af d a fun j _=>Mj EE 3 j (.fv (.int .i64 3000)) fun b=>Ab b false a (fun k=>k e a [] []) fun l c _ _=>Ab b false c (fun m=>Mj EE 3 l (.fv (.int .i64 120)) fun n=>m n c [] []) fun o p _ _=>AG b (.fv (.bool true)) o fun q=>KM q f p g h i
def KB (e:IV) (f:Hp) (g:IV) (n:Nat) (a b c:IV) (d:Aa):OH :=
 Ac 0 e fun h=>BA h g f fun i _ _=>(fun (j:Hp→OH)=>AF a fun k=>Ac 0 k fun l=>Kv i l b a j c d) fun m=>K5 n m a b c d
def S52 (c:Aa) (n:Nat) (a d e:IV) (f:Hp):OH :=
 A2 54525952 d f fun g b _ _=>AF a fun h=>Ac 0 h fun i=>Af i b fun j _=>By EE 3 j (.fv (.int .i64 1)) fun k=>AF a fun l=>KB l b k n a e g c
theorem AoC (a:Aa) (n:Nat) (b c d:IV) (e:Hp):Aw EE a ft.get n 52 [b,c,d] e=S52 a n b c d e:=by kernel_rfl
def AbW (a:Hp) (b c:IV):OH :=
 Ax true 3 b a fun d=>An [d,c] a
def Acu (a:Hp) (b f g c h:IV):OH :=
 Ab b true a (fun i=>i f a [] []) fun j d _ _=>AG b j (.fv (.bool false)) fun e=>Ab e true d (fun k=>k g d [] []) fun l m _ _=>AG e l (.fv (.bool false)) fun n=>Ak 3 c h m fun o _ _=>AbW o c n
def ZA (a:Hp) (b c d:IV) (e:Aa) (f g h i:IV):OH :=
 Ai 3 b a fun j _=>Ai 3 c a fun k _=>Ai 3 d a fun l _=>AB (Aj EE 29 3 [(0,j),(1,k),(2,l)]) 55581699 a fun m n _ _=>Al [] false false e 24 [.fv (.int .i64 27),m] n fun o p _ _=>Acu p f g h i o
def Aaj (b:IV) (c:Hp) (d e f g h i:AI) (j k l:IV) (m:Aa) (n o p:IV):OH :=
 AO 1 b fun q=>AH 55580682 (.row [.fv (.int .i64 0),.fv (.int .i64 0),.nils] false) (.ptr (.own 55580682) 0) c fun a r s t=>Ad [(d,e),(f,g),(h,[]),(i,[])] s t (Ak 3 a j r fun u v w=>Ad [] v w (ZA u k l a m n o q p))
def ZL (a b c:AI) (h:IV) (d:Aa) (i:Hp) (j k l:IV) (m:AI) (n o p q r:IV):OH :=
 Ad [(c,[])] a b (Bd EE 3 h (.fv (.int .i64 2)) fun s=>Al [] false false d 35 [j,k,l,s] i fun e t f g=>Ad [] f g (AO 0 e fun u=>Aaj e t f g a b m c u n o d p q r))
def Ab7 (a:Hp) (e f:IV) (c:Aa) (g h i j k l m:IV):OH :=
 Ai 3 e a fun n b=>Ad [] b [] (Ai 3 f a fun o d=>Ad [(b,[])] d [] (Al [] false false c 46 [o,.fv (.int .i64 2)] a fun p q r s=>ZL r s b g c q h n p d i j k l m))
def AbP (b:IV) (c:Hp) (d e f g h i:AI) (j k l:IV) (m:Aa) (n o p q r:IV):OH :=
 AO 1 b fun s=>AH 55579658 (.row [.fv (.int .i64 0),.fv (.int .i64 0),.nils] false) (.ptr (.own 55579658) 0) c fun a t u v=>Ad [(d,e),(f,g),(h,[]),(i,[])] u v (Ak 3 a j t fun w x y=>Ad [] x y (Ab7 w k l m n o p a q s r))
def Ac5 (a b c:AI) (d:IV) (e:Aa) (j:Hp) (f k l:IV) (m:AI) (n o p q r:IV):OH :=
 Ad [(c,[])] a b (Bd EE 3 d (.fv (.int .i64 2)) fun s=>Al [] false false e 35 [f,k,l,s] j fun g t h i=>Ad [] h i (AO 0 g fun u=>AbP g t h i a b m c u n o e d f p q r))
def Adi (a:Hp) (c d:IV) (e:Aa) (g h i j k:IV):OH :=
 Ai 3 c a fun l b=>Ad [] b [] (Ai 3 d a fun m f=>Ad [(b,[])] f [] (Al [] false false e 46 [m,.fv (.int .i64 1)] a fun n o p q=>Ac5 p q b g e o h l n f c d i j k))
def AaF (b:IV) (c:Hp) (d e f g h i:AI) (j k l:IV) (m:Aa) (n o p:IV):OH :=
 AO 1 b fun q=>AH 55578634 (.row [.fv (.int .i64 0),.fv (.int .i64 0),.nils] false) (.ptr (.own 55578634) 0) c fun a r s t=>Ad [(d,e),(f,g),(h,[]),(i,[])] s t (Ak 3 a j r fun u v w=>Ad [] v w (Adi u k l m n o a q p))
def Aav (a b c:AI) (d:IV) (e:Aa) (j:Hp) (f k l:IV) (m:AI) (n o p:IV):OH :=
 Ad [(c,[])] a b (Bd EE 3 d (.fv (.int .i64 2)) fun q=>Al [] false false e 35 [f,k,l,q] j fun g r h i=>Ad [] h i (AO 0 g fun s=>AaF g r h i a b m c s n o e d f p))
def X3 (a:Hp) (f c:IV) (d:Aa) (g h i j:IV):OH :=
 Ai 3 f a fun k b=>Ad [] b [] (Ai 3 c a fun l e=>Ad [(b,[])] e [] (Al [] false false d 46 [l,.fv (.int .i64 0)] a fun m n o p=>Aav o p b g d n h k m e i c j))
def Aau (c:Hp) (a d e:IV):OH :=
 Ak 3 a d c fun b _ _=>Ax true 3 a b fun f=>An [f,e] b
def AbA (a:Hp) (d e:IV) (f:Aa) (b g h:IV):OH :=
 Ai 3 d a fun i _=>AB (Aj EE 29 2 [(0,e),(1,i)]) 55586818 a fun j k _ _=>Al [] false false f 24 [.fv (.int .i64 28),j] k fun l c _ _=>Ab b true c (fun m=>m g c [] []) fun n o _ _=>AG b n (.fv (.bool false)) fun p=>Aau o h l p
def Adu (c:Hp) (d e f g h i j k l m n:AI) (o p:IV) (q:Aa) (r s t:IV):OH :=
 AH 55585805 (.row [.fv (.int .i64 0),.fv (.int .i64 0),.nils] false) (.ptr (.own 55585805) 0) c fun a u v w=>Ad [(d,e),(f,g),(h,[]),(i,j),(k,[]),(l,m),(n,[])] v w (Ak 3 a o u fun b x y=>Ad [] x y (Ai 3 p b fun z _=>AbA b a z q r s t))
def Zy (e:IV) (a:Aa) (f:Hp) (g h i:IV) (j k l m n o p q r:AI) (s t u:IV):OH :=
 Bd EE 3 e (.fv (.int .i64 2)) fun v=>Al [] false false a 35 [g,h,i,v] f fun b w c d=>Ad [] c d (AO 0 b fun x=>AO 1 b fun y=>Adu w c d j k l m n o p q r x s a t y u)
def Yu (a b:AI) (c:Hp) (l:IV) (d e f g:AI) (h:Aa) (m n o p q r:IV):OH :=
 Ad [] a b (Ai 3 l c fun s i=>Ad [(a,b),(d,[]),(e,f),(g,[])] i [] (Al [] false false h 46 [s,.fv (.int .i64 2)] c fun t u j k=>Ad [] j k (Zy m h u n o t j k i a b d e f g p q r)))
def Z2 (a:Aa) (g:Hp) (h i j:IV) (d:AI) (k l m n o:IV):OH :=
 Al [] false false a 22 [h,.fv (.int .i64 0),i] g fun p e b c=>Ad [] b c (Ai 3 j e fun q f=>Ad [(b,c),(d,[])] f [] (Al [] false false a 25 [q,.fv (.int .i64 1),.fv (.int .i64 0)] e fun r s t u=>Yu t u s k f b c d a l p r m n o))
def Ad1 (d e f g h i j k:AI) (l:Hp) (a m n:IV) (o:Aa) (p q r s t u:IV):OH :=
 Ad [(f,g),(h,i),(j,[]),(k,[])] d e (Ak 3 a m l fun b v w=>Ad [] v w (Ai 3 n b fun x c=>Ad [] c [] (Z2 o b p x q c r s a t u)))
def AbK (a:Aa) (f:Hp) (b g h i:IV) (j k l m:AI) (n o p q r:IV):OH :=
 Al [] false false a 35 [b,g,h,i] f fun c s d e=>Ad [] d e (AO 0 c fun t=>AO 1 c fun u=>AH 55584778 (.row [.fv (.int .i64 0),.fv (.int .i64 0),.nils] false) (.ptr (.own 55584778) 0) s fun v w x y=>Ad1 x y d e j k l m w v t n a b o p q u r)
def Ad9 (b:Hp) (c:IV) (a:AI) (d:Aa) (e i j k l m:IV):OH :=
 Ai 3 c b fun n f=>Ad [(a,[])] f [] (Al [] false false d 46 [n,.fv (.int .i64 1)] b fun o p g h=>Ad [(a,[])] g h (Bd EE 3 e (.fv (.int .i64 2)) fun q=>AbK d p i j o q g h f a k l c e m))
def AaL (b:Aa) (e:Hp) (f g h i j k:IV):OH :=
 Al [] false false b 34 [f,.fv (.int .i64 1)] e fun l m _ _=>AH 55583747 (.row [.fv (.int .i64 0),.fv (.int .i64 0),.nils] false) (.ptr (.own 55583747) 0) m fun a n _ _=>Ak 3 a l n fun c _ _=>Ai 3 a c fun o d=>Ad [] d [] (Ad9 c g d b h i o a j k)
def AdO (a:Hp) (b e c f:IV):OH :=
 Ab b true a (fun g=>g e a [] []) fun h i _ _=>AG b h (.fv (.bool false)) fun j=>Ak 3 c f i fun d k l=>Ad [] k l (Ax true 3 c d fun m=>An [m,j] d)
def AaM (a b c d e f g:AI) (h:Hp) (i j:IV) (k:Aa) (l m n:IV):OH :=
 Ad [(b,c),(d,e),(f,[]),(g,[])] a [] (AB (Aj EE 29 2 [(0,i),(1,j)]) 55591941 h fun o p q r=>Ad [] q r (Al [] false false k 24 [.fv (.int .i64 21),o] p fun s t u v=>Ad [] u v (AdO t l m n s)))
def Abs (g:Hp) (h i:IV) (a:Aa) (j:IV) (k l:AI) (m n o:IV):OH :=
 AB (Aj EE 29 2 [(0,h),(1,i)]) 55591938 g fun p q b c=>Ad [] b c (Al [] false false a 24 [.fv (.int .i64 20),p] q fun r d e f=>Ad [] e f (Ai 3 j d fun s t=>AaM t e f b c k l d r s a m n o))
def Ads (d e:AI) (a:Hp) (f g:IV) (h:Aa) (i j k l:IV):OH :=
 Ad [] d e (Ai 3 f a fun m b=>Ad [] b [] (Ai 3 g a fun n c=>Ad [(b,[])] c [] (Abs a m n h i c b j k l)))
def Ad5 (a:IV) (c:Hp) (d e f g h i j k l m n:AI) (o:IV) (p:Aa) (q r s:IV):OH :=
 AO 0 a fun t=>AO 1 a fun u=>AH 55590925 (.row [.fv (.int .i64 0),.fv (.int .i64 0),.nils] false) (.ptr (.own 55590925) 0) c fun b v w x=>Ad [(d,e),(f,g),(h,[]),(i,j),(k,[]),(l,m),(n,[])] w x (Ak 3 b t v fun y z A=>Ads z A y o b p q r u s)
def ZB (a:Aa) (f:Hp) (g h i j:IV) (k l m n o p q:AI) (r s t u:IV):OH :=
 Al [] false false a 46 [g,.fv (.int .i64 2)] f fun v w b c=>Ad [] b c (Bd EE 3 h (.fv (.int .i64 2)) fun x=>Al [] false false a 35 [i,j,v,x] w fun y z d e=>Ad [] d e (Ad5 y z d e b c k l m n o p q r a s t u))
def AbY (a b c d:AI) (g:Aa) (j:Hp) (k l m n o p q r:IV):OH :=
 Ad [(b,c),(d,[])] a [] (Al [] false false g 25 [k,.fv (.int .i64 1),.fv (.int .i64 0)] j fun s h e f=>Ad [] e f (Ai 3 l h fun t i=>Ad [(e,f),(a,[]),(b,c),(d,[])] i [] (ZB g h t m n s i e f a b c d o p q r)))
def AdF (a:Hp) (b:IV) (c:Aa) (h i j k l m n:IV):OH :=
 Ai 3 b a fun o d=>Ad [] d [] (Al [] false false c 22 [h,.fv (.int .i64 0),o] a fun p e f g=>Ad [] f g (Ai 3 i e fun q r=>AbY r f g d c e q j k p b l m n))
def YA (b:IV) (c:Hp) (d e f g h i:AI) (j k:IV) (l:Aa) (m n o p q:IV):OH :=
 AO 1 b fun r=>AH 55589898 (.row [.fv (.int .i64 0),.fv (.int .i64 0),.nils] false) (.ptr (.own 55589898) 0) c fun a s t u=>Ad [(d,e),(f,g),(h,[]),(i,[])] t u (Ak 3 a j s fun v w x=>Ad [] w x (AdF v k l m n o p a r q))
def Abc (a b c:AI) (d:IV) (e:Aa) (j:Hp) (f k l:IV) (m:AI) (n o p q:IV):OH :=
 Ad [(c,[])] a b (Bd EE 3 d (.fv (.int .i64 2)) fun r=>Al [] false false e 35 [f,k,l,r] j fun g s h i=>Ad [] h i (AO 0 g fun t=>YA g s h i a b m c t n e f o p d q))
def Zp (a:Hp) (c d:IV) (e:Aa) (g h i j:IV):OH :=
 Ai 3 c a fun k b=>Ad [] b [] (Ai 3 d a fun l f=>Ad [(b,[])] f [] (Al [] false false e 46 [l,.fv (.int .i64 1)] a fun m n o p=>Abc o p b g e n h k m f c i d j))
def Abn (b:Hp) (c:IV) (a:Aa) (e f g h:IV):OH :=
 Ai 3 c b fun i _=>Al [] false false a 46 [i,.fv (.int .i64 0)] b fun j k _ _=>Al [] false false a 34 [j,.fv (.int .i64 1)] k fun l m _ _=>AH 55588867 (.row [.fv (.int .i64 0),.fv (.int .i64 0),.nils] false) (.ptr (.own 55588867) 0) m fun d n _ _=>Ak 3 d l n fun o _ _=>Zp o d c a e f g h
def Y5 (c d:IV) (e:Hp) (a f:IV):OH :=
 AG c d (.fv (.bool false)) fun g=>Ak 3 a f e fun b _ _=>Ax true 3 a b fun h=>An [h,g] b
def Zf (d:Hp) (e f:IV) (a:Aa) (b g h:IV):OH :=
 AB (Aj EE 29 2 [(0,e),(1,f)]) 55596034 d fun i j _ _=>Al [] false false a 24 [.fv (.int .i64 22),i] j fun k l _ _=>AB (Aj EE 29 1 [(0,k)]) 55596036 l fun m n _ _=>Al [] false false a 24 [.fv (.int .i64 23),m] n fun o c _ _=>Ab b true c (fun p=>p g c [] []) fun q r _ _=>Y5 b q r h o
def Adp (c d e f g h i j:AI) (k:Hp) (b l m:IV) (n:Aa) (o p q:IV):OH :=
 Ad [(e,f),(g,h),(i,[]),(j,[])] c d (Ak 3 b l k fun a r s=>Ad [] r s (Ai 3 m a fun t _=>Ai 3 b a fun u _=>Zf a t u n o p q))
def Aaq (a:Aa) (e:Hp) (f g h i:IV) (j k l m:AI) (n o p:IV):OH :=
 Al [] false false a 35 [f,g,h,i] e fun b q c d=>Ad [] c d (AO 0 b fun r=>AO 1 b fun s=>AH 55595018 (.row [.fv (.int .i64 0),.fv (.int .i64 0),.nils] false) (.ptr (.own 55595018) 0) q fun t u v w=>Adp v w c d j k l m u t r n a o s p)
def Adm (b:Hp) (g:IV) (a:AI) (c:Aa) (h i j k l m:IV):OH :=
 Ai 3 g b fun n d=>Ad [(a,[])] d [] (Al [] false false c 46 [n,.fv (.int .i64 1)] b fun o p e f=>Ad [(a,[])] e f (Bd EE 3 h (.fv (.int .i64 2)) fun q=>Aaq c p i j o q e f d a k l m))
def Zx (d e f g h i j k:AI) (l:Hp) (a m n o:IV) (p:Aa) (q r s t:IV):OH :=
 Ad [(f,g),(h,i),(j,[]),(k,[])] d e (Ak 3 a m l fun b u v=>Ad [] u v (Ai 3 n b fun w c=>Ad [] c [] (Adm b o c p q r w a s t)))
def Adn (a:Aa) (f:Hp) (b g h i:IV) (j k l m:AI) (n o p q:IV):OH :=
 Al [] false false a 35 [b,g,h,i] f fun c r d e=>Ad [] d e (AO 0 c fun s=>AO 1 c fun t=>AH 55593994 (.row [.fv (.int .i64 0),.fv (.int .i64 0),.nils] false) (.ptr (.own 55593994) 0) r fun u v w x=>Zx w x d e j k l m v u s n o a p b t q)
def AaG (b:Hp) (c:IV) (a:AI) (d:Aa) (e i j k l:IV):OH :=
 Ai 3 c b fun m f=>Ad [(a,[])] f [] (Al [] false false d 46 [m,.fv (.int .i64 0)] b fun n o g h=>Ad [(a,[])] g h (Bd EE 3 e (.fv (.int .i64 2)) fun p=>Adn d o i j n p g h f a k c e l))
def AdY (c:Hp) (a d e:IV):OH :=
 Ak 3 a d c fun b _ _=>Ax true 3 a b fun f=>An [f,e] b
def Ac2 (b c:AI) (a:Hp) (d e:IV) (f:Aa) (g h:IV):OH :=
 Ad [] b c (Ai 3 d a fun i _=>Ai 3 e a fun j _=>AB (Aj EE 29 2 [(0,i),(1,j)]) 55599106 a fun k l _ _=>Al [] false false f 24 [.fv (.int .i64 29),k] l fun m n _ _=>AdY n g m h)
def ZC (a:IV) (c:Hp) (d e f g h i j k l m n:AI) (o:IV) (p:Aa) (q:IV):OH :=
 AO 0 a fun r=>AO 1 a fun s=>AH 55598093 (.row [.fv (.int .i64 0),.fv (.int .i64 0),.nils] false) (.ptr (.own 55598093) 0) c fun b t u v=>Ad [(d,e),(f,g),(h,[]),(i,j),(k,[]),(l,m),(n,[])] u v (Ak 3 b r t fun w x y=>Ac2 x y w o b p q s)
def Aem (a:Aa) (f:Hp) (g h i j:IV) (k l m n o p q:AI) (r s:IV):OH :=
 Al [] false false a 46 [g,.fv (.int .i64 0)] f fun t u b c=>Ad [] b c (Bd EE 3 h (.fv (.int .i64 2)) fun v=>Al [] false false a 35 [i,j,t,v] u fun w x d e=>Ad [] d e (ZC w x d e b c k l m n o p q r a s))
def Ace (a b c d:AI) (g:Aa) (j:Hp) (k l m n o p:IV):OH :=
 Ad [(b,c),(d,[])] a [] (Al [] false false g 25 [k,.fv (.int .i64 1),.fv (.int .i64 0)] j fun q h e f=>Ad [] e f (Ai 3 l h fun r i=>Ad [(e,f),(a,[]),(b,c),(d,[])] i [] (Aem g h r m n q i e f a b c d o p)))
def Ad0 (b:Hp) (a:IV) (c:Aa) (h i j k:IV):OH :=
 Ai 3 a b fun l d=>Ad [] d [] (Al [] false false c 22 [h,.fv (.int .i64 0),l] b fun m e f g=>Ad [] f g (Ai 3 a e fun n o=>Ace o f g d c e n i j m a k))
def AdH (c:Hp) (d:IV) (e:Aa) (a f:IV):OH :=
 AB (Aj EE 29 1 [(0,d)]) 55601153 c fun g h _ _=>Al [] false false e 24 [.fv (.int .i64 30),g] h fun i j _ _=>Ak 3 a i j fun b _ _=>Ax true 3 a b fun k=>An [k,f] b
def Yq (c:Hp) (d e f g h i j k l m:AI) (n:IV) (o:Aa) (p q:IV):OH :=
 AH 55600140 (.row [.fv (.int .i64 0),.fv (.int .i64 0),.nils] false) (.ptr (.own 55600140) 0) c fun a r s t=>Ad [(d,e),(f,g),(h,[]),(i,j),(k,l),(m,[])] s t (Ak 3 a n r fun b u v=>Ad [] u v (Ai 3 a b fun w _=>AdH b w o p q))
def AbC (e:IV) (a:Aa) (f:Hp) (g h i:IV) (j k l m n o p q:AI) (r:IV):OH :=
 Bd EE 3 e (.fv (.int .i64 1)) fun s=>Al [] false false a 23 [g,h,i,s] f fun b t c d=>Ad [] c d (AO 0 b fun u=>AO 1 b fun v=>Yq t c d j k l m n o p q u a r v)
def Aa8 (a b:AI) (c:Hp) (k:IV) (d e f:AI) (g:Aa) (l m n o:IV):OH :=
 Ad [] a b (Ai 3 k c fun p h=>Ad [(a,b),(d,e),(f,[])] h [] (Al [] false false g 46 [p,.fv (.int .i64 0)] c fun q r i j=>Ad [] i j (AbC l g r m n q i j h a b d e f o)))
def Aea (a:Hp) (f:IV) (b:Aa) (g h i j:IV):OH :=
 Ai 3 f a fun k c=>Ad [] c [] (AB (Aj EE 29 1 [(0,k)]) 55600130 a fun l m d e=>Ad [] d e (Al [] false false b 24 [.fv (.int .i64 18),l] m fun n o p q=>Aa8 p q o g d e c b h i n j))
def Yb (h:IV) (a:Hp) (b c:IV) (d:Aa) (e f j g:IV):OH :=
 A5 EE 3 h (.fv (.int .i64 3)) fun k=>Am k (Ai 3 b a fun l i=>Ad [] i [] (AaG a c i d e f l j g)) (A5 EE 3 h (.fv (.int .i64 4)) fun m=>Am m (Ad0 a b d f c e g) (Aea a b d c e f g))
def Adq (d:IV) (a:Hp) (b:IV) (c:Aa) (e f g h i:IV):OH :=
 A5 EE 3 d (.fv (.int .i64 1)) fun j=>Am j (Ai 3 b a fun k _=>Al [] false false c 46 [k,.fv (.int .i64 0)] a fun l m _ _=>AaL c m l b e f g h) (A5 EE 3 d (.fv (.int .i64 2)) fun n=>Am n (Abn a b c e f g h) (Yb d a g b c e f i h))
def Abo (a:IV) (c:Hp) (b:Aa) (d e f g h:IV):OH :=
 Ac 1 a fun k=>Af k c fun l _=>Al [] false false b 43 [l,.fv (.int .i64 7)] c fun i j _ _=>A5 EE 3 i (.fv (.int .i64 0)) fun m=>Am m (X3 j d a b e f g h) (Adq i j a b e f g h d)
def S53 (a:Aa) (n:Nat) (c d e f:IV) (g:Hp):OH :=
 A2 55574528 d g fun h i _ _=>A2 55574529 e i fun j k _ _=>AH 55574530 (.row [.fv (.int .i64 0),.fv (.int .i64 0),.nils] false) (.ptr (.own 55574530) 0) k fun l m _ _=>Al [] false false a 24 [.fv (.int .i64 15),.nils] m fun o p _ _=>AH 55575553 (.row [.fv (.int .i64 0),.fv (.int .i64 0),.nils] false) (.ptr (.own 55575553) 0) p fun b q _ _=>Ak 3 b o q fun r _ _=>Abo j r a b f c h l
theorem AnJ (a:Aa) (n:Nat) (b c d e:IV) (f:Hp):Aw EE a ft.get n 53 [b,c,d,e] f=S53 a n b c d e f:=by kernel_rfl
def MK (a:Hp) (b c:IV):OH :=
 Af b a fun d _=>A5 EE 3 d c fun e=>An [e] a
def Mk (a c:IV) (d:Aa) (e:Hp) (f g:IV) (h:List IV→Hp→OH) (i:IV):OH :=
 By EE 3 a c fun j=>Al [] false false d 54 [f,j] e fun k b l m=>Ad [] l m (Am k (An [.fv (.bool true)] b) (By EE 3 g (.fv (.int .i64 1)) fun n=>h [a,i,n] b))
def MA (a:IV) (b:Hp) (c d:AI) (e:Aa) (f g h:IV) (i:List IV→Hp→OH):OH :=
 Ac 0 a fun j=>Af j b fun k l=>Ad [(c,[]),(d,[])] l [] (Al [] false false e 51 [k,f] b fun m n o p=>Ad [(c,[]),(d,[])] o p (Mk g m e n h f i a))
def Mh (a:Hp) (e b f:IV) (g:Aa) (h:IV) (i:List IV→Hp→OH):OH :=
 Af e a fun j c=>Ad [] c [] (A7 3 j b fun k=>Ai 3 k a fun l d=>Ad [] d [] (MA f a d c g b h l i))
def L9 (d a b:IV) (c:Hp) (e:Aa) (f:IV) (g:List IV→Hp→OH):OH :=
 BS d fun h=>G8 EE 3 a h fun i=>Am i (Ac 2 b fun j=>Mh c j a b e f g) (An [.fv (.bool false)] c)
def TE (c:List IV) (a:Hp) (d:Aa) (e:List IV→Hp→OH):OH :=
 Av c fun f g=>Av g fun b h=>Av h fun i _=>Ac 2 b fun j=>Af j a fun k _=>L9 k i b a d f e
def S54 (d:Aa) (n:Nat) (e c:IV) (f:Hp):OH :=
 A2 56623104 e f fun a b _ _=>Ac 0 a fun g=>Af g b fun h _=>A5 EE 3 h (.fv (.int .i64 1)) fun i=>Am i (Ac 1 a fun j=>MK b j c) (BF n (fun k l m=>TE l m d k) [c,a,.fv (.int .i64 0)] b)
theorem ApP (a:Aa) (n:Nat) (b c:IV) (d:Hp):Aw EE a ft.get n 54 [b,c] d=S54 a n b c d:=by kernel_rfl
def PM (c:Hp) (a:IV):OH :=
 BC [.fv (.int .i64 0),.fv (.int .i64 0),.nils] [] fun d=>Ak 3 a d c fun b _ _=>Ax true 3 a b fun e=>An [e,.fv (.int .i64 1)] b
def O5 (b c d:AI) (a:Hp) (e f:IV):OH :=
 Ad [(d,[])] b c (Ax true 3 e a fun g=>An [g,f] a)
def OR (d:IV) (a:Hp) (b e:IV):OH :=
 AF d fun f=>Ac 3 f fun g=>Af g a fun h c=>Ad [] c [] (Ak 3 b e a fun i j k=>O5 j k c i b h)
def OI (a:Hp) (b c:IV):OH :=
 Ax true 3 b a fun d=>An [d,c] a
def O2 (d:IV) (a:Hp) (b e:IV):OH :=
 Ac 3 d fun f=>Af f a fun g c=>Ad [] c [] (Ak 3 b e a fun h i j=>Ad [(c,[])] i j (OI h b g))
def ON (a:Hp) (b:IV):OH :=
 Ax true 3 b a fun c=>An [c,.fv (.int .i64 0)] a
def OM (c d:IV) (a:Hp) (b e:IV):OH :=
 Ha EE 37 c (.fv (.int .i64 0)) fun f=>Am f (BC [.fv (.int .i64 0),.fv (.int .i64 0),.nils] [] fun g=>AF d fun h=>O2 h a b g) (Ai 3 e a fun i _=>Ak 3 b i a fun j _ _=>ON j b)
def PQ (d:Hp) (e a f:IV):OH :=
 AH 57678851 (.row [.fv (.int .i64 0),.fv (.int .i64 0),.nils] false) (.ptr (.own 57678851) 0) d fun b g _ _=>Ak 3 b e g fun c _ _=>AF a fun h=>Ac 3 h fun i=>Af i c fun j _=>OM j a c f b
def Pn (a:Hp) (d b c:IV) (e:Aa) (f:IV):OH :=
 Af d a fun g _=>Ha EE 37 g (.fv (.int .i64 0)) fun h=>Am h (BC [.fv (.int .i64 0),.fv (.int .i64 0),.nils] [] fun i=>OR b a c i) (Al [true,false,false,false] false false e 66 [b,f,.fv (.int .i64 0),.fv (.int .i64 1)] a fun j k _ _=>PQ k j b c)
def O7 (a:Aa) (d:Hp) (e f:IV):OH :=
 Aja a 64 [] d fun b c _ _=>Ai 3 e c fun g _=>Al [true,false,false] false false a 65 [b,.fv .nilp,g] c fun h i _ _=>AF b fun j=>Ac 3 j fun k=>Pn i k b f a h
def S55 (a:Aa) (n:Nat) (f:IV) (g:Hp):OH :=
 A2 57671680 f g fun b h _ _=>AH 57671681 (.row [.fv (.int .i64 0),.fv (.int .i64 0),.nils] false) (.ptr (.own 57671681) 0) h fun c d _ _=>Ai 3 b d fun i _=>Al [] false false a 63 [i] d fun j e _ _=>CL (L5 .not j) fun k=>Am k (PM e c) (O7 a e b c)
theorem Aph (a:Aa) (n:Nat) (b:IV) (c:Hp):Aw EE a ft.get n 55 [b] c=S55 a n b c:=by kernel_rfl
def AgG (a:Hp) (d:IV) (e:Aa) (b:IV):OH :=
 Ai 3 d a fun f _=>Al [] false false e 67 [f] a fun g h _ _=>Ak 3 b g h fun c _ _=>Ax true 3 b c fun i=>An [i] c
def Ahk (a:Hp) (d:IV) (e:Aa) (b:IV):OH :=
 Ai 3 d a fun f _=>Al [] false false e 68 [f] a fun g h _ _=>Ak 3 b g h fun c _ _=>Ax true 3 b c fun i=>An [i] c
def S56 (a:Aa) (n:Nat) (f:IV) (g:Hp):OH :=
 A2 58720256 f g fun b h _ _=>AH 58720257 (.row [.fv (.int .i64 0),.fv (.int .i64 0),.nils] false) (.ptr (.own 58720257) 0) h fun c d _ _=>Ai 3 b d fun i _=>Al [] false false a 63 [i] d fun j e _ _=>CL (L5 .not j) fun k=>Am k (AgG e b a c) (Ahk e b a c)
theorem AmR (a:Aa) (n:Nat) (b:IV) (c:Hp):Aw EE a ft.get n 56 [b] c=S56 a n b c:=by kernel_rfl
def RL (a:Hp) (b d:IV) (e:Aa) (f:IV):OH :=
 Ab b true a (fun g=>Af d a fun h i=>g h a i []) fun j c _ _=>Ab b true c (fun k=>Al [] false false e 69 [f,j,.fv (.func (.func 57) [] [])] c k) fun l m _ _=>AG b l (.fv (.bool false)) fun n=>An [n] m
def Sl (c:Hp) (d g h i j:IV) (k:Aa):OH :=
 Ab d true c (fun l=>A5 EE 3 g h fun m=>l m c [] []) fun n e _ _=>AG d n (.fv (.bool false)) fun a=>Ab a true e (fun o=>Ac 2 i fun p=>o p e [] []) fun q b _ _=>Ab a true b (fun r=>Af q b fun s t=>r s b t []) fun u f _ _=>Ab a true f (fun v=>Ac 2 j fun w=>v w f [] []) fun x y _ _=>RL y a x k u
def Ul (h i:IV) (d:Hp) (e f:IV) (j:Aa):OH :=
 A5 EE 3 h i fun a=>Ab a true d (fun k=>Ac 1 e fun l=>k l d [] []) fun m b _ _=>Ab a true b (fun n=>Af m b fun o p=>n o b p []) fun q g _ _=>Ab a true g (fun r=>Ac 1 f fun s=>r s g [] []) fun t c _ _=>Ab a true c (fun u=>Af t c fun v w=>u v c w []) fun x y _ _=>Sl y a q x e f j
def S57 (d:Aa) (n:Nat) (e f:IV) (g:Hp):OH :=
 A2 59768832 e g fun b h _ _=>A2 59768833 f h fun c a _ _=>Ac 0 b fun i=>Af i a fun j _=>Ac 0 c fun k=>Af k a fun l _=>Ul j l a b c d
theorem AnN (a:Aa) (n:Nat) (b c:IV) (d:Hp):Aw EE a ft.get n 57 [b,c] d=S57 a n b c d:=by kernel_rfl
def S58 (j:Aa) (n:Nat) (a b:IV) (c:Hp):OH :=
 AB (Aj EE 87 0 []) 60818432 c fun d e _ _=>AB (AY EE 60818434 false .append [87,87] [d,a]) 60818434 e fun f g _ _=>AB (AY EE 60818436 false .append [87,87] [f,b]) 60818436 g fun h i _ _=>An [h] i
theorem An7 (a:Aa) (n:Nat) (b c:IV) (d:Hp):Aw EE a ft.get n 58 [b,c] d=S58 a n b c d:=by kernel_rfl
def YB (a b:AI) (c:Hp) (d:IV):OH :=
 Ad [] a b (An [d] c)
def AbI (c:Hp) (d:IV) (e a:AI) (b:Aa) (f g h:IV):OH :=
 AB (Aj EE 87 1 [(0,d)]) 61872143 c fun i j k l=>Ad [(e,[]),(a,[])] k l (Al [] false false b 58 [f,i] j fun m n o p=>Ad [(a,[])] o p (Al [true,false,false] false false b 42 [g,h,m] n fun q r s t=>YB s t r q))
def X0 (a:Hp) (d:IV) (b c:AI) (e:Aa) (f g h:IV):OH :=
 Af d a fun i j=>Ad [(b,[]),(c,[])] j [] (A7 1 i (.fv (.int .i64 1)) fun k=>Af k a fun l m=>Ad [(b,[]),(c,[])] m [] (AbI a l b c e f g h))
def AcH (d:IV) (a:Hp) (b:AI) (e:IV) (f:Aa) (g h:IV):OH :=
 Ac 3 d fun i=>Af i a fun j c=>Ad [(b,[])] c [] (AF e fun k=>Ac 2 k fun l=>X0 a l c b f j g h)
def Acs (a:IV) (b:Hp) (d:IV) (e:Aa) (f:IV):OH :=
 AF a fun g=>Ac 4 g fun h=>Ai 3 h b fun i c=>Ad [] c [] (AF a fun j=>AcH j b c d e f i)
def Abk (b:IV) (a:Hp) (c:IV) (d:Aa) (e:IV):OH :=
 AF b fun f=>Ac 2 f fun g=>Af g a fun h _=>A7 1 h (.fv (.int .i64 1)) fun i=>Af i a fun j _=>Acs j a c d e
def Adf (b:IV) (a:Hp) (c:Aa) (d:IV):OH :=
 AF b fun e=>Ac 2 e fun f=>Af f a fun g _=>A7 1 g (.fv (.int .i64 0)) fun h=>Af h a fun i _=>Abk i a b c d
def AbF (b c:IV) (a:Hp):OH :=
 A7 1 b c fun d=>Af d a fun e f=>Ad [] f [] (An [e] a)
def Ad2 (b:IV) (a:Hp) (c d e:AI) (f:IV):OH :=
 Ac 0 b fun g=>Af g a fun h i=>Ad [(c,[]),(d,[]),(e,[])] i [] (By EE 3 (.fv (.int .i64 1)) h fun j=>Bd EE 3 j (.fv (.int .i64 8)) fun k=>AbF f k a)
def Z0 (c:IV) (a:Hp) (d:IV) (e f:AI):OH :=
 AF c fun g=>Ac 2 g fun h=>Af h a fun i b=>Ad [] b [] (AF d fun j=>Ad2 j a b e f i)
def AcF (a:Hp) (d e:IV):OH :=
 Af d a fun f b=>Ad [] b [] (A7 1 f (.fv (.int .i64 0)) fun g=>Af g a fun h c=>Ad [] c [] (Z0 h a e c b))
def Aac (c:Aa) (d:Hp) (e a:IV) (f:Hp→OH):OH :=
 Al [true] false false c 70 [e] d fun g b _ _=>Am g (AF a fun h=>Ac 2 h fun i=>AcF b i a) (f b)
def AcA (b:IV) (a:Hp):OH :=
 AF b fun c=>Ac 2 c fun d=>Af d a fun e _=>A7 1 e (.fv (.int .i64 0)) fun f=>Af f a fun g _=>An [g] a
def AcW (b:IV) (a:Hp):OH :=
 AF b fun c=>Ac 2 c fun d=>Af d a fun e _=>A7 1 e (.fv (.int .i64 0)) fun f=>Af f a fun g _=>AcA g a
def AaK (a:Hp) (b:IV):OH :=
 Af b a fun c _=>A7 1 c (.fv (.int .i64 1)) fun d=>Af d a fun e _=>An [e] a
def AcV (b c:IV) (a:Hp) (d:Hp→OH):OH :=
 Am b (AF c fun e=>Ac 2 e fun f=>AaK a f) (d a)
def YY (c d e a:AI) (b:Aa) (f:Hp) (g h i j:IV):OH :=
 Ad [(e,[]),(a,[])] c d (Al [] false false b 58 [g,h] f fun k l m n=>Ad [(a,[])] m n (Al [true,false,false] false false b 42 [i,j,k] l fun o p q r=>Ad [] q r (An [o] p)))
def X5 (d:IV) (a:Hp) (b:AI) (e f:IV) (g:Aa) (h i:IV):OH :=
 AF d fun j=>Ac 3 j fun k=>Af k a fun l c=>Ad [(b,[])] c [] (AB (Aj EE 87 2 [(0,e),(1,f)]) 61888523 a fun m n o p=>YY o p c b g n l m h i)
def ZV (a:Hp) (d e f:IV) (g:Aa) (h:IV):OH :=
 Af d a fun b _=>AF b fun i=>Ac 4 i fun j=>Ai 3 j a fun k c=>Ad [] c [] (X5 b a c e f g h k)
def Ady (b c:AI) (d:IV) (a:Hp) (e f:IV) (g:Aa) (h:IV):OH :=
 Ad [] b c (AF d fun i=>Ac 2 i fun j=>Af j a fun k _=>A7 1 k (.fv (.int .i64 2)) fun l=>ZV a l e f g h)
def Abu (c d:AI) (e:IV) (f:Hp) (a:Aa) (b g h:IV):OH :=
 Ad [] c d (BC [.fv (.int .i64 0),.fv (.int .i64 0),.nils,.nils,.fv (.int .i64 0),.fv (.int .i64 0),.nils] [(0,1,.fv (.int .i64 13)),(2,1,e)] fun i=>A2 61886486 i f fun j k l m=>Ad [] l m (Al [true,false] false false a 59 [b,j] k fun n o p q=>Ady p q g o h n a b))
def Y0 (g a b c d:AI) (h:IV) (e:Hp) (i j f:IV) (k:Aa) (l m:IV):OH :=
 Ad [(a,[]),(b,[]),(c,[]),(d,[])] g [] (A7 1 h (.fv (.int .i64 2)) fun n=>Af n e fun o p=>Ad [(a,[]),(b,[]),(c,[]),(d,[])] p [] (AB (Aj EE 87 4 [(0,i),(1,j),(2,o),(3,f)]) 61886484 e fun q r s t=>Abu s t q r k l m f))
def Yi (a:Hp) (f:IV) (b c:AI) (d:IV) (g:AI) (h i:IV) (j:Aa) (k:IV):OH :=
 Af f a fun l e=>Ad [(b,[]),(c,[])] e [] (AF d fun m=>Ac 2 m fun n=>Af n a fun o p=>Y0 p e g b c o a h l i j k d)
def ZO (a:IV) (b:Hp) (c d:AI) (f g:IV) (h:Aa) (i:IV):OH :=
 AF a fun j=>Ac 2 j fun k=>Af k b fun l e=>Ad [(c,[]),(d,[])] e [] (A7 1 l (.fv (.int .i64 1)) fun m=>Yi b m c d a e f g h i)
def AdD (a:Hp) (d e f:IV) (g:Aa) (h:IV):OH :=
 Af d a fun i b=>Ad [] b [] (A7 1 i (.fv (.int .i64 0)) fun j=>Af j a fun k c=>Ad [] c [] (ZO e a c b k f g h))
def XU (a:Hp) (c b:IV) (d:Aa) (e:IV):OH :=
 Af c a fun f _=>A7 1 f (.fv (.int .i64 0)) fun g=>Af g a fun h _=>AF b fun i=>Ac 2 i fun j=>AdD a j b h d e
def Acv (a:Hp) (b c:IV) (d:Aa) (e:IV):OH :=
 Af b a fun f _=>A7 1 f (.fv (.int .i64 3)) fun g=>Af g a fun h _=>AF h fun i=>Ac 2 i fun j=>XU a j c d e
def AbM (a:Aa) (e:Hp) (b c:IV) (f:Hp→OH):OH :=
 Al [true] false false a 70 [b] e fun g d _ _=>Am g (AF c fun h=>Ac 2 h fun i=>Acv d i c a b) (f d)
def Adb (c:Hp) (a g:IV) (h:Aa) (i j:IV) (d:Hp→OH):OH :=
 Ab a true c (fun k=>Ac 0 g fun l=>k l c [] []) fun m b _ _=>Ab a true b (fun n=>Af m b fun o p=>n o b p []) fun q e _ _=>Ab a true e (fun r=>A5 EE 3 q (.fv (.int .i64 12)) fun s=>r s e [] []) fun t f _ _=>AG a t (.fv (.bool false)) fun u=>Am u (AbM h f i j d) (d f)
def Yp (d:Hp) (a g:IV) (h:Aa) (i j:IV) (k:Hp→OH):OH :=
 Ab a true d (fun l=>Ac 2 g fun m=>l m d [] []) fun n b _ _=>Ab a true b (fun o=>Af n b fun p q=>o p b q []) fun r e _ _=>Ab a true e (fun s=>A7 1 r (.fv (.int .i64 3)) fun t=>s t e [] []) fun u c _ _=>Ab a true c (fun v=>Af u c fun w x=>v w c x []) fun y f _ _=>Ab a true f (fun z=>AF y fun A=>z A f [] []) fun B C _ _=>Adb C a B h i j k
def Ab0 (e:IV) (a:Hp) (c:IV) (f:Aa) (g:IV) (h:Hp→OH):OH :=
 Ac 0 e fun i=>Af i a fun j _=>A5 EE 3 j (.fv (.int .i64 13)) fun b=>Ab b true a (fun k=>k c a [] []) fun l d _ _=>Ab b true d (fun m=>AF l fun n=>m n d [] []) fun o p _ _=>Yp p b o f g c h
def YQ (a:Hp) (b i:IV) (d:Aa) (e c:IV) (f:Hp→OH):OH :=
 Ab b true a (fun j=>Af i a fun k l=>j k a l []) fun m g _ _=>Ab b true g (fun n=>A5 EE 3 m (.fv (.int .i64 11)) fun o=>n o g [] []) fun p h _ _=>AG b p (.fv (.bool false)) fun q=>Am q (Al [true] false false d 70 [e] h fun r s _ _=>AcV r c s f) (AF c fun t=>Ab0 t h c d e f)
def Yn (b:Hp) (a g:IV) (h:Aa) (i j:IV) (k:Hp→OH):OH :=
 Ab a true b (fun l=>Af g b fun m n=>l m b n []) fun o d _ _=>Ab a true d (fun p=>A7 1 o (.fv (.int .i64 3)) fun q=>p q d [] []) fun r c _ _=>Ab a true c (fun s=>Af r c fun t u=>s t c u []) fun v e _ _=>Ab a true e (fun w=>AF v fun x=>w x e [] []) fun y f _ _=>Ab a true f (fun z=>Ac 0 y fun A=>z A f [] []) fun B C _ _=>YQ C a B h i j k
def Yj (b:Hp) (f c:IV) (g:Aa) (h:IV) (i:Hp→OH):OH :=
 Af f b fun j _=>A5 EE 3 j (.fv (.int .i64 13)) fun a=>Ab a true b (fun k=>k c b [] []) fun l d _ _=>Ab a true d (fun m=>AF l fun n=>m n d [] []) fun o e _ _=>Ab a true e (fun p=>Ac 2 o fun q=>p q e [] []) fun r s _ _=>Yn s a r g h c i
def Aa6 (g:IV) (b:Aa) (c:Hp) (d a:IV) (e:Hp→OH):OH :=
 Am g (Al [true] false false b 70 [d] c fun h f _ _=>Am h (AcW a f) (e f)) (AF a fun i=>Ac 0 i fun j=>Yj c j a b d e)
def AcN (a:Hp) (b d:IV) (e:IV→Hp→OH):OH :=
 Ab b true a (fun f=>Af d a fun g h=>f g a h []) fun i c _ _=>Ab b true c (fun j=>A5 EE 3 i (.fv (.int .i64 30)) fun k=>j k c [] []) fun l m _ _=>AG b l (.fv (.bool false)) fun n=>e n m
def AdL (b:Hp) (a g:IV) (h:IV→Hp→OH):OH :=
 Ab a true b (fun i=>Af g b fun j k=>i j b k []) fun l d _ _=>Ab a true d (fun m=>A7 1 l (.fv (.int .i64 0)) fun n=>m n d [] []) fun o c _ _=>Ab a true c (fun p=>Af o c fun q r=>p q c r []) fun s e _ _=>Ab a true e (fun t=>AF s fun u=>t u e [] []) fun v f _ _=>Ab a true f (fun w=>Ac 0 v fun x=>w x f [] []) fun y z _ _=>AcN z a y h
def Acq (b:Hp) (e f:IV) (g:IV→Hp→OH):OH :=
 Af e b fun h _=>A5 EE 3 h (.fv (.int .i64 19)) fun a=>Ab a true b (fun i=>i f b [] []) fun j c _ _=>Ab a true c (fun k=>AF j fun l=>k l c [] []) fun m d _ _=>Ab a true d (fun n=>Ac 2 m fun o=>n o d [] []) fun p q _ _=>AdL q a p g
def Zj (e f:IV) (a:IV→Hp→OH) (b:Hp) (c:IV):OH :=
 AG e f (.fv (.bool false)) fun d=>Am d (a d b) (AF c fun g=>Ac 0 g fun h=>Acq b h c a)
def Acn (b:Hp) (a g:IV) (h:IV→Hp→OH) (i:IV):OH :=
 Ab a true b (fun j=>Af g b fun k l=>j k b l []) fun m d _ _=>Ab a true d (fun n=>AF m fun o=>n o d [] []) fun p e _ _=>Ab a true e (fun q=>Ac 0 p fun r=>q r e [] []) fun s c _ _=>Ab a true c (fun t=>Af s c fun u v=>t u c v []) fun w f _ _=>Ab a true f (fun x=>A5 EE 3 w (.fv (.int .i64 19)) fun y=>x y f [] []) fun z A _ _=>Zj a z h A i
def AdC (c:Hp) (a d:IV) (h:IV→Hp→OH):OH :=
 Ab a true c (fun i=>i d c [] []) fun j e _ _=>Ab a true e (fun k=>AF j fun l=>k l e [] []) fun m f _ _=>Ab a true f (fun n=>Ac 2 m fun o=>n o f [] []) fun p b _ _=>Ab a true b (fun q=>Af p b fun r s=>q r b s []) fun t g _ _=>Ab a true g (fun u=>A7 1 t (.fv (.int .i64 0)) fun v=>u v g [] []) fun w x _ _=>Acn x a w h d
def X4 (c:Aa) (d a:IV) (e:Hp→OH) (b:Hp):OH :=
 (fun (f:IV→Hp→OH)=>AF a fun g=>Ac 0 g fun h=>Af h b fun i _=>A5 EE 3 i (.fv (.int .i64 30)) fun j=>AdC b j a f) fun k l=>Aa6 k c l d a e
def AdA (c:Hp) (a j:IV) (d:Aa) (e f:IV) (g:Hp→OH):OH :=
 Ab a true c (fun k=>Ac 0 j fun l=>k l c [] []) fun m b _ _=>Ab a true b (fun n=>Af m b fun o p=>n o b p []) fun q h _ _=>Ab a true h (fun r=>A5 EE 3 q (.fv (.int .i64 7)) fun s=>r s h [] []) fun t i _ _=>AG a t (.fv (.bool false)) fun u=>Am u (Aac d i e f g) (X4 d e f g i)
def Abl (d:Hp) (a g:IV) (h:Aa) (i j:IV) (k:Hp→OH):OH :=
 Ab a true d (fun l=>Ac 2 g fun m=>l m d [] []) fun n b _ _=>Ab a true b (fun o=>Af n b fun p q=>o p b q []) fun r e _ _=>Ab a true e (fun s=>A7 1 r (.fv (.int .i64 0)) fun t=>s t e [] []) fun u c _ _=>Ab a true c (fun v=>Af u c fun w x=>v w c x []) fun y f _ _=>Ab a true f (fun z=>AF y fun A=>z A f [] []) fun B C _ _=>AdA C a B h i j k
def AdV (a:Hp) (b h d:IV) (i:Aa) (j:IV) (k:Hp→OH):OH :=
 Ab b false a (fun l=>Af h a fun m n=>l m a n []) fun o e _ _=>Ab b false e (fun p=>A5 EE 3 o (.fv (.int .i64 9)) fun q=>p q e [] []) fun r f _ _=>AG b (.fv (.bool true)) r fun c=>Ab c true f (fun s=>s d f [] []) fun t g _ _=>Ab c true g (fun u=>AF t fun v=>u v g [] []) fun w x _ _=>Abl x c w i j d k
def Ade (b:Hp) (f c:IV) (g:Aa) (h:IV) (i:Hp→OH):OH :=
 Af f b fun j _=>A5 EE 3 j (.fv (.int .i64 8)) fun a=>Ab a false b (fun k=>k c b [] []) fun l d _ _=>Ab a false d (fun m=>AF l fun n=>m n d [] []) fun o e _ _=>Ab a false e (fun p=>Ac 0 o fun q=>p q e [] []) fun r s _ _=>AdV s a r c g h i
def Y8 (g:IV) (a:Aa) (d:Hp) (b c:IV) (e:Hp→OH):OH :=
 Am g (Al [true] false false a 70 [b] d fun h f _ _=>Am h (Adf c f a b) (e f)) (AF c fun i=>Ac 0 i fun j=>Ade d j c a b e)
def Ad6 (c:Hp) (a f:IV) (g:Aa) (h i:IV) (j:Hp→OH):OH :=
 Ab a true c (fun k=>AF f fun l=>k l c [] []) fun m d _ _=>Ab a true d (fun n=>Ac 0 m fun o=>n o d [] []) fun p b _ _=>Ab a true b (fun q=>Af p b fun r s=>q r b s []) fun t e _ _=>Ab a true e (fun u=>A5 EE 3 t (.fv (.int .i64 4)) fun v=>u v e [] []) fun w x _ _=>AG a w (.fv (.bool false)) fun y=>Y8 y g x h i j
def Aa2 (d:Hp) (a g:IV) (h:Aa) (i j:IV) (k:Hp→OH):OH :=
 Ab a true d (fun l=>AF g fun m=>l m d [] []) fun n e _ _=>Ab a true e (fun o=>Ac 2 n fun p=>o p e [] []) fun q b _ _=>Ab a true b (fun r=>Af q b fun s t=>r s b t []) fun u f _ _=>Ab a true f (fun v=>A7 1 u (.fv (.int .i64 0)) fun w=>v w f [] []) fun x c _ _=>Ab a true c (fun y=>Af x c fun z A=>y z c A []) fun B C _ _=>Ad6 C a B h i j k
def Ach (a:IV) (b:Hp) (d:Aa) (e:IV) (f:Hp→OH):OH :=
 AF a fun g=>Ac 0 g fun h=>Af h b fun i _=>A5 EE 3 i (.fv (.int .i64 5)) fun c=>Ab c true b (fun j=>j a b [] []) fun k l _ _=>Aa2 l c k d e a f
def S59 (d:Aa) (n:Nat) (c a:IV) (b:Hp):OH :=
 (fun (e:Hp→OH)=>AF c fun f=>Ac 2 f fun g=>Af g b fun h _=>Ha EE 3 h (.fv (.int .i64 0)) fun i=>Am i (An [a] b) (Ach a b d c e)) fun j=>An [a] j
theorem AoV (a:Aa) (n:Nat) (b c:IV) (d:Hp):Aw EE a ft.get n 59 [b,c] d=S59 a n b c d:=by kernel_rfl
def IH (c:Hp) (a d:IV):OH :=
 Ak 3 a d c fun b _ _=>Ax true 3 a b fun e=>An [e] b
def Jq (c:IV) (d:Hp) (a:IV):OH :=
 Bd EE 3 c (.fv (.int .i64 1)) fun e=>BC [.fv (.int .i64 0),.fv (.int .i64 0),.nils] [(0,1,.fv (.int .i64 1)),(1,1,e)] fun f=>Ak 3 a f d fun b _ _=>Ax true 3 a b fun g=>An [g] b
def I4 (a:Hp) (b:IV):OH :=
 Ax true 3 b a fun c=>An [c] a
def IT (d e c:IV) (a:Hp) (b:IV):OH :=
 Mj EE 3 d e fun f=>Am f (Ac 1 c fun g=>Af g a fun h _=>Jq h a b) (Ai 3 c a fun i _=>Ak 3 b i a fun j _ _=>I4 j b)
def Jo (e b:IV) (a:Hp) (f:IV) (g:Aa) (h c d:IV):OH :=
 A5 EE 3 e b fun i=>Am i (Ai 3 f a fun j _=>Al [] false false g 25 [j,h,.fv (.int .i64 0)] a fun k l _ _=>IH l c k) (Ac 1 d fun m=>Af m a fun n _=>IT n b d a c)
def IP (a:IV) (h:Hp) (i j:IV) (k:Hp) (b c d e f:IV) (l:List IV→Hp→OH):OH :=
 Ac 2 a fun m=>BA m i h fun n o p=>Ad [] o p (By EE 3 j (.fv (.int .i64 1)) fun g=>Bf (k.own.map (·.1)) [62926864] [b,c,d,e,f,a,g] n fun q=>l [b,c,d,e,f,a,g] q)
def IR (b c a:AI) (d:Hp) (e f g h:IV) (i:Hp) (j k l m n:IV) (o:List IV→Hp→OH):OH :=
 Ad [(a,[])] b c (AB (Aj EE 29 1 [(0,e)]) 62926863 d fun p q r s=>Ad [(a,[])] r s (AB (AY EE 62926864 false .append [29,29] [f,p]) 62926864 q fun t u v w=>Ad [] v w (IP g u t h i j k l m n o)))
def I3 (a b c:IV) (d:Hp) (e:IV) (g h f:AI) (i:Aa) (j k l m:IV) (n:Hp) (o p:IV) (q:List IV→Hp→OH):OH :=
 By EE 3 a b fun r=>By EE 3 c b fun s=>Ai 3 e d fun t u=>Ad [(g,[]),(h,[]),(f,[])] u [] (Al [] false false i 60 [j,r,s,t] d fun v w x y=>IR x y f w v k l m n a c o e p q)
def Jb (a:Hp) (f:IV) (b:AI) (c g h i j:IV) (k:Aa) (l m:IV) (n:Hp) (o p:IV) (q:List IV→Hp→OH):OH :=
 Af f a fun r d=>Ad [(b,[])] d [] (A7 3 r c fun s=>Ai 3 s a fun t e=>Ad [(b,[])] e [] (I3 g h i a j e d b k t l m c n o p q))
def Ig (a:Aa) (g:Hp) (h b c d i j k:IV) (l:Hp) (m:IV) (n:List IV→Hp→OH):OH :=
 Al [] false false a 51 [h,b] g fun o e _ _=>Ac 2 c fun p=>Af p e fun q f=>Ad [] f [] (Ac 2 d fun r=>Jb e r f b i o j k a q c l d m n)
def Ih (a:Hp) (b:IV):OH :=
 Ax true 3 b a fun c=>An [c] a
def IE (c f d:IV) (a:Hp) (g:Aa) (e h i j:IV) (k:Hp) (b:IV) (l:List IV→Hp→OH):OH :=
 G8 EE 3 c f fun m=>Am m (Ac 0 d fun n=>Af n a fun o _=>Ig g a o c e d h i j k b l) (Ai 3 e a fun p _=>Ak 3 b p a fun q _ _=>Ih q b)
def IF (c:List IV) (a:IV) (b:Hp) (d:Aa) (e f g:IV) (h:Hp) (i:IV) (j:List IV→Hp→OH):OH :=
 Av c fun k l=>Av l fun m _=>Ac 2 a fun n=>Af n b fun o _=>BS o fun p=>IE m p a b d k e f g h i j
def Ja (a:List IV) (b:Hp) (c:Aa) (d:Hp) (e:List IV→Hp→OH):OH :=
 Av a fun f g=>Av g fun h i=>Av i fun j k=>Av k fun l m=>Av m fun n o=>IF o j b c f h l d n e
def Jt (a h:Hp) (b c d e f g:IV) (n:Nat) (i:Aa):OH :=
 Bf (a.own.map (·.1)) [62926864] [b,c,d,e,f,g,.fv (.int .i64 0)] h fun j=>BF n (fun k l m=>Ja l m i a k) [b,c,d,e,f,g,.fv (.int .i64 0)] j
def IM (a:IV) (b:Hp) (d:IV) (e:Hp) (f g h i:IV) (n:Nat) (j:Aa):OH :=
 Ac 1 a fun k=>Af k b fun l _=>BC [.fv (.int .i64 0),.fv (.int .i64 0),.nils] [(0,1,d),(1,1,l)] fun m=>AH 62921733 (.row [.fv (.int .i64 0),.fv (.int .i64 0),.nils] false) (.ptr (.own 62921733) 0) b fun c o _ _=>Ak 3 c m o fun p _ _=>Jt e p f g a h i c n j
def IS (h a:IV) (b:Hp) (c d:IV) (e:Aa) (f g:IV) (i:Hp) (n:Nat):OH :=
 Am h (Ac 1 a fun j=>Af j b fun k _=>Jo k c b d e f g a) (Ac 0 a fun l=>Af l b fun m _=>IM a b m i c f d g n e)
def S60 (d:Aa) (n:Nat) (e f g h:IV) (a:Hp):OH :=
 A2 62914560 e a fun b i _ _=>A2 62914561 h i fun j k _ _=>AH 62914562 (.row [.fv (.int .i64 0),.fv (.int .i64 0),.nils] false) (.ptr (.own 62914562) 0) k fun l c _ _=>Ac 0 b fun m=>Af m c fun o _=>A5 EE 3 o (.fv (.int .i64 1)) fun p=>IS p b c f j d g l a n
theorem Aoe (a:Aa) (n:Nat) (b c d e:IV) (f:Hp):Aw EE a ft.get n 60 [b,c,d,e] f=S60 a n b c d e f:=by kernel_rfl
def TB (b:IV) (a:Hp) (c:IV):OH :=
 Am b (An [.fv (.int .i64 3)] a) (A5 EE 3 c (.fv (.int .i64 13)) fun d=>Am d (An [.fv (.int .i64 4)] a) (An [.fv (.int .i64 (-1))] a))
def Ui (a:IV) (b:IV→Hp→OH) (c:Hp) (d:IV):OH :=
 Am a (b a c) (A5 EE 3 d (.fv (.int .i64 27)) fun e=>b e c)
def Rn (c:IV) (b:Hp) (a:IV):OH :=
 Am c (An [.fv (.int .i64 2)] b) ((fun (d:IV→Hp→OH)=>A5 EE 3 a (.fv (.int .i64 7)) fun e=>Ui e d b a) fun f g=>TB f g a)
def TA (a:IV) (b:IV→Hp→OH) (c:Hp):OH :=
 A5 EE 3 a (.fv (.int .i64 28)) fun d=>Am d (b d c) (A5 EE 3 a (.fv (.int .i64 29)) fun e=>b e c)
def Tg (a:IV) (b:IV→Hp→OH) (c:Hp):OH :=
 A5 EE 3 a (.fv (.int .i64 22)) fun d=>Am d (b d c) (A5 EE 3 a (.fv (.int .i64 26)) fun e=>Am e (b e c) (TA a b c))
def Up (a:IV) (b:IV→Hp→OH) (c:Hp):OH :=
 A5 EE 3 a (.fv (.int .i64 20)) fun d=>Am d (b d c) (A5 EE 3 a (.fv (.int .i64 21)) fun e=>Am e (b e c) (Tg a b c))
def Uc (a:IV) (b:IV→Hp→OH) (c:Hp):OH :=
 A5 EE 3 a (.fv (.int .i64 16)) fun d=>Am d (b d c) (A5 EE 3 a (.fv (.int .i64 17)) fun e=>Am e (b e c) (Up a b c))
def TP (a:IV) (b:IV→Hp→OH) (c:Hp):OH :=
 A5 EE 3 a (.fv (.int .i64 5)) fun d=>Am d (b d c) (A5 EE 3 a (.fv (.int .i64 6)) fun e=>Am e (b e c) (Uc a b c))
def Rm (c:IV) (a:IV→Hp→OH) (b:Hp) (d:IV):OH :=
 Am c (a c b) (A5 EE 3 d (.fv (.int .i64 4)) fun e=>Am e (a e b) (TP d a b))
def Tu (c:IV) (b:Hp) (a:IV):OH :=
 Am c (An [.fv (.int .i64 1)] b) ((fun (d:IV→Hp→OH)=>A5 EE 3 a (.fv (.int .i64 3)) fun e=>Rm e d b a) fun f g=>Rn f g a)
def Ua (a:IV) (b:IV→Hp→OH) (c:Hp):OH :=
 A5 EE 3 a (.fv (.int .i64 24)) fun d=>Am d (b d c) (A5 EE 3 a (.fv (.int .i64 30)) fun e=>b e c)
def RZ (a:IV) (b:IV→Hp→OH) (c:Hp):OH :=
 A5 EE 3 a (.fv (.int .i64 19)) fun d=>Am d (b d c) (A5 EE 3 a (.fv (.int .i64 23)) fun e=>Am e (b e c) (Ua a b c))
def SC (a:IV) (b:IV→Hp→OH) (c:Hp):OH :=
 A5 EE 3 a (.fv (.int .i64 12)) fun d=>Am d (b d c) (A5 EE 3 a (.fv (.int .i64 18)) fun e=>Am e (b e c) (RZ a b c))
def RU (c:IV) (a:IV→Hp→OH) (b:Hp) (d:IV):OH :=
 Am c (a c b) (A5 EE 3 d (.fv (.int .i64 9)) fun e=>Am e (a e b) (SC d a b))
def Re (c:IV) (b:Hp) (a:IV):OH :=
 Am c (An [.fv (.int .i64 0)] b) ((fun (d:IV→Hp→OH)=>A5 EE 3 a (.fv (.int .i64 8)) fun e=>RU e d b a) fun f g=>Tu f g a)
def Ta (a:IV) (b:IV→Hp→OH) (c:Hp):OH :=
 A5 EE 3 a (.fv (.int .i64 25)) fun d=>b d c
def RQ (a:IV) (b:IV→Hp→OH) (c:Hp):OH :=
 A5 EE 3 a (.fv (.int .i64 14)) fun d=>Am d (b d c) (A5 EE 3 a (.fv (.int .i64 15)) fun e=>Am e (b e c) (Ta a b c))
def TY (a:IV) (b:IV→Hp→OH) (c:Hp):OH :=
 A5 EE 3 a (.fv (.int .i64 10)) fun d=>Am d (b d c) (A5 EE 3 a (.fv (.int .i64 11)) fun e=>Am e (b e c) (RQ a b c))
def S61 (h:Aa) (n:Nat) (a:IV) (b:Hp):OH :=
 (fun (c:IV→Hp→OH)=>A5 EE 3 a (.fv (.int .i64 1)) fun d=>Am d (c d b) (A5 EE 3 a (.fv (.int .i64 2)) fun e=>Am e (c e b) (TY a c b))) fun f g=>Re f g a
theorem Aqo (a:Aa) (n:Nat) (b:IV) (c:Hp):Aw EE a ft.get n 61 [b] c=S61 a n b c:=by kernel_rfl
def AhS (a:Hp) (b c:IV):OH :=
 Ab b true a (fun d=>leS EE 3 c (.fv (.int .i64 3000)) fun e=>d e a [] []) fun f g _ _=>AG b f (.fv (.bool false)) fun h=>An [h] g
def AiB (b:IV) (c:Hp):OH :=
 geS EE 3 b (.fv (.int .i64 0)) fun a=>Ab a true c (fun e=>e b c [] []) fun f d _ _=>Ab a true d (fun g=>leS EE 3 f (.fv (.int .i64 2)) fun h=>g h d [] []) fun i j _ _=>AG a i (.fv (.bool false)) fun k=>An [k] j
def AgZ (a:Hp) (b c:IV):OH :=
 Ab b true a (fun d=>leS EE 3 c (.fv (.int .i64 4)) fun e=>d e a [] []) fun f g _ _=>AG b f (.fv (.bool false)) fun h=>An [h] g
def AfP (a:IV) (b:Hp):OH :=
 A5 EE 3 a (.fv (.int .i64 0)) fun c=>An [c] b
def AhD (c b:IV) (a:Hp):OH :=
 A5 EE 3 c (.fv (.int .i64 26)) fun e=>Am e (geS EE 3 b (.fv (.int .i64 0)) fun d=>Ab d true a (fun f=>f b a [] []) fun g h _ _=>AgZ h d g) (A5 EE 3 c (.fv (.int .i64 25)) fun i=>Am i (An [.fv (.bool true)] a) (AfP b a))
def S62 (j:Aa) (n:Nat) (c a:IV) (b:Hp):OH :=
 A5 EE 3 c (.fv (.int .i64 1)) fun e=>Am e (geS EE 3 a (.fv (.int .i64 0)) fun d=>Ab d true b (fun f=>f a b [] []) fun g h _ _=>AhS h d g) (A5 EE 3 c (.fv (.int .i64 2)) fun i=>Am i (AiB a b) (AhD c a b))
theorem AnT (a:Aa) (n:Nat) (b c:IV) (d:Hp):Aw EE a ft.get n 62 [b,c] d=S62 a n b c d:=by kernel_rfl
end
end Idl
end Go.Proofs.Ytaifgaidaglblaa

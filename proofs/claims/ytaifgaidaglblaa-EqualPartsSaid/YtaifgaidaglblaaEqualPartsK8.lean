/-
  Texts of a proof, part 8: an ideal semantics of the program, its functions in shallow form, contracts of them. No statement of the seat is proved here.
-/
import Derived.Test.YtaifgaidaglblaaEqualPartsK7
set_option linter.all false
noncomputable section
set_option maxRecDepth 100000
set_option linter.unusedVariables false
namespace Go.Proofs.Ytaifgaidaglblaa
namespace Idl
noncomputable section
abbrev OH:=Option (IV×Hp)
abbrev AG:=List Ref
abbrev iq (n:Int):IV:=.fv (.int .i64 n)
def AiZ (a:Hp) (b c:IV):OH :=
 Ab b true a (fun d=>A4 EE 37 c (.fv (.int .i64 0)) fun e=>d e a [] []) fun f g _ _=>AH b f (.fv (.bool false)) fun h=>An [h] g
def Aic (a:Hp) (b g h i:IV):OH :=
 Ab b true a (fun j=>A4 EE 37 g (.fv (.int .i64 0)) fun k=>j k a [] []) fun l c _ _=>AH b l (.fv (.bool false)) fun d=>Ab d true c (fun m=>m h c [] []) fun n e _ _=>AH d n (.fv (.bool false)) fun f=>Ab f true e (fun o=>o i e [] []) fun p q _ _=>AiZ q f p
def Ag0 (a:Hp) (b g h i j k:IV):OH :=
 Ab b true a (fun l=>A4 EE 37 g (.fv (.int .i64 0)) fun m=>l m a [] []) fun n c _ _=>AH b n (.fv (.bool false)) fun d=>Ab d true c (fun o=>o h c [] []) fun p e _ _=>AH d p (.fv (.bool false)) fun f=>Ab f true e (fun q=>q i e [] []) fun r s _ _=>Aic s f r j k
def Agv (a:Hp) (e:IV) (f:Aa) (g b h i j:IV):OH :=
 Aj 3 e a fun k _=>Al [] false false f 16 [g,k] a fun c d _ _=>AQ 0 c fun l=>AQ 1 c fun m=>Ab b true d (fun n=>n h d [] []) fun o p _ _=>Ag0 p b o i j l m
def AgH (a:Hp) (f:IV) (b:Aa) (g c h i:IV):OH :=
 Aj 3 f a fun j _=>Al [] false false b 16 [g,j] a fun d e _ _=>AQ 0 d fun k=>AQ 1 d fun l=>Aj 3 c e fun m _=>Agv e c b m h i k l
def AgP (a:Hp) (e:IV) (b:Aa) (f g h i:IV):OH :=
 Aj 3 e a fun j _=>Al [] false false b 16 [f,j] a fun c d _ _=>AQ 0 c fun k=>AQ 1 c fun l=>Aj 3 g d fun m _=>AgH d h b m i k l
def AfL (d:Hp) (e f:IV) (b:Aa) (g c h i j:IV):OH :=
 Ak 3 e f d fun k _ _=>Al [] false false b 15 [g] k fun l a _ _=>Am l (An [.fv (.bool true)] a) (Aj 3 c a fun m _=>AgP a h b m i j c)
def AgM (a:Hp) (b:IV) (c:Aa) (e f g:IV):OH :=
 Aj 3 b a fun h _=>Al [] false false c 17 [h] a fun d i _ _=>AQ 0 d fun j=>AQ 1 d fun k=>AJ 4204549 (.row [.fv (.int .i64 0),.fv (.int .i64 0),.nils] false) (.ptr (.own 4204549) 0) i fun l m _ _=>AfL m l j c k e f b g
def AjA (c d e f g h i j k l m n:AG) (o:Hp) (a p b q:IV) (r:Aa) (s t:IV):OH :=
 Ad [(e,f),(g,h),(i,[]),(j,[]),(k,l),(m,[]),(n,[])] c d (Ak 3 a p o fun u v w=>Ad [] v w (Ak 3 b q u fun x y z=>Ad [] y z (AgM x a r s t b)))
def Ah4 (c:Aa) (l:Hp) (m n o:IV) (d e f g h i:AG) (p q r:IV):OH :=
 Al [] false false c 19 [m,n,o] l fun s t a b=>Ad [] a b (AJ 4203528 (.row [.fv (.int .i64 0),.fv (.int .i64 0),.nils] false) (.ptr (.own 4203528) 0) t fun u v j k=>Ad [(a,b),(d,[]),(e,[]),(f,g),(h,[]),(i,[])] j k (AJ 4203529 (.row [.fv (.int .i64 0),.fv (.int .i64 0),.nils] false) (.ptr (.own 4203529) 0) v fun w x y z=>AjA y z j k a b d e f g h i x u p w s c q r))
def AhO (a b:AG) (c:Hp) (i:IV) (d e:AG) (g:IV) (j:Aa) (k l m:IV):OH :=
 Ad [] a b (Aj 3 i c fun n f=>Ad [(a,b),(d,[]),(e,[])] f [] (Aj 3 g c fun o h=>Ad [(f,[]),(a,b),(d,[]),(e,[])] h [] (Ah4 j c n o k h f a b d e l m g)))
def Aga (a:Hp) (c d:IV) (e:Aa) (f h:IV):OH :=
 Aj 3 c a fun i b=>Ad [] b [] (Aj 3 d a fun j g=>Ad [(b,[])] g [] (Al [] false false e 19 [i,j,f] a fun k l m n=>AhO m n l c g b h e f k d))
def AjI (b:Hp) (a c:IV) (d:Aa) (h i j:IV):OH :=
 Ab a false b (fun k=>Aj 3 c b fun l m=>k l b m []) fun n e _ _=>Ab a false e (fun o=>Al [] false false d 18 [n] e o) fun p f _ _=>Ab a false f (fun q=>L0 EE 3 p (.fv (.int .i64 500)) fun r=>q r f [] []) fun s g _ _=>AH a (.fv (.bool true)) s fun t=>Am t (An [.fv (.bool true)] g) (Aga g h i d j c)
def AiF (g h:IV) (b:Hp) (c:IV) (d:Aa) (i j k:IV):OH :=
 AH g (.fv (.bool true)) h fun a=>Ab a false b (fun l=>Aj 3 c b fun m n=>l m b n []) fun o e _ _=>Ab a false e (fun p=>Al [] false false d 18 [o] e p) fun q f _ _=>Ab a false f (fun r=>L0 EE 3 q (.fv (.int .i64 500)) fun s=>r s f [] []) fun t u _ _=>AH a (.fv (.bool true)) t fun v=>AjI u v i d j c k
def Ajz (f:Hp) (g h i:IV) (b:Aa) (j k l:IV):OH :=
 AJ 4200453 (.row [.fv (.int .i64 0),.fv (.int .i64 0),.nils] false) (.ptr (.own 4200453) 0) f fun c m _ _=>Ak 3 c g m fun d _ _=>C9 (Nq .not h) fun a=>Ab a false d (fun n=>n i d [] []) fun o e _ _=>Ab a false e (fun p=>Al [] false false b 15 [o] e p) fun q r _ _=>AiF a q r j b c k l
def Ajm (e:Hp) (a f:IV) (b:Aa) (g h i:IV):OH :=
 Ak 3 a f e fun c _ _=>Aj 3 a c fun j _=>Al [] false false b 17 [j] c fun d k _ _=>AQ 0 d fun l=>AQ 1 d fun m=>Ajz k l g m b a h i
def Af0 (a:IV) (c:Hp) (d:IV) (e:Aa) (f:IV):OH :=
 AQ 2 a fun g=>AQ 3 a fun h=>AJ 4199433 (.row [.fv (.int .i64 0),.fv (.int .i64 0),.nils] false) (.ptr (.own 4199433) 0) c fun b i _ _=>AJ 4199434 (.row [.fv (.int .i64 0),.fv (.int .i64 0),.nils] false) (.ptr (.own 4199434) 0) i fun j k _ _=>Ak 3 b d k fun l _ _=>Ajm l j g e h b f
def Ajk (a:Hp) (d e:IV) (c:Aa) (f g:IV):OH :=
 Aj 3 d a fun h _=>Aj 3 e a fun i _=>Al [] false false c 13 [f,h,i,.fv (.bool false)] a fun b j _ _=>AQ 0 b fun _=>AQ 1 b fun k=>Af0 b j k c g
def AjK (b:Hp) (a c:IV) (d:Aa) (h i j:IV):OH :=
 Ab a false b (fun k=>Aj 3 c b fun l m=>k l b m []) fun n e _ _=>Ab a false e (fun o=>Al [] false false d 12 [n] e o) fun p f _ _=>Ab a false f (fun q=>C9 (Nq .not p) fun r=>q r f [] []) fun s g _ _=>AH a (.fv (.bool true)) s fun t=>Am t (An [.fv (.bool true)] g) (Ajk g h c d i j)
def Agy (g:IV) (b:Hp) (c:IV) (d:Aa) (h i j:IV):OH :=
 C9 (Nq .not g) fun a=>Ab a false b (fun k=>Aj 3 c b fun l m=>k l b m []) fun n e _ _=>Ab a false e (fun o=>Al [] false false d 12 [n] e o) fun p f _ _=>Ab a false f (fun q=>C9 (Nq .not p) fun r=>q r f [] []) fun s t _ _=>AH a (.fv (.bool true)) s fun u=>AjK t u h d c i j
def S4 (a:Aa) (n:Nat) (b d e f:IV) (g:Hp):OH :=
 A3 4194304 d g fun h i _ _=>A3 4194305 e i fun j k _ _=>Al [] false false a 10 [] k fun l c _ _=>C9 (Nq .not l) fun m=>Am m (An [.fv (.bool false)] c) (Al [] false false a 11 [b] c fun o p _ _=>Agy o p h a j b f)
theorem ArY (a:Aa) (n:Nat) (b c d e:IV) (f:Hp):Ax EE a ft.get n 4 [b,c,d,e] f=S4 a n b c d e f:=by kernel_rfl
def Am1 (a b:IV) (c:Hp):OH :=
 AH a b (.fv (.bool false)) fun d=>An [d] c
def Ao1 (c:Hp) (a g h:IV):OH :=
 Ab a true c (fun i=>i g c [] []) fun j d _ _=>Ab a true d (fun k=>C9 (Nq .not j) fun l=>k l d [] []) fun m e _ _=>AH a m (.fv (.bool false)) fun b=>Ab b true e (fun n=>n h e [] []) fun o f _ _=>Ab b true f (fun p=>A4 EE 37 o (.fv (.int .i64 0)) fun q=>p q f [] []) fun r s _ _=>Am1 b r s
def Aky (b:IV) (c:Hp) (a e:IV):OH :=
 AQ 0 b fun f=>AQ 1 b fun g=>Ab a true c (fun h=>h e c [] []) fun i d _ _=>Ab a true d (fun j=>A4 EE 37 i (.fv (.int .i64 0)) fun k=>j k d [] []) fun l m _ _=>AH a l (.fv (.bool false)) fun n=>Ao1 m n f g
def Amd (b:IV) (a:Aa) (c:Hp):OH :=
 AQ 0 b fun d=>AQ 1 b fun e=>Al [] false false a 29 [.fv (.int .i64 1)] c fun f g _ _=>Al [] false false a 29 [.fv (.int .i64 2)] g fun h i _ _=>Al [] false false a 16 [f,h] i fun j k _ _=>Aky j k d e
def Akc (c d b:AG) (a:Aa) (e:Hp) (f g:IV):OH :=
 Ad [(b,[])] c d (Al [] false false a 24 [.fv (.int .i64 4),f] e fun h i j k=>Ad [(b,[])] j k (Al [] false false a 16 [g,h] i fun l m n o=>Ad [] n o (Amd l a m)))
def Akb (c:Hp) (d e:IV) (a:AG) (b:Aa) (f g:IV):OH :=
 Az (Ah EE 29 2 [(0,d),(1,e)]) 10487812 c fun h i j k=>Ad [(a,[])] j k (Al [] false false b 24 [.fv (.int .i64 5),h] i fun l m n o=>Ad [(a,[])] n o (Az (Ah EE 29 2 [(0,f),(1,l)]) 10487814 m fun p q r s=>Akc r s a b q p g))
def AkI (c d a:AG) (b:Aa) (e:Hp) (f g:IV):OH :=
 Ad [(a,[])] c d (Al [] false false b 26 [.fv (.int .i64 1)] e fun h i j k=>Ad [(a,[])] j k (Al [] false false b 26 [.fv (.int .i64 0)] i fun l m n o=>Ad [(a,[])] n o (Akb m h l a b f g)))
def S10 (a:Aa) (n:Nat) (e:Hp):OH :=
 Al [] false false a 26 [.fv (.int .i64 0)] e fun f g _ _=>AJ 10486785 (.row [.fv (.int .i64 0),.fv (.int .i64 0),.nils] false) (.ptr (.own 10486785) 0) g fun b h _ _=>Ak 3 b f h fun c _ _=>Aj 3 b c fun i d=>Ad [] d [] (Al [] false false a 24 [.fv (.int .i64 10),.nils] c fun j k l m=>AkI l m d a k j i)
theorem Anw (a:Aa) (n:Nat) (b:Hp):Ax EE a ft.get n 10 [] b=S10 a n b:=by kernel_rfl
def MQ (a:IV) (b:List IV→Hp→OH) (c:Hp) (d:IV):OH :=
 Bw EE 3 a (.fv (.int .i64 1)) fun e=>b [d,e] c
def L4 (a b:IV) (c:Hp) (e:Aa) (f:List IV→Hp→OH):OH :=
 A8 3 a b fun g=>Aj 3 g c fun h _=>Al [] false false e 12 [h] c fun i d _ _=>C9 (Nq .not i) fun j=>Am j (An [.fv (.bool false)] d) (MQ b f d a)
def MH (a:IV) (b:Hp):OH :=
 BS a fun c=>leS EE 3 c (.fv (.int .i64 6)) fun d=>An [d] b
def OE (d:List IV) (b:Hp) (e:Aa) (f:List IV→Hp→OH):OH :=
 Ay d fun a g=>Ay g fun c _=>BS a fun h=>GP EE 3 c h fun i=>Am i (L4 a c b e f) (MH a b)
def S11 (a:Aa) (n:Nat) (b:IV) (c:Hp):OH :=
 BF n (fun d e f=>OE e f a d) [b,.fv (.int .i64 0)] c
theorem ApT (a:Aa) (n:Nat) (b:IV) (c:Hp):Ax EE a ft.get n 11 [b] c=S11 a n b c:=by kernel_rfl
def S12 (b:Aa) (n:Nat) (c:IV) (d:Hp):OH :=
 A3 12582912 c d fun e a _ _=>Aj 3 e a fun f _=>Al [] false false b 33 [f,.fv (.int .i64 300)] a fun g h _ _=>GP EE 3 g (.fv (.int .i64 300)) fun i=>An [i] h
theorem ApM (a:Aa) (n:Nat) (b:IV) (c:Hp):Ax EE a ft.get n 12 [b] c=S12 a n b c:=by kernel_rfl
def AcS (b c:AG) (a:Hp) (d e f:IV):OH :=
 Ad [] b c (Aw true 3 d a fun g=>Aw true 3 e a fun h=>An [f,g,h,.fv (.bool false)] a)
def AeC (c:Aa) (d:Hp) (e:AG) (a f b g:IV):OH :=
 Al [] false false c 36 [.fv (.int .i64 0)] d fun h i j k=>Ad [(e,[])] j k (Ak 3 a f i fun l m n=>Ad [] m n (Ak 3 b h l fun o p q=>AcS p q o a b g))
def AaY (b c:AG) (a:Hp) (d e f:IV):OH :=
 Ad [] b c (Aw true 3 d a fun g=>Aw true 3 e a fun h=>An [f,g,h,.fv (.bool true)] a)
def Aa2 (a:Hp) (e:IV) (f:AG) (b g c h:IV):OH :=
 Aj 3 e a fun i d=>Ad [(f,[])] d [] (Ak 3 b g a fun j k l=>Ad [(d,[])] k l (Ak 3 c i j fun m n o=>AaY n o m b c h))
def Zb (h i:IV) (a:Hp) (b:IV) (j:Aa) (c d e k:IV):OH :=
 AH h (.fv (.bool true)) i fun l=>Am l (Aj 3 b a fun m f=>Ad [] f [] (AeC j a f c m d e)) (Aj 3 b a fun n g=>Ad [] g [] (Aa2 a k g c n d e))
def Zr (g:Hp) (b h i:IV) (d:Aa) (j k l m:IV):OH :=
 Ak 3 b h g fun c _ _=>C9 (Nq .not i) fun a=>Ab a false c (fun n=>Aj 3 b c fun o p=>n o c p []) fun q e _ _=>Ab a false e (fun r=>Al [] false false d 27 [q] e r) fun s f _ _=>Ab a false f (fun t=>Hb EE 3 s (.fv (.int .i64 0)) fun u=>t u f [] []) fun v w _ _=>Zb a v w j d k l m b
def YV (a:Hp) (e:IV) (b:Aa) (c f g h i:IV):OH :=
 Aj 3 e a fun j _=>Al [] false false b 35 [c,f,j,.fv (.int .i64 5)] a fun d k _ _=>AQ 0 d fun l=>AQ 1 d fun m=>AJ 13635591 (.row [.fv (.int .i64 0),.fv (.int .i64 0),.nils] false) (.ptr (.own 13635591) 0) k fun n o _ _=>Zr o n l m b g h i c
def Yb (b:Hp) (e:IV) (c:Aa) (f g h i:IV):OH :=
 Aj 3 e b fun j _=>Al [] false false c 34 [j,.fv (.int .i64 2)] b fun k l _ _=>AJ 13634562 (.row [.fv (.int .i64 0),.fv (.int .i64 0),.nils] false) (.ptr (.own 13634562) 0) l fun a m _ _=>Ak 3 a k m fun d _ _=>Aj 3 a d fun n _=>YV d f c g n a h i
def Ad2 (b c:AG) (a:Hp) (d e f:IV):OH :=
 Ad [] b c (Aw true 3 d a fun g=>Aw true 3 e a fun h=>An [f,g,h,.fv (.bool false)] a)
def AbW (c:Aa) (d:Hp) (e:AG) (a f b g:IV):OH :=
 Al [] false false c 24 [.fv (.int .i64 11),.nils] d fun h i j k=>Ad [(e,[])] j k (Ak 3 a f i fun l m n=>Ad [] m n (Ak 3 b h l fun o p q=>Ad2 p q o a b g))
def AbG (b c:AG) (a:Hp) (d e f:IV):OH :=
 Ad [] b c (Aw true 3 d a fun g=>Aw true 3 e a fun h=>An [f,g,h,.fv (.bool true)] a)
def Ab9 (a:Hp) (e:IV) (f:AG) (b g c h:IV):OH :=
 Aj 3 e a fun i d=>Ad [(f,[])] d [] (Ak 3 b g a fun j k l=>Ad [(d,[])] k l (Ak 3 c i j fun m n o=>AbG n o m b c h))
def Zo (h i:IV) (a:Hp) (b:IV) (j:Aa) (c d e k:IV):OH :=
 AH h (.fv (.bool true)) i fun l=>Am l (Aj 3 b a fun m f=>Ad [] f [] (AbW j a f c m d e)) (Aj 3 b a fun n g=>Ad [] g [] (Ab9 a k g c n d e))
def AbA (g:Hp) (b h i:IV) (d:Aa) (j k l m:IV):OH :=
 Ak 3 b h g fun c _ _=>C9 (Nq .not i) fun a=>Ab a false c (fun n=>Aj 3 b c fun o p=>n o c p []) fun q e _ _=>Ab a false e (fun r=>Al [] false false d 27 [q] e r) fun s f _ _=>Ab a false f (fun t=>Hb EE 3 s (.fv (.int .i64 0)) fun u=>t u f [] []) fun v w _ _=>Zo a v w j d k l m b
def AbI (a:Hp) (e:IV) (b:Aa) (c f g h i:IV):OH :=
 Aj 3 e a fun j _=>Al [] false false b 23 [c,f,j,.fv (.int .i64 5)] a fun d k _ _=>AQ 0 d fun l=>AQ 1 d fun m=>AJ 13640711 (.row [.fv (.int .i64 0),.fv (.int .i64 0),.nils] false) (.ptr (.own 13640711) 0) k fun n o _ _=>AbA o n l m b g h i c
def YW (b:Hp) (f:IV) (c:Aa) (d g h i:IV):OH :=
 Aj 3 f b fun j _=>Al [] false false c 21 [d,j,.fv (.int .i64 2)] b fun k l _ _=>AJ 13639683 (.row [.fv (.int .i64 0),.fv (.int .i64 0),.nils] false) (.ptr (.own 13639683) 0) l fun a m _ _=>Ak 3 a k m fun e _ _=>Aj 3 a e fun n _=>AbI e g c d n a h i
def S13 (a:Aa) (n:Nat) (h i j k:IV) (l:Hp):OH :=
 A3 13631488 i l fun b m _ _=>A3 13631489 j m fun c o _ _=>AJ 13631491 (.row [.fv (.int .i64 0),.fv (.int .i64 0),.nils] false) (.ptr (.own 13631491) 0) o fun d p _ _=>AJ 13631492 (.row [.fv (.int .i64 0),.fv (.int .i64 0),.nils] false) (.ptr (.own 13631492) 0) p fun e q _ _=>Al [] false false a 20 [h] q fun f g _ _=>Am k (Yb g c a b f d e) (YW g c a f b d e)
theorem An5 (a:Aa) (n:Nat) (b c d e:IV) (f:Hp):Ax EE a ft.get n 13 [b,c,d,e] f=S13 a n b c d e f:=by kernel_rfl
def S15 (l:Aa) (n:Nat) (b:IV) (c:Hp):OH :=
 A4 EE 3 b (.fv (.int .i64 17)) fun a=>Ab a false c (fun e=>e b c [] []) fun f d _ _=>Ab a false d (fun g=>A4 EE 3 f (.fv (.int .i64 5)) fun h=>g h d [] []) fun i j _ _=>AH a (.fv (.bool true)) i fun k=>An [k] j
theorem ApH (a:Aa) (n:Nat) (b:IV) (c:Hp):Ax EE a ft.get n 15 [b] c=S15 a n b c:=by kernel_rfl
def Agp (a:AG) (b:Hp) (c:IV):OH :=
 Ad [] a [] (An [.fv (.bool false),c] b)
def Agj (a:AG) (b:Hp) (c:IV):OH :=
 Ad [] a [] (An [.fv (.bool false),c] b)
def Aht (a:Aa) (b:Hp) (c d:IV):OH :=
 Ed EE a (.fv (.func (.func 40) [] [])) [c,d] b fun e f _ _=>An [e,.fv (.int .i64 0)] f
def AfN (c b:IV) (a:Hp) (d:IV) (e:Aa):OH :=
 Hb EE 37 c (.fv (.int .i64 0)) fun f=>Am f (Ac 3 b fun g=>Af g a fun h i=>Agj i a h) (Aj 4 d a fun j _=>Aj 4 b a fun k _=>Aht e a j k)
def Ahs (d b:IV) (a:Hp) (c:IV) (e:Aa):OH :=
 Am d (Ac 3 b fun f=>Af f a fun g h=>Agp h a g) (Ac 3 c fun i=>Af i a fun j _=>AfN j c a b e)
def Ag5 (d:Hp) (a e b:IV) (f:Aa):OH :=
 Ak 4 a e d fun c g h=>Ad [] g h (Ac 3 b fun i=>Af i c fun j _=>Hb EE 37 j (.fv (.int .i64 0)) fun k=>Ahs k b c a f)
def AiD (a b c d e f g h:AG) (j:Hp) (i k l:IV) (m:Aa):OH :=
 Ad [(c,d),(e,[]),(f,g),(h,[])] a b (AJ 16778245 (.row [.fv (.int .i64 0),.fv (.int .i64 0),.nils,.fv (.int .i64 0)] false) (.ptr (.own 16778245) 0) j fun n o p q=>Ad [(a,b),(c,d),(e,[]),(f,g),(h,[])] p q (Ak 4 i k o fun r s t=>Ad [] s t (Ag5 r n l i m)))
def AhK (a:Hp) (i:IV) (b c d:AG) (e:Aa) (j:IV):OH :=
 Aj 3 i a fun k f=>Ad [(b,c),(d,[])] f [] (Al [] false false e 39 [k] a fun l m g h=>Ad [] g h (AJ 16778244 (.row [.fv (.int .i64 0),.fv (.int .i64 0),.nils,.fv (.int .i64 0)] false) (.ptr (.own 16778244) 0) m fun n o p q=>AiD p q g h f b c d o n j l e))
def S16 (a:Aa) (n:Nat) (f g:IV) (h:Hp):OH :=
 A3 16777216 f h fun i j _ _=>A3 16777217 g j fun k b _ _=>Aj 3 i b fun l c=>Ad [] c [] (Al [] false false a 39 [l] b fun m o d e=>Ad [] d e (AhK o k d e c a m))
theorem Anh (a:Aa) (n:Nat) (b c:IV) (d:Hp):Ax EE a ft.get n 16 [b,c] d=S16 a n b c d:=by kernel_rfl
def Wj (b c d:AG) (a:Hp) (e f:IV):OH :=
 Ad [(d,[])] b c (Aw true 3 e a fun g=>An [g,f] a)
def Xb (d:IV) (a:Hp) (b e:IV):OH :=
 AF d fun f=>Ac 2 f fun g=>Af g a fun h c=>Ad [] c [] (Ak 3 b e a fun i j k=>Wj j k c i b h)
def Ws (c:Hp) (a d:IV):OH :=
 Ak 3 a d c fun b _ _=>Aw true 3 a b fun e=>An [e,.fv (.int .i64 0)] b
def Xn (a:Hp) (c d b e:IV):OH :=
 Af c a fun f _=>Hb EE 3 f (.fv (.int .i64 0)) fun g=>Am g (BD [.fv (.int .i64 0),.fv (.int .i64 0),.nils] [] fun h=>Xb d a b h) (Aj 3 e a fun i _=>Ws a b i)
def Xl (c:Aa) (d:Hp) (a e f:IV):OH :=
 Al [true,false,false,false] false false c 41 [a,e,.fv (.int .i64 0),.fv (.int .i64 1)] d fun g h _ _=>AJ 17827845 (.row [.fv (.int .i64 0),.fv (.int .i64 0),.nils] false) (.ptr (.own 17827845) 0) h fun b i _ _=>Ak 3 b g i fun j _ _=>AF a fun k=>Ac 2 k fun l=>Xn j l a f b
def S17 (a:Aa) (n:Nat) (d:IV) (e:Hp):OH :=
 A3 17825792 d e fun f g _ _=>AJ 17825793 (.row [.fv (.int .i64 0),.fv (.int .i64 0),.nils] false) (.ptr (.own 17825793) 0) g fun h i _ _=>BD [.fv (.int .i64 0),.fv (.int .i64 0),.fv (.int .i64 0)] [] fun j=>A3 17826817 j i fun b c _ _=>Aj 3 f c fun k _=>Al [true,false,false] false false a 42 [b,k,.nils] c fun l m _ _=>Xl a m b l h
theorem AnP (a:Aa) (n:Nat) (b:IV) (c:Hp):Ax EE a ft.get n 17 [b] c=S17 a n b c:=by kernel_rfl
def Sc (a:IV) (b:List IV→Hp→OH) (c:Hp) (d e:IV):OH :=
 Bw EE 3 a (.fv (.int .i64 1)) fun f=>b [d,e,f] c
def QY (a:Hp) (c b:IV) (d:Aa) (e:IV) (f:List IV→Hp→OH) (g:IV):OH :=
 Af c a fun h _=>A8 3 h b fun i=>Aj 3 i a fun j _=>Al [] false false d 18 [j] a fun k l _ _=>Bw EE 3 e k fun m=>Sc b f l g m
def RU (e a b:IV) (c:Hp) (f:Aa) (d:IV) (g:List IV→Hp→OH):OH :=
 BS e fun h=>GP EE 3 a h fun i=>Am i (Ac 2 b fun j=>QY c j a f d g b) (An [d] c)
def Xj (c:List IV) (a:Hp) (d:Aa) (e:List IV→Hp→OH):OH :=
 Ay c fun b f=>Ay f fun g h=>Ay h fun i _=>Ac 2 b fun j=>Af j a fun k _=>RU k i b a d g e
def S18 (a:Aa) (n:Nat) (b:IV) (c:Hp):OH :=
 A3 18874368 b c fun d e _ _=>BF n (fun f g h=>Xj g h a f) [d,.fv (.int .i64 1),.fv (.int .i64 0)] e
theorem AoM (a:Aa) (n:Nat) (b:IV) (c:Hp):Ax EE a ft.get n 18 [b] c=S18 a n b c:=by kernel_rfl
def X0 (b c:AG) (a:Hp) (d:IV):OH :=
 Ad [] b c (Aw true 3 d a fun e=>An [e] a)
def AaD (b:Hp) (c d:IV) (e:Aa) (a:IV):OH :=
 Az (Ah EE 29 2 [(0,c),(1,d)]) 19927043 b fun f g h i=>Ad [] h i (Al [] false false e 24 [.fv (.int .i64 4),f] g fun j k l m=>Ad [] l m (Ak 3 a j k fun n o p=>X0 o p n a))
def AbP (a:AG) (b:Hp) (d:IV) (c:Aa) (e f:IV):OH :=
 Ad [] a [] (Aj 3 d b fun g h=>Ad [(a,[])] h [] (Al [] false false c 25 [g,.fv (.int .i64 1),.fv (.int .i64 0)] b fun i j k l=>Ad [(a,[])] k l (AaD j e i c f)))
def Ab4 (b c:AG) (a:Hp) (d:IV):OH :=
 Ad [] b c (Aw true 3 d a fun e=>An [e] a)
def AaJ (b:Hp) (c d e:IV) (f:Aa) (a:IV):OH :=
 Az (Ah EE 29 3 [(0,c),(1,d),(2,e)]) 19929094 b fun g h i j=>Ad [] i j (Al [] false false f 24 [.fv (.int .i64 7),g] h fun k l m n=>Ad [] m n (Ak 3 a k l fun o p q=>Ab4 p q o a))
def Acf (a b:AG) (c:Hp) (f:IV) (g h i j:AG) (d:Aa) (k l:IV):OH :=
 Ad [] a b (Aj 3 f c fun m e=>Ad [(a,b),(g,h),(i,[]),(j,[])] e [] (Al [] false false d 24 [.fv (.int .i64 11),.nils] c fun n o p q=>Ad [(e,[])] p q (AaJ o k m n d l)))
def AbV (a:Hp) (g:IV) (b:AG) (h:IV) (c:Aa) (i j:IV):OH :=
 Aj 3 g a fun k d=>Ad [(b,[])] d [] (Az (Ah EE 29 2 [(0,h),(1,k)]) 19929090 a fun l m e f=>Ad [] e f (Al [] false false c 24 [.fv (.int .i64 6),l] m fun n o p q=>Acf p q o i e f d b c n j))
def AdM (b c:AG) (a:Hp) (d:IV):OH :=
 Ad [] b c (Aw true 3 d a fun e=>An [e] a)
def AbF (b:Hp) (c d:IV) (e:Aa) (a:IV):OH :=
 Az (Ah EE 29 2 [(0,c),(1,d)]) 19931141 b fun f g h i=>Ad [] h i (Al [] false false e 24 [.fv (.int .i64 5),f] g fun j k l m=>Ad [] l m (Ak 3 a j k fun n o p=>AdM o p n a))
def Aer (a b:AG) (c:Aa) (g:Hp) (h i:IV) (j k l:AG) (m:IV):OH :=
 Ad [] a b (Al [] false false c 24 [.fv (.int .i64 4),h] g fun n d e f=>Ad [] e f (Aj 3 i d fun o p=>Ad [(e,f),(a,b),(j,k),(l,[])] p [] (AbF d n o c m)))
def Yv (b:Hp) (f:IV) (c:Aa) (g h:IV):OH :=
 Aj 3 f b fun i a=>Ad [] a [] (Al [] false false c 26 [.fv (.int .i64 0)] b fun j k d e=>Ad [(a,[])] d e (Az (Ah EE 29 2 [(0,i),(1,j)]) 19931138 k fun l m n o=>Aer n o c m l g d e a h))
def AcG (c:Aa) (d:Hp) (e a:IV):OH :=
 Al [] false false c 24 [.fv (.int .i64 13),e] d fun f g h i=>Ad [] h i (Ak 3 a f g fun b j k=>Ad [] j k (Aw true 3 a b fun l=>An [l] b))
def AcB (c d a:AG) (b:Aa) (e:Hp) (f g h i:IV):OH :=
 Ad [(a,[])] c d (Al [] false false b 29 [.fv (.int .i64 1)] e fun j k l m=>Ad [(a,[])] l m (Az (Ah EE 29 4 [(0,f),(1,g),(2,h),(3,j)]) 19933189 k fun n o p q=>Ad [] p q (AcG b o n i)))
def Yx (a:Aa) (f:Hp) (g h:IV) (i:AG) (j:IV):OH :=
 Al [] false false a 25 [g,.fv (.int .i64 1),.fv (.int .i64 0)] f fun k b c d=>Ad [] c d (Aj 3 h b fun l e=>Ad [(c,d),(i,[])] e [] (Al [] false false a 26 [.fv (.int .i64 0)] b fun m n o p=>AcB o p e a n k l m j))
def Aeo (a:Hp) (b:IV):OH :=
 Aw true 3 b a fun c=>An [c] a
def Ad5 (b c:AG) (d:Aa) (e:Hp) (f a:IV):OH :=
 Ad [] b c (Al [] false false d 24 [.fv (.int .i64 8),f] e fun g h i j=>Ad [] i j (Ak 3 a g h fun k l m=>Ad [] l m (Aeo k a)))
def AdR (b:Hp) (c d e:IV) (a:Aa) (f:IV):OH :=
 Az (Ah EE 29 3 [(0,c),(1,d),(2,e)]) 19934214 b fun g h i j=>Ad [] i j (Al [] false false a 24 [.fv (.int .i64 7),g] h fun k l m n=>Ad [] m n (Az (Ah EE 29 1 [(0,k)]) 19934216 l fun o p q r=>Ad5 q r a p o f))
def Zi (a b:AG) (c:Hp) (f:IV) (g h i j:AG) (d:Aa) (k l:IV):OH :=
 Ad [] a b (Aj 3 f c fun m e=>Ad [(a,b),(g,h),(i,[]),(j,[])] e [] (Al [] false false d 24 [.fv (.int .i64 11),.nils] c fun n o p q=>Ad [(e,[])] p q (AdR o k m n d l)))
def Aec (a:Hp) (g:IV) (b:AG) (h:IV) (c:Aa) (i j:IV):OH :=
 Aj 3 g a fun k d=>Ad [(b,[])] d [] (Az (Ah EE 29 2 [(0,h),(1,k)]) 19934210 a fun l m e f=>Ad [] e f (Al [] false false c 24 [.fv (.int .i64 6),l] m fun n o p q=>Zi p q o i e f d b c n j))
def Adv (h:IV) (a:Hp) (b:IV) (c:Aa) (d e i:IV):OH :=
 A4 EE 3 h (.fv (.int .i64 3)) fun j=>Am j (Aj 3 b a fun k f=>Ad [] f [] (Yx c a k d f e)) (Aj 3 b a fun l g=>Ad [] g [] (Aec a i g l c d e))
def Adp (i:IV) (a:Hp) (b f:IV) (c:Aa) (d e g:IV):OH :=
 Am i (Aj 3 b a fun j h=>Ad [] h [] (AbV a f h j c d e)) (A4 EE 3 g (.fv (.int .i64 2)) fun k=>Am k (Yv a b c d e) (Adv g a b c d e f))
def Yh (a:Aa) (g:Hp) (h d e f i:IV):OH :=
 Al [] false false a 28 [h,.fv (.int .i64 5)] g fun b c _ _=>A4 EE 3 b (.fv (.int .i64 0)) fun j=>Am j (Aj 3 d c fun k l=>AbP l c e a k f) (A4 EE 3 b (.fv (.int .i64 1)) fun m=>Adp m c i d a e f b)
def S19 (a:Aa) (n:Nat) (c d e:IV) (f:Hp):OH :=
 A3 19922944 c f fun g h _ _=>A3 19922945 d h fun i j _ _=>AJ 19922946 (.row [.fv (.int .i64 0),.fv (.int .i64 0),.nils] false) (.ptr (.own 19922946) 0) j fun k l _ _=>Al [] false false a 24 [.fv (.int .i64 10),.nils] l fun m o _ _=>AJ 19923969 (.row [.fv (.int .i64 0),.fv (.int .i64 0),.nils] false) (.ptr (.own 19923969) 0) o fun b p _ _=>Ak 3 b m p fun q _ _=>Yh a q e b i k g
theorem Aqb (a:Aa) (n:Nat) (b c d:IV) (e:Hp):Ax EE a ft.get n 19 [b,c,d] e=S19 a n b c d e:=by kernel_rfl
def Xf (d:IV) (e f:Hp) (a b:IV) (g:List IV→Hp→OH):OH :=
 Bw EE 3 d (.fv (.int .i64 1)) fun c=>Bf (e.own.map (·.1)) [20977674] [a,b,c] f fun h=>g [a,b,c] h
def VY (a:Aa) (b:Hp) (c d:IV) (e:IV→Hp→OH):OH :=
 Al [] false false a 22 [c,.fv (.int .i64 0),d] b fun f g _ _=>e f g
def Xv (d e:AG) (f:IV→Hp→OH) (g:IV) (a:Hp) (h:IV) (i:Aa) (b:IV):OH :=
 Ad [] d e ((fun (c:IV→Hp→OH)=>Am g (Aj 3 h a fun j _=>VY i a b j c) (c b a)) fun k l=>f k l)
def WV (a:IV) (c:Hp) (d e f g h:AG) (i:IV→Hp→OH) (j:Aa) (k:IV):OH :=
 AQ 0 a fun l=>AQ 1 a fun m=>AJ 20977674 (.row [.fv (.int .i64 0),.fv (.int .i64 0),.nils] false) (.ptr (.own 20977674) 0) c fun b n o p=>Ad [(d,e),(f,[]),(g,h)] o p (Ak 3 b l n fun q r s=>Xv r s i m q b j k)
def V4 (i j:IV) (a:Hp) (b c:AG) (d:Aa) (e k:IV) (l:IV→Hp→OH):OH :=
 A8 3 i j fun m=>Aj 3 m a fun n f=>Ad [(b,c)] f [] (Al [] false false d 23 [e,k,n,.fv (.int .i64 2)] a fun o p g h=>Ad [] g h (WV o p g h f b c l d e))
def WY (a:Aa) (c:Hp) (b d:IV) (e:IV→Hp→OH):OH :=
 Al [] false false a 21 [b,d,.fv (.int .i64 2)] c fun f g _ _=>Al [] false false a 22 [b,.fv (.int .i64 1),f] g fun h i _ _=>e h i
def Xu (i:IV) (a:Aa) (b:Hp) (c d e:IV) (f:IV→Hp→OH):OH :=
 Am i (Al [] false false a 24 [.fv (.int .i64 14),.nils] b fun j k g h=>Ad [] g h (V4 c d k g h a e j f)) (A8 3 c d fun l=>Aj 3 l b fun m _=>WY a b e m f)
def Wa (a b:IV) (c:Hp) (d:Aa) (e:IV) (f:IV→Hp→OH):OH :=
 A8 3 a b fun g=>Ac 1 g fun h=>Af h c fun i _=>Al [] false false d 43 [i,.fv (.int .i64 3)] c fun j k _ _=>A4 EE 3 j (.fv (.int .i64 0)) fun l=>Xu l d k a b e f
def Wv (c:Hp) (a b:IV) (h:Hp) (d:IV) (i:List IV→Hp→OH) (j:Aa) (e:IV):OH :=
 Ab a true c (fun k=>k b c [] []) fun l f _ _=>Ab a true f (fun m=>GP EE 3 l (.fv (.int .i64 4)) fun n=>m n f [] []) fun o g _ _=>AH a o (.fv (.bool false)) fun p=>Am p ((fun (q:IV→Hp→OH)=>Wa d b g j e q) fun r s=>Xf b h s d r i) (An [e] g)
def Ah0 (c:List IV) (d e:Hp) (f:List IV→Hp→OH) (g:Aa):OH :=
 Ay c fun a h=>Ay h fun i j=>Ay j fun b _=>BS a fun k=>GP EE 3 b k fun l=>Wv d l b e a f g i
def S20 (c:Aa) (n:Nat) (b:IV) (a:Hp):OH :=
 Bf (a.own.map (·.1)) [20977674] [b,.nils,.fv (.int .i64 0)] a fun d=>BF n (fun e f g=>Ah0 f g a e c) [b,.nils,.fv (.int .i64 0)] d
theorem Aqf (a:Aa) (n:Nat) (b:IV) (c:Hp):Ax EE a ft.get n 20 [b] c=S20 a n b c:=by kernel_rfl
def AbX (a:Hp) (b:IV):OH :=
 Aw true 3 b a fun c=>An [c] a
def YP (c:Aa) (d:Hp) (a:IV):OH :=
 Al [] false false c 24 [.fv (.int .i64 14),.nils] d fun e f _ _=>Ak 3 a e f fun b _ _=>Aw true 3 a b fun g=>An [g] b
def Aba (c:Hp) (d:IV) (e:Aa) (a:IV):OH :=
 Az (Ah EE 29 1 [(0,d)]) 22031362 c fun f g _ _=>Al [] false false e 24 [.fv (.int .i64 18),f] g fun h i _ _=>Ak 3 a h i fun b _ _=>Aw true 3 a b fun j=>An [j] b
def Ac3 (c:Aa) (d:Hp) (a:IV):OH :=
 Al [] false false c 45 [.fv (.int .i64 0)] d fun e f _ _=>Ak 3 a e f fun b _ _=>Aw true 3 a b fun g=>An [g] b
def AdG (c d:AG) (e:Hp) (a f:IV):OH :=
 Ad [] c d (Ak 3 a f e fun b g h=>Ad [] g h (Aw true 3 a b fun i=>An [i] b))
def AaO (a:Aa) (b:Hp) (c d e:IV) (f:AG) (g h:IV):OH :=
 Al [] false false a 21 [c,d,e] b fun i j k l=>Ad [(f,[])] k l (Az (Ah EE 29 2 [(0,g),(1,i)]) 22037513 j fun m n o p=>Ad [] o p (Al [] false false a 24 [.fv (.int .i64 3),m] n fun q r s t=>AdG s t r h q))
def Yc (b:Hp) (d:IV) (e f g a:AG) (c:Aa) (h i j k:IV):OH :=
 Aj 3 d b fun l m=>Ad [(e,f),(g,[]),(a,[])] m [] (Al [] false false c 46 [l,.fv (.int .i64 1)] b fun n o p q=>Ad [(a,[])] p q (Bd EE 3 h (.fv (.int .i64 1)) fun r=>AaO c o i n r a j k))
def Zh (a:AG) (b:Hp) (g:IV) (c:Aa) (h i j k l:IV):OH :=
 Ad [] a [] (Aj 3 g b fun m d=>Ad [(a,[])] d [] (Al [] false false c 22 [h,.fv (.int .i64 1),m] b fun n o e f=>Ad [(a,[])] e f (Yc o i e f d a c j n k l)))
def Acm (b:IV) (c:Aa) (f:Hp) (d g h i:IV):OH :=
 Bd EE 3 b (.fv (.int .i64 1)) fun j=>Al [] false false c 21 [d,g,j] f fun k l _ _=>AJ 22036486 (.row [.fv (.int .i64 0),.fv (.int .i64 0),.nils] false) (.ptr (.own 22036486) 0) l fun a m _ _=>Ak 3 a k m fun e _ _=>Aj 3 a e fun n o=>Zh o e a c d h b n i
def AaN (a:Hp) (b:IV):OH :=
 Aw true 3 b a fun c=>An [c] a
def Adm (b c:AG) (d:Aa) (e:Hp) (f a:IV):OH :=
 Ad [] b c (Al [] false false d 24 [.fv (.int .i64 6),f] e fun g h i j=>Ad [] i j (Ak 3 a g h fun k l m=>Ad [] l m (AaN k a)))
def AcM (c d a:AG) (e:IV) (b:Aa) (f:Hp) (g h i j:IV):OH :=
 Ad [(a,[])] c d (Bd EE 3 e (.fv (.int .i64 1)) fun k=>Al [] false false b 21 [g,h,k] f fun l m n o=>Ad [(a,[])] n o (Az (Ah EE 29 2 [(0,i),(1,l)]) 22040585 m fun p q r s=>Adm r s b q p j))
def Ad0 (a:Aa) (f:Hp) (g h:IV) (b:AG) (i:IV) (j:AG) (k l m:IV):OH :=
 Al [] false false a 22 [g,.fv (.int .i64 1),h] f fun n c d e=>Ad [(b,[])] d e (Aj 3 i c fun o p=>Ad [(d,e),(j,[]),(b,[])] p [] (Al [] false false a 46 [o,.fv (.int .i64 1)] c fun q r s t=>AcM s t b k a r n q l m))
def YG (e:Hp) (a f:IV) (g:Aa) (h i j k:IV):OH :=
 Ak 3 a f e fun b _ _=>Aj 3 a b fun l c=>Ad [] c [] (Aj 3 a b fun m d=>Ad [(c,[])] d [] (Ad0 g b h m c i d j l k))
def Z3 (b:Hp) (c:IV) (a:Aa) (d e f:IV):OH :=
 Aj 3 c b fun g _=>Al [] false false a 46 [g,.fv (.int .i64 0)] b fun h i _ _=>Bd EE 3 d (.fv (.int .i64 1)) fun j=>Al [] false false a 21 [e,h,j] i fun k l _ _=>AJ 22039558 (.row [.fv (.int .i64 0),.fv (.int .i64 0),.nils] false) (.ptr (.own 22039558) 0) l fun m n _ _=>YG n m k a e c d f
def AdI (a:Hp) (b:IV):OH :=
 Aw true 3 b a fun c=>An [c] a
def AaI (c:Aa) (d:Hp) (e a:IV):OH :=
 Al [] false false c 24 [.fv (.int .i64 18),e] d fun f g _ _=>Ak 3 a f g fun b _ _=>Aw true 3 a b fun h=>An [h] b
def Ab1 (d:IV) (c:Aa) (a:Hp) (b e:IV):OH :=
 C9 (Nq .not d) fun f=>Am f (Al [] false false c 44 [] a fun g h _ _=>Ak 3 b g h fun i _ _=>AdI i b) (Aj 3 e a fun j _=>Az (Ah EE 29 1 [(0,j)]) 22044673 a fun k l _ _=>AaI c l k b)
def AdQ (b:IV) (c:Hp) (d e f g h i j:AG) (k:IV) (l:Aa) (m:IV):OH :=
 AQ 1 b fun n=>AJ 22041610 (.row [.fv (.int .i64 0),.fv (.int .i64 0),.nils] false) (.ptr (.own 22041610) 0) c fun a o p q=>Ad [(d,e),(f,g),(h,[]),(i,j)] p q (Ak 3 a k o fun r s t=>Ad [] s t (Ab1 n l r m a))
def Ac6 (a b:AG) (g:IV) (c:Aa) (h:Hp) (i j k:IV) (l m n:AG) (o:IV):OH :=
 Ad [] a b (Bd EE 3 g (.fv (.int .i64 1)) fun p=>Al [] false false c 23 [i,j,k,p] h fun d q e f=>Ad [] e f (AQ 0 d fun r=>AdQ d q e f a b l m n r c o))
def Acv (a:Aa) (f:Hp) (g h i j:IV):OH :=
 Al [] false false a 24 [.fv (.int .i64 14),.nils] f fun k d b c=>Ad [] b c (Aj 3 g d fun l e=>Ad [(b,c)] e [] (Al [] false false a 46 [l,.fv (.int .i64 0)] d fun m n o p=>Ac6 o p h a n i k m e b c j))
def AcW (g:IV) (a:Hp) (b:IV) (c:Aa) (d e f h:IV):OH :=
 Am g (Aj 3 b a fun i _=>Al [] false false c 46 [i,.fv (.int .i64 0)] a fun j k _ _=>Acm d c k e j b f) (A4 EE 3 h (.fv (.int .i64 7)) fun l=>Am l (Z3 a b c d e f) (Acv c a b d e f))
def AdD (e:IV) (f:Aa) (g h i a:IV) (b:Hp):OH :=
 (fun (c:IV→Hp→OH)=>A4 EE 3 a (.fv (.int .i64 5)) fun d=>Am d (c d b) (A4 EE 3 a (.fv (.int .i64 6)) fun j=>c j b)) fun k l=>AcW k l e f g h i a
def Aax (c:IV) (a:Hp) (e:IV) (b:Aa) (d f g:IV):OH :=
 A4 EE 3 c (.fv (.int .i64 3)) fun h=>Am h (Aj 3 e a fun i _=>Al [] false false b 34 [i,.fv (.int .i64 1)] a fun j k _ _=>Aba k j b d) (A4 EE 3 c (.fv (.int .i64 4)) fun l=>Am l (Ac3 b a d) (AdD e b f g d c a))
def Yf (e:IV) (b:Aa) (c:Hp) (a d f g h:IV):OH :=
 Am e (Al [] false false b 44 [] c fun i j _ _=>Ak 3 a i j fun k _ _=>AbX k a) (A4 EE 3 d (.fv (.int .i64 2)) fun l=>Am l (YP b c a) (Aax d c f b a g h))
def AbN (e:Aa) (f a g h i:IV) (b:Hp):OH :=
 (fun (c:IV→Hp→OH)=>A4 EE 3 a (.fv (.int .i64 0)) fun d=>Am d (c d b) (A4 EE 3 a (.fv (.int .i64 1)) fun j=>c j b)) fun k l=>Yf k e l f a g h i
def Abk (a:IV) (b:IV→Hp→OH) (c:Hp):OH :=
 CQ EE 3 .rem a (.fv (.int .i64 5)) fun d=>b d c
def Acc (g:IV) (c:Hp) (a:IV) (d:IV→Hp→OH):OH :=
 leS EE 3 g (.fv (.int .i64 0)) fun b=>Ab b true c (fun h=>h a c [] []) fun i e _ _=>Ab b true e (fun j=>L0 EE 3 i (.fv (.int .i64 4)) fun k=>j k e [] []) fun l f _ _=>AH b l (.fv (.bool false)) fun m=>Am m (Abk a d f) (d a f)
def S21 (a:Aa) (n:Nat) (e f b:IV) (g:Hp):OH :=
 A3 22020096 f g fun c h _ _=>AJ 22020097 (.row [.fv (.int .i64 0),.fv (.int .i64 0),.nils] false) (.ptr (.own 22020097) 0) h fun i d _ _=>Ac 0 c fun j=>Af j d fun k _=>Al [] false false a 43 [k,.fv (.int .i64 9)] d fun l m _ _=>(fun (o:IV→Hp→OH)=>Acc b m l o) fun p q=>AbN a i p c b e q
theorem AqF (a:Aa) (n:Nat) (b c d:IV) (e:Hp):Ax EE a ft.get n 21 [b,c,d] e=S21 a n b c d e:=by kernel_rfl
def W4 (a b:AG) (c:Hp) (d:IV):OH :=
 Ad [] a b (An [d] c)
def We (e a b c d:AG) (f g:IV) (h:Hp) (i:IV):OH :=
 Ad [(a,b),(c,d)] e [] (BD [.fv (.int .i64 0),.fv (.int .i64 0),.fv (.int .i64 0),.nils] [(0,1,f),(1,3,g)] fun j=>Az (Ah EE 28 1 [(0,j)]) 23069702 h fun k l m n=>Ad [(a,b),(c,d)] m n (Az (A0 EE 23069703 false .append [28,28] [i,k]) 23069703 l fun o p q r=>W4 q r p o))
def S22 (r:Aa) (n:Nat) (f g h:IV) (i:Hp):OH :=
 A3 23068672 h i fun j k _ _=>Az (Ah EE 28 0 []) 23069696 k fun l m a b=>Ad [] a b (Az (A0 EE 23069698 false .append [28,28] [l,f]) 23069698 m fun o c d e=>Ad [] d e (Aj 3 j c fun p q=>We q d e a b g p c o))
theorem AmY (a:Aa) (n:Nat) (b c d:IV) (e:Hp):Ax EE a ft.get n 22 [b,c,d] e=S22 a n b c d e:=by kernel_rfl
def AcF (c:Hp) (a d:IV):OH :=
 Ak 3 a d c fun b _ _=>Aw true 3 a b fun e=>An [e,.fv (.bool false)] b
def AdU (a:Hp) (b c:IV):OH :=
 Aw true 3 b a fun d=>An [d,c] a
def Abe (c:Hp) (a d e:IV):OH :=
 Ak 3 a d c fun b _ _=>Aw true 3 a b fun f=>An [f,e] b
def Z6 (a:Hp) (c d:IV) (e:Aa) (f g h:IV):OH :=
 Aj 3 c a fun i _=>Aj 3 d a fun j _=>Al [] false false e 48 [f,i,j,g] a fun b k _ _=>AQ 0 b fun l=>AQ 1 b fun m=>Abe k h l m
def Ad3 (d:Aa) (e:Hp) (f g h i a:IV):OH :=
 Al [] false false d 49 [f,g,h,i] e fun b j _ _=>AQ 0 b fun k=>AQ 1 b fun l=>Ak 3 a k j fun c _ _=>Aw true 3 a c fun m=>An [m,l] c
def Abr (b c:AG) (a:Hp) (d e:IV):OH :=
 Ad [] b c (Aw true 3 d a fun f=>An [f,e] a)
def AaB (b:Hp) (c d:IV) (e:Aa) (a f:IV):OH :=
 Az (Ah EE 29 2 [(0,c),(1,d)]) 24133637 b fun g h i j=>Ad [] i j (Al [] false false e 24 [.fv (.int .i64 4),g] h fun k l m n=>Ad [] m n (Ak 3 a k l fun o p q=>Abr p q o a f))
def Aex (c:IV) (a:Hp) (d:IV) (e:AG) (f:Aa) (g h:IV):OH :=
 A8 3 c (.fv (.int .i64 0)) fun i=>Aj 3 i a fun j b=>Ad [] b [] (Aj 3 d a fun k l=>Ad [(b,[]),(e,[])] l [] (AaB a j k f g h))
def Aa7 (d:Hp) (a e f:IV) (g:Aa) (h i:IV):OH :=
 Ak 3 a e d fun b j k=>Ad [] j k (Ac 2 f fun l=>Af l b fun m c=>Ad [] c [] (Aex m b a c g h i))
def Aa3 (a b:AG) (c:IV) (d:Hp) (e f g h i j k l m:AG) (n:IV) (o:Aa) (p:IV):OH :=
 Ad [] a b (AQ 0 c fun q=>AQ 1 c fun r=>AJ 24132626 (.row [.fv (.int .i64 0),.fv (.int .i64 0),.nils] false) (.ptr (.own 24132626) 0) d fun s t u v=>Ad [(a,b),(e,f),(g,[]),(h,[]),(i,[]),(j,k),(l,[]),(m,[])] u v (Aa7 t s q n o p r))
def AeF (d a b e f g h:AG) (c:Aa) (k:Hp) (l m n o p q:IV):OH :=
 Ad [(a,[]),(b,[]),(e,f),(g,[]),(h,[])] d [] (Al [] false false c 46 [l,.fv (.int .i64 0)] k fun r s i j=>Ad [(a,[]),(b,[])] i j (Bd EE 3 m (.fv (.int .i64 1)) fun t=>Al [] false false c 23 [n,o,r,t] s fun u v w x=>Aa3 w x u v i j d a b e f g h p c q))
def Abw (f a b c d:AG) (h:IV) (e:Hp) (i:IV) (j:Aa) (k l m n:IV):OH :=
 Ad [(a,b),(c,[]),(d,[])] f [] (A8 3 h (.fv (.int .i64 1)) fun o=>Aj 3 o e fun p g=>Ad [(a,b),(c,[]),(d,[])] g [] (Aj 3 i e fun q r=>AeF r g f a b c d j e q k l p m n))
def YN (a:AG) (b:Aa) (g:Hp) (h i c:IV) (j:AG) (k l m:IV):OH :=
 Ad [] a [] (Al [] false false b 22 [h,.fv (.int .i64 1),i] g fun n d e f=>Ad [] e f (Ac 2 c fun o=>Af o d fun p q=>Abw q e f a j p d k b l n c m))
def AdC (b:IV) (a:Hp) (d:Aa) (e f g h:IV):OH :=
 Ac 2 b fun i=>Af i a fun j c=>Ad [] c [] (A8 3 j (.fv (.int .i64 0)) fun k=>Aj 3 k a fun l m=>YN m d a e l b c f g h)
def Zn (c:Hp) (a d e:IV):OH :=
 Ak 3 a d c fun b _ _=>Aw true 3 a b fun f=>An [f,e] b
def AbS (c:Hp) (d e f:IV) (g:Aa) (a h:IV):OH :=
 Az (Ah EE 29 3 [(0,d),(1,e),(2,f)]) 24139779 c fun i j _ _=>Al [] false false g 24 [.fv (.int .i64 7),i] j fun k l _ _=>Ak 3 a k l fun b _ _=>Aw true 3 a b fun m=>An [m,h] b
def Adu (c:Hp) (b d e f:IV) (g:Aa) (h i:IV):OH :=
 Ak 3 b d c fun a j k=>Ad [] j k (Aj 3 e a fun l _=>Aj 3 f a fun m _=>Aj 3 b a fun n _=>AbS a l m n g h i)
def YQ (a b:AG) (c:IV) (d:Hp) (e f g h i j k l:AG) (m n:IV) (o:Aa) (p:IV):OH :=
 Ad [] a b (AQ 0 c fun q=>AQ 1 c fun r=>AJ 24138767 (.row [.fv (.int .i64 0),.fv (.int .i64 0),.nils] false) (.ptr (.own 24138767) 0) d fun s t u v=>Ad [(a,b),(e,f),(g,[]),(h,i),(j,[]),(k,[]),(l,[])] u v (Adu t s q m n o p r))
def Yo (b c d e f g:AG) (a:Aa) (j:Hp) (k l m n o p q:IV):OH :=
 Ad [(c,d),(e,[]),(f,[]),(g,[])] b [] (Al [] false false a 46 [k,.fv (.int .i64 1)] j fun r s h i=>Ad [] h i (Bd EE 3 l (.fv (.int .i64 1)) fun t=>Al [] false false a 23 [m,n,r,t] s fun u v w x=>YQ w x u v h i b c d e f g o p a q))
def Aa1 (a:Hp) (b:IV) (c d:AG) (e:Aa) (j k l m n o:IV):OH :=
 Aj 3 b a fun p f=>Ad [(c,[]),(d,[])] f [] (Al [] false false e 50 [j,.fv (.int .i64 0),p] a fun q g h i=>Ad [] h i (Aj 3 k g fun r s=>Yo s h i f c d e g r l m q n b o))
def AaQ (a:Hp) (d e:IV) (f:Aa) (g h i j k:IV):OH :=
 Af d a fun l b=>Ad [] b [] (A8 3 l (.fv (.int .i64 1)) fun m=>Aj 3 m a fun n c=>Ad [] c [] (Aa1 a e c b f n g h i j k))
def ZV (e:Hp) (b f g h c i d:IV) (j:Aa) (k l m:IV):OH :=
 Ak 3 b f e fun a n o=>Ad [] n o (C9 (Nq .not g) fun p=>Am p (Aj 3 h a fun q _=>Zn a c q i) (Ac 2 d fun r=>AaQ a r b j k l m d c))
def ZX (a b:AG) (c:IV) (d:Hp) (e f g h i:AG) (j k l m:IV) (n:Aa) (o p q:IV):OH :=
 Ad [] a b (AQ 0 c fun r=>AQ 1 c fun s=>AJ 24135693 (.row [.fv (.int .i64 0),.fv (.int .i64 0),.nils] false) (.ptr (.own 24135693) 0) d fun t u v w=>Ad [(a,b),(e,f),(g,[]),(h,[]),(i,[])] v w (ZV u t r s j k l m n o p q))
def AdB (d a b:AG) (c:Aa) (i:Hp) (j e f k l m n o p:IV):OH :=
 Ad [(a,[]),(b,[])] d [] (Al [] false false c 46 [j,.fv (.int .i64 0)] i fun q r g h=>Ad [(a,[]),(b,[])] g h (Bd EE 3 e (.fv (.int .i64 1)) fun s=>Al [] false false c 23 [f,k,q,s] r fun t u v w=>ZX v w t u g h d a b l m n o c p e f))
def Y9 (b:AG) (e:IV) (a:Hp) (c:IV) (f:Aa) (g h i j k l:IV):OH :=
 Ad [] b [] (A8 3 e (.fv (.int .i64 0)) fun m=>Aj 3 m a fun n d=>Ad [] d [] (Aj 3 c a fun o p=>AdB p d b f a o g h n i j k l c))
def Aa8 (c:Hp) (d:IV) (e:Aa) (a f:IV):OH :=
 Az (Ah EE 29 1 [(0,d)]) 24142849 c fun g h _ _=>Al [] false false e 24 [.fv (.int .i64 19),g] h fun i j _ _=>Ak 3 a i j fun b _ _=>Aw true 3 a b fun k=>An [k,f] b
def Ac9 (c:Hp) (d e f g h i j:AG) (k:IV) (l:Aa) (m n:IV):OH :=
 AJ 24141837 (.row [.fv (.int .i64 0),.fv (.int .i64 0),.nils] false) (.ptr (.own 24141837) 0) c fun a o p q=>Ad [(d,e),(f,g),(h,[]),(i,[]),(j,[])] p q (Ak 3 a k o fun b r s=>Ad [] r s (Aj 3 a b fun t _=>Aa8 b t l m n))
def AcZ (e:IV) (a:Aa) (f:Hp) (g h i:IV) (j k l m n:AG) (o:IV):OH :=
 Bd EE 3 e (.fv (.int .i64 1)) fun p=>Al [] false false a 35 [g,h,i,p] f fun b q c d=>Ad [] c d (AQ 0 b fun r=>AQ 1 b fun s=>Ac9 q c d j k l m n r a o s)
def Acu (a:AG) (c:Hp) (h:IV) (b:AG) (d:Aa) (i j k l:IV):OH :=
 Ad [] a [] (Aj 3 h c fun m e=>Ad [(a,[]),(b,[])] e [] (Al [] false false d 46 [m,.fv (.int .i64 0)] c fun n o f g=>Ad [(a,[]),(b,[])] f g (AcZ i d o j k n f g e a b l)))
def Yu (c:IV) (a:Hp) (d:IV) (e:Aa) (f g h:IV):OH :=
 Ac 2 c fun i=>Af i a fun j b=>Ad [] b [] (A8 3 j (.fv (.int .i64 0)) fun k=>Aj 3 k a fun l m=>Acu m a d b e f g l h)
def Ac2 (a:Hp) (d b e:IV):OH :=
 Aj 3 d a fun f _=>Ak 3 b f a fun c _ _=>Aw true 3 b c fun g=>An [g,e] c
def Yj (d b:IV) (a:Hp) (e:IV) (f:Aa) (g h i c j:IV):OH :=
 A4 EE 3 d (.fv (.int .i64 6)) fun k=>Am k (Ac 2 b fun l=>Af l a fun m n=>Y9 n m a e f g h i c j b) (A4 EE 3 d (.fv (.int .i64 18)) fun o=>Am o (Yu b a e f g h c) (Ac2 a i c j))
def Abi (i:IV) (a:Hp) (b c:IV) (d:Aa) (e f g h j k:IV):OH :=
 Am i (Aj 3 b a fun l _=>Aj 3 c a fun m _=>Ad3 d a e l m f g) (A4 EE 3 h (.fv (.int .i64 3)) fun n=>Am n (AdC b a d e c f g) (Yj h b a c d f e j g k))
def AaE (a:IV) (b:IV→Hp→OH) (c:Hp):OH :=
 A4 EE 3 a (.fv (.int .i64 14)) fun d=>Am d (b d c) (A4 EE 3 a (.fv (.int .i64 2)) fun e=>b e c)
def AdA (c:IV) (a:Hp) (f:IV) (g:Aa) (h i j k l:IV):OH :=
 Ac 0 c fun m=>Af m a fun b _=>(fun (d:IV→Hp→OH)=>A4 EE 3 b (.fv (.int .i64 10)) fun e=>Am e (d e a) (AaE b d a)) fun n o=>Abi n o c f g h i j b k l
def AbQ (b:Hp) (a l:IV) (c:Aa) (d e f g h m n:IV):OH :=
 Ab a true b (fun o=>Af l b fun p q=>o p b q []) fun r i _ _=>Ab a true i (fun s=>Al [] false false c 43 [r,.fv (.int .i64 7)] i s) fun t j _ _=>Ab a true j (fun u=>A4 EE 3 t (.fv (.int .i64 6)) fun v=>u v j [] []) fun w k _ _=>AH a w (.fv (.bool false)) fun x=>Am x (Z6 k d e c f g h) (AdA d k e c f g h m n)
def Zy (h:IV) (a:Hp) (c b d e f:IV) (i:Aa) (j k:IV):OH :=
 Am h (Aj 3 c a fun l _=>Ak 3 b l a fun m _ _=>AdU m b d) (L0 EE 3 e (.fv (.int .i64 0)) fun g=>Ab g true a (fun n=>Ac 0 f fun o=>n o a [] []) fun p q _ _=>AbQ q g p i j f k e b c d)
def Z1 (c:Hp) (a g d h i j:IV) (k:Aa) (l m:IV):OH :=
 Ab a true c (fun n=>A4 EE 3 g (.fv (.int .i64 0)) fun o=>n o c [] []) fun p e _ _=>AH a p (.fv (.bool false)) fun b=>Ab b false e (fun q=>q d e [] []) fun r f _ _=>Ab b false f (fun s=>GP EE 3 r (.fv (.int .i64 (-4))) fun t=>s t f [] []) fun u v _ _=>AH b (.fv (.bool true)) u fun w=>Zy w v h i a d j k l m
def Aan (h:Hp) (i a c:IV) (d:Aa) (j k l m:IV):OH :=
 AJ 24121352 (.row [.fv (.int .i64 0),.fv (.int .i64 0),.nils] false) (.ptr (.own 24121352) 0) h fun e n _ _=>Ak 3 e i n fun f _ _=>Ab a true f (fun o=>Ac 0 c fun p=>o p f [] []) fun q b _ _=>Ab a true b (fun r=>Af q b fun s t=>r s b t []) fun u g _ _=>Ab a true g (fun v=>Al [] false false d 43 [u,.fv (.int .i64 3)] g v) fun w x _ _=>Z1 x a w j e k c d l m
def AbK (a:IV) (b:Hp) (c:Aa) (d f g h i:IV):OH :=
 Ac 1 a fun j=>Af j b fun k _=>Al [] false false c 47 [d,.fv (.int .i64 1),f,k] b fun e l _ _=>AQ 0 e fun m=>AQ 1 e fun n=>Aan l m n a c g h i d
def Adx (d:IV) (e:Hp) (a f c g:IV) (h:Aa) (i j:IV):OH :=
 AQ 1 d fun k=>Ak 3 a f e fun b _ _=>Hb EE 3 k (.fv (.int .i64 0)) fun l=>Am l (BD [.fv (.int .i64 0),.fv (.int .i64 0),.nils] [] fun m=>AcF b c m) (Aj 3 a b fun n _=>AbK g b h i n j c a)
def S23 (a:Aa) (n:Nat) (e f g h:IV) (i:Hp):OH :=
 A3 24117248 f i fun b j _ _=>A3 24117249 g j fun k l _ _=>AJ 24117250 (.row [.fv (.int .i64 0),.fv (.int .i64 0),.nils] false) (.ptr (.own 24117250) 0) l fun m c _ _=>Aj 3 b c fun o _=>Al [] false false a 17 [o] c fun d p _ _=>AQ 0 d fun q=>Adx d p b q m k a e h
theorem Am9 (a:Aa) (n:Nat) (b c d e:IV) (f:Hp):Ax EE a ft.get n 23 [b,c,d,e] f=S23 a n b c d e f:=by kernel_rfl
def S24 (i:Aa) (n:Nat) (c d:IV) (e:Hp):OH :=
 AJ 25165824 (.row [.fv (.int .i64 0),.fv (.int .i64 0),.nils] false) (.ptr (.own 25165824) 0) e fun a f _ _=>BD [.fv (.int .i64 0),.fv (.int .i64 0),.nils] [(0,1,c),(2,1,d)] fun g=>Ak 3 a g f fun b _ _=>Aw true 3 a b fun h=>An [h] b
theorem ApR (a:Aa) (n:Nat) (b c:IV) (d:Hp):Ax EE a ft.get n 24 [b,c] d=S24 a n b c d:=by kernel_rfl
def Gm (g:Hp) (h i j:IV) (k:Hp) (a b c d e:IV) (l:List IV→Hp→OH):OH :=
 BA h i g fun m n o=>Ad [] n o (Bw EE 3 j (.fv (.int .i64 1)) fun f=>Bf (k.own.map (·.1)) [26221584] [a,b,c,d,e,f] m fun p=>l [a,b,c,d,e,f] p)
def Gh (b:Hp) (c:IV) (d:AG) (e a f:IV) (g:Hp) (h i j k:IV) (l:List IV→Hp→OH):OH :=
 Az (Ah EE 29 1 [(0,c)]) 26221583 b fun m n o p=>Ad [(d,[])] o p (Az (A0 EE 26221584 false .append [29,29] [e,m]) 26221584 n fun q r s t=>Ad [] s t (Ac 2 a fun u=>Gm r u q f g h i j k a l))
def Gj (b:Aa) (f:Hp) (g c:IV) (h i a:AG) (d j e k l:IV) (m:Hp) (n o:IV) (p:List IV→Hp→OH):OH :=
 Al [] false false b 51 [g,c] f fun q r s t=>Ad [(h,[]),(i,[]),(a,[])] s t (Bw EE 3 d q fun u=>Al [] false false b 25 [j,e,u] r fun v w x y=>Ad [(a,[])] x y (Gh w v a k l c m e d n o p))
def Ge (a:Hp) (f:IV) (b:AG) (d:IV) (e:AG) (g:Aa) (h i j k l:IV) (m:Hp) (n:IV) (o:List IV→Hp→OH):OH :=
 Aj 3 f a fun p c=>Ad [(b,[])] c [] (Ac 0 d fun q=>Af q a fun r s=>Ad [(c,[]),(e,[]),(b,[])] s [] (Gj g a r h c e b i p j k l m d n o))
def Gl (a:AG) (b:IV) (c:Hp) (d:IV) (f:Aa) (g h i j:IV) (k:Hp) (l:IV) (m:List IV→Hp→OH):OH :=
 Ad [] a [] (Ac 2 b fun n=>Af n c fun o e=>Ad [(a,[])] e [] (A8 3 o d fun p=>Ge c p a b e f d g h i j k l m))
def Gc (a:Hp) (b:IV):OH :=
 Aw true 3 b a fun c=>An [c] a
def Ga (d b:IV) (a:Hp) (e f:IV) (g:Aa) (h i:IV) (j:Hp) (c:IV) (k:List IV→Hp→OH):OH :=
 Am d (Ac 2 b fun l=>Af l a fun m n=>Gl n e a f g h i m b j c k) (Aj 3 b a fun o _=>Ak 3 c o a fun p _ _=>Gc p c)
def Gt (d:List IV) (a:IV) (b:Hp) (e:IV) (f:Aa) (g h:IV) (i:Hp) (j:IV) (k:List IV→Hp→OH):OH :=
 Ay d fun c _=>Ac 2 a fun l=>Af l b fun m _=>BS m fun n=>GP EE 3 c n fun o=>Ga o e b a c f g h i j k
def Jk (a:List IV) (b:Hp) (c:Aa) (d:Hp) (e:List IV→Hp→OH):OH :=
 Ay a fun f g=>Ay g fun h i=>Ay i fun j k=>Ay k fun l m=>Ay m fun n o=>Gt o j b n c h f d l e
def Gk (a g:Hp) (b c d e f:IV) (n:Nat) (h:Aa):OH :=
 Bf (a.own.map (·.1)) [26221584] [b,c,d,e,f,.fv (.int .i64 0)] g fun i=>BF n (fun j k l=>Jk k l h a j) [b,c,d,e,f,.fv (.int .i64 0)] i
def Gd (a:Hp) (b c d:IV) (e:Hp→OH):OH :=
 Af b a fun f _=>Bw EE 3 f c fun g=>Ac 1 d fun h=>BA h g a fun i _ _=>e i
def Gf (a:Hp) (b e f g h i:IV) (c:Hp→OH):OH :=
 Ab b true a (fun j=>geS EE 3 e f fun k=>j k a [] []) fun l d _ _=>AH b l (.fv (.bool false)) fun m=>Am m (Ac 1 g fun n=>Gd d n h i c) (c d)
def Gx (b:Hp) (f d g h i:IV) (j:Hp→OH):OH :=
 Af f b fun k _=>A4 EE 3 k (.fv (.int .i64 1)) fun a=>Ab a true b (fun l=>Ac 1 d fun m=>l m b [] []) fun n c _ _=>Ab a true c (fun o=>Af n c fun p q=>o p c q []) fun r e _ _=>Ab a true e (fun s=>s g e [] []) fun t u _ _=>Gf u a r t d h i j
def Gn (e f:IV) (g h:Hp) (c d a i:IV) (n:Nat) (j:Aa):OH :=
 BD [.fv (.int .i64 0),.fv (.int .i64 0),.nils] [(0,1,e),(1,1,f)] fun k=>AJ 26215429 (.row [.fv (.int .i64 0),.fv (.int .i64 0),.nils] false) (.ptr (.own 26215429) 0) g fun b l _ _=>Ak 3 b k l fun m _ _=>(fun (o:Hp→OH)=>Ac 0 a fun p=>Gx m p a d c b o) fun q=>Gk h q c d a i b n j
def S25 (d:Aa) (n:Nat) (e f g:IV) (c:Hp):OH :=
 A3 26214400 e c fun a h _ _=>AJ 26214401 (.row [.fv (.int .i64 0),.fv (.int .i64 0),.nils] false) (.ptr (.own 26214401) 0) h fun i b _ _=>Ac 0 a fun j=>Af j b fun k _=>Ac 1 a fun l=>Af l b fun m _=>Gn k m b c f g a i n d
theorem AnY (a:Aa) (n:Nat) (b c d:IV) (e:Hp):Ax EE a ft.get n 25 [b,c,d] e=S25 a n b c d e:=by kernel_rfl
def S26 (h:Aa) (n:Nat) (c:IV) (d:Hp):OH :=
 AJ 27262976 (.row [.fv (.int .i64 0),.fv (.int .i64 0),.nils] false) (.ptr (.own 27262976) 0) d fun a e _ _=>BD [.fv (.int .i64 0),.fv (.int .i64 0),.nils] [(0,1,.fv (.int .i64 1)),(1,1,c)] fun f=>Ak 3 a f e fun b _ _=>Aw true 3 a b fun g=>An [g] b
theorem AoO (a:Aa) (n:Nat) (b:IV) (c:Hp):Ax EE a ft.get n 26 [b] c=S26 a n b c:=by kernel_rfl
def AhG (b:IV) (a:Hp):OH :=
 Ac 1 b fun c=>Af c a fun d _=>An [d] a
def S27 (c:Aa) (n:Nat) (d:IV) (e:Hp):OH :=
 A3 28311552 d e fun f g _ _=>BD [.fv (.int .i64 0),.fv (.int .i64 0)] [] fun h=>A3 28312577 h g fun a b _ _=>Aj 3 f b fun i _=>Al [true,false,false] false false c 52 [a,i,.fv (.int .i64 1)] b fun _ j _ _=>AF a fun k=>AhG k j
theorem AnC (a:Aa) (n:Nat) (b:IV) (c:Hp):Ax EE a ft.get n 27 [b] c=S27 a n b c:=by kernel_rfl
def S28 (j:Aa) (n:Nat) (e b:IV) (c:Hp):OH :=
 CQ EE 3 .rem e b fun a=>(fun (d:IV→Hp→OH)=>GP EE 3 a (.fv (.int .i64 0)) fun f=>Am f (Bw EE 3 a b fun g=>d g c) (d a c)) fun h i=>An [h] i
theorem Ao3 (a:Aa) (n:Nat) (b c:IV) (d:Hp):Ax EE a ft.get n 28 [b,c] d=S28 a n b c d:=by kernel_rfl
def RY (b:Aa) (c:Hp) (d a e:IV) (f:List IV→Hp→OH) (g h:IV):OH :=
 Al [] false false b 24 [.fv (.int .i64 12),d] c fun i j _ _=>Ak 3 a i j fun k _ _=>Bw EE 3 e (.fv (.int .i64 1)) fun l=>f [g,h,a,l] k
def TE (a:Hp) (b:IV):OH :=
 Aw true 3 b a fun c=>An [c] a
def RA (d:IV) (a:Hp) (b:IV) (e:Aa) (f:IV) (g:List IV→Hp→OH) (h c:IV):OH :=
 Am d (Aj 3 b a fun i _=>Az (Ah EE 29 1 [(0,i)]) 30413825 a fun j k _ _=>RY e k j b f g h c) (Aj 3 b a fun l _=>Ak 3 c l a fun m _ _=>TE m c)
def V7 (c:List IV) (d:Hp) (e:Aa) (f:List IV→Hp→OH):OH :=
 Ay c fun a g=>Ay g fun h i=>Ay i fun j k=>Ay k fun b _=>GP EE 3 b a fun l=>RA l d j e b f a h
def S29 (a:Aa) (n:Nat) (c:IV) (d:Hp):OH :=
 AJ 30408704 (.row [.fv (.int .i64 0),.fv (.int .i64 0),.nils] false) (.ptr (.own 30408704) 0) d fun e f _ _=>Al [] false false a 24 [.fv (.int .i64 11),.nils] f fun g h _ _=>AJ 30409729 (.row [.fv (.int .i64 0),.fv (.int .i64 0),.nils] false) (.ptr (.own 30409729) 0) h fun b i _ _=>Ak 3 b g i fun j _ _=>BF n (fun k l m=>V7 l m a k) [c,e,b,.fv (.int .i64 0)] j
theorem AnJ (a:Aa) (n:Nat) (b:IV) (c:Hp):Ax EE a ft.get n 29 [b] c=S29 a n b c:=by kernel_rfl
def O1 (a b c:IV) (d:List IV→Hp→OH) (e:Hp) (f g:IV):OH :=
 Bw EE 3 a b fun h=>Bw EE 3 c (.fv (.int .i64 1)) fun i=>d [f,g,h,i] e
def Pz (a:Hp) (e b c d:IV) (f:Aa) (g:List IV→Hp→OH) (h:IV):OH :=
 Af e a fun i _=>A8 3 i b fun j=>Aj 3 j a fun k _=>Bd EE 3 c d fun l=>Al [] false false f 33 [k,l] a fun m n _ _=>O1 d m b g n c h
def O5 (a:Hp) (b f g c h i d:IV) (j:Aa) (k:List IV→Hp→OH):OH :=
 Ab b true a (fun l=>GP EE 3 f g fun m=>l m a [] []) fun n e _ _=>AH b n (.fv (.bool false)) fun o=>Am o (Ac 2 c fun p=>Pz e p h i d j k c) (An [d] e)
def PO (a:Hp) (g c d e h:IV) (i:Aa) (j:List IV→Hp→OH):OH :=
 Af g a fun k _=>BS k fun l=>GP EE 3 c l fun b=>Ab b true a (fun m=>m d a [] []) fun n f _ _=>Ab b true f (fun o=>o e f [] []) fun p q _ _=>O5 q b n p h c e d i j
def Rv (b:List IV) (c:Hp) (d:Aa) (e:List IV→Hp→OH):OH :=
 Ay b fun f g=>Ay g fun a h=>Ay h fun i j=>Ay j fun k _=>Ac 2 a fun l=>PO c l k i f a d e
def S33 (a:Aa) (n:Nat) (b c:IV) (d:Hp):OH :=
 A3 34603008 b d fun e f _ _=>BF n (fun g h i=>Rv h i a g) [c,e,.fv (.int .i64 1),.fv (.int .i64 0)] f
theorem Apb (a:Aa) (n:Nat) (b c:IV) (d:Hp):Ax EE a ft.get n 33 [b,c] d=S33 a n b c d:=by kernel_rfl
def Rq (c:Hp) (a d:IV):OH :=
 Ak 3 a d c fun b _ _=>Aw true 3 a b fun e=>An [e] b
def RO (b c:AG) (a:Hp) (d:IV):OH :=
 Ad [] b c (Aw true 3 d a fun e=>An [e] a)
def Su (b:Hp) (c d:IV) (e:Aa) (f a:IV):OH :=
 Az (Ah EE 29 2 [(0,c),(1,d)]) 35655693 b fun g h i j=>Ad [] i j (Al [] false false e 24 [f,g] h fun k l m n=>Ad [] m n (Ak 3 a k l fun o p q=>RO p q o a))
def R8 (a:Aa) (b:Hp) (c d e f g:IV):OH :=
 Al [] false false a 46 [c,.fv (.int .i64 1)] b fun h i j k=>Ad [] j k (Bd EE 3 d (.fv (.int .i64 1)) fun l=>Al [] false false a 34 [h,l] i fun m n o p=>Ad [] o p (Su n e m a f g))
def TS (a:IV) (b:Aa) (f:Hp) (g h:IV) (i j k:AG) (l m:IV):OH :=
 Bd EE 3 a (.fv (.int .i64 1)) fun n=>Al [] false false b 34 [g,n] f fun o c d e=>Ad [] d e (Aj 3 h c fun p q=>Ad [(d,e),(i,j),(k,[])] q [] (R8 b c p a o l m))
def Q7 (g:IV) (a:Hp) (b:IV) (c:Aa) (h i:IV):OH :=
 Bd EE 3 g (.fv (.int .i64 2)) fun j=>Aj 3 b a fun k d=>Ad [] d [] (Al [] false false c 46 [k,.fv (.int .i64 0)] a fun l m e f=>Ad [] e f (TS h c m l b e f d j i))
def Tj (b:Hp) (a c:IV) (d:Aa) (e h i:IV):OH :=
 Ab a false b (fun j=>j c b [] []) fun k f _ _=>Ab a false f (fun l=>GP EE 3 k (.fv (.int .i64 2)) fun m=>l m f [] []) fun n g _ _=>AH a (.fv (.bool true)) n fun o=>Am o (Al [] false false d 24 [.fv (.int .i64 15),.nils] g fun p q _ _=>Rq q e p) (Bw EE 3 (.fv (.int .i64 16)) c fun r=>Q7 r g h d i e)
def S34 (a:Aa) (n:Nat) (e b:IV) (f:Hp):OH :=
 A3 35651584 e f fun c g _ _=>AJ 35651585 (.row [.fv (.int .i64 0),.fv (.int .i64 0),.nils] false) (.ptr (.own 35651585) 0) g fun h d _ _=>Ac 1 c fun i=>Af i d fun j _=>Al [] false false a 43 [j,.fv (.int .i64 4)] d fun k l _ _=>leS EE 3 b (.fv (.int .i64 0)) fun m=>Tj l m k a h c b
theorem AoS (a:Aa) (n:Nat) (b c:IV) (d:Hp):Ax EE a ft.get n 34 [b,c] d=S34 a n b c d:=by kernel_rfl
def Aew (c:Hp) (a d:IV):OH :=
 Ak 3 a d c fun b _ _=>Aw true 3 a b fun e=>An [e,.fv (.bool false)] b
def Ad7 (a:Hp) (b c:IV):OH :=
 Aw true 3 b a fun d=>An [d,c] a
def Aa5 (c:Hp) (a d e:IV):OH :=
 Ak 3 a d c fun b _ _=>Aw true 3 a b fun f=>An [f,e] b
def Aca (a:Hp) (c d:IV) (e:Aa) (f g h:IV):OH :=
 Aj 3 c a fun i _=>Aj 3 d a fun j _=>Al [] false false e 53 [f,i,j,g] a fun b k _ _=>AQ 0 b fun l=>AQ 1 b fun m=>Aa5 k h l m
def Zv (a:Hp) (b e c f:IV):OH :=
 Ab b true a (fun g=>g e a [] []) fun h i _ _=>AH b h (.fv (.bool false)) fun j=>Ak 3 c f i fun d k l=>Ad [] k l (Aw true 3 c d fun m=>An [m,j] d)
def Zj (a:Hp) (e:IV) (f b c d:AG) (g h i j k:IV):OH :=
 Aj 3 e a fun l m=>Ad [(f,[]),(b,c),(d,[])] m [] (Az (Ah EE 29 2 [(0,g),(1,l)]) 36714501 a fun n o p q=>Ad [(b,c),(d,[])] p q (BD [.fv (.int .i64 0),.fv (.int .i64 0),.nils] [(0,1,.fv (.int .i64 26)),(1,1,h),(2,1,n)] fun r=>Zv o i j k r))
def ZB (a:AG) (f:Aa) (g:Hp) (h i j k l m:IV):OH :=
 Ad [] a [] (Al [] false false f 43 [h,.fv (.int .i64 5)] g fun n d b c=>Ad [] b c (Aj 3 i d fun o e=>Ad [(b,c),(a,[])] e [] (Zj d j e b c a o n k l m)))
def YR (c d e f g h i j:AG) (k:Hp) (a l m:IV) (n:Aa) (o p q r:IV):OH :=
 Ad [(e,f),(g,h),(i,[]),(j,[])] c d (Ak 3 a l k fun b s t=>Ad [] s t (Ac 1 m fun u=>Af u b fun v w=>ZB w n b v o a p q r))
def Aen (a:Aa) (e:Hp) (f g h i:IV) (j k l m:AG) (n o p q:IV):OH :=
 Al [] false false a 35 [f,g,h,i] e fun b r c d=>Ad [] c d (AQ 0 b fun s=>AQ 1 b fun t=>AJ 36713482 (.row [.fv (.int .i64 0),.fv (.int .i64 0),.nils] false) (.ptr (.own 36713482) 0) r fun u v w x=>YR w x c d j k l m v u s n a o p t q)
def YL (b:Hp) (c:IV) (a:AG) (d:Aa) (h i j k l m:IV):OH :=
 Aj 3 c b fun n e=>Ad [(a,[])] e [] (Al [] false false d 46 [n,.fv (.int .i64 1)] b fun o p f g=>Ad [(a,[])] f g (Bd EE 3 h (.fv (.int .i64 1)) fun q=>Aen d p i j o q f g e a c k l m))
def AaX (d e f g h i j k:AG) (l:Hp) (a m n o:IV) (p:Aa) (q r s t:IV):OH :=
 Ad [(f,g),(h,i),(j,[]),(k,[])] d e (Ak 3 a m l fun b u v=>Ad [] u v (Aj 3 n b fun w c=>Ad [] c [] (YL b o c p q r w a s t)))
def Aak (a:Aa) (f:Hp) (b g h i:IV) (j k l m:AG) (n o p q:IV):OH :=
 Al [] false false a 35 [b,g,h,i] f fun c r d e=>Ad [] d e (AQ 0 c fun s=>AQ 1 c fun t=>AJ 36712458 (.row [.fv (.int .i64 0),.fv (.int .i64 0),.nils] false) (.ptr (.own 36712458) 0) r fun u v w x=>AaX w x d e j k l m v u s n o a p b t q)
def Adj (b:Hp) (c:IV) (a:AG) (d:Aa) (e i j k l:IV):OH :=
 Aj 3 c b fun m f=>Ad [(a,[])] f [] (Al [] false false d 46 [m,.fv (.int .i64 0)] b fun n o g h=>Ad [(a,[])] g h (Bd EE 3 e (.fv (.int .i64 1)) fun p=>Aak d o i j n p g h f a k c e l))
def XU (a:Aa) (d:Hp) (e b:IV):OH :=
 Al [] false false a 43 [e,.fv (.int .i64 20)] d fun f g _ _=>Bd EE 3 f (.fv (.int .i64 5)) fun h=>Al [] false false a 36 [h] g fun i j _ _=>Ak 3 b i j fun c _ _=>Aw true 3 b c fun k=>An [k,.fv (.bool true)] c
def Y3 (g:IV) (a:Hp) (b c:IV) (d:Aa) (h i e:IV):OH :=
 Am g (Aj 3 b a fun j f=>Ad [] f [] (Adj a c f d h i j b e)) (Ac 1 c fun k=>Af k a fun l _=>XU d a l e)
def Yp (c:Hp) (a d:IV) (e:Aa) (h i j k:IV):OH :=
 Ab a true c (fun l=>Ac 0 d fun m=>l m c [] []) fun n b _ _=>Ab a true b (fun o=>Af n b fun p q=>o p b q []) fun r f _ _=>Ab a true f (fun s=>Al [] false false e 43 [r,.fv (.int .i64 2)] f s) fun t g _ _=>Ab a true g (fun u=>A4 EE 3 t (.fv (.int .i64 1)) fun v=>u v g [] []) fun w x _ _=>AH a w (.fv (.bool false)) fun y=>Y3 y x h d e i j k
def Yz (b c:AG) (a:Hp) (d e:IV):OH :=
 Ad [] b c (Aw true 3 d a fun f=>An [f,e] a)
def AdS (b:Hp) (c d:IV) (e:Aa) (a f:IV):OH :=
 Az (Ah EE 29 2 [(0,c),(1,d)]) 36718597 b fun g h i j=>Ad [] i j (Al [] false false e 24 [.fv (.int .i64 20),g] h fun k l m n=>Ad [] m n (Ak 3 a k l fun o p q=>Yz p q o a f))
def Yy (c:IV) (a:Hp) (d:IV) (e:AG) (f:Aa) (g h:IV):OH :=
 A8 3 c (.fv (.int .i64 0)) fun i=>Aj 3 i a fun j b=>Ad [] b [] (Aj 3 d a fun k l=>Ad [(b,[]),(e,[])] l [] (AdS a j k f g h))
def Yw (d:Hp) (a e f:IV) (g:Aa) (h i:IV):OH :=
 Ak 3 a e d fun b j k=>Ad [] j k (Ac 2 f fun l=>Af l b fun m c=>Ad [] c [] (Yy m b a c g h i))
def XS (a b:AG) (c:IV) (d:Hp) (e f g h i j k l m n o:AG) (p:IV) (q:Aa) (r:IV):OH :=
 Ad [] a b (AQ 0 c fun s=>AQ 1 c fun t=>AJ 36717587 (.row [.fv (.int .i64 0),.fv (.int .i64 0),.nils] false) (.ptr (.own 36717587) 0) d fun u v w x=>Ad [(a,b),(e,f),(g,[]),(h,i),(j,[]),(k,[]),(l,m),(n,[]),(o,[])] w x (Yw v u s p q r t))
def AbB (b c d e f g h i j:AG) (a:Aa) (m:Hp) (n o p q r s:IV):OH :=
 Ad [(c,d),(e,[]),(f,[]),(g,h),(i,[]),(j,[])] b [] (Al [] false false a 46 [n,.fv (.int .i64 0)] m fun t u k l=>Ad [] k l (Bd EE 3 o (.fv (.int .i64 1)) fun v=>Al [] false false a 35 [p,q,t,v] u fun w x y z=>XS y z w x k l b c d e f g h i j r a s))
def AeI (a:Hp) (k:IV) (b c d e:AG) (f:Aa) (l:IV) (m:AG) (n o p q:IV):OH :=
 Aj 3 k a fun r g=>Ad [(b,c),(d,[]),(e,[])] g [] (Al [] false false f 25 [r,.fv (.int .i64 1),.fv (.int .i64 0)] a fun s h i j=>Ad [] i j (Aj 3 l h fun t u=>AbB u i j g m b c d e f h t n o s p q))
def ZE (a b:AG) (c:IV) (d:Hp) (e f:AG) (h:Aa) (i j k l:IV):OH :=
 Ad [] a b (Ac 2 c fun m=>Af m d fun n g=>Ad [(a,b),(e,[]),(f,[])] g [] (A8 3 n (.fv (.int .i64 1)) fun o=>AeI d o a b e f h i g j k c l))
def Ab3 (a:AG) (e:IV) (b:Hp) (c:Aa) (f g h i j:IV):OH :=
 Ad [] a [] (A8 3 e (.fv (.int .i64 0)) fun k=>Aj 3 k b fun l d=>Ad [] d [] (Al [] false false c 22 [f,.fv (.int .i64 0),l] b fun m n o p=>ZE o p g n d a c h i m j))
def AcK (a:Hp) (b c:IV):OH :=
 Aw true 3 b a fun d=>An [d,c] a
def ZU (d:Hp) (e f:IV) (g:Aa) (a h b:IV):OH :=
 Az (Ah EE 29 2 [(0,e),(1,f)]) 36722690 d fun i j _ _=>Al [] false false g 24 [.fv (.int .i64 22),i] j fun k c _ _=>Ab a true c (fun l=>l h c [] []) fun m n _ _=>AH a m (.fv (.bool false)) fun o=>Ak 3 b k n fun p _ _=>AcK p b o
def Ac5 (c d e f g h i j k:AG) (l:Hp) (b m n:IV) (o:Aa) (p q r:IV):OH :=
 Ad [(e,f),(g,h),(i,[]),(j,[]),(k,[])] c d (Ak 3 b m l fun a s t=>Ad [] s t (Aj 3 n a fun u _=>Aj 3 b a fun v _=>ZU a u v o p q r))
def Ab7 (a:Aa) (e:Hp) (f g h i:IV) (j k l m n:AG) (o p q:IV):OH :=
 Al [] false false a 35 [f,g,h,i] e fun b r c d=>Ad [] c d (AQ 0 b fun s=>AQ 1 b fun t=>AJ 36721677 (.row [.fv (.int .i64 0),.fv (.int .i64 0),.nils] false) (.ptr (.own 36721677) 0) r fun u v w x=>Ac5 w x c d j k l m n v u s o a p t q)
def AcH (c:Hp) (h:IV) (a b:AG) (d:Aa) (i j k l m n:IV):OH :=
 Aj 3 h c fun o e=>Ad [(a,[]),(b,[])] e [] (Al [] false false d 46 [o,.fv (.int .i64 1)] c fun p q f g=>Ad [(a,[]),(b,[])] f g (Bd EE 3 i (.fv (.int .i64 1)) fun r=>Ab7 d q j k p r f g e a b l m n))
def Adt (a:Hp) (d e:IV) (f:Aa) (g h i j k:IV):OH :=
 Af d a fun l b=>Ad [] b [] (A8 3 l (.fv (.int .i64 1)) fun m=>Aj 3 m a fun n c=>Ad [] c [] (AcH a e c b f g h n i j k))
def Ym (b:Hp) (c d e f g h i:AG) (j k l:IV) (m:Aa) (n o p q:IV):OH :=
 AJ 36720653 (.row [.fv (.int .i64 0),.fv (.int .i64 0),.nils] false) (.ptr (.own 36720653) 0) b fun a r s t=>Ad [(c,d),(e,f),(g,[]),(h,[]),(i,[])] s t (Ak 3 a j r fun u v w=>Ad [] v w (Ac 2 k fun x=>Adt u x l m n o a p q))
def Adk (a:IV) (b:Aa) (g:Hp) (c h i:IV) (j k l m n:AG) (o p q:IV):OH :=
 Bd EE 3 a (.fv (.int .i64 1)) fun r=>Al [] false false b 35 [c,h,i,r] g fun d s e f=>Ad [] e f (AQ 0 d fun t=>AQ 1 d fun u=>Ym s e f j k l m n t o p b a c u q)
def AdW (a:AG) (c:Hp) (d:IV) (b:AG) (e:Aa) (i j k l m:IV):OH :=
 Ad [] a [] (Aj 3 d c fun n f=>Ad [(a,[]),(b,[])] f [] (Al [] false false e 46 [n,.fv (.int .i64 0)] c fun o p g h=>Ad [(a,[]),(b,[])] g h (Adk i e p j k o g h f a b l d m)))
def Ys (b:IV) (a:Hp) (d:IV) (e:Aa) (f g h:IV):OH :=
 Ac 2 b fun i=>Af i a fun j c=>Ad [] c [] (A8 3 j (.fv (.int .i64 0)) fun k=>Aj 3 k a fun l m=>AdW m a d c e f g l b h)
def AaL (a:Hp) (d b e:IV):OH :=
 Aj 3 d a fun f _=>Ak 3 b f a fun c _ _=>Aw true 3 b c fun g=>An [g,e] c
def Acn (h b:IV) (a:Hp) (d:Aa) (e f g c i j k:IV):OH :=
 Am h (Ac 2 b fun l=>Af l a fun m n=>Ab3 n m a d e b f g c) (A4 EE 3 i (.fv (.int .i64 17)) fun o=>Am o (Ys b a f d g e c) (AaL a j c k))
def ZG (a:IV) (b:Hp) (c e:IV) (f:Aa) (g h i j:IV):OH :=
 Ac 0 a fun k=>Af k b fun d _=>A4 EE 3 d (.fv (.int .i64 15)) fun l=>Am l (L0 EE 3 c (.fv (.int .i64 0)) fun m=>Yp b m e f a c g h) (A4 EE 3 d (.fv (.int .i64 16)) fun n=>Acn n a b f g e c h d i j)
def Zt (b:Hp) (a l:IV) (c:Aa) (d e f g h m n:IV):OH :=
 Ab a true b (fun o=>Af l b fun p q=>o p b q []) fun r i _ _=>Ab a true i (fun s=>Al [] false false c 43 [r,.fv (.int .i64 3)] i s) fun t j _ _=>Ab a true j (fun u=>A4 EE 3 t (.fv (.int .i64 1)) fun v=>u v j [] []) fun w k _ _=>AH a w (.fv (.bool false)) fun x=>Am x (Aca k d e c f g h) (ZG d k g e c f h m n)
def Aai (h:IV) (a:Hp) (c b d e f:IV) (i:Aa) (j k:IV):OH :=
 Am h (Aj 3 c a fun l _=>Ak 3 b l a fun m _ _=>Ad7 m b d) (L0 EE 3 e (.fv (.int .i64 0)) fun g=>Ab g true a (fun n=>Ac 0 f fun o=>n o a [] []) fun p q _ _=>Zt q g p i j f k e b c d)
def ZI (c:Hp) (a g d h i j:IV) (k:Aa) (l m:IV):OH :=
 Ab a true c (fun n=>A4 EE 3 g (.fv (.int .i64 0)) fun o=>n o c [] []) fun p e _ _=>AH a p (.fv (.bool false)) fun b=>Ab b false e (fun q=>q d e [] []) fun r f _ _=>Ab b false f (fun s=>GP EE 3 r (.fv (.int .i64 (-4))) fun t=>s t f [] []) fun u v _ _=>AH b (.fv (.bool true)) u fun w=>Aai w v h i a d j k l m
def Zs (h:Hp) (i a c:IV) (d:Aa) (j k l m:IV):OH :=
 AJ 36704264 (.row [.fv (.int .i64 0),.fv (.int .i64 0),.nils] false) (.ptr (.own 36704264) 0) h fun e n _ _=>Ak 3 e i n fun f _ _=>Ab a true f (fun o=>Ac 0 c fun p=>o p f [] []) fun q b _ _=>Ab a true b (fun r=>Af q b fun s t=>r s b t []) fun u g _ _=>Ab a true g (fun v=>Al [] false false d 43 [u,.fv (.int .i64 3)] g v) fun w x _ _=>ZI x a w j e k c d l m
def Aez (a:IV) (b:Hp) (c:Aa) (d f g h i:IV):OH :=
 Ac 1 a fun j=>Af j b fun k _=>Al [] false false c 47 [d,.fv (.int .i64 0),f,k] b fun e l _ _=>AQ 0 e fun m=>AQ 1 e fun n=>Zs l m n a c g h i d
def AaR (d:IV) (e:Hp) (a f c g:IV) (h:Aa) (i j:IV):OH :=
 AQ 1 d fun k=>Ak 3 a f e fun b _ _=>Hb EE 3 k (.fv (.int .i64 0)) fun l=>Am l (BD [.fv (.int .i64 0),.fv (.int .i64 0),.nils] [] fun m=>Aew b c m) (Aj 3 a b fun n _=>Aez g b h i n j c a)
def S35 (a:Aa) (n:Nat) (e f g h:IV) (i:Hp):OH :=
 A3 36700160 f i fun b j _ _=>A3 36700161 g j fun k l _ _=>AJ 36700162 (.row [.fv (.int .i64 0),.fv (.int .i64 0),.nils] false) (.ptr (.own 36700162) 0) l fun m c _ _=>Aj 3 b c fun o _=>Al [] false false a 17 [o] c fun d p _ _=>AQ 0 d fun q=>AaR d p b q m k a e h
theorem Ap2 (a:Aa) (n:Nat) (b c d e:IV) (f:Hp):Ax EE a ft.get n 35 [b,c,d,e] f=S35 a n b c d e f:=by kernel_rfl
def S36 (h:Aa) (n:Nat) (c:IV) (d:Hp):OH :=
 AJ 37748736 (.row [.fv (.int .i64 0),.fv (.int .i64 0),.nils] false) (.ptr (.own 37748736) 0) d fun a e _ _=>BD [.fv (.int .i64 0),.fv (.int .i64 0),.nils] [(0,1,.fv (.int .i64 25)),(1,1,c)] fun f=>Ak 3 a f e fun b _ _=>Aw true 3 a b fun g=>An [g] b
theorem Aon (a:Aa) (n:Nat) (b:IV) (c:Hp):Ax EE a ft.get n 36 [b] c=S36 a n b c:=by kernel_rfl
def Gi (a:IV) (b:List IV→Hp→OH) (c:Hp) (d e:IV):OH :=
 Bw EE 3 a (.fv (.int .i64 1)) fun f=>b [d,e,f] c
def GC (b c d:AG) (e:Aa) (f:Hp) (g h i:IV) (j:List IV→Hp→OH) (k l:IV):OH :=
 Ad [(c,[]),(d,[])] b [] (Al [] false false e 37 [g,h] f fun m a n o=>Ad [] n o (C9 (Nq .not m) fun p=>Am p (An [.fv (.bool false)] a) (Gi i j a k l)))
def Gb (b:IV) (a:Hp) (c d:AG) (e:IV) (f:Aa) (g:IV) (h:List IV→Hp→OH) (i:IV):OH :=
 Ac 2 b fun j=>Af j a fun k l=>Ad [(c,[]),(d,[])] l [] (A8 3 k e fun m=>Aj 3 m a fun n o=>GC o c d f a g n e h i b)
def GG (a:Hp) (e b f:IV) (g:Aa) (h:List IV→Hp→OH) (i:IV):OH :=
 Af e a fun j c=>Ad [] c [] (A8 3 j b fun k=>Aj 3 k a fun l d=>Ad [] d [] (Gb f a d c b g l h i))
def GH (d a b:IV) (c:Hp) (e:IV) (f:Aa) (g:List IV→Hp→OH):OH :=
 BS d fun h=>GP EE 3 a h fun i=>Am i (Ac 2 b fun j=>GG c j a e f g b) (An [.fv (.bool true)] c)
def Nw (c:List IV) (a:Hp) (d:Aa) (e:List IV→Hp→OH):OH :=
 Ay c fun b f=>Ay f fun g h=>Ay h fun i _=>Ac 2 b fun j=>Af j a fun k _=>GH k i b a g d e
def GA (b:IV) (a:Hp) (n:Nat) (c d:IV) (e:Aa):OH :=
 Am b (An [.fv (.bool false)] a) (BF n (fun f g h=>Nw g h e f) [c,d,.fv (.int .i64 0)] a)
def GE (c:Hp) (a d g:IV) (n:Nat) (h:IV) (i:Aa):OH :=
 Ab a false c (fun j=>Ac 2 d fun k=>j k c [] []) fun l b _ _=>Ab a false b (fun m=>Af l b fun o p=>m o b p []) fun q e _ _=>Ab a false e (fun r=>BS q fun s=>r s e [] []) fun t f _ _=>Ab a false f (fun u=>Hb EE 3 g t fun v=>u v f [] []) fun w x _ _=>AH a (.fv (.bool true)) w fun y=>GA y x n h d i
def Gp (c:Hp) (d h i e j:IV) (n:Nat) (k:Aa):OH :=
 Ab d false c (fun l=>Hb EE 3 h i fun m=>l m c [] []) fun o f _ _=>AH d (.fv (.bool true)) o fun a=>Ab a false f (fun p=>Ac 2 e fun q=>p q f [] []) fun r b _ _=>Ab a false b (fun s=>Af r b fun t u=>s t b u []) fun v g _ _=>Ab a false g (fun w=>BS v fun x=>w x g [] []) fun y z _ _=>GE z a j y n e k
def GD (h i:IV) (d:Hp) (e f:IV) (n:Nat) (j:Aa):OH :=
 Hb EE 3 h i fun a=>Ab a false d (fun k=>Ac 1 e fun l=>k l d [] []) fun m b _ _=>Ab a false b (fun o=>Af m b fun p q=>o p b q []) fun r g _ _=>Ab a false g (fun s=>Ac 1 f fun t=>s t g [] []) fun u c _ _=>Ab a false c (fun v=>Af u c fun w x=>v w c x []) fun y z _ _=>Gp z a r y e f n j
def S37 (d:Aa) (n:Nat) (e f:IV) (g:Hp):OH :=
 A3 38797312 e g fun b h _ _=>A3 38797313 f h fun c a _ _=>Ac 0 b fun i=>Af i a fun j _=>Ac 0 c fun k=>Af k a fun l _=>GD j l a b c n d
theorem AnH (a:Aa) (n:Nat) (b c:IV) (d:Hp):Ax EE a ft.get n 37 [b,c] d=S37 a n b c d:=by kernel_rfl
def Rf (a:IV) (e:Hp) (f g:IV) (h:Hp) (b c:IV) (i:List IV→Hp→OH):OH :=
 Ac 2 a fun j=>BA j f e fun k _ _=>Bw EE 3 g (.fv (.int .i64 1)) fun d=>Bf (h.own.map (·.1)) [39851014,39854084] [b,c,a,d] k fun l=>i [b,c,a,d] l
def Rj (b:IV) (a:Hp) (c d:IV) (e:Hp) (f g:IV) (h:List IV→Hp→OH):OH :=
 Ac 2 b fun i=>Af i a fun j _=>Aj 3 c a fun k _=>Az (Ah EE 29 1 [(0,k)]) 39854083 a fun l m _ _=>Az (A0 EE 39854084 false .append [29,29] [j,l]) 39854084 m fun n o _ _=>Rf b o n d e f g h
def Uo (a:Hp) (b c:IV) (d:Hp→OH):OH :=
 Ak 3 b c a fun e _ _=>d e
def RB (a:Hp) (b e f:IV) (g:Aa) (h:IV) (c:Hp→OH):OH :=
 Ab b true a (fun i=>AH e (.fv (.bool true)) f fun j=>i j a [] []) fun k d _ _=>AH b k (.fv (.bool false)) fun l=>Am l (Al [] false false g 24 [.fv (.int .i64 11),.nils] d fun m n _ _=>Uo n h m c) (c d)
def SI (d:Hp) (b h i:IV) (j:Aa) (k:IV) (l:Hp→OH):OH :=
 Ab b true d (fun m=>A4 EE 3 h (.fv (.int .i64 4)) fun n=>m n d [] []) fun o e _ _=>Ab b true e (fun p=>p o e [] []) fun a f _ _=>Ab a false f (fun q=>Ac 0 i fun r=>q r f [] []) fun s c _ _=>Ab a false c (fun t=>Af s c fun u v=>t u c v []) fun w g _ _=>Ab a false g (fun x=>A4 EE 3 w (.fv (.int .i64 7)) fun y=>x y g [] []) fun z A _ _=>RB A b a z j k l
def TL (g:Hp) (a h i e:IV) (j:Hp) (b k:IV) (l:List IV→Hp→OH) (m:Aa):OH :=
 Ak 3 a h g fun f _ _=>(fun (n:Hp→OH)=>A4 EE 3 e (.fv (.int .i64 0)) fun c=>Ab c true f (fun o=>Ac 0 b fun p=>o p f [] []) fun q d _ _=>Ab c true d (fun r=>Af q d fun s t=>r s d t []) fun u v _ _=>SI v c u b m a n) fun w=>Rj i w a e j b k l
def Q0 (a:Hp) (d b:IV) (c:Aa) (e:IV) (f:Hp) (g h:IV) (i:List IV→Hp→OH):OH :=
 Af d a fun j _=>A8 3 j b fun k=>Aj 3 k a fun l _=>Al [] false false c 38 [l] a fun m n _ _=>AJ 39851014 (.row [.fv (.int .i64 0),.fv (.int .i64 0),.nils] false) (.ptr (.own 39851014) 0) n fun o p _ _=>TL p o m e b f g h i c
def TZ (c:Aa) (d:Hp) (e f a:IV):OH :=
 Al [] false false c 50 [e,.fv (.int .i64 0),f] d fun g h i j=>Ad [] i j (Ak 3 a g h fun b k l=>Ad [] k l (Aw true 3 a b fun m=>An [m] b))
def S8 (d:IV) (a:Hp) (b:Aa) (e f:AG) (g:IV):OH :=
 A8 3 d (.fv (.int .i64 0)) fun h=>Aj 3 h a fun i c=>Ad [] c [] (Al [] false false b 24 [.fv (.int .i64 11),.nils] a fun j k l m=>Ad [(c,[]),(e,[]),(f,[])] l m (TZ b k i j g))
def SE (a:AG) (d:IV) (b:Hp) (e:Aa) (f:IV):OH :=
 Ad [] a [] (A8 3 d (.fv (.int .i64 1)) fun g=>Ac 2 g fun h=>Af h b fun i c=>Ad [] c [] (S8 i b e c a f))
def SY (a:Hp) (d b:IV):OH :=
 Aj 3 d a fun e _=>Ak 3 b e a fun c _ _=>Aw true 3 b c fun f=>An [f] c
def RQ (a:Hp) (b c:IV):OH :=
 Af b a fun d _=>A8 3 d (.fv (.int .i64 1)) fun e=>Ac 2 e fun f=>Af f a fun g _=>A8 3 g (.fv (.int .i64 0)) fun h=>SY a h c
def T8 (c:Hp) (a d:IV):OH :=
 Ak 3 a d c fun b _ _=>Aw true 3 a b fun e=>An [e] b
def SA (b:Hp) (c:IV) (f:Aa) (g h d e:IV):OH :=
 Ab c true b (fun i=>Al [] false false f 37 [g,h] b i) fun j a k l=>Ad [] k l (AH c j (.fv (.bool false)) fun m=>Am m (Ac 2 d fun n=>RQ a n e) (Aj 3 d a fun o _=>T8 a e o))
def SM (b:Hp) (a k:IV) (d e f g h i:AG) (l:Aa) (m n o:IV):OH :=
 Ab a true b (fun p=>Af k b fun q r=>p q b r []) fun s j t u=>Ad [(d,e),(f,g),(h,i)] t u (Ab a true j (fun v=>A8 3 s (.fv (.int .i64 0)) fun w=>v w j [] []) fun x c _ _=>Ab a true c (fun y=>Aj 3 x c fun z A=>y z c A []) fun B C D E=>Ad [(d,e),(f,g),(h,i)] D E (SA C a l m B n o))
def TB (c:Hp) (a d:IV) (e f g h i j:AG) (m:Aa) (n o:IV):OH :=
 Ab a true c (fun p=>Ac 2 d fun q=>p q c [] []) fun r b _ _=>Ab a true b (fun s=>Af r b fun t u=>s t b u []) fun v k w x=>Ad [(e,f),(g,h),(i,j)] w x (Ab a true k (fun y=>A8 3 v (.fv (.int .i64 2)) fun z=>y z k [] []) fun A l _ _=>Ab a true l (fun B=>Ac 2 A fun C=>B C l [] []) fun D E _ _=>SM E a D e f g h i j m n d o)
def RZ (b:Hp) (a i j:IV) (k l:AG) (m:Aa) (n:IV):OH :=
 Ab a true b (fun o=>Af i b fun p q=>o p b q []) fun r d e f=>Ad [] e f (Ab a true d (fun s=>A8 3 r (.fv (.int .i64 0)) fun t=>s t d [] []) fun u c _ _=>Ab a true c (fun v=>Aj 3 u c fun w x=>v w c x []) fun y z g h=>Ad [] g h (TB z a j g h e f k l m y n))
def S6 (c:Hp) (a d:IV) (i:Aa) (j:IV):OH :=
 Ab a true c (fun k=>Ac 2 d fun l=>k l c [] []) fun m b _ _=>Ab a true b (fun n=>Af m b fun o p=>n o b p []) fun q e f g=>Ad [] f g (Ab a true e (fun r=>A8 3 q (.fv (.int .i64 1)) fun s=>r s e [] []) fun t h _ _=>Ab a true h (fun u=>Ac 2 t fun v=>u v h [] []) fun w x _ _=>RZ x a w d f g i j)
def Rm (c:Hp) (a e f:IV) (g:Aa) (h:IV):OH :=
 Ab a true c (fun i=>Ac 0 e fun j=>i j c [] []) fun k b _ _=>Ab a true b (fun l=>Af k b fun m n=>l m b n []) fun o d p q=>Ad [] p q (Ab a true d (fun r=>A4 EE 3 o (.fv (.int .i64 9)) fun s=>r s d [] []) fun t u _ _=>AH a t (.fv (.bool false)) fun v=>S6 u v f g h)
def RJ (f g:IV) (c:Hp) (d:IV) (h:Aa) (i:IV):OH :=
 AH f g (.fv (.bool false)) fun a=>Ab a true c (fun j=>Ac 2 d fun k=>j k c [] []) fun l b _ _=>Ab a true b (fun m=>Af l b fun n o=>m n b o []) fun p e q r=>Ad [] q r (Ab a true e (fun s=>A8 3 p (.fv (.int .i64 2)) fun t=>s t e [] []) fun u v _ _=>Rm v a u d h i)
def Sn (c:Hp) (a f g:IV) (h:Aa) (i:IV):OH :=
 Ab a true c (fun j=>A8 3 f (.fv (.int .i64 1)) fun k=>j k c [] []) fun l d _ _=>Ab a true d (fun m=>Ac 0 l fun n=>m n d [] []) fun o b _ _=>Ab a true b (fun p=>Af o b fun q r=>p q b r []) fun s e t u=>Ad [] t u (Ab a true e (fun v=>A4 EE 3 s (.fv (.int .i64 8)) fun w=>v w e [] []) fun x y _ _=>RJ a x y g h i)
def Se (e:AG) (f:IV) (c:Hp) (d:IV) (g:Aa) (h:IV):OH :=
 Ad [] e [] (A4 EE 3 f (.fv (.int .i64 7)) fun a=>Ab a true c (fun i=>Ac 2 d fun j=>i j c [] []) fun k b _ _=>Ab a true b (fun l=>Af k b fun m n=>l m b n []) fun o p q r=>Ad [] q r (Sn p a o d g h))
def RS (e f b:IV) (a:Hp) (c:Aa) (d g:IV):OH :=
 AH e f (.fv (.bool false)) fun h=>Am h (Ac 2 b fun i=>Af i a fun j k=>SE k j a c d) (Ac 0 g fun l=>Af l a fun m n=>Se n m a b c d)
def RP (b:Hp) (a f:IV) (c:Aa) (g h i:IV):OH :=
 Ab a true b (fun j=>Aj 3 f b fun k l=>j k b l []) fun m d n o=>Ad [] n o (Ab a true d (fun p=>Al [] false false c 54 [m,.fv (.int .i64 0)] d p) fun q e r s=>Ad [] r s (Ab a true e (fun t=>C9 (Nq .not q) fun u=>t u e [] []) fun v w _ _=>RS a v g w c h i))
def Sl (c:Hp) (a f:IV) (g:Aa) (h i j:IV):OH :=
 Ab a true c (fun k=>A8 3 f (.fv (.int .i64 1)) fun l=>k l c [] []) fun m d _ _=>Ab a true d (fun n=>Ac 2 m fun o=>n o d [] []) fun p b _ _=>Ab a true b (fun q=>Af p b fun r s=>q r b s []) fun t e u v=>Ad [] u v (Ab a true e (fun w=>A8 3 t (.fv (.int .i64 0)) fun x=>w x e [] []) fun y z _ _=>RP z a y g h i j)
def R4 (e f:AG) (g h:IV) (c:Hp) (d:IV) (i:Aa) (j k:IV):OH :=
 Ad [] e f (AH g h (.fv (.bool false)) fun a=>Ab a true c (fun l=>Ac 2 d fun m=>l m c [] []) fun n b _ _=>Ab a true b (fun o=>Af n b fun p q=>o p b q []) fun r s t u=>Ad [] t u (Sl s a r i d j k))
def QW (b:Hp) (a h:IV) (c:Aa) (i j k l:AG) (m n o:IV):OH :=
 Ab a true b (fun p=>Aj 3 h b fun q r=>p q b r []) fun s d e f=>Ad [] e f (Ab a true d (fun t=>Al [] false false c 26 [.fv (.int .i64 0)] d t) fun u g v w=>Ad [(e,f),(i,j),(k,l)] v w (Ab a true g (fun x=>Al [] false false c 37 [s,u] g x) fun y z A B=>R4 A B a y z m c n o))
def SU (c:Hp) (a h:IV) (i:Aa) (j k:AG) (l m n:IV):OH :=
 Ab a true c (fun o=>A8 3 h (.fv (.int .i64 1)) fun p=>o p c [] []) fun q d _ _=>Ab a true d (fun r=>Ac 2 q fun s=>r s d [] []) fun t b _ _=>Ab a true b (fun u=>Af t b fun v w=>u v b w []) fun x e f g=>Ad [] f g (Ab a true e (fun y=>A8 3 x (.fv (.int .i64 1)) fun z=>y z e [] []) fun A B _ _=>QW B a A i f g j k l m n)
def TQ (c:Hp) (d i e:IV) (j:Aa) (k l:IV):OH :=
 Ab d true c (fun m=>A4 EE 3 i (.fv (.int .i64 5)) fun n=>m n c [] []) fun o f _ _=>AH d o (.fv (.bool false)) fun a=>Ab a true f (fun p=>Ac 2 e fun q=>p q f [] []) fun r b _ _=>Ab a true b (fun s=>Af r b fun t u=>s t b u []) fun v w g h=>Ad [] g h (SU w a v j g h e k l)
def Ue (e f:AG) (c:Hp) (a g h:IV) (i:Aa) (j k:IV):OH :=
 Ad [] e f (Ab a true c (fun l=>A8 3 g (.fv (.int .i64 1)) fun m=>l m c [] []) fun n d _ _=>Ab a true d (fun o=>Ac 0 n fun p=>o p d [] []) fun q b _ _=>Ab a true b (fun r=>Af q b fun s t=>r s b t []) fun u v w x=>Ad [] w x (TQ v a u h i j k))
def TC (a:Hp) (e d:IV) (f:Aa) (g h:IV):OH :=
 Af e a fun i j=>Ad [] j [] (A4 EE 3 i (.fv (.int .i64 4)) fun b=>Ab b true a (fun k=>Ac 2 d fun l=>k l a [] []) fun m c _ _=>Ab b true c (fun n=>Af m c fun o p=>n o c p []) fun q r s t=>Ue s t r b q d f g h)
def Uc (b:Hp) (g c a:IV) (d:Aa) (e:IV) (h:Hp) (f:IV) (i:List IV→Hp→OH):OH :=
 Af g b fun j _=>BS j fun k=>GP EE 3 c k fun l=>Am l (Ac 2 a fun m=>Q0 b m c d e h a f i) (Ac 0 a fun n=>TC b n e d f a)
def IG (b:List IV) (c:Hp) (d:Aa) (e:Hp) (f:List IV→Hp→OH):OH :=
 Ay b fun a g=>Ay g fun h i=>Ay i fun j k=>Ay k fun l _=>Ac 2 a fun m=>Uc c m l a d j e h f
def RT (e f:IV) (g b:Hp) (c d:IV) (n:Nat) (h:Aa):OH :=
 BD [.fv (.int .i64 0),.fv (.int .i64 0),.nils] [(0,1,e),(1,1,f)] fun i=>AJ 39846917 (.row [.fv (.int .i64 0),.fv (.int .i64 0),.nils] false) (.ptr (.own 39846917) 0) g fun a j _ _=>Ak 3 a i j fun k _ _=>Bf (b.own.map (·.1)) [39851014,39854084] [c,d,a,.fv (.int .i64 0)] k fun l=>BF n (fun m o p=>IG o p h b m) [c,d,a,.fv (.int .i64 0)] l
def S38 (d:Aa) (n:Nat) (e:IV) (c:Hp):OH :=
 A3 39845888 e c fun a f _ _=>AJ 39845889 (.row [.fv (.int .i64 0),.fv (.int .i64 0),.nils] false) (.ptr (.own 39845889) 0) f fun g b _ _=>Ac 0 a fun h=>Af h b fun i _=>Ac 1 a fun j=>Af j b fun k _=>RT i k b c a g n d
theorem ApP (a:Aa) (n:Nat) (b:IV) (c:Hp):Ax EE a ft.get n 38 [b] c=S38 a n b c:=by kernel_rfl
def AgK (c:Hp) (a d:IV):OH :=
 Ak 4 a d c fun b _ _=>Aw true 4 a b fun e=>An [e] b
def AgW (c:Aa) (d:Hp) (e a:IV):OH :=
 Al [] false false c 56 [e] d fun f g _ _=>BD [.fv (.int .i64 0),.fv (.int .i64 0),.nils,.fv (.int .i64 0)] [(0,3,f)] fun h=>Ak 4 a h g fun b _ _=>Aw true 4 a b fun i=>An [i] b
def AjM (e:Hp) (f b c:IV) (g:Aa):OH :=
 AJ 40895493 (.row [.fv (.int .i64 0),.fv (.int .i64 0),.nils] false) (.ptr (.own 40895493) 0) e fun d h _ _=>Ak 3 d f h fun a _ _=>Hb EE 37 b (.fv (.int .i64 0)) fun i=>Am i (BD [.fv (.int .i64 0),.fv (.int .i64 0),.nils,.fv (.int .i64 0)] [(3,1,b)] fun j=>AgK a c j) (Aj 3 d a fun k _=>AgW g a k c)
def S39 (a:Aa) (n:Nat) (d:IV) (e:Hp):OH :=
 A3 40894464 d e fun f g _ _=>AJ 40894465 (.row [.fv (.int .i64 0),.fv (.int .i64 0),.nils,.fv (.int .i64 0)] false) (.ptr (.own 40894465) 0) g fun h b _ _=>Aj 3 f b fun i _=>Al [] false false a 55 [i] b fun c j _ _=>AQ 0 c fun k=>AQ 1 c fun l=>AjM j k l h a
theorem AnK (a:Aa) (n:Nat) (b:IV) (c:Hp):Ax EE a ft.get n 39 [b] c=S39 a n b c:=by kernel_rfl
def AiU (a:Aa) (b:Hp) (c d:IV):OH :=
 Al [] false false a 57 [c,d] b fun e f _ _=>An [e] f
def S40 (b:Aa) (n:Nat) (c d:IV) (e:Hp):OH :=
 A3 41943040 c e fun f g _ _=>A3 41943041 d g fun h a _ _=>Ac 0 f fun i=>Aj 3 i a fun j _=>Ac 0 h fun k=>Aj 3 k a fun l _=>AiU b a j l
theorem Ann (a:Aa) (n:Nat) (b c:IV) (d:Hp):Ax EE a ft.get n 40 [b,c] d=S40 a n b c d:=by kernel_rfl
def EQ (c:Hp) (a:IV):OH :=
 BD [.fv (.int .i64 0),.fv (.int .i64 0),.nils] [] fun d=>Ak 3 a d c fun b _ _=>Aw true 3 a b fun e=>An [e] b
def EV (c:Aa) (d:Hp) (e a:IV):OH :=
 Al [] false false c 26 [e] d fun f g _ _=>Ak 3 a f g fun b _ _=>Aw true 3 a b fun h=>An [h] b
def EN (b c:IV) (a:Hp) (d:Aa) (e:IV):OH :=
 Bd EE 3 b (.fv (.int .i64 1)) fun f=>AF c fun g=>Ac 1 g fun h=>Af h a fun i _=>Bd EE 3 f i fun j=>EV d a j e
def E1 (h i:Hp) (a b c d e f g:IV) (j:List IV→Hp→OH):OH :=
 Bf (h.own.map (·.1)) [43011077,43013131] [a,b,c,d,e,f,g] i fun k=>j [a,b,c,d,e,f,g] k
def EY (b c:AG) (a:IV) (d:Hp) (e f:IV) (g:Hp) (h i j k l:IV) (m:List IV→Hp→OH):OH :=
 Ad [] b c (Ac 2 a fun n=>BA n e d fun o p q=>Ad [] p q (Bw EE 3 f (.fv (.int .i64 1)) fun r=>E1 g o h i j k l a r m))
def Ey (c:Aa) (d:Hp) (a e f g:IV) (b:AG) (h i j:IV) (k:Hp) (l m n o:IV) (p:List IV→Hp→OH):OH :=
 Al [true,false,false,false] false false c 41 [a,e,f,g] d fun q r s t=>Ad [(b,[])] s t (Az (Ah EE 29 1 [(0,q)]) 43013130 r fun u v w x=>Ad [(b,[])] w x (Az (A0 EE 43013131 false .append [29,29] [h,u]) 43013131 v fun y z A B=>EY A B i z y j k a l m n o p))
def Ho (a:IV) (b:Hp) (c f d:IV) (g:Aa) (h i j:IV) (k:Hp) (l m:IV) (n:List IV→Hp→OH):OH :=
 Ac 2 a fun o=>Af o b fun p e=>Ad [] e [] (Bw EE 3 c f fun q=>Bw EE 3 d (.fv (.int .i64 1)) fun r=>Ey g b h i q r e p a j k l c d m n)
def ES (l m:Hp) (a b c d e f g h i j k:IV) (n:List IV→Hp→OH):OH :=
 Bf (l.own.map (·.1)) [43011077] [a,b,c,d,e,f,g,h,i,j,k] m fun o=>n [a,b,c,d,e,f,g,h,i,j,k] o
def EK (b:IV) (c:Hp) (d:Aa) (e f:IV) (g:Hp) (h i j k l m n o p:IV) (q:List IV→Hp→OH):OH :=
 BD [.fv (.int .i64 0),.fv (.int .i64 0),.nils,.nils,.fv (.int .i64 0),.fv (.int .i64 0),.nils] [(0,1,.fv (.int .i64 1)),(1,1,b)] fun a=>fzS (Ly true 43011077 a) 43011077 a c fun r s _ _=>Az (Ah EE 87 1 [(0,r)]) 43011078 s fun t u _ _=>Al [] false false d 58 [e,t] u fun v w _ _=>Bw EE 3 f (.fv (.int .i64 1)) fun x=>ES g w h i j k l m n o p v x q
def EH (c:IV) (a:Hp) (d:Aa) (b e:IV) (f:IV→IV→IV→IV→IV→IV→IV→IV→IV→Hp→OH) (g h i j k l m:IV):OH :=
 Ac 4 c fun n=>Aj 3 n a fun o _=>Al [true,false,false] false false d 42 [b,o,e] a fun p q _ _=>f b g h i j k l m p q
def EL (n:List IV) (a b:IV) (d:Hp) (e:Aa) (f:IV) (o:Hp) (g h i j k l m:IV) (p:List IV→Hp→OH) (q:IV→IV→IV→IV→IV→IV→IV→IV→IV→Hp→OH):OH :=
 Ay n fun c _=>GP EE 3 c a fun r=>Am r (Bw EE 3 b c fun s=>EK s d e f c o g h b i j k l a m p) (AF m fun t=>EH t d e g f q h b i j k l a)
def ED (a:List IV) (b:IV) (c:Hp) (d:Aa) (e:Hp) (f g h i:IV) (j:List IV→Hp→OH) (k:IV→IV→IV→IV→IV→IV→IV→IV→IV→Hp→OH):OH :=
 Ay a fun l m=>Ay m fun n o=>Ay o fun p q=>Ay q fun r s=>Ay s fun t u=>EL u p b c d t e f g h i l n r j k
def Ht (a:List IV) (b:Hp) (c:Aa) (d:Hp) (e:List IV→Hp→OH) (f:IV→IV→IV→IV→IV→IV→IV→IV→IV→Hp→OH):OH :=
 Ay a fun g h=>Ay h fun i j=>Ay j fun k l=>Ay l fun m n=>Ay n fun o p=>ED p k b c d g i m o e f
def EO (a:Hp) (m:IV) (b:Hp) (c d e f g h i j k:IV) (n:Nat) (o:Aa) (p:IV→IV→IV→IV→IV→IV→IV→IV→IV→Hp→OH):OH :=
 Af m a fun l _=>Bf (b.own.map (·.1)) [43011077] [c,d,e,f,g,h,i,j,k,l,.fv (.int .i64 0)] a fun q=>BF n (fun r s t=>Ht s t o b r p) [c,d,e,f,g,h,i,j,k,l,.fv (.int .i64 0)] q
def EX (l a:IV) (b m:Hp) (c d e f g h i j:IV) (n:Nat) (o:Aa) (k:IV→IV→IV→IV→IV→IV→IV→IV→IV→Hp→OH):OH :=
 Am l (AF a fun p=>Ac 3 p fun q=>EO b q m c d e f g h i j a n o k) (k c d e f g h i j a b)
def EW (a:Hp) (f b:IV) (c:Aa) (d:Hp) (g:List IV→Hp→OH) (e h i j k l m:IV) (n:Nat):OH :=
 Af f a fun o _=>A8 1 o b fun p=>Af p a fun q _=>(fun (r:IV→IV→IV→IV→IV→IV→IV→IV→IV→Hp→OH)=>L0 EE 3 e (.fv (.int .i64 0)) fun s=>EX s q a d h i j k l m b e n c r) fun t u v w x y z A B C=>Ho y C v A w c t B z d u x g
def Ez (e:IV) (a:Hp) (b:Aa) (c d:IV) (f:Hp) (g:List IV→Hp→OH) (h i j k l:IV) (n:Nat):OH :=
 Ac 0 e fun m=>Af m a fun o _=>Al [] false false b 51 [o,c] a fun p q _ _=>AF d fun r=>Ac 2 r fun s=>EW q s c b f g p h d i j k l n
def E0 (c:Hp) (a d:IV):OH :=
 Ak 3 a d c fun b _ _=>Aw true 3 a b fun e=>An [e] b
def EM (f b c:IV) (a:Hp) (g:Aa) (h:Hp) (i:List IV→Hp→OH) (j k l d e:IV) (n:Nat):OH :=
 BS f fun m=>GP EE 3 b m fun o=>Am o (AF c fun p=>Ez p a g b c h i j k l d e n) (Aj 3 e a fun q _=>E0 a d q)
def EA (c:List IV) (a:IV) (b:Hp) (d:Aa) (e:Hp) (f:List IV→Hp→OH) (g h i j:IV) (n:Nat):OH :=
 Ay c fun k l=>Ay l fun m _=>AF a fun o=>Ac 2 o fun p=>Af p b fun q _=>EM q m a b d e f g h i j k n
def Fx (a:List IV) (b:Hp) (c:Aa) (d:Hp) (e:List IV→Hp→OH) (n:Nat):OH :=
 Ay a fun f g=>Ay g fun h i=>Ay i fun j k=>Ay k fun l m=>Ay m fun o p=>EA p h b c d e f j l o n
def EU (h i j k:AG) (l:Hp) (a m:IV) (b:Hp) (c d e f g:IV) (n:Nat) (o:Aa):OH :=
 Ad [(j,[]),(k,[])] h i (Ak 3 a m l fun p q r=>Ad [] q r (Bf (b.own.map (·.1)) [43011077,43013131] [c,d,e,f,g,a,.fv (.int .i64 0)] p fun s=>BF n (fun t u v=>Fx u v o b t n) [c,d,e,f,g,a,.fv (.int .i64 0)] s))
def EG (d:IV) (a:Hp) (b:AG) (e:IV) (f:Hp) (g h i j k:IV) (n:Nat) (l:Aa):OH :=
 Ac 1 d fun m=>Af m a fun o c=>Ad [(b,[])] c [] (BD [.fv (.int .i64 0),.fv (.int .i64 0),.nils] [(0,1,e),(1,1,o)] fun p=>AJ 42999817 (.row [.fv (.int .i64 0),.fv (.int .i64 0),.nils] false) (.ptr (.own 42999817) 0) a fun q r s t=>EU s t c b r q p f g h i j k n l)
def EJ (a:IV) (b d:Hp) (e f g h:IV) (n:Nat) (i:Aa):OH :=
 AF a fun j=>Ac 0 j fun k=>Af k b fun l c=>Ad [] c [] (AF a fun m=>EG m b c l d e a f g h n i)
def ER (a:IV) (b:Hp) (c:IV) (d:Aa) (e:IV) (f:Hp) (g h:IV) (n:Nat):OH :=
 AF a fun i=>Ac 0 i fun j=>Af j b fun k _=>A4 EE 3 k (.fv (.int .i64 1)) fun l=>Am l (EN c a b d e) (EJ a b f g c h e n d)
def EZ (b:IV) (a:Hp) (c d e:IV) (f:Aa) (g:Hp) (h:IV) (n:Nat):OH :=
 AF b fun i=>Ac 2 i fun j=>Af j a fun k _=>Hb EE 3 k (.fv (.int .i64 0)) fun l=>Am l (EQ a c) (ER d a e f c g b h n)
def E3 (a:IV) (b:Hp) (c:Hp→OH):OH :=
 Ac 2 a fun d=>BA d (.fv (.int .i64 5)) b fun e _ _=>c e
def EF (a:Hp) (b e f g:IV) (c:Hp→OH):OH :=
 Ab b true a (fun h=>AH e (.fv (.bool true)) f fun i=>h i a [] []) fun j d _ _=>AH b j (.fv (.bool false)) fun k=>Am k (AF g fun l=>E3 l d c) (c d)
def ET (b:Hp) (a h i j:IV) (k:Hp→OH):OH :=
 Ab a true b (fun l=>Af h b fun m n=>l m b n []) fun o d _ _=>Ab a true d (fun p=>L0 EE 3 o (.fv (.int .i64 3000)) fun q=>p q d [] []) fun r e _ _=>Ab a true e (fun s=>s r e [] []) fun c f _ _=>Ab c false f (fun t=>t i f [] []) fun u g _ _=>Ab c false g (fun v=>L0 EE 3 u (.fv (.int .i64 120)) fun w=>v w g [] []) fun x y _ _=>EF y a c x j k
def EB (b:Hp) (f c g:IV) (h:Hp→OH):OH :=
 Af f b fun i _=>A4 EE 3 i (.fv (.int .i64 0)) fun a=>Ab a true b (fun j=>j c b [] []) fun k d _ _=>Ab a true d (fun l=>AF k fun m=>l m d [] []) fun n e _ _=>Ab a true e (fun o=>Ac 1 n fun p=>o p e [] []) fun q r _ _=>ET r a q g c h
def EC (c:IV) (d:Hp) (e a f g h:IV) (i:Aa) (j:Hp) (b:IV) (n:Nat):OH :=
 Ac 1 c fun k=>BA k e d fun l _ _=>(fun (m:Hp→OH)=>AF a fun o=>Ac 2 o fun p=>EB l p a b m) fun q=>EZ a q f g h i j b n
def S41 (d:Aa) (n:Nat) (a e f g:IV) (b:Hp):OH :=
 AJ 42991616 (.row [.fv (.int .i64 0),.fv (.int .i64 0),.nils] false) (.ptr (.own 42991616) 0) b fun h c _ _=>AF a fun i=>Ac 1 i fun j=>Af j c fun k _=>Bw EE 3 k (.fv (.int .i64 1)) fun l=>AF a fun m=>EC m c l a h e f d b g n
theorem ApE (a:Aa) (n:Nat) (b c d e:IV) (f:Hp):Ax EE a ft.get n 41 [b,c,d,e] f=S41 a n b c d e f:=by kernel_rfl
def Ii (a:Hp):OH :=
 BD [.fv (.int .i64 0),.fv (.int .i64 0),.nils,.nils,.fv (.int .i64 0),.fv (.int .i64 0),.nils] [(0,1,.fv (.int .i64 11))] fun b=>A3 44042241 b a fun c d _ _=>An [c] d
def Jc (a:Hp) (b:IV):OH :=
 Af b a fun c _=>An [c] a
def IC (b c:IV) (a:Hp) (d:IV):OH :=
 Bd EE 3 b (.fv (.int .i64 1)) fun e=>Ac 1 c fun f=>Af f a fun g _=>Bd EE 3 e g fun h=>A8 1 d h fun i=>Jc a i
def I4 (a:Hp) (b:IV):OH :=
 A3 44046343 b a fun c d _ _=>An [c] d
def Jr (b c:IV) (a:Hp):OH :=
 Bd EE 3 b (.fv (.int .i64 1)) fun d=>Ac 1 c fun e=>Af e a fun f _=>Bd EE 3 d f fun g=>BD [.fv (.int .i64 0),.fv (.int .i64 0),.nils,.nils,.fv (.int .i64 0),.fv (.int .i64 0),.nils] [(0,1,.fv (.int .i64 1)),(1,1,g)] fun h=>I4 a h
def Iy (b:Hp) (d a c:IV):OH :=
 Af d b fun e _=>BS a fun f=>GP EE 3 e f fun g=>Am g (BS a fun h=>IC h c b a) (BS a fun i=>Jr i c b)
def IH (f:IV) (g h:Hp) (a b c d:IV) (i:List IV→Hp→OH):OH :=
 Bw EE 3 f (.fv (.int .i64 1)) fun e=>Bf (g.own.map (·.1)) [44052492,44052494,44053518] [a,b,c,d,e] h fun j=>i [a,b,c,d,e] j
def Ju (a:IV) (b:Hp) (c:IV) (d:Hp→OH):OH :=
 AF a fun e=>Ac 2 e fun f=>BA f c b fun g h i=>Ad [] h i (d g)
def Jh (b c a:AG) (d:Hp) (e f g:IV) (h:Hp→OH):OH :=
 Ad [(a,[])] b c (Az (Ah EE 87 1 [(0,e)]) 44052493 d fun i j k l=>Ad [(a,[])] k l (Az (A0 EE 44052494 false .append [87,87] [f,i]) 44052494 j fun m n o p=>Ad [] o p (Ju g n m h)))
def Jo (c d:IV) (a:Hp) (b:AG) (e f g:IV) (h:Hp→OH):OH :=
 A8 3 c d fun i=>Aj 3 i a fun j k=>Ad [(b,[])] k [] (BD [.fv (.int .i64 0),.fv (.int .i64 0),.nils,.nils,.fv (.int .i64 0),.fv (.int .i64 0),.nils] [(3,1,e),(4,3,j)] fun l=>A3 44052492 l a fun m n o p=>Jh o p b n m f g h)
def Ih (a:Hp) (c d e f g:IV) (h:Hp→OH):OH :=
 Af c a fun i b=>Ad [] b [] (Ac 2 d fun j=>Af j a fun k l=>Ad [(b,[])] l [] (Jo k e a b f i g h))
def I6 (a:IV) (b:Hp) (c:IV) (d:Hp→OH):OH :=
 Ac 2 a fun e=>BA e c b fun f g h=>Ad [] g h (d f)
def Ip (a:Hp) (b:IV) (c:AG) (d e:IV) (f:Hp→OH):OH :=
 Az (Ah EE 87 1 [(0,b)]) 44053517 a fun g h i j=>Ad [(c,[])] i j (Az (A0 EE 44053518 false .append [87,87] [d,g]) 44053518 h fun k l m n=>Ad [] m n (AF e fun o=>I6 o l k f))
def It (c d:IV) (b:Hp) (a:AG) (e:Aa) (f g h i:IV) (j:Hp→OH):OH :=
 A8 3 c d fun k=>Aj 3 k b fun l m=>Ad [(a,[])] m [] (Al [true,false,false] false false e 42 [f,l,g] b fun n o p q=>Ad [(a,[])] p q (Ip o n a h i j))
def Ix (a:Hp) (c d e:IV) (f:Aa) (g h i:IV) (j:Hp→OH):OH :=
 Af c a fun k b=>Ad [] b [] (Ac 2 d fun l=>Af l a fun m n=>Ad [(b,[])] n [] (It m e a b f g h k i j))
def Iv (g a:IV) (b:Hp) (c d e:IV) (f:Hp→OH) (h:Aa) (i:IV):OH :=
 Am g (AF a fun j=>Ac 2 j fun k=>Ih b k c d e a f) (AF a fun l=>Ac 2 l fun m=>Ix b m c d h i e a f)
def Jm (a:IV) (h:Hp) (c d b e:IV) (i:List IV→Hp→OH) (f:Hp) (g:Aa):OH :=
 (fun (j:Hp→OH)=>Ac 0 b fun k=>Af k f fun l _=>Al [] false false g 51 [l,a] f fun m n _ _=>L0 EE 3 m (.fv (.int .i64 0)) fun o=>Iv o e n b a d j g c) fun p=>IH a h p c d b e i
def I0 (a:Aa) (b:Hp) (c d:IV):OH :=
 Al [true,false] false false a 59 [c,d] b fun e f _ _=>An [e] f
def Jq (b:IV) (a:Hp) (c:IV) (g:Hp) (d h e:IV) (i:List IV→Hp→OH) (f:Aa):OH :=
 Ac 2 b fun j=>Af j a fun k _=>BS k fun l=>GP EE 3 c l fun m=>Am m (Jm c g d h b e i a f) (I0 f a d e)
def Z8 (a:List IV) (b c:Hp) (d:List IV→Hp→OH) (e:Aa):OH :=
 Ay a fun f g=>Ay g fun h i=>Ay i fun j k=>Ay k fun l m=>Ay m fun n _=>Jq j b n c f h l d e
def Jt (a f:Hp) (b c d e:IV) (n:Nat) (g:Aa):OH :=
 Bf (a.own.map (·.1)) [44052492,44052494,44053518] [b,c,d,e,.fv (.int .i64 0)] f fun h=>BF n (fun i j k=>Z8 j k a i g) [b,c,d,e,.fv (.int .i64 0)] h
def II (a:Hp) (c b:IV) (d:Hp) (e f:IV) (n:Nat) (g:Aa):OH :=
 Af c a fun h _=>Ac 1 b fun i=>Af i a fun j _=>BD [.fv (.int .i64 0),.fv (.int .i64 0),.nils,.nils,.fv (.int .i64 0),.fv (.int .i64 0),.nils] [(0,1,h),(1,1,j)] fun k=>A3 44047365 k a fun l m _ _=>Jt d m e f b l n g
def Jf (a:IV) (b:Hp) (c:IV) (d:Hp) (e:IV) (n:Nat) (f:Aa):OH :=
 Ac 0 a fun g=>Af g b fun h _=>A4 EE 3 h (.fv (.int .i64 1)) fun i=>Am i (Ac 1 a fun j=>Iy b j c a) (Ac 0 a fun k=>II b k a d e c n f)
def S42 (d:Aa) (n:Nat) (b e f:IV) (c:Hp):OH :=
 A3 44040192 e c fun g a _ _=>AF b fun h=>Ac 2 h fun i=>Af i a fun j _=>Hb EE 3 j (.fv (.int .i64 0)) fun k=>Am k (Ii a) (Jf g a f c b n d)
theorem Apg (a:Aa) (n:Nat) (b c d:IV) (e:Hp):Ax EE a ft.get n 42 [b,c,d] e=S42 a n b c d e:=by kernel_rfl
def S43 (j:Aa) (n:Nat) (e b:IV) (c:Hp):OH :=
 CQ EE 3 .rem e b fun a=>(fun (d:IV→Hp→OH)=>GP EE 3 a (.fv (.int .i64 0)) fun f=>Am f (Bw EE 3 a b fun g=>d g c) (d a c)) fun h i=>An [h] i
theorem Aqw (a:Aa) (n:Nat) (b c:IV) (d:Hp):Ax EE a ft.get n 43 [b,c] d=S43 a n b c d:=by kernel_rfl
def S44 (c:Aa) (n:Nat) (d:Hp):OH :=
 AJ 46137344 (.row [.fv (.int .i64 0),.fv (.int .i64 0),.nils] false) (.ptr (.own 46137344) 0) d fun a e _ _=>Al [] false false c 24 [.fv (.int .i64 10),.nils] e fun f g _ _=>Ak 3 a f g fun b _ _=>Aw true 3 a b fun h=>An [h] b
theorem Aqa (a:Aa) (n:Nat) (b:Hp):Ax EE a ft.get n 44 [] b=S44 a n b:=by kernel_rfl
def S45 (h:Aa) (n:Nat) (c:IV) (d:Hp):OH :=
 AJ 47185920 (.row [.fv (.int .i64 0),.fv (.int .i64 0),.nils] false) (.ptr (.own 47185920) 0) d fun a e _ _=>BD [.fv (.int .i64 0),.fv (.int .i64 0),.nils] [(0,1,.fv (.int .i64 2)),(1,1,c)] fun f=>Ak 3 a f e fun b _ _=>Aw true 3 a b fun g=>An [g] b
theorem AnB (a:Aa) (n:Nat) (b:IV) (c:Hp):Ax EE a ft.get n 45 [b] c=S45 a n b c:=by kernel_rfl
def VW (d e:IV) (a:Hp) (b:IV):OH :=
 A8 3 d e fun f=>Aj 3 f a fun g _=>Ak 3 b g a fun c _ _=>Aw true 3 b c fun h=>An [h] c
def XO (c d e:IV) (f:Hp) (a:IV):OH :=
 CQ EE 3 .mul (.fv (.int .i64 7)) c fun g=>Bw EE 3 d g fun h=>BD [.fv (.int .i64 0),.fv (.int .i64 0),.nils] [(0,1,e),(1,1,h)] fun i=>Ak 3 a i f fun b _ _=>Aw true 3 a b fun j=>An [j] b
def VX (c a d:IV) (b:Hp) (e:IV):OH :=
 CQ EE 3 .quo c (.fv (.int .i64 3)) fun f=>Bw EE 3 f a fun g=>Ac 1 d fun h=>Af h b fun i _=>CQ EE 3 .quo i (.fv (.int .i64 5)) fun j=>XO a j g b e
def WH (e b:IV) (a:Hp) (c d:IV):OH :=
 Am e (Ac 2 b fun f=>Af f a fun g _=>VW g c a d) (Ac 0 b fun h=>Af h a fun i _=>VX i c b a d)
def S46 (l:Aa) (n:Nat) (d a:IV) (e:Hp):OH :=
 A3 48234496 d e fun b f _ _=>AJ 48234497 (.row [.fv (.int .i64 0),.fv (.int .i64 0),.nils] false) (.ptr (.own 48234497) 0) f fun g c _ _=>Ac 2 b fun h=>Af h c fun i _=>BS i fun j=>GP EE 3 a j fun k=>WH k b c a g
theorem AnN (a:Aa) (n:Nat) (b c:IV) (d:Hp):Ax EE a ft.get n 46 [b,c] d=S46 a n b c d:=by kernel_rfl
def So (h:IV) (i j:Hp) (a b c d e f:IV) (k:List IV→Hp→OH):OH :=
 Bw EE 3 h (.fv (.int .i64 1)) fun g=>Bf (i.own.map (·.1)) [49289232,49291267] [a,b,c,d,e,f,g] j fun l=>k [a,b,c,d,e,f,g] l
def Td (a:Hp) (b c:IV) (d:IV→Hp→OH):OH :=
 Az (Ah EE 92 1 [(0,b)]) 49291266 a fun e f _ _=>Az (A0 EE 49291267 false .append [92,92] [c,e]) 49291267 f fun g h _ _=>d g h
def R3 (f g:AG) (a:Hp) (b:IV) (h:Aa) (i j k c:IV) (d:IV→Hp→OH):OH :=
 Ad [] f g (Ab b true a (fun l=>Al [] false false h 37 [i,j] a l) fun m e n o=>Ad [] n o (AH b m (.fv (.bool false)) fun p=>Am p (Td e k c d) (d c e)))
def R7 (d:Hp) (a:IV) (b:Aa) (h i:IV) (j k:AG) (l m:IV) (n:IV→Hp→OH):OH :=
 Ab a true d (fun o=>Al [] false false b 38 [h] d o) fun p c e f=>Ad [] e f (Ab a true c (fun q=>Aj 3 i c fun r s=>q r c s []) fun t g u v=>Ad [(e,f),(j,k)] u v (Ab a true g (fun w=>Al [] false false b 38 [t] g w) fun x y z A=>R3 z A y a b p x l m n))
def Sk (f:Hp) (g h:IV) (i:Aa) (j k l:IV) (m:IV→Hp→OH):OH :=
 AJ 49289232 (.row [.fv (.int .i64 0),.fv (.int .i64 0),.nils] false) (.ptr (.own 49289232) 0) f fun b n _ _=>Ak 3 b g n fun a _ _=>A4 EE 3 h (.fv (.int .i64 0)) fun c=>Ab c true a (fun o=>Aj 3 b a fun p q=>o p a q []) fun r s d e=>Ad [] d e (R7 s c i r j d e k l m)
def TR (b:IV) (a:Aa) (d:Hp) (e f g:IV) (h:IV→Hp→OH):OH :=
 Bw EE 3 b (.fv (.int .i64 1)) fun i=>Al [] false false a 25 [e,i,.fv (.int .i64 0)] d fun j k _ _=>Al [] false false a 17 [j] k fun c l _ _=>AQ 0 c fun m=>AQ 1 c fun n=>Sk l m n a f b g h
def T9 (c a d:IV) (b:Hp) (e:Aa) (f g:IV) (h:IV→Hp→OH):OH :=
 Bd EE 3 c (.fv (.int .i64 1)) fun i=>Bd EE 3 i a fun j=>A8 4 d j fun k=>Ac 1 k fun l=>Aj 3 l b fun m _=>TR a e b m f g h
def RR (e:IV) (a:Hp) (f:IV) (b:IV→Hp→OH) (c d g:IV) (h:Aa) (i:IV):OH :=
 Ac 0 e fun j=>Af j a fun k _=>Hb EE 3 k f fun l=>Am l (b c a) (BS d fun m=>T9 m g d a h i c b)
def RG (b:IV) (e:Hp) (a c f d g:IV) (h:List IV→Hp→OH) (i:Hp) (j:IV) (k:Aa):OH :=
 (fun (l:IV→Hp→OH)=>BS a fun m=>Bd EE 3 m (.fv (.int .i64 1)) fun n=>Bd EE 3 n b fun o=>A8 4 a o fun p=>RR p i c l j a b k d) fun q r=>So b e r a c f d g q h
def R2 (c:Hp) (a d:IV):OH :=
 Ak 3 a d c fun b _ _=>Aw true 3 a b fun e=>An [e,.fv (.bool false)] b
def Ss (a:Hp) (b:IV):OH :=
 Aw true 3 b a fun c=>An [c,.fv (.bool true)] a
def Ry (a:Aa) (d:Hp) (e f g b:IV):OH :=
 Al [] false false a 43 [e,f] d fun h c _ _=>A8 1 g h fun i=>Af i c fun j _=>Al [] false false a 26 [j] c fun k l _ _=>Ak 3 b k l fun m _ _=>Ss m b
def Tt (a:IV) (b:Hp) (c:IV) (d:Aa) (e:IV):OH :=
 BS a fun f=>A4 EE 3 f (.fv (.int .i64 0)) fun g=>Am g (BD [.fv (.int .i64 0),.fv (.int .i64 0),.nils] [] fun h=>R2 b c h) (BS a fun i=>Ry d b e i a c)
def Re (h:List IV) (a:IV) (i:Hp) (j b k c:IV) (l:List IV→Hp→OH) (d:Hp) (e:Aa):OH :=
 Ay h fun f m=>Ay m fun g _=>BS a fun n=>GP EE 3 g n fun o=>Am o (RG g i a j b k c l d f e) (Tt f d c e b)
def AcX (a:List IV) (b:Hp) (c:List IV→Hp→OH) (d:Hp) (e:Aa):OH :=
 Ay a fun f g=>Ay g fun h i=>Ay i fun j k=>Ay k fun l m=>Ay m fun n o=>Re o f b h j l n c d e
def S47 (g:Aa) (n:Nat) (b c h d:IV) (a:Hp):OH :=
 A3 49283072 h a fun e i _ _=>AJ 49283073 (.row [.fv (.int .i64 0),.fv (.int .i64 0),.nils] false) (.ptr (.own 49283073) 0) i fun f j _ _=>Bf (a.own.map (·.1)) [49289232,49291267] [b,c,d,e,f,.nils,.fv (.int .i64 0)] j fun k=>BF n (fun l m o=>AcX m a l o g) [b,c,d,e,f,.nils,.fv (.int .i64 0)] k
theorem Ani (a:Aa) (n:Nat) (b c d e:IV) (f:Hp):Ax EE a ft.get n 47 [b,c,d,e] f=S47 a n b c d e f:=by kernel_rfl
def K9 (c d:IV) (e:Hp) (a f:IV):OH :=
 AH c d (.fv (.bool false)) fun g=>Ak 3 a f e fun b _ _=>Aw true 3 a b fun h=>An [h,g] b
def LJ (d:Hp) (e f g:IV) (a:Aa) (b h i:IV):OH :=
 Az (Ah EE 29 3 [(0,e),(1,f),(2,g)]) 50337795 d fun j k _ _=>Al [] false false a 24 [.fv (.int .i64 7),j] k fun l m _ _=>Az (Ah EE 29 1 [(0,l)]) 50337797 m fun n o _ _=>Al [] false false a 24 [.fv (.int .i64 8),n] o fun p c _ _=>Ab b true c (fun q=>q h c [] []) fun r s _ _=>K9 b r s i p
def J8 (c:Hp) (b d e f:IV) (g:Aa) (h i j:IV):OH :=
 Ak 3 b d c fun a k l=>Ad [] k l (Aj 3 b a fun m _=>Aj 3 e a fun n _=>Aj 3 f a fun o _=>LJ a m n o g h i j)
def Ka (a b:AG) (c:Aa) (f:Hp) (g:IV) (h i j k:AG) (l m n o p:IV):OH :=
 Ad [] a b (Al [] false false c 24 [.fv (.int .i64 6),g] f fun q r d e=>Ad [] d e (AJ 50336773 (.row [.fv (.int .i64 0),.fv (.int .i64 0),.nils] false) (.ptr (.own 50336773) 0) r fun s t u v=>Ad [(d,e),(a,b),(h,i),(j,[]),(k,[])] u v (J8 t s q l m c n o p)))
def Lh (b:Hp) (g:IV) (a:AG) (c:Aa) (h i j k l m:IV):OH :=
 Aj 3 g b fun n d=>Ad [(a,[])] d [] (Al [] false false c 25 [n,.fv (.int .i64 1),.fv (.int .i64 0)] b fun o p e f=>Ad [(a,[])] e f (Az (Ah EE 29 2 [(0,h),(1,o)]) 50336771 p fun q r s t=>Ka s t c r q e f d a i j k l m))
def LV (d e f g h i j k:AG) (l:Hp) (a m n o:IV) (p:Aa) (q r s t:IV):OH :=
 Ad [(f,g),(h,i),(j,[]),(k,[])] d e (Ak 3 a m l fun b u v=>Ad [] u v (Aj 3 n b fun w c=>Ad [] c [] (Lh b o c p w a q r s t)))
def KE (a:Aa) (e:Hp) (f g h i:IV) (j k l m:AG) (n o p q r:IV):OH :=
 Al [] false false a 23 [f,g,h,i] e fun b s c d=>Ad [] c d (AQ 0 b fun t=>AQ 1 b fun u=>AJ 50335754 (.row [.fv (.int .i64 0),.fv (.int .i64 0),.nils] false) (.ptr (.own 50335754) 0) s fun v w x y=>LV x y c d j k l m w v t n o a p q u r)
def LG (b:Hp) (g:IV) (a:AG) (c:Aa) (h i j k l m n o:IV):OH :=
 Aj 3 g b fun p d=>Ad [(a,[])] d [] (Al [] false false c 46 [p,.fv (.int .i64 2)] b fun q r e f=>Ad [(a,[])] e f (Bd EE 3 h (.fv (.int .i64 2)) fun s=>KE c r i j q s e f d a k l m n o))
def KS (c:Hp) (a d e:IV):OH :=
 Ak 3 a d c fun b f g=>Ad [] f g (Aw true 3 a b fun h=>An [h,e] b)
def Kn (c d:AG) (e:Aa) (f:Hp) (g a h i:IV):OH :=
 Ad [] c d (Al [] false false e 24 [.fv (.int .i64 5),g] f fun j b k l=>Ad [] k l (Ab a true b (fun m=>m h b [] []) fun n o _ _=>AH a n (.fv (.bool false)) fun p=>KS o i j p))
def KP (a:Aa) (e:Hp) (f g:IV) (h i j k:AG) (l m n:IV):OH :=
 Al [] false false a 24 [.fv (.int .i64 4),f] e fun o b c d=>Ad [] c d (Aj 3 g b fun p q=>Ad [(c,d),(h,i),(j,[]),(k,[])] q [] (Az (Ah EE 29 2 [(0,o),(1,p)]) 50339845 b fun r s t u=>Kn t u a s r l m n))
def K0 (a:AG) (b:Hp) (f g:IV) (h:Aa) (i j k l:IV):OH :=
 Ad [] a [] (Aj 3 f b fun m c=>Ad [(a,[])] c [] (Az (Ah EE 29 2 [(0,g),(1,m)]) 50339842 b fun n o d e=>Ad [] d e (KP h o n i d e c a j k l)))
def Lf (c:Hp) (d e f g h i j k l m n:AG) (o p:IV) (q:Aa) (r s t u:IV):OH :=
 AJ 50338829 (.row [.fv (.int .i64 0),.fv (.int .i64 0),.nils] false) (.ptr (.own 50338829) 0) c fun a v w x=>Ad [(d,e),(f,g),(h,[]),(i,j),(k,[]),(l,m),(n,[])] w x (Ak 3 a o v fun b y z=>Ad [] y z (Aj 3 p b fun A B=>K0 B b a A q r s t u))
def Kb (e:IV) (a:Aa) (f:Hp) (g h i:IV) (j k l m n o p q r:AG) (s t u v:IV):OH :=
 Bd EE 3 e (.fv (.int .i64 2)) fun w=>Al [] false false a 23 [g,h,i,w] f fun b x c d=>Ad [] c d (AQ 0 b fun y=>AQ 1 b fun z=>Lf x c d j k l m n o p q r y s a t u z v)
def LR (a b:AG) (c:Hp) (l:IV) (d e f g:AG) (h:Aa) (m n o p q r s:IV):OH :=
 Ad [] a b (Aj 3 l c fun t i=>Ad [(a,b),(d,[]),(e,f),(g,[])] i [] (Al [] false false h 46 [t,.fv (.int .i64 2)] c fun u v j k=>Ad [] j k (Kb m h v n o u j k i a b d e f g p q r s)))
def Lr (a:Aa) (g:Hp) (h i j:IV) (d:AG) (k l m n o p:IV):OH :=
 Al [] false false a 22 [h,.fv (.int .i64 1),i] g fun q e b c=>Ad [] b c (Aj 3 j e fun r f=>Ad [(b,c),(d,[])] f [] (Al [] false false a 25 [r,.fv (.int .i64 1),.fv (.int .i64 0)] e fun s t u v=>LR u v t k f b c d a l q s m n o p))
def LY (m:IV) (a:Hp) (b d:IV) (e:Aa) (f g c h i j:IV):OH :=
 A4 EE 3 m (.fv (.int .i64 0)) fun n=>Am n (Aj 3 b a fun o k=>Ad [] k [] (LG a d k e f g o b c h i j)) (Aj 3 c a fun p l=>Ad [] l [] (Lr e a g p b l d f c h i j))
def Ll (e:Hp) (a f b:IV) (c:Aa) (g h i j k l:IV):OH :=
 Ak 3 a f e fun d m n=>Ad [] m n (Ac 1 b fun o=>Af o d fun p _=>Al [] false false c 43 [p,.fv (.int .i64 3)] d fun q r _ _=>LY q r g b c h i j a k l)
def Ls (a b:AG) (c:IV) (d:Hp) (e f g h:AG) (i:IV) (j:Aa) (k l m n o:IV):OH :=
 Ad [] a b (AQ 0 c fun p=>AQ 1 c fun q=>AJ 50333706 (.row [.fv (.int .i64 0),.fv (.int .i64 0),.nils] false) (.ptr (.own 50333706) 0) d fun r s t u=>Ad [(a,b),(e,f),(g,[]),(h,[])] t u (Ll s r p i j k l m n q o))
def K3 (c a:AG) (b:Aa) (h:Hp) (i d e j k l m n:IV):OH :=
 Ad [(a,[])] c [] (Al [] false false b 46 [i,.fv (.int .i64 1)] h fun o p f g=>Ad [(a,[])] f g (Bd EE 3 d (.fv (.int .i64 2)) fun q=>Al [] false false b 23 [e,j,o,q] p fun r s t u=>Ls t u r s f g c a k b l d e m n))
def Kx (e:Hp) (f c:IV) (g:Aa) (h i j k:IV):OH :=
 AJ 50332676 (.row [.fv (.int .i64 0),.fv (.int .i64 0),.nils] false) (.ptr (.own 50332676) 0) e fun a l _ _=>Ak 3 a f l fun b _ _=>Aj 3 a b fun m d=>Ad [] d [] (Aj 3 c b fun n o=>K3 o d g b n h i m c j a k)
def S48 (a:Aa) (n:Nat) (b e f g:IV) (h:Hp):OH :=
 A3 50331648 e h fun i j _ _=>A3 50331649 f j fun c k _ _=>AJ 50331650 (.row [.fv (.int .i64 0),.fv (.int .i64 0),.nils] false) (.ptr (.own 50331650) 0) k fun l d _ _=>Aj 3 c d fun m _=>Al [] false false a 46 [m,.fv (.int .i64 0)] d fun o p _ _=>Al [] false false a 21 [b,o,.fv (.int .i64 1)] p fun q r _ _=>Kx r q c a g b i l
theorem AqC (a:Aa) (n:Nat) (b c d e:IV) (f:Hp):Ax EE a ft.get n 48 [b,c,d,e] f=S48 a n b c d e f:=by kernel_rfl
def Aal (b c:AG) (a:Hp) (d e:IV):OH :=
 Ad [] b c (Aw true 3 d a fun f=>An [f,e] a)
def AaH (a:Hp) (b f g c h:IV):OH :=
 Ab b true a (fun i=>i f a [] []) fun j d _ _=>AH b j (.fv (.bool false)) fun e=>Ab e true d (fun k=>k g d [] []) fun l m _ _=>AH e l (.fv (.bool false)) fun n=>Ak 3 c h m fun o p q=>Aal p q o c n
def AcC (a b c d e f:AG) (g:Hp) (h i j k:IV) (l:Aa) (m n o p:IV):OH :=
 Ad [(b,[]),(c,[]),(d,e),(f,[])] a [] (Az (Ah EE 29 4 [(0,h),(1,i),(2,j),(3,k)]) 51385349 g fun q r s t=>Ad [] s t (Al [] false false l 24 [.fv (.int .i64 13),q] r fun u v w x=>Ad [] w x (AaH v m n o p u)))
def Z2 (a:Hp) (g:IV) (b c d:AG) (h i j:IV) (k:Aa) (l m n o:IV):OH :=
 Aj 3 g a fun p e=>Ad [(b,c),(d,[])] e [] (Aj 3 h a fun q f=>Ad [(e,[]),(b,c),(d,[])] f [] (Aj 3 i a fun r s=>AcC s f e b c d a j p q r k l m n o))
def Adf (f g:AG) (a:Hp) (h:IV) (b:Aa) (i j k l m n o:IV):OH :=
 Ad [] f g (Aj 3 h a fun p c=>Ad [] c [] (Al [] false false b 25 [p,.fv (.int .i64 1),.fv (.int .i64 0)] a fun q r d e=>Ad [] d e (Z2 r i d e c j k q b l m n o)))
def Ac7 (a:IV) (c:Hp) (d e f g h i j k l m n o p q r s t:AG) (u:IV) (v:Aa) (w x y z A:IV):OH :=
 AQ 0 a fun B=>AQ 1 a fun C=>AJ 51384336 (.row [.fv (.int .i64 0),.fv (.int .i64 0),.nils] false) (.ptr (.own 51384336) 0) c fun b D E F=>Ad [(d,e),(f,g),(h,[]),(i,j),(k,[]),(l,m),(n,o),(p,[]),(q,r),(s,t)] E F (Ak 3 b B D fun G H I=>Adf H I G u v w b x y z C A)
def AeA (a:Aa) (f:Hp) (g h i j:IV) (k l m n o p q r s t u v w:AG) (x y z A B C:IV):OH :=
 Al [] false false a 46 [g,.fv (.int .i64 2)] f fun D E b c=>Ad [] b c (Bd EE 3 h (.fv (.int .i64 2)) fun F=>Al [] false false a 23 [i,j,D,F] E fun G H d e=>Ad [] d e (Ac7 G H d e b c k l m n o p q r s t u v w x a y z A B C))
def AaA (a b c d e f g h i j:AG) (m:Aa) (p:Hp) (q r s t u v w x y z:IV):OH :=
 Ad [(b,c),(d,e),(f,[]),(g,h),(i,j)] a [] (Al [] false false m 25 [q,.fv (.int .i64 2),.fv (.int .i64 0)] p fun A n k l=>Ad [] k l (Aj 3 r n fun B o=>Ad [(k,l),(a,[]),(b,c),(d,e),(f,[]),(g,h),(i,j)] o [] (AeA m n B s t A o k l a b c d e f g h i j u v w x y z)))
def Abv (a:Aa) (h:Hp) (i j b:IV) (k l m n o:AG) (p q r s t u v:IV):OH :=
 Al [] false false a 25 [i,.fv (.int .i64 1),.fv (.int .i64 0)] h fun w x c d=>Ad [] c d (Al [] false false a 22 [j,.fv (.int .i64 1),w] x fun y e f g=>Ad [] f g (Aj 3 b e fun z A=>AaA A f g c d k l m n o a e z p q y b r s t u v))
def AaK (a b:AG) (e:Aa) (i:Hp) (j k f l m n o p q r:IV):OH :=
 Ad [] a b (Al [] false false e 22 [j,.fv (.int .i64 1),k] i fun s g c d=>Ad [] c d (Aj 3 f g fun t h=>Ad [(c,d),(a,b)] h [] (Abv e g t s f h c d a b l m n o p q r)))
def AcA (c:Hp) (d e f g h i:AG) (j:IV) (a:Aa) (k l m n o p q r:IV):OH :=
 AJ 51383306 (.row [.fv (.int .i64 0),.fv (.int .i64 0),.nils] false) (.ptr (.own 51383306) 0) c fun b s t u=>Ad [(d,e),(f,g),(h,[]),(i,[])] t u (Ak 3 b j s fun v w x=>Ad [] w x (Al [] false false a 44 [] v fun y z A B=>AaK A B a z k y l m n b o p q r))
def Aa0 (a:IV) (b:Aa) (g:Hp) (c h i:IV) (j k l m:AG) (n o p q r:IV):OH :=
 Bd EE 3 a (.fv (.int .i64 2)) fun s=>Al [] false false b 23 [c,h,i,s] g fun d t e f=>Ad [] e f (AQ 0 d fun u=>AQ 1 d fun v=>AcA t e f j k l m u b c n o a p q v r)
def AdY (a:AG) (b:Hp) (c:IV) (d:Aa) (h i j k l m n:IV):OH :=
 Ad [] a [] (Aj 3 c b fun o e=>Ad [(a,[])] e [] (Al [] false false d 46 [o,.fv (.int .i64 1)] b fun p q f g=>Ad [(a,[])] f g (Aa0 h d q i j p f g e a k c l m n)))
def AcV (d:Hp) (e f g h i j k:AG) (l a m:IV) (n:Aa) (o p q r:IV):OH :=
 AJ 51382282 (.row [.fv (.int .i64 0),.fv (.int .i64 0),.nils] false) (.ptr (.own 51382282) 0) d fun b s t u=>Ad [(e,f),(g,h),(i,[]),(j,k)] t u (Ak 3 b l s fun c v w=>Ad [] v w (Aj 3 a c fun x y=>AdY y c m n o p x a b q r))
def Yr (a:IV) (b:Aa) (g:Hp) (c h i:IV) (j k l m n:AG) (o p q:IV):OH :=
 Bd EE 3 a (.fv (.int .i64 2)) fun r=>Al [] false false b 23 [c,h,i,r] g fun d s e f=>Ad [] e f (AQ 0 d fun t=>AQ 1 d fun u=>AcV s e f j k l m n t o p b a c u q)
def Abg (a b:AG) (c:Hp) (d:IV) (e:Aa) (i j k l m:IV):OH :=
 Ad [] a b (Aj 3 d c fun n f=>Ad [(a,b)] f [] (Al [] false false e 46 [n,.fv (.int .i64 0)] c fun o p g h=>Ad [] g h (Yr i e p j k o g h f a b l d m)))
def ZC (c:Aa) (d:Hp) (e a f:IV):OH :=
 Al [] false false c 24 [.fv (.int .i64 12),e] d fun g h _ _=>Ak 3 a g h fun b _ _=>Aw true 3 a b fun i=>An [i,f] b
def Aef (c d e f g h i j:AG) (k:Hp) (a l:IV) (m:Aa) (n o:IV):OH :=
 Ad [(e,f),(g,h),(i,[]),(j,[])] c d (Ak 3 a l k fun b p q=>Ad [] p q (Aj 3 a b fun r _=>Az (Ah EE 29 1 [(0,r)]) 51390465 b fun s t _ _=>ZC m t s n o))
def AaU (a:Aa) (e:Hp) (f g h i:IV) (j k l m:AG) (n:IV):OH :=
 Al [] false false a 23 [f,g,h,i] e fun b o c d=>Ad [] c d (AQ 0 b fun p=>AQ 1 b fun q=>AJ 51389450 (.row [.fv (.int .i64 0),.fv (.int .i64 0),.nils] false) (.ptr (.own 51389450) 0) o fun r s t u=>Aef t u c d j k l m s r p a n q)
def Abs (b:Hp) (g:IV) (a:AG) (c:Aa) (h i j k:IV):OH :=
 Aj 3 g b fun l d=>Ad [(a,[])] d [] (Al [] false false c 46 [l,.fv (.int .i64 0)] b fun m n e f=>Ad [(a,[])] e f (Bd EE 3 h (.fv (.int .i64 1)) fun o=>AaU c n i j m o e f d a k))
def Acb (a:Aa) (d:Hp) (e b:IV):OH :=
 Al [] false false a 43 [e,.fv (.int .i64 4)] d fun f g _ _=>Al [] false false a 29 [f] g fun h i _ _=>Ak 3 b h i fun c _ _=>Aw true 3 b c fun j=>An [j,.fv (.bool true)] c
def Ace (f:IV) (a:Hp) (g b:IV) (c:Aa) (h i d:IV):OH :=
 Am f (Aj 3 g a fun j e=>Ad [] e [] (Abs a b e c h i j d)) (Ac 1 b fun k=>Af k a fun l _=>Acb c a l d)
def Ze (c:Hp) (a d:IV) (e:Aa) (h i j k:IV):OH :=
 Ab a true c (fun l=>Ac 0 d fun m=>l m c [] []) fun n b _ _=>Ab a true b (fun o=>Af n b fun p q=>o p b q []) fun r f _ _=>Ab a true f (fun s=>Al [] false false e 43 [r,.fv (.int .i64 2)] f s) fun t g _ _=>Ab a true g (fun u=>A4 EE 3 t (.fv (.int .i64 1)) fun v=>u v g [] []) fun w x _ _=>AH a w (.fv (.bool false)) fun y=>Ace y x h d e i j k
def Aao (c d:IV) (e:Hp) (a f:IV):OH :=
 AH c d (.fv (.bool false)) fun g=>Ak 3 a f e fun b h i=>Ad [] h i (Aw true 3 a b fun j=>An [j,g] b)
def AaM (c:Hp) (d e:IV) (f g h:AG) (i:Aa) (j a k l:IV):OH :=
 Az (Ah EE 29 2 [(0,d),(1,e)]) 51396614 c fun m n o p=>Ad [(f,g),(h,[])] o p (Al [] false false i 24 [j,m] n fun q b r s=>Ad [] r s (Ab a true b (fun t=>t k b [] []) fun u v _ _=>Aao a u v l q))
def Ade (f:IV) (a:Hp) (g:IV) (b c d:AG) (h:IV) (i:Aa) (j k l:IV):OH :=
 Bw EE 3 (.fv (.int .i64 16)) f fun m=>Aj 3 g a fun n e=>Ad [(b,c),(d,[])] e [] (Aj 3 h a fun o p=>Ad [(e,[]),(b,c),(d,[])] p [] (AaM a n o b c d i m j k l))
def Zw (f:IV) (a:Hp) (b:Aa) (g h i j k:IV):OH :=
 Ac 1 f fun l=>Af l a fun m c=>Ad [] c [] (Al [] false false b 43 [m,.fv (.int .i64 2)] a fun n o d e=>Ad [] d e (Ade n o g d e c h b i j k))
def AdJ (b:IV) (c:Hp) (d e f g h i:AG) (j k:IV) (l:Aa) (m n o:IV):OH :=
 AQ 1 b fun p=>AJ 51395594 (.row [.fv (.int .i64 0),.fv (.int .i64 0),.nils] false) (.ptr (.own 51395594) 0) c fun a q r s=>Ad [(d,e),(f,g),(h,[]),(i,[])] r s (Ak 3 a j q fun t u v=>Ad [] u v (Zw k t l m a n p o))
def Aci (a b c:AG) (h:IV) (d:Aa) (i:Hp) (j k l:IV) (m:AG) (n o p q:IV):OH :=
 Ad [(c,[])] a b (Bd EE 3 h (.fv (.int .i64 1)) fun r=>Al [] false false d 23 [j,k,l,r] i fun e s f g=>Ad [] f g (AQ 0 e fun t=>AdJ e s f g a b m c t n d o p q))
def Abb (a:Hp) (f c:IV) (d:Aa) (g h i j k:IV):OH :=
 Aj 3 f a fun l b=>Ad [] b [] (Aj 3 c a fun m e=>Ad [(b,[])] e [] (Al [] false false d 46 [m,.fv (.int .i64 1)] a fun n o p q=>Aci p q b g d o h l n e c i j k))
def Ad6 (b:IV) (c:Hp) (d e f g h i:AG) (j k l:IV) (m:Aa) (n o p:IV):OH :=
 AQ 1 b fun q=>AJ 51394570 (.row [.fv (.int .i64 0),.fv (.int .i64 0),.nils] false) (.ptr (.own 51394570) 0) c fun a r s t=>Ad [(d,e),(f,g),(h,[]),(i,[])] s t (Ak 3 a j r fun u v w=>Ad [] v w (Abb u k l m n o a q p))
def XP (a b c:AG) (d:IV) (e:Aa) (j:Hp) (f k l:IV) (m:AG) (n o p:IV):OH :=
 Ad [(c,[])] a b (Bd EE 3 d (.fv (.int .i64 1)) fun q=>Al [] false false e 23 [f,k,l,q] j fun g r h i=>Ad [] h i (AQ 0 g fun s=>Ad6 g r h i a b m c s n o e d f p))
def Ya (a:Hp) (c d:IV) (e:Aa) (g h i:IV):OH :=
 Aj 3 c a fun j b=>Ad [] b [] (Aj 3 d a fun k f=>Ad [(b,[])] f [] (Al [] false false e 46 [k,.fv (.int .i64 0)] a fun l m n o=>XP n o b g e m h j l f c d i))
def AdK (c:Aa) (d:Hp) (a:IV):OH :=
 Al [] false false c 24 [.fv (.int .i64 15),.nils] d fun e f _ _=>Ak 3 a e f fun b _ _=>Aw true 3 a b fun g=>An [g,.fv (.bool true)] b
def AaC (b:Hp) (a h:IV) (c:Aa) (i j k l d:IV):OH :=
 Ab a true b (fun m=>Af h b fun n o=>m n b o []) fun p e _ _=>Ab a true e (fun q=>Al [] false false c 43 [p,.fv (.int .i64 5)] e q) fun r f _ _=>Ab a true f (fun s=>L0 EE 3 r (.fv (.int .i64 1)) fun t=>s t f [] []) fun u g _ _=>AH a u (.fv (.bool false)) fun v=>Am v (Ya g i j c k l d) (AdK c g d)
def Z4 (c:IV) (d:Aa) (e:Hp) (a:IV):OH :=
 Bd EE 3 c (.fv (.int .i64 1)) fun f=>Al [] false false d 45 [f] e fun g h _ _=>Ak 3 a g h fun b _ _=>Aw true 3 a b fun i=>An [i,.fv (.bool true)] b
def YT (a:Hp) (b c:IV):OH :=
 Aw true 3 b a fun d=>An [d,c] a
def Aei (d e:AG) (a:Hp) (b f c g:IV):OH :=
 Ad [] d e (Ab b true a (fun h=>h f a [] []) fun i j _ _=>AH b i (.fv (.bool false)) fun k=>Ak 3 c g j fun l m n=>Ad [] m n (YT l c k))
def AaS (a:Hp) (e:IV) (f b c d:AG) (g:IV) (h:Aa) (i j k l:IV):OH :=
 Aj 3 e a fun m n=>Ad [(f,[]),(b,[]),(c,d)] n [] (Az (Ah EE 29 2 [(0,g),(1,m)]) 51404807 a fun o p q r=>Ad [(b,[]),(c,d)] q r (Al [] false false h 24 [i,o] p fun s t u v=>Aei u v t j k l s))
def Zg (f g:IV) (a:Hp) (h:IV) (c d:AG) (i:IV) (j:Aa) (k l m:IV):OH :=
 A8 1 f g fun n=>Af n a fun o b=>Ad [] b [] (Aj 3 h a fun p e=>Ad [(b,[]),(c,d)] e [] (AaS a i e b c d p j o k l m))
def AdP (d:Hp) (a e f g:IV) (h:Aa) (i j k:IV):OH :=
 Ak 3 a e d fun l m n=>Ad [] m n (Az (Ah EE 92 2 [(0,.fv (.int .i64 3)),(1,.fv (.int .i64 6))]) 51404800 l fun o p b c=>Ad [] b c (Bd EE 3 f (.fv (.int .i64 2)) fun q=>Zg o q p g b c a h i j k))
def AbH (a b:AG) (c:IV) (d:Hp) (e f g h i j k:AG) (l m:IV) (n:Aa) (o p:IV):OH :=
 Ad [] a b (AQ 0 c fun q=>AQ 1 c fun r=>AJ 51403788 (.row [.fv (.int .i64 0),.fv (.int .i64 0),.nils] false) (.ptr (.own 51403788) 0) d fun s t u v=>Ad [(a,b),(e,f),(g,[]),(h,[]),(i,j),(k,[])] u v (AdP t s q l m n o r p))
def AeE (c a d e f:AG) (b:Aa) (i:Hp) (j k l m n o p q:IV):OH :=
 Ad [(a,[]),(d,e),(f,[])] c [] (Al [] false false b 46 [j,.fv (.int .i64 1)] i fun r s g h=>Ad [(a,[])] g h (Bd EE 3 k (.fv (.int .i64 1)) fun t=>Al [] false false b 23 [l,m,r,t] s fun u v w x=>AbH w x u v g h c a d e f n o b p q))
def AbD (d:Aa) (g:Hp) (h i j:IV) (e:AG) (k l m n o p:IV):OH :=
 Al [] false false d 22 [h,.fv (.int .i64 1),i] g fun q a b c=>Ad [] b c (Aj 3 j a fun r f=>Ad [(b,c),(e,[])] f [] (Aj 3 k a fun s t=>AeE t f b c e d a s l q r m n o p))
def Aaz (d e f g h i j k:AG) (l:Hp) (a m:IV) (n:Aa) (o p q r s t u:IV):OH :=
 Ad [(f,g),(h,i),(j,[]),(k,[])] d e (Ak 3 a m l fun b v w=>Ad [] v w (Aj 3 a b fun x c=>Ad [] c [] (AbD n b o x p c q r s a t u)))
def Ab2 (a:Aa) (f:Hp) (b g h i:IV) (j k l m:AG) (n o p q r:IV):OH :=
 Al [] false false a 23 [b,g,h,i] f fun c s d e=>Ad [] d e (AQ 0 c fun t=>AQ 1 c fun u=>AJ 51402762 (.row [.fv (.int .i64 0),.fv (.int .i64 0),.nils] false) (.ptr (.own 51402762) 0) s fun v w x y=>Aaz x y d e j k l m w v t a b n o p q u r)
def Abn (b:Hp) (c:IV) (a:AG) (d:Aa) (e i j k l m:IV):OH :=
 Aj 3 c b fun n f=>Ad [(a,[])] f [] (Al [] false false d 46 [n,.fv (.int .i64 0)] b fun o p g h=>Ad [(a,[])] g h (Bd EE 3 e (.fv (.int .i64 1)) fun q=>Ab2 d p i j o q g h f a k c e l m))
def AcE (a:Hp) (b:IV):OH :=
 Aw true 3 b a fun c=>An [c,.fv (.bool true)] a
def YK (c d:IV) (a:Hp) (b:IV):OH :=
 A8 3 c d fun e=>Aj 3 e a fun f g=>Ad [] g [] (Ak 3 b f a fun h i j=>Ad [] i j (AcE h b))
def Abm (d:IV) (a:Hp) (b c e f g h i j k l m n:AG) (o:Aa) (p q:IV):OH :=
 Ac 1 d fun r=>Af r a fun s t=>Ad [(b,c),(e,f),(g,h),(i,j),(k,l),(m,n)] t [] (Al [] false false o 43 [s,.fv (.int .i64 3)] a fun u v w x=>Ad [(b,c)] w x (YK p u v q))
def Aed (a b:AG) (c:Aa) (h:Hp) (i j k l:IV) (m n o p q r:AG) (s:IV):OH :=
 Ad [] a b (Al [] false false c 24 [.fv (.int .i64 18),i] h fun t u d e=>Ad [] d e (Az (Ah EE 29 3 [(0,j),(1,k),(2,t)]) 51405829 u fun v w f g=>Ad [] f g (Abm l w f g d e a b m n o p q r c v s)))
def Aad (a:Aa) (f:Hp) (g h:IV) (i j:AG) (k:IV):OH :=
 Al [] false false a 24 [.fv (.int .i64 14),.nils] f fun l m b c=>Ad [] b c (Al [] false false a 24 [.fv (.int .i64 15),.nils] m fun n o d e=>Ad [] d e (Az (Ah EE 29 1 [(0,n)]) 51405827 o fun p q r s=>Aed r s a q p g l h d e b c i j k))
def YY (i:IV) (a:Hp) (c d:IV) (b:Aa) (j k l e:IV):OH :=
 Am i (Aj 3 c a fun m f=>Ad [] f [] (Abn a d f b j k m c l e)) (Al [] false false b 44 [] a fun n o g h=>Ad [] g h (Aad b o n d g h e))
def Abx (b:Aa) (g:Hp) (h c i j k l:IV):OH :=
 Al [] false false b 43 [h,.fv (.int .i64 4)] g fun d e _ _=>L0 EE 3 c (.fv (.int .i64 0)) fun a=>Ab a true e (fun m=>m d e [] []) fun n f _ _=>Ab a true f (fun o=>L0 EE 3 n (.fv (.int .i64 1)) fun p=>o p f [] []) fun q r _ _=>AH a q (.fv (.bool false)) fun s=>YY s r i j b c k d l
def Aev (f b:IV) (a:Hp) (c:Aa) (d e g h:IV):OH :=
 L0 EE 3 f (.fv (.int .i64 0)) fun i=>Am i (Ac 1 b fun j=>Af j a fun k _=>Z4 k c a d) (Ac 0 e fun l=>Af l a fun m _=>Abx c a m g b e h d)
def ZJ (i b:IV) (a:Hp) (c:IV) (e:Aa) (d f g:IV):OH :=
 Am i (L0 EE 3 b (.fv (.int .i64 0)) fun h=>Ab h true a (fun j=>Ac 0 c fun k=>j k a [] []) fun l m _ _=>AaC m h l e d c b f g) (Ac 1 d fun n=>Af n a fun o _=>Aev o d a e g c b f)
def Y8 (a:Hp) (i b c:IV) (d:Aa) (e f g:IV):OH :=
 Af i a fun h _=>A4 EE 3 h (.fv (.int .i64 10)) fun j=>Am j (L0 EE 3 b (.fv (.int .i64 0)) fun k=>Ze a k c d e b f g) (A4 EE 3 h (.fv (.int .i64 14)) fun l=>ZJ l b a c d e f g)
def XT (c:Hp) (d j:IV) (a:Aa) (e f g b h:IV):OH :=
 Ab d true c (fun k=>Hb EE 3 j (.fv (.int .i64 2)) fun l=>k l c [] []) fun m i _ _=>AH d m (.fv (.bool false)) fun n=>Am n (Al [] false false a 44 [] i fun o p q r=>Abg q r p e a f g o b h) (Ac 0 b fun s=>Y8 i s f e a b g h)
def Zu (d:Hp) (a:IV) (e:Aa) (i f j k l m:IV):OH :=
 Ab a true d (fun n=>Al [] false false e 43 [i,.fv (.int .i64 5)] d n) fun o g _ _=>Ab a true g (fun p=>A4 EE 3 o (.fv (.int .i64 4)) fun q=>p q g [] []) fun r h _ _=>AH a r (.fv (.bool false)) fun b=>Ab b true h (fun s=>Ac 0 f fun t=>s t h [] []) fun u c _ _=>Ab b true c (fun v=>Af u c fun w x=>v w c x []) fun y z _ _=>XT z b y e j k l f m
def S49 (f:Aa) (n:Nat) (g h i c:IV) (j:Hp):OH :=
 A3 51380224 h j fun k l _ _=>A3 51380225 i l fun d m _ _=>AJ 51380226 (.row [.fv (.int .i64 0),.fv (.int .i64 0),.nils] false) (.ptr (.own 51380226) 0) m fun o e _ _=>L0 EE 3 c (.fv (.int .i64 0)) fun a=>Ab a true e (fun p=>Ac 0 d fun q=>p q e [] []) fun r b _ _=>Ab a true b (fun s=>Af r b fun t u=>s t b u []) fun v w _ _=>Zu w a f v k d c g o
theorem AqH (a:Aa) (n:Nat) (b c d e:IV) (f:Hp):Ax EE a ft.get n 49 [b,c,d,e] f=S49 a n b c d e f:=by kernel_rfl
def AhM (c:Hp) (a d:IV):OH :=
 Ak 3 a d c fun b _ _=>Aw true 3 a b fun e=>An [e] b
def S50 (b:Aa) (n:Nat) (c d e:IV) (f:Hp):OH :=
 A3 52428800 c f fun g h _ _=>A3 52428801 e h fun i j _ _=>AJ 52428802 (.row [.fv (.int .i64 0),.fv (.int .i64 0),.nils] false) (.ptr (.own 52428802) 0) j fun k a _ _=>Aj 3 g a fun l _=>Aj 3 i a fun m _=>Al [] false false b 60 [l,d,.fv (.int .i64 0),m] a fun o p _ _=>AhM p k o
theorem AoP (a:Aa) (n:Nat) (b c d:IV) (e:Hp):Ax EE a ft.get n 50 [b,c,d] e=S50 a n b c d e:=by kernel_rfl
def Aie (b:IV) (a:Hp) (c:Hp→OH):OH :=
 A4 EE 3 b (.fv (.int .i64 0)) fun d=>Am d (An [.fv (.int .i64 1)] a) (A4 EE 3 b (.fv (.int .i64 2)) fun e=>Am e (An [.fv (.int .i64 2)] a) (c a))
def Agi (d c:IV) (a:Hp) (b:Hp→OH) (e:IV):OH :=
 Am d (A4 EE 3 c (.fv (.int .i64 1)) fun f=>Am f (An [.fv (.int .i64 1)] a) (b a)) (A4 EE 3 e (.fv (.int .i64 13)) fun g=>Am g (Aie c a b) (b a))
def AfU (a:IV) (b:IV→Hp→OH) (c:Hp):OH :=
 A4 EE 3 a (.fv (.int .i64 29)) fun d=>b d c
def Ahl (a:IV) (b:IV→Hp→OH) (c:Hp):OH :=
 A4 EE 3 a (.fv (.int .i64 20)) fun d=>Am d (b d c) (A4 EE 3 a (.fv (.int .i64 28)) fun e=>Am e (b e c) (AfU a b c))
def AhV (c:IV) (a:IV→Hp→OH) (b:Hp) (d:IV):OH :=
 Am c (a c b) (A4 EE 3 d (.fv (.int .i64 6)) fun e=>Am e (a e b) (Ahl d a b))
def S51 (k:Aa) (n:Nat) (a e:IV) (b:Hp):OH :=
 (fun (f:Hp→OH)=>(fun (c:IV→Hp→OH)=>A4 EE 3 a (.fv (.int .i64 3)) fun d=>Am d (c d b) (A4 EE 3 a (.fv (.int .i64 4)) fun g=>AhV g c b a)) fun h i=>Agi h e i f a) fun j=>An [.fv (.int .i64 0)] j
theorem Ape (a:Aa) (n:Nat) (b c:IV) (d:Hp):Ax EE a ft.get n 51 [b,c] d=S51 a n b c d:=by kernel_rfl
def Ks (b:Aa) (c:Hp) (a d e f:IV) (g:List IV→Hp→OH) (h i:IV):OH :=
 Al [true,false,false] false false b 52 [a,d,e] c fun _ j _ _=>Bw EE 3 f (.fv (.int .i64 1)) fun k=>g [a,h,i,k] j
def Kq (b:IV) (a:Hp) (c d:IV) (e:Aa) (f:IV) (g:List IV→Hp→OH):OH :=
 Ac 2 b fun h=>Af h a fun i _=>A8 3 i c fun j=>Aj 3 j a fun k _=>Bw EE 3 d (.fv (.int .i64 1)) fun l=>Ks e a f k l c g d b
def Ln (c:Hp) (a f g h i:IV) (j:Aa) (k:IV) (l:List IV→Hp→OH):OH :=
 Ab a true c (fun m=>Ac 1 f fun n=>m n c [] []) fun o b _ _=>Ab a true b (fun p=>Af o b fun q r=>p q b r []) fun s d _ _=>Ab a true d (fun t=>A4 EE 3 s (.fv (.int .i64 0)) fun u=>t u d [] []) fun v e _ _=>AH a v (.fv (.bool false)) fun w=>Am w (Kq g e h i j k l) (An [] e)
def LW (a:Hp) (f c d g h:IV) (i:Aa) (j:List IV→Hp→OH):OH :=
 Af f a fun k _=>BS k fun l=>GP EE 3 c l fun b=>Ab b true a (fun m=>m d a [] []) fun n e _ _=>Ab b true e (fun o=>AF n fun p=>o p e [] []) fun q r _ _=>Ln r b q g c h i d j
def K8 (b:List IV) (c:Hp) (d:Aa) (e:List IV→Hp→OH):OH :=
 Ay b fun f g=>Ay g fun h i=>Ay i fun a j=>Ay j fun k _=>Ac 2 a fun l=>LW c l k f a h d e
def KD (n:Nat) (a:Hp) (b c d:IV) (e:Aa):OH :=
 BF n (fun f g h=>K8 g h e f) [b,c,d,.fv (.int .i64 0)] a
def LL (a:Hp) (b:IV) (c:Hp→OH):OH :=
 BA b (.fv (.int .i64 5)) a fun d _ _=>c d
def Lt (a:IV) (b:Hp) (c:Hp→OH):OH :=
 Ac 1 a fun d=>BA d (.fv (.int .i64 1)) b fun e _ _=>c e
def Lw (e f:AG) (a:Hp) (b g h:IV) (c:Hp→OH):OH :=
 Ad [] e f (Ab b false a (fun i=>C9 (Nq .not g) fun j=>i j a [] []) fun k d _ _=>AH b (.fv (.bool true)) k fun l=>Am l (AF h fun m=>Lt m d c) (c d))
def LO (c d:AG) (e:Hp) (a g:IV) (h:Aa) (i j:IV) (k:Hp→OH):OH :=
 Ad [] c d (Ab a false e (fun l=>Ac 1 g fun m=>l m e [] []) fun n b _ _=>Ab a false b (fun o=>Af n b fun p q=>o p b q []) fun r f s t=>Ad [(c,d)] s t (Ab a false f (fun u=>Al [] false false h 62 [i,r] f u) fun v w x y=>Lw x y w a v j k))
def Kz (e f g h:AG) (i j:IV) (c:Hp) (d:IV) (k:Aa) (l:IV) (m:Hp→OH):OH :=
 Ad [(f,g),(h,[])] e [] (BS i fun n=>Hb EE 3 j n fun a=>Ab a false c (fun o=>Ac 0 d fun p=>o p c [] []) fun q b _ _=>Ab a false b (fun r=>Af q b fun s t=>r s b t []) fun u v w x=>LO w x v a d k u l m)
def LK (a:AG) (b:Aa) (g:Hp) (h c i:IV) (j:Hp→OH):OH :=
 Ad [] a [] (Al [] false false b 61 [h] g fun k d e f=>Ad [] e f (Ac 2 c fun l=>Af l d fun m n=>Kz n e f a m k d c b i j))
def Kv (e b:IV) (a:Hp) (c:Hp→OH) (d:IV) (f:Aa):OH :=
 Am e (AF b fun g=>Ac 1 g fun h=>LL a h c) (Ac 0 d fun i=>Af i a fun j k=>LK k f a j d b c)
def Ko (a:Hp) (d e f:IV) (g:Hp→OH) (h:IV) (i:Aa):OH :=
 Af d a fun j _=>L0 EE 3 j (.fv (.int .i64 3000)) fun b=>Ab b false a (fun k=>k e a [] []) fun l c _ _=>Ab b false c (fun m=>L0 EE 3 l (.fv (.int .i64 120)) fun n=>m n c [] []) fun o p _ _=>AH b (.fv (.bool true)) o fun q=>Kv q f p g h i
def Kt (e:IV) (f:Hp) (g:IV) (n:Nat) (a b c:IV) (d:Aa):OH :=
 Ac 0 e fun h=>BA h g f fun i _ _=>(fun (j:Hp→OH)=>AF a fun k=>Ac 0 k fun l=>Ko i l b a j c d) fun m=>KD n m a b c d
def S52 (c:Aa) (n:Nat) (a d e:IV) (f:Hp):OH :=
 A3 54525952 d f fun g b _ _=>AF a fun h=>Ac 0 h fun i=>Af i b fun j _=>Bw EE 3 j (.fv (.int .i64 1)) fun k=>AF a fun l=>Kt l b k n a e g c
theorem AoY (a:Aa) (n:Nat) (b c d:IV) (e:Hp):Ax EE a ft.get n 52 [b,c,d] e=S52 a n b c d e:=by kernel_rfl
def YM (a:Hp) (b c:IV):OH :=
 Aw true 3 b a fun d=>An [d,c] a
def Aeu (a:Hp) (b f g c h:IV):OH :=
 Ab b true a (fun i=>i f a [] []) fun j d _ _=>AH b j (.fv (.bool false)) fun e=>Ab e true d (fun k=>k g d [] []) fun l m _ _=>AH e l (.fv (.bool false)) fun n=>Ak 3 c h m fun o _ _=>YM o c n
def Abc (a:Hp) (b c d:IV) (e:Aa) (f g h i:IV):OH :=
 Aj 3 b a fun j _=>Aj 3 c a fun k _=>Aj 3 d a fun l _=>Az (Ah EE 29 3 [(0,j),(1,k),(2,l)]) 55581699 a fun m n _ _=>Al [] false false e 24 [.fv (.int .i64 27),m] n fun o p _ _=>Aeu p f g h i o
def AaV (b:IV) (c:Hp) (d e f g h i:AG) (j k l:IV) (m:Aa) (n o p:IV):OH :=
 AQ 1 b fun q=>AJ 55580682 (.row [.fv (.int .i64 0),.fv (.int .i64 0),.nils] false) (.ptr (.own 55580682) 0) c fun a r s t=>Ad [(d,e),(f,g),(h,[]),(i,[])] s t (Ak 3 a j r fun u v w=>Ad [] v w (Abc u k l a m n o q p))
def Aa4 (a b c:AG) (h:IV) (d:Aa) (i:Hp) (j k l:IV) (m:AG) (n o p q r:IV):OH :=
 Ad [(c,[])] a b (Bd EE 3 h (.fv (.int .i64 2)) fun s=>Al [] false false d 35 [j,k,l,s] i fun e t f g=>Ad [] f g (AQ 0 e fun u=>AaV e t f g a b m c u n o d p q r))
def AcO (a:Hp) (e f:IV) (c:Aa) (g h i j k l m:IV):OH :=
 Aj 3 e a fun n b=>Ad [] b [] (Aj 3 f a fun o d=>Ad [(b,[])] d [] (Al [] false false c 46 [o,.fv (.int .i64 2)] a fun p q r s=>Aa4 r s b g c q h n p d i j k l m))
def AcL (b:IV) (c:Hp) (d e f g h i:AG) (j k l:IV) (m:Aa) (n o p q r:IV):OH :=
 AQ 1 b fun s=>AJ 55579658 (.row [.fv (.int .i64 0),.fv (.int .i64 0),.nils] false) (.ptr (.own 55579658) 0) c fun a t u v=>Ad [(d,e),(f,g),(h,[]),(i,[])] u v (Ak 3 a j t fun w x y=>Ad [] x y (AcO w k l m n o p a q s r))
def Yg (a b c:AG) (d:IV) (e:Aa) (j:Hp) (f k l:IV) (m:AG) (n o p q r:IV):OH :=
 Ad [(c,[])] a b (Bd EE 3 d (.fv (.int .i64 2)) fun s=>Al [] false false e 35 [f,k,l,s] j fun g t h i=>Ad [] h i (AQ 0 g fun u=>AcL g t h i a b m c u n o e d f p q r))
def Adl (a:Hp) (c d:IV) (e:Aa) (g h i j k:IV):OH :=
 Aj 3 c a fun l b=>Ad [] b [] (Aj 3 d a fun m f=>Ad [(b,[])] f [] (Al [] false false e 46 [m,.fv (.int .i64 1)] a fun n o p q=>Yg p q b g e o h l n f c d i j k))
def Aay (b:IV) (c:Hp) (d e f g h i:AG) (j k l:IV) (m:Aa) (n o p:IV):OH :=
 AQ 1 b fun q=>AJ 55578634 (.row [.fv (.int .i64 0),.fv (.int .i64 0),.nils] false) (.ptr (.own 55578634) 0) c fun a r s t=>Ad [(d,e),(f,g),(h,[]),(i,[])] s t (Ak 3 a j r fun u v w=>Ad [] v w (Adl u k l m n o a q p))
def ZN (a b c:AG) (d:IV) (e:Aa) (j:Hp) (f k l:IV) (m:AG) (n o p:IV):OH :=
 Ad [(c,[])] a b (Bd EE 3 d (.fv (.int .i64 2)) fun q=>Al [] false false e 35 [f,k,l,q] j fun g r h i=>Ad [] h i (AQ 0 g fun s=>Aay g r h i a b m c s n o e d f p))
def Aam (a:Hp) (f c:IV) (d:Aa) (g h i j:IV):OH :=
 Aj 3 f a fun k b=>Ad [] b [] (Aj 3 c a fun l e=>Ad [(b,[])] e [] (Al [] false false d 46 [l,.fv (.int .i64 0)] a fun m n o p=>ZN o p b g d n h k m e i c j))
def Y2 (c:Hp) (a d e:IV):OH :=
 Ak 3 a d c fun b _ _=>Aw true 3 a b fun f=>An [f,e] b
def Y6 (a:Hp) (d e:IV) (f:Aa) (b g h:IV):OH :=
 Aj 3 d a fun i _=>Az (Ah EE 29 2 [(0,e),(1,i)]) 55586818 a fun j k _ _=>Al [] false false f 24 [.fv (.int .i64 28),j] k fun l c _ _=>Ab b true c (fun m=>m g c [] []) fun n o _ _=>AH b n (.fv (.bool false)) fun p=>Y2 o h l p
def Acl (c:Hp) (d e f g h i j k l m n:AG) (o p:IV) (q:Aa) (r s t:IV):OH :=
 AJ 55585805 (.row [.fv (.int .i64 0),.fv (.int .i64 0),.nils] false) (.ptr (.own 55585805) 0) c fun a u v w=>Ad [(d,e),(f,g),(h,[]),(i,j),(k,[]),(l,m),(n,[])] v w (Ak 3 a o u fun b x y=>Ad [] x y (Aj 3 p b fun z _=>Y6 b a z q r s t))
def AaZ (e:IV) (a:Aa) (f:Hp) (g h i:IV) (j k l m n o p q r:AG) (s t u:IV):OH :=
 Bd EE 3 e (.fv (.int .i64 2)) fun v=>Al [] false false a 35 [g,h,i,v] f fun b w c d=>Ad [] c d (AQ 0 b fun x=>AQ 1 b fun y=>Acl w c d j k l m n o p q r x s a t y u)
def YA (a b:AG) (c:Hp) (l:IV) (d e f g:AG) (h:Aa) (m n o p q r:IV):OH :=
 Ad [] a b (Aj 3 l c fun s i=>Ad [(a,b),(d,[]),(e,f),(g,[])] i [] (Al [] false false h 46 [s,.fv (.int .i64 2)] c fun t u j k=>Ad [] j k (AaZ m h u n o t j k i a b d e f g p q r)))
def Adr (a:Aa) (g:Hp) (h i j:IV) (d:AG) (k l m n o:IV):OH :=
 Al [] false false a 22 [h,.fv (.int .i64 0),i] g fun p e b c=>Ad [] b c (Aj 3 j e fun q f=>Ad [(b,c),(d,[])] f [] (Al [] false false a 25 [q,.fv (.int .i64 1),.fv (.int .i64 0)] e fun r s t u=>YA t u s k f b c d a l p r m n o))
def Aau (d e f g h i j k:AG) (l:Hp) (a m n:IV) (o:Aa) (p q r s t u:IV):OH :=
 Ad [(f,g),(h,i),(j,[]),(k,[])] d e (Ak 3 a m l fun b v w=>Ad [] v w (Aj 3 n b fun x c=>Ad [] c [] (Adr o b p x q c r s a t u)))
def Ad9 (a:Aa) (f:Hp) (b g h i:IV) (j k l m:AG) (n o p q r:IV):OH :=
 Al [] false false a 35 [b,g,h,i] f fun c s d e=>Ad [] d e (AQ 0 c fun t=>AQ 1 c fun u=>AJ 55584778 (.row [.fv (.int .i64 0),.fv (.int .i64 0),.nils] false) (.ptr (.own 55584778) 0) s fun v w x y=>Aau x y d e j k l m w v t n a b o p q u r)
def Aek (b:Hp) (c:IV) (a:AG) (d:Aa) (e i j k l m:IV):OH :=
 Aj 3 c b fun n f=>Ad [(a,[])] f [] (Al [] false false d 46 [n,.fv (.int .i64 1)] b fun o p g h=>Ad [(a,[])] g h (Bd EE 3 e (.fv (.int .i64 2)) fun q=>Ad9 d p i j o q g h f a k l c e m))
def Acz (b:Aa) (e:Hp) (f g h i j k:IV):OH :=
 Al [] false false b 34 [f,.fv (.int .i64 1)] e fun l m _ _=>AJ 55583747 (.row [.fv (.int .i64 0),.fv (.int .i64 0),.nils] false) (.ptr (.own 55583747) 0) m fun a n _ _=>Ak 3 a l n fun c _ _=>Aj 3 a c fun o d=>Ad [] d [] (Aek c g d b h i o a j k)
def AaT (a:Hp) (b e c f:IV):OH :=
 Ab b true a (fun g=>g e a [] []) fun h i _ _=>AH b h (.fv (.bool false)) fun j=>Ak 3 c f i fun d k l=>Ad [] k l (Aw true 3 c d fun m=>An [m,j] d)
def XW (a b c d e f g:AG) (h:Hp) (i j:IV) (k:Aa) (l m n:IV):OH :=
 Ad [(b,c),(d,e),(f,[]),(g,[])] a [] (Az (Ah EE 29 2 [(0,i),(1,j)]) 55591941 h fun o p q r=>Ad [] q r (Al [] false false k 24 [.fv (.int .i64 21),o] p fun s t u v=>Ad [] u v (AaT t l m n s)))
def Zz (g:Hp) (h i:IV) (a:Aa) (j:IV) (k l:AG) (m n o:IV):OH :=
 Az (Ah EE 29 2 [(0,h),(1,i)]) 55591938 g fun p q b c=>Ad [] b c (Al [] false false a 24 [.fv (.int .i64 20),p] q fun r d e f=>Ad [] e f (Aj 3 j d fun s t=>XW t e f b c k l d r s a m n o))
def Aaq (d e:AG) (a:Hp) (f g:IV) (h:Aa) (i j k l:IV):OH :=
 Ad [] d e (Aj 3 f a fun m b=>Ad [] b [] (Aj 3 g a fun n c=>Ad [(b,[])] c [] (Zz a m n h i c b j k l)))
def Zd (a:IV) (c:Hp) (d e f g h i j k l m n:AG) (o:IV) (p:Aa) (q r s:IV):OH :=
 AQ 0 a fun t=>AQ 1 a fun u=>AJ 55590925 (.row [.fv (.int .i64 0),.fv (.int .i64 0),.nils] false) (.ptr (.own 55590925) 0) c fun b v w x=>Ad [(d,e),(f,g),(h,[]),(i,j),(k,[]),(l,m),(n,[])] w x (Ak 3 b t v fun y z A=>Aaq z A y o b p q r u s)
def Adc (a:Aa) (f:Hp) (g h i j:IV) (k l m n o p q:AG) (r s t u:IV):OH :=
 Al [] false false a 46 [g,.fv (.int .i64 2)] f fun v w b c=>Ad [] b c (Bd EE 3 h (.fv (.int .i64 2)) fun x=>Al [] false false a 35 [i,j,v,x] w fun y z d e=>Ad [] d e (Zd y z d e b c k l m n o p q r a s t u))
def Aab (a b c d:AG) (g:Aa) (j:Hp) (k l m n o p q r:IV):OH :=
 Ad [(b,c),(d,[])] a [] (Al [] false false g 25 [k,.fv (.int .i64 1),.fv (.int .i64 0)] j fun s h e f=>Ad [] e f (Aj 3 l h fun t i=>Ad [(e,f),(a,[]),(b,c),(d,[])] i [] (Adc g h t m n s i e f a b c d o p q r)))
def Acg (a:Hp) (b:IV) (c:Aa) (h i j k l m n:IV):OH :=
 Aj 3 b a fun o d=>Ad [] d [] (Al [] false false c 22 [h,.fv (.int .i64 0),o] a fun p e f g=>Ad [] f g (Aj 3 i e fun q r=>Aab r f g d c e q j k p b l m n))
def YZ (b:IV) (c:Hp) (d e f g h i:AG) (j k:IV) (l:Aa) (m n o p q:IV):OH :=
 AQ 1 b fun r=>AJ 55589898 (.row [.fv (.int .i64 0),.fv (.int .i64 0),.nils] false) (.ptr (.own 55589898) 0) c fun a s t u=>Ad [(d,e),(f,g),(h,[]),(i,[])] t u (Ak 3 a j s fun v w x=>Ad [] w x (Acg v k l m n o p a r q))
def AdN (a b c:AG) (d:IV) (e:Aa) (j:Hp) (f k l:IV) (m:AG) (n o p q:IV):OH :=
 Ad [(c,[])] a b (Bd EE 3 d (.fv (.int .i64 2)) fun r=>Al [] false false e 35 [f,k,l,r] j fun g s h i=>Ad [] h i (AQ 0 g fun t=>YZ g s h i a b m c t n e f o p d q))
def AbL (a:Hp) (c d:IV) (e:Aa) (g h i j:IV):OH :=
 Aj 3 c a fun k b=>Ad [] b [] (Aj 3 d a fun l f=>Ad [(b,[])] f [] (Al [] false false e 46 [l,.fv (.int .i64 1)] a fun m n o p=>AdN o p b g e n h k m f c i d j))
def AaF (b:Hp) (c:IV) (a:Aa) (e f g h:IV):OH :=
 Aj 3 c b fun i _=>Al [] false false a 46 [i,.fv (.int .i64 0)] b fun j k _ _=>Al [] false false a 34 [j,.fv (.int .i64 1)] k fun l m _ _=>AJ 55588867 (.row [.fv (.int .i64 0),.fv (.int .i64 0),.nils] false) (.ptr (.own 55588867) 0) m fun d n _ _=>Ak 3 d l n fun o _ _=>AbL o d c a e f g h
def Aa9 (c d:IV) (e:Hp) (a f:IV):OH :=
 AH c d (.fv (.bool false)) fun g=>Ak 3 a f e fun b _ _=>Aw true 3 a b fun h=>An [h,g] b
def ZO (d:Hp) (e f:IV) (a:Aa) (b g h:IV):OH :=
 Az (Ah EE 29 2 [(0,e),(1,f)]) 55596034 d fun i j _ _=>Al [] false false a 24 [.fv (.int .i64 22),i] j fun k l _ _=>Az (Ah EE 29 1 [(0,k)]) 55596036 l fun m n _ _=>Al [] false false a 24 [.fv (.int .i64 23),m] n fun o c _ _=>Ab b true c (fun p=>p g c [] []) fun q r _ _=>Aa9 b q r h o
def Abd (c d e f g h i j:AG) (k:Hp) (b l m:IV) (n:Aa) (o p q:IV):OH :=
 Ad [(e,f),(g,h),(i,[]),(j,[])] c d (Ak 3 b l k fun a r s=>Ad [] r s (Aj 3 m a fun t _=>Aj 3 b a fun u _=>ZO a t u n o p q))
def Ac0 (a:Aa) (e:Hp) (f g h i:IV) (j k l m:AG) (n o p:IV):OH :=
 Al [] false false a 35 [f,g,h,i] e fun b q c d=>Ad [] c d (AQ 0 b fun r=>AQ 1 b fun s=>AJ 55595018 (.row [.fv (.int .i64 0),.fv (.int .i64 0),.nils] false) (.ptr (.own 55595018) 0) q fun t u v w=>Abd v w c d j k l m u t r n a o s p)
def Acj (b:Hp) (g:IV) (a:AG) (c:Aa) (h i j k l m:IV):OH :=
 Aj 3 g b fun n d=>Ad [(a,[])] d [] (Al [] false false c 46 [n,.fv (.int .i64 1)] b fun o p e f=>Ad [(a,[])] e f (Bd EE 3 h (.fv (.int .i64 2)) fun q=>Ac0 c p i j o q e f d a k l m))
def Y0 (d e f g h i j k:AG) (l:Hp) (a m n o:IV) (p:Aa) (q r s t:IV):OH :=
 Ad [(f,g),(h,i),(j,[]),(k,[])] d e (Ak 3 a m l fun b u v=>Ad [] u v (Aj 3 n b fun w c=>Ad [] c [] (Acj b o c p q r w a s t)))
def Aee (a:Aa) (f:Hp) (b g h i:IV) (j k l m:AG) (n o p q:IV):OH :=
 Al [] false false a 35 [b,g,h,i] f fun c r d e=>Ad [] d e (AQ 0 c fun s=>AQ 1 c fun t=>AJ 55593994 (.row [.fv (.int .i64 0),.fv (.int .i64 0),.nils] false) (.ptr (.own 55593994) 0) r fun u v w x=>Y0 w x d e j k l m v u s n o a p b t q)
def Aah (b:Hp) (c:IV) (a:AG) (d:Aa) (e i j k l:IV):OH :=
 Aj 3 c b fun m f=>Ad [(a,[])] f [] (Al [] false false d 46 [m,.fv (.int .i64 0)] b fun n o g h=>Ad [(a,[])] g h (Bd EE 3 e (.fv (.int .i64 2)) fun p=>Aee d o i j n p g h f a k c e l))
def Adq (c:Hp) (a d e:IV):OH :=
 Ak 3 a d c fun b _ _=>Aw true 3 a b fun f=>An [f,e] b
def ZW (b c:AG) (a:Hp) (d e:IV) (f:Aa) (g h:IV):OH :=
 Ad [] b c (Aj 3 d a fun i _=>Aj 3 e a fun j _=>Az (Ah EE 29 2 [(0,i),(1,j)]) 55599106 a fun k l _ _=>Al [] false false f 24 [.fv (.int .i64 29),k] l fun m n _ _=>Adq n g m h)
def Yq (a:IV) (c:Hp) (d e f g h i j k l m n:AG) (o:IV) (p:Aa) (q:IV):OH :=
 AQ 0 a fun r=>AQ 1 a fun s=>AJ 55598093 (.row [.fv (.int .i64 0),.fv (.int .i64 0),.nils] false) (.ptr (.own 55598093) 0) c fun b t u v=>Ad [(d,e),(f,g),(h,[]),(i,j),(k,[]),(l,m),(n,[])] u v (Ak 3 b r t fun w x y=>ZW x y w o b p q s)
def Abq (a:Aa) (f:Hp) (g h i j:IV) (k l m n o p q:AG) (r s:IV):OH :=
 Al [] false false a 46 [g,.fv (.int .i64 0)] f fun t u b c=>Ad [] b c (Bd EE 3 h (.fv (.int .i64 2)) fun v=>Al [] false false a 35 [i,j,t,v] u fun w x d e=>Ad [] d e (Yq w x d e b c k l m n o p q r a s))
def Aaw (a b c d:AG) (g:Aa) (j:Hp) (k l m n o p:IV):OH :=
 Ad [(b,c),(d,[])] a [] (Al [] false false g 25 [k,.fv (.int .i64 1),.fv (.int .i64 0)] j fun q h e f=>Ad [] e f (Aj 3 l h fun r i=>Ad [(e,f),(a,[]),(b,c),(d,[])] i [] (Abq g h r m n q i e f a b c d o p)))
def Abo (b:Hp) (a:IV) (c:Aa) (h i j k:IV):OH :=
 Aj 3 a b fun l d=>Ad [] d [] (Al [] false false c 22 [h,.fv (.int .i64 0),l] b fun m e f g=>Ad [] f g (Aj 3 a e fun n o=>Aaw o f g d c e n i j m a k))
def YI (c:Hp) (d:IV) (e:Aa) (a f:IV):OH :=
 Az (Ah EE 29 1 [(0,d)]) 55601153 c fun g h _ _=>Al [] false false e 24 [.fv (.int .i64 30),g] h fun i j _ _=>Ak 3 a i j fun b _ _=>Aw true 3 a b fun k=>An [k,f] b
def Aat (c:Hp) (d e f g h i j k l m:AG) (n:IV) (o:Aa) (p q:IV):OH :=
 AJ 55600140 (.row [.fv (.int .i64 0),.fv (.int .i64 0),.nils] false) (.ptr (.own 55600140) 0) c fun a r s t=>Ad [(d,e),(f,g),(h,[]),(i,j),(k,l),(m,[])] s t (Ak 3 a n r fun b u v=>Ad [] u v (Aj 3 a b fun w _=>YI b w o p q))
def Adg (e:IV) (a:Aa) (f:Hp) (g h i:IV) (j k l m n o p q:AG) (r:IV):OH :=
 Bd EE 3 e (.fv (.int .i64 1)) fun s=>Al [] false false a 23 [g,h,i,s] f fun b t c d=>Ad [] c d (AQ 0 b fun u=>AQ 1 b fun v=>Aat t c d j k l m n o p q u a r v)
def ZR (a b:AG) (c:Hp) (k:IV) (d e f:AG) (g:Aa) (l m n o:IV):OH :=
 Ad [] a b (Aj 3 k c fun p h=>Ad [(a,b),(d,e),(f,[])] h [] (Al [] false false g 46 [p,.fv (.int .i64 0)] c fun q r i j=>Ad [] i j (Adg l g r m n q i j h a b d e f o)))
def AbE (a:Hp) (f:IV) (b:Aa) (g h i j:IV):OH :=
 Aj 3 f a fun k c=>Ad [] c [] (Az (Ah EE 29 1 [(0,k)]) 55600130 a fun l m d e=>Ad [] d e (Al [] false false b 24 [.fv (.int .i64 18),l] m fun n o p q=>ZR p q o g d e c b h i n j))
def Y5 (h:IV) (a:Hp) (b c:IV) (d:Aa) (e f j g:IV):OH :=
 A4 EE 3 h (.fv (.int .i64 3)) fun k=>Am k (Aj 3 b a fun l i=>Ad [] i [] (Aah a c i d e f l j g)) (A4 EE 3 h (.fv (.int .i64 4)) fun m=>Am m (Abo a b d f c e g) (AbE a b d c e f g))
def Z7 (d:IV) (a:Hp) (b:IV) (c:Aa) (e f g h i:IV):OH :=
 A4 EE 3 d (.fv (.int .i64 1)) fun j=>Am j (Aj 3 b a fun k _=>Al [] false false c 46 [k,.fv (.int .i64 0)] a fun l m _ _=>Acz c m l b e f g h) (A4 EE 3 d (.fv (.int .i64 2)) fun n=>Am n (AaF a b c e f g h) (Y5 d a g b c e f i h))
def Zx (a:IV) (c:Hp) (b:Aa) (d e f g h:IV):OH :=
 Ac 1 a fun k=>Af k c fun l _=>Al [] false false b 43 [l,.fv (.int .i64 7)] c fun i j _ _=>A4 EE 3 i (.fv (.int .i64 0)) fun m=>Am m (Aam j d a b e f g h) (Z7 i j a b e f g h d)
def S53 (a:Aa) (n:Nat) (c d e f:IV) (g:Hp):OH :=
 A3 55574528 d g fun h i _ _=>A3 55574529 e i fun j k _ _=>AJ 55574530 (.row [.fv (.int .i64 0),.fv (.int .i64 0),.nils] false) (.ptr (.own 55574530) 0) k fun l m _ _=>Al [] false false a 24 [.fv (.int .i64 15),.nils] m fun o p _ _=>AJ 55575553 (.row [.fv (.int .i64 0),.fv (.int .i64 0),.nils] false) (.ptr (.own 55575553) 0) p fun b q _ _=>Ak 3 b o q fun r _ _=>Zx j r a b f c h l
theorem Anp (a:Aa) (n:Nat) (b c d e:IV) (f:Hp):Ax EE a ft.get n 53 [b,c,d,e] f=S53 a n b c d e f:=by kernel_rfl
def Mj (a:Hp) (b c:IV):OH :=
 Af b a fun d _=>A4 EE 3 d c fun e=>An [e] a
def MB (a c:IV) (d:Aa) (e:Hp) (f g:IV) (h:List IV→Hp→OH) (i:IV):OH :=
 Bw EE 3 a c fun j=>Al [] false false d 54 [f,j] e fun k b l m=>Ad [] l m (Am k (An [.fv (.bool true)] b) (Bw EE 3 g (.fv (.int .i64 1)) fun n=>h [a,i,n] b))
def MT (a:IV) (b:Hp) (c d:AG) (e:Aa) (f g h:IV) (i:List IV→Hp→OH):OH :=
 Ac 0 a fun j=>Af j b fun k l=>Ad [(c,[]),(d,[])] l [] (Al [] false false e 51 [k,f] b fun m n o p=>Ad [(c,[]),(d,[])] o p (MB g m e n h f i a))
def MC (a:Hp) (e b f:IV) (g:Aa) (h:IV) (i:List IV→Hp→OH):OH :=
 Af e a fun j c=>Ad [] c [] (A8 3 j b fun k=>Aj 3 k a fun l d=>Ad [] d [] (MT f a d c g b h l i))
def MP (d a b:IV) (c:Hp) (e:Aa) (f:IV) (g:List IV→Hp→OH):OH :=
 BS d fun h=>GP EE 3 a h fun i=>Am i (Ac 2 b fun j=>MC c j a b e f g) (An [.fv (.bool false)] c)
def TY (c:List IV) (a:Hp) (d:Aa) (e:List IV→Hp→OH):OH :=
 Ay c fun f g=>Ay g fun b h=>Ay h fun i _=>Ac 2 b fun j=>Af j a fun k _=>MP k i b a d f e
def S54 (d:Aa) (n:Nat) (e c:IV) (f:Hp):OH :=
 A3 56623104 e f fun a b _ _=>Ac 0 a fun g=>Af g b fun h _=>A4 EE 3 h (.fv (.int .i64 1)) fun i=>Am i (Ac 1 a fun j=>Mj b j c) (BF n (fun k l m=>TY l m d k) [c,a,.fv (.int .i64 0)] b)
theorem App (a:Aa) (n:Nat) (b c:IV) (d:Hp):Ax EE a ft.get n 54 [b,c] d=S54 a n b c d:=by kernel_rfl
def Pu (c:Hp) (a:IV):OH :=
 BD [.fv (.int .i64 0),.fv (.int .i64 0),.nils] [] fun d=>Ak 3 a d c fun b _ _=>Aw true 3 a b fun e=>An [e,.fv (.int .i64 1)] b
def Pb (b c d:AG) (a:Hp) (e f:IV):OH :=
 Ad [(d,[])] b c (Aw true 3 e a fun g=>An [g,f] a)
def Oq (d:IV) (a:Hp) (b e:IV):OH :=
 AF d fun f=>Ac 3 f fun g=>Af g a fun h c=>Ad [] c [] (Ak 3 b e a fun i j k=>Pb j k c i b h)
def Pg (a:Hp) (b c:IV):OH :=
 Aw true 3 b a fun d=>An [d,c] a
def Oj (d:IV) (a:Hp) (b e:IV):OH :=
 Ac 3 d fun f=>Af f a fun g c=>Ad [] c [] (Ak 3 b e a fun h i j=>Ad [(c,[])] i j (Pg h b g))
def Pw (a:Hp) (b:IV):OH :=
 Aw true 3 b a fun c=>An [c,.fv (.int .i64 0)] a
def OF (c d:IV) (a:Hp) (b e:IV):OH :=
 Hb EE 37 c (.fv (.int .i64 0)) fun f=>Am f (BD [.fv (.int .i64 0),.fv (.int .i64 0),.nils] [] fun g=>AF d fun h=>Oj h a b g) (Aj 3 e a fun i _=>Ak 3 b i a fun j _ _=>Pw j b)
def OI (d:Hp) (e a f:IV):OH :=
 AJ 57678851 (.row [.fv (.int .i64 0),.fv (.int .i64 0),.nils] false) (.ptr (.own 57678851) 0) d fun b g _ _=>Ak 3 b e g fun c _ _=>AF a fun h=>Ac 3 h fun i=>Af i c fun j _=>OF j a c f b
def Px (a:Hp) (d b c:IV) (e:Aa) (f:IV):OH :=
 Af d a fun g _=>Hb EE 37 g (.fv (.int .i64 0)) fun h=>Am h (BD [.fv (.int .i64 0),.fv (.int .i64 0),.nils] [] fun i=>Oq b a c i) (Al [true,false,false,false] false false e 66 [b,f,.fv (.int .i64 0),.fv (.int .i64 1)] a fun j k _ _=>OI k j b c)
def OP (a:Aa) (d:Hp) (e f:IV):OH :=
 AgC a 64 [] d fun b c _ _=>Aj 3 e c fun g _=>Al [true,false,false] false false a 65 [b,.fv .nilp,g] c fun h i _ _=>AF b fun j=>Ac 3 j fun k=>Px i k b f a h
def S55 (a:Aa) (n:Nat) (f:IV) (g:Hp):OH :=
 A3 57671680 f g fun b h _ _=>AJ 57671681 (.row [.fv (.int .i64 0),.fv (.int .i64 0),.nils] false) (.ptr (.own 57671681) 0) h fun c d _ _=>Aj 3 b d fun i _=>Al [] false false a 63 [i] d fun j e _ _=>C9 (Nq .not j) fun k=>Am k (Pu e c) (OP a e b c)
theorem An1 (a:Aa) (n:Nat) (b:IV) (c:Hp):Ax EE a ft.get n 55 [b] c=S55 a n b c:=by kernel_rfl
def Aig (a:Hp) (d:IV) (e:Aa) (b:IV):OH :=
 Aj 3 d a fun f _=>Al [] false false e 67 [f] a fun g h _ _=>Ak 3 b g h fun c _ _=>Aw true 3 b c fun i=>An [i] c
def Ag3 (a:Hp) (d:IV) (e:Aa) (b:IV):OH :=
 Aj 3 d a fun f _=>Al [] false false e 68 [f] a fun g h _ _=>Ak 3 b g h fun c _ _=>Aw true 3 b c fun i=>An [i] c
def S56 (a:Aa) (n:Nat) (f:IV) (g:Hp):OH :=
 A3 58720256 f g fun b h _ _=>AJ 58720257 (.row [.fv (.int .i64 0),.fv (.int .i64 0),.nils] false) (.ptr (.own 58720257) 0) h fun c d _ _=>Aj 3 b d fun i _=>Al [] false false a 63 [i] d fun j e _ _=>C9 (Nq .not j) fun k=>Am k (Aig e b a c) (Ag3 e b a c)
theorem Aoi (a:Aa) (n:Nat) (b:IV) (c:Hp):Ax EE a ft.get n 56 [b] c=S56 a n b c:=by kernel_rfl
def T6 (a:Hp) (b d:IV) (e:Aa) (f:IV):OH :=
 Ab b true a (fun g=>Af d a fun h i=>g h a i []) fun j c _ _=>Ab b true c (fun k=>Al [] false false e 69 [f,j,.fv (.func (.func 57) [] [])] c k) fun l m _ _=>AH b l (.fv (.bool false)) fun n=>An [n] m
def Sf (c:Hp) (d g h i j:IV) (k:Aa):OH :=
 Ab d true c (fun l=>A4 EE 3 g h fun m=>l m c [] []) fun n e _ _=>AH d n (.fv (.bool false)) fun a=>Ab a true e (fun o=>Ac 2 i fun p=>o p e [] []) fun q b _ _=>Ab a true b (fun r=>Af q b fun s t=>r s b t []) fun u f _ _=>Ab a true f (fun v=>Ac 2 j fun w=>v w f [] []) fun x y _ _=>T6 y a x k u
def Q5 (h i:IV) (d:Hp) (e f:IV) (j:Aa):OH :=
 A4 EE 3 h i fun a=>Ab a true d (fun k=>Ac 1 e fun l=>k l d [] []) fun m b _ _=>Ab a true b (fun n=>Af m b fun o p=>n o b p []) fun q g _ _=>Ab a true g (fun r=>Ac 1 f fun s=>r s g [] []) fun t c _ _=>Ab a true c (fun u=>Af t c fun v w=>u v c w []) fun x y _ _=>Sf y a q x e f j
def S57 (d:Aa) (n:Nat) (e f:IV) (g:Hp):OH :=
 A3 59768832 e g fun b h _ _=>A3 59768833 f h fun c a _ _=>Ac 0 b fun i=>Af i a fun j _=>Ac 0 c fun k=>Af k a fun l _=>Q5 j l a b c d
theorem Aqu (a:Aa) (n:Nat) (b c:IV) (d:Hp):Ax EE a ft.get n 57 [b,c] d=S57 a n b c d:=by kernel_rfl
def S58 (j:Aa) (n:Nat) (a b:IV) (c:Hp):OH :=
 Az (Ah EE 87 0 []) 60818432 c fun d e _ _=>Az (A0 EE 60818434 false .append [87,87] [d,a]) 60818434 e fun f g _ _=>Az (A0 EE 60818436 false .append [87,87] [f,b]) 60818436 g fun h i _ _=>An [h] i
theorem Aqi (a:Aa) (n:Nat) (b c:IV) (d:Hp):Ax EE a ft.get n 58 [b,c] d=S58 a n b c d:=by kernel_rfl
def Aeq (a b:AG) (c:Hp) (d:IV):OH :=
 Ad [] a b (An [d] c)
def AdE (c:Hp) (d:IV) (e a:AG) (b:Aa) (f g h:IV):OH :=
 Az (Ah EE 87 1 [(0,d)]) 61872143 c fun i j k l=>Ad [(e,[]),(a,[])] k l (Al [] false false b 58 [f,i] j fun m n o p=>Ad [(a,[])] o p (Al [true,false,false] false false b 42 [g,h,m] n fun q r s t=>Aeq s t r q))
def Ye (a:Hp) (d:IV) (b c:AG) (e:Aa) (f g h:IV):OH :=
 Af d a fun i j=>Ad [(b,[]),(c,[])] j [] (A8 1 i (.fv (.int .i64 1)) fun k=>Af k a fun l m=>Ad [(b,[]),(c,[])] m [] (AdE a l b c e f g h))
def Adb (d:IV) (a:Hp) (b:AG) (e:IV) (f:Aa) (g h:IV):OH :=
 Ac 3 d fun i=>Af i a fun j c=>Ad [(b,[])] c [] (AF e fun k=>Ac 2 k fun l=>Ye a l c b f j g h)
def Zq (a:IV) (b:Hp) (d:IV) (e:Aa) (f:IV):OH :=
 AF a fun g=>Ac 4 g fun h=>Aj 3 h b fun i c=>Ad [] c [] (AF a fun j=>Adb j b c d e f i)
def ZL (b:IV) (a:Hp) (c:IV) (d:Aa) (e:IV):OH :=
 AF b fun f=>Ac 2 f fun g=>Af g a fun h _=>A8 1 h (.fv (.int .i64 1)) fun i=>Af i a fun j _=>Zq j a c d e
def Zl (b:IV) (a:Hp) (c:Aa) (d:IV):OH :=
 AF b fun e=>Ac 2 e fun f=>Af f a fun g _=>A8 1 g (.fv (.int .i64 0)) fun h=>Af h a fun i _=>ZL i a b c d
def Aaj (b c:IV) (a:Hp):OH :=
 A8 1 b c fun d=>Af d a fun e f=>Ad [] f [] (An [e] a)
def Aep (b:IV) (a:Hp) (c d e:AG) (f:IV):OH :=
 Ac 0 b fun g=>Af g a fun h i=>Ad [(c,[]),(d,[]),(e,[])] i [] (Bw EE 3 (.fv (.int .i64 1)) h fun j=>Bd EE 3 j (.fv (.int .i64 8)) fun k=>Aaj f k a)
def Ad4 (c:IV) (a:Hp) (d:IV) (e f:AG):OH :=
 AF c fun g=>Ac 2 g fun h=>Af h a fun i b=>Ad [] b [] (AF d fun j=>Aep j a b e f i)
def YE (a:Hp) (d e:IV):OH :=
 Af d a fun f b=>Ad [] b [] (A8 1 f (.fv (.int .i64 0)) fun g=>Af g a fun h c=>Ad [] c [] (Ad4 h a e c b))
def AdO (c:Aa) (d:Hp) (e a:IV) (f:Hp→OH):OH :=
 Al [true] false false c 70 [e] d fun g b _ _=>Am g (AF a fun h=>Ac 2 h fun i=>YE b i a) (f b)
def Abu (b:IV) (a:Hp):OH :=
 AF b fun c=>Ac 2 c fun d=>Af d a fun e _=>A8 1 e (.fv (.int .i64 0)) fun f=>Af f a fun g _=>An [g] a
def AdT (b:IV) (a:Hp):OH :=
 AF b fun c=>Ac 2 c fun d=>Af d a fun e _=>A8 1 e (.fv (.int .i64 0)) fun f=>Af f a fun g _=>Abu g a
def Acs (a:Hp) (b:IV):OH :=
 Af b a fun c _=>A8 1 c (.fv (.int .i64 1)) fun d=>Af d a fun e _=>An [e] a
def AeD (b c:IV) (a:Hp) (d:Hp→OH):OH :=
 Am b (AF c fun e=>Ac 2 e fun f=>Acs a f) (d a)
def Aaa (c d e a:AG) (b:Aa) (f:Hp) (g h i j:IV):OH :=
 Ad [(e,[]),(a,[])] c d (Al [] false false b 58 [g,h] f fun k l m n=>Ad [(a,[])] m n (Al [true,false,false] false false b 42 [i,j,k] l fun o p q r=>Ad [] q r (An [o] p)))
def Yl (d:IV) (a:Hp) (b:AG) (e f:IV) (g:Aa) (h i:IV):OH :=
 AF d fun j=>Ac 3 j fun k=>Af k a fun l c=>Ad [(b,[])] c [] (Az (Ah EE 87 2 [(0,e),(1,f)]) 61888523 a fun m n o p=>Aaa o p c b g n l m h i)
def Z9 (a:Hp) (d e f:IV) (g:Aa) (h:IV):OH :=
 Af d a fun b _=>AF b fun i=>Ac 4 i fun j=>Aj 3 j a fun k c=>Ad [] c [] (Yl b a c e f g h k)
def AcU (b c:AG) (d:IV) (a:Hp) (e f:IV) (g:Aa) (h:IV):OH :=
 Ad [] b c (AF d fun i=>Ac 2 i fun j=>Af j a fun k _=>A8 1 k (.fv (.int .i64 2)) fun l=>Z9 a l e f g h)
def Adh (c d:AG) (e:IV) (f:Hp) (a:Aa) (b g h:IV):OH :=
 Ad [] c d (BD [.fv (.int .i64 0),.fv (.int .i64 0),.nils,.nils,.fv (.int .i64 0),.fv (.int .i64 0),.nils] [(0,1,.fv (.int .i64 13)),(2,1,e)] fun i=>A3 61886486 i f fun j k l m=>Ad [] l m (Al [true,false] false false a 59 [b,j] k fun n o p q=>AcU p q g o h n a b))
def Aaf (g a b c d:AG) (h:IV) (e:Hp) (i j f:IV) (k:Aa) (l m:IV):OH :=
 Ad [(a,[]),(b,[]),(c,[]),(d,[])] g [] (A8 1 h (.fv (.int .i64 2)) fun n=>Af n e fun o p=>Ad [(a,[]),(b,[]),(c,[]),(d,[])] p [] (Az (Ah EE 87 4 [(0,i),(1,j),(2,o),(3,f)]) 61886484 e fun q r s t=>Adh s t q r k l m f))
def Ado (a:Hp) (f:IV) (b c:AG) (d:IV) (g:AG) (h i:IV) (j:Aa) (k:IV):OH :=
 Af f a fun l e=>Ad [(b,[]),(c,[])] e [] (AF d fun m=>Ac 2 m fun n=>Af n a fun o p=>Aaf p e g b c o a h l i j k d)
def Zc (a:IV) (b:Hp) (c d:AG) (f g:IV) (h:Aa) (i:IV):OH :=
 AF a fun j=>Ac 2 j fun k=>Af k b fun l e=>Ad [(c,[]),(d,[])] e [] (A8 1 l (.fv (.int .i64 1)) fun m=>Ado b m c d a e f g h i)
def AaP (a:Hp) (d e f:IV) (g:Aa) (h:IV):OH :=
 Af d a fun i b=>Ad [] b [] (A8 1 i (.fv (.int .i64 0)) fun j=>Af j a fun k c=>Ad [] c [] (Zc e a c b k f g h))
def Z5 (a:Hp) (c b:IV) (d:Aa) (e:IV):OH :=
 Af c a fun f _=>A8 1 f (.fv (.int .i64 0)) fun g=>Af g a fun h _=>AF b fun i=>Ac 2 i fun j=>AaP a j b h d e
def ZD (a:Hp) (b c:IV) (d:Aa) (e:IV):OH :=
 Af b a fun f _=>A8 1 f (.fv (.int .i64 3)) fun g=>Af g a fun h _=>AF h fun i=>Ac 2 i fun j=>Z5 a j c d e
def ZP (a:Aa) (e:Hp) (b c:IV) (f:Hp→OH):OH :=
 Al [true] false false a 70 [b] e fun g d _ _=>Am g (AF c fun h=>Ac 2 h fun i=>ZD d i c a b) (f d)
def AdF (c:Hp) (a g:IV) (h:Aa) (i j:IV) (d:Hp→OH):OH :=
 Ab a true c (fun k=>Ac 0 g fun l=>k l c [] []) fun m b _ _=>Ab a true b (fun n=>Af m b fun o p=>n o b p []) fun q e _ _=>Ab a true e (fun r=>A4 EE 3 q (.fv (.int .i64 12)) fun s=>r s e [] []) fun t f _ _=>AH a t (.fv (.bool false)) fun u=>Am u (ZP h f i j d) (d f)
def Ab5 (d:Hp) (a g:IV) (h:Aa) (i j:IV) (k:Hp→OH):OH :=
 Ab a true d (fun l=>Ac 2 g fun m=>l m d [] []) fun n b _ _=>Ab a true b (fun o=>Af n b fun p q=>o p b q []) fun r e _ _=>Ab a true e (fun s=>A8 1 r (.fv (.int .i64 3)) fun t=>s t e [] []) fun u c _ _=>Ab a true c (fun v=>Af u c fun w x=>v w c x []) fun y f _ _=>Ab a true f (fun z=>AF y fun A=>z A f [] []) fun B C _ _=>AdF C a B h i j k
def Abt (e:IV) (a:Hp) (c:IV) (f:Aa) (g:IV) (h:Hp→OH):OH :=
 Ac 0 e fun i=>Af i a fun j _=>A4 EE 3 j (.fv (.int .i64 13)) fun b=>Ab b true a (fun k=>k c a [] []) fun l d _ _=>Ab b true d (fun m=>AF l fun n=>m n d [] []) fun o p _ _=>Ab5 p b o f g c h
def Ael (a:Hp) (b i:IV) (d:Aa) (e c:IV) (f:Hp→OH):OH :=
 Ab b true a (fun j=>Af i a fun k l=>j k a l []) fun m g _ _=>Ab b true g (fun n=>A4 EE 3 m (.fv (.int .i64 11)) fun o=>n o g [] []) fun p h _ _=>AH b p (.fv (.bool false)) fun q=>Am q (Al [true] false false d 70 [e] h fun r s _ _=>AeD r c s f) (AF c fun t=>Abt t h c d e f)
def ZT (b:Hp) (a g:IV) (h:Aa) (i j:IV) (k:Hp→OH):OH :=
 Ab a true b (fun l=>Af g b fun m n=>l m b n []) fun o d _ _=>Ab a true d (fun p=>A8 1 o (.fv (.int .i64 3)) fun q=>p q d [] []) fun r c _ _=>Ab a true c (fun s=>Af r c fun t u=>s t c u []) fun v e _ _=>Ab a true e (fun w=>AF v fun x=>w x e [] []) fun y f _ _=>Ab a true f (fun z=>Ac 0 y fun A=>z A f [] []) fun B C _ _=>Ael C a B h i j k
def AbM (b:Hp) (f c:IV) (g:Aa) (h:IV) (i:Hp→OH):OH :=
 Af f b fun j _=>A4 EE 3 j (.fv (.int .i64 13)) fun a=>Ab a true b (fun k=>k c b [] []) fun l d _ _=>Ab a true d (fun m=>AF l fun n=>m n d [] []) fun o e _ _=>Ab a true e (fun p=>Ac 2 o fun q=>p q e [] []) fun r s _ _=>ZT s a r g h c i
def YO (g:IV) (b:Aa) (c:Hp) (d a:IV) (e:Hp→OH):OH :=
 Am g (Al [true] false false b 70 [d] c fun h f _ _=>Am h (AdT a f) (e f)) (AF a fun i=>Ac 0 i fun j=>AbM c j a b d e)
def Zp (a:Hp) (b d:IV) (e:IV→Hp→OH):OH :=
 Ab b true a (fun f=>Af d a fun g h=>f g a h []) fun i c _ _=>Ab b true c (fun j=>A4 EE 3 i (.fv (.int .i64 30)) fun k=>j k c [] []) fun l m _ _=>AH b l (.fv (.bool false)) fun n=>e n m
def Acw (b:Hp) (a g:IV) (h:IV→Hp→OH):OH :=
 Ab a true b (fun i=>Af g b fun j k=>i j b k []) fun l d _ _=>Ab a true d (fun m=>A8 1 l (.fv (.int .i64 0)) fun n=>m n d [] []) fun o c _ _=>Ab a true c (fun p=>Af o c fun q r=>p q c r []) fun s e _ _=>Ab a true e (fun t=>AF s fun u=>t u e [] []) fun v f _ _=>Ab a true f (fun w=>Ac 0 v fun x=>w x f [] []) fun y z _ _=>Zp z a y h
def AbO (b:Hp) (e f:IV) (g:IV→Hp→OH):OH :=
 Af e b fun h _=>A4 EE 3 h (.fv (.int .i64 19)) fun a=>Ab a true b (fun i=>i f b [] []) fun j c _ _=>Ab a true c (fun k=>AF j fun l=>k l c [] []) fun m d _ _=>Ab a true d (fun n=>Ac 2 m fun o=>n o d [] []) fun p q _ _=>Acw q a p g
def Aap (e f:IV) (a:IV→Hp→OH) (b:Hp) (c:IV):OH :=
 AH e f (.fv (.bool false)) fun d=>Am d (a d b) (AF c fun g=>Ac 0 g fun h=>AbO b h c a)
def YX (b:Hp) (a g:IV) (h:IV→Hp→OH) (i:IV):OH :=
 Ab a true b (fun j=>Af g b fun k l=>j k b l []) fun m d _ _=>Ab a true d (fun n=>AF m fun o=>n o d [] []) fun p e _ _=>Ab a true e (fun q=>Ac 0 p fun r=>q r e [] []) fun s c _ _=>Ab a true c (fun t=>Af s c fun u v=>t u c v []) fun w f _ _=>Ab a true f (fun x=>A4 EE 3 w (.fv (.int .i64 19)) fun y=>x y f [] []) fun z A _ _=>Aap a z h A i
def AcD (c:Hp) (a d:IV) (h:IV→Hp→OH):OH :=
 Ab a true c (fun i=>i d c [] []) fun j e _ _=>Ab a true e (fun k=>AF j fun l=>k l e [] []) fun m f _ _=>Ab a true f (fun n=>Ac 2 m fun o=>n o f [] []) fun p b _ _=>Ab a true b (fun q=>Af p b fun r s=>q r b s []) fun t g _ _=>Ab a true g (fun u=>A8 1 t (.fv (.int .i64 0)) fun v=>u v g [] []) fun w x _ _=>YX x a w h d
def YC (c:Aa) (d a:IV) (e:Hp→OH) (b:Hp):OH :=
 (fun (f:IV→Hp→OH)=>AF a fun g=>Ac 0 g fun h=>Af h b fun i _=>A4 EE 3 i (.fv (.int .i64 30)) fun j=>AcD b j a f) fun k l=>YO k c l d a e
def ZK (c:Hp) (a j:IV) (d:Aa) (e f:IV) (g:Hp→OH):OH :=
 Ab a true c (fun k=>Ac 0 j fun l=>k l c [] []) fun m b _ _=>Ab a true b (fun n=>Af m b fun o p=>n o b p []) fun q h _ _=>Ab a true h (fun r=>A4 EE 3 q (.fv (.int .i64 7)) fun s=>r s h [] []) fun t i _ _=>AH a t (.fv (.bool false)) fun u=>Am u (AdO d i e f g) (YC d e f g i)
def AcY (d:Hp) (a g:IV) (h:Aa) (i j:IV) (k:Hp→OH):OH :=
 Ab a true d (fun l=>Ac 2 g fun m=>l m d [] []) fun n b _ _=>Ab a true b (fun o=>Af n b fun p q=>o p b q []) fun r e _ _=>Ab a true e (fun s=>A8 1 r (.fv (.int .i64 0)) fun t=>s t e [] []) fun u c _ _=>Ab a true c (fun v=>Af u c fun w x=>v w c x []) fun y f _ _=>Ab a true f (fun z=>AF y fun A=>z A f [] []) fun B C _ _=>ZK C a B h i j k
def Acp (a:Hp) (b h d:IV) (i:Aa) (j:IV) (k:Hp→OH):OH :=
 Ab b false a (fun l=>Af h a fun m n=>l m a n []) fun o e _ _=>Ab b false e (fun p=>A4 EE 3 o (.fv (.int .i64 9)) fun q=>p q e [] []) fun r f _ _=>AH b (.fv (.bool true)) r fun c=>Ab c true f (fun s=>s d f [] []) fun t g _ _=>Ab c true g (fun u=>AF t fun v=>u v g [] []) fun w x _ _=>AcY x c w i j d k
def AbR (b:Hp) (f c:IV) (g:Aa) (h:IV) (i:Hp→OH):OH :=
 Af f b fun j _=>A4 EE 3 j (.fv (.int .i64 8)) fun a=>Ab a false b (fun k=>k c b [] []) fun l d _ _=>Ab a false d (fun m=>AF l fun n=>m n d [] []) fun o e _ _=>Ab a false e (fun p=>Ac 0 o fun q=>p q e [] []) fun r s _ _=>Acp s a r c g h i
def ZA (g:IV) (a:Aa) (d:Hp) (b c:IV) (e:Hp→OH):OH :=
 Am g (Al [true] false false a 70 [b] d fun h f _ _=>Am h (Zl c f a b) (e f)) (AF c fun i=>Ac 0 i fun j=>AbR d j c a b e)
def Ab6 (c:Hp) (a f:IV) (g:Aa) (h i:IV) (j:Hp→OH):OH :=
 Ab a true c (fun k=>AF f fun l=>k l c [] []) fun m d _ _=>Ab a true d (fun n=>Ac 0 m fun o=>n o d [] []) fun p b _ _=>Ab a true b (fun q=>Af p b fun r s=>q r b s []) fun t e _ _=>Ab a true e (fun u=>A4 EE 3 t (.fv (.int .i64 4)) fun v=>u v e [] []) fun w x _ _=>AH a w (.fv (.bool false)) fun y=>ZA y g x h i j
def Z0 (d:Hp) (a g:IV) (h:Aa) (i j:IV) (k:Hp→OH):OH :=
 Ab a true d (fun l=>AF g fun m=>l m d [] []) fun n e _ _=>Ab a true e (fun o=>Ac 2 n fun p=>o p e [] []) fun q b _ _=>Ab a true b (fun r=>Af q b fun s t=>r s b t []) fun u f _ _=>Ab a true f (fun v=>A8 1 u (.fv (.int .i64 0)) fun w=>v w f [] []) fun x c _ _=>Ab a true c (fun y=>Af x c fun z A=>y z c A []) fun B C _ _=>Ab6 C a B h i j k
def AeG (a:IV) (b:Hp) (d:Aa) (e:IV) (f:Hp→OH):OH :=
 AF a fun g=>Ac 0 g fun h=>Af h b fun i _=>A4 EE 3 i (.fv (.int .i64 5)) fun c=>Ab c true b (fun j=>j a b [] []) fun k l _ _=>Z0 l c k d e a f
def S59 (d:Aa) (n:Nat) (c a:IV) (b:Hp):OH :=
 (fun (e:Hp→OH)=>AF c fun f=>Ac 2 f fun g=>Af g b fun h _=>Hb EE 3 h (.fv (.int .i64 0)) fun i=>Am i (An [a] b) (AeG a b d c e)) fun j=>An [a] j
theorem Aoc (a:Aa) (n:Nat) (b c:IV) (d:Hp):Ax EE a ft.get n 59 [b,c] d=S59 a n b c d:=by kernel_rfl
def Il (c:Hp) (a d:IV):OH :=
 Ak 3 a d c fun b _ _=>Aw true 3 a b fun e=>An [e] b
def Jj (c:IV) (d:Hp) (a:IV):OH :=
 Bd EE 3 c (.fv (.int .i64 1)) fun e=>BD [.fv (.int .i64 0),.fv (.int .i64 0),.nils] [(0,1,.fv (.int .i64 1)),(1,1,e)] fun f=>Ak 3 a f d fun b _ _=>Aw true 3 a b fun g=>An [g] b
def Is (a:Hp) (b:IV):OH :=
 Aw true 3 b a fun c=>An [c] a
def Jl (d e c:IV) (a:Hp) (b:IV):OH :=
 L0 EE 3 d e fun f=>Am f (Ac 1 c fun g=>Af g a fun h _=>Jj h a b) (Aj 3 c a fun i _=>Ak 3 b i a fun j _ _=>Is j b)
def I7 (e b:IV) (a:Hp) (f:IV) (g:Aa) (h c d:IV):OH :=
 A4 EE 3 e b fun i=>Am i (Aj 3 f a fun j _=>Al [] false false g 25 [j,h,.fv (.int .i64 0)] a fun k l _ _=>Il l c k) (Ac 1 d fun m=>Af m a fun n _=>Jl n b d a c)
def Ja (a:IV) (h:Hp) (i j:IV) (k:Hp) (b c d e f:IV) (l:List IV→Hp→OH):OH :=
 Ac 2 a fun m=>BA m i h fun n o p=>Ad [] o p (Bw EE 3 j (.fv (.int .i64 1)) fun g=>Bf (k.own.map (·.1)) [62926864] [b,c,d,e,f,a,g] n fun q=>l [b,c,d,e,f,a,g] q)
def I5 (b c a:AG) (d:Hp) (e f g h:IV) (i:Hp) (j k l m n:IV) (o:List IV→Hp→OH):OH :=
 Ad [(a,[])] b c (Az (Ah EE 29 1 [(0,e)]) 62926863 d fun p q r s=>Ad [(a,[])] r s (Az (A0 EE 62926864 false .append [29,29] [f,p]) 62926864 q fun t u v w=>Ad [] v w (Ja g u t h i j k l m n o)))
def In (a b c:IV) (d:Hp) (e:IV) (g h f:AG) (i:Aa) (j k l m:IV) (n:Hp) (o p:IV) (q:List IV→Hp→OH):OH :=
 Bw EE 3 a b fun r=>Bw EE 3 c b fun s=>Aj 3 e d fun t u=>Ad [(g,[]),(h,[]),(f,[])] u [] (Al [] false false i 60 [j,r,s,t] d fun v w x y=>I5 x y f w v k l m n a c o e p q)
def IR (a:Hp) (f:IV) (b:AG) (c g h i j:IV) (k:Aa) (l m:IV) (n:Hp) (o p:IV) (q:List IV→Hp→OH):OH :=
 Af f a fun r d=>Ad [(b,[])] d [] (A8 3 r c fun s=>Aj 3 s a fun t e=>Ad [(b,[])] e [] (In g h i a j e d b k t l m c n o p q))
def IN (a:Aa) (g:Hp) (h b c d i j k:IV) (l:Hp) (m:IV) (n:List IV→Hp→OH):OH :=
 Al [] false false a 51 [h,b] g fun o e _ _=>Ac 2 c fun p=>Af p e fun q f=>Ad [] f [] (Ac 2 d fun r=>IR e r f b i o j k a q c l d m n)
def IS (a:Hp) (b:IV):OH :=
 Aw true 3 b a fun c=>An [c] a
def IJ (c f d:IV) (a:Hp) (g:Aa) (e h i j:IV) (k:Hp) (b:IV) (l:List IV→Hp→OH):OH :=
 GP EE 3 c f fun m=>Am m (Ac 0 d fun n=>Af n a fun o _=>IN g a o c e d h i j k b l) (Aj 3 e a fun p _=>Ak 3 b p a fun q _ _=>IS q b)
def Jn (c:List IV) (a:IV) (b:Hp) (d:Aa) (e f g:IV) (h:Hp) (i:IV) (j:List IV→Hp→OH):OH :=
 Ay c fun k l=>Ay l fun m _=>Ac 2 a fun n=>Af n b fun o _=>BS o fun p=>IJ m p a b d k e f g h i j
def If (a:List IV) (b:Hp) (c:Aa) (d:Hp) (e:List IV→Hp→OH):OH :=
 Ay a fun f g=>Ay g fun h i=>Ay i fun j k=>Ay k fun l m=>Ay m fun n o=>Jn o j b c f h l d n e
def IX (a h:Hp) (b c d e f g:IV) (n:Nat) (i:Aa):OH :=
 Bf (a.own.map (·.1)) [62926864] [b,c,d,e,f,g,.fv (.int .i64 0)] h fun j=>BF n (fun k l m=>If l m i a k) [b,c,d,e,f,g,.fv (.int .i64 0)] j
def IB (a:IV) (b:Hp) (d:IV) (e:Hp) (f g h i:IV) (n:Nat) (j:Aa):OH :=
 Ac 1 a fun k=>Af k b fun l _=>BD [.fv (.int .i64 0),.fv (.int .i64 0),.nils] [(0,1,d),(1,1,l)] fun m=>AJ 62921733 (.row [.fv (.int .i64 0),.fv (.int .i64 0),.nils] false) (.ptr (.own 62921733) 0) b fun c o _ _=>Ak 3 c m o fun p _ _=>IX e p f g a h i c n j
def Ji (h a:IV) (b:Hp) (c d:IV) (e:Aa) (f g:IV) (i:Hp) (n:Nat):OH :=
 Am h (Ac 1 a fun j=>Af j b fun k _=>I7 k c b d e f g a) (Ac 0 a fun l=>Af l b fun m _=>IB a b m i c f d g n e)
def S60 (d:Aa) (n:Nat) (e f g h:IV) (a:Hp):OH :=
 A3 62914560 e a fun b i _ _=>A3 62914561 h i fun j k _ _=>AJ 62914562 (.row [.fv (.int .i64 0),.fv (.int .i64 0),.nils] false) (.ptr (.own 62914562) 0) k fun l c _ _=>Ac 0 b fun m=>Af m c fun o _=>A4 EE 3 o (.fv (.int .i64 1)) fun p=>Ji p b c f j d g l a n
theorem Apr (a:Aa) (n:Nat) (b c d e:IV) (f:Hp):Ax EE a ft.get n 60 [b,c,d,e] f=S60 a n b c d e f:=by kernel_rfl
def Sd (b:IV) (a:Hp) (c:IV):OH :=
 Am b (An [.fv (.int .i64 3)] a) (A4 EE 3 c (.fv (.int .i64 13)) fun d=>Am d (An [.fv (.int .i64 4)] a) (An [.fv (.int .i64 (-1))] a))
def Tx (a:IV) (b:IV→Hp→OH) (c:Hp) (d:IV):OH :=
 Am a (b a c) (A4 EE 3 d (.fv (.int .i64 27)) fun e=>b e c)
def SH (c:IV) (b:Hp) (a:IV):OH :=
 Am c (An [.fv (.int .i64 2)] b) ((fun (d:IV→Hp→OH)=>A4 EE 3 a (.fv (.int .i64 7)) fun e=>Tx e d b a) fun f g=>Sd f g a)
def Q6 (a:IV) (b:IV→Hp→OH) (c:Hp):OH :=
 A4 EE 3 a (.fv (.int .i64 28)) fun d=>Am d (b d c) (A4 EE 3 a (.fv (.int .i64 29)) fun e=>b e c)
def Ty (a:IV) (b:IV→Hp→OH) (c:Hp):OH :=
 A4 EE 3 a (.fv (.int .i64 22)) fun d=>Am d (b d c) (A4 EE 3 a (.fv (.int .i64 26)) fun e=>Am e (b e c) (Q6 a b c))
def S5 (a:IV) (b:IV→Hp→OH) (c:Hp):OH :=
 A4 EE 3 a (.fv (.int .i64 20)) fun d=>Am d (b d c) (A4 EE 3 a (.fv (.int .i64 21)) fun e=>Am e (b e c) (Ty a b c))
def ST (a:IV) (b:IV→Hp→OH) (c:Hp):OH :=
 A4 EE 3 a (.fv (.int .i64 16)) fun d=>Am d (b d c) (A4 EE 3 a (.fv (.int .i64 17)) fun e=>Am e (b e c) (S5 a b c))
def SQ (a:IV) (b:IV→Hp→OH) (c:Hp):OH :=
 A4 EE 3 a (.fv (.int .i64 5)) fun d=>Am d (b d c) (A4 EE 3 a (.fv (.int .i64 6)) fun e=>Am e (b e c) (ST a b c))
def Rx (c:IV) (a:IV→Hp→OH) (b:Hp) (d:IV):OH :=
 Am c (a c b) (A4 EE 3 d (.fv (.int .i64 4)) fun e=>Am e (a e b) (SQ d a b))
def SZ (c:IV) (b:Hp) (a:IV):OH :=
 Am c (An [.fv (.int .i64 1)] b) ((fun (d:IV→Hp→OH)=>A4 EE 3 a (.fv (.int .i64 3)) fun e=>Rx e d b a) fun f g=>SH f g a)
def Sq (a:IV) (b:IV→Hp→OH) (c:Hp):OH :=
 A4 EE 3 a (.fv (.int .i64 24)) fun d=>Am d (b d c) (A4 EE 3 a (.fv (.int .i64 30)) fun e=>b e c)
def SB (a:IV) (b:IV→Hp→OH) (c:Hp):OH :=
 A4 EE 3 a (.fv (.int .i64 19)) fun d=>Am d (b d c) (A4 EE 3 a (.fv (.int .i64 23)) fun e=>Am e (b e c) (Sq a b c))
def Ta (a:IV) (b:IV→Hp→OH) (c:Hp):OH :=
 A4 EE 3 a (.fv (.int .i64 12)) fun d=>Am d (b d c) (A4 EE 3 a (.fv (.int .i64 18)) fun e=>Am e (b e c) (SB a b c))
def Ud (c:IV) (a:IV→Hp→OH) (b:Hp) (d:IV):OH :=
 Am c (a c b) (A4 EE 3 d (.fv (.int .i64 9)) fun e=>Am e (a e b) (Ta d a b))
def R1 (c:IV) (b:Hp) (a:IV):OH :=
 Am c (An [.fv (.int .i64 0)] b) ((fun (d:IV→Hp→OH)=>A4 EE 3 a (.fv (.int .i64 8)) fun e=>Ud e d b a) fun f g=>SZ f g a)
def Ul (a:IV) (b:IV→Hp→OH) (c:Hp):OH :=
 A4 EE 3 a (.fv (.int .i64 25)) fun d=>b d c
def Tw (a:IV) (b:IV→Hp→OH) (c:Hp):OH :=
 A4 EE 3 a (.fv (.int .i64 14)) fun d=>Am d (b d c) (A4 EE 3 a (.fv (.int .i64 15)) fun e=>Am e (b e c) (Ul a b c))
def Sx (a:IV) (b:IV→Hp→OH) (c:Hp):OH :=
 A4 EE 3 a (.fv (.int .i64 10)) fun d=>Am d (b d c) (A4 EE 3 a (.fv (.int .i64 11)) fun e=>Am e (b e c) (Tw a b c))
def S61 (h:Aa) (n:Nat) (a:IV) (b:Hp):OH :=
 (fun (c:IV→Hp→OH)=>A4 EE 3 a (.fv (.int .i64 1)) fun d=>Am d (c d b) (A4 EE 3 a (.fv (.int .i64 2)) fun e=>Am e (c e b) (Sx a c b))) fun f g=>R1 f g a
theorem Aqs (a:Aa) (n:Nat) (b:IV) (c:Hp):Ax EE a ft.get n 61 [b] c=S61 a n b c:=by kernel_rfl
end
end Idl
end Go.Proofs.Ytaifgaidaglblaa

/-
  Texts of a proof, part 8: an ideal semantics of the program, its functions in shallow form, contracts of them. No statement of the seat is proved here.
-/
import Derived.Test.YtaifgaidaglblaaEqualEtaK7
set_option linter.all false
noncomputable section
set_option maxRecDepth 100000
set_option linter.unusedVariables false
namespace Go.Proofs.Ytaifgaidaglblaa
namespace Idl
noncomputable section
abbrev OH:=Option (IV×Hp)
abbrev AF:=List Ref
abbrev iq (n:Int):IV:=.fv (.int .i64 n)
def Uz (a:Hp) (b d:IV) (e:Hp→OH):OH :=
 Ab b false a (fun f=>CO (L9 .not d) fun g=>f g a [] []) fun h c _ _=>AG b (.fv (.bool true)) h fun i=>Am i (An [.fv (.bool false)] c) (e c)
def S6 (d:Aa) (e:Hp) (f g:IV) (h:Hp→OH):OH :=
 Al [] false false d 16 [f,g] e fun a b _ _=>AQ 0 a fun i=>AQ 1 a fun j=>Hg EE 37 j (.fv (.int .i64 0)) fun c=>Ab c false b (fun k=>k i b [] []) fun l m _ _=>Uz m c l h
def Ub (b:IV) (a:Hp) (c d:IV) (e:Aa) (f:Hp→OH):OH :=
 Am b (An [.fv (.bool true)] a) (Aj 3 c a fun g _=>Aj 3 d a fun h _=>S6 e a g h f)
def TD (a:IV) (c:Hp) (b:Aa) (d e:IV) (f:Hp→OH):OH :=
 AQ 0 a fun g=>AQ 1 a fun h=>AH 5263365 (.row [.fv (.int .i64 0),.fv (.int .i64 0),.nils] false) (.ptr (.own 5263365) 0) c fun i j _ _=>Ak 3 i g j fun k _ _=>Al [] false false b 15 [h] k fun l m _ _=>Ub l m d e b f
def T8 (d e f g h i j k l m n o p q r s t u v w x y:AF) (z:Hp) (a A:IV) (b:Aa) (B:IV) (C:Hp→OH):OH :=
 Ad [(f,g),(h,i),(j,k),(l,m),(n,[]),(o,p),(q,r),(s,[]),(t,u),(v,w),(x,[]),(y,[])] d e (Ak 3 a A z fun c D E=>Ad [] D E (Aj 3 a c fun F _=>Al [] false false b 17 [F] c fun G H _ _=>TD G H b B a C))
def Rn (f:Hp) (g h i:IV) (a:Aa) (j k l m n o p q r s t u v w x y:AF) (z:IV) (A:Hp→OH):OH :=
 Ay (Ah EE 29 3 [(0,g),(1,h),(2,i)]) 5262346 f fun B C b c=>Ad [] b c (Al [] false false a 24 [.fv (.int .i64 7),B] C fun D E d e=>Ad [] d e (AH 5262348 (.row [.fv (.int .i64 0),.fv (.int .i64 0),.nils] false) (.ptr (.own 5262348) 0) E fun F G H I=>T8 H I d e b c j k l m n o p q r s t u v w x y G F D a z A))
def TS (l a b c d e f g h i j k:AF) (r:Hp) (s:IV) (m:Aa) (t u v:IV) (w:Hp→OH):OH :=
 Ad [(a,b),(c,d),(e,[]),(f,g),(h,i),(j,[]),(k,[])] l [] (Ay (Ah EE 29 1 [(0,s)]) 5262344 r fun x y n o=>Ad [(a,b),(c,d),(e,[]),(f,g),(h,i),(j,[]),(k,[])] n o (Al [] false false m 24 [.fv (.int .i64 9),x] y fun z A p q=>Ad [] p q (Rn A t u z m p q n o l a b c d e f g h i j k v w)))
def R2 (n:Hp) (o:IV) (a b c d e f:AF) (g:Aa) (h:IV) (p:AF) (q:IV) (r:Hp→OH):OH :=
 Ay (Ah EE 29 1 [(0,o)]) 5262341 n fun s t i j=>Ad [(a,b),(c,d),(e,[]),(f,[])] i j (Al [] false false g 24 [.fv (.int .i64 8),s] t fun u k l m=>Ad [] l m (Aj 3 h k fun v w=>TS w l m i j p a b c d e f k v g q u h r))
def U0 (a b:AF) (e:Aa) (k:Hp) (l f:IV) (g h:AF) (m:Hp→OH):OH :=
 Ad [] a b (Al [] false false e 24 [.fv (.int .i64 6),l] k fun n i c d=>Ad [] c d (Aj 3 f i fun o j=>Ad [(c,d),(a,b),(g,[]),(h,[])] j [] (R2 i o c d a b g h e f j n m)))
def U6 (a:Hp) (d e:IV) (f:Aa) (g:IV) (h:Hp→OH):OH :=
 Aj 3 d a fun i b=>Ad [] b [] (Aj 3 e a fun j c=>Ad [(b,[])] c [] (Ay (Ah EE 29 2 [(0,i),(1,j)]) 5262338 a fun k l m n=>U0 m n f l k g c b h))
def U2 (b:Hp) (a c:IV) (d:Aa) (i j:IV) (e:Hp→OH):OH :=
 Ab a true b (fun k=>Aj 3 c b fun l m=>k l b m []) fun n f _ _=>Ab a true f (fun o=>Al [] false false d 18 [n] f o) fun p g _ _=>Ab a true g (fun q=>GV EE 3 p (.fv (.int .i64 400)) fun r=>q r g [] []) fun s h _ _=>AG a s (.fv (.bool false)) fun t=>Am t (U6 h i j d c e) (e h)
def TM (b:Hp) (a f:IV) (c:Aa) (g h i:IV):OH :=
 (fun (j:Hp→OH)=>Ab a true b (fun k=>k f b [] []) fun l d _ _=>Ab a true d (fun m=>Al [] false false c 15 [l] d m) fun n e _ _=>Ab a true e (fun o=>CO (L9 .not n) fun p=>o p e [] []) fun q r _ _=>AG a q (.fv (.bool false)) fun s=>U2 r s g c h i j) fun t=>An [.fv (.bool true)] t
def Rb (e:IV) (b:Hp) (f:IV) (g:Hp→OH):OH :=
 Hg EE 37 e (.fv (.int .i64 0)) fun a=>Ab a false b (fun h=>h f b [] []) fun i c _ _=>Ab a false c (fun j=>CO (L9 .not i) fun k=>j k c [] []) fun l d _ _=>AG a (.fv (.bool true)) l fun m=>Am m (An [.fv (.bool false)] d) (g d)
def S4 (a:Hp) (c d:IV) (e:Aa) (f:Hp→OH):OH :=
 Aj 3 c a fun g _=>Aj 3 d a fun h _=>Al [] false false e 16 [g,h] a fun b i _ _=>AQ 0 b fun j=>AQ 1 b fun k=>Rb k i j f
def Sa (b:Hp) (a c:IV) (d:Aa) (i:IV) (e:Hp→OH):OH :=
 Ab a true b (fun j=>Aj 3 c b fun k l=>j k b l []) fun m f _ _=>Ab a true f (fun n=>Al [] false false d 27 [m] f n) fun o g _ _=>Ab a true g (fun p=>A5 EE 3 o (.fv (.int .i64 0)) fun q=>p q g [] []) fun r h _ _=>AG a r (.fv (.bool false)) fun s=>Am s (S4 h i c d e) (e h)
def Tn (f g:IV) (b:Hp) (h:IV) (c:Aa) (i j:IV) (k:Hp→OH):OH :=
 AG f g (.fv (.bool false)) fun a=>Ab a true b (fun l=>l h b [] []) fun m d _ _=>Ab a true d (fun n=>Al [] false false c 15 [m] d n) fun o e _ _=>Ab a true e (fun p=>CO (L9 .not o) fun q=>p q e [] []) fun r s _ _=>AG a r (.fv (.bool false)) fun t=>Sa s t i c j k
def W4 (f:Hp) (g h i j:IV) (b:Aa) (k l m a n o p q:IV):OH :=
 Ak 3 g h f fun c _ _=>(fun (r:Hp→OH)=>Ab a true c (fun s=>s n c [] []) fun t d _ _=>Ab a true d (fun u=>Al [] false false b 15 [t] d u) fun v e _ _=>Ab a true e (fun w=>CO (L9 .not v) fun x=>w x e [] []) fun y z _ _=>Tn a y z o b p q r) fun A=>TM A i j b k l m
def Uq (a:Hp) (b:IV) (c:Aa) (e f g h i j k l:IV):OH :=
 Aj 3 b a fun m _=>Al [] false false c 17 [m] a fun d n _ _=>AQ 0 d fun o=>AQ 1 d fun p=>AH 5256197 (.row [.fv (.int .i64 0),.fv (.int .i64 0),.nils] false) (.ptr (.own 5256197) 0) n fun q r _ _=>W4 r q o e f c g h i j k p b l
def Sx (a b:AF) (d:Hp) (e f g h i j k l m n o p:AF) (q:IV) (r:Aa) (s t u v w x y z:IV):OH :=
 Ad [] a b (AH 5255176 (.row [.fv (.int .i64 0),.fv (.int .i64 0),.nils] false) (.ptr (.own 5255176) 0) d fun c A B C=>Ad [(a,b),(e,f),(g,h),(i,j),(k,l),(m,n),(o,[]),(p,[])] B C (Ak 3 c q A fun D E F=>Ad [] E F (Uq D c r s t u v w x y z)))
def Uw (a:Aa) (g:Hp) (h:IV) (b:AF) (i:IV) (j k l m n o p:AF) (q r s t u v w x:IV):OH :=
 Al [] false false a 24 [.fv (.int .i64 5),h] g fun y z c d=>Ad [(b,[])] c d (Ay (Ah EE 29 2 [(0,i),(1,y)]) 5255174 z fun A B e f=>Ad [] e f (Al [] false false a 24 [.fv (.int .i64 4),A] B fun C D E F=>Sx E F D e f c d j k l m n o p b C a q r s t u v w x))
def Sp (b c a:AF) (d:Aa) (i:Hp) (j k:IV) (l:AF) (m n o p q r s t:IV):OH :=
 Ad [(a,[])] b c (Al [] false false d 26 [.fv (.int .i64 0)] i fun u v e f=>Ad [(a,[])] e f (Ay (Ah EE 29 2 [(0,j),(1,u)]) 5255172 v fun w x g h=>Ad [(a,[])] g h (Uw d x w a k g h e f b c l m n o p q r s t)))
def Uh (a:Hp) (c d:IV) (e:Aa) (g h i j k l:IV):OH :=
 Aj 3 c a fun m b=>Ad [] b [] (Aj 3 d a fun n f=>Ad [(b,[])] f [] (Al [] false false e 25 [n,.fv (.int .i64 1),.fv (.int .i64 0)] a fun o p q r=>Sp q r b e p o m f g h i c j k l d))
def R9 (a:Aa) (c:Hp) (d e f g h i j k:IV):OH :=
 Al [] false false a 17 [d] c fun b l _ _=>AQ 0 b fun m=>AQ 1 b fun n=>AH 5254149 (.row [.fv (.int .i64 0),.fv (.int .i64 0),.nils] false) (.ptr (.own 5254149) 0) l fun o p _ _=>Ak 3 o m p fun q _ _=>Uh q e f a g n h i j k
def RK (a:IV) (d:Hp) (b:IV) (e:Aa) (f g h i j:IV):OH :=
 AQ 0 a fun k=>AQ 1 a fun l=>AH 5253125 (.row [.fv (.int .i64 0),.fv (.int .i64 0),.nils] false) (.ptr (.own 5253125) 0) d fun m n _ _=>Ak 3 m k n fun c _ _=>Aj 3 b c fun o _=>R9 e c o f g h b i j l
def TW (e f g h i j k l m n o:AF) (p:Hp) (a q b:IV) (c:Aa) (r s t u:IV):OH :=
 Ad [(g,h),(i,[]),(j,k),(l,m),(n,[]),(o,[])] e f (Ak 3 a q p fun d v w=>Ad [] v w (Aj 3 b d fun x _=>Al [] false false c 17 [x] d fun y z _ _=>RK y z a c r b s t u))
def Rk (a:Aa) (e:Hp) (f g h:IV) (i j k l m n o:AF) (p q r s:IV):OH :=
 Al [] false false a 23 [f,g,h,.fv (.int .i64 4)] e fun b t c d=>Ad [] c d (AQ 0 b fun u=>AQ 1 b fun v=>AH 5252106 (.row [.fv (.int .i64 0),.fv (.int .i64 0),.nils] false) (.ptr (.own 5252106) 0) t fun w x y z=>TW y z c d i j k l m n o x w u p a q v r s)
def U3 (a b:AF) (e:Aa) (j:Hp) (k l:IV) (f g:AF) (m n o p q:IV):OH :=
 Ad [] a b (Al [] false false e 24 [.fv (.int .i64 6),k] j fun r h c d=>Ad [] c d (Aj 3 l h fun s i=>Ad [(c,d),(a,b),(f,[]),(g,[])] i [] (Rk e h m r s i c d a b f g n o p q)))
def Tl (a:Hp) (c d:IV) (f:Aa) (g h i j:IV):OH :=
 Aj 3 c a fun k b=>Ad [] b [] (Aj 3 d a fun l e=>Ad [(b,[])] e [] (Ay (Ah EE 29 2 [(0,k),(1,l)]) 5252099 a fun m n o p=>U3 o p f n m g e b h i c d j))
def UU (b:IV) (c:Hp) (d e f g h i j k l:AF) (m n o:IV) (p:Aa) (q r:IV):OH :=
 AQ 1 b fun s=>AH 5251082 (.row [.fv (.int .i64 0),.fv (.int .i64 0),.nils] false) (.ptr (.own 5251082) 0) c fun a t u v=>Ad [(d,e),(f,[]),(g,h),(i,j),(k,[]),(l,[])] u v (Ak 3 a m t fun w x y=>Ad [] x y (Tl w n o p q r a s))
def TE (a:Hp) (b:IV) (c d e f g h:AF) (i:Aa) (j o p q:IV):OH :=
 Aj 3 b a fun r k=>Ad [(c,d),(e,f),(g,[]),(h,[])] k [] (Al [] false false i 23 [j,o,r,.fv (.int .i64 4)] a fun l s m n=>Ad [] m n (AQ 0 l fun t=>UU l s m n k c d e f g h t p q i b j))
def Sm (a b:AF) (h:Hp) (i j:IV) (c:Aa) (k l m n:IV):OH :=
 Ad [(b,[])] a [] (Ay (Ah EE 29 2 [(0,i),(1,j)]) 5251075 h fun o p d e=>Ad [] d e (Al [] false false c 24 [.fv (.int .i64 3),o] p fun q r f g=>Ad [] f g (TE r k f g d e a b c l q m n)))
def RB (e:Hp) (a f c:IV) (g:Aa) (h i:IV):OH :=
 Ak 3 a f e fun b j k=>Ad [] j k (Aj 3 c b fun l d=>Ad [] d [] (Aj 3 a b fun m n=>Sm n d b l m g h i c a))
def RS (a b c d:AF) (e:Aa) (h:Hp) (i j k l m:IV):OH :=
 Ad [(b,c),(d,[])] a [] (Al [] false false e 21 [i,j,.fv (.int .i64 1)] h fun n o f g=>Ad [] f g (AH 5250053 (.row [.fv (.int .i64 0),.fv (.int .i64 0),.nils] false) (.ptr (.own 5250053) 0) o fun p q r s=>Ad [(f,g),(a,[]),(b,c),(d,[])] r s (RB q p n k e l m)))
def Rl (a:Hp) (b:IV) (c:Aa) (d i j:IV):OH :=
 Aj 3 b a fun k e=>Ad [] e [] (Al [] false false c 22 [d,.fv (.int .i64 1),k] a fun l f g h=>Ad [] g h (Aj 3 i f fun m n=>RS n g h e c f l m b j d))
def UK (a:Aa) (e:Hp) (f g h i:IV):OH :=
 Al [] false false a 20 [f] e fun b c _ _=>Aj 3 g c fun j _=>Al [] false false a 21 [b,j,.fv (.int .i64 1)] c fun k l _ _=>AH 5249027 (.row [.fv (.int .i64 0),.fv (.int .i64 0),.nils] false) (.ptr (.own 5249027) 0) l fun d m _ _=>Ak 3 d k m fun n _ _=>Rl n d a b h i
def Td (b:Hp) (a c:IV) (d:Aa) (h i j:IV):OH :=
 Ab a false b (fun k=>Aj 3 c b fun l m=>k l b m []) fun n e _ _=>Ab a false e (fun o=>Al [] false false d 12 [n] e o) fun p f _ _=>Ab a false f (fun q=>CO (L9 .not p) fun r=>q r f [] []) fun s g _ _=>AG a (.fv (.bool true)) s fun t=>Am t (An [.fv (.bool true)] g) (UK d g h i c j)
def Uy (g h:IV) (b:Hp) (c:IV) (d:Aa) (i j k:IV):OH :=
 AG g (.fv (.bool true)) h fun a=>Ab a false b (fun l=>Aj 3 c b fun m n=>l m b n []) fun o e _ _=>Ab a false e (fun p=>Al [] false false d 12 [o] e p) fun q f _ _=>Ab a false f (fun r=>CO (L9 .not q) fun s=>r s f [] []) fun t u _ _=>AG a (.fv (.bool true)) t fun v=>Td u v i d j c k
def SD (b:Aa) (h:Hp) (d e i j:IV):OH :=
 Al [] false false b 11 [d] h fun k c _ _=>CO (L9 .not k) fun a=>Ab a false c (fun l=>Aj 3 e c fun m n=>l m c n []) fun o f _ _=>Ab a false f (fun p=>Al [] false false b 12 [o] f p) fun q g _ _=>Ab a false g (fun r=>CO (L9 .not q) fun s=>r s g [] []) fun t u _ _=>Uy a t u i b j d e
def S5 (a:Aa) (n:Nat) (c d e f:IV) (g:Hp):OH :=
 A4 5242880 d g fun h i _ _=>A4 5242881 e i fun j k _ _=>A4 5242882 f k fun l m _ _=>Al [] false false a 10 [] m fun o b _ _=>CO (L9 .not o) fun p=>Am p (An [.fv (.bool false)] b) (SD a b c h j l)
theorem AsQ (a:Aa) (n:Nat) (b c d e:IV) (f:Hp):Az EE a ft.get n 5 [b,c,d,e] f=S5 a n b c d e f:=by kernel_rfl
def Am1 (a b:IV) (c:Hp):OH :=
 AG a b (.fv (.bool false)) fun d=>An [d] c
def AnD (c:Hp) (a g h:IV):OH :=
 Ab a true c (fun i=>i g c [] []) fun j d _ _=>Ab a true d (fun k=>CO (L9 .not j) fun l=>k l d [] []) fun m e _ _=>AG a m (.fv (.bool false)) fun b=>Ab b true e (fun n=>n h e [] []) fun o f _ _=>Ab b true f (fun p=>A5 EE 37 o (.fv (.int .i64 0)) fun q=>p q f [] []) fun r s _ _=>Am1 b r s
def AlT (b:IV) (c:Hp) (a e:IV):OH :=
 AQ 0 b fun f=>AQ 1 b fun g=>Ab a true c (fun h=>h e c [] []) fun i d _ _=>Ab a true d (fun j=>A5 EE 37 i (.fv (.int .i64 0)) fun k=>j k d [] []) fun l m _ _=>AG a l (.fv (.bool false)) fun n=>AnD m n f g
def AlU (b:IV) (a:Aa) (c:Hp):OH :=
 AQ 0 b fun d=>AQ 1 b fun e=>Al [] false false a 29 [.fv (.int .i64 1)] c fun f g _ _=>Al [] false false a 29 [.fv (.int .i64 2)] g fun h i _ _=>Al [] false false a 16 [f,h] i fun j k _ _=>AlT j k d e
def Aky (c d b:AF) (a:Aa) (e:Hp) (f g:IV):OH :=
 Ad [(b,[])] c d (Al [] false false a 24 [.fv (.int .i64 4),f] e fun h i j k=>Ad [(b,[])] j k (Al [] false false a 16 [g,h] i fun l m n o=>Ad [] n o (AlU l a m)))
def AlN (c:Hp) (d e:IV) (a:AF) (b:Aa) (f g:IV):OH :=
 Ay (Ah EE 29 2 [(0,d),(1,e)]) 10487812 c fun h i j k=>Ad [(a,[])] j k (Al [] false false b 24 [.fv (.int .i64 5),h] i fun l m n o=>Ad [(a,[])] n o (Ay (Ah EE 29 2 [(0,f),(1,l)]) 10487814 m fun p q r s=>Aky r s a b q p g))
def AkE (c d a:AF) (b:Aa) (e:Hp) (f g:IV):OH :=
 Ad [(a,[])] c d (Al [] false false b 26 [.fv (.int .i64 1)] e fun h i j k=>Ad [(a,[])] j k (Al [] false false b 26 [.fv (.int .i64 0)] i fun l m n o=>Ad [(a,[])] n o (AlN m h l a b f g)))
def S10 (a:Aa) (n:Nat) (e:Hp):OH :=
 Al [] false false a 26 [.fv (.int .i64 0)] e fun f g _ _=>AH 10486785 (.row [.fv (.int .i64 0),.fv (.int .i64 0),.nils] false) (.ptr (.own 10486785) 0) g fun b h _ _=>Ak 3 b f h fun c _ _=>Aj 3 b c fun i d=>Ad [] d [] (Al [] false false a 24 [.fv (.int .i64 10),.nils] c fun j k l m=>AkE l m d a k j i)
theorem ApB (a:Aa) (n:Nat) (b:Hp):Az EE a ft.get n 10 [] b=S10 a n b:=by kernel_rfl
def Mf (a:IV) (b:List IV→Hp→OH) (c:Hp) (d:IV):OH :=
 BC EE 3 a (.fv (.int .i64 1)) fun e=>b [d,e] c
def MP (a b:IV) (c:Hp) (e:Aa) (f:List IV→Hp→OH):OH :=
 A7 3 a b fun g=>Aj 3 g c fun h _=>Al [] false false e 12 [h] c fun i d _ _=>CO (L9 .not i) fun j=>Am j (An [.fv (.bool false)] d) (Mf b f d a)
def Mp (a:IV) (b:Hp):OH :=
 BP a fun c=>leS EE 3 c (.fv (.int .i64 6)) fun d=>An [d] b
def Ow (d:List IV) (b:Hp) (e:Aa) (f:List IV→Hp→OH):OH :=
 Aw d fun a g=>Aw g fun c _=>BP a fun h=>GV EE 3 c h fun i=>Am i (MP a c b e f) (Mp a b)
def S11 (a:Aa) (n:Nat) (b:IV) (c:Hp):OH :=
 BE n (fun d e f=>Ow e f a d) [b,.fv (.int .i64 0)] c
theorem Aog (a:Aa) (n:Nat) (b:IV) (c:Hp):Az EE a ft.get n 11 [b] c=S11 a n b c:=by kernel_rfl
def S12 (b:Aa) (n:Nat) (c:IV) (d:Hp):OH :=
 A4 12582912 c d fun e a _ _=>Aj 3 e a fun f _=>Al [] false false b 33 [f,.fv (.int .i64 300)] a fun g h _ _=>GV EE 3 g (.fv (.int .i64 300)) fun i=>An [i] h
theorem An8 (a:Aa) (n:Nat) (b:IV) (c:Hp):Az EE a ft.get n 12 [b] c=S12 a n b c:=by kernel_rfl
def S15 (l:Aa) (n:Nat) (b:IV) (c:Hp):OH :=
 A5 EE 3 b (.fv (.int .i64 17)) fun a=>Ab a false c (fun e=>e b c [] []) fun f d _ _=>Ab a false d (fun g=>A5 EE 3 f (.fv (.int .i64 5)) fun h=>g h d [] []) fun i j _ _=>AG a (.fv (.bool true)) i fun k=>An [k] j
theorem AoG (a:Aa) (n:Nat) (b:IV) (c:Hp):Az EE a ft.get n 15 [b] c=S15 a n b c:=by kernel_rfl
def AiT (a:AF) (b:Hp) (c:IV):OH :=
 Ad [] a [] (An [.fv (.bool false),c] b)
def Agv (a:AF) (b:Hp) (c:IV):OH :=
 Ad [] a [] (An [.fv (.bool false),c] b)
def Ai1 (a:Aa) (b:Hp) (c d:IV):OH :=
 D8 EE a (.fv (.func (.func 40) [] [])) [c,d] b fun e f _ _=>An [e,.fv (.int .i64 0)] f
def Aix (c b:IV) (a:Hp) (d:IV) (e:Aa):OH :=
 Hg EE 37 c (.fv (.int .i64 0)) fun f=>Am f (Ac 3 b fun g=>Af g a fun h i=>Agv i a h) (Aj 4 d a fun j _=>Aj 4 b a fun k _=>Ai1 e a j k)
def AfT (d b:IV) (a:Hp) (c:IV) (e:Aa):OH :=
 Am d (Ac 3 b fun f=>Af f a fun g h=>AiT h a g) (Ac 3 c fun i=>Af i a fun j _=>Aix j c a b e)
def Ag6 (d:Hp) (a e b:IV) (f:Aa):OH :=
 Ak 4 a e d fun c g h=>Ad [] g h (Ac 3 b fun i=>Af i c fun j _=>Hg EE 37 j (.fv (.int .i64 0)) fun k=>AfT k b c a f)
def AfN (a b c d e f g h:AF) (j:Hp) (i k l:IV) (m:Aa):OH :=
 Ad [(c,d),(e,[]),(f,g),(h,[])] a b (AH 16778245 (.row [.fv (.int .i64 0),.fv (.int .i64 0),.nils,.fv (.int .i64 0)] false) (.ptr (.own 16778245) 0) j fun n o p q=>Ad [(a,b),(c,d),(e,[]),(f,g),(h,[])] p q (Ak 4 i k o fun r s t=>Ad [] s t (Ag6 r n l i m)))
def Ahi (a:Hp) (i:IV) (b c d:AF) (e:Aa) (j:IV):OH :=
 Aj 3 i a fun k f=>Ad [(b,c),(d,[])] f [] (Al [] false false e 39 [k] a fun l m g h=>Ad [] g h (AH 16778244 (.row [.fv (.int .i64 0),.fv (.int .i64 0),.nils,.fv (.int .i64 0)] false) (.ptr (.own 16778244) 0) m fun n o p q=>AfN p q g h f b c d o n j l e))
def S16 (a:Aa) (n:Nat) (f g:IV) (h:Hp):OH :=
 A4 16777216 f h fun i j _ _=>A4 16777217 g j fun k b _ _=>Aj 3 i b fun l c=>Ad [] c [] (Al [] false false a 39 [l] b fun m o d e=>Ad [] d e (Ahi o k d e c a m))
theorem ApY (a:Aa) (n:Nat) (b c:IV) (d:Hp):Az EE a ft.get n 16 [b,c] d=S16 a n b c d:=by kernel_rfl
def X9 (b c d:AF) (a:Hp) (e f:IV):OH :=
 Ad [(d,[])] b c (AA true 3 e a fun g=>An [g,f] a)
def Xq (d:IV) (a:Hp) (b e:IV):OH :=
 AE d fun f=>Ac 2 f fun g=>Af g a fun h c=>Ad [] c [] (Ak 3 b e a fun i j k=>X9 j k c i b h)
def XL (c:Hp) (a d:IV):OH :=
 Ak 3 a d c fun b _ _=>AA true 3 a b fun e=>An [e,.fv (.int .i64 0)] b
def Ye (a:Hp) (c d b e:IV):OH :=
 Af c a fun f _=>Hg EE 3 f (.fv (.int .i64 0)) fun g=>Am g (BA [.fv (.int .i64 0),.fv (.int .i64 0),.nils] [] fun h=>Xq d a b h) (Aj 3 e a fun i _=>XL a b i)
def W3 (c:Aa) (d:Hp) (a e f:IV):OH :=
 Al [true,false,false,false] false false c 41 [a,e,.fv (.int .i64 0),.fv (.int .i64 1)] d fun g h _ _=>AH 17827845 (.row [.fv (.int .i64 0),.fv (.int .i64 0),.nils] false) (.ptr (.own 17827845) 0) h fun b i _ _=>Ak 3 b g i fun j _ _=>AE a fun k=>Ac 2 k fun l=>Ye j l a f b
def S17 (a:Aa) (n:Nat) (d:IV) (e:Hp):OH :=
 A4 17825792 d e fun f g _ _=>AH 17825793 (.row [.fv (.int .i64 0),.fv (.int .i64 0),.nils] false) (.ptr (.own 17825793) 0) g fun h i _ _=>BA [.fv (.int .i64 0),.fv (.int .i64 0),.fv (.int .i64 0)] [] fun j=>A4 17826817 j i fun b c _ _=>Aj 3 f c fun k _=>Al [true,false,false] false false a 42 [b,k,.nils] c fun l m _ _=>W3 a m b l h
theorem Apk (a:Aa) (n:Nat) (b:IV) (c:Hp):Az EE a ft.get n 17 [b] c=S17 a n b c:=by kernel_rfl
def Sg (a:IV) (b:List IV→Hp→OH) (c:Hp) (d e:IV):OH :=
 BC EE 3 a (.fv (.int .i64 1)) fun f=>b [d,e,f] c
def TF (a:Hp) (c b:IV) (d:Aa) (e:IV) (f:List IV→Hp→OH) (g:IV):OH :=
 Af c a fun h _=>A7 3 h b fun i=>Aj 3 i a fun j _=>Al [] false false d 18 [j] a fun k l _ _=>BC EE 3 e k fun m=>Sg b f l g m
def SE (e a b:IV) (c:Hp) (f:Aa) (d:IV) (g:List IV→Hp→OH):OH :=
 BP e fun h=>GV EE 3 a h fun i=>Am i (Ac 2 b fun j=>TF c j a f d g b) (An [d] c)
def X5 (c:List IV) (a:Hp) (d:Aa) (e:List IV→Hp→OH):OH :=
 Aw c fun b f=>Aw f fun g h=>Aw h fun i _=>Ac 2 b fun j=>Af j a fun k _=>SE k i b a d g e
def S18 (a:Aa) (n:Nat) (b:IV) (c:Hp):OH :=
 A4 18874368 b c fun d e _ _=>BE n (fun f g h=>X5 g h a f) [d,.fv (.int .i64 1),.fv (.int .i64 0)] e
theorem An4 (a:Aa) (n:Nat) (b:IV) (c:Hp):Az EE a ft.get n 18 [b] c=S18 a n b c:=by kernel_rfl
def Yt (d:IV) (e f:Hp) (a b:IV) (g:List IV→Hp→OH):OH :=
 BC EE 3 d (.fv (.int .i64 1)) fun c=>Bg (e.own.map (·.1)) [20977674] [a,b,c] f fun h=>g [a,b,c] h
def XN (a:Aa) (b:Hp) (c d:IV) (e:IV→Hp→OH):OH :=
 Al [] false false a 22 [c,.fv (.int .i64 0),d] b fun f g _ _=>e f g
def Xk (d e:AF) (f:IV→Hp→OH) (g:IV) (a:Hp) (h:IV) (i:Aa) (b:IV):OH :=
 Ad [] d e ((fun (c:IV→Hp→OH)=>Am g (Aj 3 h a fun j _=>XN i a b j c) (c b a)) fun k l=>f k l)
def WR (a:IV) (c:Hp) (d e f g h:AF) (i:IV→Hp→OH) (j:Aa) (k:IV):OH :=
 AQ 0 a fun l=>AQ 1 a fun m=>AH 20977674 (.row [.fv (.int .i64 0),.fv (.int .i64 0),.nils] false) (.ptr (.own 20977674) 0) c fun b n o p=>Ad [(d,e),(f,[]),(g,h)] o p (Ak 3 b l n fun q r s=>Xk r s i m q b j k)
def WK (i j:IV) (a:Hp) (b c:AF) (d:Aa) (e k:IV) (l:IV→Hp→OH):OH :=
 A7 3 i j fun m=>Aj 3 m a fun n f=>Ad [(b,c)] f [] (Al [] false false d 23 [e,k,n,.fv (.int .i64 2)] a fun o p g h=>Ad [] g h (WR o p g h f b c l d e))
def WU (a:Aa) (c:Hp) (b d:IV) (e:IV→Hp→OH):OH :=
 Al [] false false a 21 [b,d,.fv (.int .i64 2)] c fun f g _ _=>Al [] false false a 22 [b,.fv (.int .i64 1),f] g fun h i _ _=>e h i
def Xs (i:IV) (a:Aa) (b:Hp) (c d e:IV) (f:IV→Hp→OH):OH :=
 Am i (Al [] false false a 24 [.fv (.int .i64 14),.nils] b fun j k g h=>Ad [] g h (WK c d k g h a e j f)) (A7 3 c d fun l=>Aj 3 l b fun m _=>WU a b e m f)
def Xv (a b:IV) (c:Hp) (d:Aa) (e:IV) (f:IV→Hp→OH):OH :=
 A7 3 a b fun g=>Ac 1 g fun h=>Af h c fun i _=>Al [] false false d 43 [i,.fv (.int .i64 3)] c fun j k _ _=>A5 EE 3 j (.fv (.int .i64 0)) fun l=>Xs l d k a b e f
def XK (c:Hp) (a b:IV) (h:Hp) (d:IV) (i:List IV→Hp→OH) (j:Aa) (e:IV):OH :=
 Ab a true c (fun k=>k b c [] []) fun l f _ _=>Ab a true f (fun m=>GV EE 3 l (.fv (.int .i64 4)) fun n=>m n f [] []) fun o g _ _=>AG a o (.fv (.bool false)) fun p=>Am p ((fun (q:IV→Hp→OH)=>Xv d b g j e q) fun r s=>Yt b h s d r i) (An [e] g)
def Af2 (c:List IV) (d e:Hp) (f:List IV→Hp→OH) (g:Aa):OH :=
 Aw c fun a h=>Aw h fun i j=>Aw j fun b _=>BP a fun k=>GV EE 3 b k fun l=>XK d l b e a f g i
def S20 (c:Aa) (n:Nat) (b:IV) (a:Hp):OH :=
 Bg (a.own.map (·.1)) [20977674] [b,.nils,.fv (.int .i64 0)] a fun d=>BE n (fun e f g=>Af2 f g a e c) [b,.nils,.fv (.int .i64 0)] d
theorem Apf (a:Aa) (n:Nat) (b:IV) (c:Hp):Az EE a ft.get n 20 [b] c=S20 a n b c:=by kernel_rfl
def Acg (a:Hp) (b:IV):OH :=
 AA true 3 b a fun c=>An [c] a
def AaK (c:Aa) (d:Hp) (a:IV):OH :=
 Al [] false false c 24 [.fv (.int .i64 14),.nils] d fun e f _ _=>Ak 3 a e f fun b _ _=>AA true 3 a b fun g=>An [g] b
def Z8 (c:Hp) (d:IV) (e:Aa) (a:IV):OH :=
 Ay (Ah EE 29 1 [(0,d)]) 22031362 c fun f g _ _=>Al [] false false e 24 [.fv (.int .i64 18),f] g fun h i _ _=>Ak 3 a h i fun b _ _=>AA true 3 a b fun j=>An [j] b
def AbS (c:Aa) (d:Hp) (a:IV):OH :=
 Al [] false false c 45 [.fv (.int .i64 0)] d fun e f _ _=>Ak 3 a e f fun b _ _=>AA true 3 a b fun g=>An [g] b
def Aet (c d:AF) (e:Hp) (a f:IV):OH :=
 Ad [] c d (Ak 3 a f e fun b g h=>Ad [] g h (AA true 3 a b fun i=>An [i] b))
def AeD (a:Aa) (b:Hp) (c d e:IV) (f:AF) (g h:IV):OH :=
 Al [] false false a 21 [c,d,e] b fun i j k l=>Ad [(f,[])] k l (Ay (Ah EE 29 2 [(0,g),(1,i)]) 22037513 j fun m n o p=>Ad [] o p (Al [] false false a 24 [.fv (.int .i64 3),m] n fun q r s t=>Aet s t r h q))
def AcK (b:Hp) (d:IV) (e f g a:AF) (c:Aa) (h i j k:IV):OH :=
 Aj 3 d b fun l m=>Ad [(e,f),(g,[]),(a,[])] m [] (Al [] false false c 46 [l,.fv (.int .i64 1)] b fun n o p q=>Ad [(a,[])] p q (Be EE 3 h (.fv (.int .i64 1)) fun r=>AeD c o i n r a j k))
def AdN (a:AF) (b:Hp) (g:IV) (c:Aa) (h i j k l:IV):OH :=
 Ad [] a [] (Aj 3 g b fun m d=>Ad [(a,[])] d [] (Al [] false false c 22 [h,.fv (.int .i64 1),m] b fun n o e f=>Ad [(a,[])] e f (AcK o i e f d a c j n k l)))
def AdA (b:IV) (c:Aa) (f:Hp) (d g h i:IV):OH :=
 Be EE 3 b (.fv (.int .i64 1)) fun j=>Al [] false false c 21 [d,g,j] f fun k l _ _=>AH 22036486 (.row [.fv (.int .i64 0),.fv (.int .i64 0),.nils] false) (.ptr (.own 22036486) 0) l fun a m _ _=>Ak 3 a k m fun e _ _=>Aj 3 a e fun n o=>AdN o e a c d h b n i
def Ab5 (a:Hp) (b:IV):OH :=
 AA true 3 b a fun c=>An [c] a
def ZU (b c:AF) (d:Aa) (e:Hp) (f a:IV):OH :=
 Ad [] b c (Al [] false false d 24 [.fv (.int .i64 6),f] e fun g h i j=>Ad [] i j (Ak 3 a g h fun k l m=>Ad [] l m (Ab5 k a)))
def Abs (c d a:AF) (e:IV) (b:Aa) (f:Hp) (g h i j:IV):OH :=
 Ad [(a,[])] c d (Be EE 3 e (.fv (.int .i64 1)) fun k=>Al [] false false b 21 [g,h,k] f fun l m n o=>Ad [(a,[])] n o (Ay (Ah EE 29 2 [(0,i),(1,l)]) 22040585 m fun p q r s=>ZU r s b q p j))
def Aaj (a:Aa) (f:Hp) (g h:IV) (b:AF) (i:IV) (j:AF) (k l m:IV):OH :=
 Al [] false false a 22 [g,.fv (.int .i64 1),h] f fun n c d e=>Ad [(b,[])] d e (Aj 3 i c fun o p=>Ad [(d,e),(j,[]),(b,[])] p [] (Al [] false false a 46 [o,.fv (.int .i64 1)] c fun q r s t=>Abs s t b k a r n q l m))
def Aea (e:Hp) (a f:IV) (g:Aa) (h i j k:IV):OH :=
 Ak 3 a f e fun b _ _=>Aj 3 a b fun l c=>Ad [] c [] (Aj 3 a b fun m d=>Ad [(c,[])] d [] (Aaj g b h m c i d j l k))
def Acq (b:Hp) (c:IV) (a:Aa) (d e f:IV):OH :=
 Aj 3 c b fun g _=>Al [] false false a 46 [g,.fv (.int .i64 0)] b fun h i _ _=>Be EE 3 d (.fv (.int .i64 1)) fun j=>Al [] false false a 21 [e,h,j] i fun k l _ _=>AH 22039558 (.row [.fv (.int .i64 0),.fv (.int .i64 0),.nils] false) (.ptr (.own 22039558) 0) l fun m n _ _=>Aea n m k a e c d f
def ZM (a:Hp) (b:IV):OH :=
 AA true 3 b a fun c=>An [c] a
def ZX (c:Aa) (d:Hp) (e a:IV):OH :=
 Al [] false false c 24 [.fv (.int .i64 18),e] d fun f g _ _=>Ak 3 a f g fun b _ _=>AA true 3 a b fun h=>An [h] b
def YX (d:IV) (c:Aa) (a:Hp) (b e:IV):OH :=
 CO (L9 .not d) fun f=>Am f (Al [] false false c 44 [] a fun g h _ _=>Ak 3 b g h fun i _ _=>ZM i b) (Aj 3 e a fun j _=>Ay (Ah EE 29 1 [(0,j)]) 22044673 a fun k l _ _=>ZX c l k b)
def ZI (b:IV) (c:Hp) (d e f g h i j:AF) (k:IV) (l:Aa) (m:IV):OH :=
 AQ 1 b fun n=>AH 22041610 (.row [.fv (.int .i64 0),.fv (.int .i64 0),.nils] false) (.ptr (.own 22041610) 0) c fun a o p q=>Ad [(d,e),(f,g),(h,[]),(i,j)] p q (Ak 3 a k o fun r s t=>Ad [] s t (YX n l r m a))
def Adg (a b:AF) (g:IV) (c:Aa) (h:Hp) (i j k:IV) (l m n:AF) (o:IV):OH :=
 Ad [] a b (Be EE 3 g (.fv (.int .i64 1)) fun p=>Al [] false false c 23 [i,j,k,p] h fun d q e f=>Ad [] e f (AQ 0 d fun r=>ZI d q e f a b l m n r c o))
def Adb (a:Aa) (f:Hp) (g h i j:IV):OH :=
 Al [] false false a 24 [.fv (.int .i64 14),.nils] f fun k d b c=>Ad [] b c (Aj 3 g d fun l e=>Ad [(b,c)] e [] (Al [] false false a 46 [l,.fv (.int .i64 0)] d fun m n o p=>Adg o p h a n i k m e b c j))
def AbM (g:IV) (a:Hp) (b:IV) (c:Aa) (d e f h:IV):OH :=
 Am g (Aj 3 b a fun i _=>Al [] false false c 46 [i,.fv (.int .i64 0)] a fun j k _ _=>AdA d c k e j b f) (A5 EE 3 h (.fv (.int .i64 7)) fun l=>Am l (Acq a b c d e f) (Adb c a b d e f))
def AbQ (e:IV) (f:Aa) (g h i a:IV) (b:Hp):OH :=
 (fun (c:IV→Hp→OH)=>A5 EE 3 a (.fv (.int .i64 5)) fun d=>Am d (c d b) (A5 EE 3 a (.fv (.int .i64 6)) fun j=>c j b)) fun k l=>AbM k l e f g h i a
def AbU (c:IV) (a:Hp) (e:IV) (b:Aa) (d f g:IV):OH :=
 A5 EE 3 c (.fv (.int .i64 3)) fun h=>Am h (Aj 3 e a fun i _=>Al [] false false b 34 [i,.fv (.int .i64 1)] a fun j k _ _=>Z8 k j b d) (A5 EE 3 c (.fv (.int .i64 4)) fun l=>Am l (AbS b a d) (AbQ e b f g d c a))
def Acp (e:IV) (b:Aa) (c:Hp) (a d f g h:IV):OH :=
 Am e (Al [] false false b 44 [] c fun i j _ _=>Ak 3 a i j fun k _ _=>Acg k a) (A5 EE 3 d (.fv (.int .i64 2)) fun l=>Am l (AaK b c a) (AbU d c f b a g h))
def Abn (e:Aa) (f a g h i:IV) (b:Hp):OH :=
 (fun (c:IV→Hp→OH)=>A5 EE 3 a (.fv (.int .i64 0)) fun d=>Am d (c d b) (A5 EE 3 a (.fv (.int .i64 1)) fun j=>c j b)) fun k l=>Acp k e l f a g h i
def Adp (a:IV) (b:IV→Hp→OH) (c:Hp):OH :=
 CX EE 3 .rem a (.fv (.int .i64 5)) fun d=>b d c
def Aan (g:IV) (c:Hp) (a:IV) (d:IV→Hp→OH):OH :=
 leS EE 3 g (.fv (.int .i64 0)) fun b=>Ab b true c (fun h=>h a c [] []) fun i e _ _=>Ab b true e (fun j=>Nb EE 3 i (.fv (.int .i64 4)) fun k=>j k e [] []) fun l f _ _=>AG b l (.fv (.bool false)) fun m=>Am m (Adp a d f) (d a f)
def S21 (a:Aa) (n:Nat) (e f b:IV) (g:Hp):OH :=
 A4 22020096 f g fun c h _ _=>AH 22020097 (.row [.fv (.int .i64 0),.fv (.int .i64 0),.nils] false) (.ptr (.own 22020097) 0) h fun i d _ _=>Ac 0 c fun j=>Af j d fun k _=>Al [] false false a 43 [k,.fv (.int .i64 9)] d fun l m _ _=>(fun (o:IV→Hp→OH)=>Aan b m l o) fun p q=>Abn a i p c b e q
theorem AoP (a:Aa) (n:Nat) (b c d:IV) (e:Hp):Az EE a ft.get n 21 [b,c,d] e=S21 a n b c d e:=by kernel_rfl
def Xp (a b:AF) (c:Hp) (d:IV):OH :=
 Ad [] a b (An [d] c)
def Yi (e a b c d:AF) (f g:IV) (h:Hp) (i:IV):OH :=
 Ad [(a,b),(c,d)] e [] (BA [.fv (.int .i64 0),.fv (.int .i64 0),.fv (.int .i64 0),.nils] [(0,1,f),(1,3,g)] fun j=>Ay (Ah EE 28 1 [(0,j)]) 23069702 h fun k l m n=>Ad [(a,b),(c,d)] m n (Ay (AY EE 23069703 false .append [28,28] [i,k]) 23069703 l fun o p q r=>Xp q r p o))
def S22 (r:Aa) (n:Nat) (f g h:IV) (i:Hp):OH :=
 A4 23068672 h i fun j k _ _=>Ay (Ah EE 28 0 []) 23069696 k fun l m a b=>Ad [] a b (Ay (AY EE 23069698 false .append [28,28] [l,f]) 23069698 m fun o c d e=>Ad [] d e (Aj 3 j c fun p q=>Yi q d e a b g p c o))
theorem ApT (a:Aa) (n:Nat) (b c d:IV) (e:Hp):Az EE a ft.get n 22 [b,c,d] e=S22 a n b c d e:=by kernel_rfl
def AeA (c:Hp) (a d:IV):OH :=
 Ak 3 a d c fun b _ _=>AA true 3 a b fun e=>An [e,.fv (.bool false)] b
def AdD (a:Hp) (b c:IV):OH :=
 AA true 3 b a fun d=>An [d,c] a
def Acr (c:Hp) (a d e:IV):OH :=
 Ak 3 a d c fun b _ _=>AA true 3 a b fun f=>An [f,e] b
def AcQ (a:Hp) (c d:IV) (e:Aa) (f g h:IV):OH :=
 Aj 3 c a fun i _=>Aj 3 d a fun j _=>Al [] false false e 48 [f,i,j,g] a fun b k _ _=>AQ 0 b fun l=>AQ 1 b fun m=>Acr k h l m
def AcF (d:Aa) (e:Hp) (f g h i a:IV):OH :=
 Al [] false false d 49 [f,g,h,i] e fun b j _ _=>AQ 0 b fun k=>AQ 1 b fun l=>Ak 3 a k j fun c _ _=>AA true 3 a c fun m=>An [m,l] c
def ZA (b c:AF) (a:Hp) (d e:IV):OH :=
 Ad [] b c (AA true 3 d a fun f=>An [f,e] a)
def Adn (b:Hp) (c d:IV) (e:Aa) (a f:IV):OH :=
 Ay (Ah EE 29 2 [(0,c),(1,d)]) 24133637 b fun g h i j=>Ad [] i j (Al [] false false e 24 [.fv (.int .i64 4),g] h fun k l m n=>Ad [] m n (Ak 3 a k l fun o p q=>ZA p q o a f))
def Abt (c:IV) (a:Hp) (d:IV) (e:AF) (f:Aa) (g h:IV):OH :=
 A7 3 c (.fv (.int .i64 0)) fun i=>Aj 3 i a fun j b=>Ad [] b [] (Aj 3 d a fun k l=>Ad [(b,[]),(e,[])] l [] (Adn a j k f g h))
def Zw (d:Hp) (a e f:IV) (g:Aa) (h i:IV):OH :=
 Ak 3 a e d fun b j k=>Ad [] j k (Ac 2 f fun l=>Af l b fun m c=>Ad [] c [] (Abt m b a c g h i))
def AaM (a b:AF) (c:IV) (d:Hp) (e f g h i j k l m:AF) (n:IV) (o:Aa) (p:IV):OH :=
 Ad [] a b (AQ 0 c fun q=>AQ 1 c fun r=>AH 24132626 (.row [.fv (.int .i64 0),.fv (.int .i64 0),.nils] false) (.ptr (.own 24132626) 0) d fun s t u v=>Ad [(a,b),(e,f),(g,[]),(h,[]),(i,[]),(j,k),(l,[]),(m,[])] u v (Zw t s q n o p r))
def Aad (d a b e f g h:AF) (c:Aa) (k:Hp) (l m n o p q:IV):OH :=
 Ad [(a,[]),(b,[]),(e,f),(g,[]),(h,[])] d [] (Al [] false false c 46 [l,.fv (.int .i64 0)] k fun r s i j=>Ad [(a,[]),(b,[])] i j (Be EE 3 m (.fv (.int .i64 1)) fun t=>Al [] false false c 23 [n,o,r,t] s fun u v w x=>AaM w x u v i j d a b e f g h p c q))
def Zo (f a b c d:AF) (h:IV) (e:Hp) (i:IV) (j:Aa) (k l m n:IV):OH :=
 Ad [(a,b),(c,[]),(d,[])] f [] (A7 3 h (.fv (.int .i64 1)) fun o=>Aj 3 o e fun p g=>Ad [(a,b),(c,[]),(d,[])] g [] (Aj 3 i e fun q r=>Aad r g f a b c d j e q k l p m n))
def Ack (a:AF) (b:Aa) (g:Hp) (h i c:IV) (j:AF) (k l m:IV):OH :=
 Ad [] a [] (Al [] false false b 22 [h,.fv (.int .i64 1),i] g fun n d e f=>Ad [] e f (Ac 2 c fun o=>Af o d fun p q=>Zo q e f a j p d k b l n c m))
def AcU (b:IV) (a:Hp) (d:Aa) (e f g h:IV):OH :=
 Ac 2 b fun i=>Af i a fun j c=>Ad [] c [] (A7 3 j (.fv (.int .i64 0)) fun k=>Aj 3 k a fun l m=>Ack m d a e l b c f g h)
def Zb (c:Hp) (a d e:IV):OH :=
 Ak 3 a d c fun b _ _=>AA true 3 a b fun f=>An [f,e] b
def Ab0 (c:Hp) (d e f:IV) (g:Aa) (a h:IV):OH :=
 Ay (Ah EE 29 3 [(0,d),(1,e),(2,f)]) 24139779 c fun i j _ _=>Al [] false false g 24 [.fv (.int .i64 7),i] j fun k l _ _=>Ak 3 a k l fun b _ _=>AA true 3 a b fun m=>An [m,h] b
def Abz (c:Hp) (b d e f:IV) (g:Aa) (h i:IV):OH :=
 Ak 3 b d c fun a j k=>Ad [] j k (Aj 3 e a fun l _=>Aj 3 f a fun m _=>Aj 3 b a fun n _=>Ab0 a l m n g h i)
def Ac9 (a b:AF) (c:IV) (d:Hp) (e f g h i j k l:AF) (m n:IV) (o:Aa) (p:IV):OH :=
 Ad [] a b (AQ 0 c fun q=>AQ 1 c fun r=>AH 24138767 (.row [.fv (.int .i64 0),.fv (.int .i64 0),.nils] false) (.ptr (.own 24138767) 0) d fun s t u v=>Ad [(a,b),(e,f),(g,[]),(h,i),(j,[]),(k,[]),(l,[])] u v (Abz t s q m n o p r))
def AaG (b c d e f g:AF) (a:Aa) (j:Hp) (k l m n o p q:IV):OH :=
 Ad [(c,d),(e,[]),(f,[]),(g,[])] b [] (Al [] false false a 46 [k,.fv (.int .i64 1)] j fun r s h i=>Ad [] h i (Be EE 3 l (.fv (.int .i64 1)) fun t=>Al [] false false a 23 [m,n,r,t] s fun u v w x=>Ac9 w x u v h i b c d e f g o p a q))
def AeL (a:Hp) (b:IV) (c d:AF) (e:Aa) (j k l m n o:IV):OH :=
 Aj 3 b a fun p f=>Ad [(c,[]),(d,[])] f [] (Al [] false false e 50 [j,.fv (.int .i64 0),p] a fun q g h i=>Ad [] h i (Aj 3 k g fun r s=>AaG s h i f c d e g r l m q n b o))
def Ads (a:Hp) (d e:IV) (f:Aa) (g h i j k:IV):OH :=
 Af d a fun l b=>Ad [] b [] (A7 3 l (.fv (.int .i64 1)) fun m=>Aj 3 m a fun n c=>Ad [] c [] (AeL a e c b f n g h i j k))
def Abv (e:Hp) (b f g h c i d:IV) (j:Aa) (k l m:IV):OH :=
 Ak 3 b f e fun a n o=>Ad [] n o (CO (L9 .not g) fun p=>Am p (Aj 3 h a fun q _=>Zb a c q i) (Ac 2 d fun r=>Ads a r b j k l m d c))
def AcV (a b:AF) (c:IV) (d:Hp) (e f g h i:AF) (j k l m:IV) (n:Aa) (o p q:IV):OH :=
 Ad [] a b (AQ 0 c fun r=>AQ 1 c fun s=>AH 24135693 (.row [.fv (.int .i64 0),.fv (.int .i64 0),.nils] false) (.ptr (.own 24135693) 0) d fun t u v w=>Ad [(a,b),(e,f),(g,[]),(h,[]),(i,[])] v w (Abv u t r s j k l m n o p q))
def ZZ (d a b:AF) (c:Aa) (i:Hp) (j e f k l m n o p:IV):OH :=
 Ad [(a,[]),(b,[])] d [] (Al [] false false c 46 [j,.fv (.int .i64 0)] i fun q r g h=>Ad [(a,[]),(b,[])] g h (Be EE 3 e (.fv (.int .i64 1)) fun s=>Al [] false false c 23 [f,k,q,s] r fun t u v w=>AcV v w t u g h d a b l m n o c p e f))
def AbG (b:AF) (e:IV) (a:Hp) (c:IV) (f:Aa) (g h i j k l:IV):OH :=
 Ad [] b [] (A7 3 e (.fv (.int .i64 0)) fun m=>Aj 3 m a fun n d=>Ad [] d [] (Aj 3 c a fun o p=>ZZ p d b f a o g h n i j k l c))
def Ac4 (c:Hp) (d:IV) (e:Aa) (a f:IV):OH :=
 Ay (Ah EE 29 1 [(0,d)]) 24142849 c fun g h _ _=>Al [] false false e 24 [.fv (.int .i64 19),g] h fun i j _ _=>Ak 3 a i j fun b _ _=>AA true 3 a b fun k=>An [k,f] b
def Ad0 (c:Hp) (d e f g h i j:AF) (k:IV) (l:Aa) (m n:IV):OH :=
 AH 24141837 (.row [.fv (.int .i64 0),.fv (.int .i64 0),.nils] false) (.ptr (.own 24141837) 0) c fun a o p q=>Ad [(d,e),(f,g),(h,[]),(i,[]),(j,[])] p q (Ak 3 a k o fun b r s=>Ad [] r s (Aj 3 a b fun t _=>Ac4 b t l m n))
def Aa0 (e:IV) (a:Aa) (f:Hp) (g h i:IV) (j k l m n:AF) (o:IV):OH :=
 Be EE 3 e (.fv (.int .i64 1)) fun p=>Al [] false false a 35 [g,h,i,p] f fun b q c d=>Ad [] c d (AQ 0 b fun r=>AQ 1 b fun s=>Ad0 q c d j k l m n r a o s)
def AaE (a:AF) (c:Hp) (h:IV) (b:AF) (d:Aa) (i j k l:IV):OH :=
 Ad [] a [] (Aj 3 h c fun m e=>Ad [(a,[]),(b,[])] e [] (Al [] false false d 46 [m,.fv (.int .i64 0)] c fun n o f g=>Ad [(a,[]),(b,[])] f g (Aa0 i d o j k n f g e a b l)))
def Ac5 (c:IV) (a:Hp) (d:IV) (e:Aa) (f g h:IV):OH :=
 Ac 2 c fun i=>Af i a fun j b=>Ad [] b [] (A7 3 j (.fv (.int .i64 0)) fun k=>Aj 3 k a fun l m=>AaE m a d b e f g l h)
def Zv (a:Hp) (d b e:IV):OH :=
 Aj 3 d a fun f _=>Ak 3 b f a fun c _ _=>AA true 3 b c fun g=>An [g,e] c
def Ad6 (d b:IV) (a:Hp) (e:IV) (f:Aa) (g h i c j:IV):OH :=
 A5 EE 3 d (.fv (.int .i64 6)) fun k=>Am k (Ac 2 b fun l=>Af l a fun m n=>AbG n m a e f g h i c j b) (A5 EE 3 d (.fv (.int .i64 18)) fun o=>Am o (Ac5 b a e f g h c) (Zv a i c j))
def Aev (i:IV) (a:Hp) (b c:IV) (d:Aa) (e f g h j k:IV):OH :=
 Am i (Aj 3 b a fun l _=>Aj 3 c a fun m _=>AcF d a e l m f g) (A5 EE 3 h (.fv (.int .i64 3)) fun n=>Am n (AcU b a d e c f g) (Ad6 h b a c d f e j g k))
def Acy (a:IV) (b:IV→Hp→OH) (c:Hp):OH :=
 A5 EE 3 a (.fv (.int .i64 14)) fun d=>Am d (b d c) (A5 EE 3 a (.fv (.int .i64 2)) fun e=>b e c)
def AbC (c:IV) (a:Hp) (f:IV) (g:Aa) (h i j k l:IV):OH :=
 Ac 0 c fun m=>Af m a fun b _=>(fun (d:IV→Hp→OH)=>A5 EE 3 b (.fv (.int .i64 10)) fun e=>Am e (d e a) (Acy b d a)) fun n o=>Aev n o c f g h i j b k l
def AbN (b:Hp) (a l:IV) (c:Aa) (d e f g h m n:IV):OH :=
 Ab a true b (fun o=>Af l b fun p q=>o p b q []) fun r i _ _=>Ab a true i (fun s=>Al [] false false c 43 [r,.fv (.int .i64 7)] i s) fun t j _ _=>Ab a true j (fun u=>A5 EE 3 t (.fv (.int .i64 6)) fun v=>u v j [] []) fun w k _ _=>AG a w (.fv (.bool false)) fun x=>Am x (AcQ k d e c f g h) (AbC d k e c f g h m n)
def AaB (h:IV) (a:Hp) (c b d e f:IV) (i:Aa) (j k:IV):OH :=
 Am h (Aj 3 c a fun l _=>Ak 3 b l a fun m _ _=>AdD m b d) (Nb EE 3 e (.fv (.int .i64 0)) fun g=>Ab g true a (fun n=>Ac 0 f fun o=>n o a [] []) fun p q _ _=>AbN q g p i j f k e b c d)
def Aag (c:Hp) (a g d h i j:IV) (k:Aa) (l m:IV):OH :=
 Ab a true c (fun n=>A5 EE 3 g (.fv (.int .i64 0)) fun o=>n o c [] []) fun p e _ _=>AG a p (.fv (.bool false)) fun b=>Ab b false e (fun q=>q d e [] []) fun r f _ _=>Ab b false f (fun s=>GV EE 3 r (.fv (.int .i64 (-4))) fun t=>s t f [] []) fun u v _ _=>AG b (.fv (.bool true)) u fun w=>AaB w v h i a d j k l m
def Y6 (h:Hp) (i a c:IV) (d:Aa) (j k l m:IV):OH :=
 AH 24121352 (.row [.fv (.int .i64 0),.fv (.int .i64 0),.nils] false) (.ptr (.own 24121352) 0) h fun e n _ _=>Ak 3 e i n fun f _ _=>Ab a true f (fun o=>Ac 0 c fun p=>o p f [] []) fun q b _ _=>Ab a true b (fun r=>Af q b fun s t=>r s b t []) fun u g _ _=>Ab a true g (fun v=>Al [] false false d 43 [u,.fv (.int .i64 3)] g v) fun w x _ _=>Aag x a w j e k c d l m
def Aa8 (a:IV) (b:Hp) (c:Aa) (d f g h i:IV):OH :=
 Ac 1 a fun j=>Af j b fun k _=>Al [] false false c 47 [d,.fv (.int .i64 1),f,k] b fun e l _ _=>AQ 0 e fun m=>AQ 1 e fun n=>Y6 l m n a c g h i d
def AaO (d:IV) (e:Hp) (a f c g:IV) (h:Aa) (i j:IV):OH :=
 AQ 1 d fun k=>Ak 3 a f e fun b _ _=>Hg EE 3 k (.fv (.int .i64 0)) fun l=>Am l (BA [.fv (.int .i64 0),.fv (.int .i64 0),.nils] [] fun m=>AeA b c m) (Aj 3 a b fun n _=>Aa8 g b h i n j c a)
def S23 (a:Aa) (n:Nat) (e f g h:IV) (i:Hp):OH :=
 A4 24117248 f i fun b j _ _=>A4 24117249 g j fun k l _ _=>AH 24117250 (.row [.fv (.int .i64 0),.fv (.int .i64 0),.nils] false) (.ptr (.own 24117250) 0) l fun m c _ _=>Aj 3 b c fun o _=>Al [] false false a 17 [o] c fun d p _ _=>AQ 0 d fun q=>AaO d p b q m k a e h
theorem AoZ (a:Aa) (n:Nat) (b c d e:IV) (f:Hp):Az EE a ft.get n 23 [b,c,d,e] f=S23 a n b c d e f:=by kernel_rfl
def S24 (i:Aa) (n:Nat) (c d:IV) (e:Hp):OH :=
 AH 25165824 (.row [.fv (.int .i64 0),.fv (.int .i64 0),.nils] false) (.ptr (.own 25165824) 0) e fun a f _ _=>BA [.fv (.int .i64 0),.fv (.int .i64 0),.nils] [(0,1,c),(2,1,d)] fun g=>Ak 3 a g f fun b _ _=>AA true 3 a b fun h=>An [h] b
theorem AnL (a:Aa) (n:Nat) (b c:IV) (d:Hp):Az EE a ft.get n 24 [b,c] d=S24 a n b c d:=by kernel_rfl
def GI (g:Hp) (h i j:IV) (k:Hp) (a b c d e:IV) (l:List IV→Hp→OH):OH :=
 BB h i g fun m n o=>Ad [] n o (BC EE 3 j (.fv (.int .i64 1)) fun f=>Bg (k.own.map (·.1)) [26221584] [a,b,c,d,e,f] m fun p=>l [a,b,c,d,e,f] p)
def Gv (b:Hp) (c:IV) (d:AF) (e a f:IV) (g:Hp) (h i j k:IV) (l:List IV→Hp→OH):OH :=
 Ay (Ah EE 29 1 [(0,c)]) 26221583 b fun m n o p=>Ad [(d,[])] o p (Ay (AY EE 26221584 false .append [29,29] [e,m]) 26221584 n fun q r s t=>Ad [] s t (Ac 2 a fun u=>GI r u q f g h i j k a l))
def Gz (b:Aa) (f:Hp) (g c:IV) (h i a:AF) (d j e k l:IV) (m:Hp) (n o:IV) (p:List IV→Hp→OH):OH :=
 Al [] false false b 51 [g,c] f fun q r s t=>Ad [(h,[]),(i,[]),(a,[])] s t (BC EE 3 d q fun u=>Al [] false false b 25 [j,e,u] r fun v w x y=>Ad [(a,[])] x y (Gv w v a k l c m e d n o p))
def Gw (a:Hp) (f:IV) (b:AF) (d:IV) (e:AF) (g:Aa) (h i j k l:IV) (m:Hp) (n:IV) (o:List IV→Hp→OH):OH :=
 Aj 3 f a fun p c=>Ad [(b,[])] c [] (Ac 0 d fun q=>Af q a fun r s=>Ad [(c,[]),(e,[]),(b,[])] s [] (Gz g a r h c e b i p j k l m d n o))
def Gs (a:AF) (b:IV) (c:Hp) (d:IV) (f:Aa) (g h i j:IV) (k:Hp) (l:IV) (m:List IV→Hp→OH):OH :=
 Ad [] a [] (Ac 2 b fun n=>Af n c fun o e=>Ad [(a,[])] e [] (A7 3 o d fun p=>Gw c p a b e f d g h i j k l m))
def GF (a:Hp) (b:IV):OH :=
 AA true 3 b a fun c=>An [c] a
def GO (d b:IV) (a:Hp) (e f:IV) (g:Aa) (h i:IV) (j:Hp) (c:IV) (k:List IV→Hp→OH):OH :=
 Am d (Ac 2 b fun l=>Af l a fun m n=>Gs n e a f g h i m b j c k) (Aj 3 b a fun o _=>Ak 3 c o a fun p _ _=>GF p c)
def Gn (d:List IV) (a:IV) (b:Hp) (e:IV) (f:Aa) (g h:IV) (i:Hp) (j:IV) (k:List IV→Hp→OH):OH :=
 Aw d fun c _=>Ac 2 a fun l=>Af l b fun m _=>BP m fun n=>GV EE 3 c n fun o=>GO o e b a c f g h i j k
def Jp (a:List IV) (b:Hp) (c:Aa) (d:Hp) (e:List IV→Hp→OH):OH :=
 Aw a fun f g=>Aw g fun h i=>Aw i fun j k=>Aw k fun l m=>Aw m fun n o=>Gn o j b n c h f d l e
def GD (a g:Hp) (b c d e f:IV) (n:Nat) (h:Aa):OH :=
 Bg (a.own.map (·.1)) [26221584] [b,c,d,e,f,.fv (.int .i64 0)] g fun i=>BE n (fun j k l=>Jp k l h a j) [b,c,d,e,f,.fv (.int .i64 0)] i
def Gm (a:Hp) (b c d:IV) (e:Hp→OH):OH :=
 Af b a fun f _=>BC EE 3 f c fun g=>Ac 1 d fun h=>BB h g a fun i _ _=>e i
def GB (a:Hp) (b e f g h i:IV) (c:Hp→OH):OH :=
 Ab b true a (fun j=>geS EE 3 e f fun k=>j k a [] []) fun l d _ _=>AG b l (.fv (.bool false)) fun m=>Am m (Ac 1 g fun n=>Gm d n h i c) (c d)
def Gt (b:Hp) (f d g h i:IV) (j:Hp→OH):OH :=
 Af f b fun k _=>A5 EE 3 k (.fv (.int .i64 1)) fun a=>Ab a true b (fun l=>Ac 1 d fun m=>l m b [] []) fun n c _ _=>Ab a true c (fun o=>Af n c fun p q=>o p c q []) fun r e _ _=>Ab a true e (fun s=>s g e [] []) fun t u _ _=>GB u a r t d h i j
def GE (e f:IV) (g h:Hp) (c d a i:IV) (n:Nat) (j:Aa):OH :=
 BA [.fv (.int .i64 0),.fv (.int .i64 0),.nils] [(0,1,e),(1,1,f)] fun k=>AH 26215429 (.row [.fv (.int .i64 0),.fv (.int .i64 0),.nils] false) (.ptr (.own 26215429) 0) g fun b l _ _=>Ak 3 b k l fun m _ _=>(fun (o:Hp→OH)=>Ac 0 a fun p=>Gt m p a d c b o) fun q=>GD h q c d a i b n j
def S25 (d:Aa) (n:Nat) (e f g:IV) (c:Hp):OH :=
 A4 26214400 e c fun a h _ _=>AH 26214401 (.row [.fv (.int .i64 0),.fv (.int .i64 0),.nils] false) (.ptr (.own 26214401) 0) h fun i b _ _=>Ac 0 a fun j=>Af j b fun k _=>Ac 1 a fun l=>Af l b fun m _=>GE k m b c f g a i n d
theorem AnV (a:Aa) (n:Nat) (b c d:IV) (e:Hp):Az EE a ft.get n 25 [b,c,d] e=S25 a n b c d e:=by kernel_rfl
def S26 (h:Aa) (n:Nat) (c:IV) (d:Hp):OH :=
 AH 27262976 (.row [.fv (.int .i64 0),.fv (.int .i64 0),.nils] false) (.ptr (.own 27262976) 0) d fun a e _ _=>BA [.fv (.int .i64 0),.fv (.int .i64 0),.nils] [(0,1,.fv (.int .i64 1)),(1,1,c)] fun f=>Ak 3 a f e fun b _ _=>AA true 3 a b fun g=>An [g] b
theorem Ao8 (a:Aa) (n:Nat) (b:IV) (c:Hp):Az EE a ft.get n 26 [b] c=S26 a n b c:=by kernel_rfl
def AiX (b:IV) (a:Hp):OH :=
 Ac 1 b fun c=>Af c a fun d _=>An [d] a
def S27 (c:Aa) (n:Nat) (d:IV) (e:Hp):OH :=
 A4 28311552 d e fun f g _ _=>BA [.fv (.int .i64 0),.fv (.int .i64 0)] [] fun h=>A4 28312577 h g fun a b _ _=>Aj 3 f b fun i _=>Al [true,false,false] false false c 52 [a,i,.fv (.int .i64 1)] b fun _ j _ _=>AE a fun k=>AiX k j
theorem AmQ (a:Aa) (n:Nat) (b:IV) (c:Hp):Az EE a ft.get n 27 [b] c=S27 a n b c:=by kernel_rfl
def TO (b:Aa) (c:Hp) (d a e:IV) (f:List IV→Hp→OH) (g h:IV):OH :=
 Al [] false false b 24 [.fv (.int .i64 12),d] c fun i j _ _=>Ak 3 a i j fun k _ _=>BC EE 3 e (.fv (.int .i64 1)) fun l=>f [g,h,a,l] k
def SX (a:Hp) (b:IV):OH :=
 AA true 3 b a fun c=>An [c] a
def Tw (d:IV) (a:Hp) (b:IV) (e:Aa) (f:IV) (g:List IV→Hp→OH) (h c:IV):OH :=
 Am d (Aj 3 b a fun i _=>Ay (Ah EE 29 1 [(0,i)]) 30413825 a fun j k _ _=>TO e k j b f g h c) (Aj 3 b a fun l _=>Ak 3 c l a fun m _ _=>SX m c)
def X2 (c:List IV) (d:Hp) (e:Aa) (f:List IV→Hp→OH):OH :=
 Aw c fun a g=>Aw g fun h i=>Aw i fun j k=>Aw k fun b _=>GV EE 3 b a fun l=>Tw l d j e b f a h
def S29 (a:Aa) (n:Nat) (c:IV) (d:Hp):OH :=
 AH 30408704 (.row [.fv (.int .i64 0),.fv (.int .i64 0),.nils] false) (.ptr (.own 30408704) 0) d fun e f _ _=>Al [] false false a 24 [.fv (.int .i64 11),.nils] f fun g h _ _=>AH 30409729 (.row [.fv (.int .i64 0),.fv (.int .i64 0),.nils] false) (.ptr (.own 30409729) 0) h fun b i _ _=>Ak 3 b g i fun j _ _=>BE n (fun k l m=>X2 l m a k) [c,e,b,.fv (.int .i64 0)] j
theorem ApZ (a:Aa) (n:Nat) (b:IV) (c:Hp):Az EE a ft.get n 29 [b] c=S29 a n b c:=by kernel_rfl
def PM (a b c:IV) (d:List IV→Hp→OH) (e:Hp) (f g:IV):OH :=
 BC EE 3 a b fun h=>BC EE 3 c (.fv (.int .i64 1)) fun i=>d [f,g,h,i] e
def Oy (a:Hp) (e b c d:IV) (f:Aa) (g:List IV→Hp→OH) (h:IV):OH :=
 Af e a fun i _=>A7 3 i b fun j=>Aj 3 j a fun k _=>Be EE 3 c d fun l=>Al [] false false f 33 [k,l] a fun m n _ _=>PM d m b g n c h
def P2 (a:Hp) (b f g c h i d:IV) (j:Aa) (k:List IV→Hp→OH):OH :=
 Ab b true a (fun l=>GV EE 3 f g fun m=>l m a [] []) fun n e _ _=>AG b n (.fv (.bool false)) fun o=>Am o (Ac 2 c fun p=>Oy e p h i d j k c) (An [d] e)
def Ox (a:Hp) (g c d e h:IV) (i:Aa) (j:List IV→Hp→OH):OH :=
 Af g a fun k _=>BP k fun l=>GV EE 3 c l fun b=>Ab b true a (fun m=>m d a [] []) fun n f _ _=>Ab b true f (fun o=>o e f [] []) fun p q _ _=>P2 q b n p h c e d i j
def UY (b:List IV) (c:Hp) (d:Aa) (e:List IV→Hp→OH):OH :=
 Aw b fun f g=>Aw g fun a h=>Aw h fun i j=>Aw j fun k _=>Ac 2 a fun l=>Ox c l k i f a d e
def S33 (a:Aa) (n:Nat) (b c:IV) (d:Hp):OH :=
 A4 34603008 b d fun e f _ _=>BE n (fun g h i=>UY h i a g) [c,e,.fv (.int .i64 1),.fv (.int .i64 0)] f
theorem AoS (a:Aa) (n:Nat) (b c:IV) (d:Hp):Az EE a ft.get n 33 [b,c] d=S33 a n b c d:=by kernel_rfl
def SR (c:Hp) (a d:IV):OH :=
 Ak 3 a d c fun b _ _=>AA true 3 a b fun e=>An [e] b
def T5 (b c:AF) (a:Hp) (d:IV):OH :=
 Ad [] b c (AA true 3 d a fun e=>An [e] a)
def Tf (b:Hp) (c d:IV) (e:Aa) (f a:IV):OH :=
 Ay (Ah EE 29 2 [(0,c),(1,d)]) 35655693 b fun g h i j=>Ad [] i j (Al [] false false e 24 [f,g] h fun k l m n=>Ad [] m n (Ak 3 a k l fun o p q=>T5 p q o a))
def Ue (a:Aa) (b:Hp) (c d e f g:IV):OH :=
 Al [] false false a 46 [c,.fv (.int .i64 1)] b fun h i j k=>Ad [] j k (Be EE 3 d (.fv (.int .i64 1)) fun l=>Al [] false false a 34 [h,l] i fun m n o p=>Ad [] o p (Tf n e m a f g))
def UA (a:IV) (b:Aa) (f:Hp) (g h:IV) (i j k:AF) (l m:IV):OH :=
 Be EE 3 a (.fv (.int .i64 1)) fun n=>Al [] false false b 34 [g,n] f fun o c d e=>Ad [] d e (Aj 3 h c fun p q=>Ad [(d,e),(i,j),(k,[])] q [] (Ue b c p a o l m))
def UE (g:IV) (a:Hp) (b:IV) (c:Aa) (h i:IV):OH :=
 Be EE 3 g (.fv (.int .i64 2)) fun j=>Aj 3 b a fun k d=>Ad [] d [] (Al [] false false c 46 [k,.fv (.int .i64 0)] a fun l m e f=>Ad [] e f (UA h c m l b e f d j i))
def Rq (b:Hp) (a c:IV) (d:Aa) (e h i:IV):OH :=
 Ab a false b (fun j=>j c b [] []) fun k f _ _=>Ab a false f (fun l=>GV EE 3 k (.fv (.int .i64 2)) fun m=>l m f [] []) fun n g _ _=>AG a (.fv (.bool true)) n fun o=>Am o (Al [] false false d 24 [.fv (.int .i64 15),.nils] g fun p q _ _=>SR q e p) (BC EE 3 (.fv (.int .i64 16)) c fun r=>UE r g h d i e)
def S34 (a:Aa) (n:Nat) (e b:IV) (f:Hp):OH :=
 A4 35651584 e f fun c g _ _=>AH 35651585 (.row [.fv (.int .i64 0),.fv (.int .i64 0),.nils] false) (.ptr (.own 35651585) 0) g fun h d _ _=>Ac 1 c fun i=>Af i d fun j _=>Al [] false false a 43 [j,.fv (.int .i64 4)] d fun k l _ _=>leS EE 3 b (.fv (.int .i64 0)) fun m=>Rq l m k a h c b
theorem ApN (a:Aa) (n:Nat) (b c:IV) (d:Hp):Az EE a ft.get n 34 [b,c] d=S34 a n b c d:=by kernel_rfl
def AcR (c:Hp) (a d:IV):OH :=
 Ak 3 a d c fun b _ _=>AA true 3 a b fun e=>An [e,.fv (.bool false)] b
def YK (a:Hp) (b c:IV):OH :=
 AA true 3 b a fun d=>An [d,c] a
def YA (c:Hp) (a d e:IV):OH :=
 Ak 3 a d c fun b _ _=>AA true 3 a b fun f=>An [f,e] b
def AaP (a:Hp) (c d:IV) (e:Aa) (f g h:IV):OH :=
 Aj 3 c a fun i _=>Aj 3 d a fun j _=>Al [] false false e 53 [f,i,j,g] a fun b k _ _=>AQ 0 b fun l=>AQ 1 b fun m=>YA k h l m
def Ad4 (a:Hp) (b e c f:IV):OH :=
 Ab b true a (fun g=>g e a [] []) fun h i _ _=>AG b h (.fv (.bool false)) fun j=>Ak 3 c f i fun d k l=>Ad [] k l (AA true 3 c d fun m=>An [m,j] d)
def ZE (a:Hp) (e:IV) (f b c d:AF) (g h i j k:IV):OH :=
 Aj 3 e a fun l m=>Ad [(f,[]),(b,c),(d,[])] m [] (Ay (Ah EE 29 2 [(0,g),(1,l)]) 36714501 a fun n o p q=>Ad [(b,c),(d,[])] p q (BA [.fv (.int .i64 0),.fv (.int .i64 0),.nils] [(0,1,.fv (.int .i64 26)),(1,1,h),(2,1,n)] fun r=>Ad4 o i j k r))
def ZS (a:AF) (f:Aa) (g:Hp) (h i j k l m:IV):OH :=
 Ad [] a [] (Al [] false false f 43 [h,.fv (.int .i64 5)] g fun n d b c=>Ad [] b c (Aj 3 i d fun o e=>Ad [(b,c),(a,[])] e [] (ZE d j e b c a o n k l m)))
def AcS (c d e f g h i j:AF) (k:Hp) (a l m:IV) (n:Aa) (o p q r:IV):OH :=
 Ad [(e,f),(g,h),(i,[]),(j,[])] c d (Ak 3 a l k fun b s t=>Ad [] s t (Ac 1 m fun u=>Af u b fun v w=>ZS w n b v o a p q r))
def AcX (a:Aa) (e:Hp) (f g h i:IV) (j k l m:AF) (n o p q:IV):OH :=
 Al [] false false a 35 [f,g,h,i] e fun b r c d=>Ad [] c d (AQ 0 b fun s=>AQ 1 b fun t=>AH 36713482 (.row [.fv (.int .i64 0),.fv (.int .i64 0),.nils] false) (.ptr (.own 36713482) 0) r fun u v w x=>AcS w x c d j k l m v u s n a o p t q)
def AbW (b:Hp) (c:IV) (a:AF) (d:Aa) (h i j k l m:IV):OH :=
 Aj 3 c b fun n e=>Ad [(a,[])] e [] (Al [] false false d 46 [n,.fv (.int .i64 1)] b fun o p f g=>Ad [(a,[])] f g (Be EE 3 h (.fv (.int .i64 1)) fun q=>AcX d p i j o q f g e a c k l m))
def Aby (d e f g h i j k:AF) (l:Hp) (a m n o:IV) (p:Aa) (q r s t:IV):OH :=
 Ad [(f,g),(h,i),(j,[]),(k,[])] d e (Ak 3 a m l fun b u v=>Ad [] u v (Aj 3 n b fun w c=>Ad [] c [] (AbW b o c p q r w a s t)))
def AbV (a:Aa) (f:Hp) (b g h i:IV) (j k l m:AF) (n o p q:IV):OH :=
 Al [] false false a 35 [b,g,h,i] f fun c r d e=>Ad [] d e (AQ 0 c fun s=>AQ 1 c fun t=>AH 36712458 (.row [.fv (.int .i64 0),.fv (.int .i64 0),.nils] false) (.ptr (.own 36712458) 0) r fun u v w x=>Aby w x d e j k l m v u s n o a p b t q)
def ZC (b:Hp) (c:IV) (a:AF) (d:Aa) (e i j k l:IV):OH :=
 Aj 3 c b fun m f=>Ad [(a,[])] f [] (Al [] false false d 46 [m,.fv (.int .i64 0)] b fun n o g h=>Ad [(a,[])] g h (Be EE 3 e (.fv (.int .i64 1)) fun p=>AbV d o i j n p g h f a k c e l))
def Ze (a:Aa) (d:Hp) (e b:IV):OH :=
 Al [] false false a 43 [e,.fv (.int .i64 20)] d fun f g _ _=>Be EE 3 f (.fv (.int .i64 5)) fun h=>Al [] false false a 36 [h] g fun i j _ _=>Ak 3 b i j fun c _ _=>AA true 3 b c fun k=>An [k,.fv (.bool true)] c
def Abk (g:IV) (a:Hp) (b c:IV) (d:Aa) (h i e:IV):OH :=
 Am g (Aj 3 b a fun j f=>Ad [] f [] (ZC a c f d h i j b e)) (Ac 1 c fun k=>Af k a fun l _=>Ze d a l e)
def YI (c:Hp) (a d:IV) (e:Aa) (h i j k:IV):OH :=
 Ab a true c (fun l=>Ac 0 d fun m=>l m c [] []) fun n b _ _=>Ab a true b (fun o=>Af n b fun p q=>o p b q []) fun r f _ _=>Ab a true f (fun s=>Al [] false false e 43 [r,.fv (.int .i64 2)] f s) fun t g _ _=>Ab a true g (fun u=>A5 EE 3 t (.fv (.int .i64 1)) fun v=>u v g [] []) fun w x _ _=>AG a w (.fv (.bool false)) fun y=>Abk y x h d e i j k
def Aeq (b c:AF) (a:Hp) (d e:IV):OH :=
 Ad [] b c (AA true 3 d a fun f=>An [f,e] a)
def Ad8 (b:Hp) (c d:IV) (e:Aa) (a f:IV):OH :=
 Ay (Ah EE 29 2 [(0,c),(1,d)]) 36718597 b fun g h i j=>Ad [] i j (Al [] false false e 24 [.fv (.int .i64 20),g] h fun k l m n=>Ad [] m n (Ak 3 a k l fun o p q=>Aeq p q o a f))
def AdP (c:IV) (a:Hp) (d:IV) (e:AF) (f:Aa) (g h:IV):OH :=
 A7 3 c (.fv (.int .i64 0)) fun i=>Aj 3 i a fun j b=>Ad [] b [] (Aj 3 d a fun k l=>Ad [(b,[]),(e,[])] l [] (Ad8 a j k f g h))
def Acn (d:Hp) (a e f:IV) (g:Aa) (h i:IV):OH :=
 Ak 3 a e d fun b j k=>Ad [] j k (Ac 2 f fun l=>Af l b fun m c=>Ad [] c [] (AdP m b a c g h i))
def YN (a b:AF) (c:IV) (d:Hp) (e f g h i j k l m n o:AF) (p:IV) (q:Aa) (r:IV):OH :=
 Ad [] a b (AQ 0 c fun s=>AQ 1 c fun t=>AH 36717587 (.row [.fv (.int .i64 0),.fv (.int .i64 0),.nils] false) (.ptr (.own 36717587) 0) d fun u v w x=>Ad [(a,b),(e,f),(g,[]),(h,i),(j,[]),(k,[]),(l,m),(n,[]),(o,[])] w x (Acn v u s p q r t))
def Z5 (b c d e f g h i j:AF) (a:Aa) (m:Hp) (n o p q r s:IV):OH :=
 Ad [(c,d),(e,[]),(f,[]),(g,h),(i,[]),(j,[])] b [] (Al [] false false a 46 [n,.fv (.int .i64 0)] m fun t u k l=>Ad [] k l (Be EE 3 o (.fv (.int .i64 1)) fun v=>Al [] false false a 35 [p,q,t,v] u fun w x y z=>YN y z w x k l b c d e f g h i j r a s))
def Adm (a:Hp) (k:IV) (b c d e:AF) (f:Aa) (l:IV) (m:AF) (n o p q:IV):OH :=
 Aj 3 k a fun r g=>Ad [(b,c),(d,[]),(e,[])] g [] (Al [] false false f 25 [r,.fv (.int .i64 1),.fv (.int .i64 0)] a fun s h i j=>Ad [] i j (Aj 3 l h fun t u=>Z5 u i j g m b c d e f h t n o s p q))
def Zr (a b:AF) (c:IV) (d:Hp) (e f:AF) (h:Aa) (i j k l:IV):OH :=
 Ad [] a b (Ac 2 c fun m=>Af m d fun n g=>Ad [(a,b),(e,[]),(f,[])] g [] (A7 3 n (.fv (.int .i64 1)) fun o=>Adm d o a b e f h i g j k c l))
def Zl (a:AF) (e:IV) (b:Hp) (c:Aa) (f g h i j:IV):OH :=
 Ad [] a [] (A7 3 e (.fv (.int .i64 0)) fun k=>Aj 3 k b fun l d=>Ad [] d [] (Al [] false false c 22 [f,.fv (.int .i64 0),l] b fun m n o p=>Zr o p g n d a c h i m j))
def AeO (a:Hp) (b c:IV):OH :=
 AA true 3 b a fun d=>An [d,c] a
def Aaw (d:Hp) (e f:IV) (g:Aa) (a h b:IV):OH :=
 Ay (Ah EE 29 2 [(0,e),(1,f)]) 36722690 d fun i j _ _=>Al [] false false g 24 [.fv (.int .i64 22),i] j fun k c _ _=>Ab a true c (fun l=>l h c [] []) fun m n _ _=>AG a m (.fv (.bool false)) fun o=>Ak 3 b k n fun p _ _=>AeO p b o
def AaN (c d e f g h i j k:AF) (l:Hp) (b m n:IV) (o:Aa) (p q r:IV):OH :=
 Ad [(e,f),(g,h),(i,[]),(j,[]),(k,[])] c d (Ak 3 b m l fun a s t=>Ad [] s t (Aj 3 n a fun u _=>Aj 3 b a fun v _=>Aaw a u v o p q r))
def Acv (a:Aa) (e:Hp) (f g h i:IV) (j k l m n:AF) (o p q:IV):OH :=
 Al [] false false a 35 [f,g,h,i] e fun b r c d=>Ad [] c d (AQ 0 b fun s=>AQ 1 b fun t=>AH 36721677 (.row [.fv (.int .i64 0),.fv (.int .i64 0),.nils] false) (.ptr (.own 36721677) 0) r fun u v w x=>AaN w x c d j k l m n v u s o a p t q)
def Aar (c:Hp) (h:IV) (a b:AF) (d:Aa) (i j k l m n:IV):OH :=
 Aj 3 h c fun o e=>Ad [(a,[]),(b,[])] e [] (Al [] false false d 46 [o,.fv (.int .i64 1)] c fun p q f g=>Ad [(a,[]),(b,[])] f g (Be EE 3 i (.fv (.int .i64 1)) fun r=>Acv d q j k p r f g e a b l m n))
def AdW (a:Hp) (d e:IV) (f:Aa) (g h i j k:IV):OH :=
 Af d a fun l b=>Ad [] b [] (A7 3 l (.fv (.int .i64 1)) fun m=>Aj 3 m a fun n c=>Ad [] c [] (Aar a e c b f g h n i j k))
def AcD (b:Hp) (c d e f g h i:AF) (j k l:IV) (m:Aa) (n o p q:IV):OH :=
 AH 36720653 (.row [.fv (.int .i64 0),.fv (.int .i64 0),.nils] false) (.ptr (.own 36720653) 0) b fun a r s t=>Ad [(c,d),(e,f),(g,[]),(h,[]),(i,[])] s t (Ak 3 a j r fun u v w=>Ad [] v w (Ac 2 k fun x=>AdW u x l m n o a p q))
def YT (a:IV) (b:Aa) (g:Hp) (c h i:IV) (j k l m n:AF) (o p q:IV):OH :=
 Be EE 3 a (.fv (.int .i64 1)) fun r=>Al [] false false b 35 [c,h,i,r] g fun d s e f=>Ad [] e f (AQ 0 d fun t=>AQ 1 d fun u=>AcD s e f j k l m n t o p b a c u q)
def Aeb (a:AF) (c:Hp) (d:IV) (b:AF) (e:Aa) (i j k l m:IV):OH :=
 Ad [] a [] (Aj 3 d c fun n f=>Ad [(a,[]),(b,[])] f [] (Al [] false false e 46 [n,.fv (.int .i64 0)] c fun o p g h=>Ad [(a,[]),(b,[])] g h (YT i e p j k o g h f a b l d m)))
def AcM (b:IV) (a:Hp) (d:IV) (e:Aa) (f g h:IV):OH :=
 Ac 2 b fun i=>Af i a fun j c=>Ad [] c [] (A7 3 j (.fv (.int .i64 0)) fun k=>Aj 3 k a fun l m=>Aeb m a d c e f g l b h)
def Adw (a:Hp) (d b e:IV):OH :=
 Aj 3 d a fun f _=>Ak 3 b f a fun c _ _=>AA true 3 b c fun g=>An [g,e] c
def AaQ (h b:IV) (a:Hp) (d:Aa) (e f g c i j k:IV):OH :=
 Am h (Ac 2 b fun l=>Af l a fun m n=>Zl n m a d e b f g c) (A5 EE 3 i (.fv (.int .i64 17)) fun o=>Am o (AcM b a f d g e c) (Adw a j c k))
def Y9 (a:IV) (b:Hp) (c e:IV) (f:Aa) (g h i j:IV):OH :=
 Ac 0 a fun k=>Af k b fun d _=>A5 EE 3 d (.fv (.int .i64 15)) fun l=>Am l (Nb EE 3 c (.fv (.int .i64 0)) fun m=>YI b m e f a c g h) (A5 EE 3 d (.fv (.int .i64 16)) fun n=>AaQ n a b f g e c h d i j)
def Z2 (b:Hp) (a l:IV) (c:Aa) (d e f g h m n:IV):OH :=
 Ab a true b (fun o=>Af l b fun p q=>o p b q []) fun r i _ _=>Ab a true i (fun s=>Al [] false false c 43 [r,.fv (.int .i64 3)] i s) fun t j _ _=>Ab a true j (fun u=>A5 EE 3 t (.fv (.int .i64 1)) fun v=>u v j [] []) fun w k _ _=>AG a w (.fv (.bool false)) fun x=>Am x (AaP k d e c f g h) (Y9 d k g e c f h m n)
def Z6 (h:IV) (a:Hp) (c b d e f:IV) (i:Aa) (j k:IV):OH :=
 Am h (Aj 3 c a fun l _=>Ak 3 b l a fun m _ _=>YK m b d) (Nb EE 3 e (.fv (.int .i64 0)) fun g=>Ab g true a (fun n=>Ac 0 f fun o=>n o a [] []) fun p q _ _=>Z2 q g p i j f k e b c d)
def Y3 (c:Hp) (a g d h i j:IV) (k:Aa) (l m:IV):OH :=
 Ab a true c (fun n=>A5 EE 3 g (.fv (.int .i64 0)) fun o=>n o c [] []) fun p e _ _=>AG a p (.fv (.bool false)) fun b=>Ab b false e (fun q=>q d e [] []) fun r f _ _=>Ab b false f (fun s=>GV EE 3 r (.fv (.int .i64 (-4))) fun t=>s t f [] []) fun u v _ _=>AG b (.fv (.bool true)) u fun w=>Z6 w v h i a d j k l m
def YD (h:Hp) (i a c:IV) (d:Aa) (j k l m:IV):OH :=
 AH 36704264 (.row [.fv (.int .i64 0),.fv (.int .i64 0),.nils] false) (.ptr (.own 36704264) 0) h fun e n _ _=>Ak 3 e i n fun f _ _=>Ab a true f (fun o=>Ac 0 c fun p=>o p f [] []) fun q b _ _=>Ab a true b (fun r=>Af q b fun s t=>r s b t []) fun u g _ _=>Ab a true g (fun v=>Al [] false false d 43 [u,.fv (.int .i64 3)] g v) fun w x _ _=>Y3 x a w j e k c d l m
def Zg (a:IV) (b:Hp) (c:Aa) (d f g h i:IV):OH :=
 Ac 1 a fun j=>Af j b fun k _=>Al [] false false c 47 [d,.fv (.int .i64 0),f,k] b fun e l _ _=>AQ 0 e fun m=>AQ 1 e fun n=>YD l m n a c g h i d
def Aeu (d:IV) (e:Hp) (a f c g:IV) (h:Aa) (i j:IV):OH :=
 AQ 1 d fun k=>Ak 3 a f e fun b _ _=>Hg EE 3 k (.fv (.int .i64 0)) fun l=>Am l (BA [.fv (.int .i64 0),.fv (.int .i64 0),.nils] [] fun m=>AcR b c m) (Aj 3 a b fun n _=>Zg g b h i n j c a)
def S35 (a:Aa) (n:Nat) (e f g h:IV) (i:Hp):OH :=
 A4 36700160 f i fun b j _ _=>A4 36700161 g j fun k l _ _=>AH 36700162 (.row [.fv (.int .i64 0),.fv (.int .i64 0),.nils] false) (.ptr (.own 36700162) 0) l fun m c _ _=>Aj 3 b c fun o _=>Al [] false false a 17 [o] c fun d p _ _=>AQ 0 d fun q=>Aeu d p b q m k a e h
theorem Aoj (a:Aa) (n:Nat) (b c d e:IV) (f:Hp):Az EE a ft.get n 35 [b,c,d,e] f=S35 a n b c d e f:=by kernel_rfl
def S36 (h:Aa) (n:Nat) (c:IV) (d:Hp):OH :=
 AH 37748736 (.row [.fv (.int .i64 0),.fv (.int .i64 0),.nils] false) (.ptr (.own 37748736) 0) d fun a e _ _=>BA [.fv (.int .i64 0),.fv (.int .i64 0),.nils] [(0,1,.fv (.int .i64 25)),(1,1,c)] fun f=>Ak 3 a f e fun b _ _=>AA true 3 a b fun g=>An [g] b
theorem AoU (a:Aa) (n:Nat) (b:IV) (c:Hp):Az EE a ft.get n 36 [b] c=S36 a n b c:=by kernel_rfl
def GP (a:IV) (b:List IV→Hp→OH) (c:Hp) (d e:IV):OH :=
 BC EE 3 a (.fv (.int .i64 1)) fun f=>b [d,e,f] c
def Gq (b c d:AF) (e:Aa) (f:Hp) (g h i:IV) (j:List IV→Hp→OH) (k l:IV):OH :=
 Ad [(c,[]),(d,[])] b [] (Al [] false false e 37 [g,h] f fun m a n o=>Ad [] n o (CO (L9 .not m) fun p=>Am p (An [.fv (.bool false)] a) (GP i j a k l)))
def GL (b:IV) (a:Hp) (c d:AF) (e:IV) (f:Aa) (g:IV) (h:List IV→Hp→OH) (i:IV):OH :=
 Ac 2 b fun j=>Af j a fun k l=>Ad [(c,[]),(d,[])] l [] (A7 3 k e fun m=>Aj 3 m a fun n o=>Gq o c d f a g n e h i b)
def Gu (a:Hp) (e b f:IV) (g:Aa) (h:List IV→Hp→OH) (i:IV):OH :=
 Af e a fun j c=>Ad [] c [] (A7 3 j b fun k=>Aj 3 k a fun l d=>Ad [] d [] (GL f a d c b g l h i))
def GJ (d a b:IV) (c:Hp) (e:IV) (f:Aa) (g:List IV→Hp→OH):OH :=
 BP d fun h=>GV EE 3 a h fun i=>Am i (Ac 2 b fun j=>Gu c j a e f g b) (An [.fv (.bool true)] c)
def NY (c:List IV) (a:Hp) (d:Aa) (e:List IV→Hp→OH):OH :=
 Aw c fun b f=>Aw f fun g h=>Aw h fun i _=>Ac 2 b fun j=>Af j a fun k _=>GJ k i b a g d e
def Gx (b:IV) (a:Hp) (n:Nat) (c d:IV) (e:Aa):OH :=
 Am b (An [.fv (.bool false)] a) (BE n (fun f g h=>NY g h e f) [c,d,.fv (.int .i64 0)] a)
def Gp (c:Hp) (a d g:IV) (n:Nat) (h:IV) (i:Aa):OH :=
 Ab a false c (fun j=>Ac 2 d fun k=>j k c [] []) fun l b _ _=>Ab a false b (fun m=>Af l b fun o p=>m o b p []) fun q e _ _=>Ab a false e (fun r=>BP q fun s=>r s e [] []) fun t f _ _=>Ab a false f (fun u=>Hg EE 3 g t fun v=>u v f [] []) fun w x _ _=>AG a (.fv (.bool true)) w fun y=>Gx y x n h d i
def GM (c:Hp) (d h i e j:IV) (n:Nat) (k:Aa):OH :=
 Ab d false c (fun l=>Hg EE 3 h i fun m=>l m c [] []) fun o f _ _=>AG d (.fv (.bool true)) o fun a=>Ab a false f (fun p=>Ac 2 e fun q=>p q f [] []) fun r b _ _=>Ab a false b (fun s=>Af r b fun t u=>s t b u []) fun v g _ _=>Ab a false g (fun w=>BP v fun x=>w x g [] []) fun y z _ _=>Gp z a j y n e k
def Gj (h i:IV) (d:Hp) (e f:IV) (n:Nat) (j:Aa):OH :=
 Hg EE 3 h i fun a=>Ab a false d (fun k=>Ac 1 e fun l=>k l d [] []) fun m b _ _=>Ab a false b (fun o=>Af m b fun p q=>o p b q []) fun r g _ _=>Ab a false g (fun s=>Ac 1 f fun t=>s t g [] []) fun u c _ _=>Ab a false c (fun v=>Af u c fun w x=>v w c x []) fun y z _ _=>GM z a r y e f n j
def S37 (d:Aa) (n:Nat) (e f:IV) (g:Hp):OH :=
 A4 38797312 e g fun b h _ _=>A4 38797313 f h fun c a _ _=>Ac 0 b fun i=>Af i a fun j _=>Ac 0 c fun k=>Af k a fun l _=>Gj j l a b c n d
theorem Aor (a:Aa) (n:Nat) (b c:IV) (d:Hp):Az EE a ft.get n 37 [b,c] d=S37 a n b c d:=by kernel_rfl
def SI (a:IV) (e:Hp) (f g:IV) (h:Hp) (b c:IV) (i:List IV→Hp→OH):OH :=
 Ac 2 a fun j=>BB j f e fun k _ _=>BC EE 3 g (.fv (.int .i64 1)) fun d=>Bg (h.own.map (·.1)) [39851014,39854084] [b,c,a,d] k fun l=>i [b,c,a,d] l
def TB (b:IV) (a:Hp) (c d:IV) (e:Hp) (f g:IV) (h:List IV→Hp→OH):OH :=
 Ac 2 b fun i=>Af i a fun j _=>Aj 3 c a fun k _=>Ay (Ah EE 29 1 [(0,k)]) 39854083 a fun l m _ _=>Ay (AY EE 39854084 false .append [29,29] [j,l]) 39854084 m fun n o _ _=>SI b o n d e f g h
def Rt (a:Hp) (b c:IV) (d:Hp→OH):OH :=
 Ak 3 b c a fun e _ _=>d e
def SJ (a:Hp) (b e f:IV) (g:Aa) (h:IV) (c:Hp→OH):OH :=
 Ab b true a (fun i=>AG e (.fv (.bool true)) f fun j=>i j a [] []) fun k d _ _=>AG b k (.fv (.bool false)) fun l=>Am l (Al [] false false g 24 [.fv (.int .i64 11),.nils] d fun m n _ _=>Rt n h m c) (c d)
def R7 (d:Hp) (b h i:IV) (j:Aa) (k:IV) (l:Hp→OH):OH :=
 Ab b true d (fun m=>A5 EE 3 h (.fv (.int .i64 4)) fun n=>m n d [] []) fun o e _ _=>Ab b true e (fun p=>p o e [] []) fun a f _ _=>Ab a false f (fun q=>Ac 0 i fun r=>q r f [] []) fun s c _ _=>Ab a false c (fun t=>Af s c fun u v=>t u c v []) fun w g _ _=>Ab a false g (fun x=>A5 EE 3 w (.fv (.int .i64 7)) fun y=>x y g [] []) fun z A _ _=>SJ A b a z j k l
def UN (g:Hp) (a h i e:IV) (j:Hp) (b k:IV) (l:List IV→Hp→OH) (m:Aa):OH :=
 Ak 3 a h g fun f _ _=>(fun (n:Hp→OH)=>A5 EE 3 e (.fv (.int .i64 0)) fun c=>Ab c true f (fun o=>Ac 0 b fun p=>o p f [] []) fun q d _ _=>Ab c true d (fun r=>Af q d fun s t=>r s d t []) fun u v _ _=>R7 v c u b m a n) fun w=>TB i w a e j b k l
def US (a:Hp) (d b:IV) (c:Aa) (e:IV) (f:Hp) (g h:IV) (i:List IV→Hp→OH):OH :=
 Af d a fun j _=>A7 3 j b fun k=>Aj 3 k a fun l _=>Al [] false false c 38 [l] a fun m n _ _=>AH 39851014 (.row [.fv (.int .i64 0),.fv (.int .i64 0),.nils] false) (.ptr (.own 39851014) 0) n fun o p _ _=>UN p o m e b f g h i c
def RU (c:Aa) (d:Hp) (e f a:IV):OH :=
 Al [] false false c 50 [e,.fv (.int .i64 0),f] d fun g h i j=>Ad [] i j (Ak 3 a g h fun b k l=>Ad [] k l (AA true 3 a b fun m=>An [m] b))
def TV (d:IV) (a:Hp) (b:Aa) (e f:AF) (g:IV):OH :=
 A7 3 d (.fv (.int .i64 0)) fun h=>Aj 3 h a fun i c=>Ad [] c [] (Al [] false false b 24 [.fv (.int .i64 11),.nils] a fun j k l m=>Ad [(c,[]),(e,[]),(f,[])] l m (RU b k i j g))
def TP (a:AF) (d:IV) (b:Hp) (e:Aa) (f:IV):OH :=
 Ad [] a [] (A7 3 d (.fv (.int .i64 1)) fun g=>Ac 2 g fun h=>Af h b fun i c=>Ad [] c [] (TV i b e c a f))
def Uj (a:Hp) (d b:IV):OH :=
 Aj 3 d a fun e _=>Ak 3 b e a fun c _ _=>AA true 3 b c fun f=>An [f] c
def SP (a:Hp) (b c:IV):OH :=
 Af b a fun d _=>A7 3 d (.fv (.int .i64 1)) fun e=>Ac 2 e fun f=>Af f a fun g _=>A7 3 g (.fv (.int .i64 0)) fun h=>Uj a h c
def UL (c:Hp) (a d:IV):OH :=
 Ak 3 a d c fun b _ _=>AA true 3 a b fun e=>An [e] b
def UP (b:Hp) (c:IV) (f:Aa) (g h d e:IV):OH :=
 Ab c true b (fun i=>Al [] false false f 37 [g,h] b i) fun j a k l=>Ad [] k l (AG c j (.fv (.bool false)) fun m=>Am m (Ac 2 d fun n=>SP a n e) (Aj 3 d a fun o _=>UL a e o))
def Ta (b:Hp) (a k:IV) (d e f g h i:AF) (l:Aa) (m n o:IV):OH :=
 Ab a true b (fun p=>Af k b fun q r=>p q b r []) fun s j t u=>Ad [(d,e),(f,g),(h,i)] t u (Ab a true j (fun v=>A7 3 s (.fv (.int .i64 0)) fun w=>v w j [] []) fun x c _ _=>Ab a true c (fun y=>Aj 3 x c fun z A=>y z c A []) fun B C D E=>Ad [(d,e),(f,g),(h,i)] D E (UP C a l m B n o))
def U9 (c:Hp) (a d:IV) (e f g h i j:AF) (m:Aa) (n o:IV):OH :=
 Ab a true c (fun p=>Ac 2 d fun q=>p q c [] []) fun r b _ _=>Ab a true b (fun s=>Af r b fun t u=>s t b u []) fun v k w x=>Ad [(e,f),(g,h),(i,j)] w x (Ab a true k (fun y=>A7 3 v (.fv (.int .i64 2)) fun z=>y z k [] []) fun A l _ _=>Ab a true l (fun B=>Ac 2 A fun C=>B C l [] []) fun D E _ _=>Ta E a D e f g h i j m n d o)
def U5 (b:Hp) (a i j:IV) (k l:AF) (m:Aa) (n:IV):OH :=
 Ab a true b (fun o=>Af i b fun p q=>o p b q []) fun r d e f=>Ad [] e f (Ab a true d (fun s=>A7 3 r (.fv (.int .i64 0)) fun t=>s t d [] []) fun u c _ _=>Ab a true c (fun v=>Aj 3 u c fun w x=>v w c x []) fun y z g h=>Ad [] g h (U9 z a j g h e f k l m y n))
def Ua (c:Hp) (a d:IV) (i:Aa) (j:IV):OH :=
 Ab a true c (fun k=>Ac 2 d fun l=>k l c [] []) fun m b _ _=>Ab a true b (fun n=>Af m b fun o p=>n o b p []) fun q e f g=>Ad [] f g (Ab a true e (fun r=>A7 3 q (.fv (.int .i64 1)) fun s=>r s e [] []) fun t h _ _=>Ab a true h (fun u=>Ac 2 t fun v=>u v h [] []) fun w x _ _=>U5 x a w d f g i j)
def RL (c:Hp) (a e f:IV) (g:Aa) (h:IV):OH :=
 Ab a true c (fun i=>Ac 0 e fun j=>i j c [] []) fun k b _ _=>Ab a true b (fun l=>Af k b fun m n=>l m b n []) fun o d p q=>Ad [] p q (Ab a true d (fun r=>A5 EE 3 o (.fv (.int .i64 9)) fun s=>r s d [] []) fun t u _ _=>AG a t (.fv (.bool false)) fun v=>Ua u v f g h)
def TJ (f g:IV) (c:Hp) (d:IV) (h:Aa) (i:IV):OH :=
 AG f g (.fv (.bool false)) fun a=>Ab a true c (fun j=>Ac 2 d fun k=>j k c [] []) fun l b _ _=>Ab a true b (fun m=>Af l b fun n o=>m n b o []) fun p e q r=>Ad [] q r (Ab a true e (fun s=>A7 3 p (.fv (.int .i64 2)) fun t=>s t e [] []) fun u v _ _=>RL v a u d h i)
def Tk (c:Hp) (a f g:IV) (h:Aa) (i:IV):OH :=
 Ab a true c (fun j=>A7 3 f (.fv (.int .i64 1)) fun k=>j k c [] []) fun l d _ _=>Ab a true d (fun m=>Ac 0 l fun n=>m n d [] []) fun o b _ _=>Ab a true b (fun p=>Af o b fun q r=>p q b r []) fun s e t u=>Ad [] t u (Ab a true e (fun v=>A5 EE 3 s (.fv (.int .i64 8)) fun w=>v w e [] []) fun x y _ _=>TJ a x y g h i)
def UZ (e:AF) (f:IV) (c:Hp) (d:IV) (g:Aa) (h:IV):OH :=
 Ad [] e [] (A5 EE 3 f (.fv (.int .i64 7)) fun a=>Ab a true c (fun i=>Ac 2 d fun j=>i j c [] []) fun k b _ _=>Ab a true b (fun l=>Af k b fun m n=>l m b n []) fun o p q r=>Ad [] q r (Tk p a o d g h))
def TL (e f b:IV) (a:Hp) (c:Aa) (d g:IV):OH :=
 AG e f (.fv (.bool false)) fun h=>Am h (Ac 2 b fun i=>Af i a fun j k=>TP k j a c d) (Ac 0 g fun l=>Af l a fun m n=>UZ n m a b c d)
def Uo (b:Hp) (a f:IV) (c:Aa) (g h i:IV):OH :=
 Ab a true b (fun j=>Aj 3 f b fun k l=>j k b l []) fun m d n o=>Ad [] n o (Ab a true d (fun p=>Al [] false false c 54 [m,.fv (.int .i64 0)] d p) fun q e r s=>Ad [] r s (Ab a true e (fun t=>CO (L9 .not q) fun u=>t u e [] []) fun v w _ _=>TL a v g w c h i))
def Rm (c:Hp) (a f:IV) (g:Aa) (h i j:IV):OH :=
 Ab a true c (fun k=>A7 3 f (.fv (.int .i64 1)) fun l=>k l c [] []) fun m d _ _=>Ab a true d (fun n=>Ac 2 m fun o=>n o d [] []) fun p b _ _=>Ab a true b (fun q=>Af p b fun r s=>q r b s []) fun t e u v=>Ad [] u v (Ab a true e (fun w=>A7 3 t (.fv (.int .i64 0)) fun x=>w x e [] []) fun y z _ _=>Uo z a y g h i j)
def TX (e f:AF) (g h:IV) (c:Hp) (d:IV) (i:Aa) (j k:IV):OH :=
 Ad [] e f (AG g h (.fv (.bool false)) fun a=>Ab a true c (fun l=>Ac 2 d fun m=>l m c [] []) fun n b _ _=>Ab a true b (fun o=>Af n b fun p q=>o p b q []) fun r s t u=>Ad [] t u (Rm s a r i d j k))
def TY (b:Hp) (a h:IV) (c:Aa) (i j k l:AF) (m n o:IV):OH :=
 Ab a true b (fun p=>Aj 3 h b fun q r=>p q b r []) fun s d e f=>Ad [] e f (Ab a true d (fun t=>Al [] false false c 26 [.fv (.int .i64 0)] d t) fun u g v w=>Ad [(e,f),(i,j),(k,l)] v w (Ab a true g (fun x=>Al [] false false c 37 [s,u] g x) fun y z A B=>TX A B a y z m c n o))
def Tj (c:Hp) (a h:IV) (i:Aa) (j k:AF) (l m n:IV):OH :=
 Ab a true c (fun o=>A7 3 h (.fv (.int .i64 1)) fun p=>o p c [] []) fun q d _ _=>Ab a true d (fun r=>Ac 2 q fun s=>r s d [] []) fun t b _ _=>Ab a true b (fun u=>Af t b fun v w=>u v b w []) fun x e f g=>Ad [] f g (Ab a true e (fun y=>A7 3 x (.fv (.int .i64 1)) fun z=>y z e [] []) fun A B _ _=>TY B a A i f g j k l m n)
def R3 (c:Hp) (d i e:IV) (j:Aa) (k l:IV):OH :=
 Ab d true c (fun m=>A5 EE 3 i (.fv (.int .i64 5)) fun n=>m n c [] []) fun o f _ _=>AG d o (.fv (.bool false)) fun a=>Ab a true f (fun p=>Ac 2 e fun q=>p q f [] []) fun r b _ _=>Ab a true b (fun s=>Af r b fun t u=>s t b u []) fun v w g h=>Ad [] g h (Tj w a v j g h e k l)
def SU (e f:AF) (c:Hp) (a g h:IV) (i:Aa) (j k:IV):OH :=
 Ad [] e f (Ab a true c (fun l=>A7 3 g (.fv (.int .i64 1)) fun m=>l m c [] []) fun n d _ _=>Ab a true d (fun o=>Ac 0 n fun p=>o p d [] []) fun q b _ _=>Ab a true b (fun r=>Af q b fun s t=>r s b t []) fun u v w x=>Ad [] w x (R3 v a u h i j k))
def Uk (a:Hp) (e d:IV) (f:Aa) (g h:IV):OH :=
 Af e a fun i j=>Ad [] j [] (A5 EE 3 i (.fv (.int .i64 4)) fun b=>Ab b true a (fun k=>Ac 2 d fun l=>k l a [] []) fun m c _ _=>Ab b true c (fun n=>Af m c fun o p=>n o c p []) fun q r s t=>SU s t r b q d f g h)
def Sb (b:Hp) (g c a:IV) (d:Aa) (e:IV) (h:Hp) (f:IV) (i:List IV→Hp→OH):OH :=
 Af g b fun j _=>BP j fun k=>GV EE 3 c k fun l=>Am l (Ac 2 a fun m=>US b m c d e h a f i) (Ac 0 a fun n=>Uk b n e d f a)
def Jr (b:List IV) (c:Hp) (d:Aa) (e:Hp) (f:List IV→Hp→OH):OH :=
 Aw b fun a g=>Aw g fun h i=>Aw i fun j k=>Aw k fun l _=>Ac 2 a fun m=>Sb c m l a d j e h f
def Ry (e f:IV) (g b:Hp) (c d:IV) (n:Nat) (h:Aa):OH :=
 BA [.fv (.int .i64 0),.fv (.int .i64 0),.nils] [(0,1,e),(1,1,f)] fun i=>AH 39846917 (.row [.fv (.int .i64 0),.fv (.int .i64 0),.nils] false) (.ptr (.own 39846917) 0) g fun a j _ _=>Ak 3 a i j fun k _ _=>Bg (b.own.map (·.1)) [39851014,39854084] [c,d,a,.fv (.int .i64 0)] k fun l=>BE n (fun m o p=>Jr o p h b m) [c,d,a,.fv (.int .i64 0)] l
def S38 (d:Aa) (n:Nat) (e:IV) (c:Hp):OH :=
 A4 39845888 e c fun a f _ _=>AH 39845889 (.row [.fv (.int .i64 0),.fv (.int .i64 0),.nils] false) (.ptr (.own 39845889) 0) f fun g b _ _=>Ac 0 a fun h=>Af h b fun i _=>Ac 1 a fun j=>Af j b fun k _=>Ry i k b c a g n d
theorem AoE (a:Aa) (n:Nat) (b:IV) (c:Hp):Az EE a ft.get n 38 [b] c=S38 a n b c:=by kernel_rfl
def Ah8 (c:Hp) (a d:IV):OH :=
 Ak 4 a d c fun b _ _=>AA true 4 a b fun e=>An [e] b
def Agu (c:Aa) (d:Hp) (e a:IV):OH :=
 Al [] false false c 56 [e] d fun f g _ _=>BA [.fv (.int .i64 0),.fv (.int .i64 0),.nils,.fv (.int .i64 0)] [(0,3,f)] fun h=>Ak 4 a h g fun b _ _=>AA true 4 a b fun i=>An [i] b
def Ag1 (e:Hp) (f b c:IV) (g:Aa):OH :=
 AH 40895493 (.row [.fv (.int .i64 0),.fv (.int .i64 0),.nils] false) (.ptr (.own 40895493) 0) e fun d h _ _=>Ak 3 d f h fun a _ _=>Hg EE 37 b (.fv (.int .i64 0)) fun i=>Am i (BA [.fv (.int .i64 0),.fv (.int .i64 0),.nils,.fv (.int .i64 0)] [(3,1,b)] fun j=>Ah8 a c j) (Aj 3 d a fun k _=>Agu g a k c)
def S39 (a:Aa) (n:Nat) (d:IV) (e:Hp):OH :=
 A4 40894464 d e fun f g _ _=>AH 40894465 (.row [.fv (.int .i64 0),.fv (.int .i64 0),.nils,.fv (.int .i64 0)] false) (.ptr (.own 40894465) 0) g fun h b _ _=>Aj 3 f b fun i _=>Al [] false false a 55 [i] b fun c j _ _=>AQ 0 c fun k=>AQ 1 c fun l=>Ag1 j k l h a
theorem AnH (a:Aa) (n:Nat) (b:IV) (c:Hp):Az EE a ft.get n 39 [b] c=S39 a n b c:=by kernel_rfl
def Agy (a:Aa) (b:Hp) (c d:IV):OH :=
 Al [] false false a 57 [c,d] b fun e f _ _=>An [e] f
def S40 (b:Aa) (n:Nat) (c d:IV) (e:Hp):OH :=
 A4 41943040 c e fun f g _ _=>A4 41943041 d g fun h a _ _=>Ac 0 f fun i=>Aj 3 i a fun j _=>Ac 0 h fun k=>Aj 3 k a fun l _=>Agy b a j l
theorem Am7 (a:Aa) (n:Nat) (b c:IV) (d:Hp):Az EE a ft.get n 40 [b,c] d=S40 a n b c d:=by kernel_rfl
def EL (c:Hp) (a:IV):OH :=
 BA [.fv (.int .i64 0),.fv (.int .i64 0),.nils] [] fun d=>Ak 3 a d c fun b _ _=>AA true 3 a b fun e=>An [e] b
def EY (c:Aa) (d:Hp) (e a:IV):OH :=
 Al [] false false c 26 [e] d fun f g _ _=>Ak 3 a f g fun b _ _=>AA true 3 a b fun h=>An [h] b
def ED (b c:IV) (a:Hp) (d:Aa) (e:IV):OH :=
 Be EE 3 b (.fv (.int .i64 1)) fun f=>AE c fun g=>Ac 1 g fun h=>Af h a fun i _=>Be EE 3 f i fun j=>EY d a j e
def EJ (h i:Hp) (a b c d e f g:IV) (j:List IV→Hp→OH):OH :=
 Bg (h.own.map (·.1)) [43011077,43013131] [a,b,c,d,e,f,g] i fun k=>j [a,b,c,d,e,f,g] k
def EV (b c:AF) (a:IV) (d:Hp) (e f:IV) (g:Hp) (h i j k l:IV) (m:List IV→Hp→OH):OH :=
 Ad [] b c (Ac 2 a fun n=>BB n e d fun o p q=>Ad [] p q (BC EE 3 f (.fv (.int .i64 1)) fun r=>EJ g o h i j k l a r m))
def E7 (c:Aa) (d:Hp) (a e f g:IV) (b:AF) (h i j:IV) (k:Hp) (l m n o:IV) (p:List IV→Hp→OH):OH :=
 Al [true,false,false,false] false false c 41 [a,e,f,g] d fun q r s t=>Ad [(b,[])] s t (Ay (Ah EE 29 1 [(0,q)]) 43013130 r fun u v w x=>Ad [(b,[])] w x (Ay (AY EE 43013131 false .append [29,29] [h,u]) 43013131 v fun y z A B=>EV A B i z y j k a l m n o p))
def Hy (a:IV) (b:Hp) (c f d:IV) (g:Aa) (h i j:IV) (k:Hp) (l m:IV) (n:List IV→Hp→OH):OH :=
 Ac 2 a fun o=>Af o b fun p e=>Ad [] e [] (BC EE 3 c f fun q=>BC EE 3 d (.fv (.int .i64 1)) fun r=>E7 g b h i q r e p a j k l c d m n)
def ES (l m:Hp) (a b c d e f g h i j k:IV) (n:List IV→Hp→OH):OH :=
 Bg (l.own.map (·.1)) [43011077] [a,b,c,d,e,f,g,h,i,j,k] m fun o=>n [a,b,c,d,e,f,g,h,i,j,k] o
def EU (b:IV) (c:Hp) (d:Aa) (e f:IV) (g:Hp) (h i j k l m n o p:IV) (q:List IV→Hp→OH):OH :=
 BA [.fv (.int .i64 0),.fv (.int .i64 0),.nils,.nils,.fv (.int .i64 0),.fv (.int .i64 0),.nils] [(0,1,.fv (.int .i64 1)),(1,1,b)] fun a=>fzS (K3 true 43011077 a) 43011077 a c fun r s _ _=>Ay (Ah EE 87 1 [(0,r)]) 43011078 s fun t u _ _=>Al [] false false d 58 [e,t] u fun v w _ _=>BC EE 3 f (.fv (.int .i64 1)) fun x=>ES g w h i j k l m n o p v x q
def EX (c:IV) (a:Hp) (d:Aa) (b e:IV) (f:IV→IV→IV→IV→IV→IV→IV→IV→IV→Hp→OH) (g h i j k l m:IV):OH :=
 Ac 4 c fun n=>Aj 3 n a fun o _=>Al [true,false,false] false false d 42 [b,o,e] a fun p q _ _=>f b g h i j k l m p q
def EK (n:List IV) (a b:IV) (d:Hp) (e:Aa) (f:IV) (o:Hp) (g h i j k l m:IV) (p:List IV→Hp→OH) (q:IV→IV→IV→IV→IV→IV→IV→IV→IV→Hp→OH):OH :=
 Aw n fun c _=>GV EE 3 c a fun r=>Am r (BC EE 3 b c fun s=>EU s d e f c o g h b i j k l a m p) (AE m fun t=>EX t d e g f q h b i j k l a)
def E3 (a:List IV) (b:IV) (c:Hp) (d:Aa) (e:Hp) (f g h i:IV) (j:List IV→Hp→OH) (k:IV→IV→IV→IV→IV→IV→IV→IV→IV→Hp→OH):OH :=
 Aw a fun l m=>Aw m fun n o=>Aw o fun p q=>Aw q fun r s=>Aw s fun t u=>EK u p b c d t e f g h i l n r j k
def Hx (a:List IV) (b:Hp) (c:Aa) (d:Hp) (e:List IV→Hp→OH) (f:IV→IV→IV→IV→IV→IV→IV→IV→IV→Hp→OH):OH :=
 Aw a fun g h=>Aw h fun i j=>Aw j fun k l=>Aw l fun m n=>Aw n fun o p=>E3 p k b c d g i m o e f
def EP (a:Hp) (m:IV) (b:Hp) (c d e f g h i j k:IV) (n:Nat) (o:Aa) (p:IV→IV→IV→IV→IV→IV→IV→IV→IV→Hp→OH):OH :=
 Af m a fun l _=>Bg (b.own.map (·.1)) [43011077] [c,d,e,f,g,h,i,j,k,l,.fv (.int .i64 0)] a fun q=>BE n (fun r s t=>Hx s t o b r p) [c,d,e,f,g,h,i,j,k,l,.fv (.int .i64 0)] q
def EM (l a:IV) (b m:Hp) (c d e f g h i j:IV) (n:Nat) (o:Aa) (k:IV→IV→IV→IV→IV→IV→IV→IV→IV→Hp→OH):OH :=
 Am l (AE a fun p=>Ac 3 p fun q=>EP b q m c d e f g h i j a n o k) (k c d e f g h i j a b)
def ER (a:Hp) (f b:IV) (c:Aa) (d:Hp) (g:List IV→Hp→OH) (e h i j k l m:IV) (n:Nat):OH :=
 Af f a fun o _=>A7 1 o b fun p=>Af p a fun q _=>(fun (r:IV→IV→IV→IV→IV→IV→IV→IV→IV→Hp→OH)=>Nb EE 3 e (.fv (.int .i64 0)) fun s=>EM s q a d h i j k l m b e n c r) fun t u v w x y z A B C=>Hy y C v A w c t B z d u x g
def EW (e:IV) (a:Hp) (b:Aa) (c d:IV) (f:Hp) (g:List IV→Hp→OH) (h i j k l:IV) (n:Nat):OH :=
 Ac 0 e fun m=>Af m a fun o _=>Al [] false false b 51 [o,c] a fun p q _ _=>AE d fun r=>Ac 2 r fun s=>ER q s c b f g p h d i j k l n
def ET (c:Hp) (a d:IV):OH :=
 Ak 3 a d c fun b _ _=>AA true 3 a b fun e=>An [e] b
def EN (f b c:IV) (a:Hp) (g:Aa) (h:Hp) (i:List IV→Hp→OH) (j k l d e:IV) (n:Nat):OH :=
 BP f fun m=>GV EE 3 b m fun o=>Am o (AE c fun p=>EW p a g b c h i j k l d e n) (Aj 3 e a fun q _=>ET a d q)
def Ez (c:List IV) (a:IV) (b:Hp) (d:Aa) (e:Hp) (f:List IV→Hp→OH) (g h i j:IV) (n:Nat):OH :=
 Aw c fun k l=>Aw l fun m _=>AE a fun o=>Ac 2 o fun p=>Af p b fun q _=>EN q m a b d e f g h i j k n
def Fu (a:List IV) (b:Hp) (c:Aa) (d:Hp) (e:List IV→Hp→OH) (n:Nat):OH :=
 Aw a fun f g=>Aw g fun h i=>Aw i fun j k=>Aw k fun l m=>Aw m fun o p=>Ez p h b c d e f j l o n
def EQ (h i j k:AF) (l:Hp) (a m:IV) (b:Hp) (c d e f g:IV) (n:Nat) (o:Aa):OH :=
 Ad [(j,[]),(k,[])] h i (Ak 3 a m l fun p q r=>Ad [] q r (Bg (b.own.map (·.1)) [43011077,43013131] [c,d,e,f,g,a,.fv (.int .i64 0)] p fun s=>BE n (fun t u v=>Fu u v o b t n) [c,d,e,f,g,a,.fv (.int .i64 0)] s))
def EA (d:IV) (a:Hp) (b:AF) (e:IV) (f:Hp) (g h i j k:IV) (n:Nat) (l:Aa):OH :=
 Ac 1 d fun m=>Af m a fun o c=>Ad [(b,[])] c [] (BA [.fv (.int .i64 0),.fv (.int .i64 0),.nils] [(0,1,e),(1,1,o)] fun p=>AH 42999817 (.row [.fv (.int .i64 0),.fv (.int .i64 0),.nils] false) (.ptr (.own 42999817) 0) a fun q r s t=>EQ s t c b r q p f g h i j k n l)
def E5 (a:IV) (b d:Hp) (e f g h:IV) (n:Nat) (i:Aa):OH :=
 AE a fun j=>Ac 0 j fun k=>Af k b fun l c=>Ad [] c [] (AE a fun m=>EA m b c l d e a f g h n i)
def E4 (a:IV) (b:Hp) (c:IV) (d:Aa) (e:IV) (f:Hp) (g h:IV) (n:Nat):OH :=
 AE a fun i=>Ac 0 i fun j=>Af j b fun k _=>A5 EE 3 k (.fv (.int .i64 1)) fun l=>Am l (ED c a b d e) (E5 a b f g c h e n d)
def EH (b:IV) (a:Hp) (c d e:IV) (f:Aa) (g:Hp) (h:IV) (n:Nat):OH :=
 AE b fun i=>Ac 2 i fun j=>Af j a fun k _=>Hg EE 3 k (.fv (.int .i64 0)) fun l=>Am l (EL a c) (E4 d a e f c g b h n)
def EI (a:IV) (b:Hp) (c:Hp→OH):OH :=
 Ac 2 a fun d=>BB d (.fv (.int .i64 5)) b fun e _ _=>c e
def EB (a:Hp) (b e f g:IV) (c:Hp→OH):OH :=
 Ab b true a (fun h=>AG e (.fv (.bool true)) f fun i=>h i a [] []) fun j d _ _=>AG b j (.fv (.bool false)) fun k=>Am k (AE g fun l=>EI l d c) (c d)
def E6 (b:Hp) (a h i j:IV) (k:Hp→OH):OH :=
 Ab a true b (fun l=>Af h b fun m n=>l m b n []) fun o d _ _=>Ab a true d (fun p=>Nb EE 3 o (.fv (.int .i64 3000)) fun q=>p q d [] []) fun r e _ _=>Ab a true e (fun s=>s r e [] []) fun c f _ _=>Ab c false f (fun t=>t i f [] []) fun u g _ _=>Ab c false g (fun v=>Nb EE 3 u (.fv (.int .i64 120)) fun w=>v w g [] []) fun x y _ _=>EB y a c x j k
def E0 (b:Hp) (f c g:IV) (h:Hp→OH):OH :=
 Af f b fun i _=>A5 EE 3 i (.fv (.int .i64 0)) fun a=>Ab a true b (fun j=>j c b [] []) fun k d _ _=>Ab a true d (fun l=>AE k fun m=>l m d [] []) fun n e _ _=>Ab a true e (fun o=>Ac 1 n fun p=>o p e [] []) fun q r _ _=>E6 r a q g c h
def EO (c:IV) (d:Hp) (e a f g h:IV) (i:Aa) (j:Hp) (b:IV) (n:Nat):OH :=
 Ac 1 c fun k=>BB k e d fun l _ _=>(fun (m:Hp→OH)=>AE a fun o=>Ac 2 o fun p=>E0 l p a b m) fun q=>EH a q f g h i j b n
def S41 (d:Aa) (n:Nat) (a e f g:IV) (b:Hp):OH :=
 AH 42991616 (.row [.fv (.int .i64 0),.fv (.int .i64 0),.nils] false) (.ptr (.own 42991616) 0) b fun h c _ _=>AE a fun i=>Ac 1 i fun j=>Af j c fun k _=>BC EE 3 k (.fv (.int .i64 1)) fun l=>AE a fun m=>EO m c l a h e f d b g n
theorem AmV (a:Aa) (n:Nat) (b c d e:IV) (f:Hp):Az EE a ft.get n 41 [b,c,d,e] f=S41 a n b c d e f:=by kernel_rfl
def I8 (a:Hp):OH :=
 BA [.fv (.int .i64 0),.fv (.int .i64 0),.nils,.nils,.fv (.int .i64 0),.fv (.int .i64 0),.nils] [(0,1,.fv (.int .i64 11))] fun b=>A4 44042241 b a fun c d _ _=>An [c] d
def IK (a:Hp) (b:IV):OH :=
 Af b a fun c _=>An [c] a
def Iv (b c:IV) (a:Hp) (d:IV):OH :=
 Be EE 3 b (.fv (.int .i64 1)) fun e=>Ac 1 c fun f=>Af f a fun g _=>Be EE 3 e g fun h=>A7 1 d h fun i=>IK a i
def IL (a:Hp) (b:IV):OH :=
 A4 44046343 b a fun c d _ _=>An [c] d
def Jn (b c:IV) (a:Hp):OH :=
 Be EE 3 b (.fv (.int .i64 1)) fun d=>Ac 1 c fun e=>Af e a fun f _=>Be EE 3 d f fun g=>BA [.fv (.int .i64 0),.fv (.int .i64 0),.nils,.nils,.fv (.int .i64 0),.fv (.int .i64 0),.nils] [(0,1,.fv (.int .i64 1)),(1,1,g)] fun h=>IL a h
def JH (b:Hp) (d a c:IV):OH :=
 Af d b fun e _=>BP a fun f=>GV EE 3 e f fun g=>Am g (BP a fun h=>Iv h c b a) (BP a fun i=>Jn i c b)
def IW (f:IV) (g h:Hp) (a b c d:IV) (i:List IV→Hp→OH):OH :=
 BC EE 3 f (.fv (.int .i64 1)) fun e=>Bg (g.own.map (·.1)) [44052492,44052494,44053518] [a,b,c,d,e] h fun j=>i [a,b,c,d,e] j
def Jl (a:IV) (b:Hp) (c:IV) (d:Hp→OH):OH :=
 AE a fun e=>Ac 2 e fun f=>BB f c b fun g h i=>Ad [] h i (d g)
def IF (b c a:AF) (d:Hp) (e f g:IV) (h:Hp→OH):OH :=
 Ad [(a,[])] b c (Ay (Ah EE 87 1 [(0,e)]) 44052493 d fun i j k l=>Ad [(a,[])] k l (Ay (AY EE 44052494 false .append [87,87] [f,i]) 44052494 j fun m n o p=>Ad [] o p (Jl g n m h)))
def Ip (c d:IV) (a:Hp) (b:AF) (e f g:IV) (h:Hp→OH):OH :=
 A7 3 c d fun i=>Aj 3 i a fun j k=>Ad [(b,[])] k [] (BA [.fv (.int .i64 0),.fv (.int .i64 0),.nils,.nils,.fv (.int .i64 0),.fv (.int .i64 0),.nils] [(3,1,e),(4,3,j)] fun l=>A4 44052492 l a fun m n o p=>IF o p b n m f g h)
def IN (a:Hp) (c d e f g:IV) (h:Hp→OH):OH :=
 Af c a fun i b=>Ad [] b [] (Ac 2 d fun j=>Af j a fun k l=>Ad [(b,[])] l [] (Ip k e a b f i g h))
def IG (a:IV) (b:Hp) (c:IV) (d:Hp→OH):OH :=
 Ac 2 a fun e=>BB e c b fun f g h=>Ad [] g h (d f)
def JE (a:Hp) (b:IV) (c:AF) (d e:IV) (f:Hp→OH):OH :=
 Ay (Ah EE 87 1 [(0,b)]) 44053517 a fun g h i j=>Ad [(c,[])] i j (Ay (AY EE 44053518 false .append [87,87] [d,g]) 44053518 h fun k l m n=>Ad [] m n (AE e fun o=>IG o l k f))
def Jm (c d:IV) (b:Hp) (a:AF) (e:Aa) (f g h i:IV) (j:Hp→OH):OH :=
 A7 3 c d fun k=>Aj 3 k b fun l m=>Ad [(a,[])] m [] (Al [true,false,false] false false e 42 [f,l,g] b fun n o p q=>Ad [(a,[])] p q (JE o n a h i j))
def IT (a:Hp) (c d e:IV) (f:Aa) (g h i:IV) (j:Hp→OH):OH :=
 Af c a fun k b=>Ad [] b [] (Ac 2 d fun l=>Af l a fun m n=>Ad [(b,[])] n [] (Jm m e a b f g h k i j))
def IQ (g a:IV) (b:Hp) (c d e:IV) (f:Hp→OH) (h:Aa) (i:IV):OH :=
 Am g (AE a fun j=>Ac 2 j fun k=>IN b k c d e a f) (AE a fun l=>Ac 2 l fun m=>IT b m c d h i e a f)
def IE (a:IV) (h:Hp) (c d b e:IV) (i:List IV→Hp→OH) (f:Hp) (g:Aa):OH :=
 (fun (j:Hp→OH)=>Ac 0 b fun k=>Af k f fun l _=>Al [] false false g 51 [l,a] f fun m n _ _=>Nb EE 3 m (.fv (.int .i64 0)) fun o=>IQ o e n b a d j g c) fun p=>IW a h p c d b e i
def IZ (a:Aa) (b:Hp) (c d:IV):OH :=
 Al [true,false] false false a 59 [c,d] b fun e f _ _=>An [e] f
def IA (b:IV) (a:Hp) (c:IV) (g:Hp) (d h e:IV) (i:List IV→Hp→OH) (f:Aa):OH :=
 Ac 2 b fun j=>Af j a fun k _=>BP k fun l=>GV EE 3 c l fun m=>Am m (IE c g d h b e i a f) (IZ f a d e)
def AbB (a:List IV) (b c:Hp) (d:List IV→Hp→OH) (e:Aa):OH :=
 Aw a fun f g=>Aw g fun h i=>Aw i fun j k=>Aw k fun l m=>Aw m fun n _=>IA j b n c f h l d e
def IP (a f:Hp) (b c d e:IV) (n:Nat) (g:Aa):OH :=
 Bg (a.own.map (·.1)) [44052492,44052494,44053518] [b,c,d,e,.fv (.int .i64 0)] f fun h=>BE n (fun i j k=>AbB j k a i g) [b,c,d,e,.fv (.int .i64 0)] h
def I4 (a:Hp) (c b:IV) (d:Hp) (e f:IV) (n:Nat) (g:Aa):OH :=
 Af c a fun h _=>Ac 1 b fun i=>Af i a fun j _=>BA [.fv (.int .i64 0),.fv (.int .i64 0),.nils,.nils,.fv (.int .i64 0),.fv (.int .i64 0),.nils] [(0,1,h),(1,1,j)] fun k=>A4 44047365 k a fun l m _ _=>IP d m e f b l n g
def Ji (a:IV) (b:Hp) (c:IV) (d:Hp) (e:IV) (n:Nat) (f:Aa):OH :=
 Ac 0 a fun g=>Af g b fun h _=>A5 EE 3 h (.fv (.int .i64 1)) fun i=>Am i (Ac 1 a fun j=>JH b j c a) (Ac 0 a fun k=>I4 b k a d e c n f)
def S42 (d:Aa) (n:Nat) (b e f:IV) (c:Hp):OH :=
 A4 44040192 e c fun g a _ _=>AE b fun h=>Ac 2 h fun i=>Af i a fun j _=>Hg EE 3 j (.fv (.int .i64 0)) fun k=>Am k (I8 a) (Ji g a f c b n d)
theorem Aod (a:Aa) (n:Nat) (b c d:IV) (e:Hp):Az EE a ft.get n 42 [b,c,d] e=S42 a n b c d e:=by kernel_rfl
def S43 (j:Aa) (n:Nat) (e b:IV) (c:Hp):OH :=
 CX EE 3 .rem e b fun a=>(fun (d:IV→Hp→OH)=>GV EE 3 a (.fv (.int .i64 0)) fun f=>Am f (BC EE 3 a b fun g=>d g c) (d a c)) fun h i=>An [h] i
theorem ApE (a:Aa) (n:Nat) (b c:IV) (d:Hp):Az EE a ft.get n 43 [b,c] d=S43 a n b c d:=by kernel_rfl
def S44 (c:Aa) (n:Nat) (d:Hp):OH :=
 AH 46137344 (.row [.fv (.int .i64 0),.fv (.int .i64 0),.nils] false) (.ptr (.own 46137344) 0) d fun a e _ _=>Al [] false false c 24 [.fv (.int .i64 10),.nils] e fun f g _ _=>Ak 3 a f g fun b _ _=>AA true 3 a b fun h=>An [h] b
theorem Ao1 (a:Aa) (n:Nat) (b:Hp):Az EE a ft.get n 44 [] b=S44 a n b:=by kernel_rfl
def S45 (h:Aa) (n:Nat) (c:IV) (d:Hp):OH :=
 AH 47185920 (.row [.fv (.int .i64 0),.fv (.int .i64 0),.nils] false) (.ptr (.own 47185920) 0) d fun a e _ _=>BA [.fv (.int .i64 0),.fv (.int .i64 0),.nils] [(0,1,.fv (.int .i64 2)),(1,1,c)] fun f=>Ak 3 a f e fun b _ _=>AA true 3 a b fun g=>An [g] b
theorem Ap5 (a:Aa) (n:Nat) (b:IV) (c:Hp):Az EE a ft.get n 45 [b] c=S45 a n b c:=by kernel_rfl
def XR (d e:IV) (a:Hp) (b:IV):OH :=
 A7 3 d e fun f=>Aj 3 f a fun g _=>Ak 3 b g a fun c _ _=>AA true 3 b c fun h=>An [h] c
def Yd (c d e:IV) (f:Hp) (a:IV):OH :=
 CX EE 3 .mul (.fv (.int .i64 7)) c fun g=>BC EE 3 d g fun h=>BA [.fv (.int .i64 0),.fv (.int .i64 0),.nils] [(0,1,e),(1,1,h)] fun i=>Ak 3 a i f fun b _ _=>AA true 3 a b fun j=>An [j] b
def Yb (c a d:IV) (b:Hp) (e:IV):OH :=
 CX EE 3 .quo c (.fv (.int .i64 3)) fun f=>BC EE 3 f a fun g=>Ac 1 d fun h=>Af h b fun i _=>CX EE 3 .quo i (.fv (.int .i64 5)) fun j=>Yd a j g b e
def Yn (e b:IV) (a:Hp) (c d:IV):OH :=
 Am e (Ac 2 b fun f=>Af f a fun g _=>XR g c a d) (Ac 0 b fun h=>Af h a fun i _=>Yb i c b a d)
def S46 (l:Aa) (n:Nat) (d a:IV) (e:Hp):OH :=
 A4 48234496 d e fun b f _ _=>AH 48234497 (.row [.fv (.int .i64 0),.fv (.int .i64 0),.nils] false) (.ptr (.own 48234497) 0) f fun g c _ _=>Ac 2 b fun h=>Af h c fun i _=>BP i fun j=>GV EE 3 a j fun k=>Yn k b c a g
theorem Api (a:Aa) (n:Nat) (b c:IV) (d:Hp):Az EE a ft.get n 46 [b,c] d=S46 a n b c d:=by kernel_rfl
def UH (h:IV) (i j:Hp) (a b c d e f:IV) (k:List IV→Hp→OH):OH :=
 BC EE 3 h (.fv (.int .i64 1)) fun g=>Bg (i.own.map (·.1)) [49289232,49291267] [a,b,c,d,e,f,g] j fun l=>k [a,b,c,d,e,f,g] l
def Rc (a:Hp) (b c:IV) (d:IV→Hp→OH):OH :=
 Ay (Ah EE 92 1 [(0,b)]) 49291266 a fun e f _ _=>Ay (AY EE 49291267 false .append [92,92] [c,e]) 49291267 f fun g h _ _=>d g h
def SQ (f g:AF) (a:Hp) (b:IV) (h:Aa) (i j k c:IV) (d:IV→Hp→OH):OH :=
 Ad [] f g (Ab b true a (fun l=>Al [] false false h 37 [i,j] a l) fun m e n o=>Ad [] n o (AG b m (.fv (.bool false)) fun p=>Am p (Rc e k c d) (d c e)))
def RR (d:Hp) (a:IV) (b:Aa) (h i:IV) (j k:AF) (l m:IV) (n:IV→Hp→OH):OH :=
 Ab a true d (fun o=>Al [] false false b 38 [h] d o) fun p c e f=>Ad [] e f (Ab a true c (fun q=>Aj 3 i c fun r s=>q r c s []) fun t g u v=>Ad [(e,f),(j,k)] u v (Ab a true g (fun w=>Al [] false false b 38 [t] g w) fun x y z A=>SQ z A y a b p x l m n))
def Ty (f:Hp) (g h:IV) (i:Aa) (j k l:IV) (m:IV→Hp→OH):OH :=
 AH 49289232 (.row [.fv (.int .i64 0),.fv (.int .i64 0),.nils] false) (.ptr (.own 49289232) 0) f fun b n _ _=>Ak 3 b g n fun a _ _=>A5 EE 3 h (.fv (.int .i64 0)) fun c=>Ab c true a (fun o=>Aj 3 b a fun p q=>o p a q []) fun r s d e=>Ad [] d e (RR s c i r j d e k l m)
def SA (b:IV) (a:Aa) (d:Hp) (e f g:IV) (h:IV→Hp→OH):OH :=
 BC EE 3 b (.fv (.int .i64 1)) fun i=>Al [] false false a 25 [e,i,.fv (.int .i64 0)] d fun j k _ _=>Al [] false false a 17 [j] k fun c l _ _=>AQ 0 c fun m=>AQ 1 c fun n=>Ty l m n a f b g h
def UG (c a d:IV) (b:Hp) (e:Aa) (f g:IV) (h:IV→Hp→OH):OH :=
 Be EE 3 c (.fv (.int .i64 1)) fun i=>Be EE 3 i a fun j=>A7 4 d j fun k=>Ac 1 k fun l=>Aj 3 l b fun m _=>SA a e b m f g h
def Rw (e:IV) (a:Hp) (f:IV) (b:IV→Hp→OH) (c d g:IV) (h:Aa) (i:IV):OH :=
 Ac 0 e fun j=>Af j a fun k _=>Hg EE 3 k f fun l=>Am l (b c a) (BP d fun m=>UG m g d a h i c b)
def SW (b:IV) (e:Hp) (a c f d g:IV) (h:List IV→Hp→OH) (i:Hp) (j:IV) (k:Aa):OH :=
 (fun (l:IV→Hp→OH)=>BP a fun m=>Be EE 3 m (.fv (.int .i64 1)) fun n=>Be EE 3 n b fun o=>A7 4 a o fun p=>Rw p i c l j a b k d) fun q r=>UH b e r a c f d g q h
def Rz (c:Hp) (a d:IV):OH :=
 Ak 3 a d c fun b _ _=>AA true 3 a b fun e=>An [e,.fv (.bool false)] b
def Tx (a:Hp) (b:IV):OH :=
 AA true 3 b a fun c=>An [c,.fv (.bool true)] a
def UB (a:Aa) (d:Hp) (e f g b:IV):OH :=
 Al [] false false a 43 [e,f] d fun h c _ _=>A7 1 g h fun i=>Af i c fun j _=>Al [] false false a 26 [j] c fun k l _ _=>Ak 3 b k l fun m _ _=>Tx m b
def RP (a:IV) (b:Hp) (c:IV) (d:Aa) (e:IV):OH :=
 BP a fun f=>A5 EE 3 f (.fv (.int .i64 0)) fun g=>Am g (BA [.fv (.int .i64 0),.fv (.int .i64 0),.nils] [] fun h=>Rz b c h) (BP a fun i=>UB d b e i a c)
def RJ (h:List IV) (a:IV) (i:Hp) (j b k c:IV) (l:List IV→Hp→OH) (d:Hp) (e:Aa):OH :=
 Aw h fun f m=>Aw m fun g _=>BP a fun n=>GV EE 3 g n fun o=>Am o (SW g i a j b k c l d f e) (RP f d c e b)
def Aa9 (a:List IV) (b:Hp) (c:List IV→Hp→OH) (d:Hp) (e:Aa):OH :=
 Aw a fun f g=>Aw g fun h i=>Aw i fun j k=>Aw k fun l m=>Aw m fun n o=>RJ o f b h j l n c d e
def S47 (g:Aa) (n:Nat) (b c h d:IV) (a:Hp):OH :=
 A4 49283072 h a fun e i _ _=>AH 49283073 (.row [.fv (.int .i64 0),.fv (.int .i64 0),.nils] false) (.ptr (.own 49283073) 0) i fun f j _ _=>Bg (a.own.map (·.1)) [49289232,49291267] [b,c,d,e,f,.nils,.fv (.int .i64 0)] j fun k=>BE n (fun l m o=>Aa9 m a l o g) [b,c,d,e,f,.nils,.fv (.int .i64 0)] k
theorem Anp (a:Aa) (n:Nat) (b c d e:IV) (f:Hp):Az EE a ft.get n 47 [b,c,d,e] f=S47 a n b c d e f:=by kernel_rfl
def Kv (c d:IV) (e:Hp) (a f:IV):OH :=
 AG c d (.fv (.bool false)) fun g=>Ak 3 a f e fun b _ _=>AA true 3 a b fun h=>An [h,g] b
def KE (d:Hp) (e f g:IV) (a:Aa) (b h i:IV):OH :=
 Ay (Ah EE 29 3 [(0,e),(1,f),(2,g)]) 50337795 d fun j k _ _=>Al [] false false a 24 [.fv (.int .i64 7),j] k fun l m _ _=>Ay (Ah EE 29 1 [(0,l)]) 50337797 m fun n o _ _=>Al [] false false a 24 [.fv (.int .i64 8),n] o fun p c _ _=>Ab b true c (fun q=>q h c [] []) fun r s _ _=>Kv b r s i p
def K1 (c:Hp) (b d e f:IV) (g:Aa) (h i j:IV):OH :=
 Ak 3 b d c fun a k l=>Ad [] k l (Aj 3 b a fun m _=>Aj 3 e a fun n _=>Aj 3 f a fun o _=>KE a m n o g h i j)
def Lb (a b:AF) (c:Aa) (f:Hp) (g:IV) (h i j k:AF) (l m n o p:IV):OH :=
 Ad [] a b (Al [] false false c 24 [.fv (.int .i64 6),g] f fun q r d e=>Ad [] d e (AH 50336773 (.row [.fv (.int .i64 0),.fv (.int .i64 0),.nils] false) (.ptr (.own 50336773) 0) r fun s t u v=>Ad [(d,e),(a,b),(h,i),(j,[]),(k,[])] u v (K1 t s q l m c n o p)))
def LO (b:Hp) (g:IV) (a:AF) (c:Aa) (h i j k l m:IV):OH :=
 Aj 3 g b fun n d=>Ad [(a,[])] d [] (Al [] false false c 25 [n,.fv (.int .i64 1),.fv (.int .i64 0)] b fun o p e f=>Ad [(a,[])] e f (Ay (Ah EE 29 2 [(0,h),(1,o)]) 50336771 p fun q r s t=>Lb s t c r q e f d a i j k l m))
def K4 (d e f g h i j k:AF) (l:Hp) (a m n o:IV) (p:Aa) (q r s t:IV):OH :=
 Ad [(f,g),(h,i),(j,[]),(k,[])] d e (Ak 3 a m l fun b u v=>Ad [] u v (Aj 3 n b fun w c=>Ad [] c [] (LO b o c p w a q r s t)))
def Ks (a:Aa) (e:Hp) (f g h i:IV) (j k l m:AF) (n o p q r:IV):OH :=
 Al [] false false a 23 [f,g,h,i] e fun b s c d=>Ad [] c d (AQ 0 b fun t=>AQ 1 b fun u=>AH 50335754 (.row [.fv (.int .i64 0),.fv (.int .i64 0),.nils] false) (.ptr (.own 50335754) 0) s fun v w x y=>K4 x y c d j k l m w v t n o a p q u r)
def LZ (b:Hp) (g:IV) (a:AF) (c:Aa) (h i j k l m n o:IV):OH :=
 Aj 3 g b fun p d=>Ad [(a,[])] d [] (Al [] false false c 46 [p,.fv (.int .i64 2)] b fun q r e f=>Ad [(a,[])] e f (Be EE 3 h (.fv (.int .i64 2)) fun s=>Ks c r i j q s e f d a k l m n o))
def Lk (c:Hp) (a d e:IV):OH :=
 Ak 3 a d c fun b f g=>Ad [] f g (AA true 3 a b fun h=>An [h,e] b)
def Ln (c d:AF) (e:Aa) (f:Hp) (g a h i:IV):OH :=
 Ad [] c d (Al [] false false e 24 [.fv (.int .i64 5),g] f fun j b k l=>Ad [] k l (Ab a true b (fun m=>m h b [] []) fun n o _ _=>AG a n (.fv (.bool false)) fun p=>Lk o i j p))
def LI (a:Aa) (e:Hp) (f g:IV) (h i j k:AF) (l m n:IV):OH :=
 Al [] false false a 24 [.fv (.int .i64 4),f] e fun o b c d=>Ad [] c d (Aj 3 g b fun p q=>Ad [(c,d),(h,i),(j,[]),(k,[])] q [] (Ay (Ah EE 29 2 [(0,o),(1,p)]) 50339845 b fun r s t u=>Ln t u a s r l m n))
def K9 (a:AF) (b:Hp) (f g:IV) (h:Aa) (i j k l:IV):OH :=
 Ad [] a [] (Aj 3 f b fun m c=>Ad [(a,[])] c [] (Ay (Ah EE 29 2 [(0,g),(1,m)]) 50339842 b fun n o d e=>Ad [] d e (LI h o n i d e c a j k l)))
def LU (c:Hp) (d e f g h i j k l m n:AF) (o p:IV) (q:Aa) (r s t u:IV):OH :=
 AH 50338829 (.row [.fv (.int .i64 0),.fv (.int .i64 0),.nils] false) (.ptr (.own 50338829) 0) c fun a v w x=>Ad [(d,e),(f,g),(h,[]),(i,j),(k,[]),(l,m),(n,[])] w x (Ak 3 a o v fun b y z=>Ad [] y z (Aj 3 p b fun A B=>K9 B b a A q r s t u))
def Kp (e:IV) (a:Aa) (f:Hp) (g h i:IV) (j k l m n o p q r:AF) (s t u v:IV):OH :=
 Be EE 3 e (.fv (.int .i64 2)) fun w=>Al [] false false a 23 [g,h,i,w] f fun b x c d=>Ad [] c d (AQ 0 b fun y=>AQ 1 b fun z=>LU x c d j k l m n o p q r y s a t u z v)
def KP (a b:AF) (c:Hp) (l:IV) (d e f g:AF) (h:Aa) (m n o p q r s:IV):OH :=
 Ad [] a b (Aj 3 l c fun t i=>Ad [(a,b),(d,[]),(e,f),(g,[])] i [] (Al [] false false h 46 [t,.fv (.int .i64 2)] c fun u v j k=>Ad [] j k (Kp m h v n o u j k i a b d e f g p q r s)))
def LV (a:Aa) (g:Hp) (h i j:IV) (d:AF) (k l m n o p:IV):OH :=
 Al [] false false a 22 [h,.fv (.int .i64 1),i] g fun q e b c=>Ad [] b c (Aj 3 j e fun r f=>Ad [(b,c),(d,[])] f [] (Al [] false false a 25 [r,.fv (.int .i64 1),.fv (.int .i64 0)] e fun s t u v=>KP u v t k f b c d a l q s m n o p))
def Kt (m:IV) (a:Hp) (b d:IV) (e:Aa) (f g c h i j:IV):OH :=
 A5 EE 3 m (.fv (.int .i64 0)) fun n=>Am n (Aj 3 b a fun o k=>Ad [] k [] (LZ a d k e f g o b c h i j)) (Aj 3 c a fun p l=>Ad [] l [] (LV e a g p b l d f c h i j))
def KB (e:Hp) (a f b:IV) (c:Aa) (g h i j k l:IV):OH :=
 Ak 3 a f e fun d m n=>Ad [] m n (Ac 1 b fun o=>Af o d fun p _=>Al [] false false c 43 [p,.fv (.int .i64 3)] d fun q r _ _=>Kt q r g b c h i j a k l)
def K5 (a b:AF) (c:IV) (d:Hp) (e f g h:AF) (i:IV) (j:Aa) (k l m n o:IV):OH :=
 Ad [] a b (AQ 0 c fun p=>AQ 1 c fun q=>AH 50333706 (.row [.fv (.int .i64 0),.fv (.int .i64 0),.nils] false) (.ptr (.own 50333706) 0) d fun r s t u=>Ad [(a,b),(e,f),(g,[]),(h,[])] t u (KB s r p i j k l m n q o))
def Ly (c a:AF) (b:Aa) (h:Hp) (i d e j k l m n:IV):OH :=
 Ad [(a,[])] c [] (Al [] false false b 46 [i,.fv (.int .i64 1)] h fun o p f g=>Ad [(a,[])] f g (Be EE 3 d (.fv (.int .i64 2)) fun q=>Al [] false false b 23 [e,j,o,q] p fun r s t u=>K5 t u r s f g c a k b l d e m n))
def Lz (e:Hp) (f c:IV) (g:Aa) (h i j k:IV):OH :=
 AH 50332676 (.row [.fv (.int .i64 0),.fv (.int .i64 0),.nils] false) (.ptr (.own 50332676) 0) e fun a l _ _=>Ak 3 a f l fun b _ _=>Aj 3 a b fun m d=>Ad [] d [] (Aj 3 c b fun n o=>Ly o d g b n h i m c j a k)
def S48 (a:Aa) (n:Nat) (b e f g:IV) (h:Hp):OH :=
 A4 50331648 e h fun i j _ _=>A4 50331649 f j fun c k _ _=>AH 50331650 (.row [.fv (.int .i64 0),.fv (.int .i64 0),.nils] false) (.ptr (.own 50331650) 0) k fun l d _ _=>Aj 3 c d fun m _=>Al [] false false a 46 [m,.fv (.int .i64 0)] d fun o p _ _=>Al [] false false a 21 [b,o,.fv (.int .i64 1)] p fun q r _ _=>Lz r q c a g b i l
theorem Ao2 (a:Aa) (n:Nat) (b c d e:IV) (f:Hp):Az EE a ft.get n 48 [b,c,d,e] f=S48 a n b c d e f:=by kernel_rfl
def ZN (b c:AF) (a:Hp) (d e:IV):OH :=
 Ad [] b c (AA true 3 d a fun f=>An [f,e] a)
def Aee (a:Hp) (b f g c h:IV):OH :=
 Ab b true a (fun i=>i f a [] []) fun j d _ _=>AG b j (.fv (.bool false)) fun e=>Ab e true d (fun k=>k g d [] []) fun l m _ _=>AG e l (.fv (.bool false)) fun n=>Ak 3 c h m fun o p q=>ZN p q o c n
def Z4 (a b c d e f:AF) (g:Hp) (h i j k:IV) (l:Aa) (m n o p:IV):OH :=
 Ad [(b,[]),(c,[]),(d,e),(f,[])] a [] (Ay (Ah EE 29 4 [(0,h),(1,i),(2,j),(3,k)]) 51385349 g fun q r s t=>Ad [] s t (Al [] false false l 24 [.fv (.int .i64 13),q] r fun u v w x=>Ad [] w x (Aee v m n o p u)))
def AaH (a:Hp) (g:IV) (b c d:AF) (h i j:IV) (k:Aa) (l m n o:IV):OH :=
 Aj 3 g a fun p e=>Ad [(b,c),(d,[])] e [] (Aj 3 h a fun q f=>Ad [(e,[]),(b,c),(d,[])] f [] (Aj 3 i a fun r s=>Z4 s f e b c d a j p q r k l m n o))
def Zh (f g:AF) (a:Hp) (h:IV) (b:Aa) (i j k l m n o:IV):OH :=
 Ad [] f g (Aj 3 h a fun p c=>Ad [] c [] (Al [] false false b 25 [p,.fv (.int .i64 1),.fv (.int .i64 0)] a fun q r d e=>Ad [] d e (AaH r i d e c j k q b l m n o)))
def YE (a:IV) (c:Hp) (d e f g h i j k l m n o p q r s t:AF) (u:IV) (v:Aa) (w x y z A:IV):OH :=
 AQ 0 a fun B=>AQ 1 a fun C=>AH 51384336 (.row [.fv (.int .i64 0),.fv (.int .i64 0),.nils] false) (.ptr (.own 51384336) 0) c fun b D E F=>Ad [(d,e),(f,g),(h,[]),(i,j),(k,[]),(l,m),(n,o),(p,[]),(q,r),(s,t)] E F (Ak 3 b B D fun G H I=>Zh H I G u v w b x y z C A)
def Aco (a:Aa) (f:Hp) (g h i j:IV) (k l m n o p q r s t u v w:AF) (x y z A B C:IV):OH :=
 Al [] false false a 46 [g,.fv (.int .i64 2)] f fun D E b c=>Ad [] b c (Be EE 3 h (.fv (.int .i64 2)) fun F=>Al [] false false a 23 [i,j,D,F] E fun G H d e=>Ad [] d e (YE G H d e b c k l m n o p q r s t u v w x a y z A B C))
def Aef (a b c d e f g h i j:AF) (m:Aa) (p:Hp) (q r s t u v w x y z:IV):OH :=
 Ad [(b,c),(d,e),(f,[]),(g,h),(i,j)] a [] (Al [] false false m 25 [q,.fv (.int .i64 2),.fv (.int .i64 0)] p fun A n k l=>Ad [] k l (Aj 3 r n fun B o=>Ad [(k,l),(a,[]),(b,c),(d,e),(f,[]),(g,h),(i,j)] o [] (Aco m n B s t A o k l a b c d e f g h i j u v w x y z)))
def Zm (a:Aa) (h:Hp) (i j b:IV) (k l m n o:AF) (p q r s t u v:IV):OH :=
 Al [] false false a 25 [i,.fv (.int .i64 1),.fv (.int .i64 0)] h fun w x c d=>Ad [] c d (Al [] false false a 22 [j,.fv (.int .i64 1),w] x fun y e f g=>Ad [] f g (Aj 3 b e fun z A=>Aef A f g c d k l m n o a e z p q y b r s t u v))
def AcO (a b:AF) (e:Aa) (i:Hp) (j k f l m n o p q r:IV):OH :=
 Ad [] a b (Al [] false false e 22 [j,.fv (.int .i64 1),k] i fun s g c d=>Ad [] c d (Aj 3 f g fun t h=>Ad [(c,d),(a,b)] h [] (Zm e g t s f h c d a b l m n o p q r)))
def Aa5 (c:Hp) (d e f g h i:AF) (j:IV) (a:Aa) (k l m n o p q r:IV):OH :=
 AH 51383306 (.row [.fv (.int .i64 0),.fv (.int .i64 0),.nils] false) (.ptr (.own 51383306) 0) c fun b s t u=>Ad [(d,e),(f,g),(h,[]),(i,[])] t u (Ak 3 b j s fun v w x=>Ad [] w x (Al [] false false a 44 [] v fun y z A B=>AcO A B a z k y l m n b o p q r))
def Zy (a:IV) (b:Aa) (g:Hp) (c h i:IV) (j k l m:AF) (n o p q r:IV):OH :=
 Be EE 3 a (.fv (.int .i64 2)) fun s=>Al [] false false b 23 [c,h,i,s] g fun d t e f=>Ad [] e f (AQ 0 d fun u=>AQ 1 d fun v=>Aa5 t e f j k l m u b c n o a p q v r)
def Aew (a:AF) (b:Hp) (c:IV) (d:Aa) (h i j k l m n:IV):OH :=
 Ad [] a [] (Aj 3 c b fun o e=>Ad [(a,[])] e [] (Al [] false false d 46 [o,.fv (.int .i64 1)] b fun p q f g=>Ad [(a,[])] f g (Zy h d q i j p f g e a k c l m n)))
def Ada (d:Hp) (e f g h i j k:AF) (l a m:IV) (n:Aa) (o p q r:IV):OH :=
 AH 51382282 (.row [.fv (.int .i64 0),.fv (.int .i64 0),.nils] false) (.ptr (.own 51382282) 0) d fun b s t u=>Ad [(e,f),(g,h),(i,[]),(j,k)] t u (Ak 3 b l s fun c v w=>Ad [] v w (Aj 3 a c fun x y=>Aew y c m n o p x a b q r))
def AeE (a:IV) (b:Aa) (g:Hp) (c h i:IV) (j k l m n:AF) (o p q:IV):OH :=
 Be EE 3 a (.fv (.int .i64 2)) fun r=>Al [] false false b 23 [c,h,i,r] g fun d s e f=>Ad [] e f (AQ 0 d fun t=>AQ 1 d fun u=>Ada s e f j k l m n t o p b a c u q)
def Adf (a b:AF) (c:Hp) (d:IV) (e:Aa) (i j k l m:IV):OH :=
 Ad [] a b (Aj 3 d c fun n f=>Ad [(a,b)] f [] (Al [] false false e 46 [n,.fv (.int .i64 0)] c fun o p g h=>Ad [] g h (AeE i e p j k o g h f a b l d m)))
def Aey (c:Aa) (d:Hp) (e a f:IV):OH :=
 Al [] false false c 24 [.fv (.int .i64 12),e] d fun g h _ _=>Ak 3 a g h fun b _ _=>AA true 3 a b fun i=>An [i,f] b
def AdK (c d e f g h i j:AF) (k:Hp) (a l:IV) (m:Aa) (n o:IV):OH :=
 Ad [(e,f),(g,h),(i,[]),(j,[])] c d (Ak 3 a l k fun b p q=>Ad [] p q (Aj 3 a b fun r _=>Ay (Ah EE 29 1 [(0,r)]) 51390465 b fun s t _ _=>Aey m t s n o))
def Ad5 (a:Aa) (e:Hp) (f g h i:IV) (j k l m:AF) (n:IV):OH :=
 Al [] false false a 23 [f,g,h,i] e fun b o c d=>Ad [] c d (AQ 0 b fun p=>AQ 1 b fun q=>AH 51389450 (.row [.fv (.int .i64 0),.fv (.int .i64 0),.nils] false) (.ptr (.own 51389450) 0) o fun r s t u=>AdK t u c d j k l m s r p a n q)
def Acm (b:Hp) (g:IV) (a:AF) (c:Aa) (h i j k:IV):OH :=
 Aj 3 g b fun l d=>Ad [(a,[])] d [] (Al [] false false c 46 [l,.fv (.int .i64 0)] b fun m n e f=>Ad [(a,[])] e f (Be EE 3 h (.fv (.int .i64 1)) fun o=>Ad5 c n i j m o e f d a k))
def AaI (a:Aa) (d:Hp) (e b:IV):OH :=
 Al [] false false a 43 [e,.fv (.int .i64 4)] d fun f g _ _=>Al [] false false a 29 [f] g fun h i _ _=>Ak 3 b h i fun c _ _=>AA true 3 b c fun j=>An [j,.fv (.bool true)] c
def Acd (f:IV) (a:Hp) (g b:IV) (c:Aa) (h i d:IV):OH :=
 Am f (Aj 3 g a fun j e=>Ad [] e [] (Acm a b e c h i j d)) (Ac 1 b fun k=>Af k a fun l _=>AaI c a l d)
def AdJ (c:Hp) (a d:IV) (e:Aa) (h i j k:IV):OH :=
 Ab a true c (fun l=>Ac 0 d fun m=>l m c [] []) fun n b _ _=>Ab a true b (fun o=>Af n b fun p q=>o p b q []) fun r f _ _=>Ab a true f (fun s=>Al [] false false e 43 [r,.fv (.int .i64 2)] f s) fun t g _ _=>Ab a true g (fun u=>A5 EE 3 t (.fv (.int .i64 1)) fun v=>u v g [] []) fun w x _ _=>AG a w (.fv (.bool false)) fun y=>Acd y x h d e i j k
def Adz (c d:IV) (e:Hp) (a f:IV):OH :=
 AG c d (.fv (.bool false)) fun g=>Ak 3 a f e fun b h i=>Ad [] h i (AA true 3 a b fun j=>An [j,g] b)
def Ab1 (c:Hp) (d e:IV) (f g h:AF) (i:Aa) (j a k l:IV):OH :=
 Ay (Ah EE 29 2 [(0,d),(1,e)]) 51396614 c fun m n o p=>Ad [(f,g),(h,[])] o p (Al [] false false i 24 [j,m] n fun q b r s=>Ad [] r s (Ab a true b (fun t=>t k b [] []) fun u v _ _=>Adz a u v l q))
def YQ (f:IV) (a:Hp) (g:IV) (b c d:AF) (h:IV) (i:Aa) (j k l:IV):OH :=
 BC EE 3 (.fv (.int .i64 16)) f fun m=>Aj 3 g a fun n e=>Ad [(b,c),(d,[])] e [] (Aj 3 h a fun o p=>Ad [(e,[]),(b,c),(d,[])] p [] (Ab1 a n o b c d i m j k l))
def Ael (f:IV) (a:Hp) (b:Aa) (g h i j k:IV):OH :=
 Ac 1 f fun l=>Af l a fun m c=>Ad [] c [] (Al [] false false b 43 [m,.fv (.int .i64 2)] a fun n o d e=>Ad [] d e (YQ n o g d e c h b i j k))
def Abb (b:IV) (c:Hp) (d e f g h i:AF) (j k:IV) (l:Aa) (m n o:IV):OH :=
 AQ 1 b fun p=>AH 51395594 (.row [.fv (.int .i64 0),.fv (.int .i64 0),.nils] false) (.ptr (.own 51395594) 0) c fun a q r s=>Ad [(d,e),(f,g),(h,[]),(i,[])] r s (Ak 3 a j q fun t u v=>Ad [] u v (Ael k t l m a n p o))
def ZD (a b c:AF) (h:IV) (d:Aa) (i:Hp) (j k l:IV) (m:AF) (n o p q:IV):OH :=
 Ad [(c,[])] a b (Be EE 3 h (.fv (.int .i64 1)) fun r=>Al [] false false d 23 [j,k,l,r] i fun e s f g=>Ad [] f g (AQ 0 e fun t=>Abb e s f g a b m c t n d o p q))
def ZL (a:Hp) (f c:IV) (d:Aa) (g h i j k:IV):OH :=
 Aj 3 f a fun l b=>Ad [] b [] (Aj 3 c a fun m e=>Ad [(b,[])] e [] (Al [] false false d 46 [m,.fv (.int .i64 1)] a fun n o p q=>ZD p q b g d o h l n e c i j k))
def AaW (b:IV) (c:Hp) (d e f g h i:AF) (j k l:IV) (m:Aa) (n o p:IV):OH :=
 AQ 1 b fun q=>AH 51394570 (.row [.fv (.int .i64 0),.fv (.int .i64 0),.nils] false) (.ptr (.own 51394570) 0) c fun a r s t=>Ad [(d,e),(f,g),(h,[]),(i,[])] s t (Ak 3 a j r fun u v w=>Ad [] v w (ZL u k l m n o a q p))
def AcN (a b c:AF) (d:IV) (e:Aa) (j:Hp) (f k l:IV) (m:AF) (n o p:IV):OH :=
 Ad [(c,[])] a b (Be EE 3 d (.fv (.int .i64 1)) fun q=>Al [] false false e 23 [f,k,l,q] j fun g r h i=>Ad [] h i (AQ 0 g fun s=>AaW g r h i a b m c s n o e d f p))
def AcZ (a:Hp) (c d:IV) (e:Aa) (g h i:IV):OH :=
 Aj 3 c a fun j b=>Ad [] b [] (Aj 3 d a fun k f=>Ad [(b,[])] f [] (Al [] false false e 46 [k,.fv (.int .i64 0)] a fun l m n o=>AcN n o b g e m h j l f c d i))
def YG (c:Aa) (d:Hp) (a:IV):OH :=
 Al [] false false c 24 [.fv (.int .i64 15),.nils] d fun e f _ _=>Ak 3 a e f fun b _ _=>AA true 3 a b fun g=>An [g,.fv (.bool true)] b
def Aax (b:Hp) (a h:IV) (c:Aa) (i j k l d:IV):OH :=
 Ab a true b (fun m=>Af h b fun n o=>m n b o []) fun p e _ _=>Ab a true e (fun q=>Al [] false false c 43 [p,.fv (.int .i64 5)] e q) fun r f _ _=>Ab a true f (fun s=>Nb EE 3 r (.fv (.int .i64 1)) fun t=>s t f [] []) fun u g _ _=>AG a u (.fv (.bool false)) fun v=>Am v (AcZ g i j c k l d) (YG c g d)
def Aa7 (c:IV) (d:Aa) (e:Hp) (a:IV):OH :=
 Be EE 3 c (.fv (.int .i64 1)) fun f=>Al [] false false d 45 [f] e fun g h _ _=>Ak 3 a g h fun b _ _=>AA true 3 a b fun i=>An [i,.fv (.bool true)] b
def AbT (a:Hp) (b c:IV):OH :=
 AA true 3 b a fun d=>An [d,c] a
def Aeo (d e:AF) (a:Hp) (b f c g:IV):OH :=
 Ad [] d e (Ab b true a (fun h=>h f a [] []) fun i j _ _=>AG b i (.fv (.bool false)) fun k=>Ak 3 c g j fun l m n=>Ad [] m n (AbT l c k))
def Ac2 (a:Hp) (e:IV) (f b c d:AF) (g:IV) (h:Aa) (i j k l:IV):OH :=
 Aj 3 e a fun m n=>Ad [(f,[]),(b,[]),(c,d)] n [] (Ay (Ah EE 29 2 [(0,g),(1,m)]) 51404807 a fun o p q r=>Ad [(b,[]),(c,d)] q r (Al [] false false h 24 [i,o] p fun s t u v=>Aeo u v t j k l s))
def Aaz (f g:IV) (a:Hp) (h:IV) (c d:AF) (i:IV) (j:Aa) (k l m:IV):OH :=
 A7 1 f g fun n=>Af n a fun o b=>Ad [] b [] (Aj 3 h a fun p e=>Ad [(b,[]),(c,d)] e [] (Ac2 a i e b c d p j o k l m))
def AaL (d:Hp) (a e f g:IV) (h:Aa) (i j k:IV):OH :=
 Ak 3 a e d fun l m n=>Ad [] m n (Ay (Ah EE 92 2 [(0,.fv (.int .i64 3)),(1,.fv (.int .i64 6))]) 51404800 l fun o p b c=>Ad [] b c (Be EE 3 f (.fv (.int .i64 2)) fun q=>Aaz o q p g b c a h i j k))
def Aa2 (a b:AF) (c:IV) (d:Hp) (e f g h i j k:AF) (l m:IV) (n:Aa) (o p:IV):OH :=
 Ad [] a b (AQ 0 c fun q=>AQ 1 c fun r=>AH 51403788 (.row [.fv (.int .i64 0),.fv (.int .i64 0),.nils] false) (.ptr (.own 51403788) 0) d fun s t u v=>Ad [(a,b),(e,f),(g,[]),(h,[]),(i,j),(k,[])] u v (AaL t s q l m n o r p))
def Adj (c a d e f:AF) (b:Aa) (i:Hp) (j k l m n o p q:IV):OH :=
 Ad [(a,[]),(d,e),(f,[])] c [] (Al [] false false b 46 [j,.fv (.int .i64 1)] i fun r s g h=>Ad [(a,[])] g h (Be EE 3 k (.fv (.int .i64 1)) fun t=>Al [] false false b 23 [l,m,r,t] s fun u v w x=>Aa2 w x u v g h c a d e f n o b p q))
def AeG (d:Aa) (g:Hp) (h i j:IV) (e:AF) (k l m n o p:IV):OH :=
 Al [] false false d 22 [h,.fv (.int .i64 1),i] g fun q a b c=>Ad [] b c (Aj 3 j a fun r f=>Ad [(b,c),(e,[])] f [] (Aj 3 k a fun s t=>Adj t f b c e d a s l q r m n o p))
def YV (d e f g h i j k:AF) (l:Hp) (a m:IV) (n:Aa) (o p q r s t u:IV):OH :=
 Ad [(f,g),(h,i),(j,[]),(k,[])] d e (Ak 3 a m l fun b v w=>Ad [] v w (Aj 3 a b fun x c=>Ad [] c [] (AeG n b o x p c q r s a t u)))
def Aac (a:Aa) (f:Hp) (b g h i:IV) (j k l m:AF) (n o p q r:IV):OH :=
 Al [] false false a 23 [b,g,h,i] f fun c s d e=>Ad [] d e (AQ 0 c fun t=>AQ 1 c fun u=>AH 51402762 (.row [.fv (.int .i64 0),.fv (.int .i64 0),.nils] false) (.ptr (.own 51402762) 0) s fun v w x y=>YV x y d e j k l m w v t a b n o p q u r)
def Adh (b:Hp) (c:IV) (a:AF) (d:Aa) (e i j k l m:IV):OH :=
 Aj 3 c b fun n f=>Ad [(a,[])] f [] (Al [] false false d 46 [n,.fv (.int .i64 0)] b fun o p g h=>Ad [(a,[])] g h (Be EE 3 e (.fv (.int .i64 1)) fun q=>Aac d p i j o q g h f a k c e l m))
def Acb (a:Hp) (b:IV):OH :=
 AA true 3 b a fun c=>An [c,.fv (.bool true)] a
def AcL (c d:IV) (a:Hp) (b:IV):OH :=
 A7 3 c d fun e=>Aj 3 e a fun f g=>Ad [] g [] (Ak 3 b f a fun h i j=>Ad [] i j (Acb h b))
def Abg (d:IV) (a:Hp) (b c e f g h i j k l m n:AF) (o:Aa) (p q:IV):OH :=
 Ac 1 d fun r=>Af r a fun s t=>Ad [(b,c),(e,f),(g,h),(i,j),(k,l),(m,n)] t [] (Al [] false false o 43 [s,.fv (.int .i64 3)] a fun u v w x=>Ad [(b,c)] w x (AcL p u v q))
def ZK (a b:AF) (c:Aa) (h:Hp) (i j k l:IV) (m n o p q r:AF) (s:IV):OH :=
 Ad [] a b (Al [] false false c 24 [.fv (.int .i64 18),i] h fun t u d e=>Ad [] d e (Ay (Ah EE 29 3 [(0,j),(1,k),(2,t)]) 51405829 u fun v w f g=>Ad [] f g (Abg l w f g d e a b m n o p q r c v s)))
def YM (a:Aa) (f:Hp) (g h:IV) (i j:AF) (k:IV):OH :=
 Al [] false false a 24 [.fv (.int .i64 14),.nils] f fun l m b c=>Ad [] b c (Al [] false false a 24 [.fv (.int .i64 15),.nils] m fun n o d e=>Ad [] d e (Ay (Ah EE 29 1 [(0,n)]) 51405827 o fun p q r s=>ZK r s a q p g l h d e b c i j k))
def Acj (i:IV) (a:Hp) (c d:IV) (b:Aa) (j k l e:IV):OH :=
 Am i (Aj 3 c a fun m f=>Ad [] f [] (Adh a d f b j k m c l e)) (Al [] false false b 44 [] a fun n o g h=>Ad [] g h (YM b o n d g h e))
def Aa1 (b:Aa) (g:Hp) (h c i j k l:IV):OH :=
 Al [] false false b 43 [h,.fv (.int .i64 4)] g fun d e _ _=>Nb EE 3 c (.fv (.int .i64 0)) fun a=>Ab a true e (fun m=>m d e [] []) fun n f _ _=>Ab a true f (fun o=>Nb EE 3 n (.fv (.int .i64 1)) fun p=>o p f [] []) fun q r _ _=>AG a q (.fv (.bool false)) fun s=>Acj s r i j b c k d l
def Aah (f b:IV) (a:Hp) (c:Aa) (d e g h:IV):OH :=
 Nb EE 3 f (.fv (.int .i64 0)) fun i=>Am i (Ac 1 b fun j=>Af j a fun k _=>Aa7 k c a d) (Ac 0 e fun l=>Af l a fun m _=>Aa1 c a m g b e h d)
def AaD (i b:IV) (a:Hp) (c:IV) (e:Aa) (d f g:IV):OH :=
 Am i (Nb EE 3 b (.fv (.int .i64 0)) fun h=>Ab h true a (fun j=>Ac 0 c fun k=>j k a [] []) fun l m _ _=>Aax m h l e d c b f g) (Ac 1 d fun n=>Af n a fun o _=>Aah o d a e g c b f)
def Acc (a:Hp) (i b c:IV) (d:Aa) (e f g:IV):OH :=
 Af i a fun h _=>A5 EE 3 h (.fv (.int .i64 10)) fun j=>Am j (Nb EE 3 b (.fv (.int .i64 0)) fun k=>AdJ a k c d e b f g) (A5 EE 3 h (.fv (.int .i64 14)) fun l=>AaD l b a c d e f g)
def Zx (c:Hp) (d j:IV) (a:Aa) (e f g b h:IV):OH :=
 Ab d true c (fun k=>Hg EE 3 j (.fv (.int .i64 2)) fun l=>k l c [] []) fun m i _ _=>AG d m (.fv (.bool false)) fun n=>Am n (Al [] false false a 44 [] i fun o p q r=>Adf q r p e a f g o b h) (Ac 0 b fun s=>Acc i s f e a b g h)
def Abh (d:Hp) (a:IV) (e:Aa) (i f j k l m:IV):OH :=
 Ab a true d (fun n=>Al [] false false e 43 [i,.fv (.int .i64 5)] d n) fun o g _ _=>Ab a true g (fun p=>A5 EE 3 o (.fv (.int .i64 4)) fun q=>p q g [] []) fun r h _ _=>AG a r (.fv (.bool false)) fun b=>Ab b true h (fun s=>Ac 0 f fun t=>s t h [] []) fun u c _ _=>Ab b true c (fun v=>Af u c fun w x=>v w c x []) fun y z _ _=>Zx z b y e j k l f m
def S49 (f:Aa) (n:Nat) (g h i c:IV) (j:Hp):OH :=
 A4 51380224 h j fun k l _ _=>A4 51380225 i l fun d m _ _=>AH 51380226 (.row [.fv (.int .i64 0),.fv (.int .i64 0),.nils] false) (.ptr (.own 51380226) 0) m fun o e _ _=>Nb EE 3 c (.fv (.int .i64 0)) fun a=>Ab a true e (fun p=>Ac 0 d fun q=>p q e [] []) fun r b _ _=>Ab a true b (fun s=>Af r b fun t u=>s t b u []) fun v w _ _=>Abh w a f v k d c g o
theorem AmG (a:Aa) (n:Nat) (b c d e:IV) (f:Hp):Az EE a ft.get n 49 [b,c,d,e] f=S49 a n b c d e f:=by kernel_rfl
def Ahq (c:Hp) (a d:IV):OH :=
 Ak 3 a d c fun b _ _=>AA true 3 a b fun e=>An [e] b
def S50 (b:Aa) (n:Nat) (c d e:IV) (f:Hp):OH :=
 A4 52428800 c f fun g h _ _=>A4 52428801 e h fun i j _ _=>AH 52428802 (.row [.fv (.int .i64 0),.fv (.int .i64 0),.nils] false) (.ptr (.own 52428802) 0) j fun k a _ _=>Aj 3 g a fun l _=>Aj 3 i a fun m _=>Al [] false false b 60 [l,d,.fv (.int .i64 0),m] a fun o p _ _=>Ahq p k o
theorem Aom (a:Aa) (n:Nat) (b c d:IV) (e:Hp):Az EE a ft.get n 50 [b,c,d] e=S50 a n b c d e:=by kernel_rfl
def AhO (b:IV) (a:Hp) (c:Hp→OH):OH :=
 A5 EE 3 b (.fv (.int .i64 0)) fun d=>Am d (An [.fv (.int .i64 1)] a) (A5 EE 3 b (.fv (.int .i64 2)) fun e=>Am e (An [.fv (.int .i64 2)] a) (c a))
def AhS (d c:IV) (a:Hp) (b:Hp→OH) (e:IV):OH :=
 Am d (A5 EE 3 c (.fv (.int .i64 1)) fun f=>Am f (An [.fv (.int .i64 1)] a) (b a)) (A5 EE 3 e (.fv (.int .i64 13)) fun g=>Am g (AhO c a b) (b a))
def AgW (a:IV) (b:IV→Hp→OH) (c:Hp):OH :=
 A5 EE 3 a (.fv (.int .i64 29)) fun d=>b d c
def AgB (a:IV) (b:IV→Hp→OH) (c:Hp):OH :=
 A5 EE 3 a (.fv (.int .i64 20)) fun d=>Am d (b d c) (A5 EE 3 a (.fv (.int .i64 28)) fun e=>Am e (b e c) (AgW a b c))
def Af6 (c:IV) (a:IV→Hp→OH) (b:Hp) (d:IV):OH :=
 Am c (a c b) (A5 EE 3 d (.fv (.int .i64 6)) fun e=>Am e (a e b) (AgB d a b))
def S51 (k:Aa) (n:Nat) (a e:IV) (b:Hp):OH :=
 (fun (f:Hp→OH)=>(fun (c:IV→Hp→OH)=>A5 EE 3 a (.fv (.int .i64 3)) fun d=>Am d (c d b) (A5 EE 3 a (.fv (.int .i64 4)) fun g=>Af6 g c b a)) fun h i=>AhS h e i f a) fun j=>An [.fv (.int .i64 0)] j
theorem AoM (a:Aa) (n:Nat) (b c:IV) (d:Hp):Az EE a ft.get n 51 [b,c] d=S51 a n b c d:=by kernel_rfl
def LW (b:Aa) (c:Hp) (a d e f:IV) (g:List IV→Hp→OH) (h i:IV):OH :=
 Al [true,false,false] false false b 52 [a,d,e] c fun _ j _ _=>BC EE 3 f (.fv (.int .i64 1)) fun k=>g [a,h,i,k] j
def KG (b:IV) (a:Hp) (c d:IV) (e:Aa) (f:IV) (g:List IV→Hp→OH):OH :=
 Ac 2 b fun h=>Af h a fun i _=>A7 3 i c fun j=>Aj 3 j a fun k _=>BC EE 3 d (.fv (.int .i64 1)) fun l=>LW e a f k l c g d b
def Lo (c:Hp) (a f g h i:IV) (j:Aa) (k:IV) (l:List IV→Hp→OH):OH :=
 Ab a true c (fun m=>Ac 1 f fun n=>m n c [] []) fun o b _ _=>Ab a true b (fun p=>Af o b fun q r=>p q b r []) fun s d _ _=>Ab a true d (fun t=>A5 EE 3 s (.fv (.int .i64 0)) fun u=>t u d [] []) fun v e _ _=>AG a v (.fv (.bool false)) fun w=>Am w (KG g e h i j k l) (An [] e)
def KF (a:Hp) (f c d g h:IV) (i:Aa) (j:List IV→Hp→OH):OH :=
 Af f a fun k _=>BP k fun l=>GV EE 3 c l fun b=>Ab b true a (fun m=>m d a [] []) fun n e _ _=>Ab b true e (fun o=>AE n fun p=>o p e [] []) fun q r _ _=>Lo r b q g c h i d j
def Kl (b:List IV) (c:Hp) (d:Aa) (e:List IV→Hp→OH):OH :=
 Aw b fun f g=>Aw g fun h i=>Aw i fun a j=>Aw j fun k _=>Ac 2 a fun l=>KF c l k f a h d e
def LY (n:Nat) (a:Hp) (b c d:IV) (e:Aa):OH :=
 BE n (fun f g h=>Kl g h e f) [b,c,d,.fv (.int .i64 0)] a
def K6 (a:Hp) (b:IV) (c:Hp→OH):OH :=
 BB b (.fv (.int .i64 5)) a fun d _ _=>c d
def Lu (a:IV) (b:Hp) (c:Hp→OH):OH :=
 Ac 1 a fun d=>BB d (.fv (.int .i64 1)) b fun e _ _=>c e
def LC (e f:AF) (a:Hp) (b g h:IV) (c:Hp→OH):OH :=
 Ad [] e f (Ab b false a (fun i=>CO (L9 .not g) fun j=>i j a [] []) fun k d _ _=>AG b (.fv (.bool true)) k fun l=>Am l (AE h fun m=>Lu m d c) (c d))
def KI (c d:AF) (e:Hp) (a g:IV) (h:Aa) (i j:IV) (k:Hp→OH):OH :=
 Ad [] c d (Ab a false e (fun l=>Ac 1 g fun m=>l m e [] []) fun n b _ _=>Ab a false b (fun o=>Af n b fun p q=>o p b q []) fun r f s t=>Ad [(c,d)] s t (Ab a false f (fun u=>Al [] false false h 62 [i,r] f u) fun v w x y=>LC x y w a v j k))
def LD (e f g h:AF) (i j:IV) (c:Hp) (d:IV) (k:Aa) (l:IV) (m:Hp→OH):OH :=
 Ad [(f,g),(h,[])] e [] (BP i fun n=>Hg EE 3 j n fun a=>Ab a false c (fun o=>Ac 0 d fun p=>o p c [] []) fun q b _ _=>Ab a false b (fun r=>Af q b fun s t=>r s b t []) fun u v w x=>KI w x v a d k u l m)
def LK (a:AF) (b:Aa) (g:Hp) (h c i:IV) (j:Hp→OH):OH :=
 Ad [] a [] (Al [] false false b 61 [h] g fun k d e f=>Ad [] e f (Ac 2 c fun l=>Af l d fun m n=>LD n e f a m k d c b i j))
def KQ (e b:IV) (a:Hp) (c:Hp→OH) (d:IV) (f:Aa):OH :=
 Am e (AE b fun g=>Ac 1 g fun h=>K6 a h c) (Ac 0 d fun i=>Af i a fun j k=>LK k f a j d b c)
def K8 (a:Hp) (d e f:IV) (g:Hp→OH) (h:IV) (i:Aa):OH :=
 Af d a fun j _=>Nb EE 3 j (.fv (.int .i64 3000)) fun b=>Ab b false a (fun k=>k e a [] []) fun l c _ _=>Ab b false c (fun m=>Nb EE 3 l (.fv (.int .i64 120)) fun n=>m n c [] []) fun o p _ _=>AG b (.fv (.bool true)) o fun q=>KQ q f p g h i
def Lt (e:IV) (f:Hp) (g:IV) (n:Nat) (a b c:IV) (d:Aa):OH :=
 Ac 0 e fun h=>BB h g f fun i _ _=>(fun (j:Hp→OH)=>AE a fun k=>Ac 0 k fun l=>K8 i l b a j c d) fun m=>LY n m a b c d
def S52 (c:Aa) (n:Nat) (a d e:IV) (f:Hp):OH :=
 A4 54525952 d f fun g b _ _=>AE a fun h=>Ac 0 h fun i=>Af i b fun j _=>BC EE 3 j (.fv (.int .i64 1)) fun k=>AE a fun l=>Lt l b k n a e g c
theorem AmD (a:Aa) (n:Nat) (b c d:IV) (e:Hp):Az EE a ft.get n 52 [b,c,d] e=S52 a n b c d e:=by kernel_rfl
def AdM (a:Hp) (b c:IV):OH :=
 AA true 3 b a fun d=>An [d,c] a
def AdX (a:Hp) (b f g c h:IV):OH :=
 Ab b true a (fun i=>i f a [] []) fun j d _ _=>AG b j (.fv (.bool false)) fun e=>Ab e true d (fun k=>k g d [] []) fun l m _ _=>AG e l (.fv (.bool false)) fun n=>Ak 3 c h m fun o _ _=>AdM o c n
def YW (a:Hp) (b c d:IV) (e:Aa) (f g h i:IV):OH :=
 Aj 3 b a fun j _=>Aj 3 c a fun k _=>Aj 3 d a fun l _=>Ay (Ah EE 29 3 [(0,j),(1,k),(2,l)]) 55581699 a fun m n _ _=>Al [] false false e 24 [.fv (.int .i64 27),m] n fun o p _ _=>AdX p f g h i o
def Y4 (b:IV) (c:Hp) (d e f g h i:AF) (j k l:IV) (m:Aa) (n o p:IV):OH :=
 AQ 1 b fun q=>AH 55580682 (.row [.fv (.int .i64 0),.fv (.int .i64 0),.nils] false) (.ptr (.own 55580682) 0) c fun a r s t=>Ad [(d,e),(f,g),(h,[]),(i,[])] s t (Ak 3 a j r fun u v w=>Ad [] v w (YW u k l a m n o q p))
def AeB (a b c:AF) (h:IV) (d:Aa) (i:Hp) (j k l:IV) (m:AF) (n o p q r:IV):OH :=
 Ad [(c,[])] a b (Be EE 3 h (.fv (.int .i64 2)) fun s=>Al [] false false d 35 [j,k,l,s] i fun e t f g=>Ad [] f g (AQ 0 e fun u=>Y4 e t f g a b m c u n o d p q r))
def AbA (a:Hp) (e f:IV) (c:Aa) (g h i j k l m:IV):OH :=
 Aj 3 e a fun n b=>Ad [] b [] (Aj 3 f a fun o d=>Ad [(b,[])] d [] (Al [] false false c 46 [o,.fv (.int .i64 2)] a fun p q r s=>AeB r s b g c q h n p d i j k l m))
def AaZ (b:IV) (c:Hp) (d e f g h i:AF) (j k l:IV) (m:Aa) (n o p q r:IV):OH :=
 AQ 1 b fun s=>AH 55579658 (.row [.fv (.int .i64 0),.fv (.int .i64 0),.nils] false) (.ptr (.own 55579658) 0) c fun a t u v=>Ad [(d,e),(f,g),(h,[]),(i,[])] u v (Ak 3 a j t fun w x y=>Ad [] x y (AbA w k l m n o p a q s r))
def AbE (a b c:AF) (d:IV) (e:Aa) (j:Hp) (f k l:IV) (m:AF) (n o p q r:IV):OH :=
 Ad [(c,[])] a b (Be EE 3 d (.fv (.int .i64 2)) fun s=>Al [] false false e 35 [f,k,l,s] j fun g t h i=>Ad [] h i (AQ 0 g fun u=>AaZ g t h i a b m c u n o e d f p q r))
def Aaf (a:Hp) (c d:IV) (e:Aa) (g h i j k:IV):OH :=
 Aj 3 c a fun l b=>Ad [] b [] (Aj 3 d a fun m f=>Ad [(b,[])] f [] (Al [] false false e 46 [m,.fv (.int .i64 1)] a fun n o p q=>AbE p q b g e o h l n f c d i j k))
def Ab8 (b:IV) (c:Hp) (d e f g h i:AF) (j k l:IV) (m:Aa) (n o p:IV):OH :=
 AQ 1 b fun q=>AH 55578634 (.row [.fv (.int .i64 0),.fv (.int .i64 0),.nils] false) (.ptr (.own 55578634) 0) c fun a r s t=>Ad [(d,e),(f,g),(h,[]),(i,[])] s t (Ak 3 a j r fun u v w=>Ad [] v w (Aaf u k l m n o a q p))
def Zu (a b c:AF) (d:IV) (e:Aa) (j:Hp) (f k l:IV) (m:AF) (n o p:IV):OH :=
 Ad [(c,[])] a b (Be EE 3 d (.fv (.int .i64 2)) fun q=>Al [] false false e 35 [f,k,l,q] j fun g r h i=>Ad [] h i (AQ 0 g fun s=>Ab8 g r h i a b m c s n o e d f p))
def AeN (a:Hp) (f c:IV) (d:Aa) (g h i j:IV):OH :=
 Aj 3 f a fun k b=>Ad [] b [] (Aj 3 c a fun l e=>Ad [(b,[])] e [] (Al [] false false d 46 [l,.fv (.int .i64 0)] a fun m n o p=>Zu o p b g d n h k m e i c j))
def YJ (c:Hp) (a d e:IV):OH :=
 Ak 3 a d c fun b _ _=>AA true 3 a b fun f=>An [f,e] b
def AcI (a:Hp) (d e:IV) (f:Aa) (b g h:IV):OH :=
 Aj 3 d a fun i _=>Ay (Ah EE 29 2 [(0,e),(1,i)]) 55586818 a fun j k _ _=>Al [] false false f 24 [.fv (.int .i64 28),j] k fun l c _ _=>Ab b true c (fun m=>m g c [] []) fun n o _ _=>AG b n (.fv (.bool false)) fun p=>YJ o h l p
def YB (c:Hp) (d e f g h i j k l m n:AF) (o p:IV) (q:Aa) (r s t:IV):OH :=
 AH 55585805 (.row [.fv (.int .i64 0),.fv (.int .i64 0),.nils] false) (.ptr (.own 55585805) 0) c fun a u v w=>Ad [(d,e),(f,g),(h,[]),(i,j),(k,[]),(l,m),(n,[])] v w (Ak 3 a o u fun b x y=>Ad [] x y (Aj 3 p b fun z _=>AcI b a z q r s t))
def Zf (e:IV) (a:Aa) (f:Hp) (g h i:IV) (j k l m n o p q r:AF) (s t u:IV):OH :=
 Be EE 3 e (.fv (.int .i64 2)) fun v=>Al [] false false a 35 [g,h,i,v] f fun b w c d=>Ad [] c d (AQ 0 b fun x=>AQ 1 b fun y=>YB w c d j k l m n o p q r x s a t y u)
def Aao (a b:AF) (c:Hp) (l:IV) (d e f g:AF) (h:Aa) (m n o p q r:IV):OH :=
 Ad [] a b (Aj 3 l c fun s i=>Ad [(a,b),(d,[]),(e,f),(g,[])] i [] (Al [] false false h 46 [s,.fv (.int .i64 2)] c fun t u j k=>Ad [] j k (Zf m h u n o t j k i a b d e f g p q r)))
def Adl (a:Aa) (g:Hp) (h i j:IV) (d:AF) (k l m n o:IV):OH :=
 Al [] false false a 22 [h,.fv (.int .i64 0),i] g fun p e b c=>Ad [] b c (Aj 3 j e fun q f=>Ad [(b,c),(d,[])] f [] (Al [] false false a 25 [q,.fv (.int .i64 1),.fv (.int .i64 0)] e fun r s t u=>Aao t u s k f b c d a l p r m n o))
def Aab (d e f g h i j k:AF) (l:Hp) (a m n:IV) (o:Aa) (p q r s t u:IV):OH :=
 Ad [(f,g),(h,i),(j,[]),(k,[])] d e (Ak 3 a m l fun b v w=>Ad [] v w (Aj 3 n b fun x c=>Ad [] c [] (Adl o b p x q c r s a t u)))
def Z1 (a:Aa) (f:Hp) (b g h i:IV) (j k l m:AF) (n o p q r:IV):OH :=
 Al [] false false a 35 [b,g,h,i] f fun c s d e=>Ad [] d e (AQ 0 c fun t=>AQ 1 c fun u=>AH 55584778 (.row [.fv (.int .i64 0),.fv (.int .i64 0),.nils] false) (.ptr (.own 55584778) 0) s fun v w x y=>Aab x y d e j k l m w v t n a b o p q u r)
def Aez (b:Hp) (c:IV) (a:AF) (d:Aa) (e i j k l m:IV):OH :=
 Aj 3 c b fun n f=>Ad [(a,[])] f [] (Al [] false false d 46 [n,.fv (.int .i64 1)] b fun o p g h=>Ad [(a,[])] g h (Be EE 3 e (.fv (.int .i64 2)) fun q=>Z1 d p i j o q g h f a k l c e m))
def Aae (b:Aa) (e:Hp) (f g h i j k:IV):OH :=
 Al [] false false b 34 [f,.fv (.int .i64 1)] e fun l m _ _=>AH 55583747 (.row [.fv (.int .i64 0),.fv (.int .i64 0),.nils] false) (.ptr (.own 55583747) 0) m fun a n _ _=>Ak 3 a l n fun c _ _=>Aj 3 a c fun o d=>Ad [] d [] (Aez c g d b h i o a j k)
def AcY (a:Hp) (b e c f:IV):OH :=
 Ab b true a (fun g=>g e a [] []) fun h i _ _=>AG b h (.fv (.bool false)) fun j=>Ak 3 c f i fun d k l=>Ad [] k l (AA true 3 c d fun m=>An [m,j] d)
def Aaa (a b c d e f g:AF) (h:Hp) (i j:IV) (k:Aa) (l m n:IV):OH :=
 Ad [(b,c),(d,e),(f,[]),(g,[])] a [] (Ay (Ah EE 29 2 [(0,i),(1,j)]) 55591941 h fun o p q r=>Ad [] q r (Al [] false false k 24 [.fv (.int .i64 21),o] p fun s t u v=>Ad [] u v (AcY t l m n s)))
def Abe (g:Hp) (h i:IV) (a:Aa) (j:IV) (k l:AF) (m n o:IV):OH :=
 Ay (Ah EE 29 2 [(0,h),(1,i)]) 55591938 g fun p q b c=>Ad [] b c (Al [] false false a 24 [.fv (.int .i64 20),p] q fun r d e f=>Ad [] e f (Aj 3 j d fun s t=>Aaa t e f b c k l d r s a m n o))
def YR (d e:AF) (a:Hp) (f g:IV) (h:Aa) (i j k l:IV):OH :=
 Ad [] d e (Aj 3 f a fun m b=>Ad [] b [] (Aj 3 g a fun n c=>Ad [(b,[])] c [] (Abe a m n h i c b j k l)))
def Ac1 (a:IV) (c:Hp) (d e f g h i j k l m n:AF) (o:IV) (p:Aa) (q r s:IV):OH :=
 AQ 0 a fun t=>AQ 1 a fun u=>AH 55590925 (.row [.fv (.int .i64 0),.fv (.int .i64 0),.nils] false) (.ptr (.own 55590925) 0) c fun b v w x=>Ad [(d,e),(f,g),(h,[]),(i,j),(k,[]),(l,m),(n,[])] w x (Ak 3 b t v fun y z A=>YR z A y o b p q r u s)
def Yy (a:Aa) (f:Hp) (g h i j:IV) (k l m n o p q:AF) (r s t u:IV):OH :=
 Al [] false false a 46 [g,.fv (.int .i64 2)] f fun v w b c=>Ad [] b c (Be EE 3 h (.fv (.int .i64 2)) fun x=>Al [] false false a 35 [i,j,v,x] w fun y z d e=>Ad [] d e (Ac1 y z d e b c k l m n o p q r a s t u))
def Z0 (a b c d:AF) (g:Aa) (j:Hp) (k l m n o p q r:IV):OH :=
 Ad [(b,c),(d,[])] a [] (Al [] false false g 25 [k,.fv (.int .i64 1),.fv (.int .i64 0)] j fun s h e f=>Ad [] e f (Aj 3 l h fun t i=>Ad [(e,f),(a,[]),(b,c),(d,[])] i [] (Yy g h t m n s i e f a b c d o p q r)))
def AdZ (a:Hp) (b:IV) (c:Aa) (h i j k l m n:IV):OH :=
 Aj 3 b a fun o d=>Ad [] d [] (Al [] false false c 22 [h,.fv (.int .i64 0),o] a fun p e f g=>Ad [] f g (Aj 3 i e fun q r=>Z0 r f g d c e q j k p b l m n))
def AeC (b:IV) (c:Hp) (d e f g h i:AF) (j k:IV) (l:Aa) (m n o p q:IV):OH :=
 AQ 1 b fun r=>AH 55589898 (.row [.fv (.int .i64 0),.fv (.int .i64 0),.nils] false) (.ptr (.own 55589898) 0) c fun a s t u=>Ad [(d,e),(f,g),(h,[]),(i,[])] t u (Ak 3 a j s fun v w x=>Ad [] w x (AdZ v k l m n o p a r q))
def AaU (a b c:AF) (d:IV) (e:Aa) (j:Hp) (f k l:IV) (m:AF) (n o p q:IV):OH :=
 Ad [(c,[])] a b (Be EE 3 d (.fv (.int .i64 2)) fun r=>Al [] false false e 35 [f,k,l,r] j fun g s h i=>Ad [] h i (AQ 0 g fun t=>AeC g s h i a b m c t n e f o p d q))
def ZF (a:Hp) (c d:IV) (e:Aa) (g h i j:IV):OH :=
 Aj 3 c a fun k b=>Ad [] b [] (Aj 3 d a fun l f=>Ad [(b,[])] f [] (Al [] false false e 46 [l,.fv (.int .i64 1)] a fun m n o p=>AaU o p b g e n h k m f c i d j))
def AbI (b:Hp) (c:IV) (a:Aa) (e f g h:IV):OH :=
 Aj 3 c b fun i _=>Al [] false false a 46 [i,.fv (.int .i64 0)] b fun j k _ _=>Al [] false false a 34 [j,.fv (.int .i64 1)] k fun l m _ _=>AH 55588867 (.row [.fv (.int .i64 0),.fv (.int .i64 0),.nils] false) (.ptr (.own 55588867) 0) m fun d n _ _=>Ak 3 d l n fun o _ _=>ZF o d c a e f g h
def AbJ (c d:IV) (e:Hp) (a f:IV):OH :=
 AG c d (.fv (.bool false)) fun g=>Ak 3 a f e fun b _ _=>AA true 3 a b fun h=>An [h,g] b
def Ac3 (d:Hp) (e f:IV) (a:Aa) (b g h:IV):OH :=
 Ay (Ah EE 29 2 [(0,e),(1,f)]) 55596034 d fun i j _ _=>Al [] false false a 24 [.fv (.int .i64 22),i] j fun k l _ _=>Ay (Ah EE 29 1 [(0,k)]) 55596036 l fun m n _ _=>Al [] false false a 24 [.fv (.int .i64 23),m] n fun o c _ _=>Ab b true c (fun p=>p g c [] []) fun q r _ _=>AbJ b q r h o
def YO (c d e f g h i j:AF) (k:Hp) (b l m:IV) (n:Aa) (o p q:IV):OH :=
 Ad [(e,f),(g,h),(i,[]),(j,[])] c d (Ak 3 b l k fun a r s=>Ad [] r s (Aj 3 m a fun t _=>Aj 3 b a fun u _=>Ac3 a t u n o p q))
def Aci (a:Aa) (e:Hp) (f g h i:IV) (j k l m:AF) (n o p:IV):OH :=
 Al [] false false a 35 [f,g,h,i] e fun b q c d=>Ad [] c d (AQ 0 b fun r=>AQ 1 b fun s=>AH 55595018 (.row [.fv (.int .i64 0),.fv (.int .i64 0),.nils] false) (.ptr (.own 55595018) 0) q fun t u v w=>YO v w c d j k l m u t r n a o s p)
def Acs (b:Hp) (g:IV) (a:AF) (c:Aa) (h i j k l m:IV):OH :=
 Aj 3 g b fun n d=>Ad [(a,[])] d [] (Al [] false false c 46 [n,.fv (.int .i64 1)] b fun o p e f=>Ad [(a,[])] e f (Be EE 3 h (.fv (.int .i64 2)) fun q=>Aci c p i j o q e f d a k l m))
def Adr (d e f g h i j k:AF) (l:Hp) (a m n o:IV) (p:Aa) (q r s t:IV):OH :=
 Ad [(f,g),(h,i),(j,[]),(k,[])] d e (Ak 3 a m l fun b u v=>Ad [] u v (Aj 3 n b fun w c=>Ad [] c [] (Acs b o c p q r w a s t)))
def Aec (a:Aa) (f:Hp) (b g h i:IV) (j k l m:AF) (n o p q:IV):OH :=
 Al [] false false a 35 [b,g,h,i] f fun c r d e=>Ad [] d e (AQ 0 c fun s=>AQ 1 c fun t=>AH 55593994 (.row [.fv (.int .i64 0),.fv (.int .i64 0),.nils] false) (.ptr (.own 55593994) 0) r fun u v w x=>Adr w x d e j k l m v u s n o a p b t q)
def AdB (b:Hp) (c:IV) (a:AF) (d:Aa) (e i j k l:IV):OH :=
 Aj 3 c b fun m f=>Ad [(a,[])] f [] (Al [] false false d 46 [m,.fv (.int .i64 0)] b fun n o g h=>Ad [(a,[])] g h (Be EE 3 e (.fv (.int .i64 2)) fun p=>Aec d o i j n p g h f a k c e l))
def YC (c:Hp) (a d e:IV):OH :=
 Ak 3 a d c fun b _ _=>AA true 3 a b fun f=>An [f,e] b
def Aca (b c:AF) (a:Hp) (d e:IV) (f:Aa) (g h:IV):OH :=
 Ad [] b c (Aj 3 d a fun i _=>Aj 3 e a fun j _=>Ay (Ah EE 29 2 [(0,i),(1,j)]) 55599106 a fun k l _ _=>Al [] false false f 24 [.fv (.int .i64 29),k] l fun m n _ _=>YC n g m h)
def AdG (a:IV) (c:Hp) (d e f g h i j k l m n:AF) (o:IV) (p:Aa) (q:IV):OH :=
 AQ 0 a fun r=>AQ 1 a fun s=>AH 55598093 (.row [.fv (.int .i64 0),.fv (.int .i64 0),.nils] false) (.ptr (.own 55598093) 0) c fun b t u v=>Ad [(d,e),(f,g),(h,[]),(i,j),(k,[]),(l,m),(n,[])] u v (Ak 3 b r t fun w x y=>Aca x y w o b p q s)
def Y0 (a:Aa) (f:Hp) (g h i j:IV) (k l m n o p q:AF) (r s:IV):OH :=
 Al [] false false a 46 [g,.fv (.int .i64 0)] f fun t u b c=>Ad [] b c (Be EE 3 h (.fv (.int .i64 2)) fun v=>Al [] false false a 35 [i,j,t,v] u fun w x d e=>Ad [] d e (AdG w x d e b c k l m n o p q r a s))
def Aei (a b c d:AF) (g:Aa) (j:Hp) (k l m n o p:IV):OH :=
 Ad [(b,c),(d,[])] a [] (Al [] false false g 25 [k,.fv (.int .i64 1),.fv (.int .i64 0)] j fun q h e f=>Ad [] e f (Aj 3 l h fun r i=>Ad [(e,f),(a,[]),(b,c),(d,[])] i [] (Y0 g h r m n q i e f a b c d o p)))
def AdF (b:Hp) (a:IV) (c:Aa) (h i j k:IV):OH :=
 Aj 3 a b fun l d=>Ad [] d [] (Al [] false false c 22 [h,.fv (.int .i64 0),l] b fun m e f g=>Ad [] f g (Aj 3 a e fun n o=>Aei o f g d c e n i j m a k))
def Aal (c:Hp) (d:IV) (e:Aa) (a f:IV):OH :=
 Ay (Ah EE 29 1 [(0,d)]) 55601153 c fun g h _ _=>Al [] false false e 24 [.fv (.int .i64 30),g] h fun i j _ _=>Ak 3 a i j fun b _ _=>AA true 3 a b fun k=>An [k,f] b
def Aeh (c:Hp) (d e f g h i j k l m:AF) (n:IV) (o:Aa) (p q:IV):OH :=
 AH 55600140 (.row [.fv (.int .i64 0),.fv (.int .i64 0),.nils] false) (.ptr (.own 55600140) 0) c fun a r s t=>Ad [(d,e),(f,g),(h,[]),(i,j),(k,l),(m,[])] s t (Ak 3 a n r fun b u v=>Ad [] u v (Aj 3 a b fun w _=>Aal b w o p q))
def AdS (e:IV) (a:Aa) (f:Hp) (g h i:IV) (j k l m n o p q:AF) (r:IV):OH :=
 Be EE 3 e (.fv (.int .i64 1)) fun s=>Al [] false false a 23 [g,h,i,s] f fun b t c d=>Ad [] c d (AQ 0 b fun u=>AQ 1 b fun v=>Aeh t c d j k l m n o p q u a r v)
def AaV (a b:AF) (c:Hp) (k:IV) (d e f:AF) (g:Aa) (l m n o:IV):OH :=
 Ad [] a b (Aj 3 k c fun p h=>Ad [(a,b),(d,e),(f,[])] h [] (Al [] false false g 46 [p,.fv (.int .i64 0)] c fun q r i j=>Ad [] i j (AdS l g r m n q i j h a b d e f o)))
def Ab6 (a:Hp) (f:IV) (b:Aa) (g h i j:IV):OH :=
 Aj 3 f a fun k c=>Ad [] c [] (Ay (Ah EE 29 1 [(0,k)]) 55600130 a fun l m d e=>Ad [] d e (Al [] false false b 24 [.fv (.int .i64 18),l] m fun n o p q=>AaV p q o g d e c b h i n j))
def ZB (h:IV) (a:Hp) (b c:IV) (d:Aa) (e f j g:IV):OH :=
 A5 EE 3 h (.fv (.int .i64 3)) fun k=>Am k (Aj 3 b a fun l i=>Ad [] i [] (AdB a c i d e f l j g)) (A5 EE 3 h (.fv (.int .i64 4)) fun m=>Am m (AdF a b d f c e g) (Ab6 a b d c e f g))
def AcG (d:IV) (a:Hp) (b:IV) (c:Aa) (e f g h i:IV):OH :=
 A5 EE 3 d (.fv (.int .i64 1)) fun j=>Am j (Aj 3 b a fun k _=>Al [] false false c 46 [k,.fv (.int .i64 0)] a fun l m _ _=>Aae c m l b e f g h) (A5 EE 3 d (.fv (.int .i64 2)) fun n=>Am n (AbI a b c e f g h) (ZB d a g b c e f i h))
def Zj (a:IV) (c:Hp) (b:Aa) (d e f g h:IV):OH :=
 Ac 1 a fun k=>Af k c fun l _=>Al [] false false b 43 [l,.fv (.int .i64 7)] c fun i j _ _=>A5 EE 3 i (.fv (.int .i64 0)) fun m=>Am m (AeN j d a b e f g h) (AcG i j a b e f g h d)
def S53 (a:Aa) (n:Nat) (c d e f:IV) (g:Hp):OH :=
 A4 55574528 d g fun h i _ _=>A4 55574529 e i fun j k _ _=>AH 55574530 (.row [.fv (.int .i64 0),.fv (.int .i64 0),.nils] false) (.ptr (.own 55574530) 0) k fun l m _ _=>Al [] false false a 24 [.fv (.int .i64 15),.nils] m fun o p _ _=>AH 55575553 (.row [.fv (.int .i64 0),.fv (.int .i64 0),.nils] false) (.ptr (.own 55575553) 0) p fun b q _ _=>Ak 3 b o q fun r _ _=>Zj j r a b f c h l
theorem AnT (a:Aa) (n:Nat) (b c d e:IV) (f:Hp):Az EE a ft.get n 53 [b,c,d,e] f=S53 a n b c d e f:=by kernel_rfl
def Mz (a:Hp) (b c:IV):OH :=
 Af b a fun d _=>A5 EE 3 d c fun e=>An [e] a
def Mh (a c:IV) (d:Aa) (e:Hp) (f g:IV) (h:List IV→Hp→OH) (i:IV):OH :=
 BC EE 3 a c fun j=>Al [] false false d 54 [f,j] e fun k b l m=>Ad [] l m (Am k (An [.fv (.bool true)] b) (BC EE 3 g (.fv (.int .i64 1)) fun n=>h [a,i,n] b))
def Mj (a:IV) (b:Hp) (c d:AF) (e:Aa) (f g h:IV) (i:List IV→Hp→OH):OH :=
 Ac 0 a fun j=>Af j b fun k l=>Ad [(c,[]),(d,[])] l [] (Al [] false false e 51 [k,f] b fun m n o p=>Ad [(c,[]),(d,[])] o p (Mh g m e n h f i a))
def Mx (a:Hp) (e b f:IV) (g:Aa) (h:IV) (i:List IV→Hp→OH):OH :=
 Af e a fun j c=>Ad [] c [] (A7 3 j b fun k=>Aj 3 k a fun l d=>Ad [] d [] (Mj f a d c g b h l i))
def MB (d a b:IV) (c:Hp) (e:Aa) (f:IV) (g:List IV→Hp→OH):OH :=
 BP d fun h=>GV EE 3 a h fun i=>Am i (Ac 2 b fun j=>Mx c j a b e f g) (An [.fv (.bool false)] c)
def UW (c:List IV) (a:Hp) (d:Aa) (e:List IV→Hp→OH):OH :=
 Aw c fun f g=>Aw g fun b h=>Aw h fun i _=>Ac 2 b fun j=>Af j a fun k _=>MB k i b a d f e
def S54 (d:Aa) (n:Nat) (e c:IV) (f:Hp):OH :=
 A4 56623104 e f fun a b _ _=>Ac 0 a fun g=>Af g b fun h _=>A5 EE 3 h (.fv (.int .i64 1)) fun i=>Am i (Ac 1 a fun j=>Mz b j c) (BE n (fun k l m=>UW l m d k) [c,a,.fv (.int .i64 0)] b)
theorem AnJ (a:Aa) (n:Nat) (b c:IV) (d:Hp):Az EE a ft.get n 54 [b,c] d=S54 a n b c d:=by kernel_rfl
def P3 (c:Hp) (a:IV):OH :=
 BA [.fv (.int .i64 0),.fv (.int .i64 0),.nils] [] fun d=>Ak 3 a d c fun b _ _=>AA true 3 a b fun e=>An [e,.fv (.int .i64 1)] b
def PK (b c d:AF) (a:Hp) (e f:IV):OH :=
 Ad [(d,[])] b c (AA true 3 e a fun g=>An [g,f] a)
def PA (d:IV) (a:Hp) (b e:IV):OH :=
 AE d fun f=>Ac 3 f fun g=>Af g a fun h c=>Ad [] c [] (Ak 3 b e a fun i j k=>PK j k c i b h)
def PD (a:Hp) (b c:IV):OH :=
 AA true 3 b a fun d=>An [d,c] a
def PX (d:IV) (a:Hp) (b e:IV):OH :=
 Ac 3 d fun f=>Af f a fun g c=>Ad [] c [] (Ak 3 b e a fun h i j=>Ad [(c,[])] i j (PD h b g))
def OI (a:Hp) (b:IV):OH :=
 AA true 3 b a fun c=>An [c,.fv (.int .i64 0)] a
def Oq (c d:IV) (a:Hp) (b e:IV):OH :=
 Hg EE 37 c (.fv (.int .i64 0)) fun f=>Am f (BA [.fv (.int .i64 0),.fv (.int .i64 0),.nils] [] fun g=>AE d fun h=>PX h a b g) (Aj 3 e a fun i _=>Ak 3 b i a fun j _ _=>OI j b)
def OG (d:Hp) (e a f:IV):OH :=
 AH 57678851 (.row [.fv (.int .i64 0),.fv (.int .i64 0),.nils] false) (.ptr (.own 57678851) 0) d fun b g _ _=>Ak 3 b e g fun c _ _=>AE a fun h=>Ac 3 h fun i=>Af i c fun j _=>Oq j a c f b
def Pu (a:Hp) (d b c:IV) (e:Aa) (f:IV):OH :=
 Af d a fun g _=>Hg EE 37 g (.fv (.int .i64 0)) fun h=>Am h (BA [.fv (.int .i64 0),.fv (.int .i64 0),.nils] [] fun i=>PA b a c i) (Al [true,false,false,false] false false e 66 [b,f,.fv (.int .i64 0),.fv (.int .i64 1)] a fun j k _ _=>OG k j b c)
def OY (a:Aa) (d:Hp) (e f:IV):OH :=
 Ai6 a 64 [] d fun b c _ _=>Aj 3 e c fun g _=>Al [true,false,false] false false a 65 [b,.fv .nilp,g] c fun h i _ _=>AE b fun j=>Ac 3 j fun k=>Pu i k b f a h
def S55 (a:Aa) (n:Nat) (f:IV) (g:Hp):OH :=
 A4 57671680 f g fun b h _ _=>AH 57671681 (.row [.fv (.int .i64 0),.fv (.int .i64 0),.nils] false) (.ptr (.own 57671681) 0) h fun c d _ _=>Aj 3 b d fun i _=>Al [] false false a 63 [i] d fun j e _ _=>CO (L9 .not j) fun k=>Am k (P3 e c) (OY a e b c)
theorem App (a:Aa) (n:Nat) (b:IV) (c:Hp):Az EE a ft.get n 55 [b] c=S55 a n b c:=by kernel_rfl
def AgD (a:Hp) (d:IV) (e:Aa) (b:IV):OH :=
 Aj 3 d a fun f _=>Al [] false false e 67 [f] a fun g h _ _=>Ak 3 b g h fun c _ _=>AA true 3 b c fun i=>An [i] c
def AhL (a:Hp) (d:IV) (e:Aa) (b:IV):OH :=
 Aj 3 d a fun f _=>Al [] false false e 68 [f] a fun g h _ _=>Ak 3 b g h fun c _ _=>AA true 3 b c fun i=>An [i] c
def S56 (a:Aa) (n:Nat) (f:IV) (g:Hp):OH :=
 A4 58720256 f g fun b h _ _=>AH 58720257 (.row [.fv (.int .i64 0),.fv (.int .i64 0),.nils] false) (.ptr (.own 58720257) 0) h fun c d _ _=>Aj 3 b d fun i _=>Al [] false false a 63 [i] d fun j e _ _=>CO (L9 .not j) fun k=>Am k (AgD e b a c) (AhL e b a c)
theorem Ao3 (a:Aa) (n:Nat) (b:IV) (c:Hp):Az EE a ft.get n 56 [b] c=S56 a n b c:=by kernel_rfl
def To (a:Hp) (b d:IV) (e:Aa) (f:IV):OH :=
 Ab b true a (fun g=>Af d a fun h i=>g h a i []) fun j c _ _=>Ab b true c (fun k=>Al [] false false e 69 [f,j,.fv (.func (.func 57) [] [])] c k) fun l m _ _=>AG b l (.fv (.bool false)) fun n=>An [n] m
def T9 (c:Hp) (d g h i j:IV) (k:Aa):OH :=
 Ab d true c (fun l=>A5 EE 3 g h fun m=>l m c [] []) fun n e _ _=>AG d n (.fv (.bool false)) fun a=>Ab a true e (fun o=>Ac 2 i fun p=>o p e [] []) fun q b _ _=>Ab a true b (fun r=>Af q b fun s t=>r s b t []) fun u f _ _=>Ab a true f (fun v=>Ac 2 j fun w=>v w f [] []) fun x y _ _=>To y a x k u
def Uv (h i:IV) (d:Hp) (e f:IV) (j:Aa):OH :=
 A5 EE 3 h i fun a=>Ab a true d (fun k=>Ac 1 e fun l=>k l d [] []) fun m b _ _=>Ab a true b (fun n=>Af m b fun o p=>n o b p []) fun q g _ _=>Ab a true g (fun r=>Ac 1 f fun s=>r s g [] []) fun t c _ _=>Ab a true c (fun u=>Af t c fun v w=>u v c w []) fun x y _ _=>T9 y a q x e f j
def S57 (d:Aa) (n:Nat) (e f:IV) (g:Hp):OH :=
 A4 59768832 e g fun b h _ _=>A4 59768833 f h fun c a _ _=>Ac 0 b fun i=>Af i a fun j _=>Ac 0 c fun k=>Af k a fun l _=>Uv j l a b c d
theorem AnC (a:Aa) (n:Nat) (b c:IV) (d:Hp):Az EE a ft.get n 57 [b,c] d=S57 a n b c d:=by kernel_rfl
def S58 (j:Aa) (n:Nat) (a b:IV) (c:Hp):OH :=
 Ay (Ah EE 87 0 []) 60818432 c fun d e _ _=>Ay (AY EE 60818434 false .append [87,87] [d,a]) 60818434 e fun f g _ _=>Ay (AY EE 60818436 false .append [87,87] [f,b]) 60818436 g fun h i _ _=>An [h] i
theorem AmL (a:Aa) (n:Nat) (b c:IV) (d:Hp):Az EE a ft.get n 58 [b,c] d=S58 a n b c d:=by kernel_rfl
def Ac6 (a b:AF) (c:Hp) (d:IV):OH :=
 Ad [] a b (An [d] c)
def Abl (c:Hp) (d:IV) (e a:AF) (b:Aa) (f g h:IV):OH :=
 Ay (Ah EE 87 1 [(0,d)]) 61872143 c fun i j k l=>Ad [(e,[]),(a,[])] k l (Al [] false false b 58 [f,i] j fun m n o p=>Ad [(a,[])] o p (Al [true,false,false] false false b 42 [g,h,m] n fun q r s t=>Ac6 s t r q))
def Ace (a:Hp) (d:IV) (b c:AF) (e:Aa) (f g h:IV):OH :=
 Af d a fun i j=>Ad [(b,[]),(c,[])] j [] (A7 1 i (.fv (.int .i64 1)) fun k=>Af k a fun l m=>Ad [(b,[]),(c,[])] m [] (Abl a l b c e f g h))
def YZ (d:IV) (a:Hp) (b:AF) (e:IV) (f:Aa) (g h:IV):OH :=
 Ac 3 d fun i=>Af i a fun j c=>Ad [(b,[])] c [] (AE e fun k=>Ac 2 k fun l=>Ace a l c b f j g h)
def Ad7 (a:IV) (b:Hp) (d:IV) (e:Aa) (f:IV):OH :=
 AE a fun g=>Ac 4 g fun h=>Aj 3 h b fun i c=>Ad [] c [] (AE a fun j=>YZ j b c d e f i)
def AbX (b:IV) (a:Hp) (c:IV) (d:Aa) (e:IV):OH :=
 AE b fun f=>Ac 2 f fun g=>Af g a fun h _=>A7 1 h (.fv (.int .i64 1)) fun i=>Af i a fun j _=>Ad7 j a c d e
def Zt (b:IV) (a:Hp) (c:Aa) (d:IV):OH :=
 AE b fun e=>Ac 2 e fun f=>Af f a fun g _=>A7 1 g (.fv (.int .i64 0)) fun h=>Af h a fun i _=>AbX i a b c d
def AeJ (b c:IV) (a:Hp):OH :=
 A7 1 b c fun d=>Af d a fun e f=>Ad [] f [] (An [e] a)
def AaS (b:IV) (a:Hp) (c d e:AF) (f:IV):OH :=
 Ac 0 b fun g=>Af g a fun h i=>Ad [(c,[]),(d,[]),(e,[])] i [] (BC EE 3 (.fv (.int .i64 1)) h fun j=>Be EE 3 j (.fv (.int .i64 8)) fun k=>AeJ f k a)
def AdO (c:IV) (a:Hp) (d:IV) (e f:AF):OH :=
 AE c fun g=>Ac 2 g fun h=>Af h a fun i b=>Ad [] b [] (AE d fun j=>AaS j a b e f i)
def Ac7 (a:Hp) (d e:IV):OH :=
 Af d a fun f b=>Ad [] b [] (A7 1 f (.fv (.int .i64 0)) fun g=>Af g a fun h c=>Ad [] c [] (AdO h a e c b))
def Y5 (c:Aa) (d:Hp) (e a:IV) (f:Hp→OH):OH :=
 Al [true] false false c 70 [e] d fun g b _ _=>Am g (AE a fun h=>Ac 2 h fun i=>Ac7 b i a) (f b)
def Ade (b:IV) (a:Hp):OH :=
 AE b fun c=>Ac 2 c fun d=>Af d a fun e _=>A7 1 e (.fv (.int .i64 0)) fun f=>Af f a fun g _=>An [g] a
def AaY (b:IV) (a:Hp):OH :=
 AE b fun c=>Ac 2 c fun d=>Af d a fun e _=>A7 1 e (.fv (.int .i64 0)) fun f=>Af f a fun g _=>Ade g a
def Ac0 (a:Hp) (b:IV):OH :=
 Af b a fun c _=>A7 1 c (.fv (.int .i64 1)) fun d=>Af d a fun e _=>An [e] a
def AbH (b c:IV) (a:Hp) (d:Hp→OH):OH :=
 Am b (AE c fun e=>Ac 2 e fun f=>Ac0 a f) (d a)
def AbD (c d e a:AF) (b:Aa) (f:Hp) (g h i j:IV):OH :=
 Ad [(e,[]),(a,[])] c d (Al [] false false b 58 [g,h] f fun k l m n=>Ad [(a,[])] m n (Al [true,false,false] false false b 42 [i,j,k] l fun o p q r=>Ad [] q r (An [o] p)))
def Ado (d:IV) (a:Hp) (b:AF) (e f:IV) (g:Aa) (h i:IV):OH :=
 AE d fun j=>Ac 3 j fun k=>Af k a fun l c=>Ad [(b,[])] c [] (Ay (Ah EE 87 2 [(0,e),(1,f)]) 61888523 a fun m n o p=>AbD o p c b g n l m h i)
def Aen (a:Hp) (d e f:IV) (g:Aa) (h:IV):OH :=
 Af d a fun b _=>AE b fun i=>Ac 4 i fun j=>Aj 3 j a fun k c=>Ad [] c [] (Ado b a c e f g h k)
def Zc (b c:AF) (d:IV) (a:Hp) (e f:IV) (g:Aa) (h:IV):OH :=
 Ad [] b c (AE d fun i=>Ac 2 i fun j=>Af j a fun k _=>A7 1 k (.fv (.int .i64 2)) fun l=>Aen a l e f g h)
def Ab4 (c d:AF) (e:IV) (f:Hp) (a:Aa) (b g h:IV):OH :=
 Ad [] c d (BA [.fv (.int .i64 0),.fv (.int .i64 0),.nils,.nils,.fv (.int .i64 0),.fv (.int .i64 0),.nils] [(0,1,.fv (.int .i64 13)),(2,1,e)] fun i=>A4 61886486 i f fun j k l m=>Ad [] l m (Al [true,false] false false a 59 [b,j] k fun n o p q=>Zc p q g o h n a b))
def AeI (g a b c d:AF) (h:IV) (e:Hp) (i j f:IV) (k:Aa) (l m:IV):OH :=
 Ad [(a,[]),(b,[]),(c,[]),(d,[])] g [] (A7 1 h (.fv (.int .i64 2)) fun n=>Af n e fun o p=>Ad [(a,[]),(b,[]),(c,[]),(d,[])] p [] (Ay (Ah EE 87 4 [(0,i),(1,j),(2,o),(3,f)]) 61886484 e fun q r s t=>Ab4 s t q r k l m f))
def Acx (a:Hp) (f:IV) (b c:AF) (d:IV) (g:AF) (h i:IV) (j:Aa) (k:IV):OH :=
 Af f a fun l e=>Ad [(b,[]),(c,[])] e [] (AE d fun m=>Ac 2 m fun n=>Af n a fun o p=>AeI p e g b c o a h l i j k d)
def Aep (a:IV) (b:Hp) (c d:AF) (f g:IV) (h:Aa) (i:IV):OH :=
 AE a fun j=>Ac 2 j fun k=>Af k b fun l e=>Ad [(c,[]),(d,[])] e [] (A7 1 l (.fv (.int .i64 1)) fun m=>Acx b m c d a e f g h i)
def Aa6 (a:Hp) (d e f:IV) (g:Aa) (h:IV):OH :=
 Af d a fun i b=>Ad [] b [] (A7 1 i (.fv (.int .i64 0)) fun j=>Af j a fun k c=>Ad [] c [] (Aep e a c b k f g h))
def Aas (a:Hp) (c b:IV) (d:Aa) (e:IV):OH :=
 Af c a fun f _=>A7 1 f (.fv (.int .i64 0)) fun g=>Af g a fun h _=>AE b fun i=>Ac 2 i fun j=>Aa6 a j b h d e
def YP (a:Hp) (b c:IV) (d:Aa) (e:IV):OH :=
 Af b a fun f _=>A7 1 f (.fv (.int .i64 3)) fun g=>Af g a fun h _=>AE h fun i=>Ac 2 i fun j=>Aas a j c d e
def Ab2 (a:Aa) (e:Hp) (b c:IV) (f:Hp→OH):OH :=
 Al [true] false false a 70 [b] e fun g d _ _=>Am g (AE c fun h=>Ac 2 h fun i=>YP d i c a b) (f d)
def Aay (c:Hp) (a g:IV) (h:Aa) (i j:IV) (d:Hp→OH):OH :=
 Ab a true c (fun k=>Ac 0 g fun l=>k l c [] []) fun m b _ _=>Ab a true b (fun n=>Af m b fun o p=>n o b p []) fun q e _ _=>Ab a true e (fun r=>A5 EE 3 q (.fv (.int .i64 12)) fun s=>r s e [] []) fun t f _ _=>AG a t (.fv (.bool false)) fun u=>Am u (Ab2 h f i j d) (d f)
def AdV (d:Hp) (a g:IV) (h:Aa) (i j:IV) (k:Hp→OH):OH :=
 Ab a true d (fun l=>Ac 2 g fun m=>l m d [] []) fun n b _ _=>Ab a true b (fun o=>Af n b fun p q=>o p b q []) fun r e _ _=>Ab a true e (fun s=>A7 1 r (.fv (.int .i64 3)) fun t=>s t e [] []) fun u c _ _=>Ab a true c (fun v=>Af u c fun w x=>v w c x []) fun y f _ _=>Ab a true f (fun z=>AE y fun A=>z A f [] []) fun B C _ _=>Aay C a B h i j k
def AcP (e:IV) (a:Hp) (c:IV) (f:Aa) (g:IV) (h:Hp→OH):OH :=
 Ac 0 e fun i=>Af i a fun j _=>A5 EE 3 j (.fv (.int .i64 13)) fun b=>Ab b true a (fun k=>k c a [] []) fun l d _ _=>Ab b true d (fun m=>AE l fun n=>m n d [] []) fun o p _ _=>AdV p b o f g c h
def AcC (a:Hp) (b i:IV) (d:Aa) (e c:IV) (f:Hp→OH):OH :=
 Ab b true a (fun j=>Af i a fun k l=>j k a l []) fun m g _ _=>Ab b true g (fun n=>A5 EE 3 m (.fv (.int .i64 11)) fun o=>n o g [] []) fun p h _ _=>AG b p (.fv (.bool false)) fun q=>Am q (Al [true] false false d 70 [e] h fun r s _ _=>AbH r c s f) (AE c fun t=>AcP t h c d e f)
def YY (b:Hp) (a g:IV) (h:Aa) (i j:IV) (k:Hp→OH):OH :=
 Ab a true b (fun l=>Af g b fun m n=>l m b n []) fun o d _ _=>Ab a true d (fun p=>A7 1 o (.fv (.int .i64 3)) fun q=>p q d [] []) fun r c _ _=>Ab a true c (fun s=>Af r c fun t u=>s t c u []) fun v e _ _=>Ab a true e (fun w=>AE v fun x=>w x e [] []) fun y f _ _=>Ab a true f (fun z=>Ac 0 y fun A=>z A f [] []) fun B C _ _=>AcC C a B h i j k
def AbF (b:Hp) (f c:IV) (g:Aa) (h:IV) (i:Hp→OH):OH :=
 Af f b fun j _=>A5 EE 3 j (.fv (.int .i64 13)) fun a=>Ab a true b (fun k=>k c b [] []) fun l d _ _=>Ab a true d (fun m=>AE l fun n=>m n d [] []) fun o e _ _=>Ab a true e (fun p=>Ac 2 o fun q=>p q e [] []) fun r s _ _=>YY s a r g h c i
def Adq (g:IV) (b:Aa) (c:Hp) (d a:IV) (e:Hp→OH):OH :=
 Am g (Al [true] false false b 70 [d] c fun h f _ _=>Am h (AaY a f) (e f)) (AE a fun i=>Ac 0 i fun j=>AbF c j a b d e)
def Ab7 (a:Hp) (b d:IV) (e:IV→Hp→OH):OH :=
 Ab b true a (fun f=>Af d a fun g h=>f g a h []) fun i c _ _=>Ab b true c (fun j=>A5 EE 3 i (.fv (.int .i64 30)) fun k=>j k c [] []) fun l m _ _=>AG b l (.fv (.bool false)) fun n=>e n m
def ZP (b:Hp) (a g:IV) (h:IV→Hp→OH):OH :=
 Ab a true b (fun i=>Af g b fun j k=>i j b k []) fun l d _ _=>Ab a true d (fun m=>A7 1 l (.fv (.int .i64 0)) fun n=>m n d [] []) fun o c _ _=>Ab a true c (fun p=>Af o c fun q r=>p q c r []) fun s e _ _=>Ab a true e (fun t=>AE s fun u=>t u e [] []) fun v f _ _=>Ab a true f (fun w=>Ac 0 v fun x=>w x f [] []) fun y z _ _=>Ab7 z a y h
def Y8 (b:Hp) (e f:IV) (g:IV→Hp→OH):OH :=
 Af e b fun h _=>A5 EE 3 h (.fv (.int .i64 19)) fun a=>Ab a true b (fun i=>i f b [] []) fun j c _ _=>Ab a true c (fun k=>AE j fun l=>k l c [] []) fun m d _ _=>Ab a true d (fun n=>Ac 2 m fun o=>n o d [] []) fun p q _ _=>ZP q a p g
def Aej (e f:IV) (a:IV→Hp→OH) (b:Hp) (c:IV):OH :=
 AG e f (.fv (.bool false)) fun d=>Am d (a d b) (AE c fun g=>Ac 0 g fun h=>Y8 b h c a)
def AbL (b:Hp) (a g:IV) (h:IV→Hp→OH) (i:IV):OH :=
 Ab a true b (fun j=>Af g b fun k l=>j k b l []) fun m d _ _=>Ab a true d (fun n=>AE m fun o=>n o d [] []) fun p e _ _=>Ab a true e (fun q=>Ac 0 p fun r=>q r e [] []) fun s c _ _=>Ab a true c (fun t=>Af s c fun u v=>t u c v []) fun w f _ _=>Ab a true f (fun x=>A5 EE 3 w (.fv (.int .i64 19)) fun y=>x y f [] []) fun z A _ _=>Aej a z h A i
def AeH (c:Hp) (a d:IV) (h:IV→Hp→OH):OH :=
 Ab a true c (fun i=>i d c [] []) fun j e _ _=>Ab a true e (fun k=>AE j fun l=>k l e [] []) fun m f _ _=>Ab a true f (fun n=>Ac 2 m fun o=>n o f [] []) fun p b _ _=>Ab a true b (fun q=>Af p b fun r s=>q r b s []) fun t g _ _=>Ab a true g (fun u=>A7 1 t (.fv (.int .i64 0)) fun v=>u v g [] []) fun w x _ _=>AbL x a w h d
def YH (c:Aa) (d a:IV) (e:Hp→OH) (b:Hp):OH :=
 (fun (f:IV→Hp→OH)=>AE a fun g=>Ac 0 g fun h=>Af h b fun i _=>A5 EE 3 i (.fv (.int .i64 30)) fun j=>AeH b j a f) fun k l=>Adq k c l d a e
def Z7 (c:Hp) (a j:IV) (d:Aa) (e f:IV) (g:Hp→OH):OH :=
 Ab a true c (fun k=>Ac 0 j fun l=>k l c [] []) fun m b _ _=>Ab a true b (fun n=>Af m b fun o p=>n o b p []) fun q h _ _=>Ab a true h (fun r=>A5 EE 3 q (.fv (.int .i64 7)) fun s=>r s h [] []) fun t i _ _=>AG a t (.fv (.bool false)) fun u=>Am u (Y5 d i e f g) (YH d e f g i)
def Aed (d:Hp) (a g:IV) (h:Aa) (i j:IV) (k:Hp→OH):OH :=
 Ab a true d (fun l=>Ac 2 g fun m=>l m d [] []) fun n b _ _=>Ab a true b (fun o=>Af n b fun p q=>o p b q []) fun r e _ _=>Ab a true e (fun s=>A7 1 r (.fv (.int .i64 0)) fun t=>s t e [] []) fun u c _ _=>Ab a true c (fun v=>Af u c fun w x=>v w c x []) fun y f _ _=>Ab a true f (fun z=>AE y fun A=>z A f [] []) fun B C _ _=>Z7 C a B h i j k
def AbY (a:Hp) (b h d:IV) (i:Aa) (j:IV) (k:Hp→OH):OH :=
 Ab b false a (fun l=>Af h a fun m n=>l m a n []) fun o e _ _=>Ab b false e (fun p=>A5 EE 3 o (.fv (.int .i64 9)) fun q=>p q e [] []) fun r f _ _=>AG b (.fv (.bool true)) r fun c=>Ab c true f (fun s=>s d f [] []) fun t g _ _=>Ab c true g (fun u=>AE t fun v=>u v g [] []) fun w x _ _=>Aed x c w i j d k
def AdY (b:Hp) (f c:IV) (g:Aa) (h:IV) (i:Hp→OH):OH :=
 Af f b fun j _=>A5 EE 3 j (.fv (.int .i64 8)) fun a=>Ab a false b (fun k=>k c b [] []) fun l d _ _=>Ab a false d (fun m=>AE l fun n=>m n d [] []) fun o e _ _=>Ab a false e (fun p=>Ac 0 o fun q=>p q e [] []) fun r s _ _=>AbY s a r c g h i
def Adt (g:IV) (a:Aa) (d:Hp) (b c:IV) (e:Hp→OH):OH :=
 Am g (Al [true] false false a 70 [b] d fun h f _ _=>Am h (Zt c f a b) (e f)) (AE c fun i=>Ac 0 i fun j=>AdY d j c a b e)
def Ady (c:Hp) (a f:IV) (g:Aa) (h i:IV) (j:Hp→OH):OH :=
 Ab a true c (fun k=>AE f fun l=>k l c [] []) fun m d _ _=>Ab a true d (fun n=>Ac 0 m fun o=>n o d [] []) fun p b _ _=>Ab a true b (fun q=>Af p b fun r s=>q r b s []) fun t e _ _=>Ab a true e (fun u=>A5 EE 3 t (.fv (.int .i64 4)) fun v=>u v e [] []) fun w x _ _=>AG a w (.fv (.bool false)) fun y=>Adt y g x h i j
def Adc (d:Hp) (a g:IV) (h:Aa) (i j:IV) (k:Hp→OH):OH :=
 Ab a true d (fun l=>AE g fun m=>l m d [] []) fun n e _ _=>Ab a true e (fun o=>Ac 2 n fun p=>o p e [] []) fun q b _ _=>Ab a true b (fun r=>Af q b fun s t=>r s b t []) fun u f _ _=>Ab a true f (fun v=>A7 1 u (.fv (.int .i64 0)) fun w=>v w f [] []) fun x c _ _=>Ab a true c (fun y=>Af x c fun z A=>y z c A []) fun B C _ _=>Ady C a B h i j k
def AcT (a:IV) (b:Hp) (d:Aa) (e:IV) (f:Hp→OH):OH :=
 AE a fun g=>Ac 0 g fun h=>Af h b fun i _=>A5 EE 3 i (.fv (.int .i64 5)) fun c=>Ab c true b (fun j=>j a b [] []) fun k l _ _=>Adc l c k d e a f
def S59 (d:Aa) (n:Nat) (c a:IV) (b:Hp):OH :=
 (fun (e:Hp→OH)=>AE c fun f=>Ac 2 f fun g=>Af g b fun h _=>Hg EE 3 h (.fv (.int .i64 0)) fun i=>Am i (An [a] b) (AcT a b d c e)) fun j=>An [a] j
theorem Ao7 (a:Aa) (n:Nat) (b c:IV) (d:Hp):Az EE a ft.get n 59 [b,c] d=S59 a n b c d:=by kernel_rfl
def JF (c:Hp) (a d:IV):OH :=
 Ak 3 a d c fun b _ _=>AA true 3 a b fun e=>An [e] b
def IB (c:IV) (d:Hp) (a:IV):OH :=
 Be EE 3 c (.fv (.int .i64 1)) fun e=>BA [.fv (.int .i64 0),.fv (.int .i64 0),.nils] [(0,1,.fv (.int .i64 1)),(1,1,e)] fun f=>Ak 3 a f d fun b _ _=>AA true 3 a b fun g=>An [g] b
def Iq (a:Hp) (b:IV):OH :=
 AA true 3 b a fun c=>An [c] a
def I0 (d e c:IV) (a:Hp) (b:IV):OH :=
 Nb EE 3 d e fun f=>Am f (Ac 1 c fun g=>Af g a fun h _=>IB h a b) (Aj 3 c a fun i _=>Ak 3 b i a fun j _ _=>Iq j b)
def Js (e b:IV) (a:Hp) (f:IV) (g:Aa) (h c d:IV):OH :=
 A5 EE 3 e b fun i=>Am i (Aj 3 f a fun j _=>Al [] false false g 25 [j,h,.fv (.int .i64 0)] a fun k l _ _=>JF l c k) (Ac 1 d fun m=>Af m a fun n _=>I0 n b d a c)
def I5 (a:IV) (h:Hp) (i j:IV) (k:Hp) (b c d e f:IV) (l:List IV→Hp→OH):OH :=
 Ac 2 a fun m=>BB m i h fun n o p=>Ad [] o p (BC EE 3 j (.fv (.int .i64 1)) fun g=>Bg (k.own.map (·.1)) [62926864] [b,c,d,e,f,a,g] n fun q=>l [b,c,d,e,f,a,g] q)
def Ju (b c a:AF) (d:Hp) (e f g h:IV) (i:Hp) (j k l m n:IV) (o:List IV→Hp→OH):OH :=
 Ad [(a,[])] b c (Ay (Ah EE 29 1 [(0,e)]) 62926863 d fun p q r s=>Ad [(a,[])] r s (Ay (AY EE 62926864 false .append [29,29] [f,p]) 62926864 q fun t u v w=>Ad [] v w (I5 g u t h i j k l m n o)))
def IH (a b c:IV) (d:Hp) (e:IV) (g h f:AF) (i:Aa) (j k l m:IV) (n:Hp) (o p:IV) (q:List IV→Hp→OH):OH :=
 BC EE 3 a b fun r=>BC EE 3 c b fun s=>Aj 3 e d fun t u=>Ad [(g,[]),(h,[]),(f,[])] u [] (Al [] false false i 60 [j,r,s,t] d fun v w x y=>Ju x y f w v k l m n a c o e p q)
def Jb (a:Hp) (f:IV) (b:AF) (c g h i j:IV) (k:Aa) (l m:IV) (n:Hp) (o p:IV) (q:List IV→Hp→OH):OH :=
 Af f a fun r d=>Ad [(b,[])] d [] (A7 3 r c fun s=>Aj 3 s a fun t e=>Ad [(b,[])] e [] (IH g h i a j e d b k t l m c n o p q))
def JA (a:Aa) (g:Hp) (h b c d i j k:IV) (l:Hp) (m:IV) (n:List IV→Hp→OH):OH :=
 Al [] false false a 51 [h,b] g fun o e _ _=>Ac 2 c fun p=>Af p e fun q f=>Ad [] f [] (Ac 2 d fun r=>Jb e r f b i o j k a q c l d m n)
def Iw (a:Hp) (b:IV):OH :=
 AA true 3 b a fun c=>An [c] a
def Jg (c f d:IV) (a:Hp) (g:Aa) (e h i j:IV) (k:Hp) (b:IV) (l:List IV→Hp→OH):OH :=
 GV EE 3 c f fun m=>Am m (Ac 0 d fun n=>Af n a fun o _=>JA g a o c e d h i j k b l) (Aj 3 e a fun p _=>Ak 3 b p a fun q _ _=>Iw q b)
def Jq (c:List IV) (a:IV) (b:Hp) (d:Aa) (e f g:IV) (h:Hp) (i:IV) (j:List IV→Hp→OH):OH :=
 Aw c fun k l=>Aw l fun m _=>Ac 2 a fun n=>Af n b fun o _=>BP o fun p=>Jg m p a b d k e f g h i j
def Jh (a:List IV) (b:Hp) (c:Aa) (d:Hp) (e:List IV→Hp→OH):OH :=
 Aw a fun f g=>Aw g fun h i=>Aw i fun j k=>Aw k fun l m=>Aw m fun n o=>Jq o j b c f h l d n e
def I1 (a h:Hp) (b c d e f g:IV) (n:Nat) (i:Aa):OH :=
 Bg (a.own.map (·.1)) [62926864] [b,c,d,e,f,g,.fv (.int .i64 0)] h fun j=>BE n (fun k l m=>Jh l m i a k) [b,c,d,e,f,g,.fv (.int .i64 0)] j
def Je (a:IV) (b:Hp) (d:IV) (e:Hp) (f g h i:IV) (n:Nat) (j:Aa):OH :=
 Ac 1 a fun k=>Af k b fun l _=>BA [.fv (.int .i64 0),.fv (.int .i64 0),.nils] [(0,1,d),(1,1,l)] fun m=>AH 62921733 (.row [.fv (.int .i64 0),.fv (.int .i64 0),.nils] false) (.ptr (.own 62921733) 0) b fun c o _ _=>Ak 3 c m o fun p _ _=>I1 e p f g a h i c n j
def Jz (h a:IV) (b:Hp) (c d:IV) (e:Aa) (f g:IV) (i:Hp) (n:Nat):OH :=
 Am h (Ac 1 a fun j=>Af j b fun k _=>Js k c b d e f g a) (Ac 0 a fun l=>Af l b fun m _=>Je a b m i c f d g n e)
def S60 (d:Aa) (n:Nat) (e f g h:IV) (a:Hp):OH :=
 A4 62914560 e a fun b i _ _=>A4 62914561 h i fun j k _ _=>AH 62914562 (.row [.fv (.int .i64 0),.fv (.int .i64 0),.nils] false) (.ptr (.own 62914562) 0) k fun l c _ _=>Ac 0 b fun m=>Af m c fun o _=>A5 EE 3 o (.fv (.int .i64 1)) fun p=>Jz p b c f j d g l a n
theorem AoA (a:Aa) (n:Nat) (b c d e:IV) (f:Hp):Az EE a ft.get n 60 [b,c,d,e] f=S60 a n b c d e f:=by kernel_rfl
def UD (b:IV) (a:Hp) (c:IV):OH :=
 Am b (An [.fv (.int .i64 3)] a) (A5 EE 3 c (.fv (.int .i64 13)) fun d=>Am d (An [.fv (.int .i64 4)] a) (An [.fv (.int .i64 (-1))] a))
def SC (a:IV) (b:IV→Hp→OH) (c:Hp) (d:IV):OH :=
 Am a (b a c) (A5 EE 3 d (.fv (.int .i64 27)) fun e=>b e c)
def SL (c:IV) (b:Hp) (a:IV):OH :=
 Am c (An [.fv (.int .i64 2)] b) ((fun (d:IV→Hp→OH)=>A5 EE 3 a (.fv (.int .i64 7)) fun e=>SC e d b a) fun f g=>UD f g a)
def UF (a:IV) (b:IV→Hp→OH) (c:Hp):OH :=
 A5 EE 3 a (.fv (.int .i64 28)) fun d=>Am d (b d c) (A5 EE 3 a (.fv (.int .i64 29)) fun e=>b e c)
def Sc (a:IV) (b:IV→Hp→OH) (c:Hp):OH :=
 A5 EE 3 a (.fv (.int .i64 22)) fun d=>Am d (b d c) (A5 EE 3 a (.fv (.int .i64 26)) fun e=>Am e (b e c) (UF a b c))
def R0 (a:IV) (b:IV→Hp→OH) (c:Hp):OH :=
 A5 EE 3 a (.fv (.int .i64 20)) fun d=>Am d (b d c) (A5 EE 3 a (.fv (.int .i64 21)) fun e=>Am e (b e c) (Sc a b c))
def Uf (a:IV) (b:IV→Hp→OH) (c:Hp):OH :=
 A5 EE 3 a (.fv (.int .i64 16)) fun d=>Am d (b d c) (A5 EE 3 a (.fv (.int .i64 17)) fun e=>Am e (b e c) (R0 a b c))
def Ro (a:IV) (b:IV→Hp→OH) (c:Hp):OH :=
 A5 EE 3 a (.fv (.int .i64 5)) fun d=>Am d (b d c) (A5 EE 3 a (.fv (.int .i64 6)) fun e=>Am e (b e c) (Uf a b c))
def Rv (c:IV) (a:IV→Hp→OH) (b:Hp) (d:IV):OH :=
 Am c (a c b) (A5 EE 3 d (.fv (.int .i64 4)) fun e=>Am e (a e b) (Ro d a b))
def Ts (c:IV) (b:Hp) (a:IV):OH :=
 Am c (An [.fv (.int .i64 1)] b) ((fun (d:IV→Hp→OH)=>A5 EE 3 a (.fv (.int .i64 3)) fun e=>Rv e d b a) fun f g=>SL f g a)
def Ul (a:IV) (b:IV→Hp→OH) (c:Hp):OH :=
 A5 EE 3 a (.fv (.int .i64 24)) fun d=>Am d (b d c) (A5 EE 3 a (.fv (.int .i64 30)) fun e=>b e c)
def RO (a:IV) (b:IV→Hp→OH) (c:Hp):OH :=
 A5 EE 3 a (.fv (.int .i64 19)) fun d=>Am d (b d c) (A5 EE 3 a (.fv (.int .i64 23)) fun e=>Am e (b e c) (Ul a b c))
def Re (a:IV) (b:IV→Hp→OH) (c:Hp):OH :=
 A5 EE 3 a (.fv (.int .i64 12)) fun d=>Am d (b d c) (A5 EE 3 a (.fv (.int .i64 18)) fun e=>Am e (b e c) (RO a b c))
def RW (c:IV) (a:IV→Hp→OH) (b:Hp) (d:IV):OH :=
 Am c (a c b) (A5 EE 3 d (.fv (.int .i64 9)) fun e=>Am e (a e b) (Re d a b))
def Sw (c:IV) (b:Hp) (a:IV):OH :=
 Am c (An [.fv (.int .i64 0)] b) ((fun (d:IV→Hp→OH)=>A5 EE 3 a (.fv (.int .i64 8)) fun e=>RW e d b a) fun f g=>Ts f g a)
def SY (a:IV) (b:IV→Hp→OH) (c:Hp):OH :=
 A5 EE 3 a (.fv (.int .i64 25)) fun d=>b d c
def TZ (a:IV) (b:IV→Hp→OH) (c:Hp):OH :=
 A5 EE 3 a (.fv (.int .i64 14)) fun d=>Am d (b d c) (A5 EE 3 a (.fv (.int .i64 15)) fun e=>Am e (b e c) (SY a b c))
def UM (a:IV) (b:IV→Hp→OH) (c:Hp):OH :=
 A5 EE 3 a (.fv (.int .i64 10)) fun d=>Am d (b d c) (A5 EE 3 a (.fv (.int .i64 11)) fun e=>Am e (b e c) (TZ a b c))
def S61 (h:Aa) (n:Nat) (a:IV) (b:Hp):OH :=
 (fun (c:IV→Hp→OH)=>A5 EE 3 a (.fv (.int .i64 1)) fun d=>Am d (c d b) (A5 EE 3 a (.fv (.int .i64 2)) fun e=>Am e (c e b) (UM a c b))) fun f g=>Sw f g a
theorem Aqc (a:Aa) (n:Nat) (b:IV) (c:Hp):Az EE a ft.get n 61 [b] c=S61 a n b c:=by kernel_rfl
def AiG (a:Hp) (b c:IV):OH :=
 Ab b true a (fun d=>leS EE 3 c (.fv (.int .i64 3000)) fun e=>d e a [] []) fun f g _ _=>AG b f (.fv (.bool false)) fun h=>An [h] g
def Ai8 (b:IV) (c:Hp):OH :=
 geS EE 3 b (.fv (.int .i64 0)) fun a=>Ab a true c (fun e=>e b c [] []) fun f d _ _=>Ab a true d (fun g=>leS EE 3 f (.fv (.int .i64 2)) fun h=>g h d [] []) fun i j _ _=>AG a i (.fv (.bool false)) fun k=>An [k] j
def Air (a:Hp) (b c:IV):OH :=
 Ab b true a (fun d=>leS EE 3 c (.fv (.int .i64 4)) fun e=>d e a [] []) fun f g _ _=>AG b f (.fv (.bool false)) fun h=>An [h] g
def Af1 (a:IV) (b:Hp):OH :=
 A5 EE 3 a (.fv (.int .i64 0)) fun c=>An [c] b
def Ail (c b:IV) (a:Hp):OH :=
 A5 EE 3 c (.fv (.int .i64 26)) fun e=>Am e (geS EE 3 b (.fv (.int .i64 0)) fun d=>Ab d true a (fun f=>f b a [] []) fun g h _ _=>Air h d g) (A5 EE 3 c (.fv (.int .i64 25)) fun i=>Am i (An [.fv (.bool true)] a) (Af1 b a))
def S62 (j:Aa) (n:Nat) (c a:IV) (b:Hp):OH :=
 A5 EE 3 c (.fv (.int .i64 1)) fun e=>Am e (geS EE 3 a (.fv (.int .i64 0)) fun d=>Ab d true b (fun f=>f a b [] []) fun g h _ _=>AiG h d g) (A5 EE 3 c (.fv (.int .i64 2)) fun i=>Am i (Ai8 a b) (Ail c a b))
theorem ApQ (a:Aa) (n:Nat) (b c:IV) (d:Hp):Az EE a ft.get n 62 [b,c] d=S62 a n b c d:=by kernel_rfl
def KX (d e:Hp) (a b c:IV) (f:List IV→Hp→OH):OH :=
 Bg (d.own.map (·.1)) [66066434] [a,b,c] e fun g=>f [a,b,c] g
def KL (b:Aa) (c:Hp) (d e:IV) (f:Hp) (g h:IV) (i:List IV→Hp→OH):OH :=
 Al [] false false b 63 [d] c fun j a _ _=>CO (L9 .not j) fun k=>Am k (An [.fv (.bool false)] a) (BC EE 3 e (.fv (.int .i64 1)) fun l=>KX f a g h l i)
def Ku (a b:IV) (c:Hp) (f:Aa) (g:Hp) (h:IV) (i:List IV→Hp→OH):OH :=
 A7 3 a b fun j=>Aj 3 j c fun k _=>AH 66066434 (.row [.fv (.int .i64 0),.fv (.int .i64 0),.nils] false) (.ptr (.own 66066434) 0) c fun d l _ _=>Ak 3 d k l fun e _ _=>Aj 3 d e fun m _=>KL f e m b g a h i
def LX (d:List IV) (a:Hp) (e:Aa) (f:Hp) (g:List IV→Hp→OH):OH :=
 Aw d fun h i=>Aw i fun b j=>Aw j fun c _=>GV EE 3 c b fun k=>Am k (Ku h c a e f b g) (An [.fv (.bool true)] a)
def L4 (e:IV) (b c:Hp) (n:Nat) (f:Aa):OH :=
 Ac 2 e fun g=>Af g b fun a _=>BP a fun d=>Bg (c.own.map (·.1)) [66066434] [a,d,.fv (.int .i64 0)] b fun h=>BE n (fun i j k=>LX j k f c i) [a,d,.fv (.int .i64 0)] h
def Kw (a:Hp) (b g c h:IV) (i:Hp) (n:Nat) (j:Aa):OH :=
 Ab b true a (fun k=>Af g a fun l m=>k l a m []) fun o d _ _=>Ab b true d (fun p=>GV EE 3 o (.fv (.int .i64 0)) fun q=>p q d [] []) fun r e _ _=>Ab c false e (fun s=>AG b r (.fv (.bool false)) fun t=>s t e [] []) fun u f _ _=>AG c (.fv (.bool true)) u fun v=>Am v (An [.fv (.bool false)] f) (L4 h f i n j)
def L2 (d:Hp) (a b:IV) (i:Hp) (n:Nat) (j:Aa):OH :=
 Ab a false d (fun k=>Ac 0 b fun l=>k l d [] []) fun m c _ _=>Ab a false c (fun o=>Af m c fun p q=>o p c q []) fun r e _ _=>Ab a false e (fun s=>A5 EE 3 r (.fv (.int .i64 1)) fun t=>s t e [] []) fun u f _ _=>Ab a false f (fun v=>v u f [] []) fun g h _ _=>Ab g true h (fun w=>Ac 1 b fun x=>w x h [] []) fun y z _ _=>Kw z g y a b i n j
def Kk (c:Hp) (a d g:IV) (h:Hp) (n:Nat) (i:Aa):OH :=
 Ab a true c (fun j=>Ac 2 d fun k=>j k c [] []) fun l b _ _=>Ab a true b (fun m=>Af l b fun o p=>m o b p []) fun q e _ _=>Ab a true e (fun r=>BP q fun s=>r s e [] []) fun t f _ _=>Ab a true f (fun u=>Hg EE 3 g t fun v=>u v f [] []) fun w x _ _=>AG a w (.fv (.bool false)) fun y=>L2 x y d h n i
def S63 (a:Aa) (n:Nat) (h:IV) (b:Hp):OH :=
 A4 66060288 h b fun c d _ _=>Ac 0 c fun i=>Af i d fun j _=>Al [] false false a 71 [j] d fun e f _ _=>geS EE 3 e (.fv (.int .i64 0)) fun g=>Ab g true f (fun k=>k e f [] []) fun l m _ _=>Kk m g c l b n a
theorem ApL (a:Aa) (n:Nat) (b:IV) (c:Hp):Az EE a ft.get n 63 [b] c=S63 a n b c:=by kernel_rfl
end
end Idl
end Go.Proofs.Ytaifgaidaglblaa

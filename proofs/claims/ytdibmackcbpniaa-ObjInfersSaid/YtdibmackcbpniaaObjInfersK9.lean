/-
  Texts of a proof, part 9: an ideal semantics of the program, its functions in shallow form, contracts of them. No statement of the seat is proved here.
-/
import Derived.Test.YtdibmackcbpniaaObjInfersK8
set_option linter.all false
noncomputable section
set_option maxRecDepth 100000
set_option linter.unusedVariables false
namespace Go.Proofs.Ytdibmackcbpniaa
namespace Idl
noncomputable section
def AqO (a:IV) (d:Hp) (b:IV):OH :=
 Aq 0 a fun e=>Aq 1 a fun f=>Ae 3 b e d fun c _ _=>Ap true 3 b c fun g=>Am [g,f] c
def Aru (d:Aa) (e:Hp) (f a:IV):OH :=
 Ai [] false false d 111 [f] e fun b g _ _=>Aq 0 b fun h=>Aq 1 b fun i=>Ae 3 a h g fun c _ _=>Ap true 3 a c fun j=>Am [j,i] c
def ApI (e f:AB) (b:IV) (c:Aa) (a:Hp) (d g:IV):OH :=
 Ab [] e f (Cg EE 3 b (.fv (.int .i64 0)) fun h=>Aj h (Ai [] false false c 57 [b] a fun i j _ _=>AqO i j d) (Ad 3 g a fun k _=>Aru c a k d))
def Arp (a:IV) (c:Hp) (d e f g h i:AB) (j:Aa) (k:IV):OH :=
 Aq 0 a fun l=>Aq 1 a fun m=>Ay 87032840 (.row [.fv (.int .i64 0),.fv (.int .i64 0),.nils] false) (.ptr (.own 87032840) 0) c fun b n o p=>Ab [(d,e),(f,[]),(g,h),(i,[])] o p (Ae 3 b l n fun q r s=>ApI r s m j q k b)
def ApJ (a b:AB) (c:Hp) (i:IV) (d:AB) (e:Aa) (j k:IV):OH :=
 Ab [] a b (Ad 3 i c fun l f=>Ab [(a,b),(d,[])] f [] (Ai [] false false e 26 [j,.fv (.int .i64 0),l] c fun m n g h=>Ab [] g h (Arp m n g h f a b d e k)))
def S83 (a:Aa) (n:Nat) (d e f:IV) (g:Hp):OH :=
 AS 87031808 e g fun h i _ _=>AS 87031809 f i fun j k _ _=>Ay 87031810 (.row [.fv (.int .i64 0),.fv (.int .i64 0),.nils] false) (.ptr (.own 87031810) 0) k fun l b _ _=>Ad 3 h b fun m c=>Ab [] c [] (Ai [] false false a 84 [d,.fv (.int .i64 0),m] b fun o p q r=>ApJ q r p j c a o l)
theorem ArH (a:Aa) (n:Nat) (b c d:IV) (e:Hp):Ax EE a ft.get n 83 [b,c,d] e=S83 a n b c d e:=by kernel_rfl
def Aou (a b:AB) (c:Hp) (d:IV):OH :=
 Ab [] a b (Am [d] c)
def AqK (e a b c d:AB) (f g:IV) (h:Hp) (i:IV):OH :=
 Ab [(a,b),(c,d)] e [] (BL [.fv (.int .i64 0),.fv (.int .i64 0),.fv (.int .i64 0),.nils] [(0,1,f),(1,3,g)] fun j=>AD (Al EE 71 1 [(0,j)]) 88081414 h fun k l m n=>Ab [(a,b),(c,d)] m n (AD (AK EE 88081415 false .append [71,71] [i,k]) 88081415 l fun o p q r=>Aou q r p o))
def S84 (r:Aa) (n:Nat) (f g h:IV) (i:Hp):OH :=
 AS 88080384 h i fun j k _ _=>AD (Al EE 71 0 []) 88081408 k fun l m a b=>Ab [] a b (AD (AK EE 88081410 false .append [71,71] [l,f]) 88081410 m fun o c d e=>Ab [] d e (Ad 3 j c fun p q=>AqK q d e a b g p c o))
theorem AoE (a:Aa) (n:Nat) (b c d:IV) (e:Hp):Ax EE a ft.get n 84 [b,c,d] e=S84 a n b c d e:=by kernel_rfl
def AoN (c:IV) (d:Hp) (a e:IV):OH :=
 Aq 1 c fun f=>Ae 3 a e d fun b _ _=>Ap true 3 a b fun g=>Am [g,f] b
def Ao9 (a:Hp) (b:IV):OH :=
 Ap true 3 b a fun c=>Am [c,.fv (.int .i64 0)] a
def ApN (c:IV) (e:Aa) (a:Hp) (b f:IV):OH :=
 Cg EE 3 c (.fv (.int .i64 0)) fun g=>Aj g (Ai [] false false e 57 [c] a fun d h _ _=>Aq 0 d fun i=>AoN d h b i) (Ad 3 f a fun j _=>Ae 3 b j a fun k _ _=>Ao9 k b)
def ArR (b:Hp) (a g h:IV) (c:IV→Hp→OH) (i:IV):OH :=
 Ac a true b (fun j=>Ak g b fun k l=>j k b l []) fun m d _ _=>Ac a true d (fun n=>n h d [] []) fun o e _ _=>Ac a true e (fun p=>Cg EE 3 m o fun q=>p q e [] []) fun r f _ _=>AH a r (.fv (.bool false)) fun s=>Aj s (c (.fv (.int .i64 12)) f) (c i f)
def Arl (e:Hp) (f:IV) (g:Aa) (h b i:IV):OH :=
 Ay 89129991 (.row [.fv (.int .i64 0),.fv (.int .i64 0),.nils] false) (.ptr (.own 89129991) 0) e fun a j _ _=>Ae 3 a f j fun c _ _=>(fun (k:IV→Hp→OH)=>AQ EE 3 b (.fv (.int .i64 0)) fun d=>Ac d true c (fun l=>Af 0 a fun m=>l m c [] []) fun n o _ _=>ArR o d n i k b) fun p q=>ApN p g q h a
def S85 (a:Aa) (n:Nat) (d e f g:IV) (h:Hp):OH :=
 AS 89128960 f h fun i j _ _=>Ay 89128961 (.row [.fv (.int .i64 0),.fv (.int .i64 0),.nils] false) (.ptr (.own 89128961) 0) j fun k b _ _=>Ad 3 i b fun l _=>Ai [] false false a 26 [d,e,l] b fun c m _ _=>Aq 0 c fun o=>Aq 1 c fun p=>Arl m o a k p g
theorem ArB (a:Aa) (n:Nat) (b c d e:IV) (f:Hp):Ax EE a ft.get n 85 [b,c,d,e] f=S85 a n b c d e f:=by kernel_rfl
def AjK (c:IV) (d:Hp) (a e:IV):OH :=
 Aq 1 c fun f=>Ae 3 a e d fun b _ _=>Ap true 3 a b fun g=>Am [g,f] b
def AjG (d:IV) (a:Hp) (b:IV):OH :=
 AP 3 d (.fv (.int .i64 1)) fun e=>Ad 3 e a fun f _=>Ae 3 b f a fun c _ _=>Ap true 3 b c fun g=>Am [g,.fv (.int .i64 0)] c
def AiJ (b:IV) (e:Aa) (a:Hp) (c f:IV):OH :=
 Cg EE 3 b (.fv (.int .i64 0)) fun g=>Aj g (Ai [] false false e 57 [b] a fun d h _ _=>Aq 0 d fun i=>AjK d h c i) (Af 2 f fun j=>Ak j a fun k _=>AjG k a c)
def Am6 (b:IV) (a:Hp) (c:AB) (d:Aa) (e f:IV) (g:IV→Hp→OH):OH :=
 AP 3 b (.fv (.int .i64 0)) fun h=>Ad 3 h a fun i j=>Ab [(c,[])] j [] (Ai [] false false d 61 [e,.fv (.int .i64 0),f,i] a fun k l m n=>Ab [] m n (g k l))
def Aj1 (a:Hp) (c d:IV) (e:Aa) (f:IV) (g:IV→Hp→OH):OH :=
 Ad 3 c a fun h b=>Ab [] b [] (Af 2 d fun i=>Ak i a fun j k=>Ab [(b,[])] k [] (Am6 j a b e f h g))
def Akx (a:Aa) (f b c g:IV) (d:Hp) (h:IV):OH :=
 (fun (e:IV→Hp→OH)=>AQ EE 3 c (.fv (.int .i64 0)) fun i=>Aj i (AP 3 g (.fv (.int .i64 1)) fun j=>Aj1 d j b a h e) (e c d)) fun k l=>AiJ k a l f b
def AjW (a:Aa) (e:Hp) (b f g h:IV):OH :=
 Ai [] false false a 85 [b,.fv (.int .i64 0),f,.fv (.int .i64 16)] e fun c i _ _=>Aq 0 c fun j=>Aq 1 c fun k=>Ay 90181640 (.row [.fv (.int .i64 0),.fv (.int .i64 0),.nils] false) (.ptr (.own 90181640) 0) i fun d l _ _=>Ae 3 d j l fun m _ _=>Akx a g d k h m b
def AkL (a:IV) (d:Hp) (b:IV):OH :=
 Aq 0 a fun e=>Aq 1 a fun f=>Ae 3 b e d fun c _ _=>Ap true 3 b c fun g=>Am [g,f] c
def AmD (a:IV) (d:Hp) (b:IV):OH :=
 Aq 0 a fun e=>Aq 1 a fun f=>Ae 3 b e d fun c _ _=>Ap true 3 b c fun g=>Am [g,f] c
def Anv (c:IV) (d:Hp) (a e:IV):OH :=
 Aq 1 c fun f=>Ae 3 a e d fun b _ _=>Ap true 3 a b fun g=>Am [g,f] b
def Ajn (a:Hp) (d e:IV) (b:Aa) (f:IV):OH :=
 Ad 3 d a fun g _=>AD (Al EE 28 2 [(0,e),(1,g)]) 90194946 a fun h i _ _=>Ai [] false false b 30 [.fv (.int .i64 17),h] i fun j k _ _=>Ai [] false false b 58 [j] k fun c l _ _=>Aq 0 c fun m=>Anv c l f m
def AiD (f:Hp) (b g c:IV) (d:Aa) (e h:IV):OH :=
 Ae 3 b g f fun a _ _=>Cg EE 3 c (.fv (.int .i64 0)) fun i=>Aj i (Ai [] false false d 57 [c] a fun j k _ _=>AmD j k e) (Ad 3 h a fun l _=>Ajn a b l d e)
def Amt (a:Hp) (d:IV) (b:Aa) (e f g:IV):OH :=
 Ad 3 d a fun h _=>Ai [] false false b 26 [e,.fv (.int .i64 0),h] a fun c i _ _=>Aq 0 c fun j=>Aq 1 c fun k=>Ay 90191880 (.row [.fv (.int .i64 0),.fv (.int .i64 0),.nils] false) (.ptr (.own 90191880) 0) i fun l m _ _=>AiD m l j k b f g
def Alb (f:Hp) (g a:IV) (b:Aa) (c h i:IV):OH :=
 Ay 90188808 (.row [.fv (.int .i64 0),.fv (.int .i64 0),.nils] false) (.ptr (.own 90188808) 0) f fun d j _ _=>Ae 3 d g j fun e _ _=>Cg EE 3 a (.fv (.int .i64 0)) fun k=>Aj k (Ai [] false false b 57 [a] e fun l m _ _=>AkL l m c) (AP 3 h (.fv (.int .i64 1)) fun n=>Amt e n b i c d)
def AjA (a:IV) (b:Hp) (c:Aa) (d f:IV):OH :=
 AP 3 a (.fv (.int .i64 0)) fun g=>Ad 3 g b fun h _=>Ai [] false false c 26 [d,.fv (.int .i64 0),h] b fun e i _ _=>Aq 0 e fun j=>Aq 1 e fun k=>Alb i j k c f a d
def Alk (c:IV) (d:Hp) (a e:IV):OH :=
 Aq 1 c fun f=>Ae 3 a e d fun b _ _=>Ap true 3 a b fun g=>Am [g,f] b
def AnX (c:IV) (d:Hp) (a e:IV):OH :=
 Aq 1 c fun f=>Ae 3 a e d fun b _ _=>Ap true 3 a b fun g=>Am [g,f] b
def AlQ (a:Hp) (b:IV):OH :=
 Ap true 3 b a fun c=>Am [c,.fv (.int .i64 0)] a
def AlN (c:IV) (e:Aa) (a:Hp) (b f:IV):OH :=
 Cg EE 3 c (.fv (.int .i64 0)) fun g=>Aj g (Ai [] false false e 57 [c] a fun d h _ _=>Aq 0 d fun i=>AnX d h b i) (Ad 3 f a fun j _=>Ae 3 b j a fun k _ _=>AlQ k b)
def Akc (a b:AB) (c:IV→Hp→OH) (d:Hp) (e:IV):OH :=
 Ab [] a b (c e d)
def Ala (a:Hp) (c d:IV) (e:Aa) (f:IV) (g:IV→Hp→OH):OH :=
 Ad 3 c a fun h b=>Ab [] b [] (Ad 3 d a fun i j=>Ab [(b,[])] j [] (Ai [] false false e 61 [f,.fv (.int .i64 0),h,i] a fun k l m n=>Akc m n g l k))
def Aj0 (a:Aa) (f b c g:IV) (d:Hp) (h:IV):OH :=
 (fun (e:IV→Hp→OH)=>AQ EE 3 c (.fv (.int .i64 0)) fun i=>Aj i (AP 3 g (.fv (.int .i64 2)) fun j=>Ala d j b a h e) (e c d)) fun k l=>AlN k a l f b
def AkM (a:Aa) (e:Hp) (b f g h:IV):OH :=
 Ai [] false false a 26 [b,.fv (.int .i64 0),f] e fun c i _ _=>Aq 0 c fun j=>Aq 1 c fun k=>Ay 90200072 (.row [.fv (.int .i64 0),.fv (.int .i64 0),.nils] false) (.ptr (.own 90200072) 0) i fun d l _ _=>Ae 3 d j l fun m _ _=>Aj0 a g d k h m b
def Anb (b:IV) (c:Aa) (a:Hp) (d e g:IV):OH :=
 Cg EE 3 b (.fv (.int .i64 0)) fun h=>Aj h (Ai [] false false c 57 [b] a fun f i _ _=>Aq 0 f fun j=>Alk f i d j) (AP 3 e (.fv (.int .i64 1)) fun k=>Ad 3 k a fun l _=>AkM c a g l d e)
def Ajc (b:AB) (a:Aa) (d:Hp) (c e f g:IV):OH :=
 Ab [] b [] (Ai [] false false a 30 [.fv (.int .i64 15),.nils] d fun h i j k=>Ab [(b,[])] j k (Ai [] false false a 61 [c,.fv (.int .i64 0),e,h] i fun l m n o=>Ab [] n o (Anb l a m f g c)))
def Alv (c:IV) (d:Hp) (a e:IV):OH :=
 Aq 1 c fun f=>Ae 3 a e d fun b _ _=>Ap true 3 a b fun g=>Am [g,f] b
def AjQ (c:Hp) (a d:IV):OH :=
 Ae 3 a d c fun b _ _=>Ap true 3 a b fun e=>Am [e,.fv (.int .i64 0)] b
def Alx (b:IV) (a:Hp) (c d:IV):OH :=
 Af 0 b fun e=>Ak e a fun f _=>Bd EE 3 f (.fv (.int .i64 23)) fun g=>AP 3 c g fun h=>Ad 3 h a fun i _=>AjQ a d i
def AlH (b:IV) (e:Aa) (a:Hp) (c f g:IV):OH :=
 Cg EE 3 b (.fv (.int .i64 0)) fun h=>Aj h (Ai [] false false e 57 [b] a fun d i _ _=>Aq 0 d fun j=>Alv d i c j) (Af 2 f fun k=>Ak k a fun l _=>Alx g a l c)
def AnS (a:Aa) (d:Hp) (e f g h:IV):OH :=
 Ai [] false false a 85 [e,.fv (.int .i64 0),f,.fv (.int .i64 17)] d fun b i _ _=>Aq 0 b fun j=>Aq 1 b fun k=>Ay 90206216 (.row [.fv (.int .i64 0),.fv (.int .i64 0),.nils] false) (.ptr (.own 90206216) 0) i fun c l _ _=>Ae 3 c j l fun m _ _=>AlH k a m g c h
def AkD (f b:IV) (a:Hp) (c:Aa) (d e g:IV):OH :=
 AQ EE 3 f (.fv (.int .i64 27)) fun h=>Aj h (AP 3 b (.fv (.int .i64 0)) fun i=>Ad 3 i a fun j k=>Ajc k c a d j e b) (AP 3 b (.fv (.int .i64 0)) fun l=>Ad 3 l a fun m _=>AnS c a d m e g)
def Amb (c a:IV) (b:Hp) (d:Aa) (e f g:IV):OH :=
 AQ EE 3 c (.fv (.int .i64 21)) fun h=>Aj h (AP 3 a (.fv (.int .i64 0)) fun i=>Ad 3 i b fun j _=>AjW d b e j f a) (AQ EE 3 c (.fv (.int .i64 22)) fun k=>Aj k (AjA a b d e f) (AkD c a b d e f g))
def S86 (c:Aa) (n:Nat) (d e:IV) (f:Hp):OH :=
 AS 90177536 e f fun a g _ _=>Ay 90177537 (.row [.fv (.int .i64 0),.fv (.int .i64 0),.nils] false) (.ptr (.own 90177537) 0) g fun h b _ _=>Af 2 a fun i=>Ak i b fun j _=>Af 0 a fun k=>Ak k b fun l _=>Amb l j b c d h a
theorem Aql (a:Aa) (n:Nat) (b c:IV) (d:Hp):Ax EE a ft.get n 86 [b,c] d=S86 a n b c d:=by kernel_rfl
def Arw (a b:AB) (c:Aa) (d:Hp) (e f:IV):OH :=
 Ab [] a b (Ai [] false false c 18 [e,f] d fun g h i j=>Ab [] i j (Am [g,.fv (.int .i64 0)] h))
def ApF (a:Aa) (e:Hp) (f g:IV) (h:AB):OH :=
 Ai [] false false a 112 [f] e fun i b c d=>Ab [] c d (Ad 3 g b fun j k=>Ab [(c,d),(h,[])] k [] (Ai [] false false a 112 [j] b fun l m n o=>Arw n o a m i l))
def ApQ (b:IV) (a:Hp) (d:IV) (e:Aa) (f:IV):OH :=
 Cg EE 3 b (.fv (.int .i64 0)) fun g=>Aj g (Am [.fv (.bool false),b] a) (Ad 3 d a fun h c=>Ab [] c [] (ApF e a h f c))
def Ape (a:Aa) (d:Hp) (e f:IV):OH :=
 Ai [] false false a 58 [e] d fun b g _ _=>Aq 0 b fun h=>Aq 1 b fun i=>Ay 91230213 (.row [.fv (.int .i64 0),.fv (.int .i64 0),.nils] false) (.ptr (.own 91230213) 0) g fun c j _ _=>Ae 3 c h j fun k _ _=>ApQ i k f a c
def Aqg (d:Hp) (e b f:IV) (g:Aa):OH :=
 Ay 91227141 (.row [.fv (.int .i64 0),.fv (.int .i64 0),.nils] false) (.ptr (.own 91227141) 0) d fun c h _ _=>Ae 3 c e h fun a _ _=>Cg EE 3 b (.fv (.int .i64 0)) fun i=>Aj i (Am [.fv (.bool false),b] a) (Ad 3 f a fun j _=>Ape g a j c)
def S87 (a:Aa) (n:Nat) (d e:IV) (f:Hp):OH :=
 AS 91226112 d f fun g h _ _=>AS 91226113 e h fun i b _ _=>Ad 3 g b fun j _=>Ai [] false false a 58 [j] b fun c k _ _=>Aq 0 c fun l=>Aq 1 c fun m=>Aqg k l m i a
theorem AqI (a:Aa) (n:Nat) (b c:IV) (d:Hp):Ax EE a ft.get n 87 [b,c] d=S87 a n b c d:=by kernel_rfl
def AoG (a:Hp) (b:IV):OH :=
 Ak b a fun c _=>Am [c,.fv (.int .i64 0)] a
def ArT (a:Hp) (b c:IV):OH :=
 Ak b a fun d _=>Cg EE 3 d (.fv (.int .i64 2)) fun e=>Aj e (Am [.fv (.int .i64 0),.fv (.int .i64 12)] a) (Af 1 c fun f=>AoG a f)
def ApC (d:Hp) (a e b:IV):OH :=
 Ae 3 a e d fun c _ _=>Cg EE 3 b (.fv (.int .i64 0)) fun f=>Aj f (Am [.fv (.int .i64 0),b] c) (Af 0 a fun g=>ArT c g a)
def S88 (c:Aa) (n:Nat) (d e:IV) (f:Hp):OH :=
 AS 92274688 e f fun g a _ _=>Ad 3 g a fun h _=>Ai [] false false c 26 [d,.fv (.int .i64 1),h] a fun b i _ _=>Aq 0 b fun j=>Aq 1 b fun k=>Ay 92275718 (.row [.fv (.int .i64 0),.fv (.int .i64 0),.nils] false) (.ptr (.own 92275718) 0) i fun l m _ _=>ApC m l j k
theorem Arb (a:Aa) (n:Nat) (b c:IV) (d:Hp):Ax EE a ft.get n 88 [b,c] d=S88 a n b c d:=by kernel_rfl
def Agz (c:Hp) (a d:IV):OH :=
 Ae 3 a d c fun b _ _=>Ap true 3 a b fun e=>Am [e] b
def S89 (b:Aa) (n:Nat) (c d e:IV) (f:Hp):OH :=
 AS 93323264 c f fun g h _ _=>AS 93323265 e h fun i j _ _=>Ay 93323266 (.row [.fv (.int .i64 0),.fv (.int .i64 0),.nils] false) (.ptr (.own 93323266) 0) j fun k a _ _=>Ad 3 g a fun l _=>Ad 3 i a fun m _=>Ai [] false false b 113 [l,d,.fv (.int .i64 0),m] a fun o p _ _=>Agz p k o
theorem AoB (a:Aa) (n:Nat) (b c d:IV) (e:Hp):Ax EE a ft.get n 89 [b,c,d] e=S89 a n b c d e:=by kernel_rfl
def Anw (d:Aa) (e:Hp) (f a:IV):OH :=
 Ai [] false false d 57 [f] e fun b g _ _=>Aq 0 b fun h=>Aq 1 b fun i=>Ae 3 a h g fun c _ _=>Ap true 3 a c fun j=>Am [j,i] c
def Al1 (c:IV) (d:Hp) (a e:IV):OH :=
 Aq 1 c fun f=>Ae 3 a e d fun b _ _=>Ap true 3 a b fun g=>Am [g,f] b
def AiV (c:IV) (d:Hp) (a e:IV):OH :=
 Aq 1 c fun f=>Ae 3 a e d fun b _ _=>Ap true 3 a b fun g=>Am [g,f] b
def Aj3 (a:Hp) (b:IV):OH :=
 Ap true 3 b a fun c=>Am [c,.fv (.int .i64 0)] a
def Akv (c:IV) (e:Aa) (a:Hp) (b f:IV):OH :=
 Cg EE 3 c (.fv (.int .i64 0)) fun g=>Aj g (Ai [] false false e 57 [c] a fun d h _ _=>Aq 0 d fun i=>AiV d h b i) (Ad 3 f a fun j _=>Ae 3 b j a fun k _ _=>Aj3 k b)
def Amw (a:Aa) (b:Hp) (c d e:IV) (f:IV→Hp→OH):OH :=
 Ai [] false false a 61 [c,.fv (.int .i64 1),d,e] b fun g h i j=>Ab [] i j (f g h)
def Aj9 (e:IV) (a:Hp) (f g b c:AB) (d:Aa) (h i j:IV) (k:IV→Hp→OH):OH :=
 AP 3 e (.fv (.int .i64 1)) fun l=>Ad 3 l a fun m n=>Ab [(f,[]),(g,[]),(b,[]),(c,[])] n [] (Ai [] false false d 89 [h,.fv (.int .i64 0),m] a fun o p q r=>Ab [(b,[]),(c,[])] q r (Amw d p i j o k))
def AmZ (a:Hp) (f:IV) (b c:AB) (g:IV) (e:AB) (h:Aa) (i j:IV) (k:IV→Hp→OH):OH :=
 Ad 3 f a fun l d=>Ab [(b,[]),(c,[])] d [] (Af 2 g fun m=>Ak m a fun n o=>Ab [(d,[]),(e,[]),(b,[]),(c,[])] o [] (Aj9 n a d e b c h l i j k))
def Aki (a:AB) (e:IV) (b:Hp) (c:AB) (f:IV) (g:Aa) (h i:IV) (j:IV→Hp→OH):OH :=
 Ab [] a [] (Af 2 e fun k=>Ak k b fun l d=>Ab [(a,[]),(c,[])] d [] (AP 3 l (.fv (.int .i64 1)) fun m=>AmZ b m a c f d g h i j))
def Amu (b:IV) (a:Hp) (d:IV) (e:Aa) (f:IV) (g:IV→Hp→OH):OH :=
 Af 2 b fun h=>Ak h a fun i c=>Ab [] c [] (AP 3 i (.fv (.int .i64 2)) fun j=>Ad 3 j a fun k l=>Aki l d a c b e f k g)
def Ai2 (a:Aa) (g:Hp) (b h i j c k:IV):OH :=
 Ai [] false false a 61 [b,.fv (.int .i64 1),h,i] g fun d e l m=>Ab [] l m ((fun (f:IV→Hp→OH)=>AQ EE 3 d (.fv (.int .i64 0)) fun n=>Aj n (Amu k e c a b f) (f d e)) fun o p=>Akv o a p j c)
def AkI (a:Hp) (d:IV) (b c:AB) (e:Aa) (f g h i j:IV):OH :=
 Ak d a fun k l=>Ab [(b,[]),(c,[])] l [] (AP 3 k (.fv (.int .i64 0)) fun m=>Ad 3 m a fun n o=>Ab [(b,[]),(c,[])] o [] (Ai2 e a f g n h i j))
def AmS (a:AB) (e:IV) (b:Hp) (c:IV) (f:Aa) (g h i:IV):OH :=
 Ab [] a [] (AP 3 e (.fv (.int .i64 1)) fun j=>Ad 3 j b fun k d=>Ab [] d [] (Af 2 c fun l=>AkI b l d a f g k h c i))
def Alt (b:IV) (c:Aa) (a:Hp) (d e g h:IV):OH :=
 Cg EE 3 b (.fv (.int .i64 0)) fun i=>Aj i (Ai [] false false c 57 [b] a fun f j _ _=>Aq 0 f fun k=>Al1 f j d k) (Af 2 e fun l=>Ak l a fun m n=>AmS n m a g c h d e)
def AlZ (c:IV) (a:IV→Hp→OH) (b:Hp) (d:IV):OH :=
 Aj c (a (.fv (.int .i64 12)) b) (a d b)
def Al9 (c:IV) (d:Hp) (f:IV) (g:IV→Hp→OH):OH :=
 AQ EE 3 c (.fv (.int .i64 0)) fun a=>Ac a true d (fun h=>Af 0 f fun i=>h i d [] []) fun j b _ _=>Ac a true b (fun k=>Ak j b fun l m=>k l b m []) fun n e _ _=>Ac a true e (fun o=>Cg EE 3 n (.fv (.int .i64 6)) fun p=>o p e [] []) fun q r _ _=>AH a q (.fv (.bool false)) fun s=>AlZ s g r c
def AkU (b:IV) (c:Hp) (d:Aa) (e f g:IV):OH :=
 Aq 0 b fun h=>Aq 1 b fun i=>Ay 94375944 (.row [.fv (.int .i64 0),.fv (.int .i64 0),.nils] false) (.ptr (.own 94375944) 0) c fun a j _ _=>Ae 3 a h j fun k _ _=>(fun (l:IV→Hp→OH)=>Al9 i k a l) fun m n=>Alt m d n e f a g
def AmW (b:IV) (a:Hp) (c:Aa) (d e:IV):OH :=
 Af 2 b fun f=>Ak f a fun g _=>AP 3 g (.fv (.int .i64 0)) fun h=>Ad 3 h a fun i _=>Ai [] false false c 58 [i] a fun j k _ _=>AkU j k c d b e
def Ai3 (a:Aa) (g:Hp) (b h c i:IV):OH :=
 Ai [] false false a 88 [b,h] g fun d e _ _=>Aq 0 d fun _=>Aq 1 d fun f=>Cg EE 3 f (.fv (.int .i64 0)) fun j=>Aj j (Anw a e f c) (AmW i e a c b)
def S90 (c:Aa) (n:Nat) (d e:IV) (f:Hp):OH :=
 AS 94371840 e f fun b g _ _=>Ay 94371841 (.row [.fv (.int .i64 0),.fv (.int .i64 0),.nils] false) (.ptr (.own 94371841) 0) g fun h a _ _=>Af 2 b fun i=>Ak i a fun j _=>AP 3 j (.fv (.int .i64 0)) fun k=>Ad 3 k a fun l _=>Ai3 c a d l h b
theorem AoJ (a:Aa) (n:Nat) (b c:IV) (d:Hp):Ax EE a ft.get n 90 [b,c] d=S90 a n b c d:=by kernel_rfl
def Ak3 (c:IV) (d:Hp) (a e:IV):OH :=
 Aq 1 c fun f=>Ae 3 a e d fun b _ _=>Ap true 3 a b fun g=>Am [g,f] b
def Akz (a:IV) (d:Hp) (b:IV):OH :=
 Aq 0 a fun e=>Aq 1 a fun f=>Ae 3 b e d fun c g h=>Ab [] g h (Ap true 3 b c fun i=>Am [i,f] c)
def Am2 (b c:AB) (a:Aa) (d:Hp) (e f g:IV):OH :=
 Ab [(c,[])] b [] (Ai [] false false a 89 [e,.fv (.int .i64 0),f] d fun h i j k=>Ab [] j k (Ai [] false false a 58 [h] i fun l m n o=>Ab [] n o (Akz l m g)))
def Ai8 (c:IV) (a:Hp) (b:AB) (d:Aa) (e f:IV):OH :=
 Af 2 c fun g=>Ak g a fun h i=>Ab [(b,[])] i [] (AP 3 h (.fv (.int .i64 3)) fun j=>Ad 3 j a fun k l=>Am2 l b d a e k f)
def AjM (b:IV) (c:Aa) (a:Hp) (d g h:IV):OH :=
 Cg EE 3 b (.fv (.int .i64 0)) fun i=>Aj i (Ai [] false false c 57 [b] a fun e j _ _=>Aq 0 e fun k=>Ak3 e j d k) (Ad 3 g a fun l f=>Ab [] f [] (Ai8 h a f c l d))
def AiO (a:Hp) (b:IV) (c d:AB) (e:Aa) (f g:IV) (h:IV→Hp→OH):OH :=
 Ad 3 b a fun i j=>Ab [(c,[]),(d,[])] j [] (Ai [] false false e 61 [f,.fv (.int .i64 1),g,i] a fun k l m n=>Ab [] m n (h k l))
def Amp (a:Hp) (d e:IV) (f:Aa) (g:IV) (h:IV→Hp→OH):OH :=
 Ak d a fun i b=>Ab [] b [] (AP 3 i (.fv (.int .i64 3)) fun j=>Ad 3 j a fun k c=>Ab [] c [] (AiO a e c b f g k h))
def AjS (a:Aa) (f g b c:IV) (d:Hp) (h i:IV):OH :=
 (fun (e:IV→Hp→OH)=>AQ EE 3 c (.fv (.int .i64 0)) fun j=>Aj j (Af 2 b fun k=>Amp d k h a i e) (e c d)) fun l m=>AjM l a m f g b
def Ait (a:Aa) (b:Hp) (c:IV) (d e:AB) (f g:IV) (h:IV→Hp→OH):OH :=
 Ai [] false false a 114 [c] b fun i j k l=>Ab [(d,[]),(e,[])] k l (Ai [] false false a 61 [f,.fv (.int .i64 1),g,i] j fun m n o p=>Ab [] o p (h m n))
def Ald (j:IV) (a:Hp) (c d e f g h:AB) (k:IV) (i:AB) (l:Aa) (m:IV) (n:IV→Hp→OH):OH :=
 AP 3 j (.fv (.int .i64 2)) fun o=>Ad 3 o a fun p b=>Ab [(c,d),(e,[]),(f,g),(h,[])] b [] (Ad 3 k a fun q r=>Ab [(b,[]),(i,[]),(c,d),(e,[]),(f,g),(h,[])] r [] (Ait l a q b i m p n))
def Am5 (c:Aa) (j:Hp) (k l m:IV) (d e f g:AB) (n:IV) (o:IV→Hp→OH):OH :=
 Ai [] false false c 84 [k,.fv (.int .i64 1),l] j fun p h a b=>Ab [] a b (Af 2 m fun q=>Ak q h fun r i=>Ab [(a,b),(d,[]),(e,f),(g,[])] i [] (Ald r h a b d e f g n i c p o))
def Al8 (a:AB) (d:Aa) (h:Hp) (i j e k:IV) (l:IV→Hp→OH):OH :=
 Ab [] a [] (Ai [] false false d 84 [i,.fv (.int .i64 1),j] h fun m f b c=>Ab [] b c (Ad 3 e f fun n g=>Ab [(b,c),(a,[])] g [] (Am5 d f m n k g b c a e l)))
def AmQ (b:Aa) (i c d e f g:IV) (a:Hp):OH :=
 (fun (h:IV→Hp→OH)=>AQ EE 3 g (.fv (.int .i64 0)) fun j=>Aj j (Ad 3 e a fun k l=>Al8 l b a f k c d h) (h g a)) fun m n=>AjS b i c d m n e f
def AjZ (a b c d:AB) (e:Aa) (f:Hp) (g h i:IV) (j:IV→Hp→OH):OH :=
 Ab [(c,[]),(d,[])] a b (Ai [] false false e 61 [g,.fv (.int .i64 1),h,i] f fun k l m n=>Ab [] m n (j k l))
def Ajh (d:Hp) (f:IV) (a b:AB) (c:Aa) (g h:IV) (i:IV→Hp→OH):OH :=
 Ad 3 f d fun j e=>Ab [(a,[]),(b,[])] e [] (Ai [] false false c 30 [.fv (.int .i64 11),.nils] d fun k l m n=>Ab [(e,[]),(a,[]),(b,[])] m n (Ai [] false false c 89 [j,.fv (.int .i64 0),k] l fun o p q r=>AjZ q r a b c p g h o i))
def Al3 (a:Hp) (d e:IV) (f:Aa) (g:IV) (h:IV→Hp→OH):OH :=
 Ak d a fun i b=>Ab [] b [] (AP 3 i (.fv (.int .i64 1)) fun j=>Ad 3 j a fun k c=>Ab [] c [] (Ajh a e c b f g k h))
def Am8 (a:Aa) (h b c i d e:IV) (f:Hp):OH :=
 (fun (g:IV→Hp→OH)=>AQ EE 3 e (.fv (.int .i64 0)) fun j=>Aj j (Af 2 c fun k=>Al3 f k b a d g) (g e f)) fun l m=>AmQ a h b c i d l m
def AkF (c d e f:AB) (a:Aa) (g:Hp) (h i j k l m n:IV):OH :=
 Ab [(d,e),(f,[])] c [] (Ai [] false false a 88 [h,i] g fun b o p q=>Ab [] p q (Aq 0 b fun _=>Aq 1 b fun r=>Am8 a j k l m n r o))
def Alg (a:Hp) (b:IV) (c:Aa) (d e j k:IV):OH :=
 Ad 3 b a fun l f=>Ab [] f [] (Ai [] false false c 84 [d,.fv (.int .i64 1),l] a fun m g h i=>Ab [] h i (Ad 3 e g fun n o=>AkF o h i f c g m n j e k b d))
def AmR (a:Hp) (c d:IV) (e:Aa) (f g h:IV):OH :=
 Ak c a fun i _=>AP 3 i (.fv (.int .i64 0)) fun j=>Ad 3 j a fun k _=>Ay 95422468 (.row [.fv (.int .i64 0),.fv (.int .i64 0),.nils] false) (.ptr (.own 95422468) 0) a fun b l _ _=>Ae 3 b k l fun m _ _=>Alg m d e f b g h
def S91 (a:Aa) (n:Nat) (d e:IV) (f:Hp):OH :=
 AS 95420416 e f fun b g _ _=>Ay 95420417 (.row [.fv (.int .i64 0),.fv (.int .i64 0),.nils] false) (.ptr (.own 95420417) 0) g fun h i _ _=>Ai [] false false a 30 [.fv (.int .i64 10),.nils] i fun j k _ _=>Ay 95421441 (.row [.fv (.int .i64 0),.fv (.int .i64 0),.nils] false) (.ptr (.own 95421441) 0) k fun c l _ _=>Ae 3 c j l fun m _ _=>Af 2 b fun o=>AmR m o c a d h b
theorem Apt (a:Aa) (n:Nat) (b c:IV) (d:Hp):Ax EE a ft.get n 91 [b,c] d=S91 a n b c d:=by kernel_rfl
def WB (a b:AB) (c:Hp) (d:IV):OH :=
 Ab [] a b (Am [d] c)
def Wr (e a b c d:AB) (f g:IV) (h:Hp) (i:IV):OH :=
 Ab [(a,b),(c,d)] e [] (BL [.fv (.int .i64 0),.fv (.int .i64 0),.fv (.int .i64 0),.nils] [(0,1,f),(1,3,g)] fun j=>AD (Al EE 71 1 [(0,j)]) 100664326 h fun k l m n=>Ab [(a,b),(c,d)] m n (AD (AK EE 100664327 false .append [71,71] [i,k]) 100664327 l fun o p q r=>WB q r p o))
def S96 (r:Aa) (n:Nat) (f g h:IV) (i:Hp):OH :=
 AS 100663296 h i fun j k _ _=>AD (Al EE 71 0 []) 100664320 k fun l m a b=>Ab [] a b (AD (AK EE 100664322 false .append [71,71] [l,f]) 100664322 m fun o c d e=>Ab [] d e (Ad 3 j c fun p q=>Wr q d e a b g p c o))
theorem Aq8 (a:Aa) (n:Nat) (b c d:IV) (e:Hp):Ax EE a ft.get n 96 [b,c,d] e=S96 a n b c d e:=by kernel_rfl
def Qo (h:IV) (i j:Hp) (a b c d e f:IV) (k:List IV→Hp→OH):OH :=
 Bv EE 3 h (.fv (.int .i64 1)) fun g=>BB (i.own.map (·.1)) [101718032,101720067] [a,b,c,d,e,f,g] j fun l=>k [a,b,c,d,e,f,g] l
def Sa (a:Hp) (b c:IV) (d:IV→Hp→OH):OH :=
 AD (Al EE 51 1 [(0,b)]) 101720066 a fun e f _ _=>AD (AK EE 101720067 false .append [51,51] [c,e]) 101720067 f fun g h _ _=>d g h
def Q2 (f g:AB) (a:Hp) (b:IV) (h:Aa) (i j k c:IV) (d:IV→Hp→OH):OH :=
 Ab [] f g (Ac b true a (fun l=>Ai [] false false h 18 [i,j] a l) fun m e n o=>Ab [] n o (AH b m (.fv (.bool false)) fun p=>Aj p (Sa e k c d) (d c e)))
def QK (d:Hp) (a:IV) (b:Aa) (h i:IV) (j k:AB) (l m:IV) (n:IV→Hp→OH):OH :=
 Ac a true d (fun o=>Ai [] false false b 112 [h] d o) fun p c e f=>Ab [] e f (Ac a true c (fun q=>Ad 3 i c fun r s=>q r c s []) fun t g u v=>Ab [(e,f),(j,k)] u v (Ac a true g (fun w=>Ai [] false false b 112 [t] g w) fun x y z A=>Q2 z A y a b p x l m n))
def R0 (f:Hp) (g h:IV) (i:Aa) (j k l:IV) (m:IV→Hp→OH):OH :=
 Ay 101718032 (.row [.fv (.int .i64 0),.fv (.int .i64 0),.nils] false) (.ptr (.own 101718032) 0) f fun b n _ _=>Ae 3 b g n fun a _ _=>AQ EE 3 h (.fv (.int .i64 0)) fun c=>Ac c true a (fun o=>Ad 3 b a fun p q=>o p a q []) fun r s d e=>Ab [] d e (QK s c i r j d e k l m)
def PU (b:IV) (a:Aa) (d:Hp) (e f g:IV) (h:IV→Hp→OH):OH :=
 Bv EE 3 b (.fv (.int .i64 1)) fun i=>Ai [] false false a 28 [e,i,.fv (.int .i64 0)] d fun j k _ _=>Ai [] false false a 58 [j] k fun c l _ _=>Aq 0 c fun m=>Aq 1 c fun n=>R0 l m n a f b g h
def P3 (c a d:IV) (b:Hp) (e:Aa) (f g:IV) (h:IV→Hp→OH):OH :=
 Bd EE 3 c (.fv (.int .i64 1)) fun i=>Bd EE 3 i a fun j=>AP 4 d j fun k=>Af 1 k fun l=>Ad 3 l b fun m _=>PU a e b m f g h
def Q3 (e:IV) (a:Hp) (f:IV) (b:IV→Hp→OH) (c d g:IV) (h:Aa) (i:IV):OH :=
 Af 0 e fun j=>Ak j a fun k _=>Cg EE 3 k f fun l=>Aj l (b c a) (Bz d fun m=>P3 m g d a h i c b)
def RZ (b:IV) (e:Hp) (a c f d g:IV) (h:List IV→Hp→OH) (i:Hp) (j:IV) (k:Aa):OH :=
 (fun (l:IV→Hp→OH)=>Bz a fun m=>Bd EE 3 m (.fv (.int .i64 1)) fun n=>Bd EE 3 n b fun o=>AP 4 a o fun p=>Q3 p i c l j a b k d) fun q r=>Qo b e r a c f d g q h
def Qk (c:Hp) (a d:IV):OH :=
 Ae 3 a d c fun b _ _=>Ap true 3 a b fun e=>Am [e,.fv (.bool false)] b
def Pv (a:Hp) (b:IV):OH :=
 Ap true 3 b a fun c=>Am [c,.fv (.bool true)] a
def PS (a:Aa) (d:Hp) (e f g b:IV):OH :=
 Ai [] false false a 41 [e,f] d fun h c _ _=>AP 1 g h fun i=>Ak i c fun j _=>Ai [] false false a 29 [j] c fun k l _ _=>Ae 3 b k l fun m _ _=>Pv m b
def P4 (a:IV) (b:Hp) (c:IV) (d:Aa) (e:IV):OH :=
 Bz a fun f=>AQ EE 3 f (.fv (.int .i64 0)) fun g=>Aj g (BL [.fv (.int .i64 0),.fv (.int .i64 0),.nils] [] fun h=>Qk b c h) (Bz a fun i=>PS d b e i a c)
def Qy (h:List IV) (a:IV) (i:Hp) (j b k c:IV) (l:List IV→Hp→OH) (d:Hp) (e:Aa):OH :=
 AF h fun f m=>AF m fun g _=>Bz a fun n=>GM EE 3 g n fun o=>Aj o (RZ g i a j b k c l d f e) (P4 f d c e b)
def AdV (a:List IV) (b:Hp) (c:List IV→Hp→OH) (d:Hp) (e:Aa):OH :=
 AF a fun f g=>AF g fun h i=>AF i fun j k=>AF k fun l m=>AF m fun n o=>Qy o f b h j l n c d e
def S97 (g:Aa) (n:Nat) (b c h d:IV) (a:Hp):OH :=
 AS 101711872 h a fun e i _ _=>Ay 101711873 (.row [.fv (.int .i64 0),.fv (.int .i64 0),.nils] false) (.ptr (.own 101711873) 0) i fun f j _ _=>BB (a.own.map (·.1)) [101718032,101720067] [b,c,d,e,f,.nils,.fv (.int .i64 0)] j fun k=>Bh n (fun l m o=>AdV m a l o g) [b,c,d,e,f,.nils,.fv (.int .i64 0)] k
theorem Art (a:Aa) (n:Nat) (b c d e:IV) (f:Hp):Ax EE a ft.get n 97 [b,c,d,e] f=S97 a n b c d e f:=by kernel_rfl
def AaC (a:Hp) (b c:IV):OH :=
 Ap true 3 b a fun d=>Am [d,c] a
def Ys (a:Hp) (b f g c h:IV):OH :=
 Ac b true a (fun i=>i f a [] []) fun j d _ _=>AH b j (.fv (.bool false)) fun e=>Ac e true d (fun k=>k g d [] []) fun l m _ _=>AH e l (.fv (.bool false)) fun n=>Ae 3 c h m fun o _ _=>AaC o c n
def XU (a:Hp) (b c d:IV) (e:Aa) (f g h i:IV):OH :=
 Ad 3 b a fun j _=>Ad 3 c a fun k _=>Ad 3 d a fun l _=>AD (Al EE 28 3 [(0,j),(1,k),(2,l)]) 102767619 a fun m n _ _=>Ai [] false false e 30 [.fv (.int .i64 27),m] n fun o p _ _=>Ys p f g h i o
def AbY (b:IV) (c:Hp) (d e f g h i:AB) (j k l:IV) (m:Aa) (n o p:IV):OH :=
 Aq 1 b fun q=>Ay 102766602 (.row [.fv (.int .i64 0),.fv (.int .i64 0),.nils] false) (.ptr (.own 102766602) 0) c fun a r s t=>Ab [(d,e),(f,g),(h,[]),(i,[])] s t (Ae 3 a j r fun u v w=>Ab [] v w (XU u k l a m n o q p))
def Zl (a b c:AB) (h:IV) (d:Aa) (i:Hp) (j k l:IV) (m:AB) (n o p q r:IV):OH :=
 Ab [(c,[])] a b (Bd EE 3 h (.fv (.int .i64 2)) fun s=>Ai [] false false d 68 [j,k,l,s] i fun e t f g=>Ab [] f g (Aq 0 e fun u=>AbY e t f g a b m c u n o d p q r))
def Aab (a:Hp) (e f:IV) (c:Aa) (g h i j k l m:IV):OH :=
 Ad 3 e a fun n b=>Ab [] b [] (Ad 3 f a fun o d=>Ab [(b,[])] d [] (Ai [] false false c 42 [o,.fv (.int .i64 2)] a fun p q r s=>Zl r s b g c q h n p d i j k l m))
def Acz (b:IV) (c:Hp) (d e f g h i:AB) (j k l:IV) (m:Aa) (n o p q r:IV):OH :=
 Aq 1 b fun s=>Ay 102765578 (.row [.fv (.int .i64 0),.fv (.int .i64 0),.nils] false) (.ptr (.own 102765578) 0) c fun a t u v=>Ab [(d,e),(f,g),(h,[]),(i,[])] u v (Ae 3 a j t fun w x y=>Ab [] x y (Aab w k l m n o p a q s r))
def Abe (a b c:AB) (d:IV) (e:Aa) (j:Hp) (f k l:IV) (m:AB) (n o p q r:IV):OH :=
 Ab [(c,[])] a b (Bd EE 3 d (.fv (.int .i64 2)) fun s=>Ai [] false false e 68 [f,k,l,s] j fun g t h i=>Ab [] h i (Aq 0 g fun u=>Acz g t h i a b m c u n o e d f p q r))
def Acl (a:Hp) (c d:IV) (e:Aa) (g h i j k:IV):OH :=
 Ad 3 c a fun l b=>Ab [] b [] (Ad 3 d a fun m f=>Ab [(b,[])] f [] (Ai [] false false e 42 [m,.fv (.int .i64 1)] a fun n o p q=>Abe p q b g e o h l n f c d i j k))
def Zy (b:IV) (c:Hp) (d e f g h i:AB) (j k l:IV) (m:Aa) (n o p:IV):OH :=
 Aq 1 b fun q=>Ay 102764554 (.row [.fv (.int .i64 0),.fv (.int .i64 0),.nils] false) (.ptr (.own 102764554) 0) c fun a r s t=>Ab [(d,e),(f,g),(h,[]),(i,[])] s t (Ae 3 a j r fun u v w=>Ab [] v w (Acl u k l m n o a q p))
def Adl (a b c:AB) (d:IV) (e:Aa) (j:Hp) (f k l:IV) (m:AB) (n o p:IV):OH :=
 Ab [(c,[])] a b (Bd EE 3 d (.fv (.int .i64 2)) fun q=>Ai [] false false e 68 [f,k,l,q] j fun g r h i=>Ab [] h i (Aq 0 g fun s=>Zy g r h i a b m c s n o e d f p))
def ZZ (a:Hp) (f c:IV) (d:Aa) (g h i j:IV):OH :=
 Ad 3 f a fun k b=>Ab [] b [] (Ad 3 c a fun l e=>Ab [(b,[])] e [] (Ai [] false false d 42 [l,.fv (.int .i64 0)] a fun m n o p=>Adl o p b g d n h k m e i c j))
def Acf (c:Hp) (a d e:IV):OH :=
 Ae 3 a d c fun b _ _=>Ap true 3 a b fun f=>Am [f,e] b
def AbL (a:Hp) (d e:IV) (f:Aa) (b g h:IV):OH :=
 Ad 3 d a fun i _=>AD (Al EE 28 2 [(0,e),(1,i)]) 102772738 a fun j k _ _=>Ai [] false false f 30 [.fv (.int .i64 28),j] k fun l c _ _=>Ac b true c (fun m=>m g c [] []) fun n o _ _=>AH b n (.fv (.bool false)) fun p=>Acf o h l p
def Acm (c:Hp) (d e f g h i j k l m n:AB) (o p:IV) (q:Aa) (r s t:IV):OH :=
 Ay 102771725 (.row [.fv (.int .i64 0),.fv (.int .i64 0),.nils] false) (.ptr (.own 102771725) 0) c fun a u v w=>Ab [(d,e),(f,g),(h,[]),(i,j),(k,[]),(l,m),(n,[])] v w (Ae 3 a o u fun b x y=>Ab [] x y (Ad 3 p b fun z _=>AbL b a z q r s t))
def Ab9 (e:IV) (a:Aa) (f:Hp) (g h i:IV) (j k l m n o p q r:AB) (s t u:IV):OH :=
 Bd EE 3 e (.fv (.int .i64 2)) fun v=>Ai [] false false a 68 [g,h,i,v] f fun b w c d=>Ab [] c d (Aq 0 b fun x=>Aq 1 b fun y=>Acm w c d j k l m n o p q r x s a t y u)
def Yu (a b:AB) (c:Hp) (l:IV) (d e f g:AB) (h:Aa) (m n o p q r:IV):OH :=
 Ab [] a b (Ad 3 l c fun s i=>Ab [(a,b),(d,[]),(e,f),(g,[])] i [] (Ai [] false false h 42 [s,.fv (.int .i64 2)] c fun t u j k=>Ab [] j k (Ab9 m h u n o t j k i a b d e f g p q r)))
def AbW (a:Aa) (g:Hp) (h i j:IV) (d:AB) (k l m n o:IV):OH :=
 Ai [] false false a 96 [h,.fv (.int .i64 0),i] g fun p e b c=>Ab [] b c (Ad 3 j e fun q f=>Ab [(b,c),(d,[])] f [] (Ai [] false false a 28 [q,.fv (.int .i64 1),.fv (.int .i64 0)] e fun r s t u=>Yu t u s k f b c d a l p r m n o))
def Zm (d e f g h i j k:AB) (l:Hp) (a m n:IV) (o:Aa) (p q r s t u:IV):OH :=
 Ab [(f,g),(h,i),(j,[]),(k,[])] d e (Ae 3 a m l fun b v w=>Ab [] v w (Ad 3 n b fun x c=>Ab [] c [] (AbW o b p x q c r s a t u)))
def AbT (a:Aa) (f:Hp) (b g h i:IV) (j k l m:AB) (n o p q r:IV):OH :=
 Ai [] false false a 68 [b,g,h,i] f fun c s d e=>Ab [] d e (Aq 0 c fun t=>Aq 1 c fun u=>Ay 102770698 (.row [.fv (.int .i64 0),.fv (.int .i64 0),.nils] false) (.ptr (.own 102770698) 0) s fun v w x y=>Zm x y d e j k l m w v t n a b o p q u r)
def Yf (b:Hp) (c:IV) (a:AB) (d:Aa) (e i j k l m:IV):OH :=
 Ad 3 c b fun n f=>Ab [(a,[])] f [] (Ai [] false false d 42 [n,.fv (.int .i64 1)] b fun o p g h=>Ab [(a,[])] g h (Bd EE 3 e (.fv (.int .i64 2)) fun q=>AbT d p i j o q g h f a k l c e m))
def YX (b:Aa) (e:Hp) (f g h i j k:IV):OH :=
 Ai [] false false b 14 [f,.fv (.int .i64 1)] e fun l m _ _=>Ay 102769667 (.row [.fv (.int .i64 0),.fv (.int .i64 0),.nils] false) (.ptr (.own 102769667) 0) m fun a n _ _=>Ae 3 a l n fun c _ _=>Ad 3 a c fun o d=>Ab [] d [] (Yf c g d b h i o a j k)
def AbU (a:Hp) (b e c f:IV):OH :=
 Ac b true a (fun g=>g e a [] []) fun h i _ _=>AH b h (.fv (.bool false)) fun j=>Ae 3 c f i fun d k l=>Ab [] k l (Ap true 3 c d fun m=>Am [m,j] d)
def Zp (a b c d e f g:AB) (h:Hp) (i j:IV) (k:Aa) (l m n:IV):OH :=
 Ab [(b,c),(d,e),(f,[]),(g,[])] a [] (AD (Al EE 28 2 [(0,i),(1,j)]) 102777861 h fun o p q r=>Ab [] q r (Ai [] false false k 30 [.fv (.int .i64 21),o] p fun s t u v=>Ab [] u v (AbU t l m n s)))
def Ym (g:Hp) (h i:IV) (a:Aa) (j:IV) (k l:AB) (m n o:IV):OH :=
 AD (Al EE 28 2 [(0,h),(1,i)]) 102777858 g fun p q b c=>Ab [] b c (Ai [] false false a 30 [.fv (.int .i64 20),p] q fun r d e f=>Ab [] e f (Ad 3 j d fun s t=>Zp t e f b c k l d r s a m n o))
def AdF (d e:AB) (a:Hp) (f g:IV) (h:Aa) (i j k l:IV):OH :=
 Ab [] d e (Ad 3 f a fun m b=>Ab [] b [] (Ad 3 g a fun n c=>Ab [(b,[])] c [] (Ym a m n h i c b j k l)))
def Yc (a:IV) (c:Hp) (d e f g h i j k l m n:AB) (o:IV) (p:Aa) (q r s:IV):OH :=
 Aq 0 a fun t=>Aq 1 a fun u=>Ay 102776845 (.row [.fv (.int .i64 0),.fv (.int .i64 0),.nils] false) (.ptr (.own 102776845) 0) c fun b v w x=>Ab [(d,e),(f,g),(h,[]),(i,j),(k,[]),(l,m),(n,[])] w x (Ae 3 b t v fun y z A=>AdF z A y o b p q r u s)
def AaH (a:Aa) (f:Hp) (g h i j:IV) (k l m n o p q:AB) (r s t u:IV):OH :=
 Ai [] false false a 42 [g,.fv (.int .i64 2)] f fun v w b c=>Ab [] b c (Bd EE 3 h (.fv (.int .i64 2)) fun x=>Ai [] false false a 68 [i,j,v,x] w fun y z d e=>Ab [] d e (Yc y z d e b c k l m n o p q r a s t u))
def Yj (a b c d:AB) (g:Aa) (j:Hp) (k l m n o p q r:IV):OH :=
 Ab [(b,c),(d,[])] a [] (Ai [] false false g 28 [k,.fv (.int .i64 1),.fv (.int .i64 0)] j fun s h e f=>Ab [] e f (Ad 3 l h fun t i=>Ab [(e,f),(a,[]),(b,c),(d,[])] i [] (AaH g h t m n s i e f a b c d o p q r)))
def XP (a:Hp) (b:IV) (c:Aa) (h i j k l m n:IV):OH :=
 Ad 3 b a fun o d=>Ab [] d [] (Ai [] false false c 96 [h,.fv (.int .i64 0),o] a fun p e f g=>Ab [] f g (Ad 3 i e fun q r=>Yj r f g d c e q j k p b l m n))
def ZL (b:IV) (c:Hp) (d e f g h i:AB) (j k:IV) (l:Aa) (m n o p q:IV):OH :=
 Aq 1 b fun r=>Ay 102775818 (.row [.fv (.int .i64 0),.fv (.int .i64 0),.nils] false) (.ptr (.own 102775818) 0) c fun a s t u=>Ab [(d,e),(f,g),(h,[]),(i,[])] t u (Ae 3 a j s fun v w x=>Ab [] w x (XP v k l m n o p a r q))
def AdA (a b c:AB) (d:IV) (e:Aa) (j:Hp) (f k l:IV) (m:AB) (n o p q:IV):OH :=
 Ab [(c,[])] a b (Bd EE 3 d (.fv (.int .i64 2)) fun r=>Ai [] false false e 68 [f,k,l,r] j fun g s h i=>Ab [] h i (Aq 0 g fun t=>ZL g s h i a b m c t n e f o p d q))
def Z0 (a:Hp) (c d:IV) (e:Aa) (g h i j:IV):OH :=
 Ad 3 c a fun k b=>Ab [] b [] (Ad 3 d a fun l f=>Ab [(b,[])] f [] (Ai [] false false e 42 [l,.fv (.int .i64 1)] a fun m n o p=>AdA o p b g e n h k m f c i d j))
def X6 (b:Hp) (c:IV) (a:Aa) (e f g h:IV):OH :=
 Ad 3 c b fun i _=>Ai [] false false a 42 [i,.fv (.int .i64 0)] b fun j k _ _=>Ai [] false false a 14 [j,.fv (.int .i64 1)] k fun l m _ _=>Ay 102774787 (.row [.fv (.int .i64 0),.fv (.int .i64 0),.nils] false) (.ptr (.own 102774787) 0) m fun d n _ _=>Ae 3 d l n fun o _ _=>Z0 o d c a e f g h
def AbX (c d:IV) (e:Hp) (a f:IV):OH :=
 AH c d (.fv (.bool false)) fun g=>Ae 3 a f e fun b _ _=>Ap true 3 a b fun h=>Am [h,g] b
def XO (d:Hp) (e f:IV) (a:Aa) (b g h:IV):OH :=
 AD (Al EE 28 2 [(0,e),(1,f)]) 102781954 d fun i j _ _=>Ai [] false false a 30 [.fv (.int .i64 22),i] j fun k l _ _=>AD (Al EE 28 1 [(0,k)]) 102781956 l fun m n _ _=>Ai [] false false a 30 [.fv (.int .i64 23),m] n fun o c _ _=>Ac b true c (fun p=>p g c [] []) fun q r _ _=>AbX b q r h o
def AbH (c d e f g h i j:AB) (k:Hp) (b l m:IV) (n:Aa) (o p q:IV):OH :=
 Ab [(e,f),(g,h),(i,[]),(j,[])] c d (Ae 3 b l k fun a r s=>Ab [] r s (Ad 3 m a fun t _=>Ad 3 b a fun u _=>XO a t u n o p q))
def Aay (a:Aa) (e:Hp) (f g h i:IV) (j k l m:AB) (n o p:IV):OH :=
 Ai [] false false a 68 [f,g,h,i] e fun b q c d=>Ab [] c d (Aq 0 b fun r=>Aq 1 b fun s=>Ay 102780938 (.row [.fv (.int .i64 0),.fv (.int .i64 0),.nils] false) (.ptr (.own 102780938) 0) q fun t u v w=>AbH v w c d j k l m u t r n a o s p)
def Acd (b:Hp) (g:IV) (a:AB) (c:Aa) (h i j k l m:IV):OH :=
 Ad 3 g b fun n d=>Ab [(a,[])] d [] (Ai [] false false c 42 [n,.fv (.int .i64 1)] b fun o p e f=>Ab [(a,[])] e f (Bd EE 3 h (.fv (.int .i64 2)) fun q=>Aay c p i j o q e f d a k l m))
def YJ (d e f g h i j k:AB) (l:Hp) (a m n o:IV) (p:Aa) (q r s t:IV):OH :=
 Ab [(f,g),(h,i),(j,[]),(k,[])] d e (Ae 3 a m l fun b u v=>Ab [] u v (Ad 3 n b fun w c=>Ab [] c [] (Acd b o c p q r w a s t)))
def Aby (a:Aa) (f:Hp) (b g h i:IV) (j k l m:AB) (n o p q:IV):OH :=
 Ai [] false false a 68 [b,g,h,i] f fun c r d e=>Ab [] d e (Aq 0 c fun s=>Aq 1 c fun t=>Ay 102779914 (.row [.fv (.int .i64 0),.fv (.int .i64 0),.nils] false) (.ptr (.own 102779914) 0) r fun u v w x=>YJ w x d e j k l m v u s n o a p b t q)
def Acc (b:Hp) (c:IV) (a:AB) (d:Aa) (e i j k l:IV):OH :=
 Ad 3 c b fun m f=>Ab [(a,[])] f [] (Ai [] false false d 42 [m,.fv (.int .i64 0)] b fun n o g h=>Ab [(a,[])] g h (Bd EE 3 e (.fv (.int .i64 2)) fun p=>Aby d o i j n p g h f a k c e l))
def Abm (c:Hp) (a d e:IV):OH :=
 Ae 3 a d c fun b _ _=>Ap true 3 a b fun f=>Am [f,e] b
def XG (b c:AB) (a:Hp) (d e:IV) (f:Aa) (g h:IV):OH :=
 Ab [] b c (Ad 3 d a fun i _=>Ad 3 e a fun j _=>AD (Al EE 28 2 [(0,i),(1,j)]) 102785026 a fun k l _ _=>Ai [] false false f 30 [.fv (.int .i64 29),k] l fun m n _ _=>Abm n g m h)
def Abw (a:IV) (c:Hp) (d e f g h i j k l m n:AB) (o:IV) (p:Aa) (q:IV):OH :=
 Aq 0 a fun r=>Aq 1 a fun s=>Ay 102784013 (.row [.fv (.int .i64 0),.fv (.int .i64 0),.nils] false) (.ptr (.own 102784013) 0) c fun b t u v=>Ab [(d,e),(f,g),(h,[]),(i,j),(k,[]),(l,m),(n,[])] u v (Ae 3 b r t fun w x y=>XG x y w o b p q s)
def Aa3 (a:Aa) (f:Hp) (g h i j:IV) (k l m n o p q:AB) (r s:IV):OH :=
 Ai [] false false a 42 [g,.fv (.int .i64 0)] f fun t u b c=>Ab [] b c (Bd EE 3 h (.fv (.int .i64 2)) fun v=>Ai [] false false a 68 [i,j,t,v] u fun w x d e=>Ab [] d e (Abw w x d e b c k l m n o p q r a s))
def AcU (a b c d:AB) (g:Aa) (j:Hp) (k l m n o p:IV):OH :=
 Ab [(b,c),(d,[])] a [] (Ai [] false false g 28 [k,.fv (.int .i64 1),.fv (.int .i64 0)] j fun q h e f=>Ab [] e f (Ad 3 l h fun r i=>Ab [(e,f),(a,[]),(b,c),(d,[])] i [] (Aa3 g h r m n q i e f a b c d o p)))
def Zt (b:Hp) (a:IV) (c:Aa) (h i j k:IV):OH :=
 Ad 3 a b fun l d=>Ab [] d [] (Ai [] false false c 96 [h,.fv (.int .i64 0),l] b fun m e f g=>Ab [] f g (Ad 3 a e fun n o=>AcU o f g d c e n i j m a k))
def Z3 (c:Hp) (d:IV) (e:Aa) (a f:IV):OH :=
 AD (Al EE 28 1 [(0,d)]) 102787073 c fun g h _ _=>Ai [] false false e 30 [.fv (.int .i64 30),g] h fun i j _ _=>Ae 3 a i j fun b _ _=>Ap true 3 a b fun k=>Am [k,f] b
def Abo (c:Hp) (d e f g h i j k l m:AB) (n:IV) (o:Aa) (p q:IV):OH :=
 Ay 102786060 (.row [.fv (.int .i64 0),.fv (.int .i64 0),.nils] false) (.ptr (.own 102786060) 0) c fun a r s t=>Ab [(d,e),(f,g),(h,[]),(i,j),(k,l),(m,[])] s t (Ae 3 a n r fun b u v=>Ab [] u v (Ad 3 a b fun w _=>Z3 b w o p q))
def XW (e:IV) (a:Aa) (f:Hp) (g h i:IV) (j k l m n o p q:AB) (r:IV):OH :=
 Bd EE 3 e (.fv (.int .i64 1)) fun s=>Ai [] false false a 70 [g,h,i,s] f fun b t c d=>Ab [] c d (Aq 0 b fun u=>Aq 1 b fun v=>Abo t c d j k l m n o p q u a r v)
def Adj (a b:AB) (c:Hp) (k:IV) (d e f:AB) (g:Aa) (l m n o:IV):OH :=
 Ab [] a b (Ad 3 k c fun p h=>Ab [(a,b),(d,e),(f,[])] h [] (Ai [] false false g 42 [p,.fv (.int .i64 0)] c fun q r i j=>Ab [] i j (XW l g r m n q i j h a b d e f o)))
def Aar (a:Hp) (f:IV) (b:Aa) (g h i j:IV):OH :=
 Ad 3 f a fun k c=>Ab [] c [] (AD (Al EE 28 1 [(0,k)]) 102786050 a fun l m d e=>Ab [] d e (Ai [] false false b 30 [.fv (.int .i64 18),l] m fun n o p q=>Adj p q o g d e c b h i n j))
def AaF (h:IV) (a:Hp) (b c:IV) (d:Aa) (e f j g:IV):OH :=
 AQ EE 3 h (.fv (.int .i64 3)) fun k=>Aj k (Ad 3 b a fun l i=>Ab [] i [] (Acc a c i d e f l j g)) (AQ EE 3 h (.fv (.int .i64 4)) fun m=>Aj m (Zt a b d f c e g) (Aar a b d c e f g))
def XM (d:IV) (a:Hp) (b:IV) (c:Aa) (e f g h i:IV):OH :=
 AQ EE 3 d (.fv (.int .i64 1)) fun j=>Aj j (Ad 3 b a fun k _=>Ai [] false false c 42 [k,.fv (.int .i64 0)] a fun l m _ _=>YX c m l b e f g h) (AQ EE 3 d (.fv (.int .i64 2)) fun n=>Aj n (X6 a b c e f g h) (AaF d a g b c e f i h))
def Za (a:IV) (c:Hp) (b:Aa) (d e f g h:IV):OH :=
 Af 1 a fun k=>Ak k c fun l _=>Ai [] false false b 41 [l,.fv (.int .i64 7)] c fun i j _ _=>AQ EE 3 i (.fv (.int .i64 0)) fun m=>Aj m (ZZ j d a b e f g h) (XM i j a b e f g h d)
def S98 (a:Aa) (n:Nat) (c d e f:IV) (g:Hp):OH :=
 AS 102760448 d g fun h i _ _=>AS 102760449 e i fun j k _ _=>Ay 102760450 (.row [.fv (.int .i64 0),.fv (.int .i64 0),.nils] false) (.ptr (.own 102760450) 0) k fun l m _ _=>Ai [] false false a 30 [.fv (.int .i64 15),.nils] m fun o p _ _=>Ay 102761473 (.row [.fv (.int .i64 0),.fv (.int .i64 0),.nils] false) (.ptr (.own 102761473) 0) p fun b q _ _=>Ae 3 b o q fun r _ _=>Za j r a b f c h l
theorem ApL (a:Aa) (n:Nat) (b c d e:IV) (f:Hp):Ax EE a ft.get n 98 [b,c,d,e] f=S98 a n b c d e f:=by kernel_rfl
def S99 (c:Aa) (n:Nat) (d:Hp):OH :=
 Ay 103809024 (.row [.fv (.int .i64 0),.fv (.int .i64 0),.nils] false) (.ptr (.own 103809024) 0) d fun a e _ _=>Ai [] false false c 30 [.fv (.int .i64 10),.nils] e fun f g _ _=>Ae 3 a f g fun b _ _=>Ap true 3 a b fun h=>Am [h] b
theorem Apk (a:Aa) (n:Nat) (b:Hp):Ax EE a ft.get n 99 [] b=S99 a n b:=by kernel_rfl
def Tc (c d:IV) (e:Hp) (a f:IV):OH :=
 AH c d (.fv (.bool false)) fun g=>Ae 3 a f e fun b _ _=>Ap true 3 a b fun h=>Am [h,g] b
def SU (d:Hp) (e f g:IV) (a:Aa) (b h i:IV):OH :=
 AD (Al EE 28 3 [(0,e),(1,f),(2,g)]) 104863747 d fun j k _ _=>Ai [] false false a 30 [.fv (.int .i64 7),j] k fun l m _ _=>AD (Al EE 28 1 [(0,l)]) 104863749 m fun n o _ _=>Ai [] false false a 30 [.fv (.int .i64 8),n] o fun p c _ _=>Ac b true c (fun q=>q h c [] []) fun r s _ _=>Tc b r s i p
def SD (c:Hp) (b d e f:IV) (g:Aa) (h i j:IV):OH :=
 Ae 3 b d c fun a k l=>Ab [] k l (Ad 3 b a fun m _=>Ad 3 e a fun n _=>Ad 3 f a fun o _=>SU a m n o g h i j)
def T6 (a b:AB) (c:Aa) (f:Hp) (g:IV) (h i j k:AB) (l m n o p:IV):OH :=
 Ab [] a b (Ai [] false false c 30 [.fv (.int .i64 6),g] f fun q r d e=>Ab [] d e (Ay 104862725 (.row [.fv (.int .i64 0),.fv (.int .i64 0),.nils] false) (.ptr (.own 104862725) 0) r fun s t u v=>Ab [(d,e),(a,b),(h,i),(j,[]),(k,[])] u v (SD t s q l m c n o p)))
def Tp (b:Hp) (g:IV) (a:AB) (c:Aa) (h i j k l m:IV):OH :=
 Ad 3 g b fun n d=>Ab [(a,[])] d [] (Ai [] false false c 28 [n,.fv (.int .i64 1),.fv (.int .i64 0)] b fun o p e f=>Ab [(a,[])] e f (AD (Al EE 28 2 [(0,h),(1,o)]) 104862723 p fun q r s t=>T6 s t c r q e f d a i j k l m))
def Ue (d e f g h i j k:AB) (l:Hp) (a m n o:IV) (p:Aa) (q r s t:IV):OH :=
 Ab [(f,g),(h,i),(j,[]),(k,[])] d e (Ae 3 a m l fun b u v=>Ab [] u v (Ad 3 n b fun w c=>Ab [] c [] (Tp b o c p w a q r s t)))
def UE (a:Aa) (e:Hp) (f g h i:IV) (j k l m:AB) (n o p q r:IV):OH :=
 Ai [] false false a 70 [f,g,h,i] e fun b s c d=>Ab [] c d (Aq 0 b fun t=>Aq 1 b fun u=>Ay 104861706 (.row [.fv (.int .i64 0),.fv (.int .i64 0),.nils] false) (.ptr (.own 104861706) 0) s fun v w x y=>Ue x y c d j k l m w v t n o a p q u r)
def U5 (b:Hp) (g:IV) (a:AB) (c:Aa) (h i j k l m n o:IV):OH :=
 Ad 3 g b fun p d=>Ab [(a,[])] d [] (Ai [] false false c 42 [p,.fv (.int .i64 2)] b fun q r e f=>Ab [(a,[])] e f (Bd EE 3 h (.fv (.int .i64 2)) fun s=>UE c r i j q s e f d a k l m n o))
def SR (c:Hp) (a d e:IV):OH :=
 Ae 3 a d c fun b f g=>Ab [] f g (Ap true 3 a b fun h=>Am [h,e] b)
def SP (c d:AB) (e:Aa) (f:Hp) (g a h i:IV):OH :=
 Ab [] c d (Ai [] false false e 30 [.fv (.int .i64 5),g] f fun j b k l=>Ab [] k l (Ac a true b (fun m=>m h b [] []) fun n o _ _=>AH a n (.fv (.bool false)) fun p=>SR o i j p))
def U1 (a:Aa) (e:Hp) (f g:IV) (h i j k:AB) (l m n:IV):OH :=
 Ai [] false false a 30 [.fv (.int .i64 4),f] e fun o b c d=>Ab [] c d (Ad 3 g b fun p q=>Ab [(c,d),(h,i),(j,[]),(k,[])] q [] (AD (Al EE 28 2 [(0,o),(1,p)]) 104865797 b fun r s t u=>SP t u a s r l m n))
def Vg (a:AB) (b:Hp) (f g:IV) (h:Aa) (i j k l:IV):OH :=
 Ab [] a [] (Ad 3 f b fun m c=>Ab [(a,[])] c [] (AD (Al EE 28 2 [(0,g),(1,m)]) 104865794 b fun n o d e=>Ab [] d e (U1 h o n i d e c a j k l)))
def UJ (c:Hp) (d e f g h i j k l m n:AB) (o p:IV) (q:Aa) (r s t u:IV):OH :=
 Ay 104864781 (.row [.fv (.int .i64 0),.fv (.int .i64 0),.nils] false) (.ptr (.own 104864781) 0) c fun a v w x=>Ab [(d,e),(f,g),(h,[]),(i,j),(k,[]),(l,m),(n,[])] w x (Ae 3 a o v fun b y z=>Ab [] y z (Ad 3 p b fun A B=>Vg B b a A q r s t u))
def TW (e:IV) (a:Aa) (f:Hp) (g h i:IV) (j k l m n o p q r:AB) (s t u v:IV):OH :=
 Bd EE 3 e (.fv (.int .i64 2)) fun w=>Ai [] false false a 70 [g,h,i,w] f fun b x c d=>Ab [] c d (Aq 0 b fun y=>Aq 1 b fun z=>UJ x c d j k l m n o p q r y s a t u z v)
def Ve (a b:AB) (c:Hp) (l:IV) (d e f g:AB) (h:Aa) (m n o p q r s:IV):OH :=
 Ab [] a b (Ad 3 l c fun t i=>Ab [(a,b),(d,[]),(e,f),(g,[])] i [] (Ai [] false false h 42 [t,.fv (.int .i64 2)] c fun u v j k=>Ab [] j k (TW m h v n o u j k i a b d e f g p q r s)))
def Si (a:Aa) (g:Hp) (h i j:IV) (d:AB) (k l m n o p:IV):OH :=
 Ai [] false false a 96 [h,.fv (.int .i64 1),i] g fun q e b c=>Ab [] b c (Ad 3 j e fun r f=>Ab [(b,c),(d,[])] f [] (Ai [] false false a 28 [r,.fv (.int .i64 1),.fv (.int .i64 0)] e fun s t u v=>Ve u v t k f b c d a l q s m n o p))
def Va (m:IV) (a:Hp) (b d:IV) (e:Aa) (f g c h i j:IV):OH :=
 AQ EE 3 m (.fv (.int .i64 0)) fun n=>Aj n (Ad 3 b a fun o k=>Ab [] k [] (U5 a d k e f g o b c h i j)) (Ad 3 c a fun p l=>Ab [] l [] (Si e a g p b l d f c h i j))
def SX (e:Hp) (a f b:IV) (c:Aa) (g h i j k l:IV):OH :=
 Ae 3 a f e fun d m n=>Ab [] m n (Af 1 b fun o=>Ak o d fun p _=>Ai [] false false c 41 [p,.fv (.int .i64 3)] d fun q r _ _=>Va q r g b c h i j a k l)
def Vm (a b:AB) (c:IV) (d:Hp) (e f g h:AB) (i:IV) (j:Aa) (k l m n o:IV):OH :=
 Ab [] a b (Aq 0 c fun p=>Aq 1 c fun q=>Ay 104859658 (.row [.fv (.int .i64 0),.fv (.int .i64 0),.nils] false) (.ptr (.own 104859658) 0) d fun r s t u=>Ab [(a,b),(e,f),(g,[]),(h,[])] t u (SX s r p i j k l m n q o))
def VK (c a:AB) (b:Aa) (h:Hp) (i d e j k l m n:IV):OH :=
 Ab [(a,[])] c [] (Ai [] false false b 42 [i,.fv (.int .i64 1)] h fun o p f g=>Ab [(a,[])] f g (Bd EE 3 d (.fv (.int .i64 2)) fun q=>Ai [] false false b 70 [e,j,o,q] p fun r s t u=>Vm t u r s f g c a k b l d e m n))
def Ut (e:Hp) (f c:IV) (g:Aa) (h i j k:IV):OH :=
 Ay 104858628 (.row [.fv (.int .i64 0),.fv (.int .i64 0),.nils] false) (.ptr (.own 104858628) 0) e fun a l _ _=>Ae 3 a f l fun b _ _=>Ad 3 a b fun m d=>Ab [] d [] (Ad 3 c b fun n o=>VK o d g b n h i m c j a k)
def S100 (a:Aa) (n:Nat) (b e f g:IV) (h:Hp):OH :=
 AS 104857600 e h fun i j _ _=>AS 104857601 f j fun c k _ _=>Ay 104857602 (.row [.fv (.int .i64 0),.fv (.int .i64 0),.nils] false) (.ptr (.own 104857602) 0) k fun l d _ _=>Ad 3 c d fun m _=>Ai [] false false a 42 [m,.fv (.int .i64 0)] d fun o p _ _=>Ai [] false false a 69 [b,o,.fv (.int .i64 1)] p fun q r _ _=>Ut r q c a g b i l
theorem AiP (a:Aa) (n:Nat) (b c d e:IV) (f:Hp):Ax EE a ft.get n 100 [b,c,d,e] f=S100 a n b c d e f:=by kernel_rfl
def UO (b c:AB) (a:Hp) (d e:IV):OH :=
 Ab [] b c (Ap true 3 d a fun f=>Am [f,e] a)
def TX (a:Hp) (b f g c h:IV):OH :=
 Ac b true a (fun i=>i f a [] []) fun j d _ _=>AH b j (.fv (.bool false)) fun e=>Ac e true d (fun k=>k g d [] []) fun l m _ _=>AH e l (.fv (.bool false)) fun n=>Ae 3 c h m fun o p q=>UO p q o c n
def Sr (a b c d e f:AB) (g:Hp) (h i j k:IV) (l:Aa) (m n o p:IV):OH :=
 Ab [(b,[]),(c,[]),(d,e),(f,[])] a [] (AD (Al EE 28 4 [(0,h),(1,i),(2,j),(3,k)]) 105911301 g fun q r s t=>Ab [] s t (Ai [] false false l 30 [.fv (.int .i64 13),q] r fun u v w x=>Ab [] w x (TX v m n o p u)))
def T4 (a:Hp) (g:IV) (b c d:AB) (h i j:IV) (k:Aa) (l m n o:IV):OH :=
 Ad 3 g a fun p e=>Ab [(b,c),(d,[])] e [] (Ad 3 h a fun q f=>Ab [(e,[]),(b,c),(d,[])] f [] (Ad 3 i a fun r s=>Sr s f e b c d a j p q r k l m n o))
def Ss (f g:AB) (a:Hp) (h:IV) (b:Aa) (i j k l m n o:IV):OH :=
 Ab [] f g (Ad 3 h a fun p c=>Ab [] c [] (Ai [] false false b 28 [p,.fv (.int .i64 1),.fv (.int .i64 0)] a fun q r d e=>Ab [] d e (T4 r i d e c j k q b l m n o)))
def UL (a:IV) (c:Hp) (d e f g h i j k l m n o p q r s t:AB) (u:IV) (v:Aa) (w x y z A:IV):OH :=
 Aq 0 a fun B=>Aq 1 a fun C=>Ay 105910288 (.row [.fv (.int .i64 0),.fv (.int .i64 0),.nils] false) (.ptr (.own 105910288) 0) c fun b D E F=>Ab [(d,e),(f,g),(h,[]),(i,j),(k,[]),(l,m),(n,o),(p,[]),(q,r),(s,t)] E F (Ae 3 b B D fun G H I=>Ss H I G u v w b x y z C A)
def Uv (a:Aa) (f:Hp) (g h i j:IV) (k l m n o p q r s t u v w:AB) (x y z A B C:IV):OH :=
 Ai [] false false a 42 [g,.fv (.int .i64 2)] f fun D E b c=>Ab [] b c (Bd EE 3 h (.fv (.int .i64 2)) fun F=>Ai [] false false a 70 [i,j,D,F] E fun G H d e=>Ab [] d e (UL G H d e b c k l m n o p q r s t u v w x a y z A B C))
def Tz (a b c d e f g h i j:AB) (m:Aa) (p:Hp) (q r s t u v w x y z:IV):OH :=
 Ab [(b,c),(d,e),(f,[]),(g,h),(i,j)] a [] (Ai [] false false m 28 [q,.fv (.int .i64 2),.fv (.int .i64 0)] p fun A n k l=>Ab [] k l (Ad 3 r n fun B o=>Ab [(k,l),(a,[]),(b,c),(d,e),(f,[]),(g,h),(i,j)] o [] (Uv m n B s t A o k l a b c d e f g h i j u v w x y z)))
def Tf (a:Aa) (h:Hp) (i j b:IV) (k l m n o:AB) (p q r s t u v:IV):OH :=
 Ai [] false false a 28 [i,.fv (.int .i64 1),.fv (.int .i64 0)] h fun w x c d=>Ab [] c d (Ai [] false false a 96 [j,.fv (.int .i64 1),w] x fun y e f g=>Ab [] f g (Ad 3 b e fun z A=>Tz A f g c d k l m n o a e z p q y b r s t u v))
def TJ (a b:AB) (e:Aa) (i:Hp) (j k f l m n o p q r:IV):OH :=
 Ab [] a b (Ai [] false false e 96 [j,.fv (.int .i64 1),k] i fun s g c d=>Ab [] c d (Ad 3 f g fun t h=>Ab [(c,d),(a,b)] h [] (Tf e g t s f h c d a b l m n o p q r)))
def UF (c:Hp) (d e f g h i:AB) (j:IV) (a:Aa) (k l m n o p q r:IV):OH :=
 Ay 105909258 (.row [.fv (.int .i64 0),.fv (.int .i64 0),.nils] false) (.ptr (.own 105909258) 0) c fun b s t u=>Ab [(d,e),(f,g),(h,[]),(i,[])] t u (Ae 3 b j s fun v w x=>Ab [] w x (Ai [] false false a 99 [] v fun y z A B=>TJ A B a z k y l m n b o p q r))
def Vt (a:IV) (b:Aa) (g:Hp) (c h i:IV) (j k l m:AB) (n o p q r:IV):OH :=
 Bd EE 3 a (.fv (.int .i64 2)) fun s=>Ai [] false false b 70 [c,h,i,s] g fun d t e f=>Ab [] e f (Aq 0 d fun u=>Aq 1 d fun v=>UF t e f j k l m u b c n o a p q v r)
def Sy (a:AB) (b:Hp) (c:IV) (d:Aa) (h i j k l m n:IV):OH :=
 Ab [] a [] (Ad 3 c b fun o e=>Ab [(a,[])] e [] (Ai [] false false d 42 [o,.fv (.int .i64 1)] b fun p q f g=>Ab [(a,[])] f g (Vt h d q i j p f g e a k c l m n)))
def Sn (d:Hp) (e f g h i j k:AB) (l a m:IV) (n:Aa) (o p q r:IV):OH :=
 Ay 105908234 (.row [.fv (.int .i64 0),.fv (.int .i64 0),.nils] false) (.ptr (.own 105908234) 0) d fun b s t u=>Ab [(e,f),(g,h),(i,[]),(j,k)] t u (Ae 3 b l s fun c v w=>Ab [] v w (Ad 3 a c fun x y=>Sy y c m n o p x a b q r))
def Vp (a:IV) (b:Aa) (g:Hp) (c h i:IV) (j k l m n:AB) (o p q:IV):OH :=
 Bd EE 3 a (.fv (.int .i64 2)) fun r=>Ai [] false false b 70 [c,h,i,r] g fun d s e f=>Ab [] e f (Aq 0 d fun t=>Aq 1 d fun u=>Sn s e f j k l m n t o p b a c u q)
def Up (a b:AB) (c:Hp) (d:IV) (e:Aa) (i j k l m:IV):OH :=
 Ab [] a b (Ad 3 d c fun n f=>Ab [(a,b)] f [] (Ai [] false false e 42 [n,.fv (.int .i64 0)] c fun o p g h=>Ab [] g h (Vp i e p j k o g h f a b l d m)))
def Uf (c:Aa) (d:Hp) (e a f:IV):OH :=
 Ai [] false false c 30 [.fv (.int .i64 12),e] d fun g h _ _=>Ae 3 a g h fun b _ _=>Ap true 3 a b fun i=>Am [i,f] b
def SC (c d e f g h i j:AB) (k:Hp) (a l:IV) (m:Aa) (n o:IV):OH :=
 Ab [(e,f),(g,h),(i,[]),(j,[])] c d (Ae 3 a l k fun b p q=>Ab [] p q (Ad 3 a b fun r _=>AD (Al EE 28 1 [(0,r)]) 105916417 b fun s t _ _=>Uf m t s n o))
def TL (a:Aa) (e:Hp) (f g h i:IV) (j k l m:AB) (n:IV):OH :=
 Ai [] false false a 70 [f,g,h,i] e fun b o c d=>Ab [] c d (Aq 0 b fun p=>Aq 1 b fun q=>Ay 105915402 (.row [.fv (.int .i64 0),.fv (.int .i64 0),.nils] false) (.ptr (.own 105915402) 0) o fun r s t u=>SC t u c d j k l m s r p a n q)
def UH (b:Hp) (g:IV) (a:AB) (c:Aa) (h i j k:IV):OH :=
 Ad 3 g b fun l d=>Ab [(a,[])] d [] (Ai [] false false c 42 [l,.fv (.int .i64 0)] b fun m n e f=>Ab [(a,[])] e f (Bd EE 3 h (.fv (.int .i64 1)) fun o=>TL c n i j m o e f d a k))
def TV (a:Aa) (d:Hp) (e b:IV):OH :=
 Ai [] false false a 41 [e,.fv (.int .i64 4)] d fun f g _ _=>Ai [] false false a 115 [f] g fun h i _ _=>Ae 3 b h i fun c _ _=>Ap true 3 b c fun j=>Am [j,.fv (.bool true)] c
def Vi (f:IV) (a:Hp) (g b:IV) (c:Aa) (h i d:IV):OH :=
 Aj f (Ad 3 g a fun j e=>Ab [] e [] (UH a b e c h i j d)) (Af 1 b fun k=>Ak k a fun l _=>TV c a l d)
def Uz (c:Hp) (a d:IV) (e:Aa) (h i j k:IV):OH :=
 Ac a true c (fun l=>Af 0 d fun m=>l m c [] []) fun n b _ _=>Ac a true b (fun o=>Ak n b fun p q=>o p b q []) fun r f _ _=>Ac a true f (fun s=>Ai [] false false e 41 [r,.fv (.int .i64 2)] f s) fun t g _ _=>Ac a true g (fun u=>AQ EE 3 t (.fv (.int .i64 1)) fun v=>u v g [] []) fun w x _ _=>AH a w (.fv (.bool false)) fun y=>Vi y x h d e i j k
def Sx (c d:IV) (e:Hp) (a f:IV):OH :=
 AH c d (.fv (.bool false)) fun g=>Ae 3 a f e fun b h i=>Ab [] h i (Ap true 3 a b fun j=>Am [j,g] b)
def VR (c:Hp) (d e:IV) (f g h:AB) (i:Aa) (j a k l:IV):OH :=
 AD (Al EE 28 2 [(0,d),(1,e)]) 105922566 c fun m n o p=>Ab [(f,g),(h,[])] o p (Ai [] false false i 30 [j,m] n fun q b r s=>Ab [] r s (Ac a true b (fun t=>t k b [] []) fun u v _ _=>Sx a u v l q))
def Uo (f:IV) (a:Hp) (g:IV) (b c d:AB) (h:IV) (i:Aa) (j k l:IV):OH :=
 Bv EE 3 (.fv (.int .i64 16)) f fun m=>Ad 3 g a fun n e=>Ab [(b,c),(d,[])] e [] (Ad 3 h a fun o p=>Ab [(e,[]),(b,c),(d,[])] p [] (VR a n o b c d i m j k l))
def Vf (f:IV) (a:Hp) (b:Aa) (g h i j k:IV):OH :=
 Af 1 f fun l=>Ak l a fun m c=>Ab [] c [] (Ai [] false false b 41 [m,.fv (.int .i64 2)] a fun n o d e=>Ab [] d e (Uo n o g d e c h b i j k))
def Tq (b:IV) (c:Hp) (d e f g h i:AB) (j k:IV) (l:Aa) (m n o:IV):OH :=
 Aq 1 b fun p=>Ay 105921546 (.row [.fv (.int .i64 0),.fv (.int .i64 0),.nils] false) (.ptr (.own 105921546) 0) c fun a q r s=>Ab [(d,e),(f,g),(h,[]),(i,[])] r s (Ae 3 a j q fun t u v=>Ab [] u v (Vf k t l m a n p o))
def U6 (a b c:AB) (h:IV) (d:Aa) (i:Hp) (j k l:IV) (m:AB) (n o p q:IV):OH :=
 Ab [(c,[])] a b (Bd EE 3 h (.fv (.int .i64 1)) fun r=>Ai [] false false d 70 [j,k,l,r] i fun e s f g=>Ab [] f g (Aq 0 e fun t=>Tq e s f g a b m c t n d o p q))
def Vz (a:Hp) (f c:IV) (d:Aa) (g h i j k:IV):OH :=
 Ad 3 f a fun l b=>Ab [] b [] (Ad 3 c a fun m e=>Ab [(b,[])] e [] (Ai [] false false d 42 [m,.fv (.int .i64 1)] a fun n o p q=>U6 p q b g d o h l n e c i j k))
def UW (b:IV) (c:Hp) (d e f g h i:AB) (j k l:IV) (m:Aa) (n o p:IV):OH :=
 Aq 1 b fun q=>Ay 105920522 (.row [.fv (.int .i64 0),.fv (.int .i64 0),.nils] false) (.ptr (.own 105920522) 0) c fun a r s t=>Ab [(d,e),(f,g),(h,[]),(i,[])] s t (Ae 3 a j r fun u v w=>Ab [] v w (Vz u k l m n o a q p))
def UD (a b c:AB) (d:IV) (e:Aa) (j:Hp) (f k l:IV) (m:AB) (n o p:IV):OH :=
 Ab [(c,[])] a b (Bd EE 3 d (.fv (.int .i64 1)) fun q=>Ai [] false false e 70 [f,k,l,q] j fun g r h i=>Ab [] h i (Aq 0 g fun s=>UW g r h i a b m c s n o e d f p))
def Vv (a:Hp) (c d:IV) (e:Aa) (g h i:IV):OH :=
 Ad 3 c a fun j b=>Ab [] b [] (Ad 3 d a fun k f=>Ab [(b,[])] f [] (Ai [] false false e 42 [k,.fv (.int .i64 0)] a fun l m n o=>UD n o b g e m h j l f c d i))
def SZ (c:Aa) (d:Hp) (a:IV):OH :=
 Ai [] false false c 30 [.fv (.int .i64 15),.nils] d fun e f _ _=>Ae 3 a e f fun b _ _=>Ap true 3 a b fun g=>Am [g,.fv (.bool true)] b
def S8 (b:Hp) (a h:IV) (c:Aa) (i j k l d:IV):OH :=
 Ac a true b (fun m=>Ak h b fun n o=>m n b o []) fun p e _ _=>Ac a true e (fun q=>Ai [] false false c 41 [p,.fv (.int .i64 5)] e q) fun r f _ _=>Ac a true f (fun s=>K5 EE 3 r (.fv (.int .i64 1)) fun t=>s t f [] []) fun u g _ _=>AH a u (.fv (.bool false)) fun v=>Aj v (Vv g i j c k l d) (SZ c g d)
def VU (c:IV) (d:Aa) (e:Hp) (a:IV):OH :=
 Bd EE 3 c (.fv (.int .i64 1)) fun f=>Ai [] false false d 60 [f] e fun g h _ _=>Ae 3 a g h fun b _ _=>Ap true 3 a b fun i=>Am [i,.fv (.bool true)] b
def Tv (a:Hp) (b c:IV):OH :=
 Ap true 3 b a fun d=>Am [d,c] a
def Sk (d e:AB) (a:Hp) (b f c g:IV):OH :=
 Ab [] d e (Ac b true a (fun h=>h f a [] []) fun i j _ _=>AH b i (.fv (.bool false)) fun k=>Ae 3 c g j fun l m n=>Ab [] m n (Tv l c k))
def VD (a:Hp) (e:IV) (f b c d:AB) (g:IV) (h:Aa) (i j k l:IV):OH :=
 Ad 3 e a fun m n=>Ab [(f,[]),(b,[]),(c,d)] n [] (AD (Al EE 28 2 [(0,g),(1,m)]) 105930759 a fun o p q r=>Ab [(b,[]),(c,d)] q r (Ai [] false false h 30 [i,o] p fun s t u v=>Sk u v t j k l s))
def S0 (f g:IV) (a:Hp) (h:IV) (c d:AB) (i:IV) (j:Aa) (k l m:IV):OH :=
 AP 1 f g fun n=>Ak n a fun o b=>Ab [] b [] (Ad 3 h a fun p e=>Ab [(b,[]),(c,d)] e [] (VD a i e b c d p j o k l m))
def VG (d:Hp) (a e f g:IV) (h:Aa) (i j k:IV):OH :=
 Ae 3 a e d fun l m n=>Ab [] m n (AD (Al EE 51 2 [(0,.fv (.int .i64 3)),(1,.fv (.int .i64 6))]) 105930752 l fun o p b c=>Ab [] b c (Bd EE 3 f (.fv (.int .i64 2)) fun q=>S0 o q p g b c a h i j k))
def Tx (a b:AB) (c:IV) (d:Hp) (e f g h i j k:AB) (l m:IV) (n:Aa) (o p:IV):OH :=
 Ab [] a b (Aq 0 c fun q=>Aq 1 c fun r=>Ay 105929740 (.row [.fv (.int .i64 0),.fv (.int .i64 0),.nils] false) (.ptr (.own 105929740) 0) d fun s t u v=>Ab [(a,b),(e,f),(g,[]),(h,[]),(i,j),(k,[])] u v (VG t s q l m n o r p))
def Td (c a d e f:AB) (b:Aa) (i:Hp) (j k l m n o p q:IV):OH :=
 Ab [(a,[]),(d,e),(f,[])] c [] (Ai [] false false b 42 [j,.fv (.int .i64 1)] i fun r s g h=>Ab [(a,[])] g h (Bd EE 3 k (.fv (.int .i64 1)) fun t=>Ai [] false false b 70 [l,m,r,t] s fun u v w x=>Tx w x u v g h c a d e f n o b p q))
def S4 (d:Aa) (g:Hp) (h i j:IV) (e:AB) (k l m n o p:IV):OH :=
 Ai [] false false d 96 [h,.fv (.int .i64 1),i] g fun q a b c=>Ab [] b c (Ad 3 j a fun r f=>Ab [(b,c),(e,[])] f [] (Ad 3 k a fun s t=>Td t f b c e d a s l q r m n o p))
def VE (d e f g h i j k:AB) (l:Hp) (a m:IV) (n:Aa) (o p q r s t u:IV):OH :=
 Ab [(f,g),(h,i),(j,[]),(k,[])] d e (Ae 3 a m l fun b v w=>Ab [] v w (Ad 3 a b fun x c=>Ab [] c [] (S4 n b o x p c q r s a t u)))
def Sz (a:Aa) (f:Hp) (b g h i:IV) (j k l m:AB) (n o p q r:IV):OH :=
 Ai [] false false a 70 [b,g,h,i] f fun c s d e=>Ab [] d e (Aq 0 c fun t=>Aq 1 c fun u=>Ay 105928714 (.row [.fv (.int .i64 0),.fv (.int .i64 0),.nils] false) (.ptr (.own 105928714) 0) s fun v w x y=>VE x y d e j k l m w v t a b n o p q u r)
def VJ (b:Hp) (c:IV) (a:AB) (d:Aa) (e i j k l m:IV):OH :=
 Ad 3 c b fun n f=>Ab [(a,[])] f [] (Ai [] false false d 42 [n,.fv (.int .i64 0)] b fun o p g h=>Ab [(a,[])] g h (Bd EE 3 e (.fv (.int .i64 1)) fun q=>Sz d p i j o q g h f a k c e l m))
def VS (a:Hp) (b:IV):OH :=
 Ap true 3 b a fun c=>Am [c,.fv (.bool true)] a
def UI (c d:IV) (a:Hp) (b:IV):OH :=
 AP 3 c d fun e=>Ad 3 e a fun f g=>Ab [] g [] (Ae 3 b f a fun h i j=>Ab [] i j (VS h b))
def US (d:IV) (a:Hp) (b c e f g h i j k l m n:AB) (o:Aa) (p q:IV):OH :=
 Af 1 d fun r=>Ak r a fun s t=>Ab [(b,c),(e,f),(g,h),(i,j),(k,l),(m,n)] t [] (Ai [] false false o 41 [s,.fv (.int .i64 3)] a fun u v w x=>Ab [(b,c)] w x (UI p u v q))
def T8 (a b:AB) (c:Aa) (h:Hp) (i j k l:IV) (m n o p q r:AB) (s:IV):OH :=
 Ab [] a b (Ai [] false false c 30 [.fv (.int .i64 18),i] h fun t u d e=>Ab [] d e (AD (Al EE 28 3 [(0,j),(1,k),(2,t)]) 105931781 u fun v w f g=>Ab [] f g (US l w f g d e a b m n o p q r c v s)))
def SL (a:Aa) (f:Hp) (g h:IV) (i j:AB) (k:IV):OH :=
 Ai [] false false a 30 [.fv (.int .i64 14),.nils] f fun l m b c=>Ab [] b c (Ai [] false false a 30 [.fv (.int .i64 15),.nils] m fun n o d e=>Ab [] d e (AD (Al EE 28 1 [(0,n)]) 105931779 o fun p q r s=>T8 r s a q p g l h d e b c i j k))
def T7 (i:IV) (a:Hp) (c d:IV) (b:Aa) (j k l e:IV):OH :=
 Aj i (Ad 3 c a fun m f=>Ab [] f [] (VJ a d f b j k m c l e)) (Ai [] false false b 99 [] a fun n o g h=>Ab [] g h (SL b o n d g h e))
def TS (b:Aa) (g:Hp) (h c i j k l:IV):OH :=
 Ai [] false false b 41 [h,.fv (.int .i64 4)] g fun d e _ _=>K5 EE 3 c (.fv (.int .i64 0)) fun a=>Ac a true e (fun m=>m d e [] []) fun n f _ _=>Ac a true f (fun o=>K5 EE 3 n (.fv (.int .i64 1)) fun p=>o p f [] []) fun q r _ _=>AH a q (.fv (.bool false)) fun s=>T7 s r i j b c k d l
def Vk (f b:IV) (a:Hp) (c:Aa) (d e g h:IV):OH :=
 K5 EE 3 f (.fv (.int .i64 0)) fun i=>Aj i (Af 1 b fun j=>Ak j a fun k _=>VU k c a d) (Af 0 e fun l=>Ak l a fun m _=>TS c a m g b e h d)
def To (i b:IV) (a:Hp) (c:IV) (e:Aa) (d f g:IV):OH :=
 Aj i (K5 EE 3 b (.fv (.int .i64 0)) fun h=>Ac h true a (fun j=>Af 0 c fun k=>j k a [] []) fun l m _ _=>S8 m h l e d c b f g) (Af 1 d fun n=>Ak n a fun o _=>Vk o d a e g c b f)
def Vu (a:Hp) (i b c:IV) (d:Aa) (e f g:IV):OH :=
 Ak i a fun h _=>AQ EE 3 h (.fv (.int .i64 10)) fun j=>Aj j (K5 EE 3 b (.fv (.int .i64 0)) fun k=>Uz a k c d e b f g) (AQ EE 3 h (.fv (.int .i64 14)) fun l=>To l b a c d e f g)
def UQ (c:Hp) (d j:IV) (a:Aa) (e f g b h:IV):OH :=
 Ac d true c (fun k=>Cg EE 3 j (.fv (.int .i64 2)) fun l=>k l c [] []) fun m i _ _=>AH d m (.fv (.bool false)) fun n=>Aj n (Ai [] false false a 99 [] i fun o p q r=>Up q r p e a f g o b h) (Af 0 b fun s=>Vu i s f e a b g h)
def SM (d:Hp) (a:IV) (e:Aa) (i f j k l m:IV):OH :=
 Ac a true d (fun n=>Ai [] false false e 41 [i,.fv (.int .i64 5)] d n) fun o g _ _=>Ac a true g (fun p=>AQ EE 3 o (.fv (.int .i64 4)) fun q=>p q g [] []) fun r h _ _=>AH a r (.fv (.bool false)) fun b=>Ac b true h (fun s=>Af 0 f fun t=>s t h [] []) fun u c _ _=>Ac b true c (fun v=>Ak u c fun w x=>v w c x []) fun y z _ _=>UQ z b y e j k l f m
def S101 (f:Aa) (n:Nat) (g h i c:IV) (j:Hp):OH :=
 AS 105906176 h j fun k l _ _=>AS 105906177 i l fun d m _ _=>Ay 105906178 (.row [.fv (.int .i64 0),.fv (.int .i64 0),.nils] false) (.ptr (.own 105906178) 0) m fun o e _ _=>K5 EE 3 c (.fv (.int .i64 0)) fun a=>Ac a true e (fun p=>Af 0 d fun q=>p q e [] []) fun r b _ _=>Ac a true b (fun s=>Ak r b fun t u=>s t b u []) fun v w _ _=>SM w a f v k d c g o
theorem AnK (a:Aa) (n:Nat) (b c d e:IV) (f:Hp):Ax EE a ft.get n 101 [b,c,d,e] f=S101 a n b c d e f:=by kernel_rfl
def QV (b c:IV) (a:Hp) (d e:IV):OH :=
 AH b (.fv (.bool true)) c fun f=>Aj f (Am [.fv (.int .i64 (-1))] a) (ixA 31 1 d e fun g=>Ak g a fun h _=>Am [h] a)
def AeC (q:Aa) (n:Nat) (a:IV) (f:Hp):OH :=
 AD (L1 EE 136 [(0,.fv (.int .i64 (-1))),(1,.fv (.int .i64 0)),(2,.fv (.int .i64 0)),(3,.fv (.int .i64 2)),(4,.fv (.int .i64 2)),(5,.fv (.int .i64 2)),(6,.fv (.int .i64 2)),(7,.fv (.int .i64 3)),(8,.fv (.int .i64 1)),(9,.fv (.int .i64 1)),(10,.fv (.int .i64 0)),(11,.fv (.int .i64 0)),(12,.fv (.int .i64 1)),(13,.fv (.int .i64 4)),(14,.fv (.int .i64 0)),(15,.fv (.int .i64 0)),(16,.fv (.int .i64 2)),(17,.fv (.int .i64 2)),(18,.fv (.int .i64 1)),(19,.fv (.int .i64 1)),(20,.fv (.int .i64 2)),(21,.fv (.int .i64 2)),(22,.fv (.int .i64 2)),(23,.fv (.int .i64 1)),(24,.fv (.int .i64 1)),(25,.fv (.int .i64 0)),(26,.fv (.int .i64 2)),(27,.fv (.int .i64 3)),(28,.fv (.int .i64 2)),(29,.fv (.int .i64 2)),(30,.fv (.int .i64 1))]) 106955776 f fun g h _ _=>Ay 106955777 (.row [.fv (.int .i64 0),.fv (.int .i64 0),.fv (.int .i64 0),.fv (.int .i64 0),.fv (.int .i64 0),.fv (.int .i64 0),.fv (.int .i64 0),.fv (.int .i64 0),.fv (.int .i64 0),.fv (.int .i64 0),.fv (.int .i64 0),.fv (.int .i64 0),.fv (.int .i64 0),.fv (.int .i64 0),.fv (.int .i64 0),.fv (.int .i64 0),.fv (.int .i64 0),.fv (.int .i64 0),.fv (.int .i64 0),.fv (.int .i64 0),.fv (.int .i64 0),.fv (.int .i64 0),.fv (.int .i64 0),.fv (.int .i64 0),.fv (.int .i64 0),.fv (.int .i64 0),.fv (.int .i64 0),.fv (.int .i64 0),.fv (.int .i64 0),.fv (.int .i64 0),.fv (.int .i64 0)] false) (.ptr (.own 106955777) 0) h fun c i _ _=>Ae 31 c g i fun d _ _=>GM EE 123 a (.fv (.int .i64 0)) fun b=>Ac b false d (fun j=>j a d [] []) fun k e _ _=>Ac b false e (fun l=>VX EE 3 k (.fv (.int .i64 31)) fun m=>l m e [] []) fun o p _ _=>QV b o p c a
theorem Akq (a:Aa) (n:Nat) (b:IV) (c:Hp):Ax EE a ft.get n 102 [b] c=AeC a n b c:=by kernel_rfl
def Yy (a:Hp) (b c:IV):OH :=
 Ac b true a (fun d=>leS EE 3 c (.fv (.int .i64 3000)) fun e=>d e a [] []) fun f g _ _=>AH b f (.fv (.bool false)) fun h=>Am [h] g
def ZK (b:IV) (c:Hp):OH :=
 VX EE 3 b (.fv (.int .i64 0)) fun a=>Ac a true c (fun e=>e b c [] []) fun f d _ _=>Ac a true d (fun g=>leS EE 3 f (.fv (.int .i64 2)) fun h=>g h d [] []) fun i j _ _=>AH a i (.fv (.bool false)) fun k=>Am [k] j
def Acb (a:Hp) (b c:IV):OH :=
 Ac b true a (fun d=>leS EE 3 c (.fv (.int .i64 4)) fun e=>d e a [] []) fun f g _ _=>AH b f (.fv (.bool false)) fun h=>Am [h] g
def AbB (a:IV) (b:Hp):OH :=
 AQ EE 3 a (.fv (.int .i64 0)) fun c=>Am [c] b
def Adg (c b:IV) (a:Hp):OH :=
 AQ EE 3 c (.fv (.int .i64 26)) fun e=>Aj e (VX EE 3 b (.fv (.int .i64 0)) fun d=>Ac d true a (fun f=>f b a [] []) fun g h _ _=>Acb h d g) (AQ EE 3 c (.fv (.int .i64 25)) fun i=>Aj i (Am [.fv (.bool true)] a) (AbB b a))
def S103 (j:Aa) (n:Nat) (c a:IV) (b:Hp):OH :=
 AQ EE 3 c (.fv (.int .i64 1)) fun e=>Aj e (VX EE 3 a (.fv (.int .i64 0)) fun d=>Ac d true b (fun f=>f a b [] []) fun g h _ _=>Yy h d g) (AQ EE 3 c (.fv (.int .i64 2)) fun i=>Aj i (ZK a b) (Adg c a b))
theorem AmA (a:Aa) (n:Nat) (b c:IV) (d:Hp):Ax EE a ft.get n 103 [b,c] d=S103 a n b c d:=by kernel_rfl
def Lf (a:Hp) (b d:IV) (e:Aa) (f:IV):OH :=
 Ac b true a (fun g=>Ak d a fun h i=>g h a i []) fun j c _ _=>Ac b true c (fun k=>Ai [] false false e 116 [f,j,.fv (.func (.func 104) [] [])] c k) fun l m _ _=>AH b l (.fv (.bool false)) fun n=>Am [n] m
def Lu (c:Hp) (d g h i j:IV) (k:Aa):OH :=
 Ac d true c (fun l=>AQ EE 3 g h fun m=>l m c [] []) fun n e _ _=>AH d n (.fv (.bool false)) fun a=>Ac a true e (fun o=>Af 2 i fun p=>o p e [] []) fun q b _ _=>Ac a true b (fun r=>Ak q b fun s t=>r s b t []) fun u f _ _=>Ac a true f (fun v=>Af 2 j fun w=>v w f [] []) fun x y _ _=>Lf y a x k u
def LF (h i:IV) (d:Hp) (e f:IV) (j:Aa):OH :=
 AQ EE 3 h i fun a=>Ac a true d (fun k=>Af 1 e fun l=>k l d [] []) fun m b _ _=>Ac a true b (fun n=>Ak m b fun o p=>n o b p []) fun q g _ _=>Ac a true g (fun r=>Af 1 f fun s=>r s g [] []) fun t c _ _=>Ac a true c (fun u=>Ak t c fun v w=>u v c w []) fun x y _ _=>Lu y a q x e f j
def W4 (d:Aa) (n:Nat) (e f:IV) (g:Hp):OH :=
 AS 109051904 e g fun b h _ _=>AS 109051905 f h fun c a _ _=>Af 0 b fun i=>Ak i a fun j _=>Af 0 c fun k=>Ak k a fun l _=>LF j l a b c d
theorem Aip (a:Aa) (n:Nat) (b c:IV) (d:Hp):Ax EE a ft.get n 104 [b,c] d=W4 a n b c d:=by kernel_rfl
def Re (a:Hp) (d b e:IV):OH :=
 Ad 3 d a fun f _=>Ae 3 b f a fun c _ _=>Ap true 3 b c fun g=>Am [g,e] c
def QA (a:Aa) (b:Hp) (c:IV) (d:IV→Hp→OH):OH :=
 Ai [] false false a 49 [c] b fun e f _ _=>d e f
def Aez (e:Aa) (n:Nat) (f b:IV) (g:Hp):OH :=
 AS 110100480 f g fun c h _ _=>Ay 110100481 (.row [.fv (.int .i64 0),.fv (.int .i64 0),.nils] false) (.ptr (.own 110100481) 0) h fun i a _ _=>(fun (d:IV→Hp→OH)=>AQ EE 35 b (.fv (.int .i64 0)) fun j=>Aj j (Ad 3 c a fun k _=>QA e a k d) (d b a)) fun l m=>Re m c i l
theorem Ant (a:Aa) (n:Nat) (b c:IV) (d:Hp):Ax EE a ft.get n 105 [b,c] d=Aez a n b c d:=by kernel_rfl
def AgL (g:Aa) (n:Nat) (a:IV) (b:Hp):OH :=
 Bz a fun c=>Bz a fun d=>AD (I4 EE 78 a none (some c) (some d)) 111150085 b fun e f _ _=>Am [e] f
theorem Ako (a:Aa) (n:Nat) (b:IV) (c:Hp):Ax EE a ft.get n 106 [b] c=AgL a n b c:=by kernel_rfl
def Ahh (h:Aa) (n:Nat) (a:IV) (b:Hp):OH :=
 AQ EE 78 a .nils fun c=>Aj c (Am [.nils] b) (AD (Al EE 78 0 []) 112200704 b fun d e _ _=>AD (AK EE 112200706 false .append [78,78] [d,a]) 112200706 e fun f g _ _=>Am [f] g)
theorem Akk (a:Aa) (n:Nat) (b:IV) (c:Hp):Ax EE a ft.get n 107 [b] c=Ahh a n b c:=by kernel_rfl
def Lk (a:Hp) (b c d:IV):OH :=
 Ap true 3 b a fun e=>Am [c,e,d] a
def LH (d:Hp) (a b e:IV):OH :=
 BL [.fv (.int .i64 0),.fv (.int .i64 0),.nils] [] fun f=>BL [.fv (.int .i64 0),.fv (.int .i64 0),.nils] [] fun g=>Ae 3 a f d fun h _ _=>Ae 3 b g h fun c _ _=>Ap true 3 a c fun i=>Lk c b i e
def LA (d:Hp) (b e c:IV):OH :=
 BL [.fv (.int .i64 0),.fv (.int .i64 0),.nils] [] fun f=>Ae 3 b e d fun g _ _=>Ae 3 c f g fun a _ _=>Ap true 3 b a fun h=>Ap true 3 c a fun i=>Am [h,i,.fv (.int .i64 12)] a
def LR (a:Hp) (b c:IV):OH :=
 Ap true 3 b a fun d=>Ap true 3 c a fun e=>Am [d,e,.fv (.int .i64 0)] a
def LM (a d e:AB) (f:Hp) (b g:IV) (h:AB) (c i:IV):OH :=
 Ab [(d,[]),(e,[])] a [] (Ae 3 b g f fun j k l=>Ab [(a,[]),(h,[])] k l (Ae 3 c i j fun m n o=>Ab [] n o (LR m b c)))
def L2 (e:IV) (a:Hp) (b c:AB) (f g h:IV):OH :=
 Af 2 e fun i=>Ak i a fun j d=>Ab [(b,[]),(c,[])] d [] (AP 3 j (.fv (.int .i64 1)) fun k=>Ad 3 k a fun l m=>LM m b c a f g d h l)
def Lj (a:Hp) (d e f g:IV):OH :=
 Ak d a fun h b=>Ab [] b [] (AP 3 h (.fv (.int .i64 0)) fun i=>Ad 3 i a fun j c=>Ab [] c [] (L2 e a c b f j g))
def LI (a:IV) (b:Hp) (e c d:IV):OH :=
 Af 0 a fun f=>Ak f b fun g _=>Cg EE 3 g e fun h=>Aj h (BL [.fv (.int .i64 0),.fv (.int .i64 0),.nils] [] fun i=>LA b c i d) (Af 2 a fun j=>Lj b j a c d)
def Lh (f:IV) (g:Hp) (h a b i:IV):OH :=
 Aq 1 f fun c=>Ay 113247238 (.row [.fv (.int .i64 0),.fv (.int .i64 0),.nils] false) (.ptr (.own 113247238) 0) g fun d j _ _=>Ae 3 d h j fun e _ _=>Cg EE 35 c (.fv (.int .i64 0)) fun k=>Aj k (LH e a b c) (LI d e i a b)
def WT (c:Aa) (n:Nat) (d e f:IV) (g:Hp):OH :=
 AS 113246208 e g fun h i _ _=>Ay 113246209 (.row [.fv (.int .i64 0),.fv (.int .i64 0),.nils] false) (.ptr (.own 113246209) 0) i fun j k _ _=>Ay 113246210 (.row [.fv (.int .i64 0),.fv (.int .i64 0),.nils] false) (.ptr (.own 113246210) 0) k fun l a _ _=>Ad 3 h a fun m _=>Ai [] false false c 53 [d,m] a fun b o _ _=>Aq 0 b fun p=>Lh b o p j l f
theorem AiK (a:Aa) (n:Nat) (b c d:IV) (e:Hp):Ax EE a ft.get n 108 [b,c,d] e=WT a n b c d e:=by kernel_rfl
def Ae5 (j:Aa) (n:Nat) (a b:IV) (c:Hp):OH :=
 AD (Al EE 129 0 []) 114295808 c fun d e _ _=>AD (AK EE 114295810 false .append [129,129] [d,a]) 114295810 e fun f g _ _=>AD (AK EE 114295812 false .append [129,129] [f,b]) 114295812 g fun h i _ _=>Am [h] i
theorem Al0 (a:Aa) (n:Nat) (b c:IV) (d:Hp):Ax EE a ft.get n 109 [b,c] d=Ae5 a n b c d:=by kernel_rfl
def Tk (a b:AB) (c:Hp) (d:IV):OH :=
 Ab [] a b (Am [d] c)
def Tw (c:Hp) (d:IV) (e a:AB) (b:Aa) (f g h:IV):OH :=
 AD (Al EE 129 1 [(0,d)]) 115349519 c fun i j k l=>Ab [(e,[]),(a,[])] k l (Ai [] false false b 109 [f,i] j fun m n o p=>Ab [(a,[])] o p (Ai [true,false,false] false false b 82 [g,h,m] n fun q r s t=>Tk s t r q))
def TH (a:Hp) (d:IV) (b c:AB) (e:Aa) (f g h:IV):OH :=
 Ak d a fun i j=>Ab [(b,[]),(c,[])] j [] (AP 1 i (.fv (.int .i64 1)) fun k=>Ak k a fun l m=>Ab [(b,[]),(c,[])] m [] (Tw a l b c e f g h))
def Um (d:IV) (a:Hp) (b:AB) (e:IV) (f:Aa) (g h:IV):OH :=
 Af 3 d fun i=>Ak i a fun j c=>Ab [(b,[])] c [] (AX e fun k=>Af 2 k fun l=>TH a l c b f j g h)
def TC (a:IV) (b:Hp) (d:IV) (e:Aa) (f:IV):OH :=
 AX a fun g=>Af 4 g fun h=>Ad 3 h b fun i c=>Ab [] c [] (AX a fun j=>Um j b c d e f i)
def VL (b:IV) (a:Hp) (c:IV) (d:Aa) (e:IV):OH :=
 AX b fun f=>Af 2 f fun g=>Ak g a fun h _=>AP 1 h (.fv (.int .i64 1)) fun i=>Ak i a fun j _=>TC j a c d e
def SJ (b:IV) (a:Hp) (c:Aa) (d:IV):OH :=
 AX b fun e=>Af 2 e fun f=>Ak f a fun g _=>AP 1 g (.fv (.int .i64 0)) fun h=>Ak h a fun i _=>VL i a b c d
def Tl (b c:IV) (a:Hp):OH :=
 AP 1 b c fun d=>Ak d a fun e f=>Ab [] f [] (Am [e] a)
def S5 (b:IV) (a:Hp) (c d e:AB) (f:IV):OH :=
 Af 0 b fun g=>Ak g a fun h i=>Ab [(c,[]),(d,[]),(e,[])] i [] (Bv EE 3 (.fv (.int .i64 1)) h fun j=>Bd EE 3 j (.fv (.int .i64 8)) fun k=>Tl f k a)
def Vy (c:IV) (a:Hp) (d:IV) (e f:AB):OH :=
 AX c fun g=>Af 2 g fun h=>Ak h a fun i b=>Ab [] b [] (AX d fun j=>S5 j a b e f i)
def Ti (a:Hp) (d e:IV):OH :=
 Ak d a fun f b=>Ab [] b [] (AP 1 f (.fv (.int .i64 0)) fun g=>Ak g a fun h c=>Ab [] c [] (Vy h a e c b))
def U4 (c:Aa) (d:Hp) (e a:IV) (f:Hp→OH):OH :=
 Ai [true] false false c 117 [e] d fun g b _ _=>Aj g (AX a fun h=>Af 2 h fun i=>Ti b i a) (f b)
def TF (b:IV) (a:Hp):OH :=
 AX b fun c=>Af 2 c fun d=>Ak d a fun e _=>AP 1 e (.fv (.int .i64 0)) fun f=>Ak f a fun g _=>Am [g] a
def Sj (b:IV) (a:Hp):OH :=
 AX b fun c=>Af 2 c fun d=>Ak d a fun e _=>AP 1 e (.fv (.int .i64 0)) fun f=>Ak f a fun g _=>TF g a
def Vx (a:Hp) (b:IV):OH :=
 Ak b a fun c _=>AP 1 c (.fv (.int .i64 1)) fun d=>Ak d a fun e _=>Am [e] a
def So (b c:IV) (a:Hp) (d:Hp→OH):OH :=
 Aj b (AX c fun e=>Af 2 e fun f=>Vx a f) (d a)
def VM (c d e a:AB) (b:Aa) (f:Hp) (g h i j:IV):OH :=
 Ab [(e,[]),(a,[])] c d (Ai [] false false b 109 [g,h] f fun k l m n=>Ab [(a,[])] m n (Ai [true,false,false] false false b 82 [i,j,k] l fun o p q r=>Ab [] q r (Am [o] p)))
def Te (d:IV) (a:Hp) (b:AB) (e f:IV) (g:Aa) (h i:IV):OH :=
 AX d fun j=>Af 3 j fun k=>Ak k a fun l c=>Ab [(b,[])] c [] (AD (Al EE 129 2 [(0,e),(1,f)]) 115365899 a fun m n o p=>VM o p c b g n l m h i)
def UX (a:Hp) (d e f:IV) (g:Aa) (h:IV):OH :=
 Ak d a fun b _=>AX b fun i=>Af 4 i fun j=>Ad 3 j a fun k c=>Ab [] c [] (Te b a c e f g h k)
def TT (b c:AB) (d:IV) (a:Hp) (e f:IV) (g:Aa) (h:IV):OH :=
 Ab [] b c (AX d fun i=>Af 2 i fun j=>Ak j a fun k _=>AP 1 k (.fv (.int .i64 2)) fun l=>UX a l e f g h)
def VF (c d:AB) (e:IV) (f:Hp) (a:Aa) (b g h:IV):OH :=
 Ab [] c d (BL [.fv (.int .i64 0),.fv (.int .i64 0),.nils,.nils,.fv (.int .i64 0),.fv (.int .i64 0),.nils] [(0,1,.fv (.int .i64 13)),(2,1,e)] fun i=>AS 115363862 i f fun j k l m=>Ab [] l m (Ai [true,false] false false a 110 [b,j] k fun n o p q=>TT p q g o h n a b))
def Tt (g a b c d:AB) (h:IV) (e:Hp) (i j f:IV) (k:Aa) (l m:IV):OH :=
 Ab [(a,[]),(b,[]),(c,[]),(d,[])] g [] (AP 1 h (.fv (.int .i64 2)) fun n=>Ak n e fun o p=>Ab [(a,[]),(b,[]),(c,[]),(d,[])] p [] (AD (Al EE 129 4 [(0,i),(1,j),(2,o),(3,f)]) 115363860 e fun q r s t=>VF s t q r k l m f))
def Us (a:Hp) (f:IV) (b c:AB) (d:IV) (g:AB) (h i:IV) (j:Aa) (k:IV):OH :=
 Ak f a fun l e=>Ab [(b,[]),(c,[])] e [] (AX d fun m=>Af 2 m fun n=>Ak n a fun o p=>Tt p e g b c o a h l i j k d)
def Sg (a:IV) (b:Hp) (c d:AB) (f g:IV) (h:Aa) (i:IV):OH :=
 AX a fun j=>Af 2 j fun k=>Ak k b fun l e=>Ab [(c,[]),(d,[])] e [] (AP 1 l (.fv (.int .i64 1)) fun m=>Us b m c d a e f g h i)
def Uy (a:Hp) (d e f:IV) (g:Aa) (h:IV):OH :=
 Ak d a fun i b=>Ab [] b [] (AP 1 i (.fv (.int .i64 0)) fun j=>Ak j a fun k c=>Ab [] c [] (Sg e a c b k f g h))
def VP (a:Hp) (c b:IV) (d:Aa) (e:IV):OH :=
 Ak c a fun f _=>AP 1 f (.fv (.int .i64 0)) fun g=>Ak g a fun h _=>AX b fun i=>Af 2 i fun j=>Uy a j b h d e
def Vq (a:Hp) (b c:IV) (d:Aa) (e:IV):OH :=
 Ak b a fun f _=>AP 1 f (.fv (.int .i64 3)) fun g=>Ak g a fun h _=>AX h fun i=>Af 2 i fun j=>VP a j c d e
def T5 (a:Aa) (e:Hp) (b c:IV) (f:Hp→OH):OH :=
 Ai [true] false false a 117 [b] e fun g d _ _=>Aj g (AX c fun h=>Af 2 h fun i=>Vq d i c a b) (f d)
def Vb (c:Hp) (a g:IV) (h:Aa) (i j:IV) (d:Hp→OH):OH :=
 Ac a true c (fun k=>Af 0 g fun l=>k l c [] []) fun m b _ _=>Ac a true b (fun n=>Ak m b fun o p=>n o b p []) fun q e _ _=>Ac a true e (fun r=>AQ EE 3 q (.fv (.int .i64 12)) fun s=>r s e [] []) fun t f _ _=>AH a t (.fv (.bool false)) fun u=>Aj u (T5 h f i j d) (d f)
def Vo (d:Hp) (a g:IV) (h:Aa) (i j:IV) (k:Hp→OH):OH :=
 Ac a true d (fun l=>Af 2 g fun m=>l m d [] []) fun n b _ _=>Ac a true b (fun o=>Ak n b fun p q=>o p b q []) fun r e _ _=>Ac a true e (fun s=>AP 1 r (.fv (.int .i64 3)) fun t=>s t e [] []) fun u c _ _=>Ac a true c (fun v=>Ak u c fun w x=>v w c x []) fun y f _ _=>Ac a true f (fun z=>AX y fun A=>z A f [] []) fun B C _ _=>Vb C a B h i j k
def Vh (e:IV) (a:Hp) (c:IV) (f:Aa) (g:IV) (h:Hp→OH):OH :=
 Af 0 e fun i=>Ak i a fun j _=>AQ EE 3 j (.fv (.int .i64 13)) fun b=>Ac b true a (fun k=>k c a [] []) fun l d _ _=>Ac b true d (fun m=>AX l fun n=>m n d [] []) fun o p _ _=>Vo p b o f g c h
def Sm (a:Hp) (b i:IV) (d:Aa) (e c:IV) (f:Hp→OH):OH :=
 Ac b true a (fun j=>Ak i a fun k l=>j k a l []) fun m g _ _=>Ac b true g (fun n=>AQ EE 3 m (.fv (.int .i64 11)) fun o=>n o g [] []) fun p h _ _=>AH b p (.fv (.bool false)) fun q=>Aj q (Ai [true] false false d 117 [e] h fun r s _ _=>So r c s f) (AX c fun t=>Vh t h c d e f)
def UA (b:Hp) (a g:IV) (h:Aa) (i j:IV) (k:Hp→OH):OH :=
 Ac a true b (fun l=>Ak g b fun m n=>l m b n []) fun o d _ _=>Ac a true d (fun p=>AP 1 o (.fv (.int .i64 3)) fun q=>p q d [] []) fun r c _ _=>Ac a true c (fun s=>Ak r c fun t u=>s t c u []) fun v e _ _=>Ac a true e (fun w=>AX v fun x=>w x e [] []) fun y f _ _=>Ac a true f (fun z=>Af 0 y fun A=>z A f [] []) fun B C _ _=>Sm C a B h i j k
def Tr (b:Hp) (f c:IV) (g:Aa) (h:IV) (i:Hp→OH):OH :=
 Ak f b fun j _=>AQ EE 3 j (.fv (.int .i64 13)) fun a=>Ac a true b (fun k=>k c b [] []) fun l d _ _=>Ac a true d (fun m=>AX l fun n=>m n d [] []) fun o e _ _=>Ac a true e (fun p=>Af 2 o fun q=>p q e [] []) fun r s _ _=>UA s a r g h c i
def Uq (g:IV) (b:Aa) (c:Hp) (d a:IV) (e:Hp→OH):OH :=
 Aj g (Ai [true] false false b 117 [d] c fun h f _ _=>Aj h (Sj a f) (e f)) (AX a fun i=>Af 0 i fun j=>Tr c j a b d e)
def UT (a:Hp) (b d:IV) (e:IV→Hp→OH):OH :=
 Ac b true a (fun f=>Ak d a fun g h=>f g a h []) fun i c _ _=>Ac b true c (fun j=>AQ EE 3 i (.fv (.int .i64 30)) fun k=>j k c [] []) fun l m _ _=>AH b l (.fv (.bool false)) fun n=>e n m
def Tn (b:Hp) (a g:IV) (h:IV→Hp→OH):OH :=
 Ac a true b (fun i=>Ak g b fun j k=>i j b k []) fun l d _ _=>Ac a true d (fun m=>AP 1 l (.fv (.int .i64 0)) fun n=>m n d [] []) fun o c _ _=>Ac a true c (fun p=>Ak o c fun q r=>p q c r []) fun s e _ _=>Ac a true e (fun t=>AX s fun u=>t u e [] []) fun v f _ _=>Ac a true f (fun w=>Af 0 v fun x=>w x f [] []) fun y z _ _=>UT z a y h
def Th (b:Hp) (e f:IV) (g:IV→Hp→OH):OH :=
 Ak e b fun h _=>AQ EE 3 h (.fv (.int .i64 19)) fun a=>Ac a true b (fun i=>i f b [] []) fun j c _ _=>Ac a true c (fun k=>AX j fun l=>k l c [] []) fun m d _ _=>Ac a true d (fun n=>Af 2 m fun o=>n o d [] []) fun p q _ _=>Tn q a p g
def UK (e f:IV) (a:IV→Hp→OH) (b:Hp) (c:IV):OH :=
 AH e f (.fv (.bool false)) fun d=>Aj d (a d b) (AX c fun g=>Af 0 g fun h=>Th b h c a)
def Ud (b:Hp) (a g:IV) (h:IV→Hp→OH) (i:IV):OH :=
 Ac a true b (fun j=>Ak g b fun k l=>j k b l []) fun m d _ _=>Ac a true d (fun n=>AX m fun o=>n o d [] []) fun p e _ _=>Ac a true e (fun q=>Af 0 p fun r=>q r e [] []) fun s c _ _=>Ac a true c (fun t=>Ak s c fun u v=>t u c v []) fun w f _ _=>Ac a true f (fun x=>AQ EE 3 w (.fv (.int .i64 19)) fun y=>x y f [] []) fun z A _ _=>UK a z h A i
def S7 (c:Hp) (a d:IV) (h:IV→Hp→OH):OH :=
 Ac a true c (fun i=>i d c [] []) fun j e _ _=>Ac a true e (fun k=>AX j fun l=>k l e [] []) fun m f _ _=>Ac a true f (fun n=>Af 2 m fun o=>n o f [] []) fun p b _ _=>Ac a true b (fun q=>Ak p b fun r s=>q r b s []) fun t g _ _=>Ac a true g (fun u=>AP 1 t (.fv (.int .i64 0)) fun v=>u v g [] []) fun w x _ _=>Ud x a w h d
def SB (c:Aa) (d a:IV) (e:Hp→OH) (b:Hp):OH :=
 (fun (f:IV→Hp→OH)=>AX a fun g=>Af 0 g fun h=>Ak h b fun i _=>AQ EE 3 i (.fv (.int .i64 30)) fun j=>S7 b j a f) fun k l=>Uq k c l d a e
def Sl (c:Hp) (a j:IV) (d:Aa) (e f:IV) (g:Hp→OH):OH :=
 Ac a true c (fun k=>Af 0 j fun l=>k l c [] []) fun m b _ _=>Ac a true b (fun n=>Ak m b fun o p=>n o b p []) fun q h _ _=>Ac a true h (fun r=>AQ EE 3 q (.fv (.int .i64 7)) fun s=>r s h [] []) fun t i _ _=>AH a t (.fv (.bool false)) fun u=>Aj u (U4 d i e f g) (SB d e f g i)
def U0 (d:Hp) (a g:IV) (h:Aa) (i j:IV) (k:Hp→OH):OH :=
 Ac a true d (fun l=>Af 2 g fun m=>l m d [] []) fun n b _ _=>Ac a true b (fun o=>Ak n b fun p q=>o p b q []) fun r e _ _=>Ac a true e (fun s=>AP 1 r (.fv (.int .i64 0)) fun t=>s t e [] []) fun u c _ _=>Ac a true c (fun v=>Ak u c fun w x=>v w c x []) fun y f _ _=>Ac a true f (fun z=>AX y fun A=>z A f [] []) fun B C _ _=>Sl C a B h i j k
def Ta (a:Hp) (b h d:IV) (i:Aa) (j:IV) (k:Hp→OH):OH :=
 Ac b false a (fun l=>Ak h a fun m n=>l m a n []) fun o e _ _=>Ac b false e (fun p=>AQ EE 3 o (.fv (.int .i64 9)) fun q=>p q e [] []) fun r f _ _=>AH b (.fv (.bool true)) r fun c=>Ac c true f (fun s=>s d f [] []) fun t g _ _=>Ac c true g (fun u=>AX t fun v=>u v g [] []) fun w x _ _=>U0 x c w i j d k
def SA (b:Hp) (f c:IV) (g:Aa) (h:IV) (i:Hp→OH):OH :=
 Ak f b fun j _=>AQ EE 3 j (.fv (.int .i64 8)) fun a=>Ac a false b (fun k=>k c b [] []) fun l d _ _=>Ac a false d (fun m=>AX l fun n=>m n d [] []) fun o e _ _=>Ac a false e (fun p=>Af 0 o fun q=>p q e [] []) fun r s _ _=>Ta s a r c g h i
def Tb (g:IV) (a:Aa) (d:Hp) (b c:IV) (e:Hp→OH):OH :=
 Aj g (Ai [true] false false a 117 [b] d fun h f _ _=>Aj h (SJ c f a b) (e f)) (AX c fun i=>Af 0 i fun j=>SA d j c a b e)
def Uc (c:Hp) (a f:IV) (g:Aa) (h i:IV) (j:Hp→OH):OH :=
 Ac a true c (fun k=>AX f fun l=>k l c [] []) fun m d _ _=>Ac a true d (fun n=>Af 0 m fun o=>n o d [] []) fun p b _ _=>Ac a true b (fun q=>Ak p b fun r s=>q r b s []) fun t e _ _=>Ac a true e (fun u=>AQ EE 3 t (.fv (.int .i64 4)) fun v=>u v e [] []) fun w x _ _=>AH a w (.fv (.bool false)) fun y=>Tb y g x h i j
def TP (d:Hp) (a g:IV) (h:Aa) (i j:IV) (k:Hp→OH):OH :=
 Ac a true d (fun l=>AX g fun m=>l m d [] []) fun n e _ _=>Ac a true e (fun o=>Af 2 n fun p=>o p e [] []) fun q b _ _=>Ac a true b (fun r=>Ak q b fun s t=>r s b t []) fun u f _ _=>Ac a true f (fun v=>AP 1 u (.fv (.int .i64 0)) fun w=>v w f [] []) fun x c _ _=>Ac a true c (fun y=>Ak x c fun z A=>y z c A []) fun B C _ _=>Uc C a B h i j k
def Uw (a:IV) (b:Hp) (d:Aa) (e:IV) (f:Hp→OH):OH :=
 AX a fun g=>Af 0 g fun h=>Ak h b fun i _=>AQ EE 3 i (.fv (.int .i64 5)) fun c=>Ac c true b (fun j=>j a b [] []) fun k l _ _=>TP l c k d e a f
def S110 (d:Aa) (n:Nat) (c a:IV) (b:Hp):OH :=
 (fun (e:Hp→OH)=>AX c fun f=>Af 2 f fun g=>Ak g b fun h _=>Cg EE 3 h (.fv (.int .i64 0)) fun i=>Aj i (Am [a] b) (Uw a b d c e)) fun j=>Am [a] j
theorem AlT (a:Aa) (n:Nat) (b c:IV) (d:Hp):Ax EE a ft.get n 110 [b,c] d=S110 a n b c d:=by kernel_rfl
def Amc (a:IV) (d:Hp) (b:IV):OH :=
 Aq 0 a fun e=>Aq 1 a fun f=>Ae 3 b e d fun c _ _=>Ap true 3 b c fun g=>Am [g,f] c
def Aky (c:Hp) (a d:IV):OH :=
 Ae 3 a d c fun b e f=>Ab [] e f (Ap true 3 a b fun g=>Am [g,.fv (.int .i64 0)] b)
def AjF (a:AB) (b:Aa) (c:Hp) (d e:IV):OH :=
 Ab [] a [] (Ai [] false false b 30 [.fv (.int .i64 11),.nils] c fun f g h i=>Ab [(a,[])] h i (Ai [] false false b 89 [d,.fv (.int .i64 0),f] g fun j k l m=>Ab [] l m (Aky k e j)))
def At8 (a:Aa) (n:Nat) (f:IV) (g:Hp):OH :=
 AS 116391936 f g fun c h _ _=>Ay 116391937 (.row [.fv (.int .i64 0),.fv (.int .i64 0),.nils] false) (.ptr (.own 116391937) 0) h fun d e _ _=>Ad 3 c e fun i _=>Ai [] false false a 118 [i,.fv (.int .i64 0)] e fun j b _ _=>Aj j (Ai [] false false a 57 [.fv (.int .i64 14)] b fun k l _ _=>Amc k l d) (Ad 3 c b fun m o=>AjF o a b m d)
theorem Ame (a:Aa) (n:Nat) (b:IV) (c:Hp):Ax EE a ft.get n 111 [b] c=At8 a n b c:=by kernel_rfl
def NE (a:IV) (e:Hp) (f g:IV) (h:Hp) (b c:IV) (i:List IV→Hp→OH):OH :=
 Af 2 a fun j=>B3 j f e fun k _ _=>Bv EE 3 g (.fv (.int .i64 1)) fun d=>BB (h.own.map (·.1)) [117445638,117448708] [b,c,a,d] k fun l=>i [b,c,a,d] l
def ND (b:IV) (a:Hp) (c d:IV) (e:Hp) (f g:IV) (h:List IV→Hp→OH):OH :=
 Af 2 b fun i=>Ak i a fun j _=>Ad 3 c a fun k _=>AD (Al EE 28 1 [(0,k)]) 117448707 a fun l m _ _=>AD (AK EE 117448708 false .append [28,28] [j,l]) 117448708 m fun n o _ _=>NE b o n d e f g h
def Mi (a:Hp) (b c:IV) (d:Hp→OH):OH :=
 Ae 3 b c a fun e _ _=>d e
def M1 (a:Hp) (b e f:IV) (g:Aa) (h:IV) (c:Hp→OH):OH :=
 Ac b true a (fun i=>AH e (.fv (.bool true)) f fun j=>i j a [] []) fun k d _ _=>AH b k (.fv (.bool false)) fun l=>Aj l (Ai [] false false g 30 [.fv (.int .i64 11),.nils] d fun m n _ _=>Mi n h m c) (c d)
def M8 (d:Hp) (b h i:IV) (j:Aa) (k:IV) (l:Hp→OH):OH :=
 Ac b true d (fun m=>AQ EE 3 h (.fv (.int .i64 4)) fun n=>m n d [] []) fun o e _ _=>Ac b true e (fun p=>p o e [] []) fun a f _ _=>Ac a false f (fun q=>Af 0 i fun r=>q r f [] []) fun s c _ _=>Ac a false c (fun t=>Ak s c fun u v=>t u c v []) fun w g _ _=>Ac a false g (fun x=>AQ EE 3 w (.fv (.int .i64 7)) fun y=>x y g [] []) fun z A _ _=>M1 A b a z j k l
def L8 (g:Hp) (a h i e:IV) (j:Hp) (b k:IV) (l:List IV→Hp→OH) (m:Aa):OH :=
 Ae 3 a h g fun f _ _=>(fun (n:Hp→OH)=>AQ EE 3 e (.fv (.int .i64 0)) fun c=>Ac c true f (fun o=>Af 0 b fun p=>o p f [] []) fun q d _ _=>Ac c true d (fun r=>Ak q d fun s t=>r s d t []) fun u v _ _=>M8 v c u b m a n) fun w=>ND i w a e j b k l
def NZ (a:Hp) (d b:IV) (c:Aa) (e:IV) (f:Hp) (g h:IV) (i:List IV→Hp→OH):OH :=
 Ak d a fun j _=>AP 3 j b fun k=>Ad 3 k a fun l _=>Ai [] false false c 112 [l] a fun m n _ _=>Ay 117445638 (.row [.fv (.int .i64 0),.fv (.int .i64 0),.nils] false) (.ptr (.own 117445638) 0) n fun o p _ _=>L8 p o m e b f g h i c
def L7 (c:Aa) (d:Hp) (e f a:IV):OH :=
 Ai [] false false c 89 [e,.fv (.int .i64 0),f] d fun g h i j=>Ab [] i j (Ae 3 a g h fun b k l=>Ab [] k l (Ap true 3 a b fun m=>Am [m] b))
def Mx (d:IV) (a:Hp) (b:Aa) (e f:AB) (g:IV):OH :=
 AP 3 d (.fv (.int .i64 0)) fun h=>Ad 3 h a fun i c=>Ab [] c [] (Ai [] false false b 30 [.fv (.int .i64 11),.nils] a fun j k l m=>Ab [(c,[]),(e,[]),(f,[])] l m (L7 b k i j g))
def Ni (a:AB) (d:IV) (b:Hp) (e:Aa) (f:IV):OH :=
 Ab [] a [] (AP 3 d (.fv (.int .i64 1)) fun g=>Af 2 g fun h=>Ak h b fun i c=>Ab [] c [] (Mx i b e c a f))
def NY (a:Hp) (d b:IV):OH :=
 Ad 3 d a fun e _=>Ae 3 b e a fun c _ _=>Ap true 3 b c fun f=>Am [f] c
def NV (a:Hp) (b c:IV):OH :=
 Ak b a fun d _=>AP 3 d (.fv (.int .i64 1)) fun e=>Af 2 e fun f=>Ak f a fun g _=>AP 3 g (.fv (.int .i64 0)) fun h=>NY a h c
def NO (c:Hp) (a d:IV):OH :=
 Ae 3 a d c fun b _ _=>Ap true 3 a b fun e=>Am [e] b
def NA (b:Hp) (c:IV) (f:Aa) (g h d e:IV):OH :=
 Ac c true b (fun i=>Ai [] false false f 18 [g,h] b i) fun j a k l=>Ab [] k l (AH c j (.fv (.bool false)) fun m=>Aj m (Af 2 d fun n=>NV a n e) (Ad 3 d a fun o _=>NO a e o))
def MI (b:Hp) (a k:IV) (d e f g h i:AB) (l:Aa) (m n o:IV):OH :=
 Ac a true b (fun p=>Ak k b fun q r=>p q b r []) fun s j t u=>Ab [(d,e),(f,g),(h,i)] t u (Ac a true j (fun v=>AP 3 s (.fv (.int .i64 0)) fun w=>v w j [] []) fun x c _ _=>Ac a true c (fun y=>Ad 3 x c fun z A=>y z c A []) fun B C D E=>Ab [(d,e),(f,g),(h,i)] D E (NA C a l m B n o))
def NR (c:Hp) (a d:IV) (e f g h i j:AB) (m:Aa) (n o:IV):OH :=
 Ac a true c (fun p=>Af 2 d fun q=>p q c [] []) fun r b _ _=>Ac a true b (fun s=>Ak r b fun t u=>s t b u []) fun v k w x=>Ab [(e,f),(g,h),(i,j)] w x (Ac a true k (fun y=>AP 3 v (.fv (.int .i64 2)) fun z=>y z k [] []) fun A l _ _=>Ac a true l (fun B=>Af 2 A fun C=>B C l [] []) fun D E _ _=>MI E a D e f g h i j m n d o)
def Mk (b:Hp) (a i j:IV) (k l:AB) (m:Aa) (n:IV):OH :=
 Ac a true b (fun o=>Ak i b fun p q=>o p b q []) fun r d e f=>Ab [] e f (Ac a true d (fun s=>AP 3 r (.fv (.int .i64 0)) fun t=>s t d [] []) fun u c _ _=>Ac a true c (fun v=>Ad 3 u c fun w x=>v w c x []) fun y z g h=>Ab [] g h (NR z a j g h e f k l m y n))
def NL (c:Hp) (a d:IV) (i:Aa) (j:IV):OH :=
 Ac a true c (fun k=>Af 2 d fun l=>k l c [] []) fun m b _ _=>Ac a true b (fun n=>Ak m b fun o p=>n o b p []) fun q e f g=>Ab [] f g (Ac a true e (fun r=>AP 3 q (.fv (.int .i64 1)) fun s=>r s e [] []) fun t h _ _=>Ac a true h (fun u=>Af 2 t fun v=>u v h [] []) fun w x _ _=>Mk x a w d f g i j)
def My (c:Hp) (a e f:IV) (g:Aa) (h:IV):OH :=
 Ac a true c (fun i=>Af 0 e fun j=>i j c [] []) fun k b _ _=>Ac a true b (fun l=>Ak k b fun m n=>l m b n []) fun o d p q=>Ab [] p q (Ac a true d (fun r=>AQ EE 3 o (.fv (.int .i64 9)) fun s=>r s d [] []) fun t u _ _=>AH a t (.fv (.bool false)) fun v=>NL u v f g h)
def L4 (f g:IV) (c:Hp) (d:IV) (h:Aa) (i:IV):OH :=
 AH f g (.fv (.bool false)) fun a=>Ac a true c (fun j=>Af 2 d fun k=>j k c [] []) fun l b _ _=>Ac a true b (fun m=>Ak l b fun n o=>m n b o []) fun p e q r=>Ab [] q r (Ac a true e (fun s=>AP 3 p (.fv (.int .i64 2)) fun t=>s t e [] []) fun u v _ _=>My v a u d h i)
def NN (c:Hp) (a f g:IV) (h:Aa) (i:IV):OH :=
 Ac a true c (fun j=>AP 3 f (.fv (.int .i64 1)) fun k=>j k c [] []) fun l d _ _=>Ac a true d (fun m=>Af 0 l fun n=>m n d [] []) fun o b _ _=>Ac a true b (fun p=>Ak o b fun q r=>p q b r []) fun s e t u=>Ab [] t u (Ac a true e (fun v=>AQ EE 3 s (.fv (.int .i64 8)) fun w=>v w e [] []) fun x y _ _=>L4 a x y g h i)
def Nv (e:AB) (f:IV) (c:Hp) (d:IV) (g:Aa) (h:IV):OH :=
 Ab [] e [] (AQ EE 3 f (.fv (.int .i64 7)) fun a=>Ac a true c (fun i=>Af 2 d fun j=>i j c [] []) fun k b _ _=>Ac a true b (fun l=>Ak k b fun m n=>l m b n []) fun o p q r=>Ab [] q r (NN p a o d g h))
def ME (e f b:IV) (a:Hp) (c:Aa) (d g:IV):OH :=
 AH e f (.fv (.bool false)) fun h=>Aj h (Af 2 b fun i=>Ak i a fun j k=>Ni k j a c d) (Af 0 g fun l=>Ak l a fun m n=>Nv n m a b c d)
def N6 (b:Hp) (a f:IV) (c:Aa) (g h i:IV):OH :=
 Ac a true b (fun j=>Ad 3 f b fun k l=>j k b l []) fun m d n o=>Ab [] n o (Ac a true d (fun p=>Ai [] false false c 118 [m,.fv (.int .i64 0)] d p) fun q e r s=>Ab [] r s (Ac a true e (fun t=>CI (Ji .not q) fun u=>t u e [] []) fun v w _ _=>ME a v g w c h i))
def Nf (c:Hp) (a f:IV) (g:Aa) (h i j:IV):OH :=
 Ac a true c (fun k=>AP 3 f (.fv (.int .i64 1)) fun l=>k l c [] []) fun m d _ _=>Ac a true d (fun n=>Af 2 m fun o=>n o d [] []) fun p b _ _=>Ac a true b (fun q=>Ak p b fun r s=>q r b s []) fun t e u v=>Ab [] u v (Ac a true e (fun w=>AP 3 t (.fv (.int .i64 0)) fun x=>w x e [] []) fun y z _ _=>N6 z a y g h i j)
def NJ (e f:AB) (g h:IV) (c:Hp) (d:IV) (i:Aa) (j k:IV):OH :=
 Ab [] e f (AH g h (.fv (.bool false)) fun a=>Ac a true c (fun l=>Af 2 d fun m=>l m c [] []) fun n b _ _=>Ac a true b (fun o=>Ak n b fun p q=>o p b q []) fun r s t u=>Ab [] t u (Nf s a r i d j k))
def Od (b:Hp) (a h:IV) (c:Aa) (i j k l:AB) (m n o:IV):OH :=
 Ac a true b (fun p=>Ad 3 h b fun q r=>p q b r []) fun s d e f=>Ab [] e f (Ac a true d (fun t=>Ai [] false false c 29 [.fv (.int .i64 0)] d t) fun u g v w=>Ab [(e,f),(i,j),(k,l)] v w (Ac a true g (fun x=>Ai [] false false c 18 [s,u] g x) fun y z A B=>NJ A B a y z m c n o))
def Nl (c:Hp) (a h:IV) (i:Aa) (j k:AB) (l m n:IV):OH :=
 Ac a true c (fun o=>AP 3 h (.fv (.int .i64 1)) fun p=>o p c [] []) fun q d _ _=>Ac a true d (fun r=>Af 2 q fun s=>r s d [] []) fun t b _ _=>Ac a true b (fun u=>Ak t b fun v w=>u v b w []) fun x e f g=>Ab [] f g (Ac a true e (fun y=>AP 3 x (.fv (.int .i64 1)) fun z=>y z e [] []) fun A B _ _=>Od B a A i f g j k l m n)
def Mo (c:Hp) (d i e:IV) (j:Aa) (k l:IV):OH :=
 Ac d true c (fun m=>AQ EE 3 i (.fv (.int .i64 5)) fun n=>m n c [] []) fun o f _ _=>AH d o (.fv (.bool false)) fun a=>Ac a true f (fun p=>Af 2 e fun q=>p q f [] []) fun r b _ _=>Ac a true b (fun s=>Ak r b fun t u=>s t b u []) fun v w g h=>Ab [] g h (Nl w a v j g h e k l)
def NB (e f:AB) (c:Hp) (a g h:IV) (i:Aa) (j k:IV):OH :=
 Ab [] e f (Ac a true c (fun l=>AP 3 g (.fv (.int .i64 1)) fun m=>l m c [] []) fun n d _ _=>Ac a true d (fun o=>Af 0 n fun p=>o p d [] []) fun q b _ _=>Ac a true b (fun r=>Ak q b fun s t=>r s b t []) fun u v w x=>Ab [] w x (Mo v a u h i j k))
def Mq (a:Hp) (e d:IV) (f:Aa) (g h:IV):OH :=
 Ak e a fun i j=>Ab [] j [] (AQ EE 3 i (.fv (.int .i64 4)) fun b=>Ac b true a (fun k=>Af 2 d fun l=>k l a [] []) fun m c _ _=>Ac b true c (fun n=>Ak m c fun o p=>n o c p []) fun q r s t=>NB s t r b q d f g h)
def MS (b:Hp) (g c a:IV) (d:Aa) (e:IV) (h:Hp) (f:IV) (i:List IV→Hp→OH):OH :=
 Ak g b fun j _=>Bz j fun k=>GM EE 3 c k fun l=>Aj l (Af 2 a fun m=>NZ b m c d e h a f i) (Af 0 a fun n=>Mq b n e d f a)
def Gm (b:List IV) (c:Hp) (d:Aa) (e:Hp) (f:List IV→Hp→OH):OH :=
 AF b fun a g=>AF g fun h i=>AF i fun j k=>AF k fun l _=>Af 2 a fun m=>MS c m l a d j e h f
def M6 (e f:IV) (g b:Hp) (c d:IV) (n:Nat) (h:Aa):OH :=
 BL [.fv (.int .i64 0),.fv (.int .i64 0),.nils] [(0,1,e),(1,1,f)] fun i=>Ay 117441541 (.row [.fv (.int .i64 0),.fv (.int .i64 0),.nils] false) (.ptr (.own 117441541) 0) g fun a j _ _=>Ae 3 a i j fun k _ _=>BB (b.own.map (·.1)) [117445638,117448708] [c,d,a,.fv (.int .i64 0)] k fun l=>Bh n (fun m o p=>Gm o p h b m) [c,d,a,.fv (.int .i64 0)] l
def S112 (d:Aa) (n:Nat) (e:IV) (c:Hp):OH :=
 AS 117440512 e c fun a f _ _=>Ay 117440513 (.row [.fv (.int .i64 0),.fv (.int .i64 0),.nils] false) (.ptr (.own 117440513) 0) f fun g b _ _=>Af 0 a fun h=>Ak h b fun i _=>Af 1 a fun j=>Ak j b fun k _=>M6 i k b c a g n d
theorem AiH (a:Aa) (n:Nat) (b:IV) (c:Hp):Ax EE a ft.get n 112 [b] c=S112 a n b c:=by kernel_rfl
def NU (c:Hp) (a d:IV):OH :=
 Ae 3 a d c fun b _ _=>Ap true 3 a b fun e=>Am [e] b
def Ob (c:IV) (d:Hp) (a:IV):OH :=
 Bd EE 3 c (.fv (.int .i64 1)) fun e=>BL [.fv (.int .i64 0),.fv (.int .i64 0),.nils] [(0,1,.fv (.int .i64 1)),(1,1,e)] fun f=>Ae 3 a f d fun b _ _=>Ap true 3 a b fun g=>Am [g] b
def Mn (a:Hp) (b:IV):OH :=
 Ap true 3 b a fun c=>Am [c] a
def MA (d e c:IV) (a:Hp) (b:IV):OH :=
 K5 EE 3 d e fun f=>Aj f (Af 1 c fun g=>Ak g a fun h _=>Ob h a b) (Ad 3 c a fun i _=>Ae 3 b i a fun j _ _=>Mn j b)
def NT (e b:IV) (a:Hp) (f:IV) (g:Aa) (h c d:IV):OH :=
 AQ EE 3 e b fun i=>Aj i (Ad 3 f a fun j _=>Ai [] false false g 28 [j,h,.fv (.int .i64 0)] a fun k l _ _=>NU l c k) (Af 1 d fun m=>Ak m a fun n _=>MA n b d a c)
def MK (a:IV) (h:Hp) (i j:IV) (k:Hp) (b c d e f:IV) (l:List IV→Hp→OH):OH :=
 Af 2 a fun m=>B3 m i h fun n o p=>Ab [] o p (Bv EE 3 j (.fv (.int .i64 1)) fun g=>BB (k.own.map (·.1)) [118501392] [b,c,d,e,f,a,g] n fun q=>l [b,c,d,e,f,a,g] q)
def NS (b c a:AB) (d:Hp) (e f g h:IV) (i:Hp) (j k l m n:IV) (o:List IV→Hp→OH):OH :=
 Ab [(a,[])] b c (AD (Al EE 28 1 [(0,e)]) 118501391 d fun p q r s=>Ab [(a,[])] r s (AD (AK EE 118501392 false .append [28,28] [f,p]) 118501392 q fun t u v w=>Ab [] v w (MK g u t h i j k l m n o)))
def MJ (a b c:IV) (d:Hp) (e:IV) (g h f:AB) (i:Aa) (j k l m:IV) (n:Hp) (o p:IV) (q:List IV→Hp→OH):OH :=
 Bv EE 3 a b fun r=>Bv EE 3 c b fun s=>Ad 3 e d fun t u=>Ab [(g,[]),(h,[]),(f,[])] u [] (Ai [] false false i 113 [j,r,s,t] d fun v w x y=>NS x y f w v k l m n a c o e p q)
def Me (a:Hp) (f:IV) (b:AB) (c g h i j:IV) (k:Aa) (l m:IV) (n:Hp) (o p:IV) (q:List IV→Hp→OH):OH :=
 Ak f a fun r d=>Ab [(b,[])] d [] (AP 3 r c fun s=>Ad 3 s a fun t e=>Ab [(b,[])] e [] (MJ g h i a j e d b k t l m c n o p q))
def M7 (a:Aa) (g:Hp) (h b c d i j k:IV) (l:Hp) (m:IV) (n:List IV→Hp→OH):OH :=
 Ai [] false false a 48 [h,b] g fun o e _ _=>Af 2 c fun p=>Ak p e fun q f=>Ab [] f [] (Af 2 d fun r=>Me e r f b i o j k a q c l d m n)
def Mj (a:Hp) (b:IV):OH :=
 Ap true 3 b a fun c=>Am [c] a
def Nj (c f d:IV) (a:Hp) (g:Aa) (e h i j:IV) (k:Hp) (b:IV) (l:List IV→Hp→OH):OH :=
 GM EE 3 c f fun m=>Aj m (Af 0 d fun n=>Ak n a fun o _=>M7 g a o c e d h i j k b l) (Ad 3 e a fun p _=>Ae 3 b p a fun q _ _=>Mj q b)
def MU (c:List IV) (a:IV) (b:Hp) (d:Aa) (e f g:IV) (h:Hp) (i:IV) (j:List IV→Hp→OH):OH :=
 AF c fun k l=>AF l fun m _=>Af 2 a fun n=>Ak n b fun o _=>Bz o fun p=>Nj m p a b d k e f g h i j
def NI (a:List IV) (b:Hp) (c:Aa) (d:Hp) (e:List IV→Hp→OH):OH :=
 AF a fun f g=>AF g fun h i=>AF i fun j k=>AF k fun l m=>AF m fun n o=>MU o j b c f h l d n e
def Nq (a h:Hp) (b c d e f g:IV) (n:Nat) (i:Aa):OH :=
 BB (a.own.map (·.1)) [118501392] [b,c,d,e,f,g,.fv (.int .i64 0)] h fun j=>Bh n (fun k l m=>NI l m i a k) [b,c,d,e,f,g,.fv (.int .i64 0)] j
def Nu (a:IV) (b:Hp) (d:IV) (e:Hp) (f g h i:IV) (n:Nat) (j:Aa):OH :=
 Af 1 a fun k=>Ak k b fun l _=>BL [.fv (.int .i64 0),.fv (.int .i64 0),.nils] [(0,1,d),(1,1,l)] fun m=>Ay 118496261 (.row [.fv (.int .i64 0),.fv (.int .i64 0),.nils] false) (.ptr (.own 118496261) 0) b fun c o _ _=>Ae 3 c m o fun p _ _=>Nq e p f g a h i c n j
def Mu (h a:IV) (b:Hp) (c d:IV) (e:Aa) (f g:IV) (i:Hp) (n:Nat):OH :=
 Aj h (Af 1 a fun j=>Ak j b fun k _=>NT k c b d e f g a) (Af 0 a fun l=>Ak l b fun m _=>Nu a b m i c f d g n e)
def S113 (d:Aa) (n:Nat) (e f g h:IV) (a:Hp):OH :=
 AS 118489088 e a fun b i _ _=>AS 118489089 h i fun j k _ _=>Ay 118489090 (.row [.fv (.int .i64 0),.fv (.int .i64 0),.nils] false) (.ptr (.own 118489090) 0) k fun l c _ _=>Af 0 b fun m=>Ak m c fun o _=>AQ EE 3 o (.fv (.int .i64 1)) fun p=>Mu p b c f j d g l a n
theorem AmM (a:Aa) (n:Nat) (b c d e:IV) (f:Hp):Ax EE a ft.get n 113 [b,c,d,e] f=S113 a n b c d e f:=by kernel_rfl
def Alc (a:Aa) (d:Hp) (e f b:IV):OH :=
 Ai [] false false a 30 [.fv (.int .i64 12),e] d fun g h _ _=>Ai [] false false a 89 [f,.fv (.int .i64 0),g] h fun i j _ _=>Ae 3 b i j fun c _ _=>Ap true 3 b c fun k=>Am [k] c
def Atz (a:Aa) (n:Nat) (c:IV) (d:Hp):OH :=
 AS 119537664 c d fun e f _ _=>Ay 119537665 (.row [.fv (.int .i64 0),.fv (.int .i64 0),.nils] false) (.ptr (.own 119537665) 0) f fun g b _ _=>Ad 3 e b fun h _=>Ai [] false false a 28 [h,.fv (.int .i64 2),.fv (.int .i64 1)] b fun i j _ _=>Ai [] false false a 29 [.fv (.int .i64 1)] j fun k l _ _=>AD (Al EE 28 1 [(0,k)]) 119538691 l fun m o _ _=>Alc a o m i g
theorem AmI (a:Aa) (n:Nat) (b:IV) (c:Hp):Ax EE a ft.get n 114 [b] c=Atz a n b c:=by kernel_rfl
def LD (b:Aa) (c:Hp) (d a e:IV) (f:List IV→Hp→OH) (g h:IV):OH :=
 Ai [] false false b 30 [.fv (.int .i64 12),d] c fun i j _ _=>Ae 3 a i j fun k _ _=>Bv EE 3 e (.fv (.int .i64 1)) fun l=>f [g,h,a,l] k
def LN (a:Hp) (b:IV):OH :=
 Ap true 3 b a fun c=>Am [c] a
def Lm (d:IV) (a:Hp) (b:IV) (e:Aa) (f:IV) (g:List IV→Hp→OH) (h c:IV):OH :=
 Aj d (Ad 3 b a fun i _=>AD (Al EE 28 1 [(0,i)]) 120591361 a fun j k _ _=>LD e k j b f g h c) (Ad 3 b a fun l _=>Ae 3 c l a fun m _ _=>LN m c)
def QN (c:List IV) (d:Hp) (e:Aa) (f:List IV→Hp→OH):OH :=
 AF c fun a g=>AF g fun h i=>AF i fun j k=>AF k fun b _=>GM EE 3 b a fun l=>Lm l d j e b f a h
def Wy (a:Aa) (n:Nat) (c:IV) (d:Hp):OH :=
 Ay 120586240 (.row [.fv (.int .i64 0),.fv (.int .i64 0),.nils] false) (.ptr (.own 120586240) 0) d fun e f _ _=>Ai [] false false a 30 [.fv (.int .i64 11),.nils] f fun g h _ _=>Ay 120587265 (.row [.fv (.int .i64 0),.fv (.int .i64 0),.nils] false) (.ptr (.own 120587265) 0) h fun b i _ _=>Ae 3 b g i fun j _ _=>Bh n (fun k l m=>QN l m a k) [c,e,b,.fv (.int .i64 0)] j
theorem Ani (a:Aa) (n:Nat) (b:IV) (c:Hp):Ax EE a ft.get n 115 [b] c=Wy a n b c:=by kernel_rfl
def Ih (g:IV) (a:Hp) (h:IV) (i:Hp) (b c d e:IV) (j:List IV→Hp→OH):OH :=
 Aj g (Am [.fv (.bool false)] a) (Bv EE 3 h (.fv (.int .i64 1)) fun f=>BB (i.own.map (·.1)) [121639939,121640964] [b,c,d,e,f] a fun k=>j [b,c,d,e,f] k)
def Iy (d:Hp) (b e f:IV) (g:Aa) (c h:IV) (i:Hp) (j k l:IV) (m:List IV→Hp→OH):OH :=
 Ae 3 b e d fun a _ _=>Ad 3 f a fun n _=>Ad 3 b a fun o _=>Om EE g c [n,o] a fun p q _ _=>CI (Ji .not p) fun r=>Ih r q h i j c k l m
def H8 (e:Hp) (f a b:IV) (g:Aa) (h:IV) (i:Hp) (j k:IV) (l:List IV→Hp→OH):OH :=
 Ay 121639939 (.row [.fv (.int .i64 0),.fv (.int .i64 0),.nils] false) (.ptr (.own 121639939) 0) e fun c m _ _=>Ae 3 c f m fun d _ _=>AP 3 a b fun n=>Ad 3 n d fun o _=>Ay 121640964 (.row [.fv (.int .i64 0),.fv (.int .i64 0),.nils] false) (.ptr (.own 121640964) 0) d fun p q _ _=>Iy q p o c g h b i a j k l
def Ip (a c d:IV) (b:Hp) (e:IV) (f:Aa) (g:IV) (h:Hp) (i:List IV→Hp→OH):OH :=
 GM EE 3 a c fun j=>Aj j (AP 3 d a fun k=>Ad 3 k b fun l _=>H8 b l e a f g h d c i) (Am [.fv (.bool true)] b)
def JN (a:List IV) (b:Hp) (c:Aa) (d:Hp) (e:List IV→Hp→OH):OH :=
 AF a fun f g=>AF g fun h i=>AF i fun j k=>AF k fun l m=>AF m fun n _=>Ip n l j b f c h d e
def IB (a:Hp) (b c d e:IV) (n:Nat) (f:Aa):OH :=
 BB (a.own.map (·.1)) [121639939,121640964] [b,c,d,e,.fv (.int .i64 0)] a fun g=>Bh n (fun h i j=>JN i j f a h) [b,c,d,e,.fv (.int .i64 0)] g
def RB (d:Aa) (n:Nat) (a b e:IV) (c:Hp):OH :=
 Bz a fun f=>Bz b fun g=>Cg EE 3 f g fun h=>Aj h (Am [.fv (.bool false)] c) (Bz a fun i=>IB c b e a i n d)
theorem AiC (a:Aa) (n:Nat) (b c d:IV) (e:Hp):Ax EE a ft.get n 116 [b,c,d] e=RB a n b c d e:=by kernel_rfl
def QC (b:IV) (a:Hp):OH :=
 AX b fun c=>Af 2 c fun d=>Ak d a fun e _=>AQ EE 3 e (.fv (.int .i64 0)) fun f=>Am [f] a
def Rx (a:Hp) (b:IV) (c:Hp→OH):OH :=
 B3 b (.fv (.int .i64 17)) a fun d _ _=>c d
def Qw (c d:IV) (a:Hp) (b:Hp→OH):OH :=
 K5 EE 3 c (.fv (.int .i64 1000)) fun e=>Aj e (AX d fun f=>Af 2 f fun g=>Rx a g b) (b a)
def PF (c:Hp) (d e a:IV):OH :=
 B3 d e c fun b _ _=>(fun (f:Hp→OH)=>AX a fun g=>Af 0 g fun h=>Ak h b fun i _=>Qw i a b f) fun j=>QC a j
def Afa (i:Aa) (n:Nat) (a:IV) (b:Hp):OH :=
 AX a fun c=>Af 0 c fun d=>Ak d b fun e _=>Bv EE 3 e (.fv (.int .i64 1)) fun f=>AX a fun g=>Af 0 g fun h=>PF b h f a
theorem AlG (a:Aa) (n:Nat) (b:IV) (c:Hp):Ax EE a ft.get n 117 [b] c=Afa a n b c:=by kernel_rfl
def Ik (a:Hp) (b c:IV):OH :=
 Ak b a fun d _=>AQ EE 3 d c fun e=>Am [e] a
def HD (a c:IV) (d:Aa) (e:Hp) (f g:IV) (h:List IV→Hp→OH) (i:IV):OH :=
 Bv EE 3 a c fun j=>Ai [] false false d 118 [f,j] e fun k b l m=>Ab [] l m (Aj k (Am [.fv (.bool true)] b) (Bv EE 3 g (.fv (.int .i64 1)) fun n=>h [a,i,n] b))
def Ib (a:IV) (b:Hp) (c d:AB) (e:Aa) (f g h:IV) (i:List IV→Hp→OH):OH :=
 Af 0 a fun j=>Ak j b fun k l=>Ab [(c,[]),(d,[])] l [] (Ai [] false false e 48 [k,f] b fun m n o p=>Ab [(c,[]),(d,[])] o p (HD g m e n h f i a))
def Ix (a:Hp) (e b f:IV) (g:Aa) (h:IV) (i:List IV→Hp→OH):OH :=
 Ak e a fun j c=>Ab [] c [] (AP 3 j b fun k=>Ad 3 k a fun l d=>Ab [] d [] (Ib f a d c g b h l i))
def H3 (d a b:IV) (c:Hp) (e:Aa) (f:IV) (g:List IV→Hp→OH):OH :=
 Bz d fun h=>GM EE 3 a h fun i=>Aj i (Af 2 b fun j=>Ix c j a b e f g) (Am [.fv (.bool false)] c)
def Ls (c:List IV) (a:Hp) (d:Aa) (e:List IV→Hp→OH):OH :=
 AF c fun f g=>AF g fun b h=>AF h fun i _=>Af 2 b fun j=>Ak j a fun k _=>H3 k i b a d f e
def RI (d:Aa) (n:Nat) (e c:IV) (f:Hp):OH :=
 AS 123731968 e f fun a b _ _=>Af 0 a fun g=>Ak g b fun h _=>AQ EE 3 h (.fv (.int .i64 1)) fun i=>Aj i (Af 1 a fun j=>Ik b j c) (Bh n (fun k l m=>Ls l m d k) [c,a,.fv (.int .i64 0)] b)
theorem Ais (a:Aa) (n:Nat) (b c:IV) (d:Hp):Ax EE a ft.get n 118 [b,c] d=RI a n b c d:=by kernel_rfl
end
noncomputable section
def dt:DT :=
 .node 69 (.node 44 (.node 21 (.node 15 (.node 12 (.node 11 (.leaf 3 (fun ih n=>Lc (S3 ih n)))
 (.leaf 11 (fun ih n=>OB (S11 ih n))))
 (.node 13 (.leaf 12 (fun ih n=>EP (S12 ih n)))
 (.node 14 (.leaf 13 (fun ih n=>EP (S13 ih n)))
 (.leaf 14 (fun ih n=>CN (S14 ih n))))))
 (.node 18 (.node 16 (.leaf 15 (fun ih n=>CN (S15 ih n)))
 (.node 17 (.leaf 16 (fun ih n=>Jh (S16 ih n)))
 (.leaf 17 (fun ih n=>CN (S17 ih n)))))
 (.node 19 (.leaf 18 (fun ih n=>CN (S18 ih n)))
 (.node 20 (.leaf 19 (fun ih n=>CN (S19 ih n)))
 (.leaf 20 (fun ih n=>EP (S20 ih n)))))))
 (.node 30 (.node 26 (.node 25 (.leaf 21 (fun ih n=>EP (S21 ih n)))
 (.leaf 25 (fun ih n=>EP (S25 ih n))))
 (.node 28 (.leaf 26 (fun ih n=>Jh (S26 ih n)))
 (.node 29 (.leaf 28 (fun ih n=>Jh (S28 ih n)))
 (.leaf 29 (fun ih n=>EP (S29 ih n))))))
 (.node 41 (.node 31 (.leaf 30 (fun ih n=>CN (S30 ih n)))
 (.node 40 (.leaf 31 (fun ih n=>EP (S31 ih n)))
 (.leaf 40 (fun ih n=>CN (S40 ih n)))))
 (.node 42 (.leaf 41 (fun ih n=>CN (S41 ih n)))
 (.node 43 (.leaf 42 (fun ih n=>CN (S42 ih n)))
 (.leaf 43 (fun ih n=>Lc (S43 ih n))))))))
 (.node 55 (.node 49 (.node 46 (.node 45 (.leaf 44 (fun ih n=>EP (S44 ih n)))
 (.leaf 45 (fun ih n=>CN (S45 ih n))))
 (.node 47 (.leaf 46 (fun ih n=>EP (S46 ih n)))
 (.node 48 (.leaf 47 (fun ih n=>CN (S47 ih n)))
 (.leaf 48 (fun ih n=>CN (S48 ih n))))))
 (.node 52 (.node 50 (.leaf 49 (fun ih n=>EP (S49 ih n)))
 (.node 51 (.leaf 50 (fun ih n=>CN (S50 ih n)))
 (.leaf 51 (fun ih n=>EP (S51 ih n)))))
 (.node 53 (.leaf 52 (fun ih n=>EP (S52 ih n)))
 (.node 54 (.leaf 53 (fun ih n=>CN (S53 ih n)))
 (.leaf 54 (fun ih n=>EP (S54 ih n)))))))
 (.node 61 (.node 58 (.node 56 (.leaf 55 (fun ih n=>CN (S55 ih n)))
 (.node 57 (.leaf 56 (fun ih n=>Jh (S56 ih n)))
 (.leaf 57 (fun ih n=>EP (S57 ih n)))))
 (.node 59 (.leaf 58 (fun ih n=>EP (S58 ih n)))
 (.node 60 (.leaf 59 (fun ih n=>CN (S59 ih n)))
 (.leaf 60 (fun ih n=>EP (S60 ih n))))))
 (.node 64 (.node 62 (.leaf 61 (fun ih n=>Lc (S61 ih n)))
 (.node 63 (.leaf 62 (fun ih n=>Lc (S62 ih n)))
 (.leaf 63 (fun ih n=>CN (S63 ih n)))))
 (.node 67 (.leaf 64 (fun ih n=>CN (S64 ih n)))
 (.node 68 (.leaf 67 (fun ih n=>EP (S67 ih n)))
 (.leaf 68 (fun ih n=>Lc (S68 ih n)))))))))
 (.node 96 (.node 80 (.node 74 (.node 71 (.node 70 (.leaf 69 (fun ih n=>Jh (S69 ih n)))
 (.leaf 70 (fun ih n=>Lc (S70 ih n))))
 (.node 72 (.leaf 71 (fun ih n=>Jh (S71 ih n)))
 (.node 73 (.leaf 72 (fun ih n=>CN (S72 ih n)))
 (.leaf 73 (fun ih n=>Jh (S73 ih n))))))
 (.node 77 (.node 75 (.leaf 74 (fun ih n=>CN (S74 ih n)))
 (.node 76 (.leaf 75 (fun ih n=>CN (S75 ih n)))
 (.leaf 76 (fun ih n=>CN (S76 ih n)))))
 (.node 78 (.leaf 77 (fun ih n=>Jh (S77 ih n)))
 (.node 79 (.leaf 78 (fun ih n=>CN (S78 ih n)))
 (.leaf 79 (fun ih n=>CN (S79 ih n)))))))
 (.node 86 (.node 83 (.node 81 (.leaf 80 (fun ih n=>CN (S80 ih n)))
 (.node 82 (.leaf 81 (fun ih n=>Lc (S81 ih n)))
 (.leaf 82 (fun ih n=>Jh (S82 ih n)))))
 (.node 84 (.leaf 83 (fun ih n=>Jh (S83 ih n)))
 (.node 85 (.leaf 84 (fun ih n=>Jh (S84 ih n)))
 (.leaf 85 (fun ih n=>Lc (S85 ih n))))))
 (.node 89 (.node 87 (.leaf 86 (fun ih n=>CN (S86 ih n)))
 (.node 88 (.leaf 87 (fun ih n=>CN (S87 ih n)))
 (.leaf 88 (fun ih n=>CN (S88 ih n)))))
 (.node 90 (.leaf 89 (fun ih n=>Jh (S89 ih n)))
 (.node 91 (.leaf 90 (fun ih n=>CN (S90 ih n)))
 (.leaf 91 (fun ih n=>CN (S91 ih n))))))))
 (.node 107 (.node 101 (.node 98 (.node 97 (.leaf 96 (fun ih n=>Jh (S96 ih n)))
 (.leaf 97 (fun ih n=>Lc (S97 ih n))))
 (.node 99 (.leaf 98 (fun ih n=>Lc (S98 ih n)))
 (.node 100 (.leaf 99 (fun ih n=>OB (S99 ih n)))
 (.leaf 100 (fun ih n=>Lc (S100 ih n))))))
 (.node 104 (.node 102 (.leaf 101 (fun ih n=>Lc (S101 ih n)))
 (.node 103 (.leaf 102 (fun ih n=>EP (AeC ih n)))
 (.leaf 103 (fun ih n=>CN (S103 ih n)))))
 (.node 105 (.leaf 104 (fun ih n=>CN (W4 ih n)))
 (.node 106 (.leaf 105 (fun ih n=>CN (Aez ih n)))
 (.leaf 106 (fun ih n=>EP (AgL ih n)))))))
 (.node 113 (.node 110 (.node 108 (.leaf 107 (fun ih n=>EP (Ahh ih n)))
 (.node 109 (.leaf 108 (fun ih n=>Jh (WT ih n)))
 (.leaf 109 (fun ih n=>CN (Ae5 ih n)))))
 (.node 111 (.leaf 110 (fun ih n=>CN (S110 ih n)))
 (.node 112 (.leaf 111 (fun ih n=>EP (At8 ih n)))
 (.leaf 112 (fun ih n=>EP (S112 ih n))))))
 (.node 116 (.node 114 (.leaf 113 (fun ih n=>Lc (S113 ih n)))
 (.node 115 (.leaf 114 (fun ih n=>EP (Atz ih n)))
 (.leaf 115 (fun ih n=>EP (Wy ih n)))))
 (.node 117 (.leaf 116 (fun ih n=>Jh (RB ih n)))
 (.node 118 (.leaf 117 (fun ih n=>EP (Afa ih n)))
 (.leaf 118 (fun ih n=>CN (RI ih n)))))))))
theorem As4:dt.Ok EE ft.get :=
 ⟨⟨⟨⟨⟨⟨(fun ih n _ _ _ e=>DK (F:=Ax EE ih ft.get n 3) (At1 ih n) e),
 (fun ih n _ _ _ e=>AhK (F:=Ax EE ih ft.get n 11) (ApS ih n) e)⟩,
 ⟨(fun ih n _ _ _ e=>BK (F:=Ax EE ih ft.get n 12) (AoU ih n) e),
 ⟨(fun ih n _ _ _ e=>BK (F:=Ax EE ih ft.get n 13) (Arv ih n) e),
 (fun ih n _ _ _ e=>A8 (F:=Ax EE ih ft.get n 14) (ArX ih n) e)⟩⟩⟩,
 ⟨⟨(fun ih n _ _ _ e=>A8 (F:=Ax EE ih ft.get n 15) (Ar4 ih n) e),
 ⟨(fun ih n _ _ _ e=>C6 (F:=Ax EE ih ft.get n 16) (Aqy ih n) e),
 (fun ih n _ _ _ e=>A8 (F:=Ax EE ih ft.get n 17) (ApE ih n) e)⟩⟩,
 ⟨(fun ih n _ _ _ e=>A8 (F:=Ax EE ih ft.get n 18) (Arj ih n) e),
 ⟨(fun ih n _ _ _ e=>A8 (F:=Ax EE ih ft.get n 19) (Aqw ih n) e),
 (fun ih n _ _ _ e=>BK (F:=Ax EE ih ft.get n 20) (Ap2 ih n) e)⟩⟩⟩⟩,
 ⟨⟨⟨(fun ih n _ _ _ e=>BK (F:=Ax EE ih ft.get n 21) (AoD ih n) e),
 (fun ih n _ _ _ e=>BK (F:=Ax EE ih ft.get n 25) (Ao1 ih n) e)⟩,
 ⟨(fun ih n _ _ _ e=>C6 (F:=Ax EE ih ft.get n 26) (Aqe ih n) e),
 ⟨(fun ih n _ _ _ e=>C6 (F:=Ax EE ih ft.get n 28) (AoT ih n) e),
 (fun ih n _ _ _ e=>BK (F:=Ax EE ih ft.get n 29) (Arx ih n) e)⟩⟩⟩,
 ⟨⟨(fun ih n _ _ _ e=>A8 (F:=Ax EE ih ft.get n 30) (ArW ih n) e),
 ⟨(fun ih n _ _ _ e=>BK (F:=Ax EE ih ft.get n 31) (Ar8 ih n) e),
 (fun ih n _ _ _ e=>A8 (F:=Ax EE ih ft.get n 40) (Aq6 ih n) e)⟩⟩,
 ⟨(fun ih n _ _ _ e=>A8 (F:=Ax EE ih ft.get n 41) (ArQ ih n) e),
 ⟨(fun ih n _ _ _ e=>A8 (F:=Ax EE ih ft.get n 42) (Arh ih n) e),
 (fun ih n _ _ _ e=>DK (F:=Ax EE ih ft.get n 43) (AqE ih n) e)⟩⟩⟩⟩⟩,
 ⟨⟨⟨⟨(fun ih n _ _ _ e=>BK (F:=Ax EE ih ft.get n 44) (Aqu ih n) e),
 (fun ih n _ _ _ e=>A8 (F:=Ax EE ih ft.get n 45) (ArP ih n) e)⟩,
 ⟨(fun ih n _ _ _ e=>BK (F:=Ax EE ih ft.get n 46) (Ar3 ih n) e),
 ⟨(fun ih n _ _ _ e=>A8 (F:=Ax EE ih ft.get n 47) (Ao3 ih n) e),
 (fun ih n _ _ _ e=>A8 (F:=Ax EE ih ft.get n 48) (Ap3 ih n) e)⟩⟩⟩,
 ⟨⟨(fun ih n _ _ _ e=>BK (F:=Ax EE ih ft.get n 49) (ApY ih n) e),
 ⟨(fun ih n _ _ _ e=>A8 (F:=Ax EE ih ft.get n 50) (Aox ih n) e),
 (fun ih n _ _ _ e=>BK (F:=Ax EE ih ft.get n 51) (AoR ih n) e)⟩⟩,
 ⟨(fun ih n _ _ _ e=>BK (F:=Ax EE ih ft.get n 52) (Apz ih n) e),
 ⟨(fun ih n _ _ _ e=>A8 (F:=Ax EE ih ft.get n 53) (Apo ih n) e),
 (fun ih n _ _ _ e=>BK (F:=Ax EE ih ft.get n 54) (AqZ ih n) e)⟩⟩⟩⟩,
 ⟨⟨⟨(fun ih n _ _ _ e=>A8 (F:=Ax EE ih ft.get n 55) (AoV ih n) e),
 ⟨(fun ih n _ _ _ e=>C6 (F:=Ax EE ih ft.get n 56) (Apv ih n) e),
 (fun ih n _ _ _ e=>BK (F:=Ax EE ih ft.get n 57) (Aqc ih n) e)⟩⟩,
 ⟨(fun ih n _ _ _ e=>BK (F:=Ax EE ih ft.get n 58) (ApZ ih n) e),
 ⟨(fun ih n _ _ _ e=>A8 (F:=Ax EE ih ft.get n 59) (Aqo ih n) e),
 (fun ih n _ _ _ e=>BK (F:=Ax EE ih ft.get n 60) (Apx ih n) e)⟩⟩⟩,
 ⟨⟨(fun ih n _ _ _ e=>DK (F:=Ax EE ih ft.get n 61) (Aoy ih n) e),
 ⟨(fun ih n _ _ _ e=>DK (F:=Ax EE ih ft.get n 62) (Aqz ih n) e),
 (fun ih n _ _ _ e=>A8 (F:=Ax EE ih ft.get n 63) (Apb ih n) e)⟩⟩,
 ⟨(fun ih n _ _ _ e=>A8 (F:=Ax EE ih ft.get n 64) (Apc ih n) e),
 ⟨(fun ih n _ _ _ e=>BK (F:=Ax EE ih ft.get n 67) (ApM ih n) e),
 (fun ih n _ _ _ e=>DK (F:=Ax EE ih ft.get n 68) (AoI ih n) e)⟩⟩⟩⟩⟩⟩,
 ⟨⟨⟨⟨⟨(fun ih n _ _ _ e=>C6 (F:=Ax EE ih ft.get n 69) (AqD ih n) e),
 (fun ih n _ _ _ e=>DK (F:=Ax EE ih ft.get n 70) (AqH ih n) e)⟩,
 ⟨(fun ih n _ _ _ e=>C6 (F:=Ax EE ih ft.get n 71) (Aqp ih n) e),
 ⟨(fun ih n _ _ _ e=>A8 (F:=Ax EE ih ft.get n 72) (Apa ih n) e),
 (fun ih n _ _ _ e=>C6 (F:=Ax EE ih ft.get n 73) (ArF ih n) e)⟩⟩⟩,
 ⟨⟨(fun ih n _ _ _ e=>A8 (F:=Ax EE ih ft.get n 74) (AqA ih n) e),
 ⟨(fun ih n _ _ _ e=>A8 (F:=Ax EE ih ft.get n 75) (AqS ih n) e),
 (fun ih n _ _ _ e=>A8 (F:=Ax EE ih ft.get n 76) (Ap5 ih n) e)⟩⟩,
 ⟨(fun ih n _ _ _ e=>C6 (F:=Ax EE ih ft.get n 77) (Aqh ih n) e),
 ⟨(fun ih n _ _ _ e=>A8 (F:=Ax EE ih ft.get n 78) (Aqq ih n) e),
 (fun ih n _ _ _ e=>A8 (F:=Ax EE ih ft.get n 79) (Ao6 ih n) e)⟩⟩⟩⟩,
 ⟨⟨⟨(fun ih n _ _ _ e=>A8 (F:=Ax EE ih ft.get n 80) (Ar6 ih n) e),
 ⟨(fun ih n _ _ _ e=>DK (F:=Ax EE ih ft.get n 81) (Aqi ih n) e),
 (fun ih n _ _ _ e=>C6 (F:=Ax EE ih ft.get n 82) (Ap7 ih n) e)⟩⟩,
 ⟨(fun ih n _ _ _ e=>C6 (F:=Ax EE ih ft.get n 83) (ArH ih n) e),
 ⟨(fun ih n _ _ _ e=>C6 (F:=Ax EE ih ft.get n 84) (AoE ih n) e),
 (fun ih n _ _ _ e=>DK (F:=Ax EE ih ft.get n 85) (ArB ih n) e)⟩⟩⟩,
 ⟨⟨(fun ih n _ _ _ e=>A8 (F:=Ax EE ih ft.get n 86) (Aql ih n) e),
 ⟨(fun ih n _ _ _ e=>A8 (F:=Ax EE ih ft.get n 87) (AqI ih n) e),
 (fun ih n _ _ _ e=>A8 (F:=Ax EE ih ft.get n 88) (Arb ih n) e)⟩⟩,
 ⟨(fun ih n _ _ _ e=>C6 (F:=Ax EE ih ft.get n 89) (AoB ih n) e),
 ⟨(fun ih n _ _ _ e=>A8 (F:=Ax EE ih ft.get n 90) (AoJ ih n) e),
 (fun ih n _ _ _ e=>A8 (F:=Ax EE ih ft.get n 91) (Apt ih n) e)⟩⟩⟩⟩⟩,
 ⟨⟨⟨⟨(fun ih n _ _ _ e=>C6 (F:=Ax EE ih ft.get n 96) (Aq8 ih n) e),
 (fun ih n _ _ _ e=>DK (F:=Ax EE ih ft.get n 97) (Art ih n) e)⟩,
 ⟨(fun ih n _ _ _ e=>DK (F:=Ax EE ih ft.get n 98) (ApL ih n) e),
 ⟨(fun ih n _ _ _ e=>AhK (F:=Ax EE ih ft.get n 99) (Apk ih n) e),
 (fun ih n _ _ _ e=>DK (F:=Ax EE ih ft.get n 100) (AiP ih n) e)⟩⟩⟩,
 ⟨⟨(fun ih n _ _ _ e=>DK (F:=Ax EE ih ft.get n 101) (AnK ih n) e),
 ⟨(fun ih n _ _ _ e=>BK (F:=Ax EE ih ft.get n 102) (Akq ih n) e),
 (fun ih n _ _ _ e=>A8 (F:=Ax EE ih ft.get n 103) (AmA ih n) e)⟩⟩,
 ⟨(fun ih n _ _ _ e=>A8 (F:=Ax EE ih ft.get n 104) (Aip ih n) e),
 ⟨(fun ih n _ _ _ e=>A8 (F:=Ax EE ih ft.get n 105) (Ant ih n) e),
 (fun ih n _ _ _ e=>BK (F:=Ax EE ih ft.get n 106) (Ako ih n) e)⟩⟩⟩⟩,
 ⟨⟨⟨(fun ih n _ _ _ e=>BK (F:=Ax EE ih ft.get n 107) (Akk ih n) e),
 ⟨(fun ih n _ _ _ e=>C6 (F:=Ax EE ih ft.get n 108) (AiK ih n) e),
 (fun ih n _ _ _ e=>A8 (F:=Ax EE ih ft.get n 109) (Al0 ih n) e)⟩⟩,
 ⟨(fun ih n _ _ _ e=>A8 (F:=Ax EE ih ft.get n 110) (AlT ih n) e),
 ⟨(fun ih n _ _ _ e=>BK (F:=Ax EE ih ft.get n 111) (Ame ih n) e),
 (fun ih n _ _ _ e=>BK (F:=Ax EE ih ft.get n 112) (AiH ih n) e)⟩⟩⟩,
 ⟨⟨(fun ih n _ _ _ e=>DK (F:=Ax EE ih ft.get n 113) (AmM ih n) e),
 ⟨(fun ih n _ _ _ e=>BK (F:=Ax EE ih ft.get n 114) (AmI ih n) e),
 (fun ih n _ _ _ e=>BK (F:=Ax EE ih ft.get n 115) (Ani ih n) e)⟩⟩,
 ⟨(fun ih n _ _ _ e=>C6 (F:=Ax EE ih ft.get n 116) (AiC ih n) e),
 ⟨(fun ih n _ _ _ e=>BK (F:=Ax EE ih ft.get n 117) (AlG ih n) e),
 (fun ih n _ _ _ e=>A8 (F:=Ax EE ih ft.get n 118) (Ais ih n) e)⟩⟩⟩⟩⟩⟩⟩
theorem Ao7:∀n f args h x,SS dt n f args h=some x→run EE n f args h=some x:=AtU Auz As4
end
end Idl
end Go.Proofs.Ytdibmackcbpniaa

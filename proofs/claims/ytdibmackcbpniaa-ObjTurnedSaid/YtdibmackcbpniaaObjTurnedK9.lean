/-
  Texts of a proof, part 9: an ideal semantics of the program, its functions in shallow form, contracts of them. No statement of the seat is proved here.
-/
import Derived.Test.YtdibmackcbpniaaObjTurnedK8
set_option linter.all false
set_option maxRecDepth 20000
set_option maxHeartbeats 16000000
noncomputable section
set_option maxRecDepth 100000
set_option linter.unusedVariables false
namespace Go.Proofs.Ytdibmackcbpniaa
namespace Idl
noncomputable section
def AiP (a:V) (d:H) (b:V):O :=
 Aq 0 a fun e=>Aq 1 a fun f=>Ad 3 b e d fun c _ _=>Ap true 3 b c fun g=>Ao [g,f] c
def Ai2 (d:Aa) (e:H) (f a:V):O :=
 Ai [] false false d 111 [f] e fun b g _ _=>Aq 0 b fun h=>Aq 1 b fun i=>Ad 3 a h g fun c _ _=>Ap true 3 a c fun j=>Ao [j,i] c
def AjY (e f:AA) (b:V) (c:Aa) (a:H) (d g:V):O :=
 Ab [] e f (Ck EE 3 b (.fv (.int .i64 0)) fun h=>Aj h (Ai [] false false c 57 [b] a fun i j _ _=>AiP i j d) (Ae 3 g a fun k _=>Ai2 c a k d))
def Akw (a:V) (c:H) (d e f g h i:AA) (j:Aa) (k:V):O :=
 Aq 0 a fun l=>Aq 1 a fun m=>Ay 87032840 (.row [.fv (.int .i64 0),.fv (.int .i64 0),.nils] false) (.ptr (.own 87032840) 0) c fun b n o p=>Ab [(d,e),(f,[]),(g,h),(i,[])] o p (Ad 3 b l n fun q r s=>AjY r s m j q k b)
def AjW (a b:AA) (c:H) (i:V) (d:AA) (e:Aa) (j k:V):O :=
 Ab [] a b (Ae 3 i c fun l f=>Ab [(a,b),(d,[])] f [] (Ai [] false false e 26 [j,.fv (.int .i64 0),l] c fun m n g h=>Ab [] g h (Akw m n g h f a b d e k)))
def S83 (a:Aa) (n:Nat) (d e f:V) (g:H):O :=
 AR 87031808 e g fun h i _ _=>AR 87031809 f i fun j k _ _=>Ay 87031810 (.row [.fv (.int .i64 0),.fv (.int .i64 0),.nils] false) (.ptr (.own 87031810) 0) k fun l b _ _=>Ae 3 h b fun m c=>Ab [] c [] (Ai [] false false a 84 [d,.fv (.int .i64 0),m] b fun o p q r=>AjW q r p j c a o l)
theorem AsP (a:Aa) (n:Nat) (b c d:V) (e:H):Ax EE a ft.get n 83 [b,c,d] e=S83 a n b c d e:=by kernel_rfl
def WI (a b:AA) (c:H) (d:V):O :=
 Ab [] a b (Ao [d] c)
def WK (e a b c d:AA) (f g:V) (h:H) (i:V):O :=
 Ab [(a,b),(c,d)] e [] (BJ [.fv (.int .i64 0),.fv (.int .i64 0),.fv (.int .i64 0),.nils] [(0,1,f),(1,3,g)] fun j=>AE (An EE 71 1 [(0,j)]) 88081414 h fun k l m n=>Ab [(a,b),(c,d)] m n (AE (AJ EE 88081415 false .append [71,71] [i,k]) 88081415 l fun o p q r=>WI q r p o))
def S84 (r:Aa) (n:Nat) (f g h:V) (i:H):O :=
 AR 88080384 h i fun j k _ _=>AE (An EE 71 0 []) 88081408 k fun l m a b=>Ab [] a b (AE (AJ EE 88081410 false .append [71,71] [l,f]) 88081410 m fun o c d e=>Ab [] d e (Ae 3 j c fun p q=>WK q d e a b g p c o))
theorem ArI (a:Aa) (n:Nat) (b c d:V) (e:H):Ax EE a ft.get n 84 [b,c,d] e=S84 a n b c d e:=by kernel_rfl
def Aj2 (c:V) (d:H) (a e:V):O :=
 Aq 1 c fun f=>Ad 3 a e d fun b _ _=>Ap true 3 a b fun g=>Ao [g,f] b
def Aii (a:H) (b:V):O :=
 Ap true 3 b a fun c=>Ao [c,.fv (.int .i64 0)] a
def Ai3 (c:V) (e:Aa) (a:H) (b f:V):O :=
 Ck EE 3 c (.fv (.int .i64 0)) fun g=>Aj g (Ai [] false false e 57 [c] a fun d h _ _=>Aq 0 d fun i=>Aj2 d h b i) (Ae 3 f a fun j _=>Ad 3 b j a fun k _ _=>Aii k b)
def Alf (b:H) (a g h:V) (c:V->H->O) (i:V):O :=
 Ac a true b (fun j=>Ak g b fun k l=>j k b l []) fun m d _ _=>Ac a true d (fun n=>n h d [] []) fun o e _ _=>Ac a true e (fun p=>Ck EE 3 m o fun q=>p q e [] []) fun r f _ _=>AI a r (.fv (.bool false)) fun s=>Aj s (c (.fv (.int .i64 12)) f) (c i f)
def Ain (e:H) (f:V) (g:Aa) (h b i:V):O :=
 Ay 89129991 (.row [.fv (.int .i64 0),.fv (.int .i64 0),.nils] false) (.ptr (.own 89129991) 0) e fun a j _ _=>Ad 3 a f j fun c _ _=>(fun (k:V->H->O)=>AO EE 3 b (.fv (.int .i64 0)) fun d=>Ac d true c (fun l=>Af 0 a fun m=>l m c [] []) fun n o _ _=>Alf o d n i k b) fun p q=>Ai3 p g q h a
def S85 (a:Aa) (n:Nat) (d e f g:V) (h:H):O :=
 AR 89128960 f h fun i j _ _=>Ay 89128961 (.row [.fv (.int .i64 0),.fv (.int .i64 0),.nils] false) (.ptr (.own 89128961) 0) j fun k b _ _=>Ae 3 i b fun l _=>Ai [] false false a 26 [d,e,l] b fun c m _ _=>Aq 0 c fun o=>Aq 1 c fun p=>Ain m o a k p g
theorem AqB (a:Aa) (n:Nat) (b c d e:V) (f:H):Ax EE a ft.get n 85 [b,c,d,e] f=S85 a n b c d e f:=by kernel_rfl
def Af0 (c:V) (d:H) (a e:V):O :=
 Aq 1 c fun f=>Ad 3 a e d fun b _ _=>Ap true 3 a b fun g=>Ao [g,f] b
def Z1 (d:V) (a:H) (b:V):O :=
 AP 3 d (.fv (.int .i64 1)) fun e=>Ae 3 e a fun f _=>Ad 3 b f a fun c _ _=>Ap true 3 b c fun g=>Ao [g,.fv (.int .i64 0)] c
def Acm (b:V) (e:Aa) (a:H) (c f:V):O :=
 Ck EE 3 b (.fv (.int .i64 0)) fun g=>Aj g (Ai [] false false e 57 [b] a fun d h _ _=>Aq 0 d fun i=>Af0 d h c i) (Af 2 f fun j=>Ak j a fun k _=>Z1 k a c)
def Aai (b:V) (a:H) (c:AA) (d:Aa) (e f:V) (g:V->H->O):O :=
 AP 3 b (.fv (.int .i64 0)) fun h=>Ae 3 h a fun i j=>Ab [(c,[])] j [] (Ai [] false false d 61 [e,.fv (.int .i64 0),f,i] a fun k l m n=>Ab [] m n (g k l))
def ZF (a:H) (c d:V) (e:Aa) (f:V) (g:V->H->O):O :=
 Ae 3 c a fun h b=>Ab [] b [] (Af 2 d fun i=>Ak i a fun j k=>Ab [(b,[])] k [] (Aai j a b e f h g))
def ZB (a:Aa) (f b c g:V) (d:H) (h:V):O :=
 (fun (e:V->H->O)=>AO EE 3 c (.fv (.int .i64 0)) fun i=>Aj i (AP 3 g (.fv (.int .i64 1)) fun j=>ZF d j b a h e) (e c d)) fun k l=>Acm k a l f b
def AcX (a:Aa) (e:H) (b f g h:V):O :=
 Ai [] false false a 85 [b,.fv (.int .i64 0),f,.fv (.int .i64 16)] e fun c i _ _=>Aq 0 c fun j=>Aq 1 c fun k=>Ay 90181640 (.row [.fv (.int .i64 0),.fv (.int .i64 0),.nils] false) (.ptr (.own 90181640) 0) i fun d l _ _=>Ad 3 d j l fun m _ _=>ZB a g d k h m b
def Af7 (a:V) (d:H) (b:V):O :=
 Aq 0 a fun e=>Aq 1 a fun f=>Ad 3 b e d fun c _ _=>Ap true 3 b c fun g=>Ao [g,f] c
def Aeo (a:V) (d:H) (b:V):O :=
 Aq 0 a fun e=>Aq 1 a fun f=>Ad 3 b e d fun c _ _=>Ap true 3 b c fun g=>Ao [g,f] c
def Ym (c:V) (d:H) (a e:V):O :=
 Aq 1 c fun f=>Ad 3 a e d fun b _ _=>Ap true 3 a b fun g=>Ao [g,f] b
def Ac9 (a:H) (d e:V) (b:Aa) (f:V):O :=
 Ae 3 d a fun g _=>AE (An EE 28 2 [(0,e),(1,g)]) 90194946 a fun h i _ _=>Ai [] false false b 30 [.fv (.int .i64 17),h] i fun j k _ _=>Ai [] false false b 58 [j] k fun c l _ _=>Aq 0 c fun m=>Ym c l f m
def AdO (f:H) (b g c:V) (d:Aa) (e h:V):O :=
 Ad 3 b g f fun a _ _=>Ck EE 3 c (.fv (.int .i64 0)) fun i=>Aj i (Ai [] false false d 57 [c] a fun j k _ _=>Aeo j k e) (Ae 3 h a fun l _=>Ac9 a b l d e)
def Aa0 (a:H) (d:V) (b:Aa) (e f g:V):O :=
 Ae 3 d a fun h _=>Ai [] false false b 26 [e,.fv (.int .i64 0),h] a fun c i _ _=>Aq 0 c fun j=>Aq 1 c fun k=>Ay 90191880 (.row [.fv (.int .i64 0),.fv (.int .i64 0),.nils] false) (.ptr (.own 90191880) 0) i fun l m _ _=>AdO m l j k b f g
def Aee (f:H) (g a:V) (b:Aa) (c h i:V):O :=
 Ay 90188808 (.row [.fv (.int .i64 0),.fv (.int .i64 0),.nils] false) (.ptr (.own 90188808) 0) f fun d j _ _=>Ad 3 d g j fun e _ _=>Ck EE 3 a (.fv (.int .i64 0)) fun k=>Aj k (Ai [] false false b 57 [a] e fun l m _ _=>Af7 l m c) (AP 3 h (.fv (.int .i64 1)) fun n=>Aa0 e n b i c d)
def AeT (a:V) (b:H) (c:Aa) (d f:V):O :=
 AP 3 a (.fv (.int .i64 0)) fun g=>Ae 3 g b fun h _=>Ai [] false false c 26 [d,.fv (.int .i64 0),h] b fun e i _ _=>Aq 0 e fun j=>Aq 1 e fun k=>Aee i j k c f a d
def ZN (c:V) (d:H) (a e:V):O :=
 Aq 1 c fun f=>Ad 3 a e d fun b _ _=>Ap true 3 a b fun g=>Ao [g,f] b
def ZV (c:V) (d:H) (a e:V):O :=
 Aq 1 c fun f=>Ad 3 a e d fun b _ _=>Ap true 3 a b fun g=>Ao [g,f] b
def Ze (a:H) (b:V):O :=
 Ap true 3 b a fun c=>Ao [c,.fv (.int .i64 0)] a
def AaU (c:V) (e:Aa) (a:H) (b f:V):O :=
 Ck EE 3 c (.fv (.int .i64 0)) fun g=>Aj g (Ai [] false false e 57 [c] a fun d h _ _=>Aq 0 d fun i=>ZV d h b i) (Ae 3 f a fun j _=>Ad 3 b j a fun k _ _=>Ze k b)
def Aeg (a b:AA) (c:V->H->O) (d:H) (e:V):O :=
 Ab [] a b (c e d)
def Aer (a:H) (c d:V) (e:Aa) (f:V) (g:V->H->O):O :=
 Ae 3 c a fun h b=>Ab [] b [] (Ae 3 d a fun i j=>Ab [(b,[])] j [] (Ai [] false false e 61 [f,.fv (.int .i64 0),h,i] a fun k l m n=>Aeg m n g l k))
def Afm (a:Aa) (f b c g:V) (d:H) (h:V):O :=
 (fun (e:V->H->O)=>AO EE 3 c (.fv (.int .i64 0)) fun i=>Aj i (AP 3 g (.fv (.int .i64 2)) fun j=>Aer d j b a h e) (e c d)) fun k l=>AaU k a l f b
def Yn (a:Aa) (e:H) (b f g h:V):O :=
 Ai [] false false a 26 [b,.fv (.int .i64 0),f] e fun c i _ _=>Aq 0 c fun j=>Aq 1 c fun k=>Ay 90200072 (.row [.fv (.int .i64 0),.fv (.int .i64 0),.nils] false) (.ptr (.own 90200072) 0) i fun d l _ _=>Ad 3 d j l fun m _ _=>Afm a g d k h m b
def AeJ (b:V) (c:Aa) (a:H) (d e g:V):O :=
 Ck EE 3 b (.fv (.int .i64 0)) fun h=>Aj h (Ai [] false false c 57 [b] a fun f i _ _=>Aq 0 f fun j=>ZN f i d j) (AP 3 e (.fv (.int .i64 1)) fun k=>Ae 3 k a fun l _=>Yn c a g l d e)
def Acw (b:AA) (a:Aa) (d:H) (c e f g:V):O :=
 Ab [] b [] (Ai [] false false a 30 [.fv (.int .i64 15),.nils] d fun h i j k=>Ab [(b,[])] j k (Ai [] false false a 61 [c,.fv (.int .i64 0),e,h] i fun l m n o=>Ab [] n o (AeJ l a m f g c)))
def Acj (c:V) (d:H) (a e:V):O :=
 Aq 1 c fun f=>Ad 3 a e d fun b _ _=>Ap true 3 a b fun g=>Ao [g,f] b
def Afj (c:H) (a d:V):O :=
 Ad 3 a d c fun b _ _=>Ap true 3 a b fun e=>Ao [e,.fv (.int .i64 0)] b
def AbD (b:V) (a:H) (c d:V):O :=
 Af 0 b fun e=>Ak e a fun f _=>Bd EE 3 f (.fv (.int .i64 23)) fun g=>AP 3 c g fun h=>Ae 3 h a fun i _=>Afj a d i
def Af5 (b:V) (e:Aa) (a:H) (c f g:V):O :=
 Ck EE 3 b (.fv (.int .i64 0)) fun h=>Aj h (Ai [] false false e 57 [b] a fun d i _ _=>Aq 0 d fun j=>Acj d i c j) (Af 2 f fun k=>Ak k a fun l _=>AbD g a l c)
def AeS (a:Aa) (d:H) (e f g h:V):O :=
 Ai [] false false a 85 [e,.fv (.int .i64 0),f,.fv (.int .i64 17)] d fun b i _ _=>Aq 0 b fun j=>Aq 1 b fun k=>Ay 90206216 (.row [.fv (.int .i64 0),.fv (.int .i64 0),.nils] false) (.ptr (.own 90206216) 0) i fun c l _ _=>Ad 3 c j l fun m _ _=>Af5 k a m g c h
def Ade (f b:V) (a:H) (c:Aa) (d e g:V):O :=
 AO EE 3 f (.fv (.int .i64 27)) fun h=>Aj h (AP 3 b (.fv (.int .i64 0)) fun i=>Ae 3 i a fun j k=>Acw k c a d j e b) (AP 3 b (.fv (.int .i64 0)) fun l=>Ae 3 l a fun m _=>AeS c a d m e g)
def AeV (c a:V) (b:H) (d:Aa) (e f g:V):O :=
 AO EE 3 c (.fv (.int .i64 21)) fun h=>Aj h (AP 3 a (.fv (.int .i64 0)) fun i=>Ae 3 i b fun j _=>AcX d b e j f a) (AO EE 3 c (.fv (.int .i64 22)) fun k=>Aj k (AeT a b d e f) (Ade c a b d e f g))
def S86 (c:Aa) (n:Nat) (d e:V) (f:H):O :=
 AR 90177536 e f fun a g _ _=>Ay 90177537 (.row [.fv (.int .i64 0),.fv (.int .i64 0),.nils] false) (.ptr (.own 90177537) 0) g fun h b _ _=>Af 2 a fun i=>Ak i b fun j _=>Af 0 a fun k=>Ak k b fun l _=>AeV l j b c d h a
theorem Aq2 (a:Aa) (n:Nat) (b c:V) (d:H):Ax EE a ft.get n 86 [b,c] d=S86 a n b c d:=by kernel_rfl
def AjO (a b:AA) (c:Aa) (d:H) (e f:V):O :=
 Ab [] a b (Ai [] false false c 18 [e,f] d fun g h i j=>Ab [] i j (Ao [g,.fv (.int .i64 0)] h))
def Ajf (a:Aa) (e:H) (f g:V) (h:AA):O :=
 Ai [] false false a 112 [f] e fun i b c d=>Ab [] c d (Ae 3 g b fun j k=>Ab [(c,d),(h,[])] k [] (Ai [] false false a 112 [j] b fun l m n o=>AjO n o a m i l))
def Aky (b:V) (a:H) (d:V) (e:Aa) (f:V):O :=
 Ck EE 3 b (.fv (.int .i64 0)) fun g=>Aj g (Ao [.fv (.bool false),b] a) (Ae 3 d a fun h c=>Ab [] c [] (Ajf e a h f c))
def Ak8 (a:Aa) (d:H) (e f:V):O :=
 Ai [] false false a 58 [e] d fun b g _ _=>Aq 0 b fun h=>Aq 1 b fun i=>Ay 91230213 (.row [.fv (.int .i64 0),.fv (.int .i64 0),.nils] false) (.ptr (.own 91230213) 0) g fun c j _ _=>Ad 3 c h j fun k _ _=>Aky i k f a c
def Aia (d:H) (e b f:V) (g:Aa):O :=
 Ay 91227141 (.row [.fv (.int .i64 0),.fv (.int .i64 0),.nils] false) (.ptr (.own 91227141) 0) d fun c h _ _=>Ad 3 c e h fun a _ _=>Ck EE 3 b (.fv (.int .i64 0)) fun i=>Aj i (Ao [.fv (.bool false),b] a) (Ae 3 f a fun j _=>Ak8 g a j c)
def S87 (a:Aa) (n:Nat) (d e:V) (f:H):O :=
 AR 91226112 d f fun g h _ _=>AR 91226113 e h fun i b _ _=>Ae 3 g b fun j _=>Ai [] false false a 58 [j] b fun c k _ _=>Aq 0 c fun l=>Aq 1 c fun m=>Aia k l m i a
theorem ArW (a:Aa) (n:Nat) (b c:V) (d:H):Ax EE a ft.get n 87 [b,c] d=S87 a n b c d:=by kernel_rfl
def Arl (a:H) (b:V):O :=
 Ak b a fun c _=>Ao [c,.fv (.int .i64 0)] a
def Aq4 (a:H) (b c:V):O :=
 Ak b a fun d _=>Ck EE 3 d (.fv (.int .i64 2)) fun e=>Aj e (Ao [.fv (.int .i64 0),.fv (.int .i64 12)] a) (Af 1 c fun f=>Arl a f)
def Asd (d:H) (a e b:V):O :=
 Ad 3 a e d fun c _ _=>Ck EE 3 b (.fv (.int .i64 0)) fun f=>Aj f (Ao [.fv (.int .i64 0),b] c) (Af 0 a fun g=>Aq4 c g a)
def S88 (c:Aa) (n:Nat) (d e:V) (f:H):O :=
 AR 92274688 e f fun g a _ _=>Ae 3 g a fun h _=>Ai [] false false c 26 [d,.fv (.int .i64 1),h] a fun b i _ _=>Aq 0 b fun j=>Aq 1 b fun k=>Ay 92275718 (.row [.fv (.int .i64 0),.fv (.int .i64 0),.nils] false) (.ptr (.own 92275718) 0) i fun l m _ _=>Asd m l j k
theorem Aqg (a:Aa) (n:Nat) (b c:V) (d:H):Ax EE a ft.get n 88 [b,c] d=S88 a n b c d:=by kernel_rfl
def Akl (c:H) (a d:V):O :=
 Ad 3 a d c fun b _ _=>Ap true 3 a b fun e=>Ao [e] b
def S89 (b:Aa) (n:Nat) (c d e:V) (f:H):O :=
 AR 93323264 c f fun g h _ _=>AR 93323265 e h fun i j _ _=>Ay 93323266 (.row [.fv (.int .i64 0),.fv (.int .i64 0),.nils] false) (.ptr (.own 93323266) 0) j fun k a _ _=>Ae 3 g a fun l _=>Ae 3 i a fun m _=>Ai [] false false b 113 [l,d,.fv (.int .i64 0),m] a fun o p _ _=>Akl p k o
theorem ArS (a:Aa) (n:Nat) (b c d:V) (e:H):Ax EE a ft.get n 89 [b,c,d] e=S89 a n b c d e:=by kernel_rfl
def Al3 (d:Aa) (e:H) (f a:V):O :=
 Ai [] false false d 57 [f] e fun b g _ _=>Aq 0 b fun h=>Aq 1 b fun i=>Ad 3 a h g fun c _ _=>Ap true 3 a c fun j=>Ao [j,i] c
def AnZ (c:V) (d:H) (a e:V):O :=
 Aq 1 c fun f=>Ad 3 a e d fun b _ _=>Ap true 3 a b fun g=>Ao [g,f] b
def Aod (c:V) (d:H) (a e:V):O :=
 Aq 1 c fun f=>Ad 3 a e d fun b _ _=>Ap true 3 a b fun g=>Ao [g,f] b
def Alu (a:H) (b:V):O :=
 Ap true 3 b a fun c=>Ao [c,.fv (.int .i64 0)] a
def AmM (c:V) (e:Aa) (a:H) (b f:V):O :=
 Ck EE 3 c (.fv (.int .i64 0)) fun g=>Aj g (Ai [] false false e 57 [c] a fun d h _ _=>Aq 0 d fun i=>Aod d h b i) (Ae 3 f a fun j _=>Ad 3 b j a fun k _ _=>Alu k b)
def Anq (a:Aa) (b:H) (c d e:V) (f:V->H->O):O :=
 Ai [] false false a 61 [c,.fv (.int .i64 1),d,e] b fun g h i j=>Ab [] i j (f g h)
def Am8 (e:V) (a:H) (f g b c:AA) (d:Aa) (h i j:V) (k:V->H->O):O :=
 AP 3 e (.fv (.int .i64 1)) fun l=>Ae 3 l a fun m n=>Ab [(f,[]),(g,[]),(b,[]),(c,[])] n [] (Ai [] false false d 89 [h,.fv (.int .i64 0),m] a fun o p q r=>Ab [(b,[]),(c,[])] q r (Anq d p i j o k))
def Ao5 (a:H) (f:V) (b c:AA) (g:V) (e:AA) (h:Aa) (i j:V) (k:V->H->O):O :=
 Ae 3 f a fun l d=>Ab [(b,[]),(c,[])] d [] (Af 2 g fun m=>Ak m a fun n o=>Ab [(d,[]),(e,[]),(b,[]),(c,[])] o [] (Am8 n a d e b c h l i j k))
def Ao8 (a:AA) (e:V) (b:H) (c:AA) (f:V) (g:Aa) (h i:V) (j:V->H->O):O :=
 Ab [] a [] (Af 2 e fun k=>Ak k b fun l d=>Ab [(a,[]),(c,[])] d [] (AP 3 l (.fv (.int .i64 1)) fun m=>Ao5 b m a c f d g h i j))
def Al8 (b:V) (a:H) (d:V) (e:Aa) (f:V) (g:V->H->O):O :=
 Af 2 b fun h=>Ak h a fun i c=>Ab [] c [] (AP 3 i (.fv (.int .i64 2)) fun j=>Ae 3 j a fun k l=>Ao8 l d a c b e f k g)
def AmH (a:Aa) (g:H) (b h i j c k:V):O :=
 Ai [] false false a 61 [b,.fv (.int .i64 1),h,i] g fun d e l m=>Ab [] l m ((fun (f:V->H->O)=>AO EE 3 d (.fv (.int .i64 0)) fun n=>Aj n (Al8 k e c a b f) (f d e)) fun o p=>AmM o a p j c)
def Alv (a:H) (d:V) (b c:AA) (e:Aa) (f g h i j:V):O :=
 Ak d a fun k l=>Ab [(b,[]),(c,[])] l [] (AP 3 k (.fv (.int .i64 0)) fun m=>Ae 3 m a fun n o=>Ab [(b,[]),(c,[])] o [] (AmH e a f g n h i j))
def An8 (a:AA) (e:V) (b:H) (c:V) (f:Aa) (g h i:V):O :=
 Ab [] a [] (AP 3 e (.fv (.int .i64 1)) fun j=>Ae 3 j b fun k d=>Ab [] d [] (Af 2 c fun l=>Alv b l d a f g k h c i))
def Ao7 (b:V) (c:Aa) (a:H) (d e g h:V):O :=
 Ck EE 3 b (.fv (.int .i64 0)) fun i=>Aj i (Ai [] false false c 57 [b] a fun f j _ _=>Aq 0 f fun k=>AnZ f j d k) (Af 2 e fun l=>Ak l a fun m n=>An8 n m a g c h d e)
def Amf (c:V) (a:V->H->O) (b:H) (d:V):O :=
 Aj c (a (.fv (.int .i64 12)) b) (a d b)
def AmU (c:V) (d:H) (f:V) (g:V->H->O):O :=
 AO EE 3 c (.fv (.int .i64 0)) fun a=>Ac a true d (fun h=>Af 0 f fun i=>h i d [] []) fun j b _ _=>Ac a true b (fun k=>Ak j b fun l m=>k l b m []) fun n e _ _=>Ac a true e (fun o=>Ck EE 3 n (.fv (.int .i64 6)) fun p=>o p e [] []) fun q r _ _=>AI a q (.fv (.bool false)) fun s=>Amf s g r c
def AoE (b:V) (c:H) (d:Aa) (e f g:V):O :=
 Aq 0 b fun h=>Aq 1 b fun i=>Ay 94375944 (.row [.fv (.int .i64 0),.fv (.int .i64 0),.nils] false) (.ptr (.own 94375944) 0) c fun a j _ _=>Ad 3 a h j fun k _ _=>(fun (l:V->H->O)=>AmU i k a l) fun m n=>Ao7 m d n e f a g
def Apg (b:V) (a:H) (c:Aa) (d e:V):O :=
 Af 2 b fun f=>Ak f a fun g _=>AP 3 g (.fv (.int .i64 0)) fun h=>Ae 3 h a fun i _=>Ai [] false false c 58 [i] a fun j k _ _=>AoE j k c d b e
def An4 (a:Aa) (g:H) (b h c i:V):O :=
 Ai [] false false a 88 [b,h] g fun d e _ _=>Aq 0 d fun _=>Aq 1 d fun f=>Ck EE 3 f (.fv (.int .i64 0)) fun j=>Aj j (Al3 a e f c) (Apg i e a c b)
def S90 (c:Aa) (n:Nat) (d e:V) (f:H):O :=
 AR 94371840 e f fun b g _ _=>Ay 94371841 (.row [.fv (.int .i64 0),.fv (.int .i64 0),.nils] false) (.ptr (.own 94371841) 0) g fun h a _ _=>Af 2 b fun i=>Ak i a fun j _=>AP 3 j (.fv (.int .i64 0)) fun k=>Ae 3 k a fun l _=>An4 c a d l h b
theorem Aqc (a:Aa) (n:Nat) (b c:V) (d:H):Ax EE a ft.get n 90 [b,c] d=S90 a n b c d:=by kernel_rfl
def AnL (c:V) (d:H) (a e:V):O :=
 Aq 1 c fun f=>Ad 3 a e d fun b _ _=>Ap true 3 a b fun g=>Ao [g,f] b
def AlD (a:V) (d:H) (b:V):O :=
 Aq 0 a fun e=>Aq 1 a fun f=>Ad 3 b e d fun c g h=>Ab [] g h (Ap true 3 b c fun i=>Ao [i,f] c)
def AoK (b c:AA) (a:Aa) (d:H) (e f g:V):O :=
 Ab [(c,[])] b [] (Ai [] false false a 89 [e,.fv (.int .i64 0),f] d fun h i j k=>Ab [] j k (Ai [] false false a 58 [h] i fun l m n o=>Ab [] n o (AlD l m g)))
def Aou (c:V) (a:H) (b:AA) (d:Aa) (e f:V):O :=
 Af 2 c fun g=>Ak g a fun h i=>Ab [(b,[])] i [] (AP 3 h (.fv (.int .i64 3)) fun j=>Ae 3 j a fun k l=>AoK l b d a e k f)
def Apc (b:V) (c:Aa) (a:H) (d g h:V):O :=
 Ck EE 3 b (.fv (.int .i64 0)) fun i=>Aj i (Ai [] false false c 57 [b] a fun e j _ _=>Aq 0 e fun k=>AnL e j d k) (Ae 3 g a fun l f=>Ab [] f [] (Aou h a f c l d))
def AoO (a:H) (b:V) (c d:AA) (e:Aa) (f g:V) (h:V->H->O):O :=
 Ae 3 b a fun i j=>Ab [(c,[]),(d,[])] j [] (Ai [] false false e 61 [f,.fv (.int .i64 1),g,i] a fun k l m n=>Ab [] m n (h k l))
def AlC (a:H) (d e:V) (f:Aa) (g:V) (h:V->H->O):O :=
 Ak d a fun i b=>Ab [] b [] (AP 3 i (.fv (.int .i64 3)) fun j=>Ae 3 j a fun k c=>Ab [] c [] (AoO a e c b f g k h))
def AoT (a:Aa) (f g b c:V) (d:H) (h i:V):O :=
 (fun (e:V->H->O)=>AO EE 3 c (.fv (.int .i64 0)) fun j=>Aj j (Af 2 b fun k=>AlC d k h a i e) (e c d)) fun l m=>Apc l a m f g b
def Al4 (a:Aa) (b:H) (c:V) (d e:AA) (f g:V) (h:V->H->O):O :=
 Ai [] false false a 114 [c] b fun i j k l=>Ab [(d,[]),(e,[])] k l (Ai [] false false a 61 [f,.fv (.int .i64 1),g,i] j fun m n o p=>Ab [] o p (h m n))
def Amm (j:V) (a:H) (c d e f g h:AA) (k:V) (i:AA) (l:Aa) (m:V) (n:V->H->O):O :=
 AP 3 j (.fv (.int .i64 2)) fun o=>Ae 3 o a fun p b=>Ab [(c,d),(e,[]),(f,g),(h,[])] b [] (Ae 3 k a fun q r=>Ab [(b,[]),(i,[]),(c,d),(e,[]),(f,g),(h,[])] r [] (Al4 l a q b i m p n))
def Aog (c:Aa) (j:H) (k l m:V) (d e f g:AA) (n:V) (o:V->H->O):O :=
 Ai [] false false c 84 [k,.fv (.int .i64 1),l] j fun p h a b=>Ab [] a b (Af 2 m fun q=>Ak q h fun r i=>Ab [(a,b),(d,[]),(e,f),(g,[])] i [] (Amm r h a b d e f g n i c p o))
def An0 (a:AA) (d:Aa) (h:H) (i j e k:V) (l:V->H->O):O :=
 Ab [] a [] (Ai [] false false d 84 [i,.fv (.int .i64 1),j] h fun m f b c=>Ab [] b c (Ae 3 e f fun n g=>Ab [(b,c),(a,[])] g [] (Aog d f m n k g b c a e l)))
def AnT (b:Aa) (i c d e f g:V) (a:H):O :=
 (fun (h:V->H->O)=>AO EE 3 g (.fv (.int .i64 0)) fun j=>Aj j (Ae 3 e a fun k l=>An0 l b a f k c d h) (h g a)) fun m n=>AoT b i c d m n e f
def Alx (a b c d:AA) (e:Aa) (f:H) (g h i:V) (j:V->H->O):O :=
 Ab [(c,[]),(d,[])] a b (Ai [] false false e 61 [g,.fv (.int .i64 1),h,i] f fun k l m n=>Ab [] m n (j k l))
def AmP (d:H) (f:V) (a b:AA) (c:Aa) (g h:V) (i:V->H->O):O :=
 Ae 3 f d fun j e=>Ab [(a,[]),(b,[])] e [] (Ai [] false false c 30 [.fv (.int .i64 11),.nils] d fun k l m n=>Ab [(e,[]),(a,[]),(b,[])] m n (Ai [] false false c 89 [j,.fv (.int .i64 0),k] l fun o p q r=>Alx q r a b c p g h o i))
def AlX (a:H) (d e:V) (f:Aa) (g:V) (h:V->H->O):O :=
 Ak d a fun i b=>Ab [] b [] (AP 3 i (.fv (.int .i64 1)) fun j=>Ae 3 j a fun k c=>Ab [] c [] (AmP a e c b f g k h))
def Ao4 (a:Aa) (h b c i d e:V) (f:H):O :=
 (fun (g:V->H->O)=>AO EE 3 e (.fv (.int .i64 0)) fun j=>Aj j (Af 2 c fun k=>AlX f k b a d g) (g e f)) fun l m=>AnT a h b c i d l m
def Aoz (c d e f:AA) (a:Aa) (g:H) (h i j k l m n:V):O :=
 Ab [(d,e),(f,[])] c [] (Ai [] false false a 88 [h,i] g fun b o p q=>Ab [] p q (Aq 0 b fun _=>Aq 1 b fun r=>Ao4 a j k l m n r o))
def AlS (a:H) (b:V) (c:Aa) (d e j k:V):O :=
 Ae 3 b a fun l f=>Ab [] f [] (Ai [] false false c 84 [d,.fv (.int .i64 1),l] a fun m g h i=>Ab [] h i (Ae 3 e g fun n o=>Aoz o h i f c g m n j e k b d))
def Amg (a:H) (c d:V) (e:Aa) (f g h:V):O :=
 Ak c a fun i _=>AP 3 i (.fv (.int .i64 0)) fun j=>Ae 3 j a fun k _=>Ay 95422468 (.row [.fv (.int .i64 0),.fv (.int .i64 0),.nils] false) (.ptr (.own 95422468) 0) a fun b l _ _=>Ad 3 b k l fun m _ _=>AlS m d e f b g h
def S91 (a:Aa) (n:Nat) (d e:V) (f:H):O :=
 AR 95420416 e f fun b g _ _=>Ay 95420417 (.row [.fv (.int .i64 0),.fv (.int .i64 0),.nils] false) (.ptr (.own 95420417) 0) g fun h i _ _=>Ai [] false false a 30 [.fv (.int .i64 10),.nils] i fun j k _ _=>Ay 95421441 (.row [.fv (.int .i64 0),.fv (.int .i64 0),.nils] false) (.ptr (.own 95421441) 0) k fun c l _ _=>Ad 3 c j l fun m _ _=>Af 2 b fun o=>Amg m o c a d h b
theorem AsM (a:Aa) (n:Nat) (b c:V) (d:H):Ax EE a ft.get n 91 [b,c] d=S91 a n b c d:=by kernel_rfl
def Xz (a b:AA) (c:H) (d:V):O :=
 Ab [] a b (Ao [d] c)
def Ww (e a b c d:AA) (f g:V) (h:H) (i:V):O :=
 Ab [(a,b),(c,d)] e [] (BJ [.fv (.int .i64 0),.fv (.int .i64 0),.fv (.int .i64 0),.nils] [(0,1,f),(1,3,g)] fun j=>AE (An EE 71 1 [(0,j)]) 100664326 h fun k l m n=>Ab [(a,b),(c,d)] m n (AE (AJ EE 100664327 false .append [71,71] [i,k]) 100664327 l fun o p q r=>Xz q r p o))
def S96 (r:Aa) (n:Nat) (f g h:V) (i:H):O :=
 AR 100663296 h i fun j k _ _=>AE (An EE 71 0 []) 100664320 k fun l m a b=>Ab [] a b (AE (AJ EE 100664322 false .append [71,71] [l,f]) 100664322 m fun o c d e=>Ab [] d e (Ae 3 j c fun p q=>Ww q d e a b g p c o))
theorem Arg (a:Aa) (n:Nat) (b c d:V) (e:H):Ax EE a ft.get n 96 [b,c,d] e=S96 a n b c d e:=by kernel_rfl
def Qw (h:V) (i j:H) (a b c d e f:V) (k:List V->H->O):O :=
 Bv EE 3 h (.fv (.int .i64 1)) fun g=>BZ (i.own.map (·.1)) [101718032,101720067] [a,b,c,d,e,f,g] j fun l=>k [a,b,c,d,e,f,g] l
def RZ (a:H) (b c:V) (d:V->H->O):O :=
 AE (An EE 51 1 [(0,b)]) 101720066 a fun e f _ _=>AE (AJ EE 101720067 false .append [51,51] [c,e]) 101720067 f fun g h _ _=>d g h
def QT (f g:AA) (a:H) (b:V) (h:Aa) (i j k c:V) (d:V->H->O):O :=
 Ab [] f g (Ac b true a (fun l=>Ai [] false false h 18 [i,j] a l) fun m e n o=>Ab [] n o (AI b m (.fv (.bool false)) fun p=>Aj p (RZ e k c d) (d c e)))
def QN (d:H) (a:V) (b:Aa) (h i:V) (j k:AA) (l m:V) (n:V->H->O):O :=
 Ac a true d (fun o=>Ai [] false false b 112 [h] d o) fun p c e f=>Ab [] e f (Ac a true c (fun q=>Ae 3 i c fun r s=>q r c s []) fun t g u v=>Ab [(e,f),(j,k)] u v (Ac a true g (fun w=>Ai [] false false b 112 [t] g w) fun x y z A=>QT z A y a b p x l m n))
def Ry (f:H) (g h:V) (i:Aa) (j k l:V) (m:V->H->O):O :=
 Ay 101718032 (.row [.fv (.int .i64 0),.fv (.int .i64 0),.nils] false) (.ptr (.own 101718032) 0) f fun b n _ _=>Ad 3 b g n fun a _ _=>AO EE 3 h (.fv (.int .i64 0)) fun c=>Ac c true a (fun o=>Ae 3 b a fun p q=>o p a q []) fun r s d e=>Ab [] d e (QN s c i r j d e k l m)
def Q5 (b:V) (a:Aa) (d:H) (e f g:V) (h:V->H->O):O :=
 Bv EE 3 b (.fv (.int .i64 1)) fun i=>Ai [] false false a 28 [e,i,.fv (.int .i64 0)] d fun j k _ _=>Ai [] false false a 58 [j] k fun c l _ _=>Aq 0 c fun m=>Aq 1 c fun n=>Ry l m n a f b g h
def Rj (c a d:V) (b:H) (e:Aa) (f g:V) (h:V->H->O):O :=
 Bd EE 3 c (.fv (.int .i64 1)) fun i=>Bd EE 3 i a fun j=>AP 4 d j fun k=>Af 1 k fun l=>Ae 3 l b fun m _=>Q5 a e b m f g h
def Rf (e:V) (a:H) (f:V) (b:V->H->O) (c d g:V) (h:Aa) (i:V):O :=
 Af 0 e fun j=>Ak j a fun k _=>Ck EE 3 k f fun l=>Aj l (b c a) (BF d fun m=>Rj m g d a h i c b)
def RY (b:V) (e:H) (a c f d g:V) (h:List V->H->O) (i:H) (j:V) (k:Aa):O :=
 (fun (l:V->H->O)=>BF a fun m=>Bd EE 3 m (.fv (.int .i64 1)) fun n=>Bd EE 3 n b fun o=>AP 4 a o fun p=>Rf p i c l j a b k d) fun q r=>Qw b e r a c f d g q h
def QZ (c:H) (a d:V):O :=
 Ad 3 a d c fun b _ _=>Ap true 3 a b fun e=>Ao [e,.fv (.bool false)] b
def Q7 (a:H) (b:V):O :=
 Ap true 3 b a fun c=>Ao [c,.fv (.bool true)] a
def QG (a:Aa) (d:H) (e f g b:V):O :=
 Ai [] false false a 41 [e,f] d fun h c _ _=>AP 1 g h fun i=>Ak i c fun j _=>Ai [] false false a 29 [j] c fun k l _ _=>Ad 3 b k l fun m _ _=>Q7 m b
def Rr (a:V) (b:H) (c:V) (d:Aa) (e:V):O :=
 BF a fun f=>AO EE 3 f (.fv (.int .i64 0)) fun g=>Aj g (BJ [.fv (.int .i64 0),.fv (.int .i64 0),.nils] [] fun h=>QZ b c h) (BF a fun i=>QG d b e i a c)
def Rv (h:List V) (a:V) (i:H) (j b k c:V) (l:List V->H->O) (d:H) (e:Aa):O :=
 AH h fun f m=>AH m fun g _=>BF a fun n=>GC EE 3 g n fun o=>Aj o (RY g i a j b k c l d f e) (Rr f d c e b)
def AeR (a:List V) (b:H) (c:List V->H->O) (d:H) (e:Aa):O :=
 AH a fun f g=>AH g fun h i=>AH i fun j k=>AH k fun l m=>AH m fun n o=>Rv o f b h j l n c d e
def S97 (g:Aa) (n:Nat) (b c h d:V) (a:H):O :=
 AR 101711872 h a fun e i _ _=>Ay 101711873 (.row [.fv (.int .i64 0),.fv (.int .i64 0),.nils] false) (.ptr (.own 101711873) 0) i fun f j _ _=>BZ (a.own.map (·.1)) [101718032,101720067] [b,c,d,e,f,.nils,.fv (.int .i64 0)] j fun k=>BY n (fun l m o=>AeR m a l o g) [b,c,d,e,f,.nils,.fv (.int .i64 0)] k
theorem Ap0 (a:Aa) (n:Nat) (b c d e:V) (f:H):Ax EE a ft.get n 97 [b,c,d,e] f=S97 a n b c d e f:=by kernel_rfl
def AdB (a:H) (b c:V):O :=
 Ap true 3 b a fun d=>Ao [d,c] a
def Aab (a:H) (b f g c h:V):O :=
 Ac b true a (fun i=>i f a [] []) fun j d _ _=>AI b j (.fv (.bool false)) fun e=>Ac e true d (fun k=>k g d [] []) fun l m _ _=>AI e l (.fv (.bool false)) fun n=>Ad 3 c h m fun o _ _=>AdB o c n
def Zz (a:H) (b c d:V) (e:Aa) (f g h i:V):O :=
 Ae 3 b a fun j _=>Ae 3 c a fun k _=>Ae 3 d a fun l _=>AE (An EE 28 3 [(0,j),(1,k),(2,l)]) 102767619 a fun m n _ _=>Ai [] false false e 30 [.fv (.int .i64 27),m] n fun o p _ _=>Aab p f g h i o
def Aft (b:V) (c:H) (d e f g h i:AA) (j k l:V) (m:Aa) (n o p:V):O :=
 Aq 1 b fun q=>Ay 102766602 (.row [.fv (.int .i64 0),.fv (.int .i64 0),.nils] false) (.ptr (.own 102766602) 0) c fun a r s t=>Ab [(d,e),(f,g),(h,[]),(i,[])] s t (Ad 3 a j r fun u v w=>Ab [] v w (Zz u k l a m n o q p))
def Aa1 (a b c:AA) (h:V) (d:Aa) (i:H) (j k l:V) (m:AA) (n o p q r:V):O :=
 Ab [(c,[])] a b (Bd EE 3 h (.fv (.int .i64 2)) fun s=>Ai [] false false d 68 [j,k,l,s] i fun e t f g=>Ab [] f g (Aq 0 e fun u=>Aft e t f g a b m c u n o d p q r))
def Ab2 (a:H) (e f:V) (c:Aa) (g h i j k l m:V):O :=
 Ae 3 e a fun n b=>Ab [] b [] (Ae 3 f a fun o d=>Ab [(b,[])] d [] (Ai [] false false c 42 [o,.fv (.int .i64 2)] a fun p q r s=>Aa1 r s b g c q h n p d i j k l m))
def AeL (b:V) (c:H) (d e f g h i:AA) (j k l:V) (m:Aa) (n o p q r:V):O :=
 Aq 1 b fun s=>Ay 102765578 (.row [.fv (.int .i64 0),.fv (.int .i64 0),.nils] false) (.ptr (.own 102765578) 0) c fun a t u v=>Ab [(d,e),(f,g),(h,[]),(i,[])] u v (Ad 3 a j t fun w x y=>Ab [] x y (Ab2 w k l m n o p a q s r))
def Ae0 (a b c:AA) (d:V) (e:Aa) (j:H) (f k l:V) (m:AA) (n o p q r:V):O :=
 Ab [(c,[])] a b (Bd EE 3 d (.fv (.int .i64 2)) fun s=>Ai [] false false e 68 [f,k,l,s] j fun g t h i=>Ab [] h i (Aq 0 g fun u=>AeL g t h i a b m c u n o e d f p q r))
def AeB (a:H) (c d:V) (e:Aa) (g h i j k:V):O :=
 Ae 3 c a fun l b=>Ab [] b [] (Ae 3 d a fun m f=>Ab [(b,[])] f [] (Ai [] false false e 42 [m,.fv (.int .i64 1)] a fun n o p q=>Ae0 p q b g e o h l n f c d i j k))
def Aef (b:V) (c:H) (d e f g h i:AA) (j k l:V) (m:Aa) (n o p:V):O :=
 Aq 1 b fun q=>Ay 102764554 (.row [.fv (.int .i64 0),.fv (.int .i64 0),.nils] false) (.ptr (.own 102764554) 0) c fun a r s t=>Ab [(d,e),(f,g),(h,[]),(i,[])] s t (Ad 3 a j r fun u v w=>Ab [] v w (AeB u k l m n o a q p))
def AcO (a b c:AA) (d:V) (e:Aa) (j:H) (f k l:V) (m:AA) (n o p:V):O :=
 Ab [(c,[])] a b (Bd EE 3 d (.fv (.int .i64 2)) fun q=>Ai [] false false e 68 [f,k,l,q] j fun g r h i=>Ab [] h i (Aq 0 g fun s=>Aef g r h i a b m c s n o e d f p))
def AbI (a:H) (f c:V) (d:Aa) (g h i j:V):O :=
 Ae 3 f a fun k b=>Ab [] b [] (Ae 3 c a fun l e=>Ab [(b,[])] e [] (Ai [] false false d 42 [l,.fv (.int .i64 0)] a fun m n o p=>AcO o p b g d n h k m e i c j))
def YC (c:H) (a d e:V):O :=
 Ad 3 a d c fun b _ _=>Ap true 3 a b fun f=>Ao [f,e] b
def Yz (a:H) (d e:V) (f:Aa) (b g h:V):O :=
 Ae 3 d a fun i _=>AE (An EE 28 2 [(0,e),(1,i)]) 102772738 a fun j k _ _=>Ai [] false false f 30 [.fv (.int .i64 28),j] k fun l c _ _=>Ac b true c (fun m=>m g c [] []) fun n o _ _=>AI b n (.fv (.bool false)) fun p=>YC o h l p
def Adj (c:H) (d e f g h i j k l m n:AA) (o p:V) (q:Aa) (r s t:V):O :=
 Ay 102771725 (.row [.fv (.int .i64 0),.fv (.int .i64 0),.nils] false) (.ptr (.own 102771725) 0) c fun a u v w=>Ab [(d,e),(f,g),(h,[]),(i,j),(k,[]),(l,m),(n,[])] v w (Ad 3 a o u fun b x y=>Ab [] x y (Ae 3 p b fun z _=>Yz b a z q r s t))
def Afk (e:V) (a:Aa) (f:H) (g h i:V) (j k l m n o p q r:AA) (s t u:V):O :=
 Bd EE 3 e (.fv (.int .i64 2)) fun v=>Ai [] false false a 68 [g,h,i,v] f fun b w c d=>Ab [] c d (Aq 0 b fun x=>Aq 1 b fun y=>Adj w c d j k l m n o p q r x s a t y u)
def Ado (a b:AA) (c:H) (l:V) (d e f g:AA) (h:Aa) (m n o p q r:V):O :=
 Ab [] a b (Ae 3 l c fun s i=>Ab [(a,b),(d,[]),(e,f),(g,[])] i [] (Ai [] false false h 42 [s,.fv (.int .i64 2)] c fun t u j k=>Ab [] j k (Afk m h u n o t j k i a b d e f g p q r)))
def Abk (a:Aa) (g:H) (h i j:V) (d:AA) (k l m n o:V):O :=
 Ai [] false false a 96 [h,.fv (.int .i64 0),i] g fun p e b c=>Ab [] b c (Ae 3 j e fun q f=>Ab [(b,c),(d,[])] f [] (Ai [] false false a 28 [q,.fv (.int .i64 1),.fv (.int .i64 0)] e fun r s t u=>Ado t u s k f b c d a l p r m n o))
def ZT (d e f g h i j k:AA) (l:H) (a m n:V) (o:Aa) (p q r s t u:V):O :=
 Ab [(f,g),(h,i),(j,[]),(k,[])] d e (Ad 3 a m l fun b v w=>Ab [] v w (Ae 3 n b fun x c=>Ab [] c [] (Abk o b p x q c r s a t u)))
def Aas (a:Aa) (f:H) (b g h i:V) (j k l m:AA) (n o p q r:V):O :=
 Ai [] false false a 68 [b,g,h,i] f fun c s d e=>Ab [] d e (Aq 0 c fun t=>Aq 1 c fun u=>Ay 102770698 (.row [.fv (.int .i64 0),.fv (.int .i64 0),.nils] false) (.ptr (.own 102770698) 0) s fun v w x y=>ZT x y d e j k l m w v t n a b o p q u r)
def Adk (b:H) (c:V) (a:AA) (d:Aa) (e i j k l m:V):O :=
 Ae 3 c b fun n f=>Ab [(a,[])] f [] (Ai [] false false d 42 [n,.fv (.int .i64 1)] b fun o p g h=>Ab [(a,[])] g h (Bd EE 3 e (.fv (.int .i64 2)) fun q=>Aas d p i j o q g h f a k l c e m))
def Acd (b:Aa) (e:H) (f g h i j k:V):O :=
 Ai [] false false b 14 [f,.fv (.int .i64 1)] e fun l m _ _=>Ay 102769667 (.row [.fv (.int .i64 0),.fv (.int .i64 0),.nils] false) (.ptr (.own 102769667) 0) m fun a n _ _=>Ad 3 a l n fun c _ _=>Ae 3 a c fun o d=>Ab [] d [] (Adk c g d b h i o a j k)
def AcE (a:H) (b e c f:V):O :=
 Ac b true a (fun g=>g e a [] []) fun h i _ _=>AI b h (.fv (.bool false)) fun j=>Ad 3 c f i fun d k l=>Ab [] k l (Ap true 3 c d fun m=>Ao [m,j] d)
def ZD (a b c d e f g:AA) (h:H) (i j:V) (k:Aa) (l m n:V):O :=
 Ab [(b,c),(d,e),(f,[]),(g,[])] a [] (AE (An EE 28 2 [(0,i),(1,j)]) 102777861 h fun o p q r=>Ab [] q r (Ai [] false false k 30 [.fv (.int .i64 21),o] p fun s t u v=>Ab [] u v (AcE t l m n s)))
def Yj (g:H) (h i:V) (a:Aa) (j:V) (k l:AA) (m n o:V):O :=
 AE (An EE 28 2 [(0,h),(1,i)]) 102777858 g fun p q b c=>Ab [] b c (Ai [] false false a 30 [.fv (.int .i64 20),p] q fun r d e f=>Ab [] e f (Ae 3 j d fun s t=>ZD t e f b c k l d r s a m n o))
def Aa6 (d e:AA) (a:H) (f g:V) (h:Aa) (i j k l:V):O :=
 Ab [] d e (Ae 3 f a fun m b=>Ab [] b [] (Ae 3 g a fun n c=>Ab [(b,[])] c [] (Yj a m n h i c b j k l)))
def AbN (a:V) (c:H) (d e f g h i j k l m n:AA) (o:V) (p:Aa) (q r s:V):O :=
 Aq 0 a fun t=>Aq 1 a fun u=>Ay 102776845 (.row [.fv (.int .i64 0),.fv (.int .i64 0),.nils] false) (.ptr (.own 102776845) 0) c fun b v w x=>Ab [(d,e),(f,g),(h,[]),(i,j),(k,[]),(l,m),(n,[])] w x (Ad 3 b t v fun y z A=>Aa6 z A y o b p q r u s)
def Aaf (a:Aa) (f:H) (g h i j:V) (k l m n o p q:AA) (r s t u:V):O :=
 Ai [] false false a 42 [g,.fv (.int .i64 2)] f fun v w b c=>Ab [] b c (Bd EE 3 h (.fv (.int .i64 2)) fun x=>Ai [] false false a 68 [i,j,v,x] w fun y z d e=>Ab [] d e (AbN y z d e b c k l m n o p q r a s t u))
def Afy (a b c d:AA) (g:Aa) (j:H) (k l m n o p q r:V):O :=
 Ab [(b,c),(d,[])] a [] (Ai [] false false g 28 [k,.fv (.int .i64 1),.fv (.int .i64 0)] j fun s h e f=>Ab [] e f (Ae 3 l h fun t i=>Ab [(e,f),(a,[]),(b,c),(d,[])] i [] (Aaf g h t m n s i e f a b c d o p q r)))
def Zh (a:H) (b:V) (c:Aa) (h i j k l m n:V):O :=
 Ae 3 b a fun o d=>Ab [] d [] (Ai [] false false c 96 [h,.fv (.int .i64 0),o] a fun p e f g=>Ab [] f g (Ae 3 i e fun q r=>Afy r f g d c e q j k p b l m n))
def AaI (b:V) (c:H) (d e f g h i:AA) (j k:V) (l:Aa) (m n o p q:V):O :=
 Aq 1 b fun r=>Ay 102775818 (.row [.fv (.int .i64 0),.fv (.int .i64 0),.nils] false) (.ptr (.own 102775818) 0) c fun a s t u=>Ab [(d,e),(f,g),(h,[]),(i,[])] t u (Ad 3 a j s fun v w x=>Ab [] w x (Zh v k l m n o p a r q))
def Abd (a b c:AA) (d:V) (e:Aa) (j:H) (f k l:V) (m:AA) (n o p q:V):O :=
 Ab [(c,[])] a b (Bd EE 3 d (.fv (.int .i64 2)) fun r=>Ai [] false false e 68 [f,k,l,r] j fun g s h i=>Ab [] h i (Aq 0 g fun t=>AaI g s h i a b m c t n e f o p d q))
def AfR (a:H) (c d:V) (e:Aa) (g h i j:V):O :=
 Ae 3 c a fun k b=>Ab [] b [] (Ae 3 d a fun l f=>Ab [(b,[])] f [] (Ai [] false false e 42 [l,.fv (.int .i64 1)] a fun m n o p=>Abd o p b g e n h k m f c i d j))
def AbC (b:H) (c:V) (a:Aa) (e f g h:V):O :=
 Ae 3 c b fun i _=>Ai [] false false a 42 [i,.fv (.int .i64 0)] b fun j k _ _=>Ai [] false false a 14 [j,.fv (.int .i64 1)] k fun l m _ _=>Ay 102774787 (.row [.fv (.int .i64 0),.fv (.int .i64 0),.nils] false) (.ptr (.own 102774787) 0) m fun d n _ _=>Ad 3 d l n fun o _ _=>AfR o d c a e f g h
def ZG (c d:V) (e:H) (a f:V):O :=
 AI c d (.fv (.bool false)) fun g=>Ad 3 a f e fun b _ _=>Ap true 3 a b fun h=>Ao [h,g] b
def Zo (d:H) (e f:V) (a:Aa) (b g h:V):O :=
 AE (An EE 28 2 [(0,e),(1,f)]) 102781954 d fun i j _ _=>Ai [] false false a 30 [.fv (.int .i64 22),i] j fun k l _ _=>AE (An EE 28 1 [(0,k)]) 102781956 l fun m n _ _=>Ai [] false false a 30 [.fv (.int .i64 23),m] n fun o c _ _=>Ac b true c (fun p=>p g c [] []) fun q r _ _=>ZG b q r h o
def AfZ (c d e f g h i j:AA) (k:H) (b l m:V) (n:Aa) (o p q:V):O :=
 Ab [(e,f),(g,h),(i,[]),(j,[])] c d (Ad 3 b l k fun a r s=>Ab [] r s (Ae 3 m a fun t _=>Ae 3 b a fun u _=>Zo a t u n o p q))
def AcZ (a:Aa) (e:H) (f g h i:V) (j k l m:AA) (n o p:V):O :=
 Ai [] false false a 68 [f,g,h,i] e fun b q c d=>Ab [] c d (Aq 0 b fun r=>Aq 1 b fun s=>Ay 102780938 (.row [.fv (.int .i64 0),.fv (.int .i64 0),.nils] false) (.ptr (.own 102780938) 0) q fun t u v w=>AfZ v w c d j k l m u t r n a o s p)
def AbS (b:H) (g:V) (a:AA) (c:Aa) (h i j k l m:V):O :=
 Ae 3 g b fun n d=>Ab [(a,[])] d [] (Ai [] false false c 42 [n,.fv (.int .i64 1)] b fun o p e f=>Ab [(a,[])] e f (Bd EE 3 h (.fv (.int .i64 2)) fun q=>AcZ c p i j o q e f d a k l m))
def AfO (d e f g h i j k:AA) (l:H) (a m n o:V) (p:Aa) (q r s t:V):O :=
 Ab [(f,g),(h,i),(j,[]),(k,[])] d e (Ad 3 a m l fun b u v=>Ab [] u v (Ae 3 n b fun w c=>Ab [] c [] (AbS b o c p q r w a s t)))
def Adq (a:Aa) (f:H) (b g h i:V) (j k l m:AA) (n o p q:V):O :=
 Ai [] false false a 68 [b,g,h,i] f fun c r d e=>Ab [] d e (Aq 0 c fun s=>Aq 1 c fun t=>Ay 102779914 (.row [.fv (.int .i64 0),.fv (.int .i64 0),.nils] false) (.ptr (.own 102779914) 0) r fun u v w x=>AfO w x d e j k l m v u s n o a p b t q)
def AdP (b:H) (c:V) (a:AA) (d:Aa) (e i j k l:V):O :=
 Ae 3 c b fun m f=>Ab [(a,[])] f [] (Ai [] false false d 42 [m,.fv (.int .i64 0)] b fun n o g h=>Ab [(a,[])] g h (Bd EE 3 e (.fv (.int .i64 2)) fun p=>Adq d o i j n p g h f a k c e l))
def AaQ (c:H) (a d e:V):O :=
 Ad 3 a d c fun b _ _=>Ap true 3 a b fun f=>Ao [f,e] b
def AfA (b c:AA) (a:H) (d e:V) (f:Aa) (g h:V):O :=
 Ab [] b c (Ae 3 d a fun i _=>Ae 3 e a fun j _=>AE (An EE 28 2 [(0,i),(1,j)]) 102785026 a fun k l _ _=>Ai [] false false f 30 [.fv (.int .i64 29),k] l fun m n _ _=>AaQ n g m h)
def Adu (a:V) (c:H) (d e f g h i j k l m n:AA) (o:V) (p:Aa) (q:V):O :=
 Aq 0 a fun r=>Aq 1 a fun s=>Ay 102784013 (.row [.fv (.int .i64 0),.fv (.int .i64 0),.nils] false) (.ptr (.own 102784013) 0) c fun b t u v=>Ab [(d,e),(f,g),(h,[]),(i,j),(k,[]),(l,m),(n,[])] u v (Ad 3 b r t fun w x y=>AfA x y w o b p q s)
def ZY (a:Aa) (f:H) (g h i j:V) (k l m n o p q:AA) (r s:V):O :=
 Ai [] false false a 42 [g,.fv (.int .i64 0)] f fun t u b c=>Ab [] b c (Bd EE 3 h (.fv (.int .i64 2)) fun v=>Ai [] false false a 68 [i,j,t,v] u fun w x d e=>Ab [] d e (Adu w x d e b c k l m n o p q r a s))
def AcU (a b c d:AA) (g:Aa) (j:H) (k l m n o p:V):O :=
 Ab [(b,c),(d,[])] a [] (Ai [] false false g 28 [k,.fv (.int .i64 1),.fv (.int .i64 0)] j fun q h e f=>Ab [] e f (Ae 3 l h fun r i=>Ab [(e,f),(a,[]),(b,c),(d,[])] i [] (ZY g h r m n q i e f a b c d o p)))
def Ael (b:H) (a:V) (c:Aa) (h i j k:V):O :=
 Ae 3 a b fun l d=>Ab [] d [] (Ai [] false false c 96 [h,.fv (.int .i64 0),l] b fun m e f g=>Ab [] f g (Ae 3 a e fun n o=>AcU o f g d c e n i j m a k))
def Acb (c:H) (d:V) (e:Aa) (a f:V):O :=
 AE (An EE 28 1 [(0,d)]) 102787073 c fun g h _ _=>Ai [] false false e 30 [.fv (.int .i64 30),g] h fun i j _ _=>Ad 3 a i j fun b _ _=>Ap true 3 a b fun k=>Ao [k,f] b
def Agp (c:H) (d e f g h i j k l m:AA) (n:V) (o:Aa) (p q:V):O :=
 Ay 102786060 (.row [.fv (.int .i64 0),.fv (.int .i64 0),.nils] false) (.ptr (.own 102786060) 0) c fun a r s t=>Ab [(d,e),(f,g),(h,[]),(i,j),(k,l),(m,[])] s t (Ad 3 a n r fun b u v=>Ab [] u v (Ae 3 a b fun w _=>Acb b w o p q))
def AdK (e:V) (a:Aa) (f:H) (g h i:V) (j k l m n o p q:AA) (r:V):O :=
 Bd EE 3 e (.fv (.int .i64 1)) fun s=>Ai [] false false a 70 [g,h,i,s] f fun b t c d=>Ab [] c d (Aq 0 b fun u=>Aq 1 b fun v=>Agp t c d j k l m n o p q u a r v)
def Ab8 (a b:AA) (c:H) (k:V) (d e f:AA) (g:Aa) (l m n o:V):O :=
 Ab [] a b (Ae 3 k c fun p h=>Ab [(a,b),(d,e),(f,[])] h [] (Ai [] false false g 42 [p,.fv (.int .i64 0)] c fun q r i j=>Ab [] i j (AdK l g r m n q i j h a b d e f o)))
def Aej (a:H) (f:V) (b:Aa) (g h i j:V):O :=
 Ae 3 f a fun k c=>Ab [] c [] (AE (An EE 28 1 [(0,k)]) 102786050 a fun l m d e=>Ab [] d e (Ai [] false false b 30 [.fv (.int .i64 18),l] m fun n o p q=>Ab8 p q o g d e c b h i n j))
def AbO (h:V) (a:H) (b c:V) (d:Aa) (e f j g:V):O :=
 AO EE 3 h (.fv (.int .i64 3)) fun k=>Aj k (Ae 3 b a fun l i=>Ab [] i [] (AdP a c i d e f l j g)) (AO EE 3 h (.fv (.int .i64 4)) fun m=>Aj m (Ael a b d f c e g) (Aej a b d c e f g))
def Ae1 (d:V) (a:H) (b:V) (c:Aa) (e f g h i:V):O :=
 AO EE 3 d (.fv (.int .i64 1)) fun j=>Aj j (Ae 3 b a fun k _=>Ai [] false false c 42 [k,.fv (.int .i64 0)] a fun l m _ _=>Acd c m l b e f g h) (AO EE 3 d (.fv (.int .i64 2)) fun n=>Aj n (AbC a b c e f g h) (AbO d a g b c e f i h))
def Acy (a:V) (c:H) (b:Aa) (d e f g h:V):O :=
 Af 1 a fun k=>Ak k c fun l _=>Ai [] false false b 41 [l,.fv (.int .i64 7)] c fun i j _ _=>AO EE 3 i (.fv (.int .i64 0)) fun m=>Aj m (AbI j d a b e f g h) (Ae1 i j a b e f g h d)
def S98 (a:Aa) (n:Nat) (c d e f:V) (g:H):O :=
 AR 102760448 d g fun h i _ _=>AR 102760449 e i fun j k _ _=>Ay 102760450 (.row [.fv (.int .i64 0),.fv (.int .i64 0),.nils] false) (.ptr (.own 102760450) 0) k fun l m _ _=>Ai [] false false a 30 [.fv (.int .i64 15),.nils] m fun o p _ _=>Ay 102761473 (.row [.fv (.int .i64 0),.fv (.int .i64 0),.nils] false) (.ptr (.own 102761473) 0) p fun b q _ _=>Ad 3 b o q fun r _ _=>Acy j r a b f c h l
theorem Asu (a:Aa) (n:Nat) (b c d e:V) (f:H):Ax EE a ft.get n 98 [b,c,d,e] f=S98 a n b c d e f:=by kernel_rfl
def S99 (c:Aa) (n:Nat) (d:H):O :=
 Ay 103809024 (.row [.fv (.int .i64 0),.fv (.int .i64 0),.nils] false) (.ptr (.own 103809024) 0) d fun a e _ _=>Ai [] false false c 30 [.fv (.int .i64 10),.nils] e fun f g _ _=>Ad 3 a f g fun b _ _=>Ap true 3 a b fun h=>Ao [h] b
theorem Ap1 (a:Aa) (n:Nat) (b:H):Ax EE a ft.get n 99 [] b=S99 a n b:=by kernel_rfl
def Uy (c d:V) (e:H) (a f:V):O :=
 AI c d (.fv (.bool false)) fun g=>Ad 3 a f e fun b _ _=>Ap true 3 a b fun h=>Ao [h,g] b
def ST (d:H) (e f g:V) (a:Aa) (b h i:V):O :=
 AE (An EE 28 3 [(0,e),(1,f),(2,g)]) 104863747 d fun j k _ _=>Ai [] false false a 30 [.fv (.int .i64 7),j] k fun l m _ _=>AE (An EE 28 1 [(0,l)]) 104863749 m fun n o _ _=>Ai [] false false a 30 [.fv (.int .i64 8),n] o fun p c _ _=>Ac b true c (fun q=>q h c [] []) fun r s _ _=>Uy b r s i p
def VF (c:H) (b d e f:V) (g:Aa) (h i j:V):O :=
 Ad 3 b d c fun a k l=>Ab [] k l (Ae 3 b a fun m _=>Ae 3 e a fun n _=>Ae 3 f a fun o _=>ST a m n o g h i j)
def TU (a b:AA) (c:Aa) (f:H) (g:V) (h i j k:AA) (l m n o p:V):O :=
 Ab [] a b (Ai [] false false c 30 [.fv (.int .i64 6),g] f fun q r d e=>Ab [] d e (Ay 104862725 (.row [.fv (.int .i64 0),.fv (.int .i64 0),.nils] false) (.ptr (.own 104862725) 0) r fun s t u v=>Ab [(d,e),(a,b),(h,i),(j,[]),(k,[])] u v (VF t s q l m c n o p)))
def UD (b:H) (g:V) (a:AA) (c:Aa) (h i j k l m:V):O :=
 Ae 3 g b fun n d=>Ab [(a,[])] d [] (Ai [] false false c 28 [n,.fv (.int .i64 1),.fv (.int .i64 0)] b fun o p e f=>Ab [(a,[])] e f (AE (An EE 28 2 [(0,h),(1,o)]) 104862723 p fun q r s t=>TU s t c r q e f d a i j k l m))
def U4 (d e f g h i j k:AA) (l:H) (a m n o:V) (p:Aa) (q r s t:V):O :=
 Ab [(f,g),(h,i),(j,[]),(k,[])] d e (Ad 3 a m l fun b u v=>Ab [] u v (Ae 3 n b fun w c=>Ab [] c [] (UD b o c p w a q r s t)))
def S6 (a:Aa) (e:H) (f g h i:V) (j k l m:AA) (n o p q r:V):O :=
 Ai [] false false a 70 [f,g,h,i] e fun b s c d=>Ab [] c d (Aq 0 b fun t=>Aq 1 b fun u=>Ay 104861706 (.row [.fv (.int .i64 0),.fv (.int .i64 0),.nils] false) (.ptr (.own 104861706) 0) s fun v w x y=>U4 x y c d j k l m w v t n o a p q u r)
def VI (b:H) (g:V) (a:AA) (c:Aa) (h i j k l m n o:V):O :=
 Ae 3 g b fun p d=>Ab [(a,[])] d [] (Ai [] false false c 42 [p,.fv (.int .i64 2)] b fun q r e f=>Ab [(a,[])] e f (Bd EE 3 h (.fv (.int .i64 2)) fun s=>S6 c r i j q s e f d a k l m n o))
def Uc (c:H) (a d e:V):O :=
 Ad 3 a d c fun b f g=>Ab [] f g (Ap true 3 a b fun h=>Ao [h,e] b)
def Vs (c d:AA) (e:Aa) (f:H) (g a h i:V):O :=
 Ab [] c d (Ai [] false false e 30 [.fv (.int .i64 5),g] f fun j b k l=>Ab [] k l (Ac a true b (fun m=>m h b [] []) fun n o _ _=>AI a n (.fv (.bool false)) fun p=>Uc o i j p))
def TJ (a:Aa) (e:H) (f g:V) (h i j k:AA) (l m n:V):O :=
 Ai [] false false a 30 [.fv (.int .i64 4),f] e fun o b c d=>Ab [] c d (Ae 3 g b fun p q=>Ab [(c,d),(h,i),(j,[]),(k,[])] q [] (AE (An EE 28 2 [(0,o),(1,p)]) 104865797 b fun r s t u=>Vs t u a s r l m n))
def TF (a:AA) (b:H) (f g:V) (h:Aa) (i j k l:V):O :=
 Ab [] a [] (Ae 3 f b fun m c=>Ab [(a,[])] c [] (AE (An EE 28 2 [(0,g),(1,m)]) 104865794 b fun n o d e=>Ab [] d e (TJ h o n i d e c a j k l)))
def Th (c:H) (d e f g h i j k l m n:AA) (o p:V) (q:Aa) (r s t u:V):O :=
 Ay 104864781 (.row [.fv (.int .i64 0),.fv (.int .i64 0),.nils] false) (.ptr (.own 104864781) 0) c fun a v w x=>Ab [(d,e),(f,g),(h,[]),(i,j),(k,[]),(l,m),(n,[])] w x (Ad 3 a o v fun b y z=>Ab [] y z (Ae 3 p b fun A B=>TF B b a A q r s t u))
def VL (e:V) (a:Aa) (f:H) (g h i:V) (j k l m n o p q r:AA) (s t u v:V):O :=
 Bd EE 3 e (.fv (.int .i64 2)) fun w=>Ai [] false false a 70 [g,h,i,w] f fun b x c d=>Ab [] c d (Aq 0 b fun y=>Aq 1 b fun z=>Th x c d j k l m n o p q r y s a t u z v)
def TO (a b:AA) (c:H) (l:V) (d e f g:AA) (h:Aa) (m n o p q r s:V):O :=
 Ab [] a b (Ae 3 l c fun t i=>Ab [(a,b),(d,[]),(e,f),(g,[])] i [] (Ai [] false false h 42 [t,.fv (.int .i64 2)] c fun u v j k=>Ab [] j k (VL m h v n o u j k i a b d e f g p q r s)))
def S8 (a:Aa) (g:H) (h i j:V) (d:AA) (k l m n o p:V):O :=
 Ai [] false false a 96 [h,.fv (.int .i64 1),i] g fun q e b c=>Ab [] b c (Ae 3 j e fun r f=>Ab [(b,c),(d,[])] f [] (Ai [] false false a 28 [r,.fv (.int .i64 1),.fv (.int .i64 0)] e fun s t u v=>TO u v t k f b c d a l q s m n o p))
def SY (m:V) (a:H) (b d:V) (e:Aa) (f g c h i j:V):O :=
 AO EE 3 m (.fv (.int .i64 0)) fun n=>Aj n (Ae 3 b a fun o k=>Ab [] k [] (VI a d k e f g o b c h i j)) (Ae 3 c a fun p l=>Ab [] l [] (S8 e a g p b l d f c h i j))
def Vp (e:H) (a f b:V) (c:Aa) (g h i j k l:V):O :=
 Ad 3 a f e fun d m n=>Ab [] m n (Af 1 b fun o=>Ak o d fun p _=>Ai [] false false c 41 [p,.fv (.int .i64 3)] d fun q r _ _=>SY q r g b c h i j a k l)
def Tk (a b:AA) (c:V) (d:H) (e f g h:AA) (i:V) (j:Aa) (k l m n o:V):O :=
 Ab [] a b (Aq 0 c fun p=>Aq 1 c fun q=>Ay 104859658 (.row [.fv (.int .i64 0),.fv (.int .i64 0),.nils] false) (.ptr (.own 104859658) 0) d fun r s t u=>Ab [(a,b),(e,f),(g,[]),(h,[])] t u (Vp s r p i j k l m n q o))
def VS (c a:AA) (b:Aa) (h:H) (i d e j k l m n:V):O :=
 Ab [(a,[])] c [] (Ai [] false false b 42 [i,.fv (.int .i64 1)] h fun o p f g=>Ab [(a,[])] f g (Bd EE 3 d (.fv (.int .i64 2)) fun q=>Ai [] false false b 70 [e,j,o,q] p fun r s t u=>Tk t u r s f g c a k b l d e m n))
def U9 (e:H) (f c:V) (g:Aa) (h i j k:V):O :=
 Ay 104858628 (.row [.fv (.int .i64 0),.fv (.int .i64 0),.nils] false) (.ptr (.own 104858628) 0) e fun a l _ _=>Ad 3 a f l fun b _ _=>Ae 3 a b fun m d=>Ab [] d [] (Ae 3 c b fun n o=>VS o d g b n h i m c j a k)
def S100 (a:Aa) (n:Nat) (b e f g:V) (h:H):O :=
 AR 104857600 e h fun i j _ _=>AR 104857601 f j fun c k _ _=>Ay 104857602 (.row [.fv (.int .i64 0),.fv (.int .i64 0),.nils] false) (.ptr (.own 104857602) 0) k fun l d _ _=>Ae 3 c d fun m _=>Ai [] false false a 42 [m,.fv (.int .i64 0)] d fun o p _ _=>Ai [] false false a 69 [b,o,.fv (.int .i64 1)] p fun q r _ _=>U9 r q c a g b i l
theorem Am6 (a:Aa) (n:Nat) (b c d e:V) (f:H):Ax EE a ft.get n 100 [b,c,d,e] f=S100 a n b c d e f:=by kernel_rfl
def Vg (b c:AA) (a:H) (d e:V):O :=
 Ab [] b c (Ap true 3 d a fun f=>Ao [f,e] a)
def VN (a:H) (b f g c h:V):O :=
 Ac b true a (fun i=>i f a [] []) fun j d _ _=>AI b j (.fv (.bool false)) fun e=>Ac e true d (fun k=>k g d [] []) fun l m _ _=>AI e l (.fv (.bool false)) fun n=>Ad 3 c h m fun o p q=>Vg p q o c n
def TX (a b c d e f:AA) (g:H) (h i j k:V) (l:Aa) (m n o p:V):O :=
 Ab [(b,[]),(c,[]),(d,e),(f,[])] a [] (AE (An EE 28 4 [(0,h),(1,i),(2,j),(3,k)]) 105911301 g fun q r s t=>Ab [] s t (Ai [] false false l 30 [.fv (.int .i64 13),q] r fun u v w x=>Ab [] w x (VN v m n o p u)))
def Uz (a:H) (g:V) (b c d:AA) (h i j:V) (k:Aa) (l m n o:V):O :=
 Ae 3 g a fun p e=>Ab [(b,c),(d,[])] e [] (Ae 3 h a fun q f=>Ab [(e,[]),(b,c),(d,[])] f [] (Ae 3 i a fun r s=>TX s f e b c d a j p q r k l m n o))
def Vc (f g:AA) (a:H) (h:V) (b:Aa) (i j k l m n o:V):O :=
 Ab [] f g (Ae 3 h a fun p c=>Ab [] c [] (Ai [] false false b 28 [p,.fv (.int .i64 1),.fv (.int .i64 0)] a fun q r d e=>Ab [] d e (Uz r i d e c j k q b l m n o)))
def T7 (a:V) (c:H) (d e f g h i j k l m n o p q r s t:AA) (u:V) (v:Aa) (w x y z A:V):O :=
 Aq 0 a fun B=>Aq 1 a fun C=>Ay 105910288 (.row [.fv (.int .i64 0),.fv (.int .i64 0),.nils] false) (.ptr (.own 105910288) 0) c fun b D E F=>Ab [(d,e),(f,g),(h,[]),(i,j),(k,[]),(l,m),(n,o),(p,[]),(q,r),(s,t)] E F (Ad 3 b B D fun G I J=>Vc I J G u v w b x y z C A)
def VW (a:Aa) (f:H) (g h i j:V) (k l m n o p q r s t u v w:AA) (x y z A B C:V):O :=
 Ai [] false false a 42 [g,.fv (.int .i64 2)] f fun D E b c=>Ab [] b c (Bd EE 3 h (.fv (.int .i64 2)) fun F=>Ai [] false false a 70 [i,j,D,F] E fun G I d e=>Ab [] d e (T7 G I d e b c k l m n o p q r s t u v w x a y z A B C))
def TN (a b c d e f g h i j:AA) (m:Aa) (p:H) (q r s t u v w x y z:V):O :=
 Ab [(b,c),(d,e),(f,[]),(g,h),(i,j)] a [] (Ai [] false false m 28 [q,.fv (.int .i64 2),.fv (.int .i64 0)] p fun A n k l=>Ab [] k l (Ae 3 r n fun B o=>Ab [(k,l),(a,[]),(b,c),(d,e),(f,[]),(g,h),(i,j)] o [] (VW m n B s t A o k l a b c d e f g h i j u v w x y z)))
def Wk (a:Aa) (h:H) (i j b:V) (k l m n o:AA) (p q r s t u v:V):O :=
 Ai [] false false a 28 [i,.fv (.int .i64 1),.fv (.int .i64 0)] h fun w x c d=>Ab [] c d (Ai [] false false a 96 [j,.fv (.int .i64 1),w] x fun y e f g=>Ab [] f g (Ae 3 b e fun z A=>TN A f g c d k l m n o a e z p q y b r s t u v))
def Uk (a b:AA) (e:Aa) (i:H) (j k f l m n o p q r:V):O :=
 Ab [] a b (Ai [] false false e 96 [j,.fv (.int .i64 1),k] i fun s g c d=>Ab [] c d (Ae 3 f g fun t h=>Ab [(c,d),(a,b)] h [] (Wk e g t s f h c d a b l m n o p q r)))
def Ua (c:H) (d e f g h i:AA) (j:V) (a:Aa) (k l m n o p q r:V):O :=
 Ay 105909258 (.row [.fv (.int .i64 0),.fv (.int .i64 0),.nils] false) (.ptr (.own 105909258) 0) c fun b s t u=>Ab [(d,e),(f,g),(h,[]),(i,[])] t u (Ad 3 b j s fun v w x=>Ab [] w x (Ai [] false false a 99 [] v fun y z A B=>Uk A B a z k y l m n b o p q r))
def SL (a:V) (b:Aa) (g:H) (c h i:V) (j k l m:AA) (n o p q r:V):O :=
 Bd EE 3 a (.fv (.int .i64 2)) fun s=>Ai [] false false b 70 [c,h,i,s] g fun d t e f=>Ab [] e f (Aq 0 d fun u=>Aq 1 d fun v=>Ua t e f j k l m u b c n o a p q v r)
def Up (a:AA) (b:H) (c:V) (d:Aa) (h i j k l m n:V):O :=
 Ab [] a [] (Ae 3 c b fun o e=>Ab [(a,[])] e [] (Ai [] false false d 42 [o,.fv (.int .i64 1)] b fun p q f g=>Ab [(a,[])] f g (SL h d q i j p f g e a k c l m n)))
def Vl (d:H) (e f g h i j k:AA) (l a m:V) (n:Aa) (o p q r:V):O :=
 Ay 105908234 (.row [.fv (.int .i64 0),.fv (.int .i64 0),.nils] false) (.ptr (.own 105908234) 0) d fun b s t u=>Ab [(e,f),(g,h),(i,[]),(j,k)] t u (Ad 3 b l s fun c v w=>Ab [] v w (Ae 3 a c fun x y=>Up y c m n o p x a b q r))
def TT (a:V) (b:Aa) (g:H) (c h i:V) (j k l m n:AA) (o p q:V):O :=
 Bd EE 3 a (.fv (.int .i64 2)) fun r=>Ai [] false false b 70 [c,h,i,r] g fun d s e f=>Ab [] e f (Aq 0 d fun t=>Aq 1 d fun u=>Vl s e f j k l m n t o p b a c u q)
def TP (a b:AA) (c:H) (d:V) (e:Aa) (i j k l m:V):O :=
 Ab [] a b (Ae 3 d c fun n f=>Ab [(a,b)] f [] (Ai [] false false e 42 [n,.fv (.int .i64 0)] c fun o p g h=>Ab [] g h (TT i e p j k o g h f a b l d m)))
def Wc (c:Aa) (d:H) (e a f:V):O :=
 Ai [] false false c 30 [.fv (.int .i64 12),e] d fun g h _ _=>Ad 3 a g h fun b _ _=>Ap true 3 a b fun i=>Ao [i,f] b
def TA (c d e f g h i j:AA) (k:H) (a l:V) (m:Aa) (n o:V):O :=
 Ab [(e,f),(g,h),(i,[]),(j,[])] c d (Ad 3 a l k fun b p q=>Ab [] p q (Ae 3 a b fun r _=>AE (An EE 28 1 [(0,r)]) 105916417 b fun s t _ _=>Wc m t s n o))
def TQ (a:Aa) (e:H) (f g h i:V) (j k l m:AA) (n:V):O :=
 Ai [] false false a 70 [f,g,h,i] e fun b o c d=>Ab [] c d (Aq 0 b fun p=>Aq 1 b fun q=>Ay 105915402 (.row [.fv (.int .i64 0),.fv (.int .i64 0),.nils] false) (.ptr (.own 105915402) 0) o fun r s t u=>TA t u c d j k l m s r p a n q)
def TC (b:H) (g:V) (a:AA) (c:Aa) (h i j k:V):O :=
 Ae 3 g b fun l d=>Ab [(a,[])] d [] (Ai [] false false c 42 [l,.fv (.int .i64 0)] b fun m n e f=>Ab [(a,[])] e f (Bd EE 3 h (.fv (.int .i64 1)) fun o=>TQ c n i j m o e f d a k))
def Wf (a:Aa) (d:H) (e b:V):O :=
 Ai [] false false a 41 [e,.fv (.int .i64 4)] d fun f g _ _=>Ai [] false false a 115 [f] g fun h i _ _=>Ad 3 b h i fun c _ _=>Ap true 3 b c fun j=>Ao [j,.fv (.bool true)] c
def Tr (f:V) (a:H) (g b:V) (c:Aa) (h i d:V):O :=
 Aj f (Ae 3 g a fun j e=>Ab [] e [] (TC a b e c h i j d)) (Af 1 b fun k=>Ak k a fun l _=>Wf c a l d)
def Uq (c:H) (a d:V) (e:Aa) (h i j k:V):O :=
 Ac a true c (fun l=>Af 0 d fun m=>l m c [] []) fun n b _ _=>Ac a true b (fun o=>Ak n b fun p q=>o p b q []) fun r f _ _=>Ac a true f (fun s=>Ai [] false false e 41 [r,.fv (.int .i64 2)] f s) fun t g _ _=>Ac a true g (fun u=>AO EE 3 t (.fv (.int .i64 1)) fun v=>u v g [] []) fun w x _ _=>AI a w (.fv (.bool false)) fun y=>Tr y x h d e i j k
def UK (c d:V) (e:H) (a f:V):O :=
 AI c d (.fv (.bool false)) fun g=>Ad 3 a f e fun b h i=>Ab [] h i (Ap true 3 a b fun j=>Ao [j,g] b)
def US (c:H) (d e:V) (f g h:AA) (i:Aa) (j a k l:V):O :=
 AE (An EE 28 2 [(0,d),(1,e)]) 105922566 c fun m n o p=>Ab [(f,g),(h,[])] o p (Ai [] false false i 30 [j,m] n fun q b r s=>Ab [] r s (Ac a true b (fun t=>t k b [] []) fun u v _ _=>UK a u v l q))
def VO (f:V) (a:H) (g:V) (b c d:AA) (h:V) (i:Aa) (j k l:V):O :=
 Bv EE 3 (.fv (.int .i64 16)) f fun m=>Ae 3 g a fun n e=>Ab [(b,c),(d,[])] e [] (Ae 3 h a fun o p=>Ab [(e,[]),(b,c),(d,[])] p [] (US a n o b c d i m j k l))
def VM (f:V) (a:H) (b:Aa) (g h i j k:V):O :=
 Af 1 f fun l=>Ak l a fun m c=>Ab [] c [] (Ai [] false false b 41 [m,.fv (.int .i64 2)] a fun n o d e=>Ab [] d e (VO n o g d e c h b i j k))
def Ur (b:V) (c:H) (d e f g h i:AA) (j k:V) (l:Aa) (m n o:V):O :=
 Aq 1 b fun p=>Ay 105921546 (.row [.fv (.int .i64 0),.fv (.int .i64 0),.nils] false) (.ptr (.own 105921546) 0) c fun a q r s=>Ab [(d,e),(f,g),(h,[]),(i,[])] r s (Ad 3 a j q fun t u v=>Ab [] u v (VM k t l m a n p o))
def VC (a b c:AA) (h:V) (d:Aa) (i:H) (j k l:V) (m:AA) (n o p q:V):O :=
 Ab [(c,[])] a b (Bd EE 3 h (.fv (.int .i64 1)) fun r=>Ai [] false false d 70 [j,k,l,r] i fun e s f g=>Ab [] f g (Aq 0 e fun t=>Ur e s f g a b m c t n d o p q))
def Tg (a:H) (f c:V) (d:Aa) (g h i j k:V):O :=
 Ae 3 f a fun l b=>Ab [] b [] (Ae 3 c a fun m e=>Ab [(b,[])] e [] (Ai [] false false d 42 [m,.fv (.int .i64 1)] a fun n o p q=>VC p q b g d o h l n e c i j k))
def Td (b:V) (c:H) (d e f g h i:AA) (j k l:V) (m:Aa) (n o p:V):O :=
 Aq 1 b fun q=>Ay 105920522 (.row [.fv (.int .i64 0),.fv (.int .i64 0),.nils] false) (.ptr (.own 105920522) 0) c fun a r s t=>Ab [(d,e),(f,g),(h,[]),(i,[])] s t (Ad 3 a j r fun u v w=>Ab [] v w (Tg u k l m n o a q p))
def U2 (a b c:AA) (d:V) (e:Aa) (j:H) (f k l:V) (m:AA) (n o p:V):O :=
 Ab [(c,[])] a b (Bd EE 3 d (.fv (.int .i64 1)) fun q=>Ai [] false false e 70 [f,k,l,q] j fun g r h i=>Ab [] h i (Aq 0 g fun s=>Td g r h i a b m c s n o e d f p))
def VA (a:H) (c d:V) (e:Aa) (g h i:V):O :=
 Ae 3 c a fun j b=>Ab [] b [] (Ae 3 d a fun k f=>Ab [(b,[])] f [] (Ai [] false false e 42 [k,.fv (.int .i64 0)] a fun l m n o=>U2 n o b g e m h j l f c d i))
def T9 (c:Aa) (d:H) (a:V):O :=
 Ai [] false false c 30 [.fv (.int .i64 15),.nils] d fun e f _ _=>Ad 3 a e f fun b _ _=>Ap true 3 a b fun g=>Ao [g,.fv (.bool true)] b
def SG (b:H) (a h:V) (c:Aa) (i j k l d:V):O :=
 Ac a true b (fun m=>Ak h b fun n o=>m n b o []) fun p e _ _=>Ac a true e (fun q=>Ai [] false false c 41 [p,.fv (.int .i64 5)] e q) fun r f _ _=>Ac a true f (fun s=>LN EE 3 r (.fv (.int .i64 1)) fun t=>s t f [] []) fun u g _ _=>AI a u (.fv (.bool false)) fun v=>Aj v (VA g i j c k l d) (T9 c g d)
def Vm (c:V) (d:Aa) (e:H) (a:V):O :=
 Bd EE 3 c (.fv (.int .i64 1)) fun f=>Ai [] false false d 60 [f] e fun g h _ _=>Ad 3 a g h fun b _ _=>Ap true 3 a b fun i=>Ao [i,.fv (.bool true)] b
def Vi (a:H) (b c:V):O :=
 Ap true 3 b a fun d=>Ao [d,c] a
def SR (d e:AA) (a:H) (b f c g:V):O :=
 Ab [] d e (Ac b true a (fun h=>h f a [] []) fun i j _ _=>AI b i (.fv (.bool false)) fun k=>Ad 3 c g j fun l m n=>Ab [] m n (Vi l c k))
def Vn (a:H) (e:V) (f b c d:AA) (g:V) (h:Aa) (i j k l:V):O :=
 Ae 3 e a fun m n=>Ab [(f,[]),(b,[]),(c,d)] n [] (AE (An EE 28 2 [(0,g),(1,m)]) 105930759 a fun o p q r=>Ab [(b,[]),(c,d)] q r (Ai [] false false h 30 [i,o] p fun s t u v=>SR u v t j k l s))
def T8 (f g:V) (a:H) (h:V) (c d:AA) (i:V) (j:Aa) (k l m:V):O :=
 AP 1 f g fun n=>Ak n a fun o b=>Ab [] b [] (Ae 3 h a fun p e=>Ab [(b,[]),(c,d)] e [] (Vn a i e b c d p j o k l m))
def Vv (d:H) (a e f g:V) (h:Aa) (i j k:V):O :=
 Ad 3 a e d fun l m n=>Ab [] m n (AE (An EE 51 2 [(0,.fv (.int .i64 3)),(1,.fv (.int .i64 6))]) 105930752 l fun o p b c=>Ab [] b c (Bd EE 3 f (.fv (.int .i64 2)) fun q=>T8 o q p g b c a h i j k))
def Vx (a b:AA) (c:V) (d:H) (e f g h i j k:AA) (l m:V) (n:Aa) (o p:V):O :=
 Ab [] a b (Aq 0 c fun q=>Aq 1 c fun r=>Ay 105929740 (.row [.fv (.int .i64 0),.fv (.int .i64 0),.nils] false) (.ptr (.own 105929740) 0) d fun s t u v=>Ab [(a,b),(e,f),(g,[]),(h,[]),(i,j),(k,[])] u v (Vv t s q l m n o r p))
def U8 (c a d e f:AA) (b:Aa) (i:H) (j k l m n o p q:V):O :=
 Ab [(a,[]),(d,e),(f,[])] c [] (Ai [] false false b 42 [j,.fv (.int .i64 1)] i fun r s g h=>Ab [(a,[])] g h (Bd EE 3 k (.fv (.int .i64 1)) fun t=>Ai [] false false b 70 [l,m,r,t] s fun u v w x=>Vx w x u v g h c a d e f n o b p q))
def VE (d:Aa) (g:H) (h i j:V) (e:AA) (k l m n o p:V):O :=
 Ai [] false false d 96 [h,.fv (.int .i64 1),i] g fun q a b c=>Ab [] b c (Ae 3 j a fun r f=>Ab [(b,c),(e,[])] f [] (Ae 3 k a fun s t=>U8 t f b c e d a s l q r m n o p))
def TS (d e f g h i j k:AA) (l:H) (a m:V) (n:Aa) (o p q r s t u:V):O :=
 Ab [(f,g),(h,i),(j,[]),(k,[])] d e (Ad 3 a m l fun b v w=>Ab [] v w (Ae 3 a b fun x c=>Ab [] c [] (VE n b o x p c q r s a t u)))
def UJ (a:Aa) (f:H) (b g h i:V) (j k l m:AA) (n o p q r:V):O :=
 Ai [] false false a 70 [b,g,h,i] f fun c s d e=>Ab [] d e (Aq 0 c fun t=>Aq 1 c fun u=>Ay 105928714 (.row [.fv (.int .i64 0),.fv (.int .i64 0),.nils] false) (.ptr (.own 105928714) 0) s fun v w x y=>TS x y d e j k l m w v t a b n o p q u r)
def Vb (b:H) (c:V) (a:AA) (d:Aa) (e i j k l m:V):O :=
 Ae 3 c b fun n f=>Ab [(a,[])] f [] (Ai [] false false d 42 [n,.fv (.int .i64 0)] b fun o p g h=>Ab [(a,[])] g h (Bd EE 3 e (.fv (.int .i64 1)) fun q=>UJ d p i j o q g h f a k c e l m))
def U0 (a:H) (b:V):O :=
 Ap true 3 b a fun c=>Ao [c,.fv (.bool true)] a
def Tv (c d:V) (a:H) (b:V):O :=
 AP 3 c d fun e=>Ae 3 e a fun f g=>Ab [] g [] (Ad 3 b f a fun h i j=>Ab [] i j (U0 h b))
def UA (d:V) (a:H) (b c e f g h i j k l m n:AA) (o:Aa) (p q:V):O :=
 Af 1 d fun r=>Ak r a fun s t=>Ab [(b,c),(e,f),(g,h),(i,j),(k,l),(m,n)] t [] (Ai [] false false o 41 [s,.fv (.int .i64 3)] a fun u v w x=>Ab [(b,c)] w x (Tv p u v q))
def Ti (a b:AA) (c:Aa) (h:H) (i j k l:V) (m n o p q r:AA) (s:V):O :=
 Ab [] a b (Ai [] false false c 30 [.fv (.int .i64 18),i] h fun t u d e=>Ab [] d e (AE (An EE 28 3 [(0,j),(1,k),(2,t)]) 105931781 u fun v w f g=>Ab [] f g (UA l w f g d e a b m n o p q r c v s)))
def U6 (a:Aa) (f:H) (g h:V) (i j:AA) (k:V):O :=
 Ai [] false false a 30 [.fv (.int .i64 14),.nils] f fun l m b c=>Ab [] b c (Ai [] false false a 30 [.fv (.int .i64 15),.nils] m fun n o d e=>Ab [] d e (AE (An EE 28 1 [(0,n)]) 105931779 o fun p q r s=>Ti r s a q p g l h d e b c i j k))
def Ul (i:V) (a:H) (c d:V) (b:Aa) (j k l e:V):O :=
 Aj i (Ae 3 c a fun m f=>Ab [] f [] (Vb a d f b j k m c l e)) (Ai [] false false b 99 [] a fun n o g h=>Ab [] g h (U6 b o n d g h e))
def Vh (b:Aa) (g:H) (h c i j k l:V):O :=
 Ai [] false false b 41 [h,.fv (.int .i64 4)] g fun d e _ _=>LN EE 3 c (.fv (.int .i64 0)) fun a=>Ac a true e (fun m=>m d e [] []) fun n f _ _=>Ac a true f (fun o=>LN EE 3 n (.fv (.int .i64 1)) fun p=>o p f [] []) fun q r _ _=>AI a q (.fv (.bool false)) fun s=>Ul s r i j b c k d l
def Ux (f b:V) (a:H) (c:Aa) (d e g h:V):O :=
 LN EE 3 f (.fv (.int .i64 0)) fun i=>Aj i (Af 1 b fun j=>Ak j a fun k _=>Vm k c a d) (Af 0 e fun l=>Ak l a fun m _=>Vh c a m g b e h d)
def UH (i b:V) (a:H) (c:V) (e:Aa) (d f g:V):O :=
 Aj i (LN EE 3 b (.fv (.int .i64 0)) fun h=>Ac h true a (fun j=>Af 0 c fun k=>j k a [] []) fun l m _ _=>SG m h l e d c b f g) (Af 1 d fun n=>Ak n a fun o _=>Ux o d a e g c b f)
def UZ (a:H) (i b c:V) (d:Aa) (e f g:V):O :=
 Ak i a fun h _=>AO EE 3 h (.fv (.int .i64 10)) fun j=>Aj j (LN EE 3 b (.fv (.int .i64 0)) fun k=>Uq a k c d e b f g) (AO EE 3 h (.fv (.int .i64 14)) fun l=>UH l b a c d e f g)
def Wi (c:H) (d j:V) (a:Aa) (e f g b h:V):O :=
 Ac d true c (fun k=>Ck EE 3 j (.fv (.int .i64 2)) fun l=>k l c [] []) fun m i _ _=>AI d m (.fv (.bool false)) fun n=>Aj n (Ai [] false false a 99 [] i fun o p q r=>TP q r p e a f g o b h) (Af 0 b fun s=>UZ i s f e a b g h)
def Tx (d:H) (a:V) (e:Aa) (i f j k l m:V):O :=
 Ac a true d (fun n=>Ai [] false false e 41 [i,.fv (.int .i64 5)] d n) fun o g _ _=>Ac a true g (fun p=>AO EE 3 o (.fv (.int .i64 4)) fun q=>p q g [] []) fun r h _ _=>AI a r (.fv (.bool false)) fun b=>Ac b true h (fun s=>Af 0 f fun t=>s t h [] []) fun u c _ _=>Ac b true c (fun v=>Ak u c fun w x=>v w c x []) fun y z _ _=>Wi z b y e j k l f m
def S101 (f:Aa) (n:Nat) (g h i c:V) (j:H):O :=
 AR 105906176 h j fun k l _ _=>AR 105906177 i l fun d m _ _=>Ay 105906178 (.row [.fv (.int .i64 0),.fv (.int .i64 0),.nils] false) (.ptr (.own 105906178) 0) m fun o e _ _=>LN EE 3 c (.fv (.int .i64 0)) fun a=>Ac a true e (fun p=>Af 0 d fun q=>p q e [] []) fun r b _ _=>Ac a true b (fun s=>Ak r b fun t u=>s t b u []) fun v w _ _=>Tx w a f v k d c g o
theorem Apd (a:Aa) (n:Nat) (b c d e:V) (f:H):Ax EE a ft.get n 101 [b,c,d,e] f=S101 a n b c d e f:=by kernel_rfl
def Sx (b c:V) (a:H) (d e:V):O :=
 AI b (.fv (.bool true)) c fun f=>Aj f (Ao [.fv (.int .i64 (-1))] a) (ixA 31 1 d e fun g=>Ak g a fun h _=>Ao [h] a)
def AgO (q:Aa) (n:Nat) (a:V) (f:H):O :=
 AE (L9 EE 136 [(0,.fv (.int .i64 (-1))),(1,.fv (.int .i64 0)),(2,.fv (.int .i64 0)),(3,.fv (.int .i64 2)),(4,.fv (.int .i64 2)),(5,.fv (.int .i64 2)),(6,.fv (.int .i64 2)),(7,.fv (.int .i64 3)),(8,.fv (.int .i64 1)),(9,.fv (.int .i64 1)),(10,.fv (.int .i64 0)),(11,.fv (.int .i64 0)),(12,.fv (.int .i64 1)),(13,.fv (.int .i64 4)),(14,.fv (.int .i64 0)),(15,.fv (.int .i64 0)),(16,.fv (.int .i64 2)),(17,.fv (.int .i64 2)),(18,.fv (.int .i64 1)),(19,.fv (.int .i64 1)),(20,.fv (.int .i64 2)),(21,.fv (.int .i64 2)),(22,.fv (.int .i64 2)),(23,.fv (.int .i64 1)),(24,.fv (.int .i64 1)),(25,.fv (.int .i64 0)),(26,.fv (.int .i64 2)),(27,.fv (.int .i64 3)),(28,.fv (.int .i64 2)),(29,.fv (.int .i64 2)),(30,.fv (.int .i64 1))]) 106955776 f fun g h _ _=>Ay 106955777 (.row [.fv (.int .i64 0),.fv (.int .i64 0),.fv (.int .i64 0),.fv (.int .i64 0),.fv (.int .i64 0),.fv (.int .i64 0),.fv (.int .i64 0),.fv (.int .i64 0),.fv (.int .i64 0),.fv (.int .i64 0),.fv (.int .i64 0),.fv (.int .i64 0),.fv (.int .i64 0),.fv (.int .i64 0),.fv (.int .i64 0),.fv (.int .i64 0),.fv (.int .i64 0),.fv (.int .i64 0),.fv (.int .i64 0),.fv (.int .i64 0),.fv (.int .i64 0),.fv (.int .i64 0),.fv (.int .i64 0),.fv (.int .i64 0),.fv (.int .i64 0),.fv (.int .i64 0),.fv (.int .i64 0),.fv (.int .i64 0),.fv (.int .i64 0),.fv (.int .i64 0),.fv (.int .i64 0)] false) (.ptr (.own 106955777) 0) h fun c i _ _=>Ad 31 c g i fun d _ _=>GC EE 123 a (.fv (.int .i64 0)) fun b=>Ac b false d (fun j=>j a d [] []) fun k e _ _=>Ac b false e (fun l=>Tz EE 3 k (.fv (.int .i64 31)) fun m=>l m e [] []) fun o p _ _=>Sx b o p c a
theorem Al5 (a:Aa) (n:Nat) (b:V) (c:H):Ax EE a ft.get n 102 [b] c=AgO a n b c:=by kernel_rfl
def Abe (a:H) (b c:V):O :=
 Ac b true a (fun d=>leS EE 3 c (.fv (.int .i64 3000)) fun e=>d e a [] []) fun f g _ _=>AI b f (.fv (.bool false)) fun h=>Ao [h] g
def Ad3 (b:V) (c:H):O :=
 Tz EE 3 b (.fv (.int .i64 0)) fun a=>Ac a true c (fun e=>e b c [] []) fun f d _ _=>Ac a true d (fun g=>leS EE 3 f (.fv (.int .i64 2)) fun h=>g h d [] []) fun i j _ _=>AI a i (.fv (.bool false)) fun k=>Ao [k] j
def Yi (a:H) (b c:V):O :=
 Ac b true a (fun d=>leS EE 3 c (.fv (.int .i64 4)) fun e=>d e a [] []) fun f g _ _=>AI b f (.fv (.bool false)) fun h=>Ao [h] g
def Aa2 (a:V) (b:H):O :=
 AO EE 3 a (.fv (.int .i64 0)) fun c=>Ao [c] b
def Ab6 (c b:V) (a:H):O :=
 AO EE 3 c (.fv (.int .i64 26)) fun e=>Aj e (Tz EE 3 b (.fv (.int .i64 0)) fun d=>Ac d true a (fun f=>f b a [] []) fun g h _ _=>Yi h d g) (AO EE 3 c (.fv (.int .i64 25)) fun i=>Aj i (Ao [.fv (.bool true)] a) (Aa2 b a))
def S103 (j:Aa) (n:Nat) (c a:V) (b:H):O :=
 AO EE 3 c (.fv (.int .i64 1)) fun e=>Aj e (Tz EE 3 a (.fv (.int .i64 0)) fun d=>Ac d true b (fun f=>f a b [] []) fun g h _ _=>Abe h d g) (AO EE 3 c (.fv (.int .i64 2)) fun i=>Aj i (Ad3 a b) (Ab6 c a b))
theorem AlN (a:Aa) (n:Nat) (b c:V) (d:H):Ax EE a ft.get n 103 [b,c] d=S103 a n b c d:=by kernel_rfl
def MA (a:H) (b d:V) (e:Aa) (f:V):O :=
 Ac b true a (fun g=>Ak d a fun h i=>g h a i []) fun j c _ _=>Ac b true c (fun k=>Ai [] false false e 116 [f,j,.fv (.func (.func 104) [] [])] c k) fun l m _ _=>AI b l (.fv (.bool false)) fun n=>Ao [n] m
def Ma (c:H) (d g h i j:V) (k:Aa):O :=
 Ac d true c (fun l=>AO EE 3 g h fun m=>l m c [] []) fun n e _ _=>AI d n (.fv (.bool false)) fun a=>Ac a true e (fun o=>Af 2 i fun p=>o p e [] []) fun q b _ _=>Ac a true b (fun r=>Ak q b fun s t=>r s b t []) fun u f _ _=>Ac a true f (fun v=>Af 2 j fun w=>v w f [] []) fun x y _ _=>MA y a x k u
def Mk (h i:V) (d:H) (e f:V) (j:Aa):O :=
 AO EE 3 h i fun a=>Ac a true d (fun k=>Af 1 e fun l=>k l d [] []) fun m b _ _=>Ac a true b (fun n=>Ak m b fun o p=>n o b p []) fun q g _ _=>Ac a true g (fun r=>Af 1 f fun s=>r s g [] []) fun t c _ _=>Ac a true c (fun u=>Ak t c fun v w=>u v c w []) fun x y _ _=>Ma y a q x e f j
def WA (d:Aa) (n:Nat) (e f:V) (g:H):O :=
 AR 109051904 e g fun b h _ _=>AR 109051905 f h fun c a _ _=>Af 0 b fun i=>Ak i a fun j _=>Af 0 c fun k=>Ak k a fun l _=>Mk j l a b c d
theorem AmY (a:Aa) (n:Nat) (b c:V) (d:H):Ax EE a ft.get n 104 [b,c] d=WA a n b c d:=by kernel_rfl
def QV (a:H) (d b e:V):O :=
 Ae 3 d a fun f _=>Ad 3 b f a fun c _ _=>Ap true 3 b c fun g=>Ao [g,e] c
def Ru (a:Aa) (b:H) (c:V) (d:V->H->O):O :=
 Ai [] false false a 49 [c] b fun e f _ _=>d e f
def AgW (e:Aa) (n:Nat) (f b:V) (g:H):O :=
 AR 110100480 f g fun c h _ _=>Ay 110100481 (.row [.fv (.int .i64 0),.fv (.int .i64 0),.nils] false) (.ptr (.own 110100481) 0) h fun i a _ _=>(fun (d:V->H->O)=>AO EE 35 b (.fv (.int .i64 0)) fun j=>Aj j (Ae 3 c a fun k _=>Ru e a k d) (d b a)) fun l m=>QV m c i l
theorem Alz (a:Aa) (n:Nat) (b c:V) (d:H):Ax EE a ft.get n 105 [b,c] d=AgW a n b c d:=by kernel_rfl
def AiO (g:Aa) (n:Nat) (a:V) (b:H):O :=
 BF a fun c=>BF a fun d=>AE (Jb EE 78 a none (some c) (some d)) 111150085 b fun e f _ _=>Ao [e] f
theorem AlF (a:Aa) (n:Nat) (b:V) (c:H):Ax EE a ft.get n 106 [b] c=AiO a n b c:=by kernel_rfl
def Ail (h:Aa) (n:Nat) (a:V) (b:H):O :=
 AO EE 78 a .nils fun c=>Aj c (Ao [.nils] b) (AE (An EE 78 0 []) 112200704 b fun d e _ _=>AE (AJ EE 112200706 false .append [78,78] [d,a]) 112200706 e fun f g _ _=>Ao [f] g)
theorem AnV (a:Aa) (n:Nat) (b:V) (c:H):Ax EE a ft.get n 107 [b] c=Ail a n b c:=by kernel_rfl
def MC (a:H) (b c d:V):O :=
 Ap true 3 b a fun e=>Ao [c,e,d] a
def Mf (d:H) (a b e:V):O :=
 BJ [.fv (.int .i64 0),.fv (.int .i64 0),.nils] [] fun f=>BJ [.fv (.int .i64 0),.fv (.int .i64 0),.nils] [] fun g=>Ad 3 a f d fun h _ _=>Ad 3 b g h fun c _ _=>Ap true 3 a c fun i=>MC c b i e
def ME (d:H) (b e c:V):O :=
 BJ [.fv (.int .i64 0),.fv (.int .i64 0),.nils] [] fun f=>Ad 3 b e d fun g _ _=>Ad 3 c f g fun a _ _=>Ap true 3 b a fun h=>Ap true 3 c a fun i=>Ao [h,i,.fv (.int .i64 12)] a
def Md (a:H) (b c:V):O :=
 Ap true 3 b a fun d=>Ap true 3 c a fun e=>Ao [d,e,.fv (.int .i64 0)] a
def Mn (a d e:AA) (f:H) (b g:V) (h:AA) (c i:V):O :=
 Ab [(d,[]),(e,[])] a [] (Ad 3 b g f fun j k l=>Ab [(a,[]),(h,[])] k l (Ad 3 c i j fun m n o=>Ab [] n o (Md m b c)))
def LU (e:V) (a:H) (b c:AA) (f g h:V):O :=
 Af 2 e fun i=>Ak i a fun j d=>Ab [(b,[]),(c,[])] d [] (AP 3 j (.fv (.int .i64 1)) fun k=>Ae 3 k a fun l m=>Mn m b c a f g d h l)
def L8 (a:H) (d e f g:V):O :=
 Ak d a fun h b=>Ab [] b [] (AP 3 h (.fv (.int .i64 0)) fun i=>Ae 3 i a fun j c=>Ab [] c [] (LU e a c b f j g))
def Mx (a:V) (b:H) (e c d:V):O :=
 Af 0 a fun f=>Ak f b fun g _=>Ck EE 3 g e fun h=>Aj h (BJ [.fv (.int .i64 0),.fv (.int .i64 0),.nils] [] fun i=>ME b c i d) (Af 2 a fun j=>L8 b j a c d)
def L5 (f:V) (g:H) (h a b i:V):O :=
 Aq 1 f fun c=>Ay 113247238 (.row [.fv (.int .i64 0),.fv (.int .i64 0),.nils] false) (.ptr (.own 113247238) 0) g fun d j _ _=>Ad 3 d h j fun e _ _=>Ck EE 35 c (.fv (.int .i64 0)) fun k=>Aj k (Mf e a b c) (Mx d e i a b)
def XZ (c:Aa) (n:Nat) (d e f:V) (g:H):O :=
 AR 113246208 e g fun h i _ _=>Ay 113246209 (.row [.fv (.int .i64 0),.fv (.int .i64 0),.nils] false) (.ptr (.own 113246209) 0) i fun j k _ _=>Ay 113246210 (.row [.fv (.int .i64 0),.fv (.int .i64 0),.nils] false) (.ptr (.own 113246210) 0) k fun l a _ _=>Ae 3 h a fun m _=>Ai [] false false c 53 [d,m] a fun b o _ _=>Aq 0 b fun p=>L5 b o p j l f
theorem Aor (a:Aa) (n:Nat) (b c d:V) (e:H):Ax EE a ft.get n 108 [b,c,d] e=XZ a n b c d e:=by kernel_rfl
def Ahc (j:Aa) (n:Nat) (a b:V) (c:H):O :=
 AE (An EE 129 0 []) 114295808 c fun d e _ _=>AE (AJ EE 114295810 false .append [129,129] [d,a]) 114295810 e fun f g _ _=>AE (AJ EE 114295812 false .append [129,129] [f,b]) 114295812 g fun h i _ _=>Ao [h] i
theorem Anl (a:Aa) (n:Nat) (b c:V) (d:H):Ax EE a ft.get n 109 [b,c] d=Ahc a n b c d:=by kernel_rfl
def Um (a b:AA) (c:H) (d:V):O :=
 Ab [] a b (Ao [d] c)
def TE (c:H) (d:V) (e a:AA) (b:Aa) (f g h:V):O :=
 AE (An EE 129 1 [(0,d)]) 115349519 c fun i j k l=>Ab [(e,[]),(a,[])] k l (Ai [] false false b 109 [f,i] j fun m n o p=>Ab [(a,[])] o p (Ai [true,false,false] false false b 82 [g,h,m] n fun q r s t=>Um s t r q))
def UB (a:H) (d:V) (b c:AA) (e:Aa) (f g h:V):O :=
 Ak d a fun i j=>Ab [(b,[]),(c,[])] j [] (AP 1 i (.fv (.int .i64 1)) fun k=>Ak k a fun l m=>Ab [(b,[]),(c,[])] m [] (TE a l b c e f g h))
def UY (d:V) (a:H) (b:AA) (e:V) (f:Aa) (g h:V):O :=
 Af 3 d fun i=>Ak i a fun j c=>Ab [(b,[])] c [] (A0 e fun k=>Af 2 k fun l=>UB a l c b f j g h)
def Uv (a:V) (b:H) (d:V) (e:Aa) (f:V):O :=
 A0 a fun g=>Af 4 g fun h=>Ae 3 h b fun i c=>Ab [] c [] (A0 a fun j=>UY j b c d e f i)
def T4 (b:V) (a:H) (c:V) (d:Aa) (e:V):O :=
 A0 b fun f=>Af 2 f fun g=>Ak g a fun h _=>AP 1 h (.fv (.int .i64 1)) fun i=>Ak i a fun j _=>Uv j a c d e
def SQ (b:V) (a:H) (c:Aa) (d:V):O :=
 A0 b fun e=>Af 2 e fun f=>Ak f a fun g _=>AP 1 g (.fv (.int .i64 0)) fun h=>Ak h a fun i _=>T4 i a b c d
def V4 (b c:V) (a:H):O :=
 AP 1 b c fun d=>Ak d a fun e f=>Ab [] f [] (Ao [e] a)
def TZ (b:V) (a:H) (c d e:AA) (f:V):O :=
 Af 0 b fun g=>Ak g a fun h i=>Ab [(c,[]),(d,[]),(e,[])] i [] (Bv EE 3 (.fv (.int .i64 1)) h fun j=>Bd EE 3 j (.fv (.int .i64 8)) fun k=>V4 f k a)
def Wo (c:V) (a:H) (d:V) (e f:AA):O :=
 A0 c fun g=>Af 2 g fun h=>Ak h a fun i b=>Ab [] b [] (A0 d fun j=>TZ j a b e f i)
def Uo (a:H) (d e:V):O :=
 Ak d a fun f b=>Ab [] b [] (AP 1 f (.fv (.int .i64 0)) fun g=>Ak g a fun h c=>Ab [] c [] (Wo h a e c b))
def SZ (c:Aa) (d:H) (e a:V) (f:H->O):O :=
 Ai [true] false false c 117 [e] d fun g b _ _=>Aj g (A0 a fun h=>Af 2 h fun i=>Uo b i a) (f b)
def Tt (b:V) (a:H):O :=
 A0 b fun c=>Af 2 c fun d=>Ak d a fun e _=>AP 1 e (.fv (.int .i64 0)) fun f=>Ak f a fun g _=>Ao [g] a
def S5 (b:V) (a:H):O :=
 A0 b fun c=>Af 2 c fun d=>Ak d a fun e _=>AP 1 e (.fv (.int .i64 0)) fun f=>Ak f a fun g _=>Tt g a
def Uu (a:H) (b:V):O :=
 Ak b a fun c _=>AP 1 c (.fv (.int .i64 1)) fun d=>Ak d a fun e _=>Ao [e] a
def Wl (b c:V) (a:H) (d:H->O):O :=
 Aj b (A0 c fun e=>Af 2 e fun f=>Uu a f) (d a)
def V8 (c d e a:AA) (b:Aa) (f:H) (g h i j:V):O :=
 Ab [(e,[]),(a,[])] c d (Ai [] false false b 109 [g,h] f fun k l m n=>Ab [(a,[])] m n (Ai [true,false,false] false false b 82 [i,j,k] l fun o p q r=>Ab [] q r (Ao [o] p)))
def TB (d:V) (a:H) (b:AA) (e f:V) (g:Aa) (h i:V):O :=
 A0 d fun j=>Af 3 j fun k=>Ak k a fun l c=>Ab [(b,[])] c [] (AE (An EE 129 2 [(0,e),(1,f)]) 115365899 a fun m n o p=>V8 o p c b g n l m h i)
def S0 (a:H) (d e f:V) (g:Aa) (h:V):O :=
 Ak d a fun b _=>A0 b fun i=>Af 4 i fun j=>Ae 3 j a fun k c=>Ab [] c [] (TB b a c e f g h k)
def Ub (b c:AA) (d:V) (a:H) (e f:V) (g:Aa) (h:V):O :=
 Ab [] b c (A0 d fun i=>Af 2 i fun j=>Ak j a fun k _=>AP 1 k (.fv (.int .i64 2)) fun l=>S0 a l e f g h)
def Ud (c d:AA) (e:V) (f:H) (a:Aa) (b g h:V):O :=
 Ab [] c d (BJ [.fv (.int .i64 0),.fv (.int .i64 0),.nils,.nils,.fv (.int .i64 0),.fv (.int .i64 0),.nils] [(0,1,.fv (.int .i64 13)),(2,1,e)] fun i=>AR 115363862 i f fun j k l m=>Ab [] l m (Ai [true,false] false false a 110 [b,j] k fun n o p q=>Ub p q g o h n a b))
def Wm (g a b c d:AA) (h:V) (e:H) (i j f:V) (k:Aa) (l m:V):O :=
 Ab [(a,[]),(b,[]),(c,[]),(d,[])] g [] (AP 1 h (.fv (.int .i64 2)) fun n=>Ak n e fun o p=>Ab [(a,[]),(b,[]),(c,[]),(d,[])] p [] (AE (An EE 129 4 [(0,i),(1,j),(2,o),(3,f)]) 115363860 e fun q r s t=>Ud s t q r k l m f))
def Wn (a:H) (f:V) (b c:AA) (d:V) (g:AA) (h i:V) (j:Aa) (k:V):O :=
 Ak f a fun l e=>Ab [(b,[]),(c,[])] e [] (A0 d fun m=>Af 2 m fun n=>Ak n a fun o p=>Wm p e g b c o a h l i j k d)
def TV (a:V) (b:H) (c d:AA) (f g:V) (h:Aa) (i:V):O :=
 A0 a fun j=>Af 2 j fun k=>Ak k b fun l e=>Ab [(c,[]),(d,[])] e [] (AP 1 l (.fv (.int .i64 1)) fun m=>Wn b m c d a e f g h i)
def V0 (a:H) (d e f:V) (g:Aa) (h:V):O :=
 Ak d a fun i b=>Ab [] b [] (AP 1 i (.fv (.int .i64 0)) fun j=>Ak j a fun k c=>Ab [] c [] (TV e a c b k f g h))
def UI (a:H) (c b:V) (d:Aa) (e:V):O :=
 Ak c a fun f _=>AP 1 f (.fv (.int .i64 0)) fun g=>Ak g a fun h _=>A0 b fun i=>Af 2 i fun j=>V0 a j b h d e
def Vq (a:H) (b c:V) (d:Aa) (e:V):O :=
 Ak b a fun f _=>AP 1 f (.fv (.int .i64 3)) fun g=>Ak g a fun h _=>A0 h fun i=>Af 2 i fun j=>UI a j c d e
def U1 (a:Aa) (e:H) (b c:V) (f:H->O):O :=
 Ai [true] false false a 117 [b] e fun g d _ _=>Aj g (A0 c fun h=>Af 2 h fun i=>Vq d i c a b) (f d)
def UQ (c:H) (a g:V) (h:Aa) (i j:V) (d:H->O):O :=
 Ac a true c (fun k=>Af 0 g fun l=>k l c [] []) fun m b _ _=>Ac a true b (fun n=>Ak m b fun o p=>n o b p []) fun q e _ _=>Ac a true e (fun r=>AO EE 3 q (.fv (.int .i64 12)) fun s=>r s e [] []) fun t f _ _=>AI a t (.fv (.bool false)) fun u=>Aj u (U1 h f i j d) (d f)
def SO (d:H) (a g:V) (h:Aa) (i j:V) (k:H->O):O :=
 Ac a true d (fun l=>Af 2 g fun m=>l m d [] []) fun n b _ _=>Ac a true b (fun o=>Ak n b fun p q=>o p b q []) fun r e _ _=>Ac a true e (fun s=>AP 1 r (.fv (.int .i64 3)) fun t=>s t e [] []) fun u c _ _=>Ac a true c (fun v=>Ak u c fun w x=>v w c x []) fun y f _ _=>Ac a true f (fun z=>A0 y fun A=>z A f [] []) fun B C _ _=>UQ C a B h i j k
def UU (e:V) (a:H) (c:V) (f:Aa) (g:V) (h:H->O):O :=
 Af 0 e fun i=>Ak i a fun j _=>AO EE 3 j (.fv (.int .i64 13)) fun b=>Ac b true a (fun k=>k c a [] []) fun l d _ _=>Ac b true d (fun m=>A0 l fun n=>m n d [] []) fun o p _ _=>SO p b o f g c h
def SI (a:H) (b i:V) (d:Aa) (e c:V) (f:H->O):O :=
 Ac b true a (fun j=>Ak i a fun k l=>j k a l []) fun m g _ _=>Ac b true g (fun n=>AO EE 3 m (.fv (.int .i64 11)) fun o=>n o g [] []) fun p h _ _=>AI b p (.fv (.bool false)) fun q=>Aj q (Ai [true] false false d 117 [e] h fun r s _ _=>Wl r c s f) (A0 c fun t=>UU t h c d e f)
def U3 (b:H) (a g:V) (h:Aa) (i j:V) (k:H->O):O :=
 Ac a true b (fun l=>Ak g b fun m n=>l m b n []) fun o d _ _=>Ac a true d (fun p=>AP 1 o (.fv (.int .i64 3)) fun q=>p q d [] []) fun r c _ _=>Ac a true c (fun s=>Ak r c fun t u=>s t c u []) fun v e _ _=>Ac a true e (fun w=>A0 v fun x=>w x e [] []) fun y f _ _=>Ac a true f (fun z=>Af 0 y fun A=>z A f [] []) fun B C _ _=>SI C a B h i j k
def VZ (b:H) (f c:V) (g:Aa) (h:V) (i:H->O):O :=
 Ak f b fun j _=>AO EE 3 j (.fv (.int .i64 13)) fun a=>Ac a true b (fun k=>k c b [] []) fun l d _ _=>Ac a true d (fun m=>A0 l fun n=>m n d [] []) fun o e _ _=>Ac a true e (fun p=>Af 2 o fun q=>p q e [] []) fun r s _ _=>U3 s a r g h c i
def SF (g:V) (b:Aa) (c:H) (d a:V) (e:H->O):O :=
 Aj g (Ai [true] false false b 117 [d] c fun h f _ _=>Aj h (S5 a f) (e f)) (A0 a fun i=>Af 0 i fun j=>VZ c j a b d e)
def Wh (a:H) (b d:V) (e:V->H->O):O :=
 Ac b true a (fun f=>Ak d a fun g h=>f g a h []) fun i c _ _=>Ac b true c (fun j=>AO EE 3 i (.fv (.int .i64 30)) fun k=>j k c [] []) fun l m _ _=>AI b l (.fv (.bool false)) fun n=>e n m
def Vo (b:H) (a g:V) (h:V->H->O):O :=
 Ac a true b (fun i=>Ak g b fun j k=>i j b k []) fun l d _ _=>Ac a true d (fun m=>AP 1 l (.fv (.int .i64 0)) fun n=>m n d [] []) fun o c _ _=>Ac a true c (fun p=>Ak o c fun q r=>p q c r []) fun s e _ _=>Ac a true e (fun t=>A0 s fun u=>t u e [] []) fun v f _ _=>Ac a true f (fun w=>Af 0 v fun x=>w x f [] []) fun y z _ _=>Wh z a y h
def UT (b:H) (e f:V) (g:V->H->O):O :=
 Ak e b fun h _=>AO EE 3 h (.fv (.int .i64 19)) fun a=>Ac a true b (fun i=>i f b [] []) fun j c _ _=>Ac a true c (fun k=>A0 j fun l=>k l c [] []) fun m d _ _=>Ac a true d (fun n=>Af 2 m fun o=>n o d [] []) fun p q _ _=>Vo q a p g
def T6 (e f:V) (a:V->H->O) (b:H) (c:V):O :=
 AI e f (.fv (.bool false)) fun d=>Aj d (a d b) (A0 c fun g=>Af 0 g fun h=>UT b h c a)
def UV (b:H) (a g:V) (h:V->H->O) (i:V):O :=
 Ac a true b (fun j=>Ak g b fun k l=>j k b l []) fun m d _ _=>Ac a true d (fun n=>A0 m fun o=>n o d [] []) fun p e _ _=>Ac a true e (fun q=>Af 0 p fun r=>q r e [] []) fun s c _ _=>Ac a true c (fun t=>Ak s c fun u v=>t u c v []) fun w f _ _=>Ac a true f (fun x=>AO EE 3 w (.fv (.int .i64 19)) fun y=>x y f [] []) fun z A _ _=>T6 a z h A i
def Tw (c:H) (a d:V) (h:V->H->O):O :=
 Ac a true c (fun i=>i d c [] []) fun j e _ _=>Ac a true e (fun k=>A0 j fun l=>k l e [] []) fun m f _ _=>Ac a true f (fun n=>Af 2 m fun o=>n o f [] []) fun p b _ _=>Ac a true b (fun q=>Ak p b fun r s=>q r b s []) fun t g _ _=>Ac a true g (fun u=>AP 1 t (.fv (.int .i64 0)) fun v=>u v g [] []) fun w x _ _=>UV x a w h d
def To (c:Aa) (d a:V) (e:H->O) (b:H):O :=
 (fun (f:V->H->O)=>A0 a fun g=>Af 0 g fun h=>Ak h b fun i _=>AO EE 3 i (.fv (.int .i64 30)) fun j=>Tw b j a f) fun k l=>SF k c l d a e
def SW (c:H) (a j:V) (d:Aa) (e f:V) (g:H->O):O :=
 Ac a true c (fun k=>Af 0 j fun l=>k l c [] []) fun m b _ _=>Ac a true b (fun n=>Ak m b fun o p=>n o b p []) fun q h _ _=>Ac a true h (fun r=>AO EE 3 q (.fv (.int .i64 7)) fun s=>r s h [] []) fun t i _ _=>AI a t (.fv (.bool false)) fun u=>Aj u (SZ d i e f g) (To d e f g i)
def Wb (d:H) (a g:V) (h:Aa) (i j:V) (k:H->O):O :=
 Ac a true d (fun l=>Af 2 g fun m=>l m d [] []) fun n b _ _=>Ac a true b (fun o=>Ak n b fun p q=>o p b q []) fun r e _ _=>Ac a true e (fun s=>AP 1 r (.fv (.int .i64 0)) fun t=>s t e [] []) fun u c _ _=>Ac a true c (fun v=>Ak u c fun w x=>v w c x []) fun y f _ _=>Ac a true f (fun z=>A0 y fun A=>z A f [] []) fun B C _ _=>SW C a B h i j k
def UG (a:H) (b h d:V) (i:Aa) (j:V) (k:H->O):O :=
 Ac b false a (fun l=>Ak h a fun m n=>l m a n []) fun o e _ _=>Ac b false e (fun p=>AO EE 3 o (.fv (.int .i64 9)) fun q=>p q e [] []) fun r f _ _=>AI b (.fv (.bool true)) r fun c=>Ac c true f (fun s=>s d f [] []) fun t g _ _=>Ac c true g (fun u=>A0 t fun v=>u v g [] []) fun w x _ _=>Wb x c w i j d k
def Tl (b:H) (f c:V) (g:Aa) (h:V) (i:H->O):O :=
 Ak f b fun j _=>AO EE 3 j (.fv (.int .i64 8)) fun a=>Ac a false b (fun k=>k c b [] []) fun l d _ _=>Ac a false d (fun m=>A0 l fun n=>m n d [] []) fun o e _ _=>Ac a false e (fun p=>Af 0 o fun q=>p q e [] []) fun r s _ _=>UG s a r c g h i
def Vw (g:V) (a:Aa) (d:H) (b c:V) (e:H->O):O :=
 Aj g (Ai [true] false false a 117 [b] d fun h f _ _=>Aj h (SQ c f a b) (e f)) (A0 c fun i=>Af 0 i fun j=>Tl d j c a b e)
def Wd (c:H) (a f:V) (g:Aa) (h i:V) (j:H->O):O :=
 Ac a true c (fun k=>A0 f fun l=>k l c [] []) fun m d _ _=>Ac a true d (fun n=>Af 0 m fun o=>n o d [] []) fun p b _ _=>Ac a true b (fun q=>Ak p b fun r s=>q r b s []) fun t e _ _=>Ac a true e (fun u=>AO EE 3 t (.fv (.int .i64 4)) fun v=>u v e [] []) fun w x _ _=>AI a w (.fv (.bool false)) fun y=>Vw y g x h i j
def Tn (d:H) (a g:V) (h:Aa) (i j:V) (k:H->O):O :=
 Ac a true d (fun l=>A0 g fun m=>l m d [] []) fun n e _ _=>Ac a true e (fun o=>Af 2 n fun p=>o p e [] []) fun q b _ _=>Ac a true b (fun r=>Ak q b fun s t=>r s b t []) fun u f _ _=>Ac a true f (fun v=>AP 1 u (.fv (.int .i64 0)) fun w=>v w f [] []) fun x c _ _=>Ac a true c (fun y=>Ak x c fun z A=>y z c A []) fun B C _ _=>Wd C a B h i j k
def TR (a:V) (b:H) (d:Aa) (e:V) (f:H->O):O :=
 A0 a fun g=>Af 0 g fun h=>Ak h b fun i _=>AO EE 3 i (.fv (.int .i64 5)) fun c=>Ac c true b (fun j=>j a b [] []) fun k l _ _=>Tn l c k d e a f
def S110 (d:Aa) (n:Nat) (c a:V) (b:H):O :=
 (fun (e:H->O)=>A0 c fun f=>Af 2 f fun g=>Ak g b fun h _=>Ck EE 3 h (.fv (.int .i64 0)) fun i=>Aj i (Ao [a] b) (TR a b d c e)) fun j=>Ao [a] j
theorem Ang (a:Aa) (n:Nat) (b c:V) (d:H):Ax EE a ft.get n 110 [b,c] d=S110 a n b c d:=by kernel_rfl
def Yy (a:V) (d:H) (b:V):O :=
 Aq 0 a fun e=>Aq 1 a fun f=>Ad 3 b e d fun c _ _=>Ap true 3 b c fun g=>Ao [g,f] c
def AbT (c:H) (a d:V):O :=
 Ad 3 a d c fun b e f=>Ab [] e f (Ap true 3 a b fun g=>Ao [g,.fv (.int .i64 0)] b)
def Aa8 (a:AA) (b:Aa) (c:H) (d e:V):O :=
 Ab [] a [] (Ai [] false false b 30 [.fv (.int .i64 11),.nils] c fun f g h i=>Ab [(a,[])] h i (Ai [] false false b 89 [d,.fv (.int .i64 0),f] g fun j k l m=>Ab [] l m (AbT k e j)))
def AiR (a:Aa) (n:Nat) (f:V) (g:H):O :=
 AR 116391936 f g fun c h _ _=>Ay 116391937 (.row [.fv (.int .i64 0),.fv (.int .i64 0),.nils] false) (.ptr (.own 116391937) 0) h fun d e _ _=>Ae 3 c e fun i _=>Ai [] false false a 118 [i,.fv (.int .i64 0)] e fun j b _ _=>Aj j (Ai [] false false a 57 [.fv (.int .i64 14)] b fun k l _ _=>Yy k l d) (Ae 3 c b fun m o=>Aa8 o a b m d)
theorem AoN (a:Aa) (n:Nat) (b:V) (c:H):Ax EE a ft.get n 111 [b] c=AiR a n b c:=by kernel_rfl
def Od (a:V) (e:H) (f g:V) (h:H) (b c:V) (i:List V->H->O):O :=
 Af 2 a fun j=>B6 j f e fun k _ _=>Bv EE 3 g (.fv (.int .i64 1)) fun d=>BZ (h.own.map (·.1)) [117445638,117448708] [b,c,a,d] k fun l=>i [b,c,a,d] l
def Nz (b:V) (a:H) (c d:V) (e:H) (f g:V) (h:List V->H->O):O :=
 Af 2 b fun i=>Ak i a fun j _=>Ae 3 c a fun k _=>AE (An EE 28 1 [(0,k)]) 117448707 a fun l m _ _=>AE (AJ EE 117448708 false .append [28,28] [j,l]) 117448708 m fun n o _ _=>Od b o n d e f g h
def Nr (a:H) (b c:V) (d:H->O):O :=
 Ad 3 b c a fun e _ _=>d e
def Of (a:H) (b e f:V) (g:Aa) (h:V) (c:H->O):O :=
 Ac b true a (fun i=>AI e (.fv (.bool true)) f fun j=>i j a [] []) fun k d _ _=>AI b k (.fv (.bool false)) fun l=>Aj l (Ai [] false false g 30 [.fv (.int .i64 11),.nils] d fun m n _ _=>Nr n h m c) (c d)
def OW (d:H) (b h i:V) (j:Aa) (k:V) (l:H->O):O :=
 Ac b true d (fun m=>AO EE 3 h (.fv (.int .i64 4)) fun n=>m n d [] []) fun o e _ _=>Ac b true e (fun p=>p o e [] []) fun a f _ _=>Ac a false f (fun q=>Af 0 i fun r=>q r f [] []) fun s c _ _=>Ac a false c (fun t=>Ak s c fun u v=>t u c v []) fun w g _ _=>Ac a false g (fun x=>AO EE 3 w (.fv (.int .i64 7)) fun y=>x y g [] []) fun z A _ _=>Of A b a z j k l
def Ou (g:H) (a h i e:V) (j:H) (b k:V) (l:List V->H->O) (m:Aa):O :=
 Ad 3 a h g fun f _ _=>(fun (n:H->O)=>AO EE 3 e (.fv (.int .i64 0)) fun c=>Ac c true f (fun o=>Af 0 b fun p=>o p f [] []) fun q d _ _=>Ac c true d (fun r=>Ak q d fun s t=>r s d t []) fun u v _ _=>OW v c u b m a n) fun w=>Nz i w a e j b k l
def NJ (a:H) (d b:V) (c:Aa) (e:V) (f:H) (g h:V) (i:List V->H->O):O :=
 Ak d a fun j _=>AP 3 j b fun k=>Ae 3 k a fun l _=>Ai [] false false c 112 [l] a fun m n _ _=>Ay 117445638 (.row [.fv (.int .i64 0),.fv (.int .i64 0),.nils] false) (.ptr (.own 117445638) 0) n fun o p _ _=>Ou p o m e b f g h i c
def Nk (c:Aa) (d:H) (e f a:V):O :=
 Ai [] false false c 89 [e,.fv (.int .i64 0),f] d fun g h i j=>Ab [] i j (Ad 3 a g h fun b k l=>Ab [] k l (Ap true 3 a b fun m=>Ao [m] b))
def Ni (d:V) (a:H) (b:Aa) (e f:AA) (g:V):O :=
 AP 3 d (.fv (.int .i64 0)) fun h=>Ae 3 h a fun i c=>Ab [] c [] (Ai [] false false b 30 [.fv (.int .i64 11),.nils] a fun j k l m=>Ab [(c,[]),(e,[]),(f,[])] l m (Nk b k i j g))
def NB (a:AA) (d:V) (b:H) (e:Aa) (f:V):O :=
 Ab [] a [] (AP 3 d (.fv (.int .i64 1)) fun g=>Af 2 g fun h=>Ak h b fun i c=>Ab [] c [] (Ni i b e c a f))
def On (a:H) (d b:V):O :=
 Ae 3 d a fun e _=>Ad 3 b e a fun c _ _=>Ap true 3 b c fun f=>Ao [f] c
def Ow (a:H) (b c:V):O :=
 Ak b a fun d _=>AP 3 d (.fv (.int .i64 1)) fun e=>Af 2 e fun f=>Ak f a fun g _=>AP 3 g (.fv (.int .i64 0)) fun h=>On a h c
def NT (c:H) (a d:V):O :=
 Ad 3 a d c fun b _ _=>Ap true 3 a b fun e=>Ao [e] b
def Oz (b:H) (c:V) (f:Aa) (g h d e:V):O :=
 Ac c true b (fun i=>Ai [] false false f 18 [g,h] b i) fun j a k l=>Ab [] k l (AI c j (.fv (.bool false)) fun m=>Aj m (Af 2 d fun n=>Ow a n e) (Ae 3 d a fun o _=>NT a e o))
def Nf (b:H) (a k:V) (d e f g h i:AA) (l:Aa) (m n o:V):O :=
 Ac a true b (fun p=>Ak k b fun q r=>p q b r []) fun s j t u=>Ab [(d,e),(f,g),(h,i)] t u (Ac a true j (fun v=>AP 3 s (.fv (.int .i64 0)) fun w=>v w j [] []) fun x c _ _=>Ac a true c (fun y=>Ae 3 x c fun z A=>y z c A []) fun B C D E=>Ab [(d,e),(f,g),(h,i)] D E (Oz C a l m B n o))
def OI (c:H) (a d:V) (e f g h i j:AA) (m:Aa) (n o:V):O :=
 Ac a true c (fun p=>Af 2 d fun q=>p q c [] []) fun r b _ _=>Ac a true b (fun s=>Ak r b fun t u=>s t b u []) fun v k w x=>Ab [(e,f),(g,h),(i,j)] w x (Ac a true k (fun y=>AP 3 v (.fv (.int .i64 2)) fun z=>y z k [] []) fun A l _ _=>Ac a true l (fun B=>Af 2 A fun C=>B C l [] []) fun D E _ _=>Nf E a D e f g h i j m n d o)
def MU (b:H) (a i j:V) (k l:AA) (m:Aa) (n:V):O :=
 Ac a true b (fun o=>Ak i b fun p q=>o p b q []) fun r d e f=>Ab [] e f (Ac a true d (fun s=>AP 3 r (.fv (.int .i64 0)) fun t=>s t d [] []) fun u c _ _=>Ac a true c (fun v=>Ae 3 u c fun w x=>v w c x []) fun y z g h=>Ab [] g h (OI z a j g h e f k l m y n))
def OQ (c:H) (a d:V) (i:Aa) (j:V):O :=
 Ac a true c (fun k=>Af 2 d fun l=>k l c [] []) fun m b _ _=>Ac a true b (fun n=>Ak m b fun o p=>n o b p []) fun q e f g=>Ab [] f g (Ac a true e (fun r=>AP 3 q (.fv (.int .i64 1)) fun s=>r s e [] []) fun t h _ _=>Ac a true h (fun u=>Af 2 t fun v=>u v h [] []) fun w x _ _=>MU x a w d f g i j)
def Ny (c:H) (a e f:V) (g:Aa) (h:V):O :=
 Ac a true c (fun i=>Af 0 e fun j=>i j c [] []) fun k b _ _=>Ac a true b (fun l=>Ak k b fun m n=>l m b n []) fun o d p q=>Ab [] p q (Ac a true d (fun r=>AO EE 3 o (.fv (.int .i64 9)) fun s=>r s d [] []) fun t u _ _=>AI a t (.fv (.bool false)) fun v=>OQ u v f g h)
def Ob (f g:V) (c:H) (d:V) (h:Aa) (i:V):O :=
 AI f g (.fv (.bool false)) fun a=>Ac a true c (fun j=>Af 2 d fun k=>j k c [] []) fun l b _ _=>Ac a true b (fun m=>Ak l b fun n o=>m n b o []) fun p e q r=>Ab [] q r (Ac a true e (fun s=>AP 3 p (.fv (.int .i64 2)) fun t=>s t e [] []) fun u v _ _=>Ny v a u d h i)
def NL (c:H) (a f g:V) (h:Aa) (i:V):O :=
 Ac a true c (fun j=>AP 3 f (.fv (.int .i64 1)) fun k=>j k c [] []) fun l d _ _=>Ac a true d (fun m=>Af 0 l fun n=>m n d [] []) fun o b _ _=>Ac a true b (fun p=>Ak o b fun q r=>p q b r []) fun s e t u=>Ab [] t u (Ac a true e (fun v=>AO EE 3 s (.fv (.int .i64 8)) fun w=>v w e [] []) fun x y _ _=>Ob a x y g h i)
def OR (e:AA) (f:V) (c:H) (d:V) (g:Aa) (h:V):O :=
 Ab [] e [] (AO EE 3 f (.fv (.int .i64 7)) fun a=>Ac a true c (fun i=>Af 2 d fun j=>i j c [] []) fun k b _ _=>Ac a true b (fun l=>Ak k b fun m n=>l m b n []) fun o p q r=>Ab [] q r (NL p a o d g h))
def MH (e f b:V) (a:H) (c:Aa) (d g:V):O :=
 AI e f (.fv (.bool false)) fun h=>Aj h (Af 2 b fun i=>Ak i a fun j k=>NB k j a c d) (Af 0 g fun l=>Ak l a fun m n=>OR n m a b c d)
def OU (b:H) (a f:V) (c:Aa) (g h i:V):O :=
 Ac a true b (fun j=>Ae 3 f b fun k l=>j k b l []) fun m d n o=>Ab [] n o (Ac a true d (fun p=>Ai [] false false c 118 [m,.fv (.int .i64 0)] d p) fun q e r s=>Ab [] r s (Ac a true e (fun t=>C8 (KN .not q) fun u=>t u e [] []) fun v w _ _=>MH a v g w c h i))
def NP (c:H) (a f:V) (g:Aa) (h i j:V):O :=
 Ac a true c (fun k=>AP 3 f (.fv (.int .i64 1)) fun l=>k l c [] []) fun m d _ _=>Ac a true d (fun n=>Af 2 m fun o=>n o d [] []) fun p b _ _=>Ac a true b (fun q=>Ak p b fun r s=>q r b s []) fun t e u v=>Ab [] u v (Ac a true e (fun w=>AP 3 t (.fv (.int .i64 0)) fun x=>w x e [] []) fun y z _ _=>OU z a y g h i j)
def MO (e f:AA) (g h:V) (c:H) (d:V) (i:Aa) (j k:V):O :=
 Ab [] e f (AI g h (.fv (.bool false)) fun a=>Ac a true c (fun l=>Af 2 d fun m=>l m c [] []) fun n b _ _=>Ac a true b (fun o=>Ak n b fun p q=>o p b q []) fun r s t u=>Ab [] t u (NP s a r i d j k))
def NH (b:H) (a h:V) (c:Aa) (i j k l:AA) (m n o:V):O :=
 Ac a true b (fun p=>Ae 3 h b fun q r=>p q b r []) fun s d e f=>Ab [] e f (Ac a true d (fun t=>Ai [] false false c 29 [.fv (.int .i64 0)] d t) fun u g v w=>Ab [(e,f),(i,j),(k,l)] v w (Ac a true g (fun x=>Ai [] false false c 18 [s,u] g x) fun y z A B=>MO A B a y z m c n o))
def NF (c:H) (a h:V) (i:Aa) (j k:AA) (l m n:V):O :=
 Ac a true c (fun o=>AP 3 h (.fv (.int .i64 1)) fun p=>o p c [] []) fun q d _ _=>Ac a true d (fun r=>Af 2 q fun s=>r s d [] []) fun t b _ _=>Ac a true b (fun u=>Ak t b fun v w=>u v b w []) fun x e f g=>Ab [] f g (Ac a true e (fun y=>AP 3 x (.fv (.int .i64 1)) fun z=>y z e [] []) fun A B _ _=>NH B a A i f g j k l m n)
def NI (c:H) (d i e:V) (j:Aa) (k l:V):O :=
 Ac d true c (fun m=>AO EE 3 i (.fv (.int .i64 5)) fun n=>m n c [] []) fun o f _ _=>AI d o (.fv (.bool false)) fun a=>Ac a true f (fun p=>Af 2 e fun q=>p q f [] []) fun r b _ _=>Ac a true b (fun s=>Ak r b fun t u=>s t b u []) fun v w g h=>Ab [] g h (NF w a v j g h e k l)
def OS (e f:AA) (c:H) (a g h:V) (i:Aa) (j k:V):O :=
 Ab [] e f (Ac a true c (fun l=>AP 3 g (.fv (.int .i64 1)) fun m=>l m c [] []) fun n d _ _=>Ac a true d (fun o=>Af 0 n fun p=>o p d [] []) fun q b _ _=>Ac a true b (fun r=>Ak q b fun s t=>r s b t []) fun u v w x=>Ab [] w x (NI v a u h i j k))
def NC (a:H) (e d:V) (f:Aa) (g h:V):O :=
 Ak e a fun i j=>Ab [] j [] (AO EE 3 i (.fv (.int .i64 4)) fun b=>Ac b true a (fun k=>Af 2 d fun l=>k l a [] []) fun m c _ _=>Ac b true c (fun n=>Ak m c fun o p=>n o c p []) fun q r s t=>OS s t r b q d f g h)
def MJ (b:H) (g c a:V) (d:Aa) (e:V) (h:H) (f:V) (i:List V->H->O):O :=
 Ak g b fun j _=>BF j fun k=>GC EE 3 c k fun l=>Aj l (Af 2 a fun m=>NJ b m c d e h a f i) (Af 0 a fun n=>NC b n e d f a)
def Gu (b:List V) (c:H) (d:Aa) (e:H) (f:List V->H->O):O :=
 AH b fun a g=>AH g fun h i=>AH i fun j k=>AH k fun l _=>Af 2 a fun m=>MJ c m l a d j e h f
def MZ (e f:V) (g b:H) (c d:V) (n:Nat) (h:Aa):O :=
 BJ [.fv (.int .i64 0),.fv (.int .i64 0),.nils] [(0,1,e),(1,1,f)] fun i=>Ay 117441541 (.row [.fv (.int .i64 0),.fv (.int .i64 0),.nils] false) (.ptr (.own 117441541) 0) g fun a j _ _=>Ad 3 a i j fun k _ _=>BZ (b.own.map (·.1)) [117445638,117448708] [c,d,a,.fv (.int .i64 0)] k fun l=>BY n (fun m o p=>Gu o p h b m) [c,d,a,.fv (.int .i64 0)] l
def S112 (d:Aa) (n:Nat) (e:V) (c:H):O :=
 AR 117440512 e c fun a f _ _=>Ay 117440513 (.row [.fv (.int .i64 0),.fv (.int .i64 0),.nils] false) (.ptr (.own 117440513) 0) f fun g b _ _=>Af 0 a fun h=>Ak h b fun i _=>Af 1 a fun j=>Ak j b fun k _=>MZ i k b c a g n d
theorem AoP (a:Aa) (n:Nat) (b:V) (c:H):Ax EE a ft.get n 112 [b] c=S112 a n b c:=by kernel_rfl
def Nw (c:H) (a d:V):O :=
 Ad 3 a d c fun b _ _=>Ap true 3 a b fun e=>Ao [e] b
def MV (c:V) (d:H) (a:V):O :=
 Bd EE 3 c (.fv (.int .i64 1)) fun e=>BJ [.fv (.int .i64 0),.fv (.int .i64 0),.nils] [(0,1,.fv (.int .i64 1)),(1,1,e)] fun f=>Ad 3 a f d fun b _ _=>Ap true 3 a b fun g=>Ao [g] b
def M6 (a:H) (b:V):O :=
 Ap true 3 b a fun c=>Ao [c] a
def MW (d e c:V) (a:H) (b:V):O :=
 LN EE 3 d e fun f=>Aj f (Af 1 c fun g=>Ak g a fun h _=>MV h a b) (Ae 3 c a fun i _=>Ad 3 b i a fun j _ _=>M6 j b)
def NZ (e b:V) (a:H) (f:V) (g:Aa) (h c d:V):O :=
 AO EE 3 e b fun i=>Aj i (Ae 3 f a fun j _=>Ai [] false false g 28 [j,h,.fv (.int .i64 0)] a fun k l _ _=>Nw l c k) (Af 1 d fun m=>Ak m a fun n _=>MW n b d a c)
def MX (a:V) (h:H) (i j:V) (k:H) (b c d e f:V) (l:List V->H->O):O :=
 Af 2 a fun m=>B6 m i h fun n o p=>Ab [] o p (Bv EE 3 j (.fv (.int .i64 1)) fun g=>BZ (k.own.map (·.1)) [118501392] [b,c,d,e,f,a,g] n fun q=>l [b,c,d,e,f,a,g] q)
def M1 (b c a:AA) (d:H) (e f g h:V) (i:H) (j k l m n:V) (o:List V->H->O):O :=
 Ab [(a,[])] b c (AE (An EE 28 1 [(0,e)]) 118501391 d fun p q r s=>Ab [(a,[])] r s (AE (AJ EE 118501392 false .append [28,28] [f,p]) 118501392 q fun t u v w=>Ab [] v w (MX g u t h i j k l m n o)))
def Ot (a b c:V) (d:H) (e:V) (g h f:AA) (i:Aa) (j k l m:V) (n:H) (o p:V) (q:List V->H->O):O :=
 Bv EE 3 a b fun r=>Bv EE 3 c b fun s=>Ae 3 e d fun t u=>Ab [(g,[]),(h,[]),(f,[])] u [] (Ai [] false false i 113 [j,r,s,t] d fun v w x y=>M1 x y f w v k l m n a c o e p q)
def MM (a:H) (f:V) (b:AA) (c g h i j:V) (k:Aa) (l m:V) (n:H) (o p:V) (q:List V->H->O):O :=
 Ak f a fun r d=>Ab [(b,[])] d [] (AP 3 r c fun s=>Ae 3 s a fun t e=>Ab [(b,[])] e [] (Ot g h i a j e d b k t l m c n o p q))
def Oe (a:Aa) (g:H) (h b c d i j k:V) (l:H) (m:V) (n:List V->H->O):O :=
 Ai [] false false a 48 [h,b] g fun o e _ _=>Af 2 c fun p=>Ak p e fun q f=>Ab [] f [] (Af 2 d fun r=>MM e r f b i o j k a q c l d m n)
def OP (a:H) (b:V):O :=
 Ap true 3 b a fun c=>Ao [c] a
def OM (c f d:V) (a:H) (g:Aa) (e h i j:V) (k:H) (b:V) (l:List V->H->O):O :=
 GC EE 3 c f fun m=>Aj m (Af 0 d fun n=>Ak n a fun o _=>Oe g a o c e d h i j k b l) (Ae 3 e a fun p _=>Ad 3 b p a fun q _ _=>OP q b)
def OG (c:List V) (a:V) (b:H) (d:Aa) (e f g:V) (h:H) (i:V) (j:List V->H->O):O :=
 AH c fun k l=>AH l fun m _=>Af 2 a fun n=>Ak n b fun o _=>BF o fun p=>OM m p a b d k e f g h i j
def Oo (a:List V) (b:H) (c:Aa) (d:H) (e:List V->H->O):O :=
 AH a fun f g=>AH g fun h i=>AH i fun j k=>AH k fun l m=>AH m fun n o=>OG o j b c f h l d n e
def Nj (a h:H) (b c d e f g:V) (n:Nat) (i:Aa):O :=
 BZ (a.own.map (·.1)) [118501392] [b,c,d,e,f,g,.fv (.int .i64 0)] h fun j=>BY n (fun k l m=>Oo l m i a k) [b,c,d,e,f,g,.fv (.int .i64 0)] j
def M2 (a:V) (b:H) (d:V) (e:H) (f g h i:V) (n:Nat) (j:Aa):O :=
 Af 1 a fun k=>Ak k b fun l _=>BJ [.fv (.int .i64 0),.fv (.int .i64 0),.nils] [(0,1,d),(1,1,l)] fun m=>Ay 118496261 (.row [.fv (.int .i64 0),.fv (.int .i64 0),.nils] false) (.ptr (.own 118496261) 0) b fun c o _ _=>Ad 3 c m o fun p _ _=>Nj e p f g a h i c n j
def N7 (h a:V) (b:H) (c d:V) (e:Aa) (f g:V) (i:H) (n:Nat):O :=
 Aj h (Af 1 a fun j=>Ak j b fun k _=>NZ k c b d e f g a) (Af 0 a fun l=>Ak l b fun m _=>M2 a b m i c f d g n e)
def S113 (d:Aa) (n:Nat) (e f g h:V) (a:H):O :=
 AR 118489088 e a fun b i _ _=>AR 118489089 h i fun j k _ _=>Ay 118489090 (.row [.fv (.int .i64 0),.fv (.int .i64 0),.nils] false) (.ptr (.own 118489090) 0) k fun l c _ _=>Af 0 b fun m=>Ak m c fun o _=>AO EE 3 o (.fv (.int .i64 1)) fun p=>N7 p b c f j d g l a n
theorem Aph (a:Aa) (n:Nat) (b c d e:V) (f:H):Ax EE a ft.get n 113 [b,c,d,e] f=S113 a n b c d e f:=by kernel_rfl
def AnW (a:Aa) (d:H) (e f b:V):O :=
 Ai [] false false a 30 [.fv (.int .i64 12),e] d fun g h _ _=>Ai [] false false a 89 [f,.fv (.int .i64 0),g] h fun i j _ _=>Ad 3 b i j fun c _ _=>Ap true 3 b c fun k=>Ao [k] c
def Aum (a:Aa) (n:Nat) (c:V) (d:H):O :=
 AR 119537664 c d fun e f _ _=>Ay 119537665 (.row [.fv (.int .i64 0),.fv (.int .i64 0),.nils] false) (.ptr (.own 119537665) 0) f fun g b _ _=>Ae 3 e b fun h _=>Ai [] false false a 28 [h,.fv (.int .i64 2),.fv (.int .i64 1)] b fun i j _ _=>Ai [] false false a 29 [.fv (.int .i64 1)] j fun k l _ _=>AE (An EE 28 1 [(0,k)]) 119538691 l fun m o _ _=>AnW a o m i g
theorem Ao1 (a:Aa) (n:Nat) (b:V) (c:H):Ax EE a ft.get n 114 [b] c=Aum a n b c:=by kernel_rfl
def My (b:Aa) (c:H) (d a e:V) (f:List V->H->O) (g h:V):O :=
 Ai [] false false b 30 [.fv (.int .i64 12),d] c fun i j _ _=>Ad 3 a i j fun k _ _=>Bv EE 3 e (.fv (.int .i64 1)) fun l=>f [g,h,a,l] k
def L1 (a:H) (b:V):O :=
 Ap true 3 b a fun c=>Ao [c] a
def LW (d:V) (a:H) (b:V) (e:Aa) (f:V) (g:List V->H->O) (h c:V):O :=
 Aj d (Ae 3 b a fun i _=>AE (An EE 28 1 [(0,i)]) 120591361 a fun j k _ _=>My e k j b f g h c) (Ae 3 b a fun l _=>Ad 3 c l a fun m _ _=>L1 m c)
def QU (c:List V) (d:H) (e:Aa) (f:List V->H->O):O :=
 AH c fun a g=>AH g fun h i=>AH i fun j k=>AH k fun b _=>GC EE 3 b a fun l=>LW l d j e b f a h
def XI (a:Aa) (n:Nat) (c:V) (d:H):O :=
 Ay 120586240 (.row [.fv (.int .i64 0),.fv (.int .i64 0),.nils] false) (.ptr (.own 120586240) 0) d fun e f _ _=>Ai [] false false a 30 [.fv (.int .i64 11),.nils] f fun g h _ _=>Ay 120587265 (.row [.fv (.int .i64 0),.fv (.int .i64 0),.nils] false) (.ptr (.own 120587265) 0) h fun b i _ _=>Ad 3 b g i fun j _ _=>BY n (fun k l m=>QU l m a k) [c,e,b,.fv (.int .i64 0)] j
theorem Amu (a:Aa) (n:Nat) (b:V) (c:H):Ax EE a ft.get n 115 [b] c=XI a n b c:=by kernel_rfl
def IG (g:V) (a:H) (h:V) (i:H) (b c d e:V) (j:List V->H->O):O :=
 Aj g (Ao [.fv (.bool false)] a) (Bv EE 3 h (.fv (.int .i64 1)) fun f=>BZ (i.own.map (·.1)) [121639939,121640964] [b,c,d,e,f] a fun k=>j [b,c,d,e,f] k)
def Im (d:H) (b e f:V) (g:Aa) (c h:V) (i:H) (j k l:V) (m:List V->H->O):O :=
 Ad 3 b e d fun a _ _=>Ae 3 f a fun n _=>Ae 3 b a fun o _=>Pa EE g c [n,o] a fun p q _ _=>C8 (KN .not p) fun r=>IG r q h i j c k l m
def IW (e:H) (f a b:V) (g:Aa) (h:V) (i:H) (j k:V) (l:List V->H->O):O :=
 Ay 121639939 (.row [.fv (.int .i64 0),.fv (.int .i64 0),.nils] false) (.ptr (.own 121639939) 0) e fun c m _ _=>Ad 3 c f m fun d _ _=>AP 3 a b fun n=>Ae 3 n d fun o _=>Ay 121640964 (.row [.fv (.int .i64 0),.fv (.int .i64 0),.nils] false) (.ptr (.own 121640964) 0) d fun p q _ _=>Im q p o c g h b i a j k l
def Ix (a c d:V) (b:H) (e:V) (f:Aa) (g:V) (h:H) (i:List V->H->O):O :=
 GC EE 3 a c fun j=>Aj j (AP 3 d a fun k=>Ae 3 k b fun l _=>IW b l e a f g h d c i) (Ao [.fv (.bool true)] b)
def Kg (a:List V) (b:H) (c:Aa) (d:H) (e:List V->H->O):O :=
 AH a fun f g=>AH g fun h i=>AH i fun j k=>AH k fun l m=>AH m fun n _=>Ix n l j b f c h d e
def H7 (a:H) (b c d e:V) (n:Nat) (f:Aa):O :=
 BZ (a.own.map (·.1)) [121639939,121640964] [b,c,d,e,.fv (.int .i64 0)] a fun g=>BY n (fun h i j=>Kg i j f a h) [b,c,d,e,.fv (.int .i64 0)] g
def R7 (d:Aa) (n:Nat) (a b e:V) (c:H):O :=
 BF a fun f=>BF b fun g=>Ck EE 3 f g fun h=>Aj h (Ao [.fv (.bool false)] c) (BF a fun i=>H7 c b e a i n d)
theorem AmJ (a:Aa) (n:Nat) (b c d:V) (e:H):Ax EE a ft.get n 116 [b,c,d] e=R7 a n b c d e:=by kernel_rfl
def R5 (b:V) (a:H):O :=
 A0 b fun c=>Af 2 c fun d=>Ak d a fun e _=>AO EE 3 e (.fv (.int .i64 0)) fun f=>Ao [f] a
def RT (a:H) (b:V) (c:H->O):O :=
 B6 b (.fv (.int .i64 17)) a fun d _ _=>c d
def Ql (c d:V) (a:H) (b:H->O):O :=
 LN EE 3 c (.fv (.int .i64 1000)) fun e=>Aj e (A0 d fun f=>Af 2 f fun g=>RT a g b) (b a)
def QY (c:H) (d e a:V):O :=
 B6 d e c fun b _ _=>(fun (f:H->O)=>A0 a fun g=>Af 0 g fun h=>Ak h b fun i _=>Ql i a b f) fun j=>R5 a j
def AgU (i:Aa) (n:Nat) (a:V) (b:H):O :=
 A0 a fun c=>Af 0 c fun d=>Ak d b fun e _=>Bv EE 3 e (.fv (.int .i64 1)) fun f=>A0 a fun g=>Af 0 g fun h=>QY b h f a
theorem AnC (a:Aa) (n:Nat) (b:V) (c:H):Ax EE a ft.get n 117 [b] c=AgU a n b c:=by kernel_rfl
def HX (a:H) (b c:V):O :=
 Ak b a fun d _=>AO EE 3 d c fun e=>Ao [e] a
def HK (a c:V) (d:Aa) (e:H) (f g:V) (h:List V->H->O) (i:V):O :=
 Bv EE 3 a c fun j=>Ai [] false false d 118 [f,j] e fun k b l m=>Ab [] l m (Aj k (Ao [.fv (.bool true)] b) (Bv EE 3 g (.fv (.int .i64 1)) fun n=>h [a,i,n] b))
def IE (a:V) (b:H) (c d:AA) (e:Aa) (f g h:V) (i:List V->H->O):O :=
 Af 0 a fun j=>Ak j b fun k l=>Ab [(c,[]),(d,[])] l [] (Ai [] false false e 48 [k,f] b fun m n o p=>Ab [(c,[]),(d,[])] o p (HK g m e n h f i a))
def HL (a:H) (e b f:V) (g:Aa) (h:V) (i:List V->H->O):O :=
 Ak e a fun j c=>Ab [] c [] (AP 3 j b fun k=>Ae 3 k a fun l d=>Ab [] d [] (IE f a d c g b h l i))
def IY (d a b:V) (c:H) (e:Aa) (f:V) (g:List V->H->O):O :=
 BF d fun h=>GC EE 3 a h fun i=>Aj i (Af 2 b fun j=>HL c j a b e f g) (Ao [.fv (.bool false)] c)
def L0 (c:List V) (a:H) (d:Aa) (e:List V->H->O):O :=
 AH c fun f g=>AH g fun b h=>AH h fun i _=>Af 2 b fun j=>Ak j a fun k _=>IY k i b a d f e
def QE (d:Aa) (n:Nat) (e c:V) (f:H):O :=
 AR 123731968 e f fun a b _ _=>Af 0 a fun g=>Ak g b fun h _=>AO EE 3 h (.fv (.int .i64 1)) fun i=>Aj i (Af 1 a fun j=>HX b j c) (BY n (fun k l m=>L0 l m d k) [c,a,.fv (.int .i64 0)] b)
theorem Anm (a:Aa) (n:Nat) (b c:V) (d:H):Ax EE a ft.get n 118 [b,c] d=QE a n b c d:=by kernel_rfl
end
noncomputable section
def dt:DT :=
 .node 68 (.node 42 (.node 22 (.node 16 (.node 12 (.node 11 (.leaf 4 (fun ih n=>KM (S4 ih n)))
 (.leaf 11 (fun ih n=>O5 (S11 ih n))))
 (.node 14 (.leaf 12 (fun ih n=>EC (S12 ih n)))
 (.node 15 (.leaf 14 (fun ih n=>CE (S14 ih n)))
 (.leaf 15 (fun ih n=>CE (S15 ih n))))))
 (.node 19 (.node 17 (.leaf 16 (fun ih n=>HO (S16 ih n)))
 (.node 18 (.leaf 17 (fun ih n=>CE (S17 ih n)))
 (.leaf 18 (fun ih n=>CE (S18 ih n)))))
 (.node 20 (.leaf 19 (fun ih n=>CE (S19 ih n)))
 (.node 21 (.leaf 20 (fun ih n=>EC (S20 ih n)))
 (.leaf 21 (fun ih n=>EC (S21 ih n)))))))
 (.node 28 (.node 25 (.node 23 (.leaf 22 (fun ih n=>HO (S22 ih n)))
 (.node 24 (.leaf 23 (fun ih n=>CE (S23 ih n)))
 (.leaf 24 (fun ih n=>EC (S24 ih n)))))
 (.node 26 (.leaf 25 (fun ih n=>EC (S25 ih n)))
 (.node 27 (.leaf 26 (fun ih n=>HO (S26 ih n)))
 (.leaf 27 (fun ih n=>EC (S27 ih n))))))
 (.node 31 (.node 29 (.leaf 28 (fun ih n=>HO (S28 ih n)))
 (.node 30 (.leaf 29 (fun ih n=>EC (S29 ih n)))
 (.leaf 30 (fun ih n=>CE (S30 ih n)))))
 (.node 40 (.leaf 31 (fun ih n=>EC (S31 ih n)))
 (.node 41 (.leaf 40 (fun ih n=>CE (S40 ih n)))
 (.leaf 41 (fun ih n=>CE (S41 ih n))))))))
 (.node 54 (.node 48 (.node 45 (.node 43 (.leaf 42 (fun ih n=>CE (S42 ih n)))
 (.node 44 (.leaf 43 (fun ih n=>KM (S43 ih n)))
 (.leaf 44 (fun ih n=>EC (S44 ih n)))))
 (.node 46 (.leaf 45 (fun ih n=>CE (S45 ih n)))
 (.node 47 (.leaf 46 (fun ih n=>EC (S46 ih n)))
 (.leaf 47 (fun ih n=>CE (S47 ih n))))))
 (.node 51 (.node 49 (.leaf 48 (fun ih n=>CE (S48 ih n)))
 (.node 50 (.leaf 49 (fun ih n=>EC (S49 ih n)))
 (.leaf 50 (fun ih n=>CE (S50 ih n)))))
 (.node 52 (.leaf 51 (fun ih n=>EC (S51 ih n)))
 (.node 53 (.leaf 52 (fun ih n=>EC (S52 ih n)))
 (.leaf 53 (fun ih n=>CE (S53 ih n)))))))
 (.node 60 (.node 57 (.node 55 (.leaf 54 (fun ih n=>EC (S54 ih n)))
 (.node 56 (.leaf 55 (fun ih n=>CE (S55 ih n)))
 (.leaf 56 (fun ih n=>HO (S56 ih n)))))
 (.node 58 (.leaf 57 (fun ih n=>EC (S57 ih n)))
 (.node 59 (.leaf 58 (fun ih n=>EC (S58 ih n)))
 (.leaf 59 (fun ih n=>CE (S59 ih n))))))
 (.node 63 (.node 61 (.leaf 60 (fun ih n=>EC (S60 ih n)))
 (.node 62 (.leaf 61 (fun ih n=>KM (S61 ih n)))
 (.leaf 62 (fun ih n=>KM (S62 ih n)))))
 (.node 64 (.leaf 63 (fun ih n=>CE (S63 ih n)))
 (.node 67 (.leaf 64 (fun ih n=>CE (S64 ih n)))
 (.leaf 67 (fun ih n=>EC (S67 ih n)))))))))
 (.node 91 (.node 79 (.node 73 (.node 70 (.node 69 (.leaf 68 (fun ih n=>KM (S68 ih n)))
 (.leaf 69 (fun ih n=>HO (S69 ih n))))
 (.node 71 (.leaf 70 (fun ih n=>KM (S70 ih n)))
 (.node 72 (.leaf 71 (fun ih n=>HO (S71 ih n)))
 (.leaf 72 (fun ih n=>CE (S72 ih n))))))
 (.node 76 (.node 74 (.leaf 73 (fun ih n=>HO (S73 ih n)))
 (.node 75 (.leaf 74 (fun ih n=>CE (S74 ih n)))
 (.leaf 75 (fun ih n=>CE (S75 ih n)))))
 (.node 77 (.leaf 76 (fun ih n=>CE (S76 ih n)))
 (.node 78 (.leaf 77 (fun ih n=>HO (S77 ih n)))
 (.leaf 78 (fun ih n=>CE (S78 ih n)))))))
 (.node 85 (.node 82 (.node 80 (.leaf 79 (fun ih n=>CE (S79 ih n)))
 (.node 81 (.leaf 80 (fun ih n=>CE (S80 ih n)))
 (.leaf 81 (fun ih n=>KM (S81 ih n)))))
 (.node 83 (.leaf 82 (fun ih n=>HO (S82 ih n)))
 (.node 84 (.leaf 83 (fun ih n=>HO (S83 ih n)))
 (.leaf 84 (fun ih n=>HO (S84 ih n))))))
 (.node 88 (.node 86 (.leaf 85 (fun ih n=>KM (S85 ih n)))
 (.node 87 (.leaf 86 (fun ih n=>CE (S86 ih n)))
 (.leaf 87 (fun ih n=>CE (S87 ih n)))))
 (.node 89 (.leaf 88 (fun ih n=>CE (S88 ih n)))
 (.node 90 (.leaf 89 (fun ih n=>HO (S89 ih n)))
 (.leaf 90 (fun ih n=>CE (S90 ih n))))))))
 (.node 107 (.node 101 (.node 98 (.node 96 (.leaf 91 (fun ih n=>CE (S91 ih n)))
 (.node 97 (.leaf 96 (fun ih n=>HO (S96 ih n)))
 (.leaf 97 (fun ih n=>KM (S97 ih n)))))
 (.node 99 (.leaf 98 (fun ih n=>KM (S98 ih n)))
 (.node 100 (.leaf 99 (fun ih n=>O5 (S99 ih n)))
 (.leaf 100 (fun ih n=>KM (S100 ih n))))))
 (.node 104 (.node 102 (.leaf 101 (fun ih n=>KM (S101 ih n)))
 (.node 103 (.leaf 102 (fun ih n=>EC (AgO ih n)))
 (.leaf 103 (fun ih n=>CE (S103 ih n)))))
 (.node 105 (.leaf 104 (fun ih n=>CE (WA ih n)))
 (.node 106 (.leaf 105 (fun ih n=>CE (AgW ih n)))
 (.leaf 106 (fun ih n=>EC (AiO ih n)))))))
 (.node 113 (.node 110 (.node 108 (.leaf 107 (fun ih n=>EC (Ail ih n)))
 (.node 109 (.leaf 108 (fun ih n=>HO (XZ ih n)))
 (.leaf 109 (fun ih n=>CE (Ahc ih n)))))
 (.node 111 (.leaf 110 (fun ih n=>CE (S110 ih n)))
 (.node 112 (.leaf 111 (fun ih n=>EC (AiR ih n)))
 (.leaf 112 (fun ih n=>EC (S112 ih n))))))
 (.node 116 (.node 114 (.leaf 113 (fun ih n=>KM (S113 ih n)))
 (.node 115 (.leaf 114 (fun ih n=>EC (Aum ih n)))
 (.leaf 115 (fun ih n=>EC (XI ih n)))))
 (.node 117 (.leaf 116 (fun ih n=>HO (R7 ih n)))
 (.node 118 (.leaf 117 (fun ih n=>EC (AgU ih n)))
 (.leaf 118 (fun ih n=>CE (QE ih n)))))))))
theorem Aud:dt.Ok EE ft.get :=
 ⟨⟨⟨⟨⟨⟨(fun ih n _ _ _ e=>DV (F:=Ax EE ih ft.get n 4) (Avn ih n) e),
 (fun ih n _ _ _ e=>Ak9 (F:=Ax EE ih ft.get n 11) (AsY ih n) e)⟩,
 ⟨(fun ih n _ _ _ e=>BH (F:=Ax EE ih ft.get n 12) (Arm ih n) e),
 ⟨(fun ih n _ _ _ e=>A8 (F:=Ax EE ih ft.get n 14) (Atc ih n) e),
 (fun ih n _ _ _ e=>A8 (F:=Ax EE ih ft.get n 15) (AsH ih n) e)⟩⟩⟩,
 ⟨⟨(fun ih n _ _ _ e=>CV (F:=Ax EE ih ft.get n 16) (AqY ih n) e),
 ⟨(fun ih n _ _ _ e=>A8 (F:=Ax EE ih ft.get n 17) (ArD ih n) e),
 (fun ih n _ _ _ e=>A8 (F:=Ax EE ih ft.get n 18) (Ap2 ih n) e)⟩⟩,
 ⟨(fun ih n _ _ _ e=>A8 (F:=Ax EE ih ft.get n 19) (Aqp ih n) e),
 ⟨(fun ih n _ _ _ e=>BH (F:=Ax EE ih ft.get n 20) (Ar4 ih n) e),
 (fun ih n _ _ _ e=>BH (F:=Ax EE ih ft.get n 21) (As0 ih n) e)⟩⟩⟩⟩,
 ⟨⟨⟨(fun ih n _ _ _ e=>CV (F:=Ax EE ih ft.get n 22) (Ap3 ih n) e),
 ⟨(fun ih n _ _ _ e=>A8 (F:=Ax EE ih ft.get n 23) (AqR ih n) e),
 (fun ih n _ _ _ e=>BH (F:=Ax EE ih ft.get n 24) (ArX ih n) e)⟩⟩,
 ⟨(fun ih n _ _ _ e=>BH (F:=Ax EE ih ft.get n 25) (AsG ih n) e),
 ⟨(fun ih n _ _ _ e=>CV (F:=Ax EE ih ft.get n 26) (AsV ih n) e),
 (fun ih n _ _ _ e=>BH (F:=Ax EE ih ft.get n 27) (AqG ih n) e)⟩⟩⟩,
 ⟨⟨(fun ih n _ _ _ e=>CV (F:=Ax EE ih ft.get n 28) (Atd ih n) e),
 ⟨(fun ih n _ _ _ e=>BH (F:=Ax EE ih ft.get n 29) (ApS ih n) e),
 (fun ih n _ _ _ e=>A8 (F:=Ax EE ih ft.get n 30) (Asp ih n) e)⟩⟩,
 ⟨(fun ih n _ _ _ e=>BH (F:=Ax EE ih ft.get n 31) (Aru ih n) e),
 ⟨(fun ih n _ _ _ e=>A8 (F:=Ax EE ih ft.get n 40) (Arx ih n) e),
 (fun ih n _ _ _ e=>A8 (F:=Ax EE ih ft.get n 41) (Aqm ih n) e)⟩⟩⟩⟩⟩,
 ⟨⟨⟨⟨(fun ih n _ _ _ e=>A8 (F:=Ax EE ih ft.get n 42) (Asv ih n) e),
 ⟨(fun ih n _ _ _ e=>DV (F:=Ax EE ih ft.get n 43) (ArC ih n) e),
 (fun ih n _ _ _ e=>BH (F:=Ax EE ih ft.get n 44) (Ap9 ih n) e)⟩⟩,
 ⟨(fun ih n _ _ _ e=>A8 (F:=Ax EE ih ft.get n 45) (Ase ih n) e),
 ⟨(fun ih n _ _ _ e=>BH (F:=Ax EE ih ft.get n 46) (Ary ih n) e),
 (fun ih n _ _ _ e=>A8 (F:=Ax EE ih ft.get n 47) (ArM ih n) e)⟩⟩⟩,
 ⟨⟨(fun ih n _ _ _ e=>A8 (F:=Ax EE ih ft.get n 48) (Aqu ih n) e),
 ⟨(fun ih n _ _ _ e=>BH (F:=Ax EE ih ft.get n 49) (Aqt ih n) e),
 (fun ih n _ _ _ e=>A8 (F:=Ax EE ih ft.get n 50) (Aqz ih n) e)⟩⟩,
 ⟨(fun ih n _ _ _ e=>BH (F:=Ax EE ih ft.get n 51) (AqS ih n) e),
 ⟨(fun ih n _ _ _ e=>BH (F:=Ax EE ih ft.get n 52) (Ar5 ih n) e),
 (fun ih n _ _ _ e=>A8 (F:=Ax EE ih ft.get n 53) (As7 ih n) e)⟩⟩⟩⟩,
 ⟨⟨⟨(fun ih n _ _ _ e=>BH (F:=Ax EE ih ft.get n 54) (ArO ih n) e),
 ⟨(fun ih n _ _ _ e=>A8 (F:=Ax EE ih ft.get n 55) (AsR ih n) e),
 (fun ih n _ _ _ e=>CV (F:=Ax EE ih ft.get n 56) (Ash ih n) e)⟩⟩,
 ⟨(fun ih n _ _ _ e=>BH (F:=Ax EE ih ft.get n 57) (As2 ih n) e),
 ⟨(fun ih n _ _ _ e=>BH (F:=Ax EE ih ft.get n 58) (Ars ih n) e),
 (fun ih n _ _ _ e=>A8 (F:=Ax EE ih ft.get n 59) (Asb ih n) e)⟩⟩⟩,
 ⟨⟨(fun ih n _ _ _ e=>BH (F:=Ax EE ih ft.get n 60) (Ap7 ih n) e),
 ⟨(fun ih n _ _ _ e=>DV (F:=Ax EE ih ft.get n 61) (ArG ih n) e),
 (fun ih n _ _ _ e=>DV (F:=Ax EE ih ft.get n 62) (AsQ ih n) e)⟩⟩,
 ⟨(fun ih n _ _ _ e=>A8 (F:=Ax EE ih ft.get n 63) (Ar0 ih n) e),
 ⟨(fun ih n _ _ _ e=>A8 (F:=Ax EE ih ft.get n 64) (Aqd ih n) e),
 (fun ih n _ _ _ e=>BH (F:=Ax EE ih ft.get n 67) (Ark ih n) e)⟩⟩⟩⟩⟩⟩,
 ⟨⟨⟨⟨⟨(fun ih n _ _ _ e=>DV (F:=Ax EE ih ft.get n 68) (Ar7 ih n) e),
 (fun ih n _ _ _ e=>CV (F:=Ax EE ih ft.get n 69) (ArR ih n) e)⟩,
 ⟨(fun ih n _ _ _ e=>DV (F:=Ax EE ih ft.get n 70) (AqC ih n) e),
 ⟨(fun ih n _ _ _ e=>CV (F:=Ax EE ih ft.get n 71) (AqV ih n) e),
 (fun ih n _ _ _ e=>A8 (F:=Ax EE ih ft.get n 72) (Asc ih n) e)⟩⟩⟩,
 ⟨⟨(fun ih n _ _ _ e=>CV (F:=Ax EE ih ft.get n 73) (Arr ih n) e),
 ⟨(fun ih n _ _ _ e=>A8 (F:=Ax EE ih ft.get n 74) (Asr ih n) e),
 (fun ih n _ _ _ e=>A8 (F:=Ax EE ih ft.get n 75) (ApU ih n) e)⟩⟩,
 ⟨(fun ih n _ _ _ e=>A8 (F:=Ax EE ih ft.get n 76) (Aq3 ih n) e),
 ⟨(fun ih n _ _ _ e=>CV (F:=Ax EE ih ft.get n 77) (AsL ih n) e),
 (fun ih n _ _ _ e=>A8 (F:=Ax EE ih ft.get n 78) (Art ih n) e)⟩⟩⟩⟩,
 ⟨⟨⟨(fun ih n _ _ _ e=>A8 (F:=Ax EE ih ft.get n 79) (Arn ih n) e),
 ⟨(fun ih n _ _ _ e=>A8 (F:=Ax EE ih ft.get n 80) (Ar2 ih n) e),
 (fun ih n _ _ _ e=>DV (F:=Ax EE ih ft.get n 81) (AsS ih n) e)⟩⟩,
 ⟨(fun ih n _ _ _ e=>CV (F:=Ax EE ih ft.get n 82) (Arz ih n) e),
 ⟨(fun ih n _ _ _ e=>CV (F:=Ax EE ih ft.get n 83) (AsP ih n) e),
 (fun ih n _ _ _ e=>CV (F:=Ax EE ih ft.get n 84) (ArI ih n) e)⟩⟩⟩,
 ⟨⟨(fun ih n _ _ _ e=>DV (F:=Ax EE ih ft.get n 85) (AqB ih n) e),
 ⟨(fun ih n _ _ _ e=>A8 (F:=Ax EE ih ft.get n 86) (Aq2 ih n) e),
 (fun ih n _ _ _ e=>A8 (F:=Ax EE ih ft.get n 87) (ArW ih n) e)⟩⟩,
 ⟨(fun ih n _ _ _ e=>A8 (F:=Ax EE ih ft.get n 88) (Aqg ih n) e),
 ⟨(fun ih n _ _ _ e=>CV (F:=Ax EE ih ft.get n 89) (ArS ih n) e),
 (fun ih n _ _ _ e=>A8 (F:=Ax EE ih ft.get n 90) (Aqc ih n) e)⟩⟩⟩⟩⟩,
 ⟨⟨⟨⟨(fun ih n _ _ _ e=>A8 (F:=Ax EE ih ft.get n 91) (AsM ih n) e),
 ⟨(fun ih n _ _ _ e=>CV (F:=Ax EE ih ft.get n 96) (Arg ih n) e),
 (fun ih n _ _ _ e=>DV (F:=Ax EE ih ft.get n 97) (Ap0 ih n) e)⟩⟩,
 ⟨(fun ih n _ _ _ e=>DV (F:=Ax EE ih ft.get n 98) (Asu ih n) e),
 ⟨(fun ih n _ _ _ e=>Ak9 (F:=Ax EE ih ft.get n 99) (Ap1 ih n) e),
 (fun ih n _ _ _ e=>DV (F:=Ax EE ih ft.get n 100) (Am6 ih n) e)⟩⟩⟩,
 ⟨⟨(fun ih n _ _ _ e=>DV (F:=Ax EE ih ft.get n 101) (Apd ih n) e),
 ⟨(fun ih n _ _ _ e=>BH (F:=Ax EE ih ft.get n 102) (Al5 ih n) e),
 (fun ih n _ _ _ e=>A8 (F:=Ax EE ih ft.get n 103) (AlN ih n) e)⟩⟩,
 ⟨(fun ih n _ _ _ e=>A8 (F:=Ax EE ih ft.get n 104) (AmY ih n) e),
 ⟨(fun ih n _ _ _ e=>A8 (F:=Ax EE ih ft.get n 105) (Alz ih n) e),
 (fun ih n _ _ _ e=>BH (F:=Ax EE ih ft.get n 106) (AlF ih n) e)⟩⟩⟩⟩,
 ⟨⟨⟨(fun ih n _ _ _ e=>BH (F:=Ax EE ih ft.get n 107) (AnV ih n) e),
 ⟨(fun ih n _ _ _ e=>CV (F:=Ax EE ih ft.get n 108) (Aor ih n) e),
 (fun ih n _ _ _ e=>A8 (F:=Ax EE ih ft.get n 109) (Anl ih n) e)⟩⟩,
 ⟨(fun ih n _ _ _ e=>A8 (F:=Ax EE ih ft.get n 110) (Ang ih n) e),
 ⟨(fun ih n _ _ _ e=>BH (F:=Ax EE ih ft.get n 111) (AoN ih n) e),
 (fun ih n _ _ _ e=>BH (F:=Ax EE ih ft.get n 112) (AoP ih n) e)⟩⟩⟩,
 ⟨⟨(fun ih n _ _ _ e=>DV (F:=Ax EE ih ft.get n 113) (Aph ih n) e),
 ⟨(fun ih n _ _ _ e=>BH (F:=Ax EE ih ft.get n 114) (Ao1 ih n) e),
 (fun ih n _ _ _ e=>BH (F:=Ax EE ih ft.get n 115) (Amu ih n) e)⟩⟩,
 ⟨(fun ih n _ _ _ e=>CV (F:=Ax EE ih ft.get n 116) (AmJ ih n) e),
 ⟨(fun ih n _ _ _ e=>BH (F:=Ax EE ih ft.get n 117) (AnC ih n) e),
 (fun ih n _ _ _ e=>A8 (F:=Ax EE ih ft.get n 118) (Anm ih n) e)⟩⟩⟩⟩⟩⟩⟩
theorem ApX:∀n f args h x,SS dt n f args h=some x->run EE n f args h=some x:=Au3 AtK Aud
end
end Idl
end Go.Proofs.Ytdibmackcbpniaa

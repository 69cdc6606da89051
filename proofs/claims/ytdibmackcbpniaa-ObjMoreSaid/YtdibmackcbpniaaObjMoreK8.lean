/-
  Texts of a proof, part 8: an ideal semantics of the program, its functions in shallow form, contracts of them. No statement of the seat is proved here.
-/
import Derived.Test.YtdibmackcbpniaaObjMoreK7
set_option linter.all false
noncomputable section
set_option maxRecDepth 100000
set_option linter.unusedVariables false
namespace Go.Proofs.Ytdibmackcbpniaa
namespace Idl
noncomputable section
abbrev OH:=Option (IV×Hp)
abbrev AF:=List Ref
abbrev iq (n:Int):IV:=.fv (.int .i64 n)
def UK (f g:Hp) (a b c d e:IV) (h:List IV→Hp→OH):OH :=
 BH (f.own.map (·.1)) [5257223] [a,b,c,d,e] g fun i=>h [a,b,c,d,e] i
def UW (a:Hp) (b:IV) (c:Aa) (d e:IV) (f:Hp) (g h i:IV) (j:List IV→Hp→OH):OH :=
 Ag 3 b a fun k _=>Am [] false false c 14 [k,.fv (.int .i64 2)] a fun l m _ _=>AE (Aj EE 28 1 [(0,l)]) 5257222 m fun n o _ _=>AE (AM EE 5257223 false .append [28,28] [d,n]) 5257223 o fun p q _ _=>B2 EE 3 e (.fv (.int .i64 1)) fun r=>UK f q g h i p r j
def U4 (a:Hp) (f:IV) (b:Aa) (c d g:IV) (h:Hp) (i j:IV) (k:List IV→Hp→OH):OH :=
 Ag 3 f a fun l _=>Am [] false false b 12 [l] a fun m e _ _=>Dw (M5 .not m) fun n=>An n (Ao [.fv (.bool true)] e) (Bh 3 c d fun o=>UW e o b g d h c i j k)
def VX (e f:IV) (b:Hp) (g h:IV) (i:Aa):OH :=
 AG e f (.fv (.bool false)) fun a=>Ab a true b (fun j=>Ag 3 g b fun k l=>j k b l []) fun m c _ _=>Ab a true c (fun n=>Ag 3 h c fun o p=>n o c p []) fun q d _ _=>Ab a true d (fun r=>Am [] false false i 18 [m,q] d r) fun s t _ _=>AG a s (.fv (.bool false)) fun u=>Ao [u] t
def V6 (d:Hp) (e i j f:IV) (g:Aa) (k:IV):OH :=
 Ab e true d (fun l=>A0 EE 35 i (.fv (.int .i64 0)) fun m=>l m d [] []) fun n b _ _=>AG e n (.fv (.bool false)) fun a=>Ab a true b (fun o=>Ag 3 j b fun p q=>o p b q []) fun r c _ _=>Ab a true c (fun s=>Ag 3 f c fun t u=>s t c u []) fun v h _ _=>Ab a true h (fun w=>Am [] false false g 18 [r,v] h w) fun x y _ _=>VX a x y k f g
def Vn (d:IV) (e:Hp) (f g h i:IV) (j:Aa):OH :=
 AA 1 d fun k=>AB 5259273 (.row [.fv (.int .i64 0),.fv (.int .i64 0),.nils] false) (.ptr (.own 5259273) 0) e fun a l _ _=>Ah 3 a f l fun b _ _=>A0 EE 35 g (.fv (.int .i64 0)) fun c=>Ab c true b (fun m=>m k b [] []) fun n o _ _=>V6 o c n h i j a
def Vt (b:Hp) (e c:IV) (a:Aa) (f g h:IV):OH :=
 Ag 3 e b fun i _=>BV c fun j=>Am [] false false a 28 [i,j,.fv (.int .i64 0)] b fun k l _ _=>Am [] false false a 17 [c,k] l fun d m _ _=>AA 0 d fun n=>Vn d m n f g h a
def VL (a:Aa) (e:Hp) (b f g h:IV):OH :=
 Am [] false false a 17 [b,f] e fun c i _ _=>AA 0 c fun j=>AA 1 c fun k=>AB 5258246 (.row [.fv (.int .i64 0),.fv (.int .i64 0),.nils] false) (.ptr (.own 5258246) 0) i fun d l _ _=>Ah 3 d j l fun m _ _=>Vt m g b a k d h
def VC (a b:IV) (c:Hp) (e:Aa) (f:IV) (h:Hp) (d g:IV) (i:List IV→Hp→OH):OH :=
 BV a fun j=>H4 EE 3 b j fun k=>An k (Bh 3 a b fun l=>U4 c l e a b f h d g i) (Ag 3 d c fun m _=>VL e c f m d g)
def PN (a:List IV) (b:Hp) (c:Aa) (d:Hp) (e:List IV→Hp→OH):OH :=
 AH a fun f g=>AH g fun h i=>AH i fun j k=>AH k fun l m=>AH m fun n _=>VC f n b c l d h j e
def UL (a e:Hp) (b c d:IV) (n:Nat) (f:Aa):OH :=
 BH (a.own.map (·.1)) [5257223] [b,c,d,.nils,.fv (.int .i64 0)] e fun g=>B5 n (fun h i j=>PN i j f a h) [b,c,d,.nils,.fv (.int .i64 0)] g
def Vh (d:Hp) (a e f g:IV) (h:Hp) (i:IV) (n:Nat) (j:Aa):OH :=
 AB 5248008 (.row [.fv (.int .i64 0),.fv (.int .i64 0),.nils] false) (.ptr (.own 5248008) 0) d fun b k _ _=>Ah 3 a e k fun l _ _=>Ah 3 b f l fun c _ _=>Dw (M5 .not g) fun m=>An m (Ao [.fv (.bool true)] c) (UL h c i a b n j)
def Ve (b:Aa) (c:Hp) (d e:IV) (f:Hp) (g:IV) (n:Nat):OH :=
 Am [] false false b 15 [d,e] c fun a h _ _=>AA 0 a fun i=>AA 1 a fun j=>AA 2 a fun k=>AB 5248007 (.row [.fv (.int .i64 0),.fv (.int .i64 0),.nils] false) (.ptr (.own 5248007) 0) h fun l m _ _=>Vh m l i j k f g n b
def VU (b:IV) (a:Hp) (c d:IV) (e:Aa) (f:Hp) (g:IV) (n:Nat):OH :=
 An b (Ao [.fv (.bool true)] a) (Ag 3 c a fun h _=>Ag 3 d a fun i _=>Ve e a h i f g n)
def VD (f g:IV) (b:Hp) (c h i:IV) (j:Aa) (k:Hp) (n:Nat):OH :=
 AG f (.fv (.bool true)) g fun a=>Ab a false b (fun l=>l c b [] []) fun m d _ _=>Ab a false d (fun o=>BV m fun p=>o p d [] []) fun q e _ _=>Ab a false e (fun r=>Ko EE 3 q (.fv (.int .i64 6)) fun s=>r s e [] []) fun t u _ _=>AG a (.fv (.bool true)) t fun v=>VU v u h i j k c n
def Vp (b:Aa) (g:Hp) (h d i j:IV) (k:Hp) (n:Nat):OH :=
 Am [] false false b 12 [h] g fun l c _ _=>Dw (M5 .not l) fun a=>Ab a false c (fun m=>Ag 3 d c fun o p=>m o c p []) fun q e _ _=>Ab a false e (fun r=>Am [] false false b 12 [q] e r) fun s f _ _=>Ab a false f (fun t=>Dw (M5 .not s) fun u=>t u f [] []) fun v w _ _=>VD a v w i j d b k n
def S5 (b:Aa) (n:Nat) (e f g:IV) (c:Hp):OH :=
 A4 5242880 e c fun d h _ _=>A4 5242881 f h fun i j _ _=>Am [] false false b 11 [] j fun k a _ _=>Dw (M5 .not k) fun l=>An l (Ao [.fv (.bool false)] a) (Ag 3 d a fun m _=>Vp b a m i g d c n)
theorem Am0 (a:Aa) (n:Nat) (b c d:IV) (e:Hp):AC EE a ft.get n 5 [b,c,d] e=S5 a n b c d e:=by kernel_rfl
def AkK (a:Hp) (b d:IV) (e:Aa):OH :=
 Ab b true a (fun f=>Ag 3 d a fun g h=>f g a h []) fun i c _ _=>Ab b true c (fun j=>Am [] false false e 20 [i] c j) fun k l _ _=>AG b k (.fv (.bool false)) fun m=>Ao [m] l
def AiW (f:IV) (c:Hp) (d:IV) (g:Aa):OH :=
 A0 EE 35 f (.fv (.int .i64 0)) fun a=>Ab a true c (fun h=>Ae 0 d fun i=>h i c [] []) fun j b _ _=>Ab a true b (fun k=>Ak j b fun l m=>k l b m []) fun n e _ _=>Ab a true e (fun o=>A0 EE 3 n (.fv (.int .i64 15)) fun p=>o p e [] []) fun q r _ _=>AG a q (.fv (.bool false)) fun s=>AkK r s d g
def S11 (a:Aa) (n:Nat) (d:Hp):OH :=
 Am [] false false a 31 [.fv (.int .i64 5)] d fun e f _ _=>Am [] false false a 17 [.nils,e] f fun b g _ _=>AA 0 b fun h=>AA 1 b fun i=>AB 11535365 (.row [.fv (.int .i64 0),.fv (.int .i64 0),.nils] false) (.ptr (.own 11535365) 0) g fun c j _ _=>Ah 3 c h j fun k _ _=>AiW i k c a
theorem AjS (a:Aa) (n:Nat) (b:Hp):AC EE a ft.get n 11 [] b=S11 a n b:=by kernel_rfl
def S12 (b:Aa) (n:Nat) (c:IV) (d:Hp):OH :=
 A4 12582912 c d fun e a _ _=>Ag 3 e a fun f _=>Am [] false false b 40 [f,.fv (.int .i64 300)] a fun g h _ _=>H4 EE 3 g (.fv (.int .i64 300)) fun i=>Ao [i] h
theorem Ajy (a:Aa) (n:Nat) (b:IV) (c:Hp):AC EE a ft.get n 12 [b] c=S12 a n b c:=by kernel_rfl
def Pt (c:Hp) (a d:IV):OH :=
 Ah 3 a d c fun b _ _=>As true 3 a b fun e=>Ao [e] b
def OO (b c:AF) (a:Hp) (d:IV):OH :=
 Ac [] b c (As true 3 d a fun e=>Ao [e] a)
def QB (b:Hp) (c d:IV) (e:Aa) (f a:IV):OH :=
 AE (Aj EE 28 2 [(0,c),(1,d)]) 14684173 b fun g h i j=>Ac [] i j (Am [] false false e 30 [f,g] h fun k l m n=>Ac [] m n (Ah 3 a k l fun o p q=>OO p q o a))
def P4 (a:Aa) (b:Hp) (c d e f g:IV):OH :=
 Am [] false false a 42 [c,.fv (.int .i64 1)] b fun h i j k=>Ac [] j k (Bg EE 3 d (.fv (.int .i64 1)) fun l=>Am [] false false a 14 [h,l] i fun m n o p=>Ac [] o p (QB n e m a f g))
def Qr (a:IV) (b:Aa) (f:Hp) (g h:IV) (i j k:AF) (l m:IV):OH :=
 Bg EE 3 a (.fv (.int .i64 1)) fun n=>Am [] false false b 14 [g,n] f fun o c d e=>Ac [] d e (Ag 3 h c fun p q=>Ac [(d,e),(i,j),(k,[])] q [] (P4 b c p a o l m))
def QO (g:IV) (a:Hp) (b:IV) (c:Aa) (h i:IV):OH :=
 Bg EE 3 g (.fv (.int .i64 2)) fun j=>Ag 3 b a fun k d=>Ac [] d [] (Am [] false false c 42 [k,.fv (.int .i64 0)] a fun l m e f=>Ac [] e f (Qr h c m l b e f d j i))
def Qh (b:Hp) (a c:IV) (d:Aa) (e h i:IV):OH :=
 Ab a false b (fun j=>j c b [] []) fun k f _ _=>Ab a false f (fun l=>H4 EE 3 k (.fv (.int .i64 2)) fun m=>l m f [] []) fun n g _ _=>AG a (.fv (.bool true)) n fun o=>An o (Am [] false false d 30 [.fv (.int .i64 15),.nils] g fun p q _ _=>Pt q e p) (B2 EE 3 (.fv (.int .i64 16)) c fun r=>QO r g h d i e)
def S14 (a:Aa) (n:Nat) (e b:IV) (f:Hp):OH :=
 A4 14680064 e f fun c g _ _=>AB 14680065 (.row [.fv (.int .i64 0),.fv (.int .i64 0),.nils] false) (.ptr (.own 14680065) 0) g fun h d _ _=>Ae 1 c fun i=>Ak i d fun j _=>Am [] false false a 41 [j,.fv (.int .i64 4)] d fun k l _ _=>leS EE 3 b (.fv (.int .i64 0)) fun m=>Qh l m k a h c b
theorem Aki (a:Aa) (n:Nat) (b c:IV) (d:Hp):AC EE a ft.get n 14 [b,c] d=S14 a n b c d:=by kernel_rfl
def Qq (b c:AF) (a:Hp) (d e:IV):OH :=
 Ac [] b c (As true 3 d a fun f=>As true 3 e a fun g=>Ao [f,g,.fv (.bool false)] a)
def QG (a:Hp) (e:IV) (f:AF) (b g c:IV):OH :=
 Ag 3 e a fun h d=>Ac [(f,[])] d [] (Ah 3 b g a fun i j k=>Ac [(d,[])] j k (Ah 3 c h i fun l m n=>Qq m n l b c))
def PP (c d e:AF) (f:Hp) (b g h i:IV):OH :=
 Ac [(e,[])] c d (Ah 3 b g f fun a j k=>Ac [] j k (As true 3 h a fun l=>As true 3 b a fun m=>Ao [l,m,i] a))
def PS (a:AF) (b:Hp) (e f c g h:IV):OH :=
 Ac [] a [] (Ag 3 e b fun i d=>Ac [(a,[])] d [] (A0 EE 3 f (.fv (.int .i64 0)) fun j=>Ah 3 c g b fun k l m=>PP l m d k h i c j))
def OQ (a:IV) (d:Hp) (e f g:IV):OH :=
 AA 0 a fun h=>AA 1 a fun i=>AB 15732741 (.row [.fv (.int .i64 0),.fv (.int .i64 0),.nils] false) (.ptr (.own 15732741) 0) d fun b j _ _=>Ah 3 b h j fun c _ _=>Ag 3 b c fun k l=>PS l c e i f k g
def Pz (g:IV) (a:Hp) (b c d e:IV) (h:Aa):OH :=
 An g (Ag 3 b a fun i f=>Ac [] f [] (QG a c f d i e)) (Ag 3 b a fun j _=>Am [] false false h 44 [j] a fun k l _ _=>OQ k l c d e)
def Qx (c:Hp) (d e f g h:IV) (i:Aa):OH :=
 AB 15729672 (.row [.fv (.int .i64 0),.fv (.int .i64 0),.nils] false) (.ptr (.own 15729672) 0) c fun a j _ _=>AB 15729673 (.row [.fv (.int .i64 0),.fv (.int .i64 0),.nils] false) (.ptr (.own 15729673) 0) j fun b k _ _=>Ah 3 a d k fun l _ _=>Ah 3 b e l fun m _ _=>Dw (M5 .not f) fun n=>Pz n m b a g h i
def O7 (b:Aa) (c:Hp) (d e f g:IV):OH :=
 Am [] false false b 43 [.nils,d,e,.fv (.bool true)] c fun a h _ _=>AA 0 a fun _=>AA 1 a fun i=>AA 2 a fun j=>AA 3 a fun k=>Qx h i j k f g b
def S15 (b:Aa) (n:Nat) (c d:IV) (e:Hp):OH :=
 A4 15728640 c e fun f g _ _=>A4 15728641 d g fun h i _ _=>AB 15728642 (.row [.fv (.int .i64 0),.fv (.int .i64 0),.nils] false) (.ptr (.own 15728642) 0) i fun j k _ _=>AB 15728643 (.row [.fv (.int .i64 0),.fv (.int .i64 0),.nils] false) (.ptr (.own 15728643) 0) k fun l a _ _=>Ag 3 f a fun m _=>Ag 3 h a fun o _=>O7 b a m o j l
theorem AkM (a:Aa) (n:Nat) (b c:IV) (d:Hp):AC EE a ft.get n 15 [b,c] d=S15 a n b c d:=by kernel_rfl
def Pp (c:Hp) (a d:IV):OH :=
 Ah 3 a d c fun b _ _=>As true 3 a b fun e=>Ao [e,.fv (.int .i64 1)] b
def Qc (a:Hp) (b c:IV):OH :=
 As true 3 b a fun d=>Ao [d,c] a
def Pv (c:Hp) (a d:IV):OH :=
 Ah 3 a d c fun b _ _=>As true 3 a b fun e=>Ao [e,.fv (.int .i64 0)] b
def O3 (c:IV) (a:Hp) (b d:IV) (e:Aa):OH :=
 H9 EE 35 c (.fv (.int .i64 0)) fun f=>An f (BW [.fv (.int .i64 0),.fv (.int .i64 0),.nils] [] fun g=>Ah 3 b g a fun h _ _=>Qc h b c) (Ag 3 d a fun i _=>Am [] false false e 54 [i] a fun j k _ _=>Pv k b j)
def Qs (a:Aa) (d:Hp) (e f g:IV):OH :=
 Am [] false false a 53 [e,f] d fun b h _ _=>AA 0 b fun i=>AA 1 b fun j=>AB 17828870 (.row [.fv (.int .i64 0),.fv (.int .i64 0),.nils] false) (.ptr (.own 17828870) 0) h fun c k _ _=>Ah 3 c i k fun l _ _=>O3 j l g c a
def QD (b:Hp) (c:IV) (d:Aa) (f e g h:IV):OH :=
 Ab c false b (fun i=>Am [] false false d 50 [f,.fv (.func (.func 51) [] [])] b i) fun j a _ _=>AG c (.fv (.bool true)) j fun k=>An k (BW [.fv (.int .i64 0),.fv (.int .i64 0),.nils] [] fun l=>Pp a e l) (Ag 3 g a fun m _=>Qs d a h m e)
def S17 (a:Aa) (n:Nat) (b g:IV) (h:Hp):OH :=
 A4 17825792 g h fun c i _ _=>AB 17825793 (.row [.fv (.int .i64 0),.fv (.int .i64 0),.nils] false) (.ptr (.own 17825793) 0) i fun j d _ _=>Ag 3 c d fun k _=>Am [] false false a 49 [k] d fun l e _ _=>H9 EE 35 l (.fv (.int .i64 0)) fun f=>Ab f false e (fun m=>m b e [] []) fun o p _ _=>QD p f a o j c b
theorem AjQ (a:Aa) (n:Nat) (b c:IV) (d:Hp):AC EE a ft.get n 17 [b,c] d=S17 a n b c d:=by kernel_rfl
def FD (a:IV) (b:List IV→Hp→OH) (c:Hp) (d e:IV):OH :=
 B2 EE 3 a (.fv (.int .i64 1)) fun f=>b [d,e,f] c
def Fl (b c d:AF) (e:Aa) (f:Hp) (g h i:IV) (j:List IV→Hp→OH) (k l:IV):OH :=
 Ac [(c,[]),(d,[])] b [] (Am [] false false e 18 [g,h] f fun m a n o=>Ac [] n o (Dw (M5 .not m) fun p=>An p (Ao [.fv (.bool false)] a) (FD i j a k l)))
def FA (b:IV) (a:Hp) (c d:AF) (e:IV) (f:Aa) (g:IV) (h:List IV→Hp→OH) (i:IV):OH :=
 Ae 2 b fun j=>Ak j a fun k l=>Ac [(c,[]),(d,[])] l [] (Bh 3 k e fun m=>Ag 3 m a fun n o=>Fl o c d f a g n e h i b)
def FE (a:Hp) (e b f:IV) (g:Aa) (h:List IV→Hp→OH) (i:IV):OH :=
 Ak e a fun j c=>Ac [] c [] (Bh 3 j b fun k=>Ag 3 k a fun l d=>Ac [] d [] (FA f a d c b g l h i))
def Fy (d a b:IV) (c:Hp) (e:IV) (f:Aa) (g:List IV→Hp→OH):OH :=
 BV d fun h=>H4 EE 3 a h fun i=>An i (Ae 2 b fun j=>FE c j a e f g b) (Ao [.fv (.bool true)] c)
def K4 (c:List IV) (a:Hp) (d:Aa) (e:List IV→Hp→OH):OH :=
 AH c fun b f=>AH f fun g h=>AH h fun i _=>Ae 2 b fun j=>Ak j a fun k _=>Fy k i b a g d e
def Fm (b:IV) (a:Hp) (n:Nat) (c d:IV) (e:Aa):OH :=
 An b (Ao [.fv (.bool false)] a) (B5 n (fun f g h=>K4 g h e f) [c,d,.fv (.int .i64 0)] a)
def Fw (c:Hp) (a d g:IV) (n:Nat) (h:IV) (i:Aa):OH :=
 Ab a false c (fun j=>Ae 2 d fun k=>j k c [] []) fun l b _ _=>Ab a false b (fun m=>Ak l b fun o p=>m o b p []) fun q e _ _=>Ab a false e (fun r=>BV q fun s=>r s e [] []) fun t f _ _=>Ab a false f (fun u=>H9 EE 3 g t fun v=>u v f [] []) fun w x _ _=>AG a (.fv (.bool true)) w fun y=>Fm y x n h d i
def Fr (c:Hp) (d h i e j:IV) (n:Nat) (k:Aa):OH :=
 Ab d false c (fun l=>H9 EE 3 h i fun m=>l m c [] []) fun o f _ _=>AG d (.fv (.bool true)) o fun a=>Ab a false f (fun p=>Ae 2 e fun q=>p q f [] []) fun r b _ _=>Ab a false b (fun s=>Ak r b fun t u=>s t b u []) fun v g _ _=>Ab a false g (fun w=>BV v fun x=>w x g [] []) fun y z _ _=>Fw z a j y n e k
def FG (h i:IV) (d:Hp) (e f:IV) (n:Nat) (j:Aa):OH :=
 H9 EE 3 h i fun a=>Ab a false d (fun k=>Ae 1 e fun l=>k l d [] []) fun m b _ _=>Ab a false b (fun o=>Ak m b fun p q=>o p b q []) fun r g _ _=>Ab a false g (fun s=>Ae 1 f fun t=>s t g [] []) fun u c _ _=>Ab a false c (fun v=>Ak u c fun w x=>v w c x []) fun y z _ _=>Fr z a r y e f n j
def S18 (d:Aa) (n:Nat) (e f:IV) (g:Hp):OH :=
 A4 18874368 e g fun b h _ _=>A4 18874369 f h fun c a _ _=>Ae 0 b fun i=>Ak i a fun j _=>Ae 0 c fun k=>Ak k a fun l _=>FG j l a b c n d
theorem Akm (a:Aa) (n:Nat) (b c:IV) (d:Hp):AC EE a ft.get n 18 [b,c] d=S18 a n b c d:=by kernel_rfl
def S20 (b:Aa) (n:Nat) (c:IV) (d:Hp):OH :=
 A4 20971520 c d fun e a _ _=>Ag 3 e a fun f _=>Am [] false false b 52 [f] a fun g h _ _=>Ao [g] h
theorem All (a:Aa) (n:Nat) (b:IV) (c:Hp):AC EE a ft.get n 20 [b] c=S20 a n b c:=by kernel_rfl
def Ad6 (b:IV) (a:Hp):OH :=
 Ae 1 b fun c=>Ak c a fun d _=>Ao [d] a
def S25 (c:Aa) (n:Nat) (d:IV) (e:Hp):OH :=
 A4 26214400 d e fun f g _ _=>BW [.fv (.int .i64 0),.fv (.int .i64 0)] [] fun h=>A4 26215425 h g fun a b _ _=>Ag 3 f b fun i _=>Am [true,false,false] false false c 56 [a,i,.fv (.int .i64 1)] b fun _ j _ _=>AU a fun k=>Ad6 k j
theorem AjY (a:Aa) (n:Nat) (b:IV) (c:Hp):AC EE a ft.get n 25 [b] c=S25 a n b c:=by kernel_rfl
def Fj (g:Hp) (h i j:IV) (k:Hp) (a b c d e:IV) (l:List IV→Hp→OH):OH :=
 Ck h i g fun m n o=>Ac [] n o (B2 EE 3 j (.fv (.int .i64 1)) fun f=>BH (k.own.map (·.1)) [29367312] [a,b,c,d,e,f] m fun p=>l [a,b,c,d,e,f] p)
def FJ (b:Hp) (c:IV) (d:AF) (e a f:IV) (g:Hp) (h i j k:IV) (l:List IV→Hp→OH):OH :=
 AE (Aj EE 28 1 [(0,c)]) 29367311 b fun m n o p=>Ac [(d,[])] o p (AE (AM EE 29367312 false .append [28,28] [e,m]) 29367312 n fun q r s t=>Ac [] s t (Ae 2 a fun u=>Fj r u q f g h i j k a l))
def FL (b:Aa) (f:Hp) (g c:IV) (h i a:AF) (d j e k l:IV) (m:Hp) (n o:IV) (p:List IV→Hp→OH):OH :=
 Am [] false false b 48 [g,c] f fun q r s t=>Ac [(h,[]),(i,[]),(a,[])] s t (B2 EE 3 d q fun u=>Am [] false false b 28 [j,e,u] r fun v w x y=>Ac [(a,[])] x y (FJ w v a k l c m e d n o p))
def FF (a:Hp) (f:IV) (b:AF) (d:IV) (e:AF) (g:Aa) (h i j k l:IV) (m:Hp) (n:IV) (o:List IV→Hp→OH):OH :=
 Ag 3 f a fun p c=>Ac [(b,[])] c [] (Ae 0 d fun q=>Ak q a fun r s=>Ac [(c,[]),(e,[]),(b,[])] s [] (FL g a r h c e b i p j k l m d n o))
def Fi (a:AF) (b:IV) (c:Hp) (d:IV) (f:Aa) (g h i j:IV) (k:Hp) (l:IV) (m:List IV→Hp→OH):OH :=
 Ac [] a [] (Ae 2 b fun n=>Ak n c fun o e=>Ac [(a,[])] e [] (Bh 3 o d fun p=>FF c p a b e f d g h i j k l m))
def Fg (a:Hp) (b:IV):OH :=
 As true 3 b a fun c=>Ao [c] a
def FI (d b:IV) (a:Hp) (e f:IV) (g:Aa) (h i:IV) (j:Hp) (c:IV) (k:List IV→Hp→OH):OH :=
 An d (Ae 2 b fun l=>Ak l a fun m n=>Fi n e a f g h i m b j c k) (Ag 3 b a fun o _=>Ah 3 c o a fun p _ _=>Fg p c)
def Fb (d:List IV) (a:IV) (b:Hp) (e:IV) (f:Aa) (g h:IV) (i:Hp) (j:IV) (k:List IV→Hp→OH):OH :=
 AH d fun c _=>Ae 2 a fun l=>Ak l b fun m _=>BV m fun n=>H4 EE 3 c n fun o=>FI o e b a c f g h i j k
def HI (a:List IV) (b:Hp) (c:Aa) (d:Hp) (e:List IV→Hp→OH):OH :=
 AH a fun f g=>AH g fun h i=>AH i fun j k=>AH k fun l m=>AH m fun n o=>Fb o j b n c h f d l e
def FK (a g:Hp) (b c d e f:IV) (n:Nat) (h:Aa):OH :=
 BH (a.own.map (·.1)) [29367312] [b,c,d,e,f,.fv (.int .i64 0)] g fun i=>B5 n (fun j k l=>HI k l h a j) [b,c,d,e,f,.fv (.int .i64 0)] i
def Fs (a:Hp) (b c d:IV) (e:Hp→OH):OH :=
 Ak b a fun f _=>B2 EE 3 f c fun g=>Ae 1 d fun h=>Ck h g a fun i _ _=>e i
def Fq (a:Hp) (b e f g h i:IV) (c:Hp→OH):OH :=
 Ab b true a (fun j=>geS EE 3 e f fun k=>j k a [] []) fun l d _ _=>AG b l (.fv (.bool false)) fun m=>An m (Ae 1 g fun n=>Fs d n h i c) (c d)
def FH (b:Hp) (f d g h i:IV) (j:Hp→OH):OH :=
 Ak f b fun k _=>A0 EE 3 k (.fv (.int .i64 1)) fun a=>Ab a true b (fun l=>Ae 1 d fun m=>l m b [] []) fun n c _ _=>Ab a true c (fun o=>Ak n c fun p q=>o p c q []) fun r e _ _=>Ab a true e (fun s=>s g e [] []) fun t u _ _=>Fq u a r t d h i j
def FC (e f:IV) (g h:Hp) (c d a i:IV) (n:Nat) (j:Aa):OH :=
 BW [.fv (.int .i64 0),.fv (.int .i64 0),.nils] [(0,1,e),(1,1,f)] fun k=>AB 29361157 (.row [.fv (.int .i64 0),.fv (.int .i64 0),.nils] false) (.ptr (.own 29361157) 0) g fun b l _ _=>Ah 3 b k l fun m _ _=>(fun (o:Hp→OH)=>Ae 0 a fun p=>FH m p a d c b o) fun q=>FK h q c d a i b n j
def S28 (d:Aa) (n:Nat) (e f g:IV) (c:Hp):OH :=
 A4 29360128 e c fun a h _ _=>AB 29360129 (.row [.fv (.int .i64 0),.fv (.int .i64 0),.nils] false) (.ptr (.own 29360129) 0) h fun i b _ _=>Ae 0 a fun j=>Ak j b fun k _=>Ae 1 a fun l=>Ak l b fun m _=>FC k m b c f g a i n d
theorem AkW (a:Aa) (n:Nat) (b c d:IV) (e:Hp):AC EE a ft.get n 28 [b,c,d] e=S28 a n b c d e:=by kernel_rfl
def S29 (h:Aa) (n:Nat) (c:IV) (d:Hp):OH :=
 AB 30408704 (.row [.fv (.int .i64 0),.fv (.int .i64 0),.nils] false) (.ptr (.own 30408704) 0) d fun a e _ _=>BW [.fv (.int .i64 0),.fv (.int .i64 0),.nils] [(0,1,.fv (.int .i64 1)),(1,1,c)] fun f=>Ah 3 a f e fun b _ _=>As true 3 a b fun g=>Ao [g] b
theorem AjZ (a:Aa) (n:Nat) (b:IV) (c:Hp):AC EE a ft.get n 29 [b] c=S29 a n b c:=by kernel_rfl
def S30 (i:Aa) (n:Nat) (c d:IV) (e:Hp):OH :=
 AB 31457280 (.row [.fv (.int .i64 0),.fv (.int .i64 0),.nils] false) (.ptr (.own 31457280) 0) e fun a f _ _=>BW [.fv (.int .i64 0),.fv (.int .i64 0),.nils] [(0,1,c),(2,1,d)] fun g=>Ah 3 a g f fun b _ _=>As true 3 a b fun h=>Ao [h] b
theorem Alc (a:Aa) (n:Nat) (b c:IV) (d:Hp):AC EE a ft.get n 30 [b,c] d=S30 a n b c d:=by kernel_rfl
def S31 (h:Aa) (n:Nat) (c:IV) (d:Hp):OH :=
 AB 32505856 (.row [.fv (.int .i64 0),.fv (.int .i64 0),.nils] false) (.ptr (.own 32505856) 0) d fun a e _ _=>BW [.fv (.int .i64 0),.fv (.int .i64 0),.nils] [(0,1,.fv (.int .i64 25)),(1,1,c)] fun f=>Ah 3 a f e fun b _ _=>As true 3 a b fun g=>Ao [g] b
theorem AjO (a:Aa) (n:Nat) (b:IV) (c:Hp):AC EE a ft.get n 31 [b] c=S31 a n b c:=by kernel_rfl
def Ms (a b c:IV) (d:List IV→Hp→OH) (e:Hp) (f g:IV):OH :=
 B2 EE 3 a b fun h=>B2 EE 3 c (.fv (.int .i64 1)) fun i=>d [f,g,h,i] e
def MB (a:Hp) (e b c d:IV) (f:Aa) (g:List IV→Hp→OH) (h:IV):OH :=
 Ak e a fun i _=>Bh 3 i b fun j=>Ag 3 j a fun k _=>Bg EE 3 c d fun l=>Am [] false false f 40 [k,l] a fun m n _ _=>Ms d m b g n c h
def L1 (a:Hp) (b f g c h i d:IV) (j:Aa) (k:List IV→Hp→OH):OH :=
 Ab b true a (fun l=>H4 EE 3 f g fun m=>l m a [] []) fun n e _ _=>AG b n (.fv (.bool false)) fun o=>An o (Ae 2 c fun p=>MB e p h i d j k c) (Ao [d] e)
def MJ (a:Hp) (g c d e h:IV) (i:Aa) (j:List IV→Hp→OH):OH :=
 Ak g a fun k _=>BV k fun l=>H4 EE 3 c l fun b=>Ab b true a (fun m=>m d a [] []) fun n f _ _=>Ab b true f (fun o=>o e f [] []) fun p q _ _=>L1 q b n p h c e d i j
def O1 (b:List IV) (c:Hp) (d:Aa) (e:List IV→Hp→OH):OH :=
 AH b fun f g=>AH g fun a h=>AH h fun i j=>AH j fun k _=>Ae 2 a fun l=>MJ c l k i f a d e
def S40 (a:Aa) (n:Nat) (b c:IV) (d:Hp):OH :=
 A4 41943040 b d fun e f _ _=>B5 n (fun g h i=>O1 h i a g) [c,e,.fv (.int .i64 1),.fv (.int .i64 0)] f
theorem Aj7 (a:Aa) (n:Nat) (b c:IV) (d:Hp):AC EE a ft.get n 40 [b,c] d=S40 a n b c d:=by kernel_rfl
def S41 (j:Aa) (n:Nat) (e b:IV) (c:Hp):OH :=
 CA EE 3 .rem e b fun a=>(fun (d:IV→Hp→OH)=>H4 EE 3 a (.fv (.int .i64 0)) fun f=>An f (B2 EE 3 a b fun g=>d g c) (d a c)) fun h i=>Ao [h] i
theorem AkF (a:Aa) (n:Nat) (b c:IV) (d:Hp):AC EE a ft.get n 41 [b,c] d=S41 a n b c d:=by kernel_rfl
def UX (d e:IV) (a:Hp) (b:IV):OH :=
 Bh 3 d e fun f=>Ag 3 f a fun g _=>Ah 3 b g a fun c _ _=>As true 3 b c fun h=>Ao [h] c
def VZ (c d e:IV) (f:Hp) (a:IV):OH :=
 CA EE 3 .mul (.fv (.int .i64 7)) c fun g=>B2 EE 3 d g fun h=>BW [.fv (.int .i64 0),.fv (.int .i64 0),.nils] [(0,1,e),(1,1,h)] fun i=>Ah 3 a i f fun b _ _=>As true 3 a b fun j=>Ao [j] b
def Vr (c a d:IV) (b:Hp) (e:IV):OH :=
 CA EE 3 .quo c (.fv (.int .i64 3)) fun f=>B2 EE 3 f a fun g=>Ae 1 d fun h=>Ak h b fun i _=>CA EE 3 .quo i (.fv (.int .i64 5)) fun j=>VZ a j g b e
def UV (e b:IV) (a:Hp) (c d:IV):OH :=
 An e (Ae 2 b fun f=>Ak f a fun g _=>UX g c a d) (Ae 0 b fun h=>Ak h a fun i _=>Vr i c b a d)
def S42 (l:Aa) (n:Nat) (d a:IV) (e:Hp):OH :=
 A4 44040192 d e fun b f _ _=>AB 44040193 (.row [.fv (.int .i64 0),.fv (.int .i64 0),.nils] false) (.ptr (.own 44040193) 0) f fun g c _ _=>Ae 2 b fun h=>Ak h c fun i _=>BV i fun j=>H4 EE 3 a j fun k=>UV k b c a g
theorem AjM (a:Aa) (n:Nat) (b c:IV) (d:Hp):AC EE a ft.get n 42 [b,c] d=S42 a n b c d:=by kernel_rfl
def WW (b c:AF) (a:Hp) (d e f:IV):OH :=
 Ac [] b c (As true 3 d a fun g=>As true 3 e a fun h=>Ao [f,g,h,.fv (.bool false)] a)
def Z9 (c:Aa) (d:Hp) (e:AF) (a f b g:IV):OH :=
 Am [] false false c 31 [.fv (.int .i64 0)] d fun h i j k=>Ac [(e,[])] j k (Ah 3 a f i fun l m n=>Ac [] m n (Ah 3 b h l fun o p q=>WW p q o a b g))
def X1 (b c:AF) (a:Hp) (d e f:IV):OH :=
 Ac [] b c (As true 3 d a fun g=>As true 3 e a fun h=>Ao [f,g,h,.fv (.bool true)] a)
def AaV (a:Hp) (e:IV) (f:AF) (b g c h:IV):OH :=
 Ag 3 e a fun i d=>Ac [(f,[])] d [] (Ah 3 b g a fun j k l=>Ac [(d,[])] k l (Ah 3 c i j fun m n o=>X1 n o m b c h))
def AbE (h i:IV) (a:Hp) (b:IV) (j:Aa) (c d e k:IV):OH :=
 AG h (.fv (.bool true)) i fun l=>An l (Ag 3 b a fun m f=>Ac [] f [] (Z9 j a f c m d e)) (Ag 3 b a fun n g=>Ac [] g [] (AaV a k g c n d e))
def YL (g:Hp) (b h i:IV) (d:Aa) (j k l m:IV):OH :=
 Ah 3 b h g fun c _ _=>Dw (M5 .not i) fun a=>Ab a false c (fun n=>Ag 3 b c fun o p=>n o c p []) fun q e _ _=>Ab a false e (fun r=>Am [] false false d 25 [q] e r) fun s f _ _=>Ab a false f (fun t=>H9 EE 3 s (.fv (.int .i64 0)) fun u=>t u f [] []) fun v w _ _=>AbE a v w j d k l m b
def Xh (a:Hp) (e:IV) (b:Aa) (c f g h i:IV):OH :=
 Ag 3 e a fun j _=>Am [] false false b 68 [c,f,j,.fv (.int .i64 5)] a fun d k _ _=>AA 0 d fun l=>AA 1 d fun m=>AB 45092871 (.row [.fv (.int .i64 0),.fv (.int .i64 0),.nils] false) (.ptr (.own 45092871) 0) k fun n o _ _=>YL o n l m b g h i c
def Wt (b:Hp) (e:IV) (c:Aa) (f g h i:IV):OH :=
 Ag 3 e b fun j _=>Am [] false false c 14 [j,.fv (.int .i64 2)] b fun k l _ _=>AB 45091842 (.row [.fv (.int .i64 0),.fv (.int .i64 0),.nils] false) (.ptr (.own 45091842) 0) l fun a m _ _=>Ah 3 a k m fun d _ _=>Ag 3 a d fun n _=>Xh d f c g n a h i
def XP (b c:AF) (a:Hp) (d e f:IV):OH :=
 Ac [] b c (As true 3 d a fun g=>As true 3 e a fun h=>Ao [f,g,h,.fv (.bool false)] a)
def Z2 (c:Aa) (d:Hp) (e:AF) (a f b g:IV):OH :=
 Am [] false false c 30 [.fv (.int .i64 11),.nils] d fun h i j k=>Ac [(e,[])] j k (Ah 3 a f i fun l m n=>Ac [] m n (Ah 3 b h l fun o p q=>XP p q o a b g))
def Xu (b c:AF) (a:Hp) (d e f:IV):OH :=
 Ac [] b c (As true 3 d a fun g=>As true 3 e a fun h=>Ao [f,g,h,.fv (.bool true)] a)
def XJ (a:Hp) (e:IV) (f:AF) (b g c h:IV):OH :=
 Ag 3 e a fun i d=>Ac [(f,[])] d [] (Ah 3 b g a fun j k l=>Ac [(d,[])] k l (Ah 3 c i j fun m n o=>Xu n o m b c h))
def YY (h i:IV) (a:Hp) (b:IV) (j:Aa) (c d e k:IV):OH :=
 AG h (.fv (.bool true)) i fun l=>An l (Ag 3 b a fun m f=>Ac [] f [] (Z2 j a f c m d e)) (Ag 3 b a fun n g=>Ac [] g [] (XJ a k g c n d e))
def Wy (g:Hp) (b h i:IV) (d:Aa) (j k l m:IV):OH :=
 Ah 3 b h g fun c _ _=>Dw (M5 .not i) fun a=>Ab a false c (fun n=>Ag 3 b c fun o p=>n o c p []) fun q e _ _=>Ab a false e (fun r=>Am [] false false d 25 [q] e r) fun s f _ _=>Ab a false f (fun t=>H9 EE 3 s (.fv (.int .i64 0)) fun u=>t u f [] []) fun v w _ _=>YY a v w j d k l m b
def XS (a:Hp) (e:IV) (b:Aa) (c f g h i:IV):OH :=
 Ag 3 e a fun j _=>Am [] false false b 70 [c,f,j,.fv (.int .i64 5)] a fun d k _ _=>AA 0 d fun l=>AA 1 d fun m=>AB 45097991 (.row [.fv (.int .i64 0),.fv (.int .i64 0),.nils] false) (.ptr (.own 45097991) 0) k fun n o _ _=>Wy o n l m b g h i c
def YO (b:Hp) (f:IV) (c:Aa) (d g h i:IV):OH :=
 Ag 3 f b fun j _=>Am [] false false c 69 [d,j,.fv (.int .i64 2)] b fun k l _ _=>AB 45096963 (.row [.fv (.int .i64 0),.fv (.int .i64 0),.nils] false) (.ptr (.own 45096963) 0) l fun a m _ _=>Ah 3 a k m fun e _ _=>Ag 3 a e fun n _=>XS e g c d n a h i
def S43 (a:Aa) (n:Nat) (h i j k:IV) (l:Hp):OH :=
 A4 45088768 i l fun b m _ _=>A4 45088769 j m fun c o _ _=>AB 45088771 (.row [.fv (.int .i64 0),.fv (.int .i64 0),.nils] false) (.ptr (.own 45088771) 0) o fun d p _ _=>AB 45088772 (.row [.fv (.int .i64 0),.fv (.int .i64 0),.nils] false) (.ptr (.own 45088772) 0) p fun e q _ _=>Am [] false false a 67 [h] q fun f g _ _=>An k (Wt g c a b f d e) (YO g c a f b d e)
theorem AjP (a:Aa) (n:Nat) (b c d e:IV) (f:Hp):AC EE a ft.get n 43 [b,c,d,e] f=S43 a n b c d e f:=by kernel_rfl
def Vu (c:Hp) (a d e:IV):OH :=
 Ah 3 a d c fun b _ _=>As true 3 a b fun f=>Ao [f,e] b
def VQ (c:Hp) (a d:IV):OH :=
 Ah 3 a d c fun b _ _=>As true 3 a b fun e=>Ao [e,.fv (.int .i64 0)] b
def Wm (e:Hp) (f b c:IV):OH :=
 AB 46138373 (.row [.fv (.int .i64 0),.fv (.int .i64 0),.nils] false) (.ptr (.own 46138373) 0) e fun d g _ _=>Ah 3 d f g fun a _ _=>H9 EE 3 b (.fv (.int .i64 0)) fun h=>An h (BW [.fv (.int .i64 0),.fv (.int .i64 0),.nils] [] fun i=>Vu a c i b) (Ag 3 d a fun j _=>VQ a c j)
def S44 (c:Aa) (n:Nat) (d:IV) (e:Hp):OH :=
 A4 46137344 d e fun f g _ _=>AB 46137345 (.row [.fv (.int .i64 0),.fv (.int .i64 0),.nils] false) (.ptr (.own 46137345) 0) g fun h a _ _=>Ag 3 f a fun i _=>Am [] false false c 58 [i] a fun b j _ _=>AA 0 b fun k=>AA 1 b fun l=>Wm j k l h
theorem Ak0 (a:Aa) (n:Nat) (b:IV) (c:Hp):AC EE a ft.get n 44 [b] c=S44 a n b c:=by kernel_rfl
def QP (b:IV) (a:Hp) (c:IV):OH :=
 An b (Ao [.fv (.int .i64 3)] a) (A0 EE 3 c (.fv (.int .i64 13)) fun d=>An d (Ao [.fv (.int .i64 4)] a) (Ao [.fv (.int .i64 (-1))] a))
def QN (a:IV) (b:IV→Hp→OH) (c:Hp) (d:IV):OH :=
 An a (b a c) (A0 EE 3 d (.fv (.int .i64 27)) fun e=>b e c)
def PD (c:IV) (b:Hp) (a:IV):OH :=
 An c (Ao [.fv (.int .i64 2)] b) ((fun (d:IV→Hp→OH)=>A0 EE 3 a (.fv (.int .i64 7)) fun e=>QN e d b a) fun f g=>QP f g a)
def OY (a:IV) (b:IV→Hp→OH) (c:Hp):OH :=
 A0 EE 3 a (.fv (.int .i64 28)) fun d=>An d (b d c) (A0 EE 3 a (.fv (.int .i64 29)) fun e=>b e c)
def P5 (a:IV) (b:IV→Hp→OH) (c:Hp):OH :=
 A0 EE 3 a (.fv (.int .i64 22)) fun d=>An d (b d c) (A0 EE 3 a (.fv (.int .i64 26)) fun e=>An e (b e c) (OY a b c))
def Pl (a:IV) (b:IV→Hp→OH) (c:Hp):OH :=
 A0 EE 3 a (.fv (.int .i64 20)) fun d=>An d (b d c) (A0 EE 3 a (.fv (.int .i64 21)) fun e=>An e (b e c) (P5 a b c))
def PO (a:IV) (b:IV→Hp→OH) (c:Hp):OH :=
 A0 EE 3 a (.fv (.int .i64 16)) fun d=>An d (b d c) (A0 EE 3 a (.fv (.int .i64 17)) fun e=>An e (b e c) (Pl a b c))
def Pk (a:IV) (b:IV→Hp→OH) (c:Hp):OH :=
 A0 EE 3 a (.fv (.int .i64 5)) fun d=>An d (b d c) (A0 EE 3 a (.fv (.int .i64 6)) fun e=>An e (b e c) (PO a b c))
def Pe (c:IV) (a:IV→Hp→OH) (b:Hp) (d:IV):OH :=
 An c (a c b) (A0 EE 3 d (.fv (.int .i64 4)) fun e=>An e (a e b) (Pk d a b))
def QJ (c:IV) (b:Hp) (a:IV):OH :=
 An c (Ao [.fv (.int .i64 1)] b) ((fun (d:IV→Hp→OH)=>A0 EE 3 a (.fv (.int .i64 3)) fun e=>Pe e d b a) fun f g=>PD f g a)
def OZ (a:IV) (b:IV→Hp→OH) (c:Hp):OH :=
 A0 EE 3 a (.fv (.int .i64 24)) fun d=>An d (b d c) (A0 EE 3 a (.fv (.int .i64 30)) fun e=>b e c)
def OC (a:IV) (b:IV→Hp→OH) (c:Hp):OH :=
 A0 EE 3 a (.fv (.int .i64 19)) fun d=>An d (b d c) (A0 EE 3 a (.fv (.int .i64 23)) fun e=>An e (b e c) (OZ a b c))
def ON (a:IV) (b:IV→Hp→OH) (c:Hp):OH :=
 A0 EE 3 a (.fv (.int .i64 12)) fun d=>An d (b d c) (A0 EE 3 a (.fv (.int .i64 18)) fun e=>An e (b e c) (OC a b c))
def Ql (c:IV) (a:IV→Hp→OH) (b:Hp) (d:IV):OH :=
 An c (a c b) (A0 EE 3 d (.fv (.int .i64 9)) fun e=>An e (a e b) (ON d a b))
def PB (c:IV) (b:Hp) (a:IV):OH :=
 An c (Ao [.fv (.int .i64 0)] b) ((fun (d:IV→Hp→OH)=>A0 EE 3 a (.fv (.int .i64 8)) fun e=>Ql e d b a) fun f g=>QJ f g a)
def Pn (a:IV) (b:IV→Hp→OH) (c:Hp):OH :=
 A0 EE 3 a (.fv (.int .i64 25)) fun d=>b d c
def QR (a:IV) (b:IV→Hp→OH) (c:Hp):OH :=
 A0 EE 3 a (.fv (.int .i64 14)) fun d=>An d (b d c) (A0 EE 3 a (.fv (.int .i64 15)) fun e=>An e (b e c) (Pn a b c))
def Qn (a:IV) (b:IV→Hp→OH) (c:Hp):OH :=
 A0 EE 3 a (.fv (.int .i64 10)) fun d=>An d (b d c) (A0 EE 3 a (.fv (.int .i64 11)) fun e=>An e (b e c) (QR a b c))
def S46 (h:Aa) (n:Nat) (a:IV) (b:Hp):OH :=
 (fun (c:IV→Hp→OH)=>A0 EE 3 a (.fv (.int .i64 1)) fun d=>An d (c d b) (A0 EE 3 a (.fv (.int .i64 2)) fun e=>An e (c e b) (Qn a c b))) fun f g=>PB f g a
theorem Ak6 (a:Aa) (n:Nat) (b:IV) (c:Hp):AC EE a ft.get n 46 [b] c=S46 a n b c:=by kernel_rfl
def AeR (b:IV) (a:Hp) (c:Hp→OH):OH :=
 A0 EE 3 b (.fv (.int .i64 0)) fun d=>An d (Ao [.fv (.int .i64 1)] a) (A0 EE 3 b (.fv (.int .i64 2)) fun e=>An e (Ao [.fv (.int .i64 2)] a) (c a))
def AdL (d c:IV) (a:Hp) (b:Hp→OH) (e:IV):OH :=
 An d (A0 EE 3 c (.fv (.int .i64 1)) fun f=>An f (Ao [.fv (.int .i64 1)] a) (b a)) (A0 EE 3 e (.fv (.int .i64 13)) fun g=>An g (AeR c a b) (b a))
def Afc (a:IV) (b:IV→Hp→OH) (c:Hp):OH :=
 A0 EE 3 a (.fv (.int .i64 29)) fun d=>b d c
def AdF (a:IV) (b:IV→Hp→OH) (c:Hp):OH :=
 A0 EE 3 a (.fv (.int .i64 20)) fun d=>An d (b d c) (A0 EE 3 a (.fv (.int .i64 28)) fun e=>An e (b e c) (Afc a b c))
def AdI (c:IV) (a:IV→Hp→OH) (b:Hp) (d:IV):OH :=
 An c (a c b) (A0 EE 3 d (.fv (.int .i64 6)) fun e=>An e (a e b) (AdF d a b))
def S48 (k:Aa) (n:Nat) (a e:IV) (b:Hp):OH :=
 (fun (f:Hp→OH)=>(fun (c:IV→Hp→OH)=>A0 EE 3 a (.fv (.int .i64 3)) fun d=>An d (c d b) (A0 EE 3 a (.fv (.int .i64 4)) fun g=>AdI g c b a)) fun h i=>AdL h e i f a) fun j=>Ao [.fv (.int .i64 0)] j
theorem AiP (a:Aa) (n:Nat) (b c:IV) (d:Hp):AC EE a ft.get n 48 [b,c] d=S48 a n b c d:=by kernel_rfl
def S49 (b:Aa) (n:Nat) (c:IV) (d:Hp):OH :=
 A4 51380224 c d fun e a _ _=>Ag 3 e a fun f _=>AB 51381249 (.row [.fv (.int .i64 0)] false) (.ptr (.own 51381249) 0) a fun g h _ _=>Am [false,true,false] false false b 71 [f,g,.fv (.int .i64 1)] h fun i j _ _=>Ao [i] j
theorem AjT (a:Aa) (n:Nat) (b:IV) (c:Hp):AC EE a ft.get n 49 [b] c=S49 a n b c:=by kernel_rfl
def S50 (a:Aa) (n:Nat) (b c:IV) (d:Hp):OH :=
 Am [] false false a 72 [b,c] d fun e f _ _=>geS EE 3 e (.fv (.int .i64 0)) fun g=>Ao [g] f
theorem Akb (a:Aa) (n:Nat) (b c:IV) (d:Hp):AC EE a ft.get n 50 [b,c] d=S50 a n b c d:=by kernel_rfl
def S51 (b:Aa) (n:Nat) (c:IV) (d:Hp):OH :=
 A4 53477376 c d fun e a _ _=>Ag 3 e a fun f _=>Am [] false false b 52 [f] a fun g h _ _=>Dw (M5 .not g) fun i=>Ao [i] h
theorem Alg (a:Aa) (n:Nat) (b:IV) (c:Hp):AC EE a ft.get n 51 [b] c=S51 a n b c:=by kernel_rfl
def AdX (a:Hp) (b:IV):OH :=
 Ak b a fun c _=>BV c fun d=>A0 EE 3 d (.fv (.int .i64 0)) fun e=>Ao [e] a
def AfS (c:Hp) (a e:IV) (f:Aa):OH :=
 Ab a true c (fun g=>Bh 3 e (.fv (.int .i64 1)) fun h=>g h c [] []) fun i b _ _=>Ab a true b (fun j=>Ag 3 i b fun k l=>j k b l []) fun m d _ _=>Ab a true d (fun n=>Am [] false false f 52 [m] d n) fun o p _ _=>AG a o (.fv (.bool false)) fun q=>Ao [q] p
def Adk (a:Hp) (b h:IV) (e:Aa) (i:IV):OH :=
 Ab b true a (fun j=>Ag 3 h a fun k l=>j k a l []) fun m f _ _=>Ab b true f (fun n=>Am [] false false e 52 [m] f n) fun o g _ _=>AG b o (.fv (.bool false)) fun c=>Ab c true g (fun p=>Ae 2 i fun q=>p q g [] []) fun r d _ _=>Ab c true d (fun s=>Ak r d fun t u=>s t d u []) fun v w _ _=>AfS w c v e
def Aed (f:IV) (c:Hp) (d:IV) (g:Aa):OH :=
 BV f fun h=>A0 EE 3 h (.fv (.int .i64 2)) fun a=>Ab a true c (fun i=>Ae 2 d fun j=>i j c [] []) fun k b _ _=>Ab a true b (fun l=>Ak k b fun m n=>l m b n []) fun o e _ _=>Ab a true e (fun p=>Bh 3 o (.fv (.int .i64 0)) fun q=>p q e [] []) fun r s _ _=>Adk s a r g d
def AeM (c b:IV) (a:Hp) (d:Aa):OH :=
 An c (Ae 2 b fun e=>Ak e a fun f _=>Aed f a b d) (Ao [.fv (.bool false)] a)
def AeK (a:IV) (b:IV→Hp→OH) (c:Hp):OH :=
 A0 EE 3 a (.fv (.int .i64 16)) fun d=>An d (b d c) (A0 EE 3 a (.fv (.int .i64 17)) fun e=>b e c)
def S52 (d:Aa) (n:Nat) (e:IV) (f:Hp):OH :=
 A4 54525952 e f fun a b _ _=>Ae 0 a fun g=>Ak g b fun c _=>A0 EE 3 c (.fv (.int .i64 15)) fun h=>An h (Ae 2 a fun i=>AdX b i) ((fun (j:IV→Hp→OH)=>AeK c j b) fun k l=>AeM k a l d)
theorem Ajn (a:Aa) (n:Nat) (b:IV) (c:Hp):AC EE a ft.get n 52 [b] c=S52 a n b c:=by kernel_rfl
def Zl (c:Hp) (a d:IV):OH :=
 Ah 3 a d c fun b _ _=>As true 3 a b fun e=>Ao [e,.fv (.int .i64 8)] b
def YE (a:Hp) (d b:IV):OH :=
 Ag 3 d a fun e _=>Ah 3 b e a fun c _ _=>As true 3 b c fun f=>Ao [f,.fv (.int .i64 0)] c
def YH (b c:IV) (a:Hp) (d e:IV):OH :=
 Bg EE 3 b (.fv (.int .i64 1)) fun f=>Ae 1 c fun g=>Ak g a fun h _=>Bg EE 3 f h fun i=>Bh 3 d i fun j=>YE a j e
def Zc (a d:IV) (b:Hp) (c e:IV):OH :=
 BV a fun f=>geS EE 3 d f fun g=>An g (BW [.fv (.int .i64 0),.fv (.int .i64 0),.nils] [] fun h=>Zl b c h) (BV a fun i=>YH i e b a c)
def Xk (c:Aa) (d:Hp) (a:IV):OH :=
 Am [] false false c 64 [.fv (.int .i64 15),.nils] d fun e f _ _=>Ah 3 a e f fun b _ _=>As true 3 a b fun g=>Ao [g,.fv (.int .i64 0)] b
def Aal (a:Hp) (b c:IV):OH :=
 As true 3 b a fun d=>Ao [d,c] a
def WH (c:Aa) (d:Hp) (e f g a h:IV):OH :=
 Am [] false false c 73 [e,f,g] d fun i j k l=>Ac [] k l (Ah 3 a h j fun b m n=>Ac [] m n (As true 3 a b fun o=>Ao [o,i] b))
def Abe (d:IV) (a:Hp) (e f:AF) (b:Aa) (g h i:IV):OH :=
 Bh 3 d (.fv (.int .i64 1)) fun j=>Ag 3 j a fun k c=>Ac [(e,f)] c [] (Am [] false false b 64 [.fv (.int .i64 15),.nils] a fun l m n o=>Ac [(c,[])] n o (WH b m g k l h i))
def WM (b:IV) (c:Hp) (a:IV) (d:Aa) (g h:IV):OH :=
 H9 EE 35 b (.fv (.int .i64 0)) fun i=>An i (BW [.fv (.int .i64 0),.fv (.int .i64 0),.nils] [] fun j=>Ah 3 a j c fun k _ _=>Aal k a b) (Am [] false false d 64 [.fv (.int .i64 15),.nils] c fun l m e f=>Ac [] e f (Abe g m e f d h a l))
def Xr (b:AF) (a:Aa) (d:Hp) (c e f g:IV):OH :=
 Ac [] b [] (Am [] false false a 64 [.fv (.int .i64 15),.nils] d fun h i j k=>Ac [(b,[])] j k (Am [] false false a 73 [c,e,h] i fun l m n o=>Ac [] n o (WM l m f a g c)))
def ZQ (a:IV) (d:Hp) (b:IV):OH :=
 AA 0 a fun e=>AA 1 a fun f=>Ah 3 b e d fun c _ _=>As true 3 b c fun g=>Ao [g,f] c
def WN (c:Hp) (a d e:IV):OH :=
 Ah 3 a d c fun b _ _=>As true 3 a b fun f=>Ao [f,e] b
def Zo (c:Hp) (a d e:IV):OH :=
 Ah 3 a d c fun b f g=>Ac [] f g (As true 3 a b fun h=>Ao [h,e] b)
def X2 (b c d e:AF) (f:Aa) (g:Hp) (h i j:IV):OH :=
 Ac [(c,d),(e,[])] b [] (Am [] false false f 53 [h,i] g fun a k l m=>Ac [] l m (AA 0 a fun n=>AA 1 a fun o=>Zo k j n o))
def Xv (a:AF) (b:Aa) (f:Hp) (g h i j:IV):OH :=
 Ac [] a [] (Am [] false false b 75 [g,h] f fun k c d e=>Ac [] d e (Bh 3 i (.fv (.int .i64 1)) fun l=>Ag 3 l c fun m n=>X2 n d e a b c k m j))
def Zy (e:Hp) (f b c:IV) (g:Aa) (h i:IV):OH :=
 AB 55592968 (.row [.fv (.int .i64 0),.fv (.int .i64 0),.nils] false) (.ptr (.own 55592968) 0) e fun d j _ _=>Ah 3 d f j fun a _ _=>H9 EE 35 b (.fv (.int .i64 0)) fun k=>An k (BW [.fv (.int .i64 0),.fv (.int .i64 0),.nils] [] fun l=>WN a c l b) (Ag 3 d a fun m n=>Xv n g a h m i c)
def Abr (a:IV) (b:Hp) (c:Aa) (d f:IV):OH :=
 Bh 3 a (.fv (.int .i64 0)) fun g=>Ag 3 g b fun h _=>Am [] false false c 53 [d,h] b fun e i _ _=>AA 0 e fun j=>AA 1 e fun k=>Zy i j k f c d a
def ZD (a:Hp) (b c:IV):OH :=
 As true 3 b a fun d=>Ao [d,c] a
def WI (a:Hp) (b c:IV):OH :=
 As true 3 b a fun d=>Ao [d,c] a
def Xc (c:Aa) (d:Hp) (e f g:IV) (h:AF) (a i:IV):OH :=
 Am [] false false c 73 [e,f,g] d fun j k l m=>Ac [(h,[])] l m (Ah 3 a i k fun b n o=>Ac [] n o (As true 3 a b fun p=>Ao [p,j] b))
def Y8 (d:IV) (a:Hp) (b:AF) (e:IV) (f:Aa) (g h i:IV):OH :=
 Bh 3 d (.fv (.int .i64 2)) fun j=>Ag 3 j a fun k c=>Ac [(b,[])] c [] (Ag 3 e a fun l m=>Ac [(c,[]),(b,[])] m [] (Xc f a g k l b h i))
def AaW (c:IV) (a:Hp) (b d f:IV) (g:Aa) (h:IV):OH :=
 H9 EE 35 c (.fv (.int .i64 0)) fun i=>An i (BW [.fv (.int .i64 0),.fv (.int .i64 0),.nils] [] fun j=>Ah 3 b j a fun k _ _=>WI k b c) (Ag 3 d a fun l e=>Ac [] e [] (Y8 f a e d g h b l))
def Xj (a:Aa) (e:Hp) (b f g h:IV):OH :=
 Am [] false false a 53 [b,f] e fun c i _ _=>AA 0 c fun j=>AA 1 c fun k=>AB 55601160 (.row [.fv (.int .i64 0),.fv (.int .i64 0),.nils] false) (.ptr (.own 55601160) 0) i fun d l _ _=>Ah 3 d j l fun m _ _=>AaW k m g d h a b
def Yt (c:IV) (a:Hp) (b d:IV) (e:Aa) (f:IV):OH :=
 H9 EE 35 c (.fv (.int .i64 0)) fun g=>An g (BW [.fv (.int .i64 0),.fv (.int .i64 0),.nils] [] fun h=>Ah 3 b h a fun i _ _=>ZD i b c) (Bh 3 d (.fv (.int .i64 1)) fun j=>Ag 3 j a fun k _=>Xj e a f k b d)
def Zd (b:AF) (a:Aa) (d:Hp) (c e f g:IV):OH :=
 Ac [] b [] (Am [] false false a 64 [.fv (.int .i64 15),.nils] d fun h i j k=>Ac [(b,[])] j k (Am [] false false a 73 [c,e,h] i fun l m n o=>Ac [] n o (Yt l m f g a c)))
def Yz (a:IV) (d:Hp) (b:IV):OH :=
 AA 0 a fun e=>AA 1 a fun f=>Ah 3 b e d fun c _ _=>As true 3 b c fun g=>Ao [g,f] c
def W6 (f b:IV) (a:Hp) (c:Aa) (d e g:IV):OH :=
 A0 EE 3 f (.fv (.int .i64 27)) fun h=>An h (Bh 3 b (.fv (.int .i64 0)) fun i=>Ag 3 i a fun j k=>Zd k c a d j e b) (Ag 3 g a fun l _=>ND EE c (.fv (.func (.func 76) [] [])) [d,l] a fun m n _ _=>Yz m n e)
def Yf (h:IV) (a:Hp) (e:IV) (b:Aa) (c d f g:IV):OH :=
 An h (Ag 3 e a fun i _=>Am [] false false b 74 [c,i] a fun j k _ _=>ZQ j k d) (A0 EE 3 f (.fv (.int .i64 28)) fun l=>An l (Abr g a b c d) (W6 f g a b c d e))
def Xy (a:IV) (b:IV→Hp→OH) (c:Hp) (d:IV):OH :=
 An a (b a c) (A0 EE 3 d (.fv (.int .i64 29)) fun e=>b e c)
def W2 (a b:IV) (c:Hp) (d:Aa) (e f g:IV):OH :=
 A0 EE 3 a (.fv (.int .i64 26)) fun h=>An h (Bh 3 b (.fv (.int .i64 0)) fun i=>Ag 3 i c fun j k=>Xr k d c e j f b) ((fun (l:IV→Hp→OH)=>A0 EE 3 a (.fv (.int .i64 20)) fun m=>Xy m l c a) fun n o=>Yf n o g d e f a b)
def Wv (b c:IV) (a:Hp) (e d:IV) (f:Aa) (g:IV):OH :=
 A0 EE 3 b (.fv (.int .i64 1)) fun h=>An h (Ae 1 c fun i=>Ak i a fun j _=>Zc e j a d c) (A0 EE 3 b (.fv (.int .i64 25)) fun k=>An k (Xk f a d) (W2 b g a f e d c))
def S53 (c:Aa) (n:Nat) (d e:IV) (f:Hp):OH :=
 A4 55574528 e f fun a g _ _=>AB 55574529 (.row [.fv (.int .i64 0),.fv (.int .i64 0),.nils] false) (.ptr (.own 55574529) 0) g fun h b _ _=>Ae 2 a fun i=>Ak i b fun j _=>Ae 0 a fun k=>Ak k b fun l _=>Wv l a b d h c j
theorem Aj0 (a:Aa) (n:Nat) (b c:IV) (d:Hp):AC EE a ft.get n 53 [b,c] d=S53 a n b c d:=by kernel_rfl
def QE (a b:IV) (h:Hp) (i:IV) (j:Hp) (c d e f:IV) (k:List IV→Hp→OH):OH :=
 Bh 3 a b fun l=>Ah 3 l i h fun m _ _=>B2 EE 3 b (.fv (.int .i64 1)) fun g=>BH (j.own.map (·.1)) [56627203] [c,d,a,e,f,g] m fun n=>k [c,d,a,e,f,g] n
def PG (a:Hp) (d:IV) (e:Aa) (f g:IV) (h:Hp) (i j k l:IV) (m:List IV→Hp→OH):OH :=
 Ag 3 d a fun n _=>AB 56627203 (.row [.fv (.int .i64 0),.fv (.int .i64 0),.nils] false) (.ptr (.own 56627203) 0) a fun b o _ _=>Ah 3 b n o fun c _ _=>Ag 3 b c fun p _=>Am [] false false e 54 [p] c fun q r _ _=>QE f g r q h i j k l m
def PE (a:Hp) (b:IV):OH :=
 As true 3 b a fun c=>Ao [c] a
def Ph (a:Hp) (c d e b:IV):OH :=
 Ak c a fun f _=>Ae 1 d fun g=>Ak g a fun h _=>BW [.fv (.int .i64 0),.fv (.int .i64 0),.nils] [(0,1,f),(1,1,h),(2,1,e)] fun i=>Ah 3 b i a fun j _ _=>PE j b
def Pf (h:List IV) (c d:IV) (e:Hp) (i:Aa) (f:IV) (j:Hp) (a g:IV) (k:List IV→Hp→OH):OH :=
 AH h fun b _=>H4 EE 3 b c fun l=>An l (Bh 3 d b fun m=>PG e m i f b j a g d c k) (Ae 0 a fun n=>Ph e n a f g)
def VY (a:List IV) (b:Hp) (c:Aa) (d:Hp) (e:List IV→Hp→OH):OH :=
 AH a fun f g=>AH g fun h i=>AH i fun j k=>AH k fun l m=>AH m fun n o=>Pf o n l b c j d f h e
def O5 (a:IV) (c d:Hp) (e f:IV) (n:Nat) (h:Aa):OH :=
 Ae 2 a fun i=>Ak i c fun b _=>BV b fun g=>BH (d.own.map (·.1)) [56627203] [a,e,f,b,g,.fv (.int .i64 0)] c fun j=>B5 n (fun k l m=>VY l m h d k) [a,e,f,b,g,.fv (.int .i64 0)] j
def S54 (e:Aa) (n:Nat) (f:IV) (a:Hp):OH :=
 A4 56623104 f a fun b g _ _=>AB 56623105 (.row [.fv (.int .i64 0),.fv (.int .i64 0),.nils] false) (.ptr (.own 56623105) 0) g fun h c _ _=>Ae 2 b fun i=>Ak i c fun j _=>BV j fun d=>AE (Ea EE 56624131 28 d d) 56624131 c fun k l _ _=>O5 b l a h k n e
theorem Alj (a:Aa) (n:Nat) (b:IV) (c:Hp):AC EE a ft.get n 54 [b] c=S54 a n b c:=by kernel_rfl
def Jp (b:Aa) (c:Hp) (a d e f:IV) (g:List IV→Hp→OH) (h i:IV):OH :=
 Am [true,false,false] false false b 56 [a,d,e] c fun _ j _ _=>B2 EE 3 f (.fv (.int .i64 1)) fun k=>g [a,h,i,k] j
def I7 (b:IV) (a:Hp) (c d:IV) (e:Aa) (f:IV) (g:List IV→Hp→OH):OH :=
 Ae 2 b fun h=>Ak h a fun i _=>Bh 3 i c fun j=>Ag 3 j a fun k _=>B2 EE 3 d (.fv (.int .i64 1)) fun l=>Jp e a f k l c g d b
def IQ (c:Hp) (a f g h i:IV) (j:Aa) (k:IV) (l:List IV→Hp→OH):OH :=
 Ab a true c (fun m=>Ae 1 f fun n=>m n c [] []) fun o b _ _=>Ab a true b (fun p=>Ak o b fun q r=>p q b r []) fun s d _ _=>Ab a true d (fun t=>A0 EE 3 s (.fv (.int .i64 0)) fun u=>t u d [] []) fun v e _ _=>AG a v (.fv (.bool false)) fun w=>An w (I7 g e h i j k l) (Ao [] e)
def IP (a:Hp) (f c d g h:IV) (i:Aa) (j:List IV→Hp→OH):OH :=
 Ak f a fun k _=>BV k fun l=>H4 EE 3 c l fun b=>Ab b true a (fun m=>m d a [] []) fun n e _ _=>Ab b true e (fun o=>AU n fun p=>o p e [] []) fun q r _ _=>IQ r b q g c h i d j
def IX (b:List IV) (c:Hp) (d:Aa) (e:List IV→Hp→OH):OH :=
 AH b fun f g=>AH g fun h i=>AH i fun a j=>AH j fun k _=>Ae 2 a fun l=>IP c l k f a h d e
def IE (n:Nat) (a:Hp) (b c d:IV) (e:Aa):OH :=
 B5 n (fun f g h=>IX g h e f) [b,c,d,.fv (.int .i64 0)] a
def Jj (a:Hp) (b:IV) (c:Hp→OH):OH :=
 Ck b (.fv (.int .i64 5)) a fun d _ _=>c d
def IT (a:IV) (b:Hp) (c:Hp→OH):OH :=
 Ae 1 a fun d=>Ck d (.fv (.int .i64 1)) b fun e _ _=>c e
def Jb (e f:AF) (a:Hp) (b g h:IV) (c:Hp→OH):OH :=
 Ac [] e f (Ab b false a (fun i=>Dw (M5 .not g) fun j=>i j a [] []) fun k d _ _=>AG b (.fv (.bool true)) k fun l=>An l (AU h fun m=>IT m d c) (c d))
def IF (c d:AF) (e:Hp) (a g:IV) (h:Aa) (i j:IV) (k:Hp→OH):OH :=
 Ac [] c d (Ab a false e (fun l=>Ae 1 g fun m=>l m e [] []) fun n b _ _=>Ab a false b (fun o=>Ak n b fun p q=>o p b q []) fun r f s t=>Ac [(c,d)] s t (Ab a false f (fun u=>Am [] false false h 80 [i,r] f u) fun v w x y=>Jb x y w a v j k))
def Jh (e f g h:AF) (i j:IV) (c:Hp) (d:IV) (k:Aa) (l:IV) (m:Hp→OH):OH :=
 Ac [(f,g),(h,[])] e [] (BV i fun n=>H9 EE 3 j n fun a=>Ab a false c (fun o=>Ae 0 d fun p=>o p c [] []) fun q b _ _=>Ab a false b (fun r=>Ak q b fun s t=>r s b t []) fun u v w x=>IF w x v a d k u l m)
def Jn (a:AF) (b:Aa) (g:Hp) (h c i:IV) (j:Hp→OH):OH :=
 Ac [] a [] (Am [] false false b 46 [h] g fun k d e f=>Ac [] e f (Ae 2 c fun l=>Ak l d fun m n=>Jh n e f a m k d c b i j))
def Jf (e b:IV) (a:Hp) (c:Hp→OH) (d:IV) (f:Aa):OH :=
 An e (AU b fun g=>Ae 1 g fun h=>Jj a h c) (Ae 0 d fun i=>Ak i a fun j k=>Jn k f a j d b c)
def IU (a:Hp) (d e f:IV) (g:Hp→OH) (h:IV) (i:Aa):OH :=
 Ak d a fun j _=>Ko EE 3 j (.fv (.int .i64 3000)) fun b=>Ab b false a (fun k=>k e a [] []) fun l c _ _=>Ab b false c (fun m=>Ko EE 3 l (.fv (.int .i64 120)) fun n=>m n c [] []) fun o p _ _=>AG b (.fv (.bool true)) o fun q=>Jf q f p g h i
def Jt (e:IV) (f:Hp) (g:IV) (n:Nat) (a b c:IV) (d:Aa):OH :=
 Ae 0 e fun h=>Ck h g f fun i _ _=>(fun (j:Hp→OH)=>AU a fun k=>Ae 0 k fun l=>IU i l b a j c d) fun m=>IE n m a b c d
def S56 (c:Aa) (n:Nat) (a d e:IV) (f:Hp):OH :=
 A4 58720256 d f fun g b _ _=>AU a fun h=>Ae 0 h fun i=>Ak i b fun j _=>B2 EE 3 j (.fv (.int .i64 1)) fun k=>AU a fun l=>Jt l b k n a e g c
theorem AkB (a:Aa) (n:Nat) (b c d:IV) (e:Hp):AC EE a ft.get n 56 [b,c,d] e=S56 a n b c d e:=by kernel_rfl
def U9 (b c d:AF) (a:Hp) (e f:IV):OH :=
 Ac [(d,[])] b c (As true 3 e a fun g=>Ao [g,f] a)
def V5 (d:IV) (a:Hp) (b e:IV):OH :=
 AU d fun f=>Ae 2 f fun g=>Ak g a fun h c=>Ac [] c [] (Ah 3 b e a fun i j k=>U9 j k c i b h)
def VB (c:Hp) (a d:IV):OH :=
 Ah 3 a d c fun b _ _=>As true 3 a b fun e=>Ao [e,.fv (.int .i64 0)] b
def VE (a:Hp) (c d b e:IV):OH :=
 Ak c a fun f _=>H9 EE 3 f (.fv (.int .i64 0)) fun g=>An g (BW [.fv (.int .i64 0),.fv (.int .i64 0),.nils] [] fun h=>V5 d a b h) (Ag 3 e a fun i _=>VB a b i)
def Wn (c:Aa) (d:Hp) (a e f:IV):OH :=
 Am [true,false,false,false] false false c 81 [a,e,.fv (.int .i64 0),.fv (.int .i64 1)] d fun g h _ _=>AB 60819461 (.row [.fv (.int .i64 0),.fv (.int .i64 0),.nils] false) (.ptr (.own 60819461) 0) h fun b i _ _=>Ah 3 b g i fun j _ _=>AU a fun k=>Ae 2 k fun l=>VE j l a f b
def S58 (a:Aa) (n:Nat) (d:IV) (e:Hp):OH :=
 A4 60817408 d e fun f g _ _=>AB 60817409 (.row [.fv (.int .i64 0),.fv (.int .i64 0),.nils] false) (.ptr (.own 60817409) 0) g fun h i _ _=>BW [.fv (.int .i64 0),.fv (.int .i64 0),.fv (.int .i64 0)] [] fun j=>A4 60818433 j i fun b c _ _=>Ag 3 f c fun k _=>Am [true,false,false] false false a 82 [b,k,.nils] c fun l m _ _=>Wn a m b l h
theorem Ajd (a:Aa) (n:Nat) (b:IV) (c:Hp):AC EE a ft.get n 58 [b] c=S58 a n b c:=by kernel_rfl
def S60 (h:Aa) (n:Nat) (c:IV) (d:Hp):OH :=
 AB 62914560 (.row [.fv (.int .i64 0),.fv (.int .i64 0),.nils] false) (.ptr (.own 62914560) 0) d fun a e _ _=>BW [.fv (.int .i64 0),.fv (.int .i64 0),.nils] [(0,1,.fv (.int .i64 2)),(1,1,c)] fun f=>Ah 3 a f e fun b _ _=>As true 3 a b fun g=>Ao [g] b
theorem Akh (a:Aa) (n:Nat) (b:IV) (c:Hp):AC EE a ft.get n 60 [b] c=S60 a n b c:=by kernel_rfl
def S64 (i:Aa) (n:Nat) (c d:IV) (e:Hp):OH :=
 AB 67108864 (.row [.fv (.int .i64 0),.fv (.int .i64 0),.nils] false) (.ptr (.own 67108864) 0) e fun a f _ _=>BW [.fv (.int .i64 0),.fv (.int .i64 0),.nils] [(0,1,c),(2,1,d)] fun g=>Ah 3 a g f fun b _ _=>As true 3 a b fun h=>Ao [h] b
theorem Ajk (a:Aa) (n:Nat) (b c:IV) (d:Hp):AC EE a ft.get n 64 [b,c] d=S64 a n b c d:=by kernel_rfl
def Vj (d:IV) (e f:Hp) (a b:IV) (g:List IV→Hp→OH):OH :=
 B2 EE 3 d (.fv (.int .i64 1)) fun c=>BH (e.own.map (·.1)) [70260746] [a,b,c] f fun h=>g [a,b,c] h
def Vc (a:Aa) (b:Hp) (c d:IV) (e:IV→Hp→OH):OH :=
 Am [] false false a 96 [c,.fv (.int .i64 0),d] b fun f g _ _=>e f g
def U5 (d e:AF) (f:IV→Hp→OH) (g:IV) (a:Hp) (h:IV) (i:Aa) (b:IV):OH :=
 Ac [] d e ((fun (c:IV→Hp→OH)=>An g (Ag 3 h a fun j _=>Vc i a b j c) (c b a)) fun k l=>f k l)
def VJ (a:IV) (c:Hp) (d e f g h:AF) (i:IV→Hp→OH) (j:Aa) (k:IV):OH :=
 AA 0 a fun l=>AA 1 a fun m=>AB 70260746 (.row [.fv (.int .i64 0),.fv (.int .i64 0),.nils] false) (.ptr (.own 70260746) 0) c fun b n o p=>Ac [(d,e),(f,[]),(g,h)] o p (Ah 3 b l n fun q r s=>U5 r s i m q b j k)
def UJ (i j:IV) (a:Hp) (b c:AF) (d:Aa) (e k:IV) (l:IV→Hp→OH):OH :=
 Bh 3 i j fun m=>Ag 3 m a fun n f=>Ac [(b,c)] f [] (Am [] false false d 70 [e,k,n,.fv (.int .i64 2)] a fun o p g h=>Ac [] g h (VJ o p g h f b c l d e))
def U3 (a:Aa) (c:Hp) (b d:IV) (e:IV→Hp→OH):OH :=
 Am [] false false a 69 [b,d,.fv (.int .i64 2)] c fun f g _ _=>Am [] false false a 96 [b,.fv (.int .i64 1),f] g fun h i _ _=>e h i
def Vs (i:IV) (a:Aa) (b:Hp) (c d e:IV) (f:IV→Hp→OH):OH :=
 An i (Am [] false false a 30 [.fv (.int .i64 14),.nils] b fun j k g h=>Ac [] g h (UJ c d k g h a e j f)) (Bh 3 c d fun l=>Ag 3 l b fun m _=>U3 a b e m f)
def UU (a b:IV) (c:Hp) (d:Aa) (e:IV) (f:IV→Hp→OH):OH :=
 Bh 3 a b fun g=>Ae 1 g fun h=>Ak h c fun i _=>Am [] false false d 41 [i,.fv (.int .i64 3)] c fun j k _ _=>A0 EE 3 j (.fv (.int .i64 0)) fun l=>Vs l d k a b e f
def Wf (c:Hp) (a b:IV) (h:Hp) (d:IV) (i:List IV→Hp→OH) (j:Aa) (e:IV):OH :=
 Ab a true c (fun k=>k b c [] []) fun l f _ _=>Ab a true f (fun m=>H4 EE 3 l (.fv (.int .i64 4)) fun n=>m n f [] []) fun o g _ _=>AG a o (.fv (.bool false)) fun p=>An p ((fun (q:IV→Hp→OH)=>UU d b g j e q) fun r s=>Vj b h s d r i) (Ao [e] g)
def Afq (c:List IV) (d e:Hp) (f:List IV→Hp→OH) (g:Aa):OH :=
 AH c fun a h=>AH h fun i j=>AH j fun b _=>BV a fun k=>H4 EE 3 b k fun l=>Wf d l b e a f g i
def S67 (c:Aa) (n:Nat) (b:IV) (a:Hp):OH :=
 BH (a.own.map (·.1)) [70260746] [b,.nils,.fv (.int .i64 0)] a fun d=>B5 n (fun e f g=>Afq f g a e c) [b,.nils,.fv (.int .i64 0)] d
theorem Alb (a:Aa) (n:Nat) (b:IV) (c:Hp):AC EE a ft.get n 67 [b] c=S67 a n b c:=by kernel_rfl
def Yu (c:Hp) (a d:IV):OH :=
 Ah 3 a d c fun b _ _=>As true 3 a b fun e=>Ao [e,.fv (.bool false)] b
def YX (a:Hp) (b c:IV):OH :=
 As true 3 b a fun d=>Ao [d,c] a
def ZV (c:Hp) (a d e:IV):OH :=
 Ah 3 a d c fun b _ _=>As true 3 a b fun f=>Ao [f,e] b
def Y4 (a:Hp) (c d:IV) (e:Aa) (f g h:IV):OH :=
 Ag 3 c a fun i _=>Ag 3 d a fun j _=>Am [] false false e 98 [f,i,j,g] a fun b k _ _=>AA 0 b fun l=>AA 1 b fun m=>ZV k h l m
def ZM (a:Hp) (b e c f:IV):OH :=
 Ab b true a (fun g=>g e a [] []) fun h i _ _=>AG b h (.fv (.bool false)) fun j=>Ah 3 c f i fun d k l=>Ac [] k l (As true 3 c d fun m=>Ao [m,j] d)
def Zh (a:Hp) (e:IV) (f b c d:AF) (g h i j k:IV):OH :=
 Ag 3 e a fun l m=>Ac [(f,[]),(b,c),(d,[])] m [] (AE (Aj EE 28 2 [(0,g),(1,l)]) 71317509 a fun n o p q=>Ac [(b,c),(d,[])] p q (BW [.fv (.int .i64 0),.fv (.int .i64 0),.nils] [(0,1,.fv (.int .i64 26)),(1,1,h),(2,1,n)] fun r=>ZM o i j k r))
def XR (a:AF) (f:Aa) (g:Hp) (h i j k l m:IV):OH :=
 Ac [] a [] (Am [] false false f 41 [h,.fv (.int .i64 5)] g fun n d b c=>Ac [] b c (Ag 3 i d fun o e=>Ac [(b,c),(a,[])] e [] (Zh d j e b c a o n k l m)))
def ZJ (c d e f g h i j:AF) (k:Hp) (a l m:IV) (n:Aa) (o p q r:IV):OH :=
 Ac [(e,f),(g,h),(i,[]),(j,[])] c d (Ah 3 a l k fun b s t=>Ac [] s t (Ae 1 m fun u=>Ak u b fun v w=>XR w n b v o a p q r))
def ZA (a:Aa) (e:Hp) (f g h i:IV) (j k l m:AF) (n o p q:IV):OH :=
 Am [] false false a 68 [f,g,h,i] e fun b r c d=>Ac [] c d (AA 0 b fun s=>AA 1 b fun t=>AB 71316490 (.row [.fv (.int .i64 0),.fv (.int .i64 0),.nils] false) (.ptr (.own 71316490) 0) r fun u v w x=>ZJ w x c d j k l m v u s n a o p t q)
def ZP (b:Hp) (c:IV) (a:AF) (d:Aa) (h i j k l m:IV):OH :=
 Ag 3 c b fun n e=>Ac [(a,[])] e [] (Am [] false false d 42 [n,.fv (.int .i64 1)] b fun o p f g=>Ac [(a,[])] f g (Bg EE 3 h (.fv (.int .i64 1)) fun q=>ZA d p i j o q f g e a c k l m))
def XT (d e f g h i j k:AF) (l:Hp) (a m n o:IV) (p:Aa) (q r s t:IV):OH :=
 Ac [(f,g),(h,i),(j,[]),(k,[])] d e (Ah 3 a m l fun b u v=>Ac [] u v (Ag 3 n b fun w c=>Ac [] c [] (ZP b o c p q r w a s t)))
def Z3 (a:Aa) (f:Hp) (b g h i:IV) (j k l m:AF) (n o p q:IV):OH :=
 Am [] false false a 68 [b,g,h,i] f fun c r d e=>Ac [] d e (AA 0 c fun s=>AA 1 c fun t=>AB 71315466 (.row [.fv (.int .i64 0),.fv (.int .i64 0),.nils] false) (.ptr (.own 71315466) 0) r fun u v w x=>XT w x d e j k l m v u s n o a p b t q)
def ZY (b:Hp) (c:IV) (a:AF) (d:Aa) (e i j k l:IV):OH :=
 Ag 3 c b fun m f=>Ac [(a,[])] f [] (Am [] false false d 42 [m,.fv (.int .i64 0)] b fun n o g h=>Ac [(a,[])] g h (Bg EE 3 e (.fv (.int .i64 1)) fun p=>Z3 d o i j n p g h f a k c e l))
def Zx (a:Aa) (d:Hp) (e b:IV):OH :=
 Am [] false false a 41 [e,.fv (.int .i64 20)] d fun f g _ _=>Bg EE 3 f (.fv (.int .i64 5)) fun h=>Am [] false false a 31 [h] g fun i j _ _=>Ah 3 b i j fun c _ _=>As true 3 b c fun k=>Ao [k,.fv (.bool true)] c
def Abg (g:IV) (a:Hp) (b c:IV) (d:Aa) (h i e:IV):OH :=
 An g (Ag 3 b a fun j f=>Ac [] f [] (ZY a c f d h i j b e)) (Ae 1 c fun k=>Ak k a fun l _=>Zx d a l e)
def Aah (c:Hp) (a d:IV) (e:Aa) (h i j k:IV):OH :=
 Ab a true c (fun l=>Ae 0 d fun m=>l m c [] []) fun n b _ _=>Ab a true b (fun o=>Ak n b fun p q=>o p b q []) fun r f _ _=>Ab a true f (fun s=>Am [] false false e 41 [r,.fv (.int .i64 2)] f s) fun t g _ _=>Ab a true g (fun u=>A0 EE 3 t (.fv (.int .i64 1)) fun v=>u v g [] []) fun w x _ _=>AG a w (.fv (.bool false)) fun y=>Abg y x h d e i j k
def Aai (b c:AF) (a:Hp) (d e:IV):OH :=
 Ac [] b c (As true 3 d a fun f=>Ao [f,e] a)
def YK (b:Hp) (c d:IV) (e:Aa) (a f:IV):OH :=
 AE (Aj EE 28 2 [(0,c),(1,d)]) 71321605 b fun g h i j=>Ac [] i j (Am [] false false e 30 [.fv (.int .i64 20),g] h fun k l m n=>Ac [] m n (Ah 3 a k l fun o p q=>Aai p q o a f))
def AbA (c:IV) (a:Hp) (d:IV) (e:AF) (f:Aa) (g h:IV):OH :=
 Bh 3 c (.fv (.int .i64 0)) fun i=>Ag 3 i a fun j b=>Ac [] b [] (Ag 3 d a fun k l=>Ac [(b,[]),(e,[])] l [] (YK a j k f g h))
def YI (d:Hp) (a e f:IV) (g:Aa) (h i:IV):OH :=
 Ah 3 a e d fun b j k=>Ac [] j k (Ae 2 f fun l=>Ak l b fun m c=>Ac [] c [] (AbA m b a c g h i))
def Yr (a b:AF) (c:IV) (d:Hp) (e f g h i j k l m n o:AF) (p:IV) (q:Aa) (r:IV):OH :=
 Ac [] a b (AA 0 c fun s=>AA 1 c fun t=>AB 71320595 (.row [.fv (.int .i64 0),.fv (.int .i64 0),.nils] false) (.ptr (.own 71320595) 0) d fun u v w x=>Ac [(a,b),(e,f),(g,[]),(h,i),(j,[]),(k,[]),(l,m),(n,[]),(o,[])] w x (YI v u s p q r t))
def AbD (b c d e f g h i j:AF) (a:Aa) (m:Hp) (n o p q r s:IV):OH :=
 Ac [(c,d),(e,[]),(f,[]),(g,h),(i,[]),(j,[])] b [] (Am [] false false a 42 [n,.fv (.int .i64 0)] m fun t u k l=>Ac [] k l (Bg EE 3 o (.fv (.int .i64 1)) fun v=>Am [] false false a 68 [p,q,t,v] u fun w x y z=>Yr y z w x k l b c d e f g h i j r a s))
def Yo (a:Hp) (k:IV) (b c d e:AF) (f:Aa) (l:IV) (m:AF) (n o p q:IV):OH :=
 Ag 3 k a fun r g=>Ac [(b,c),(d,[]),(e,[])] g [] (Am [] false false f 28 [r,.fv (.int .i64 1),.fv (.int .i64 0)] a fun s h i j=>Ac [] i j (Ag 3 l h fun t u=>AbD u i j g m b c d e f h t n o s p q))
def Aau (a b:AF) (c:IV) (d:Hp) (e f:AF) (h:Aa) (i j k l:IV):OH :=
 Ac [] a b (Ae 2 c fun m=>Ak m d fun n g=>Ac [(a,b),(e,[]),(f,[])] g [] (Bh 3 n (.fv (.int .i64 1)) fun o=>Yo d o a b e f h i g j k c l))
def Aa6 (a:AF) (e:IV) (b:Hp) (c:Aa) (f g h i j:IV):OH :=
 Ac [] a [] (Bh 3 e (.fv (.int .i64 0)) fun k=>Ag 3 k b fun l d=>Ac [] d [] (Am [] false false c 96 [f,.fv (.int .i64 0),l] b fun m n o p=>Aau o p g n d a c h i m j))
def YQ (a:Hp) (b c:IV):OH :=
 As true 3 b a fun d=>Ao [d,c] a
def Xf (d:Hp) (e f:IV) (g:Aa) (a h b:IV):OH :=
 AE (Aj EE 28 2 [(0,e),(1,f)]) 71325698 d fun i j _ _=>Am [] false false g 30 [.fv (.int .i64 22),i] j fun k c _ _=>Ab a true c (fun l=>l h c [] []) fun m n _ _=>AG a m (.fv (.bool false)) fun o=>Ah 3 b k n fun p _ _=>YQ p b o
def Z8 (c d e f g h i j k:AF) (l:Hp) (b m n:IV) (o:Aa) (p q r:IV):OH :=
 Ac [(e,f),(g,h),(i,[]),(j,[]),(k,[])] c d (Ah 3 b m l fun a s t=>Ac [] s t (Ag 3 n a fun u _=>Ag 3 b a fun v _=>Xf a u v o p q r))
def Zz (a:Aa) (e:Hp) (f g h i:IV) (j k l m n:AF) (o p q:IV):OH :=
 Am [] false false a 68 [f,g,h,i] e fun b r c d=>Ac [] c d (AA 0 b fun s=>AA 1 b fun t=>AB 71324685 (.row [.fv (.int .i64 0),.fv (.int .i64 0),.nils] false) (.ptr (.own 71324685) 0) r fun u v w x=>Z8 w x c d j k l m n v u s o a p t q)
def Zj (c:Hp) (h:IV) (a b:AF) (d:Aa) (i j k l m n:IV):OH :=
 Ag 3 h c fun o e=>Ac [(a,[]),(b,[])] e [] (Am [] false false d 42 [o,.fv (.int .i64 1)] c fun p q f g=>Ac [(a,[]),(b,[])] f g (Bg EE 3 i (.fv (.int .i64 1)) fun r=>Zz d q j k p r f g e a b l m n))
def AaI (a:Hp) (d e:IV) (f:Aa) (g h i j k:IV):OH :=
 Ak d a fun l b=>Ac [] b [] (Bh 3 l (.fv (.int .i64 1)) fun m=>Ag 3 m a fun n c=>Ac [] c [] (Zj a e c b f g h n i j k))
def WX (b:Hp) (c d e f g h i:AF) (j k l:IV) (m:Aa) (n o p q:IV):OH :=
 AB 71323661 (.row [.fv (.int .i64 0),.fv (.int .i64 0),.nils] false) (.ptr (.own 71323661) 0) b fun a r s t=>Ac [(c,d),(e,f),(g,[]),(h,[]),(i,[])] s t (Ah 3 a j r fun u v w=>Ac [] v w (Ae 2 k fun x=>AaI u x l m n o a p q))
def Aaj (a:IV) (b:Aa) (g:Hp) (c h i:IV) (j k l m n:AF) (o p q:IV):OH :=
 Bg EE 3 a (.fv (.int .i64 1)) fun r=>Am [] false false b 68 [c,h,i,r] g fun d s e f=>Ac [] e f (AA 0 d fun t=>AA 1 d fun u=>WX s e f j k l m n t o p b a c u q)
def Z5 (a:AF) (c:Hp) (d:IV) (b:AF) (e:Aa) (i j k l m:IV):OH :=
 Ac [] a [] (Ag 3 d c fun n f=>Ac [(a,[]),(b,[])] f [] (Am [] false false e 42 [n,.fv (.int .i64 0)] c fun o p g h=>Ac [(a,[]),(b,[])] g h (Aaj i e p j k o g h f a b l d m)))
def Aat (b:IV) (a:Hp) (d:IV) (e:Aa) (f g h:IV):OH :=
 Ae 2 b fun i=>Ak i a fun j c=>Ac [] c [] (Bh 3 j (.fv (.int .i64 0)) fun k=>Ag 3 k a fun l m=>Z5 m a d c e f g l b h)
def AaB (a:Hp) (d b e:IV):OH :=
 Ag 3 d a fun f _=>Ah 3 b f a fun c _ _=>As true 3 b c fun g=>Ao [g,e] c
def YT (h b:IV) (a:Hp) (d:Aa) (e f g c i j k:IV):OH :=
 An h (Ae 2 b fun l=>Ak l a fun m n=>Aa6 n m a d e b f g c) (A0 EE 3 i (.fv (.int .i64 17)) fun o=>An o (Aat b a f d g e c) (AaB a j c k))
def AaH (a:IV) (b:Hp) (c e:IV) (f:Aa) (g h i j:IV):OH :=
 Ae 0 a fun k=>Ak k b fun d _=>A0 EE 3 d (.fv (.int .i64 15)) fun l=>An l (Ko EE 3 c (.fv (.int .i64 0)) fun m=>Aah b m e f a c g h) (A0 EE 3 d (.fv (.int .i64 16)) fun n=>YT n a b f g e c h d i j)
def Ye (b:Hp) (a l:IV) (c:Aa) (d e f g h m n:IV):OH :=
 Ab a true b (fun o=>Ak l b fun p q=>o p b q []) fun r i _ _=>Ab a true i (fun s=>Am [] false false c 41 [r,.fv (.int .i64 3)] i s) fun t j _ _=>Ab a true j (fun u=>A0 EE 3 t (.fv (.int .i64 1)) fun v=>u v j [] []) fun w k _ _=>AG a w (.fv (.bool false)) fun x=>An x (Y4 k d e c f g h) (AaH d k g e c f h m n)
def Abp (h:IV) (a:Hp) (c b d e f:IV) (i:Aa) (j k:IV):OH :=
 An h (Ag 3 c a fun l _=>Ah 3 b l a fun m _ _=>YX m b d) (Ko EE 3 e (.fv (.int .i64 0)) fun g=>Ab g true a (fun n=>Ae 0 f fun o=>n o a [] []) fun p q _ _=>Ye q g p i j f k e b c d)
def Zr (c:Hp) (a g d h i j:IV) (k:Aa) (l m:IV):OH :=
 Ab a true c (fun n=>A0 EE 3 g (.fv (.int .i64 0)) fun o=>n o c [] []) fun p e _ _=>AG a p (.fv (.bool false)) fun b=>Ab b false e (fun q=>q d e [] []) fun r f _ _=>Ab b false f (fun s=>H4 EE 3 r (.fv (.int .i64 (-4))) fun t=>s t f [] []) fun u v _ _=>AG b (.fv (.bool true)) u fun w=>Abp w v h i a d j k l m
def Zi (h:Hp) (i a c:IV) (d:Aa) (j k l m:IV):OH :=
 AB 71307272 (.row [.fv (.int .i64 0),.fv (.int .i64 0),.nils] false) (.ptr (.own 71307272) 0) h fun e n _ _=>Ah 3 e i n fun f _ _=>Ab a true f (fun o=>Ae 0 c fun p=>o p f [] []) fun q b _ _=>Ab a true b (fun r=>Ak q b fun s t=>r s b t []) fun u g _ _=>Ab a true g (fun v=>Am [] false false d 41 [u,.fv (.int .i64 3)] g v) fun w x _ _=>Zr x a w j e k c d l m
def X0 (a:IV) (b:Hp) (c:Aa) (d f g h i:IV):OH :=
 Ae 1 a fun j=>Ak j b fun k _=>Am [] false false c 97 [d,.fv (.int .i64 0),f,k] b fun e l _ _=>AA 0 e fun m=>AA 1 e fun n=>Zi l m n a c g h i d
def Aaa (d:IV) (e:Hp) (a f c g:IV) (h:Aa) (i j:IV):OH :=
 AA 1 d fun k=>Ah 3 a f e fun b _ _=>H9 EE 3 k (.fv (.int .i64 0)) fun l=>An l (BW [.fv (.int .i64 0),.fv (.int .i64 0),.nils] [] fun m=>Yu b c m) (Ag 3 a b fun n _=>X0 g b h i n j c a)
def S68 (a:Aa) (n:Nat) (e f g h:IV) (i:Hp):OH :=
 A4 71303168 f i fun b j _ _=>A4 71303169 g j fun k l _ _=>AB 71303170 (.row [.fv (.int .i64 0),.fv (.int .i64 0),.nils] false) (.ptr (.own 71303170) 0) l fun m c _ _=>Ag 3 b c fun o _=>Am [] false false a 58 [o] c fun d p _ _=>AA 0 d fun q=>Aaa d p b q m k a e h
theorem Akk (a:Aa) (n:Nat) (b c d e:IV) (f:Hp):AC EE a ft.get n 68 [b,c,d,e] f=S68 a n b c d e f:=by kernel_rfl
def YW (a:Hp) (b:IV):OH :=
 As true 3 b a fun c=>Ao [c] a
def Xw (c:Aa) (d:Hp) (a:IV):OH :=
 Am [] false false c 30 [.fv (.int .i64 14),.nils] d fun e f _ _=>Ah 3 a e f fun b _ _=>As true 3 a b fun g=>Ao [g] b
def Abh (c:Hp) (d:IV) (e:Aa) (a:IV):OH :=
 AE (Aj EE 28 1 [(0,d)]) 72363010 c fun f g _ _=>Am [] false false e 30 [.fv (.int .i64 18),f] g fun h i _ _=>Ah 3 a h i fun b _ _=>As true 3 a b fun j=>Ao [j] b
def Xa (c:Aa) (d:Hp) (a:IV):OH :=
 Am [] false false c 60 [.fv (.int .i64 0)] d fun e f _ _=>Ah 3 a e f fun b _ _=>As true 3 a b fun g=>Ao [g] b
def Zb (c d:AF) (e:Hp) (a f:IV):OH :=
 Ac [] c d (Ah 3 a f e fun b g h=>Ac [] g h (As true 3 a b fun i=>Ao [i] b))
def Abl (a:Aa) (b:Hp) (c d e:IV) (f:AF) (g h:IV):OH :=
 Am [] false false a 69 [c,d,e] b fun i j k l=>Ac [(f,[])] k l (AE (Aj EE 28 2 [(0,g),(1,i)]) 72369161 j fun m n o p=>Ac [] o p (Am [] false false a 30 [.fv (.int .i64 3),m] n fun q r s t=>Zb s t r h q))
def Xb (b:Hp) (d:IV) (e f g a:AF) (c:Aa) (h i j k:IV):OH :=
 Ag 3 d b fun l m=>Ac [(e,f),(g,[]),(a,[])] m [] (Am [] false false c 42 [l,.fv (.int .i64 1)] b fun n o p q=>Ac [(a,[])] p q (Bg EE 3 h (.fv (.int .i64 1)) fun r=>Abl c o i n r a j k))
def AbF (a:AF) (b:Hp) (g:IV) (c:Aa) (h i j k l:IV):OH :=
 Ac [] a [] (Ag 3 g b fun m d=>Ac [(a,[])] d [] (Am [] false false c 96 [h,.fv (.int .i64 1),m] b fun n o e f=>Ac [(a,[])] e f (Xb o i e f d a c j n k l)))
def XW (b:IV) (c:Aa) (f:Hp) (d g h i:IV):OH :=
 Bg EE 3 b (.fv (.int .i64 1)) fun j=>Am [] false false c 69 [d,g,j] f fun k l _ _=>AB 72368134 (.row [.fv (.int .i64 0),.fv (.int .i64 0),.nils] false) (.ptr (.own 72368134) 0) l fun a m _ _=>Ah 3 a k m fun e _ _=>Ag 3 a e fun n o=>AbF o e a c d h b n i
def W5 (a:Hp) (b:IV):OH :=
 As true 3 b a fun c=>Ao [c] a
def Abz (b c:AF) (d:Aa) (e:Hp) (f a:IV):OH :=
 Ac [] b c (Am [] false false d 30 [.fv (.int .i64 6),f] e fun g h i j=>Ac [] i j (Ah 3 a g h fun k l m=>Ac [] l m (W5 k a)))
def Yd (c d a:AF) (e:IV) (b:Aa) (f:Hp) (g h i j:IV):OH :=
 Ac [(a,[])] c d (Bg EE 3 e (.fv (.int .i64 1)) fun k=>Am [] false false b 69 [g,h,k] f fun l m n o=>Ac [(a,[])] n o (AE (Aj EE 28 2 [(0,i),(1,l)]) 72372233 m fun p q r s=>Abz r s b q p j))
def AaF (a:Aa) (f:Hp) (g h:IV) (b:AF) (i:IV) (j:AF) (k l m:IV):OH :=
 Am [] false false a 96 [g,.fv (.int .i64 1),h] f fun n c d e=>Ac [(b,[])] d e (Ag 3 i c fun o p=>Ac [(d,e),(j,[]),(b,[])] p [] (Am [] false false a 42 [o,.fv (.int .i64 1)] c fun q r s t=>Yd s t b k a r n q l m))
def Xx (e:Hp) (a f:IV) (g:Aa) (h i j k:IV):OH :=
 Ah 3 a f e fun b _ _=>Ag 3 a b fun l c=>Ac [] c [] (Ag 3 a b fun m d=>Ac [(c,[])] d [] (AaF g b h m c i d j l k))
def Yh (b:Hp) (c:IV) (a:Aa) (d e f:IV):OH :=
 Ag 3 c b fun g _=>Am [] false false a 42 [g,.fv (.int .i64 0)] b fun h i _ _=>Bg EE 3 d (.fv (.int .i64 1)) fun j=>Am [] false false a 69 [e,h,j] i fun k l _ _=>AB 72371206 (.row [.fv (.int .i64 0),.fv (.int .i64 0),.nils] false) (.ptr (.own 72371206) 0) l fun m n _ _=>Xx n m k a e c d f
def Aax (a:Hp) (b:IV):OH :=
 As true 3 b a fun c=>Ao [c] a
def X4 (c:Aa) (d:Hp) (e a:IV):OH :=
 Am [] false false c 30 [.fv (.int .i64 18),e] d fun f g _ _=>Ah 3 a f g fun b _ _=>As true 3 a b fun h=>Ao [h] b
def Xi (d:IV) (c:Aa) (a:Hp) (b e:IV):OH :=
 Dw (M5 .not d) fun f=>An f (Am [] false false c 99 [] a fun g h _ _=>Ah 3 b g h fun i _ _=>Aax i b) (Ag 3 e a fun j _=>AE (Aj EE 28 1 [(0,j)]) 72376321 a fun k l _ _=>X4 c l k b)
def Y0 (b:IV) (c:Hp) (d e f g h i j:AF) (k:IV) (l:Aa) (m:IV):OH :=
 AA 1 b fun n=>AB 72373258 (.row [.fv (.int .i64 0),.fv (.int .i64 0),.nils] false) (.ptr (.own 72373258) 0) c fun a o p q=>Ac [(d,e),(f,g),(h,[]),(i,j)] p q (Ah 3 a k o fun r s t=>Ac [] s t (Xi n l r m a))
def AaY (a b:AF) (g:IV) (c:Aa) (h:Hp) (i j k:IV) (l m n:AF) (o:IV):OH :=
 Ac [] a b (Bg EE 3 g (.fv (.int .i64 1)) fun p=>Am [] false false c 70 [i,j,k,p] h fun d q e f=>Ac [] e f (AA 0 d fun r=>Y0 d q e f a b l m n r c o))
def AaN (a:Aa) (f:Hp) (g h i j:IV):OH :=
 Am [] false false a 30 [.fv (.int .i64 14),.nils] f fun k d b c=>Ac [] b c (Ag 3 g d fun l e=>Ac [(b,c)] e [] (Am [] false false a 42 [l,.fv (.int .i64 0)] d fun m n o p=>AaY o p h a n i k m e b c j))
def ZL (g:IV) (a:Hp) (b:IV) (c:Aa) (d e f h:IV):OH :=
 An g (Ag 3 b a fun i _=>Am [] false false c 42 [i,.fv (.int .i64 0)] a fun j k _ _=>XW d c k e j b f) (A0 EE 3 h (.fv (.int .i64 7)) fun l=>An l (Yh a b c d e f) (AaN c a b d e f))
def W0 (e:IV) (f:Aa) (g h i a:IV) (b:Hp):OH :=
 (fun (c:IV→Hp→OH)=>A0 EE 3 a (.fv (.int .i64 5)) fun d=>An d (c d b) (A0 EE 3 a (.fv (.int .i64 6)) fun j=>c j b)) fun k l=>ZL k l e f g h i a
def Yx (c:IV) (a:Hp) (e:IV) (b:Aa) (d f g:IV):OH :=
 A0 EE 3 c (.fv (.int .i64 3)) fun h=>An h (Ag 3 e a fun i _=>Am [] false false b 14 [i,.fv (.int .i64 1)] a fun j k _ _=>Abh k j b d) (A0 EE 3 c (.fv (.int .i64 4)) fun l=>An l (Xa b a d) (W0 e b f g d c a))
def Zw (e:IV) (b:Aa) (c:Hp) (a d f g h:IV):OH :=
 An e (Am [] false false b 99 [] c fun i j _ _=>Ah 3 a i j fun k _ _=>YW k a) (A0 EE 3 d (.fv (.int .i64 2)) fun l=>An l (Xw b c a) (Yx d c f b a g h))
def XI (e:Aa) (f a g h i:IV) (b:Hp):OH :=
 (fun (c:IV→Hp→OH)=>A0 EE 3 a (.fv (.int .i64 0)) fun d=>An d (c d b) (A0 EE 3 a (.fv (.int .i64 1)) fun j=>c j b)) fun k l=>Zw k e l f a g h i
def W7 (a:IV) (b:IV→Hp→OH) (c:Hp):OH :=
 CA EE 3 .rem a (.fv (.int .i64 5)) fun d=>b d c
def Aap (g:IV) (c:Hp) (a:IV) (d:IV→Hp→OH):OH :=
 leS EE 3 g (.fv (.int .i64 0)) fun b=>Ab b true c (fun h=>h a c [] []) fun i e _ _=>Ab b true e (fun j=>Ko EE 3 i (.fv (.int .i64 4)) fun k=>j k e [] []) fun l f _ _=>AG b l (.fv (.bool false)) fun m=>An m (W7 a d f) (d a f)
def S69 (a:Aa) (n:Nat) (e f b:IV) (g:Hp):OH :=
 A4 72351744 f g fun c h _ _=>AB 72351745 (.row [.fv (.int .i64 0),.fv (.int .i64 0),.nils] false) (.ptr (.own 72351745) 0) h fun i d _ _=>Ae 0 c fun j=>Ak j d fun k _=>Am [] false false a 41 [k,.fv (.int .i64 9)] d fun l m _ _=>(fun (o:IV→Hp→OH)=>Aap b m l o) fun p q=>XI a i p c b e q
theorem AjV (a:Aa) (n:Nat) (b c d:IV) (e:Hp):AC EE a ft.get n 69 [b,c,d] e=S69 a n b c d e:=by kernel_rfl
def Xz (c:Hp) (a d:IV):OH :=
 Ah 3 a d c fun b _ _=>As true 3 a b fun e=>Ao [e,.fv (.bool false)] b
def Abi (a:Hp) (b c:IV):OH :=
 As true 3 b a fun d=>Ao [d,c] a
def WE (c:Hp) (a d e:IV):OH :=
 Ah 3 a d c fun b _ _=>As true 3 a b fun f=>Ao [f,e] b
def X8 (a:Hp) (c d:IV) (e:Aa) (f g h:IV):OH :=
 Ag 3 c a fun i _=>Ag 3 d a fun j _=>Am [] false false e 100 [f,i,j,g] a fun b k _ _=>AA 0 b fun l=>AA 1 b fun m=>WE k h l m
def Abv (d:Aa) (e:Hp) (f g h i a:IV):OH :=
 Am [] false false d 101 [f,g,h,i] e fun b j _ _=>AA 0 b fun k=>AA 1 b fun l=>Ah 3 a k j fun c _ _=>As true 3 a c fun m=>Ao [m,l] c
def Abs (b c:AF) (a:Hp) (d e:IV):OH :=
 Ac [] b c (As true 3 d a fun f=>Ao [f,e] a)
def Yv (b:Hp) (c d:IV) (e:Aa) (a f:IV):OH :=
 AE (Aj EE 28 2 [(0,c),(1,d)]) 73416709 b fun g h i j=>Ac [] i j (Am [] false false e 30 [.fv (.int .i64 4),g] h fun k l m n=>Ac [] m n (Ah 3 a k l fun o p q=>Abs p q o a f))
def Yc (c:IV) (a:Hp) (d:IV) (e:AF) (f:Aa) (g h:IV):OH :=
 Bh 3 c (.fv (.int .i64 0)) fun i=>Ag 3 i a fun j b=>Ac [] b [] (Ag 3 d a fun k l=>Ac [(b,[]),(e,[])] l [] (Yv a j k f g h))
def Abw (d:Hp) (a e f:IV) (g:Aa) (h i:IV):OH :=
 Ah 3 a e d fun b j k=>Ac [] j k (Ae 2 f fun l=>Ak l b fun m c=>Ac [] c [] (Yc m b a c g h i))
def Abk (a b:AF) (c:IV) (d:Hp) (e f g h i j k l m:AF) (n:IV) (o:Aa) (p:IV):OH :=
 Ac [] a b (AA 0 c fun q=>AA 1 c fun r=>AB 73415698 (.row [.fv (.int .i64 0),.fv (.int .i64 0),.nils] false) (.ptr (.own 73415698) 0) d fun s t u v=>Ac [(a,b),(e,f),(g,[]),(h,[]),(i,[]),(j,k),(l,[]),(m,[])] u v (Abw t s q n o p r))
def Wz (d a b e f g h:AF) (c:Aa) (k:Hp) (l m n o p q:IV):OH :=
 Ac [(a,[]),(b,[]),(e,f),(g,[]),(h,[])] d [] (Am [] false false c 42 [l,.fv (.int .i64 0)] k fun r s i j=>Ac [(a,[]),(b,[])] i j (Bg EE 3 m (.fv (.int .i64 1)) fun t=>Am [] false false c 70 [n,o,r,t] s fun u v w x=>Abk w x u v i j d a b e f g h p c q))
def YP (f a b c d:AF) (h:IV) (e:Hp) (i:IV) (j:Aa) (k l m n:IV):OH :=
 Ac [(a,b),(c,[]),(d,[])] f [] (Bh 3 h (.fv (.int .i64 1)) fun o=>Ag 3 o e fun p g=>Ac [(a,b),(c,[]),(d,[])] g [] (Ag 3 i e fun q r=>Wz r g f a b c d j e q k l p m n))
def AaL (a:AF) (b:Aa) (g:Hp) (h i c:IV) (j:AF) (k l m:IV):OH :=
 Ac [] a [] (Am [] false false b 96 [h,.fv (.int .i64 1),i] g fun n d e f=>Ac [] e f (Ae 2 c fun o=>Ak o d fun p q=>YP q e f a j p d k b l n c m))
def XN (b:IV) (a:Hp) (d:Aa) (e f g h:IV):OH :=
 Ae 2 b fun i=>Ak i a fun j c=>Ac [] c [] (Bh 3 j (.fv (.int .i64 0)) fun k=>Ag 3 k a fun l m=>AaL m d a e l b c f g h)
def W4 (c:Hp) (a d e:IV):OH :=
 Ah 3 a d c fun b _ _=>As true 3 a b fun f=>Ao [f,e] b
def ZI (c:Hp) (d e f:IV) (g:Aa) (a h:IV):OH :=
 AE (Aj EE 28 3 [(0,d),(1,e),(2,f)]) 73422851 c fun i j _ _=>Am [] false false g 30 [.fv (.int .i64 7),i] j fun k l _ _=>Ah 3 a k l fun b _ _=>As true 3 a b fun m=>Ao [m,h] b
def Zp (c:Hp) (b d e f:IV) (g:Aa) (h i:IV):OH :=
 Ah 3 b d c fun a j k=>Ac [] j k (Ag 3 e a fun l _=>Ag 3 f a fun m _=>Ag 3 b a fun n _=>ZI a l m n g h i)
def Aas (a b:AF) (c:IV) (d:Hp) (e f g h i j k l:AF) (m n:IV) (o:Aa) (p:IV):OH :=
 Ac [] a b (AA 0 c fun q=>AA 1 c fun r=>AB 73421839 (.row [.fv (.int .i64 0),.fv (.int .i64 0),.nils] false) (.ptr (.own 73421839) 0) d fun s t u v=>Ac [(a,b),(e,f),(g,[]),(h,i),(j,[]),(k,[]),(l,[])] u v (Zp t s q m n o p r))
def ZF (b c d e f g:AF) (a:Aa) (j:Hp) (k l m n o p q:IV):OH :=
 Ac [(c,d),(e,[]),(f,[]),(g,[])] b [] (Am [] false false a 42 [k,.fv (.int .i64 1)] j fun r s h i=>Ac [] h i (Bg EE 3 l (.fv (.int .i64 1)) fun t=>Am [] false false a 70 [m,n,r,t] s fun u v w x=>Aas w x u v h i b c d e f g o p a q))
def Zf (a:Hp) (b:IV) (c d:AF) (e:Aa) (j k l m n o:IV):OH :=
 Ag 3 b a fun p f=>Ac [(c,[]),(d,[])] f [] (Am [] false false e 89 [j,.fv (.int .i64 0),p] a fun q g h i=>Ac [] h i (Ag 3 k g fun r s=>ZF s h i f c d e g r l m q n b o))
def WK (a:Hp) (d e:IV) (f:Aa) (g h i j k:IV):OH :=
 Ak d a fun l b=>Ac [] b [] (Bh 3 l (.fv (.int .i64 1)) fun m=>Ag 3 m a fun n c=>Ac [] c [] (Zf a e c b f n g h i j k))
def YS (e:Hp) (b f g h c i d:IV) (j:Aa) (k l m:IV):OH :=
 Ah 3 b f e fun a n o=>Ac [] n o (Dw (M5 .not g) fun p=>An p (Ag 3 h a fun q _=>W4 a c q i) (Ae 2 d fun r=>WK a r b j k l m d c))
def AbL (a b:AF) (c:IV) (d:Hp) (e f g h i:AF) (j k l m:IV) (n:Aa) (o p q:IV):OH :=
 Ac [] a b (AA 0 c fun r=>AA 1 c fun s=>AB 73418765 (.row [.fv (.int .i64 0),.fv (.int .i64 0),.nils] false) (.ptr (.own 73418765) 0) d fun t u v w=>Ac [(a,b),(e,f),(g,[]),(h,[]),(i,[])] v w (YS u t r s j k l m n o p q))
def Yn (d a b:AF) (c:Aa) (i:Hp) (j e f k l m n o p:IV):OH :=
 Ac [(a,[]),(b,[])] d [] (Am [] false false c 42 [j,.fv (.int .i64 0)] i fun q r g h=>Ac [(a,[]),(b,[])] g h (Bg EE 3 e (.fv (.int .i64 1)) fun s=>Am [] false false c 70 [f,k,q,s] r fun t u v w=>AbL v w t u g h d a b l m n o c p e f))
def Y5 (b:AF) (e:IV) (a:Hp) (c:IV) (f:Aa) (g h i j k l:IV):OH :=
 Ac [] b [] (Bh 3 e (.fv (.int .i64 0)) fun m=>Ag 3 m a fun n d=>Ac [] d [] (Ag 3 c a fun o p=>Yn p d b f a o g h n i j k l c))
def AaD (c:Hp) (d:IV) (e:Aa) (a f:IV):OH :=
 AE (Aj EE 28 1 [(0,d)]) 73425921 c fun g h _ _=>Am [] false false e 30 [.fv (.int .i64 19),g] h fun i j _ _=>Ah 3 a i j fun b _ _=>As true 3 a b fun k=>Ao [k,f] b
def Aaq (c:Hp) (d e f g h i j:AF) (k:IV) (l:Aa) (m n:IV):OH :=
 AB 73424909 (.row [.fv (.int .i64 0),.fv (.int .i64 0),.nils] false) (.ptr (.own 73424909) 0) c fun a o p q=>Ac [(d,e),(f,g),(h,[]),(i,[]),(j,[])] p q (Ah 3 a k o fun b r s=>Ac [] r s (Ag 3 a b fun t _=>AaD b t l m n))
def Yy (e:IV) (a:Aa) (f:Hp) (g h i:IV) (j k l m n:AF) (o:IV):OH :=
 Bg EE 3 e (.fv (.int .i64 1)) fun p=>Am [] false false a 68 [g,h,i,p] f fun b q c d=>Ac [] c d (AA 0 b fun r=>AA 1 b fun s=>Aaq q c d j k l m n r a o s)
def AbN (a:AF) (c:Hp) (h:IV) (b:AF) (d:Aa) (i j k l:IV):OH :=
 Ac [] a [] (Ag 3 h c fun m e=>Ac [(a,[]),(b,[])] e [] (Am [] false false d 42 [m,.fv (.int .i64 0)] c fun n o f g=>Ac [(a,[]),(b,[])] f g (Yy i d o j k n f g e a b l)))
def Zg (c:IV) (a:Hp) (d:IV) (e:Aa) (f g h:IV):OH :=
 Ae 2 c fun i=>Ak i a fun j b=>Ac [] b [] (Bh 3 j (.fv (.int .i64 0)) fun k=>Ag 3 k a fun l m=>AbN m a d b e f g l h)
def Xe (a:Hp) (d b e:IV):OH :=
 Ag 3 d a fun f _=>Ah 3 b f a fun c _ _=>As true 3 b c fun g=>Ao [g,e] c
def XU (d b:IV) (a:Hp) (e:IV) (f:Aa) (g h i c j:IV):OH :=
 A0 EE 3 d (.fv (.int .i64 6)) fun k=>An k (Ae 2 b fun l=>Ak l a fun m n=>Y5 n m a e f g h i c j b) (A0 EE 3 d (.fv (.int .i64 18)) fun o=>An o (Zg b a e f g h c) (Xe a i c j))
def Xq (i:IV) (a:Hp) (b c:IV) (d:Aa) (e f g h j k:IV):OH :=
 An i (Ag 3 b a fun l _=>Ag 3 c a fun m _=>Abv d a e l m f g) (A0 EE 3 h (.fv (.int .i64 3)) fun n=>An n (XN b a d e c f g) (XU h b a c d f e j g k))
def W9 (a:IV) (b:IV→Hp→OH) (c:Hp):OH :=
 A0 EE 3 a (.fv (.int .i64 14)) fun d=>An d (b d c) (A0 EE 3 a (.fv (.int .i64 2)) fun e=>b e c)
def ZN (c:IV) (a:Hp) (f:IV) (g:Aa) (h i j k l:IV):OH :=
 Ae 0 c fun m=>Ak m a fun b _=>(fun (d:IV→Hp→OH)=>A0 EE 3 b (.fv (.int .i64 10)) fun e=>An e (d e a) (W9 b d a)) fun n o=>Xq n o c f g h i j b k l
def ZT (b:Hp) (a l:IV) (c:Aa) (d e f g h m n:IV):OH :=
 Ab a true b (fun o=>Ak l b fun p q=>o p b q []) fun r i _ _=>Ab a true i (fun s=>Am [] false false c 41 [r,.fv (.int .i64 7)] i s) fun t j _ _=>Ab a true j (fun u=>A0 EE 3 t (.fv (.int .i64 6)) fun v=>u v j [] []) fun w k _ _=>AG a w (.fv (.bool false)) fun x=>An x (X8 k d e c f g h) (ZN d k e c f g h m n)
def Y6 (h:IV) (a:Hp) (c b d e f:IV) (i:Aa) (j k:IV):OH :=
 An h (Ag 3 c a fun l _=>Ah 3 b l a fun m _ _=>Abi m b d) (Ko EE 3 e (.fv (.int .i64 0)) fun g=>Ab g true a (fun n=>Ae 0 f fun o=>n o a [] []) fun p q _ _=>ZT q g p i j f k e b c d)
def Xo (c:Hp) (a g d h i j:IV) (k:Aa) (l m:IV):OH :=
 Ab a true c (fun n=>A0 EE 3 g (.fv (.int .i64 0)) fun o=>n o c [] []) fun p e _ _=>AG a p (.fv (.bool false)) fun b=>Ab b false e (fun q=>q d e [] []) fun r f _ _=>Ab b false f (fun s=>H4 EE 3 r (.fv (.int .i64 (-4))) fun t=>s t f [] []) fun u v _ _=>AG b (.fv (.bool true)) u fun w=>Y6 w v h i a d j k l m
def X7 (h:Hp) (i a c:IV) (d:Aa) (j k l m:IV):OH :=
 AB 73404424 (.row [.fv (.int .i64 0),.fv (.int .i64 0),.nils] false) (.ptr (.own 73404424) 0) h fun e n _ _=>Ah 3 e i n fun f _ _=>Ab a true f (fun o=>Ae 0 c fun p=>o p f [] []) fun q b _ _=>Ab a true b (fun r=>Ak q b fun s t=>r s b t []) fun u g _ _=>Ab a true g (fun v=>Am [] false false d 41 [u,.fv (.int .i64 3)] g v) fun w x _ _=>Xo x a w j e k c d l m
def Xg (a:IV) (b:Hp) (c:Aa) (d f g h i:IV):OH :=
 Ae 1 a fun j=>Ak j b fun k _=>Am [] false false c 97 [d,.fv (.int .i64 1),f,k] b fun e l _ _=>AA 0 e fun m=>AA 1 e fun n=>X7 l m n a c g h i d
def ZU (d:IV) (e:Hp) (a f c g:IV) (h:Aa) (i j:IV):OH :=
 AA 1 d fun k=>Ah 3 a f e fun b _ _=>H9 EE 3 k (.fv (.int .i64 0)) fun l=>An l (BW [.fv (.int .i64 0),.fv (.int .i64 0),.nils] [] fun m=>Xz b c m) (Ag 3 a b fun n _=>Xg g b h i n j c a)
def S70 (a:Aa) (n:Nat) (e f g h:IV) (i:Hp):OH :=
 A4 73400320 f i fun b j _ _=>A4 73400321 g j fun k l _ _=>AB 73400322 (.row [.fv (.int .i64 0),.fv (.int .i64 0),.nils] false) (.ptr (.own 73400322) 0) l fun m c _ _=>Ag 3 b c fun o _=>Am [] false false a 58 [o] c fun d p _ _=>AA 0 d fun q=>ZU d p b q m k a e h
theorem Ajl (a:Aa) (n:Nat) (b c d e:IV) (f:Hp):AC EE a ft.get n 70 [b,c,d,e] f=S70 a n b c d e f:=by kernel_rfl
def OW (a:IV) (b:Hp) (h:IV) (i:Hp) (c d e f:IV) (j:List IV→Hp→OH):OH :=
 H9 EE 35 a (.fv (.int .i64 0)) fun k=>An k (Ao [a] b) (B2 EE 3 h (.fv (.int .i64 1)) fun g=>BH (i.own.map (·.1)) [74457090] [c,d,e,f,g] b fun l=>j [c,d,e,f,g] l)
def QV (e:Hp) (f a:IV) (g:Aa) (b h:IV) (i:Hp) (j k:IV) (l:List IV→Hp→OH):OH :=
 AB 74457090 (.row [.fv (.int .i64 0),.fv (.int .i64 0),.nils] false) (.ptr (.own 74457090) 0) e fun c m _ _=>Ah 3 c f m fun d _ _=>Ag 3 c d fun n _=>B2 EE 3 a (.fv (.int .i64 1)) fun o=>Am [false,true,false] false false g 71 [n,b,o] d fun p q _ _=>OW p q h i b a j k l
def QC (a c d:IV) (b:Hp) (e:IV) (f:Aa) (g:IV) (h:Hp) (i:List IV→Hp→OH):OH :=
 H4 EE 3 a c fun j=>An j (Bh 3 d a fun k=>Ag 3 k b fun l _=>QV b l e f g a h d c i) (Ao [.fv (.int .i64 0)] b)
def Zq (a:List IV) (b:Hp) (c:Aa) (d:Hp) (e:List IV→Hp→OH):OH :=
 AH a fun f g=>AH g fun h i=>AH i fun j k=>AH k fun l m=>AH m fun n _=>QC n l j b h c f d e
def Qi (b:Hp) (g:IV) (c:Hp) (d e:IV) (n:Nat) (h:Aa):OH :=
 Ak g b fun a _=>BV a fun f=>BH (c.own.map (·.1)) [74457090] [d,e,a,f,.fv (.int .i64 0)] b fun i=>B5 n (fun j k l=>Zq k l h c j) [d,e,a,f,.fv (.int .i64 0)] i
def Qd (d e:AF) (a:Hp) (b f g:IV) (h:Hp) (i j:IV) (n:Nat) (k:Aa):OH :=
 Ac [] d e (Ab b false a (fun l=>Dw (M5 .not f) fun m=>l m a [] []) fun o c _ _=>AG b (.fv (.bool true)) o fun p=>An p (Ao [.fv (.int .i64 1)] c) (Ae 2 g fun q=>Qi c q h i j n k))
def Pc (c d:AF) (e:Hp) (a f:IV) (g:Aa) (i:IV) (j:Hp) (k l:IV) (n:Nat):OH :=
 Ac [] c d (Ab a false e (fun m=>Ae 1 f fun o=>m o e [] []) fun p b _ _=>Ab a false b (fun q=>Ak p b fun r s=>q r b s []) fun t h u v=>Ac [(c,d)] u v (Ab a false h (fun w=>Am [] false false g 103 [i,t] h w) fun x y z A=>Qd z A y a x f j k l n g))
def OI (e f g h:AF) (i j:IV) (c:Hp) (d:IV) (k:Aa) (l:Hp) (m o:IV) (n:Nat):OH :=
 Ac [(f,g),(h,[])] e [] (BV i fun p=>H9 EE 3 j p fun a=>Ab a false c (fun q=>Ae 0 d fun r=>q r c [] []) fun s b _ _=>Ab a false b (fun t=>Ak s b fun u v=>t u b v []) fun w x y z=>Pc y z x a d k w l m o n)
def Qy (a:AF) (b:Aa) (g:Hp) (h c:IV) (i:Hp) (j k:IV) (n:Nat):OH :=
 Ac [] a [] (Am [] false false b 102 [h] g fun l d e f=>Ac [] e f (Ae 2 c fun m=>Ak m d fun o p=>OI p e f a o l d c b i j k n))
def Qu (c d:IV) (a:Hp) (b:IV) (e:Aa) (f:Hp) (g h:IV) (n:Nat):OH :=
 AG c (.fv (.bool true)) d fun i=>An i (Ao [.fv (.int .i64 5)] a) (Ae 0 b fun j=>Ak j a fun k l=>Qy l e a k b f g h n)
def QK (c:IV) (a:Hp) (d f:IV) (g:Aa) (h:Hp) (n:Nat):OH :=
 AU c fun i=>Ak i a fun j _=>Ko EE 3 j (.fv (.int .i64 3000)) fun b=>Ab b false a (fun k=>k d a [] []) fun l e _ _=>Ab b false e (fun m=>Ko EE 3 l (.fv (.int .i64 120)) fun o=>m o e [] []) fun p q _ _=>Qu b p q f g h c d n
def S71 (d:Aa) (n:Nat) (e a f:IV) (b:Hp):OH :=
 A4 74448896 e b fun g c _ _=>AU a fun h=>Ak h c fun i _=>B2 EE 3 i (.fv (.int .i64 1)) fun j=>AU a fun k=>Ck k j c fun l _ _=>QK a l f g d b n
theorem AkE (a:Aa) (n:Nat) (b c d:IV) (e:Hp):AC EE a ft.get n 71 [b,c,d] e=S71 a n b c d e:=by kernel_rfl
def OJ (d:Aa) (e:Hp) (a f b:IV) (g:List IV→Hp→OH) (h i:IV):OH :=
 ND EE d a [f] e fun j c _ _=>An j (Ao [b] c) (B2 EE 3 b (.fv (.int .i64 1)) fun k=>g [h,a,i,k] c)
def P8 (d b c:IV) (a:Hp) (e:Aa) (f:IV) (g:List IV→Hp→OH) (h:IV):OH :=
 An d (Bh 3 b c fun i=>Ag 3 i a fun j _=>OJ e a f j c g b h) (Ao [.fv (.int .i64 (-1))] a)
def Wo (c:List IV) (d:Hp) (e:Aa) (f:List IV→Hp→OH):OH :=
 AH c fun g h=>AH h fun i j=>AH j fun a k=>AH k fun b _=>H4 EE 3 b a fun l=>P8 l g b d e i f a
def S72 (b:Aa) (n:Nat) (a c:IV) (d:Hp):OH :=
 BV a fun e=>B5 n (fun f g h=>Wo g h b f) [a,c,e,.fv (.int .i64 0)] d
theorem AiX (a:Aa) (n:Nat) (b c:IV) (d:Hp):AC EE a ft.get n 72 [b,c] d=S72 a n b c d:=by kernel_rfl
def P7 (b:Hp) (a g:IV) (h:Aa) (i:IV) (c:IV→Hp→OH) (j:IV):OH :=
 Ab a true b (fun k=>Ag 3 g b fun l m=>k l b m []) fun n d _ _=>Ab a true d (fun o=>Am [] false false h 104 [i,n] d o) fun p e _ _=>Ab a true e (fun q=>Dw (M5 .not p) fun r=>q r e [] []) fun s f _ _=>AG a s (.fv (.bool false)) fun t=>An t (c (.fv (.int .i64 11)) f) (c j f)
def QT (e:Hp) (f b g:IV) (h:Aa):OH :=
 AB 76547078 (.row [.fv (.int .i64 0),.fv (.int .i64 0),.nils] false) (.ptr (.own 76547078) 0) e fun c i _ _=>Ah 3 c f i fun a _ _=>(fun (j:IV→Hp→OH)=>A0 EE 35 b (.fv (.int .i64 0)) fun d=>Ab d true a (fun k=>Ag 3 g a fun l m=>k l a m []) fun n o _ _=>P7 o d c h n j b) fun p q=>Ao [p] q
def S73 (a:Aa) (n:Nat) (d e f:IV) (g:Hp):OH :=
 A4 76546048 e g fun h i _ _=>A4 76546049 f i fun j b _ _=>Ag 3 h b fun k _=>Am [] false false a 53 [d,k] b fun c l _ _=>AA 0 c fun m=>AA 1 c fun o=>QT l m o j a
theorem AjJ (a:Aa) (n:Nat) (b c d:IV) (e:Hp):AC EE a ft.get n 73 [b,c,d] e=S73 a n b c d e:=by kernel_rfl
def Kr (c:Hp) (a:IV):OH :=
 BW [.fv (.int .i64 0),.fv (.int .i64 0),.nils] [] fun d=>Ah 3 a d c fun b _ _=>As true 3 a b fun e=>Ao [e,.fv (.int .i64 10)] b
def K8 (c d e:AF) (f:Hp) (a g h:IV):OH :=
 Ac [(e,[])] c d (Ah 3 a g f fun b i j=>Ac [] i j (As true 3 a b fun k=>Ao [k,h] b))
def KQ (a:Hp) (g:IV) (c d e b:AF) (h:IV) (i:Aa) (j k l:IV):OH :=
 Ag 3 g a fun m f=>Ac [(c,d),(e,[]),(b,[])] f [] (Ag 3 h a fun n o=>Ac [(f,[]),(c,d),(e,[]),(b,[])] o [] (Am [] false false i 73 [j,m,n] a fun p q r s=>K8 r s b q k l p))
def Kx (a:AF) (b:Hp) (c:IV) (d:Aa) (h i j k:IV):OH :=
 Ac [] a [] (Ag 3 c b fun l e=>Ac [(a,[])] e [] (Am [] false false d 75 [h,l] b fun m n f g=>Ac [(a,[])] f g (KQ n i f g e a c d m j k)))
def K3 (c:Hp) (a d e:IV):OH :=
 Ah 3 a d c fun b _ _=>As true 3 a b fun f=>Ao [f,e] b
def K0 (c:Hp) (d e:IV) (a:Aa) (f g:IV):OH :=
 AE (Aj EE 28 2 [(0,d),(1,e)]) 77601794 c fun h i _ _=>Am [] false false a 64 [.fv (.int .i64 16),h] i fun j k _ _=>Am [] false false a 105 [j,f] k fun b l _ _=>AA 0 b fun m=>AA 1 b fun n=>K3 l g m n
def Ku (c d e f g h i j:AF) (k:Hp) (b l m:IV) (n:Aa) (o p:IV):OH :=
 Ac [(e,f),(g,[]),(h,i),(j,[])] c d (Ah 3 b l k fun a q r=>Ac [] q r (Ag 3 m a fun s _=>Ag 3 b a fun t _=>K0 a s t n o p))
def Kv (a:Aa) (e:Hp) (f g:IV) (h i j k:AF) (l m:IV):OH :=
 Am [] false false a 53 [f,g] e fun b n c d=>Ac [] c d (AA 0 b fun o=>AA 1 b fun p=>AB 77600776 (.row [.fv (.int .i64 0),.fv (.int .i64 0),.nils] false) (.ptr (.own 77600776) 0) n fun q r s t=>Ku s t c d h i j k r q o l a p m)
def K7 (a:AF) (d:Aa) (g:Hp) (h i j k l:IV):OH :=
 Ac [] a [] (Am [] false false d 75 [h,i] g fun m e b c=>Ac [] b c (Ag 3 j e fun n f=>Ac [(b,c),(a,[])] f [] (Kv d e m n f b c a k l)))
def La (g:IV) (a:Hp) (b:IV) (c:Aa) (d e f:IV):OH :=
 Ae 0 g fun h=>Ak h a fun i _=>A0 EE 3 i (.fv (.int .i64 29)) fun j=>An j (Ag 3 b a fun k l=>Kx l a b c d e f k) (Ag 3 b a fun m n=>K7 n c a d m e b f)
def KJ (f g:AF) (a:Hp) (b:IV) (c:Aa) (d h i j:IV):OH :=
 Ac [] f g (Ag 3 b a fun k _=>Am [] false false c 52 [k] a fun l e _ _=>Dw (M5 .not l) fun m=>An m (Kr e d) (La h e b c i j d))
def Kt (e:Hp) (f g a b h i:AF) (c j k:IV) (l:Aa) (m n o:IV):OH :=
 AB 77595657 (.row [.fv (.int .i64 0),.fv (.int .i64 0),.nils] false) (.ptr (.own 77595657) 0) e fun d p q r=>Ac [(f,g),(a,[]),(b,[]),(h,[]),(i,[])] q r (Ah 3 c j p fun s t u=>Ac [(a,[]),(b,[])] t u (Ah 3 d k s fun v w x=>KJ w x v c l m n o d))
def Lj (h:IV) (d:Hp) (a b e:AF) (i:IV) (j:Aa) (k l m:IV):OH :=
 Bh 3 h (.fv (.int .i64 1)) fun n=>Ag 3 n d fun o c=>Ac [(a,[]),(b,[])] c [] (AB 77595656 (.row [.fv (.int .i64 0),.fv (.int .i64 0),.nils] false) (.ptr (.own 77595656) 0) d fun p q f g=>Ac [(c,[]),(e,[]),(a,[]),(b,[])] f g (Kt q f g c e a b p i o j k l m))
def KS (a:Hp) (f c:IV) (d:AF) (g:Aa) (h i:IV):OH :=
 Ag 3 f a fun j b=>Ac [] b [] (Ae 2 c fun k=>Ak k a fun l e=>Ac [(b,[]),(d,[])] e [] (Lj l a b d e j g h c i))
def S74 (d:Aa) (n:Nat) (e f:IV) (g:Hp):OH :=
 A4 77594624 f g fun a h _ _=>AB 77594625 (.row [.fv (.int .i64 0),.fv (.int .i64 0),.nils] false) (.ptr (.own 77594625) 0) h fun i b _ _=>Ae 2 a fun j=>Ak j b fun k c=>Ac [] c [] (Bh 3 k (.fv (.int .i64 0)) fun l=>KS b l a c d i e)
theorem AiJ (a:Aa) (n:Nat) (b c:IV) (d:Hp):AC EE a ft.get n 74 [b,c] d=S74 a n b c d:=by kernel_rfl
def Ady (e a b c d:AF) (f:Hp) (g h:IV):OH :=
 Ac [(a,b),(c,d)] e [] (AE (Aj EE 78 1 [(0,g)]) 78644228 f fun i j k l=>Ac [(a,b),(c,d)] k l (AE (AM EE 78644229 false .append [78,78] [h,i]) 78644229 j fun m n o p=>Ac [] o p (Ao [m] n)))
def S75 (a:Aa) (n:Nat) (g h:IV) (i:Hp):OH :=
 A4 78643200 h i fun j k _ _=>Am [] true false a 107 [g] k fun l m b c=>Ac [] b c (Am [] false true a 106 [l] m fun o d e f=>Ac [] e f (Ag 3 j d fun p q=>Ady q e f b c d p o))
theorem Akc (a:Aa) (n:Nat) (b c:IV) (d:Hp):AC EE a ft.get n 75 [b,c] d=S75 a n b c d:=by kernel_rfl
def XF (a:Hp) (b c:IV):OH :=
 As true 3 b a fun d=>Ao [d,c] a
def YD (a:IV) (d:Hp) (b:IV):OH :=
 AA 0 a fun e=>AA 1 a fun f=>Ah 3 b e d fun c _ _=>As true 3 b c fun g=>Ao [g,f] c
def Aan (a:Hp) (c d:IV) (b:Aa) (e f:IV):OH :=
 Ag 3 c a fun g _=>Ag 3 d a fun h _=>AE (Aj EE 28 2 [(0,g),(1,h)]) 79699970 a fun i j _ _=>Am [] false false b 64 [.fv (.int .i64 17),i] j fun k l _ _=>Am [] false false b 105 [k,e] l fun m n _ _=>YD m n f
def Wu (a:Aa) (d:Hp) (e f g h:IV):OH :=
 Am [] false false a 53 [e,f] d fun b i _ _=>AA 0 b fun j=>AA 1 b fun k=>AB 79698952 (.row [.fv (.int .i64 0),.fv (.int .i64 0),.nils] false) (.ptr (.own 79698952) 0) i fun c l _ _=>Ah 3 c j l fun m _ _=>Aan m g c a k h
def Zt (c:IV) (a:Hp) (b d:IV) (e:Aa) (f g:IV):OH :=
 H9 EE 35 c (.fv (.int .i64 0)) fun h=>An h (BW [.fv (.int .i64 0),.fv (.int .i64 0),.nils] [] fun i=>Ah 3 b i a fun j _ _=>XF j b c) (Bh 3 d (.fv (.int .i64 1)) fun k=>Ag 3 k a fun l _=>Wu e a f l g b)
def Ws (a:Aa) (e:Hp) (b f g h:IV):OH :=
 Am [] false false a 53 [b,f] e fun c i _ _=>AA 0 c fun j=>AA 1 c fun k=>AB 79695880 (.row [.fv (.int .i64 0),.fv (.int .i64 0),.nils] false) (.ptr (.own 79695880) 0) i fun d l _ _=>Ah 3 d j l fun m _ _=>Zt k m g h a b d
def Aa2 (a:Hp) (b c:IV):OH :=
 As true 3 b a fun d=>Ao [d,c] a
def Ym (c:Aa) (d:Hp) (e f g:IV) (h:AF) (a i:IV):OH :=
 Am [] false false c 73 [e,f,g] d fun j k l m=>Ac [(h,[])] l m (Ah 3 a i k fun b n o=>Ac [] n o (As true 3 a b fun p=>Ao [p,j] b))
def ZX (d:IV) (a:Hp) (b:AF) (e:IV) (f:Aa) (g h i:IV):OH :=
 Bh 3 d (.fv (.int .i64 1)) fun j=>Ag 3 j a fun k c=>Ac [(b,[])] c [] (Ag 3 e a fun l m=>Ac [(c,[]),(b,[])] m [] (Ym f a g k l b h i))
def AaU (c:IV) (a:Hp) (b e f g:IV) (h:Aa) (i:IV):OH :=
 H9 EE 35 c (.fv (.int .i64 0)) fun j=>An j (BW [.fv (.int .i64 0),.fv (.int .i64 0),.nils] [] fun k=>Ah 3 b k a fun l _ _=>Aa2 l b c) (Ag 3 e a fun m d=>Ac [] d [] (ZX f a d g h i b m))
def ZW (c:IV) (d:Hp) (e f g h:IV) (i:Aa) (j:IV):OH :=
 AA 2 c fun k=>AB 79702025 (.row [.fv (.int .i64 0),.fv (.int .i64 0),.nils] false) (.ptr (.own 79702025) 0) d fun a l _ _=>AB 79702026 (.row [.fv (.int .i64 0),.fv (.int .i64 0),.nils] false) (.ptr (.own 79702026) 0) l fun b m _ _=>Ah 3 a e m fun n _ _=>Ah 3 b f n fun o _ _=>AaU k o g b h a i j
def YR (b:IV) (c:Hp) (d:Aa) (e f:IV):OH :=
 Bh 3 b (.fv (.int .i64 0)) fun g=>Ag 3 g c fun h _=>Am [] false false d 108 [e,h,.fv (.int .i64 16)] c fun a i _ _=>AA 0 a fun j=>AA 1 a fun k=>ZW a i j k f b d e
def Xn (a:Hp) (b c:IV):OH :=
 As true 3 b a fun d=>Ao [d,c] a
def Y2 (d:Hp) (a e f b g:IV):OH :=
 AB 79707146 (.row [.fv (.int .i64 0),.fv (.int .i64 0),.nils] false) (.ptr (.own 79707146) 0) d fun h i _ _=>Ah 3 a e i fun j _ _=>Ah 3 h f j fun c _ _=>Ag 3 a c fun k _=>Ah 3 b k c fun l _ _=>Xn l b g
def Yw (b:Aa) (c:Hp) (d e f:IV):OH :=
 Am [] false false b 108 [d,e,.fv (.int .i64 17)] c fun a g _ _=>AA 0 a fun h=>AA 1 a fun i=>AA 2 a fun j=>AB 79707145 (.row [.fv (.int .i64 0),.fv (.int .i64 0),.nils] false) (.ptr (.own 79707145) 0) g fun k l _ _=>Y2 l k h i f j
def Z4 (a:Hp) (d b e:IV):OH :=
 Ag 3 d a fun f _=>Ah 3 b f a fun c _ _=>As true 3 b c fun g=>Ao [g,e] c
def Abo (b:IV) (c:Hp) (d e f:IV):OH :=
 AA 2 b fun g=>AB 79710217 (.row [.fv (.int .i64 0),.fv (.int .i64 0),.nils] false) (.ptr (.own 79710217) 0) c fun h i _ _=>AB 79710218 (.row [.fv (.int .i64 0),.fv (.int .i64 0),.nils] false) (.ptr (.own 79710218) 0) i fun a j _ _=>Ah 3 h d j fun k _ _=>Ah 3 a e k fun l _ _=>Z4 l a f g
def Aar (c:IV) (b:Hp) (d:Aa) (e f:IV):OH :=
 Bh 3 c (.fv (.int .i64 0)) fun g=>Ag 3 g b fun h _=>Am [] false false d 108 [e,h,.fv (.int .i64 17)] b fun a i _ _=>AA 0 a fun j=>AA 1 a fun k=>Abo a i j k f
def Z0 (c:Hp) (a:IV):OH :=
 BW [.fv (.int .i64 0),.fv (.int .i64 0),.nils] [] fun d=>Ah 3 a d c fun b _ _=>As true 3 a b fun e=>Ao [e,.fv (.int .i64 10)] b
def YA (c d:IV) (a:Hp) (e:Aa) (f b:IV):OH :=
 A0 EE 3 c (.fv (.int .i64 23)) fun g=>An g (Bh 3 d (.fv (.int .i64 0)) fun h=>Ag 3 h a fun i _=>Yw e a f i b) (A0 EE 3 c (.fv (.int .i64 24)) fun j=>An j (Aar d a e f b) (Z0 a b))
def Abc (c a:IV) (b:Hp) (d:Aa) (e f:IV):OH :=
 A0 EE 3 c (.fv (.int .i64 22)) fun g=>An g (Bh 3 a (.fv (.int .i64 0)) fun h=>Ag 3 h b fun i _=>Ws d b e i f a) (A0 EE 3 c (.fv (.int .i64 21)) fun j=>An j (YR a b d e f) (YA c a b d e f))
def S76 (c:Aa) (n:Nat) (d e:IV) (f:Hp):OH :=
 A4 79691776 e f fun b g _ _=>AB 79691777 (.row [.fv (.int .i64 0),.fv (.int .i64 0),.nils] false) (.ptr (.own 79691777) 0) g fun h a _ _=>Ae 2 b fun i=>Ak i a fun j _=>Ae 0 b fun k=>Ak k a fun l _=>Abc l j a c d h
theorem Akv (a:Aa) (n:Nat) (b c:IV) (d:Hp):AC EE a ft.get n 76 [b,c] d=S76 a n b c d:=by kernel_rfl
def Aei (a:Hp) (b c:IV):OH :=
 Ab b true a (fun d=>leS EE 3 c (.fv (.int .i64 3000)) fun e=>d e a [] []) fun f g _ _=>AG b f (.fv (.bool false)) fun h=>Ao [h] g
def Afw (b:IV) (c:Hp):OH :=
 geS EE 3 b (.fv (.int .i64 0)) fun a=>Ab a true c (fun e=>e b c [] []) fun f d _ _=>Ab a true d (fun g=>leS EE 3 f (.fv (.int .i64 2)) fun h=>g h d [] []) fun i j _ _=>AG a i (.fv (.bool false)) fun k=>Ao [k] j
def Ac5 (a:Hp) (b c:IV):OH :=
 Ab b true a (fun d=>leS EE 3 c (.fv (.int .i64 4)) fun e=>d e a [] []) fun f g _ _=>AG b f (.fv (.bool false)) fun h=>Ao [h] g
def AdH (a:IV) (b:Hp):OH :=
 A0 EE 3 a (.fv (.int .i64 0)) fun c=>Ao [c] b
def Adq (c b:IV) (a:Hp):OH :=
 A0 EE 3 c (.fv (.int .i64 26)) fun e=>An e (geS EE 3 b (.fv (.int .i64 0)) fun d=>Ab d true a (fun f=>f b a [] []) fun g h _ _=>Ac5 h d g) (A0 EE 3 c (.fv (.int .i64 25)) fun i=>An i (Ao [.fv (.bool true)] a) (AdH b a))
def S80 (j:Aa) (n:Nat) (c a:IV) (b:Hp):OH :=
 A0 EE 3 c (.fv (.int .i64 1)) fun e=>An e (geS EE 3 a (.fv (.int .i64 0)) fun d=>Ab d true b (fun f=>f a b [] []) fun g h _ _=>Aei h d g) (A0 EE 3 c (.fv (.int .i64 2)) fun i=>An i (Afw a b) (Adq c a b))
theorem Ale (a:Aa) (n:Nat) (b c:IV) (d:Hp):AC EE a ft.get n 80 [b,c] d=S80 a n b c d:=by kernel_rfl
def DK (c:Hp) (a:IV):OH :=
 BW [.fv (.int .i64 0),.fv (.int .i64 0),.nils] [] fun d=>Ah 3 a d c fun b _ _=>As true 3 a b fun e=>Ao [e] b
def D7 (c:Aa) (d:Hp) (e a:IV):OH :=
 Am [] false false c 29 [e] d fun f g _ _=>Ah 3 a f g fun b _ _=>As true 3 a b fun h=>Ao [h] b
def DE (b c:IV) (a:Hp) (d:Aa) (e:IV):OH :=
 Bg EE 3 b (.fv (.int .i64 1)) fun f=>AU c fun g=>Ae 1 g fun h=>Ak h a fun i _=>Bg EE 3 f i fun j=>D7 d a j e
def DH (h i:Hp) (a b c d e f g:IV) (j:List IV→Hp→OH):OH :=
 BH (h.own.map (·.1)) [84954117,84956171] [a,b,c,d,e,f,g] i fun k=>j [a,b,c,d,e,f,g] k
def DV (b c:AF) (a:IV) (d:Hp) (e f:IV) (g:Hp) (h i j k l:IV) (m:List IV→Hp→OH):OH :=
 Ac [] b c (Ae 2 a fun n=>Ck n e d fun o p q=>Ac [] p q (B2 EE 3 f (.fv (.int .i64 1)) fun r=>DH g o h i j k l a r m))
def DN (c:Aa) (d:Hp) (a e f g:IV) (b:AF) (h i j:IV) (k:Hp) (l m n o:IV) (p:List IV→Hp→OH):OH :=
 Am [true,false,false,false] false false c 81 [a,e,f,g] d fun q r s t=>Ac [(b,[])] s t (AE (Aj EE 28 1 [(0,q)]) 84956170 r fun u v w x=>Ac [(b,[])] w x (AE (AM EE 84956171 false .append [28,28] [h,u]) 84956171 v fun y z A B=>DV A B i z y j k a l m n o p))
def GA (a:IV) (b:Hp) (c f d:IV) (g:Aa) (h i j:IV) (k:Hp) (l m:IV) (n:List IV→Hp→OH):OH :=
 Ae 2 a fun o=>Ak o b fun p e=>Ac [] e [] (B2 EE 3 c f fun q=>B2 EE 3 d (.fv (.int .i64 1)) fun r=>DN g b h i q r e p a j k l c d m n)
def DY (l m:Hp) (a b c d e f g h i j k:IV) (n:List IV→Hp→OH):OH :=
 BH (l.own.map (·.1)) [84954117] [a,b,c,d,e,f,g,h,i,j,k] m fun o=>n [a,b,c,d,e,f,g,h,i,j,k] o
def DD (b:IV) (c:Hp) (d:Aa) (e f:IV) (g:Hp) (h i j k l m n o p:IV) (q:List IV→Hp→OH):OH :=
 BW [.fv (.int .i64 0),.fv (.int .i64 0),.nils,.nils,.fv (.int .i64 0),.fv (.int .i64 0),.nils] [(0,1,.fv (.int .i64 1)),(1,1,b)] fun a=>fzS (MU true 84954117 a) 84954117 a c fun r s _ _=>AE (Aj EE 129 1 [(0,r)]) 84954118 s fun t u _ _=>Am [] false false d 109 [e,t] u fun v w _ _=>B2 EE 3 f (.fv (.int .i64 1)) fun x=>DY g w h i j k l m n o p v x q
def DC (c:IV) (a:Hp) (d:Aa) (b e:IV) (f:IV→IV→IV→IV→IV→IV→IV→IV→IV→Hp→OH) (g h i j k l m:IV):OH :=
 Ae 4 c fun n=>Ag 3 n a fun o _=>Am [true,false,false] false false d 82 [b,o,e] a fun p q _ _=>f b g h i j k l m p q
def DF (n:List IV) (a b:IV) (d:Hp) (e:Aa) (f:IV) (o:Hp) (g h i j k l m:IV) (p:List IV→Hp→OH) (q:IV→IV→IV→IV→IV→IV→IV→IV→IV→Hp→OH):OH :=
 AH n fun c _=>H4 EE 3 c a fun r=>An r (B2 EE 3 b c fun s=>DD s d e f c o g h b i j k l a m p) (AU m fun t=>DC t d e g f q h b i j k l a)
def DR (a:List IV) (b:IV) (c:Hp) (d:Aa) (e:Hp) (f g h i:IV) (j:List IV→Hp→OH) (k:IV→IV→IV→IV→IV→IV→IV→IV→IV→Hp→OH):OH :=
 AH a fun l m=>AH m fun n o=>AH o fun p q=>AH q fun r s=>AH s fun t u=>DF u p b c d t e f g h i l n r j k
def Ge (a:List IV) (b:Hp) (c:Aa) (d:Hp) (e:List IV→Hp→OH) (f:IV→IV→IV→IV→IV→IV→IV→IV→IV→Hp→OH):OH :=
 AH a fun g h=>AH h fun i j=>AH j fun k l=>AH l fun m n=>AH n fun o p=>DR p k b c d g i m o e f
def D8 (a:Hp) (m:IV) (b:Hp) (c d e f g h i j k:IV) (n:Nat) (o:Aa) (p:IV→IV→IV→IV→IV→IV→IV→IV→IV→Hp→OH):OH :=
 Ak m a fun l _=>BH (b.own.map (·.1)) [84954117] [c,d,e,f,g,h,i,j,k,l,.fv (.int .i64 0)] a fun q=>B5 n (fun r s t=>Ge s t o b r p) [c,d,e,f,g,h,i,j,k,l,.fv (.int .i64 0)] q
def DI (l a:IV) (b m:Hp) (c d e f g h i j:IV) (n:Nat) (o:Aa) (k:IV→IV→IV→IV→IV→IV→IV→IV→IV→Hp→OH):OH :=
 An l (AU a fun p=>Ae 3 p fun q=>D8 b q m c d e f g h i j a n o k) (k c d e f g h i j a b)
def D5 (a:Hp) (f b:IV) (c:Aa) (d:Hp) (g:List IV→Hp→OH) (e h i j k l m:IV) (n:Nat):OH :=
 Ak f a fun o _=>Bh 1 o b fun p=>Ak p a fun q _=>(fun (r:IV→IV→IV→IV→IV→IV→IV→IV→IV→Hp→OH)=>Ko EE 3 e (.fv (.int .i64 0)) fun s=>DI s q a d h i j k l m b e n c r) fun t u v w x y z A B C=>GA y C v A w c t B z d u x g
def DW (e:IV) (a:Hp) (b:Aa) (c d:IV) (f:Hp) (g:List IV→Hp→OH) (h i j k l:IV) (n:Nat):OH :=
 Ae 0 e fun m=>Ak m a fun o _=>Am [] false false b 48 [o,c] a fun p q _ _=>AU d fun r=>Ae 2 r fun s=>D5 q s c b f g p h d i j k l n
def DL (c:Hp) (a d:IV):OH :=
 Ah 3 a d c fun b _ _=>As true 3 a b fun e=>Ao [e] b
def DG (f b c:IV) (a:Hp) (g:Aa) (h:Hp) (i:List IV→Hp→OH) (j k l d e:IV) (n:Nat):OH :=
 BV f fun m=>H4 EE 3 b m fun o=>An o (AU c fun p=>DW p a g b c h i j k l d e n) (Ag 3 e a fun q _=>DL a d q)
def DM (c:List IV) (a:IV) (b:Hp) (d:Aa) (e:Hp) (f:List IV→Hp→OH) (g h i j:IV) (n:Nat):OH :=
 AH c fun k l=>AH l fun m _=>AU a fun o=>Ae 2 o fun p=>Ak p b fun q _=>DG q m a b d e f g h i j k n
def Ew (a:List IV) (b:Hp) (c:Aa) (d:Hp) (e:List IV→Hp→OH) (n:Nat):OH :=
 AH a fun f g=>AH g fun h i=>AH i fun j k=>AH k fun l m=>AH m fun o p=>DM p h b c d e f j l o n
def D1 (h i j k:AF) (l:Hp) (a m:IV) (b:Hp) (c d e f g:IV) (n:Nat) (o:Aa):OH :=
 Ac [(j,[]),(k,[])] h i (Ah 3 a m l fun p q r=>Ac [] q r (BH (b.own.map (·.1)) [84954117,84956171] [c,d,e,f,g,a,.fv (.int .i64 0)] p fun s=>B5 n (fun t u v=>Ew u v o b t n) [c,d,e,f,g,a,.fv (.int .i64 0)] s))
def DJ (d:IV) (a:Hp) (b:AF) (e:IV) (f:Hp) (g h i j k:IV) (n:Nat) (l:Aa):OH :=
 Ae 1 d fun m=>Ak m a fun o c=>Ac [(b,[])] c [] (BW [.fv (.int .i64 0),.fv (.int .i64 0),.nils] [(0,1,e),(1,1,o)] fun p=>AB 84942857 (.row [.fv (.int .i64 0),.fv (.int .i64 0),.nils] false) (.ptr (.own 84942857) 0) a fun q r s t=>D1 s t c b r q p f g h i j k n l)
def D6 (a:IV) (b d:Hp) (e f g h:IV) (n:Nat) (i:Aa):OH :=
 AU a fun j=>Ae 0 j fun k=>Ak k b fun l c=>Ac [] c [] (AU a fun m=>DJ m b c l d e a f g h n i)
def DZ (a:IV) (b:Hp) (c:IV) (d:Aa) (e:IV) (f:Hp) (g h:IV) (n:Nat):OH :=
 AU a fun i=>Ae 0 i fun j=>Ak j b fun k _=>A0 EE 3 k (.fv (.int .i64 1)) fun l=>An l (DE c a b d e) (D6 a b f g c h e n d)
def DP (b:IV) (a:Hp) (c d e:IV) (f:Aa) (g:Hp) (h:IV) (n:Nat):OH :=
 AU b fun i=>Ae 2 i fun j=>Ak j a fun k _=>H9 EE 3 k (.fv (.int .i64 0)) fun l=>An l (DK a c) (DZ d a e f c g b h n)
def D0 (a:IV) (b:Hp) (c:Hp→OH):OH :=
 Ae 2 a fun d=>Ck d (.fv (.int .i64 5)) b fun e _ _=>c e
def DO (a:Hp) (b e f g:IV) (c:Hp→OH):OH :=
 Ab b true a (fun h=>AG e (.fv (.bool true)) f fun i=>h i a [] []) fun j d _ _=>AG b j (.fv (.bool false)) fun k=>An k (AU g fun l=>D0 l d c) (c d)
def DS (b:Hp) (a h i j:IV) (k:Hp→OH):OH :=
 Ab a true b (fun l=>Ak h b fun m n=>l m b n []) fun o d _ _=>Ab a true d (fun p=>Ko EE 3 o (.fv (.int .i64 3000)) fun q=>p q d [] []) fun r e _ _=>Ab a true e (fun s=>s r e [] []) fun c f _ _=>Ab c false f (fun t=>t i f [] []) fun u g _ _=>Ab c false g (fun v=>Ko EE 3 u (.fv (.int .i64 120)) fun w=>v w g [] []) fun x y _ _=>DO y a c x j k
def DX (b:Hp) (f c g:IV) (h:Hp→OH):OH :=
 Ak f b fun i _=>A0 EE 3 i (.fv (.int .i64 0)) fun a=>Ab a true b (fun j=>j c b [] []) fun k d _ _=>Ab a true d (fun l=>AU k fun m=>l m d [] []) fun n e _ _=>Ab a true e (fun o=>Ae 1 n fun p=>o p e [] []) fun q r _ _=>DS r a q g c h
def D9 (c:IV) (d:Hp) (e a f g h:IV) (i:Aa) (j:Hp) (b:IV) (n:Nat):OH :=
 Ae 1 c fun k=>Ck k e d fun l _ _=>(fun (m:Hp→OH)=>AU a fun o=>Ae 2 o fun p=>DX l p a b m) fun q=>DP a q f g h i j b n
def S81 (d:Aa) (n:Nat) (a e f g:IV) (b:Hp):OH :=
 AB 84934656 (.row [.fv (.int .i64 0),.fv (.int .i64 0),.nils] false) (.ptr (.own 84934656) 0) b fun h c _ _=>AU a fun i=>Ae 1 i fun j=>Ak j c fun k _=>B2 EE 3 k (.fv (.int .i64 1)) fun l=>AU a fun m=>D9 m c l a h e f d b g n
theorem Ai7 (a:Aa) (n:Nat) (b c d e:IV) (f:Hp):AC EE a ft.get n 81 [b,c,d,e] f=S81 a n b c d e f:=by kernel_rfl
def Ho (a:Hp):OH :=
 BW [.fv (.int .i64 0),.fv (.int .i64 0),.nils,.nils,.fv (.int .i64 0),.fv (.int .i64 0),.nils] [(0,1,.fv (.int .i64 11))] fun b=>A4 85985281 b a fun c d _ _=>Ao [c] d
def Hj (a:Hp) (b:IV):OH :=
 Ak b a fun c _=>Ao [c] a
def HM (b c:IV) (a:Hp) (d:IV):OH :=
 Bg EE 3 b (.fv (.int .i64 1)) fun e=>Ae 1 c fun f=>Ak f a fun g _=>Bg EE 3 e g fun h=>Bh 1 d h fun i=>Hj a i
def HT (a:Hp) (b:IV):OH :=
 A4 85989383 b a fun c d _ _=>Ao [c] d
def HS (b c:IV) (a:Hp):OH :=
 Bg EE 3 b (.fv (.int .i64 1)) fun d=>Ae 1 c fun e=>Ak e a fun f _=>Bg EE 3 d f fun g=>BW [.fv (.int .i64 0),.fv (.int .i64 0),.nils,.nils,.fv (.int .i64 0),.fv (.int .i64 0),.nils] [(0,1,.fv (.int .i64 1)),(1,1,g)] fun h=>HT a h
def HK (b:Hp) (d a c:IV):OH :=
 Ak d b fun e _=>BV a fun f=>H4 EE 3 e f fun g=>An g (BV a fun h=>HM h c b a) (BV a fun i=>HS i c b)
def HA (f:IV) (g h:Hp) (a b c d:IV) (i:List IV→Hp→OH):OH :=
 B2 EE 3 f (.fv (.int .i64 1)) fun e=>BH (g.own.map (·.1)) [85995532,85995534,85996558] [a,b,c,d,e] h fun j=>i [a,b,c,d,e] j
def HD (a:IV) (b:Hp) (c:IV) (d:Hp→OH):OH :=
 AU a fun e=>Ae 2 e fun f=>Ck f c b fun g h i=>Ac [] h i (d g)
def Hw (b c a:AF) (d:Hp) (e f g:IV) (h:Hp→OH):OH :=
 Ac [(a,[])] b c (AE (Aj EE 129 1 [(0,e)]) 85995533 d fun i j k l=>Ac [(a,[])] k l (AE (AM EE 85995534 false .append [129,129] [f,i]) 85995534 j fun m n o p=>Ac [] o p (HD g n m h)))
def G7 (c d:IV) (a:Hp) (b:AF) (e f g:IV) (h:Hp→OH):OH :=
 Bh 3 c d fun i=>Ag 3 i a fun j k=>Ac [(b,[])] k [] (BW [.fv (.int .i64 0),.fv (.int .i64 0),.nils,.nils,.fv (.int .i64 0),.fv (.int .i64 0),.nils] [(3,1,e),(4,3,j)] fun l=>A4 85995532 l a fun m n o p=>Hw o p b n m f g h)
def Hq (a:Hp) (c d e f g:IV) (h:Hp→OH):OH :=
 Ak c a fun i b=>Ac [] b [] (Ae 2 d fun j=>Ak j a fun k l=>Ac [(b,[])] l [] (G7 k e a b f i g h))
def Hs (a:IV) (b:Hp) (c:IV) (d:Hp→OH):OH :=
 Ae 2 a fun e=>Ck e c b fun f g h=>Ac [] g h (d f)
def HB (a:Hp) (b:IV) (c:AF) (d e:IV) (f:Hp→OH):OH :=
 AE (Aj EE 129 1 [(0,b)]) 85996557 a fun g h i j=>Ac [(c,[])] i j (AE (AM EE 85996558 false .append [129,129] [d,g]) 85996558 h fun k l m n=>Ac [] m n (AU e fun o=>Hs o l k f))
def HH (c d:IV) (b:Hp) (a:AF) (e:Aa) (f g h i:IV) (j:Hp→OH):OH :=
 Bh 3 c d fun k=>Ag 3 k b fun l m=>Ac [(a,[])] m [] (Am [true,false,false] false false e 82 [f,l,g] b fun n o p q=>Ac [(a,[])] p q (HB o n a h i j))
def G8 (a:Hp) (c d e:IV) (f:Aa) (g h i:IV) (j:Hp→OH):OH :=
 Ak c a fun k b=>Ac [] b [] (Ae 2 d fun l=>Ak l a fun m n=>Ac [(b,[])] n [] (HH m e a b f g h k i j))
def Hx (g a:IV) (b:Hp) (c d e:IV) (f:Hp→OH) (h:Aa) (i:IV):OH :=
 An g (AU a fun j=>Ae 2 j fun k=>Hq b k c d e a f) (AU a fun l=>Ae 2 l fun m=>G8 b m c d h i e a f)
def HE (a:IV) (h:Hp) (c d b e:IV) (i:List IV→Hp→OH) (f:Hp) (g:Aa):OH :=
 (fun (j:Hp→OH)=>Ae 0 b fun k=>Ak k f fun l _=>Am [] false false g 48 [l,a] f fun m n _ _=>Ko EE 3 m (.fv (.int .i64 0)) fun o=>Hx o e n b a d j g c) fun p=>HA a h p c d b e i
def HQ (a:Aa) (b:Hp) (c d:IV):OH :=
 Am [true,false] false false a 110 [c,d] b fun e f _ _=>Ao [e] f
def He (b:IV) (a:Hp) (c:IV) (g:Hp) (d h e:IV) (i:List IV→Hp→OH) (f:Aa):OH :=
 Ae 2 b fun j=>Ak j a fun k _=>BV k fun l=>H4 EE 3 c l fun m=>An m (HE c g d h b e i a f) (HQ f a d e)
def AaQ (a:List IV) (b c:Hp) (d:List IV→Hp→OH) (e:Aa):OH :=
 AH a fun f g=>AH g fun h i=>AH i fun j k=>AH k fun l m=>AH m fun n _=>He j b n c f h l d e
def HO (a f:Hp) (b c d e:IV) (n:Nat) (g:Aa):OH :=
 BH (a.own.map (·.1)) [85995532,85995534,85996558] [b,c,d,e,.fv (.int .i64 0)] f fun h=>B5 n (fun i j k=>AaQ j k a i g) [b,c,d,e,.fv (.int .i64 0)] h
def Hz (a:Hp) (c b:IV) (d:Hp) (e f:IV) (n:Nat) (g:Aa):OH :=
 Ak c a fun h _=>Ae 1 b fun i=>Ak i a fun j _=>BW [.fv (.int .i64 0),.fv (.int .i64 0),.nils,.nils,.fv (.int .i64 0),.fv (.int .i64 0),.nils] [(0,1,h),(1,1,j)] fun k=>A4 85990405 k a fun l m _ _=>HO d m e f b l n g
def HX (a:IV) (b:Hp) (c:IV) (d:Hp) (e:IV) (n:Nat) (f:Aa):OH :=
 Ae 0 a fun g=>Ak g b fun h _=>A0 EE 3 h (.fv (.int .i64 1)) fun i=>An i (Ae 1 a fun j=>HK b j c a) (Ae 0 a fun k=>Hz b k a d e c n f)
def S82 (d:Aa) (n:Nat) (b e f:IV) (c:Hp):OH :=
 A4 85983232 e c fun g a _ _=>AU b fun h=>Ae 2 h fun i=>Ak i a fun j _=>H9 EE 3 j (.fv (.int .i64 0)) fun k=>An k (Ho a) (HX g a f c b n d)
theorem Ajv (a:Aa) (n:Nat) (b c d:IV) (e:Hp):AC EE a ft.get n 82 [b,c,d] e=S82 a n b c d e:=by kernel_rfl
def Adz (c:Hp) (a d:IV):OH :=
 Ah 3 a d c fun b _ _=>As true 3 a b fun e=>Ao [e] b
def S89 (b:Aa) (n:Nat) (c d e:IV) (f:Hp):OH :=
 A4 93323264 c f fun g h _ _=>A4 93323265 e h fun i j _ _=>AB 93323266 (.row [.fv (.int .i64 0),.fv (.int .i64 0),.nils] false) (.ptr (.own 93323266) 0) j fun k a _ _=>Ag 3 g a fun l _=>Ag 3 i a fun m _=>Am [] false false b 113 [l,d,.fv (.int .i64 0),m] a fun o p _ _=>Adz p k o
theorem AjF (a:Aa) (n:Nat) (b c d:IV) (e:Hp):AC EE a ft.get n 89 [b,c,d] e=S89 a n b c d e:=by kernel_rfl
def UM (a b:AF) (c:Hp) (d:IV):OH :=
 Ac [] a b (Ao [d] c)
def UQ (e a b c d:AF) (f g:IV) (h:Hp) (i:IV):OH :=
 Ac [(a,b),(c,d)] e [] (BW [.fv (.int .i64 0),.fv (.int .i64 0),.fv (.int .i64 0),.nils] [(0,1,f),(1,3,g)] fun j=>AE (Aj EE 71 1 [(0,j)]) 100664326 h fun k l m n=>Ac [(a,b),(c,d)] m n (AE (AM EE 100664327 false .append [71,71] [i,k]) 100664327 l fun o p q r=>UM q r p o))
def S96 (r:Aa) (n:Nat) (f g h:IV) (i:Hp):OH :=
 A4 100663296 h i fun j k _ _=>AE (Aj EE 71 0 []) 100664320 k fun l m a b=>Ac [] a b (AE (AM EE 100664322 false .append [71,71] [l,f]) 100664322 m fun o c d e=>Ac [] d e (Ag 3 j c fun p q=>UQ q d e a b g p c o))
theorem Aky (a:Aa) (n:Nat) (b c d:IV) (e:Hp):AC EE a ft.get n 96 [b,c,d] e=S96 a n b c d e:=by kernel_rfl
def QM (h:IV) (i j:Hp) (a b c d e f:IV) (k:List IV→Hp→OH):OH :=
 B2 EE 3 h (.fv (.int .i64 1)) fun g=>BH (i.own.map (·.1)) [101718032,101720067] [a,b,c,d,e,f,g] j fun l=>k [a,b,c,d,e,f,g] l
def Qv (a:Hp) (b c:IV) (d:IV→Hp→OH):OH :=
 AE (Aj EE 51 1 [(0,b)]) 101720066 a fun e f _ _=>AE (AM EE 101720067 false .append [51,51] [c,e]) 101720067 f fun g h _ _=>d g h
def OG (f g:AF) (a:Hp) (b:IV) (h:Aa) (i j k c:IV) (d:IV→Hp→OH):OH :=
 Ac [] f g (Ab b true a (fun l=>Am [] false false h 18 [i,j] a l) fun m e n o=>Ac [] n o (AG b m (.fv (.bool false)) fun p=>An p (Qv e k c d) (d c e)))
def PQ (d:Hp) (a:IV) (b:Aa) (h i:IV) (j k:AF) (l m:IV) (n:IV→Hp→OH):OH :=
 Ab a true d (fun o=>Am [] false false b 112 [h] d o) fun p c e f=>Ac [] e f (Ab a true c (fun q=>Ag 3 i c fun r s=>q r c s []) fun t g u v=>Ac [(e,f),(j,k)] u v (Ab a true g (fun w=>Am [] false false b 112 [t] g w) fun x y z A=>OG z A y a b p x l m n))
def Pg (f:Hp) (g h:IV) (i:Aa) (j k l:IV) (m:IV→Hp→OH):OH :=
 AB 101718032 (.row [.fv (.int .i64 0),.fv (.int .i64 0),.nils] false) (.ptr (.own 101718032) 0) f fun b n _ _=>Ah 3 b g n fun a _ _=>A0 EE 3 h (.fv (.int .i64 0)) fun c=>Ab c true a (fun o=>Ag 3 b a fun p q=>o p a q []) fun r s d e=>Ac [] d e (PQ s c i r j d e k l m)
def Pi (b:IV) (a:Aa) (d:Hp) (e f g:IV) (h:IV→Hp→OH):OH :=
 B2 EE 3 b (.fv (.int .i64 1)) fun i=>Am [] false false a 28 [e,i,.fv (.int .i64 0)] d fun j k _ _=>Am [] false false a 58 [j] k fun c l _ _=>AA 0 c fun m=>AA 1 c fun n=>Pg l m n a f b g h
def Qe (c a d:IV) (b:Hp) (e:Aa) (f g:IV) (h:IV→Hp→OH):OH :=
 Bg EE 3 c (.fv (.int .i64 1)) fun i=>Bg EE 3 i a fun j=>Bh 4 d j fun k=>Ae 1 k fun l=>Ag 3 l b fun m _=>Pi a e b m f g h
def Qw (e:IV) (a:Hp) (f:IV) (b:IV→Hp→OH) (c d g:IV) (h:Aa) (i:IV):OH :=
 Ae 0 e fun j=>Ak j a fun k _=>H9 EE 3 k f fun l=>An l (b c a) (BV d fun m=>Qe m g d a h i c b)
def Qo (b:IV) (e:Hp) (a c f d g:IV) (h:List IV→Hp→OH) (i:Hp) (j:IV) (k:Aa):OH :=
 (fun (l:IV→Hp→OH)=>BV a fun m=>Bg EE 3 m (.fv (.int .i64 1)) fun n=>Bg EE 3 n b fun o=>Bh 4 a o fun p=>Qw p i c l j a b k d) fun q r=>QM b e r a c f d g q h
def Py (c:Hp) (a d:IV):OH :=
 Ah 3 a d c fun b _ _=>As true 3 a b fun e=>Ao [e,.fv (.bool false)] b
def Qg (a:Hp) (b:IV):OH :=
 As true 3 b a fun c=>Ao [c,.fv (.bool true)] a
def Pq (a:Aa) (d:Hp) (e f g b:IV):OH :=
 Am [] false false a 41 [e,f] d fun h c _ _=>Bh 1 g h fun i=>Ak i c fun j _=>Am [] false false a 29 [j] c fun k l _ _=>Ah 3 b k l fun m _ _=>Qg m b
def PC (a:IV) (b:Hp) (c:IV) (d:Aa) (e:IV):OH :=
 BV a fun f=>A0 EE 3 f (.fv (.int .i64 0)) fun g=>An g (BW [.fv (.int .i64 0),.fv (.int .i64 0),.nils] [] fun h=>Py b c h) (BV a fun i=>Pq d b e i a c)
def O6 (h:List IV) (a:IV) (i:Hp) (j b k c:IV) (l:List IV→Hp→OH) (d:Hp) (e:Aa):OH :=
 AH h fun f m=>AH m fun g _=>BV a fun n=>H4 EE 3 g n fun o=>An o (Qo g i a j b k c l d f e) (PC f d c e b)
def ZK (a:List IV) (b:Hp) (c:List IV→Hp→OH) (d:Hp) (e:Aa):OH :=
 AH a fun f g=>AH g fun h i=>AH i fun j k=>AH k fun l m=>AH m fun n o=>O6 o f b h j l n c d e
def S97 (g:Aa) (n:Nat) (b c h d:IV) (a:Hp):OH :=
 A4 101711872 h a fun e i _ _=>AB 101711873 (.row [.fv (.int .i64 0),.fv (.int .i64 0),.nils] false) (.ptr (.own 101711873) 0) i fun f j _ _=>BH (a.own.map (·.1)) [101718032,101720067] [b,c,d,e,f,.nils,.fv (.int .i64 0)] j fun k=>B5 n (fun l m o=>ZK m a l o g) [b,c,d,e,f,.nils,.fv (.int .i64 0)] k
theorem Ai2 (a:Aa) (n:Nat) (b c d e:IV) (f:Hp):AC EE a ft.get n 97 [b,c,d,e] f=S97 a n b c d e f:=by kernel_rfl
def Aa4 (a:Hp) (b c:IV):OH :=
 As true 3 b a fun d=>Ao [d,c] a
def WA (a:Hp) (b f g c h:IV):OH :=
 Ab b true a (fun i=>i f a [] []) fun j d _ _=>AG b j (.fv (.bool false)) fun e=>Ab e true d (fun k=>k g d [] []) fun l m _ _=>AG e l (.fv (.bool false)) fun n=>Ah 3 c h m fun o _ _=>Aa4 o c n
def Xm (a:Hp) (b c d:IV) (e:Aa) (f g h i:IV):OH :=
 Ag 3 b a fun j _=>Ag 3 c a fun k _=>Ag 3 d a fun l _=>AE (Aj EE 28 3 [(0,j),(1,k),(2,l)]) 102767619 a fun m n _ _=>Am [] false false e 30 [.fv (.int .i64 27),m] n fun o p _ _=>WA p f g h i o
def YZ (b:IV) (c:Hp) (d e f g h i:AF) (j k l:IV) (m:Aa) (n o p:IV):OH :=
 AA 1 b fun q=>AB 102766602 (.row [.fv (.int .i64 0),.fv (.int .i64 0),.nils] false) (.ptr (.own 102766602) 0) c fun a r s t=>Ac [(d,e),(f,g),(h,[]),(i,[])] s t (Ah 3 a j r fun u v w=>Ac [] v w (Xm u k l a m n o q p))
def Aa7 (a b c:AF) (h:IV) (d:Aa) (i:Hp) (j k l:IV) (m:AF) (n o p q r:IV):OH :=
 Ac [(c,[])] a b (Bg EE 3 h (.fv (.int .i64 2)) fun s=>Am [] false false d 68 [j,k,l,s] i fun e t f g=>Ac [] f g (AA 0 e fun u=>YZ e t f g a b m c u n o d p q r))
def Abd (a:Hp) (e f:IV) (c:Aa) (g h i j k l m:IV):OH :=
 Ag 3 e a fun n b=>Ac [] b [] (Ag 3 f a fun o d=>Ac [(b,[])] d [] (Am [] false false c 42 [o,.fv (.int .i64 2)] a fun p q r s=>Aa7 r s b g c q h n p d i j k l m))
def Yl (b:IV) (c:Hp) (d e f g h i:AF) (j k l:IV) (m:Aa) (n o p q r:IV):OH :=
 AA 1 b fun s=>AB 102765578 (.row [.fv (.int .i64 0),.fv (.int .i64 0),.nils] false) (.ptr (.own 102765578) 0) c fun a t u v=>Ac [(d,e),(f,g),(h,[]),(i,[])] u v (Ah 3 a j t fun w x y=>Ac [] x y (Abd w k l m n o p a q s r))
def Yk (a b c:AF) (d:IV) (e:Aa) (j:Hp) (f k l:IV) (m:AF) (n o p q r:IV):OH :=
 Ac [(c,[])] a b (Bg EE 3 d (.fv (.int .i64 2)) fun s=>Am [] false false e 68 [f,k,l,s] j fun g t h i=>Ac [] h i (AA 0 g fun u=>Yl g t h i a b m c u n o e d f p q r))
def ZH (a:Hp) (c d:IV) (e:Aa) (g h i j k:IV):OH :=
 Ag 3 c a fun l b=>Ac [] b [] (Ag 3 d a fun m f=>Ac [(b,[])] f [] (Am [] false false e 42 [m,.fv (.int .i64 1)] a fun n o p q=>Yk p q b g e o h l n f c d i j k))
def ZS (b:IV) (c:Hp) (d e f g h i:AF) (j k l:IV) (m:Aa) (n o p:IV):OH :=
 AA 1 b fun q=>AB 102764554 (.row [.fv (.int .i64 0),.fv (.int .i64 0),.nils] false) (.ptr (.own 102764554) 0) c fun a r s t=>Ac [(d,e),(f,g),(h,[]),(i,[])] s t (Ah 3 a j r fun u v w=>Ac [] v w (ZH u k l m n o a q p))
def WJ (a b c:AF) (d:IV) (e:Aa) (j:Hp) (f k l:IV) (m:AF) (n o p:IV):OH :=
 Ac [(c,[])] a b (Bg EE 3 d (.fv (.int .i64 2)) fun q=>Am [] false false e 68 [f,k,l,q] j fun g r h i=>Ac [] h i (AA 0 g fun s=>ZS g r h i a b m c s n o e d f p))
def WV (a:Hp) (f c:IV) (d:Aa) (g h i j:IV):OH :=
 Ag 3 f a fun k b=>Ac [] b [] (Ag 3 c a fun l e=>Ac [(b,[])] e [] (Am [] false false d 42 [l,.fv (.int .i64 0)] a fun m n o p=>WJ o p b g d n h k m e i c j))
def Yb (c:Hp) (a d e:IV):OH :=
 Ah 3 a d c fun b _ _=>As true 3 a b fun f=>Ao [f,e] b
def YB (a:Hp) (d e:IV) (f:Aa) (b g h:IV):OH :=
 Ag 3 d a fun i _=>AE (Aj EE 28 2 [(0,e),(1,i)]) 102772738 a fun j k _ _=>Am [] false false f 30 [.fv (.int .i64 28),j] k fun l c _ _=>Ab b true c (fun m=>m g c [] []) fun n o _ _=>AG b n (.fv (.bool false)) fun p=>Yb o h l p
def WD (c:Hp) (d e f g h i j k l m n:AF) (o p:IV) (q:Aa) (r s t:IV):OH :=
 AB 102771725 (.row [.fv (.int .i64 0),.fv (.int .i64 0),.nils] false) (.ptr (.own 102771725) 0) c fun a u v w=>Ac [(d,e),(f,g),(h,[]),(i,j),(k,[]),(l,m),(n,[])] v w (Ah 3 a o u fun b x y=>Ac [] x y (Ag 3 p b fun z _=>YB b a z q r s t))
def XA (e:IV) (a:Aa) (f:Hp) (g h i:IV) (j k l m n o p q r:AF) (s t u:IV):OH :=
 Bg EE 3 e (.fv (.int .i64 2)) fun v=>Am [] false false a 68 [g,h,i,v] f fun b w c d=>Ac [] c d (AA 0 b fun x=>AA 1 b fun y=>WD w c d j k l m n o p q r x s a t y u)
def Z6 (a b:AF) (c:Hp) (l:IV) (d e f g:AF) (h:Aa) (m n o p q r:IV):OH :=
 Ac [] a b (Ag 3 l c fun s i=>Ac [(a,b),(d,[]),(e,f),(g,[])] i [] (Am [] false false h 42 [s,.fv (.int .i64 2)] c fun t u j k=>Ac [] j k (XA m h u n o t j k i a b d e f g p q r)))
def WZ (a:Aa) (g:Hp) (h i j:IV) (d:AF) (k l m n o:IV):OH :=
 Am [] false false a 96 [h,.fv (.int .i64 0),i] g fun p e b c=>Ac [] b c (Ag 3 j e fun q f=>Ac [(b,c),(d,[])] f [] (Am [] false false a 28 [q,.fv (.int .i64 1),.fv (.int .i64 0)] e fun r s t u=>Z6 t u s k f b c d a l p r m n o))
def Xd (d e f g h i j k:AF) (l:Hp) (a m n:IV) (o:Aa) (p q r s t u:IV):OH :=
 Ac [(f,g),(h,i),(j,[]),(k,[])] d e (Ah 3 a m l fun b v w=>Ac [] v w (Ag 3 n b fun x c=>Ac [] c [] (WZ o b p x q c r s a t u)))
def Ze (a:Aa) (f:Hp) (b g h i:IV) (j k l m:AF) (n o p q r:IV):OH :=
 Am [] false false a 68 [b,g,h,i] f fun c s d e=>Ac [] d e (AA 0 c fun t=>AA 1 c fun u=>AB 102770698 (.row [.fv (.int .i64 0),.fv (.int .i64 0),.nils] false) (.ptr (.own 102770698) 0) s fun v w x y=>Xd x y d e j k l m w v t n a b o p q u r)
def XO (b:Hp) (c:IV) (a:AF) (d:Aa) (e i j k l m:IV):OH :=
 Ag 3 c b fun n f=>Ac [(a,[])] f [] (Am [] false false d 42 [n,.fv (.int .i64 1)] b fun o p g h=>Ac [(a,[])] g h (Bg EE 3 e (.fv (.int .i64 2)) fun q=>Ze d p i j o q g h f a k l c e m))
def Abt (b:Aa) (e:Hp) (f g h i j k:IV):OH :=
 Am [] false false b 14 [f,.fv (.int .i64 1)] e fun l m _ _=>AB 102769667 (.row [.fv (.int .i64 0),.fv (.int .i64 0),.nils] false) (.ptr (.own 102769667) 0) m fun a n _ _=>Ah 3 a l n fun c _ _=>Ag 3 a c fun o d=>Ac [] d [] (XO c g d b h i o a j k)
def Aae (a:Hp) (b e c f:IV):OH :=
 Ab b true a (fun g=>g e a [] []) fun h i _ _=>AG b h (.fv (.bool false)) fun j=>Ah 3 c f i fun d k l=>Ac [] k l (As true 3 c d fun m=>Ao [m,j] d)
def Aa5 (a b c d e f g:AF) (h:Hp) (i j:IV) (k:Aa) (l m n:IV):OH :=
 Ac [(b,c),(d,e),(f,[]),(g,[])] a [] (AE (Aj EE 28 2 [(0,i),(1,j)]) 102777861 h fun o p q r=>Ac [] q r (Am [] false false k 30 [.fv (.int .i64 21),o] p fun s t u v=>Ac [] u v (Aae t l m n s)))
def XH (g:Hp) (h i:IV) (a:Aa) (j:IV) (k l:AF) (m n o:IV):OH :=
 AE (Aj EE 28 2 [(0,h),(1,i)]) 102777858 g fun p q b c=>Ac [] b c (Am [] false false a 30 [.fv (.int .i64 20),p] q fun r d e f=>Ac [] e f (Ag 3 j d fun s t=>Aa5 t e f b c k l d r s a m n o))
def Y3 (d e:AF) (a:Hp) (f g:IV) (h:Aa) (i j k l:IV):OH :=
 Ac [] d e (Ag 3 f a fun m b=>Ac [] b [] (Ag 3 g a fun n c=>Ac [(b,[])] c [] (XH a m n h i c b j k l)))
def Y9 (a:IV) (c:Hp) (d e f g h i j k l m n:AF) (o:IV) (p:Aa) (q r s:IV):OH :=
 AA 0 a fun t=>AA 1 a fun u=>AB 102776845 (.row [.fv (.int .i64 0),.fv (.int .i64 0),.nils] false) (.ptr (.own 102776845) 0) c fun b v w x=>Ac [(d,e),(f,g),(h,[]),(i,j),(k,[]),(l,m),(n,[])] w x (Ah 3 b t v fun y z A=>Y3 z A y o b p q r u s)
def Aac (a:Aa) (f:Hp) (g h i j:IV) (k l m n o p q:AF) (r s t u:IV):OH :=
 Am [] false false a 42 [g,.fv (.int .i64 2)] f fun v w b c=>Ac [] b c (Bg EE 3 h (.fv (.int .i64 2)) fun x=>Am [] false false a 68 [i,j,v,x] w fun y z d e=>Ac [] d e (Y9 y z d e b c k l m n o p q r a s t u))
def AaJ (a b c d:AF) (g:Aa) (j:Hp) (k l m n o p q r:IV):OH :=
 Ac [(b,c),(d,[])] a [] (Am [] false false g 28 [k,.fv (.int .i64 1),.fv (.int .i64 0)] j fun s h e f=>Ac [] e f (Ag 3 l h fun t i=>Ac [(e,f),(a,[]),(b,c),(d,[])] i [] (Aac g h t m n s i e f a b c d o p q r)))
def Y7 (a:Hp) (b:IV) (c:Aa) (h i j k l m n:IV):OH :=
 Ag 3 b a fun o d=>Ac [] d [] (Am [] false false c 96 [h,.fv (.int .i64 0),o] a fun p e f g=>Ac [] f g (Ag 3 i e fun q r=>AaJ r f g d c e q j k p b l m n))
def XG (b:IV) (c:Hp) (d e f g h i:AF) (j k:IV) (l:Aa) (m n o p q:IV):OH :=
 AA 1 b fun r=>AB 102775818 (.row [.fv (.int .i64 0),.fv (.int .i64 0),.nils] false) (.ptr (.own 102775818) 0) c fun a s t u=>Ac [(d,e),(f,g),(h,[]),(i,[])] t u (Ah 3 a j s fun v w x=>Ac [] w x (Y7 v k l m n o p a r q))
def Ys (a b c:AF) (d:IV) (e:Aa) (j:Hp) (f k l:IV) (m:AF) (n o p q:IV):OH :=
 Ac [(c,[])] a b (Bg EE 3 d (.fv (.int .i64 2)) fun r=>Am [] false false e 68 [f,k,l,r] j fun g s h i=>Ac [] h i (AA 0 g fun t=>XG g s h i a b m c t n e f o p d q))
def Yg (a:Hp) (c d:IV) (e:Aa) (g h i j:IV):OH :=
 Ag 3 c a fun k b=>Ac [] b [] (Ag 3 d a fun l f=>Ac [(b,[])] f [] (Am [] false false e 42 [l,.fv (.int .i64 1)] a fun m n o p=>Ys o p b g e n h k m f c i d j))
def Z1 (b:Hp) (c:IV) (a:Aa) (e f g h:IV):OH :=
 Ag 3 c b fun i _=>Am [] false false a 42 [i,.fv (.int .i64 0)] b fun j k _ _=>Am [] false false a 14 [j,.fv (.int .i64 1)] k fun l m _ _=>AB 102774787 (.row [.fv (.int .i64 0),.fv (.int .i64 0),.nils] false) (.ptr (.own 102774787) 0) m fun d n _ _=>Ah 3 d l n fun o _ _=>Yg o d c a e f g h
def XB (c d:IV) (e:Hp) (a f:IV):OH :=
 AG c d (.fv (.bool false)) fun g=>Ah 3 a f e fun b _ _=>As true 3 a b fun h=>Ao [h,g] b
def YN (d:Hp) (e f:IV) (a:Aa) (b g h:IV):OH :=
 AE (Aj EE 28 2 [(0,e),(1,f)]) 102781954 d fun i j _ _=>Am [] false false a 30 [.fv (.int .i64 22),i] j fun k l _ _=>AE (Aj EE 28 1 [(0,k)]) 102781956 l fun m n _ _=>Am [] false false a 30 [.fv (.int .i64 23),m] n fun o c _ _=>Ab b true c (fun p=>p g c [] []) fun q r _ _=>XB b q r h o
def YU (c d e f g h i j:AF) (k:Hp) (b l m:IV) (n:Aa) (o p q:IV):OH :=
 Ac [(e,f),(g,h),(i,[]),(j,[])] c d (Ah 3 b l k fun a r s=>Ac [] r s (Ag 3 m a fun t _=>Ag 3 b a fun u _=>YN a t u n o p q))
def Abn (a:Aa) (e:Hp) (f g h i:IV) (j k l m:AF) (n o p:IV):OH :=
 Am [] false false a 68 [f,g,h,i] e fun b q c d=>Ac [] c d (AA 0 b fun r=>AA 1 b fun s=>AB 102780938 (.row [.fv (.int .i64 0),.fv (.int .i64 0),.nils] false) (.ptr (.own 102780938) 0) q fun t u v w=>YU v w c d j k l m u t r n a o s p)
def ZB (b:Hp) (g:IV) (a:AF) (c:Aa) (h i j k l m:IV):OH :=
 Ag 3 g b fun n d=>Ac [(a,[])] d [] (Am [] false false c 42 [n,.fv (.int .i64 1)] b fun o p e f=>Ac [(a,[])] e f (Bg EE 3 h (.fv (.int .i64 2)) fun q=>Abn c p i j o q e f d a k l m))
def Abf (d e f g h i j k:AF) (l:Hp) (a m n o:IV) (p:Aa) (q r s t:IV):OH :=
 Ac [(f,g),(h,i),(j,[]),(k,[])] d e (Ah 3 a m l fun b u v=>Ac [] u v (Ag 3 n b fun w c=>Ac [] c [] (ZB b o c p q r w a s t)))
def Aa9 (a:Aa) (f:Hp) (b g h i:IV) (j k l m:AF) (n o p q:IV):OH :=
 Am [] false false a 68 [b,g,h,i] f fun c r d e=>Ac [] d e (AA 0 c fun s=>AA 1 c fun t=>AB 102779914 (.row [.fv (.int .i64 0),.fv (.int .i64 0),.nils] false) (.ptr (.own 102779914) 0) r fun u v w x=>Abf w x d e j k l m v u s n o a p b t q)
def Aa0 (b:Hp) (c:IV) (a:AF) (d:Aa) (e i j k l:IV):OH :=
 Ag 3 c b fun m f=>Ac [(a,[])] f [] (Am [] false false d 42 [m,.fv (.int .i64 0)] b fun n o g h=>Ac [(a,[])] g h (Bg EE 3 e (.fv (.int .i64 2)) fun p=>Aa9 d o i j n p g h f a k c e l))
def YM (c:Hp) (a d e:IV):OH :=
 Ah 3 a d c fun b _ _=>As true 3 a b fun f=>Ao [f,e] b
def Yi (b c:AF) (a:Hp) (d e:IV) (f:Aa) (g h:IV):OH :=
 Ac [] b c (Ag 3 d a fun i _=>Ag 3 e a fun j _=>AE (Aj EE 28 2 [(0,i),(1,j)]) 102785026 a fun k l _ _=>Am [] false false f 30 [.fv (.int .i64 29),k] l fun m n _ _=>YM n g m h)
def Aaz (a:IV) (c:Hp) (d e f g h i j k l m n:AF) (o:IV) (p:Aa) (q:IV):OH :=
 AA 0 a fun r=>AA 1 a fun s=>AB 102784013 (.row [.fv (.int .i64 0),.fv (.int .i64 0),.nils] false) (.ptr (.own 102784013) 0) c fun b t u v=>Ac [(d,e),(f,g),(h,[]),(i,j),(k,[]),(l,m),(n,[])] u v (Ah 3 b r t fun w x y=>Yi x y w o b p q s)
def W8 (a:Aa) (f:Hp) (g h i j:IV) (k l m n o p q:AF) (r s:IV):OH :=
 Am [] false false a 42 [g,.fv (.int .i64 0)] f fun t u b c=>Ac [] b c (Bg EE 3 h (.fv (.int .i64 2)) fun v=>Am [] false false a 68 [i,j,t,v] u fun w x d e=>Ac [] d e (Aaz w x d e b c k l m n o p q r a s))
def WR (a b c d:AF) (g:Aa) (j:Hp) (k l m n o p:IV):OH :=
 Ac [(b,c),(d,[])] a [] (Am [] false false g 28 [k,.fv (.int .i64 1),.fv (.int .i64 0)] j fun q h e f=>Ac [] e f (Ag 3 l h fun r i=>Ac [(e,f),(a,[]),(b,c),(d,[])] i [] (W8 g h r m n q i e f a b c d o p)))
def AaZ (b:Hp) (a:IV) (c:Aa) (h i j k:IV):OH :=
 Ag 3 a b fun l d=>Ac [] d [] (Am [] false false c 96 [h,.fv (.int .i64 0),l] b fun m e f g=>Ac [] f g (Ag 3 a e fun n o=>WR o f g d c e n i j m a k))
def WF (c:Hp) (d:IV) (e:Aa) (a f:IV):OH :=
 AE (Aj EE 28 1 [(0,d)]) 102787073 c fun g h _ _=>Am [] false false e 30 [.fv (.int .i64 30),g] h fun i j _ _=>Ah 3 a i j fun b _ _=>As true 3 a b fun k=>Ao [k,f] b
def YC (c:Hp) (d e f g h i j k l m:AF) (n:IV) (o:Aa) (p q:IV):OH :=
 AB 102786060 (.row [.fv (.int .i64 0),.fv (.int .i64 0),.nils] false) (.ptr (.own 102786060) 0) c fun a r s t=>Ac [(d,e),(f,g),(h,[]),(i,j),(k,l),(m,[])] s t (Ah 3 a n r fun b u v=>Ac [] u v (Ag 3 a b fun w _=>WF b w o p q))
def YV (e:IV) (a:Aa) (f:Hp) (g h i:IV) (j k l m n o p q:AF) (r:IV):OH :=
 Bg EE 3 e (.fv (.int .i64 1)) fun s=>Am [] false false a 70 [g,h,i,s] f fun b t c d=>Ac [] c d (AA 0 b fun u=>AA 1 b fun v=>YC t c d j k l m n o p q u a r v)
def Xt (a b:AF) (c:Hp) (k:IV) (d e f:AF) (g:Aa) (l m n o:IV):OH :=
 Ac [] a b (Ag 3 k c fun p h=>Ac [(a,b),(d,e),(f,[])] h [] (Am [] false false g 42 [p,.fv (.int .i64 0)] c fun q r i j=>Ac [] i j (YV l g r m n q i j h a b d e f o)))
def ZZ (a:Hp) (f:IV) (b:Aa) (g h i j:IV):OH :=
 Ag 3 f a fun k c=>Ac [] c [] (AE (Aj EE 28 1 [(0,k)]) 102786050 a fun l m d e=>Ac [] d e (Am [] false false b 30 [.fv (.int .i64 18),l] m fun n o p q=>Xt p q o g d e c b h i n j))
def Zk (h:IV) (a:Hp) (b c:IV) (d:Aa) (e f j g:IV):OH :=
 A0 EE 3 h (.fv (.int .i64 3)) fun k=>An k (Ag 3 b a fun l i=>Ac [] i [] (Aa0 a c i d e f l j g)) (A0 EE 3 h (.fv (.int .i64 4)) fun m=>An m (AaZ a b d f c e g) (ZZ a b d c e f g))
def XC (d:IV) (a:Hp) (b:IV) (c:Aa) (e f g h i:IV):OH :=
 A0 EE 3 d (.fv (.int .i64 1)) fun j=>An j (Ag 3 b a fun k _=>Am [] false false c 42 [k,.fv (.int .i64 0)] a fun l m _ _=>Abt c m l b e f g h) (A0 EE 3 d (.fv (.int .i64 2)) fun n=>An n (Z1 a b c e f g h) (Zk d a g b c e f i h))
def AaG (a:IV) (c:Hp) (b:Aa) (d e f g h:IV):OH :=
 Ae 1 a fun k=>Ak k c fun l _=>Am [] false false b 41 [l,.fv (.int .i64 7)] c fun i j _ _=>A0 EE 3 i (.fv (.int .i64 0)) fun m=>An m (WV j d a b e f g h) (XC i j a b e f g h d)
def S98 (a:Aa) (n:Nat) (c d e f:IV) (g:Hp):OH :=
 A4 102760448 d g fun h i _ _=>A4 102760449 e i fun j k _ _=>AB 102760450 (.row [.fv (.int .i64 0),.fv (.int .i64 0),.nils] false) (.ptr (.own 102760450) 0) k fun l m _ _=>Am [] false false a 30 [.fv (.int .i64 15),.nils] m fun o p _ _=>AB 102761473 (.row [.fv (.int .i64 0),.fv (.int .i64 0),.nils] false) (.ptr (.own 102761473) 0) p fun b q _ _=>Ah 3 b o q fun r _ _=>AaG j r a b f c h l
theorem Ai9 (a:Aa) (n:Nat) (b c d e:IV) (f:Hp):AC EE a ft.get n 98 [b,c,d,e] f=S98 a n b c d e f:=by kernel_rfl
def S99 (c:Aa) (n:Nat) (d:Hp):OH :=
 AB 103809024 (.row [.fv (.int .i64 0),.fv (.int .i64 0),.nils] false) (.ptr (.own 103809024) 0) d fun a e _ _=>Am [] false false c 30 [.fv (.int .i64 10),.nils] e fun f g _ _=>Ah 3 a f g fun b _ _=>As true 3 a b fun h=>Ao [h] b
theorem AkV (a:Aa) (n:Nat) (b:Hp):AC EE a ft.get n 99 [] b=S99 a n b:=by kernel_rfl
def Ru (c d:IV) (e:Hp) (a f:IV):OH :=
 AG c d (.fv (.bool false)) fun g=>Ah 3 a f e fun b _ _=>As true 3 a b fun h=>Ao [h,g] b
def RS (d:Hp) (e f g:IV) (a:Aa) (b h i:IV):OH :=
 AE (Aj EE 28 3 [(0,e),(1,f),(2,g)]) 104863747 d fun j k _ _=>Am [] false false a 30 [.fv (.int .i64 7),j] k fun l m _ _=>AE (Aj EE 28 1 [(0,l)]) 104863749 m fun n o _ _=>Am [] false false a 30 [.fv (.int .i64 8),n] o fun p c _ _=>Ab b true c (fun q=>q h c [] []) fun r s _ _=>Ru b r s i p
def RH (c:Hp) (b d e f:IV) (g:Aa) (h i j:IV):OH :=
 Ah 3 b d c fun a k l=>Ac [] k l (Ag 3 b a fun m _=>Ag 3 e a fun n _=>Ag 3 f a fun o _=>RS a m n o g h i j)
def TF (a b:AF) (c:Aa) (f:Hp) (g:IV) (h i j k:AF) (l m n o p:IV):OH :=
 Ac [] a b (Am [] false false c 30 [.fv (.int .i64 6),g] f fun q r d e=>Ac [] d e (AB 104862725 (.row [.fv (.int .i64 0),.fv (.int .i64 0),.nils] false) (.ptr (.own 104862725) 0) r fun s t u v=>Ac [(d,e),(a,b),(h,i),(j,[]),(k,[])] u v (RH t s q l m c n o p)))
def Rm (b:Hp) (g:IV) (a:AF) (c:Aa) (h i j k l m:IV):OH :=
 Ag 3 g b fun n d=>Ac [(a,[])] d [] (Am [] false false c 28 [n,.fv (.int .i64 1),.fv (.int .i64 0)] b fun o p e f=>Ac [(a,[])] e f (AE (Aj EE 28 2 [(0,h),(1,o)]) 104862723 p fun q r s t=>TF s t c r q e f d a i j k l m))
def TY (d e f g h i j k:AF) (l:Hp) (a m n o:IV) (p:Aa) (q r s t:IV):OH :=
 Ac [(f,g),(h,i),(j,[]),(k,[])] d e (Ah 3 a m l fun b u v=>Ac [] u v (Ag 3 n b fun w c=>Ac [] c [] (Rm b o c p w a q r s t)))
def Ro (a:Aa) (e:Hp) (f g h i:IV) (j k l m:AF) (n o p q r:IV):OH :=
 Am [] false false a 70 [f,g,h,i] e fun b s c d=>Ac [] c d (AA 0 b fun t=>AA 1 b fun u=>AB 104861706 (.row [.fv (.int .i64 0),.fv (.int .i64 0),.nils] false) (.ptr (.own 104861706) 0) s fun v w x y=>TY x y c d j k l m w v t n o a p q u r)
def TX (b:Hp) (g:IV) (a:AF) (c:Aa) (h i j k l m n o:IV):OH :=
 Ag 3 g b fun p d=>Ac [(a,[])] d [] (Am [] false false c 42 [p,.fv (.int .i64 2)] b fun q r e f=>Ac [(a,[])] e f (Bg EE 3 h (.fv (.int .i64 2)) fun s=>Ro c r i j q s e f d a k l m n o))
def RB (c:Hp) (a d e:IV):OH :=
 Ah 3 a d c fun b f g=>Ac [] f g (As true 3 a b fun h=>Ao [h,e] b)
def Sk (c d:AF) (e:Aa) (f:Hp) (g a h i:IV):OH :=
 Ac [] c d (Am [] false false e 30 [.fv (.int .i64 5),g] f fun j b k l=>Ac [] k l (Ab a true b (fun m=>m h b [] []) fun n o _ _=>AG a n (.fv (.bool false)) fun p=>RB o i j p))
def RR (a:Aa) (e:Hp) (f g:IV) (h i j k:AF) (l m n:IV):OH :=
 Am [] false false a 30 [.fv (.int .i64 4),f] e fun o b c d=>Ac [] c d (Ag 3 g b fun p q=>Ac [(c,d),(h,i),(j,[]),(k,[])] q [] (AE (Aj EE 28 2 [(0,o),(1,p)]) 104865797 b fun r s t u=>Sk t u a s r l m n))
def SM (a:AF) (b:Hp) (f g:IV) (h:Aa) (i j k l:IV):OH :=
 Ac [] a [] (Ag 3 f b fun m c=>Ac [(a,[])] c [] (AE (Aj EE 28 2 [(0,g),(1,m)]) 104865794 b fun n o d e=>Ac [] d e (RR h o n i d e c a j k l)))
def Tf (c:Hp) (d e f g h i j k l m n:AF) (o p:IV) (q:Aa) (r s t u:IV):OH :=
 AB 104864781 (.row [.fv (.int .i64 0),.fv (.int .i64 0),.nils] false) (.ptr (.own 104864781) 0) c fun a v w x=>Ac [(d,e),(f,g),(h,[]),(i,j),(k,[]),(l,m),(n,[])] w x (Ah 3 a o v fun b y z=>Ac [] y z (Ag 3 p b fun A B=>SM B b a A q r s t u))
def SA (e:IV) (a:Aa) (f:Hp) (g h i:IV) (j k l m n o p q r:AF) (s t u v:IV):OH :=
 Bg EE 3 e (.fv (.int .i64 2)) fun w=>Am [] false false a 70 [g,h,i,w] f fun b x c d=>Ac [] c d (AA 0 b fun y=>AA 1 b fun z=>Tf x c d j k l m n o p q r y s a t u z v)
def Rs (a b:AF) (c:Hp) (l:IV) (d e f g:AF) (h:Aa) (m n o p q r s:IV):OH :=
 Ac [] a b (Ag 3 l c fun t i=>Ac [(a,b),(d,[]),(e,f),(g,[])] i [] (Am [] false false h 42 [t,.fv (.int .i64 2)] c fun u v j k=>Ac [] j k (SA m h v n o u j k i a b d e f g p q r s)))
def RG (a:Aa) (g:Hp) (h i j:IV) (d:AF) (k l m n o p:IV):OH :=
 Am [] false false a 96 [h,.fv (.int .i64 1),i] g fun q e b c=>Ac [] b c (Ag 3 j e fun r f=>Ac [(b,c),(d,[])] f [] (Am [] false false a 28 [r,.fv (.int .i64 1),.fv (.int .i64 0)] e fun s t u v=>Rs u v t k f b c d a l q s m n o p))
def TL (m:IV) (a:Hp) (b d:IV) (e:Aa) (f g c h i j:IV):OH :=
 A0 EE 3 m (.fv (.int .i64 0)) fun n=>An n (Ag 3 b a fun o k=>Ac [] k [] (TX a d k e f g o b c h i j)) (Ag 3 c a fun p l=>Ac [] l [] (RG e a g p b l d f c h i j))
def Ss (e:Hp) (a f b:IV) (c:Aa) (g h i j k l:IV):OH :=
 Ah 3 a f e fun d m n=>Ac [] m n (Ae 1 b fun o=>Ak o d fun p _=>Am [] false false c 41 [p,.fv (.int .i64 3)] d fun q r _ _=>TL q r g b c h i j a k l)
def Sw (a b:AF) (c:IV) (d:Hp) (e f g h:AF) (i:IV) (j:Aa) (k l m n o:IV):OH :=
 Ac [] a b (AA 0 c fun p=>AA 1 c fun q=>AB 104859658 (.row [.fv (.int .i64 0),.fv (.int .i64 0),.nils] false) (.ptr (.own 104859658) 0) d fun r s t u=>Ac [(a,b),(e,f),(g,[]),(h,[])] t u (Ss s r p i j k l m n q o))
def Ta (c a:AF) (b:Aa) (h:Hp) (i d e j k l m n:IV):OH :=
 Ac [(a,[])] c [] (Am [] false false b 42 [i,.fv (.int .i64 1)] h fun o p f g=>Ac [(a,[])] f g (Bg EE 3 d (.fv (.int .i64 2)) fun q=>Am [] false false b 70 [e,j,o,q] p fun r s t u=>Sw t u r s f g c a k b l d e m n))
def TP (e:Hp) (f c:IV) (g:Aa) (h i j k:IV):OH :=
 AB 104858628 (.row [.fv (.int .i64 0),.fv (.int .i64 0),.nils] false) (.ptr (.own 104858628) 0) e fun a l _ _=>Ah 3 a f l fun b _ _=>Ag 3 a b fun m d=>Ac [] d [] (Ag 3 c b fun n o=>Ta o d g b n h i m c j a k)
def S100 (a:Aa) (n:Nat) (b e f g:IV) (h:Hp):OH :=
 A4 104857600 e h fun i j _ _=>A4 104857601 f j fun c k _ _=>AB 104857602 (.row [.fv (.int .i64 0),.fv (.int .i64 0),.nils] false) (.ptr (.own 104857602) 0) k fun l d _ _=>Ag 3 c d fun m _=>Am [] false false a 42 [m,.fv (.int .i64 0)] d fun o p _ _=>Am [] false false a 69 [b,o,.fv (.int .i64 1)] p fun q r _ _=>TP r q c a g b i l
theorem Af1 (a:Aa) (n:Nat) (b c d e:IV) (f:Hp):AC EE a ft.get n 100 [b,c,d,e] f=S100 a n b c d e f:=by kernel_rfl
def SH (b c:AF) (a:Hp) (d e:IV):OH :=
 Ac [] b c (As true 3 d a fun f=>Ao [f,e] a)
def Sn (a:Hp) (b f g c h:IV):OH :=
 Ab b true a (fun i=>i f a [] []) fun j d _ _=>AG b j (.fv (.bool false)) fun e=>Ab e true d (fun k=>k g d [] []) fun l m _ _=>AG e l (.fv (.bool false)) fun n=>Ah 3 c h m fun o p q=>SH p q o c n
def R7 (a b c d e f:AF) (g:Hp) (h i j k:IV) (l:Aa) (m n o p:IV):OH :=
 Ac [(b,[]),(c,[]),(d,e),(f,[])] a [] (AE (Aj EE 28 4 [(0,h),(1,i),(2,j),(3,k)]) 105911301 g fun q r s t=>Ac [] s t (Am [] false false l 30 [.fv (.int .i64 13),q] r fun u v w x=>Ac [] w x (Sn v m n o p u)))
def Q2 (a:Hp) (g:IV) (b c d:AF) (h i j:IV) (k:Aa) (l m n o:IV):OH :=
 Ag 3 g a fun p e=>Ac [(b,c),(d,[])] e [] (Ag 3 h a fun q f=>Ac [(e,[]),(b,c),(d,[])] f [] (Ag 3 i a fun r s=>R7 s f e b c d a j p q r k l m n o))
def UA (f g:AF) (a:Hp) (h:IV) (b:Aa) (i j k l m n o:IV):OH :=
 Ac [] f g (Ag 3 h a fun p c=>Ac [] c [] (Am [] false false b 28 [p,.fv (.int .i64 1),.fv (.int .i64 0)] a fun q r d e=>Ac [] d e (Q2 r i d e c j k q b l m n o)))
def TV (a:IV) (c:Hp) (d e f g h i j k l m n o p q r s t:AF) (u:IV) (v:Aa) (w x y z A:IV):OH :=
 AA 0 a fun B=>AA 1 a fun C=>AB 105910288 (.row [.fv (.int .i64 0),.fv (.int .i64 0),.nils] false) (.ptr (.own 105910288) 0) c fun b D E F=>Ac [(d,e),(f,g),(h,[]),(i,j),(k,[]),(l,m),(n,o),(p,[]),(q,r),(s,t)] E F (Ah 3 b B D fun G H I=>UA H I G u v w b x y z C A)
def Sp (a:Aa) (f:Hp) (g h i j:IV) (k l m n o p q r s t u v w:AF) (x y z A B C:IV):OH :=
 Am [] false false a 42 [g,.fv (.int .i64 2)] f fun D E b c=>Ac [] b c (Bg EE 3 h (.fv (.int .i64 2)) fun F=>Am [] false false a 70 [i,j,D,F] E fun G H d e=>Ac [] d e (TV G H d e b c k l m n o p q r s t u v w x a y z A B C))
def Q5 (a b c d e f g h i j:AF) (m:Aa) (p:Hp) (q r s t u v w x y z:IV):OH :=
 Ac [(b,c),(d,e),(f,[]),(g,h),(i,j)] a [] (Am [] false false m 28 [q,.fv (.int .i64 2),.fv (.int .i64 0)] p fun A n k l=>Ac [] k l (Ag 3 r n fun B o=>Ac [(k,l),(a,[]),(b,c),(d,e),(f,[]),(g,h),(i,j)] o [] (Sp m n B s t A o k l a b c d e f g h i j u v w x y z)))
def Rq (a:Aa) (h:Hp) (i j b:IV) (k l m n o:AF) (p q r s t u v:IV):OH :=
 Am [] false false a 28 [i,.fv (.int .i64 1),.fv (.int .i64 0)] h fun w x c d=>Ac [] c d (Am [] false false a 96 [j,.fv (.int .i64 1),w] x fun y e f g=>Ac [] f g (Ag 3 b e fun z A=>Q5 A f g c d k l m n o a e z p q y b r s t u v))
def UE (a b:AF) (e:Aa) (i:Hp) (j k f l m n o p q r:IV):OH :=
 Ac [] a b (Am [] false false e 96 [j,.fv (.int .i64 1),k] i fun s g c d=>Ac [] c d (Ag 3 f g fun t h=>Ac [(c,d),(a,b)] h [] (Rq e g t s f h c d a b l m n o p q r)))
def TQ (c:Hp) (d e f g h i:AF) (j:IV) (a:Aa) (k l m n o p q r:IV):OH :=
 AB 105909258 (.row [.fv (.int .i64 0),.fv (.int .i64 0),.nils] false) (.ptr (.own 105909258) 0) c fun b s t u=>Ac [(d,e),(f,g),(h,[]),(i,[])] t u (Ah 3 b j s fun v w x=>Ac [] w x (Am [] false false a 99 [] v fun y z A B=>UE A B a z k y l m n b o p q r))
def T8 (a:IV) (b:Aa) (g:Hp) (c h i:IV) (j k l m:AF) (n o p q r:IV):OH :=
 Bg EE 3 a (.fv (.int .i64 2)) fun s=>Am [] false false b 70 [c,h,i,s] g fun d t e f=>Ac [] e f (AA 0 d fun u=>AA 1 d fun v=>TQ t e f j k l m u b c n o a p q v r)
def Q1 (a:AF) (b:Hp) (c:IV) (d:Aa) (h i j k l m n:IV):OH :=
 Ac [] a [] (Ag 3 c b fun o e=>Ac [(a,[])] e [] (Am [] false false d 42 [o,.fv (.int .i64 1)] b fun p q f g=>Ac [(a,[])] f g (T8 h d q i j p f g e a k c l m n)))
def SX (d:Hp) (e f g h i j k:AF) (l a m:IV) (n:Aa) (o p q r:IV):OH :=
 AB 105908234 (.row [.fv (.int .i64 0),.fv (.int .i64 0),.nils] false) (.ptr (.own 105908234) 0) d fun b s t u=>Ac [(e,f),(g,h),(i,[]),(j,k)] t u (Ah 3 b l s fun c v w=>Ac [] v w (Ag 3 a c fun x y=>Q1 y c m n o p x a b q r))
def Uf (a:IV) (b:Aa) (g:Hp) (c h i:IV) (j k l m n:AF) (o p q:IV):OH :=
 Bg EE 3 a (.fv (.int .i64 2)) fun r=>Am [] false false b 70 [c,h,i,r] g fun d s e f=>Ac [] e f (AA 0 d fun t=>AA 1 d fun u=>SX s e f j k l m n t o p b a c u q)
def RM (a b:AF) (c:Hp) (d:IV) (e:Aa) (i j k l m:IV):OH :=
 Ac [] a b (Ag 3 d c fun n f=>Ac [(a,b)] f [] (Am [] false false e 42 [n,.fv (.int .i64 0)] c fun o p g h=>Ac [] g h (Uf i e p j k o g h f a b l d m)))
def Ux (c:Aa) (d:Hp) (e a f:IV):OH :=
 Am [] false false c 30 [.fv (.int .i64 12),e] d fun g h _ _=>Ah 3 a g h fun b _ _=>As true 3 a b fun i=>Ao [i,f] b
def SQ (c d e f g h i j:AF) (k:Hp) (a l:IV) (m:Aa) (n o:IV):OH :=
 Ac [(e,f),(g,h),(i,[]),(j,[])] c d (Ah 3 a l k fun b p q=>Ac [] p q (Ag 3 a b fun r _=>AE (Aj EE 28 1 [(0,r)]) 105916417 b fun s t _ _=>Ux m t s n o))
def R3 (a:Aa) (e:Hp) (f g h i:IV) (j k l m:AF) (n:IV):OH :=
 Am [] false false a 70 [f,g,h,i] e fun b o c d=>Ac [] c d (AA 0 b fun p=>AA 1 b fun q=>AB 105915402 (.row [.fv (.int .i64 0),.fv (.int .i64 0),.nils] false) (.ptr (.own 105915402) 0) o fun r s t u=>SQ t u c d j k l m s r p a n q)
def Ui (b:Hp) (g:IV) (a:AF) (c:Aa) (h i j k:IV):OH :=
 Ag 3 g b fun l d=>Ac [(a,[])] d [] (Am [] false false c 42 [l,.fv (.int .i64 0)] b fun m n e f=>Ac [(a,[])] e f (Bg EE 3 h (.fv (.int .i64 1)) fun o=>R3 c n i j m o e f d a k))
def Rg (a:Aa) (d:Hp) (e b:IV):OH :=
 Am [] false false a 41 [e,.fv (.int .i64 4)] d fun f g _ _=>Am [] false false a 115 [f] g fun h i _ _=>Ah 3 b h i fun c _ _=>As true 3 b c fun j=>Ao [j,.fv (.bool true)] c
def T7 (f:IV) (a:Hp) (g b:IV) (c:Aa) (h i d:IV):OH :=
 An f (Ag 3 g a fun j e=>Ac [] e [] (Ui a b e c h i j d)) (Ae 1 b fun k=>Ak k a fun l _=>Rg c a l d)
def RL (c:Hp) (a d:IV) (e:Aa) (h i j k:IV):OH :=
 Ab a true c (fun l=>Ae 0 d fun m=>l m c [] []) fun n b _ _=>Ab a true b (fun o=>Ak n b fun p q=>o p b q []) fun r f _ _=>Ab a true f (fun s=>Am [] false false e 41 [r,.fv (.int .i64 2)] f s) fun t g _ _=>Ab a true g (fun u=>A0 EE 3 t (.fv (.int .i64 1)) fun v=>u v g [] []) fun w x _ _=>AG a w (.fv (.bool false)) fun y=>T7 y x h d e i j k
def Sz (c d:IV) (e:Hp) (a f:IV):OH :=
 AG c d (.fv (.bool false)) fun g=>Ah 3 a f e fun b h i=>Ac [] h i (As true 3 a b fun j=>Ao [j,g] b)
def RD (c:Hp) (d e:IV) (f g h:AF) (i:Aa) (j a k l:IV):OH :=
 AE (Aj EE 28 2 [(0,d),(1,e)]) 105922566 c fun m n o p=>Ac [(f,g),(h,[])] o p (Am [] false false i 30 [j,m] n fun q b r s=>Ac [] r s (Ab a true b (fun t=>t k b [] []) fun u v _ _=>Sz a u v l q))
def Uy (f:IV) (a:Hp) (g:IV) (b c d:AF) (h:IV) (i:Aa) (j k l:IV):OH :=
 B2 EE 3 (.fv (.int .i64 16)) f fun m=>Ag 3 g a fun n e=>Ac [(b,c),(d,[])] e [] (Ag 3 h a fun o p=>Ac [(e,[]),(b,c),(d,[])] p [] (RD a n o b c d i m j k l))
def Ti (f:IV) (a:Hp) (b:Aa) (g h i j k:IV):OH :=
 Ae 1 f fun l=>Ak l a fun m c=>Ac [] c [] (Am [] false false b 41 [m,.fv (.int .i64 2)] a fun n o d e=>Ac [] d e (Uy n o g d e c h b i j k))
def Tw (b:IV) (c:Hp) (d e f g h i:AF) (j k:IV) (l:Aa) (m n o:IV):OH :=
 AA 1 b fun p=>AB 105921546 (.row [.fv (.int .i64 0),.fv (.int .i64 0),.nils] false) (.ptr (.own 105921546) 0) c fun a q r s=>Ac [(d,e),(f,g),(h,[]),(i,[])] r s (Ah 3 a j q fun t u v=>Ac [] u v (Ti k t l m a n p o))
def S6 (a b c:AF) (h:IV) (d:Aa) (i:Hp) (j k l:IV) (m:AF) (n o p q:IV):OH :=
 Ac [(c,[])] a b (Bg EE 3 h (.fv (.int .i64 1)) fun r=>Am [] false false d 70 [j,k,l,r] i fun e s f g=>Ac [] f g (AA 0 e fun t=>Tw e s f g a b m c t n d o p q))
def So (a:Hp) (f c:IV) (d:Aa) (g h i j k:IV):OH :=
 Ag 3 f a fun l b=>Ac [] b [] (Ag 3 c a fun m e=>Ac [(b,[])] e [] (Am [] false false d 42 [m,.fv (.int .i64 1)] a fun n o p q=>S6 p q b g d o h l n e c i j k))
def Ry (b:IV) (c:Hp) (d e f g h i:AF) (j k l:IV) (m:Aa) (n o p:IV):OH :=
 AA 1 b fun q=>AB 105920522 (.row [.fv (.int .i64 0),.fv (.int .i64 0),.nils] false) (.ptr (.own 105920522) 0) c fun a r s t=>Ac [(d,e),(f,g),(h,[]),(i,[])] s t (Ah 3 a j r fun u v w=>Ac [] v w (So u k l m n o a q p))
def Rc (a b c:AF) (d:IV) (e:Aa) (j:Hp) (f k l:IV) (m:AF) (n o p:IV):OH :=
 Ac [(c,[])] a b (Bg EE 3 d (.fv (.int .i64 1)) fun q=>Am [] false false e 70 [f,k,l,q] j fun g r h i=>Ac [] h i (AA 0 g fun s=>Ry g r h i a b m c s n o e d f p))
def Tq (a:Hp) (c d:IV) (e:Aa) (g h i:IV):OH :=
 Ag 3 c a fun j b=>Ac [] b [] (Ag 3 d a fun k f=>Ac [(b,[])] f [] (Am [] false false e 42 [k,.fv (.int .i64 0)] a fun l m n o=>Rc n o b g e m h j l f c d i))
def SC (c:Aa) (d:Hp) (a:IV):OH :=
 Am [] false false c 30 [.fv (.int .i64 15),.nils] d fun e f _ _=>Ah 3 a e f fun b _ _=>As true 3 a b fun g=>Ao [g,.fv (.bool true)] b
def Sc (b:Hp) (a h:IV) (c:Aa) (i j k l d:IV):OH :=
 Ab a true b (fun m=>Ak h b fun n o=>m n b o []) fun p e _ _=>Ab a true e (fun q=>Am [] false false c 41 [p,.fv (.int .i64 5)] e q) fun r f _ _=>Ab a true f (fun s=>Ko EE 3 r (.fv (.int .i64 1)) fun t=>s t f [] []) fun u g _ _=>AG a u (.fv (.bool false)) fun v=>An v (Tq g i j c k l d) (SC c g d)
def Ts (c:IV) (d:Aa) (e:Hp) (a:IV):OH :=
 Bg EE 3 c (.fv (.int .i64 1)) fun f=>Am [] false false d 60 [f] e fun g h _ _=>Ah 3 a g h fun b _ _=>As true 3 a b fun i=>Ao [i,.fv (.bool true)] b
def Q3 (a:Hp) (b c:IV):OH :=
 As true 3 b a fun d=>Ao [d,c] a
def SD (d e:AF) (a:Hp) (b f c g:IV):OH :=
 Ac [] d e (Ab b true a (fun h=>h f a [] []) fun i j _ _=>AG b i (.fv (.bool false)) fun k=>Ah 3 c g j fun l m n=>Ac [] m n (Q3 l c k))
def Sd (a:Hp) (e:IV) (f b c d:AF) (g:IV) (h:Aa) (i j k l:IV):OH :=
 Ag 3 e a fun m n=>Ac [(f,[]),(b,[]),(c,d)] n [] (AE (Aj EE 28 2 [(0,g),(1,m)]) 105930759 a fun o p q r=>Ac [(b,[]),(c,d)] q r (Am [] false false h 30 [i,o] p fun s t u v=>SD u v t j k l s))
def SF (f g:IV) (a:Hp) (h:IV) (c d:AF) (i:IV) (j:Aa) (k l m:IV):OH :=
 Bh 1 f g fun n=>Ak n a fun o b=>Ac [] b [] (Ag 3 h a fun p e=>Ac [(b,[]),(c,d)] e [] (Sd a i e b c d p j o k l m))
def Rx (d:Hp) (a e f g:IV) (h:Aa) (i j k:IV):OH :=
 Ah 3 a e d fun l m n=>Ac [] m n (AE (Aj EE 51 2 [(0,.fv (.int .i64 3)),(1,.fv (.int .i64 6))]) 105930752 l fun o p b c=>Ac [] b c (Bg EE 3 f (.fv (.int .i64 2)) fun q=>SF o q p g b c a h i j k))
def Td (a b:AF) (c:IV) (d:Hp) (e f g h i j k:AF) (l m:IV) (n:Aa) (o p:IV):OH :=
 Ac [] a b (AA 0 c fun q=>AA 1 c fun r=>AB 105929740 (.row [.fv (.int .i64 0),.fv (.int .i64 0),.nils] false) (.ptr (.own 105929740) 0) d fun s t u v=>Ac [(a,b),(e,f),(g,[]),(h,[]),(i,j),(k,[])] u v (Rx t s q l m n o r p))
def Sv (c a d e f:AF) (b:Aa) (i:Hp) (j k l m n o p q:IV):OH :=
 Ac [(a,[]),(d,e),(f,[])] c [] (Am [] false false b 42 [j,.fv (.int .i64 1)] i fun r s g h=>Ac [(a,[])] g h (Bg EE 3 k (.fv (.int .i64 1)) fun t=>Am [] false false b 70 [l,m,r,t] s fun u v w x=>Td w x u v g h c a d e f n o b p q))
def Ue (d:Aa) (g:Hp) (h i j:IV) (e:AF) (k l m n o p:IV):OH :=
 Am [] false false d 96 [h,.fv (.int .i64 1),i] g fun q a b c=>Ac [] b c (Ag 3 j a fun r f=>Ac [(b,c),(e,[])] f [] (Ag 3 k a fun s t=>Sv t f b c e d a s l q r m n o p))
def Q6 (d e f g h i j k:AF) (l:Hp) (a m:IV) (n:Aa) (o p q r s t u:IV):OH :=
 Ac [(f,g),(h,i),(j,[]),(k,[])] d e (Ah 3 a m l fun b v w=>Ac [] v w (Ag 3 a b fun x c=>Ac [] c [] (Ue n b o x p c q r s a t u)))
def Ud (a:Aa) (f:Hp) (b g h i:IV) (j k l m:AF) (n o p q r:IV):OH :=
 Am [] false false a 70 [b,g,h,i] f fun c s d e=>Ac [] d e (AA 0 c fun t=>AA 1 c fun u=>AB 105928714 (.row [.fv (.int .i64 0),.fv (.int .i64 0),.nils] false) (.ptr (.own 105928714) 0) s fun v w x y=>Q6 x y d e j k l m w v t a b n o p q u r)
def SG (b:Hp) (c:IV) (a:AF) (d:Aa) (e i j k l m:IV):OH :=
 Ag 3 c b fun n f=>Ac [(a,[])] f [] (Am [] false false d 42 [n,.fv (.int .i64 0)] b fun o p g h=>Ac [(a,[])] g h (Bg EE 3 e (.fv (.int .i64 1)) fun q=>Ud d p i j o q g h f a k c e l m))
def SB (a:Hp) (b:IV):OH :=
 As true 3 b a fun c=>Ao [c,.fv (.bool true)] a
def RK (c d:IV) (a:Hp) (b:IV):OH :=
 Bh 3 c d fun e=>Ag 3 e a fun f g=>Ac [] g [] (Ah 3 b f a fun h i j=>Ac [] i j (SB h b))
def Su (d:IV) (a:Hp) (b c e f g h i j k l m n:AF) (o:Aa) (p q:IV):OH :=
 Ae 1 d fun r=>Ak r a fun s t=>Ac [(b,c),(e,f),(g,h),(i,j),(k,l),(m,n)] t [] (Am [] false false o 41 [s,.fv (.int .i64 3)] a fun u v w x=>Ac [(b,c)] w x (RK p u v q))
def Uv (a b:AF) (c:Aa) (h:Hp) (i j k l:IV) (m n o p q r:AF) (s:IV):OH :=
 Ac [] a b (Am [] false false c 30 [.fv (.int .i64 18),i] h fun t u d e=>Ac [] d e (AE (Aj EE 28 3 [(0,j),(1,k),(2,t)]) 105931781 u fun v w f g=>Ac [] f g (Su l w f g d e a b m n o p q r c v s)))
def UF (a:Aa) (f:Hp) (g h:IV) (i j:AF) (k:IV):OH :=
 Am [] false false a 30 [.fv (.int .i64 14),.nils] f fun l m b c=>Ac [] b c (Am [] false false a 30 [.fv (.int .i64 15),.nils] m fun n o d e=>Ac [] d e (AE (Aj EE 28 1 [(0,n)]) 105931779 o fun p q r s=>Uv r s a q p g l h d e b c i j k))
def R4 (i:IV) (a:Hp) (c d:IV) (b:Aa) (j k l e:IV):OH :=
 An i (Ag 3 c a fun m f=>Ac [] f [] (SG a d f b j k m c l e)) (Am [] false false b 99 [] a fun n o g h=>Ac [] g h (UF b o n d g h e))
def R0 (b:Aa) (g:Hp) (h c i j k l:IV):OH :=
 Am [] false false b 41 [h,.fv (.int .i64 4)] g fun d e _ _=>Ko EE 3 c (.fv (.int .i64 0)) fun a=>Ab a true e (fun m=>m d e [] []) fun n f _ _=>Ab a true f (fun o=>Ko EE 3 n (.fv (.int .i64 1)) fun p=>o p f [] []) fun q r _ _=>AG a q (.fv (.bool false)) fun s=>R4 s r i j b c k d l
def QX (f b:IV) (a:Hp) (c:Aa) (d e g h:IV):OH :=
 Ko EE 3 f (.fv (.int .i64 0)) fun i=>An i (Ae 1 b fun j=>Ak j a fun k _=>Ts k c a d) (Ae 0 e fun l=>Ak l a fun m _=>R0 c a m g b e h d)
def Uw (i b:IV) (a:Hp) (c:IV) (e:Aa) (d f g:IV):OH :=
 An i (Ko EE 3 b (.fv (.int .i64 0)) fun h=>Ab h true a (fun j=>Ae 0 c fun k=>j k a [] []) fun l m _ _=>Sc m h l e d c b f g) (Ae 1 d fun n=>Ak n a fun o _=>QX o d a e g c b f)
def SV (a:Hp) (i b c:IV) (d:Aa) (e f g:IV):OH :=
 Ak i a fun h _=>A0 EE 3 h (.fv (.int .i64 10)) fun j=>An j (Ko EE 3 b (.fv (.int .i64 0)) fun k=>RL a k c d e b f g) (A0 EE 3 h (.fv (.int .i64 14)) fun l=>Uw l b a c d e f g)
def Tu (c:Hp) (d j:IV) (a:Aa) (e f g b h:IV):OH :=
 Ab d true c (fun k=>H9 EE 3 j (.fv (.int .i64 2)) fun l=>k l c [] []) fun m i _ _=>AG d m (.fv (.bool false)) fun n=>An n (Am [] false false a 99 [] i fun o p q r=>RM q r p e a f g o b h) (Ae 0 b fun s=>SV i s f e a b g h)
def TA (d:Hp) (a:IV) (e:Aa) (i f j k l m:IV):OH :=
 Ab a true d (fun n=>Am [] false false e 41 [i,.fv (.int .i64 5)] d n) fun o g _ _=>Ab a true g (fun p=>A0 EE 3 o (.fv (.int .i64 4)) fun q=>p q g [] []) fun r h _ _=>AG a r (.fv (.bool false)) fun b=>Ab b true h (fun s=>Ae 0 f fun t=>s t h [] []) fun u c _ _=>Ab b true c (fun v=>Ak u c fun w x=>v w c x []) fun y z _ _=>Tu z b y e j k l f m
def S101 (f:Aa) (n:Nat) (g h i c:IV) (j:Hp):OH :=
 A4 105906176 h j fun k l _ _=>A4 105906177 i l fun d m _ _=>AB 105906178 (.row [.fv (.int .i64 0),.fv (.int .i64 0),.nils] false) (.ptr (.own 105906178) 0) m fun o e _ _=>Ko EE 3 c (.fv (.int .i64 0)) fun a=>Ab a true e (fun p=>Ae 0 d fun q=>p q e [] []) fun r b _ _=>Ab a true b (fun s=>Ak r b fun t u=>s t b u []) fun v w _ _=>TA w a f v k d c g o
theorem AgD (a:Aa) (n:Nat) (b c d e:IV) (f:Hp):AC EE a ft.get n 101 [b,c,d,e] f=S101 a n b c d e f:=by kernel_rfl
def PA (b c:IV) (a:Hp) (d e:IV):OH :=
 AG b (.fv (.bool true)) c fun f=>An f (Ao [.fv (.int .i64 (-1))] a) (ixA 31 1 d e fun g=>Ak g a fun h _=>Ao [h] a)
def Ace (q:Aa) (n:Nat) (a:IV) (f:Hp):OH :=
 AE (KV EE 136 [(0,.fv (.int .i64 (-1))),(1,.fv (.int .i64 0)),(2,.fv (.int .i64 0)),(3,.fv (.int .i64 2)),(4,.fv (.int .i64 2)),(5,.fv (.int .i64 2)),(6,.fv (.int .i64 2)),(7,.fv (.int .i64 3)),(8,.fv (.int .i64 1)),(9,.fv (.int .i64 1)),(10,.fv (.int .i64 0)),(11,.fv (.int .i64 0)),(12,.fv (.int .i64 1)),(13,.fv (.int .i64 4)),(14,.fv (.int .i64 0)),(15,.fv (.int .i64 0)),(16,.fv (.int .i64 2)),(17,.fv (.int .i64 2)),(18,.fv (.int .i64 1)),(19,.fv (.int .i64 1)),(20,.fv (.int .i64 2)),(21,.fv (.int .i64 2)),(22,.fv (.int .i64 2)),(23,.fv (.int .i64 1)),(24,.fv (.int .i64 1)),(25,.fv (.int .i64 0)),(26,.fv (.int .i64 2)),(27,.fv (.int .i64 3)),(28,.fv (.int .i64 2)),(29,.fv (.int .i64 2)),(30,.fv (.int .i64 1))]) 106955776 f fun g h _ _=>AB 106955777 (.row [.fv (.int .i64 0),.fv (.int .i64 0),.fv (.int .i64 0),.fv (.int .i64 0),.fv (.int .i64 0),.fv (.int .i64 0),.fv (.int .i64 0),.fv (.int .i64 0),.fv (.int .i64 0),.fv (.int .i64 0),.fv (.int .i64 0),.fv (.int .i64 0),.fv (.int .i64 0),.fv (.int .i64 0),.fv (.int .i64 0),.fv (.int .i64 0),.fv (.int .i64 0),.fv (.int .i64 0),.fv (.int .i64 0),.fv (.int .i64 0),.fv (.int .i64 0),.fv (.int .i64 0),.fv (.int .i64 0),.fv (.int .i64 0),.fv (.int .i64 0),.fv (.int .i64 0),.fv (.int .i64 0),.fv (.int .i64 0),.fv (.int .i64 0),.fv (.int .i64 0),.fv (.int .i64 0)] false) (.ptr (.own 106955777) 0) h fun c i _ _=>Ah 31 c g i fun d _ _=>H4 EE 123 a (.fv (.int .i64 0)) fun b=>Ab b false d (fun j=>j a d [] []) fun k e _ _=>Ab b false e (fun l=>geS EE 3 k (.fv (.int .i64 31)) fun m=>l m e [] []) fun o p _ _=>PA b o p c a
theorem Ag1 (a:Aa) (n:Nat) (b:IV) (c:Hp):AC EE a ft.get n 102 [b] c=Ace a n b c:=by kernel_rfl
def AbG (a:Hp) (b c:IV):OH :=
 Ab b true a (fun d=>leS EE 3 c (.fv (.int .i64 3000)) fun e=>d e a [] []) fun f g _ _=>AG b f (.fv (.bool false)) fun h=>Ao [h] g
def Aay (b:IV) (c:Hp):OH :=
 geS EE 3 b (.fv (.int .i64 0)) fun a=>Ab a true c (fun e=>e b c [] []) fun f d _ _=>Ab a true d (fun g=>leS EE 3 f (.fv (.int .i64 2)) fun h=>g h d [] []) fun i j _ _=>AG a i (.fv (.bool false)) fun k=>Ao [k] j
def Xs (a:Hp) (b c:IV):OH :=
 Ab b true a (fun d=>leS EE 3 c (.fv (.int .i64 4)) fun e=>d e a [] []) fun f g _ _=>AG b f (.fv (.bool false)) fun h=>Ao [h] g
def ZG (a:IV) (b:Hp):OH :=
 A0 EE 3 a (.fv (.int .i64 0)) fun c=>Ao [c] b
def X3 (c b:IV) (a:Hp):OH :=
 A0 EE 3 c (.fv (.int .i64 26)) fun e=>An e (geS EE 3 b (.fv (.int .i64 0)) fun d=>Ab d true a (fun f=>f b a [] []) fun g h _ _=>Xs h d g) (A0 EE 3 c (.fv (.int .i64 25)) fun i=>An i (Ao [.fv (.bool true)] a) (ZG b a))
def S103 (j:Aa) (n:Nat) (c a:IV) (b:Hp):OH :=
 A0 EE 3 c (.fv (.int .i64 1)) fun e=>An e (geS EE 3 a (.fv (.int .i64 0)) fun d=>Ab d true b (fun f=>f a b [] []) fun g h _ _=>AbG h d g) (A0 EE 3 c (.fv (.int .i64 2)) fun i=>An i (Aay a b) (X3 c a b))
theorem Ahn (a:Aa) (n:Nat) (b c:IV) (d:Hp):AC EE a ft.get n 103 [b,c] d=S103 a n b c d:=by kernel_rfl
def KE (a:Hp) (b d:IV) (e:Aa) (f:IV):OH :=
 Ab b true a (fun g=>Ak d a fun h i=>g h a i []) fun j c _ _=>Ab b true c (fun k=>Am [] false false e 116 [f,j,.fv (.func (.func 104) [] [])] c k) fun l m _ _=>AG b l (.fv (.bool false)) fun n=>Ao [n] m
def KA (c:Hp) (d g h i j:IV) (k:Aa):OH :=
 Ab d true c (fun l=>A0 EE 3 g h fun m=>l m c [] []) fun n e _ _=>AG d n (.fv (.bool false)) fun a=>Ab a true e (fun o=>Ae 2 i fun p=>o p e [] []) fun q b _ _=>Ab a true b (fun r=>Ak q b fun s t=>r s b t []) fun u f _ _=>Ab a true f (fun v=>Ae 2 j fun w=>v w f [] []) fun x y _ _=>KE y a x k u
def Lh (h i:IV) (d:Hp) (e f:IV) (j:Aa):OH :=
 A0 EE 3 h i fun a=>Ab a true d (fun k=>Ae 1 e fun l=>k l d [] []) fun m b _ _=>Ab a true b (fun n=>Ak m b fun o p=>n o b p []) fun q g _ _=>Ab a true g (fun r=>Ae 1 f fun s=>r s g [] []) fun t c _ _=>Ab a true c (fun u=>Ak t c fun v w=>u v c w []) fun x y _ _=>KA y a q x e f j
def UY (d:Aa) (n:Nat) (e f:IV) (g:Hp):OH :=
 A4 109051904 e g fun b h _ _=>A4 109051905 f h fun c a _ _=>Ae 0 b fun i=>Ak i a fun j _=>Ae 0 c fun k=>Ak k a fun l _=>Lh j l a b c d
theorem Ahj (a:Aa) (n:Nat) (b c:IV) (d:Hp):AC EE a ft.get n 104 [b,c] d=UY a n b c d:=by kernel_rfl
def PF (a:Hp) (d b e:IV):OH :=
 Ag 3 d a fun f _=>Ah 3 b f a fun c _ _=>As true 3 b c fun g=>Ao [g,e] c
def QU (a:Aa) (b:Hp) (c:IV) (d:IV→Hp→OH):OH :=
 Am [] false false a 49 [c] b fun e f _ _=>d e f
def Ack (e:Aa) (n:Nat) (f b:IV) (g:Hp):OH :=
 A4 110100480 f g fun c h _ _=>AB 110100481 (.row [.fv (.int .i64 0),.fv (.int .i64 0),.nils] false) (.ptr (.own 110100481) 0) h fun i a _ _=>(fun (d:IV→Hp→OH)=>A0 EE 35 b (.fv (.int .i64 0)) fun j=>An j (Ag 3 c a fun k _=>QU e a k d) (d b a)) fun l m=>PF m c i l
theorem Ag8 (a:Aa) (n:Nat) (b c:IV) (d:Hp):AC EE a ft.get n 105 [b,c] d=Ack a n b c d:=by kernel_rfl
def AdB (g:Aa) (n:Nat) (a:IV) (b:Hp):OH :=
 BV a fun c=>BV a fun d=>AE (Ij EE 78 a none (some c) (some d)) 111150085 b fun e f _ _=>Ao [e] f
theorem AgW (a:Aa) (n:Nat) (b:IV) (c:Hp):AC EE a ft.get n 106 [b] c=AdB a n b c:=by kernel_rfl
def AfE (h:Aa) (n:Nat) (a:IV) (b:Hp):OH :=
 A0 EE 78 a .nils fun c=>An c (Ao [.nils] b) (AE (Aj EE 78 0 []) 112200704 b fun d e _ _=>AE (AM EE 112200706 false .append [78,78] [d,a]) 112200706 e fun f g _ _=>Ao [f] g)
theorem Ah6 (a:Aa) (n:Nat) (b:IV) (c:Hp):AC EE a ft.get n 107 [b] c=AfE a n b c:=by kernel_rfl
def KT (a:Hp) (b c d:IV):OH :=
 As true 3 b a fun e=>Ao [c,e,d] a
def KG (d:Hp) (a b e:IV):OH :=
 BW [.fv (.int .i64 0),.fv (.int .i64 0),.nils] [] fun f=>BW [.fv (.int .i64 0),.fv (.int .i64 0),.nils] [] fun g=>Ah 3 a f d fun h _ _=>Ah 3 b g h fun c _ _=>As true 3 a c fun i=>KT c b i e
def K5 (d:Hp) (b e c:IV):OH :=
 BW [.fv (.int .i64 0),.fv (.int .i64 0),.nils] [] fun f=>Ah 3 b e d fun g _ _=>Ah 3 c f g fun a _ _=>As true 3 b a fun h=>As true 3 c a fun i=>Ao [h,i,.fv (.int .i64 12)] a
def KK (a:Hp) (b c:IV):OH :=
 As true 3 b a fun d=>As true 3 c a fun e=>Ao [d,e,.fv (.int .i64 0)] a
def K9 (a d e:AF) (f:Hp) (b g:IV) (h:AF) (c i:IV):OH :=
 Ac [(d,[]),(e,[])] a [] (Ah 3 b g f fun j k l=>Ac [(a,[]),(h,[])] k l (Ah 3 c i j fun m n o=>Ac [] n o (KK m b c)))
def KB (e:IV) (a:Hp) (b c:AF) (f g h:IV):OH :=
 Ae 2 e fun i=>Ak i a fun j d=>Ac [(b,[]),(c,[])] d [] (Bh 3 j (.fv (.int .i64 1)) fun k=>Ag 3 k a fun l m=>K9 m b c a f g d h l)
def KC (a:Hp) (d e f g:IV):OH :=
 Ak d a fun h b=>Ac [] b [] (Bh 3 h (.fv (.int .i64 0)) fun i=>Ag 3 i a fun j c=>Ac [] c [] (KB e a c b f j g))
def KP (a:IV) (b:Hp) (e c d:IV):OH :=
 Ae 0 a fun f=>Ak f b fun g _=>H9 EE 3 g e fun h=>An h (BW [.fv (.int .i64 0),.fv (.int .i64 0),.nils] [] fun i=>K5 b c i d) (Ae 2 a fun j=>KC b j a c d)
def KY (f:IV) (g:Hp) (h a b i:IV):OH :=
 AA 1 f fun c=>AB 113247238 (.row [.fv (.int .i64 0),.fv (.int .i64 0),.nils] false) (.ptr (.own 113247238) 0) g fun d j _ _=>Ah 3 d h j fun e _ _=>H9 EE 35 c (.fv (.int .i64 0)) fun k=>An k (KG e a b c) (KP d e i a b)
def V8 (c:Aa) (n:Nat) (d e f:IV) (g:Hp):OH :=
 A4 113246208 e g fun h i _ _=>AB 113246209 (.row [.fv (.int .i64 0),.fv (.int .i64 0),.nils] false) (.ptr (.own 113246209) 0) i fun j k _ _=>AB 113246210 (.row [.fv (.int .i64 0),.fv (.int .i64 0),.nils] false) (.ptr (.own 113246210) 0) k fun l a _ _=>Ag 3 h a fun m _=>Am [] false false c 53 [d,m] a fun b o _ _=>AA 0 b fun p=>KY b o p j l f
theorem Agk (a:Aa) (n:Nat) (b c d:IV) (e:Hp):AC EE a ft.get n 108 [b,c,d] e=V8 a n b c d e:=by kernel_rfl
def Acg (j:Aa) (n:Nat) (a b:IV) (c:Hp):OH :=
 AE (Aj EE 129 0 []) 114295808 c fun d e _ _=>AE (AM EE 114295810 false .append [129,129] [d,a]) 114295810 e fun f g _ _=>AE (AM EE 114295812 false .append [129,129] [f,b]) 114295812 g fun h i _ _=>Ao [h] i
theorem Ah9 (a:Aa) (n:Nat) (b c:IV) (d:Hp):AC EE a ft.get n 109 [b,c] d=Acg a n b c d:=by kernel_rfl
def RZ (a b:AF) (c:Hp) (d:IV):OH :=
 Ac [] a b (Ao [d] c)
def Rp (c:Hp) (d:IV) (e a:AF) (b:Aa) (f g h:IV):OH :=
 AE (Aj EE 129 1 [(0,d)]) 115349519 c fun i j k l=>Ac [(e,[]),(a,[])] k l (Am [] false false b 109 [f,i] j fun m n o p=>Ac [(a,[])] o p (Am [true,false,false] false false b 82 [g,h,m] n fun q r s t=>RZ s t r q))
def TM (a:Hp) (d:IV) (b c:AF) (e:Aa) (f g h:IV):OH :=
 Ak d a fun i j=>Ac [(b,[]),(c,[])] j [] (Bh 1 i (.fv (.int .i64 1)) fun k=>Ak k a fun l m=>Ac [(b,[]),(c,[])] m [] (Rp a l b c e f g h))
def TD (d:IV) (a:Hp) (b:AF) (e:IV) (f:Aa) (g h:IV):OH :=
 Ae 3 d fun i=>Ak i a fun j c=>Ac [(b,[])] c [] (AU e fun k=>Ae 2 k fun l=>TM a l c b f j g h)
def Sa (a:IV) (b:Hp) (d:IV) (e:Aa) (f:IV):OH :=
 AU a fun g=>Ae 4 g fun h=>Ag 3 h b fun i c=>Ac [] c [] (AU a fun j=>TD j b c d e f i)
def Uk (b:IV) (a:Hp) (c:IV) (d:Aa) (e:IV):OH :=
 AU b fun f=>Ae 2 f fun g=>Ak g a fun h _=>Bh 1 h (.fv (.int .i64 1)) fun i=>Ak i a fun j _=>Sa j a c d e
def SW (b:IV) (a:Hp) (c:Aa) (d:IV):OH :=
 AU b fun e=>Ae 2 e fun f=>Ak f a fun g _=>Bh 1 g (.fv (.int .i64 0)) fun h=>Ak h a fun i _=>Uk i a b c d
def Sg (b c:IV) (a:Hp):OH :=
 Bh 1 b c fun d=>Ak d a fun e f=>Ac [] f [] (Ao [e] a)
def UB (b:IV) (a:Hp) (c d e:AF) (f:IV):OH :=
 Ae 0 b fun g=>Ak g a fun h i=>Ac [(c,[]),(d,[]),(e,[])] i [] (B2 EE 3 (.fv (.int .i64 1)) h fun j=>Bg EE 3 j (.fv (.int .i64 8)) fun k=>Sg f k a)
def Rr (c:IV) (a:Hp) (d:IV) (e f:AF):OH :=
 AU c fun g=>Ae 2 g fun h=>Ak h a fun i b=>Ac [] b [] (AU d fun j=>UB j a b e f i)
def T4 (a:Hp) (d e:IV):OH :=
 Ak d a fun f b=>Ac [] b [] (Bh 1 f (.fv (.int .i64 0)) fun g=>Ak g a fun h c=>Ac [] c [] (Rr h a e c b))
def TJ (c:Aa) (d:Hp) (e a:IV) (f:Hp→OH):OH :=
 Am [true] false false c 117 [e] d fun g b _ _=>An g (AU a fun h=>Ae 2 h fun i=>T4 b i a) (f b)
def Ra (b:IV) (a:Hp):OH :=
 AU b fun c=>Ae 2 c fun d=>Ak d a fun e _=>Bh 1 e (.fv (.int .i64 0)) fun f=>Ak f a fun g _=>Ao [g] a
def QW (b:IV) (a:Hp):OH :=
 AU b fun c=>Ae 2 c fun d=>Ak d a fun e _=>Bh 1 e (.fv (.int .i64 0)) fun f=>Ak f a fun g _=>Ra g a
def Ri (a:Hp) (b:IV):OH :=
 Ak b a fun c _=>Bh 1 c (.fv (.int .i64 1)) fun d=>Ak d a fun e _=>Ao [e] a
def RJ (b c:IV) (a:Hp) (d:Hp→OH):OH :=
 An b (AU c fun e=>Ae 2 e fun f=>Ri a f) (d a)
def S7 (c d e a:AF) (b:Aa) (f:Hp) (g h i j:IV):OH :=
 Ac [(e,[]),(a,[])] c d (Am [] false false b 109 [g,h] f fun k l m n=>Ac [(a,[])] m n (Am [true,false,false] false false b 82 [i,j,k] l fun o p q r=>Ac [] q r (Ao [o] p)))
def Ug (d:IV) (a:Hp) (b:AF) (e f:IV) (g:Aa) (h i:IV):OH :=
 AU d fun j=>Ae 3 j fun k=>Ak k a fun l c=>Ac [(b,[])] c [] (AE (Aj EE 129 2 [(0,e),(1,f)]) 115365899 a fun m n o p=>S7 o p c b g n l m h i)
def R1 (a:Hp) (d e f:IV) (g:Aa) (h:IV):OH :=
 Ak d a fun b _=>AU b fun i=>Ae 4 i fun j=>Ag 3 j a fun k c=>Ac [] c [] (Ug b a c e f g h k)
def TB (b c:AF) (d:IV) (a:Hp) (e f:IV) (g:Aa) (h:IV):OH :=
 Ac [] b c (AU d fun i=>Ae 2 i fun j=>Ak j a fun k _=>Bh 1 k (.fv (.int .i64 2)) fun l=>R1 a l e f g h)
def RN (c d:AF) (e:IV) (f:Hp) (a:Aa) (b g h:IV):OH :=
 Ac [] c d (BW [.fv (.int .i64 0),.fv (.int .i64 0),.nils,.nils,.fv (.int .i64 0),.fv (.int .i64 0),.nils] [(0,1,.fv (.int .i64 13)),(2,1,e)] fun i=>A4 115363862 i f fun j k l m=>Ac [] l m (Am [true,false] false false a 110 [b,j] k fun n o p q=>TB p q g o h n a b))
def Ua (g a b c d:AF) (h:IV) (e:Hp) (i j f:IV) (k:Aa) (l m:IV):OH :=
 Ac [(a,[]),(b,[]),(c,[]),(d,[])] g [] (Bh 1 h (.fv (.int .i64 2)) fun n=>Ak n e fun o p=>Ac [(a,[]),(b,[]),(c,[]),(d,[])] p [] (AE (Aj EE 129 4 [(0,i),(1,j),(2,o),(3,f)]) 115363860 e fun q r s t=>RN s t q r k l m f))
def RE (a:Hp) (f:IV) (b c:AF) (d:IV) (g:AF) (h i:IV) (j:Aa) (k:IV):OH :=
 Ak f a fun l e=>Ac [(b,[]),(c,[])] e [] (AU d fun m=>Ae 2 m fun n=>Ak n a fun o p=>Ua p e g b c o a h l i j k d)
def Ut (a:IV) (b:Hp) (c d:AF) (f g:IV) (h:Aa) (i:IV):OH :=
 AU a fun j=>Ae 2 j fun k=>Ak k b fun l e=>Ac [(c,[]),(d,[])] e [] (Bh 1 l (.fv (.int .i64 1)) fun m=>RE b m c d a e f g h i)
def S9 (a:Hp) (d e f:IV) (g:Aa) (h:IV):OH :=
 Ak d a fun i b=>Ac [] b [] (Bh 1 i (.fv (.int .i64 0)) fun j=>Ak j a fun k c=>Ac [] c [] (Ut e a c b k f g h))
def RP (a:Hp) (c b:IV) (d:Aa) (e:IV):OH :=
 Ak c a fun f _=>Bh 1 f (.fv (.int .i64 0)) fun g=>Ak g a fun h _=>AU b fun i=>Ae 2 i fun j=>S9 a j b h d e
def Rh (a:Hp) (b c:IV) (d:Aa) (e:IV):OH :=
 Ak b a fun f _=>Bh 1 f (.fv (.int .i64 3)) fun g=>Ak g a fun h _=>AU h fun i=>Ae 2 i fun j=>RP a j c d e
def Te (a:Aa) (e:Hp) (b c:IV) (f:Hp→OH):OH :=
 Am [true] false false a 117 [b] e fun g d _ _=>An g (AU c fun h=>Ae 2 h fun i=>Rh d i c a b) (f d)
def Uc (c:Hp) (a g:IV) (h:Aa) (i j:IV) (d:Hp→OH):OH :=
 Ab a true c (fun k=>Ae 0 g fun l=>k l c [] []) fun m b _ _=>Ab a true b (fun n=>Ak m b fun o p=>n o b p []) fun q e _ _=>Ab a true e (fun r=>A0 EE 3 q (.fv (.int .i64 12)) fun s=>r s e [] []) fun t f _ _=>AG a t (.fv (.bool false)) fun u=>An u (Te h f i j d) (d f)
def Re (d:Hp) (a g:IV) (h:Aa) (i j:IV) (k:Hp→OH):OH :=
 Ab a true d (fun l=>Ae 2 g fun m=>l m d [] []) fun n b _ _=>Ab a true b (fun o=>Ak n b fun p q=>o p b q []) fun r e _ _=>Ab a true e (fun s=>Bh 1 r (.fv (.int .i64 3)) fun t=>s t e [] []) fun u c _ _=>Ab a true c (fun v=>Ak u c fun w x=>v w c x []) fun y f _ _=>Ab a true f (fun z=>AU y fun A=>z A f [] []) fun B C _ _=>Uc C a B h i j k
def RU (e:IV) (a:Hp) (c:IV) (f:Aa) (g:IV) (h:Hp→OH):OH :=
 Ae 0 e fun i=>Ak i a fun j _=>A0 EE 3 j (.fv (.int .i64 13)) fun b=>Ab b true a (fun k=>k c a [] []) fun l d _ _=>Ab b true d (fun m=>AU l fun n=>m n d [] []) fun o p _ _=>Re p b o f g c h
def TN (a:Hp) (b i:IV) (d:Aa) (e c:IV) (f:Hp→OH):OH :=
 Ab b true a (fun j=>Ak i a fun k l=>j k a l []) fun m g _ _=>Ab b true g (fun n=>A0 EE 3 m (.fv (.int .i64 11)) fun o=>n o g [] []) fun p h _ _=>AG b p (.fv (.bool false)) fun q=>An q (Am [true] false false d 117 [e] h fun r s _ _=>RJ r c s f) (AU c fun t=>RU t h c d e f)
def To (b:Hp) (a g:IV) (h:Aa) (i j:IV) (k:Hp→OH):OH :=
 Ab a true b (fun l=>Ak g b fun m n=>l m b n []) fun o d _ _=>Ab a true d (fun p=>Bh 1 o (.fv (.int .i64 3)) fun q=>p q d [] []) fun r c _ _=>Ab a true c (fun s=>Ak r c fun t u=>s t c u []) fun v e _ _=>Ab a true e (fun w=>AU v fun x=>w x e [] []) fun y f _ _=>Ab a true f (fun z=>Ae 0 y fun A=>z A f [] []) fun B C _ _=>TN C a B h i j k
def Rz (b:Hp) (f c:IV) (g:Aa) (h:IV) (i:Hp→OH):OH :=
 Ak f b fun j _=>A0 EE 3 j (.fv (.int .i64 13)) fun a=>Ab a true b (fun k=>k c b [] []) fun l d _ _=>Ab a true d (fun m=>AU l fun n=>m n d [] []) fun o e _ _=>Ab a true e (fun p=>Ae 2 o fun q=>p q e [] []) fun r s _ _=>To s a r g h c i
def R8 (g:IV) (b:Aa) (c:Hp) (d a:IV) (e:Hp→OH):OH :=
 An g (Am [true] false false b 117 [d] c fun h f _ _=>An h (QW a f) (e f)) (AU a fun i=>Ae 0 i fun j=>Rz c j a b d e)
def S4 (a:Hp) (b d:IV) (e:IV→Hp→OH):OH :=
 Ab b true a (fun f=>Ak d a fun g h=>f g a h []) fun i c _ _=>Ab b true c (fun j=>A0 EE 3 i (.fv (.int .i64 30)) fun k=>j k c [] []) fun l m _ _=>AG b l (.fv (.bool false)) fun n=>e n m
def RY (b:Hp) (a g:IV) (h:IV→Hp→OH):OH :=
 Ab a true b (fun i=>Ak g b fun j k=>i j b k []) fun l d _ _=>Ab a true d (fun m=>Bh 1 l (.fv (.int .i64 0)) fun n=>m n d [] []) fun o c _ _=>Ab a true c (fun p=>Ak o c fun q r=>p q c r []) fun s e _ _=>Ab a true e (fun t=>AU s fun u=>t u e [] []) fun v f _ _=>Ab a true f (fun w=>Ae 0 v fun x=>w x f [] []) fun y z _ _=>S4 z a y h
def UD (b:Hp) (e f:IV) (g:IV→Hp→OH):OH :=
 Ak e b fun h _=>A0 EE 3 h (.fv (.int .i64 19)) fun a=>Ab a true b (fun i=>i f b [] []) fun j c _ _=>Ab a true c (fun k=>AU j fun l=>k l c [] []) fun m d _ _=>Ab a true d (fun n=>Ae 2 m fun o=>n o d [] []) fun p q _ _=>RY q a p g
def Sr (e f:IV) (a:IV→Hp→OH) (b:Hp) (c:IV):OH :=
 AG e f (.fv (.bool false)) fun d=>An d (a d b) (AU c fun g=>Ae 0 g fun h=>UD b h c a)
def Q4 (b:Hp) (a g:IV) (h:IV→Hp→OH) (i:IV):OH :=
 Ab a true b (fun j=>Ak g b fun k l=>j k b l []) fun m d _ _=>Ab a true d (fun n=>AU m fun o=>n o d [] []) fun p e _ _=>Ab a true e (fun q=>Ae 0 p fun r=>q r e [] []) fun s c _ _=>Ab a true c (fun t=>Ak s c fun u v=>t u c v []) fun w f _ _=>Ab a true f (fun x=>A0 EE 3 w (.fv (.int .i64 19)) fun y=>x y f [] []) fun z A _ _=>Sr a z h A i
def Tk (c:Hp) (a d:IV) (h:IV→Hp→OH):OH :=
 Ab a true c (fun i=>i d c [] []) fun j e _ _=>Ab a true e (fun k=>AU j fun l=>k l e [] []) fun m f _ _=>Ab a true f (fun n=>Ae 2 m fun o=>n o f [] []) fun p b _ _=>Ab a true b (fun q=>Ak p b fun r s=>q r b s []) fun t g _ _=>Ab a true g (fun u=>Bh 1 t (.fv (.int .i64 0)) fun v=>u v g [] []) fun w x _ _=>Q4 x a w h d
def Up (c:Aa) (d a:IV) (e:Hp→OH) (b:Hp):OH :=
 (fun (f:IV→Hp→OH)=>AU a fun g=>Ae 0 g fun h=>Ak h b fun i _=>A0 EE 3 i (.fv (.int .i64 30)) fun j=>Tk b j a f) fun k l=>R8 k c l d a e
def SZ (c:Hp) (a j:IV) (d:Aa) (e f:IV) (g:Hp→OH):OH :=
 Ab a true c (fun k=>Ae 0 j fun l=>k l c [] []) fun m b _ _=>Ab a true b (fun n=>Ak m b fun o p=>n o b p []) fun q h _ _=>Ab a true h (fun r=>A0 EE 3 q (.fv (.int .i64 7)) fun s=>r s h [] []) fun t i _ _=>AG a t (.fv (.bool false)) fun u=>An u (TJ d i e f g) (Up d e f g i)
def Si (d:Hp) (a g:IV) (h:Aa) (i j:IV) (k:Hp→OH):OH :=
 Ab a true d (fun l=>Ae 2 g fun m=>l m d [] []) fun n b _ _=>Ab a true b (fun o=>Ak n b fun p q=>o p b q []) fun r e _ _=>Ab a true e (fun s=>Bh 1 r (.fv (.int .i64 0)) fun t=>s t e [] []) fun u c _ _=>Ab a true c (fun v=>Ak u c fun w x=>v w c x []) fun y f _ _=>Ab a true f (fun z=>AU y fun A=>z A f [] []) fun B C _ _=>SZ C a B h i j k
def Q7 (a:Hp) (b h d:IV) (i:Aa) (j:IV) (k:Hp→OH):OH :=
 Ab b false a (fun l=>Ak h a fun m n=>l m a n []) fun o e _ _=>Ab b false e (fun p=>A0 EE 3 o (.fv (.int .i64 9)) fun q=>p q e [] []) fun r f _ _=>AG b (.fv (.bool true)) r fun c=>Ab c true f (fun s=>s d f [] []) fun t g _ _=>Ab c true g (fun u=>AU t fun v=>u v g [] []) fun w x _ _=>Si x c w i j d k
def TW (b:Hp) (f c:IV) (g:Aa) (h:IV) (i:Hp→OH):OH :=
 Ak f b fun j _=>A0 EE 3 j (.fv (.int .i64 8)) fun a=>Ab a false b (fun k=>k c b [] []) fun l d _ _=>Ab a false d (fun m=>AU l fun n=>m n d [] []) fun o e _ _=>Ab a false e (fun p=>Ae 0 o fun q=>p q e [] []) fun r s _ _=>Q7 s a r c g h i
def TT (g:IV) (a:Aa) (d:Hp) (b c:IV) (e:Hp→OH):OH :=
 An g (Am [true] false false a 117 [b] d fun h f _ _=>An h (SW c f a b) (e f)) (AU c fun i=>Ae 0 i fun j=>TW d j c a b e)
def ST (c:Hp) (a f:IV) (g:Aa) (h i:IV) (j:Hp→OH):OH :=
 Ab a true c (fun k=>AU f fun l=>k l c [] []) fun m d _ _=>Ab a true d (fun n=>Ae 0 m fun o=>n o d [] []) fun p b _ _=>Ab a true b (fun q=>Ak p b fun r s=>q r b s []) fun t e _ _=>Ab a true e (fun u=>A0 EE 3 t (.fv (.int .i64 4)) fun v=>u v e [] []) fun w x _ _=>AG a w (.fv (.bool false)) fun y=>TT y g x h i j
def TE (d:Hp) (a g:IV) (h:Aa) (i j:IV) (k:Hp→OH):OH :=
 Ab a true d (fun l=>AU g fun m=>l m d [] []) fun n e _ _=>Ab a true e (fun o=>Ae 2 n fun p=>o p e [] []) fun q b _ _=>Ab a true b (fun r=>Ak q b fun s t=>r s b t []) fun u f _ _=>Ab a true f (fun v=>Bh 1 u (.fv (.int .i64 0)) fun w=>v w f [] []) fun x c _ _=>Ab a true c (fun y=>Ak x c fun z A=>y z c A []) fun B C _ _=>ST C a B h i j k
def S8 (a:IV) (b:Hp) (d:Aa) (e:IV) (f:Hp→OH):OH :=
 AU a fun g=>Ae 0 g fun h=>Ak h b fun i _=>A0 EE 3 i (.fv (.int .i64 5)) fun c=>Ab c true b (fun j=>j a b [] []) fun k l _ _=>TE l c k d e a f
def S110 (d:Aa) (n:Nat) (c a:IV) (b:Hp):OH :=
 (fun (e:Hp→OH)=>AU c fun f=>Ae 2 f fun g=>Ak g b fun h _=>H9 EE 3 h (.fv (.int .i64 0)) fun i=>An i (Ao [a] b) (S8 a b d c e)) fun j=>Ao [a] j
theorem Ahi (a:Aa) (n:Nat) (b c:IV) (d:Hp):AC EE a ft.get n 110 [b,c] d=S110 a n b c d:=by kernel_rfl
end
end Idl
end Go.Proofs.Ytdibmackcbpniaa

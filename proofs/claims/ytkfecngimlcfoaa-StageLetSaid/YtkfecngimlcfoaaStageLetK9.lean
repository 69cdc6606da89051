/-
  Texts of a proof, part 9: an ideal semantics of the program, its functions in shallow form, contracts of them. No statement of the seat is proved here.
-/
import Derived.Test.YtkfecngimlcfoaaStageLetK8
set_option linter.all false
set_option maxRecDepth 20000
set_option maxHeartbeats 16000000
noncomputable section
set_option maxRecDepth 100000
set_option linter.unusedVariables false
namespace Go.Proofs.Ytkfecngimlcfoaa
namespace Idl
noncomputable section
def Amb a b c:=
 Aa b true a (fun d=>leS EE 3 c (iq 3000) fun e=>d e a [] []) fun f g _ _=>AJ b f bF fun h=>Am [h] g
def Amf b c:=
 Yf EE 3 b (iq 0) fun a=>Aa a true c (fun e=>e b c [] []) fun f d _ _=>Aa a true d (fun g=>leS EE 3 f (iq 2) fun h=>g h d [] []) fun i j _ _=>AJ a i bF fun k=>Am [k] j
def Ak2 a b c:=
 Aa b true a (fun d=>leS EE 3 c (iq 4) fun e=>d e a [] []) fun f g _ _=>AJ b f bF fun h=>Am [h] g
def AmW a b:=
 AS EE 3 a (iq 0) fun c=>Am [c] b
def Ala c b a:=
 AS EE 3 c (iq 26) fun e=>Ak e (Yf EE 3 b (iq 0) fun d=>Aa d true a (fun f=>f b a [] []) fun g h _ _=>Ak2 h d g) (AS EE 3 c (iq 25) fun i=>Ak i (Am [bT] a) (AmW b a))
def S89 (j:Al) (n:Nat) (c a:V) (b:H):O :=
 AS EE 3 c (iq 1) fun e=>Ak e (Yf EE 3 a (iq 0) fun d=>Aa d true b (fun f=>f a b [] []) fun g h _ _=>Amb h d g) (AS EE 3 c (iq 2) fun i=>Ak i (Amf a b) (Ala c a b))
theorem ArJ a n b c d:Ax EE a ft.get n 89 [b,c] d=S89 a n b c d:=by kernel_rfl
def Iw c a d:=
 Ah 3 a d c fun b _ _=>As true 3 a b fun e=>Am [e] b
def Ix c d a:=
 Bj EE 3 c (iq 1) fun e=>BI [iq 0,iq 0,.nils] [(0,1,iq 1),(1,1,e)] fun f=>Ah 3 a f d fun b _ _=>As true 3 a b fun g=>Am [g] b
def I9 a b:=
 As true 3 b a fun c=>Am [c] a
def Jt d e c a b:=
 KN EE 3 d e fun f=>Ak f (Ab 1 c fun g=>Af g a fun h _=>Ix h a b) (Ai 3 c a fun i _=>Ah 3 b i a fun j _ _=>I9 j b)
def Jp e b a f g h c d:=
 AS EE 3 e b fun i=>Ak i (Ai 3 f a fun j _=>is0 g 45 [j,h,iq 0] a fun k l _ _=>Iw l c k) (Ab 1 d fun m=>Af m a fun n _=>Jt n b d a c)
def Jx a h i j (k:H) b c d e f (l:List V->H->O):=
 Ab 2 a fun m=>Bv m i h fun n o p=>Ac [] o p (BE EE 3 j (iq 1) fun g=>BO (k.own.map (·.1)) [94384144] [b,c,d,e,f,a,g] n fun q=>l [b,c,d,e,f,a,g] q)
def Js b c a d e f g h i j k l m n (o:List V->H->O):=
 Ac [(a,[])] b c (Ay (Aj EE 28 1 [(0,e)]) 94384143 d fun p q r s=>Ac [(a,[])] r s (Ay (AT EE 94384144 false .append [28,28] [f,p]) 94384144 q fun t u v w=>Ac [] v w (Jx g u t h i j k l m n o)))
def Jn a b c d e g h f i j k l m n o p (q:List V->H->O):=
 BE EE 3 a b fun r=>BE EE 3 c b fun s=>Ai 3 e d fun t u=>Ac [(g,[]),(h,[]),(f,[])] u [] (is0 i 90 [j,r,s,t] d fun v w x y=>Js x y f w v k l m n a c o e p q)
def IC a f b c g h i j k l m n o p (q:List V->H->O):=
 Af f a fun r d=>Ac [(b,[])] d [] (AU 3 r c fun s=>Ai 3 s a fun t e=>Ac [(b,[])] e [] (Jn g h i a j e d b k t l m c n o p q))
def IS a g h b c d i j k l m (n:List V->H->O):=
 is0 a 54 [h,b] g fun o e _ _=>Ab 2 c fun p=>Af p e fun q f=>Ac [] f [] (Ab 2 d fun r=>IC e r f b i o j k a q c l d m n)
def Jq a b:=
 As true 3 b a fun c=>Am [c] a
def IG c f d a g e h i j k b (l:List V->H->O):=
 Hm EE 3 c f fun m=>Ak m (Ab 0 d fun n=>Af n a fun o _=>IS g a o c e d h i j k b l) (Ai 3 e a fun p _=>Ah 3 b p a fun q _ _=>Jq q b)
def Jk (c:List V) a b d e f g h i (j:List V->H->O):=
 AC c fun k l=>AC l fun m _=>Ab 2 a fun n=>Af n b fun o _=>Ci o fun p=>IG m p a b d k e f g h i j
def Ju (a:List V) b c d (e:List V->H->O):=
 AC a fun f g=>AC g fun h i=>AC i fun j k=>AC k fun l m=>AC m fun n o=>Jk o j b c f h l d n e
def Jh (a:H) h b c d e f g n i:=
 BO (a.own.map (·.1)) [94384144] [b,c,d,e,f,g,iq 0] h fun j=>BQ n (fun k l m=>Ju l m i a k) [b,c,d,e,f,g,iq 0] j
def Jv a b d e f g h i n j:=
 Ab 1 a fun k=>Af k b fun l _=>BI [iq 0,iq 0,.nils] [(0,1,d),(1,1,l)] fun m=>nw0 94379013 b fun c o _ _=>Ah 3 c m o fun p _ _=>Jh e p f g a h i c n j
def I7 h a b c d e f g i n:=
 Ak h (Ab 1 a fun j=>Af j b fun k _=>Jp k c b d e f g a) (Ab 0 a fun l=>Af l b fun m _=>Jv a b m i c f d g n e)
def S90 (d:Al) (n:Nat) (e f g h:V) (a:H):O :=
 A7 94371840 e a fun b i _ _=>A7 94371841 h i fun j k _ _=>nw0 94371842 k fun l c _ _=>Ab 0 b fun m=>Af m c fun o _=>AS EE 3 o (iq 1) fun p=>I7 p b c f j d g l a n
theorem As6 a n b c d e f:Ax EE a ft.get n 90 [b,c,d,e] f=S90 a n b c d e f:=by kernel_rfl
def YL b c a d e:=
 AJ b bT c fun f=>Ak f (Am [.fv (.int .i64 (-1))] a) (ixA 31 1 d e fun g=>Af g a fun h _=>Am [h] a)
def S91 (q:Al) (n:Nat) (a:V) (f:H):O :=
 Ay (Nw EE 132 [(0,.fv (.int .i64 (-1))),(1,iq 0),(2,iq 0),(3,iq 2),(4,iq 2),(5,iq 2),(6,iq 2),(7,iq 3),(8,iq 1),(9,iq 1),(10,iq 0),(11,iq 0),(12,iq 1),(13,iq 4),(14,iq 0),(15,iq 0),(16,iq 2),(17,iq 2),(18,iq 1),(19,iq 1),(20,iq 2),(21,iq 2),(22,iq 2),(23,iq 1),(24,iq 1),(25,iq 0),(26,iq 2),(27,iq 3),(28,iq 2),(29,iq 2),(30,iq 1)]) 95421440 f fun g h _ _=>GX 95421441 (.row [iq 0,iq 0,iq 0,iq 0,iq 0,iq 0,iq 0,iq 0,iq 0,iq 0,iq 0,iq 0,iq 0,iq 0,iq 0,iq 0,iq 0,iq 0,iq 0,iq 0,iq 0,iq 0,iq 0,iq 0,iq 0,iq 0,iq 0,iq 0,iq 0,iq 0,iq 0] false) (.ptr (.own 95421441) 0) h fun c i _ _=>Ah 31 c g i fun d _ _=>Hm EE 120 a (iq 0) fun b=>Aa b false d (fun j=>j a d [] []) fun k e _ _=>Aa b false e (fun l=>Yf EE 3 k (iq 31) fun m=>l m e [] []) fun o p _ _=>YL b o p c a
theorem Ast a n b c:Ax EE a ft.get n 91 [b] c=S91 a n b c:=by kernel_rfl
def AkB a b c:=
 Aa b true a (fun d=>leS EE 3 c (iq 3000) fun e=>d e a [] []) fun f g _ _=>AJ b f bF fun h=>Am [h] g
def Ak8 b c:=
 Yf EE 3 b (iq 0) fun a=>Aa a true c (fun e=>e b c [] []) fun f d _ _=>Aa a true d (fun g=>leS EE 3 f (iq 2) fun h=>g h d [] []) fun i j _ _=>AJ a i bF fun k=>Am [k] j
def AlQ a b c:=
 Aa b true a (fun d=>leS EE 3 c (iq 4) fun e=>d e a [] []) fun f g _ _=>AJ b f bF fun h=>Am [h] g
def AmH a b:=
 AS EE 3 a (iq 0) fun c=>Am [c] b
def Ak6 c b a:=
 AS EE 3 c (iq 26) fun e=>Ak e (Yf EE 3 b (iq 0) fun d=>Aa d true a (fun f=>f b a [] []) fun g h _ _=>AlQ h d g) (AS EE 3 c (iq 25) fun i=>Ak i (Am [bT] a) (AmH b a))
def S92 (j:Al) (n:Nat) (c a:V) (b:H):O :=
 AS EE 3 c (iq 1) fun e=>Ak e (Yf EE 3 a (iq 0) fun d=>Aa d true b (fun f=>f a b [] []) fun g h _ _=>AkB h d g) (AS EE 3 c (iq 2) fun i=>Ak i (Ak8 a b) (Ak6 c a b))
theorem Aup a n b c d:Ax EE a ft.get n 92 [b,c] d=S92 a n b c d:=by kernel_rfl
def Ali b a:=
 AS EE 3 b (iq 13) fun c=>Ak c (Am [iq 4] a) (Am [.fv (.int .i64 (-1))] a)
def Aks c a b:=
 Ak c (Am [iq 2] a) (AS EE 3 b (iq 7) fun d=>Ak d (Am [iq 3] a) (Ali b a))
def Aln a (b:V->H->O) c d:=
 Ak a (b a c) (AS EE 3 d (iq 5) fun e=>b e c)
def Akt c b a:=
 Ak c (Am [iq 1] b) ((fun (d:V->H->O)=>AS EE 3 a (iq 4) fun e=>Aln e d b a) fun f g=>Aks f g a)
def AjR a (b:V->H->O) c:=
 AS EE 3 a (iq 30) fun d=>b d c
def Ann a (b:V->H->O) c:=
 AS EE 3 a (iq 12) fun d=>Ak d (b d c) (AS EE 3 a (iq 19) fun e=>Ak e (b e c) (AjR a b c))
def S93 (h:Al) (n:Nat) (a:V) (b:H):O :=
 (fun (c:V->H->O)=>AS EE 3 a (iq 8) fun d=>Ak d (c d b) (AS EE 3 a (iq 9) fun e=>Ak e (c e b) (Ann a c b))) fun f g=>Akt f g a
theorem Ar6 a n b c:Ax EE a ft.get n 93 [b] c=S93 a n b c:=by kernel_rfl
def YC a b c d e:=
 A4 [true,false,false,false] false false a 103 [c,d,iq 1,e] b fun f g _ _=>Am [f] g
def XQ b a c d e:=
 Ab 2 b fun f=>Af f a fun g _=>AU 1 g (iq 1) fun h=>Af h a fun i _=>Ay (Aj EE 127 1 [(0,i)]) 98569224 a fun j k _ _=>YC c k d e j
def YV b a c d e f:=
 Ab 0 b fun g=>Af g a fun h _=>AS EE 3 h (iq 4) fun i=>Ak i (AH c fun j=>XQ j a d e f) (Am [.fv .nilp] a)
def S94 (d:Al) (n:Nat) (e b:V) (a:H):O :=
 AH b fun f=>Ab 2 f fun g=>Af g a fun h _=>AU 1 h (iq 0) fun i=>Af i a fun c _=>AH c fun j=>YV j a b d e c
theorem Aru a n b c d:Ax EE a ft.get n 94 [b,c] d=S94 a n b c d:=by kernel_rfl
def R2 b a:=
 Ab 2 b fun c=>Af c a fun d _=>AU 1 d (iq 1) fun e=>Af e a fun f _=>Am [f] a
def SC b a:=
 Ab 2 b fun c=>Af c a fun d _=>AU 1 d (iq 2) fun e=>Af e a fun f _=>Am [f] a
def UZ c a b:=
 Ab 0 c fun d=>Af d a fun e _=>AS EE 3 e (iq 8) fun f=>Ak f (AH b fun g=>R2 g a) (AH b fun h=>SC h a)
def TO b a c d:=
 Ab 0 b fun e=>Af e a fun f _=>CE EE 3 f (iq 7) fun g=>Ak g (Am [.fv .nilp] a) (AH c fun h=>UZ h a d)
def S95 (i:Al) (n:Nat) (j b:V) (a:H):O :=
 AH b fun d=>Ab 2 d fun e=>Af e a fun f _=>AU 1 f (iq 0) fun g=>Af g a fun c _=>AH c fun h=>TO h a b c
theorem AsP a n b c d:Ax EE a ft.get n 95 [b,c] d=S95 a n b c d:=by kernel_rfl
def TZ b a:=
 Ab 2 b fun c=>Af c a fun d _=>AU 1 d (iq 1) fun e=>Af e a fun f _=>Am [f] a
def To a b c d e f:=
 Ay (Aj EE 127 2 [(0,b),(1,c)]) 100671498 a fun g h i j=>Ac [] i j (A4 [true,false,false,false] false false d 103 [e,f,iq 2,g] h fun k l m n=>Ac [] m n (Am [k] l))
def S7 e a b c f g h:=
 AU 1 e (iq 0) fun i=>Af i a fun j d=>Ac [] d [] (A4 [true,false] false false b 102 [c,f] a fun k l m n=>Ac [(d,[]),(g,[])] m n (To l j k b c h))
def Uh c d e a f g h i:=
 Ac [] c d (AH e fun j=>Ab 2 j fun k=>Af k a fun l b=>Ac [] b [] (S7 l a f g h b i))
def SE b c d e f g a h i j k:=
 Ac [(c,[]),(d,[])] b [] (Ay (Aj EE 127 4 [(0,.fv .nilp),(1,f),(2,.fv .nilp),(3,g)]) 100670476 e fun l m n o=>Ac [] n o (Ab 2 a fun p=>Bv p l m fun q r s=>Uh r s h q i j a k))
def TS d a b c e f g h i j:=
 Ab 2 d fun k=>Af k a fun l m=>Ac [(b,[]),(c,[])] m [] (AU 1 l (iq 0) fun n=>Af n a fun o p=>SE p b c a e o f g h i j)
def Tg a e b c f g h i:=
 Ac [] a [] (AU 1 e (iq 1) fun j=>Af j b fun k d=>Ac [] d [] (AH c fun l=>TS l b d a k f c g h i))
def SP d e a f g h:=
 GX 100669443 (.row [iq 0,iq 0,.nils,iq 0,iq 0,.nils,.fv (.nilp)] false) (.ptr (.own 100669443) 0) d fun b i _ _=>Ah 7 b e i fun c _ _=>AH a fun j=>Ab 2 j fun k=>Af k c fun l m=>Tg m l c f b g h a
def UG c b a d e f:=
 Ak c (AH b fun g=>Ai 7 g a fun h _=>SP a h b d e f) (Am [.fv .nilp] a)
def Sd d a b e f g:=
 Ab 0 d fun h=>Af h a fun c _=>AS EE 3 c (iq 11) fun i=>Ak i (AH b fun j=>TZ j a) (AS EE 3 c (iq 12) fun k=>UG k b a e f g)
def S96 (d:Al) (n:Nat) (e b:V) (a:H):O :=
 AH b fun f=>Ab 2 f fun g=>Af g a fun h _=>AU 1 h (iq 3) fun i=>Af i a fun c _=>AH c fun j=>Sd j a b c d e
theorem Ar4 a n b c d:Ax EE a ft.get n 96 [b,c] d=S96 a n b c d:=by kernel_rfl
def S97 (a:Al) (n:Nat) (f b:V) (c:H):O :=
 is0 a 109 [b,iq 19] c fun d e _ _=>Am [d] e
theorem AsG a n b c d:Ax EE a ft.get n 97 [b,c] d=S97 a n b c d:=by kernel_rfl
def S98 (a:Al) (n:Nat) (f b:V) (c:H):O :=
 is0 a 109 [b,iq 30] c fun d e _ _=>Am [d] e
theorem Ate a n b c d:Ax EE a ft.get n 98 [b,c] d=S98 a n b c d:=by kernel_rfl
def Sf a b:=
 Bv b (iq 17) a fun c _ _=>Am [] c
def U1 b c d a:=
 AJ b c bF fun e=>Ak e (AH d fun f=>Ab 3 f fun g=>Sf a g) (Am [] a)
def SW c a d:=
 Aa a true c (fun h=>h d c [] []) fun i e _ _=>Aa a true e (fun j=>AH i fun k=>j k e [] []) fun l f _ _=>Aa a true f (fun m=>Ab 3 l fun n=>m n f [] []) fun o b _ _=>Aa a true b (fun p=>Af o b fun q r=>p q b r []) fun s g _ _=>Aa a true g (fun t=>AS EE 36 s (iq 0) fun u=>t u g [] []) fun v w _ _=>U1 a v d w
def UN c d e a:=
 Bv d e c fun b _ _=>AH a fun f=>Ab 1 f fun g=>Af g b fun h _=>Hm EE 3 h (iq 0) fun i=>SW b i a
def S99 (i:Al) (n:Nat) (a:V) (b:H):O :=
 AH a fun c=>Ab 1 c fun d=>Af d b fun e _=>Bj EE 3 e (iq 1) fun f=>AH a fun g=>Ab 1 g fun h=>UN b h f a
theorem Atk a n b c:Ax EE a ft.get n 99 [b] c=S99 a n b c:=by kernel_rfl
def Ob a b:=
 Af b a fun c _=>Am [c] a
def Nl b a (c:List V->H->O) d:=
 Ab 1 b fun e=>Af e a fun f _=>c [f,d] a
def OC c a b d (e:List V->H->O):=
 Ak c (AH a fun f=>Ab 0 f fun g=>Ob b g) (Bj EE 3 d (iq 1) fun h=>AH a fun i=>Nl i b e h)
def Ow a b:=
 BI [iq 0,iq 0,.nils,iq 0,iq 0,.nils,.fv (.nilp)] [(0,1,iq 1),(1,1,a)] fun c=>A7 104863747 c b fun d e _ _=>Am [d] e
def Kz (d:List V) b (e:List V->H->O):=
 AC d fun c f=>AC f fun a _=>CE EE 125 c (.fv .nilp) fun g=>Ak g (AS EE 3 a (iq 0) fun h=>OC h c b a e) (Bj EE 3 (.fv (.int .i64 (-1))) a fun i=>Ow i b)
def AiP (g:Al) (n:Nat) (a b:V) (c:H):O :=
 BQ n (fun d e f=>Kz e f d) [a,b] c
theorem Aoi a n b c d:Ax EE a ft.get n 100 [b,c] d=AiP a n b c d:=by kernel_rfl
def Ao2 (a:Al) (n:Nat) (b c:V) (d:H):O :=
 FW EE a (.fv (.func (.func 110) [] [])) [b,c] d fun e f _ _=>Am [e] f
theorem An6 a n b c d:Ax EE a ft.get n 101 [b,c] d=Ao2 a n b c d:=by kernel_rfl
def W4 a b (c:H->O):=
 Bv b (iq 17) a fun d _ _=>c d
def Ww c d a (b:H->O):=
 Ak c (AH d fun e=>Ab 3 e fun f=>W4 a f b) (b a)
def WA c d e a (f:H->O):=
 Bv d e c fun b _ _=>AH a fun g=>Ab 0 g fun h=>Af h b fun i _=>Hm EE 3 i (iq 0) fun j=>Ww j a b f
def Wb c a b (d:H->O):=
 Ab 0 c fun e=>Af e a fun f _=>Bj EE 3 f (iq 1) fun g=>AH b fun h=>Ab 0 h fun i=>WA a i g b d
def Vx c a d e b:=
 Ak c (Am [d] a) ((fun (f:H->O)=>AH b fun g=>Wb g a b f) fun h=>Am [e] h)
def WQ c a f g h i:=
 Aa a false c (fun j=>AH f fun k=>j k c [] []) fun l d _ _=>Aa a false d (fun m=>Ab 3 l fun n=>m n d [] []) fun o b _ _=>Aa a false b (fun p=>Af o b fun q r=>p q b r []) fun s e _ _=>Aa a false e (fun t=>CE EE 36 s (iq 0) fun u=>t u e [] []) fun v w _ _=>AJ a bT v fun x=>Vx x w g h i
def VS g a h b c:=
 Ab 0 g fun i=>Af i a fun j _=>FW EE h j [b] a fun d e _ _=>AS EE 96 d (.fv .nilp) fun f=>Aa f false e (fun k=>k c e [] []) fun l m _ _=>WQ m f l b d c
def Wj b a c d e:=
 AH b fun f=>Ab 3 f fun g=>Af g a fun h _=>CE EE 36 h (iq 0) fun i=>Ak i (Am [c] a) (VS d a e c b)
def WG a b g c d e h:=
 Aa b false a (fun i=>CE EE 36 g (iq 0) fun j=>i j a [] []) fun k f _ _=>AJ b bT k fun l=>Ak l (Am [c] f) (A4 [true] false false d 99 [e] f fun _ m _ _=>Wj e m c h d)
def WR g c d h i j:=
 Eh (Qw .not g) fun a=>Aa a false c (fun k=>k d c [] []) fun l e _ _=>Aa a false e (fun m=>AH l fun n=>m n e [] []) fun o f _ _=>Aa a false f (fun p=>Ab 3 o fun q=>p q f [] []) fun r b _ _=>Aa a false b (fun s=>Af r b fun t u=>s t b u []) fun v w _ _=>WG w a v h i d j
def Wx b c d e f g h i j k:=
 Aq 1 b fun l=>GX 106955788 (.row [.fv (.nilf)] false) (.ptr (.own 106955788) 0) c fun a m n o=>Ac [(d,e),(f,[]),(g,[])] n o (Bv a h m fun p q r=>Ac [] q r (WR l p i j k a))
def WP a g b h i j k:=
 Af g a fun l c=>Ac [(b,[])] c [] (Ay (G7 EE 98 h l true) 106955784 a fun d m e f=>Ac [] e f (Aq 0 d fun n=>Wx d m e f c b n i j k))
def S102 (e:Al) (n:Nat) (a b:V) (c:H):O :=
 AH a fun f=>Ab 4 f fun g=>Af g c fun h d=>Ac [] d [] (AH b fun i=>Ab 0 i fun j=>WP c j d h a b e)
theorem ApD a n b c d:Ax EE a ft.get n 102 [b,c] d=S102 a n b c d:=by kernel_rfl
def Agd b c a d e f g h i:=
 AU 3 b c fun j=>Ai 3 j a fun k l=>Ac [(d,e),(f,[])] l [] (A4 [true,false,false] false false g 71 [h,i,k] a fun m n o p=>Ac [] o p (Am [m] n))
def Ad3 e a b c d f g h i:=
 AH e fun j=>Ab 3 j fun k=>Ab 2 k fun l=>Af l a fun m n=>Ac [(b,c),(d,[])] n [] (Agd m f a b c d g h i)
def Apt (a:Al) (n:Nat) (g b h i:V) (c:H):O :=
 AH b fun j=>Ab 6 j fun k=>Af k c fun l d=>Ac [] d [] (is0 a 111 [l,i] c fun m o e f=>Ac [] e f (Ad3 b o e f d h a g m))
theorem Aoe a n b c d e f:Ax EE a ft.get n 103 [b,c,d,e] f=Apt a n b c d e f:=by kernel_rfl
def LH d e a f b (g:List V->H->O) h i:=
 FW EE d a [f] e fun j c _ _=>Ak j (Am [b] c) (BE EE 3 b (iq 1) fun k=>g [h,a,i,k] c)
def Li d b c a e f (g:List V->H->O) h:=
 Ak d (AU 3 b c fun i=>Ai 3 i a fun j _=>LH e a f j c g b h) (Am [.fv (.int .i64 (-1))] a)
def Ov (c:List V) d e (f:List V->H->O):=
 AC c fun g h=>AC h fun i j=>AC j fun a k=>AC k fun b _=>Hm EE 3 b a fun l=>Li l g b d e i f a
def YJ (b:Al) (n:Nat) (a c:V) (d:H):O :=
 Ci a fun e=>BQ n (fun f g h=>Ov g h b f) [a,c,e,iq 0] d
theorem AoB a n b c d:Ax EE a ft.get n 104 [b,c] d=YJ a n b c d:=by kernel_rfl
def Ae8 a d b:=
 Aq 0 a fun e=>Aq 1 a fun f=>Ah 3 b e d fun c _ _=>As true 3 b c fun g=>Am [g,f] c
def AdM c a d:=
 Ah 3 a d c fun b e f=>Ac [] e f (As true 3 a b fun g=>Am [g,iq 0] b)
def AcQ a b c d e:=
 Ac [] a [] (is0 b 24 [iq 11,.nils] c fun f g h i=>Ac [(a,[])] h i (is0 b 67 [d,iq 0,f] g fun j k l m=>Ac [] l m (AdM k e j)))
def Aqb (a:Al) (n:Nat) (f:V) (g:H):O :=
 A7 110100480 f g fun c h _ _=>nw0 110100481 h fun d e _ _=>Ai 3 c e fun i _=>is0 a 107 [i,iq 0] e fun j b _ _=>Ak j (is0 a 44 [iq 14] b fun k l _ _=>Ae8 k l d) (Ai 3 c b fun m o=>AcQ o a b m d)
theorem Apf a n b c:Ax EE a ft.get n 105 [b] c=Aqb a n b c:=by kernel_rfl
def Zu a d e f b:=
 is0 a 24 [iq 12,e] d fun g h _ _=>is0 a 67 [f,iq 0,g] h fun i j _ _=>Ah 3 b i j fun c _ _=>As true 3 b c fun k=>Am [k] c
def Aor (a:Al) (n:Nat) (c:V) (d:H):O :=
 A7 111149056 c d fun e f _ _=>nw0 111149057 f fun g b _ _=>Ai 3 e b fun h _=>is0 a 45 [h,iq 2,iq 1] b fun i j _ _=>is0 a 25 [iq 1] j fun k l _ _=>Ay (Aj EE 28 1 [(0,k)]) 111150083 l fun m o _ _=>Zu a o m i g
theorem Apa a n b c:Ax EE a ft.get n 106 [b] c=Aor a n b c:=by kernel_rfl
def Iz a b c:=
 Af b a fun d _=>AS EE 3 d c fun e=>Am [e] a
def IB a c d e f g (h:List V->H->O) i:=
 BE EE 3 a c fun j=>is0 d 107 [f,j] e fun k b l m=>Ac [] l m (Ak k (Am [bT] b) (BE EE 3 g (iq 1) fun n=>h [a,i,n] b))
def Jg a b c d e f g h (i:List V->H->O):=
 Ab 0 a fun j=>Af j b fun k l=>Ac [(c,[]),(d,[])] l [] (is0 e 54 [k,f] b fun m n o p=>Ac [(c,[]),(d,[])] o p (IB g m e n h f i a))
def Jm a e b f g h (i:List V->H->O):=
 Af e a fun j c=>Ac [] c [] (AU 3 j b fun k=>Ai 3 k a fun l d=>Ac [] d [] (Jg f a d c g b h l i))
def IZ d a b c e f (g:List V->H->O):=
 Ci d fun h=>Hm EE 3 a h fun i=>Ak i (Ab 2 b fun j=>Jm c j a b e f g) (Am [bF] c)
def NH (c:List V) a d (e:List V->H->O):=
 AC c fun f g=>AC g fun b h=>AC h fun i _=>Ab 2 b fun j=>Af j a fun k _=>IZ k i b a d f e
def Vv (d:Al) (n:Nat) (e c:V) (f:H):O :=
 A7 112197632 e f fun a b _ _=>Ab 0 a fun g=>Af g b fun h _=>AS EE 3 h (iq 1) fun i=>Ak i (Ab 1 a fun j=>Iz b j c) (BQ n (fun k l m=>NH l m d k) [c,a,iq 0] b)
theorem AnX a n b c d:Ax EE a ft.get n 107 [b,c] d=Vv a n b c d:=by kernel_rfl
def S6 b a:=
 AH b fun c=>Ab 2 c fun d=>Af d a fun e _=>AS EE 3 e (iq 0) fun f=>Am [f] a
def U6 a b (c:H->O):=
 Bv b (iq 17) a fun d _ _=>c d
def RT c d a (b:H->O):=
 KN EE 3 c (iq 1000) fun e=>Ak e (AH d fun f=>Ab 2 f fun g=>U6 a g b) (b a)
def UC c d e a:=
 Bv d e c fun b _ _=>(fun (f:H->O)=>AH a fun g=>Ab 0 g fun h=>Af h b fun i _=>RT i a b f) fun j=>S6 a j
def Aj6 (i:Al) (n:Nat) (a:V) (b:H):O :=
 AH a fun c=>Ab 0 c fun d=>Af d b fun e _=>BE EE 3 e (iq 1) fun f=>AH a fun g=>Ab 0 g fun h=>UC b h f a
theorem AoS a n b c:Ax EE a ft.get n 108 [b] c=Aj6 a n b c:=by kernel_rfl
def UO b a:=
 Ab 2 b fun c=>Af c a fun d _=>AU 1 d (iq 0) fun e=>Af e a fun f _=>Am [f] a
def UH b a:=
 Ab 2 b fun c=>Af c a fun d _=>AU 1 d (iq 0) fun e=>Af e a fun f _=>AH f fun g=>UO g a
def Sa b a c d:=
 Ab 0 b fun e=>Af e a fun f _=>CE EE 3 f c fun g=>Ak g (Am [.fv .nilp] a) (AH d fun h=>UH h a)
def AlD (j:Al) (n:Nat) (b c:V) (a:H):O :=
 AH b fun d=>Ab 2 d fun e=>Af e a fun f _=>AU 1 f (iq 0) fun g=>Af g a fun h _=>AH h fun i=>Sa i a c b
theorem Ao7 a n b c d:Ax EE a ft.get n 109 [b,c] d=AlD a n b c d:=by kernel_rfl
def Abn b a (c:H->O):=
 AS EE 3 b (iq 0) fun d=>Ak d (Am [iq 1] a) (AS EE 3 b (iq 2) fun e=>Ak e (Am [iq 2] a) (c a))
def Zv d c a (b:H->O) e:=
 Ak d (AS EE 3 c (iq 1) fun f=>Ak f (Am [iq 1] a) (b a)) (AS EE 3 e (iq 13) fun g=>Ak g (Abn c a b) (b a))
def AhO a (b:V->H->O) c:=
 AS EE 3 a (iq 29) fun d=>b d c
def Aed a (b:V->H->O) c:=
 AS EE 3 a (iq 20) fun d=>Ak d (b d c) (AS EE 3 a (iq 28) fun e=>Ak e (b e c) (AhO a b c))
def Af4 c (a:V->H->O) b d:=
 Ak c (a c b) (AS EE 3 d (iq 6) fun e=>Ak e (a e b) (Aed d a b))
def S110 (k:Al) (n:Nat) (a e:V) (b:H):O :=
 (fun (f:H->O)=>(fun (c:V->H->O)=>AS EE 3 a (iq 3) fun d=>Ak d (c d b) (AS EE 3 a (iq 4) fun g=>Af4 g c b a)) fun h i=>Zv h e i f a) fun j=>Am [iq 0] j
theorem ApJ a n b c d:Ax EE a ft.get n 110 [b,c] d=S110 a n b c d:=by kernel_rfl
def Nu f g h i (j:H) a b (k:List V->H->O):=
 BI [.fv (.nilp),.fv (.nilp)] [(0,1,f),(1,1,g)] fun c=>fzS (LU true 116396035 c) 116396035 c h fun d l _ _=>BE EE 3 i (iq 1) fun e=>BO (j.own.map (·.1)) [116396035] [d,a,b,e] l fun m=>k [d,a,b,e] m
def Ns e b c a d f g (h:List V->H->O):=
 Ak e (AU 1 b c fun i=>Af i a fun j _=>Nu j d a c f b g h) (Am [d] a)
def RW (c:List V) d e (f:List V->H->O):=
 AC c fun g h=>AC h fun i j=>AC j fun a k=>AC k fun b _=>Hm EE 3 b a fun l=>Ns l i b d g e a f
def AjB (i:Al) (n:Nat) (c a:V) (b:H):O :=
 Ci a fun d=>BO (b.own.map (·.1)) [116396035] [c,a,d,iq 0] b fun e=>BQ n (fun f g h=>RW g h b f) [c,a,d,iq 0] e
theorem An0 a n b c d:Ax EE a ft.get n 111 [b,c] d=AjB a n b c d:=by kernel_rfl
end
noncomputable section
def dt:DT :=
 .node 66 (.node 40 (.node 25 (.node 17 (.node 12 (.node 11 (.leaf 10 (fun ih n=>HP (S10 ih n)))
 (.leaf 11 (fun ih n=>QA (S11 ih n))))
 (.node 15 (.leaf 12 (fun ih n=>Nc (S12 ih n)))
 (.node 16 (.leaf 15 (fun ih n=>Nc (S15 ih n)))
 (.leaf 16 (fun ih n=>Nc (S16 ih n))))))
 (.node 20 (.node 18 (.leaf 17 (fun ih n=>HP (S17 ih n)))
 (.leaf 18 (fun ih n=>Nc (S18 ih n))))
 (.node 23 (.leaf 20 (fun ih n=>ar3 (S20 ih n)))
 (.node 24 (.leaf 23 (fun ih n=>HP (S23 ih n)))
 (.leaf 24 (fun ih n=>HP (S24 ih n)))))))
 (.node 33 (.node 27 (.node 26 (.leaf 25 (fun ih n=>Nc (S25 ih n)))
 (.leaf 26 (fun ih n=>Nc (S26 ih n))))
 (.node 28 (.leaf 27 (fun ih n=>Nc (S27 ih n)))
 (.node 31 (.leaf 28 (fun ih n=>HP (S28 ih n)))
 (.leaf 31 (fun ih n=>Nc (S31 ih n))))))
 (.node 36 (.node 34 (.leaf 33 (fun ih n=>XT (S33 ih n)))
 (.node 35 (.leaf 34 (fun ih n=>Nc (S34 ih n)))
 (.leaf 35 (fun ih n=>Nc (S35 ih n)))))
 (.node 38 (.leaf 36 (fun ih n=>HP (S36 ih n)))
 (.node 39 (.leaf 38 (fun ih n=>ar3 (S38 ih n)))
 (.leaf 39 (fun ih n=>XT (S39 ih n))))))))
 (.node 54 (.node 46 (.node 42 (.node 41 (.leaf 40 (fun ih n=>Nc (S40 ih n)))
 (.leaf 41 (fun ih n=>Nc (S41 ih n))))
 (.node 44 (.leaf 42 (fun ih n=>HP (S42 ih n)))
 (.node 45 (.leaf 44 (fun ih n=>Nc (S44 ih n)))
 (.leaf 45 (fun ih n=>ar3 (S45 ih n))))))
 (.node 49 (.node 47 (.leaf 46 (fun ih n=>HP (S46 ih n)))
 (.node 48 (.leaf 47 (fun ih n=>Nc (S47 ih n)))
 (.leaf 48 (fun ih n=>XT (S48 ih n)))))
 (.node 50 (.leaf 49 (fun ih n=>XT (S49 ih n)))
 (.node 52 (.leaf 50 (fun ih n=>HP (S50 ih n)))
 (.leaf 52 (fun ih n=>Nc (S52 ih n)))))))
 (.node 60 (.node 56 (.node 55 (.leaf 54 (fun ih n=>HP (S54 ih n)))
 (.leaf 55 (fun ih n=>HP (S55 ih n))))
 (.node 58 (.leaf 56 (fun ih n=>HP (S56 ih n)))
 (.node 59 (.leaf 58 (fun ih n=>XT (S58 ih n)))
 (.leaf 59 (fun ih n=>XT (S59 ih n))))))
 (.node 63 (.node 61 (.leaf 60 (fun ih n=>ar3 (S60 ih n)))
 (.node 62 (.leaf 61 (fun ih n=>XT (S61 ih n)))
 (.leaf 62 (fun ih n=>ar3 (S62 ih n)))))
 (.node 64 (.leaf 63 (fun ih n=>ar3 (S63 ih n)))
 (.node 65 (.leaf 64 (fun ih n=>QA (S64 ih n)))
 (.leaf 65 (fun ih n=>XT (S65 ih n)))))))))
 (.node 90 (.node 79 (.node 71 (.node 68 (.node 67 (.leaf 66 (fun ih n=>XT (S66 ih n)))
 (.leaf 67 (fun ih n=>ar3 (S67 ih n))))
 (.node 69 (.leaf 68 (fun ih n=>ar3 (S68 ih n)))
 (.node 70 (.leaf 69 (fun ih n=>Nc (S69 ih n)))
 (.leaf 70 (fun ih n=>QA (S70 ih n))))))
 (.node 73 (.node 72 (.leaf 71 (fun ih n=>ar3 (S71 ih n)))
 (.leaf 72 (fun ih n=>XT (S72 ih n))))
 (.node 74 (.leaf 73 (fun ih n=>HP (S73 ih n)))
 (.node 78 (.leaf 74 (fun ih n=>HP (S74 ih n)))
 (.leaf 78 (fun ih n=>ar3 (S78 ih n)))))))
 (.node 84 (.node 81 (.node 80 (.leaf 79 (fun ih n=>ar3 (S79 ih n)))
 (.leaf 80 (fun ih n=>XT (S80 ih n))))
 (.node 82 (.leaf 81 (fun ih n=>HP (S81 ih n)))
 (.node 83 (.leaf 82 (fun ih n=>HP (S82 ih n)))
 (.leaf 83 (fun ih n=>HP (S83 ih n))))))
 (.node 87 (.node 85 (.leaf 84 (fun ih n=>HP (S84 ih n)))
 (.node 86 (.leaf 85 (fun ih n=>HP (S85 ih n)))
 (.leaf 86 (fun ih n=>Nc (S86 ih n)))))
 (.node 88 (.leaf 87 (fun ih n=>HP (S87 ih n)))
 (.node 89 (.leaf 88 (fun ih n=>HP (S88 ih n)))
 (.leaf 89 (fun ih n=>HP (S89 ih n))))))))
 (.node 101 (.node 95 (.node 92 (.node 91 (.leaf 90 (fun ih n=>XT (S90 ih n)))
 (.leaf 91 (fun ih n=>Nc (S91 ih n))))
 (.node 93 (.leaf 92 (fun ih n=>HP (S92 ih n)))
 (.node 94 (.leaf 93 (fun ih n=>Nc (S93 ih n)))
 (.leaf 94 (fun ih n=>HP (S94 ih n))))))
 (.node 98 (.node 96 (.leaf 95 (fun ih n=>HP (S95 ih n)))
 (.node 97 (.leaf 96 (fun ih n=>HP (S96 ih n)))
 (.leaf 97 (fun ih n=>HP (S97 ih n)))))
 (.node 99 (.leaf 98 (fun ih n=>HP (S98 ih n)))
 (.node 100 (.leaf 99 (fun ih n=>Nc (S99 ih n)))
 (.leaf 100 (fun ih n=>HP (AiP ih n)))))))
 (.node 106 (.node 103 (.node 102 (.leaf 101 (fun ih n=>HP (Ao2 ih n)))
 (.leaf 102 (fun ih n=>HP (S102 ih n))))
 (.node 104 (.leaf 103 (fun ih n=>XT (Apt ih n)))
 (.node 105 (.leaf 104 (fun ih n=>HP (YJ ih n)))
 (.leaf 105 (fun ih n=>Nc (Aqb ih n))))))
 (.node 109 (.node 107 (.leaf 106 (fun ih n=>Nc (Aor ih n)))
 (.node 108 (.leaf 107 (fun ih n=>HP (Vv ih n)))
 (.leaf 108 (fun ih n=>Nc (Aj6 ih n)))))
 (.node 110 (.leaf 109 (fun ih n=>HP (AlD ih n)))
 (.node 111 (.leaf 110 (fun ih n=>HP (S110 ih n)))
 (.leaf 111 (fun ih n=>HP (AjB ih n)))))))))
theorem Axv:dt.Ok EE ft.get :=
 ⟨⟨⟨⟨⟨⟨(fun ih n _ _ _ e=>Be (F:=Ax EE ih ft.get n 10) (AuN ih n) e),
 (fun ih n _ _ _ e=>XL (F:=Ax EE ih ft.get n 11) (Auc ih n) e)⟩,
 ⟨(fun ih n _ _ _ e=>B9 (F:=Ax EE ih ft.get n 12) (AuI ih n) e),
 ⟨(fun ih n _ _ _ e=>B9 (F:=Ax EE ih ft.get n 15) (AsS ih n) e),
 (fun ih n _ _ _ e=>B9 (F:=Ax EE ih ft.get n 16) (Ats ih n) e)⟩⟩⟩,
 ⟨⟨(fun ih n _ _ _ e=>Be (F:=Ax EE ih ft.get n 17) (AtL ih n) e),
 (fun ih n _ _ _ e=>B9 (F:=Ax EE ih ft.get n 18) (ArT ih n) e)⟩,
 ⟨(fun ih n _ _ _ e=>Gg (F:=Ax EE ih ft.get n 20) (ArU ih n) e),
 ⟨(fun ih n _ _ _ e=>Be (F:=Ax EE ih ft.get n 23) (Auk ih n) e),
 (fun ih n _ _ _ e=>Be (F:=Ax EE ih ft.get n 24) (Asa ih n) e)⟩⟩⟩⟩,
 ⟨⟨⟨(fun ih n _ _ _ e=>B9 (F:=Ax EE ih ft.get n 25) (Ard ih n) e),
 (fun ih n _ _ _ e=>B9 (F:=Ax EE ih ft.get n 26) (Atd ih n) e)⟩,
 ⟨(fun ih n _ _ _ e=>B9 (F:=Ax EE ih ft.get n 27) (As0 ih n) e),
 ⟨(fun ih n _ _ _ e=>Be (F:=Ax EE ih ft.get n 28) (At7 ih n) e),
 (fun ih n _ _ _ e=>B9 (F:=Ax EE ih ft.get n 31) (ArH ih n) e)⟩⟩⟩,
 ⟨⟨(fun ih n _ _ _ e=>Eo (F:=Ax EE ih ft.get n 33) (Ask ih n) e),
 ⟨(fun ih n _ _ _ e=>B9 (F:=Ax EE ih ft.get n 34) (AuF ih n) e),
 (fun ih n _ _ _ e=>B9 (F:=Ax EE ih ft.get n 35) (AsK ih n) e)⟩⟩,
 ⟨(fun ih n _ _ _ e=>Be (F:=Ax EE ih ft.get n 36) (Atg ih n) e),
 ⟨(fun ih n _ _ _ e=>Gg (F:=Ax EE ih ft.get n 38) (ArP ih n) e),
 (fun ih n _ _ _ e=>Eo (F:=Ax EE ih ft.get n 39) (Asz ih n) e)⟩⟩⟩⟩⟩,
 ⟨⟨⟨⟨(fun ih n _ _ _ e=>B9 (F:=Ax EE ih ft.get n 40) (Auy ih n) e),
 (fun ih n _ _ _ e=>B9 (F:=Ax EE ih ft.get n 41) (Atx ih n) e)⟩,
 ⟨(fun ih n _ _ _ e=>Be (F:=Ax EE ih ft.get n 42) (Auw ih n) e),
 ⟨(fun ih n _ _ _ e=>B9 (F:=Ax EE ih ft.get n 44) (Auq ih n) e),
 (fun ih n _ _ _ e=>Gg (F:=Ax EE ih ft.get n 45) (Are ih n) e)⟩⟩⟩,
 ⟨⟨(fun ih n _ _ _ e=>Be (F:=Ax EE ih ft.get n 46) (AsU ih n) e),
 ⟨(fun ih n _ _ _ e=>B9 (F:=Ax EE ih ft.get n 47) (Ara ih n) e),
 (fun ih n _ _ _ e=>Eo (F:=Ax EE ih ft.get n 48) (ArE ih n) e)⟩⟩,
 ⟨(fun ih n _ _ _ e=>Eo (F:=Ax EE ih ft.get n 49) (AuH ih n) e),
 ⟨(fun ih n _ _ _ e=>Be (F:=Ax EE ih ft.get n 50) (ArX ih n) e),
 (fun ih n _ _ _ e=>B9 (F:=Ax EE ih ft.get n 52) (As9 ih n) e)⟩⟩⟩⟩,
 ⟨⟨⟨(fun ih n _ _ _ e=>Be (F:=Ax EE ih ft.get n 54) (Aui ih n) e),
 (fun ih n _ _ _ e=>Be (F:=Ax EE ih ft.get n 55) (Ar0 ih n) e)⟩,
 ⟨(fun ih n _ _ _ e=>Be (F:=Ax EE ih ft.get n 56) (Aq2 ih n) e),
 ⟨(fun ih n _ _ _ e=>Eo (F:=Ax EE ih ft.get n 58) (AuJ ih n) e),
 (fun ih n _ _ _ e=>Eo (F:=Ax EE ih ft.get n 59) (Asy ih n) e)⟩⟩⟩,
 ⟨⟨(fun ih n _ _ _ e=>Gg (F:=Ax EE ih ft.get n 60) (Arz ih n) e),
 ⟨(fun ih n _ _ _ e=>Eo (F:=Ax EE ih ft.get n 61) (AsO ih n) e),
 (fun ih n _ _ _ e=>Gg (F:=Ax EE ih ft.get n 62) (As1 ih n) e)⟩⟩,
 ⟨(fun ih n _ _ _ e=>Gg (F:=Ax EE ih ft.get n 63) (AsN ih n) e),
 ⟨(fun ih n _ _ _ e=>XL (F:=Ax EE ih ft.get n 64) (Arg ih n) e),
 (fun ih n _ _ _ e=>Eo (F:=Ax EE ih ft.get n 65) (AuP ih n) e)⟩⟩⟩⟩⟩⟩,
 ⟨⟨⟨⟨⟨(fun ih n _ _ _ e=>Eo (F:=Ax EE ih ft.get n 66) (ArN ih n) e),
 (fun ih n _ _ _ e=>Gg (F:=Ax EE ih ft.get n 67) (As5 ih n) e)⟩,
 ⟨(fun ih n _ _ _ e=>Gg (F:=Ax EE ih ft.get n 68) (AsY ih n) e),
 ⟨(fun ih n _ _ _ e=>B9 (F:=Ax EE ih ft.get n 69) (At8 ih n) e),
 (fun ih n _ _ _ e=>XL (F:=Ax EE ih ft.get n 70) (Arf ih n) e)⟩⟩⟩,
 ⟨⟨(fun ih n _ _ _ e=>Gg (F:=Ax EE ih ft.get n 71) (Ari ih n) e),
 (fun ih n _ _ _ e=>Eo (F:=Ax EE ih ft.get n 72) (As4 ih n) e)⟩,
 ⟨(fun ih n _ _ _ e=>Be (F:=Ax EE ih ft.get n 73) (ArW ih n) e),
 ⟨(fun ih n _ _ _ e=>Be (F:=Ax EE ih ft.get n 74) (Atv ih n) e),
 (fun ih n _ _ _ e=>Gg (F:=Ax EE ih ft.get n 78) (ArF ih n) e)⟩⟩⟩⟩,
 ⟨⟨⟨(fun ih n _ _ _ e=>Gg (F:=Ax EE ih ft.get n 79) (AsW ih n) e),
 (fun ih n _ _ _ e=>Eo (F:=Ax EE ih ft.get n 80) (AsQ ih n) e)⟩,
 ⟨(fun ih n _ _ _ e=>Be (F:=Ax EE ih ft.get n 81) (AtG ih n) e),
 ⟨(fun ih n _ _ _ e=>Be (F:=Ax EE ih ft.get n 82) (Aua ih n) e),
 (fun ih n _ _ _ e=>Be (F:=Ax EE ih ft.get n 83) (ArB ih n) e)⟩⟩⟩,
 ⟨⟨(fun ih n _ _ _ e=>Be (F:=Ax EE ih ft.get n 84) (AtH ih n) e),
 ⟨(fun ih n _ _ _ e=>Be (F:=Ax EE ih ft.get n 85) (Ar2 ih n) e),
 (fun ih n _ _ _ e=>B9 (F:=Ax EE ih ft.get n 86) (Asj ih n) e)⟩⟩,
 ⟨(fun ih n _ _ _ e=>Be (F:=Ax EE ih ft.get n 87) (ArI ih n) e),
 ⟨(fun ih n _ _ _ e=>Be (F:=Ax EE ih ft.get n 88) (AsX ih n) e),
 (fun ih n _ _ _ e=>Be (F:=Ax EE ih ft.get n 89) (ArJ ih n) e)⟩⟩⟩⟩⟩,
 ⟨⟨⟨⟨(fun ih n _ _ _ e=>Eo (F:=Ax EE ih ft.get n 90) (As6 ih n) e),
 (fun ih n _ _ _ e=>B9 (F:=Ax EE ih ft.get n 91) (Ast ih n) e)⟩,
 ⟨(fun ih n _ _ _ e=>Be (F:=Ax EE ih ft.get n 92) (Aup ih n) e),
 ⟨(fun ih n _ _ _ e=>B9 (F:=Ax EE ih ft.get n 93) (Ar6 ih n) e),
 (fun ih n _ _ _ e=>Be (F:=Ax EE ih ft.get n 94) (Aru ih n) e)⟩⟩⟩,
 ⟨⟨(fun ih n _ _ _ e=>Be (F:=Ax EE ih ft.get n 95) (AsP ih n) e),
 ⟨(fun ih n _ _ _ e=>Be (F:=Ax EE ih ft.get n 96) (Ar4 ih n) e),
 (fun ih n _ _ _ e=>Be (F:=Ax EE ih ft.get n 97) (AsG ih n) e)⟩⟩,
 ⟨(fun ih n _ _ _ e=>Be (F:=Ax EE ih ft.get n 98) (Ate ih n) e),
 ⟨(fun ih n _ _ _ e=>B9 (F:=Ax EE ih ft.get n 99) (Atk ih n) e),
 (fun ih n _ _ _ e=>Be (F:=Ax EE ih ft.get n 100) (Aoi ih n) e)⟩⟩⟩⟩,
 ⟨⟨⟨(fun ih n _ _ _ e=>Be (F:=Ax EE ih ft.get n 101) (An6 ih n) e),
 (fun ih n _ _ _ e=>Be (F:=Ax EE ih ft.get n 102) (ApD ih n) e)⟩,
 ⟨(fun ih n _ _ _ e=>Eo (F:=Ax EE ih ft.get n 103) (Aoe ih n) e),
 ⟨(fun ih n _ _ _ e=>Be (F:=Ax EE ih ft.get n 104) (AoB ih n) e),
 (fun ih n _ _ _ e=>B9 (F:=Ax EE ih ft.get n 105) (Apf ih n) e)⟩⟩⟩,
 ⟨⟨(fun ih n _ _ _ e=>B9 (F:=Ax EE ih ft.get n 106) (Apa ih n) e),
 ⟨(fun ih n _ _ _ e=>Be (F:=Ax EE ih ft.get n 107) (AnX ih n) e),
 (fun ih n _ _ _ e=>B9 (F:=Ax EE ih ft.get n 108) (AoS ih n) e)⟩⟩,
 ⟨(fun ih n _ _ _ e=>Be (F:=Ax EE ih ft.get n 109) (Ao7 ih n) e),
 ⟨(fun ih n _ _ _ e=>Be (F:=Ax EE ih ft.get n 110) (ApJ ih n) e),
 (fun ih n _ _ _ e=>Be (F:=Ax EE ih ft.get n 111) (An0 ih n) e)⟩⟩⟩⟩⟩⟩⟩
theorem As2:∀n f args h x,SS dt n f args h=some x->run EE n f args h=some x:=AwP Avo Axv
end
end Idl
end Go.Proofs.Ytkfecngimlcfoaa

/-
  Texts of a proof, part 10: an ideal semantics of the program, its functions in shallow form, contracts of them. No statement of the seat is proved here.
-/
import Derived.KernelRfl
import Derived.Test.YtdibmackcbpniaaObjInfersK9
set_option linter.all false
noncomputable section
namespace Go.Proofs.Ytdibmackcbpniaa
namespace Idl
theorem Aqf {f:Nat} {G:Aa→Nat→Hp→Option (IV×Hp)} (e:dt.call f=fun ih n=>OB (G ih n)) (n:Nat) (h:Hp):SS dt (n+1) f [] h=G (SS dt n) n  h:=by
 show dt.call f (SS dt n) n _ h=_
 rw [e];rfl
theorem B8 {f:Nat} {G:Aa→Nat→IV→Hp→Option (IV×Hp)} (e:dt.call f=fun ih n=>EP (G ih n)) (n:Nat) (a0:IV) (h:Hp):SS dt (n+1) f [a0] h=G (SS dt n) n a0 h:=by
 show dt.call f (SS dt n) n _ h=_
 rw [e];rfl
theorem Bp {f:Nat} {G:Aa→Nat→IV→IV→Hp→Option (IV×Hp)} (e:dt.call f=fun ih n=>CN (G ih n)) (n:Nat) (a0 a1:IV) (h:Hp):SS dt (n+1) f [a0,a1] h=G (SS dt n) n a0 a1 h:=by
 show dt.call f (SS dt n) n _ h=_
 rw [e];rfl
theorem DJ {f:Nat} {G:Aa→Nat→IV→IV→IV→Hp→Option (IV×Hp)} (e:dt.call f=fun ih n=>Jh (G ih n)) (n:Nat) (a0 a1 a2:IV) (h:Hp):SS dt (n+1) f [a0,a1,a2] h=G (SS dt n) n a0 a1 a2 h:=by
 show dt.call f (SS dt n) n _ h=_
 rw [e];rfl
theorem FY {f:Nat} {G:Aa→Nat→IV→IV→IV→IV→Hp→Option (IV×Hp)} (e:dt.call f=fun ih n=>Lc (G ih n)) (n:Nat) (a0 a1 a2 a3:IV) (h:Hp):SS dt (n+1) f [a0,a1,a2,a3] h=G (SS dt n) n a0 a1 a2 a3 h:=by
 show dt.call f (SS dt n) n _ h=_
 rw [e];rfl
theorem c3 (n:Nat) (a0 a1 a2 a3:IV) (h:Hp):SS dt (n+1) 3 [a0,a1,a2,a3] h=S3 (SS dt n) n a0 a1 a2 a3 h:=FY (show dt.call 3=fun ih n=>Lc (S3 ih n) by kernel_rfl) ..
theorem c12 (n:Nat) (a0:IV) (h:Hp):SS dt (n+1) 12 [a0] h=S12 (SS dt n) n a0 h:=B8 (show dt.call 12=fun ih n=>EP (S12 ih n) by kernel_rfl) ..
theorem c13 (n:Nat) (a0:IV) (h:Hp):SS dt (n+1) 13 [a0] h=S13 (SS dt n) n a0 h:=B8 (show dt.call 13=fun ih n=>EP (S13 ih n) by kernel_rfl) ..
theorem c14 (n:Nat) (a0 a1:IV) (h:Hp):SS dt (n+1) 14 [a0,a1] h=S14 (SS dt n) n a0 a1 h:=Bp (show dt.call 14=fun ih n=>CN (S14 ih n) by kernel_rfl) ..
theorem c15 (n:Nat) (a0 a1:IV) (h:Hp):SS dt (n+1) 15 [a0,a1] h=S15 (SS dt n) n a0 a1 h:=Bp (show dt.call 15=fun ih n=>CN (S15 ih n) by kernel_rfl) ..
theorem c16 (n:Nat) (a0 a1 a2:IV) (h:Hp):SS dt (n+1) 16 [a0,a1,a2] h=S16 (SS dt n) n a0 a1 a2 h:=DJ (show dt.call 16=fun ih n=>Jh (S16 ih n) by kernel_rfl) ..
theorem c17 (n:Nat) (a0 a1:IV) (h:Hp):SS dt (n+1) 17 [a0,a1] h=S17 (SS dt n) n a0 a1 h:=Bp (show dt.call 17=fun ih n=>CN (S17 ih n) by kernel_rfl) ..
theorem c18 (n:Nat) (a0 a1:IV) (h:Hp):SS dt (n+1) 18 [a0,a1] h=S18 (SS dt n) n a0 a1 h:=Bp (show dt.call 18=fun ih n=>CN (S18 ih n) by kernel_rfl) ..
theorem c19 (n:Nat) (a0 a1:IV) (h:Hp):SS dt (n+1) 19 [a0,a1] h=S19 (SS dt n) n a0 a1 h:=Bp (show dt.call 19=fun ih n=>CN (S19 ih n) by kernel_rfl) ..
theorem c20 (n:Nat) (a0:IV) (h:Hp):SS dt (n+1) 20 [a0] h=S20 (SS dt n) n a0 h:=B8 (show dt.call 20=fun ih n=>EP (S20 ih n) by kernel_rfl) ..
theorem c21 (n:Nat) (a0:IV) (h:Hp):SS dt (n+1) 21 [a0] h=S21 (SS dt n) n a0 h:=B8 (show dt.call 21=fun ih n=>EP (S21 ih n) by kernel_rfl) ..
theorem c25 (n:Nat) (a0:IV) (h:Hp):SS dt (n+1) 25 [a0] h=S25 (SS dt n) n a0 h:=B8 (show dt.call 25=fun ih n=>EP (S25 ih n) by kernel_rfl) ..
theorem c26 (n:Nat) (a0 a1 a2:IV) (h:Hp):SS dt (n+1) 26 [a0,a1,a2] h=S26 (SS dt n) n a0 a1 a2 h:=DJ (show dt.call 26=fun ih n=>Jh (S26 ih n) by kernel_rfl) ..
theorem c28 (n:Nat) (a0 a1 a2:IV) (h:Hp):SS dt (n+1) 28 [a0,a1,a2] h=S28 (SS dt n) n a0 a1 a2 h:=DJ (show dt.call 28=fun ih n=>Jh (S28 ih n) by kernel_rfl) ..
theorem c29 (n:Nat) (a0:IV) (h:Hp):SS dt (n+1) 29 [a0] h=S29 (SS dt n) n a0 h:=B8 (show dt.call 29=fun ih n=>EP (S29 ih n) by kernel_rfl) ..
theorem c30 (n:Nat) (a0 a1:IV) (h:Hp):SS dt (n+1) 30 [a0,a1] h=S30 (SS dt n) n a0 a1 h:=Bp (show dt.call 30=fun ih n=>CN (S30 ih n) by kernel_rfl) ..
theorem c31 (n:Nat) (a0:IV) (h:Hp):SS dt (n+1) 31 [a0] h=S31 (SS dt n) n a0 h:=B8 (show dt.call 31=fun ih n=>EP (S31 ih n) by kernel_rfl) ..
theorem c40 (n:Nat) (a0 a1:IV) (h:Hp):SS dt (n+1) 40 [a0,a1] h=S40 (SS dt n) n a0 a1 h:=Bp (show dt.call 40=fun ih n=>CN (S40 ih n) by kernel_rfl) ..
theorem c41 (n:Nat) (a0 a1:IV) (h:Hp):SS dt (n+1) 41 [a0,a1] h=S41 (SS dt n) n a0 a1 h:=Bp (show dt.call 41=fun ih n=>CN (S41 ih n) by kernel_rfl) ..
theorem c42 (n:Nat) (a0 a1:IV) (h:Hp):SS dt (n+1) 42 [a0,a1] h=S42 (SS dt n) n a0 a1 h:=Bp (show dt.call 42=fun ih n=>CN (S42 ih n) by kernel_rfl) ..
theorem c43 (n:Nat) (a0 a1 a2 a3:IV) (h:Hp):SS dt (n+1) 43 [a0,a1,a2,a3] h=S43 (SS dt n) n a0 a1 a2 a3 h:=FY (show dt.call 43=fun ih n=>Lc (S43 ih n) by kernel_rfl) ..
theorem c44 (n:Nat) (a0:IV) (h:Hp):SS dt (n+1) 44 [a0] h=S44 (SS dt n) n a0 h:=B8 (show dt.call 44=fun ih n=>EP (S44 ih n) by kernel_rfl) ..
theorem c45 (n:Nat) (a0 a1:IV) (h:Hp):SS dt (n+1) 45 [a0,a1] h=S45 (SS dt n) n a0 a1 h:=Bp (show dt.call 45=fun ih n=>CN (S45 ih n) by kernel_rfl) ..
theorem c46 (n:Nat) (a0:IV) (h:Hp):SS dt (n+1) 46 [a0] h=S46 (SS dt n) n a0 h:=B8 (show dt.call 46=fun ih n=>EP (S46 ih n) by kernel_rfl) ..
theorem c47 (n:Nat) (a0 a1:IV) (h:Hp):SS dt (n+1) 47 [a0,a1] h=S47 (SS dt n) n a0 a1 h:=Bp (show dt.call 47=fun ih n=>CN (S47 ih n) by kernel_rfl) ..
theorem c48 (n:Nat) (a0 a1:IV) (h:Hp):SS dt (n+1) 48 [a0,a1] h=S48 (SS dt n) n a0 a1 h:=Bp (show dt.call 48=fun ih n=>CN (S48 ih n) by kernel_rfl) ..
theorem c49 (n:Nat) (a0:IV) (h:Hp):SS dt (n+1) 49 [a0] h=S49 (SS dt n) n a0 h:=B8 (show dt.call 49=fun ih n=>EP (S49 ih n) by kernel_rfl) ..
theorem c50 (n:Nat) (a0 a1:IV) (h:Hp):SS dt (n+1) 50 [a0,a1] h=S50 (SS dt n) n a0 a1 h:=Bp (show dt.call 50=fun ih n=>CN (S50 ih n) by kernel_rfl) ..
theorem c51 (n:Nat) (a0:IV) (h:Hp):SS dt (n+1) 51 [a0] h=S51 (SS dt n) n a0 h:=B8 (show dt.call 51=fun ih n=>EP (S51 ih n) by kernel_rfl) ..
theorem c52 (n:Nat) (a0:IV) (h:Hp):SS dt (n+1) 52 [a0] h=S52 (SS dt n) n a0 h:=B8 (show dt.call 52=fun ih n=>EP (S52 ih n) by kernel_rfl) ..
theorem c53 (n:Nat) (a0 a1:IV) (h:Hp):SS dt (n+1) 53 [a0,a1] h=S53 (SS dt n) n a0 a1 h:=Bp (show dt.call 53=fun ih n=>CN (S53 ih n) by kernel_rfl) ..
theorem c54 (n:Nat) (a0:IV) (h:Hp):SS dt (n+1) 54 [a0] h=S54 (SS dt n) n a0 h:=B8 (show dt.call 54=fun ih n=>EP (S54 ih n) by kernel_rfl) ..
theorem c55 (n:Nat) (a0 a1:IV) (h:Hp):SS dt (n+1) 55 [a0,a1] h=S55 (SS dt n) n a0 a1 h:=Bp (show dt.call 55=fun ih n=>CN (S55 ih n) by kernel_rfl) ..
theorem c56 (n:Nat) (a0 a1 a2:IV) (h:Hp):SS dt (n+1) 56 [a0,a1,a2] h=S56 (SS dt n) n a0 a1 a2 h:=DJ (show dt.call 56=fun ih n=>Jh (S56 ih n) by kernel_rfl) ..
theorem c58 (n:Nat) (a0:IV) (h:Hp):SS dt (n+1) 58 [a0] h=S58 (SS dt n) n a0 h:=B8 (show dt.call 58=fun ih n=>EP (S58 ih n) by kernel_rfl) ..
theorem c60 (n:Nat) (a0:IV) (h:Hp):SS dt (n+1) 60 [a0] h=S60 (SS dt n) n a0 h:=B8 (show dt.call 60=fun ih n=>EP (S60 ih n) by kernel_rfl) ..
theorem c64 (n:Nat) (a0 a1:IV) (h:Hp):SS dt (n+1) 64 [a0,a1] h=S64 (SS dt n) n a0 a1 h:=Bp (show dt.call 64=fun ih n=>CN (S64 ih n) by kernel_rfl) ..
theorem c67 (n:Nat) (a0:IV) (h:Hp):SS dt (n+1) 67 [a0] h=S67 (SS dt n) n a0 h:=B8 (show dt.call 67=fun ih n=>EP (S67 ih n) by kernel_rfl) ..
theorem c68 (n:Nat) (a0 a1 a2 a3:IV) (h:Hp):SS dt (n+1) 68 [a0,a1,a2,a3] h=S68 (SS dt n) n a0 a1 a2 a3 h:=FY (show dt.call 68=fun ih n=>Lc (S68 ih n) by kernel_rfl) ..
theorem c69 (n:Nat) (a0 a1 a2:IV) (h:Hp):SS dt (n+1) 69 [a0,a1,a2] h=S69 (SS dt n) n a0 a1 a2 h:=DJ (show dt.call 69=fun ih n=>Jh (S69 ih n) by kernel_rfl) ..
theorem c70 (n:Nat) (a0 a1 a2 a3:IV) (h:Hp):SS dt (n+1) 70 [a0,a1,a2,a3] h=S70 (SS dt n) n a0 a1 a2 a3 h:=FY (show dt.call 70=fun ih n=>Lc (S70 ih n) by kernel_rfl) ..
theorem c71 (n:Nat) (a0 a1 a2:IV) (h:Hp):SS dt (n+1) 71 [a0,a1,a2] h=S71 (SS dt n) n a0 a1 a2 h:=DJ (show dt.call 71=fun ih n=>Jh (S71 ih n) by kernel_rfl) ..
theorem c72 (n:Nat) (a0 a1:IV) (h:Hp):SS dt (n+1) 72 [a0,a1] h=S72 (SS dt n) n a0 a1 h:=Bp (show dt.call 72=fun ih n=>CN (S72 ih n) by kernel_rfl) ..
theorem c73 (n:Nat) (a0 a1 a2:IV) (h:Hp):SS dt (n+1) 73 [a0,a1,a2] h=S73 (SS dt n) n a0 a1 a2 h:=DJ (show dt.call 73=fun ih n=>Jh (S73 ih n) by kernel_rfl) ..
theorem c74 (n:Nat) (a0 a1:IV) (h:Hp):SS dt (n+1) 74 [a0,a1] h=S74 (SS dt n) n a0 a1 h:=Bp (show dt.call 74=fun ih n=>CN (S74 ih n) by kernel_rfl) ..
theorem c75 (n:Nat) (a0 a1:IV) (h:Hp):SS dt (n+1) 75 [a0,a1] h=S75 (SS dt n) n a0 a1 h:=Bp (show dt.call 75=fun ih n=>CN (S75 ih n) by kernel_rfl) ..
theorem c76 (n:Nat) (a0 a1:IV) (h:Hp):SS dt (n+1) 76 [a0,a1] h=S76 (SS dt n) n a0 a1 h:=Bp (show dt.call 76=fun ih n=>CN (S76 ih n) by kernel_rfl) ..
theorem c77 (n:Nat) (a0 a1 a2:IV) (h:Hp):SS dt (n+1) 77 [a0,a1,a2] h=S77 (SS dt n) n a0 a1 a2 h:=DJ (show dt.call 77=fun ih n=>Jh (S77 ih n) by kernel_rfl) ..
theorem c78 (n:Nat) (a0 a1:IV) (h:Hp):SS dt (n+1) 78 [a0,a1] h=S78 (SS dt n) n a0 a1 h:=Bp (show dt.call 78=fun ih n=>CN (S78 ih n) by kernel_rfl) ..
theorem c79 (n:Nat) (a0 a1:IV) (h:Hp):SS dt (n+1) 79 [a0,a1] h=S79 (SS dt n) n a0 a1 h:=Bp (show dt.call 79=fun ih n=>CN (S79 ih n) by kernel_rfl) ..
theorem c80 (n:Nat) (a0 a1:IV) (h:Hp):SS dt (n+1) 80 [a0,a1] h=S80 (SS dt n) n a0 a1 h:=Bp (show dt.call 80=fun ih n=>CN (S80 ih n) by kernel_rfl) ..
theorem c81 (n:Nat) (a0 a1 a2 a3:IV) (h:Hp):SS dt (n+1) 81 [a0,a1,a2,a3] h=S81 (SS dt n) n a0 a1 a2 a3 h:=FY (show dt.call 81=fun ih n=>Lc (S81 ih n) by kernel_rfl) ..
theorem c82 (n:Nat) (a0 a1 a2:IV) (h:Hp):SS dt (n+1) 82 [a0,a1,a2] h=S82 (SS dt n) n a0 a1 a2 h:=DJ (show dt.call 82=fun ih n=>Jh (S82 ih n) by kernel_rfl) ..
theorem c89 (n:Nat) (a0 a1 a2:IV) (h:Hp):SS dt (n+1) 89 [a0,a1,a2] h=S89 (SS dt n) n a0 a1 a2 h:=DJ (show dt.call 89=fun ih n=>Jh (S89 ih n) by kernel_rfl) ..
theorem c96 (n:Nat) (a0 a1 a2:IV) (h:Hp):SS dt (n+1) 96 [a0,a1,a2] h=S96 (SS dt n) n a0 a1 a2 h:=DJ (show dt.call 96=fun ih n=>Jh (S96 ih n) by kernel_rfl) ..
theorem c97 (n:Nat) (a0 a1 a2 a3:IV) (h:Hp):SS dt (n+1) 97 [a0,a1,a2,a3] h=S97 (SS dt n) n a0 a1 a2 a3 h:=FY (show dt.call 97=fun ih n=>Lc (S97 ih n) by kernel_rfl) ..
theorem c98 (n:Nat) (a0 a1 a2 a3:IV) (h:Hp):SS dt (n+1) 98 [a0,a1,a2,a3] h=S98 (SS dt n) n a0 a1 a2 a3 h:=FY (show dt.call 98=fun ih n=>Lc (S98 ih n) by kernel_rfl) ..
theorem c99 (n:Nat) (h:Hp):SS dt (n+1) 99 [] h=S99 (SS dt n) n  h:=Aqf (show dt.call 99=fun ih n=>OB (S99 ih n) by kernel_rfl) ..
theorem AsD (n:Nat) (a0 a1 a2 a3:IV) (h:Hp):SS dt (n+1) 100 [a0,a1,a2,a3] h=S100 (SS dt n) n a0 a1 a2 a3 h:=FY (show dt.call 100=fun ih n=>Lc (S100 ih n) by kernel_rfl) ..
theorem U8 (n:Nat) (a0 a1 a2 a3:IV) (h:Hp):SS dt (n+1) 101 [a0,a1,a2,a3] h=S101 (SS dt n) n a0 a1 a2 a3 h:=FY (show dt.call 101=fun ih n=>Lc (S101 ih n) by kernel_rfl) ..
theorem Avw (n:Nat) (a0:IV) (h:Hp):SS dt (n+1) 102 [a0] h=AeC (SS dt n) n a0 h:=B8 (show dt.call 102=fun ih n=>EP (AeC ih n) by kernel_rfl) ..
theorem AvS (n:Nat) (a0 a1:IV) (h:Hp):SS dt (n+1) 103 [a0,a1] h=S103 (SS dt n) n a0 a1 h:=Bp (show dt.call 103=fun ih n=>CN (S103 ih n) by kernel_rfl) ..
theorem AvC (n:Nat) (a0 a1:IV) (h:Hp):SS dt (n+1) 104 [a0,a1] h=W4 (SS dt n) n a0 a1 h:=Bp (show dt.call 104=fun ih n=>CN (W4 ih n) by kernel_rfl) ..
theorem AvU (n:Nat) (a0 a1:IV) (h:Hp):SS dt (n+1) 105 [a0,a1] h=Aez (SS dt n) n a0 a1 h:=Bp (show dt.call 105=fun ih n=>CN (Aez ih n) by kernel_rfl) ..
theorem Au6 (n:Nat) (a0:IV) (h:Hp):SS dt (n+1) 106 [a0] h=AgL (SS dt n) n a0 h:=B8 (show dt.call 106=fun ih n=>EP (AgL ih n) by kernel_rfl) ..
theorem Avi (n:Nat) (a0:IV) (h:Hp):SS dt (n+1) 107 [a0] h=Ahh (SS dt n) n a0 h:=B8 (show dt.call 107=fun ih n=>EP (Ahh ih n) by kernel_rfl) ..
theorem Ava (n:Nat) (a0 a1 a2:IV) (h:Hp):SS dt (n+1) 108 [a0,a1,a2] h=WT (SS dt n) n a0 a1 a2 h:=DJ (show dt.call 108=fun ih n=>Jh (WT ih n) by kernel_rfl) ..
theorem Au2 (n:Nat) (a0 a1:IV) (h:Hp):SS dt (n+1) 109 [a0,a1] h=Ae5 (SS dt n) n a0 a1 h:=Bp (show dt.call 109=fun ih n=>CN (Ae5 ih n) by kernel_rfl) ..
theorem Avc (n:Nat) (a0 a1:IV) (h:Hp):SS dt (n+1) 110 [a0,a1] h=S110 (SS dt n) n a0 a1 h:=Bp (show dt.call 110=fun ih n=>CN (S110 ih n) by kernel_rfl) ..
theorem AuT (n:Nat) (a0:IV) (h:Hp):SS dt (n+1) 112 [a0] h=S112 (SS dt n) n a0 h:=B8 (show dt.call 112=fun ih n=>EP (S112 ih n) by kernel_rfl) ..
theorem Avt (n:Nat) (a0 a1 a2 a3:IV) (h:Hp):SS dt (n+1) 113 [a0,a1,a2,a3] h=S113 (SS dt n) n a0 a1 a2 a3 h:=FY (show dt.call 113=fun ih n=>Lc (S113 ih n) by kernel_rfl) ..
theorem Au4 (n:Nat) (a0:IV) (h:Hp):SS dt (n+1) 115 [a0] h=Wy (SS dt n) n a0 h:=B8 (show dt.call 115=fun ih n=>EP (Wy ih n) by kernel_rfl) ..
theorem Avo (n:Nat) (a0 a1 a2:IV) (h:Hp):SS dt (n+1) 116 [a0,a1,a2] h=RB (SS dt n) n a0 a1 a2 h:=DJ (show dt.call 116=fun ih n=>Jh (RB ih n) by kernel_rfl) ..
theorem Avs (n:Nat) (a0:IV) (h:Hp):SS dt (n+1) 117 [a0] h=Afa (SS dt n) n a0 h:=B8 (show dt.call 117=fun ih n=>EP (Afa ih n) by kernel_rfl) ..
theorem Av1 (n:Nat) (a0 a1:IV) (h:Hp):SS dt (n+1) 118 [a0,a1] h=RI (SS dt n) n a0 a1 h:=Bp (show dt.call 118=fun ih n=>CN (RI ih n) by kernel_rfl) ..
def UU1:=Ayh @R6.eq_1<|Ayh @Rm.eq_1<|Ayh @RY.eq_1<|Ayh @Pq.eq_1<|Ayh @Qm.eq_1<|Ayh @QS.eq_1<|Ayh @Qz.eq_1<|Ayh @Qf.eq_1<|Ayh @QO.eq_1<|Ayh @PQ.eq_1<|Ayh @R7.eq_1<|Ayh @RK.eq_1<|Ayh @Rv.eq_1<|Ayh @P7.eq_1<|Ayh @Qq.eq_1<|Ayh @QE.eq_1<|Ayh @PY.eq_1<|Ayh @RR.eq_1<|Ayh @Rf.eq_1<|Ayh @R1.eq_1<|Ayh @Rh.eq_1<|Ayh @Qv.eq_1<|Ayh @Pw.eq_1<|Ayh @Qs.eq_1<|Ayh @Ql.eq_1<|@S3.eq_1
def UU2:=Ayh @R6.eq_1<|Ayh @Rm.eq_1<|Ayh @RY.eq_1<|Ayh @Pq.eq_1<|Ayh @Qm.eq_1<|Ayh @QS.eq_1<|Ayh @Qz.eq_1<|Ayh @Qf.eq_1<|Ayh @QO.eq_1<|Ayh @PQ.eq_1<|Ayh @R7.eq_1<|Ayh @RK.eq_1<|Ayh @FX.eq_1<|Ayh @Rv.eq_1<|Ayh @P7.eq_1<|Ayh @Qq.eq_1<|Ayh @QE.eq_1<|Ayh @PY.eq_1<|Ayh @RR.eq_1<|Ayh @Rf.eq_1<|Ayh @R1.eq_1<|Ayh @Rh.eq_1<|Ayh @S3_370.eq_1<|Ayh @Qv.eq_1<|Ayh @Pw.eq_1<|Ayh @Qs.eq_1<|Ayh @Ql.eq_1<|@S3.eq_1
def UU3:=Ayh @R6.eq_1<|Ayh @Rm.eq_1<|Ayh @RY.eq_1<|Ayh @Pq.eq_1<|Ayh @Qm.eq_1<|Ayh @QS.eq_1<|Ayh @Qz.eq_1<|Ayh @Qf.eq_1<|Ayh @QO.eq_1<|Ayh @PQ.eq_1<|Ayh @R7.eq_1<|Ayh @RK.eq_1<|Ayh @Rv.eq_1<|Ayh @P7.eq_1<|Ayh @Qq.eq_1<|Ayh @QE.eq_1<|Ayh @PY.eq_1<|Ayh @RR.eq_1<|Ayh @Rf.eq_1<|Ayh @R1.eq_1<|Ayh @Rh.eq_1<|Ayh @Qv.eq_1<|Ayh @Pw.eq_1<|Ayh @Qs.eq_1<|Ayh @Ql.eq_1<|Ayh @S3.eq_1<|@S3_370.eq_1
def W2:=Ayh @NE.eq_1<|Ayh @ND.eq_1<|Ayh @Mi.eq_1<|Ayh @M1.eq_1<|Ayh @M8.eq_1<|Ayh @L8.eq_1<|Ayh @NZ.eq_1<|Ayh @L7.eq_1<|Ayh @Mx.eq_1<|Ayh @Ni.eq_1<|Ayh @NY.eq_1<|Ayh @NV.eq_1<|Ayh @NO.eq_1<|Ayh @NA.eq_1<|Ayh @MI.eq_1<|Ayh @NR.eq_1<|Ayh @Mk.eq_1<|Ayh @NL.eq_1<|Ayh @My.eq_1<|Ayh @L4.eq_1<|Ayh @NN.eq_1<|Ayh @Nv.eq_1<|Ayh @ME.eq_1<|Ayh @N6.eq_1<|Ayh @Nf.eq_1<|Ayh @NJ.eq_1<|Ayh @Od.eq_1<|Ayh @Nl.eq_1<|Ayh @Mo.eq_1<|Ayh @NB.eq_1<|Ayh @Mq.eq_1<|Ayh @MS.eq_1<|Ayh @Gm.eq_1<|Ayh @M6.eq_1<|@S112.eq_1
def UU5:=Ayh @Eh.eq_1<|Ayh @D0.eq_1<|Ayh @DZ.eq_1<|Ayh @Eg.eq_1<|Ayh @Ej.eq_1<|Ayh @DP.eq_1<|Ayh @GD.eq_1<|Ayh @D7.eq_1<|Ayh @D4.eq_1<|Ayh @DV.eq_1<|Ayh @DU.eq_1<|Ayh @Ea.eq_1<|Ayh @Eb.eq_1<|Ayh @D9.eq_1<|Ayh @DR.eq_1<|Ayh @DS.eq_1<|Ayh @DY.eq_1<|Ayh @Ei.eq_1<|Ayh @DW.eq_1<|Ayh @D6.eq_1<|Ayh @Ek.eq_1<|Ayh @D3.eq_1<|Ayh @D8.eq_1<|Ayh @Ec.eq_1<|Ayh @Ee.eq_1<|Ayh @DO.eq_1<|Ayh @DQ.eq_1<|Ayh @D1.eq_1<|Ayh @Ef.eq_1<|@S81.eq_1
def Oi:=Ayh @Tk.eq_1<|Ayh @Tw.eq_1<|Ayh @TH.eq_1<|Ayh @Um.eq_1<|Ayh @TC.eq_1<|Ayh @VL.eq_1<|Ayh @SJ.eq_1<|Ayh @Tl.eq_1<|Ayh @S5.eq_1<|Ayh @Vy.eq_1<|Ayh @Ti.eq_1<|Ayh @U4.eq_1<|Ayh @TF.eq_1<|Ayh @Sj.eq_1<|Ayh @Vx.eq_1<|Ayh @So.eq_1<|Ayh @VM.eq_1<|Ayh @Te.eq_1<|Ayh @UX.eq_1<|Ayh @TT.eq_1<|Ayh @VF.eq_1<|Ayh @Tt.eq_1<|Ayh @Us.eq_1<|Ayh @Sg.eq_1<|Ayh @Uy.eq_1<|Ayh @VP.eq_1<|Ayh @Vq.eq_1<|Ayh @T5.eq_1<|Ayh @Vb.eq_1<|Ayh @Vo.eq_1<|Ayh @Vh.eq_1<|Ayh @Sm.eq_1<|Ayh @UA.eq_1<|Ayh @Tr.eq_1<|Ayh @Uq.eq_1<|Ayh @UT.eq_1<|Ayh @Tn.eq_1<|Ayh @Th.eq_1<|Ayh @UK.eq_1<|Ayh @Ud.eq_1<|Ayh @S7.eq_1<|Ayh @SB.eq_1<|Ayh @Sl.eq_1<|Ayh @U0.eq_1<|Ayh @Ta.eq_1<|Ayh @SA.eq_1<|Ayh @Tb.eq_1<|Ayh @Uc.eq_1<|Ayh @TP.eq_1<|Ayh @Uw.eq_1<|@S110.eq_1
def UU7:=Ayh @HL.eq_1<|Ayh @Im.eq_1<|Ayh @IH.eq_1<|Ayh @HJ.eq_1<|Ayh @HB.eq_1<|Ayh @Iv.eq_1<|Ayh @If.eq_1<|Ayh @H0.eq_1<|Ayh @HS.eq_1<|Ayh @Ic.eq_1<|Ayh @Ir.eq_1<|Ayh @ID.eq_1<|Ayh @Hy.eq_1<|Ayh @IC.eq_1<|Ayh @Hx.eq_1<|Ayh @Ia.eq_1<|Ayh @HI.eq_1<|Ayh @HG.eq_1<|Ayh @HH.eq_1<|Ayh @XR.eq_1<|Ayh @H4.eq_1<|Ayh @IF.eq_1<|Ayh @Ie.eq_1<|@S82.eq_1
def UU8:=Ayh @NU.eq_1<|Ayh @Ob.eq_1<|Ayh @Mn.eq_1<|Ayh @MA.eq_1<|Ayh @NT.eq_1<|Ayh @MK.eq_1<|Ayh @NS.eq_1<|Ayh @MJ.eq_1<|Ayh @Me.eq_1<|Ayh @M7.eq_1<|Ayh @Mj.eq_1<|Ayh @Nj.eq_1<|Ayh @MU.eq_1<|Ayh @Nq.eq_1<|Ayh @Nu.eq_1<|Ayh @Mu.eq_1<|@S113.eq_1
def UU9:=Ayh @NU.eq_1<|Ayh @Ob.eq_1<|Ayh @Mn.eq_1<|Ayh @MA.eq_1<|Ayh @NT.eq_1<|Ayh @MK.eq_1<|Ayh @NS.eq_1<|Ayh @MJ.eq_1<|Ayh @Me.eq_1<|Ayh @M7.eq_1<|Ayh @Mj.eq_1<|Ayh @Nj.eq_1<|Ayh @MU.eq_1<|Ayh @NI.eq_1<|Ayh @Nq.eq_1<|Ayh @Nu.eq_1<|Ayh @Mu.eq_1<|@S113.eq_1
def AeL:=Ayh @Agg.eq_1<|Ayh @AfP.eq_1<|Ayh @AgF.eq_1<|Ayh @Aic.eq_1<|Ayh @AfY.eq_1<|@S48.eq_1
def Ahy:=Ayh @Jt.eq_1<|Ayh @J2.eq_1<|Ayh @Jj.eq_1<|Ayh @Ju.eq_1<|Ayh @Jk.eq_1<|Ayh @JB.eq_1<|Ayh @JA.eq_1<|Ayh @Jo.eq_1<|Ayh @J3.eq_1<|Ayh @J1.eq_1<|Ayh @Js.eq_1<|Ayh @J5.eq_1<|Ayh @JD.eq_1<|Ayh @Jv.eq_1<|@S56.eq_1
def Xz:=Ayh @PX.eq_1<|Ayh @Q8.eq_1<|Ayh @Pu.eq_1<|Ayh @Abv.eq_1<|Ayh @QI.eq_1<|Ayh @QU.eq_1<|Ayh @Q5.eq_1<|Ayh @PZ.eq_1<|Ayh @Qj.eq_1<|Ayh @PV.eq_1<|Ayh @Qg.eq_1<|@S71.eq_1
def Ag2:=Ayh @AfI.eq_1<|Ayh @Ahm.eq_1<|Ayh @AfR.eq_1<|Ayh @Agx.eq_1<|Ayh @Ah3.eq_1<|@S80.eq_1
def Afz:=Ayh @Yy.eq_1<|Ayh @ZK.eq_1<|Ayh @Acb.eq_1<|Ayh @AbB.eq_1<|Ayh @Adg.eq_1<|@S103.eq_1
def Aef:=Ayh @AcJ.eq_1<|Ayh @Ac4.eq_1<|Ayh @AaR.eq_1<|Ayh @AaG.eq_1<|Ayh @Adq.eq_1<|Ayh @AcA.eq_1<|Ayh @YT.eq_1<|Ayh @Acs.eq_1<|Ayh @AaU.eq_1<|Ayh @ZV.eq_1<|Ayh @X8.eq_1<|Ayh @AdU.eq_1<|Ayh @Aaf.eq_1<|Ayh @Aa8.eq_1<|Ayh @Aa7.eq_1<|Ayh @Ad4.eq_1<|@S43.eq_1
def TB:=Ayh @Xl.eq_1<|Ayh @WU.eq_1<|Ayh @V9.eq_1<|Ayh @W3.eq_1<|Ayh @Xy.eq_1<|Ayh @W6.eq_1<|Ayh @Xw.eq_1<|Ayh @Xu.eq_1<|Ayh @VZ.eq_1<|Ayh @Ags.eq_1<|@S67.eq_1
def JV:=Ayh @Aaz.eq_1<|Ayh @XA.eq_1<|Ayh @XQ.eq_1<|Ayh @X0.eq_1<|Ayh @Aai.eq_1<|Ayh @Zj.eq_1<|Ayh @Abg.eq_1<|Ayh @Aaq.eq_1<|Ayh @Ya.eq_1<|Ayh @YQ.eq_1<|Ayh @AdR.eq_1<|Ayh @YZ.eq_1<|Ayh @Adz.eq_1<|Ayh @Ach.eq_1<|Ayh @AdS.eq_1<|Ayh @YA.eq_1<|Ayh @X5.eq_1<|Ayh @Acn.eq_1<|Ayh @Acr.eq_1<|Ayh @ZI.eq_1<|Ayh @Ade.eq_1<|Ayh @YF.eq_1<|Ayh @Ye.eq_1<|Ayh @AbR.eq_1<|Ayh @Ab1.eq_1<|Ayh @Ado.eq_1<|Ayh @XN.eq_1<|Ayh @Aau.eq_1<|Ayh @YP.eq_1<|Ayh @ZR.eq_1<|Ayh @AcC.eq_1<|Ayh @Aa5.eq_1<|Ayh @Adi.eq_1<|Ayh @AcW.eq_1<|Ayh @AdQ.eq_1<|Ayh @AaV.eq_1<|Ayh @Ac2.eq_1<|Ayh @Yd.eq_1<|Ayh @Acp.eq_1<|Ayh @Zf.eq_1<|Ayh @Aax.eq_1<|@S70.eq_1
def M4:=Ayh @Yx.eq_1<|Ayh @AcV.eq_1<|Ayh @Aaw.eq_1<|Ayh @AbC.eq_1<|Ayh @AcO.eq_1<|Ayh @AaX.eq_1<|Ayh @Acq.eq_1<|Ayh @AdN.eq_1<|Ayh @AdM.eq_1<|Ayh @YU.eq_1<|Ayh @Z9.eq_1<|Ayh @Z7.eq_1<|Ayh @Yz.eq_1<|Ayh @Aas.eq_1<|Ayh @Acy.eq_1<|Ayh @XT.eq_1<|Ayh @Abz.eq_1<|Ayh @AbM.eq_1<|Ayh @Yl.eq_1<|Ayh @Zq.eq_1<|Ayh @Abt.eq_1<|Ayh @Ab3.eq_1<|Ayh @Abx.eq_1<|Ayh @X1.eq_1<|Ayh @Abl.eq_1<|Ayh @AcG.eq_1<|Ayh @Adp.eq_1<|Ayh @Y5.eq_1<|Ayh @Y1.eq_1<|Ayh @Acg.eq_1<|Ayh @Aa0.eq_1<|Ayh @AaO.eq_1<|Ayh @YV.eq_1<|Ayh @ZU.eq_1<|Ayh @XF.eq_1<|Ayh @YN.eq_1<|Ayh @AcN.eq_1<|Ayh @Zn.eq_1<|Ayh @AcR.eq_1<|Ayh @Abk.eq_1<|Ayh @ZT.eq_1<|Ayh @Yr.eq_1<|Ayh @AcS.eq_1<|Ayh @AdZ.eq_1<|@S68.eq_1
def SK:=Ayh @AaC.eq_1<|Ayh @Ys.eq_1<|Ayh @XU.eq_1<|Ayh @AbY.eq_1<|Ayh @Zl.eq_1<|Ayh @Aab.eq_1<|Ayh @Acz.eq_1<|Ayh @Abe.eq_1<|Ayh @Acl.eq_1<|Ayh @Zy.eq_1<|Ayh @Adl.eq_1<|Ayh @ZZ.eq_1<|Ayh @Acf.eq_1<|Ayh @AbL.eq_1<|Ayh @Acm.eq_1<|Ayh @Ab9.eq_1<|Ayh @Yu.eq_1<|Ayh @AbW.eq_1<|Ayh @Zm.eq_1<|Ayh @AbT.eq_1<|Ayh @Yf.eq_1<|Ayh @YX.eq_1<|Ayh @AbU.eq_1<|Ayh @Zp.eq_1<|Ayh @Ym.eq_1<|Ayh @AdF.eq_1<|Ayh @Yc.eq_1<|Ayh @AaH.eq_1<|Ayh @Yj.eq_1<|Ayh @XP.eq_1<|Ayh @ZL.eq_1<|Ayh @AdA.eq_1<|Ayh @Z0.eq_1<|Ayh @X6.eq_1<|Ayh @AbX.eq_1<|Ayh @XO.eq_1<|Ayh @AbH.eq_1<|Ayh @Aay.eq_1<|Ayh @Acd.eq_1<|Ayh @YJ.eq_1<|Ayh @Aby.eq_1<|Ayh @Acc.eq_1<|Ayh @Abm.eq_1<|Ayh @XG.eq_1<|Ayh @Abw.eq_1<|Ayh @Aa3.eq_1<|Ayh @AcU.eq_1<|Ayh @Zt.eq_1<|Ayh @Z3.eq_1<|Ayh @Abo.eq_1<|Ayh @XW.eq_1<|Ayh @Adj.eq_1<|Ayh @Aar.eq_1<|Ayh @AaF.eq_1<|Ayh @XM.eq_1<|Ayh @Za.eq_1<|@S98.eq_1
def I5:=Ayh @UO.eq_1<|Ayh @TX.eq_1<|Ayh @Sr.eq_1<|Ayh @T4.eq_1<|Ayh @Ss.eq_1<|Ayh @UL.eq_1<|Ayh @Uv.eq_1<|Ayh @Tz.eq_1<|Ayh @Tf.eq_1<|Ayh @TJ.eq_1<|Ayh @UF.eq_1<|Ayh @Vt.eq_1<|Ayh @Sy.eq_1<|Ayh @Sn.eq_1<|Ayh @Vp.eq_1<|Ayh @Up.eq_1<|Ayh @Uf.eq_1<|Ayh @SC.eq_1<|Ayh @TL.eq_1<|Ayh @UH.eq_1<|Ayh @TV.eq_1<|Ayh @Vi.eq_1<|Ayh @Uz.eq_1<|Ayh @Sx.eq_1<|Ayh @VR.eq_1<|Ayh @Uo.eq_1<|Ayh @Vf.eq_1<|Ayh @Tq.eq_1<|Ayh @U6.eq_1<|Ayh @Vz.eq_1<|Ayh @UW.eq_1<|Ayh @UD.eq_1<|Ayh @Vv.eq_1<|Ayh @SZ.eq_1<|Ayh @S8.eq_1<|Ayh @VU.eq_1<|Ayh @Tv.eq_1<|Ayh @Sk.eq_1<|Ayh @VD.eq_1<|Ayh @S0.eq_1<|Ayh @VG.eq_1<|Ayh @Tx.eq_1<|Ayh @Td.eq_1<|Ayh @S4.eq_1<|Ayh @VE.eq_1<|Ayh @Sz.eq_1<|Ayh @VJ.eq_1<|Ayh @VS.eq_1<|Ayh @UI.eq_1<|Ayh @US.eq_1<|Ayh @T8.eq_1<|Ayh @SL.eq_1<|Ayh @T7.eq_1<|Ayh @TS.eq_1<|Ayh @Vk.eq_1<|Ayh @To.eq_1<|Ayh @Vu.eq_1<|Ayh @UQ.eq_1<|Ayh @SM.eq_1<|@S101.eq_1
def Kd:=Ayh @AaW.eq_1<|Ayh @ZH.eq_1<|Ayh @ZQ.eq_1<|Ayh @AdH.eq_1<|Ayh @Zb.eq_1<|Ayh @Aao.eq_1<|Ayh @ZA.eq_1<|Ayh @ZW.eq_1<|Ayh @Y7.eq_1<|Ayh @YM.eq_1<|Ayh @Acv.eq_1<|Ayh @Ad6.eq_1<|Ayh @AaM.eq_1<|Ayh @ZD.eq_1<|Ayh @Zo.eq_1<|Ayh @Zv.eq_1<|Ayh @Zx.eq_1<|Ayh @ZP.eq_1<|Ayh @Acu.eq_1<|Ayh @Yt.eq_1<|Ayh @Ac9.eq_1<|Ayh @Aa6.eq_1<|Ayh @Aca.eq_1<|Ayh @Abr.eq_1<|Ayh @AbE.eq_1<|Ayh @Ack.eq_1<|Ayh @AaS.eq_1<|Ayh @Zw.eq_1<|@S69.eq_1
def Am4:=Ayh @Tc.eq_1<|Ayh @SU.eq_1<|Ayh @SD.eq_1<|Ayh @T6.eq_1<|Ayh @Tp.eq_1<|Ayh @Ue.eq_1<|Ayh @UE.eq_1<|Ayh @U5.eq_1<|Ayh @SR.eq_1<|Ayh @SP.eq_1<|Ayh @U1.eq_1<|Ayh @Vg.eq_1<|Ayh @UJ.eq_1<|Ayh @TW.eq_1<|Ayh @Ve.eq_1<|Ayh @Si.eq_1<|Ayh @Va.eq_1<|Ayh @SX.eq_1<|Ayh @Vm.eq_1<|Ayh @VK.eq_1<|Ayh @Ut.eq_1<|@S100.eq_1
def Ow:=Ayh @Qo.eq_1<|Ayh @Sa.eq_1<|Ayh @Q2.eq_1<|Ayh @QK.eq_1<|Ayh @R0.eq_1<|Ayh @PU.eq_1<|Ayh @P3.eq_1<|Ayh @Q3.eq_1<|Ayh @RZ.eq_1<|Ayh @Qk.eq_1<|Ayh @Pv.eq_1<|Ayh @PS.eq_1<|Ayh @P4.eq_1<|Ayh @Qy.eq_1<|Ayh @AdV.eq_1<|@S97.eq_1
def K9:=Ayh @Acj.eq_1<|Ayh @X3.eq_1<|Ayh @Aag.eq_1<|Ayh @Adt.eq_1<|Ayh @AaD.eq_1<|Ayh @ZN.eq_1<|Ayh @Abb.eq_1<|Ayh @Zr.eq_1<|Ayh @Aat.eq_1<|Ayh @ZJ.eq_1<|Ayh @YE.eq_1<|Ayh @Acx.eq_1<|Ayh @Ac7.eq_1<|Ayh @ZY.eq_1<|Ayh @Z2.eq_1<|Ayh @XB.eq_1<|Ayh @X2.eq_1<|Ayh @Yk.eq_1<|Ayh @Adr.eq_1<|Ayh @Ac8.eq_1<|Ayh @AcI.eq_1<|Ayh @AcL.eq_1<|Ayh @Aaa.eq_1<|Ayh @Ac0.eq_1<|Ayh @X4.eq_1<|Ayh @AcZ.eq_1<|Ayh @Y6.eq_1<|Ayh @Zz.eq_1<|Ayh @AaB.eq_1<|Ayh @YC.eq_1<|Ayh @XH.eq_1<|@S53.eq_1
def Wx:=Ayh @Aba.eq_1<|Ayh @Ab4.eq_1<|Ayh @Ac5.eq_1<|Ayh @AdP.eq_1<|Ayh @Yq.eq_1<|Ayh @YL.eq_1<|Ayh @Acw.eq_1<|Ayh @Ab6.eq_1<|Ayh @YS.eq_1<|Ayh @Zc.eq_1<|Ayh @Ac3.eq_1<|Ayh @Abj.eq_1<|Ayh @AaY.eq_1<|Ayh @Z6.eq_1<|Ayh @Aco.eq_1<|Ayh @AbP.eq_1<|Ayh @XC.eq_1<|Ayh @Ab0.eq_1<|Ayh @Zg.eq_1<|Ayh @AdI.eq_1<|Ayh @X7.eq_1<|@S76.eq_1
def Oy:=Ayh @AfF.eq_1<|Ayh @AgK.eq_1<|Ayh @Ag7.eq_1<|Ayh @Af8.eq_1<|Ayh @AgP.eq_1<|Ayh @Ahn.eq_1<|@S52.eq_1
def Ag5:=Ayh @Is.eq_1<|Ayh @HV.eq_1<|Ayh @Il.eq_1<|Ayh @HN.eq_1<|Ayh @HY.eq_1<|Ayh @Iw.eq_1<|Ayh @Iz.eq_1<|Ayh @Hw.eq_1<|Ayh @IG.eq_1<|Ayh @H7.eq_1<|Ayh @Ij.eq_1<|Ayh @HT.eq_1<|Ayh @H5.eq_1<|Ayh @H1.eq_1<|Ayh @Gw.eq_1<|Ayh @EG.eq_1<|Ayh @EC.eq_1<|Ayh @EO.eq_1<|@S16.eq_1
def EJ:=Ayh @Adk.eq_1<|Ayh @Ad5.eq_1<|Ayh @Abi.eq_1<|Ayh @AdT.eq_1<|Ayh @Aav.eq_1<|Ayh @Y9.eq_1<|Ayh @AcT.eq_1<|Ayh @Adf.eq_1<|Ayh @Abn.eq_1<|Ayh @Ad9.eq_1<|Ayh @AbJ.eq_1<|Ayh @Z1.eq_1<|Ayh @ZO.eq_1<|Ayh @AdD.eq_1<|Ayh @Ab8.eq_1<|Ayh @Ab7.eq_1<|Ayh @XL.eq_1<|Ayh @Adw.eq_1<|Ayh @Yn.eq_1<|Ayh @AaL.eq_1<|Ayh @AbO.eq_1<|Ayh @Ace.eq_1<|Ayh @AdG.eq_1<|Ayh @Aam.eq_1<|Ayh @Aah.eq_1<|Ayh @Yb.eq_1<|Ayh @Adn.eq_1<|Ayh @Aa1.eq_1<|Ayh @Aa2.eq_1<|Ayh @YI.eq_1<|Ayh @ZS.eq_1<|Ayh @XI.eq_1<|Ayh @AbS.eq_1<|Ayh @YG.eq_1<|Ayh @Abp.eq_1<|Ayh @Ab5.eq_1<|Ayh @Z8.eq_1<|Ayh @Abf.eq_1<|Ayh @Yg.eq_1<|Ayh @Ac1.eq_1<|Ayh @Aap.eq_1<|Ayh @YO.eq_1<|Ayh @Y2.eq_1<|Ayh @Y8.eq_1<|Ayh @AaA.eq_1<|Ayh @Zk.eq_1<|Ayh @AcY.eq_1<|Ayh @AbD.eq_1<|Ayh @AaK.eq_1<|Ayh @AbG.eq_1<|Ayh @Aal.eq_1<|Ayh @Yo.eq_1<|Ayh @Yv.eq_1<|Ayh @X9.eq_1<|Ayh @AdL.eq_1<|Ayh @AbZ.eq_1<|Ayh @AbK.eq_1<|Ayh @AcD.eq_1<|Ayh @Ze.eq_1<|Ayh @Adv.eq_1<|Ayh @Ada.eq_1<|Ayh @ZF.eq_1<|Ayh @Ad1.eq_1<|Ayh @XK.eq_1<|Ayh @AdK.eq_1<|Ayh @AdJ.eq_1<|Ayh @YH.eq_1<|Ayh @AbQ.eq_1<|Ayh @Y0.eq_1<|@S55.eq_1
section
variable {β:Type} {E:Env} {t:TypeId}
abbrev iv (n:Int):IV:=.fv (.int .i64 n)
theorem Apd (c:Prop) [Decidable c] (a b:Option β):Aj (.fv (.bool (decide c))) a b=if c then a else b:=by
 by_cases h:c
 ·rw [decide_eq_true h,if_pos h];rfl
 ·rw [decide_eq_false h,if_neg h];rfl
theorem Ane (o:Nat) (r:Ref) (off:Nat) (k:IV→Option β):Af o (.ptr r off) k=k (.ptr r (off+o)):=by
 show (Em (off+o) fun o=>k (.ptr r o))=_
 rw [B4]
theorem Aet (o:Nat) (cs:List FV) (off:Nat) (k:IV→Option β):Af o (.fv (.fp cs off)) k=k (.fv (.fp cs (off+o))):=by
 show (Em (off+o) fun o=>k (.fv (.fp cs o)))=_
 rw [B4]
theorem AoF {size:Nat} {es:List FV} {n:Nat} {el:FV} (he:es[n]?=some el) (hl:el.cells.length=size) (k:IV→Option β):AP size (.fv (.sl es)) (iv n) k=k (.fv (.fp el.cells 0)):=by
 show (Dh es n fun el=>elK size el k)=_
 rw [C2,he]
 show elK size el k=_
 rw [AfM,if_pos hl]
theorem Kj {op:BinOp} {g:Nat→Nat→Bool} (hg:∀a b:Nat,Gq E op t (iv a) (iv b)=some (.fv (.bool (g a b)))) (a b:Int) (k:IV→Option β) :
  Rj E t op g (iv a) (iv b) k=(Gq E op t (iv a) (iv b)).bind k:=by
 cases a with
 | ofNat a =>
  cases b with
  | ofNat b =>
   show Ahu (g a b) k=_
   rw [UP,show Gq E op t (iv (Int.ofNat a)) (iv (Int.ofNat b))=some (.fv (.bool (g a b))) from hg a b]
   rfl
  | negSucc b =>
   show CC E t op _ _ k=_
   rw [CC,Cu]
 | negSucc a =>
  show CC E t op _ _ k=_
  rw [CC,Cu]
theorem Auh (a b:Int) (k:IV→Option β):AQ E t (iv a) (iv b) k=k (.fv (.bool (decide (a=b)))):=by
 rw [AQ,Kj (fun a b=>by
  show some (IV.fv (.bool ((a:Int) == (b:Int))))=_
  rw [HK];congr 3;exact decide_eq_decide.2 Int.ofNat_inj)]
 rfl
theorem AsY (a b:Int) (k:IV→Option β):Cg E t (iv a) (iv b) k=k (.fv (.bool (!decide (a=b)))):=by
 rw [Cg,Kj (fun a b=>by
  show some (IV.fv (.bool ((a:Int) != (b:Int))))=_
  rw [HK];congr 3
  show (!decide ((a:Int)=(b:Int)))=!decide (a=b)
  congr 1;exact decide_eq_decide.2 Int.ofNat_inj)]
 rfl
theorem AtG (a b:Int) (k:IV→Option β):GM E t (iv a) (iv b) k=k (.fv (.bool (decide (a<b)))):=by
 rw [GM,Kj (fun a b=>by
  show some (IV.fv (.bool (decide ((a:Int)<(b:Int)))))=_
  rw [BU];congr 3;exact decide_eq_decide.2 (by omega))]
 rfl
theorem AsT (a b:Int) (k:IV→Option β):leS E t (iv a) (iv b) k=k (.fv (.bool (decide (a≤b)))):=by
 rw [leS,Kj (fun a b=>by
  show some (IV.fv (.bool (decide ((a:Int)≤(b:Int)))))=_
  rw [BU];congr 3;exact decide_eq_decide.2 (by omega))]
 rfl
theorem AsM (b:Bool) (k:IV→Option β):CI (Ji .not (.fv (.bool b))) k=k (.fv (.bool !b)):=by
 rw [Cu];rfl
end
end Idl
end Go.Proofs.Ytdibmackcbpniaa
namespace Go.Proofs.Ytdibmackcbpniaa
namespace Idl
section
variable {β:Type} {α:Type}
theorem n0 (a:α) (l:List α) (k:α→Option β):Dh (a::l) 0 k=k a:=rfl
theorem n1 (a b:α) (l:List α) (k:α→Option β):Dh (a::b::l) 1 k=k b:=rfl
theorem n2 (a b c:α) (l:List α) (k:α→Option β):Dh (a::b::c::l) 2 k=k c:=rfl
theorem n3 (a b c d:α) (l:List α) (k:α→Option β):Dh (a::b::c::d::l) 3 k=k d:=rfl
theorem n4 (a b c d e:α) (l:List α) (k:α→Option β):Dh (a::b::c::d::e::l) 4 k=k e:=rfl
theorem n5 (a b c d e f:α) (l:List α) (k:α→Option β):Dh (a::b::c::d::e::f::l) 5 k=k f:=rfl
theorem n6 (a b c d e f g:α) (l:List α) (k:α→Option β):Dh (a::b::c::d::e::f::g::l) 6 k=k g:=rfl
theorem d0 (l:List α) (k:List α→Option β):Fi l 0 k=k l:=by cases l<;>rfl
theorem d1 (a:α) (l:List α) (k:List α→Option β):Fi (a::l) 1 k=k l:=by cases l<;>rfl
theorem d2 (a b:α) (l:List α) (k:List α→Option β):Fi (a::b::l) 2 k=k l:=by cases l<;>rfl
theorem d3 (a b c:α) (l:List α) (k:List α→Option β):Fi (a::b::c::l) 3 k=k l:=by cases l<;>rfl
theorem d4 (a b c d:α) (l:List α) (k:List α→Option β):Fi (a::b::c::d::l) 4 k=k l:=by cases l<;>rfl
theorem t1 (a:α) (l:List α) (k:List α→Option β):F4 (a::l) 1 k=k [a]:=by cases l<;>rfl
theorem t2 (a b:α) (l:List α) (k:List α→Option β):F4 (a::b::l) 2 k=k [a,b]:=by cases l<;>rfl
theorem t3 (a b c:α) (l:List α) (k:List α→Option β):F4 (a::b::c::l) 3 k=k [a,b,c]:=by cases l<;>rfl
theorem t4 (a b c d:α) (l:List α) (k:List α→Option β):F4 (a::b::c::d::l) 4 k=k [a,b,c,d]:=by cases l<;>rfl
theorem t7 (a b c d e f g:α) (l:List α) (k:List α→Option β):F4 (a::b::c::d::e::f::g::l) 7 k=k [a,b,c,d,e,f,g]:=by cases l<;>rfl
theorem Au1 (l:List α) (k:List α→Option β):spK l k=k l:=GW l k
theorem ap0 (us:List α) (k:List α→Option β):Rt [] us k=k us:=rfl
theorem ap1 (u:α) (l us:List α) (k:List α→Option β):Rt (u::l) us k=Rt l us fun w=>k (u::w):=rfl
theorem AsU (a:α) (l:List α) (k:α→List α→Option β):AF (a::l) k=k a l:=rfl
theorem c_t {γ:Type} (a b:γ):cond true a b=a:=rfl
theorem c_f {γ:Type} (a b:γ):cond false a b=b:=rfl
end
section
variable {β:Type}
theorem Amx {s j:Nat} (h:(s == j)=false):Nat.beq s j=false:=by
 rw [HK];simpa using h
theorem AfZ (s:Nat) (own:List (Nat×Blk)) (ext:List Blk) (k:Blk→Option β):Ep (.own s) ⟨own,ext⟩ k=I8 own s k:=rfl
theorem Atw (j:Nat) (own:List (Nat×Blk)) (ext:List Blk) (k:Blk→Option β):Ep (.ext j) ⟨own,ext⟩ k=Dh ext j k:=rfl
theorem As1 (s:Nat) (b:Blk) (l:List (Nat×Blk)) (k:Blk→Option β):I8 ((s,b)::l) s k=k b:=by
 show cond (Nat.beq s s) (k b) _=_
 rw [show Nat.beq s s=true from Nat.beq_refl s]
 rfl
theorem ApR {s j:Nat} (hne:(s == j)=false) (b:Blk) (l:List (Nat×Blk)) (k:Blk→Option β):I8 ((j,b)::l) s k=I8 l s k:=by
 show cond (Nat.beq s j) (k b) _=_
 rw [show Nat.beq s j=false from Amx hne]
 rfl
theorem Aun (s:Nat) (b:Blk) (k:List (Nat×Blk)→Option β):Bk [] s b k=k [(s,b)]:=rfl
theorem AtO (s:Nat) (b c:Blk) (l:List (Nat×Blk)) (k:List (Nat×Blk)→Option β):Bk ((s,c)::l) s b k=k ((s,b)::l):=by
 show cond (Nat.beq s s) _ _=_
 rw [show Nat.beq s s=true from Nat.beq_refl s]
 rfl
theorem Ar5 {s j:Nat} (hne:(s == j)=false) (b c:Blk) (l:List (Nat×Blk)) (k:List (Nat×Blk)→Option β):Bk ((j,c)::l) s b k=Bk l s b fun l=>k ((j,c)::l):=by
 show cond (Nat.beq s j) _ _=_
 rw [show Nat.beq s j=false from Amx hne]
 rfl
theorem Atg (s:Nat) (a:Option β):C7 [] s a=a:=rfl
theorem Apf {s j:Nat} (hne:(s == j)=false) (b:Blk) (l:List (Nat×Blk)) (a:Option β):C7 ((j,b)::l) s a=C7 l s a:=by
 show cond (Nat.beq s j) none _=_
 rw [show Nat.beq s j=false from Amx hne]
 rfl
theorem Anp (s:Nat) (b:Blk) (own:List (Nat×Blk)) (ext:List Blk) (k:Hp→Option β):Gs (.own s) b ⟨own,ext⟩ k=Bk own s b fun own=>k ⟨own,ext⟩:=rfl
theorem Alu (j:Nat) (b:Blk) (own:List (Nat×Blk)) (ext:List Blk) (k:Hp→Option β):Gs (.ext j) b ⟨own,ext⟩ k=ON ext j b fun ext=>k ⟨own,ext⟩:=rfl
theorem sn0 {α:Type} (a b:α) (l:List α) (k:List α→Option β):ON (a::l) 0 b k=k (b::l):=rfl
theorem AsL (s:Nat) (b:Blk) (v:IV) (own:List (Nat×Blk)) (ext:List Blk) (k:IV→Hp→List Ref→List Ref→Option β) :
  Ay s b v ⟨own,ext⟩ k=C7 own s (Bk own s b fun own=>k v ⟨own,ext⟩ [] [.own s]):=rfl
theorem Lp (s:Nat) (cs:List FV) (h:Hp) (k:IV→Hp→List Ref→List Ref→Option β):AS s (.fv (.agg cs)) h k=Ay s (.row (cs.map .fv) false) (.ptr (.own s) 0) h k:=by
 show spK (cs.map IV.fv) _=_
 rw [GW]
theorem AsO (s:Nat) (a b:FV) (h:Hp) (k:IV→Hp→List Ref→List Ref→Option β):AS s (.fv (.agg [a,b])) h k=Ay s (.row [.fv a,.fv b] false) (.ptr (.own s) 0) h k:=Lp ..
theorem Atv (s:Nat) (a b c:FV) (h:Hp) (k:IV→Hp→List Ref→List Ref→Option β):AS s (.fv (.agg [a,b,c])) h k=Ay s (.row [.fv a,.fv b,.fv c] false) (.ptr (.own s) 0) h k:=Lp ..
theorem At2 (s:Nat) (a b c d:FV) (h:Hp) (k:IV→Hp→List Ref→List Ref→Option β):AS s (.fv (.agg [a,b,c,d])) h k=Ay s (.row [.fv a,.fv b,.fv c,.fv d] false) (.ptr (.own s) 0) h k:=Lp ..
theorem At9 (s:Nat) (a:FV) (h:Hp) (k:IV→Hp→List Ref→List Ref→Option β):AS s (.fv (.agg [a])) h k=Ay s (.row [.fv a] false) (.ptr (.own s) 0) h k:=Lp ..
theorem Agp (s:Nat) (cs:List IV) (h:Hp) (k:IV→Hp→List Ref→List Ref→Option β):AS s (.agg cs) h k=Ay s (.row cs false) (.ptr (.own s) 0) h k:=by
 show spK cs _=_
 rw [GW]
theorem AnD {x:IV} (hx:x.one=true) (s:Nat) (h:Hp) (k:IV→Hp→List Ref→List Ref→Option β):AS s x h k=Ay s (.row [x] false) (.ptr (.own s) 0) h k:=by
 unfold AS;rw [hx];rfl
theorem ArG (k:IntKind) (n:Int):IV.one (.fv (.int k n))=true:=rfl
theorem Anu (b:Bool):IV.one (.fv (.bool b))=true:=rfl
theorem AtF (l:List FV):IV.one (.fv (.sl l))=true:=rfl
theorem Asz (l:List FV) (o:Nat):IV.one (.fv (.fp l o))=true:=rfl
theorem Ak6 (fn:Fn) (a b:List FV):IV.one (.fv (.func fn a b))=true:=rfl
theorem AiF:IV.one (.fv .nilp)=true:=rfl
theorem AmP:IV.one .nils=true:=rfl
theorem Aqd (r:Ref) (o:Nat):IV.one (.ptr r o)=true:=rfl
theorem Apr (r:Ref) (a b:Nat):IV.one (.slc r a b)=true:=rfl
theorem ArA (r:Ref) (l:List FV):IV.one (.app r l)=true:=rfl
theorem Akh (l:List FV):IV.one (.clip l)=true:=rfl
theorem Ap4:IV.one .emp=true:=rfl
theorem AqL (l:List IV):IV.one (.agg l)=false:=rfl
theorem Ale (l:List FV):IV.one (.fv (.agg l))=false:=rfl
theorem Aqa (k:IntKind) (n:Int):IX (.int k n)=true:=rfl
theorem Amo (b:Bool):IX (.bool b)=true:=rfl
theorem As0 (l:List FV):IX (.sl l)=true:=rfl
theorem AtZ (l:List FV) (o:Nat):IX (.fp l o)=true:=rfl
theorem Aiv:IX .nilp=true:=rfl
theorem ApP (l:List FV):IX (.agg l)=false:=rfl
theorem Alq:EN []=true:=rfl
theorem AgX {v:FV} (h:IX v=true) (l:List FV):EN (v::l)=EN l:=by
 show cond (IX v) (EN l) false=_
 rw [h];rfl
theorem Ae0 (r:Ref) (o:Nat) (k:Ref→Nat→Option β) (kf:List FV→Nat→Option β):El (.ptr r o) k kf=k r o:=rfl
theorem Avg (cs:List FV) (o:Nat) (k:Ref→Nat→Option β) (kf:List FV→Nat→Option β):El (.fv (.fp cs o)) k kf=kf cs o:=rfl
theorem WM (cs:List IV) (ro:Bool) (k:List IV→Option β):Ez (.row cs ro) k=k cs:=rfl
theorem Al4 (cs:List IV) (k:List IV→Option β):Gt (.row cs false) k=k cs:=rfl
theorem Atq (v:FV) (e:Option β) (k:FV→Option β):Oj (.fv v) e k=k v:=rfl
theorem Aht (l:List IV) (e:Option β) (k:FV→Option β):Oj (.agg l) e k=e:=rfl
theorem Apn (e:Option β) (k:FV→Option β):Oj .nils e k=e:=rfl
theorem AqX (r:Ref) (o:Nat) (e:Option β) (k:FV→Option β):Oj (.ptr r o) e k=e:=rfl
theorem Aqk (r:Ref) (o:List FV) (e:Option β) (k:FV→Option β):Oj (.app r o) e k=e:=rfl
theorem Ao8 (o:List FV) (e:Option β) (k:FV→Option β):Oj (.clip o) e k=e:=rfl
theorem Asb (r:Ref) (a b:Nat) (e:Option β) (k:FV→Option β):Oj (.slc r a b) e k=e:=rfl
theorem Aqb (e:Option β) (k:FV→Option β):Oj .emp e k=e:=rfl
theorem Ar9 (cs:List FV) (k:List FV→Option β):GI (.agg cs) k=k cs:=rfl
theorem AtY (cs:List IV) (k:List IV→Option β) (kf:List FV→Option β):asAgg (.agg cs) k kf=k cs:=rfl
theorem ApH (cs:List FV) (k:List IV→Option β) (kf:List FV→Option β):asAgg (.fv (.agg cs)) k kf=kf cs:=rfl
theorem AiM (e:Option β) (k:List FV→Option β):Cx [] e k=k []:=rfl
theorem ApU (v:FV) (l:List IV) (e:Option β) (k:List FV→Option β):Cx (.fv v::l) e k=Cx l e fun vs=>k (v::vs):=rfl
theorem Ag0 (l:List IV) (e:Option β) (k:List FV→Option β):Cx (.nils::l) e k=e:=rfl
theorem AkW (r:Ref) (es:List FV) (l:List IV) (e:Option β) (k:List FV→Option β):Cx (.app r es::l) e k=e:=rfl
theorem Afi (es:List FV) (l:List IV) (e:Option β) (k:List FV→Option β):Cx (.clip es::l) e k=e:=rfl
theorem AiZ (r:Ref) (o:Nat) (l:List IV) (e:Option β) (k:List FV→Option β):Cx (.ptr r o::l) e k=e:=rfl
theorem AkN (r:Ref) (a b:Nat) (l:List IV) (e:Option β) (k:List FV→Option β):Cx (.slc r a b::l) e k=e:=rfl
theorem AlV (es l:List IV) (e:Option β) (k:List FV→Option β):Cx (.agg es::l) e k=e:=rfl
theorem AgG (r:Ref) (l:List IV) (e:Option β) (k:List FV→Option β):Cx (.mapr r::l) e k=e:=rfl
theorem AsW (l:List IV) (k:IV→Option β):Ol l k=Cx l (k (.agg l)) fun vs=>k (.fv (.agg vs)):=rfl
theorem Aup (l:List IV) (k:IV→Option β):WP l k=Cx l (k (.tuple l)) fun vs=>k (.fv (.tuple vs)):=rfl
theorem Avf (a:IV) (h:Hp) (k:IV→List Ref→Option β):Ak a h k=El a (fun r o=>Ep r h fun b=>Ez b fun cells=>Dh cells o fun v=>k v [r]) fun cells o=>Dh cells o fun v=>k (.fv v) []:=rfl
theorem Avx (size:Nat) (a:IV) (h:Hp) (k:IV→List Ref→Option β):Ad size a h k =
  El a (fun r o=>Ep r h fun b=>Ez b fun cells=>Fi cells o fun cs=>F4 cs size fun cs=>Ol cs fun v=>k v [r]) fun cells o=>Fi cells o fun cs=>F4 cs size fun cs=>k (.fv (.agg cs)) []:=rfl
theorem Ark (size:Nat) (a:IV) (h:Hp) (k:IV→Option β):Ap true size a h k=Ad size a h fun v _=>k v:=rfl
theorem Ap1 (size:Nat) (a:IV) (h:Hp) (k:IV→Option β):Ap false size a h k=Ak a h fun v _=>k v:=rfl
theorem wr0 (l:List IV) (k:List IV→Option β):wrK [] l k=k l:=rfl
theorem wr1 (c:FV) (cs:List FV) (x:IV) (l:List IV) (k:List IV→Option β):wrK (c::cs) (x::l) k=wrK cs l fun t=>k (.fv c::t):=rfl
theorem sf0 (x:IV) (l:List IV) (cs:List FV) (k:List IV→Option β):DA (x::l) 0 cs k=wrK cs (x::l) k:=rfl
theorem sf1 (x:IV) (l:List IV) (cs:List FV) (k:List IV→Option β):DA (x::l) 1 cs k=DA l 0 cs fun t=>k (x::t):=rfl
theorem sf2 (x y:IV) (l:List IV) (cs:List FV) (k:List IV→Option β):DA (x::y::l) 2 cs k=DA l 0 cs fun t=>k (x::y::t):=rfl
theorem sf3 (x y z:IV) (l:List IV) (cs:List FV) (k:List IV→Option β):DA (x::y::z::l) 3 cs k=DA l 0 cs fun t=>k (x::y::z::t):=rfl
theorem sf4 (x y z u:IV) (l:List IV) (cs:List FV) (k:List IV→Option β):DA (x::y::z::u::l) 4 cs k=DA l 0 cs fun t=>k (x::y::z::u::t):=rfl
theorem of0 (x b:IV) (l:List IV) (k:List IV→Option β):Jq (x::l) 0 b k=k (b::l):=rfl
theorem of1 (x y b:IV) (l:List IV) (k:List IV→Option β):Jq (x::y::l) 1 b k=k (x::b::l):=rfl
theorem of2 (x y z b:IV) (l:List IV) (k:List IV→Option β):Jq (x::y::z::l) 2 b k=k (x::y::b::l):=rfl
theorem of3 (x y z u b:IV) (l:List IV) (k:List IV→Option β):Jq (x::y::z::u::l) 3 b k=k (x::y::z::b::l):=rfl
theorem of6 (x y z u v w s b:IV) (l:List IV) (k:List IV→Option β):Jq (x::y::z::u::v::w::s::l) 6 b k=k (x::y::z::u::v::w::b::l):=rfl
theorem Au7 (size:Nat) (a:IV) (cs:List FV) (h:Hp) (k:Hp→List Ref→List Ref→Option β):Ae size a (.fv (.agg cs)) h k =
  El a (fun r o=>Ep r h fun b=>Gt b fun cells=>cond (and (Nat.beq cs.length size) (EN cs)) (DA cells o cs fun cells=>Gs r (.row cells false) h fun h=>k h [r] [r]) none) fun _ _=>none:=rfl
theorem Aq0 (s:Nat) (x:IV):F6 (.own s) x=true:=rfl
theorem Av3 (s:Nat) (a b c:IV) (ha:a.one=true) (hb:b.one=true) (hc:c.one=true) (own:List (Nat×Blk)) (ext:List Blk) (k:Hp→List Ref→List Ref→Option β) :
  Ae 3 (.ptr (.own s) 0) (.agg [a,b,c]) ⟨own,ext⟩ k=I8 own s fun bl=>Gt bl fun cells=>cond (Nat.ble 3 cells.length) (Gs (.own s) (.row (A3 cells 0 [a,b,c]) false) ⟨own,ext⟩ fun h=>k h [.own s] [.own s]) none:=by
 show I8 own s (fun bl=>Gt bl fun cells=>if IV.alive (.agg [a,b,c])=true∧(IV.cells (.agg [a,b,c])).length=3∧0+3≤cells.length∧(IV.cells (.agg [a,b,c])).all IV.one=true∧F6 (.own s) (.agg [a,b,c])=true then
  spK (A3 cells 0 (IV.cells (.agg [a,b,c]))) fun cells=>Gs (.own s) (.row cells false) ⟨own,ext⟩ fun h=>k h [.own s] [.own s] else none)=_
 congr 1
 funext bl
 congr 1
 funext cells
 by_cases h3:3≤cells.length
 ·rw [if_pos ⟨rfl,rfl,by omega,by simp [IV.cells,ha,hb,hc],rfl⟩,GW,BU,decide_eq_true h3];rfl
 ·rw [if_neg (fun h=>h3 (by omega)),BU,decide_eq_false h3];rfl
theorem sc3 (a b c x y z:IV):A3 [x,y,z] 0 [a,b,c]=[a,b,c]:=rfl
theorem AvE (a x:IV) (h:Hp) (k:Hp→List Ref→List Ref→Option β):B3 a x h k =
  cond x.one (El a (fun r o=>Ep r h fun b=>Gt b fun cells=>cond (F6 r x) (Jq cells o x fun cells=>Gs r (.row cells false) h fun h=>k h [r] [r]) none) fun _ _=>none) (Ae 1 a x h k):=rfl
theorem Avq (o:Nat) (r:Ref) (k:IV→Option β):Af o (.ptr r 0) k=k (.ptr r o):=by rw [Ane,Nat.zero_add]
theorem Aug (o:Nat) (cs:List FV) (k:IV→Option β):Af o (.fv (.fp cs 0)) k=k (.fv (.fp cs o)):=by rw [Aet,Nat.zero_add]
theorem Aui (r:Ref) (o:Nat) (k:IV→Option β):AX (.ptr r o) k=k (.ptr r o):=rfl
theorem AuA (cs:List FV) (o:Nat) (k:IV→Option β):AX (.fv (.fp cs o)) k=k (.fv (.fp cs o)):=rfl
theorem Afh (g:FuncId) (a b:List FV) (k:IV→Option β):AX (.fv (.func (.func g) a b)) k=k (.fv (.func (.func g) a b)):=rfl
theorem AuW (ix:Nat) (vs:List IV) (k:IV→Option β):Aq ix (.tuple vs) k=Dh vs ix k:=rfl
theorem AvI (ix:Nat) (vs:List FV) (k:IV→Option β):Aq ix (.fv (.tuple vs)) k=Dh vs ix fun v=>k (.fv v):=rfl
theorem Avu (o:Nat) (x:IV) (k:IV→Option β):Ari o x k=asAgg x (fun cs=>Dh cs o k) fun cs=>Dh cs o fun v=>k (.fv v):=rfl
theorem AvT (size o:Nat) (x:IV) (k:IV→Option β):AqJ size o x k=asAgg x (fun cs=>Fi cs o fun cs=>F4 cs size fun cs=>Ol cs k) fun cs=>Fi cs o fun cs=>F4 cs size fun cs=>k (.fv (.agg cs)):=rfl
theorem AtB (z:List IV) (pl:List (Nat×Nat×IV)) (k:IV→Option β):BL z pl k=L6 z pl fun cells=>Ol cells k:=rfl
theorem fk0 (z:List IV) (k:List IV→Option β):L6 z [] k=k z:=rfl
theorem fk1 (z:List IV) (o sz:Nat) (v:IV) (pl:List (Nat×Nat×IV)) (k:List IV→Option β):L6 z ((o,sz,v)::pl) k=K1 z o sz v fun z=>L6 z pl k:=rfl
theorem Arq {v:IV} (hv:v.one=true) (z:List IV) (o:Nat) (k:List IV→Option β):K1 z o 1 v k=Jq z o v k:=by
 unfold K1;cases v with
 | fv w =>
  show cond (IX w) _ _=_
  have:IX w=true:=by cases w<;>first | rfl | cases hv
  rw [this];rfl
 | _=>show AcF _ _ _ _ _=_;unfold AcF;rw [hv];rfl
theorem ApO (z:List IV) (o sz:Nat) (cs:List FV) (k:List IV→Option β):K1 z o sz (.fv (.agg cs)) k=cond (Nat.beq cs.length sz) (DA z o cs k) none:=rfl
theorem nb3 (a b c:FV):Nat.beq [a,b,c].length 3=true:=rfl
theorem nb4 (a b c d:FV):Nat.beq [a,b,c,d].length 4=true:=rfl
theorem nb7 (a b c d e f g:FV):Nat.beq [a,b,c,d,e,f,g].length 7=true:=rfl
theorem nl3 (a b c:IV):Nat.ble 3 [a,b,c].length=true:=rfl
theorem Apw:(and true true)=true:=rfl
end
end Idl
end Go.Proofs.Ytdibmackcbpniaa
namespace Go.Proofs.Ytdibmackcbpniaa
namespace Idl
section
variable {β:Type} {E:Env} {t:TypeId}
theorem AuS (n:Int):IV.fv (.int .i64 n)=iv n:=rfl
def BC (n:Int):Int:=IntKind.i64.wrap n
theorem Az {n:Int} (h1:-9223372036854775808≤n) (h2:n≤9223372036854775807):BC n=n:=by
 show (if (true && decide ((n % (18446744073709551616:Int)) ≥ (9223372036854775808:Int)))=true then (n % (18446744073709551616:Int)) - (18446744073709551616:Int) else (n % (18446744073709551616:Int)))=n
 by_cases h:0≤n
 ·have e:n % (18446744073709551616:Int)=n:=by omega
  have e2:¬ n ≥ (9223372036854775808:Int):=by omega
  rw [e,decide_eq_false e2];rfl
 ·have e:n % (18446744073709551616:Int)=n+18446744073709551616:=by omega
  have e2:n+18446744073709551616 ≥ (9223372036854775808:Int):=by omega
  rw [e,decide_eq_true e2];simp
theorem As9 (a b:Int) (k:IV→Option β):Bv E t (iv a) (iv b) k=k (iv (BC (a+b))):=by
 have hg:CC E t .add (iv a) (iv b) k=k (iv (BC (a+b))):=by
  rw [CC,Cu];rfl
 cases a with
 | negSucc a=>exact hg
 | ofNat a=>cases b with
  | negSucc b=>exact hg
  | ofNat b =>
   show cond (Nat.ble (a+b) 9223372036854775807) (MQ (a+b) k) _=_
   rw [BU];by_cases h:a+b≤9223372036854775807
   ·rw [decide_eq_true h]
    show MQ (a+b) k=_
    rw [Ds]
    have:BC (Int.ofNat a+Int.ofNat b)=((a+b:Nat):Int):=by
     rw [Az (by simp only [Int.ofNat_eq_natCast];omega) (by simp only [Int.ofNat_eq_natCast];omega)];simp only [Int.ofNat_eq_natCast];omega
    rw [this]
   ·rw [decide_eq_false h];exact hg
theorem Atj (a b:Int) (k:IV→Option β):Bd E t (iv a) (iv b) k=k (iv (BC (a - b))):=by
 have hg:CC E t .sub (iv a) (iv b) k=k (iv (BC (a - b))):=by
  rw [CC,Cu];rfl
 cases a with
 | negSucc a=>exact hg
 | ofNat a=>cases b with
  | negSucc b=>exact hg
  | ofNat b =>
   show cond (and (Nat.ble b a) (Nat.ble a 9223372036854775807)) (MQ (a - b) k) _=_
   rw [BU,BU];by_cases h:b≤a∧a≤9223372036854775807
   ·rw [decide_eq_true h.1,decide_eq_true h.2]
    show MQ (a - b) k=_
    rw [Ds]
    have:BC (Int.ofNat a - Int.ofNat b)=((a - b:Nat):Int):=by
     rw [Az (by simp only [Int.ofNat_eq_natCast];omega) (by simp only [Int.ofNat_eq_natCast];omega)];simp only [Int.ofNat_eq_natCast];omega
    rw [this]
   ·have:(decide (b≤a) && decide (a≤9223372036854775807))=false:=by
     rw [← Bool.decide_and];exact decide_eq_false h
    rw [show and (decide (b≤a)) (decide (a≤9223372036854775807))=false from this]
    exact hg
theorem As2 (a b:Int) (k:IV→Option β):CC E t .mul (iv a) (iv b) k=k (iv (BC (a * b))):=by
 rw [CC,Cu];rfl
theorem Ahk {b:Int} (hb:b≠0) (a:Int) (k:IV→Option β):CC E t .quo (iv a) (iv b) k=k (iv (BC (a.tdiv b))):=by
 rw [CC,Cu]
 have:Gq E .quo t (iv a) (iv b)=some (iv (BC (a.tdiv b))):=by
  show (Gz (Op.intDiv .quo .i64 a b)).bind IT=_
  simp only [Op.intDiv,hb,if_false];rfl
 rw [this];rfl
theorem Oc {b:Int} (hb:b≠0) (a:Int) (k:IV→Option β):CC E t .rem (iv a) (iv b) k=k (iv (a.tmod b)):=by
 rw [CC,Cu]
 have:Gq E .rem t (iv a) (iv b)=some (iv (a.tmod b)):=by
  show (Gz (Op.intDiv .rem .i64 a b)).bind IT=_
  simp only [Op.intDiv,hb,if_false];rfl
 rw [this];rfl
theorem AvB (a b:Int) (k:IV→Option β):AQ E t (iv a) (iv b) k=k (.fv (.bool (decide (a=b)))):=Auh a b k
theorem Av0 (a b:Int) (k:IV→Option β):Cg E t (iv a) (iv b) k=k (.fv (.bool (!decide (a=b)))):=AsY a b k
theorem Avj (a b:Int) (k:IV→Option β):GM E t (iv a) (iv b) k=k (.fv (.bool (decide (a<b)))):=AtG a b k
theorem AvR (a b:Int) (k:IV→Option β):leS E t (iv a) (iv b) k=k (.fv (.bool (decide (a≤b)))):=AsT a b k
theorem Ave (a b:Int) (k:IV→Option β):K5 E t (iv a) (iv b) k=k (.fv (.bool (decide (b<a)))):=by
 rw [K5,Kj (fun a b=>by
  show some (IV.fv (.bool (decide ((a:Int) > (b:Int)))))=_
  rw [BU];congr 3;exact decide_eq_decide.2 (by omega))]
 rfl
theorem Au9 (a b:Int) (k:IV→Option β):VX E t (iv a) (iv b) k=k (.fv (.bool (decide (b≤a)))):=by
 rw [VX,Kj (fun a b=>by
  show some (IV.fv (.bool (decide ((a:Int) ≥ (b:Int)))))=_
  rw [BU];congr 3;exact decide_eq_decide.2 (by omega))]
 rfl
theorem As7 (a b:Bool) (hT:E.T t=some ⟨1,1,.bool,[.fv (.bool false)]⟩) (k:IV→Option β):AQ E t (.fv (.bool a)) (.fv (.bool b)) k=k (.fv (.bool (a == b))):=by
 show CC E t .eql _ _ k=_
 rw [CC,Cu]
 have:Gq E .eql t (.fv (.bool a)) (.fv (.bool b))=some (.fv (.bool (a == b))):=by
  simp only [Gq,hT,PM]
 rw [this];rfl
theorem Atx (b:Bool) (k:IV→Option β):CI (Ji .not (.fv (.bool b))) k=k (.fv (.bool !b)):=AsM b k
theorem Avy (a b:Option β):Aj (.fv (.bool true)) a b=a:=rfl
theorem Av6 (a b:Option β):Aj (.fv (.bool false)) a b=b:=rfl
theorem AuQ (c:Prop) [Decidable c] (a b:Option β):Aj (.fv (.bool (decide c))) a b=if c then a else b:=Apd c a b
theorem AvK (c:Prop) [Decidable c] (a b:Option β):Aj (.fv (.bool (!decide c))) a b=if c then b else a:=by
 by_cases h:c
 ·rw [decide_eq_true h,if_pos h];rfl
 ·rw [decide_eq_false h,if_neg h];rfl
theorem AvQ (c:Bool) (a b:Option β):Aj (.fv (.bool c)) a b=if c=true then a else b:=by
 cases c<;>rfl
theorem AvY (c a b:IV) (k:IV→Option β):AH c a b k=Aj c (k a) (k b):=rfl
theorem Auy {b:Bool} (hb:b=true) (h:Hp) (m:(IV→Hp→List Ref→List Ref→Option β)→Option β) (k:IV→Hp→List Ref→List Ref→Option β):Ac (.fv (.bool b)) true h m k=m k:=by rw [hb];rfl
theorem At3 {b:Bool} (hb:b=false) (h:Hp) (m:(IV→Hp→List Ref→List Ref→Option β)→Option β) (k:IV→Hp→List Ref→List Ref→Option β):Ac (.fv (.bool b)) false h m k=m k:=by rw [hb];rfl
theorem AsF {b:Bool} (hb:b=true) (h:Hp) (m:(IV→Hp→List Ref→List Ref→Option β)→Option β) (k:IV→Hp→List Ref→List Ref→Option β):Ac (.fv (.bool b)) false h m k=k EU h [] []:=by rw [hb];rfl
theorem AtA {b:Bool} (hb:b=false) (h:Hp) (m:(IV→Hp→List Ref→List Ref→Option β)→Option β) (k:IV→Hp→List Ref→List Ref→Option β):Ac (.fv (.bool b)) true h m k=k EU h [] []:=by rw [hb];rfl
theorem Au3 (w:Bool) (h:Hp) (m:(IV→Hp→List Ref→List Ref→Option β)→Option β) (k:IV→Hp→List Ref→List Ref→Option β):Ac EU w h m k=k EU h [] []:=rfl
theorem ch0 (rd wr:List Ref) (a:Option β):Ab [] rd wr a=a:=rfl
theorem ch1 (q1 q2:List Ref) (l:List (List Ref×List Ref)) (rd wr:List Ref) (a:Option β):Ab ((q1,q2)::l) rd wr a=cond (VW q2 rd) (cond (VW q2 wr) (cond (VW wr q1) (Ab l rd wr a) none) none) none:=rfl
theorem dj0 (b:List Ref):VW [] b=true:=rfl
theorem djn:∀(a:List Ref),VW a []=true
 | []=>rfl
 | _::a=>djn a
theorem dj1 (r:Ref) (a b:List Ref):VW (r::a) b=cond (JO r b) (VW a b) false:=rfl
theorem an0 (r:Ref):JO r []=true:=rfl
theorem an1 (r s:Ref) (l:List Ref):JO r (s::l)=cond (KZ r s) (JO r l) false:=rfl
theorem Avm {i j:Nat} (h:(i == j)=false):KZ (.own i) (.own j)=true:=by
 show not (Nat.beq i j)=true
 rw [show Nat.beq i j=false from Amx h];rfl
theorem Ath (i j:Nat):KZ (.own i) (.ext j)=true:=rfl
theorem Atp (i j:Nat):KZ (.ext i) (.own j)=true:=rfl
theorem AvG (v:IV) (h:Hp):Am [v] h=some (v,h):=rfl
theorem AvV (h:Hp):Am [] h=some (.fv (.tuple []),h):=rfl
theorem AuR (a b:IV) (h:Hp):Am [a,b] h=WP [a,b] fun v=>some (v,h):=rfl
theorem Avp (a b c:IV) (h:Hp):Am [a,b,c] h=WP [a,b,c] fun v=>some (v,h):=rfl
theorem AuZ (a b c d:IV) (h:Hp):Am [a,b,c,d] h=WP [a,b,c,d] fun v=>some (v,h):=rfl
theorem Aty (es:List FV) (k:IV→Option β):Bz (.fv (.sl es)) k=k (iv es.length):=Ds ..
theorem Asy (k:IV→Option β):Bz .nils k=k (iv 0):=rfl
theorem Atb (es:List FV) (k:IV→Option β):Bz (.clip es) k=k (iv es.length):=Ds ..
theorem AsQ (r:Ref) (es:List FV) (k:IV→Option β):Bz (.app r es) k=k (iv es.length):=Ds ..
theorem Asv (r:Ref) (sz n:Nat) (k:IV→Option β):Bz (.slc r sz n) k=k (iv n):=Ds ..
theorem Bn {size:Nat} {es:List FV} {n:Nat} {el:FV} (he:es[n]?=some el) (hl:el.cells.length=size) (k:IV→Option β):AP size (.fv (.sl es)) (iv n) k=k (.fv (.fp el.cells 0)):=AoF he hl k
theorem Ar2 {size:Nat} {r:Ref} {es:List FV} {n:Nat} {el:FV} (he:es[n]?=some el) (hl:el.cells.length=size) (k:IV→Option β):AP size (.app r es) (iv n) k=k (.fv (.fp el.cells 0)):=AoF he hl k
theorem ApX {size:Nat} {es:List FV} {n:Nat} {el:FV} (he:es[n]?=some el) (hl:el.cells.length=size) (k:IV→Option β):AP size (.clip es) (iv n) k=k (.fv (.fp el.cells 0)):=AoF he hl k
theorem Au5 {size sz len:Nat} {r:Ref} {n:Nat} (hn:n<len) (hs:sz=size) (k:IV→Option β):AP size (.slc r sz len) (iv n) k=k (.ptr r (n * sz)):=by
 show cond (and (Nat.ble (Nat.succ n) len) (Nat.beq sz size)) (Em (n * sz) fun o=>k (.ptr r o)) none=_
 rw [BU,decide_eq_true (show Nat.succ n≤len from hn),hs,show Nat.beq size size=true from Nat.beq_refl size]
 simp only [Bool.and_self,cond_true];rw [B4]
theorem Aly (size:Nat) (cs:List FV) (es:List FV) (hl:cs.length=size) (k:IV→Option β):AP size (.fv (.sl (.agg cs::es))) (iv 0) k=k (.fv (.fp cs 0)):=Bn (el:=.agg cs) (n:=0) rfl hl k
theorem AmV (size:Nat) (cs:List FV) (e:FV) (es:List FV) (hl:cs.length=size) (k:IV→Option β):AP size (.fv (.sl (e :: .agg cs::es))) (iv 1) k=k (.fv (.fp cs 0)):=Bn (el:=.agg cs) (n:=1) rfl hl k
theorem AmY (size:Nat) (cs:List FV) (e e':FV) (es:List FV) (hl:cs.length=size) (k:IV→Option β):AP size (.fv (.sl (e::e' :: .agg cs::es))) (iv 2) k=k (.fv (.fp cs 0)):=Bn (el:=.agg cs) (n:=2) rfl hl k
theorem AmK (size:Nat) (cs:List FV) (e e' e'':FV) (es:List FV) (hl:cs.length=size) (k:IV→Option β):AP size (.fv (.sl (e::e'::e'' :: .agg cs::es))) (iv 3) k=k (.fv (.fp cs 0)):=Bn (el:=.agg cs) (n:=3) rfl hl k
def Fz (v:IV) (own:List (Nat×Blk)) (w:FV):Prop:=∃u lg,∀(e:Option (IV×Hp)) (K:FV→List (Ref×Blk)→List Ref→Option (IV×Hp)),Gh 12 v ⟨own,[]⟩ [] e K=K w u lg
def Bc (r:Option (IV×Hp)) (w:FV):Prop:=∃v own,r=some (v,⟨own,[]⟩) ∧
 (Fz v own w∨((∀(e:Option (IV×Hp)) (K:FV→List (Ref×Blk)→List Ref→Option (IV×Hp)),Gh 12 v ⟨own,[]⟩ [] e K=e)∧∃u,(CR 4096 v).run ⟨own,[]⟩=some (w,u)))
def Aqt (r:Option (IV×Hp)) (w:FV):Prop:=∃v own,r=some (v,⟨own,[]⟩)∧Fz v own w
theorem AsG (w:FV) (own:List (Nat×Blk)):Fz (.fv w) own w:=⟨[],[],fun _ _=>rfl⟩
theorem An (w:FV) (own:List (Nat×Blk)):Bc (some (.fv w,⟨own,[]⟩)) w:=⟨_,own,rfl,.inl (AsG w own)⟩
def GR:IV→Option FV
 | .fv v=>some v
 | .nils=>some (.sl [])
 | .emp=>some (.sl [])
 | .clip es=>some (.sl es)
 | .app _ es=>some (.sl es)
 | _=>none
def Dc:List IV→Option (List FV)
 | []=>some []
 | v::l=>(GR v).bind fun x=>(Dc l).map fun xs=>x::xs
def Bl (v:IV):Option FV:=match v with
 | .agg cs=>if cs.length≤8 then (Dc cs).map .agg else none
 | v=>GR v
def BZ:List IV→Option (List FV)
 | []=>some []
 | v::l=>(Bl v).bind fun x=>(BZ l).map fun xs=>x::xs
theorem AsN (v:FV):Bl (.fv v)=some v:=rfl
theorem AjX:Bl .nils=some (.sl []):=rfl
theorem ArN:Bl .emp=some (.sl []):=rfl
theorem All (es:List FV):Bl (.clip es)=some (.sl es):=rfl
theorem Aqs (r:Ref) (es:List FV):Bl (.app r es)=some (.sl es):=rfl
theorem AsI (v:FV):GR (.fv v)=some v:=rfl
theorem AnJ:GR .nils=some (.sl []):=rfl
theorem AqG:GR .emp=some (.sl []):=rfl
theorem AlC (es:List FV):GR (.clip es)=some (.sl es):=rfl
theorem Aqv (r:Ref) (es:List FV):GR (.app r es)=some (.sl es):=rfl
theorem AvM {a b c:IV} {x y z:FV} (ha:GR a=some x) (hb:GR b=some y) (hc:GR c=some z):Bl (.agg [a,b,c])=some (.agg [x,y,z]):=by
 show (if 3≤8 then (Dc [a,b,c]).map FV.agg else none)=_
 simp [Dc,ha,hb,hc]
theorem AvF {a b c d:IV} {x y z u:FV} (ha:GR a=some x) (hb:GR b=some y) (hc:GR c=some z) (hd:GR d=some u):Bl (.agg [a,b,c,d])=some (.agg [x,y,z,u]):=by
 show (if 4≤8 then (Dc [a,b,c,d]).map FV.agg else none)=_
 simp [Dc,ha,hb,hc,hd]
theorem An6 {v:IV} {x:FV} (d:Nat) (h:Hp) (lg:List Ref) (e:Option β) (k:FV→List (Ref×Blk)→List Ref→Option β) (hz:GR v=some x):Gh (d+1) v h lg e k=k x [] lg:=by
 cases v<;>first | (cases hz;rfl) | (cases hz)
theorem AfE (d:Nat) (h:Hp) (lg:List Ref) (e:Option β):∀(cs:List IV) (k:List FV→List (Ref×Blk)→List Ref→Option β) {xs:List FV},Dc cs=some xs→Ew (Gh (d+1)) cs h lg e k=k xs [] lg
 | [],k,xs,hz=>by cases hz;rfl
 | v::cs,k,xs,hz=>by
  simp only [Dc] at hz;cases h1:GR v with
  | none=>rw [h1] at hz;cases hz
  | some x =>
   rw [h1] at hz;cases h2:Dc cs with
   | none=>rw [h2] at hz;cases hz
   | some ys =>
    rw [h2] at hz;cases hz
    show Gh (d+1) v h lg e (fun y u lg=>Ew (Gh (d+1)) cs h lg e fun ys us lg=>Rt u us fun w=>k (y::ys) w lg)=_
    rw [An6 d h lg e _ h1,AfE d h lg e cs _ h2];rfl
theorem O8 {v:IV} {x:FV} (h:Hp) (lg:List Ref) (e:Option β) (k:FV→List (Ref×Blk)→List Ref→Option β) (hz:Bl v=some x):Gh 12 v h lg e k=k x [] lg:=by
 cases v with
 | agg cs =>
  simp only [Bl] at hz;split at hz
  ·rename_i hl;cases h2:Dc cs with
   | none=>rw [h2] at hz;cases hz
   | some ys =>
    rw [h2] at hz;cases hz
    show cond (Nat.ble cs.length 300) (Ew (Gh 11) cs h lg e fun cs u lg=>k (.agg cs) u lg) e=_
    rw [BU,decide_eq_true (show cs.length≤300 by omega)]
    exact AfE 10 h lg e cs _ h2
  ·cases hz
 | _=>exact An6 11 h lg e k hz
theorem Avd {v:IV} {x:FV} (hz:Bl v=some x) (own:List (Nat×Blk)):Fz v own x:=⟨[],[],fun e K=>O8 _ _ e K hz⟩
theorem A1 {v:IV} {x:FV} (hz:Bl v=some x) (own:List (Nat×Blk)):Bc (some (v,⟨own,[]⟩)) x:=⟨v,own,rfl,.inl (Avd hz own)⟩
theorem fr1 {v:IV} {x:FV} (n:Nat) (hz:GR v=some x):CR (n+1) v=.ret (x,[]):=by
 cases v<;>first | (cases hz;rfl) | (cases hz)
theorem YD:∀(cs:List IV) (n:Nat) {xs:List FV},cs.length+1<n→Dc cs=some xs→frzL n cs=.ret (xs,[])
 | [],n+1,xs,_,hz=>by cases hz;rfl
 | v::cs,n+2,xs,hn,hz=>by
  simp only [Dc] at hz;cases h1:GR v with
  | none=>rw [h1] at hz;cases hz
  | some x =>
   rw [h1] at hz;cases h2:Dc cs with
   | none=>rw [h2] at hz;cases hz
   | some ys =>
    rw [h2] at hz;cases hz;simp only [Aym] at hn;simp only [frzL,fr1 n h1,Rd.bind,YD cs (n+1) (by omega) h2];rfl
theorem frp {v:IV} {x:FV} (n:Nat) (hn:20<n) (hz:Bl v=some x):CR n v=.ret (x,[]):=by
 cases n with
 | zero=>omega
 | succ n =>
  cases v with
  | agg cs =>
   simp only [Bl] at hz;split at hz
   ·rename_i hl;cases h2:Dc cs with
    | none=>rw [h2] at hz;cases hz
    | some ys =>
     rw [h2] at hz;cases hz;simp only [CR,YD cs n (by omega) h2,Rd.bind]
   ·cases hz
  | _=>exact fr1 n hz
theorem An2:∀(cs:List IV) (n:Nat) {xs:List FV},cs.length+30<n→BZ cs=some xs→frzL n cs=.ret (xs,[])
 | [],n+1,xs,_,hz=>by cases hz;rfl
 | v::cs,n+1,xs,hn,hz=>by
  simp only [BZ] at hz;cases h1:Bl v with
  | none=>rw [h1] at hz;cases hz
  | some x =>
   rw [h1] at hz;cases h2:BZ cs with
   | none=>rw [h2] at hz;cases hz
   | some ys =>
    rw [h2] at hz;cases hz;simp only [Aym] at hn;simp only [frzL,frp n (by omega) h1,Rd.bind,An2 cs n (by omega) h2];rfl
theorem Aw {vs:List IV} {xs:List FV} (hz:BZ vs=some xs) (hl:vs.length≤100) (own:List (Nat×Blk)):Bc (some (.tuple vs,⟨own,[]⟩)) (.tuple xs) :=
 ⟨_,own,rfl,.inr ⟨fun _ _=>rfl,[],by
  show (CR (4095+1) (.tuple vs)).run _=_
  simp only [CR,An2 vs 4095 (by omega) hz,Rd.bind];rfl⟩⟩
theorem Ao0:BZ []=some []:=rfl
theorem Af5 {a b:IV} {x y:FV} (ha:Bl a=some x) (hb:Bl b=some y):BZ [a,b]=some [x,y]:=by simp [BZ,ha,hb]
theorem AkB {a b c:IV} {x y z:FV} (ha:Bl a=some x) (hb:Bl b=some y) (hc:Bl c=some z):BZ [a,b,c]=some [x,y,z]:=by simp [BZ,ha,hb,hc]
theorem Auk {a b c d:IV} {x y z u:FV} (ha:Bl a=some x) (hb:Bl b=some y) (hc:Bl c=some z) (hd:Bl d=some u):BZ [a,b,c,d]=some [x,y,z,u]:=by simp [BZ,ha,hb,hc,hd]
theorem AeN {a:IV} {x:FV} (ha:Bl a=some x):BZ [a]=some [x]:=by simp [BZ,ha]
theorem Hc:∀(args:List IV) {vs:List FV},BZ args=some vs→Bs [] args=.ret (vs.map .fv,[],[])
 | [],vs,hz=>by cases hz;rfl
 | v::l,vs,hz=>by
  simp only [BZ] at hz;cases h1:Bl v with
  | none=>rw [h1] at hz;cases hz
  | some x =>
   rw [h1] at hz;cases h2:BZ l with
   | none=>rw [h2] at hz;cases hz
   | some ys =>
    rw [h2] at hz;cases hz;simp only [Bs,frp 4096 (by omega) h1,Rd.bind,Hc l h2];rfl
theorem fz0 (keep:List Bool) (h:Hp) (lg:List Ref) (e:Option β) (k:List IV→List Ref→List (Ref×Blk)→List Ref→Option β):fzA [] keep h lg e k=k [] [] [] lg:=rfl
theorem Ag8 (x:IV) (l:List IV) (ks:List Bool) (h:Hp) (lg:List Ref) (e:Option β) (k:List IV→List Ref→List (Ref×Blk)→List Ref→Option β) :
  fzA (x::l) (true::ks) h lg e k=El x (fun r o=>fzA l ks h lg e fun vs rs us lg=>k (.ptr r o::vs) (r::rs) us lg) fun _ _=>e:=rfl
theorem AnB (x:IV) (l:List IV) (ks:List Bool) (h:Hp) (lg:List Ref) (e:Option β) (k:List IV→List Ref→List (Ref×Blk)→List Ref→Option β) :
  fzA (x::l) (false::ks) h lg e k=Gh 12 x h lg e fun y u lg=>fzA l ks h lg e fun vs rs us lg=>Rt u us fun w=>k (.fv y::vs) rs w lg:=rfl
section
variable (d:Nat) (h:Hp) (lg:List Ref) (e:Option β) (k:FV→List (Ref×Blk)→List Ref→Option β)
theorem Asa (cs:List IV):Gh 12 (.agg cs) h lg e k=cond (Nat.ble cs.length 300) (Ew (Gh 11) cs h lg e fun cs u lg=>k (.agg cs) u lg) e:=rfl
theorem Aq1 (s:Nat) (off:Nat):Gh 12 (.ptr (.own s) off) h lg e k=Ep (.own s) h fun b=>Ez b fun cells=>cond (Nat.ble cells.length 300) (Ew (Gh 11) cells h (.own s::lg) e fun cs u lg=>k (.fp cs off) ((.own s,.row cells true)::u) lg) e:=rfl
theorem An8 (v:FV):Gh 11 (.fv v) h lg e k=k v [] lg:=rfl
theorem fl0 (g:FzK β) (k:List FV→List (Ref×Blk)→List Ref→Option β):Ew g [] h lg e k=k [] [] lg:=rfl
theorem fl1 (g:FzK β) (x:IV) (l:List IV) (k:List FV→List (Ref×Blk)→List Ref→Option β):Ew g (x::l) h lg e k=g x h lg e fun y u lg=>Ew g l h lg e fun ys us lg=>Rt u us fun w=>k (y::ys) w lg:=rfl
end
def AeJ (rs:List Ref) (r:Option (IV×Hp)) (h:Hp) (u:List (Ref×Blk)) (lg:List Ref) (e:Option (IV×Hp)) (g:List Ref→Option (IV×Hp)) (k:IV→Hp→List Ref→List Ref→Option (IV×Hp)):Option (IV×Hp):=match rs with
 | []=>(match r with
  | none=>none
  | some p=>match p with
   | (v,h')=>match h' with
    | ⟨own,ext⟩=>List.casesOn (motive:=fun _=>Option (IV×Hp)) ext (Gh 12 v ⟨own,[]⟩ [] e fun w _ _=>On u h fun h2=>k (.fv w) h2 lg (Bo u)) fun _ _=>none)
 | r::rs=>g (r::rs)
theorem OS (keep:List Bool) (ih:Aa) (f:FuncId) (args:List IV) (h:Hp) (k:IV→Hp→List Ref→List Ref→Option (IV×Hp)):Ai keep false false ih f args h k =
  fzA args keep h [] (Et keep false false ih f args h k) fun vs rs u lg=>AeJ rs (ih f vs ⟨[],[]⟩) h u lg (Et keep false false ih f args h k) (fun rs=>match rs with
   | []=>none
   | r::rs=>(match h with
    | ⟨own,ext⟩=>cond (Oh 400 (r::rs) 0 ext) (match ih f vs ⟨[],ext⟩ with
     | none=>none
     | some p=>match p with
      | (v,h')=>match h' with
       | ⟨own',ext'⟩=>cond (and (Nat.beq ext'.length ext.length) (okB ext.length ext'))
        (Gh 12 v ⟨own',ext'⟩ [] (Et keep false false ih f args h k) fun w _ _=>On u ⟨own,ext'⟩ fun h2=>k (.fv w) h2 ((Dq ext.length).reverse++lg) (Bo u++Dq ext.length)) none)
     (Et keep false false ih f args h k))) k:=by
 unfold Ai;simp only [cond_false];congr 1
theorem AhC:∀(args:List IV) {vs:List FV} (h:Hp) (lg:List Ref) (e:Option β) (k:List IV→List Ref→List (Ref×Blk)→List Ref→Option β),BZ args=some vs→fzA args [] h lg e k=k (vs.map .fv) [] [] lg
 | [],vs,h,lg,e,k,hz=>by cases hz;rfl
 | v::l,vs,h,lg,e,k,hz=>by
  simp only [BZ] at hz;cases h1:Bl v with
  | none=>rw [h1] at hz;cases hz
  | some x =>
   rw [h1] at hz;cases h2:BZ l with
   | none=>rw [h2] at hz;cases hz
   | some ys =>
    rw [h2] at hz;cases hz
    show Gh 12 v h lg e (fun y u lg=>fzA l [] h lg e fun vs rs us lg=>Rt u us fun w=>k (.fv y::vs) rs w lg)=_
    rw [O8 h lg e _ h1,AhC l h lg e _ h2];rfl
theorem Ed (f:Ref→Option Ref):∀l:List FV,IV.ren.renL f (l.map .fv)=some (l.map .fv)
 | []=>rfl
 | v::l=>by
  simp only [Ayo,IV.ren.renL,IV.ren,Ed f l];rfl
theorem UR {ih:Aa} {f:FuncId} {args:List IV} {vs:List FV} {w:FV} (hz:BZ args=some vs) (hr:Bc (ih f (vs.map .fv) ⟨[],[]⟩) w) (h:Hp) (k:IV→Hp→List Ref→List Ref→Option (IV×Hp)) :
  Ai [] false false ih f args h k=k (.fv w) h [] []:=by
 obtain ⟨v,own,e,hv⟩:=hr;have hD:(∃u,(CR 4096 v).run ⟨own,[]⟩=some (w,u))→Et [] false false ih f args h k=k (.fv w) h [] []:=by
  rintro ⟨u,hu⟩;unfold Et;simp only [Hc args hz,Rd.runLog,B9,Ed,Ayn,A6,CZ (CD 3),CZ C5,Eu,Bool.false_eq_true,if_false,e,hu,Ayl,IV.ren]
  show (match laid h ([]++(Bo []).zip []) with | none=>none | some h'=>fH h' fun h'=>fV 3 (.fv w) fun res=>k res h' [] _)=_
  simp only [Bo,Ayn,List.zip_nil_left,List.append_nil,laid,JS,CD]
 rw [OS,AhC args h [] _ _ hz,e];simp only [AeJ];rcases hv with ⟨u',lg',hf⟩ | ⟨hf,hu⟩
 ·rw [hf];rfl
 ·rw [hf];exact hD hu
theorem FA {ih:Aa} {f:FuncId} {w:FV} (hr:Bc (ih f [] ⟨[],[]⟩) w) (h:Hp) (k:IV→Hp→List Ref→List Ref→Option (IV×Hp)) :
  Ai [] false false ih f [] h k=k (.fv w) h [] []:=UR (vs:=[]) rfl hr h k
theorem Av {ih:Aa} {f:FuncId} {a:IV} {x w:FV} (hr:Bc (ih f [.fv x] ⟨[],[]⟩) w) (ha:Bl a=some x) (h:Hp) (k:IV→Hp→List Ref→List Ref→Option (IV×Hp)) :
  Ai [] false false ih f [a] h k=k (.fv w) h [] []:=UR (AeN ha) hr h k
theorem Ag {ih:Aa} {f:FuncId} {a b:IV} {x y w:FV} (hr:Bc (ih f [.fv x,.fv y] ⟨[],[]⟩) w) (ha:Bl a=some x) (hb:Bl b=some y) (h:Hp) (k:IV→Hp→List Ref→List Ref→Option (IV×Hp)) :
  Ai [] false false ih f [a,b] h k=k (.fv w) h [] []:=UR (Af5 ha hb) hr h k
theorem AL {ih:Aa} {f:FuncId} {a b c:IV} {x y z w:FV} (hr:Bc (ih f [.fv x,.fv y,.fv z] ⟨[],[]⟩) w) (ha:Bl a=some x) (hb:Bl b=some y) (hc:Bl c=some z) (h:Hp) (k:IV→Hp→List Ref→List Ref→Option (IV×Hp)) :
  Ai [] false false ih f [a,b,c] h k=k (.fv w) h [] []:=UR (AkB ha hb hc) hr h k
theorem AI {ih:Aa} {f:FuncId} {a b c d:IV} {x y z u w:FV} (hr:Bc (ih f [.fv x,.fv y,.fv z,.fv u] ⟨[],[]⟩) w) (ha:Bl a=some x) (hb:Bl b=some y) (hc:Bl c=some z) (hd:Bl d=some u) (h:Hp)
  (k:IV→Hp→List Ref→List Ref→Option (IV×Hp)):Ai [] false false ih f [a,b,c,d] h k=k (.fv w) h [] []:=UR (Auk ha hb hc hd) hr h k
theorem H9 (v:IV) (s:Nat) (h:Hp) (k:IV→Hp→List Ref→List Ref→Option β):AD (.ret { eff:={ val:=v } }) s h k=k v h [] []:=by
 unfold AD;simp only [Rd.runLog,HP,CD];rfl
theorem gen_val' (v:IV) (s:Nat) (h:Hp) (k:IV→Hp→List Ref→List Ref→Option β):AD (Idl.val v) s h k=k v h [] []:=H9 v s h k
theorem DB {e:TypeId} {a b:Nat} {ei:TI} {z:List IV} (hT:E.T t=some ⟨a,b,.slice e,z⟩) (he:E.T e=some ei) {len:Nat} (hs:¬ (ei.size=0∨len * ei.size > 65536)) {parts:List (Nat×IV)} {cells:List FV}
  (hf:CF (fun j=>some (j * ei.size,ei.size)) (QQ len ei.zero) parts=some (cells.map .fv)) {s:Nat} {h:Hp} (k:IV→Hp→List Ref→List Ref→Option β) (hc:cells.length<65000:=by simp) :
  AD (Al E t len parts) s h k=k (.clip (BT ei.size len cells)) h [] []:=by
 have key:∀(l:List FV) (n:Nat),l.length<n→frzL n (l.map .fv)=.ret (l,[]):=by
  intro l
  induction l with
  | nil=>intro n hn;cases n with
   | zero=>simp at hn
   | succ n=>rfl
  | cons x l ih=>intro n hn;cases n with
   | zero=>simp at hn
   | succ n =>
    simp only [Aym] at hn;cases n with
    | zero=>omega
    | succ n =>
     simp only [Ayo,frzL,CR,Rd.bind];rw [ih (n+1) (by omega)];rfl
 have:Al E t len parts=.ret { eff:={ val:=.clip (BT ei.size len cells),upd:=[] } }:=by
  simp only [Al,hT,he,if_neg hs,hf];rw [key _ _ (by omega)];rfl
 rw [this,H9]
end
end Idl
end Go.Proofs.Ytdibmackcbpniaa
namespace Go.Proofs.Ytdibmackcbpniaa
namespace Idl
def XY:=Ayh @decide_true<|Ayh @decide_false<|Ayh @Bool.not_true<|Ayh @Bool.not_false<|Ayh @List.map_cons.{0,0}<|Ayh @List.map_nil.{0,0}<|Ayh @List.length_map.{0,0}<|Ayh @List.length_cons.{0}<|Ayh @List.length_nil.{0}<|Ayh @Int.natCast_zero<|Ayh @Int.natCast_one<|Ayh @Bool.false_eq_true<|Ayh @Bool.true_eq_false<|Ayh @decide_eq_true_eq<|Ayh @eq_self.{1}<|Ayh @Bool.and_true<|Ayh @Bool.true_and<|Ayh @Bool.and_false<|Ayh @Bool.false_and<|Ayh @Nat.zero_add<|@Int.cast_ofNat_Int
def XE:=Ayh @List.any_cons.{0}<|Ayh @List.any_nil.{0}<|Ayh @List.all_cons.{0}<|Ayh @List.all_nil.{0}<|Ayh @List.filter_cons.{0}<|Ayh @List.filter_nil.{0}<|Ayh @List.contains_cons.{0}<|Ayh @List.contains_nil.{0}<|Ayh @Bool.or_false<|Ayh @Bool.or_true<|Ayh @Bool.false_or<|Ayh @Bool.true_or<|Ayh @Bool.and_self<|Ayh @Bool.not_eq_true<|Ayh @BEq.rfl.{0}<|@beq_self_eq_true.{0}
def XX:=Ayh @n0<|Ayh @n1<|Ayh @n2<|Ayh @n3<|Ayh @n4<|Ayh @n5<|Ayh @n6<|Ayh @d0<|Ayh @d1<|Ayh @d2<|Ayh @d3<|Ayh @d4<|Ayh @t1<|Ayh @t2<|Ayh @t3<|Ayh @t4<|Ayh @t7<|Ayh @ap0<|Ayh @ap1<|Ayh @AsU<|Ayh @c_t<|Ayh @c_f<|Ayh @AfZ<|Ayh @Atw<|Ayh @As1<|Ayh @ApR<|Ayh @Aun<|Ayh @AtO<|Ayh @Ar5<|Ayh @Atg<|Ayh @Apf<|Ayh @Anp<|Ayh @Alu<|Ayh @sn0<|Ayh @AsL<|Ayh @AsO<|Ayh @Atv<|Ayh @At2<|Ayh @At9<|Ayh @Agp<|Ayh @AnD<|Ayh @ArG<|Ayh @Anu<|Ayh @AtF<|Ayh @Asz<|Ayh @Ak6<|Ayh @AiF<|Ayh @AmP<|Ayh @Aqd<|Ayh @Apr<|Ayh @ArA<|Ayh @Akh<|Ayh @Ap4<|Ayh @AqL<|Ayh @Ale<|Ayh @Aqa<|Ayh @Amo<|Ayh @As0<|Ayh @AtZ<|Ayh @Aiv<|Ayh @ApP<|Ayh @Alq<|Ayh @AgX<|Ayh @Ae0<|Ayh @Avg<|Ayh @WM<|Ayh @Al4<|Ayh @Atq<|Ayh @Aht<|Ayh @Apn<|Ayh @AqX<|Ayh @Aqk<|Ayh @Ao8<|Ayh @Asb<|Ayh @Aqb<|Ayh @Ar9<|Ayh @AtY<|Ayh @ApH<|Ayh @AiM<|Ayh @ApU<|Ayh @Ag0<|Ayh @AkW<|Ayh @Afi<|Ayh @AiZ<|Ayh @AkN<|Ayh @AlV<|Ayh @AgG<|Ayh @AsW<|Ayh @Aup<|Ayh @Avf<|Ayh @Avx<|Ayh @Ark<|Ayh @Ap1<|Ayh @wr0<|Ayh @wr1<|Ayh @sf0<|Ayh @sf1<|Ayh @sf2<|Ayh @sf3<|Ayh @sf4<|Ayh @of0<|Ayh @of1<|Ayh @of2<|Ayh @of3<|Ayh @of6<|Ayh @Au7<|Ayh @Aq0<|Ayh @Av3<|Ayh @sc3<|Ayh @AvE<|Ayh @Avq<|Ayh @Aug<|Ayh @Aui<|Ayh @AuA<|Ayh @Afh<|Ayh @AuW<|Ayh @AvI<|Ayh @Avu<|Ayh @AvT<|Ayh @AtB<|Ayh @fk0<|Ayh @fk1<|Ayh @Arq<|Ayh @ApO<|Ayh @nb3<|Ayh @nb4<|Ayh @nb7<|Ayh @nl3<|Ayh @Apw<|Ayh @As9<|Ayh @Atj<|Ayh @As2<|Ayh @Ahk<|Ayh @Oc<|Ayh @AvB<|Ayh @Av0<|Ayh @Avj<|Ayh @AvR<|Ayh @Ave<|Ayh @Au9<|Ayh @As7<|Ayh @Atx<|Ayh @Avy<|Ayh @Av6<|Ayh @AuQ<|Ayh @AvK<|Ayh @AvQ<|Ayh @AvY<|Ayh @Auy<|Ayh @At3<|Ayh @AsF<|Ayh @AtA<|Ayh @Au3<|Ayh @ch0<|Ayh @ch1<|Ayh @dj0<|Ayh @djn<|Ayh @dj1<|Ayh @an0<|Ayh @an1<|Ayh @Avm<|Ayh @Ath<|Ayh @Atp<|Ayh @AvG<|Ayh @AvV<|Ayh @AuR<|Ayh @Avp<|Ayh @AuZ<|Ayh @Aty<|Ayh @Asy<|Ayh @Atb<|Ayh @AsQ<|Ayh @Asv<|Ayh @Bn<|Ayh @Ar2<|Ayh @ApX<|Ayh @Au5<|Ayh @Aly<|Ayh @AmV<|Ayh @AmY<|Ayh @AmK<|Ayh @AsN<|Ayh @AjX<|Ayh @ArN<|Ayh @All<|Ayh @Aqs<|Ayh @AsI<|Ayh @AnJ<|Ayh @AqG<|Ayh @AlC<|Ayh @Aqv<|Ayh @AvM<|Ayh @AvF<|Ayh @Ao0<|Ayh @Af5<|Ayh @AkB<|Ayh @Auk<|Ayh @AeN<|Ayh @H9<|@gen_val'
def Ev (f:FuncId) (args:List IV) (w:FV):Prop:=∃N,∀n,N≤n→Bc (SS dt n f args ⟨[],[]⟩) w
theorem A2 {F:(List IV→Hp→Option (IV×Hp))→List IV→Hp→Option (IV×Hp)} {Q:Option (IV×Hp)→Prop} (P:Nat→List IV→Hp→Prop)
  (step:∀k V H rec,P k V H→(∀k' V' H',k' < k→P k' V' H'→Q (rec V' H'))→Q (F rec V H)):∀m k V H,k<m→P k V H→Q (Bh m F V H):=by
 intro m
 induction m with
 | zero=>intro k V H h;omega
 | succ m ih=>intro k V H hk hP;exact step k V H (Bh m F) hP fun k' V' H' h1 h2=>ih k' V' H' (by omega) h2
mutual
def Tm.wt:Tm→Nat
 | .mk _ _ l=>1+Tm.wtL l
def Tm.wtL:List Tm→Nat
 | []=>0
 | t::l=>t.wt+Tm.wtL l
end
theorem CO {t:Tm}:∀{l:List Tm},t∈l→t.wt≤Tm.wtL l
 | a::l,h=>by
  rcases List.mem_cons.1 h with rfl | h
  ·simp only [Tm.wtL];omega
  ·have:=CO h;simp only [Tm.wtL];omega
theorem DL:∀(l:List Tm),l.length≤Tm.wtL l
 | []=>Nat.zero_le _
 | (.mk _ _ k)::l=>by have:=DL l;simp only [Tm.wtL,Tm.wt,Aym];omega
theorem Du (t:Tm):0<t.wt:=by cases t;simp only [Tm.wt];omega
theorem Ah (op n:Int) (l:List Tm):(Tm.mk op n l).enc=.agg [.int .i64 op,.int .i64 n,.sl (l.map Tm.enc)]:=by simp only [Tm.enc,Aa9]
theorem AJ {l:List Tm} {i:Nat} {op n:Int} {k:List Tm} (h:l[i]?=some (.mk op n k)):(l.map Tm.enc)[i]?=some (.agg [.int .i64 op,.int .i64 n,.sl (k.map Tm.enc)]):=by
 rw [List.getElem?_map,h,Ayl,Ah]
theorem B7 {α:Type} {l pre rest:List α} {a:α} (h:l=pre++a::rest):l[pre.length]?=some a:=by
 rw [h,List.getElem?_append_right (Nat.le_refl _),Nat.sub_self];rfl
theorem BQ (a b c:FV):(FV.agg [a,b,c]).cells=[a,b,c]:=rfl
theorem A0 (a b c:FV):(FV.agg [a,b,c]).cells.length=3:=rfl
section
variable {β:Type} {E:Env}
def AgN (b:Blk) (n sz:Nat) (x:Option β):Option β:=match b with
 | .tok a s=>if a=n∧s=sz then x else none
 | _=>none
theorem FQ (n sz:Nat) (x:Option β):AgN (.tok n sz) n sz x=x:=by
 show (if n=n∧sz=sz then x else none)=x
 rw [if_pos ⟨rfl,rfl⟩]
inductive Plain2:IV→List FV→Prop
 | clip (es:List FV):Plain2 (.clip es) es
 | sl (es:List FV):Plain2 (.fv (.sl es)) es
 | app (r:Ref) (es:List FV):Plain2 (.app r es) es
theorem RC {x:IV} {es:List FV} (h:Plain2 x es):CR 4096 x=.ret (.sl es,[]):=by cases h<;>rfl
structure SliceT (E:Env) (t:TypeId) (size:Nat):Prop where
 h:∃a b e z ei,E.T t=some ⟨a,b,.slice e,z⟩∧E.T e=some ei∧ei.size=size∧size≠0∧ei.bytes≤100000
theorem Gj {t:TypeId} {size:Nat} (T:SliceT E t size) {x:IV} {es2:List FV} (hx:Plain2 x es2) (h1:Bm size es2=true) (hne:es2.isEmpty=false) (hb:es2.length≤1000000) {s0:IV} (hs:s0=.nils∨s0=.clip []) (s:Nat) (own:List (Nat×Blk)) (ext:List Blk)
  (k:IV→Hp→List Ref→List Ref→Option β):AD (AK E s false .append [t,t] [s0,x]) s ⟨own,ext⟩ k=C7 own s (Bk own s (.tok es2.length size) fun own=>k (.app (.own s) es2) ⟨own,ext⟩ [] [.own s]):=by
 obtain ⟨a,b,e,z,ei,hT,he,rfl,h0,hby⟩:=T.h;have hlen:¬ (Bm ei.size []=false∨(([]:List FV).length+es2.length) * ei.bytes > 140737488355328∨([]:List FV).length+es2.length > 1073741824):=by
  have:es2.length * ei.bytes≤1000000 * 100000:=Nat.mul_le_mul hb hby
  rintro (h | h | h)
  ·cases h
  ·simp only [List.length_nil,Nat.zero_add] at h;omega
  ·simp only [List.length_nil,Nat.zero_add] at h;omega
 have key:AK E s false .append [t,t] [s0,x]=.ret { eff:={ val:=.app (.own s) es2,upd:=[] },new:=some (.tok es2.length ei.size) }:=by
  show Dw E s t (some t) false s0 x=_
  simp only [Dw,hT,Option.bind_some,he,RC hx,Rd.bind,h0,h1,false_or,Bool.true_eq_false,if_false];rcases hs with rfl | rfl<;>simp only [Cb,if_neg hlen,hne,List.nil_append,Bool.false_eq_true,if_false]
 rw [key];unfold AD;simp only [Rd.runLog]
 show (Mr (some (.tok es2.length ei.size)) s ⟨own,ext⟩ fun h=>fV 3 (.app (.own s) es2) fun v=>k v h [] ([]++[.own s]))=_
 simp only [Mr,C5,CD];rfl
theorem Afw {t:TypeId} {size:Nat} (T:SliceT E t size) {x:IV} (hx:Plain2 x []) {s0:IV} (hs:s0=.nils∨s0=.clip []) (s:Nat) (h:Hp) (k:IV→Hp→List Ref→List Ref→Option β) :
  AD (AK E s false .append [t,t] [s0,x]) s h k=k s0 h [] []:=by
 obtain ⟨a,b,e,z,ei,hT,he,rfl,h0,hby⟩:=T.h;have hlen:¬ (Bm ei.size []=false∨(([]:List FV).length+([]:List FV).length) * ei.bytes > 140737488355328∨([]:List FV).length+([]:List FV).length > 1073741824):=by
  rintro (h | h | h)
  ·cases h
  ·simp at h
  ·simp at h
 have key:AK E s false .append [t,t] [s0,x]=.ret { eff:={ val:=s0,upd:=[] } }:=by
  show Dw E s t (some t) false s0 x=_
  have h1:Bm ei.size []=true:=rfl;simp only [Dw,hT,Option.bind_some,he,RC hx,Rd.bind,h0,h1,false_or,Bool.true_eq_false,if_false];rcases hs with rfl | rfl
  ·simp only [Cb];rw [if_neg hlen];simp
  ·simp only [Cb];rw [if_neg hlen];simp
 rw [key];exact H9 s0 s h k
theorem MB {t:TypeId} {size:Nat} (T:SliceT E t size) {x:IV} {es es2:List FV} (hx:Plain2 x es2) (h1:Bm size es2=true) (h2:Bm size es=true) (ho:(es2.all fun e=>e.cells.all FV.one)=true) (hb:es.length+es2.length≤1000000) (r s:Nat)
  (own:List (Nat×Blk)) (ext:List Blk) (k:IV→Hp→List Ref→List Ref→Option β):AD (AK E s false .append [t,t] [.app (.own r) es,x]) s ⟨own,ext⟩ k =
   I8 own r fun b=>AgN b es.length size (Bk own r (.tok (es.length+es2.length) size) fun own=>k (.app (.own r) (es++es2)) ⟨own,ext⟩ [.own r] [.own r]):=by
 obtain ⟨a,b,e,z,ei,hT,he,rfl,h0,hby⟩:=T.h;have hlen:¬ (Bm ei.size es=false∨(es.length+es2.length) * ei.bytes > 140737488355328∨es.length+es2.length > 1073741824):=by
  have:(es.length+es2.length) * ei.bytes≤1000000 * 100000:=Nat.mul_le_mul hb hby
  rintro (h | h | h)
  ·rw [h2] at h;cases h
  ·omega
  ·omega
 have key:(AK E s false .append [t,t] [.app (.own r) es,x]).runLog ⟨own,ext⟩ []=(Au r own).bind fun b=>match b with
   | .tok n sz=>if n=es.length∧sz=ei.size then some ({ eff:={ val:=.app (.own r) (es++es2),upd:=[(.own r,.tok (n+es2.length) sz)] } },[.own r]) else none
   | _=>none:=by
  show (Dw E s t (some t) false (.app (.own r) es) x).runLog _ _=_
  simp only [Dw,hT,Option.bind_some,he,RC hx,Rd.bind,h0,h1,false_or,Bool.true_eq_false,if_false,Cb,if_neg hlen,Rd.runLog,ho,and_true]
  show (match Au r own with | some b=>_ | none=>none)=_
  cases Au r own with
  | none=>rfl
  | some b =>
   cases b with
   | tok n sz =>
    simp only [Option.bind_some];by_cases hc:n=es.length∧sz=ei.size
    ·rw [if_pos hc,if_pos hc];rfl
    ·rw [if_neg hc,if_neg hc];rfl
   | _=>rfl
 unfold AD;rw [key,EH];cases hl:Au r own with
 | none=>simp
 | some b =>
  simp only [Option.bind_some];cases b with
  | tok n sz =>
   simp only [AgN];by_cases hc:n=es.length∧sz=ei.size
   ·rw [if_pos hc,if_pos hc];obtain ⟨rfl,rfl⟩:=hc
    show (fRf (.own r) fun q=>Ep q ⟨own,ext⟩ fun _=>fBk (.tok (es.length+es2.length) ei.size) fun b=>Gs q b ⟨own,ext⟩ fun h=>Mr none s h fun h=>fV 3 (.app (.own r) (es++es2)) fun v=>k v h [.own r] ([.own r]++[]))=_
    simp only [Sc,C5,CD,Mr,Gs,Ep];rw [EH,hl];rfl
   ·rw [if_neg hc,if_neg hc]
  | row _ _=>rfl
  | map _=>rfl
end
end Idl
end Go.Proofs.Ytdibmackcbpniaa
namespace Go.Proofs.Ytdibmackcbpniaa
namespace Idl
theorem Rl:EE.T 28=some ⟨1,24,.slice 30,[.nils]⟩:=by kernel_rfl
theorem tTm:EE.T 30=some ⟨3,40,.struct [(0,3),(1,3),(2,28)],[.fv (.int .i64 0),.fv (.int .i64 0),.nils]⟩:=by kernel_rfl
theorem sTm:SliceT EE 28 3:=⟨_,_,_,_,_,Rl,tTm,rfl,by decide,by decide⟩
theorem Jf (a:Tm) (s:Nat) (h:Hp) (k:IV→Hp→List Ref→List Ref→Option (IV×Hp)):AD (Al EE 28 1 [(0,.fv a.enc)]) s h k=k (.clip [a.enc]) h [] []:=by
 obtain ⟨o1,n1,k1⟩:=a;exact DB Rl tTm (by decide) (cells:=[.int .i64 o1,.int .i64 n1,.sl (Tm.enc.encL k1)]) rfl k
theorem Arr (a b:Tm) (s:Nat) (h:Hp) (k:IV→Hp→List Ref→List Ref→Option (IV×Hp)):AD (Al EE 28 2 [(0,.fv a.enc),(1,.fv b.enc)]) s h k=k (.clip [a.enc,b.enc]) h [] []:=by
 obtain ⟨o1,n1,k1⟩:=a;obtain ⟨o2,n2,k2⟩:=b;exact DB Rl tTm (by decide) (cells:=[.int .i64 o1,.int .i64 n1,.sl (Tm.enc.encL k1),.int .i64 o2,.int .i64 n2,.sl (Tm.enc.encL k2)]) rfl k
theorem Anq (a:Tm):a.enc.cells.length=3:=by cases a;rfl
theorem QD (a:Tm):a.enc.cells.all FV.one=true:=by cases a;rfl
theorem Ca (l:List Tm):Bm 3 (l.map Tm.enc)=true:=by
 cases l with
 | nil=>rfl
 | cons a l=>simp only [Ayo,Bm,Anq,beq_self_eq_true]
theorem PB (e:Tm) (s:Nat) (own:List (Nat×Blk)) (ext:List Blk) (k:IV→Hp→List Ref→List Ref→Option (IV×Hp)) :
  AD (AK EE s false .append [28,28] [.nils,.clip [e.enc]]) s ⟨own,ext⟩ k=C7 own s (Bk own s (.tok 1 3) fun own=>k (.app (.own s) [e.enc]) ⟨own,ext⟩ [] [.own s]) :=
 Gj sTm (.clip _) (Ca [e]) rfl (by simp) (.inl rfl) s own ext k
theorem JG {es:List Tm} (hb:es.length+1≤1000000) (e:Tm) (r s:Nat) (own:List (Nat×Blk)) (ext:List Blk) (k:IV→Hp→List Ref→List Ref→Option (IV×Hp)) :
  AD (AK EE s false .append [28,28] [.app (.own r) (es.map Tm.enc),.clip [e.enc]]) s ⟨own,ext⟩ k =
   I8 own r fun b=>AgN b es.length 3 (Bk own r (.tok (es.length+1) 3) fun own=>k (.app (.own r) ((es++[e]).map Tm.enc)) ⟨own,ext⟩ [.own r] [.own r]):=by
 rw [MB sTm (.clip [e.enc]) (Ca [e]) (Ca es) (by simp [QD]) (by simpa using hb) r s own ext k];simp only [List.length_map,List.map_append,Ayo,Ayn,Aym,List.length_nil,Nat.zero_add]
theorem Af3 {x m:Int} (h1:0<m) (h2:m≤4611686018427387904):(if x.tmod m<0 then BC (x.tmod m+m) else x.tmod m)=x % m:=by
 have a1:=Int.emod_nonneg x (show m≠0 by omega)
 have a2:=Int.emod_lt_of_pos x h1;have e1:x.tmod m=x - m * x.tdiv m:=by have:=Int.mul_tdiv_add_tmod x m;omega
 have e2:x % m=x - m * (x / m):=by have:=Int.mul_ediv_add_emod x m;omega
 have b1:-m<x.tmod m:=Int.lt_tmod_of_pos x h1;have b2:x.tmod m<m:=Int.tmod_lt_of_pos x h1;have key:∃q,x.tmod m=x % m+m * q:=⟨x / m - x.tdiv m,by rw [e1,e2,Int.mul_sub];omega⟩;obtain ⟨q,hq⟩:=key;have hq2:q=0∨q=-1:=by
  rcases Int.lt_trichotomy q 0 with h | h | h
  ·right;rcases Int.lt_trichotomy q (-1) with h' | h' | h'
   ·have:m * q≤m * (-2):=Int.mul_le_mul_of_nonneg_left (by omega) (by omega)
    omega
   ·exact h'
   ·omega
  ·exact .inl h
  ·have:m * 1≤m * q:=Int.mul_le_mul_of_nonneg_left (by omega) (by omega)
   omega
 rcases hq2 with rfl | rfl
 ·rw [if_neg (by omega)];omega
 ·rw [if_pos (by omega),Az (by omega) (by omega)];omega
theorem As {n:Nat} (hn:0<n) (x:Int) {m:Int} (h1:0<m) (h2:m≤4611686018427387904):Bc (SS dt n 41 [iv x,iv m] ⟨[],[]⟩) (.int .i64 (x % m)):=by
 obtain ⟨n,rfl⟩:=Nat.exists_eq_add_of_lt hn;rw [Nat.zero_add,c41];simp only [S41,↓XX,XY,↓reduceIte,Nat.reduceBEq,Nat.reduceAdd,Int.reduceEq,Int.reduceLT,Int.reduceLE,↓Oc (show m≠0 by omega)]
 rw [← Af3 h1 h2];by_cases hc:x.tmod m<0<;>simp only [hc,if_true,if_false]<;>exact An _ _
theorem Df {n:Nat} (hn:0<n) (op:Int):Bc (SS dt n 30 [iv op,.fv (.sl [])] ⟨[],[]⟩) (Tm.mk op 0 []).enc:=by
 obtain ⟨n,rfl⟩:=Nat.exists_eq_add_of_lt hn;rw [Nat.zero_add,c30];simp only [S30,↓XX,XY,↓reduceIte,Nat.reduceBEq,Nat.reduceAdd,Int.reduceEq,Int.reduceLT,Int.reduceLE];exact An _ _
theorem C0 {n:Nat} (hn:0<n) (op:Int) (l:List Tm):Bc (SS dt n 30 [iv op,.fv (.sl (l.map Tm.enc))] ⟨[],[]⟩) (Tm.mk op 0 l).enc:=by
 obtain ⟨n,rfl⟩:=Nat.exists_eq_add_of_lt hn;rw [Nat.zero_add,c30];simp only [S30,↓XX,XY,↓reduceIte,Nat.reduceBEq,Nat.reduceAdd,Int.reduceEq,Int.reduceLT,Int.reduceLE,Ah];exact An _ _
def Tm.kids:Tm→List Tm
 | .mk _ _ l=>l
def Tm.op:Tm→Int
 | .mk o _ _=>o
def Tm.n:Tm→Int
 | .mk _ n _=>n
def Tm.pick (r:Tm) (i:Nat):Tm:=match r.kids[i]? with
 | some k=>k
 | none=>.mk (BC (BC (r.op.tdiv 3)+i)) (BC (BC (r.n.tdiv 5)+BC (7 * i))) []
theorem AO {n:Nat} (hn:0<n) (r:Tm) (i:Nat):Bc (SS dt n 42 [.fv r.enc,iv i] ⟨[],[]⟩) (r.pick i).enc:=by
 obtain ⟨n,rfl⟩:=Nat.exists_eq_add_of_lt hn;rw [Nat.zero_add,c42];obtain ⟨op,m,ks⟩:=r;rw [Ah];simp only [Tm.pick,Tm.kids,Tm.op,Tm.n];cases hk:ks[i]? with
 | some k =>
  have hi:(i:Int)<ks.length:=by have:=(List.getElem?_eq_some_iff.1 hk).1;omega
  obtain ⟨o,p,l⟩:=k;simp only [Wl,Wb,WD,Xj,S42,↓XX,XY,↓reduceIte,Nat.reduceBEq,Nat.reduceAdd,Int.reduceEq,Int.reduceLT,Int.reduceLE,hi,↓Bn (AJ hk) (A0 _ _ _),↓BQ,Ah];exact An _ _
 | none =>
  have hi:¬ (i:Int)<ks.length:=by have:=List.getElem?_eq_none_iff.1 hk;omega
  simp only [Wl,Wb,WD,Xj,S42,↓XX,XY,↓reduceIte,Nat.reduceBEq,Nat.reduceAdd,Int.reduceEq,Int.reduceLT,Int.reduceLE,hi,↓Ahk (show (3:Int)≠0 by decide),↓Ahk (show (5:Int)≠0 by decide)]
  exact A1 rfl _
section
variable {β:Type}
def Ck (s:Nat):IV→Bool
 | .ptr (.own j) _=>s == j
 | .slc (.own j) _ _=>s == j
 | .app (.own j) _=>s == j
 | .mapr (.own j)=>s == j
 | _=>false
def Fc:IV→Bool
 | .agg _ | .tuple _ | .func ..=>false
 | _=>true
def ET (s:Nat):Blk→Bool
 | .row cells _=>cells.any (Ck s)
 | _=>false
def SN:Blk→Bool
 | .row cells _=>cells.all Fc
 | .tok ..=>true
 | .map _=>false
theorem AeS {v:IV} (h:Fc v=true) (s:Nat):(Ref.own s∈v.refs) ↔ Ck s v=true:=by
 cases v with
 | ptr r o=>cases r<;>simp [IV.refs,Ck]
 | slc r a b=>cases r<;>simp [IV.refs,Ck]
 | app r es=>cases r<;>simp [IV.refs,Ck]
 | mapr r=>cases r<;>simp [IV.refs,Ck]
 | agg _=>cases h
 | tuple _=>cases h
 | func _ _ _=>cases h
 | _=>simp [IV.refs,Ck]
theorem IU:∀{l:List IV},l.all Fc=true→∀s,(Ref.own s∈IV.refs.refsL l) ↔ l.any (Ck s)=true
 | [],_,s=>by simp [IV.refs.refsL]
 | v::l,h,s=>by
  rw [List.all_cons,Bool.and_eq_true] at h;rw [IV.refs.refsL,List.mem_append,List.any_cons,Bool.or_eq_true,AeS h.1,IU h.2]
theorem DH {b:Blk} (h:SN b=true) (s:Nat):(Ref.own s∈b.refs) ↔ ET s b=true:=by
 cases b with
 | row cells ro=>exact IU h s
 | tok n sz=>simp [Blk.refs,ET]
 | map es=>cases h
theorem IA (s:Nat):∀l:List Ref,anyIn [s] l=true ↔ Ref.own s∈l
 | []=>by simp [anyIn]
 | .own k::l=>by
  rw [anyIn,Bool.or_eq_true,IA s l,List.mem_cons];simp [eq_comm]
 | .ext k::l=>by
  rw [anyIn,IA s l,List.mem_cons];simp
def heldB (rm:List Nat) (vals:List IV) (own:List (Nat×Blk)) (ext:List Blk) (s:Nat):Bool :=
 vals.any (Ck s) || (own.any (fun p=>!rm.contains p.1 && ET s p.2) || ext.any (ET s))
def IN (rm:List Nat) (vals:List IV) (own:List (Nat×Blk)) (ext:List Blk):List (Nat×Blk):=own.filter fun p=>!rm.contains p.1 || heldB rm vals own ext p.1
def AN (rm:List Nat) (vals:List IV) (own:List (Nat×Blk)) (ext:List Blk):Bool :=
 vals.all Fc && (own.all (fun p=>SN p.2) && (ext.all SN && own.all fun p=>!rm.contains p.1 || rm.all fun s=>!ET s p.2))
theorem S6 {rm:List Nat} {vals:List IV} {own:List (Nat×Blk)} {ext:List Blk} (hf:AN rm vals own ext=true) (s:Nat) :
  Ref.own s∈IV.refs.refsL vals++(own.filter fun p=>!rm.contains p.1).flatMap (fun p=>p.2.refs)++ext.flatMap Blk.refs ↔ heldB rm vals own ext s=true:=by
 simp only [AN,Bool.and_eq_true] at hf;obtain ⟨h1,h2,h3,_⟩:=hf;have e1:Ref.own s∈(own.filter fun p=>!rm.contains p.1).flatMap (fun p=>p.2.refs) ↔ (own.any fun p=>!rm.contains p.1 && ET s p.2)=true:=by
  rw [List.mem_flatMap,List.any_eq_true];constructor
  ·rintro ⟨p,hp,hr⟩;obtain ⟨hp1,hp2⟩:=List.mem_filter.1 hp;exact ⟨p,hp1,by rw [hp2,(DH (List.all_eq_true.1 h2 p hp1) s).1 hr];rfl⟩
  ·rintro ⟨p,hp,hr⟩;rw [Bool.and_eq_true] at hr;exact ⟨p,List.mem_filter.2 ⟨hp,hr.1⟩,(DH (List.all_eq_true.1 h2 p hp) s).2 hr.2⟩
 have e2:Ref.own s∈ext.flatMap Blk.refs ↔ ext.any (ET s)=true:=by
  rw [List.mem_flatMap,List.any_eq_true];constructor
  ·rintro ⟨p,hp,hr⟩;exact ⟨p,hp,(DH (List.all_eq_true.1 h3 p hp) s).1 hr⟩
  ·rintro ⟨p,hp,hr⟩;exact ⟨p,hp,(DH (List.all_eq_true.1 h3 p hp) s).2 hr⟩
 rw [List.mem_append,List.mem_append,IU h1,e1,e2,heldB,Bool.or_eq_true,Bool.or_eq_true,or_assoc]
theorem AG {base rm:List Nat} {vals:List IV} {own:List (Nat×Blk)} {ext:List Blk} (hb:rm.any base.contains=false) (hf:AN rm vals own ext=true) (k:Hp→Option β) :
  BB base rm vals ⟨own,ext⟩ k=k ⟨IN rm vals own ext,ext⟩:=by
 have hm:=S6 hf;have hf0:=hf;simp only [AN,Bool.and_eq_true] at hf0;obtain ⟨g1,g2,g3,g4⟩:=hf0;unfold BB;rw [hb];simp only [cond_false];rw [LJ];cases ha:(own.all fun p=>!rm.contains p.1) with
 | true =>
  simp only [Bool.not_true,cond_false];congr 2
  symm
  apply List.filter_eq_self.2;intro p hp;rw [List.all_eq_true.1 ha p hp];rfl
 | false =>
  simp only [Bool.not_false,cond_true];have slow:(match Cz base [] rm ⟨vals,⟨own,ext⟩⟩ with | none=>none | some S=>fH S.hp k)=k ⟨IN rm vals own ext,ext⟩:=by
   have hgone:(rm.filter fun k=>!anyIn [k] (IV.refs.refsL vals++(own.filter fun p=>!rm.contains p.1).flatMap (fun p=>p.2.refs)++ext.flatMap Blk.refs))=rm.filter fun s=>!heldB rm vals own ext s:=by
    apply List.filter_congr;intro s _;congr 1;exact Bool.eq_iff_iff.2 ((IA s _).trans (hm s))
   have hown:(own.filter fun p=>!(rm.filter fun s=>!heldB rm vals own ext s).contains p.1)=IN rm vals own ext:=by
    apply List.filter_congr;intro p _;rw [Bool.eq_iff_iff];simp only [Bool.not_eq_true',Bool.or_eq_true,List.contains_eq_mem,decide_eq_false_iff_not,List.mem_filter];constructor
    ·intro h;by_cases h1:p.1∈rm
     ·right;cases hh:heldB rm vals own ext p.1 with
      | true=>rfl
      | false=>exact absurd ⟨h1,hh⟩ h
     ·exact .inl h1
    ·rintro (h | h) ⟨h1,h2⟩
     ·exact h h1
     ·rw [h] at h2;exact absurd h2 (by simp)
   simp only [Cz,hb,Bool.false_eq_true,if_false,AU,ha,hgone,hown];have hnone:anyIn (rm.filter fun s=>!heldB rm vals own ext s) (CX ⟨vals,⟨IN rm vals own ext,ext⟩⟩)=false:=by
    apply DE;intro s hs hmem;obtain ⟨hs1,hs2⟩:=List.mem_filter.1 hs;have hs2:heldB rm vals own ext s=false:=by simpa using hs2
    simp only [CX,List.mem_append] at hmem;rcases hmem with (hmem | hmem) | hmem
    ·have:=(hm s).1 (List.mem_append_left _ (List.mem_append_left _ hmem))
     rw [this] at hs2;cases hs2
    ·obtain ⟨p,hp,hr⟩:=List.mem_flatMap.1 hmem;have hp1:=(List.mem_filter.1 hp).1;have hn:=(DH (List.all_eq_true.1 g2 p hp1) s).1 hr;have h4:=List.all_eq_true.1 g4 p hp1;cases hc:rm.contains p.1 with
     | true =>
      rw [hc] at h4;have h4:(rm.all fun s=>!ET s p.2)=true:=h4;have h5:=List.all_eq_true.1 h4 s hs1;rw [hn] at h5;cases h5
     | false =>
      have:=(hm s).1 (List.mem_append_left _ (List.mem_append_right _ (List.mem_flatMap.2 ⟨p,List.mem_filter.2 ⟨hp1,by rw [hc];rfl⟩,hr⟩)))
      rw [this] at hs2;cases hs2
    ·have:=(hm s).1 (List.mem_append_right _ hmem)
     rw [this] at hs2;cases hs2
   simp only [hnone,Bool.false_eq_true,if_false,JS]
  cases hff:(and (E8 rm (CB vals [])) (and (Hv rm own) (IL rm ext))) with
  | false=>exact slow
  | true =>
   have hff:(E8 rm (CB vals []) && (Hv rm own && IL rm ext))=true:=hff;simp only [Bool.and_eq_true] at hff;simp only [Hk,cond_true];congr 2;apply List.filter_congr;intro p hp;cases hc:rm.contains p.1 with
   | false=>rfl
   | true =>
    have h1:=EY hff.1;rw [refsDL_eq,List.append_nil] at h1;have h2:=GY hff.2.1;have h3:=Mg hff.2.2
    have:heldB rm vals own ext p.1=false:=by
     cases hh:heldB rm vals own ext p.1 with
     | false=>rfl
     | true =>
      have:=(hm p.1).2 hh
      have hpm:p.1∈rm:=List.contains_iff_mem.1 hc;rcases List.mem_append.1 this with h | h
      ·rcases List.mem_append.1 h with h | h
       ·exact absurd h (h1 _ hpm)
       ·exact absurd h (h2 _ hpm)
      ·exact absurd h (h3 _ hpm)
    rw [this];rfl
end
section
variable (s j:Nat)
theorem Avz (rm:List Nat) (vals:List IV) (own:List (Nat×Blk)) (ext:List Blk):IN rm vals own ext=own.filter fun p=>!rm.contains p.1 || heldB rm vals own ext p.1:=rfl
theorem nv1 (o:Nat):Ck s (.ptr (.own j) o)=(s == j):=rfl
theorem nv2 (a b:Nat):Ck s (.slc (.own j) a b)=(s == j):=rfl
theorem nv3 (es:List FV):Ck s (.app (.own j) es)=(s == j):=rfl
theorem nv4 (v:FV):Ck s (.fv v)=false:=rfl
theorem nv5:Ck s .nils=false:=rfl
theorem nv6 (es:List FV):Ck s (.clip es)=false:=rfl
theorem nv7 (o:Nat):Ck s (.ptr (.ext j) o)=false:=rfl
theorem nv8:Ck s .dead=false:=rfl
theorem nb1 (cs:List IV) (ro:Bool):ET s (.row cs ro)=cs.any (Ck s):=rfl
theorem nb2 (a b:Nat):ET s (.tok a b)=false:=rfl
theorem AuP (r:Ref) (o:Nat):Fc (.ptr r o)=true:=rfl
theorem Avr (r:Ref) (a b:Nat):Fc (.slc r a b)=true:=rfl
theorem AvZ (r:Ref) (es:List FV):Fc (.app r es)=true:=rfl
theorem AvJ (v:FV):Fc (.fv v)=true:=rfl
theorem Avl:Fc .nils=true:=rfl
theorem AvL (es:List FV):Fc (.clip es)=true:=rfl
theorem Avv:Fc .dead=true:=rfl
theorem AvX (cs:List IV) (ro:Bool):SN (.row cs ro)=cs.all Fc:=rfl
theorem fb_2 (a b:Nat):SN (.tok a b)=true:=rfl
end
def XD:=Ayh @Avz<|Ayh @nv1<|Ayh @nv2<|Ayh @nv3<|Ayh @nv4<|Ayh @nv5<|Ayh @nv6<|Ayh @nv7<|Ayh @nv8<|Ayh @nb1<|Ayh @nb2<|Ayh @AuP<|Ayh @Avr<|Ayh @AvZ<|Ayh @AvJ<|Ayh @Avl<|Ayh @AvL<|Ayh @Avv<|Ayh @AvX<|@fb_2
end Idl
end Go.Proofs.Ytdibmackcbpniaa
namespace Go.Proofs.Ytdibmackcbpniaa
namespace Idl
def Ao (op:Int) (i:Nat):Nat :=
 if op=3∨op=4∨op=6∨op=20∨op=28∨op=29 then (if i=1 then 1 else 0) else if op=13 then (if i=0 then 1 else if i=2 then 2 else 0) else 0
theorem BE (op:Int) (i:Nat):Ao op i≤2:=by
 unfold Ao
 repeat' split
 all_goals omega
theorem DF {n:Nat} (hn:0<n) (op:Int) (i:Nat):Bc (SS dt n 48 [iv op,iv i] ⟨[],[]⟩) (.int .i64 (Ao op i)):=by
 obtain ⟨n,rfl⟩:∃k,n=k+1:=⟨n - 1,by omega⟩;rw [c48];unfold Ao;by_cases h:op=3∨op=4∨op=6∨op=20∨op=28∨op=29
 ·rw [if_pos h];by_cases hi:i=1
  ·subst hi;rcases h with rfl | rfl | rfl | rfl | rfl | rfl<;>(simp only [↓AeL,↓XX,XY,↓reduceIte,Nat.reduceBEq,Nat.reduceAdd,Int.reduceEq,Int.reduceLT,Int.reduceLE];exact An _ _)
  ·have hi':¬ (i:Int)=1:=by omega
   rcases h with rfl | rfl | rfl | rfl | rfl | rfl<;>(simp only [↓AeL,↓XX,XY,↓reduceIte,Nat.reduceBEq,Nat.reduceAdd,Int.reduceEq,Int.reduceLT,Int.reduceLE,hi',hi];exact An _ _)
 ·rw [if_neg h];have h3:¬ op=3:=fun e=>h (by simp [e]);have h4:¬ op=4:=fun e=>h (by simp [e]);have h6:¬ op=6:=fun e=>h (by simp [e]);have h20:¬ op=20:=fun e=>h (by simp [e]);have h28:¬ op=28:=fun e=>h (by simp [e]);have h29:¬ op=29:=fun e=>h (by simp [e]);by_cases h13:op=13
  ·subst h13;by_cases hi:i=0
   ·subst hi;simp only [↓AeL,↓XX,XY,↓reduceIte,Nat.reduceBEq,Nat.reduceAdd,Int.reduceEq,Int.reduceLT,Int.reduceLE];exact An _ _
   ·have hi':¬ (i:Int)=0:=by omega
    by_cases hj:i=2
    ·subst hj;simp only [↓AeL,↓XX,XY,↓reduceIte,Nat.reduceBEq,Nat.reduceAdd,Int.reduceEq,Int.reduceLT,Int.reduceLE];exact An _ _
    ·have hj':¬ (i:Int)=2:=by omega
     simp only [↓AeL,↓XX,XY,↓reduceIte,Nat.reduceBEq,Nat.reduceAdd,Int.reduceEq,Int.reduceLT,Int.reduceLE,hi,hi',hj,hj'];exact An _ _
  ·simp only [↓AeL,↓XX,XY,↓reduceIte,Nat.reduceBEq,Nat.reduceAdd,Int.reduceEq,Int.reduceLT,Int.reduceLE,h3,h4,h6,h20,h28,h29,h13];exact An _ _
theorem Aq3 {n:Nat} (hn:0<n) (x:Int):Bc (SS dt n 29 [iv x] ⟨[],[]⟩) (Tm.mk 1 x []).enc:=by
 obtain ⟨n,rfl⟩:∃k,n=k+1:=⟨n - 1,by omega⟩;rw [c29];simp only [S29,↓XX,XY,↓reduceIte,Nat.reduceBEq,Nat.reduceAdd,Int.reduceEq,Int.reduceLT,Int.reduceLE];exact A1 rfl _
theorem AhW {n:Nat} (hn:0<n) (x:Int):Bc (SS dt n 60 [iv x] ⟨[],[]⟩) (Tm.mk 2 x []).enc:=by
 obtain ⟨n,rfl⟩:∃k,n=k+1:=⟨n - 1,by omega⟩;rw [c60];simp only [S60,↓XX,XY,↓reduceIte,Nat.reduceBEq,Nat.reduceAdd,Int.reduceEq,Int.reduceLT,Int.reduceLE];exact A1 rfl _
theorem Afq {n:Nat} (hn:0<n) (x:Int):Bc (SS dt n 31 [iv x] ⟨[],[]⟩) (Tm.mk 25 x []).enc:=by
 obtain ⟨n,rfl⟩:∃k,n=k+1:=⟨n - 1,by omega⟩;rw [c31];simp only [S31,↓XX,XY,↓reduceIte,Nat.reduceBEq,Nat.reduceAdd,Int.reduceEq,Int.reduceLT,Int.reduceLE];exact A1 rfl _
mutual
/-- No more than four kids anywhere. -/
def Tm.wk:Tm→Prop
 | .mk _ _ ks=>ks.length≤4∧Tm.wkL ks
def Tm.wkL:List Tm→Prop
 | []=>True
 | t::l=>t.wk∧Tm.wkL l
end
theorem Ry {t:Tm}:∀{l:List Tm},Tm.wkL l→t∈l→t.wk
 | a::l,h,hm=>by
  rw [Tm.wkL] at h;rcases List.mem_cons.1 hm with rfl | hm
  ·exact h.1
  ·exact Ry h.2 hm
mutual
def Tm.shift:Tm→Int→Int→Tm
 | .mk op n ks,d,c=>.mk op (if op=1∧c≤n then BC (n+d) else n) (Tm.shiftL op 0 ks d c)
def Tm.shiftL:Int→Nat→List Tm→Int→Int→List Tm
 | _,_,[],_,_=>[]
 | op,i,t::l,d,c=>t.shift d (c+Ao op i)::Tm.shiftL op (i+1) l d c
end
theorem DN (op:Int) (d c:Int):∀(l:List Tm) (i:Nat),(Tm.shiftL op i l d c).length=l.length
 | [],_=>rfl
 | _::l,i=>by simp only [Tm.shiftL,Aym,DN op d c l]
theorem Mw (op d c:Int):∀(l l':List Tm) (i:Nat),Tm.shiftL op i (l++l') d c=Tm.shiftL op i l d c++Tm.shiftL op (i+l.length) l' d c
 | [],l',i=>by simp [Tm.shiftL]
 | t::l,l',i=>by simp only [List.cons_append,Tm.shiftL,Mw op d c l l',Aym];congr 3;omega
theorem Di:∀(n:Nat) (t:Tm) (d c:Int),t.wt+1<n→t.wk→0≤c→c+2 * t.wt≤4611686018427387904→Bc (SS dt n 28 [.fv t.enc,iv d,iv c] ⟨[],[]⟩) (t.shift d c).enc:=by
 intro n
 induction n with
 | zero=>intro t d c h;omega
 | succ n ih =>
  intro t d c h hw hc0 hc;obtain ⟨op,m,ks⟩:=t;simp only [Tm.wt] at h hc;rw [Tm.wk] at hw;rw [c28,Ah];have hlen:=DL ks;have main:∀m',m'=(if op=1∧c≤m then BC (m+d) else m) →
    Bc (Bh n (fun q28 l29 h30=>Iq l29 h30 (SS dt n) ⟨[],[]⟩ q28) [iv d,iv c,.ptr (.own 29360128) 0,.ptr (.own 29360129) 0,.ptr (.own 29361157) 0,iv 0]
     ⟨[(29360128,.row [iv op,iv m,.fv (.sl (ks.map Tm.enc))] false),(29360129,.row [iv 0,iv 0,.nils] false),(29361157,.row [iv op,iv m',.nils] false)],[]⟩) ((Tm.mk op m ks).shift d c).enc:=by
   intro m' hm';refine A2 (Q:=fun r=>Bc r _) (fun k V H=>∃pre rest,ks=pre++rest∧rest.length=k∧V=[iv d,iv c,.ptr (.own 29360128) 0,.ptr (.own 29360129) 0,.ptr (.own 29361157) 0,iv pre.length] ∧
    (
     (pre=[]∧H=⟨[(29360128,.row [iv op,iv m,.fv (.sl (ks.map Tm.enc))] false),(29360129,.row [iv 0,iv 0,.nils] false),(29361157,.row [iv op,iv m',.nils] false)],[]⟩) ∨
     (pre≠[]∧H=⟨[(29360128,.row [iv op,iv m,.fv (.sl (ks.map Tm.enc))] false),(29360129,.row [iv 0,iv 0,.nils] false),(29361157,.row [iv op,iv m',.app (.own 29367312) ((Tm.shiftL op 0 pre d c).map Tm.enc)] false),(29367312,.tok (Tm.shiftL op 0 pre d c).length 3)],[]⟩)))
    ?_ n ks.length _ _ (by omega) ⟨[],ks,rfl,rfl,rfl,.inl ⟨rfl,rfl⟩⟩
   rintro k V H rec ⟨pre,rest,hk,hl,rfl,hH⟩ hrec;have hkl:ks.length=pre.length+rest.length:=by rw [hk];simp
   cases rest with
   | nil =>
    have hno:¬ ((pre.length:Int)<ks.length):=by rw [hkl];simp
    have hpre:ks=pre:=by simpa using hk
    rcases hH with ⟨rfl,rfl⟩ | ⟨_,rfl⟩
    ·subst hpre;simp only [FM,Ft,Fv,FF,Fw,Fs,Fy,Fx,Iq,Fj,Fp,FB,Fl,FL,S28,↓XX,XY,↓reduceIte,Nat.reduceBEq,Nat.reduceAdd,Int.reduceEq,Int.reduceLT,Int.reduceLE,Int.lt_irrefl,Tm.shift,Tm.shiftL,← hm',Ah];exact A1 rfl _
    ·subst hpre;simp only [FM,Ft,Fv,FF,Fw,Fs,Fy,Fx,Iq,Fj,Fp,FB,Fl,FL,S28,↓XX,XY,↓reduceIte,Nat.reduceBEq,Nat.reduceAdd,Int.reduceEq,Int.reduceLT,Int.reduceLE,Int.lt_irrefl,Tm.shift,← hm',Ah];exact A1 rfl _
   | cons t rest =>
    have hi:(pre.length:Int)<ks.length:=by rw [hkl];simp;omega
    have hg:=B7 hk;have htw:=CO (t:=t) (l:=ks) (by rw [hk];simp);have hb:=DF (n:=n) (by omega) op pre.length;have hble:=BE op pre.length;have hs:=ih t d (c+Ao op pre.length) (by omega) (Ry hw.2 (by rw [hk];simp)) (by omega) (by omega);have hx:Tm.shiftL op 0 (pre++[t]) d c=Tm.shiftL op 0 pre d c++[t.shift d (c+Ao op pre.length)]:=by
     rw [Mw];simp [Tm.shiftL]
    have hwc:BC (c+Ao op pre.length)=c+Ao op pre.length:=by rw [Az]<;>omega
    have hwi:BC ((pre.length:Int)+1)=((pre++[t]).length:Int):=(Az (by omega) (by omega)).trans (by simp);generalize hu:t.shift d (c+Ao op pre.length)=u at hs hx;obtain ⟨o,p,l⟩:=t;simp only [Aym] at hl;rw [Ah] at hs;rcases hH with ⟨hp0,rfl⟩ | ⟨hne,rfl⟩
    ·simp only [FM,Ft,Fv,FF,Fw,Fs,Fy,Fx,Iq,Fj,Fp,FB,Fl,FL,S28,↓XX,XY,↓reduceIte,Nat.reduceBEq,Nat.reduceAdd,Int.reduceEq,Int.reduceLT,Int.reduceLE,hi,↓Bn (AJ hg) (A0 _ _ _),↓BQ,↓Ag hb,hwc,hwi,↓AL hs,↓Jf,↓PB,↓AG,XD,heldB,AN,XE];refine hrec rest.length _ _ (by omega) ?_;refine ⟨pre++[.mk o p l],rest,by rw [hk];simp,rfl,rfl,.inr ⟨by simp,?_⟩⟩;rw [hx,hp0];rfl
    ·have hle:(Tm.shiftL op 0 pre d c).length+1≤1000000:=by rw [DN];omega
     have hq:(Tm.shiftL op 0 pre d c).length=pre.length:=DN ..;simp only [FM,Ft,Fv,FF,Fw,Fs,Fy,Fx,Iq,Fj,Fp,FB,Fl,FL,S28,↓XX,XY,↓reduceIte,Nat.reduceBEq,Nat.reduceAdd,Int.reduceEq,Int.reduceLT,Int.reduceLE,hi,↓Bn (AJ hg) (A0 _ _ _),↓BQ,↓Ag hb,hwc,hwi,↓AL hs,↓Jf,↓JG hle,↓FQ,↓AG,XD,heldB,AN,XE];refine hrec rest.length _ _ (by omega) ?_;refine ⟨pre++[.mk o p l],rest,by rw [hk];simp,rfl,rfl,.inr ⟨by simp,?_⟩⟩;rw [hx];simp only [List.length_append,Aym,List.length_nil]
  by_cases h1:op=1
  ·by_cases h2:c≤m
   ·subst h1;simp only [FM,Ft,Fv,FF,Fw,Fs,Fy,Fx,Fj,Fp,FB,Fl,FL,S28,↓XX,XY,↓reduceIte,Nat.reduceBEq,Nat.reduceAdd,Int.reduceEq,Int.reduceLT,Int.reduceLE,h2,↓AG,XD,heldB,AN,XE];exact main _ (by simp [h2])
   ·subst h1;simp only [FM,Ft,Fv,FF,Fw,Fs,Fy,Fx,Fj,Fp,FB,Fl,FL,S28,↓XX,XY,↓reduceIte,Nat.reduceBEq,Nat.reduceAdd,Int.reduceEq,Int.reduceLT,Int.reduceLE,h2,↓AG,XD,heldB,AN,XE];exact main _ (by simp [h2])
  ·simp only [FM,Ft,Fv,FF,Fw,Fs,Fy,Fx,Fj,Fp,FB,Fl,FL,S28,↓XX,XY,↓reduceIte,Nat.reduceBEq,Nat.reduceAdd,Int.reduceEq,Int.reduceLT,Int.reduceLE,h1,↓AG,XD,heldB,AN,XE];exact main _ (by simp [h1])
mutual
def Tm.subst:Tm→Int→Int→Tm→Tm
 | .mk op m ks,n,d,u=>if op=1 then (if m=n then u.shift d 0 else if n<m then .mk 1 (BC (m - 1)) [] else .mk op m ks) else .mk op m (Tm.substL op 0 ks n d u)
def Tm.substL:Int→Nat→List Tm→Int→Int→Tm→List Tm
 | _,_,[],_,_,_=>[]
 | op,i,t::l,n,d,u=>t.subst (n+Ao op i) (d+Ao op i) u::Tm.substL op (i+1) l n d u
end
theorem GO (op n d:Int) (u:Tm):∀(l:List Tm) (i:Nat),(Tm.substL op i l n d u).length=l.length
 | [],_=>rfl
 | _::l,i=>by simp only [Tm.substL,Aym,GO op n d u l]
theorem NM (op n d:Int) (u:Tm):∀(l l':List Tm) (i:Nat),Tm.substL op i (l++l') n d u=Tm.substL op i l n d u++Tm.substL op (i+l.length) l' n d u
 | [],l',i=>by simp [Tm.substL]
 | t::l,l',i=>by simp only [List.cons_append,Tm.substL,NM op n d u l l',Aym];congr 3;omega
theorem Afv (u:Tm) (hu:u.wk) (huw:u.wt≤1152921504606846976):∀(n:Nat) (t:Tm) (c d:Int),t.wt+u.wt+3<n→t.wk→-1000000000≤c→c+2 * t.wt≤4611686018427387904→0≤d→d+2 * t.wt≤4611686018427387904 →
  Bc (SS dt n 113 [.fv t.enc,iv c,iv d,.fv u.enc] ⟨[],[]⟩) (t.subst c d u).enc:=by
 intro n
 induction n with
 | zero=>intro t c d h;omega
 | succ n ih =>
  intro t c d h hw hc0 hc hd0 hd;obtain ⟨op,m,ks⟩:=t;simp only [Tm.wt] at h hc hd;rw [Tm.wk] at hw;rw [Avt,Ah];have hlen:=DL ks;by_cases h1:op=1
  ·subst h1;have hsh:=Di n u d 0 (by omega) hu (by omega) (by omega);rw [Tm.subst,if_pos rfl];generalize u.shift d 0=z at hsh ⊢;obtain ⟨uo,un,uk⟩:=u;obtain ⟨zo,zn,zk⟩:=z;rw [Ah] at hsh ⊢;by_cases h2:m=c
   ·subst h2;simp only [↓UU8,↓XX,XY,↓reduceIte,Nat.reduceBEq,Nat.reduceAdd,Int.reduceEq,Int.reduceLT,Int.reduceLE,↓AL hsh];simp only [↓UU8,↓XX,XY,↓reduceIte,Nat.reduceBEq,Nat.reduceAdd,Int.reduceEq,Int.reduceLT,Int.reduceLE,Ah];exact A1 rfl _
   ·by_cases h3:c<m
    ·simp only [↓UU8,↓XX,XY,↓reduceIte,Nat.reduceBEq,Nat.reduceAdd,Int.reduceEq,Int.reduceLT,Int.reduceLE,h2,h3,Ah];exact A1 rfl _
    ·simp only [↓UU8,↓XX,XY,↓reduceIte,Nat.reduceBEq,Nat.reduceAdd,Int.reduceEq,Int.reduceLT,Int.reduceLE,h2,h3,Ah];exact A1 rfl _
  ·have main :
    Bc (Bh n (fun q l h=>NI l h (SS dt n) ⟨[],[]⟩ q) [iv c,iv d,.ptr (.own 118489088) 0,.ptr (.own 118489089) 0,.ptr (.own 118489090) 0,.ptr (.own 118496261) 0,iv 0]
     ⟨[(118489088,.row [iv op,iv m,.fv (.sl (ks.map Tm.enc))] false),(118489089,.row [iv u.op,iv u.n,.fv (.sl (u.kids.map Tm.enc))] false),(118489090,.row [iv 0,iv 0,.nils] false),(118496261,.row [iv op,iv m,.nils] false)],[]⟩)
      (Tm.mk op m (Tm.substL op 0 ks c d u)).enc:=by
    refine A2 (Q:=fun r=>Bc r _) (fun k V H=>∃pre rest,ks=pre++rest∧rest.length=k∧V=[iv c,iv d,.ptr (.own 118489088) 0,.ptr (.own 118489089) 0,.ptr (.own 118489090) 0,.ptr (.own 118496261) 0,iv pre.length] ∧
     (
      (pre=[]∧H=⟨[(118489088,.row [iv op,iv m,.fv (.sl (ks.map Tm.enc))] false),(118489089,.row [iv u.op,iv u.n,.fv (.sl (u.kids.map Tm.enc))] false),(118489090,.row [iv 0,iv 0,.nils] false),(118496261,.row [iv op,iv m,.nils] false)],[]⟩) ∨
      (
      pre≠[]∧H=⟨[(118489088,.row [iv op,iv m,.fv (.sl (ks.map Tm.enc))] false),(118489089,.row [iv u.op,iv u.n,.fv (.sl (u.kids.map Tm.enc))] false),(118489090,.row [iv 0,iv 0,.nils] false),
      (118496261,.row [iv op,iv m,.app (.own 118501392) ((Tm.substL op 0 pre c d u).map Tm.enc)] false),(118501392,.tok (Tm.substL op 0 pre c d u).length 3)],[]⟩)))
     ?_ n ks.length _ _ (by omega) ⟨[],ks,rfl,rfl,rfl,.inl ⟨rfl,rfl⟩⟩
    rintro k V H rec ⟨pre,rest,hk,hl,rfl,hH⟩ hrec;have hkl:ks.length=pre.length+rest.length:=by rw [hk];simp
    cases rest with
    | nil =>
     have hno:¬ ((pre.length:Int)<ks.length):=by rw [hkl];simp
     have hpre:ks=pre:=by simpa using hk
     rcases hH with ⟨rfl,rfl⟩ | ⟨_,rfl⟩
     ·subst hpre;simp only [↓UU9,↓XX,XY,↓reduceIte,Nat.reduceBEq,Nat.reduceAdd,Int.reduceEq,Int.reduceLT,Int.reduceLE,Int.lt_irrefl,Tm.substL,Ah];exact A1 rfl _
     ·subst hpre;simp only [↓UU9,↓XX,XY,↓reduceIte,Nat.reduceBEq,Nat.reduceAdd,Int.reduceEq,Int.reduceLT,Int.reduceLE,Int.lt_irrefl,Ah];exact A1 rfl _
    | cons t rest =>
     have hi:(pre.length:Int)<ks.length:=by rw [hkl];simp;omega
     have hg:=B7 hk;have htw:=CO (t:=t) (l:=ks) (by rw [hk];simp);have hb:=DF (n:=n) (by omega) op pre.length;have hble:=BE op pre.length;have hs:=ih t (c+Ao op pre.length) (d+Ao op pre.length) (by omega) (Ry hw.2 (by rw [hk];simp)) (by omega) (by omega) (by omega) (by omega);have hx:Tm.substL op 0 (pre++[t]) c d u=Tm.substL op 0 pre c d u++[t.subst (c+Ao op pre.length) (d+Ao op pre.length) u]:=by
      rw [NM];simp [Tm.substL]
     have hwc:BC (c+Ao op pre.length)=c+Ao op pre.length:=by rw [Az]<;>omega
     have hwd:BC (d+Ao op pre.length)=d+Ao op pre.length:=by rw [Az]<;>omega
     have hwi:BC ((pre.length:Int)+1)=((pre++[t]).length:Int):=(Az (by omega) (by omega)).trans (by simp);generalize hv:t.subst (c+Ao op pre.length) (d+Ao op pre.length) u=v at hs hx;obtain ⟨o,p,l⟩:=t;simp only [Aym] at hl;have hue:u.enc=.agg [.int .i64 u.op,.int .i64 u.n,.sl (u.kids.map Tm.enc)]:=by cases u;exact Ah ..
     rw [Ah,hue] at hs;rcases hH with ⟨hp0,rfl⟩ | ⟨hne,rfl⟩
     ·simp only [↓UU9,↓XX,XY,↓reduceIte,Nat.reduceBEq,Nat.reduceAdd,Int.reduceEq,Int.reduceLT,Int.reduceLE,hi,↓Bn (AJ hg) (A0 _ _ _),↓BQ,↓Ag hb,hwc,hwd,hwi,↓AI hs,↓Jf,↓PB,↓AG,XD,heldB,AN,XE];refine hrec rest.length _ _ (by omega) ?_;refine ⟨pre++[.mk o p l],rest,by rw [hk];simp,rfl,rfl,.inr ⟨by simp,?_⟩⟩;rw [hx,hp0];rfl
     ·have hle:(Tm.substL op 0 pre c d u).length+1≤1000000:=by rw [GO];omega
      simp only [↓UU9,↓XX,XY,↓reduceIte,Nat.reduceBEq,Nat.reduceAdd,Int.reduceEq,Int.reduceLT,Int.reduceLE,hi,↓Bn (AJ hg) (A0 _ _ _),↓BQ,↓Ag hb,hwc,hwd,hwi,↓AI hs,↓Jf,↓JG hle,↓FQ,↓AG,XD,heldB,AN,XE];refine hrec rest.length _ _ (by omega) ?_;refine ⟨pre++[.mk o p l],rest,by rw [hk];simp,rfl,rfl,.inr ⟨by simp,?_⟩⟩;rw [hx];simp only [List.length_append,Aym,List.length_nil]
   rw [Tm.subst,if_neg h1];obtain ⟨uo,un,uk⟩:=u;rw [Ah (op:=uo)];simp only [↓UU8,↓XX,XY,↓reduceIte,Nat.reduceBEq,Nat.reduceAdd,Int.reduceEq,Int.reduceLT,Int.reduceLE,h1,↓AG,XD,heldB,AN,XE];exact main
theorem TU {n:Nat} (t u:Tm) (c:Int) (hu:u.wk) (huw:u.wt≤1152921504606846976) (h:t.wt+u.wt+4<n) (hw:t.wk) (hww:t.wt≤2305843009213693951) (h0:-1000000000≤c) (hc:c+2 * t.wt≤4611686018427387904) :
  Bc (SS dt n 89 [.fv t.enc,iv c,.fv u.enc] ⟨[],[]⟩) (t.subst c 0 u).enc:=by
 obtain ⟨n,rfl⟩:∃k,n=k+1:=⟨n - 1,by omega⟩;rw [c89];have hs:=Afv u hu huw n t c 0 (by omega) hw h0 hc (by omega) (by omega);generalize t.subst c 0 u=v at hs ⊢;obtain ⟨o1,n1,k1⟩:=t;obtain ⟨o2,n2,k2⟩:=u;obtain ⟨o3,n3,k3⟩:=v;simp only [Ah] at hs ⊢;simp only [Agz,S89,↓XX,XY,↓reduceIte,Nat.reduceBEq,Nat.reduceAdd,Int.reduceEq,Int.reduceLT,Int.reduceLE,↓AI hs];exact A1 rfl _
mutual
def Tm.free:Tm→Int→Bool
 | .mk op m ks,c=>if op=1 then decide (m=c) else Tm.freeL op 0 ks c
def Tm.freeL:Int→Nat→List Tm→Int→Bool
 | _,_,[],_=>false
 | op,i,t::l,c=>t.free (c+Ao op i) || Tm.freeL op (i+1) l c
end
theorem AnF:∀(n:Nat) (t:Tm) (c:Int),t.wt+1<n→t.wt≤1152921504606846976→-1000000000≤c→c+2 * t.wt≤461168601842738→Bc (SS dt n 118 [.fv t.enc,iv c] ⟨[],[]⟩) (.bool (t.free c)):=by
 intro n
 induction n with
 | zero=>intro t c h;omega
 | succ n ih =>
  intro t c h hw hc0 hc;obtain ⟨op,m,ks⟩:=t;simp only [Tm.wt] at h hw hc;rw [Av1,Ah];have hlen:=DL ks;by_cases h1:op=1
  ·subst h1;rw [Tm.free,if_pos rfl];simp only [Ik,HD,Ib,Ix,H3,RI,↓XX,XY,↓reduceIte,Nat.reduceBEq,Nat.reduceAdd,Int.reduceEq,Int.reduceLT,Int.reduceLE];exact An _ _
  ·rw [Tm.free,if_neg h1];simp only [Ik,HD,Ib,Ix,H3,RI,↓XX,XY,↓reduceIte,Nat.reduceBEq,Nat.reduceAdd,Int.reduceEq,Int.reduceLT,Int.reduceLE,h1];refine A2 (Q:=fun r=>Bc r _) (fun k V H=>∃pre rest,ks=pre++rest∧rest.length=k∧V=[iv c,.ptr (.own 123731968) 0,iv pre.length]∧H=⟨[(123731968,.row [iv op,iv m,.fv (.sl (ks.map Tm.enc))] false)],[]⟩∧Tm.freeL op pre.length rest c=Tm.freeL op 0 ks c)
    ?_ n ks.length _ _ (by omega) ⟨[],ks,rfl,rfl,rfl,rfl,rfl⟩
   rintro k V H rec ⟨pre,rest,hk,hl,rfl,rfl,ht⟩ hrec;have hkl:ks.length=pre.length+rest.length:=by rw [hk];simp
   cases rest with
   | nil =>
    have hno:¬ ((pre.length:Int)<ks.length):=by rw [hkl];simp
    rw [← ht];simp only [Ik,HD,Ib,Ix,H3,Ls,RI,↓XX,XY,↓reduceIte,Nat.reduceBEq,Nat.reduceAdd,Int.reduceEq,Int.reduceLT,Int.reduceLE,hno,Tm.freeL];exact An _ _
   | cons t rest =>
    have hi:(pre.length:Int)<ks.length:=by rw [hkl];simp;omega
    have hg:=B7 hk;have htw:=CO (t:=t) (l:=ks) (by rw [hk];simp);have hb:=DF (n:=n) (by omega) op pre.length;have hble:=BE op pre.length;have hs:=ih t (c+Ao op pre.length) (by omega) (by omega) (by omega) (by omega);have hwc:BC (c+Ao op pre.length)=c+Ao op pre.length:=by rw [Az]<;>omega
    have hwi:BC ((pre.length:Int)+1)=((pre++[t]).length:Int):=(Az (by omega) (by omega)).trans (by simp);simp only [Tm.freeL] at ht;generalize t.free (c+Ao op pre.length)=v at hs ht;obtain ⟨o,p,l⟩:=t;simp only [Aym] at hl;rw [Ah] at hs;cases v
    ·simp only [Ik,HD,Ib,Ix,H3,Ls,RI,↓XX,XY,↓reduceIte,Nat.reduceBEq,Nat.reduceAdd,Int.reduceEq,Int.reduceLT,Int.reduceLE,hi,↓Bn (AJ hg) (A0 _ _ _),↓BQ,↓Ag hb,hwc,hwi,↓Ag hs];refine hrec rest.length _ _ (by omega) ?_;exact ⟨pre++[.mk o p l],rest,by rw [hk];simp,rfl,rfl,rfl,by simpa using ht⟩
    ·rw [← ht];simp only [Ik,HD,Ib,Ix,H3,Ls,RI,↓XX,XY,↓reduceIte,Nat.reduceBEq,Nat.reduceAdd,Int.reduceEq,Int.reduceLT,Int.reduceLE,hi,↓Bn (AJ hg) (A0 _ _ _),↓BQ,↓Ag hb,hwc,hwi,↓Ag hs,Bool.true_or];exact An _ _
mutual
def Tm.same:Tm→Tm→Bool
 | .mk o n l,.mk o' n' l'=>decide (o=o') && (decide (n=n') && (decide (l.length=l'.length) && Tm.sameL l l'))
def Tm.sameL:List Tm→List Tm→Bool
 | a::l,b::l'=>a.same b && Tm.sameL l l'
 | _,_=>true
end
mutual
theorem J0:∀a b:Tm,a.same b=true ↔ a=b
 | .mk o n l,.mk o' n' l'=>by
  simp only [Tm.same,Bool.and_eq_true,decide_eq_true_eq,Tm.mk.injEq];constructor
  ·rintro ⟨rfl,rfl,h1,h2⟩;exact ⟨rfl,rfl,(sameL_eq l l' h1).1 h2⟩
  ·rintro ⟨rfl,rfl,rfl⟩;exact ⟨rfl,rfl,rfl,(sameL_eq l l rfl).2 rfl⟩
theorem sameL_eq:∀l l':List Tm,l.length=l'.length→(Tm.sameL l l'=true ↔ l=l')
 | [],[],_=>by simp [Tm.sameL]
 | a::l,b::l',h=>by
  simp only [Tm.sameL,Bool.and_eq_true,List.cons.injEq,J0 a b,sameL_eq l l' (by simpa using h)]
end
theorem IE:∀(n:Nat) (a b:Tm),a.wt+1<n→a.wt≤1152921504606846976→Bc (SS dt n 18 [.fv a.enc,.fv b.enc] ⟨[],[]⟩) (.bool (a.same b)):=by
 intro n
 induction n with
 | zero=>intro a b h;omega
 | succ n ih =>
  intro a b h hw;obtain ⟨op,m,ks⟩:=a;obtain ⟨op',m',ks'⟩:=b;simp only [Tm.wt] at h hw;rw [c18,Ah,Ah];have hlen:=DL ks;rw [Tm.same];by_cases h1:op=op'
  ·by_cases h2:m=m'
   ·by_cases h3:ks.length=ks'.length
    ·have h3':(ks.length:Int)=ks'.length:=by omega
     subst h1 h2;simp only [FR,FG,FK,FW,Fk,Fu,Fq,FU,FP,S18,↓XX,XY,↓reduceIte,Nat.reduceBEq,Nat.reduceAdd,Int.reduceEq,Int.reduceLT,Int.reduceLE,h3,h3',Tm.same];refine A2 (Q:=fun r=>Bc r _) (fun k V H=>∃pre rest pre' rest',ks=pre++rest∧ks'=pre'++rest'∧pre.length=pre'.length∧rest.length=k∧V=[.ptr (.own 18874368) 0,.ptr (.own 18874369) 0,iv pre.length] ∧
      H=⟨[(18874368,.row [iv op,iv m,.fv (.sl (ks.map Tm.enc))] false),(18874369,.row [iv op,iv m,.fv (.sl (ks'.map Tm.enc))] false)],[]⟩∧Tm.sameL rest rest'=Tm.sameL ks ks')
      ?_ n ks.length _ _ (by omega) ⟨[],ks,[],ks',rfl,rfl,rfl,rfl,rfl,rfl,rfl⟩
     rintro k V H rec ⟨pre,rest,pre',rest',hk,hk',hpl,hl,rfl,rfl,ht⟩ hrec;have hkl:ks.length=pre.length+rest.length:=by rw [hk];simp
     have hkl':ks'.length=pre'.length+rest'.length:=by rw [hk'];simp
     cases rest with
     | nil =>
      have hno:¬ ((pre.length:Int)<ks.length):=by rw [hkl];simp
      rw [← ht];simp only [FR,FG,FK,FW,Fk,Ld,Fu,Fq,FU,FP,S18,↓XX,XY,↓reduceIte,Nat.reduceBEq,Nat.reduceAdd,Int.reduceEq,Int.reduceLT,Int.reduceLE,hno,Tm.sameL];exact An _ _
     | cons t rest =>
      cases rest' with
      | nil=>simp at hkl hkl';omega
      | cons t' rest' =>
       have hi:(pre.length:Int)<ks.length:=by rw [hkl];simp;omega
       have hg:=B7 hk;have hg':=B7 hk';rw [← hpl] at hg';have htw:=CO (t:=t) (l:=ks) (by rw [hk];simp);have hs:=ih t t' (by omega) (by omega);have hwi:BC ((pre.length:Int)+1)=((pre++[t]).length:Int):=(Az (by omega) (by omega)).trans (by simp);simp only [Tm.sameL] at ht;generalize t.same t'=v at hs ht;obtain ⟨o,p,l⟩:=t;obtain ⟨o',p',l'⟩:=t';simp only [Aym] at hl;rw [Ah,Ah] at hs;cases v
       ·rw [← ht];simp only [FR,FG,FK,FW,Fk,Ld,Fu,Fq,FU,FP,S18,↓XX,XY,↓reduceIte,Nat.reduceBEq,Nat.reduceAdd,Int.reduceEq,Int.reduceLT,Int.reduceLE,hi,↓Bn (AJ hg) (A0 _ _ _),↓Bn (AJ hg') (A0 _ _ _),↓BQ,↓Ag hs,Bool.false_and];exact An _ _
       ·simp only [FR,FG,FK,FW,Fk,Ld,Fu,Fq,FU,FP,S18,↓XX,XY,↓reduceIte,Nat.reduceBEq,Nat.reduceAdd,Int.reduceEq,Int.reduceLT,Int.reduceLE,hi,↓Bn (AJ hg) (A0 _ _ _),↓Bn (AJ hg') (A0 _ _ _),↓BQ,hwi,↓Ag hs];refine hrec rest.length _ _ (by omega) ?_;exact ⟨pre++[.mk o p l],rest,pre'++[.mk o' p' l'],rest',by rw [hk];simp,by rw [hk'];simp,by simp [hpl],rfl,rfl,rfl,by simpa using ht⟩
    ·have h3':¬ (ks.length:Int)=ks'.length:=by omega
     simp only [FR,FG,FK,FW,Fk,Fu,Fq,FU,FP,S18,↓XX,XY,↓reduceIte,Nat.reduceBEq,Nat.reduceAdd,Int.reduceEq,Int.reduceLT,Int.reduceLE,h1,h2,h3,h3'];exact An _ _
   ·simp only [FR,FG,FK,FW,Fk,Fu,Fq,FU,FP,S18,↓XX,XY,↓reduceIte,Nat.reduceBEq,Nat.reduceAdd,Int.reduceEq,Int.reduceLT,Int.reduceLE,h1,h2];exact An _ _
  ·simp only [FR,FG,FK,FW,Fk,Fu,Fq,FU,FP,S18,↓XX,XY,↓reduceIte,Nat.reduceBEq,Nat.reduceAdd,Int.reduceEq,Int.reduceLT,Int.reduceLE,h1];exact An _ _
section
variable {β:Type} {E:Env}
def Aoz (cs:List IV) (k:List FV→Option β):Option β:=(Dc cs).bind k
theorem Amq {t e:TypeId} {a b:Nat} {ei:TI} {z:List IV} (hT:E.T t=some ⟨a,b,.slice e,z⟩) (he:E.T e=some ei) (hs:ei.size=1) (hz:∃x,ei.zero=[x]) (r s:Nat) (own:List (Nat×Blk)) (ext:List Blk)
  (hc:∀cells ro,Au r own=some (.row cells ro)→cells.length≤100) (hk:∀cells ro,Au r own=some (.row cells ro)→∃fc,Dc cells=some fc) (k:IV→Hp→List Ref→List Ref→Option β) :
  AD (Al E t 1 [(0,.ptr (.own r) 0)]) s ⟨own,ext⟩ k=I8 own r fun bl=>Ez bl fun cells=>Aoz cells fun fc=>Bk own r (.row cells true) fun own=>k (.clip [.fp fc 0]) ⟨own,ext⟩ [.own r] [.own r]:=by
 obtain ⟨x,hx⟩:=hz;have hm:Al E t 1 [(0,.ptr (.own r) 0)]=(frzL (65534+1+1) [.ptr (.own r) 0]).bind fun (vs,u)=>.ret { eff:={ val:=.clip (BT ei.size 1 vs),upd:=u } }:=by
  have h1:¬ (ei.size=0∨1 * ei.size > 65536):=by rw [hs];omega
  have h2:CF (fun j=>some (j * ei.size,ei.size)) (QQ 1 ei.zero) [(0,.ptr (.own r) 0)]=some [.ptr (.own r) 0]:=by
   rw [hx,hs];rfl
  simp only [Al,hT,he,if_neg h1,h2]
 rw [hm,EH];unfold AD;cases hl:Au r own with
 | none =>
  have:((frzL (65534+1+1) [.ptr (.own r) 0]).bind fun (vs,u)=>Rd.ret ({ eff:={ val:=.clip (BT ei.size 1 vs),upd:=u } }:Made)).runLog ⟨own,ext⟩ []=none:=by
   simp only [frzL,CR,Rd.bind,Rd.runLog,Hp.get,hl]
  rw [this];rfl
 | some bl =>
  cases bl with
  | row cells ro =>
   obtain ⟨fc,hfc⟩:=hk cells ro hl;have hlen:=hc cells ro hl;have h3:frzL 65534 cells=.ret (fc,[]):=YD cells 65534 (by omega) hfc
   have:((frzL (65534+1+1) [.ptr (.own r) 0]).bind fun (vs,u)=>Rd.ret ({ eff:={ val:=.clip (BT ei.size 1 vs),upd:=u } }:Made)).runLog ⟨own,ext⟩ [] =
     some ({ eff:={ val:=.clip (BT ei.size 1 [.fp fc 0]),upd:=[(.own r,.row cells true)] } },[.own r]):=by
    simp only [frzL,CR,Rd.bind,Rd.runLog,Hp.get,hl,h3,List.append_nil]
   rw [this];simp only [Option.bind_some,Ez,Aoz,hfc,hs]
   show (fRf (.own r) fun q=>Ep q ⟨own,ext⟩ fun _=>fBk (.row cells true) fun b=>Gs q b ⟨own,ext⟩ fun h=>Mr none s h fun h=>fV 3 (.clip [.fp fc 0]) fun v=>k v h [.own r] ([.own r]++[]))=_
   simp only [Sc,C5,CD,Mr,Gs,Ep];rw [EH,hl];rfl
  | tok n sz =>
   have:((frzL (65534+1+1) [.ptr (.own r) 0]).bind fun (vs,u)=>Rd.ret ({ eff:={ val:=.clip (BT ei.size 1 vs),upd:=u } }:Made)).runLog ⟨own,ext⟩ []=none:=by
    simp only [frzL,CR,Rd.bind,Rd.runLog,Hp.get,hl]
   rw [this];rfl
  | map es =>
   have:((frzL (65534+1+1) [.ptr (.own r) 0]).bind fun (vs,u)=>Rd.ret ({ eff:={ val:=.clip (BT ei.size 1 vs),upd:=u } }:Made)).runLog ⟨own,ext⟩ []=none:=by
    simp only [frzL,CR,Rd.bind,Rd.runLog,Hp.get,hl]
   rw [this];rfl
theorem AtS {t e:TypeId} {a b:Nat} {ei:TI} {z:List IV} (hT:E.T t=some ⟨a,b,.slice e,z⟩) (he:E.T e=some ei) (hs:ei.size=1) (hz:∃x,ei.zero=[x]) {r:Nat} {own own':List (Nat×Blk)} {cells:List IV} {ro:Bool} {fc:List FV}
  (hl:Au r own=some (.row cells ro)) (hf:Dc cells=some fc) (hn:cells.length≤100) (ho:Bb r (.row cells true) own=own') (s:Nat) (ext:List Blk) (k:IV→Hp→List Ref→List Ref→Option β) :
  AD (Al E t 1 [(0,.ptr (.own r) 0)]) s ⟨own,ext⟩ k=k (.clip [.fp fc 0]) ⟨own',ext⟩ [.own r] [.own r]:=by
 have h1:∀cells' ro',Au r own=some (.row cells' ro')→cells'=cells:=fun c r h=>by rw [hl] at h;cases h;rfl
 rw [Amq hT he hs hz r s own ext (fun c r h=>by rw [h1 c r h];exact hn) (fun c r h=>by rw [h1 c r h];exact ⟨fc,hf⟩),EH,hl];simp only [Option.bind_some,Ez,Aoz,hf,E5,ho]
def CW (r:Option (IV×Hp)) (w:FV) (ext:List Blk):Prop:=∃v own,r=some (v,⟨own,ext⟩) ∧
 ∃u lg,∀(e:Option (IV×Hp)) (K:FV→List (Ref×Blk)→List Ref→Option (IV×Hp)),Gh 12 v ⟨own,ext⟩ [] e K=K w u lg
theorem AV (w:FV) (own:List (Nat×Blk)) (ext:List Blk):CW (some (.fv w,⟨own,ext⟩)) w ext:=⟨_,own,rfl,[],[],fun _ _=>rfl⟩
theorem Hu {v:IV} {w:FV} (hz:Bl v=some w) (own:List (Nat×Blk)) (ext:List Blk):CW (some (v,⟨own,ext⟩)) w ext:=⟨_,own,rfl,[],[],fun e K=>O8 _ _ e K hz⟩
theorem KE:∀l:List FV,CB (l.map .fv) []=[]
 | []=>rfl
 | v::l=>by
  show Ty (.fv v) (CB (l.map .fv) [])=[]
  rw [KE l];rfl
theorem AtE (n j:Nat) (t:List Ref) (s:Nat) (rest:List Blk):Oh (n+1) (.ext j::t) s rest=cond (Nat.ble (Nat.succ j) s) (Oh n t s rest) (cond (Nat.beq j s) (goR (Oh n) t s rest) false):=rfl
theorem Aul (n s:Nat):Oh (n+1) [] s []=true:=rfl
set_option maxRecDepth 20000 in
theorem PD (st:List FV):Oh 400 [.ext 0] 0 [.row (st.map .fv) false]=true:=by
 rw [show (400:Nat)=398+1+1 from rfl,AtE]
 show goR (Oh (398+1)) [] 0 [.row (st.map .fv) false]=true
 show Oh (398+1) ([]++Ey (.row (st.map .fv) false)) 1 []=true
 rw [show Ey (.row (st.map .fv) false)=CB (st.map .fv) [] from rfl,KE]
 exact Aul 398 1
theorem QT (st:List FV):okB 1 [.row (st.map .fv) false]=true:=by
 show cond (okR 1 (Ey (.row (st.map .fv) false))) true false=true
 rw [show Ey (.row (st.map .fv) false)=CB (st.map .fv) [] from rfl,KE]
 rfl
theorem gb3 (a b c:FV):Oh 400 [.ext 0] 0 [.row [.fv a,.fv b,.fv c] false]=true:=PD [a,b,c]
theorem ob3 (a b c:FV):okB 1 [.row [.fv a,.fv b,.fv c] false]=true:=QT [a,b,c]
theorem gb2 (a b:FV):Oh 400 [.ext 0] 0 [.row [.fv a,.fv b] false]=true:=PD [a,b]
theorem ob2 (a b:FV):okB 1 [.row [.fv a,.fv b] false]=true:=QT [a,b]
theorem WR {r1:Ref} {rs1:List Ref} {ih:Aa} {f:FuncId} {vs:List IV} {w:FV} {ext ext':List Blk} (hr:CW (ih f vs ⟨[],ext⟩) w ext') (hg:Oh 400 (r1::rs1) 0 ext=true) (hl:ext'.length=ext.length) (ho:okB ext.length ext'=true)
  (own:List (Nat×Blk)) (r0:Option (IV×Hp)) (u:List (Ref×Blk)) (lg:List Ref) (e:Option (IV×Hp)) (k:IV→Hp→List Ref→List Ref→Option (IV×Hp)) :
  AeJ (
     r1::rs1) r0 ⟨own,ext⟩ u lg e (fun rs=>match rs with
   | []=>none
   | r::rs=>(match (⟨own,ext⟩:Hp) with
    | ⟨own,ext⟩=>cond (Oh 400 (r::rs) 0 ext) (match ih f vs ⟨[],ext⟩ with
     | none=>none
     | some p=>match p with
      | (v,h')=>match h' with
       | ⟨own',ext'⟩=>cond (and (Nat.beq ext'.length ext.length) (okB ext.length ext'))
        (Gh 12 v ⟨own',ext'⟩ [] e fun w _ _=>On u ⟨own,ext'⟩ fun h2=>k (.fv w) h2 ((Dq ext.length).reverse++lg) (Bo u++Dq ext.length)) none)
     e)) k=On u ⟨own,ext'⟩ fun h2=>k (.fv w) h2 ((Dq ext.length).reverse++lg) (Bo u++Dq ext.length):=by
 obtain ⟨v,own',e1,u',lg',hz⟩:=hr;simp only [AeJ,hg,e1,hl,ho];rw [show (Nat.beq ext.length ext.length && true)=true by rw [Bool.and_true];exact Nat.beq_refl _,cond_true,hz]
 rfl
structure OneX (ext ext':List Blk):Prop where
 g:Oh 400 [.ext 0] 0 ext=true
 l:ext.length=1
 l':ext'.length=1
 o:okB 1 ext'=true
theorem Cp (a b c a' b' c':FV):OneX [.row [.fv a,.fv b,.fv c] false] [.row [.fv a',.fv b',.fv c'] false]:=⟨gb3 ..,rfl,rfl,ob3 ..⟩
theorem AtP (a b a' b':FV):OneX [.row [.fv a,.fv b] false] [.row [.fv a',.fv b'] false]:=⟨gb2 ..,rfl,rfl,ob2 ..⟩
theorem SV (x:Nat):∀(args:List IV) {vs:List FV} (h:Hp) (lg:List Ref) (e:Option β) (k:List IV→List Ref→List (Ref×Blk)→List Ref→Option β) (ks:List Bool),(∀b∈ks,b=false)→BZ args=some vs →
  fzA args ks h lg e k=k (vs.map .fv) [] [] lg
 | [],vs,h,lg,e,k,ks,_,hz=>by cases hz;rfl
 | v::l,vs,h,lg,e,k,[],_,hz=>AhC (v::l) h lg e k hz
 | v::l,vs,h,lg,e,k,b::ks,hk,hz=>by
  have hb:=hk b List.mem_cons_self;subst hb;simp only [BZ] at hz;cases h1:Bl v with
  | none=>rw [h1] at hz;cases hz
  | some x' =>
   rw [h1] at hz;cases h2:BZ l with
   | none=>rw [h2] at hz;cases hz
   | some ys =>
    rw [h2] at hz;cases hz;rw [AnB,O8 h lg e _ h1,SV x l h lg e _ ks (fun c hc=>hk c (List.mem_cons_of_mem _ hc)) h2];rfl
theorem Ah9 {ks:List Bool} (hks:∀b∈ks,b=false) {ih:Aa} {f:FuncId} {args:List IV} {vs:List FV} {w:FV} {ext ext':List Blk} (hz:BZ args=some vs) (X:OneX ext ext') (hr:CW (ih f (.ptr (.ext 0) 0::vs.map .fv) ⟨[],ext⟩) w ext')
  (own:List (Nat×Blk)) (k:IV→Hp→List Ref→List Ref→Option (IV×Hp)):Ai (true::ks) false false ih f (.ptr (.ext 0) 0::args) ⟨own,ext⟩ k=k (.fv w) ⟨own,ext'⟩ [.ext 0] [.ext 0]:=by
 rw [OS,Ag8,Ae0,SV 0 args _ _ _ _ ks hks hz]
 have:=WR (r1:=.ext 0) (rs1:=[]) hr X.g (by rw [X.l,X.l']) (by rw [X.l];exact X.o) own (ih f (.ptr (.ext 0) 0::vs.map .fv) ⟨[],[]⟩) [] [] (Et (true::ks) false false ih f (.ptr (.ext 0) 0::args) ⟨own,ext⟩ k) k
 refine this.trans ?_;rw [X.l];rfl
theorem Dv {ih:Aa} {f:FuncId} {w:FV} {ext ext':List Blk} (hr:CW (ih f [.ptr (.ext 0) 0] ⟨[],ext⟩) w ext') (X:OneX ext ext') (own:List (Nat×Blk)) (k:IV→Hp→List Ref→List Ref→Option (IV×Hp)) :
  Ai [true] false false ih f [.ptr (.ext 0) 0] ⟨own,ext⟩ k=k (.fv w) ⟨own,ext'⟩ [.ext 0] [.ext 0]:=Ah9 (ks:=[]) (by simp) (vs:=[]) rfl X hr own k
theorem I9 {ih:Aa} {f:FuncId} {a b:IV} {x y w:FV} {ext ext':List Blk} (hr:CW (ih f [.ptr (.ext 0) 0,.fv x,.fv y] ⟨[],ext⟩) w ext') (X:OneX ext ext') (ha:Bl a=some x) (hb:Bl b=some y) (own:List (Nat×Blk))
  (k:IV→Hp→List Ref→List Ref→Option (IV×Hp)):Ai [true,false,false] false false ih f [.ptr (.ext 0) 0,a,b] ⟨own,ext⟩ k=k (.fv w) ⟨own,ext'⟩ [.ext 0] [.ext 0]:=Ah9 (ks:=[false,false]) (by simp) (Af5 ha hb) X hr own k
theorem AfB {ih:Aa} {f:FuncId} {a b c:IV} {x y z w:FV} {ext ext':List Blk} (hr:CW (ih f [.ptr (.ext 0) 0,.fv x,.fv y,.fv z] ⟨[],ext⟩) w ext') (X:OneX ext ext') (ha:Bl a=some x) (hb:Bl b=some y) (hc:Bl c=some z)
  (own:List (Nat×Blk)) (k:IV→Hp→List Ref→List Ref→Option (IV×Hp)):Ai [true,false,false,false] false false ih f [.ptr (.ext 0) 0,a,b,c] ⟨own,ext⟩ k=k (.fv w) ⟨own,ext'⟩ [.ext 0] [.ext 0] :=
 Ah9 (ks:=[false,false,false]) (by simp) (AkB ha hb hc) X hr own k
theorem R9 {ih:Aa} {f:FuncId} {s:Nat} {own:List (Nat×Blk)} {cells:List IV} {ro:Bool} {fc:List FV} {w:FV} {ext ext':List Blk} (hr:CW (ih f [.ptr (.ext 0) 0,.fv (.fp fc 0)] ⟨[],ext⟩) w ext') (X:OneX ext ext')
  (hl:Au s own=some (.row cells ro)) (hz:Dc cells=some fc) (hn:cells.length≤300) (k:IV→Hp→List Ref→List Ref→Option (IV×Hp)) :
  Ai [true,false] false false ih f [.ptr (.ext 0) 0,.ptr (.own s) 0] ⟨own,ext⟩ k=k (.fv w) ⟨Bb s (.row cells true) own,ext'⟩ [.ext 0,.own s] [.own s,.ext 0]:=by
 rw [OS,Ag8,Ae0,AnB,Aq1,AfZ,EH,hl];simp only [Option.bind_some,WM];rw [BU,decide_eq_true hn,c_t,AfE 10 _ _ _ cells _ hz,fz0]
 have:=WR (r1:=.ext 0) (rs1:=[]) hr X.g (by rw [X.l,X.l']) (by rw [X.l];exact X.o) own (ih f [.ptr (.ext 0) 0,.fv (.fp fc 0)] ⟨[],[]⟩) [(.own s,.row cells true)] [.own s] (Et [true,false] false false ih f [.ptr (.ext 0) 0,.ptr (.own s) 0] ⟨own,ext⟩ k) k
 refine this.trans ?_;rw [X.l]
 show (I8 own s fun _=>Bk own s (.row cells true) fun own=>k (.fv w) ⟨own,ext'⟩ [.ext 0,.own s] [.own s,.ext 0])=_
 rw [EH,hl,Option.bind_some,E5]
end
end Idl
end Go.Proofs.Ytdibmackcbpniaa
namespace Go.Proofs.Ytdibmackcbpniaa
namespace Idl
inductive RV where
 | mk (op n:Int) (k env:List RV) (b:Tm)
def Tm.z:Tm:=.mk 0 0 []
def RV.enc:RV→FV
 | .mk op n k env (.mk bo bn bk)=>.fp [.int .i64 op,.int .i64 n,.sl (encL k),.sl (encL env),.int .i64 bo,.int .i64 bn,.sl (bk.map Tm.enc)] 0
where
 encL:List RV→List FV
  | []=>[]
  | v::l=>v.enc::encL l
theorem AfU (l:List RV):RV.enc.encL l=l.map RV.enc:=by
 induction l with
 | nil=>rfl
 | cons t l ih=>simp [RV.enc.encL,ih]
theorem In (op n:Int) (k env:List RV) (bo bn:Int) (bk:List Tm):(RV.mk op n k env (.mk bo bn bk)).enc =
  .fp [.int .i64 op,.int .i64 n,.sl (k.map RV.enc),.sl (env.map RV.enc),.int .i64 bo,.int .i64 bn,.sl (bk.map Tm.enc)] 0:=by simp only [RV.enc,AfU]
def RV.op:RV→Int
 | .mk op _ _ _ _=>op
def RV.n:RV→Int
 | .mk _ n _ _ _=>n
def RV.k:RV→List RV
 | .mk _ _ k _ _=>k
def RV.env:RV→List RV
 | .mk _ _ _ env _=>env
def RV.b:RV→Tm
 | .mk _ _ _ _ b=>b
def RV.var (n:Int):RV:=.mk 1 n [] [] .z
def RV.clo (env:List RV) (b:Tm):RV:=.mk 0 0 [] env b
def RV.zero:RV:=.mk 11 0 [] [] .z
def RV.node (op n:Int) (k:List RV):RV:=.mk op n k [] .z
theorem Lw (v:RV):v.enc=.fp [.int .i64 v.op,.int .i64 v.n,.sl (v.k.map RV.enc),.sl (v.env.map RV.enc),.int .i64 v.b.op,.int .i64 v.b.n,.sl (v.b.kids.map Tm.enc)] 0:=by
 obtain ⟨op,n,k,env,⟨bo,bn,bk⟩⟩:=v;exact In ..
theorem WI (t:Tm):Tm.enc t=.agg [.int .i64 t.op,.int .i64 t.n,.sl (t.kids.map Tm.enc)]:=by cases t;exact Ah ..
theorem Nx (v:RV):v.enc.cells.length=1:=by obtain ⟨op,n,k,env,⟨bo,bn,bk⟩⟩:=v;rfl
theorem VC (v:RV):v.enc.cells.all FV.one=true:=by obtain ⟨op,n,k,env,⟨bo,bn,bk⟩⟩:=v;rfl
theorem AeD (v:RV):v.enc.cells=[v.enc]:=by obtain ⟨op,n,k,env,⟨bo,bn,bk⟩⟩:=v;rfl
theorem tVs:EE.T 129=some ⟨1,24,.slice 110,[.nils]⟩:=by kernel_rfl
theorem tVp:EE.T 110=some ⟨1,8,.ptr,[.fv .nilp]⟩:=by kernel_rfl
theorem sV:SliceT EE 129 1:=⟨_,_,_,_,_,tVs,tVp,rfl,by decide,by decide⟩
theorem I6 (l:List RV):Bm 1 (l.map RV.enc)=true:=by
 cases l with
 | nil=>rfl
 | cons a l=>simp only [Ayo,Bm,Nx,beq_self_eq_true]
theorem Aoo (s:Nat) (h:Hp) (k:IV→Hp→List Ref→List Ref→Option (IV×Hp)):AD (Al EE 129 0 []) s h k=k (.clip []) h [] [] :=
 DB tVs tVp (by decide) (cells:=[]) rfl k
theorem TD (a:RV) (s:Nat) (h:Hp) (k:IV→Hp→List Ref→List Ref→Option (IV×Hp)):AD (Al EE 129 1 [(0,.fv a.enc)]) s h k=k (.clip [a.enc]) h [] []:=by
 obtain ⟨op,n,kk,env,⟨bo,bn,bk⟩⟩:=a;rw [In];exact DB tVs tVp (by decide) (cells:=[.fp [.int .i64 op,.int .i64 n,.sl (kk.map RV.enc),.sl (env.map RV.enc),.int .i64 bo,.int .i64 bn,.sl (bk.map Tm.enc)] 0]) rfl k
theorem As8 (a b:RV) (s:Nat) (h:Hp) (k:IV→Hp→List Ref→List Ref→Option (IV×Hp)):AD (Al EE 129 2 [(0,.fv a.enc),(1,.fv b.enc)]) s h k=k (.clip [a.enc,b.enc]) h [] []:=by
 obtain ⟨op,n,kk,env,⟨bo,bn,bk⟩⟩:=a;obtain ⟨op',n',kk',env',⟨bo',bn',bk'⟩⟩:=b;rw [In,In];exact DB tVs tVp (by decide) (cells:=[.fp [.int .i64 op,.int .i64 n,.sl (kk.map RV.enc),.sl (env.map RV.enc),.int .i64 bo,.int .i64 bn,.sl (bk.map Tm.enc)] 0,.fp [.int .i64 op',.int .i64 n',.sl (kk'.map RV.enc),.sl (env'.map RV.enc),.int .i64 bo',.int .i64 bn',.sl (bk'.map Tm.enc)] 0]) rfl k
theorem As5 (a b c d:RV) (s:Nat) (h:Hp) (k:IV→Hp→List Ref→List Ref→Option (IV×Hp)):AD (Al EE 129 4 [(0,.fv a.enc),(1,.fv b.enc),(2,.fv c.enc),(3,.fv d.enc)]) s h k =
  k (.clip [a.enc,b.enc,c.enc,d.enc]) h [] []:=by
 have key:∀x:RV,∃l,x.enc=.fp l 0:=fun x=>⟨_,Lw x⟩;obtain ⟨la,ha⟩:=key a;obtain ⟨lb,hb⟩:=key b;obtain ⟨lc,hc⟩:=key c;obtain ⟨ld,hd⟩:=key d;rw [ha,hb,hc,hd];exact DB tVs tVp (by decide) (cells:=[.fp la 0,.fp lb 0,.fp lc 0,.fp ld 0]) rfl k
theorem Agt (e:RV) (s:Nat) (own:List (Nat×Blk)) (ext:List Blk) (k:IV→Hp→List Ref→List Ref→Option (IV×Hp)) :
  AD (AK EE s false .append [129,129] [.nils,.clip [e.enc]]) s ⟨own,ext⟩ k=C7 own s (Bk own s (.tok 1 1) fun own=>k (.app (.own s) [e.enc]) ⟨own,ext⟩ [] [.own s]) :=
 Gj sV (.clip _) (I6 [e]) rfl (by simp) (.inl rfl) s own ext k
theorem Wk {es:List RV} (hb:es.length+1≤1000000) (e:RV) (r s:Nat) (own:List (Nat×Blk)) (ext:List Blk) (k:IV→Hp→List Ref→List Ref→Option (IV×Hp)) :
  AD (AK EE s false .append [129,129] [.app (.own r) (es.map RV.enc),.clip [e.enc]]) s ⟨own,ext⟩ k =
   I8 own r fun b=>AgN b es.length 1 (Bk own r (.tok (es.length+1) 1) fun own=>k (.app (.own r) ((es++[e]).map RV.enc)) ⟨own,ext⟩ [.own r] [.own r]):=by
 rw [MB sV (.clip [e.enc]) (I6 [e]) (I6 es) (by simp [VC]) (by simpa using hb) r s own ext k];simp only [List.length_map,List.map_append,Ayo,Ayn,Aym,List.length_nil,Nat.zero_add]
theorem Qi {n:Nat} (hn:0<n) (env vs:List RV) (hv:vs≠[]) (hb:env.length+vs.length≤1000000):Bc (SS dt n 109 [.fv (.sl (env.map RV.enc)),.fv (.sl (vs.map RV.enc))] ⟨[],[]⟩) (.sl ((env++vs).map RV.enc)):=by
 obtain ⟨n,rfl⟩:∃k,n=k+1:=⟨n - 1,by omega⟩;rw [Au2];have hvs:(vs.map RV.enc).isEmpty=false:=by cases vs with
  | nil=>exact absurd rfl hv
  | cons _ _=>rfl
 cases env with
 | nil =>
  simp only [Ae5,↓XX,XY,↓reduceIte,Nat.reduceBEq,Nat.reduceAdd,Int.reduceEq,Int.reduceLT,Int.reduceLE,↓Aoo,↓Afw sV (.sl []) (.inr rfl),↓Gj sV (.sl (vs.map RV.enc)) (I6 vs) hvs (by simp;simp at hb;omega) (.inr rfl),List.nil_append];exact A1 rfl _
 | cons a env =>
  simp only [Ae5,↓XX,XY,↓reduceIte,Nat.reduceBEq,Nat.reduceAdd,Int.reduceEq,Int.reduceLT,Int.reduceLE,↓Aoo];have h1:((a::env).map RV.enc).isEmpty=false:=rfl;have h0:=fun {β:Type}=>Gj (β:=β) sV (.sl ((a::env).map RV.enc)) (I6 (a::env)) h1 (by simp only [List.length_map];omega) (.inr rfl:IV.clip []=.nils∨IV.clip []=.clip []);have h2:=fun {β:Type}=>MB (β:=β) sV (.sl (vs.map RV.enc)) (I6 vs) (I6 (a::env)) (by simp [VC]) (by simp only [List.length_map];omega);simp only [Ayo] at h0 h2;simp only [↓XX,XY,↓reduceIte,Nat.reduceBEq,Nat.reduceAdd,Int.reduceEq,Int.reduceLT,Int.reduceLE,↓h0,↓h2,↓FQ,List.map_append,List.cons_append];exact A1 rfl _
theorem AfD {n:Nat} (hn:0<n) (s nd:Int) (h1:s≤1000000) (h0:0≤s):CW (SS dt n 117 [.ptr (.ext 0) 0] ⟨[],[.row [iv s,iv nd,iv 0] false]⟩) (.bool (decide (s+1≤1000)))
  [.row [iv (s+1),iv nd,iv (if s+1≤1000 then 0 else 17)] false]:=by
 obtain ⟨n,rfl⟩:∃k,n=k+1:=⟨n - 1,by omega⟩;rw [Avs];have hw:BC (s+1)=s+1:=by rw [Az]<;>omega
 by_cases h:s+1≤1000
 ·have h':¬ 1000<s+1:=by omega
  simp only [QC,Rx,Qw,PF,Afa,↓XX,XY,↓reduceIte,Nat.reduceBEq,Nat.reduceAdd,Int.reduceEq,Int.reduceLT,Int.reduceLE,hw,h,h'];exact AV _ _ _
 ·have h':1000<s+1:=by omega
  simp only [QC,Rx,Qw,PF,Afa,↓XX,XY,↓reduceIte,Nat.reduceBEq,Nat.reduceAdd,Int.reduceEq,Int.reduceLT,Int.reduceLE,hw,h,h'];exact AV _ _ _
def Ba (ev:Int→Int→Tm→Option (RV×Int×Int)) (op:Int) (env:List RV):Nat→List Tm→Int→Int→Option (List RV×Int×Int)
 | _,[],s,e=>some ([],s,e)
 | i,t::l,s,e=>if 0<Ao op i then (Ba ev op env (i+1) l s e).map fun (vs,s,e)=>(.clo env t::vs,s,e) else
  match ev s e t with
  | none=>none
  | some (v,s,e)=>(Ba ev op env (i+1) l s e).map fun (vs,s,e)=>(v::vs,s,e)
mutual
def AM:Nat→Int→Int→Tm→List RV→Option (RV×Int×Int)
 | 0,_,_,_,_=>none
 | f+1,s,e,.mk op m ks,env =>
  if e≠0 then some (.zero,s,e) else if 900000<env.length then none else
  if op=1 then
   if m<env.length then (if 0≤m then (env[(env.length - 1 - m).toNat]?).map fun v=>(v,s,e) else none)
   else if m≤4611686018427387904 then some (.var (env.length - 1 - m),s,e) else none
  else if f≤ks.length then none else if 900000<ks.length then none else
  match Ba (fun s e t=>AM f s e t env) op env 0 ks s e with
  | none=>none
  | some (vs,s,e)=>headR f s e (.node op m vs)
def headR:Nat→Int→Int→RV→Option (RV×Int×Int)
 | 0,_,_,_=>none
 | f+1,s,e,v =>
  if e≠0 then some (v,s,e) else if s<0∨1000000<s then none else
  if v.op=5 then (match v.k[0]? with
   | none=>none
   | some k0=>if k0.op=4 then
     (if s+1≤1000 then (match k0.k[1]?,v.k[1]? with
      | some c,some x=>if 900000<c.env.length then none else AM f (s+1) 0 c.b (c.env++[x])
      | _,_=>none) else some (v,s+1,17))
    else some (v,s,e))
  else if v.op=8∨v.op=9 then (match v.k[0]? with
   | none=>none
   | some k0=>if k0.op=7 then
     (if s+1≤1000 then (k0.k[(1+v.op - 8).toNat]?).map fun x=>(x,s+1,0) else some (v,s+1,17))
    else some (v,s,e))
  else if v.op=30 then (match v.k[0]? with
   | none=>none
   | some k0=>if k0.op=19 then
     (if s+1≤1000 then (k0.k[0]?).map fun x=>(x,s+1,0) else some (v,s+1,17))
    else some (v,s,e))
  else if v.op=19 then (match v.k[0]? with
   | none=>none
   | some k0=>if k0.op=30 then
     (if s+1≤1000 then (k0.k[0]?).map fun x=>(x,s+1,0) else some (v,s+1,17))
    else some (v,s,e))
  else if v.op=13 then (match v.k[0]?,v.k[1]?,v.k[2]?,v.k[3]? with
   | some k0,some k1,some k2,some k3 =>
    if k3.op=11 then (if s+1≤1000 then some (k1,s+1,0) else some (v,s+1,17))
    else if k3.op=12 then
     (if s+1≤1000 then (match k3.k[0]? with
      | none=>none
      | some x=>(match headR f (s+1) 0 (.node 13 0 [k0,k1,k2,x]) with
       | none=>none
       | some (h,s,e)=>if 900000<k2.env.length then none else AM f s e k2.b (k2.env++[x,h])))
     else some (v,s+1,17))
    else some (v,s,e)
   | _,_,_,_=>none)
  else some (v,s,e)
end
theorem WH {β:Type} {l:List RV} {i:Nat} {v:RV} (h:l[i]?=some v) (k:IV→Option β):AP 1 (.fv (.sl (l.map RV.enc))) (iv i) k=k (.fv (.fp [v.enc] 0)):=by
 have h1:(l.map RV.enc)[i]?=some v.enc:=by rw [List.getElem?_map,h];rfl
 rw [Bn h1 (Nx v),AeD]
def Qd (f:Nat):Prop:=∀(s e:Int) (t:Tm) (env:List RV) (v:RV) (s' e' nd:Int),AM f s e t env=some (v,s',e')→∀n,f+1≤n →
 CW (SS dt n 82 [.ptr (.ext 0) 0,.fv t.enc,.fv (.sl (env.map RV.enc))] ⟨[],[.row [iv s,iv nd,iv e] false]⟩) v.enc [.row [iv s',iv nd,iv e'] false]
def QR (f:Nat):Prop:=∀(s e:Int) (v w:RV) (s' e' nd:Int),headR f s e v=some (w,s',e')→∀n,f+1≤n →
 CW (SS dt n 110 [.ptr (.ext 0) 0,.fv v.enc] ⟨[],[.row [iv s,iv nd,iv e] false]⟩) w.enc [.row [iv s',iv nd,iv e'] false]
abbrev Yp (op m:Int) (ks:List Tm) (K:IV) (tok:List (Nat×Blk)) (s nd e:Int):Hp :=
 ⟨(85983232,.row [iv op,iv m,.fv (.sl (ks.map Tm.enc))] false)::(85990405,.row [iv op,iv m,K,.nils,iv 0,iv 0,.nils] false)::tok,[.row [iv s,iv nd,iv e] false]⟩
theorem AsJ {op m:Int} (l:List RV):(RV.node op m l).enc=.fp [.int .i64 op,.int .i64 m,.sl (l.map RV.enc),.sl [],.int .i64 0,.int .i64 0,.sl []] 0:=by rw [RV.node,Tm.z,In];rfl
theorem Aex {f:Nat} (he:Qd f) (hh:QR f):Qd (f+1):=by
 intro s e t env v s' e' nd hev n hn;obtain ⟨n,rfl⟩:∃k,n=k+1:=⟨n - 1,by omega⟩;rw [c82];obtain ⟨op,m,ks⟩:=t;rw [Ah];rw [AM] at hev;by_cases h0:e≠0
 ·rw [if_pos h0] at hev;simp only [Ayi,Ayj] at hev;obtain ⟨rfl,rfl,rfl⟩:=hev;simp only [HL,Im,IH,HJ,HB,Iv,If,H0,HS,Ic,Ir,ID,Hy,IC,Hx,Ia,HI,HG,HH,H4,IF,Ie,S82,↓XX,XY,↓reduceIte,Nat.reduceBEq,Nat.reduceAdd,Int.reduceEq,Int.reduceLT,Int.reduceLE,h0];exact ⟨_,_,rfl,_,_,fun _ _=>rfl⟩
 ·have h0':e=0:=by omega
  subst h0';rw [if_neg h0] at hev;by_cases hlen:900000<env.length
  ·rw [if_pos hlen] at hev;cases hev
  ·rw [if_neg hlen] at hev;by_cases h1:op=1
   ·rw [if_pos h1] at hev;subst h1;by_cases h2:m<env.length
    ·rw [if_pos h2] at hev;by_cases h3:0≤m
     ·rw [if_pos h3] at hev;cases hg:env[(env.length - 1 - m).toNat]? with
      | none=>rw [hg] at hev;cases hev
      | some u =>
       rw [hg] at hev;simp only [Ayl,Ayi,Ayj] at hev;obtain ⟨rfl,rfl,rfl⟩:=hev;have e1:BC ((env.length:Int) - 1)=env.length - 1:=by rw [Az]<;>omega
       have e2:BC ((env.length:Int) - 1 - m)=(((env.length:Int) - 1 - m).toNat:Int):=by rw [Az]<;>omega
       simp only [HL,Im,IH,HJ,HB,Iv,If,H0,HS,Ic,Ir,ID,Hy,IC,Hx,Ia,HI,HG,HH,H4,IF,Ie,S82,↓XX,XY,↓reduceIte,Nat.reduceBEq,Nat.reduceAdd,Int.reduceEq,Int.reduceLT,Int.reduceLE,h2,e1,e2,↓WH hg];exact AV _ _ _
     ·rw [if_neg h3] at hev;cases hev
    ·rw [if_neg h2] at hev;by_cases h3:m≤4611686018427387904
     ·rw [if_pos h3] at hev;simp only [Ayi,Ayj] at hev;obtain ⟨rfl,rfl,rfl⟩:=hev;have e1:BC ((env.length:Int) - 1)=env.length - 1:=by rw [Az]<;>omega
      have e2:BC ((env.length:Int) - 1 - m)=(env.length:Int) - 1 - m:=by rw [Az]<;>omega
      simp only [HL,Im,IH,HJ,HB,Iv,If,H0,HS,Ic,Ir,ID,Hy,IC,Hx,Ia,HI,HG,HH,H4,IF,Ie,S82,↓XX,XY,↓reduceIte,Nat.reduceBEq,Nat.reduceAdd,Int.reduceEq,Int.reduceLT,Int.reduceLE,h2,e1,e2];exact ⟨_,_,rfl,_,_,fun _ _=>rfl⟩
     ·rw [if_neg h3] at hev;cases hev
   ·rw [if_neg h1] at hev;by_cases hf:f≤ks.length
    ·rw [if_pos hf] at hev;cases hev
    ·rw [if_neg hf] at hev;by_cases hk9:900000<ks.length
     ·rw [if_pos hk9] at hev;cases hev
     ·rw [if_neg hk9] at hev;cases hkg:Ba (fun s e t=>AM f s e t env) op env 0 ks s 0 with
      | none=>rw [hkg] at hev;cases hev
      | some q =>
      obtain ⟨vs,s1,e1⟩:=q;rw [hkg] at hev;simp only at hev;simp only [HL,Im,IH,HJ,HB,Iv,If,H0,HS,Ic,Ir,ID,Hy,IC,Hx,Ia,HI,HG,HH,H4,IF,Ie,S82,↓XX,XY,↓reduceIte,Nat.reduceBEq,Nat.reduceAdd,Int.reduceEq,Int.reduceLT,Int.reduceLE,h1,↓AG,XD,heldB,AN,XE];refine A2 (Q:=fun r=>CW r _ _) (fun k V H=>∃pre rest done s2 e2 us s3 e3,ks=pre++rest∧rest.length=k∧done.length=pre.length∧V=[.ptr (.ext 0) 0,.fv (.sl (env.map RV.enc)),.ptr (.own 85983232) 0,.ptr (.own 85990405) 0,iv pre.length] ∧
       (
        (pre=[]∧H=Yp op m ks .nils [] s2 nd e2) ∨
        (∃r,(r=85995534∨r=85996558)∧pre≠[]∧H=Yp op m ks (.app (.own r) (done.map RV.enc)) [(r,.tok done.length 1)] s2 nd e2)) ∧
       Ba (fun s e t=>AM f s e t env) op env pre.length rest s2 e2=some (us,s3,e3)∧headR f s3 e3 (.node op m (done++us))=some (v,s',e'))
       ?_ n ks.length _ _ (by omega) ⟨[],ks,[],s,0,vs,s1,e1,rfl,rfl,rfl,rfl,.inl ⟨rfl,rfl⟩,hkg,hev⟩
      rintro k V H rec ⟨pre,rest,done,s2,e2,us,s3,e3,hk,hl,hdl,rfl,hH,hkids,hhead⟩ hrec;have hkl:ks.length=pre.length+rest.length:=by rw [hk];simp
      have zenc:∀l:List RV,(RV.node op m l).enc=.fp [.int .i64 op,.int .i64 m,.sl (l.map RV.enc),.sl [],.int .i64 0,.int .i64 0,.sl []] 0:=fun l=>AsJ l;cases rest with
      | nil =>
       simp only [Ba,Ayi,Ayj] at hkids;obtain ⟨rfl,rfl,rfl⟩:=hkids;rw [List.append_nil] at hhead;have hc:=hh s2 e2 _ v s' e' nd hhead n (by omega);rw [zenc] at hc;have hpre:ks=pre:=by simpa using hk
       subst hpre;rcases hH with ⟨rfl,rfl⟩ | ⟨r,hr,hne,rfl⟩
       ·have hd:done=[]:=List.length_eq_zero_iff.1 hdl;subst hd;have hcall:=fun k=>R9 (k:=k) (own:=[(85983232,.row [iv op,iv m,.fv (.sl (([]:List Tm).map Tm.enc))] false),(85990405,.row [iv op,iv m,.nils,.nils,iv 0,iv 0,.nils] false)])
         (cells:=[iv op,iv m,.nils,.nils,iv 0,iv 0,.nils]) (ro:=false) (s:=85990405) hc (Cp ..) (by simp [Au]) rfl (by simp)
        simp only [↓UU7,↓XX,XY,↓reduceIte,Nat.reduceBEq,Nat.reduceAdd,Int.reduceEq,Int.reduceLT,Int.reduceLE,Int.lt_irrefl,↓hcall];exact AV _ _ _
       ·have hcall:=fun k=>R9 (k:=k) (own:=[(85983232,.row [iv op,iv m,.fv (.sl (ks.map Tm.enc))] false),(85990405,.row [iv op,iv m,.app (.own r) (done.map RV.enc),.nils,iv 0,iv 0,.nils] false),(r,.tok done.length 1)])
         (cells:=[iv op,iv m,.app (.own r) (done.map RV.enc),.nils,iv 0,iv 0,.nils]) (ro:=false) (s:=85990405) hc (Cp ..) (by simp [Au]) rfl (by simp)
        simp only [↓UU7,↓XX,XY,↓reduceIte,Nat.reduceBEq,Nat.reduceAdd,Int.reduceEq,Int.reduceLT,Int.reduceLE,Int.lt_irrefl,↓hcall];exact AV _ _ _
      | cons t rest =>
       have hi:(pre.length:Int)<ks.length:=by rw [hkl];simp;omega
       have hg:=B7 hk;have hb:=DF (n:=n) (by omega) op pre.length;have hwi:BC ((pre.length:Int)+1)=((pre++[t]).length:Int):=(Az (by omega) (by omega)).trans (by simp);have hbi:(0<(Ao op pre.length:Int)) ↔ 0<Ao op pre.length:=by omega
       have hd9:done.length+1≤1000000:=by omega
       simp only [Ba] at hkids;simp only [Aym] at hl;by_cases hbp:0<Ao op pre.length
       ·rw [if_pos hbp] at hkids;cases hkk:Ba (fun s e t=>AM f s e t env) op env (pre.length+1) rest s2 e2 with
        | none=>rw [hkk] at hkids;cases hkids
        | some q =>
        obtain ⟨us',s4,e4⟩:=q;rw [hkk] at hkids;simp only [Ayl,Ayi,Ayj] at hkids;obtain ⟨rfl,rfl,rfl⟩:=hkids;have hbp':0<(Ao op pre.length:Int):=by omega
        have hce:(RV.clo env t).enc=.fp [.int .i64 0,.int .i64 0,.sl [],.sl (env.map RV.enc),.int .i64 t.op,.int .i64 t.n,.sl (t.kids.map Tm.enc)] 0:=by rw [Lw];rfl
        have hnext:∀tk,(tk=85995534∨tk=85996558)→CW (rec [.ptr (.ext 0) 0,.fv (.sl (env.map RV.enc)),.ptr (.own 85983232) 0,.ptr (.own 85990405) 0,iv (pre++[t]).length]
          (Yp op m ks (.app (.own tk) ((done++[RV.clo env t]).map RV.enc)) [(tk,.tok (done++[RV.clo env t]).length 1)] s2 nd e2)) v.enc [.row [iv s',iv nd,iv e'] false]:=fun tk htk =>
         hrec rest.length _ _ (by omega) ⟨pre++[t],rest,done++[.clo env t],s2,e2,us',s4,e4,by rw [hk];simp,rfl,by simp [hdl],rfl,.inr ⟨tk,htk,by simp,rfl⟩,by simpa using hkk,by simpa using hhead⟩
        obtain ⟨o,p,l⟩:=t;simp only [Tm.op,Tm.n,Tm.kids] at hce;have ha0:=fun {s own ext k}=>Agt (RV.clo env (.mk o p l)) s own ext k;have ha1:=fun {r s own ext k}=>Wk hd9 (RV.clo env (.mk o p l)) r s own ext k;rw [hce] at ha0 ha1;have hbs:=fun (tl:List (Nat×Blk)) (K:IV) (own:List (Nat×Blk)) (hown:own=(85983232,.row [iv op,iv m,.fv (.sl (ks.map Tm.enc))] false)::(85990405,.row [iv op,iv m,K,.nils,iv 0,iv 0,.nils] false)::tl) (hl:Au 85995532 own=some (.row [iv 0,iv 0,.nils,.fv (.sl (env.map RV.enc)),iv o,iv p,.fv (.sl (l.map Tm.enc))] false)) (own':List (Nat×Blk)) (ho) s ext (k:IV→Hp→List Ref→List Ref→Option (IV×Hp)) =>
         AtS (E:=EE) (own:=own) (own':=own') tVs tVp rfl ⟨_,rfl⟩ hl (fc:=[.int .i64 0,.int .i64 0,.sl [],.sl (env.map RV.enc),.int .i64 o,.int .i64 p,.sl (l.map Tm.enc)]) rfl (by simp) ho s ext k
        rcases hH with ⟨hp0,rfl⟩ | ⟨r,hr,hne,rfl⟩
        ·have hd0:done=[]:=List.length_eq_zero_iff.1 (by rw [hdl,hp0];rfl);subst hd0;have h9:=hnext _ (.inl rfl);simp only [List.nil_append,Ayo,Ayn,Aym,List.length_nil] at h9;rw [hce] at h9;have hb0:=fun s ext k=>hbs [(85995532,.row [iv 0,iv 0,.nils,.fv (.sl (env.map RV.enc)),iv o,iv p,.fv (.sl (l.map Tm.enc))] false)] .nils _ rfl (by simp [Au])
          [(85983232,.row [iv op,iv m,.fv (.sl (ks.map Tm.enc))] false),(85990405,.row [iv op,iv m,.nils,.nils,iv 0,iv 0,.nils] false),(85995532,.row [iv 0,iv 0,.nils,.fv (.sl (env.map RV.enc)),iv o,iv p,.fv (.sl (l.map Tm.enc))] true)] (by simp [Bb]) s ext k
         simp only [↓UU7,↓XX,XY,↓reduceIte,Nat.reduceBEq,Nat.reduceAdd,Int.reduceEq,Int.reduceLT,Int.reduceLE,hi,↓Bn (AJ hg) (A0 _ _ _),↓BQ,↓Ag hb,hbp',hwi,↓hb0,↓ha0,↓AG,XD,heldB,AN,XE];exact h9
        ·have h9:=hnext r hr;rw [show (done++[RV.clo env (Tm.mk o p l)]).length=done.length+1 by simp] at h9
         simp only [List.map_append,Ayo,Ayn] at h9;rw [hce] at h9;simp only [List.map_append,Ayo,Ayn] at ha1;rw [hce] at ha1;have hb0:=fun s ext k=>hbs [(r,.tok done.length 1),(85995532,.row [iv 0,iv 0,.nils,.fv (.sl (env.map RV.enc)),iv o,iv p,.fv (.sl (l.map Tm.enc))] false)] (.app (.own r) (done.map RV.enc)) _ rfl (by rcases hr with rfl | rfl<;>simp [Au])
          [(85983232,.row [iv op,iv m,.fv (.sl (ks.map Tm.enc))] false),(85990405,.row [iv op,iv m,.app (.own r) (done.map RV.enc),.nils,iv 0,iv 0,.nils] false),(r,.tok done.length 1),(85995532,.row [iv 0,iv 0,.nils,.fv (.sl (env.map RV.enc)),iv o,iv p,.fv (.sl (l.map Tm.enc))] true)]
          (by rcases hr with rfl | rfl<;>simp [Bb]) s ext k
         rcases hr with rfl | rfl
         ·simp only [↓UU7,↓XX,XY,↓reduceIte,Nat.reduceBEq,Nat.reduceAdd,Int.reduceEq,Int.reduceLT,Int.reduceLE,hi,↓Bn (AJ hg) (A0 _ _ _),↓BQ,↓Ag hb,hbp',hwi,↓hb0,↓ha1,↓FQ,↓AG,XD,heldB,AN,XE];exact h9
         ·simp only [↓UU7,↓XX,XY,↓reduceIte,Nat.reduceBEq,Nat.reduceAdd,Int.reduceEq,Int.reduceLT,Int.reduceLE,hi,↓Bn (AJ hg) (A0 _ _ _),↓BQ,↓Ag hb,hbp',hwi,↓hb0,↓ha1,↓FQ,↓AG,XD,heldB,AN,XE];exact h9
       ·rw [if_neg hbp] at hkids;have hbp':¬ 0<(Ao op pre.length:Int):=by omega
        cases hev1:AM f s2 e2 t env with
        | none=>rw [hev1] at hkids;cases hkids
        | some q =>
        obtain ⟨v1,s4,e4⟩:=q;rw [hev1] at hkids;simp only at hkids;cases hkk:Ba (fun s e t=>AM f s e t env) op env (pre.length+1) rest s4 e4 with
        | none=>rw [hkk] at hkids;cases hkids
        | some q =>
        obtain ⟨us',s5,e5⟩:=q;rw [hkk] at hkids;simp only [Ayl,Ayi,Ayj] at hkids;obtain ⟨rfl,rfl,rfl⟩:=hkids;have hc:=he s2 e2 t env v1 s4 e4 nd hev1 n (by omega);have hnext:∀tk,(tk=85995534∨tk=85996558)→CW (rec [.ptr (.ext 0) 0,.fv (.sl (env.map RV.enc)),.ptr (.own 85983232) 0,.ptr (.own 85990405) 0,iv (pre++[t]).length]
          (Yp op m ks (.app (.own tk) ((done++[v1]).map RV.enc)) [(tk,.tok (done++[v1]).length 1)] s4 nd e4)) v.enc [.row [iv s',iv nd,iv e'] false]:=fun tk htk =>
         hrec rest.length _ _ (by omega) ⟨pre++[t],rest,done++[v1],s4,e4,us',s5,e5,by rw [hk];simp,rfl,by simp [hdl],rfl,.inr ⟨tk,htk,by simp,rfl⟩,by simpa using hkk,by simpa using hhead⟩
        obtain ⟨o,p,l⟩:=t;rw [Ah] at hc;rcases hH with ⟨hp0,rfl⟩ | ⟨r,hr,hne,rfl⟩
        ·have hd0:done=[]:=List.length_eq_zero_iff.1 (by rw [hdl,hp0];rfl);subst hd0;have h9:=hnext _ (.inr rfl);simp only [List.nil_append,Ayo,Ayn,Aym,List.length_nil] at h9;simp only [↓UU7,↓XX,XY,↓reduceIte,Nat.reduceBEq,Nat.reduceAdd,Int.reduceEq,Int.reduceLT,Int.reduceLE,hi,↓Bn (AJ hg) (A0 _ _ _),↓BQ,↓Ag hb,hbp',hwi,↓I9 hc (Cp _ _ _ _ _ _),↓TD,↓Agt,↓AG,XD,heldB,AN,XE];exact h9
        ·have h9:=hnext r hr;rw [show (done++[v1]).length=done.length+1 by simp] at h9
         rcases hr with rfl | rfl
         ·simp only [↓UU7,↓XX,XY,↓reduceIte,Nat.reduceBEq,Nat.reduceAdd,Int.reduceEq,Int.reduceLT,Int.reduceLE,hi,↓Bn (AJ hg) (A0 _ _ _),↓BQ,↓Ag hb,hbp',hwi,↓I9 hc (Cp _ _ _ _ _ _),↓TD,↓Wk hd9,↓FQ,↓AG,XD,heldB,AN,XE];exact h9
         ·simp only [↓UU7,↓XX,XY,↓reduceIte,Nat.reduceBEq,Nat.reduceAdd,Int.reduceEq,Int.reduceLT,Int.reduceLE,hi,↓Bn (AJ hg) (A0 _ _ _),↓BQ,↓Ag hb,hbp',hwi,↓I9 hc (Cp _ _ _ _ _ _),↓TD,↓Wk hd9,↓FQ,↓AG,XD,heldB,AN,XE];exact h9
def RV.cl (v:RV):List FV:=[.int .i64 v.op,.int .i64 v.n,.sl (v.k.map RV.enc),.sl (v.env.map RV.enc),.int .i64 v.b.op,.int .i64 v.b.n,.sl (v.b.kids.map Tm.enc)]
section
variable {β:Type} (v:RV)
theorem Aum (k:IV→Option β):AX (.fv v.enc) k=k (.fv v.enc):=by rw [Lw];rfl
theorem AvP (o:Nat) (k:IV→Option β):Af o (.fv v.enc) k=k (.fv (.fp v.cl o)):=by rw [Lw,Aug];rfl
theorem nc0 (k:FV→Option β):Dh v.cl 0 k=k (.int .i64 v.op):=rfl
theorem nc1 (k:FV→Option β):Dh v.cl 1 k=k (.int .i64 v.n):=rfl
theorem nc2 (k:FV→Option β):Dh v.cl 2 k=k (.sl (v.k.map RV.enc)):=rfl
theorem nc3 (k:FV→Option β):Dh v.cl 3 k=k (.sl (v.env.map RV.enc)):=rfl
theorem dc4 (k:List FV→Option β):Fi v.cl 4 k=k [.int .i64 v.b.op,.int .i64 v.b.n,.sl (v.b.kids.map Tm.enc)]:=rfl
end
theorem GG {β:Type} {l:List RV} {v:RV} (h:l[0]?=some v) (k:IV→Option β):AP 1 (.fv (.sl (l.map RV.enc))) (iv 0) k=k (.fv (.fp [v.enc] 0)):=WH (i:=0) h k
theorem AhD {β:Type} {l:List RV} {v:RV} (h:l[1]?=some v) (k:IV→Option β):AP 1 (.fv (.sl (l.map RV.enc))) (iv 1) k=k (.fv (.fp [v.enc] 0)):=WH (i:=1) h k
theorem AsK {β:Type} {l:List RV} {v:RV} (h:l[2]?=some v) (k:IV→Option β):AP 1 (.fv (.sl (l.map RV.enc))) (iv 2) k=k (.fv (.fp [v.enc] 0)):=WH (i:=2) h k
theorem Ahz {β:Type} {l:List RV} {v:RV} (h:l[3]?=some v) (k:IV→Option β):AP 1 (.fv (.sl (l.map RV.enc))) (iv 3) k=k (.fv (.fp [v.enc] 0)):=WH (i:=3) h k
def XV:=Ayh @Aum<|Ayh @AvP<|Ayh @nc0<|Ayh @nc1<|Ayh @nc2<|Ayh @nc3 @dc4
set_option maxHeartbeats 1000000 in
set_option maxRecDepth 20000 in
theorem Ae1 {f:Nat} (he:Qd f) (hh:QR f):QR (f+1):=by
 intro s e v w s' e' nd hev n hn;obtain ⟨n,rfl⟩:∃k,n=k+1:=⟨n - 1,by omega⟩;rw [Avc];rw [headR] at hev;by_cases h0:e≠0
 ·rw [if_pos h0] at hev;simp only [Ayi,Ayj] at hev;obtain ⟨rfl,rfl,rfl⟩:=hev;simp only [↓Oi,↓XX,XY,↓reduceIte,Nat.reduceBEq,Nat.reduceAdd,Int.reduceEq,Int.reduceLT,Int.reduceLE,h0];exact AV _ _ _
 ·have h0':e=0:=by omega
  subst h0';rw [if_neg h0] at hev;by_cases hs:s<0∨1000000<s
  ·rw [if_pos hs] at hev;cases hev
  ·rw [if_neg hs] at hev;have hst:=AfD (n:=n) (by omega) s nd (by omega) (by omega);have Cw:∀{x:RV} {a b:Int},some (x,a,b)=some (w,s',e')→x=w∧a=s'∧b=e':=by
    intro x a b h;simp only [Ayi,Ayj] at h;exact h
   by_cases h5:v.op=5
   ·rw [if_pos h5] at hev;cases hk0:v.k[0]? with
    | none=>rw [hk0] at hev;cases hev
    | some k0 =>
     rw [hk0] at hev;simp only at hev;by_cases h4:k0.op=4
     ·rw [if_pos h4] at hev;by_cases hq:s+1≤1000
      ·rw [if_pos hq] at hev;simp only [hq,decide_true,if_true] at hst;cases hc:k0.k[1]? with
       | none=>rw [hc] at hev;cases hev
       | some c =>
        cases hx:v.k[1]? with
        | none=>rw [hc,hx] at hev;cases hev
        | some x =>
         rw [hc,hx] at hev;simp only at hev;by_cases hl:900000<c.env.length
         ·rw [if_pos hl] at hev;cases hev
         ·rw [if_neg hl] at hev;have hcall:=he (s+1) 0 c.b (c.env++[x]) w s' e' nd hev n (by omega);rw [WI] at hcall;have hp:=Qi (n:=n) (by omega) c.env [x] (by simp) (by simp;omega);simp only [Ayo,Ayn] at hp;simp only [↓Oi,↓XX,XY,↓reduceIte,Nat.reduceBEq,Nat.reduceAdd,Int.reduceEq,Int.reduceLT,Int.reduceLE,↓XV,h5,↓GG hk0,h4,↓Dv hst (Cp _ _ _ _ _ _),↓AhD hc,↓AhD hx,↓TD,↓Ag hp,↓I9 hcall (Cp _ _ _ _ _ _)];exact AV _ _ _
      ·rw [if_neg hq] at hev;obtain ⟨rfl,rfl,rfl⟩:=Cw hev;simp only [hq,decide_false,if_false] at hst;simp only [↓Oi,↓XX,XY,↓reduceIte,Nat.reduceBEq,Nat.reduceAdd,Int.reduceEq,Int.reduceLT,Int.reduceLE,↓XV,h5,↓GG hk0,h4,↓Dv hst (Cp _ _ _ _ _ _)];exact AV _ _ _
     ·rw [if_neg h4] at hev;obtain ⟨rfl,rfl,rfl⟩:=Cw hev;simp only [↓Oi,↓XX,XY,↓reduceIte,Nat.reduceBEq,Nat.reduceAdd,Int.reduceEq,Int.reduceLT,Int.reduceLE,↓XV,h5,↓GG hk0,h4];exact AV _ _ _
   ·rw [if_neg h5] at hev;by_cases h89:v.op=8∨v.op=9
    ·rw [if_pos h89] at hev;cases hk0:v.k[0]? with
     | none=>rw [hk0] at hev;cases hev
     | some k0 =>
      rw [hk0] at hev;simp only at hev;by_cases h7:k0.op=7
      ·rw [if_pos h7] at hev;by_cases hq:s+1≤1000
       ·rw [if_pos hq] at hev;simp only [hq,decide_true,if_true] at hst;cases hx:k0.k[(1+v.op - 8).toNat]? with
        | none=>rw [hx] at hev;cases hev
        | some x =>
         rw [hx] at hev;obtain ⟨rfl,rfl,rfl⟩:=Cw hev;rcases h89 with h8 | h9
         ·rw [h8] at hx;have hw1:BC (1+8)=9:=by decide
          have hw2:BC (9 - 8)=1:=by decide
          simp only [↓Oi,↓XX,XY,↓reduceIte,Nat.reduceBEq,Nat.reduceAdd,Int.reduceEq,Int.reduceLT,Int.reduceLE,↓XV,h8,↓GG hk0,h7,↓Dv hst (Cp _ _ _ _ _ _),hw1,hw2,↓AhD (l:=k0.k) (v:=x) hx];exact AV _ _ _
         ·rw [h9] at hx;have hw1:BC (1+9)=10:=by decide
          have hw2:BC (10 - 8)=2:=by decide
          simp only [↓Oi,↓XX,XY,↓reduceIte,Nat.reduceBEq,Nat.reduceAdd,Int.reduceEq,Int.reduceLT,Int.reduceLE,↓XV,h9,↓GG hk0,h7,↓Dv hst (Cp _ _ _ _ _ _),hw1,hw2,↓AsK (l:=k0.k) (v:=x) hx];exact AV _ _ _
       ·rw [if_neg hq] at hev;obtain ⟨rfl,rfl,rfl⟩:=Cw hev;simp only [hq,decide_false,if_false] at hst;rcases h89 with h8 | h9
        ·simp only [↓Oi,↓XX,XY,↓reduceIte,Nat.reduceBEq,Nat.reduceAdd,Int.reduceEq,Int.reduceLT,Int.reduceLE,↓XV,h8,↓GG hk0,h7,↓Dv hst (Cp _ _ _ _ _ _)];exact AV _ _ _
        ·simp only [↓Oi,↓XX,XY,↓reduceIte,Nat.reduceBEq,Nat.reduceAdd,Int.reduceEq,Int.reduceLT,Int.reduceLE,↓XV,h9,↓GG hk0,h7,↓Dv hst (Cp _ _ _ _ _ _)];exact AV _ _ _
      ·rw [if_neg h7] at hev;obtain ⟨rfl,rfl,rfl⟩:=Cw hev;rcases h89 with h8 | h9
       ·simp only [↓Oi,↓XX,XY,↓reduceIte,Nat.reduceBEq,Nat.reduceAdd,Int.reduceEq,Int.reduceLT,Int.reduceLE,↓XV,h8,↓GG hk0,h7];exact AV _ _ _
       ·simp only [↓Oi,↓XX,XY,↓reduceIte,Nat.reduceBEq,Nat.reduceAdd,Int.reduceEq,Int.reduceLT,Int.reduceLE,↓XV,h9,↓GG hk0,h7];exact AV _ _ _
    ·rw [if_neg h89] at hev;have h8:¬ v.op=8:=fun e=>h89 (.inl e);have h9:¬ v.op=9:=fun e=>h89 (.inr e);by_cases h30:v.op=30
     ·rw [if_pos h30] at hev;cases hk0:v.k[0]? with
      | none=>rw [hk0] at hev;cases hev
      | some k0 =>
       rw [hk0] at hev;simp only at hev;by_cases h7:k0.op=19
       ·rw [if_pos h7] at hev;by_cases hq:s+1≤1000
        ·rw [if_pos hq] at hev;simp only [hq,decide_true,if_true] at hst;cases hx:k0.k[0]? with
         | none=>rw [hx] at hev;cases hev
         | some x =>
          rw [hx] at hev;obtain ⟨rfl,rfl,rfl⟩:=Cw hev;simp only [↓Oi,↓XX,XY,↓reduceIte,Nat.reduceBEq,Nat.reduceAdd,Int.reduceEq,Int.reduceLT,Int.reduceLE,↓XV,h30,↓GG hk0,h7,↓Dv hst (Cp _ _ _ _ _ _),↓GG hx];exact AV _ _ _
        ·rw [if_neg hq] at hev;obtain ⟨rfl,rfl,rfl⟩:=Cw hev;simp only [hq,decide_false,if_false] at hst;simp only [↓Oi,↓XX,XY,↓reduceIte,Nat.reduceBEq,Nat.reduceAdd,Int.reduceEq,Int.reduceLT,Int.reduceLE,↓XV,h30,↓GG hk0,h7,↓Dv hst (Cp _ _ _ _ _ _)];exact AV _ _ _
       ·rw [if_neg h7] at hev;obtain ⟨rfl,rfl,rfl⟩:=Cw hev;simp only [↓Oi,↓XX,XY,↓reduceIte,Nat.reduceBEq,Nat.reduceAdd,Int.reduceEq,Int.reduceLT,Int.reduceLE,↓XV,h30,↓GG hk0,h7];exact AV _ _ _
     ·rw [if_neg h30] at hev;by_cases h19:v.op=19
      ·rw [if_pos h19] at hev;cases hk0:v.k[0]? with
       | none=>rw [hk0] at hev;cases hev
       | some k0 =>
        rw [hk0] at hev;simp only at hev;by_cases h7:k0.op=30
        ·rw [if_pos h7] at hev;by_cases hq:s+1≤1000
         ·rw [if_pos hq] at hev;simp only [hq,decide_true,if_true] at hst;cases hx:k0.k[0]? with
          | none=>rw [hx] at hev;cases hev
          | some x =>
           rw [hx] at hev;obtain ⟨rfl,rfl,rfl⟩:=Cw hev;simp only [↓Oi,↓XX,XY,↓reduceIte,Nat.reduceBEq,Nat.reduceAdd,Int.reduceEq,Int.reduceLT,Int.reduceLE,↓XV,h19,↓GG hk0,h7,↓Dv hst (Cp _ _ _ _ _ _),↓GG hx];exact AV _ _ _
         ·rw [if_neg hq] at hev;obtain ⟨rfl,rfl,rfl⟩:=Cw hev;simp only [hq,decide_false,if_false] at hst;simp only [↓Oi,↓XX,XY,↓reduceIte,Nat.reduceBEq,Nat.reduceAdd,Int.reduceEq,Int.reduceLT,Int.reduceLE,↓XV,h19,↓GG hk0,h7,↓Dv hst (Cp _ _ _ _ _ _)];exact AV _ _ _
        ·rw [if_neg h7] at hev;obtain ⟨rfl,rfl,rfl⟩:=Cw hev;simp only [↓Oi,↓XX,XY,↓reduceIte,Nat.reduceBEq,Nat.reduceAdd,Int.reduceEq,Int.reduceLT,Int.reduceLE,↓XV,h19,↓GG hk0,h7];exact AV _ _ _
      ·rw [if_neg h19] at hev;by_cases h13:v.op=13
       ·rw [if_pos h13] at hev;cases hk0:v.k[0]? with
        | none=>rw [hk0] at hev;cases hev
        | some k0 =>
        cases hk1:v.k[1]? with
        | none=>rw [hk0,hk1] at hev;cases hev
        | some k1 =>
        cases hk2:v.k[2]? with
        | none=>rw [hk0,hk1,hk2] at hev;cases hev
        | some k2 =>
        cases hk3:v.k[3]? with
        | none=>rw [hk0,hk1,hk2,hk3] at hev;cases hev
        | some k3 =>
        rw [hk0,hk1,hk2,hk3] at hev;simp only at hev;by_cases h11:k3.op=11
        ·rw [if_pos h11] at hev;by_cases hq:s+1≤1000
         ·rw [if_pos hq] at hev;obtain ⟨rfl,rfl,rfl⟩:=Cw hev;simp only [hq,decide_true,if_true] at hst;simp only [↓Oi,↓XX,XY,↓reduceIte,Nat.reduceBEq,Nat.reduceAdd,Int.reduceEq,Int.reduceLT,Int.reduceLE,↓XV,h13,↓Ahz hk3,h11,↓Dv hst (Cp _ _ _ _ _ _),↓AhD hk1];exact AV _ _ _
         ·rw [if_neg hq] at hev;obtain ⟨rfl,rfl,rfl⟩:=Cw hev;simp only [hq,decide_false,if_false] at hst;simp only [↓Oi,↓XX,XY,↓reduceIte,Nat.reduceBEq,Nat.reduceAdd,Int.reduceEq,Int.reduceLT,Int.reduceLE,↓XV,h13,↓Ahz hk3,h11,↓Dv hst (Cp _ _ _ _ _ _)];exact AV _ _ _
        ·rw [if_neg h11] at hev;by_cases h12:k3.op=12
         ·rw [if_pos h12] at hev;by_cases hq:s+1≤1000
          ·rw [if_pos hq] at hev;simp only [hq,decide_true,if_true] at hst;cases hx:k3.k[0]? with
           | none=>rw [hx] at hev;cases hev
           | some x =>
           rw [hx] at hev;simp only at hev;cases hd:headR f (s+1) 0 (.node 13 0 [k0,k1,k2,x]) with
           | none=>rw [hd] at hev;cases hev
           | some q =>
           obtain ⟨h,s2,e2⟩:=q;rw [hd] at hev;simp only at hev;by_cases hl:900000<k2.env.length
           ·rw [if_pos hl] at hev;cases hev
           ·rw [if_neg hl] at hev;have hcall:=he s2 e2 k2.b (k2.env++[x,h]) w s' e' nd hev n (by omega);rw [WI] at hcall;have hcall2:=hh (s+1) 0 _ h s2 e2 nd hd n (by omega);rw [AsJ] at hcall2;simp only [Ayo,Ayn] at hcall2;have hp:=Qi (n:=n) (by omega) k2.env [x,h] (by simp) (by simp;omega);simp only [Ayo,Ayn] at hp;have hcall3:=fun k=>R9 (k:=k) (own:=[(115363862,.row [iv 13,iv 0,.clip [k0.enc,k1.enc,k2.enc,x.enc],.nils,iv 0,iv 0,.nils] false)])
             (cells:=[iv 13,iv 0,.clip [k0.enc,k1.enc,k2.enc,x.enc],.nils,iv 0,iv 0,.nils]) (ro:=false) (s:=115363862) hcall2 (Cp ..) (by simp [Au]) rfl (by simp)
            simp only [↓Oi,↓XX,XY,↓reduceIte,Nat.reduceBEq,Nat.reduceAdd,Int.reduceEq,Int.reduceLT,Int.reduceLE,↓XV,h13,↓Ahz hk3,h11,h12,↓Dv hst (Cp _ _ _ _ _ _),↓GG hx,↓GG hk0,↓AhD hk1,↓AsK hk2,↓As5,↓hcall3,↓As8,↓Ag hp,↓I9 hcall (Cp _ _ _ _ _ _)];exact AV _ _ _
          ·rw [if_neg hq] at hev;obtain ⟨rfl,rfl,rfl⟩:=Cw hev;simp only [hq,decide_false,if_false] at hst;simp only [↓Oi,↓XX,XY,↓reduceIte,Nat.reduceBEq,Nat.reduceAdd,Int.reduceEq,Int.reduceLT,Int.reduceLE,↓XV,h13,↓Ahz hk3,h11,h12,↓Dv hst (Cp _ _ _ _ _ _)];exact AV _ _ _
         ·rw [if_neg h12] at hev;obtain ⟨rfl,rfl,rfl⟩:=Cw hev;simp only [↓Oi,↓XX,XY,↓reduceIte,Nat.reduceBEq,Nat.reduceAdd,Int.reduceEq,Int.reduceLT,Int.reduceLE,↓XV,h13,↓Ahz hk3,h11,h12];exact AV _ _ _
       ·rw [if_neg h13] at hev;obtain ⟨rfl,rfl,rfl⟩:=Cw hev;simp only [↓Oi,↓XX,XY,↓reduceIte,Nat.reduceBEq,Nat.reduceAdd,Int.reduceEq,Int.reduceLT,Int.reduceLE,↓XV,h5,h8,h9,h30,h19,h13];exact AV _ _ _
theorem ZM:∀f,Qd f∧QR f:=by
 intro f
 induction f with
 | zero=>exact ⟨(by intro s e t env v s' e' nd h;rw [AM] at h;cases h),(by intro s e v w s' e' nd h;rw [headR] at h;cases h)⟩
 | succ f ih=>exact ⟨Aex ih.1 ih.2,Ae1 ih.1 ih.2⟩
end Idl
end Go.Proofs.Ytdibmackcbpniaa
namespace Go.Proofs.Ytdibmackcbpniaa
namespace Idl
def JU (u:Int) (b:Nat):List RV:=(List.range b).map fun (j:Nat)=>RV.var (u+(j:Int))
theorem Se (u:Int) (b:Nat):JU u (b+1)=JU u b++[RV.var (u+b)]:=by simp [JU,List.range_succ]
theorem CG (u:Int) (b:Nat):(JU u b).length=b:=by simp [JU]
def BG (rd:Int→Int→Int→RV→Int→Option (Tm×Int×Int×Int)) (f:Nat) (op u:Int):Nat→List RV→Int→Int→Int→Option (List Tm×Int×Int×Int)
 | _,[],s,nd,e=>some ([],s,nd,e)
 | i,k::l,s,nd,e =>
  match (if 0<Ao op i then (if 900000<k.env.length then none else AM f s e k.b (k.env++JU u (Ao op i))) else some (k,s,e)) with
  | none=>none
  | some (k',s1,e1)=>match rd s1 nd e1 k' (u+Ao op i) with
   | none=>none
   | some (t,s2,nd2,e2)=>(BG rd f op u (i+1) l s2 nd2 e2).map fun (ts,s,nd,e)=>(t::ts,s,nd,e)
def A9:Nat→Int→Int→Int→RV→Int→Int→Option (Tm×Int×Int×Int)
 | 0,_,_,_,_,_,_=>none
 | f+1,s,nd,e,v,u,d =>
  if nd<0∨1000000<nd∨u<0∨1000000<u∨d<0∨1000000<d∨v.n < -2305843009213693952∨2305843009213693952<v.n∨f≤v.k.length∨900000<v.k.length∨f≤3 then none else
  if (if e=0∧(3000<nd+1∨120<d) then 5 else e)≠0 then some (.z,s,nd+1,(if e=0∧(3000<nd+1∨120<d) then 5 else e))
  else if v.op=1 then some (.mk 1 (u - 1 - v.n) [],s,nd+1,0)
  else (BG (fun s nd e k u=>A9 f s nd e k u (d+1)) f v.op u 0 v.k s (nd+1) 0).map fun (ts,s,nd,e)=>(.mk v.op v.n ts,s,nd,e)
def WA (f:Nat):Prop:=∀(s nd e:Int) (v:RV) (u d:Int) (t:Tm) (s' nd' e':Int),A9 f s nd e v u d=some (t,s',nd',e')→∀n,f+1≤n →
 CW (SS dt n 81 [.ptr (.ext 0) 0,.fv v.enc,iv u,iv d] ⟨[],[.row [iv s,iv nd,iv e] false]⟩) t.enc [.row [iv s',iv nd',iv e'] false]
abbrev KY (op m:Int) (K:IV) (tok:List (Nat×Blk)) (s nd e:Int):Hp :=
 ⟨(84934656,.row [iv 0,iv 0,.nils] false)::(84942857,.row [iv op,iv m,K] false)::tok,[.row [iv s,iv nd,iv e] false]⟩
theorem Alo {cells:List IV} {fc:List FV} (hz:Dc cells=some fc) (hn:cells.length≤100) (s:Nat) (h:Hp) (k:IV→Hp→List Ref→List Ref→Option (IV×Hp)):fzS (NW true s (.agg cells)) s (.agg cells) h k=k (.fv (.fp fc 0)) h [] []:=by
 have:NW true s (.agg cells)=.ret { eff:={ val:=.fv (.fp fc 0),upd:=[] } }:=by
  simp only [NW,IV.alive,Bool.true_eq_false,if_false,if_true,IV.cells,YD cells 4096 (by omega) hz,Rd.bind]
 unfold fzS;rw [this,Aht];exact H9 _ s h k
theorem Adm (n:Int):(RV.var n).enc=.fp [.int .i64 1,.int .i64 n,.sl [],.sl [],.int .i64 0,.int .i64 0,.sl []] 0:=by rw [RV.var,Tm.z,In];rfl
set_option maxRecDepth 20000 in
set_option maxHeartbeats 1000000 in
theorem Aew {f:Nat} (hr:WA f):WA (f+1):=by
 intro s nd e v u d t s' nd' e' hev n hn;obtain ⟨n,rfl⟩:∃k,n=k+1:=⟨n - 1,by omega⟩;rw [c81];rw [A9] at hev;by_cases hbad:nd<0∨1000000<nd∨u<0∨1000000<u∨d<0∨1000000<d∨v.n < -2305843009213693952∨2305843009213693952<v.n∨f≤v.k.length∨900000<v.k.length∨f≤3
 ·rw [if_pos hbad] at hev;cases hev
 ·rw [if_neg hbad] at hev;have wnd:BC (nd+1)=nd+1:=by rw [Az]<;>omega
  have wd:BC (d+1)=d+1:=by rw [Az]<;>omega
  have wu:BC (u - 1)=u - 1:=by rw [Az]<;>omega
  have wv:BC (u - 1 - v.n)=u - 1 - v.n:=by rw [Az]<;>omega
  by_cases he:e=0
  ·subst he;by_cases h3:3000<nd+1
   ·have e5:(if (0:Int)=0∧(3000<nd+1∨120<d) then (5:Int) else 0)=5:=if_pos ⟨rfl,.inl h3⟩;rw [e5,if_pos (by decide)] at hev;simp only [Ayi,Ayj] at hev;obtain ⟨rfl,rfl,rfl,rfl⟩:=hev;simp only [↓UU5,↓XX,XY,↓reduceIte,Nat.reduceBEq,Nat.reduceAdd,Int.reduceEq,Int.reduceLT,Int.reduceLE,wnd,h3];exact Hu rfl _ _
   ·by_cases h4:120<d
    ·have e5:(if (0:Int)=0∧(3000<nd+1∨120<d) then (5:Int) else 0)=5:=if_pos ⟨rfl,.inr h4⟩;rw [e5,if_pos (by decide)] at hev;simp only [Ayi,Ayj] at hev;obtain ⟨rfl,rfl,rfl,rfl⟩:=hev;simp only [↓UU5,↓XX,XY,↓reduceIte,Nat.reduceBEq,Nat.reduceAdd,Int.reduceEq,Int.reduceLT,Int.reduceLE,wnd,h3,h4];exact Hu rfl _ _
    ·have e5:(if (0:Int)=0∧(3000<nd+1∨120<d) then (5:Int) else 0)=0:=if_neg (by omega);rw [e5,if_neg (by decide)] at hev;by_cases h1:v.op=1
     ·rw [if_pos h1] at hev;simp only [Ayi,Ayj] at hev;obtain ⟨rfl,rfl,rfl,rfl⟩:=hev;have hv:=Aq3 (n:=n) (by omega) (u - 1 - v.n);rw [Ah] at hv ⊢;simp only [↓UU5,↓XX,XY,↓reduceIte,Nat.reduceBEq,Nat.reduceAdd,Int.reduceEq,Int.reduceLT,Int.reduceLE,↓XV,wnd,h3,h4,h1,wu,wv,↓Av hv];exact Hu rfl _ _
     ·rw [if_neg h1] at hev;cases hrk:BG (fun s nd e k u=>A9 f s nd e k u (d+1)) f v.op u 0 v.k s (nd+1) 0 with
      | none=>rw [hrk] at hev;cases hev
      | some q =>
      obtain ⟨ts,s1,nd1,e1⟩:=q;rw [hrk] at hev;simp only [Ayl,Ayi,Ayj] at hev;obtain ⟨rfl,rfl,rfl,rfl⟩:=hev;simp only [↓UU5,↓XX,XY,↓reduceIte,Nat.reduceBEq,Nat.reduceAdd,Int.reduceEq,Int.reduceLT,Int.reduceLE,↓XV,wnd,h3,h4,h1,↓AG,XD,heldB,AN,XE];refine A2 (Q:=fun r=>CW r _ _) (fun k V H=>∃(pre rest:List RV) (done:List Tm) (s2 nd2 e2:Int) (us:List Tm),v.k=pre++rest∧rest.length=k∧done.length=pre.length∧V=[.ptr (.ext 0) 0,.fv v.enc,iv u,iv d,.ptr (.own 84934656) 0,.ptr (.own 84942857) 0,iv pre.length] ∧
       (
        (pre=[]∧H=KY v.op v.n .nils [] s2 nd2 e2) ∨
        (pre≠[]∧H=KY v.op v.n (.app (.own 84956171) (done.map Tm.enc)) [(84956171,.tok done.length 3)] s2 nd2 e2)) ∧
       BG (fun s nd e k u=>A9 f s nd e k u (d+1)) f v.op u pre.length rest s2 nd2 e2=some (us,s1,nd1,e1)∧done++us=ts)
       ?_ n v.k.length _ _ (by omega) ⟨[],v.k,[],s,nd+1,0,ts,rfl,rfl,rfl,rfl,.inl ⟨rfl,rfl⟩,hrk,rfl⟩
      rintro k V H rec ⟨pre,rest,done,s2,nd2,e2,us,hk,hl,hdl,rfl,hH,hkids,hts⟩ hrec;have hkl:v.k.length=pre.length+rest.length:=by rw [hk];simp
      cases rest with
      | nil =>
       simp only [BG,Ayi,Ayj] at hkids;obtain ⟨rfl,rfl,rfl,rfl⟩:=hkids;rw [List.append_nil] at hts;subst hts;have hno:¬ ((pre.length:Int)<v.k.length):=by rw [hkl];simp
       rcases hH with ⟨hp0,rfl⟩ | ⟨hne,rfl⟩
       ·have hd0:done=[]:=List.length_eq_zero_iff.1 (by rw [hdl,hp0];rfl);subst hd0;simp only [Eh,D0,DZ,Eg,Ej,DP,GD,D7,D4,DV,DU,Ea,Gu,Eb,D9,DR,DS,DY,Ei,DW,EI,D6,Ek,D3,D8,Ec,Ee,DO,DQ,D1,Ef,S81,↓XX,XY,↓reduceIte,Nat.reduceBEq,Nat.reduceAdd,Int.reduceEq,Int.reduceLT,Int.reduceLE,↓XV,hno,Ah];exact Hu rfl _ _
       ·simp only [Eh,D0,DZ,Eg,Ej,DP,GD,D7,D4,DV,DU,Ea,Gu,Eb,D9,DR,DS,DY,Ei,DW,EI,D6,Ek,D3,D8,Ec,Ee,DO,DQ,D1,Ef,S81,↓XX,XY,↓reduceIte,Nat.reduceBEq,Nat.reduceAdd,Int.reduceEq,Int.reduceLT,Int.reduceLE,↓XV,hno,Ah];exact Hu rfl _ _
      | cons x rest =>
       have hi:(pre.length:Int)<v.k.length:=by rw [hkl];simp;omega
       have hg:=B7 hk;have hb:=DF (n:=n) (by omega) v.op pre.length;have hble:=BE v.op pre.length;have hwi:BC ((pre.length:Int)+1)=((pre++[x]).length:Int):=(Az (by omega) (by omega)).trans (by simp);have hwb:BC (u+(Ao v.op pre.length:Int))=u+Ao v.op pre.length:=by rw [Az]<;>omega
       have hd9:done.length+1≤1000000:=by omega
       simp only [BG] at hkids;simp only [Aym] at hl;have behind:∀(y:RV) (s3 e3:Int),(match A9 f s3 nd2 e3 y (u+Ao v.op pre.length) (d+1) with
          | none=>none
          | some (t,s2,nd2,e2)=>(BG (fun s nd e k u=>A9 f s nd e k u (d+1)) f v.op u (pre.length+1) rest s2 nd2 e2).map fun (ts,s,nd,e)=>(t::ts,s,nd,e))=some (us,s1,nd1,e1) →
         ∀K tk,((pre=[]∧K=.nils∧tk=[])∨(pre≠[]∧K=.app (.own 84956171) (done.map Tm.enc)∧tk=[(84956171,.tok done.length 3)])) →
         CW (GD (.ptr (.own 84942857) 0) (KY v.op v.n K tk s3 nd2 e3) (iv u) (iv (Ao v.op pre.length)) (iv d) (SS dt n) (.ptr (.ext 0) 0) (.fv y.enc) (iv pre.length) ⟨[],[.row [iv s,iv nd,iv 0] false]⟩ (.fv v.enc) (.ptr (.own 84934656) 0) rec)
          (Tm.mk v.op v.n ts).enc [.row [iv s1,iv nd1,iv e1] false]:=by
        intro y s3 e3 hy K tk hK;cases hrd:A9 f s3 nd2 e3 y (u+Ao v.op pre.length) (d+1) with
        | none=>rw [hrd] at hy;cases hy
        | some q =>
        obtain ⟨t4,s4,nd4,e4⟩:=q;rw [hrd] at hy;simp only at hy;cases hkk:BG (fun s nd e k u=>A9 f s nd e k u (d+1)) f v.op u (pre.length+1) rest s4 nd4 e4 with
        | none=>rw [hkk] at hy;cases hy
        | some q =>
        obtain ⟨us',s5,nd5,e5'⟩:=q;rw [hkk] at hy;simp only [Ayl,Ayi,Ayj] at hy;obtain ⟨rfl,rfl,rfl,rfl⟩:=hy;have hc:=hr s3 nd2 e3 y (u+Ao v.op pre.length) (d+1) t4 s4 nd4 e4 hrd n (by omega);have h9:CW (rec [.ptr (.ext 0) 0,.fv v.enc,iv u,iv d,.ptr (.own 84934656) 0,.ptr (.own 84942857) 0,iv (pre++[x]).length]
          (KY v.op v.n (.app (.own 84956171) ((done++[t4]).map Tm.enc)) [(84956171,.tok (done.length+1) 3)] s4 nd4 e4)) (Tm.mk v.op v.n ts).enc [.row [iv s5,iv nd5,iv e5'] false] :=
         hrec rest.length _ _ (by omega) ⟨pre++[x],rest,done++[t4],s4,nd4,e4,us',by rw [hk];simp,rfl,by simp [hdl],rfl,.inr ⟨by simp,by simp⟩,by simpa using hkk,by rw [← hts];simp⟩
        rcases hK with ⟨hp0,rfl,rfl⟩ | ⟨hne,rfl,rfl⟩
        ·have hd0:done=[]:=List.length_eq_zero_iff.1 (by rw [hdl,hp0];rfl);subst hd0;simp only [List.nil_append,Ayo,Ayn,List.length_nil] at h9;simp only [Eh,D0,DZ,Eg,Ej,DP,GD,D7,D4,DV,DU,Ea,Gu,Eb,D9,DR,DS,DY,Ei,DW,EI,D6,Ek,D3,D8,Ec,Ee,DO,DQ,D1,Ef,S81,↓XX,XY,↓reduceIte,Nat.reduceBEq,Nat.reduceAdd,Int.reduceEq,Int.reduceLT,Int.reduceLE,↓XV,hwb,wd,hwi,↓AfB hc (Cp _ _ _ _ _ _),↓Jf,↓PB,↓AG,XD,heldB,AN,XE];exact h9
        ·simp only [Eh,D0,DZ,Eg,Ej,DP,GD,D7,D4,DV,DU,Ea,Gu,Eb,D9,DR,DS,DY,Ei,DW,EI,D6,Ek,D3,D8,Ec,Ee,DO,DQ,D1,Ef,S81,↓XX,XY,↓reduceIte,Nat.reduceBEq,Nat.reduceAdd,Int.reduceEq,Int.reduceLT,Int.reduceLE,↓XV,hwb,wd,hwi,↓AfB hc (Cp _ _ _ _ _ _),↓Jf,↓JG hd9,↓FQ,↓AG,XD,heldB,AN,XE];exact h9
       have heads:∃K tk,((pre=[]∧K=.nils∧tk=[])∨(pre≠[]∧K=.app (.own 84956171) (done.map Tm.enc)∧tk=[(84956171,.tok done.length 3)]))∧H=KY v.op v.n K tk s2 nd2 e2:=by
        rcases hH with ⟨a,b⟩ | ⟨a,b⟩
        ·exact ⟨_,_,.inl ⟨a,rfl,rfl⟩,b⟩
        ·exact ⟨_,_,.inr ⟨a,rfl,rfl⟩,b⟩
       obtain ⟨K,tk,hK,rfl⟩:=heads;by_cases hbp:0<Ao v.op pre.length
       ·rw [if_pos hbp] at hkids;by_cases hxe:900000<x.env.length
        ·rw [if_pos hxe] at hkids;cases hkids
        ·rw [if_neg hxe] at hkids;have hbp':0<(Ao v.op pre.length:Int):=by omega
         cases hev1:AM f s2 e2 x.b (x.env++JU u (Ao v.op pre.length)) with
         | none=>rw [hev1] at hkids;cases hkids
         | some q =>
         obtain ⟨y,s3,e3⟩:=q;rw [hev1] at hkids;have hB:=behind y s3 e3 hkids K tk hK;have hc:=(ZM f).1 s2 e2 x.b _ y s3 e3 nd2 hev1 n (by omega);rw [WI] at hc;have hdrop:∀(vals:List IV),vals.all Fc=true→∀k:Hp→Option (IV×Hp),BB [] [84954117] vals (KY v.op v.n K tk s2 nd2 e2) k=k (KY v.op v.n K tk s2 nd2 e2):=by
          intro vals hv k;rcases hK with ⟨_,rfl,rfl⟩ | ⟨_,rfl,rfl⟩<;>simp only [↓XX,XY,↓reduceIte,Nat.reduceBEq,Nat.reduceAdd,Int.reduceEq,Int.reduceLT,Int.reduceLE,↓AG,XD,heldB,AN,XE,hv]
         simp only [Eh,D0,DZ,Eg,Ej,DP,D7,D4,DV,DU,Ea,Eb,D9,DR,DS,DY,Ei,DW,EI,D6,Ek,D3,D8,Ec,Ee,DO,DQ,D1,Ef,S81,↓XX,XY,↓reduceIte,Nat.reduceBEq,Nat.reduceAdd,Int.reduceEq,Int.reduceLT,Int.reduceLE,↓XV,hi,↓WH hg,↓Ag hb,hbp',↓hdrop,↓AG,XD,heldB,AN,XE];refine A2 (Q:=fun r=>CW r _ _) (fun k V H=>∃j,j+k=Ao v.op pre.length∧V=[.ptr (.ext 0) 0,.fv v.enc,iv u,iv d,.ptr (.own 84934656) 0,.ptr (.own 84942857) 0,iv pre.length,iv (Ao v.op pre.length),.fv x.enc,.fv (.sl ((x.env++JU u j).map RV.enc)),iv j] ∧
          H=KY v.op v.n K tk s2 nd2 e2) ?_ n (Ao v.op pre.length) _ _ (by omega) ?_
         rotate_left
         ·exact ⟨0,by omega,by simp [JU],rfl⟩
         rintro k2 V2 H2 rec2 ⟨j,hj,rfl,rfl⟩ hrec2;cases k2 with
         | zero =>
          have hjb:j=Ao v.op pre.length:=by omega
          subst hjb;simp only [Eh,D0,DZ,Eg,Ej,DP,D7,D4,DV,DU,Ea,Gu,Eb,D9,DR,DS,DY,Ei,DW,EI,D6,Ek,D3,D8,Ec,Ee,DO,DQ,D1,Ef,S81,↓XX,XY,↓reduceIte,Nat.reduceBEq,Nat.reduceAdd,Int.reduceEq,Int.reduceLT,Int.reduceLE,↓XV,Int.lt_irrefl,↓I9 hc (Cp _ _ _ _ _ _)];exact hB
         | succ k2 =>
          have hjb:(j:Int)<Ao v.op pre.length:=by omega
          have hwj:BC (u+(j:Int))=u+j:=by rw [Az]<;>omega
          have hwj1:BC ((j:Int)+1)=((j+1:Nat):Int):=by rw [Az]<;>omega
          have hp:=Qi (n:=n) (by omega) (x.env++JU u j) [RV.var (u+j)] (by simp) (by simp [CG];omega);simp only [Ayo,Ayn,Adm] at hp;rw [List.append_assoc,← Se] at hp;have hbv:=fun s h k=>TD (RV.var (u+j)) s h k;simp only [Adm] at hbv;have hfz:=fun s h (k:IV→Hp→List Ref→List Ref→Option (IV×Hp))=>Alo (cells:=[.fv (.int .i64 1),iv (u+j),.nils,.nils,.fv (.int .i64 0),.fv (.int .i64 0),.nils]) (fc:=[.int .i64 1,.int .i64 (u+j),.sl [],.sl [],.int .i64 0,.int .i64 0,.sl []]) rfl (by simp) s h k;have h9:=hrec2 k2 _ _ (by omega) ⟨j+1,by omega,rfl,rfl⟩;simp only [Eh,D0,DZ,Eg,Ej,DP,D7,D4,DV,DU,Ea,Gu,Eb,D9,DR,DS,DY,Ei,DW,EI,D6,Ek,D3,D8,Ec,Ee,DO,DQ,D1,Ef,S81,↓XX,XY,↓reduceIte,Nat.reduceBEq,Nat.reduceAdd,Int.reduceEq,Int.reduceLT,Int.reduceLE,↓XV,hjb,hwj,hwj1,↓hfz,↓hbv,↓Ag hp,↓hdrop,↓AG,XD,heldB,AN,XE];exact h9
       ·rw [if_neg hbp] at hkids;have hbp':¬ 0<(Ao v.op pre.length:Int):=by omega
        have hB:=behind x s2 e2 hkids K tk hK;simp only [Eh,D0,DZ,Eg,Ej,DP,D7,D4,DV,DU,Ea,Eb,D9,DR,DS,DY,Ei,DW,EI,D6,Ek,D3,D8,Ec,Ee,DO,DQ,D1,Ef,S81,↓XX,XY,↓reduceIte,Nat.reduceBEq,Nat.reduceAdd,Int.reduceEq,Int.reduceLT,Int.reduceLE,↓XV,hi,↓WH hg,↓Ag hb,hbp',↓AG,XD,heldB,AN,XE];exact hB
  ·have e5:(if e=0∧(3000<nd+1∨120<d) then (5:Int) else e)=e:=if_neg (by omega);rw [e5,if_pos he] at hev;simp only [Ayi,Ayj] at hev;obtain ⟨rfl,rfl,rfl,rfl⟩:=hev;simp only [↓UU5,↓XX,XY,↓reduceIte,Nat.reduceBEq,Nat.reduceAdd,Int.reduceEq,Int.reduceLT,Int.reduceLE,wnd,he];exact Hu rfl _ _
theorem Amh:∀f,WA f:=by
 intro f
 induction f with
 | zero=>intro s nd e v u d t s' nd' e' h;rw [A9] at h;cases h
 | succ f ih=>exact Aew ih
theorem Y4 {α:Type}:∀(r:Rd α) (h:Hp) (l:List Ref) {x:α} {l':List Ref},r.runLog h l=some (x,l')→r.run h=some x
 | .ret a,h,l,x,l',e=>by simp only [Rd.runLog,Ayi,Ayj] at e;rw [e.1];rfl
 | .fail,_,_,_,_,e=>by cases e
 | .get r k,h,l,x,l',e=>by
  simp only [Rd.runLog] at e;simp only [Rd.run];cases hg:h.get r with
  | none=>rw [hg] at e;cases e
  | some b=>rw [hg] at e;exact Y4 (k b) h _ e
theorem N7 {v:IV} {own:List (Nat×Blk)} {ext:List Blk} {w:FV} (h:∃u lg,∀(e:Option (IV×Hp)) (K:FV→List (Ref×Blk)→List Ref→Option (IV×Hp)),Gh 12 v ⟨own,ext⟩ [] e K=K w u lg):∃u,(CR 4096 v).run ⟨own,ext⟩=some (w,u):=by
 obtain ⟨u,lg,hz⟩:=h;rcases NX 12 v ⟨own,ext⟩ [] none (fun w _ _=>some (IV.fv w,(⟨[],[]⟩:Hp))) (.fv w,⟨[],[]⟩) (hz ..) with h | ⟨x,u',lg',h1,_,h2⟩
 ·cases h
 ·simp only [Ayi,Ayj,IV.fv.injEq,and_true] at h2;subst h2;exact ⟨u',Y4 _ _ _ (h1 4096 (by decide))⟩
theorem MR:∀l:List FV,IV.refs.refsL (l.map .fv)=[]
 | []=>rfl
 | v::l=>by
  simp only [Ayo,IV.refs.refsL,IV.refs,MR l,List.append_nil]
theorem Kq:∀(args:List IV) (ks:List Bool) {vs:List FV},(∀b∈ks,b=false)→BZ args=some vs→Bs ks args=.ret (vs.map .fv,[],[])
 | [],ks,vs,_,hz=>by cases hz;cases ks<;>rfl
 | v::l,[],vs,_,hz=>Hc (v::l) hz
 | v::l,b::ks,vs,hk,hz=>by
  have hb:=hk b List.mem_cons_self;subst hb;simp only [BZ] at hz;cases h1:Bl v with
  | none=>rw [h1] at hz;cases hz
  | some x =>
   rw [h1] at hz;cases h2:BZ l with
   | none=>rw [h2] at hz;cases hz
   | some ys =>
    rw [h2] at hz;cases hz;simp only [Bs,frp 4096 (by omega) h1,Rd.bind,Kq l ks (fun c hc=>hk c (List.mem_cons_of_mem _ hc)) h2];rfl
theorem Yi (s:Nat) (ext:List Blk):Oh 400 [.own s] 0 ext=false:=rfl
theorem AgH {ks:List Bool} (hks:∀b∈ks,b=false) {ih:Aa} {f:FuncId} {args:List IV} {vs:List FV} {w:FV} {s:Nat} {st st':List FV} {own:List (Nat×Blk)} (hz:BZ args=some vs) (hl:Au s own=some (.row (st.map .fv) false))
  (hr:CW (ih f (.ptr (.ext 0) 0::vs.map .fv) ⟨[],[.row (st.map .fv) false]⟩) w [.row (st'.map .fv) false]) (k:IV→Hp→List Ref→List Ref→Option (IV×Hp)) :
  Ai (true::ks) false false ih f (.ptr (.own s) 0::args) ⟨own,[]⟩ k=k (.fv w) ⟨Bb s (.row (st'.map .fv) false) own,[]⟩ [.own s] [.own s]:=by
 obtain ⟨v,own',e1,hfz⟩:=hr;obtain ⟨u,hu⟩:=N7 hfz;have hD:Et (true::ks) false false ih f (.ptr (.own s) 0::args) ⟨own,[]⟩ k=k (.fv w) ⟨Bb s (.row (st'.map .fv) false) own,[]⟩ [.own s] [.own s]:=by
  have h1:Bs (true::ks) (.ptr (.own s) 0::args)=.ret (.ptr (.own s) 0::vs.map .fv,[.own s],[]):=by
   simp only [Bs,Kq args ks hks hz,Rd.bind,IV.refs];rfl
  have h2:(B9 4096 [.own s] []).runLog ⟨own,[]⟩ []=some ([(.own s,.row (st.map .fv) false)],[.own s]):=by
   show (B9 (4094+1+1) [.own s] []).runLog ⟨own,[]⟩ []=_
   simp only [B9,hasRef,Bool.false_eq_true,if_false,Rd.runLog,Hp.get,hl,Blk.refs,MR,List.append_nil,List.nil_append]
  have h3:IV.ren.renL (Ff [(.own s,.row (st.map .fv) false)]) (.ptr (.own s) 0::vs.map .fv)=some (.ptr (.ext 0) 0::vs.map .fv):=by
   simp only [IV.ren.renL,IV.ren,Ff,Cv,if_true,Ayl,Option.bind_some,Ed]
  have h4:A6 (Ff [(.own s,.row (st.map .fv) false)]) [.row (st.map .fv) false]=some [.row (st.map .fv) false]:=by
   simp only [A6,Blk.ren,Ed,Ayl,Option.bind_some]
  have h5:A6 (Cw [(.own s,.row (st.map .fv) false)]) [.row (st'.map .fv) false]=some [.row (st'.map .fv) false]:=by
   simp only [A6,Blk.ren,Ed,Ayl,Option.bind_some]
  unfold Et;simp only [h1,Rd.runLog,h2,h3,Ayo,Ayn,h4,CZ (CD 3),CZ C5,Eu,Bool.false_eq_true,if_false,e1,hu,Ayl,IV.ren,h5,Aym,List.length_nil,Bo,List.all_nil,and_self,if_true,List.nil_append,List.zip_cons_cons,List.zip_nil_left];have h6:laid ⟨own,[]⟩ [(.own s,.row (st'.map .fv) false)]=some ⟨Bb s (.row (st'.map .fv) false) own,[]⟩:=by
   simp only [laid,Hp.get,hl,Hp.set]
  simp only [h6,JS,CD]
 rw [OS,Ag8,Ae0,SV 0 args _ _ _ _ ks hks hz];simp only [AeJ,Yi,cond_false];exact hD
theorem ArO {ih:Aa} {f:FuncId} {x y:IV} {vx vy w:FV} {s:Nat} {a b c a' b' c':FV} {own own':List (Nat×Blk)} (hr:CW (ih f [.ptr (.ext 0) 0,.fv vx,.fv vy] ⟨[],[.row [.fv a,.fv b,.fv c] false]⟩) w [.row [.fv a',.fv b',.fv c'] false])
  (hx:Bl x=some vx) (hy:Bl y=some vy) (hl:Au s own=some (.row [.fv a,.fv b,.fv c] false)) (ho:Bb s (.row [.fv a',.fv b',.fv c'] false) own=own') (k:IV→Hp→List Ref→List Ref→Option (IV×Hp)) :
  Ai [true,false,false] false false ih f [.ptr (.own s) 0,x,y] ⟨own,[]⟩ k=k (.fv w) ⟨own',[]⟩ [.own s] [.own s]:=by
 subst ho;exact AgH (ks:=[false,false]) (by simp) (st:=[a,b,c]) (st':=[a',b',c']) (Af5 hx hy) hl hr k
theorem ArJ {ih:Aa} {f:FuncId} {x y z:IV} {vx vy vz w:FV} {s:Nat} {a b c a' b' c':FV} {own own':List (Nat×Blk)} (hr:CW (ih f [.ptr (.ext 0) 0,.fv vx,.fv vy,.fv vz] ⟨[],[.row [.fv a,.fv b,.fv c] false]⟩) w [.row [.fv a',.fv b',.fv c'] false])
  (hx:Bl x=some vx) (hy:Bl y=some vy) (hz:Bl z=some vz) (hl:Au s own=some (.row [.fv a,.fv b,.fv c] false)) (ho:Bb s (.row [.fv a',.fv b',.fv c'] false) own=own') (k:IV→Hp→List Ref→List Ref→Option (IV×Hp)) :
  Ai [true,false,false,false] false false ih f [.ptr (.own s) 0,x,y,z] ⟨own,[]⟩ k=k (.fv w) ⟨own',[]⟩ [.own s] [.own s]:=by
 subst ho;exact AgH (ks:=[false,false,false]) (by simp) (st:=[a,b,c]) (st':=[a',b',c']) (AkB hx hy hz) hl hr k
theorem Am7 {ih:Aa} {f:FuncId} {x y:IV} {vx vy w:FV} {s:Nat} {a b a' b':FV} {own own':List (Nat×Blk)} (hr:CW (ih f [.ptr (.ext 0) 0,.fv vx,.fv vy] ⟨[],[.row [.fv a,.fv b] false]⟩) w [.row [.fv a',.fv b'] false])
  (hx:Bl x=some vx) (hy:Bl y=some vy) (hl:Au s own=some (.row [.fv a,.fv b] false)) (ho:Bb s (.row [.fv a',.fv b'] false) own=own') (k:IV→Hp→List Ref→List Ref→Option (IV×Hp)) :
  Ai [true,false,false] false false ih f [.ptr (.own s) 0,x,y] ⟨own,[]⟩ k=k (.fv w) ⟨own',[]⟩ [.own s] [.own s]:=by
 subst ho;exact AgH (ks:=[false,false]) (by simp) (st:=[a,b]) (st':=[a',b']) (Af5 hx hy) hl hr k
def A5 (f:Nat) (t:Tm):Option (Tm×Int):=match AM f 0 0 t [] with
 | none=>none
 | some (v,s,e)=>match A9 f s 0 e v 0 1 with
  | none=>none
  | some (u,_,_,e)=>some (if e≠0 then (.z,e) else (u,0))
theorem Ael (f:Nat) (t u:Tm) (e:Int) (h:A5 f t=some (u,e)) (n:Nat) (hn:f+2≤n):Bc (SS dt n 58 [.fv t.enc] ⟨[],[]⟩) (.tuple [u.enc,.int .i64 e]):=by
 obtain ⟨n,rfl⟩:∃k,n=k+1:=⟨n - 1,by omega⟩;rw [c58];unfold A5 at h;cases he:AM f 0 0 t [] with
 | none=>rw [he] at h;cases h
 | some q =>
 obtain ⟨v,s1,e1⟩:=q;rw [he] at h;simp only at h;cases hr:A9 f s1 0 e1 v 0 1 with
 | none=>rw [hr] at h;cases h
 | some q =>
 obtain ⟨w,s2,nd2,e2⟩:=q;rw [hr] at h;simp only [Ayi] at h;have h1:=(ZM f).1 0 0 t [] v s1 e1 0 he n (by omega);have h2:=Amh f s1 0 e1 v 0 1 w s2 nd2 e2 hr n (by omega);obtain ⟨op,m,ks⟩:=t;rw [Ah] at h1 ⊢;simp only [Ayn] at h1;have c1:=fun k=>ArO (k:=k) h1 (x:=.fv (.agg [.int .i64 op,.int .i64 m,.sl (ks.map Tm.enc)])) (y:=.nils) (s:=60818433) rfl rfl
  (own:=[(60817408,.row [iv op,iv m,.fv (.sl (ks.map Tm.enc))] false),(60817409,.row [iv 0,iv 0,.nils] false),(60818433,.row [iv 0,iv 0,iv 0] false)])
  (own':=[(60817408,.row [iv op,iv m,.fv (.sl (ks.map Tm.enc))] false),(60817409,.row [iv 0,iv 0,.nils] false),(60818433,.row [iv s1,iv 0,iv e1] false)]) (by simp [Au]) (by simp [Bb])
 have c2:=fun k=>ArJ (k:=k) h2 (x:=.fv v.enc) (y:=iv 0) (z:=iv 1) (s:=60818433) rfl rfl rfl
  (own:=[(60817408,.row [iv op,iv m,.fv (.sl (ks.map Tm.enc))] false),(60817409,.row [iv 0,iv 0,.nils] false),(60818433,.row [iv s1,iv 0,iv e1] false)])
  (own':=[(60817408,.row [iv op,iv m,.fv (.sl (ks.map Tm.enc))] false),(60817409,.row [iv 0,iv 0,.nils] false),(60818433,.row [iv s2,iv nd2,iv e2] false)]) (by simp [Au]) (by simp [Bb])
 obtain ⟨wo,wn,wk⟩:=w;rw [Ah] at c2;by_cases hz:e2=0
 ·rw [if_neg (by simp [hz])] at h;simp only [Ayj] at h;obtain ⟨rfl,rfl⟩:=h;subst hz;simp only [Ws,Xq,Xi,WF,Wo,S58,↓XX,XY,↓reduceIte,Nat.reduceBEq,Nat.reduceAdd,Int.reduceEq,Int.reduceLT,Int.reduceLE,↓c1,↓c2,Ah];exact An _ _
 ·rw [if_pos hz] at h;simp only [Ayj] at h;obtain ⟨rfl,rfl⟩:=h;simp only [Ws,Xq,Xi,WF,Wo,S58,↓XX,XY,↓reduceIte,Nat.reduceBEq,Nat.reduceAdd,Int.reduceEq,Int.reduceLT,Int.reduceLE,↓c1,↓c2,hz,Tm.z,Ah];exact Aw rfl (by simp) _
end Idl
end Go.Proofs.Ytdibmackcbpniaa

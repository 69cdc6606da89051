/-
  Texts of a proof, part 10: an ideal semantics of the program, its functions in shallow form, contracts of them. No statement of the seat is proved here.
-/
import Derived.KernelRfl
import Derived.Test.YtkfecngimlcfoaaStagePlainK9
set_option linter.all false
noncomputable section
namespace Go.Proofs.Ytkfecngimlcfoaa
namespace Idl
theorem AeR {f:Nat} {G:Aa→Nat→Hp→Option (IV×Hp)} (e:dt.call f=fun ih n=>ar0 (G ih n)) (n:Nat) (h:Hp):SS dt (n+1) f [] h=G (SS dt n) n  h:=by
 show dt.call f (SS dt n) n _ h=_
 rw [e];rfl
theorem B2 {f:Nat} {G:Aa→Nat→IV→Hp→Option (IV×Hp)} (e:dt.call f=fun ih n=>Fa (G ih n)) (n:Nat) (a0:IV) (h:Hp):SS dt (n+1) f [a0] h=G (SS dt n) n a0 h:=by
 show dt.call f (SS dt n) n _ h=_
 rw [e];rfl
theorem Br {f:Nat} {G:Aa→Nat→IV→IV→Hp→Option (IV×Hp)} (e:dt.call f=fun ih n=>CJ (G ih n)) (n:Nat) (a0 a1:IV) (h:Hp):SS dt (n+1) f [a0,a1] h=G (SS dt n) n a0 a1 h:=by
 show dt.call f (SS dt n) n _ h=_
 rw [e];rfl
theorem Fp {f:Nat} {G:Aa→Nat→IV→IV→IV→Hp→Option (IV×Hp)} (e:dt.call f=fun ih n=>LP (G ih n)) (n:Nat) (a0 a1 a2:IV) (h:Hp):SS dt (n+1) f [a0,a1,a2] h=G (SS dt n) n a0 a1 a2 h:=by
 show dt.call f (SS dt n) n _ h=_
 rw [e];rfl
theorem FB {f:Nat} {G:Aa→Nat→IV→IV→IV→IV→Hp→Option (IV×Hp)} (e:dt.call f=fun ih n=>Ly (G ih n)) (n:Nat) (a0 a1 a2 a3:IV) (h:Hp):SS dt (n+1) f [a0,a1,a2,a3] h=G (SS dt n) n a0 a1 a2 a3 h:=by
 show dt.call f (SS dt n) n _ h=_
 rw [e];rfl
theorem c4 (n:Nat) (a0 a1 a2:IV) (h:Hp):SS dt (n+1) 4 [a0,a1,a2] h=S4 (SS dt n) n a0 a1 a2 h:=Fp (show dt.call 4=fun ih n=>LP (S4 ih n) by kernel_rfl) ..
theorem c12 (n:Nat) (a0:IV) (h:Hp):SS dt (n+1) 12 [a0] h=S12 (SS dt n) n a0 h:=B2 (show dt.call 12=fun ih n=>Fa (S12 ih n) by kernel_rfl) ..
theorem c13 (n:Nat) (a0 a1 a2 a3:IV) (h:Hp):SS dt (n+1) 13 [a0,a1,a2,a3] h=S13 (SS dt n) n a0 a1 a2 a3 h:=FB (show dt.call 13=fun ih n=>Ly (S13 ih n) by kernel_rfl) ..
theorem c14 (n:Nat) (a0:IV) (h:Hp):SS dt (n+1) 14 [a0] h=S14 (SS dt n) n a0 h:=B2 (show dt.call 14=fun ih n=>Fa (S14 ih n) by kernel_rfl) ..
theorem c15 (n:Nat) (a0:IV) (h:Hp):SS dt (n+1) 15 [a0] h=S15 (SS dt n) n a0 h:=B2 (show dt.call 15=fun ih n=>Fa (S15 ih n) by kernel_rfl) ..
theorem c16 (n:Nat) (a0:IV) (h:Hp):SS dt (n+1) 16 [a0] h=S16 (SS dt n) n a0 h:=B2 (show dt.call 16=fun ih n=>Fa (S16 ih n) by kernel_rfl) ..
theorem c17 (n:Nat) (a0 a1:IV) (h:Hp):SS dt (n+1) 17 [a0,a1] h=S17 (SS dt n) n a0 a1 h:=Br (show dt.call 17=fun ih n=>CJ (S17 ih n) by kernel_rfl) ..
theorem c18 (n:Nat) (a0:IV) (h:Hp):SS dt (n+1) 18 [a0] h=S18 (SS dt n) n a0 h:=B2 (show dt.call 18=fun ih n=>Fa (S18 ih n) by kernel_rfl) ..
theorem c20 (n:Nat) (a0 a1 a2:IV) (h:Hp):SS dt (n+1) 20 [a0,a1,a2] h=S20 (SS dt n) n a0 a1 a2 h:=Fp (show dt.call 20=fun ih n=>LP (S20 ih n) by kernel_rfl) ..
theorem c21 (n:Nat) (a0 a1 a2:IV) (h:Hp):SS dt (n+1) 21 [a0,a1,a2] h=S21 (SS dt n) n a0 a1 a2 h:=Fp (show dt.call 21=fun ih n=>LP (S21 ih n) by kernel_rfl) ..
theorem c22 (n:Nat) (a0:IV) (h:Hp):SS dt (n+1) 22 [a0] h=S22 (SS dt n) n a0 h:=B2 (show dt.call 22=fun ih n=>Fa (S22 ih n) by kernel_rfl) ..
theorem c24 (n:Nat) (a0 a1:IV) (h:Hp):SS dt (n+1) 24 [a0,a1] h=S24 (SS dt n) n a0 a1 h:=Br (show dt.call 24=fun ih n=>CJ (S24 ih n) by kernel_rfl) ..
theorem c25 (n:Nat) (a0:IV) (h:Hp):SS dt (n+1) 25 [a0] h=S25 (SS dt n) n a0 h:=B2 (show dt.call 25=fun ih n=>Fa (S25 ih n) by kernel_rfl) ..
theorem c26 (n:Nat) (a0:IV) (h:Hp):SS dt (n+1) 26 [a0] h=S26 (SS dt n) n a0 h:=B2 (show dt.call 26=fun ih n=>Fa (S26 ih n) by kernel_rfl) ..
theorem c27 (n:Nat) (a0:IV) (h:Hp):SS dt (n+1) 27 [a0] h=S27 (SS dt n) n a0 h:=B2 (show dt.call 27=fun ih n=>Fa (S27 ih n) by kernel_rfl) ..
theorem c28 (n:Nat) (a0 a1:IV) (h:Hp):SS dt (n+1) 28 [a0,a1] h=S28 (SS dt n) n a0 a1 h:=Br (show dt.call 28=fun ih n=>CJ (S28 ih n) by kernel_rfl) ..
theorem c33 (n:Nat) (a0 a1 a2 a3:IV) (h:Hp):SS dt (n+1) 33 [a0,a1,a2,a3] h=S33 (SS dt n) n a0 a1 a2 a3 h:=FB (show dt.call 33=fun ih n=>Ly (S33 ih n) by kernel_rfl) ..
theorem c34 (n:Nat) (a0:IV) (h:Hp):SS dt (n+1) 34 [a0] h=S34 (SS dt n) n a0 h:=B2 (show dt.call 34=fun ih n=>Fa (S34 ih n) by kernel_rfl) ..
theorem c35 (n:Nat) (a0:IV) (h:Hp):SS dt (n+1) 35 [a0] h=S35 (SS dt n) n a0 h:=B2 (show dt.call 35=fun ih n=>Fa (S35 ih n) by kernel_rfl) ..
theorem c36 (n:Nat) (a0 a1:IV) (h:Hp):SS dt (n+1) 36 [a0,a1] h=S36 (SS dt n) n a0 a1 h:=Br (show dt.call 36=fun ih n=>CJ (S36 ih n) by kernel_rfl) ..
theorem c37 (n:Nat) (a0:IV) (h:Hp):SS dt (n+1) 37 [a0] h=S37 (SS dt n) n a0 h:=B2 (show dt.call 37=fun ih n=>Fa (S37 ih n) by kernel_rfl) ..
theorem c38 (n:Nat) (a0 a1 a2:IV) (h:Hp):SS dt (n+1) 38 [a0,a1,a2] h=S38 (SS dt n) n a0 a1 a2 h:=Fp (show dt.call 38=fun ih n=>LP (S38 ih n) by kernel_rfl) ..
theorem c39 (n:Nat) (a0 a1 a2 a3:IV) (h:Hp):SS dt (n+1) 39 [a0,a1,a2,a3] h=S39 (SS dt n) n a0 a1 a2 a3 h:=FB (show dt.call 39=fun ih n=>Ly (S39 ih n) by kernel_rfl) ..
theorem c40 (n:Nat) (a0:IV) (h:Hp):SS dt (n+1) 40 [a0] h=S40 (SS dt n) n a0 h:=B2 (show dt.call 40=fun ih n=>Fa (S40 ih n) by kernel_rfl) ..
theorem c41 (n:Nat) (a0:IV) (h:Hp):SS dt (n+1) 41 [a0] h=S41 (SS dt n) n a0 h:=B2 (show dt.call 41=fun ih n=>Fa (S41 ih n) by kernel_rfl) ..
theorem c42 (n:Nat) (a0 a1:IV) (h:Hp):SS dt (n+1) 42 [a0,a1] h=S42 (SS dt n) n a0 a1 h:=Br (show dt.call 42=fun ih n=>CJ (S42 ih n) by kernel_rfl) ..
theorem c45 (n:Nat) (a0 a1 a2:IV) (h:Hp):SS dt (n+1) 45 [a0,a1,a2] h=S45 (SS dt n) n a0 a1 a2 h:=Fp (show dt.call 45=fun ih n=>LP (S45 ih n) by kernel_rfl) ..
theorem c47 (n:Nat) (a0:IV) (h:Hp):SS dt (n+1) 47 [a0] h=S47 (SS dt n) n a0 h:=B2 (show dt.call 47=fun ih n=>Fa (S47 ih n) by kernel_rfl) ..
theorem c51 (n:Nat) (a0 a1:IV) (h:Hp):SS dt (n+1) 51 [a0,a1] h=S51 (SS dt n) n a0 a1 h:=Br (show dt.call 51=fun ih n=>CJ (S51 ih n) by kernel_rfl) ..
theorem c52 (n:Nat) (a0:IV) (h:Hp):SS dt (n+1) 52 [a0] h=S52 (SS dt n) n a0 h:=B2 (show dt.call 52=fun ih n=>Fa (S52 ih n) by kernel_rfl) ..
theorem c53 (n:Nat) (a0 a1:IV) (h:Hp):SS dt (n+1) 53 [a0,a1] h=S53 (SS dt n) n a0 a1 h:=Br (show dt.call 53=fun ih n=>CJ (S53 ih n) by kernel_rfl) ..
theorem c54 (n:Nat) (a0 a1:IV) (h:Hp):SS dt (n+1) 54 [a0,a1] h=S54 (SS dt n) n a0 a1 h:=Br (show dt.call 54=fun ih n=>CJ (S54 ih n) by kernel_rfl) ..
theorem c55 (n:Nat) (a0 a1:IV) (h:Hp):SS dt (n+1) 55 [a0,a1] h=S55 (SS dt n) n a0 a1 h:=Br (show dt.call 55=fun ih n=>CJ (S55 ih n) by kernel_rfl) ..
theorem c56 (n:Nat) (a0 a1:IV) (h:Hp):SS dt (n+1) 56 [a0,a1] h=S56 (SS dt n) n a0 a1 h:=Br (show dt.call 56=fun ih n=>CJ (S56 ih n) by kernel_rfl) ..
theorem c58 (n:Nat) (a0 a1 a2 a3:IV) (h:Hp):SS dt (n+1) 58 [a0,a1,a2,a3] h=S58 (SS dt n) n a0 a1 a2 a3 h:=FB (show dt.call 58=fun ih n=>Ly (S58 ih n) by kernel_rfl) ..
theorem c59 (n:Nat) (a0 a1 a2 a3:IV) (h:Hp):SS dt (n+1) 59 [a0,a1,a2,a3] h=S59 (SS dt n) n a0 a1 a2 a3 h:=FB (show dt.call 59=fun ih n=>Ly (S59 ih n) by kernel_rfl) ..
theorem c60 (n:Nat) (a0 a1 a2:IV) (h:Hp):SS dt (n+1) 60 [a0,a1,a2] h=S60 (SS dt n) n a0 a1 a2 h:=Fp (show dt.call 60=fun ih n=>LP (S60 ih n) by kernel_rfl) ..
theorem c61 (n:Nat) (a0 a1 a2 a3:IV) (h:Hp):SS dt (n+1) 61 [a0,a1,a2,a3] h=S61 (SS dt n) n a0 a1 a2 a3 h:=FB (show dt.call 61=fun ih n=>Ly (S61 ih n) by kernel_rfl) ..
theorem c62 (n:Nat) (a0 a1 a2:IV) (h:Hp):SS dt (n+1) 62 [a0,a1,a2] h=S62 (SS dt n) n a0 a1 a2 h:=Fp (show dt.call 62=fun ih n=>LP (S62 ih n) by kernel_rfl) ..
theorem c63 (n:Nat) (a0 a1 a2:IV) (h:Hp):SS dt (n+1) 63 [a0,a1,a2] h=S63 (SS dt n) n a0 a1 a2 h:=Fp (show dt.call 63=fun ih n=>LP (S63 ih n) by kernel_rfl) ..
theorem c64 (n:Nat) (h:Hp):SS dt (n+1) 64 [] h=S64 (SS dt n) n  h:=AeR (show dt.call 64=fun ih n=>ar0 (S64 ih n) by kernel_rfl) ..
theorem c65 (n:Nat) (a0 a1 a2 a3:IV) (h:Hp):SS dt (n+1) 65 [a0,a1,a2,a3] h=S65 (SS dt n) n a0 a1 a2 a3 h:=FB (show dt.call 65=fun ih n=>Ly (S65 ih n) by kernel_rfl) ..
theorem c66 (n:Nat) (a0 a1 a2 a3:IV) (h:Hp):SS dt (n+1) 66 [a0,a1,a2,a3] h=S66 (SS dt n) n a0 a1 a2 a3 h:=FB (show dt.call 66=fun ih n=>Ly (S66 ih n) by kernel_rfl) ..
theorem c67 (n:Nat) (a0 a1 a2:IV) (h:Hp):SS dt (n+1) 67 [a0,a1,a2] h=S67 (SS dt n) n a0 a1 a2 h:=Fp (show dt.call 67=fun ih n=>LP (S67 ih n) by kernel_rfl) ..
theorem c68 (n:Nat) (a0 a1 a2:IV) (h:Hp):SS dt (n+1) 68 [a0,a1,a2] h=S68 (SS dt n) n a0 a1 a2 h:=Fp (show dt.call 68=fun ih n=>LP (S68 ih n) by kernel_rfl) ..
theorem c69 (n:Nat) (a0:IV) (h:Hp):SS dt (n+1) 69 [a0] h=S69 (SS dt n) n a0 h:=B2 (show dt.call 69=fun ih n=>Fa (S69 ih n) by kernel_rfl) ..
theorem c70 (n:Nat) (h:Hp):SS dt (n+1) 70 [] h=S70 (SS dt n) n  h:=AeR (show dt.call 70=fun ih n=>ar0 (S70 ih n) by kernel_rfl) ..
theorem c71 (n:Nat) (a0 a1 a2:IV) (h:Hp):SS dt (n+1) 71 [a0,a1,a2] h=S71 (SS dt n) n a0 a1 a2 h:=Fp (show dt.call 71=fun ih n=>LP (S71 ih n) by kernel_rfl) ..
theorem c72 (n:Nat) (a0 a1 a2 a3:IV) (h:Hp):SS dt (n+1) 72 [a0,a1,a2,a3] h=S72 (SS dt n) n a0 a1 a2 a3 h:=FB (show dt.call 72=fun ih n=>Ly (S72 ih n) by kernel_rfl) ..
theorem c73 (n:Nat) (a0 a1:IV) (h:Hp):SS dt (n+1) 73 [a0,a1] h=S73 (SS dt n) n a0 a1 h:=Br (show dt.call 73=fun ih n=>CJ (S73 ih n) by kernel_rfl) ..
theorem c74 (n:Nat) (a0 a1:IV) (h:Hp):SS dt (n+1) 74 [a0,a1] h=S74 (SS dt n) n a0 a1 h:=Br (show dt.call 74=fun ih n=>CJ (S74 ih n) by kernel_rfl) ..
theorem c86 (n:Nat) (a0:IV) (h:Hp):SS dt (n+1) 86 [a0] h=S86 (SS dt n) n a0 h:=B2 (show dt.call 86=fun ih n=>Fa (S86 ih n) by kernel_rfl) ..
theorem c87 (n:Nat) (a0 a1:IV) (h:Hp):SS dt (n+1) 87 [a0,a1] h=S87 (SS dt n) n a0 a1 h:=Br (show dt.call 87=fun ih n=>CJ (S87 ih n) by kernel_rfl) ..
theorem c88 (n:Nat) (a0 a1:IV) (h:Hp):SS dt (n+1) 88 [a0,a1] h=S88 (SS dt n) n a0 a1 h:=Br (show dt.call 88=fun ih n=>CJ (S88 ih n) by kernel_rfl) ..
theorem c89 (n:Nat) (a0 a1:IV) (h:Hp):SS dt (n+1) 89 [a0,a1] h=S89 (SS dt n) n a0 a1 h:=Br (show dt.call 89=fun ih n=>CJ (S89 ih n) by kernel_rfl) ..
theorem c90 (n:Nat) (a0 a1 a2 a3:IV) (h:Hp):SS dt (n+1) 90 [a0,a1,a2,a3] h=S90 (SS dt n) n a0 a1 a2 a3 h:=FB (show dt.call 90=fun ih n=>Ly (S90 ih n) by kernel_rfl) ..
theorem c91 (n:Nat) (a0:IV) (h:Hp):SS dt (n+1) 91 [a0] h=S91 (SS dt n) n a0 h:=B2 (show dt.call 91=fun ih n=>Fa (S91 ih n) by kernel_rfl) ..
theorem c92 (n:Nat) (a0 a1:IV) (h:Hp):SS dt (n+1) 92 [a0,a1] h=S92 (SS dt n) n a0 a1 h:=Br (show dt.call 92=fun ih n=>CJ (S92 ih n) by kernel_rfl) ..
theorem c93 (n:Nat) (a0:IV) (h:Hp):SS dt (n+1) 93 [a0] h=S93 (SS dt n) n a0 h:=B2 (show dt.call 93=fun ih n=>Fa (S93 ih n) by kernel_rfl) ..
theorem c94 (n:Nat) (a0 a1:IV) (h:Hp):SS dt (n+1) 94 [a0,a1] h=S94 (SS dt n) n a0 a1 h:=Br (show dt.call 94=fun ih n=>CJ (S94 ih n) by kernel_rfl) ..
theorem c95 (n:Nat) (a0 a1:IV) (h:Hp):SS dt (n+1) 95 [a0,a1] h=S95 (SS dt n) n a0 a1 h:=Br (show dt.call 95=fun ih n=>CJ (S95 ih n) by kernel_rfl) ..
theorem c96 (n:Nat) (a0 a1:IV) (h:Hp):SS dt (n+1) 96 [a0,a1] h=S96 (SS dt n) n a0 a1 h:=Br (show dt.call 96=fun ih n=>CJ (S96 ih n) by kernel_rfl) ..
theorem c97 (n:Nat) (a0 a1:IV) (h:Hp):SS dt (n+1) 97 [a0,a1] h=S97 (SS dt n) n a0 a1 h:=Br (show dt.call 97=fun ih n=>CJ (S97 ih n) by kernel_rfl) ..
theorem c98 (n:Nat) (a0 a1:IV) (h:Hp):SS dt (n+1) 98 [a0,a1] h=S98 (SS dt n) n a0 a1 h:=Br (show dt.call 98=fun ih n=>CJ (S98 ih n) by kernel_rfl) ..
theorem c99 (n:Nat) (a0:IV) (h:Hp):SS dt (n+1) 99 [a0] h=S99 (SS dt n) n a0 h:=B2 (show dt.call 99=fun ih n=>Fa (S99 ih n) by kernel_rfl) ..
theorem At6 (n:Nat) (a0 a1:IV) (h:Hp):SS dt (n+1) 100 [a0,a1] h=V3 (SS dt n) n a0 a1 h:=Br (show dt.call 100=fun ih n=>CJ (V3 ih n) by kernel_rfl) ..
theorem AuS (n:Nat) (a0 a1:IV) (h:Hp):SS dt (n+1) 101 [a0,a1] h=Ad5 (SS dt n) n a0 a1 h:=Br (show dt.call 101=fun ih n=>CJ (Ad5 ih n) by kernel_rfl) ..
theorem Auj (n:Nat) (a0 a1:IV) (h:Hp):SS dt (n+1) 102 [a0,a1] h=S102 (SS dt n) n a0 a1 h:=Br (show dt.call 102=fun ih n=>CJ (S102 ih n) by kernel_rfl) ..
theorem AtN (n:Nat) (a0 a1 a2 a3:IV) (h:Hp):SS dt (n+1) 103 [a0,a1,a2,a3] h=AgG (SS dt n) n a0 a1 a2 a3 h:=FB (show dt.call 103=fun ih n=>Ly (AgG ih n) by kernel_rfl) ..
theorem At9 (n:Nat) (a0 a1:IV) (h:Hp):SS dt (n+1) 104 [a0,a1] h=Tx (SS dt n) n a0 a1 h:=Br (show dt.call 104=fun ih n=>CJ (Tx ih n) by kernel_rfl) ..
theorem AtI (n:Nat) (a0 a1:IV) (h:Hp):SS dt (n+1) 107 [a0,a1] h=Sp (SS dt n) n a0 a1 h:=Br (show dt.call 107=fun ih n=>CJ (Sp ih n) by kernel_rfl) ..
theorem Aut (n:Nat) (a0:IV) (h:Hp):SS dt (n+1) 108 [a0] h=Ac8 (SS dt n) n a0 h:=B2 (show dt.call 108=fun ih n=>Fa (Ac8 ih n) by kernel_rfl) ..
theorem At4 (n:Nat) (a0 a1:IV) (h:Hp):SS dt (n+1) 109 [a0,a1] h=Adb (SS dt n) n a0 a1 h:=Br (show dt.call 109=fun ih n=>CJ (Adb ih n) by kernel_rfl) ..
theorem Auu (n:Nat) (a0 a1:IV) (h:Hp):SS dt (n+1) 110 [a0,a1] h=S110 (SS dt n) n a0 a1 h:=Br (show dt.call 110=fun ih n=>CJ (S110 ih n) by kernel_rfl) ..
theorem Aur (n:Nat) (a0 a1:IV) (h:Hp):SS dt (n+1) 111 [a0,a1] h=UT (SS dt n) n a0 a1 h:=Br (show dt.call 111=fun ih n=>CJ (UT ih n) by kernel_rfl) ..
def UU1:=Aw9 @Ael.eq_1<|Aw9 @AdE.eq_1<|Aw9 @Afa.eq_1<|Aw9 @Agp.eq_1<|Aw9 @AfA.eq_1<|Aw9 @AfI.eq_1<|Aw9 @Afp.eq_1<|Aw9 @Ae4.eq_1<|Aw9 @Aeq.eq_1<|Aw9 @AeL.eq_1<|Aw9 @AfR.eq_1<|Aw9 @AgS.eq_1<|Aw9 @Aei.eq_1<|@S4.eq_1
def UU2:=Aw9 @Ia.eq_1<|Aw9 @IS.eq_1<|Aw9 @I0.eq_1<|Aw9 @IJ.eq_1<|Aw9 @Ip.eq_1<|Aw9 @H5.eq_1<|Aw9 @HJ.eq_1<|Aw9 @Ir.eq_1<|Aw9 @Iy.eq_1<|Aw9 @IZ.eq_1<|Aw9 @H0.eq_1<|Aw9 @H9.eq_1<|Aw9 @Ii.eq_1<|Aw9 @IU.eq_1<|Aw9 @H1.eq_1<|Aw9 @Ig.eq_1<|@S90.eq_1
def UU3:=Aw9 @Aet.eq_1<|Aw9 @AeC.eq_1<|Aw9 @Ad3.eq_1<|Aw9 @Afw.eq_1<|Aw9 @Af3.eq_1<|@S54.eq_1
def UU4:=Aw9 @H3.eq_1<|Aw9 @IG.eq_1<|Aw9 @IX.eq_1<|Aw9 @HZ.eq_1<|Aw9 @In.eq_1<|Aw9 @Ik.eq_1<|Aw9 @H4.eq_1<|Aw9 @It.eq_1<|Aw9 @I4.eq_1<|Aw9 @Im.eq_1<|Aw9 @HV.eq_1<|Aw9 @Iu.eq_1<|Aw9 @HN.eq_1<|Aw9 @Ie.eq_1<|Aw9 @GY.eq_1<|Aw9 @E0.eq_1<|Aw9 @Fb.eq_1<|Aw9 @Fg.eq_1<|@S21.eq_1
def UU5:=Aw9 @KP.eq_1<|Aw9 @JF.eq_1<|Aw9 @KT.eq_1<|Aw9 @K5.eq_1<|Aw9 @KW.eq_1<|Aw9 @Kl.eq_1<|Aw9 @Ku.eq_1<|Aw9 @Kc.eq_1<|Aw9 @JT.eq_1<|Aw9 @JE.eq_1<|Aw9 @KA.eq_1<|Aw9 @Kf.eq_1<|Aw9 @Kh.eq_1<|Aw9 @JR.eq_1<|@S63.eq_1
def UU6:=Aw9 @RG.eq_1<|Aw9 @R8.eq_1<|Aw9 @Sa.eq_1<|Aw9 @Xo.eq_1<|Aw9 @Sm.eq_1<|Aw9 @QQ.eq_1<|Aw9 @Ra.eq_1<|Aw9 @RA.eq_1<|Aw9 @Q5.eq_1<|Aw9 @RK.eq_1<|Aw9 @R4.eq_1<|@S68.eq_1
def UU7:=Aw9 @Agd.eq_1<|Aw9 @Agv.eq_1<|Aw9 @Agj.eq_1<|Aw9 @AfF.eq_1<|Aw9 @Agw.eq_1<|@S89.eq_1
def UU8:=Aw9 @AeU.eq_1<|Aw9 @Ad9.eq_1<|Aw9 @Afd.eq_1<|Aw9 @Afm.eq_1<|Aw9 @AdB.eq_1<|@S92.eq_1
def VG:=Aw9 @QF.eq_1<|Aw9 @SE.eq_1<|Aw9 @Qk.eq_1<|Aw9 @Rw.eq_1<|Aw9 @Sj.eq_1<|Aw9 @RS.eq_1<|Aw9 @RW.eq_1<|Aw9 @Qr.eq_1<|Aw9 @RD.eq_1<|Aw9 @Qd.eq_1<|Aw9 @Q6.eq_1<|Aw9 @QH.eq_1<|Aw9 @Qn.eq_1<|Aw9 @RY.eq_1<|Aw9 @Rh.eq_1<|Aw9 @RQ.eq_1<|Aw9 @PT.eq_1<|Aw9 @PH.eq_1<|Aw9 @Sz.eq_1<|Aw9 @Sk.eq_1<|Aw9 @RR.eq_1<|Aw9 @SC.eq_1<|Aw9 @R9.eq_1<|Aw9 @QS.eq_1<|Aw9 @Sw.eq_1<|Aw9 @Q3.eq_1<|Aw9 @PM.eq_1<|Aw9 @Qu.eq_1<|Aw9 @PK.eq_1<|Aw9 @RO.eq_1<|Aw9 @Sb.eq_1<|Aw9 @QW.eq_1<|Aw9 @IA.eq_1<|Aw9 @Qo.eq_1<|@S86.eq_1
def AfH:=Aw9 @EO.eq_1<|Aw9 @EA.eq_1<|Aw9 @En.eq_1<|Aw9 @EP.eq_1<|Aw9 @Ek.eq_1<|Aw9 @Ew.eq_1<|Aw9 @G9.eq_1<|Aw9 @Ep.eq_1<|Aw9 @EJ.eq_1<|Aw9 @EH.eq_1<|Aw9 @EN.eq_1<|Aw9 @EF.eq_1<|Aw9 @Ej.eq_1<|Aw9 @Et.eq_1<|Aw9 @EQ.eq_1<|Aw9 @Ez.eq_1<|Aw9 @Eo.eq_1<|Aw9 @EL.eq_1<|Aw9 @Ei.eq_1<|Aw9 @Eu.eq_1<|Aw9 @EI.eq_1<|Aw9 @EB.eq_1<|Aw9 @EM.eq_1<|Aw9 @EK.eq_1<|Aw9 @Em.eq_1<|Aw9 @EC.eq_1<|Aw9 @Es.eq_1<|Aw9 @ED.eq_1<|Aw9 @Ey.eq_1<|@S61.eq_1
def FO:=Aw9 @AaR.eq_1<|Aw9 @ZI.eq_1<|Aw9 @WM.eq_1<|Aw9 @Zj.eq_1<|Aw9 @Wi.eq_1<|Aw9 @Xw.eq_1<|Aw9 @Aa1.eq_1<|Aw9 @Yy.eq_1<|Aw9 @Ys.eq_1<|Aw9 @AaP.eq_1<|Aw9 @AbH.eq_1<|Aw9 @AbA.eq_1<|Aw9 @Aa2.eq_1<|Aw9 @AaN.eq_1<|Aw9 @Aak.eq_1<|Aw9 @YC.eq_1<|Aw9 @ZW.eq_1<|Aw9 @XM.eq_1<|Aw9 @Aa8.eq_1<|Aw9 @Acp.eq_1<|Aw9 @Aay.eq_1<|Aw9 @Wt.eq_1<|Aw9 @Aci.eq_1<|Aw9 @Aax.eq_1<|Aw9 @Y0.eq_1<|Aw9 @Yo.eq_1<|Aw9 @Aaq.eq_1<|Aw9 @Wn.eq_1<|Aw9 @AaT.eq_1<|Aw9 @Aas.eq_1<|Aw9 @Yb.eq_1<|Aw9 @ZE.eq_1<|Aw9 @Xt.eq_1<|Aw9 @W3.eq_1<|Aw9 @YI.eq_1<|Aw9 @Ze.eq_1<|Aw9 @Yt.eq_1<|Aw9 @W5.eq_1<|Aw9 @Z5.eq_1<|Aw9 @Ab1.eq_1<|Aw9 @WQ.eq_1<|Aw9 @Wj.eq_1<|Aw9 @AbI.eq_1<|Aw9 @Yg.eq_1<|Aw9 @Acc.eq_1<|Aw9 @Y4.eq_1<|Aw9 @AbE.eq_1<|Aw9 @WK.eq_1<|Aw9 @AaX.eq_1<|Aw9 @AaH.eq_1<|@S88.eq_1
def TX:=Aw9 @HL.eq_1<|Aw9 @Iw.eq_1<|Aw9 @HQ.eq_1<|Aw9 @HS.eq_1<|Aw9 @IY.eq_1<|Aw9 @IT.eq_1<|Aw9 @I3.eq_1<|Aw9 @Ij.eq_1<|Aw9 @HO.eq_1<|Aw9 @IL.eq_1<|Aw9 @HK.eq_1<|Aw9 @II.eq_1<|Aw9 @Iq.eq_1<|Aw9 @IW.eq_1<|Aw9 @H7.eq_1<|Aw9 @HP.eq_1<|Aw9 @Ih.eq_1<|Aw9 @HY.eq_1<|Aw9 @HU.eq_1<|Aw9 @AaC.eq_1<|Aw9 @IR.eq_1<|Aw9 @HT.eq_1<|Aw9 @Is.eq_1<|@S62.eq_1
def VN:=Aw9 @KO.eq_1<|Aw9 @JJ.eq_1<|Aw9 @Kx.eq_1<|Aw9 @JO.eq_1<|Aw9 @Kt.eq_1<|Aw9 @KB.eq_1<|Aw9 @Kn.eq_1<|@S22.eq_1
def AeV:=Aw9 @Ol.eq_1<|Aw9 @Nf.eq_1<|Aw9 @Ov.eq_1<|Aw9 @Oq.eq_1<|Aw9 @OA.eq_1<|Aw9 @MV.eq_1<|@S42.eq_1
def Agi:=Aw9 @AeI.eq_1<|Aw9 @AeG.eq_1<|Aw9 @Age.eq_1<|Aw9 @AgN.eq_1<|Aw9 @AeE.eq_1<|Aw9 @AgE.eq_1<|@S93.eq_1
def Afb:=Aw9 @J8.eq_1<|Aw9 @JA.eq_1<|Aw9 @KV.eq_1<|Aw9 @Kd.eq_1<|Aw9 @JX.eq_1<|Aw9 @JK.eq_1<|Aw9 @K6.eq_1<|@S69.eq_1
def VQ:=Aw9 @Dp.eq_1<|Aw9 @DO.eq_1<|Aw9 @DB.eq_1<|Aw9 @DU.eq_1<|Aw9 @Dn.eq_1<|Aw9 @Dw.eq_1<|Aw9 @Cz.eq_1<|Aw9 @DE.eq_1<|Aw9 @DS.eq_1<|Aw9 @Dk.eq_1<|Aw9 @Dz.eq_1<|Aw9 @Dl.eq_1<|Aw9 @DQ.eq_1<|Aw9 @Dy.eq_1<|Aw9 @DH.eq_1<|Aw9 @Da.eq_1<|Aw9 @DK.eq_1<|Aw9 @DM.eq_1<|Aw9 @C6.eq_1<|Aw9 @DX.eq_1<|Aw9 @DI.eq_1<|Aw9 @DF.eq_1<|Aw9 @DL.eq_1<|Aw9 @Du.eq_1<|Aw9 @C7.eq_1<|Aw9 @E4.eq_1<|Aw9 @DN.eq_1<|Aw9 @DV.eq_1<|Aw9 @DP.eq_1<|Aw9 @Di.eq_1<|Aw9 @DC.eq_1<|@S72.eq_1
def AcU:=Aw9 @ZY.eq_1<|Aw9 @Aca.eq_1<|Aw9 @X1.eq_1<|Aw9 @Yu.eq_1<|Aw9 @Aan.eq_1<|@S110.eq_1
def AfS:=Aw9 @ME.eq_1<|Aw9 @My.eq_1<|Aw9 @L9.eq_1<|Aw9 @Ml.eq_1<|Aw9 @Ma.eq_1<|Aw9 @MF.eq_1<|Aw9 @Me.eq_1<|Aw9 @Mh.eq_1<|Aw9 @XJ.eq_1<|Aw9 @Mq.eq_1<|Aw9 @Md.eq_1<|Aw9 @L7.eq_1<|Aw9 @Mw.eq_1<|Aw9 @L8.eq_1<|Aw9 @Ms.eq_1<|@S71.eq_1
def VS:=Aw9 @SO.eq_1<|Aw9 @S5.eq_1<|Aw9 @TA.eq_1<|Aw9 @TL.eq_1<|Aw9 @Uh.eq_1<|Aw9 @SV.eq_1<|Aw9 @TF.eq_1<|Aw9 @Ts.eq_1<|Aw9 @SJ.eq_1<|Aw9 @T7.eq_1<|Aw9 @TC.eq_1<|Aw9 @S7.eq_1<|@S102.eq_1
def Adj:=Aw9 @Xn.eq_1<|Aw9 @AbX.eq_1<|Aw9 @XL.eq_1<|Aw9 @YA.eq_1<|Aw9 @Aa6.eq_1<|Aw9 @Wv.eq_1<|Aw9 @YB.eq_1<|Aw9 @Xm.eq_1<|Aw9 @X0.eq_1<|Aw9 @AaZ.eq_1<|Aw9 @Wq.eq_1<|Aw9 @ZA.eq_1<|Aw9 @WC.eq_1<|Aw9 @Xi.eq_1<|Aw9 @WE.eq_1<|Aw9 @Ack.eq_1<|@S13.eq_1
def SL:=Aw9 @UL.eq_1<|Aw9 @VJ.eq_1<|Aw9 @Vc.eq_1<|Aw9 @US.eq_1<|Aw9 @VZ.eq_1<|Aw9 @Vb.eq_1<|Aw9 @V1.eq_1<|Aw9 @Vx.eq_1<|Aw9 @UY.eq_1<|Aw9 @Agg.eq_1<|@S37.eq_1
def J6:=Aw9 @Y9.eq_1<|Aw9 @YO.eq_1<|Aw9 @YP.eq_1<|Aw9 @WD.eq_1<|Aw9 @AaD.eq_1<|Aw9 @AbT.eq_1<|Aw9 @Xy.eq_1<|Aw9 @AbG.eq_1<|Aw9 @Zn.eq_1<|Aw9 @Xs.eq_1<|Aw9 @ZJ.eq_1<|Aw9 @Zw.eq_1<|Aw9 @Zg.eq_1<|Aw9 @Aba.eq_1<|Aw9 @Y5.eq_1<|Aw9 @AaL.eq_1<|Aw9 @XH.eq_1<|Aw9 @Y6.eq_1<|Aw9 @Abv.eq_1<|Aw9 @XZ.eq_1<|Aw9 @AaB.eq_1<|Aw9 @Aai.eq_1<|Aw9 @Yj.eq_1<|Aw9 @Abe.eq_1<|Aw9 @Wr.eq_1<|Aw9 @Aao.eq_1<|Aw9 @Zl.eq_1<|Aw9 @AbD.eq_1<|Aw9 @Xh.eq_1<|Aw9 @Ye.eq_1<|Aw9 @Yh.eq_1<|Aw9 @WG.eq_1<|Aw9 @Xj.eq_1<|Aw9 @Z3.eq_1<|Aw9 @X9.eq_1<|Aw9 @Ab4.eq_1<|Aw9 @Yi.eq_1<|Aw9 @AbY.eq_1<|Aw9 @AbL.eq_1<|Aw9 @AbM.eq_1<|Aw9 @Zi.eq_1<|@S39.eq_1
def MU:=Aw9 @Ww.eq_1<|Aw9 @Z0.eq_1<|Aw9 @Zy.eq_1<|Aw9 @WB.eq_1<|Aw9 @ZO.eq_1<|Aw9 @Ab8.eq_1<|Aw9 @Wm.eq_1<|Aw9 @WV.eq_1<|Aw9 @XG.eq_1<|Aw9 @WO.eq_1<|Aw9 @Ace.eq_1<|Aw9 @Yz.eq_1<|Aw9 @X4.eq_1<|Aw9 @YU.eq_1<|Aw9 @AbJ.eq_1<|Aw9 @W2.eq_1<|Aw9 @YZ.eq_1<|Aw9 @ZP.eq_1<|Aw9 @ZK.eq_1<|Aw9 @Zm.eq_1<|Aw9 @W8.eq_1<|Aw9 @WL.eq_1<|Aw9 @YG.eq_1<|Aw9 @Acd.eq_1<|Aw9 @Aa5.eq_1<|Aw9 @Z1.eq_1<|Aw9 @Ya.eq_1<|Aw9 @WR.eq_1<|Aw9 @Zs.eq_1<|Aw9 @WH.eq_1<|Aw9 @AaY.eq_1<|Aw9 @Abt.eq_1<|Aw9 @Ym.eq_1<|Aw9 @Yn.eq_1<|Aw9 @XP.eq_1<|Aw9 @AbN.eq_1<|Aw9 @XB.eq_1<|Aw9 @Abd.eq_1<|Aw9 @ZV.eq_1<|Aw9 @YF.eq_1<|Aw9 @ZT.eq_1<|Aw9 @YS.eq_1<|Aw9 @Xq.eq_1<|Aw9 @Yp.eq_1<|@S33.eq_1
def Tz:=Aw9 @Ach.eq_1<|Aw9 @Yf.eq_1<|Aw9 @Aal.eq_1<|Aw9 @ZX.eq_1<|Aw9 @Z8.eq_1<|Aw9 @Xa.eq_1<|Aw9 @ZG.eq_1<|Aw9 @Aa4.eq_1<|Aw9 @Acm.eq_1<|Aw9 @X6.eq_1<|Aw9 @YK.eq_1<|Aw9 @Abx.eq_1<|Aw9 @Aaw.eq_1<|Aw9 @Xp.eq_1<|Aw9 @Acl.eq_1<|Aw9 @Wp.eq_1<|Aw9 @XN.eq_1<|Aw9 @Abz.eq_1<|Aw9 @X7.eq_1<|Aw9 @YH.eq_1<|Aw9 @WY.eq_1<|Aw9 @Abf.eq_1<|Aw9 @AaI.eq_1<|Aw9 @Zt.eq_1<|Aw9 @Zq.eq_1<|Aw9 @Zk.eq_1<|Aw9 @Aag.eq_1<|Aw9 @Abi.eq_1<|Aw9 @YL.eq_1<|Aw9 @Aam.eq_1<|Aw9 @Ab2.eq_1<|Aw9 @Y1.eq_1<|Aw9 @Aad.eq_1<|Aw9 @Aby.eq_1<|Aw9 @Xr.eq_1<|Aw9 @Xe.eq_1<|Aw9 @AaG.eq_1<|Aw9 @Abg.eq_1<|Aw9 @ZC.eq_1<|Aw9 @W0.eq_1<|Aw9 @WX.eq_1<|Aw9 @Wk.eq_1<|Aw9 @YN.eq_1<|Aw9 @AaJ.eq_1<|Aw9 @ZU.eq_1<|Aw9 @ZL.eq_1<|Aw9 @YT.eq_1<|Aw9 @Xu.eq_1<|Aw9 @YQ.eq_1<|Aw9 @WJ.eq_1<|Aw9 @Aaj.eq_1<|Aw9 @Yc.eq_1<|Aw9 @Zb.eq_1<|Aw9 @AaA.eq_1<|Aw9 @ZH.eq_1<|Aw9 @Aa3.eq_1<|@S59.eq_1
def Ji:=Aw9 @Zo.eq_1<|Aw9 @Xc.eq_1<|Aw9 @AaO.eq_1<|Aw9 @XT.eq_1<|Aw9 @Aa9.eq_1<|Aw9 @Abp.eq_1<|Aw9 @W9.eq_1<|Aw9 @AaQ.eq_1<|Aw9 @AaM.eq_1<|Aw9 @Zv.eq_1<|Aw9 @Y2.eq_1<|Aw9 @Za.eq_1<|Aw9 @AbU.eq_1<|Aw9 @XQ.eq_1<|Aw9 @ZF.eq_1<|Aw9 @AaS.eq_1<|Aw9 @AbQ.eq_1<|Aw9 @Zz.eq_1<|Aw9 @AaF.eq_1<|Aw9 @Acg.eq_1<|Aw9 @W6.eq_1<|Aw9 @Abo.eq_1<|Aw9 @Xz.eq_1<|Aw9 @Aab.eq_1<|Aw9 @AaK.eq_1<|Aw9 @AbS.eq_1<|Aw9 @Acn.eq_1<|Aw9 @AbW.eq_1<|Aw9 @Z2.eq_1<|Aw9 @Aae.eq_1<|Aw9 @Aah.eq_1<|Aw9 @WP.eq_1<|Aw9 @AaE.eq_1<|Aw9 @Abr.eq_1<|Aw9 @Acj.eq_1<|Aw9 @Aa0.eq_1<|Aw9 @XU.eq_1<|Aw9 @WA.eq_1<|Aw9 @Zd.eq_1<|Aw9 @Abu.eq_1<|Aw9 @Aat.eq_1<|Aw9 @XO.eq_1<|Aw9 @X2.eq_1<|Aw9 @Aar.eq_1<|Aw9 @Zp.eq_1<|Aw9 @Y7.eq_1<|Aw9 @Z4.eq_1<|Aw9 @AbF.eq_1<|Aw9 @YY.eq_1<|Aw9 @YD.eq_1<|Aw9 @Y8.eq_1<|Aw9 @Wz.eq_1<|Aw9 @Acf.eq_1<|Aw9 @Z9.eq_1<|Aw9 @X3.eq_1<|Aw9 @AaV.eq_1<|Aw9 @Ab5.eq_1<|Aw9 @Abn.eq_1<|Aw9 @Zu.eq_1<|@S66.eq_1
def KZ:=Aw9 @Wx.eq_1<|Aw9 @Xf.eq_1<|Aw9 @AbO.eq_1<|Aw9 @Ws.eq_1<|Aw9 @W1.eq_1<|Aw9 @Abs.eq_1<|Aw9 @YJ.eq_1<|Aw9 @Aaa.eq_1<|Aw9 @Z6.eq_1<|Aw9 @Xb.eq_1<|Aw9 @XK.eq_1<|Aw9 @Xd.eq_1<|Aw9 @Xv.eq_1<|Aw9 @Xx.eq_1<|Aw9 @Abw.eq_1<|Aw9 @Abl.eq_1<|Aw9 @Z7.eq_1<|Aw9 @YX.eq_1<|Aw9 @ZR.eq_1<|Aw9 @YE.eq_1<|Aw9 @Aav.eq_1<|Aw9 @AbB.eq_1<|Aw9 @Wl.eq_1<|Aw9 @Acb.eq_1<|Aw9 @Wu.eq_1<|Aw9 @XF.eq_1<|Aw9 @Yv.eq_1<|Aw9 @AbV.eq_1<|@S38.eq_1
def OR:=Aw9 @Su.eq_1<|Aw9 @Sn.eq_1<|Aw9 @PY.eq_1<|Aw9 @PE.eq_1<|Aw9 @PF.eq_1<|Aw9 @Sf.eq_1<|Aw9 @Rv.eq_1<|Aw9 @QR.eq_1<|Aw9 @RZ.eq_1<|Aw9 @QJ.eq_1<|Aw9 @QD.eq_1<|Aw9 @QG.eq_1<|Aw9 @Rt.eq_1<|Aw9 @PN.eq_1<|Aw9 @AbK.eq_1<|@S58.eq_1
section
variable {β:Type} {E:Env} {t:TypeId}
abbrev iv (n:Int):IV:=.fv (.int .i64 n)
theorem AqB (c:Prop) [Decidable c] (a b:Option β):Ai (.fv (.bool (decide c))) a b=if c then a else b:=by
 by_cases h:c
 ·rw [decide_eq_true h,if_pos h];rfl
 ·rw [decide_eq_false h,if_neg h];rfl
theorem AjF (o:Nat) (r:Ref) (off:Nat) (k:IV→Option β):Ab o (.ptr r off) k=k (.ptr r (off+o)):=by
 show (D0 (off+o) fun o=>k (.ptr r o))=_
 rw [BO]
theorem Pu (o:Nat) (cs:List FV) (off:Nat) (k:IV→Option β):Ab o (.fv (.fp cs off)) k=k (.fv (.fp cs (off+o))):=by
 show (D0 (off+o) fun o=>k (.fv (.fp cs o)))=_
 rw [BO]
theorem Any {size:Nat} {es:List FV} {n:Nat} {el:FV} (he:es[n]?=some el) (hl:el.cells.length=size) (k:IV→Option β):AT size (.fv (.sl es)) (iv n) k=k (.fv (.fp el.cells 0)):=by
 show (DJ es n fun el=>elK size el k)=_
 rw [CT,he]
 show elK size el k=_
 rw [AdJ,if_pos hl]
theorem Lb {op:BinOp} {g:Nat→Nat→Bool} (hg:∀a b:Nat,FJ E op t (iv a) (iv b)=some (.fv (.bool (g a b)))) (a b:Int) (k:IV→Option β) :
  Sq E t op g (iv a) (iv b) k=(FJ E op t (iv a) (iv b)).bind k:=by
 cases a with
 | ofNat a =>
  cases b with
  | ofNat b =>
   show AdT (g a b) k=_
   rw [SR,show FJ E op t (iv (Int.ofNat a)) (iv (Int.ofNat b))=some (.fv (.bool (g a b))) from hg a b]
   rfl
  | negSucc b =>
   show CH E t op _ _ k=_
   rw [CH,CA]
 | negSucc a =>
  show CH E t op _ _ k=_
  rw [CH,CA]
theorem AsE (a b:Int) (k:IV→Option β):AN E t (iv a) (iv b) k=k (.fv (.bool (decide (a=b)))):=by
 rw [AN,Lb (fun a b=>by
  show some (IV.fv (.bool ((a:Int) == (b:Int))))=_
  rw [Ib];congr 3;exact decide_eq_decide.2 Int.ofNat_inj)]
 rfl
theorem ArE (a b:Int) (k:IV→Option β):Ch E t (iv a) (iv b) k=k (.fv (.bool (!decide (a=b)))):=by
 rw [Ch,Lb (fun a b=>by
  show some (IV.fv (.bool ((a:Int) != (b:Int))))=_
  rw [Ib];congr 3
  show (!decide ((a:Int)=(b:Int)))=!decide (a=b)
  congr 1;exact decide_eq_decide.2 Int.ofNat_inj)]
 rfl
theorem Arh (a b:Int) (k:IV→Option β):F8 E t (iv a) (iv b) k=k (.fv (.bool (decide (a<b)))):=by
 rw [F8,Lb (fun a b=>by
  show some (IV.fv (.bool (decide ((a:Int)<(b:Int)))))=_
  rw [Bl];congr 3;exact decide_eq_decide.2 (by omega))]
 rfl
theorem As0 (a b:Int) (k:IV→Option β):leS E t (iv a) (iv b) k=k (.fv (.bool (decide (a≤b)))):=by
 rw [leS,Lb (fun a b=>by
  show some (IV.fv (.bool (decide ((a:Int)≤(b:Int)))))=_
  rw [Bl];congr 3;exact decide_eq_decide.2 (by omega))]
 rfl
theorem ArY (b:Bool) (k:IV→Option β):CL (LR .not (.fv (.bool b))) k=k (.fv (.bool !b)):=by
 rw [CA];rfl
end
end Idl
end Go.Proofs.Ytkfecngimlcfoaa
namespace Go.Proofs.Ytkfecngimlcfoaa
namespace Idl
section
variable {β:Type} {α:Type}
theorem n0 (a:α) (l:List α) (k:α→Option β):DJ (a::l) 0 k=k a:=rfl
theorem n1 (a b:α) (l:List α) (k:α→Option β):DJ (a::b::l) 1 k=k b:=rfl
theorem n2 (a b c:α) (l:List α) (k:α→Option β):DJ (a::b::c::l) 2 k=k c:=rfl
theorem n3 (a b c d:α) (l:List α) (k:α→Option β):DJ (a::b::c::d::l) 3 k=k d:=rfl
theorem n4 (a b c d e:α) (l:List α) (k:α→Option β):DJ (a::b::c::d::e::l) 4 k=k e:=rfl
theorem n5 (a b c d e f:α) (l:List α) (k:α→Option β):DJ (a::b::c::d::e::f::l) 5 k=k f:=rfl
theorem n6 (a b c d e f g:α) (l:List α) (k:α→Option β):DJ (a::b::c::d::e::f::g::l) 6 k=k g:=rfl
theorem d0 (l:List α) (k:List α→Option β):FA l 0 k=k l:=by cases l<;>rfl
theorem d1 (a:α) (l:List α) (k:List α→Option β):FA (a::l) 1 k=k l:=by cases l<;>rfl
theorem d2 (a b:α) (l:List α) (k:List α→Option β):FA (a::b::l) 2 k=k l:=by cases l<;>rfl
theorem d3 (a b c:α) (l:List α) (k:List α→Option β):FA (a::b::c::l) 3 k=k l:=by cases l<;>rfl
theorem d4 (a b c d:α) (l:List α) (k:List α→Option β):FA (a::b::c::d::l) 4 k=k l:=by cases l<;>rfl
theorem t1 (a:α) (l:List α) (k:List α→Option β):FL (a::l) 1 k=k [a]:=by cases l<;>rfl
theorem t2 (a b:α) (l:List α) (k:List α→Option β):FL (a::b::l) 2 k=k [a,b]:=by cases l<;>rfl
theorem t3 (a b c:α) (l:List α) (k:List α→Option β):FL (a::b::c::l) 3 k=k [a,b,c]:=by cases l<;>rfl
theorem t4 (a b c d:α) (l:List α) (k:List α→Option β):FL (a::b::c::d::l) 4 k=k [a,b,c,d]:=by cases l<;>rfl
theorem t7 (a b c d e f g:α) (l:List α) (k:List α→Option β):FL (a::b::c::d::e::f::g::l) 7 k=k [a,b,c,d,e,f,g]:=by cases l<;>rfl
theorem AdP (l:List α) (k:List α→Option β):spK l k=k l:=HF l k
theorem ap0 (us:List α) (k:List α→Option β):OJ [] us k=k us:=rfl
theorem ap1 (u:α) (l us:List α) (k:List α→Option β):OJ (u::l) us k=OJ l us fun w=>k (u::w):=rfl
theorem Asc (a:α) (l:List α) (k:α→List α→Option β):AA (a::l) k=k a l:=rfl
theorem c_t {γ:Type} (a b:γ):cond true a b=a:=rfl
theorem c_f {γ:Type} (a b:γ):cond false a b=b:=rfl
end
section
variable {β:Type}
theorem Ahm {s j:Nat} (h:(s == j)=false):Nat.beq s j=false:=by
 rw [Ib];simpa using h
theorem LV (s:Nat) (own:List (Nat×Blk)) (ext:List Blk) (k:Blk→Option β):C5 (.own s) ⟨own,ext⟩ k=Gu own s k:=rfl
theorem ArF (j:Nat) (own:List (Nat×Blk)) (ext:List Blk) (k:Blk→Option β):C5 (.ext j) ⟨own,ext⟩ k=DJ ext j k:=rfl
theorem AmK (s:Nat) (b:Blk) (l:List (Nat×Blk)) (k:Blk→Option β):Gu ((s,b)::l) s k=k b:=by
 show cond (Nat.beq s s) (k b) _=_
 rw [show Nat.beq s s=true from Nat.beq_refl s]
 rfl
theorem Aoq {s j:Nat} (hne:(s == j)=false) (b:Blk) (l:List (Nat×Blk)) (k:Blk→Option β):Gu ((j,b)::l) s k=Gu l s k:=by
 show cond (Nat.beq s j) (k b) _=_
 rw [show Nat.beq s j=false from Ahm hne]
 rfl
theorem ArV (s:Nat) (b:Blk) (k:List (Nat×Blk)→Option β):A2 [] s b k=k [(s,b)]:=rfl
theorem AmB (s:Nat) (b c:Blk) (l:List (Nat×Blk)) (k:List (Nat×Blk)→Option β):A2 ((s,c)::l) s b k=k ((s,b)::l):=by
 show cond (Nat.beq s s) _ _=_
 rw [show Nat.beq s s=true from Nat.beq_refl s]
 rfl
theorem AoU {s j:Nat} (hne:(s == j)=false) (b c:Blk) (l:List (Nat×Blk)) (k:List (Nat×Blk)→Option β):A2 ((j,c)::l) s b k=A2 l s b fun l=>k ((j,c)::l):=by
 show cond (Nat.beq s j) _ _=_
 rw [show Nat.beq s j=false from Ahm hne]
 rfl
theorem Asv (s:Nat) (a:Option β):CF [] s a=a:=rfl
theorem Aov {s j:Nat} (hne:(s == j)=false) (b:Blk) (l:List (Nat×Blk)) (a:Option β):CF ((j,b)::l) s a=CF l s a:=by
 show cond (Nat.beq s j) none _=_
 rw [show Nat.beq s j=false from Ahm hne]
 rfl
theorem Ab3 (s:Nat) (b:Blk) (own:List (Nat×Blk)) (ext:List Blk) (k:Hp→Option β):FM (.own s) b ⟨own,ext⟩ k=A2 own s b fun own=>k ⟨own,ext⟩:=rfl
theorem AkK (j:Nat) (b:Blk) (own:List (Nat×Blk)) (ext:List Blk) (k:Hp→Option β):FM (.ext j) b ⟨own,ext⟩ k=Pe ext j b fun ext=>k ⟨own,ext⟩:=rfl
theorem sn0 {α:Type} (a b:α) (l:List α) (k:List α→Option β):Pe (a::l) 0 b k=k (b::l):=rfl
theorem Arc (s:Nat) (b:Blk) (v:IV) (own:List (Nat×Blk)) (ext:List Blk) (k:IV→Hp→List Ref→List Ref→Option β) :
  AD s b v ⟨own,ext⟩ k=CF own s (A2 own s b fun own=>k v ⟨own,ext⟩ [] [.own s]):=rfl
theorem Mb (s:Nat) (cs:List FV) (h:Hp) (k:IV→Hp→List Ref→List Ref→Option β):AX s (.fv (.agg cs)) h k=AD s (.row (cs.map .fv) false) (.ptr (.own s) 0) h k:=by
 show spK (cs.map IV.fv) _=_
 rw [HF]
theorem Asq (s:Nat) (a b:FV) (h:Hp) (k:IV→Hp→List Ref→List Ref→Option β):AX s (.fv (.agg [a,b])) h k=AD s (.row [.fv a,.fv b] false) (.ptr (.own s) 0) h k:=Mb ..
theorem Atp (s:Nat) (a b c:FV) (h:Hp) (k:IV→Hp→List Ref→List Ref→Option β):AX s (.fv (.agg [a,b,c])) h k=AD s (.row [.fv a,.fv b,.fv c] false) (.ptr (.own s) 0) h k:=Mb ..
theorem Asn (s:Nat) (a b c d:FV) (h:Hp) (k:IV→Hp→List Ref→List Ref→Option β):AX s (.fv (.agg [a,b,c,d])) h k=AD s (.row [.fv a,.fv b,.fv c,.fv d] false) (.ptr (.own s) 0) h k:=Mb ..
theorem ArU (s:Nat) (a:FV) (h:Hp) (k:IV→Hp→List Ref→List Ref→Option β):AX s (.fv (.agg [a])) h k=AD s (.row [.fv a] false) (.ptr (.own s) 0) h k:=Mb ..
theorem T4 (s:Nat) (cs:List IV) (h:Hp) (k:IV→Hp→List Ref→List Ref→Option β):AX s (.agg cs) h k=AD s (.row cs false) (.ptr (.own s) 0) h k:=by
 show spK cs _=_
 rw [HF]
theorem Alv {x:IV} (hx:x.one=true) (s:Nat) (h:Hp) (k:IV→Hp→List Ref→List Ref→Option β):AX s x h k=AD s (.row [x] false) (.ptr (.own s) 0) h k:=by
 unfold AX;rw [hx];rfl
theorem Apm (k:IntKind) (n:Int):IV.one (.fv (.int k n))=true:=rfl
theorem AlU (b:Bool):IV.one (.fv (.bool b))=true:=rfl
theorem Ath (l:List FV):IV.one (.fv (.sl l))=true:=rfl
theorem AsC (l:List FV) (o:Nat):IV.one (.fv (.fp l o))=true:=rfl
theorem AjS (fn:Fn) (a b:List FV):IV.one (.fv (.func fn a b))=true:=rfl
theorem Ajg:IV.one (.fv .nilp)=true:=rfl
theorem Alt:IV.one .nils=true:=rfl
theorem AoD (r:Ref) (o:Nat):IV.one (.ptr r o)=true:=rfl
theorem Aqd (r:Ref) (a b:Nat):IV.one (.slc r a b)=true:=rfl
theorem ApZ (r:Ref) (l:List FV):IV.one (.app r l)=true:=rfl
theorem AhG (l:List FV):IV.one (.clip l)=true:=rfl
theorem ApP:IV.one .emp=true:=rfl
theorem AnM (l:List IV):IV.one (.agg l)=false:=rfl
theorem AiM (l:List FV):IV.one (.fv (.agg l))=false:=rfl
theorem AqP (k:IntKind) (n:Int):HH (.int k n)=true:=rfl
theorem Ahz (b:Bool):HH (.bool b)=true:=rfl
theorem AsR (l:List FV):HH (.sl l)=true:=rfl
theorem ArL (l:List FV) (o:Nat):HH (.fp l o)=true:=rfl
theorem Akb:HH .nilp=true:=rfl
theorem An5 (l:List FV):HH (.agg l)=false:=rfl
theorem Ahe:DW []=true:=rfl
theorem TZ {v:FV} (h:HH v=true) (l:List FV):DW (v::l)=DW l:=by
 show cond (HH v) (DW l) false=_
 rw [h];rfl
theorem Qy (r:Ref) (o:Nat) (k:Ref→Nat→Option β) (kf:List FV→Nat→Option β):ET (.ptr r o) k kf=k r o:=rfl
theorem At2 (cs:List FV) (o:Nat) (k:Ref→Nat→Option β) (kf:List FV→Nat→Option β):ET (.fv (.fp cs o)) k kf=kf cs o:=rfl
theorem Js (cs:List IV) (ro:Bool) (k:List IV→Option β):D7 (.row cs ro) k=k cs:=rfl
theorem Yl (cs:List IV) (k:List IV→Option β):G3 (.row cs false) k=k cs:=rfl
theorem AgW (v:FV) (e:Option β) (k:FV→Option β):OD (.fv v) e k=k v:=rfl
theorem UW (l:List IV) (e:Option β) (k:FV→Option β):OD (.agg l) e k=e:=rfl
theorem AoJ (e:Option β) (k:FV→Option β):OD .nils e k=e:=rfl
theorem Ank (r:Ref) (o:Nat) (e:Option β) (k:FV→Option β):OD (.ptr r o) e k=e:=rfl
theorem Am8 (r:Ref) (o:List FV) (e:Option β) (k:FV→Option β):OD (.app r o) e k=e:=rfl
theorem AoZ (o:List FV) (e:Option β) (k:FV→Option β):OD (.clip o) e k=e:=rfl
theorem AnJ (r:Ref) (a b:Nat) (e:Option β) (k:FV→Option β):OD (.slc r a b) e k=e:=rfl
theorem ApT (e:Option β) (k:FV→Option β):OD .emp e k=e:=rfl
theorem ApU (cs:List FV) (k:List FV→Option β):GZ (.agg cs) k=k cs:=rfl
theorem Atm (cs:List IV) (k:List IV→Option β) (kf:List FV→Option β):asAgg (.agg cs) k kf=k cs:=rfl
theorem Ane (cs:List FV) (k:List IV→Option β) (kf:List FV→Option β):asAgg (.fv (.agg cs)) k kf=kf cs:=rfl
theorem Amm (e:Option β) (k:List FV→Option β):Cm [] e k=k []:=rfl
theorem Apt (v:FV) (l:List IV) (e:Option β) (k:List FV→Option β):Cm (.fv v::l) e k=Cm l e fun vs=>k (v::vs):=rfl
theorem AdH (l:List IV) (e:Option β) (k:List FV→Option β):Cm (.nils::l) e k=e:=rfl
theorem Amo (r:Ref) (es:List FV) (l:List IV) (e:Option β) (k:List FV→Option β):Cm (.app r es::l) e k=e:=rfl
theorem AdN (es:List FV) (l:List IV) (e:Option β) (k:List FV→Option β):Cm (.clip es::l) e k=e:=rfl
theorem AkW (r:Ref) (o:Nat) (l:List IV) (e:Option β) (k:List FV→Option β):Cm (.ptr r o::l) e k=e:=rfl
theorem AkP (r:Ref) (a b:Nat) (l:List IV) (e:Option β) (k:List FV→Option β):Cm (.slc r a b::l) e k=e:=rfl
theorem AiK (es l:List IV) (e:Option β) (k:List FV→Option β):Cm (.agg es::l) e k=e:=rfl
theorem AdX (r:Ref) (l:List IV) (e:Option β) (k:List FV→Option β):Cm (.mapr r::l) e k=e:=rfl
theorem Ate (l:List IV) (k:IV→Option β):OF l k=Cm l (k (.agg l)) fun vs=>k (.fv (.agg vs)):=rfl
theorem ArQ (l:List IV) (k:IV→Option β):UX l k=Cm l (k (.tuple l)) fun vs=>k (.fv (.tuple vs)):=rfl
theorem AuO (a:IV) (h:Hp) (k:IV→List Ref→Option β):Ae a h k=ET a (fun r o=>C5 r h fun b=>D7 b fun cells=>DJ cells o fun v=>k v [r]) fun cells o=>DJ cells o fun v=>k (.fv v) []:=rfl
theorem Auv (size:Nat) (a:IV) (h:Hp) (k:IV→List Ref→Option β):Ag size a h k =
  ET a (fun r o=>C5 r h fun b=>D7 b fun cells=>FA cells o fun cs=>FL cs size fun cs=>OF cs fun v=>k v [r]) fun cells o=>FA cells o fun cs=>FL cs size fun cs=>k (.fv (.agg cs)) []:=rfl
theorem Apq (size:Nat) (a:IV) (h:Hp) (k:IV→Option β):As true size a h k=Ag size a h fun v _=>k v:=rfl
theorem AqC (size:Nat) (a:IV) (h:Hp) (k:IV→Option β):As false size a h k=Ae a h fun v _=>k v:=rfl
theorem wr0 (l:List IV) (k:List IV→Option β):wrK [] l k=k l:=rfl
theorem wr1 (c:FV) (cs:List FV) (x:IV) (l:List IV) (k:List IV→Option β):wrK (c::cs) (x::l) k=wrK cs l fun t=>k (.fv c::t):=rfl
theorem sf0 (x:IV) (l:List IV) (cs:List FV) (k:List IV→Option β):D6 (x::l) 0 cs k=wrK cs (x::l) k:=rfl
theorem sf1 (x:IV) (l:List IV) (cs:List FV) (k:List IV→Option β):D6 (x::l) 1 cs k=D6 l 0 cs fun t=>k (x::t):=rfl
theorem sf2 (x y:IV) (l:List IV) (cs:List FV) (k:List IV→Option β):D6 (x::y::l) 2 cs k=D6 l 0 cs fun t=>k (x::y::t):=rfl
theorem sf3 (x y z:IV) (l:List IV) (cs:List FV) (k:List IV→Option β):D6 (x::y::z::l) 3 cs k=D6 l 0 cs fun t=>k (x::y::z::t):=rfl
theorem sf4 (x y z u:IV) (l:List IV) (cs:List FV) (k:List IV→Option β):D6 (x::y::z::u::l) 4 cs k=D6 l 0 cs fun t=>k (x::y::z::u::t):=rfl
theorem of0 (x b:IV) (l:List IV) (k:List IV→Option β):GF (x::l) 0 b k=k (b::l):=rfl
theorem of1 (x y b:IV) (l:List IV) (k:List IV→Option β):GF (x::y::l) 1 b k=k (x::b::l):=rfl
theorem of2 (x y z b:IV) (l:List IV) (k:List IV→Option β):GF (x::y::z::l) 2 b k=k (x::y::b::l):=rfl
theorem of3 (x y z u b:IV) (l:List IV) (k:List IV→Option β):GF (x::y::z::u::l) 3 b k=k (x::y::z::b::l):=rfl
theorem of6 (x y z u v w s b:IV) (l:List IV) (k:List IV→Option β):GF (x::y::z::u::v::w::s::l) 6 b k=k (x::y::z::u::v::w::b::l):=rfl
theorem Aue (size:Nat) (a:IV) (cs:List FV) (h:Hp) (k:Hp→List Ref→List Ref→Option β):Af size a (.fv (.agg cs)) h k =
  ET a (fun r o=>C5 r h fun b=>G3 b fun cells=>cond (and (Nat.beq cs.length size) (DW cs)) (D6 cells o cs fun cells=>FM r (.row cells false) h fun h=>k h [r] [r]) none) fun _ _=>none:=rfl
theorem Afq (s:Nat) (x:IV):Fu (.own s) x=true:=rfl
theorem AuP (s:Nat) (a b c:IV) (ha:a.one=true) (hb:b.one=true) (hc:c.one=true) (own:List (Nat×Blk)) (ext:List Blk) (k:Hp→List Ref→List Ref→Option β) :
  Af 3 (.ptr (.own s) 0) (.agg [a,b,c]) ⟨own,ext⟩ k=Gu own s fun bl=>G3 bl fun cells=>cond (Nat.ble 3 cells.length) (FM (.own s) (.row (A4 cells 0 [a,b,c]) false) ⟨own,ext⟩ fun h=>k h [.own s] [.own s]) none:=by
 show Gu own s (fun bl=>G3 bl fun cells=>if IV.alive (.agg [a,b,c])=true∧(IV.cells (.agg [a,b,c])).length=3∧0+3≤cells.length∧(IV.cells (.agg [a,b,c])).all IV.one=true∧Fu (.own s) (.agg [a,b,c])=true then
  spK (A4 cells 0 (IV.cells (.agg [a,b,c]))) fun cells=>FM (.own s) (.row cells false) ⟨own,ext⟩ fun h=>k h [.own s] [.own s] else none)=_
 congr 1
 funext bl
 congr 1
 funext cells
 by_cases h3:3≤cells.length
 ·rw [if_pos ⟨rfl,rfl,by omega,by simp [IV.cells,ha,hb,hc],rfl⟩,HF,Bl,decide_eq_true h3];rfl
 ·rw [if_neg (fun h=>h3 (by omega)),Bl,decide_eq_false h3];rfl
theorem sc3 (a b c x y z:IV):A4 [x,y,z] 0 [a,b,c]=[a,b,c]:=rfl
theorem Aua (a x:IV) (h:Hp) (k:Hp→List Ref→List Ref→Option β):A9 a x h k =
  cond x.one (ET a (fun r o=>C5 r h fun b=>G3 b fun cells=>cond (Fu r x) (GF cells o x fun cells=>FM r (.row cells false) h fun h=>k h [r] [r]) none) fun _ _=>none) (Af 1 a x h k):=rfl
theorem AtK (o:Nat) (r:Ref) (k:IV→Option β):Ab o (.ptr r 0) k=k (.ptr r o):=by rw [AjF,Nat.zero_add]
theorem Arv (o:Nat) (cs:List FV) (k:IV→Option β):Ab o (.fv (.fp cs 0)) k=k (.fv (.fp cs o)):=by rw [Pu,Nat.zero_add]
theorem AsB (r:Ref) (o:Nat) (k:IV→Option β):AH (.ptr r o) k=k (.ptr r o):=rfl
theorem ArW (cs:List FV) (o:Nat) (k:IV→Option β):AH (.fv (.fp cs o)) k=k (.fv (.fp cs o)):=rfl
theorem Af2 (g:FuncId) (a b:List FV) (k:IV→Option β):AH (.fv (.func (.func g) a b)) k=k (.fv (.func (.func g) a b)):=rfl
theorem At3 (ix:Nat) (vs:List IV) (k:IV→Option β):Ar ix (.tuple vs) k=DJ vs ix k:=rfl
theorem AuU (ix:Nat) (vs:List FV) (k:IV→Option β):Ar ix (.fv (.tuple vs)) k=DJ vs ix fun v=>k (.fv v):=rfl
theorem Auk (o:Nat) (x:IV) (k:IV→Option β):AqF o x k=asAgg x (fun cs=>DJ cs o k) fun cs=>DJ cs o fun v=>k (.fv v):=rfl
theorem AtJ (size o:Nat) (x:IV) (k:IV→Option β):Apn size o x k=asAgg x (fun cs=>FA cs o fun cs=>FL cs size fun cs=>OF cs k) fun cs=>FA cs o fun cs=>FL cs size fun cs=>k (.fv (.agg cs)):=rfl
theorem Asf (z:List IV) (pl:List (Nat×Nat×IV)) (k:IV→Option β):Bw z pl k=Of z pl fun cells=>OF cells k:=rfl
theorem fk0 (z:List IV) (k:List IV→Option β):Of z [] k=k z:=rfl
theorem fk1 (z:List IV) (o sz:Nat) (v:IV) (pl:List (Nat×Nat×IV)) (k:List IV→Option β):Of z ((o,sz,v)::pl) k=Hb z o sz v fun z=>Of z pl k:=rfl
theorem ApS {v:IV} (hv:v.one=true) (z:List IV) (o:Nat) (k:List IV→Option β):Hb z o 1 v k=GF z o v k:=by
 unfold Hb;cases v with
 | fv w =>
  show cond (HH w) _ _=_
  have:HH w=true:=by cases w<;>first | rfl | cases hv
  rw [this];rfl
 | _=>show AaW _ _ _ _ _=_;unfold AaW;rw [hv];rfl
theorem App (z:List IV) (o sz:Nat) (cs:List FV) (k:List IV→Option β):Hb z o sz (.fv (.agg cs)) k=cond (Nat.beq cs.length sz) (D6 z o cs k) none:=rfl
theorem nb3 (a b c:FV):Nat.beq [a,b,c].length 3=true:=rfl
theorem nb4 (a b c d:FV):Nat.beq [a,b,c,d].length 4=true:=rfl
theorem nb7 (a b c d e f g:FV):Nat.beq [a,b,c,d,e,f,g].length 7=true:=rfl
theorem nl3 (a b c:IV):Nat.ble 3 [a,b,c].length=true:=rfl
theorem Anb:(and true true)=true:=rfl
end
end Idl
end Go.Proofs.Ytkfecngimlcfoaa
namespace Go.Proofs.Ytkfecngimlcfoaa
namespace Idl
section
variable {β:Type} {E:Env} {t:TypeId}
theorem UO (n:Int):IV.fv (.int .i64 n)=iv n:=rfl
def BA (n:Int):Int:=IntKind.i64.wrap n
theorem Ax {n:Int} (h1:-9223372036854775808≤n) (h2:n≤9223372036854775807):BA n=n:=by
 show (if (true && decide ((n % (18446744073709551616:Int)) ≥ (9223372036854775808:Int)))=true then (n % (18446744073709551616:Int)) - (18446744073709551616:Int) else (n % (18446744073709551616:Int)))=n
 by_cases h:0≤n
 ·have e:n % (18446744073709551616:Int)=n:=by omega
  have e2:¬ n ≥ (9223372036854775808:Int):=by omega
  rw [e,decide_eq_false e2];rfl
 ·have e:n % (18446744073709551616:Int)=n+18446744073709551616:=by omega
  have e2:n+18446744073709551616 ≥ (9223372036854775808:Int):=by omega
  rw [e,decide_eq_true e2];simp
theorem ArJ (a b:Int) (k:IV→Option β):Bp E t (iv a) (iv b) k=k (iv (BA (a+b))):=by
 have hg:CH E t .add (iv a) (iv b) k=k (iv (BA (a+b))):=by
  rw [CH,CA];rfl
 cases a with
 | negSucc a=>exact hg
 | ofNat a=>cases b with
  | negSucc b=>exact hg
  | ofNat b =>
   show cond (Nat.ble (a+b) 9223372036854775807) (M2 (a+b) k) _=_
   rw [Bl];by_cases h:a+b≤9223372036854775807
   ·rw [decide_eq_true h]
    show M2 (a+b) k=_
    rw [Dm]
    have:BA (Int.ofNat a+Int.ofNat b)=((a+b:Nat):Int):=by
     rw [Ax (by simp only [Int.ofNat_eq_natCast];omega) (by simp only [Int.ofNat_eq_natCast];omega)];simp only [Int.ofNat_eq_natCast];omega
    rw [this]
   ·rw [decide_eq_false h];exact hg
theorem AsT (a b:Int) (k:IV→Option β):Bd E t (iv a) (iv b) k=k (iv (BA (a - b))):=by
 have hg:CH E t .sub (iv a) (iv b) k=k (iv (BA (a - b))):=by
  rw [CH,CA];rfl
 cases a with
 | negSucc a=>exact hg
 | ofNat a=>cases b with
  | negSucc b=>exact hg
  | ofNat b =>
   show cond (and (Nat.ble b a) (Nat.ble a 9223372036854775807)) (M2 (a - b) k) _=_
   rw [Bl,Bl];by_cases h:b≤a∧a≤9223372036854775807
   ·rw [decide_eq_true h.1,decide_eq_true h.2]
    show M2 (a - b) k=_
    rw [Dm]
    have:BA (Int.ofNat a - Int.ofNat b)=((a - b:Nat):Int):=by
     rw [Ax (by simp only [Int.ofNat_eq_natCast];omega) (by simp only [Int.ofNat_eq_natCast];omega)];simp only [Int.ofNat_eq_natCast];omega
    rw [this]
   ·have:(decide (b≤a) && decide (a≤9223372036854775807))=false:=by
     rw [← Bool.decide_and];exact decide_eq_false h
    rw [show and (decide (b≤a)) (decide (a≤9223372036854775807))=false from this]
    exact hg
theorem Atn (a b:Int) (k:IV→Option β):CH E t .mul (iv a) (iv b) k=k (iv (BA (a * b))):=by
 rw [CH,CA];rfl
theorem Afg {b:Int} (hb:b≠0) (a:Int) (k:IV→Option β):CH E t .quo (iv a) (iv b) k=k (iv (BA (a.tdiv b))):=by
 rw [CH,CA]
 have:FJ E .quo t (iv a) (iv b)=some (iv (BA (a.tdiv b))):=by
  show (GX (Op.intDiv .quo .i64 a b)).bind Jp=_
  simp only [Op.intDiv,hb,if_false];rfl
 rw [this];rfl
theorem Nl {b:Int} (hb:b≠0) (a:Int) (k:IV→Option β):CH E t .rem (iv a) (iv b) k=k (iv (a.tmod b)):=by
 rw [CH,CA]
 have:FJ E .rem t (iv a) (iv b)=some (iv (a.tmod b)):=by
  show (GX (Op.intDiv .rem .i64 a b)).bind Jp=_
  simp only [Op.intDiv,hb,if_false];rfl
 rw [this];rfl
theorem Aug (a b:Int) (k:IV→Option β):AN E t (iv a) (iv b) k=k (.fv (.bool (decide (a=b)))):=AsE a b k
theorem AtD (a b:Int) (k:IV→Option β):Ch E t (iv a) (iv b) k=k (.fv (.bool (!decide (a=b)))):=ArE a b k
theorem AtS (a b:Int) (k:IV→Option β):F8 E t (iv a) (iv b) k=k (.fv (.bool (decide (a<b)))):=Arh a b k
theorem Aus (a b:Int) (k:IV→Option β):leS E t (iv a) (iv b) k=k (.fv (.bool (decide (a≤b)))):=As0 a b k
theorem Aul (a b:Int) (k:IV→Option β):Ke E t (iv a) (iv b) k=k (.fv (.bool (decide (b<a)))):=by
 rw [Ke,Lb (fun a b=>by
  show some (IV.fv (.bool (decide ((a:Int) > (b:Int)))))=_
  rw [Bl];congr 3;exact decide_eq_decide.2 (by omega))]
 rfl
theorem AuG (a b:Int) (k:IV→Option β):Uv E t (iv a) (iv b) k=k (.fv (.bool (decide (b≤a)))):=by
 rw [Uv,Lb (fun a b=>by
  show some (IV.fv (.bool (decide ((a:Int) ≥ (b:Int)))))=_
  rw [Bl];congr 3;exact decide_eq_decide.2 (by omega))]
 rfl
theorem As8 (a b:Bool) (hT:E.T t=some ⟨1,1,.bool,[.fv (.bool false)]⟩) (k:IV→Option β):AN E t (.fv (.bool a)) (.fv (.bool b)) k=k (.fv (.bool (a == b))):=by
 show CH E t .eql _ _ k=_
 rw [CH,CA]
 have:FJ E .eql t (.fv (.bool a)) (.fv (.bool b))=some (.fv (.bool (a == b))):=by
  simp only [FJ,hT,SK]
 rw [this];rfl
theorem ArR (b:Bool) (k:IV→Option β):CL (LR .not (.fv (.bool b))) k=k (.fv (.bool !b)):=ArY b k
theorem AuJ (a b:Option β):Ai (.fv (.bool true)) a b=a:=rfl
theorem AuA (a b:Option β):Ai (.fv (.bool false)) a b=b:=rfl
theorem Aui (c:Prop) [Decidable c] (a b:Option β):Ai (.fv (.bool (decide c))) a b=if c then a else b:=AqB c a b
theorem AuF (c:Prop) [Decidable c] (a b:Option β):Ai (.fv (.bool (!decide c))) a b=if c then b else a:=by
 by_cases h:c
 ·rw [decide_eq_true h,if_pos h];rfl
 ·rw [decide_eq_false h,if_neg h];rfl
theorem Auw (c:Bool) (a b:Option β):Ai (.fv (.bool c)) a b=if c=true then a else b:=by
 cases c<;>rfl
theorem AuQ (c a b:IV) (k:IV→Option β):AI c a b k=Ai c (k a) (k b):=rfl
theorem ArT {b:Bool} (hb:b=true) (h:Hp) (m:(IV→Hp→List Ref→List Ref→Option β)→Option β) (k:IV→Hp→List Ref→List Ref→Option β):Ac (.fv (.bool b)) true h m k=m k:=by rw [hb];rfl
theorem AsX {b:Bool} (hb:b=false) (h:Hp) (m:(IV→Hp→List Ref→List Ref→Option β)→Option β) (k:IV→Hp→List Ref→List Ref→Option β):Ac (.fv (.bool b)) false h m k=m k:=by rw [hb];rfl
theorem ArA {b:Bool} (hb:b=true) (h:Hp) (m:(IV→Hp→List Ref→List Ref→Option β)→Option β) (k:IV→Hp→List Ref→List Ref→Option β):Ac (.fv (.bool b)) false h m k=k Fr h [] []:=by rw [hb];rfl
theorem AsV {b:Bool} (hb:b=false) (h:Hp) (m:(IV→Hp→List Ref→List Ref→Option β)→Option β) (k:IV→Hp→List Ref→List Ref→Option β):Ac (.fv (.bool b)) true h m k=k Fr h [] []:=by rw [hb];rfl
theorem AuR (w:Bool) (h:Hp) (m:(IV→Hp→List Ref→List Ref→Option β)→Option β) (k:IV→Hp→List Ref→List Ref→Option β):Ac Fr w h m k=k Fr h [] []:=rfl
theorem ch0 (rd wr:List Ref) (a:Option β):Ad [] rd wr a=a:=rfl
theorem ch1 (q1 q2:List Ref) (l:List (List Ref×List Ref)) (rd wr:List Ref) (a:Option β):Ad ((q1,q2)::l) rd wr a=cond (Uw q2 rd) (cond (Uw q2 wr) (cond (Uw wr q1) (Ad l rd wr a) none) none) none:=rfl
theorem dj0 (b:List Ref):Uw [] b=true:=rfl
theorem djn:∀(a:List Ref),Uw a []=true
 | []=>rfl
 | _::a=>djn a
theorem dj1 (r:Ref) (a b:List Ref):Uw (r::a) b=cond (KY r b) (Uw a b) false:=rfl
theorem an0 (r:Ref):KY r []=true:=rfl
theorem an1 (r s:Ref) (l:List Ref):KY r (s::l)=cond (LG r s) (KY r l) false:=rfl
theorem AuH {i j:Nat} (h:(i == j)=false):LG (.own i) (.own j)=true:=by
 show not (Nat.beq i j)=true
 rw [show Nat.beq i j=false from Ahm h];rfl
theorem AsZ (i j:Nat):LG (.own i) (.ext j)=true:=rfl
theorem AsG (i j:Nat):LG (.ext i) (.own j)=true:=rfl
theorem AuM (v:IV) (h:Hp):Al [v] h=some (v,h):=rfl
theorem AtX (h:Hp):Al [] h=some (.fv (.tuple []),h):=rfl
theorem At0 (a b:IV) (h:Hp):Al [a,b] h=UX [a,b] fun v=>some (v,h):=rfl
theorem AtM (a b c:IV) (h:Hp):Al [a,b,c] h=UX [a,b,c] fun v=>some (v,h):=rfl
theorem Aun (a b c d:IV) (h:Hp):Al [a,b,c,d] h=UX [a,b,c,d] fun v=>some (v,h):=rfl
theorem Ar6 (es:List FV) (k:IV→Option β):B0 (.fv (.sl es)) k=k (iv es.length):=Dm ..
theorem ArS (k:IV→Option β):B0 .nils k=k (iv 0):=rfl
theorem ArN (es:List FV) (k:IV→Option β):B0 (.clip es) k=k (iv es.length):=Dm ..
theorem Ar5 (r:Ref) (es:List FV) (k:IV→Option β):B0 (.app r es) k=k (iv es.length):=Dm ..
theorem Asg (r:Ref) (sz n:Nat) (k:IV→Option β):B0 (.slc r sz n) k=k (iv n):=Dm ..
theorem Bz {size:Nat} {es:List FV} {n:Nat} {el:FV} (he:es[n]?=some el) (hl:el.cells.length=size) (k:IV→Option β):AT size (.fv (.sl es)) (iv n) k=k (.fv (.fp el.cells 0)):=Any he hl k
theorem AuN {size:Nat} {r:Ref} {es:List FV} {n:Nat} {el:FV} (he:es[n]?=some el) (hl:el.cells.length=size) (k:IV→Option β):AT size (.app r es) (iv n) k=k (.fv (.fp el.cells 0)):=Any he hl k
theorem AuE {size:Nat} {es:List FV} {n:Nat} {el:FV} (he:es[n]?=some el) (hl:el.cells.length=size) (k:IV→Option β):AT size (.clip es) (iv n) k=k (.fv (.fp el.cells 0)):=Any he hl k
theorem At7 {size sz len:Nat} {r:Ref} {n:Nat} (hn:n<len) (hs:sz=size) (k:IV→Option β):AT size (.slc r sz len) (iv n) k=k (.ptr r (n * sz)):=by
 show cond (and (Nat.ble (Nat.succ n) len) (Nat.beq sz size)) (D0 (n * sz) fun o=>k (.ptr r o)) none=_
 rw [Bl,decide_eq_true (show Nat.succ n≤len from hn),hs,show Nat.beq size size=true from Nat.beq_refl size]
 simp only [Bool.and_self,cond_true];rw [BO]
theorem AiH (size:Nat) (cs:List FV) (es:List FV) (hl:cs.length=size) (k:IV→Option β):AT size (.fv (.sl (.agg cs::es))) (iv 0) k=k (.fv (.fp cs 0)):=Bz (el:=.agg cs) (n:=0) rfl hl k
theorem Ama (size:Nat) (cs:List FV) (e:FV) (es:List FV) (hl:cs.length=size) (k:IV→Option β):AT size (.fv (.sl (e :: .agg cs::es))) (iv 1) k=k (.fv (.fp cs 0)):=Bz (el:=.agg cs) (n:=1) rfl hl k
theorem Ajx (size:Nat) (cs:List FV) (e e':FV) (es:List FV) (hl:cs.length=size) (k:IV→Option β):AT size (.fv (.sl (e::e' :: .agg cs::es))) (iv 2) k=k (.fv (.fp cs 0)):=Bz (el:=.agg cs) (n:=2) rfl hl k
theorem AiN (size:Nat) (cs:List FV) (e e' e'':FV) (es:List FV) (hl:cs.length=size) (k:IV→Option β):AT size (.fv (.sl (e::e'::e'' :: .agg cs::es))) (iv 3) k=k (.fv (.fp cs 0)):=Bz (el:=.agg cs) (n:=3) rfl hl k
def Fz (v:IV) (own:List (Nat×Blk)) (w:FV):Prop:=∃u lg,∀(e:Option (IV×Hp)) (K:FV→List (Ref×Blk)→List Ref→Option (IV×Hp)),EU 12 v ⟨own,[]⟩ [] e K=K w u lg
def BE (r:Option (IV×Hp)) (w:FV):Prop:=∃v own,r=some (v,⟨own,[]⟩) ∧
 (Fz v own w∨((∀(e:Option (IV×Hp)) (K:FV→List (Ref×Blk)→List Ref→Option (IV×Hp)),EU 12 v ⟨own,[]⟩ [] e K=e)∧∃u,(CS 4096 v).run ⟨own,[]⟩=some (w,u)))
def Agy (r:Option (IV×Hp)) (w:FV):Prop:=∃v own,r=some (v,⟨own,[]⟩)∧Fz v own w
theorem AmV (w:FV) (own:List (Nat×Blk)):Fz (.fv w) own w:=⟨[],[],fun _ _=>rfl⟩
theorem Ao (w:FV) (own:List (Nat×Blk)):BE (some (.fv w,⟨own,[]⟩)) w:=⟨_,own,rfl,.inl (AmV w own)⟩
def Hf:IV→Option FV
 | .fv v=>some v
 | .nils=>some (.sl [])
 | .emp=>some (.sl [])
 | .clip es=>some (.sl es)
 | .app _ es=>some (.sl es)
 | _=>none
def C1:List IV→Option (List FV)
 | []=>some []
 | v::l=>(Hf v).bind fun x=>(C1 l).map fun xs=>x::xs
def A6 (v:IV):Option FV:=match v with
 | .agg cs=>if cs.length≤8 then (C1 cs).map .agg else none
 | v=>Hf v
def BG:List IV→Option (List FV)
 | []=>some []
 | v::l=>(A6 v).bind fun x=>(BG l).map fun xs=>x::xs
theorem Arm (v:FV):A6 (.fv v)=some v:=rfl
theorem Aju:A6 .nils=some (.sl []):=rfl
theorem AoV:A6 .emp=some (.sl []):=rfl
theorem Akt (es:List FV):A6 (.clip es)=some (.sl es):=rfl
theorem ApG (r:Ref) (es:List FV):A6 (.app r es)=some (.sl es):=rfl
theorem Arj (v:FV):Hf (.fv v)=some v:=rfl
theorem AjL:Hf .nils=some (.sl []):=rfl
theorem An6:Hf .emp=some (.sl []):=rfl
theorem Aja (es:List FV):Hf (.clip es)=some (.sl es):=rfl
theorem Aot (r:Ref) (es:List FV):Hf (.app r es)=some (.sl es):=rfl
theorem AtO {a b c:IV} {x y z:FV} (ha:Hf a=some x) (hb:Hf b=some y) (hc:Hf c=some z):A6 (.agg [a,b,c])=some (.agg [x,y,z]):=by
 show (if 3≤8 then (C1 [a,b,c]).map FV.agg else none)=_
 simp [C1,ha,hb,hc]
theorem AtQ {a b c d:IV} {x y z u:FV} (ha:Hf a=some x) (hb:Hf b=some y) (hc:Hf c=some z) (hd:Hf d=some u):A6 (.agg [a,b,c,d])=some (.agg [x,y,z,u]):=by
 show (if 4≤8 then (C1 [a,b,c,d]).map FV.agg else none)=_
 simp [C1,ha,hb,hc,hd]
theorem Am2 {v:IV} {x:FV} (d:Nat) (h:Hp) (lg:List Ref) (e:Option β) (k:FV→List (Ref×Blk)→List Ref→Option β) (hz:Hf v=some x):EU (d+1) v h lg e k=k x [] lg:=by
 cases v<;>first | (cases hz;rfl) | (cases hz)
theorem XR (d:Nat) (h:Hp) (lg:List Ref) (e:Option β):∀(cs:List IV) (k:List FV→List (Ref×Blk)→List Ref→Option β) {xs:List FV},C1 cs=some xs→C3 (EU (d+1)) cs h lg e k=k xs [] lg
 | [],k,xs,hz=>by cases hz;rfl
 | v::cs,k,xs,hz=>by
  simp only [C1] at hz;cases h1:Hf v with
  | none=>rw [h1] at hz;cases hz
  | some x =>
   rw [h1] at hz;cases h2:C1 cs with
   | none=>rw [h2] at hz;cases hz
   | some ys =>
    rw [h2] at hz;cases hz
    show EU (d+1) v h lg e (fun y u lg=>C3 (EU (d+1)) cs h lg e fun ys us lg=>OJ u us fun w=>k (y::ys) w lg)=_
    rw [Am2 d h lg e _ h1,XR d h lg e cs _ h2];rfl
theorem KU {v:IV} {x:FV} (h:Hp) (lg:List Ref) (e:Option β) (k:FV→List (Ref×Blk)→List Ref→Option β) (hz:A6 v=some x):EU 12 v h lg e k=k x [] lg:=by
 cases v with
 | agg cs =>
  simp only [A6] at hz;split at hz
  ·rename_i hl;cases h2:C1 cs with
   | none=>rw [h2] at hz;cases hz
   | some ys =>
    rw [h2] at hz;cases hz
    show cond (Nat.ble cs.length 300) (C3 (EU 11) cs h lg e fun cs u lg=>k (.agg cs) u lg) e=_
    rw [Bl,decide_eq_true (show cs.length≤300 by omega)]
    exact XR 10 h lg e cs _ h2
  ·cases hz
 | _=>exact Am2 11 h lg e k hz
theorem AuW {v:IV} {x:FV} (hz:A6 v=some x) (own:List (Nat×Blk)):Fz v own x:=⟨[],[],fun e K=>KU _ _ e K hz⟩
theorem Ba {v:IV} {x:FV} (hz:A6 v=some x) (own:List (Nat×Blk)):BE (some (v,⟨own,[]⟩)) x:=⟨v,own,rfl,.inl (AuW hz own)⟩
theorem fr1 {v:IV} {x:FV} (n:Nat) (hz:Hf v=some x):CS (n+1) v=.ret (x,[]):=by
 cases v<;>first | (cases hz;rfl) | (cases hz)
theorem WU:∀(cs:List IV) (n:Nat) {xs:List FV},cs.length+1<n→C1 cs=some xs→frzL n cs=.ret (xs,[])
 | [],n+1,xs,_,hz=>by cases hz;rfl
 | v::cs,n+2,xs,hn,hz=>by
  simp only [C1] at hz;cases h1:Hf v with
  | none=>rw [h1] at hz;cases hz
  | some x =>
   rw [h1] at hz;cases h2:C1 cs with
   | none=>rw [h2] at hz;cases hz
   | some ys =>
    rw [h2] at hz;cases hz;simp only [Axe] at hn;simp only [frzL,fr1 n h1,Rd.bind,WU cs (n+1) (by omega) h2];rfl
theorem frp {v:IV} {x:FV} (n:Nat) (hn:20<n) (hz:A6 v=some x):CS n v=.ret (x,[]):=by
 cases n with
 | zero=>omega
 | succ n =>
  cases v with
  | agg cs =>
   simp only [A6] at hz;split at hz
   ·rename_i hl;cases h2:C1 cs with
    | none=>rw [h2] at hz;cases hz
    | some ys =>
     rw [h2] at hz;cases hz;simp only [CS,WU cs n (by omega) h2,Rd.bind]
   ·cases hz
  | _=>exact fr1 n hz
theorem Amw:∀(cs:List IV) (n:Nat) {xs:List FV},cs.length+30<n→BG cs=some xs→frzL n cs=.ret (xs,[])
 | [],n+1,xs,_,hz=>by cases hz;rfl
 | v::cs,n+1,xs,hn,hz=>by
  simp only [BG] at hz;cases h1:A6 v with
  | none=>rw [h1] at hz;cases hz
  | some x =>
   rw [h1] at hz;cases h2:BG cs with
   | none=>rw [h2] at hz;cases hz
   | some ys =>
    rw [h2] at hz;cases hz;simp only [Axe] at hn;simp only [frzL,frp n (by omega) h1,Rd.bind,Amw cs n (by omega) h2];rfl
theorem AR {vs:List IV} {xs:List FV} (hz:BG vs=some xs) (hl:vs.length≤100) (own:List (Nat×Blk)):BE (some (.tuple vs,⟨own,[]⟩)) (.tuple xs) :=
 ⟨_,own,rfl,.inr ⟨fun _ _=>rfl,[],by
  show (CS (4095+1) (.tuple vs)).run _=_
  simp only [CS,Amw vs 4095 (by omega) hz,Rd.bind];rfl⟩⟩
theorem AoA:BG []=some []:=rfl
theorem UI {a b:IV} {x y:FV} (ha:A6 a=some x) (hb:A6 b=some y):BG [a,b]=some [x,y]:=by simp [BG,ha,hb]
theorem Acr {a b c:IV} {x y z:FV} (ha:A6 a=some x) (hb:A6 b=some y) (hc:A6 c=some z):BG [a,b,c]=some [x,y,z]:=by simp [BG,ha,hb,hc]
theorem Arb {a b c d:IV} {x y z u:FV} (ha:A6 a=some x) (hb:A6 b=some y) (hc:A6 c=some z) (hd:A6 d=some u):BG [a,b,c,d]=some [x,y,z,u]:=by simp [BG,ha,hb,hc,hd]
theorem Agm {a:IV} {x:FV} (ha:A6 a=some x):BG [a]=some [x]:=by simp [BG,ha]
theorem Ng:∀(args:List IV) {vs:List FV},BG args=some vs→Bk [] args=.ret (vs.map .fv,[],[])
 | [],vs,hz=>by cases hz;rfl
 | v::l,vs,hz=>by
  simp only [BG] at hz;cases h1:A6 v with
  | none=>rw [h1] at hz;cases hz
  | some x =>
   rw [h1] at hz;cases h2:BG l with
   | none=>rw [h2] at hz;cases hz
   | some ys =>
    rw [h2] at hz;cases hz;simp only [Bk,frp 4096 (by omega) h1,Rd.bind,Ng l h2];rfl
theorem fz0 (keep:List Bool) (h:Hp) (lg:List Ref) (e:Option β) (k:List IV→List Ref→List (Ref×Blk)→List Ref→Option β):SX [] keep h lg e k=k [] [] [] lg:=rfl
theorem fz1 (x:IV) (l:List IV) (h:Hp) (lg:List Ref) (e:Option β) (k:List IV→List Ref→List (Ref×Blk)→List Ref→Option β) :
  SX (x::l) [] h lg e k=EU 12 x h lg e fun y u lg=>SX l [] h lg e fun vs rs us lg=>OJ u us fun w=>k (.fv y::vs) rs w lg:=rfl
theorem UA (x:IV) (l:List IV) (ks:List Bool) (h:Hp) (lg:List Ref) (e:Option β) (k:List IV→List Ref→List (Ref×Blk)→List Ref→Option β) :
  SX (x::l) (true::ks) h lg e k=ET x (fun r o=>SX l ks h lg e fun vs rs us lg=>k (.ptr r o::vs) (r::rs) us lg) fun _ _=>e:=rfl
theorem RJ (x:IV) (l:List IV) (ks:List Bool) (h:Hp) (lg:List Ref) (e:Option β) (k:List IV→List Ref→List (Ref×Blk)→List Ref→Option β) :
  SX (x::l) (false::ks) h lg e k=EU 12 x h lg e fun y u lg=>SX l ks h lg e fun vs rs us lg=>OJ u us fun w=>k (.fv y::vs) rs w lg:=rfl
section
variable (d:Nat) (h:Hp) (lg:List Ref) (e:Option β) (k:FV→List (Ref×Blk)→List Ref→Option β)
theorem AoG (cs:List IV):EU 12 (.agg cs) h lg e k=cond (Nat.ble cs.length 300) (C3 (EU 11) cs h lg e fun cs u lg=>k (.agg cs) u lg) e:=rfl
theorem U8 (s:Nat) (off:Nat):EU 12 (.ptr (.own s) off) h lg e k=C5 (.own s) h fun b=>D7 b fun cells=>cond (Nat.ble cells.length 300) (C3 (EU 11) cells h (.own s::lg) e fun cs u lg=>k (.fp cs off) ((.own s,.row cells true)::u) lg) e:=rfl
theorem LK (v:FV):EU 11 (.fv v) h lg e k=k v [] lg:=rfl
theorem fl0 (g:FzK β) (k:List FV→List (Ref×Blk)→List Ref→Option β):C3 g [] h lg e k=k [] [] lg:=rfl
theorem fl1 (g:FzK β) (x:IV) (l:List IV) (k:List FV→List (Ref×Blk)→List Ref→Option β):C3 g (x::l) h lg e k=g x h lg e fun y u lg=>C3 g l h lg e fun ys us lg=>OJ u us fun w=>k (y::ys) w lg:=rfl
end
def Qb (rs:List Ref) (r:Option (IV×Hp)) (h:Hp) (u:List (Ref×Blk)) (lg:List Ref) (e:Option (IV×Hp)) (g:List Ref→Option (IV×Hp)) (k:IV→Hp→List Ref→List Ref→Option (IV×Hp)):Option (IV×Hp):=match rs with
 | []=>(match r with
  | none=>none
  | some p=>match p with
   | (v,h')=>match h' with
    | ⟨own,ext⟩=>List.casesOn (motive:=fun _=>Option (IV×Hp)) ext (EU 12 v ⟨own,[]⟩ [] e fun w _ _=>Ll u h fun h2=>k (.fv w) h2 lg (Bq u)) fun _ _=>none)
 | r::rs=>g (r::rs)
theorem J5 (keep:List Bool) (ih:Aa) (f:FuncId) (args:List IV) (h:Hp) (k:IV→Hp→List Ref→List Ref→Option (IV×Hp)):Ah keep false false ih f args h k =
  SX args keep h [] (E6 keep false false ih f args h k) fun vs rs u lg=>Qb rs (ih f vs ⟨[],[]⟩) h u lg (E6 keep false false ih f args h k) (fun rs=>match rs with
   | []=>none
   | r::rs=>(match h with
    | ⟨own,ext⟩=>cond (OE 400 (r::rs) 0 ext) (match ih f vs ⟨[],ext⟩ with
     | none=>none
     | some p=>match p with
      | (v,h')=>match h' with
       | ⟨own',ext'⟩=>cond (and (Nat.beq ext'.length ext.length) (okB ext.length ext'))
        (EU 12 v ⟨own',ext'⟩ [] (E6 keep false false ih f args h k) fun w _ _=>Ll u ⟨own,ext'⟩ fun h2=>k (.fv w) h2 ((CI ext.length).reverse++lg) (Bq u++CI ext.length)) none)
     (E6 keep false false ih f args h k))) k:=by
 unfold Ah;simp only [cond_false];congr 1
theorem AsN {r:Option (IV×Hp)} {w:FV} (hr:Agy r w) (h:Hp) (u:List (Ref×Blk)) (lg:List Ref) (e:Option (IV×Hp)) (g:List Ref→Option (IV×Hp)) (k:IV→Hp→List Ref→List Ref→Option (IV×Hp)) :
  Qb [] r h u lg e g k=Ll u h fun h2=>k (.fv w) h2 lg (Bq u):=by
 obtain ⟨v,own,rfl,u',lg',hz⟩:=hr;simp only [Qb];rw [hz]
theorem AgI:∀(args:List IV) {vs:List FV} (h:Hp) (lg:List Ref) (e:Option β) (k:List IV→List Ref→List (Ref×Blk)→List Ref→Option β),BG args=some vs→SX args [] h lg e k=k (vs.map .fv) [] [] lg
 | [],vs,h,lg,e,k,hz=>by cases hz;rfl
 | v::l,vs,h,lg,e,k,hz=>by
  simp only [BG] at hz;cases h1:A6 v with
  | none=>rw [h1] at hz;cases hz
  | some x =>
   rw [h1] at hz;cases h2:BG l with
   | none=>rw [h2] at hz;cases hz
   | some ys =>
    rw [h2] at hz;cases hz
    show EU 12 v h lg e (fun y u lg=>SX l [] h lg e fun vs rs us lg=>OJ u us fun w=>k (.fv y::vs) rs w lg)=_
    rw [KU h lg e _ h1,AgI l h lg e _ h2];rfl
theorem E3 (f:Ref→Option Ref):∀l:List FV,IV.ren.renL f (l.map .fv)=some (l.map .fv)
 | []=>rfl
 | v::l=>by
  simp only [Axg,IV.ren.renL,IV.ren,E3 f l];rfl
theorem Ud {ih:Aa} {f:FuncId} {args:List IV} {vs:List FV} {w:FV} (hz:BG args=some vs) (hr:BE (ih f (vs.map .fv) ⟨[],[]⟩) w) (h:Hp) (k:IV→Hp→List Ref→List Ref→Option (IV×Hp)) :
  Ah [] false false ih f args h k=k (.fv w) h [] []:=by
 obtain ⟨v,own,e,hv⟩:=hr;have hD:(∃u,(CS 4096 v).run ⟨own,[]⟩=some (w,u))→E6 [] false false ih f args h k=k (.fv w) h [] []:=by
  rintro ⟨u,hu⟩;unfold E6;simp only [Ng args hz,Rd.runLog,BT,E3,Axf,A3,DA (Ci 3),DA CD,Jh,Bool.false_eq_true,if_false,e,hu,Axd,IV.ren]
  show (match laid h ([]++(Bq []).zip []) with | none=>none | some h'=>fH h' fun h'=>fV 3 (.fv w) fun res=>k res h' [] _)=_
  simp only [Bq,Axf,List.zip_nil_left,List.append_nil,laid,LQ,Ci]
 rw [J5,AgI args h [] _ _ hz,e];simp only [Qb];rcases hv with ⟨u',lg',hf⟩ | ⟨hf,hu⟩
 ·rw [hf];rfl
 ·rw [hf];exact hD hu
theorem FE {ih:Aa} {f:FuncId} {w:FV} (hr:BE (ih f [] ⟨[],[]⟩) w) (h:Hp) (k:IV→Hp→List Ref→List Ref→Option (IV×Hp)) :
  Ah [] false false ih f [] h k=k (.fv w) h [] []:=Ud (vs:=[]) rfl hr h k
theorem Av {ih:Aa} {f:FuncId} {a:IV} {x w:FV} (hr:BE (ih f [.fv x] ⟨[],[]⟩) w) (ha:A6 a=some x) (h:Hp) (k:IV→Hp→List Ref→List Ref→Option (IV×Hp)) :
  Ah [] false false ih f [a] h k=k (.fv w) h [] []:=Ud (Agm ha) hr h k
theorem Aj {ih:Aa} {f:FuncId} {a b:IV} {x y w:FV} (hr:BE (ih f [.fv x,.fv y] ⟨[],[]⟩) w) (ha:A6 a=some x) (hb:A6 b=some y) (h:Hp) (k:IV→Hp→List Ref→List Ref→Option (IV×Hp)) :
  Ah [] false false ih f [a,b] h k=k (.fv w) h [] []:=Ud (UI ha hb) hr h k
theorem AZ {ih:Aa} {f:FuncId} {a b c:IV} {x y z w:FV} (hr:BE (ih f [.fv x,.fv y,.fv z] ⟨[],[]⟩) w) (ha:A6 a=some x) (hb:A6 b=some y) (hc:A6 c=some z) (h:Hp) (k:IV→Hp→List Ref→List Ref→Option (IV×Hp)) :
  Ah [] false false ih f [a,b,c] h k=k (.fv w) h [] []:=Ud (Acr ha hb hc) hr h k
theorem AK {ih:Aa} {f:FuncId} {a b c d:IV} {x y z u w:FV} (hr:BE (ih f [.fv x,.fv y,.fv z,.fv u] ⟨[],[]⟩) w) (ha:A6 a=some x) (hb:A6 b=some y) (hc:A6 c=some z) (hd:A6 d=some u) (h:Hp)
  (k:IV→Hp→List Ref→List Ref→Option (IV×Hp)):Ah [] false false ih f [a,b,c,d] h k=k (.fv w) h [] []:=Ud (Arb ha hb hc hd) hr h k
theorem JB (v:IV) (s:Nat) (h:Hp) (k:IV→Hp→List Ref→List Ref→Option β):Ay (.ret { eff:={ val:=v } }) s h k=k v h [] []:=by
 unfold Ay;simp only [Rd.runLog,HX,Ci];rfl
theorem gen_val' (v:IV) (s:Nat) (h:Hp) (k:IV→Hp→List Ref→List Ref→Option β):Ay (Idl.val v) s h k=k v h [] []:=JB v s h k
theorem Cl {e:TypeId} {a b:Nat} {ei:TI} {z:List IV} (hT:E.T t=some ⟨a,b,.slice e,z⟩) (he:E.T e=some ei) {len:Nat} (hs:¬ (ei.size=0∨len * ei.size > 65536)) {parts:List (Nat×IV)} {cells:List FV}
  (hf:Cq (fun j=>some (j * ei.size,ei.size)) (OL len ei.zero) parts=some (cells.map .fv)) {s:Nat} {h:Hp} (k:IV→Hp→List Ref→List Ref→Option β) (hc:cells.length<65000:=by simp) :
  Ay (Ak E t len parts) s h k=k (.clip (BN ei.size len cells)) h [] []:=by
 have key:∀(l:List FV) (n:Nat),l.length<n→frzL n (l.map .fv)=.ret (l,[]):=by
  intro l
  induction l with
  | nil=>intro n hn;cases n with
   | zero=>simp at hn
   | succ n=>rfl
  | cons x l ih=>intro n hn;cases n with
   | zero=>simp at hn
   | succ n =>
    simp only [Axe] at hn;cases n with
    | zero=>omega
    | succ n =>
     simp only [Axg,frzL,CS,Rd.bind];rw [ih (n+1) (by omega)];rfl
 have:Ak E t len parts=.ret { eff:={ val:=.clip (BN ei.size len cells),upd:=[] } }:=by
  simp only [Ak,hT,he,if_neg hs,hf];rw [key _ _ (by omega)];rfl
 rw [this,JB]
end
end Idl
end Go.Proofs.Ytkfecngimlcfoaa
namespace Go.Proofs.Ytkfecngimlcfoaa
namespace Idl
def XY:=Aw9 @decide_true<|Aw9 @decide_false<|Aw9 @Bool.not_true<|Aw9 @Bool.not_false<|Aw9 @List.map_cons.{0,0}<|Aw9 @List.map_nil.{0,0}<|Aw9 @List.length_map.{0,0}<|Aw9 @List.length_cons.{0}<|Aw9 @List.length_nil.{0}<|Aw9 @Int.natCast_zero<|Aw9 @Int.natCast_one<|Aw9 @Bool.false_eq_true<|Aw9 @Bool.true_eq_false<|Aw9 @decide_eq_true_eq<|Aw9 @eq_self.{1}<|Aw9 @Bool.and_true<|Aw9 @Bool.true_and<|Aw9 @Bool.and_false<|Aw9 @Bool.false_and<|Aw9 @Nat.zero_add<|@Int.cast_ofNat_Int
def XE:=Aw9 @List.any_cons.{0}<|Aw9 @List.any_nil.{0}<|Aw9 @List.all_cons.{0}<|Aw9 @List.all_nil.{0}<|Aw9 @List.filter_cons.{0}<|Aw9 @List.filter_nil.{0}<|Aw9 @List.contains_cons.{0}<|Aw9 @List.contains_nil.{0}<|Aw9 @Bool.or_false<|Aw9 @Bool.or_true<|Aw9 @Bool.false_or<|Aw9 @Bool.true_or<|Aw9 @Bool.and_self<|Aw9 @Bool.not_eq_true<|Aw9 @BEq.rfl.{0}<|@beq_self_eq_true.{0}
def XX:=Aw9 @n0<|Aw9 @n1<|Aw9 @n2<|Aw9 @n3<|Aw9 @n4<|Aw9 @n5<|Aw9 @n6<|Aw9 @d0<|Aw9 @d1<|Aw9 @d2<|Aw9 @d3<|Aw9 @d4<|Aw9 @t1<|Aw9 @t2<|Aw9 @t3<|Aw9 @t4<|Aw9 @t7<|Aw9 @ap0<|Aw9 @ap1<|Aw9 @Asc<|Aw9 @c_t<|Aw9 @c_f<|Aw9 @LV<|Aw9 @ArF<|Aw9 @AmK<|Aw9 @Aoq<|Aw9 @ArV<|Aw9 @AmB<|Aw9 @AoU<|Aw9 @Asv<|Aw9 @Aov<|Aw9 @Ab3<|Aw9 @AkK<|Aw9 @sn0<|Aw9 @Arc<|Aw9 @Asq<|Aw9 @Atp<|Aw9 @Asn<|Aw9 @ArU<|Aw9 @T4<|Aw9 @Alv<|Aw9 @Apm<|Aw9 @AlU<|Aw9 @Ath<|Aw9 @AsC<|Aw9 @AjS<|Aw9 @Ajg<|Aw9 @Alt<|Aw9 @AoD<|Aw9 @Aqd<|Aw9 @ApZ<|Aw9 @AhG<|Aw9 @ApP<|Aw9 @AnM<|Aw9 @AiM<|Aw9 @AqP<|Aw9 @Ahz<|Aw9 @AsR<|Aw9 @ArL<|Aw9 @Akb<|Aw9 @An5<|Aw9 @Ahe<|Aw9 @TZ<|Aw9 @Qy<|Aw9 @At2<|Aw9 @Js<|Aw9 @Yl<|Aw9 @AgW<|Aw9 @UW<|Aw9 @AoJ<|Aw9 @Ank<|Aw9 @Am8<|Aw9 @AoZ<|Aw9 @AnJ<|Aw9 @ApT<|Aw9 @ApU<|Aw9 @Atm<|Aw9 @Ane<|Aw9 @Amm<|Aw9 @Apt<|Aw9 @AdH<|Aw9 @Amo<|Aw9 @AdN<|Aw9 @AkW<|Aw9 @AkP<|Aw9 @AiK<|Aw9 @AdX<|Aw9 @Ate<|Aw9 @ArQ<|Aw9 @AuO<|Aw9 @Auv<|Aw9 @Apq<|Aw9 @AqC<|Aw9 @wr0<|Aw9 @wr1<|Aw9 @sf0<|Aw9 @sf1<|Aw9 @sf2<|Aw9 @sf3<|Aw9 @sf4<|Aw9 @of0<|Aw9 @of1<|Aw9 @of2<|Aw9 @of3<|Aw9 @of6<|Aw9 @Aue<|Aw9 @Afq<|Aw9 @AuP<|Aw9 @sc3<|Aw9 @Aua<|Aw9 @AtK<|Aw9 @Arv<|Aw9 @AsB<|Aw9 @ArW<|Aw9 @Af2<|Aw9 @At3<|Aw9 @AuU<|Aw9 @Auk<|Aw9 @AtJ<|Aw9 @Asf<|Aw9 @fk0<|Aw9 @fk1<|Aw9 @ApS<|Aw9 @App<|Aw9 @nb3<|Aw9 @nb4<|Aw9 @nb7<|Aw9 @nl3<|Aw9 @Anb<|Aw9 @ArJ<|Aw9 @AsT<|Aw9 @Atn<|Aw9 @Afg<|Aw9 @Nl<|Aw9 @Aug<|Aw9 @AtD<|Aw9 @AtS<|Aw9 @Aus<|Aw9 @Aul<|Aw9 @AuG<|Aw9 @As8<|Aw9 @ArR<|Aw9 @AuJ<|Aw9 @AuA<|Aw9 @Aui<|Aw9 @AuF<|Aw9 @Auw<|Aw9 @AuQ<|Aw9 @ArT<|Aw9 @AsX<|Aw9 @ArA<|Aw9 @AsV<|Aw9 @AuR<|Aw9 @ch0<|Aw9 @ch1<|Aw9 @dj0<|Aw9 @djn<|Aw9 @dj1<|Aw9 @an0<|Aw9 @an1<|Aw9 @AuH<|Aw9 @AsZ<|Aw9 @AsG<|Aw9 @AuM<|Aw9 @AtX<|Aw9 @At0<|Aw9 @AtM<|Aw9 @Aun<|Aw9 @Ar6<|Aw9 @ArS<|Aw9 @ArN<|Aw9 @Ar5<|Aw9 @Asg<|Aw9 @Bz<|Aw9 @AuN<|Aw9 @AuE<|Aw9 @At7<|Aw9 @AiH<|Aw9 @Ama<|Aw9 @Ajx<|Aw9 @AiN<|Aw9 @Arm<|Aw9 @Aju<|Aw9 @AoV<|Aw9 @Akt<|Aw9 @ApG<|Aw9 @Arj<|Aw9 @AjL<|Aw9 @An6<|Aw9 @Aja<|Aw9 @Aot<|Aw9 @AtO<|Aw9 @AtQ<|Aw9 @AoA<|Aw9 @UI<|Aw9 @Acr<|Aw9 @Arb<|Aw9 @Agm<|Aw9 @JB<|@gen_val'
def Ev (f:FuncId) (args:List IV) (w:FV):Prop:=∃N,∀n,N≤n→BE (SS dt n f args ⟨[],[]⟩) w
theorem Bb {F:(List IV→Hp→Option (IV×Hp))→List IV→Hp→Option (IV×Hp)} {Q:Option (IV×Hp)→Prop} (P:Nat→List IV→Hp→Prop)
  (step:∀k V H rec,P k V H→(∀k' V' H',k' < k→P k' V' H'→Q (rec V' H'))→Q (F rec V H)):∀m k V H,k<m→P k V H→Q (By m F V H):=by
 intro m
 induction m with
 | zero=>intro k V H h;omega
 | succ m ih=>intro k V H hk hP;exact step k V H (By m F) hP fun k' V' H' h1 h2=>ih k' V' H' (by omega) h2
mutual
def Tm.wt:Tm→Nat
 | .mk _ _ l=>1+Tm.wtL l
def Tm.wtL:List Tm→Nat
 | []=>0
 | t::l=>t.wt+Tm.wtL l
end
theorem CX {t:Tm}:∀{l:List Tm},t∈l→t.wt≤Tm.wtL l
 | a::l,h=>by
  rcases List.mem_cons.1 h with rfl | h
  ·simp only [Tm.wtL];omega
  ·have:=CX h;simp only [Tm.wtL];omega
theorem EW:∀(l:List Tm),l.length≤Tm.wtL l
 | []=>Nat.zero_le _
 | (.mk _ _ k)::l=>by have:=EW l;simp only [Tm.wtL,Tm.wt,Axe];omega
theorem Jm (t:Tm):0<t.wt:=by cases t;simp only [Tm.wt];omega
theorem An (op n:Int) (l:List Tm):(Tm.mk op n l).enc=.agg [.int .i64 op,.int .i64 n,.sl (l.map Tm.enc)]:=by simp only [Tm.enc,ZD]
theorem AQ {l:List Tm} {i:Nat} {op n:Int} {k:List Tm} (h:l[i]?=some (.mk op n k)):(l.map Tm.enc)[i]?=some (.agg [.int .i64 op,.int .i64 n,.sl (k.map Tm.enc)]):=by
 rw [List.getElem?_map,h,Axd,An]
theorem Cu {α:Type} {l pre rest:List α} {a:α} (h:l=pre++a::rest):l[pre.length]?=some a:=by
 rw [h,List.getElem?_append_right (Nat.le_refl _),Nat.sub_self];rfl
theorem Cb (a b c:FV):(FV.agg [a,b,c]).cells=[a,b,c]:=rfl
theorem Bg (a b c:FV):(FV.agg [a,b,c]).cells.length=3:=rfl
section
variable {β:Type} {E:Env}
def AgZ (b:Blk) (n sz:Nat) (x:Option β):Option β:=match b with
 | .tok a s=>if a=n∧s=sz then x else none
 | _=>none
theorem Hd (n sz:Nat) (x:Option β):AgZ (.tok n sz) n sz x=x:=by
 show (if n=n∧sz=sz then x else none)=x
 rw [if_pos ⟨rfl,rfl⟩]
inductive Plain2:IV→List FV→Prop
 | clip (es:List FV):Plain2 (.clip es) es
 | sl (es:List FV):Plain2 (.fv (.sl es)) es
 | app (r:Ref) (es:List FV):Plain2 (.app r es) es
theorem UU {x:IV} {es:List FV} (h:Plain2 x es):CS 4096 x=.ret (.sl es,[]):=by cases h<;>rfl
structure SliceT (E:Env) (t:TypeId) (size:Nat):Prop where
 h:∃a b e z ei,E.T t=some ⟨a,b,.slice e,z⟩∧E.T e=some ei∧ei.size=size∧size≠0∧ei.bytes≤100000
theorem KG {t:TypeId} {size:Nat} (T:SliceT E t size) {x:IV} {es2:List FV} (hx:Plain2 x es2) (h1:BC size es2=true) (hne:es2.isEmpty=false) (hb:es2.length≤1000000) {s0:IV} (hs:s0=.nils∨s0=.clip []) (s:Nat) (own:List (Nat×Blk)) (ext:List Blk)
  (k:IV→Hp→List Ref→List Ref→Option β):Ay (AS E s false .append [t,t] [s0,x]) s ⟨own,ext⟩ k=CF own s (A2 own s (.tok es2.length size) fun own=>k (.app (.own s) es2) ⟨own,ext⟩ [] [.own s]):=by
 obtain ⟨a,b,e,z,ei,hT,he,rfl,h0,hby⟩:=T.h;have hlen:¬ (BC ei.size []=false∨(([]:List FV).length+es2.length) * ei.bytes > 140737488355328∨([]:List FV).length+es2.length > 1073741824):=by
  have:es2.length * ei.bytes≤1000000 * 100000:=Nat.mul_le_mul hb hby
  rintro (h | h | h)
  ·cases h
  ·simp only [List.length_nil,Nat.zero_add] at h;omega
  ·simp only [List.length_nil,Nat.zero_add] at h;omega
 have key:AS E s false .append [t,t] [s0,x]=.ret { eff:={ val:=.app (.own s) es2,upd:=[] },new:=some (.tok es2.length ei.size) }:=by
  show E5 E s t (some t) false s0 x=_
  simp only [E5,hT,Option.bind_some,he,UU hx,Rd.bind,h0,h1,false_or,Bool.true_eq_false,if_false];rcases hs with rfl | rfl<;>simp only [B8,if_neg hlen,hne,List.nil_append,Bool.false_eq_true,if_false]
 rw [key];unfold Ay;simp only [Rd.runLog]
 show (Jd (some (.tok es2.length ei.size)) s ⟨own,ext⟩ fun h=>fV 3 (.app (.own s) es2) fun v=>k v h [] ([]++[.own s]))=_
 simp only [Jd,CD,Ci];rfl
theorem Am3 {t:TypeId} {size:Nat} (T:SliceT E t size) {x:IV} (hx:Plain2 x []) {s0:IV} (hs:s0=.nils∨s0=.clip []) (s:Nat) (h:Hp) (k:IV→Hp→List Ref→List Ref→Option β) :
  Ay (AS E s false .append [t,t] [s0,x]) s h k=k s0 h [] []:=by
 obtain ⟨a,b,e,z,ei,hT,he,rfl,h0,hby⟩:=T.h;have hlen:¬ (BC ei.size []=false∨(([]:List FV).length+([]:List FV).length) * ei.bytes > 140737488355328∨([]:List FV).length+([]:List FV).length > 1073741824):=by
  rintro (h | h | h)
  ·cases h
  ·simp at h
  ·simp at h
 have key:AS E s false .append [t,t] [s0,x]=.ret { eff:={ val:=s0,upd:=[] } }:=by
  show E5 E s t (some t) false s0 x=_
  have h1:BC ei.size []=true:=rfl;simp only [E5,hT,Option.bind_some,he,UU hx,Rd.bind,h0,h1,false_or,Bool.true_eq_false,if_false];rcases hs with rfl | rfl
  ·simp only [B8];rw [if_neg hlen];simp
  ·simp only [B8];rw [if_neg hlen];simp
 rw [key];exact JB s0 s h k
theorem Po {t:TypeId} {size:Nat} (T:SliceT E t size) {x:IV} {es es2:List FV} (hx:Plain2 x es2) (h1:BC size es2=true) (h2:BC size es=true) (ho:(es2.all fun e=>e.cells.all FV.one)=true) (hb:es.length+es2.length≤1000000) (r s:Nat)
  (own:List (Nat×Blk)) (ext:List Blk) (k:IV→Hp→List Ref→List Ref→Option β):Ay (AS E s false .append [t,t] [.app (.own r) es,x]) s ⟨own,ext⟩ k =
   Gu own r fun b=>AgZ b es.length size (A2 own r (.tok (es.length+es2.length) size) fun own=>k (.app (.own r) (es++es2)) ⟨own,ext⟩ [.own r] [.own r]):=by
 obtain ⟨a,b,e,z,ei,hT,he,rfl,h0,hby⟩:=T.h;have hlen:¬ (BC ei.size es=false∨(es.length+es2.length) * ei.bytes > 140737488355328∨es.length+es2.length > 1073741824):=by
  have:(es.length+es2.length) * ei.bytes≤1000000 * 100000:=Nat.mul_le_mul hb hby
  rintro (h | h | h)
  ·rw [h2] at h;cases h
  ·omega
  ·omega
 have key:(AS E s false .append [t,t] [.app (.own r) es,x]).runLog ⟨own,ext⟩ []=(Aq r own).bind fun b=>match b with
   | .tok n sz=>if n=es.length∧sz=ei.size then some ({ eff:={ val:=.app (.own r) (es++es2),upd:=[(.own r,.tok (n+es2.length) sz)] } },[.own r]) else none
   | _=>none:=by
  show (E5 E s t (some t) false (.app (.own r) es) x).runLog _ _=_
  simp only [E5,hT,Option.bind_some,he,UU hx,Rd.bind,h0,h1,false_or,Bool.true_eq_false,if_false,B8,if_neg hlen,Rd.runLog,ho,and_true]
  show (match Aq r own with | some b=>_ | none=>none)=_
  cases Aq r own with
  | none=>rfl
  | some b =>
   cases b with
   | tok n sz =>
    simp only [Option.bind_some];by_cases hc:n=es.length∧sz=ei.size
    ·rw [if_pos hc,if_pos hc];rfl
    ·rw [if_neg hc,if_neg hc];rfl
   | _=>rfl
 unfold Ay;rw [key,BB];cases hl:Aq r own with
 | none=>simp
 | some b =>
  simp only [Option.bind_some];cases b with
  | tok n sz =>
   simp only [AgZ];by_cases hc:n=es.length∧sz=ei.size
   ·rw [if_pos hc,if_pos hc];obtain ⟨rfl,rfl⟩:=hc
    show (fRf (.own r) fun q=>C5 q ⟨own,ext⟩ fun _=>fBk (.tok (es.length+es2.length) ei.size) fun b=>FM q b ⟨own,ext⟩ fun h=>Jd none s h fun h=>fV 3 (.app (.own r) (es++es2)) fun v=>k v h [.own r] ([.own r]++[]))=_
    simp only [N9,CD,Ci,Jd,FM,C5];rw [BB,hl];rfl
   ·rw [if_neg hc,if_neg hc]
  | row _ _=>rfl
  | map _=>rfl
end
end Idl
end Go.Proofs.Ytkfecngimlcfoaa
namespace Go.Proofs.Ytkfecngimlcfoaa
namespace Idl
theorem TN:EE.T 28=some ⟨1,24,.slice 30,[.nils]⟩:=by kernel_rfl
theorem tTm:EE.T 30=some ⟨3,40,.struct [(0,3),(1,3),(2,28)],[.fv (.int .i64 0),.fv (.int .i64 0),.nils]⟩:=by kernel_rfl
theorem sTm:SliceT EE 28 3:=⟨_,_,_,_,_,TN,tTm,rfl,by decide,by decide⟩
theorem Jn (a:Tm) (s:Nat) (h:Hp) (k:IV→Hp→List Ref→List Ref→Option (IV×Hp)):Ay (Ak EE 28 1 [(0,.fv a.enc)]) s h k=k (.clip [a.enc]) h [] []:=by
 obtain ⟨o1,n1,k1⟩:=a;exact Cl TN tTm (by decide) (cells:=[.int .i64 o1,.int .i64 n1,.sl (Tm.enc.encL k1)]) rfl k
theorem Ape (a b:Tm) (s:Nat) (h:Hp) (k:IV→Hp→List Ref→List Ref→Option (IV×Hp)):Ay (Ak EE 28 2 [(0,.fv a.enc),(1,.fv b.enc)]) s h k=k (.clip [a.enc,b.enc]) h [] []:=by
 obtain ⟨o1,n1,k1⟩:=a;obtain ⟨o2,n2,k2⟩:=b;exact Cl TN tTm (by decide) (cells:=[.int .i64 o1,.int .i64 n1,.sl (Tm.enc.encL k1),.int .i64 o2,.int .i64 n2,.sl (Tm.enc.encL k2)]) rfl k
theorem Ahw (a:Tm):a.enc.cells.length=3:=by cases a;rfl
theorem Yd (a:Tm):a.enc.cells.all FV.one=true:=by cases a;rfl
theorem IH (l:List Tm):BC 3 (l.map Tm.enc)=true:=by
 cases l with
 | nil=>rfl
 | cons a l=>simp only [Axg,BC,Ahw,beq_self_eq_true]
theorem SD (e:Tm) (s:Nat) (own:List (Nat×Blk)) (ext:List Blk) (k:IV→Hp→List Ref→List Ref→Option (IV×Hp)) :
  Ay (AS EE s false .append [28,28] [.nils,.clip [e.enc]]) s ⟨own,ext⟩ k=CF own s (A2 own s (.tok 1 3) fun own=>k (.app (.own s) [e.enc]) ⟨own,ext⟩ [] [.own s]) :=
 KG sTm (.clip _) (IH [e]) rfl (by simp) (.inl rfl) s own ext k
theorem MD {es:List Tm} (hb:es.length+1≤1000000) (e:Tm) (r s:Nat) (own:List (Nat×Blk)) (ext:List Blk) (k:IV→Hp→List Ref→List Ref→Option (IV×Hp)) :
  Ay (AS EE s false .append [28,28] [.app (.own r) (es.map Tm.enc),.clip [e.enc]]) s ⟨own,ext⟩ k =
   Gu own r fun b=>AgZ b es.length 3 (A2 own r (.tok (es.length+1) 3) fun own=>k (.app (.own r) ((es++[e]).map Tm.enc)) ⟨own,ext⟩ [.own r] [.own r]):=by
 rw [Po sTm (.clip [e.enc]) (IH [e]) (IH es) (by simp [Yd]) (by simpa using hb) r s own ext k];simp only [List.length_map,List.map_append,Axg,Axf,Axe,List.length_nil,Nat.zero_add]
theorem AeW {x m:Int} (h1:0<m) (h2:m≤4611686018427387904):(if x.tmod m<0 then BA (x.tmod m+m) else x.tmod m)=x % m:=by
 have a1:=Int.emod_nonneg x (show m≠0 by omega)
 have a2:=Int.emod_lt_of_pos x h1;have e1:x.tmod m=x - m * x.tdiv m:=by have:=Int.mul_tdiv_add_tmod x m;omega
 have e2:x % m=x - m * (x / m):=by have:=Int.mul_ediv_add_emod x m;omega
 have b1:-m<x.tmod m:=Int.lt_tmod_of_pos x h1;have b2:x.tmod m<m:=Int.tmod_lt_of_pos x h1;have key:∃q,x.tmod m=x % m+m * q:=⟨x / m - x.tdiv m,by rw [e1,e2,Int.mul_sub];omega⟩;obtain ⟨q,hq⟩:=key;have hq2:q=0∨q=-1:=by
  rcases Int.lt_trichotomy q 0 with h | h | h
  ·right;rcases Int.lt_trichotomy q (-1) with h' | h' | h'
   ·have:m * q≤m * (-2):=Int.mul_le_mul_of_nonneg_left (by omega) (by omega)
    omega
   ·exact h'
   ·omega
  ·exact .inl h
  ·have:m * 1≤m * q:=Int.mul_le_mul_of_nonneg_left (by omega) (by omega)
   omega
 rcases hq2 with rfl | rfl
 ·rw [if_neg (by omega)];omega
 ·rw [if_pos (by omega),Ax (by omega) (by omega)];omega
theorem Au {n:Nat} (hn:0<n) (x:Int) {m:Int} (h1:0<m) (h2:m≤4611686018427387904):BE (SS dt n 55 [iv x,iv m] ⟨[],[]⟩) (.int .i64 (x % m)):=by
 obtain ⟨n,rfl⟩:=Nat.exists_eq_add_of_lt hn;rw [Nat.zero_add,c55];simp only [S55,↓XX,XY,↓reduceIte,Nat.reduceBEq,Nat.reduceAdd,Int.reduceEq,Int.reduceLT,Int.reduceLE,↓Nl (show m≠0 by omega)]
 rw [← AeW h1 h2];by_cases hc:x.tmod m<0<;>simp only [hc,if_true,if_false]<;>exact Ao _ _
theorem D3 {n:Nat} (hn:0<n) (op:Int):BE (SS dt n 24 [iv op,.fv (.sl [])] ⟨[],[]⟩) (Tm.mk op 0 []).enc:=by
 obtain ⟨n,rfl⟩:=Nat.exists_eq_add_of_lt hn;rw [Nat.zero_add,c24];simp only [S24,↓XX,XY,↓reduceIte,Nat.reduceBEq,Nat.reduceAdd,Int.reduceEq,Int.reduceLT,Int.reduceLE];exact Ao _ _
theorem C4 {n:Nat} (hn:0<n) (op:Int) (l:List Tm):BE (SS dt n 24 [iv op,.fv (.sl (l.map Tm.enc))] ⟨[],[]⟩) (Tm.mk op 0 l).enc:=by
 obtain ⟨n,rfl⟩:=Nat.exists_eq_add_of_lt hn;rw [Nat.zero_add,c24];simp only [S24,↓XX,XY,↓reduceIte,Nat.reduceBEq,Nat.reduceAdd,Int.reduceEq,Int.reduceLT,Int.reduceLE,An];exact Ao _ _
def Tm.kids:Tm→List Tm
 | .mk _ _ l=>l
def Tm.op:Tm→Int
 | .mk o _ _=>o
def Tm.n:Tm→Int
 | .mk _ n _=>n
def Tm.pick (r:Tm) (i:Nat):Tm:=match r.kids[i]? with
 | some k=>k
 | none=>.mk (BA (BA (r.op.tdiv 3)+i)) (BA (BA (r.n.tdiv 5)+BA (7 * i))) []
theorem AM {n:Nat} (hn:0<n) (r:Tm) (i:Nat):BE (SS dt n 56 [.fv r.enc,iv i] ⟨[],[]⟩) (r.pick i).enc:=by
 obtain ⟨n,rfl⟩:=Nat.exists_eq_add_of_lt hn;rw [Nat.zero_add,c56];obtain ⟨op,m,ks⟩:=r;rw [An];simp only [Tm.pick,Tm.kids,Tm.op,Tm.n];cases hk:ks[i]? with
 | some k =>
  have hi:(i:Int)<ks.length:=by have:=(List.getElem?_eq_some_iff.1 hk).1;omega
  obtain ⟨o,p,l⟩:=k;simp only [V7,Vm,UJ,Vo,S56,↓XX,XY,↓reduceIte,Nat.reduceBEq,Nat.reduceAdd,Int.reduceEq,Int.reduceLT,Int.reduceLE,hi,↓Bz (AQ hk) (Bg _ _ _),↓Cb,An];exact Ao _ _
 | none =>
  have hi:¬ (i:Int)<ks.length:=by have:=List.getElem?_eq_none_iff.1 hk;omega
  simp only [V7,Vm,UJ,Vo,S56,↓XX,XY,↓reduceIte,Nat.reduceBEq,Nat.reduceAdd,Int.reduceEq,Int.reduceLT,Int.reduceLE,hi,↓Afg (show (3:Int)≠0 by decide),↓Afg (show (5:Int)≠0 by decide)]
  exact Ba rfl _
section
variable {β:Type}
def Cc (s:Nat):IV→Bool
 | .ptr (.own j) _=>s == j
 | .slc (.own j) _ _=>s == j
 | .app (.own j) _=>s == j
 | .mapr (.own j)=>s == j
 | _=>false
def Fl:IV→Bool
 | .agg _ | .tuple _ | .func ..=>false
 | _=>true
def Fy (s:Nat):Blk→Bool
 | .row cells _=>cells.any (Cc s)
 | _=>false
def Ur:Blk→Bool
 | .row cells _=>cells.all Fl
 | .tok ..=>true
 | .map _=>false
theorem AcZ {v:IV} (h:Fl v=true) (s:Nat):(Ref.own s∈v.refs) ↔ Cc s v=true:=by
 cases v with
 | ptr r o=>cases r<;>simp [IV.refs,Cc]
 | slc r a b=>cases r<;>simp [IV.refs,Cc]
 | app r es=>cases r<;>simp [IV.refs,Cc]
 | mapr r=>cases r<;>simp [IV.refs,Cc]
 | agg _=>cases h
 | tuple _=>cases h
 | func _ _ _=>cases h
 | _=>simp [IV.refs,Cc]
theorem Jf:∀{l:List IV},l.all Fl=true→∀s,(Ref.own s∈IV.refs.refsL l) ↔ l.any (Cc s)=true
 | [],_,s=>by simp [IV.refs.refsL]
 | v::l,h,s=>by
  rw [List.all_cons,Bool.and_eq_true] at h;rw [IV.refs.refsL,List.mem_append,List.any_cons,Bool.or_eq_true,AcZ h.1,Jf h.2]
theorem Ee {b:Blk} (h:Ur b=true) (s:Nat):(Ref.own s∈b.refs) ↔ Fy s b=true:=by
 cases b with
 | row cells ro=>exact Jf h s
 | tok n sz=>simp [Blk.refs,Fy]
 | map es=>cases h
theorem Ic (s:Nat):∀l:List Ref,anyIn [s] l=true ↔ Ref.own s∈l
 | []=>by simp [anyIn]
 | .own k::l=>by
  rw [anyIn,Bool.or_eq_true,Ic s l,List.mem_cons];simp [eq_comm]
 | .ext k::l=>by
  rw [anyIn,Ic s l,List.mem_cons];simp
def heldB (rm:List Nat) (vals:List IV) (own:List (Nat×Blk)) (ext:List Blk) (s:Nat):Bool :=
 vals.any (Cc s) || (own.any (fun p=>!rm.contains p.1 && Fy s p.2) || ext.any (Fy s))
def Ho (rm:List Nat) (vals:List IV) (own:List (Nat×Blk)) (ext:List Blk):List (Nat×Blk):=own.filter fun p=>!rm.contains p.1 || heldB rm vals own ext p.1
def AL (rm:List Nat) (vals:List IV) (own:List (Nat×Blk)) (ext:List Blk):Bool :=
 vals.all Fl && (own.all (fun p=>Ur p.2) && (ext.all Ur && own.all fun p=>!rm.contains p.1 || rm.all fun s=>!Fy s p.2))
theorem TH {rm:List Nat} {vals:List IV} {own:List (Nat×Blk)} {ext:List Blk} (hf:AL rm vals own ext=true) (s:Nat) :
  Ref.own s∈IV.refs.refsL vals++(own.filter fun p=>!rm.contains p.1).flatMap (fun p=>p.2.refs)++ext.flatMap Blk.refs ↔ heldB rm vals own ext s=true:=by
 simp only [AL,Bool.and_eq_true] at hf;obtain ⟨h1,h2,h3,_⟩:=hf;have e1:Ref.own s∈(own.filter fun p=>!rm.contains p.1).flatMap (fun p=>p.2.refs) ↔ (own.any fun p=>!rm.contains p.1 && Fy s p.2)=true:=by
  rw [List.mem_flatMap,List.any_eq_true];constructor
  ·rintro ⟨p,hp,hr⟩;obtain ⟨hp1,hp2⟩:=List.mem_filter.1 hp;exact ⟨p,hp1,by rw [hp2,(Ee (List.all_eq_true.1 h2 p hp1) s).1 hr];rfl⟩
  ·rintro ⟨p,hp,hr⟩;rw [Bool.and_eq_true] at hr;exact ⟨p,List.mem_filter.2 ⟨hp,hr.1⟩,(Ee (List.all_eq_true.1 h2 p hp) s).2 hr.2⟩
 have e2:Ref.own s∈ext.flatMap Blk.refs ↔ ext.any (Fy s)=true:=by
  rw [List.mem_flatMap,List.any_eq_true];constructor
  ·rintro ⟨p,hp,hr⟩;exact ⟨p,hp,(Ee (List.all_eq_true.1 h3 p hp) s).1 hr⟩
  ·rintro ⟨p,hp,hr⟩;exact ⟨p,hp,(Ee (List.all_eq_true.1 h3 p hp) s).2 hr⟩
 rw [List.mem_append,List.mem_append,Jf h1,e1,e2,heldB,Bool.or_eq_true,Bool.or_eq_true,or_assoc]
theorem AJ {base rm:List Nat} {vals:List IV} {own:List (Nat×Blk)} {ext:List Blk} (hb:rm.any base.contains=false) (hf:AL rm vals own ext=true) (k:Hp→Option β) :
  Bs base rm vals ⟨own,ext⟩ k=k ⟨Ho rm vals own ext,ext⟩:=by
 have hm:=TH hf;have hf0:=hf;simp only [AL,Bool.and_eq_true] at hf0;obtain ⟨g1,g2,g3,g4⟩:=hf0;unfold Bs;rw [hb];simp only [cond_false];rw [Mj];cases ha:(own.all fun p=>!rm.contains p.1) with
 | true =>
  simp only [Bool.not_true,cond_false];congr 2
  symm
  apply List.filter_eq_self.2;intro p hp;rw [List.all_eq_true.1 ha p hp];rfl
 | false =>
  simp only [Bool.not_false,cond_true];have slow:(match Cs base [] rm ⟨vals,⟨own,ext⟩⟩ with | none=>none | some S=>fH S.hp k)=k ⟨Ho rm vals own ext,ext⟩:=by
   have hgone:(rm.filter fun k=>!anyIn [k] (IV.refs.refsL vals++(own.filter fun p=>!rm.contains p.1).flatMap (fun p=>p.2.refs)++ext.flatMap Blk.refs))=rm.filter fun s=>!heldB rm vals own ext s:=by
    apply List.filter_congr;intro s _;congr 1;exact Bool.eq_iff_iff.2 ((Ic s _).trans (hm s))
   have hown:(own.filter fun p=>!(rm.filter fun s=>!heldB rm vals own ext s).contains p.1)=Ho rm vals own ext:=by
    apply List.filter_congr;intro p _;rw [Bool.eq_iff_iff];simp only [Bool.not_eq_true',Bool.or_eq_true,List.contains_eq_mem,decide_eq_false_iff_not,List.mem_filter];constructor
    ·intro h;by_cases h1:p.1∈rm
     ·right;cases hh:heldB rm vals own ext p.1 with
      | true=>rfl
      | false=>exact absurd ⟨h1,hh⟩ h
     ·exact .inl h1
    ·rintro (h | h) ⟨h1,h2⟩
     ·exact h h1
     ·rw [h] at h2;exact absurd h2 (by simp)
   simp only [Cs,hb,Bool.false_eq_true,if_false,AY,ha,hgone,hown];have hnone:anyIn (rm.filter fun s=>!heldB rm vals own ext s) (CP ⟨vals,⟨Ho rm vals own ext,ext⟩⟩)=false:=by
    apply Eh;intro s hs hmem;obtain ⟨hs1,hs2⟩:=List.mem_filter.1 hs;have hs2:heldB rm vals own ext s=false:=by simpa using hs2
    simp only [CP,List.mem_append] at hmem;rcases hmem with (hmem | hmem) | hmem
    ·have:=(hm s).1 (List.mem_append_left _ (List.mem_append_left _ hmem))
     rw [this] at hs2;cases hs2
    ·obtain ⟨p,hp,hr⟩:=List.mem_flatMap.1 hmem;have hp1:=(List.mem_filter.1 hp).1;have hn:=(Ee (List.all_eq_true.1 g2 p hp1) s).1 hr;have h4:=List.all_eq_true.1 g4 p hp1;cases hc:rm.contains p.1 with
     | true =>
      rw [hc] at h4;have h4:(rm.all fun s=>!Fy s p.2)=true:=h4;have h5:=List.all_eq_true.1 h4 s hs1;rw [hn] at h5;cases h5
     | false =>
      have:=(hm s).1 (List.mem_append_left _ (List.mem_append_right _ (List.mem_flatMap.2 ⟨p,List.mem_filter.2 ⟨hp1,by rw [hc];rfl⟩,hr⟩)))
      rw [this] at hs2;cases hs2
    ·have:=(hm s).1 (List.mem_append_right _ hmem)
     rw [this] at hs2;cases hs2
   simp only [hnone,Bool.false_eq_true,if_false,LQ]
  cases hff:(and (FG rm (Ct vals [])) (and (Hh rm own) (I8 rm ext))) with
  | false=>exact slow
  | true =>
   have hff:(FG rm (Ct vals []) && (Hh rm own && I8 rm ext))=true:=hff;simp only [Bool.and_eq_true] at hff;simp only [Hm,cond_true];congr 2;apply List.filter_congr;intro p hp;cases hc:rm.contains p.1 with
   | false=>rfl
   | true =>
    have h1:=FC hff.1;rw [refsDL_eq,List.append_nil] at h1;have h2:=HG hff.2.1;have h3:=Oa hff.2.2
    have:heldB rm vals own ext p.1=false:=by
     cases hh:heldB rm vals own ext p.1 with
     | false=>rfl
     | true =>
      have:=(hm p.1).2 hh
      have hpm:p.1∈rm:=List.contains_iff_mem.1 hc;rcases List.mem_append.1 this with h | h
      ·rcases List.mem_append.1 h with h | h
       ·exact absurd h (h1 _ hpm)
       ·exact absurd h (h2 _ hpm)
      ·exact absurd h (h3 _ hpm)
    rw [this];rfl
end
section
variable (s j:Nat)
theorem Aub (rm:List Nat) (vals:List IV) (own:List (Nat×Blk)) (ext:List Blk):Ho rm vals own ext=own.filter fun p=>!rm.contains p.1 || heldB rm vals own ext p.1:=rfl
theorem nv1 (o:Nat):Cc s (.ptr (.own j) o)=(s == j):=rfl
theorem nv2 (a b:Nat):Cc s (.slc (.own j) a b)=(s == j):=rfl
theorem nv3 (es:List FV):Cc s (.app (.own j) es)=(s == j):=rfl
theorem nv4 (v:FV):Cc s (.fv v)=false:=rfl
theorem nv5:Cc s .nils=false:=rfl
theorem nv6 (es:List FV):Cc s (.clip es)=false:=rfl
theorem nv7 (o:Nat):Cc s (.ptr (.ext j) o)=false:=rfl
theorem nv8:Cc s .dead=false:=rfl
theorem nb1 (cs:List IV) (ro:Bool):Fy s (.row cs ro)=cs.any (Cc s):=rfl
theorem nb2 (a b:Nat):Fy s (.tok a b)=false:=rfl
theorem AuC (r:Ref) (o:Nat):Fl (.ptr r o)=true:=rfl
theorem AtE (r:Ref) (a b:Nat):Fl (.slc r a b)=true:=rfl
theorem AuL (r:Ref) (es:List FV):Fl (.app r es)=true:=rfl
theorem AuK (v:FV):Fl (.fv v)=true:=rfl
theorem AuV:Fl .nils=true:=rfl
theorem AtR (es:List FV):Fl (.clip es)=true:=rfl
theorem AuI:Fl .dead=true:=rfl
theorem At5 (cs:List IV) (ro:Bool):Ur (.row cs ro)=cs.all Fl:=rfl
theorem fb_2 (a b:Nat):Ur (.tok a b)=true:=rfl
end
def XD:=Aw9 @Aub<|Aw9 @nv1<|Aw9 @nv2<|Aw9 @nv3<|Aw9 @nv4<|Aw9 @nv5<|Aw9 @nv6<|Aw9 @nv7<|Aw9 @nv8<|Aw9 @nb1<|Aw9 @nb2<|Aw9 @AuC<|Aw9 @AtE<|Aw9 @AuL<|Aw9 @AuK<|Aw9 @AuV<|Aw9 @AtR<|Aw9 @AuI<|Aw9 @At5<|@fb_2
end Idl
end Go.Proofs.Ytkfecngimlcfoaa
namespace Go.Proofs.Ytkfecngimlcfoaa
namespace Idl
def Am (op:Int) (i:Nat):Nat :=
 if op=3∨op=4∨op=6∨op=20∨op=28∨op=29 then (if i=1 then 1 else 0) else if op=13 then (if i=0 then 1 else if i=2 then 2 else 0) else 0
theorem Bi (op:Int) (i:Nat):Am op i≤2:=by
 unfold Am
 repeat' split
 all_goals omega
theorem Eg {n:Nat} (hn:0<n) (op:Int) (i:Nat):BE (SS dt n 54 [iv op,iv i] ⟨[],[]⟩) (.int .i64 (Am op i)):=by
 obtain ⟨n,rfl⟩:∃k,n=k+1:=⟨n - 1,by omega⟩;rw [c54];unfold Am;by_cases h:op=3∨op=4∨op=6∨op=20∨op=28∨op=29
 ·rw [if_pos h];by_cases hi:i=1
  ·subst hi;rcases h with rfl | rfl | rfl | rfl | rfl | rfl<;>(simp only [↓UU3,↓XX,XY,↓reduceIte,Nat.reduceBEq,Nat.reduceAdd,Int.reduceEq,Int.reduceLT,Int.reduceLE];exact Ao _ _)
  ·have hi':¬ (i:Int)=1:=by omega
   rcases h with rfl | rfl | rfl | rfl | rfl | rfl<;>(simp only [↓UU3,↓XX,XY,↓reduceIte,Nat.reduceBEq,Nat.reduceAdd,Int.reduceEq,Int.reduceLT,Int.reduceLE,hi',hi];exact Ao _ _)
 ·rw [if_neg h];have h3:¬ op=3:=fun e=>h (by simp [e]);have h4:¬ op=4:=fun e=>h (by simp [e]);have h6:¬ op=6:=fun e=>h (by simp [e]);have h20:¬ op=20:=fun e=>h (by simp [e]);have h28:¬ op=28:=fun e=>h (by simp [e]);have h29:¬ op=29:=fun e=>h (by simp [e]);by_cases h13:op=13
  ·subst h13;by_cases hi:i=0
   ·subst hi;simp only [↓UU3,↓XX,XY,↓reduceIte,Nat.reduceBEq,Nat.reduceAdd,Int.reduceEq,Int.reduceLT,Int.reduceLE];exact Ao _ _
   ·have hi':¬ (i:Int)=0:=by omega
    by_cases hj:i=2
    ·subst hj;simp only [↓UU3,↓XX,XY,↓reduceIte,Nat.reduceBEq,Nat.reduceAdd,Int.reduceEq,Int.reduceLT,Int.reduceLE];exact Ao _ _
    ·have hj':¬ (i:Int)=2:=by omega
     simp only [↓UU3,↓XX,XY,↓reduceIte,Nat.reduceBEq,Nat.reduceAdd,Int.reduceEq,Int.reduceLT,Int.reduceLE,hi,hi',hj,hj'];exact Ao _ _
  ·simp only [↓UU3,↓XX,XY,↓reduceIte,Nat.reduceBEq,Nat.reduceAdd,Int.reduceEq,Int.reduceLT,Int.reduceLE,h3,h4,h6,h20,h28,h29,h13];exact Ao _ _
theorem Aqx {n:Nat} (hn:0<n) (x:Int):BE (SS dt n 25 [iv x] ⟨[],[]⟩) (Tm.mk 1 x []).enc:=by
 obtain ⟨n,rfl⟩:∃k,n=k+1:=⟨n - 1,by omega⟩;rw [c25];simp only [S25,↓XX,XY,↓reduceIte,Nat.reduceBEq,Nat.reduceAdd,Int.reduceEq,Int.reduceLT,Int.reduceLE];exact Ba rfl _
theorem Afk {n:Nat} (hn:0<n) (x:Int):BE (SS dt n 47 [iv x] ⟨[],[]⟩) (Tm.mk 2 x []).enc:=by
 obtain ⟨n,rfl⟩:∃k,n=k+1:=⟨n - 1,by omega⟩;rw [c47];simp only [S47,↓XX,XY,↓reduceIte,Nat.reduceBEq,Nat.reduceAdd,Int.reduceEq,Int.reduceLT,Int.reduceLE];exact Ba rfl _
theorem AdV {n:Nat} (hn:0<n) (x:Int):BE (SS dt n 26 [iv x] ⟨[],[]⟩) (Tm.mk 25 x []).enc:=by
 obtain ⟨n,rfl⟩:∃k,n=k+1:=⟨n - 1,by omega⟩;rw [c26];simp only [S26,↓XX,XY,↓reduceIte,Nat.reduceBEq,Nat.reduceAdd,Int.reduceEq,Int.reduceLT,Int.reduceLE];exact Ba rfl _
mutual
/-- No more than four kids anywhere. -/
def Tm.wk:Tm→Prop
 | .mk _ _ ks=>ks.length≤4∧Tm.wkL ks
def Tm.wkL:List Tm→Prop
 | []=>True
 | t::l=>t.wk∧Tm.wkL l
end
theorem SG {t:Tm}:∀{l:List Tm},Tm.wkL l→t∈l→t.wk
 | a::l,h,hm=>by
  rw [Tm.wkL] at h;rcases List.mem_cons.1 hm with rfl | hm
  ·exact h.1
  ·exact SG h.2 hm
mutual
def Tm.shift:Tm→Int→Int→Tm
 | .mk op n ks,d,c=>.mk op (if op=1∧c≤n then BA (n+d) else n) (Tm.shiftL op 0 ks d c)
def Tm.shiftL:Int→Nat→List Tm→Int→Int→List Tm
 | _,_,[],_,_=>[]
 | op,i,t::l,d,c=>t.shift d (c+Am op i)::Tm.shiftL op (i+1) l d c
end
theorem Ed (op:Int) (d c:Int):∀(l:List Tm) (i:Nat),(Tm.shiftL op i l d c).length=l.length
 | [],_=>rfl
 | _::l,i=>by simp only [Tm.shiftL,Axe,Ed op d c l]
theorem Ot (op d c:Int):∀(l l':List Tm) (i:Nat),Tm.shiftL op i (l++l') d c=Tm.shiftL op i l d c++Tm.shiftL op (i+l.length) l' d c
 | [],l',i=>by simp [Tm.shiftL]
 | t::l,l',i=>by simp only [List.cons_append,Tm.shiftL,Ot op d c l l',Axe];congr 3;omega
theorem Db:∀(n:Nat) (t:Tm) (d c:Int),t.wt+1<n→t.wk→0≤c→c+2 * t.wt≤4611686018427387904→BE (SS dt n 45 [.fv t.enc,iv d,iv c] ⟨[],[]⟩) (t.shift d c).enc:=by
 intro n
 induction n with
 | zero=>intro t d c h;omega
 | succ n ih =>
  intro t d c h hw hc0 hc;obtain ⟨op,m,ks⟩:=t;simp only [Tm.wt] at h hc;rw [Tm.wk] at hw;rw [c45,An];have hlen:=EW ks;have main:∀m',m'=(if op=1∧c≤m then BA (m+d) else m) →
    BE (By n (fun q28 l29 h30=>IC l29 h30 (SS dt n) ⟨[],[]⟩ q28) [iv d,iv c,.ptr (.own 47185920) 0,.ptr (.own 47185921) 0,.ptr (.own 47186949) 0,iv 0]
     ⟨[(47185920,.row [iv op,iv m,.fv (.sl (ks.map Tm.enc))] false),(47185921,.row [iv 0,iv 0,.nils] false),(47186949,.row [iv op,iv m',.nils] false)],[]⟩) ((Tm.mk op m ks).shift d c).enc:=by
   intro m' hm';refine Bb (Q:=fun r=>BE r _) (fun k V H=>∃pre rest,ks=pre++rest∧rest.length=k∧V=[iv d,iv c,.ptr (.own 47185920) 0,.ptr (.own 47185921) 0,.ptr (.own 47186949) 0,iv pre.length] ∧
    (
     (pre=[]∧H=⟨[(47185920,.row [iv op,iv m,.fv (.sl (ks.map Tm.enc))] false),(47185921,.row [iv 0,iv 0,.nils] false),(47186949,.row [iv op,iv m',.nils] false)],[]⟩) ∨
     (pre≠[]∧H=⟨[(47185920,.row [iv op,iv m,.fv (.sl (ks.map Tm.enc))] false),(47185921,.row [iv 0,iv 0,.nils] false),(47186949,.row [iv op,iv m',.app (.own 47193104) ((Tm.shiftL op 0 pre d c).map Tm.enc)] false),(47193104,.tok (Tm.shiftL op 0 pre d c).length 3)],[]⟩)))
    ?_ n ks.length _ _ (by omega) ⟨[],ks,rfl,rfl,rfl,.inl ⟨rfl,rfl⟩⟩
   rintro k V H rec ⟨pre,rest,hk,hl,rfl,hH⟩ hrec;have hkl:ks.length=pre.length+rest.length:=by rw [hk];simp
   cases rest with
   | nil =>
    have hno:¬ ((pre.length:Int)<ks.length):=by rw [hkl];simp
    have hpre:ks=pre:=by simpa using hk
    rcases hH with ⟨rfl,rfl⟩ | ⟨_,rfl⟩
    ·subst hpre;simp only [F7,F4,FZ,F5,Gn,Gd,Gm,Ge,IC,FQ,Gh,F9,Gj,Gg,S45,↓XX,XY,↓reduceIte,Nat.reduceBEq,Nat.reduceAdd,Int.reduceEq,Int.reduceLT,Int.reduceLE,Int.lt_irrefl,Tm.shift,Tm.shiftL,← hm',An];exact Ba rfl _
    ·subst hpre;simp only [F7,F4,FZ,F5,Gn,Gd,Gm,Ge,IC,FQ,Gh,F9,Gj,Gg,S45,↓XX,XY,↓reduceIte,Nat.reduceBEq,Nat.reduceAdd,Int.reduceEq,Int.reduceLT,Int.reduceLE,Int.lt_irrefl,Tm.shift,← hm',An];exact Ba rfl _
   | cons t rest =>
    have hi:(pre.length:Int)<ks.length:=by rw [hkl];simp;omega
    have hg:=Cu hk;have htw:=CX (t:=t) (l:=ks) (by rw [hk];simp);have hb:=Eg (n:=n) (by omega) op pre.length;have hble:=Bi op pre.length;have hs:=ih t d (c+Am op pre.length) (by omega) (SG hw.2 (by rw [hk];simp)) (by omega) (by omega);have hx:Tm.shiftL op 0 (pre++[t]) d c=Tm.shiftL op 0 pre d c++[t.shift d (c+Am op pre.length)]:=by
     rw [Ot];simp [Tm.shiftL]
    have hwc:BA (c+Am op pre.length)=c+Am op pre.length:=by rw [Ax]<;>omega
    have hwi:BA ((pre.length:Int)+1)=((pre++[t]).length:Int):=(Ax (by omega) (by omega)).trans (by simp);generalize hu:t.shift d (c+Am op pre.length)=u at hs hx;obtain ⟨o,p,l⟩:=t;simp only [Axe] at hl;rw [An] at hs;rcases hH with ⟨hp0,rfl⟩ | ⟨hne,rfl⟩
    ·simp only [F7,F4,FZ,F5,Gn,Gd,Gm,Ge,IC,FQ,Gh,F9,Gj,Gg,S45,↓XX,XY,↓reduceIte,Nat.reduceBEq,Nat.reduceAdd,Int.reduceEq,Int.reduceLT,Int.reduceLE,hi,↓Bz (AQ hg) (Bg _ _ _),↓Cb,↓Aj hb,hwc,hwi,↓AZ hs,↓Jn,↓SD,↓AJ,XD,heldB,AL,XE];refine hrec rest.length _ _ (by omega) ?_;refine ⟨pre++[.mk o p l],rest,by rw [hk];simp,rfl,rfl,.inr ⟨by simp,?_⟩⟩;rw [hx,hp0];rfl
    ·have hle:(Tm.shiftL op 0 pre d c).length+1≤1000000:=by rw [Ed];omega
     have hq:(Tm.shiftL op 0 pre d c).length=pre.length:=Ed ..;simp only [F7,F4,FZ,F5,Gn,Gd,Gm,Ge,IC,FQ,Gh,F9,Gj,Gg,S45,↓XX,XY,↓reduceIte,Nat.reduceBEq,Nat.reduceAdd,Int.reduceEq,Int.reduceLT,Int.reduceLE,hi,↓Bz (AQ hg) (Bg _ _ _),↓Cb,↓Aj hb,hwc,hwi,↓AZ hs,↓Jn,↓MD hle,↓Hd,↓AJ,XD,heldB,AL,XE];refine hrec rest.length _ _ (by omega) ?_;refine ⟨pre++[.mk o p l],rest,by rw [hk];simp,rfl,rfl,.inr ⟨by simp,?_⟩⟩;rw [hx];simp only [List.length_append,Axe,List.length_nil]
  by_cases h1:op=1
  ·by_cases h2:c≤m
   ·subst h1;simp only [F7,F4,FZ,F5,Gn,Gd,Gm,Ge,FQ,Gh,F9,Gj,Gg,S45,↓XX,XY,↓reduceIte,Nat.reduceBEq,Nat.reduceAdd,Int.reduceEq,Int.reduceLT,Int.reduceLE,h2,↓AJ,XD,heldB,AL,XE];exact main _ (by simp [h2])
   ·subst h1;simp only [F7,F4,FZ,F5,Gn,Gd,Gm,Ge,FQ,Gh,F9,Gj,Gg,S45,↓XX,XY,↓reduceIte,Nat.reduceBEq,Nat.reduceAdd,Int.reduceEq,Int.reduceLT,Int.reduceLE,h2,↓AJ,XD,heldB,AL,XE];exact main _ (by simp [h2])
  ·simp only [F7,F4,FZ,F5,Gn,Gd,Gm,Ge,FQ,Gh,F9,Gj,Gg,S45,↓XX,XY,↓reduceIte,Nat.reduceBEq,Nat.reduceAdd,Int.reduceEq,Int.reduceLT,Int.reduceLE,h1,↓AJ,XD,heldB,AL,XE];exact main _ (by simp [h1])
mutual
def Tm.subst:Tm→Int→Int→Tm→Tm
 | .mk op m ks,n,d,u=>if op=1 then (if m=n then u.shift d 0 else if n<m then .mk 1 (BA (m - 1)) [] else .mk op m ks) else .mk op m (Tm.substL op 0 ks n d u)
def Tm.substL:Int→Nat→List Tm→Int→Int→Tm→List Tm
 | _,_,[],_,_,_=>[]
 | op,i,t::l,n,d,u=>t.subst (n+Am op i) (d+Am op i) u::Tm.substL op (i+1) l n d u
end
theorem GV (op n d:Int) (u:Tm):∀(l:List Tm) (i:Nat),(Tm.substL op i l n d u).length=l.length
 | [],_=>rfl
 | _::l,i=>by simp only [Tm.substL,Axe,GV op n d u l]
theorem NA (op n d:Int) (u:Tm):∀(l l':List Tm) (i:Nat),Tm.substL op i (l++l') n d u=Tm.substL op i l n d u++Tm.substL op (i+l.length) l' n d u
 | [],l',i=>by simp [Tm.substL]
 | t::l,l',i=>by simp only [List.cons_append,Tm.substL,NA op n d u l l',Axe];congr 3;omega
theorem AdF (u:Tm) (hu:u.wk) (huw:u.wt≤1152921504606846976):∀(n:Nat) (t:Tm) (c d:Int),t.wt+u.wt+3<n→t.wk→-1000000000≤c→c+2 * t.wt≤461168601842738→0≤d→d+2 * t.wt≤461168601842738 →
  BE (SS dt n 90 [.fv t.enc,iv c,iv d,.fv u.enc] ⟨[],[]⟩) (t.subst c d u).enc:=by
 intro n
 induction n with
 | zero=>intro t c d h;omega
 | succ n ih =>
  intro t c d h hw hc0 hc hd0 hd;obtain ⟨op,m,ks⟩:=t;simp only [Tm.wt] at h hc hd;rw [Tm.wk] at hw;rw [c90,An];have hlen:=EW ks;by_cases h1:op=1
  ·subst h1;have hsh:=Db n u d 0 (by omega) hu (by omega) (by omega);rw [Tm.subst,if_pos rfl];generalize u.shift d 0=z at hsh ⊢;obtain ⟨uo,un,uk⟩:=u;obtain ⟨zo,zn,zk⟩:=z;rw [An] at hsh ⊢;by_cases h2:m=c
   ·subst h2;simp only [↓UU2,↓XX,XY,↓reduceIte,Nat.reduceBEq,Nat.reduceAdd,Int.reduceEq,Int.reduceLT,Int.reduceLE,↓AZ hsh];simp only [↓UU2,↓XX,XY,↓reduceIte,Nat.reduceBEq,Nat.reduceAdd,Int.reduceEq,Int.reduceLT,Int.reduceLE,An];exact Ba rfl _
   ·by_cases h3:c<m
    ·simp only [↓UU2,↓XX,XY,↓reduceIte,Nat.reduceBEq,Nat.reduceAdd,Int.reduceEq,Int.reduceLT,Int.reduceLE,h2,h3,An];exact Ba rfl _
    ·simp only [↓UU2,↓XX,XY,↓reduceIte,Nat.reduceBEq,Nat.reduceAdd,Int.reduceEq,Int.reduceLT,Int.reduceLE,h2,h3,An];exact Ba rfl _
  ·have main :
    BE (By n (fun q l h=>IE l h (SS dt n) ⟨[],[]⟩ q) [iv c,iv d,.ptr (.own 94371840) 0,.ptr (.own 94371841) 0,.ptr (.own 94371842) 0,.ptr (.own 94379013) 0,iv 0]
     ⟨[(94371840,.row [iv op,iv m,.fv (.sl (ks.map Tm.enc))] false),(94371841,.row [iv u.op,iv u.n,.fv (.sl (u.kids.map Tm.enc))] false),(94371842,.row [iv 0,iv 0,.nils] false),(94379013,.row [iv op,iv m,.nils] false)],[]⟩)
      (Tm.mk op m (Tm.substL op 0 ks c d u)).enc:=by
    refine Bb (Q:=fun r=>BE r _) (fun k V H=>∃pre rest,ks=pre++rest∧rest.length=k∧V=[iv c,iv d,.ptr (.own 94371840) 0,.ptr (.own 94371841) 0,.ptr (.own 94371842) 0,.ptr (.own 94379013) 0,iv pre.length] ∧
     (
      (pre=[]∧H=⟨[(94371840,.row [iv op,iv m,.fv (.sl (ks.map Tm.enc))] false),(94371841,.row [iv u.op,iv u.n,.fv (.sl (u.kids.map Tm.enc))] false),(94371842,.row [iv 0,iv 0,.nils] false),(94379013,.row [iv op,iv m,.nils] false)],[]⟩) ∨
      (
      pre≠[]∧H=⟨[(94371840,.row [iv op,iv m,.fv (.sl (ks.map Tm.enc))] false),(94371841,.row [iv u.op,iv u.n,.fv (.sl (u.kids.map Tm.enc))] false),(94371842,.row [iv 0,iv 0,.nils] false),
      (94379013,.row [iv op,iv m,.app (.own 94384144) ((Tm.substL op 0 pre c d u).map Tm.enc)] false),(94384144,.tok (Tm.substL op 0 pre c d u).length 3)],[]⟩)))
     ?_ n ks.length _ _ (by omega) ⟨[],ks,rfl,rfl,rfl,.inl ⟨rfl,rfl⟩⟩
    rintro k V H rec ⟨pre,rest,hk,hl,rfl,hH⟩ hrec;have hkl:ks.length=pre.length+rest.length:=by rw [hk];simp
    cases rest with
    | nil =>
     have hno:¬ ((pre.length:Int)<ks.length):=by rw [hkl];simp
     have hpre:ks=pre:=by simpa using hk
     rcases hH with ⟨rfl,rfl⟩ | ⟨_,rfl⟩
     ·subst hpre;simp only [Ia,IS,I0,IJ,Ip,H5,HJ,Ir,Iy,IZ,H0,H9,Ii,IE,IU,H1,Ig,S90,↓XX,XY,↓reduceIte,Nat.reduceBEq,Nat.reduceAdd,Int.reduceEq,Int.reduceLT,Int.reduceLE,Int.lt_irrefl,Tm.substL,An];exact Ba rfl _
     ·subst hpre;simp only [Ia,IS,I0,IJ,Ip,H5,HJ,Ir,Iy,IZ,H0,H9,Ii,IE,IU,H1,Ig,S90,↓XX,XY,↓reduceIte,Nat.reduceBEq,Nat.reduceAdd,Int.reduceEq,Int.reduceLT,Int.reduceLE,Int.lt_irrefl,An];exact Ba rfl _
    | cons t rest =>
     have hi:(pre.length:Int)<ks.length:=by rw [hkl];simp;omega
     have hg:=Cu hk;have htw:=CX (t:=t) (l:=ks) (by rw [hk];simp);have hb:=Eg (n:=n) (by omega) op pre.length;have hble:=Bi op pre.length;have hs:=ih t (c+Am op pre.length) (d+Am op pre.length) (by omega) (SG hw.2 (by rw [hk];simp)) (by omega) (by omega) (by omega) (by omega);have hx:Tm.substL op 0 (pre++[t]) c d u=Tm.substL op 0 pre c d u++[t.subst (c+Am op pre.length) (d+Am op pre.length) u]:=by
      rw [NA];simp [Tm.substL]
     have hwc:BA (c+Am op pre.length)=c+Am op pre.length:=by rw [Ax]<;>omega
     have hwd:BA (d+Am op pre.length)=d+Am op pre.length:=by rw [Ax]<;>omega
     have hwi:BA ((pre.length:Int)+1)=((pre++[t]).length:Int):=(Ax (by omega) (by omega)).trans (by simp);generalize hv:t.subst (c+Am op pre.length) (d+Am op pre.length) u=v at hs hx;obtain ⟨o,p,l⟩:=t;simp only [Axe] at hl;have hue:u.enc=.agg [.int .i64 u.op,.int .i64 u.n,.sl (u.kids.map Tm.enc)]:=by cases u;exact An ..
     rw [An,hue] at hs;rcases hH with ⟨hp0,rfl⟩ | ⟨hne,rfl⟩
     ·simp only [Ia,IS,I0,IJ,Ip,H5,HJ,Ir,Iy,IZ,H0,H9,Ii,IE,IU,H1,Ig,S90,↓XX,XY,↓reduceIte,Nat.reduceBEq,Nat.reduceAdd,Int.reduceEq,Int.reduceLT,Int.reduceLE,hi,↓Bz (AQ hg) (Bg _ _ _),↓Cb,↓Aj hb,hwc,hwd,hwi,↓AK hs,↓Jn,↓SD,↓AJ,XD,heldB,AL,XE];refine hrec rest.length _ _ (by omega) ?_;refine ⟨pre++[.mk o p l],rest,by rw [hk];simp,rfl,rfl,.inr ⟨by simp,?_⟩⟩;rw [hx,hp0];rfl
     ·have hle:(Tm.substL op 0 pre c d u).length+1≤1000000:=by rw [GV];omega
      simp only [Ia,IS,I0,IJ,Ip,H5,HJ,Ir,Iy,IZ,H0,H9,Ii,IE,IU,H1,Ig,S90,↓XX,XY,↓reduceIte,Nat.reduceBEq,Nat.reduceAdd,Int.reduceEq,Int.reduceLT,Int.reduceLE,hi,↓Bz (AQ hg) (Bg _ _ _),↓Cb,↓Aj hb,hwc,hwd,hwi,↓AK hs,↓Jn,↓MD hle,↓Hd,↓AJ,XD,heldB,AL,XE];refine hrec rest.length _ _ (by omega) ?_;refine ⟨pre++[.mk o p l],rest,by rw [hk];simp,rfl,rfl,.inr ⟨by simp,?_⟩⟩;rw [hx];simp only [List.length_append,Axe,List.length_nil]
   rw [Tm.subst,if_neg h1];obtain ⟨uo,un,uk⟩:=u;rw [An (op:=uo)];simp only [↓UU2,↓XX,XY,↓reduceIte,Nat.reduceBEq,Nat.reduceAdd,Int.reduceEq,Int.reduceLT,Int.reduceLE,h1,↓AJ,XD,heldB,AL,XE];exact main
theorem Tl {n:Nat} (t u:Tm) (c:Int) (hu:u.wk) (huw:u.wt≤1152921504606846976) (h:t.wt+u.wt+4<n) (hw:t.wk) (hww:t.wt≤100000000000000) (h0:-1000000000≤c) (hc:c+2 * t.wt≤461168601842738) :
  BE (SS dt n 67 [.fv t.enc,iv c,.fv u.enc] ⟨[],[]⟩) (t.subst c 0 u).enc:=by
 obtain ⟨n,rfl⟩:∃k,n=k+1:=⟨n - 1,by omega⟩;rw [c67];have hs:=AdF u hu huw n t c 0 (by omega) hw h0 hc (by omega) (by omega);generalize t.subst c 0 u=v at hs ⊢;obtain ⟨o1,n1,k1⟩:=t;obtain ⟨o2,n2,k2⟩:=u;obtain ⟨o3,n3,k3⟩:=v;simp only [An] at hs ⊢;simp only [AgX,S67,↓XX,XY,↓reduceIte,Nat.reduceBEq,Nat.reduceAdd,Int.reduceEq,Int.reduceLT,Int.reduceLE,↓AK hs];exact Ba rfl _
mutual
def Tm.free:Tm→Int→Bool
 | .mk op m ks,c=>if op=1 then decide (m=c) else Tm.freeL op 0 ks c
def Tm.freeL:Int→Nat→List Tm→Int→Bool
 | _,_,[],_=>false
 | op,i,t::l,c=>t.free (c+Am op i) || Tm.freeL op (i+1) l c
end
theorem Amc:∀(n:Nat) (t:Tm) (c:Int),t.wt+1<n→t.wt≤1152921504606846976→-1000000000≤c→c+2 * t.wt≤461168601842738→BE (SS dt n 107 [.fv t.enc,iv c] ⟨[],[]⟩) (.bool (t.free c)):=by
 intro n
 induction n with
 | zero=>intro t c h;omega
 | succ n ih =>
  intro t c h hw hc0 hc;obtain ⟨op,m,ks⟩:=t;simp only [Tm.wt] at h hw hc;rw [AtI,An];have hlen:=EW ks;by_cases h1:op=1
  ·subst h1;rw [Tm.free,if_pos rfl];simp only [IB,IK,IQ,Iz,ID,Sp,↓XX,XY,↓reduceIte,Nat.reduceBEq,Nat.reduceAdd,Int.reduceEq,Int.reduceLT,Int.reduceLE];exact Ao _ _
  ·rw [Tm.free,if_neg h1];simp only [IB,IK,IQ,Iz,ID,Sp,↓XX,XY,↓reduceIte,Nat.reduceBEq,Nat.reduceAdd,Int.reduceEq,Int.reduceLT,Int.reduceLE,h1];refine Bb (Q:=fun r=>BE r _) (fun k V H=>∃pre rest,ks=pre++rest∧rest.length=k∧V=[iv c,.ptr (.own 112197632) 0,iv pre.length]∧H=⟨[(112197632,.row [iv op,iv m,.fv (.sl (ks.map Tm.enc))] false)],[]⟩∧Tm.freeL op pre.length rest c=Tm.freeL op 0 ks c)
    ?_ n ks.length _ _ (by omega) ⟨[],ks,rfl,rfl,rfl,rfl,rfl⟩
   rintro k V H rec ⟨pre,rest,hk,hl,rfl,rfl,ht⟩ hrec;have hkl:ks.length=pre.length+rest.length:=by rw [hk];simp
   cases rest with
   | nil =>
    have hno:¬ ((pre.length:Int)<ks.length):=by rw [hkl];simp
    rw [← ht];simp only [IB,IK,IQ,Iz,ID,MK,Sp,↓XX,XY,↓reduceIte,Nat.reduceBEq,Nat.reduceAdd,Int.reduceEq,Int.reduceLT,Int.reduceLE,hno,Tm.freeL];exact Ao _ _
   | cons t rest =>
    have hi:(pre.length:Int)<ks.length:=by rw [hkl];simp;omega
    have hg:=Cu hk;have htw:=CX (t:=t) (l:=ks) (by rw [hk];simp);have hb:=Eg (n:=n) (by omega) op pre.length;have hble:=Bi op pre.length;have hs:=ih t (c+Am op pre.length) (by omega) (by omega) (by omega) (by omega);have hwc:BA (c+Am op pre.length)=c+Am op pre.length:=by rw [Ax]<;>omega
    have hwi:BA ((pre.length:Int)+1)=((pre++[t]).length:Int):=(Ax (by omega) (by omega)).trans (by simp);simp only [Tm.freeL] at ht;generalize t.free (c+Am op pre.length)=v at hs ht;obtain ⟨o,p,l⟩:=t;simp only [Axe] at hl;rw [An] at hs;cases v
    ·simp only [IB,IK,IQ,Iz,ID,MK,Sp,↓XX,XY,↓reduceIte,Nat.reduceBEq,Nat.reduceAdd,Int.reduceEq,Int.reduceLT,Int.reduceLE,hi,↓Bz (AQ hg) (Bg _ _ _),↓Cb,↓Aj hb,hwc,hwi,↓Aj hs];refine hrec rest.length _ _ (by omega) ?_;exact ⟨pre++[.mk o p l],rest,by rw [hk];simp,rfl,rfl,rfl,by simpa using ht⟩
    ·rw [← ht];simp only [IB,IK,IQ,Iz,ID,MK,Sp,↓XX,XY,↓reduceIte,Nat.reduceBEq,Nat.reduceAdd,Int.reduceEq,Int.reduceLT,Int.reduceLE,hi,↓Bz (AQ hg) (Bg _ _ _),↓Cb,↓Aj hb,hwc,hwi,↓Aj hs,Bool.true_or];exact Ao _ _
mutual
def Tm.same:Tm→Tm→Bool
 | .mk o n l,.mk o' n' l'=>decide (o=o') && (decide (n=n') && (decide (l.length=l'.length) && Tm.sameL l l'))
def Tm.sameL:List Tm→List Tm→Bool
 | a::l,b::l'=>a.same b && Tm.sameL l l'
 | _,_=>true
end
mutual
theorem QY:∀a b:Tm,a.same b=true ↔ a=b
 | .mk o n l,.mk o' n' l'=>by
  simp only [Tm.same,Bool.and_eq_true,decide_eq_true_eq,Tm.mk.injEq];constructor
  ·rintro ⟨rfl,rfl,h1,h2⟩;exact ⟨rfl,rfl,(sameL_eq l l' h1).1 h2⟩
  ·rintro ⟨rfl,rfl,rfl⟩;exact ⟨rfl,rfl,rfl,(sameL_eq l l rfl).2 rfl⟩
theorem sameL_eq:∀l l':List Tm,l.length=l'.length→(Tm.sameL l l'=true ↔ l=l')
 | [],[],_=>by simp [Tm.sameL]
 | a::l,b::l',h=>by
  simp only [Tm.sameL,Bool.and_eq_true,List.cons.injEq,QY a b,sameL_eq l l' (by simpa using h)]
end
theorem MA:∀(n:Nat) (a b:Tm),a.wt+1<n→a.wt≤1152921504606846976→BE (SS dt n 17 [.fv a.enc,.fv b.enc] ⟨[],[]⟩) (.bool (a.same b)):=by
 intro n
 induction n with
 | zero=>intro a b h;omega
 | succ n ih =>
  intro a b h hw;obtain ⟨op,m,ks⟩:=a;obtain ⟨op',m',ks'⟩:=b;simp only [Tm.wt] at h hw;rw [c17,An,An];have hlen:=EW ks;rw [Tm.same];by_cases h1:op=op'
  ·by_cases h2:m=m'
   ·by_cases h3:ks.length=ks'.length
    ·have h3':(ks.length:Int)=ks'.length:=by omega
     subst h1 h2;simp only [FR,Gp,Gq,FU,FW,Gb,F6,Gf,Gi,S17,↓XX,XY,↓reduceIte,Nat.reduceBEq,Nat.reduceAdd,Int.reduceEq,Int.reduceLT,Int.reduceLE,h3,h3',Tm.same];refine Bb (Q:=fun r=>BE r _) (fun k V H=>∃pre rest pre' rest',ks=pre++rest∧ks'=pre'++rest'∧pre.length=pre'.length∧rest.length=k∧V=[.ptr (.own 17825792) 0,.ptr (.own 17825793) 0,iv pre.length] ∧
      H=⟨[(17825792,.row [iv op,iv m,.fv (.sl (ks.map Tm.enc))] false),(17825793,.row [iv op,iv m,.fv (.sl (ks'.map Tm.enc))] false)],[]⟩∧Tm.sameL rest rest'=Tm.sameL ks ks')
      ?_ n ks.length _ _ (by omega) ⟨[],ks,[],ks',rfl,rfl,rfl,rfl,rfl,rfl,rfl⟩
     rintro k V H rec ⟨pre,rest,pre',rest',hk,hk',hpl,hl,rfl,rfl,ht⟩ hrec;have hkl:ks.length=pre.length+rest.length:=by rw [hk];simp
     have hkl':ks'.length=pre'.length+rest'.length:=by rw [hk'];simp
     cases rest with
     | nil =>
      have hno:¬ ((pre.length:Int)<ks.length):=by rw [hkl];simp
      rw [← ht];simp only [FR,Gp,Gq,FU,FW,MJ,Gb,F6,Gf,Gi,S17,↓XX,XY,↓reduceIte,Nat.reduceBEq,Nat.reduceAdd,Int.reduceEq,Int.reduceLT,Int.reduceLE,hno,Tm.sameL];exact Ao _ _
     | cons t rest =>
      cases rest' with
      | nil=>simp at hkl hkl';omega
      | cons t' rest' =>
       have hi:(pre.length:Int)<ks.length:=by rw [hkl];simp;omega
       have hg:=Cu hk;have hg':=Cu hk';rw [← hpl] at hg';have htw:=CX (t:=t) (l:=ks) (by rw [hk];simp);have hs:=ih t t' (by omega) (by omega);have hwi:BA ((pre.length:Int)+1)=((pre++[t]).length:Int):=(Ax (by omega) (by omega)).trans (by simp);simp only [Tm.sameL] at ht;generalize t.same t'=v at hs ht;obtain ⟨o,p,l⟩:=t;obtain ⟨o',p',l'⟩:=t';simp only [Axe] at hl;rw [An,An] at hs;cases v
       ·rw [← ht];simp only [FR,Gp,Gq,FU,FW,MJ,Gb,F6,Gf,Gi,S17,↓XX,XY,↓reduceIte,Nat.reduceBEq,Nat.reduceAdd,Int.reduceEq,Int.reduceLT,Int.reduceLE,hi,↓Bz (AQ hg) (Bg _ _ _),↓Bz (AQ hg') (Bg _ _ _),↓Cb,↓Aj hs,Bool.false_and];exact Ao _ _
       ·simp only [FR,Gp,Gq,FU,FW,MJ,Gb,F6,Gf,Gi,S17,↓XX,XY,↓reduceIte,Nat.reduceBEq,Nat.reduceAdd,Int.reduceEq,Int.reduceLT,Int.reduceLE,hi,↓Bz (AQ hg) (Bg _ _ _),↓Bz (AQ hg') (Bg _ _ _),↓Cb,hwi,↓Aj hs];refine hrec rest.length _ _ (by omega) ?_;exact ⟨pre++[.mk o p l],rest,pre'++[.mk o' p' l'],rest',by rw [hk];simp,by rw [hk'];simp,by simp [hpl],rfl,rfl,rfl,by simpa using ht⟩
    ·have h3':¬ (ks.length:Int)=ks'.length:=by omega
     simp only [FR,Gp,Gq,FU,FW,Gb,F6,Gf,Gi,S17,↓XX,XY,↓reduceIte,Nat.reduceBEq,Nat.reduceAdd,Int.reduceEq,Int.reduceLT,Int.reduceLE,h1,h2,h3,h3'];exact Ao _ _
   ·simp only [FR,Gp,Gq,FU,FW,Gb,F6,Gf,Gi,S17,↓XX,XY,↓reduceIte,Nat.reduceBEq,Nat.reduceAdd,Int.reduceEq,Int.reduceLT,Int.reduceLE,h1,h2];exact Ao _ _
  ·simp only [FR,Gp,Gq,FU,FW,Gb,F6,Gf,Gi,S17,↓XX,XY,↓reduceIte,Nat.reduceBEq,Nat.reduceAdd,Int.reduceEq,Int.reduceLT,Int.reduceLE,h1];exact Ao _ _
theorem Ali (o p:Int) (l:List Tm) (s:Nat) (h:Hp) (k:IV→Hp→List Ref→List Ref→Option (IV×Hp)):Ay (Ak EE 28 1 [(0,.fv (.agg [.int .i64 o,.int .i64 p,.sl (l.map Tm.enc)]))]) s h k=k (.clip [.agg [.int .i64 o,.int .i64 p,.sl (l.map Tm.enc)]]) h [] []:=by
 have:=Jn (.mk o p l) s h k
 rw [An] at this;exact this
def Q9 (o:Option (IV×Hp)):Bool:=match o with
 | some (.fv (.bool b),⟨_,[]⟩)=>b
 | _=>false
theorem Acw {o:Option (IV×Hp)} (h:Q9 o=true):BE o (.bool true):=by
 unfold Q9 at h;split at h
 ·subst h;exact Ao _ _
 ·cases h
theorem D4 (o1 n1 o2 n2:Int) (k1 k2:List FV) (s:Nat) (h:Hp) (k:IV→Hp→List Ref→List Ref→Option (IV×Hp)):Ay (Ak EE 28 2 [(0,.fv (.agg [.int .i64 o1,.int .i64 n1,.sl k1])),(1,.fv (.agg [.int .i64 o2,.int .i64 n2,.sl k2]))]) s h k =
  k (.clip [.agg [.int .i64 o1,.int .i64 n1,.sl k1],.agg [.int .i64 o2,.int .i64 n2,.sl k2]]) h [] []:=Cl TN tTm (by decide) (cells:=[.int .i64 o1,.int .i64 n1,.sl k1,.int .i64 o2,.int .i64 n2,.sl k2]) rfl k
theorem Ks (o1 n1 o2 n2 o3 n3:Int) (k1 k2 k3:List FV) (s:Nat) (h:Hp) (k:IV→Hp→List Ref→List Ref→Option (IV×Hp)):Ay (Ak EE 28 3 [(0,.fv (.agg [.int .i64 o1,.int .i64 n1,.sl k1])),(1,.fv (.agg [.int .i64 o2,.int .i64 n2,.sl k2])),(2,.fv (.agg [.int .i64 o3,.int .i64 n3,.sl k3]))]) s h k =
  k (.clip [.agg [.int .i64 o1,.int .i64 n1,.sl k1],.agg [.int .i64 o2,.int .i64 n2,.sl k2],.agg [.int .i64 o3,.int .i64 n3,.sl k3]]) h [] []:=Cl TN tTm (by decide) (cells:=[.int .i64 o1,.int .i64 n1,.sl k1,.int .i64 o2,.int .i64 n2,.sl k2,.int .i64 o3,.int .i64 n3,.sl k3]) rfl k
theorem Aro (o1 n1 o2 n2 o3 n3 o4 n4:Int) (k1 k2 k3 k4:List FV) (s:Nat) (h:Hp) (k:IV→Hp→List Ref→List Ref→Option (IV×Hp)):Ay (Ak EE 28 4 [(0,.fv (.agg [.int .i64 o1,.int .i64 n1,.sl k1])),(1,.fv (.agg [.int .i64 o2,.int .i64 n2,.sl k2])),(2,.fv (.agg [.int .i64 o3,.int .i64 n3,.sl k3])),(3,.fv (.agg [.int .i64 o4,.int .i64 n4,.sl k4]))]) s h k =
  k (.clip [.agg [.int .i64 o1,.int .i64 n1,.sl k1],.agg [.int .i64 o2,.int .i64 n2,.sl k2],.agg [.int .i64 o3,.int .i64 n3,.sl k3],.agg [.int .i64 o4,.int .i64 n4,.sl k4]]) h [] []:=Cl TN tTm (by decide) (cells:=[.int .i64 o1,.int .i64 n1,.sl k1,.int .i64 o2,.int .i64 n2,.sl k2,.int .i64 o3,.int .i64 n3,.sl k3,.int .i64 o4,.int .i64 n4,.sl k4]) rfl k
theorem D1 (o1 n1:Int) (k1:List FV) (s:Nat) (h:Hp) (k:IV→Hp→List Ref→List Ref→Option (IV×Hp)):Ay (Ak EE 28 1 [(0,.fv (.agg [.int .i64 o1,.int .i64 n1,.sl k1]))]) s h k =
  k (.clip [.agg [.int .i64 o1,.int .i64 n1,.sl k1]]) h [] []:=Cl TN tTm (by decide) (cells:=[.int .i64 o1,.int .i64 n1,.sl k1]) rfl k
def Ar3 (r:Option (IV×Hp)) (v:FV):Prop:=∃own,r=some (.fv v,⟨own,[]⟩)
theorem Acq {v:FV} {own:List (Nat×Blk)}:Ar3 (some (.fv v,⟨own,[]⟩)) v:=⟨own,rfl⟩
def Hu:Nat→Tm
 | 0=>.mk 11 0 []
 | n+1=>.mk 12 0 [Hu n]
theorem Arx {g:FuncId} (h:EE.pol.inl g=false) (h1:EE.pol.keep g=[]) (h2:EE.pol.split g=false) (h3:EE.pol.raw g=false) (ih:Aa) (xs:List IV) (h0:Hp) (k:IV→Hp→List Ref→List Ref→Option (IV×Hp)) :
  Fs EE ih (.fv (.func (.func g) [] [])) xs h0 k=Ah [] false false ih g xs h0 k:=by
 unfold Fs;simp only [callee,h,cond_false,AdP,h1,h2,h3,Axf,List.nil_append,List.append_nil]
theorem AqL {n:Nat} (k:Nat) (hn:k+3<n) (hk:k≤1000000):BE (SS dt n 27 [iv k] ⟨[],[]⟩) (Hu k).enc:=by
 obtain ⟨n,rfl⟩:∃j,n=j+1:=⟨n - 1,by omega⟩;rw [c27];have h0:=D3 (n:=n) (by omega) 11;rw [An] at h0;simp only [Sx,RI,QT,S27,↓XX,XY,↓reduceIte,Nat.reduceBEq,Nat.reduceAdd,Int.reduceEq,Int.reduceLT,Int.reduceLE,↓Aj h0];refine Bb (Q:=fun r=>BE r _) (fun j V H=>∃(i:Nat),i+j=k∧V=[iv k,.ptr (.own 28311552) 0,.ptr (.own 28312577) 0,iv i] ∧
   H=⟨[(28311552,.row [iv 0,iv 0,.nils] false),(28312577,.row [iv (Hu i).op,iv (Hu i).n,.fv (.sl ((Hu i).kids.map Tm.enc))] false)],[]⟩) ?_ n k _ _ (by omega) ⟨0,by omega,rfl,rfl⟩
 rintro j V H rec ⟨i,hi,rfl,rfl⟩ hrec;cases j with
 | zero =>
  have:i=k:=by omega
  subst this;have hno:¬ ((i:Int)<i):=by omega
  generalize Hu i=t;obtain ⟨o,p,l⟩:=t;rw [An];simp only [Sx,RI,QT,Uz,S27,↓XX,XY,↓reduceIte,Nat.reduceBEq,Nat.reduceAdd,Int.reduceEq,Int.reduceLT,Int.reduceLE,hno,Tm.op,Tm.n,Tm.kids];exact Ao _ _
 | succ j =>
  have hlt:(i:Int)<k:=by omega
  have hw:BA ((i:Int)+1)=((i+1:Nat):Int):=(Ax (by omega) (by omega)).trans (by simp);have ht:=C4 (n:=n) (by omega) 12 [Hu i];have h9:=hrec j ([iv k,.ptr (.own 28311552) 0,.ptr (.own 28312577) 0,iv (i+1:Nat)]) (⟨[(28311552,.row [iv 0,iv 0,.nils] false),(28312577,.row [iv 12,iv 0,.fv (.sl ([Hu i].map Tm.enc))] false)],[]⟩) (by omega) ⟨i+1,by omega,rfl,rfl⟩;generalize Hu i=t at *;obtain ⟨o,p,l⟩:=t;simp only [Axg,Axf,An] at ht h9;simp only [Sx,RI,QT,Uz,S27,↓XX,XY,↓reduceIte,Nat.reduceBEq,Nat.reduceAdd,Int.reduceEq,Int.reduceLT,Int.reduceLE,hlt,Tm.op,Tm.n,Tm.kids,↓Ali,↓Aj ht,hw];exact h9
theorem Sr (n:Nat):Q9 (SS dt (n+60) 11 [] ⟨[],[]⟩)=true:=by kernel_rfl
theorem Um {n:Nat} (h:60≤n):BE (SS dt n 11 [] ⟨[],[]⟩) (.bool true):=by
 obtain ⟨k,rfl⟩:∃k,n=k+60:=⟨n - 60,by omega⟩;exact Acw (Sr k)
section
variable {β:Type} {E:Env}
def Apw (cs:List IV) (k:List FV→Option β):Option β:=(C1 cs).bind k
theorem Ahd {t e:TypeId} {a b:Nat} {ei:TI} {z:List IV} (hT:E.T t=some ⟨a,b,.slice e,z⟩) (he:E.T e=some ei) (hs:ei.size=1) (hz:∃x,ei.zero=[x]) (r s:Nat) (own:List (Nat×Blk)) (ext:List Blk)
  (hc:∀cells ro,Aq r own=some (.row cells ro)→cells.length≤100) (hk:∀cells ro,Aq r own=some (.row cells ro)→∃fc,C1 cells=some fc) (k:IV→Hp→List Ref→List Ref→Option β) :
  Ay (Ak E t 1 [(0,.ptr (.own r) 0)]) s ⟨own,ext⟩ k=Gu own r fun bl=>D7 bl fun cells=>Apw cells fun fc=>A2 own r (.row cells true) fun own=>k (.clip [.fp fc 0]) ⟨own,ext⟩ [.own r] [.own r]:=by
 obtain ⟨x,hx⟩:=hz;have hm:Ak E t 1 [(0,.ptr (.own r) 0)]=(frzL (65534+1+1) [.ptr (.own r) 0]).bind fun (vs,u)=>.ret { eff:={ val:=.clip (BN ei.size 1 vs),upd:=u } }:=by
  have h1:¬ (ei.size=0∨1 * ei.size > 65536):=by rw [hs];omega
  have h2:Cq (fun j=>some (j * ei.size,ei.size)) (OL 1 ei.zero) [(0,.ptr (.own r) 0)]=some [.ptr (.own r) 0]:=by
   rw [hx,hs];rfl
  simp only [Ak,hT,he,if_neg h1,h2]
 rw [hm,BB];unfold Ay;cases hl:Aq r own with
 | none =>
  have:((frzL (65534+1+1) [.ptr (.own r) 0]).bind fun (vs,u)=>Rd.ret ({ eff:={ val:=.clip (BN ei.size 1 vs),upd:=u } }:Made)).runLog ⟨own,ext⟩ []=none:=by
   simp only [frzL,CS,Rd.bind,Rd.runLog,Hp.get,hl]
  rw [this];rfl
 | some bl =>
  cases bl with
  | row cells ro =>
   obtain ⟨fc,hfc⟩:=hk cells ro hl;have hlen:=hc cells ro hl;have h3:frzL 65534 cells=.ret (fc,[]):=WU cells 65534 (by omega) hfc
   have:((frzL (65534+1+1) [.ptr (.own r) 0]).bind fun (vs,u)=>Rd.ret ({ eff:={ val:=.clip (BN ei.size 1 vs),upd:=u } }:Made)).runLog ⟨own,ext⟩ [] =
     some ({ eff:={ val:=.clip (BN ei.size 1 [.fp fc 0]),upd:=[(.own r,.row cells true)] } },[.own r]):=by
    simp only [frzL,CS,Rd.bind,Rd.runLog,Hp.get,hl,h3,List.append_nil]
   rw [this];simp only [Option.bind_some,D7,Apw,hfc,hs]
   show (fRf (.own r) fun q=>C5 q ⟨own,ext⟩ fun _=>fBk (.row cells true) fun b=>FM q b ⟨own,ext⟩ fun h=>Jd none s h fun h=>fV 3 (.clip [.fp fc 0]) fun v=>k v h [.own r] ([.own r]++[]))=_
   simp only [N9,CD,Ci,Jd,FM,C5];rw [BB,hl];rfl
  | tok n sz =>
   have:((frzL (65534+1+1) [.ptr (.own r) 0]).bind fun (vs,u)=>Rd.ret ({ eff:={ val:=.clip (BN ei.size 1 vs),upd:=u } }:Made)).runLog ⟨own,ext⟩ []=none:=by
    simp only [frzL,CS,Rd.bind,Rd.runLog,Hp.get,hl]
   rw [this];rfl
  | map es =>
   have:((frzL (65534+1+1) [.ptr (.own r) 0]).bind fun (vs,u)=>Rd.ret ({ eff:={ val:=.clip (BN ei.size 1 vs),upd:=u } }:Made)).runLog ⟨own,ext⟩ []=none:=by
    simp only [frzL,CS,Rd.bind,Rd.runLog,Hp.get,hl]
   rw [this];rfl
theorem Asw {t e:TypeId} {a b:Nat} {ei:TI} {z:List IV} (hT:E.T t=some ⟨a,b,.slice e,z⟩) (he:E.T e=some ei) (hs:ei.size=1) (hz:∃x,ei.zero=[x]) {r:Nat} {own own':List (Nat×Blk)} {cells:List IV} {ro:Bool} {fc:List FV}
  (hl:Aq r own=some (.row cells ro)) (hf:C1 cells=some fc) (hn:cells.length≤100) (ho:AO r (.row cells true) own=own') (s:Nat) (ext:List Blk) (k:IV→Hp→List Ref→List Ref→Option β) :
  Ay (Ak E t 1 [(0,.ptr (.own r) 0)]) s ⟨own,ext⟩ k=k (.clip [.fp fc 0]) ⟨own',ext⟩ [.own r] [.own r]:=by
 have h1:∀cells' ro',Aq r own=some (.row cells' ro')→cells'=cells:=fun c r h=>by rw [hl] at h;cases h;rfl
 rw [Ahd hT he hs hz r s own ext (fun c r h=>by rw [h1 c r h];exact hn) (fun c r h=>by rw [h1 c r h];exact ⟨fc,hf⟩),BB,hl];simp only [Option.bind_some,D7,Apw,hf,BV,ho]
def Bm (r:Option (IV×Hp)) (w:FV) (ext:List Blk):Prop:=∃v own,r=some (v,⟨own,ext⟩) ∧
 ∃u lg,∀(e:Option (IV×Hp)) (K:FV→List (Ref×Blk)→List Ref→Option (IV×Hp)),EU 12 v ⟨own,ext⟩ [] e K=K w u lg
theorem AG (w:FV) (own:List (Nat×Blk)) (ext:List Blk):Bm (some (.fv w,⟨own,ext⟩)) w ext:=⟨_,own,rfl,[],[],fun _ _=>rfl⟩
theorem EV {v:IV} {w:FV} (hz:A6 v=some w) (own:List (Nat×Blk)) (ext:List Blk):Bm (some (v,⟨own,ext⟩)) w ext:=⟨_,own,rfl,[],[],fun e K=>KU _ _ e K hz⟩
theorem Lh:∀l:List FV,Ct (l.map .fv) []=[]
 | []=>rfl
 | v::l=>by
  show TM (.fv v) (Ct (l.map .fv) [])=[]
  rw [Lh l];rfl
theorem Arw (n j:Nat) (t:List Ref) (s:Nat) (rest:List Blk):OE (n+1) (.ext j::t) s rest=cond (Nat.ble (Nat.succ j) s) (OE n t s rest) (cond (Nat.beq j s) (goR (OE n) t s rest) false):=rfl
theorem Ar0 (n s:Nat):OE (n+1) [] s []=true:=rfl
set_option maxRecDepth 20000 in
theorem Q2 (st:List FV):OE 400 [.ext 0] 0 [.row (st.map .fv) false]=true:=by
 rw [show (400:Nat)=398+1+1 from rfl,Arw]
 show goR (OE (398+1)) [] 0 [.row (st.map .fv) false]=true
 show OE (398+1) ([]++EX (.row (st.map .fv) false)) 1 []=true
 rw [show EX (.row (st.map .fv) false)=Ct (st.map .fv) [] from rfl,Lh]
 exact Ar0 398 1
theorem Rs (st:List FV):okB 1 [.row (st.map .fv) false]=true:=by
 show cond (okR 1 (EX (.row (st.map .fv) false))) true false=true
 rw [show EX (.row (st.map .fv) false)=Ct (st.map .fv) [] from rfl,Lh]
 rfl
theorem gb3 (a b c:FV):OE 400 [.ext 0] 0 [.row [.fv a,.fv b,.fv c] false]=true:=Q2 [a,b,c]
theorem ob3 (a b c:FV):okB 1 [.row [.fv a,.fv b,.fv c] false]=true:=Rs [a,b,c]
theorem gb2 (a b:FV):OE 400 [.ext 0] 0 [.row [.fv a,.fv b] false]=true:=Q2 [a,b]
theorem ob2 (a b:FV):okB 1 [.row [.fv a,.fv b] false]=true:=Rs [a,b]
theorem R0 {r1:Ref} {rs1:List Ref} {ih:Aa} {f:FuncId} {vs:List IV} {w:FV} {ext ext':List Blk} (hr:Bm (ih f vs ⟨[],ext⟩) w ext') (hg:OE 400 (r1::rs1) 0 ext=true) (hl:ext'.length=ext.length) (ho:okB ext.length ext'=true)
  (own:List (Nat×Blk)) (r0:Option (IV×Hp)) (u:List (Ref×Blk)) (lg:List Ref) (e:Option (IV×Hp)) (k:IV→Hp→List Ref→List Ref→Option (IV×Hp)) :
  Qb (
     r1::rs1) r0 ⟨own,ext⟩ u lg e (fun rs=>match rs with
   | []=>none
   | r::rs=>(match (⟨own,ext⟩:Hp) with
    | ⟨own,ext⟩=>cond (OE 400 (r::rs) 0 ext) (match ih f vs ⟨[],ext⟩ with
     | none=>none
     | some p=>match p with
      | (v,h')=>match h' with
       | ⟨own',ext'⟩=>cond (and (Nat.beq ext'.length ext.length) (okB ext.length ext'))
        (EU 12 v ⟨own',ext'⟩ [] e fun w _ _=>Ll u ⟨own,ext'⟩ fun h2=>k (.fv w) h2 ((CI ext.length).reverse++lg) (Bq u++CI ext.length)) none)
     e)) k=Ll u ⟨own,ext'⟩ fun h2=>k (.fv w) h2 ((CI ext.length).reverse++lg) (Bq u++CI ext.length):=by
 obtain ⟨v,own',e1,u',lg',hz⟩:=hr;simp only [Qb,hg,e1,hl,ho];rw [show (Nat.beq ext.length ext.length && true)=true by rw [Bool.and_true];exact Nat.beq_refl _,cond_true,hz]
 rfl
structure OneX (ext ext':List Blk):Prop where
 g:OE 400 [.ext 0] 0 ext=true
 l:ext.length=1
 l':ext'.length=1
 o:okB 1 ext'=true
theorem Ck (a b c a' b' c':FV):OneX [.row [.fv a,.fv b,.fv c] false] [.row [.fv a',.fv b',.fv c'] false]:=⟨gb3 ..,rfl,rfl,ob3 ..⟩
theorem Atj (a b a' b':FV):OneX [.row [.fv a,.fv b] false] [.row [.fv a',.fv b'] false]:=⟨gb2 ..,rfl,rfl,ob2 ..⟩
theorem NU (x:Nat):∀(args:List IV) {vs:List FV} (h:Hp) (lg:List Ref) (e:Option β) (k:List IV→List Ref→List (Ref×Blk)→List Ref→Option β) (ks:List Bool),(∀b∈ks,b=false)→BG args=some vs →
  SX args ks h lg e k=k (vs.map .fv) [] [] lg
 | [],vs,h,lg,e,k,ks,_,hz=>by cases hz;rfl
 | v::l,vs,h,lg,e,k,[],_,hz=>AgI (v::l) h lg e k hz
 | v::l,vs,h,lg,e,k,b::ks,hk,hz=>by
  have hb:=hk b List.mem_cons_self;subst hb;simp only [BG] at hz;cases h1:A6 v with
  | none=>rw [h1] at hz;cases hz
  | some x' =>
   rw [h1] at hz;cases h2:BG l with
   | none=>rw [h2] at hz;cases hz
   | some ys =>
    rw [h2] at hz;cases hz;rw [RJ,KU h lg e _ h1,NU x l h lg e _ ks (fun c hc=>hk c (List.mem_cons_of_mem _ hc)) h2];rfl
theorem AgP {ks:List Bool} (hks:∀b∈ks,b=false) {ih:Aa} {f:FuncId} {args:List IV} {vs:List FV} {w:FV} {ext ext':List Blk} (hz:BG args=some vs) (X:OneX ext ext') (hr:Bm (ih f (.ptr (.ext 0) 0::vs.map .fv) ⟨[],ext⟩) w ext')
  (own:List (Nat×Blk)) (k:IV→Hp→List Ref→List Ref→Option (IV×Hp)):Ah (true::ks) false false ih f (.ptr (.ext 0) 0::args) ⟨own,ext⟩ k=k (.fv w) ⟨own,ext'⟩ [.ext 0] [.ext 0]:=by
 rw [J5,UA,Qy,NU 0 args _ _ _ _ ks hks hz]
 have:=R0 (r1:=.ext 0) (rs1:=[]) hr X.g (by rw [X.l,X.l']) (by rw [X.l];exact X.o) own (ih f (.ptr (.ext 0) 0::vs.map .fv) ⟨[],[]⟩) [] [] (E6 (true::ks) false false ih f (.ptr (.ext 0) 0::args) ⟨own,ext⟩ k) k
 refine this.trans ?_;rw [X.l];rfl
theorem Do {ih:Aa} {f:FuncId} {w:FV} {ext ext':List Blk} (hr:Bm (ih f [.ptr (.ext 0) 0] ⟨[],ext⟩) w ext') (X:OneX ext ext') (own:List (Nat×Blk)) (k:IV→Hp→List Ref→List Ref→Option (IV×Hp)) :
  Ah [true] false false ih f [.ptr (.ext 0) 0] ⟨own,ext⟩ k=k (.fv w) ⟨own,ext'⟩ [.ext 0] [.ext 0]:=AgP (ks:=[]) (by simp) (vs:=[]) rfl X hr own k
theorem Jl {ih:Aa} {f:FuncId} {a b:IV} {x y w:FV} {ext ext':List Blk} (hr:Bm (ih f [.ptr (.ext 0) 0,.fv x,.fv y] ⟨[],ext⟩) w ext') (X:OneX ext ext') (ha:A6 a=some x) (hb:A6 b=some y) (own:List (Nat×Blk))
  (k:IV→Hp→List Ref→List Ref→Option (IV×Hp)):Ah [true,false,false] false false ih f [.ptr (.ext 0) 0,a,b] ⟨own,ext⟩ k=k (.fv w) ⟨own,ext'⟩ [.ext 0] [.ext 0]:=AgP (ks:=[false,false]) (by simp) (UI ha hb) X hr own k
theorem AgJ {ih:Aa} {f:FuncId} {a b c:IV} {x y z w:FV} {ext ext':List Blk} (hr:Bm (ih f [.ptr (.ext 0) 0,.fv x,.fv y,.fv z] ⟨[],ext⟩) w ext') (X:OneX ext ext') (ha:A6 a=some x) (hb:A6 b=some y) (hc:A6 c=some z)
  (own:List (Nat×Blk)) (k:IV→Hp→List Ref→List Ref→Option (IV×Hp)):Ah [true,false,false,false] false false ih f [.ptr (.ext 0) 0,a,b,c] ⟨own,ext⟩ k=k (.fv w) ⟨own,ext'⟩ [.ext 0] [.ext 0] :=
 AgP (ks:=[false,false,false]) (by simp) (Acr ha hb hc) X hr own k
theorem R7 {ih:Aa} {f:FuncId} {s:Nat} {own:List (Nat×Blk)} {cells:List IV} {ro:Bool} {fc:List FV} {w:FV} {ext ext':List Blk} (hr:Bm (ih f [.ptr (.ext 0) 0,.fv (.fp fc 0)] ⟨[],ext⟩) w ext') (X:OneX ext ext')
  (hl:Aq s own=some (.row cells ro)) (hz:C1 cells=some fc) (hn:cells.length≤300) (k:IV→Hp→List Ref→List Ref→Option (IV×Hp)) :
  Ah [true,false] false false ih f [.ptr (.ext 0) 0,.ptr (.own s) 0] ⟨own,ext⟩ k=k (.fv w) ⟨AO s (.row cells true) own,ext'⟩ [.ext 0,.own s] [.own s,.ext 0]:=by
 rw [J5,UA,Qy,RJ,U8,LV,BB,hl];simp only [Option.bind_some,Js];rw [Bl,decide_eq_true hn,c_t,XR 10 _ _ _ cells _ hz,fz0]
 have:=R0 (r1:=.ext 0) (rs1:=[]) hr X.g (by rw [X.l,X.l']) (by rw [X.l];exact X.o) own (ih f [.ptr (.ext 0) 0,.fv (.fp fc 0)] ⟨[],[]⟩) [(.own s,.row cells true)] [.own s] (E6 [true,false] false false ih f [.ptr (.ext 0) 0,.ptr (.own s) 0] ⟨own,ext⟩ k) k
 refine this.trans ?_;rw [X.l]
 show (Gu own s fun _=>A2 own s (.row cells true) fun own=>k (.fv w) ⟨own,ext'⟩ [.ext 0,.own s] [.own s,.ext 0])=_
 rw [BB,hl,Option.bind_some,BV]
end
end Idl
end Go.Proofs.Ytkfecngimlcfoaa
namespace Go.Proofs.Ytkfecngimlcfoaa
namespace Idl
theorem Yx {α:Type}:∀(r:Rd α) (h:Hp) (l:List Ref) {x:α} {l':List Ref},r.runLog h l=some (x,l')→r.run h=some x
 | .ret a,h,l,x,l',e=>by simp only [Rd.runLog,Axa,Axb] at e;rw [e.1];rfl
 | .fail,_,_,_,_,e=>by cases e
 | .get r k,h,l,x,l',e=>by
  simp only [Rd.runLog] at e;simp only [Rd.run];cases hg:h.get r with
  | none=>rw [hg] at e;cases e
  | some b=>rw [hg] at e;exact Yx (k b) h _ e
theorem NE {v:IV} {own:List (Nat×Blk)} {ext:List Blk} {w:FV} (h:∃u lg,∀(e:Option (IV×Hp)) (K:FV→List (Ref×Blk)→List Ref→Option (IV×Hp)),EU 12 v ⟨own,ext⟩ [] e K=K w u lg):∃u,(CS 4096 v).run ⟨own,ext⟩=some (w,u):=by
 obtain ⟨u,lg,hz⟩:=h;rcases Oc 12 v ⟨own,ext⟩ [] none (fun w _ _=>some (IV.fv w,(⟨[],[]⟩:Hp))) (.fv w,⟨[],[]⟩) (hz ..) with h | ⟨x,u',lg',h1,_,h2⟩
 ·cases h
 ·simp only [Axa,Axb,IV.fv.injEq,and_true] at h2;subst h2;exact ⟨u',Yx _ _ _ (h1 4096 (by decide))⟩
theorem NV:∀l:List FV,IV.refs.refsL (l.map .fv)=[]
 | []=>rfl
 | v::l=>by
  simp only [Axg,IV.refs.refsL,IV.refs,NV l,List.append_nil]
theorem IF:∀(args:List IV) (ks:List Bool) {vs:List FV},(∀b∈ks,b=false)→BG args=some vs→Bk ks args=.ret (vs.map .fv,[],[])
 | [],ks,vs,_,hz=>by cases hz;cases ks<;>rfl
 | v::l,[],vs,_,hz=>Ng (v::l) hz
 | v::l,b::ks,vs,hk,hz=>by
  have hb:=hk b List.mem_cons_self;subst hb;simp only [BG] at hz;cases h1:A6 v with
  | none=>rw [h1] at hz;cases hz
  | some x =>
   rw [h1] at hz;cases h2:BG l with
   | none=>rw [h2] at hz;cases hz
   | some ys =>
    rw [h2] at hz;cases hz;simp only [Bk,frp 4096 (by omega) h1,Rd.bind,IF l ks (fun c hc=>hk c (List.mem_cons_of_mem _ hc)) h2];rfl
theorem Rm (s:Nat) (ext:List Blk):OE 400 [.own s] 0 ext=false:=rfl
theorem AeP {ks:List Bool} (hks:∀b∈ks,b=false) {ih:Aa} {f:FuncId} {args:List IV} {vs:List FV} {w:FV} {s:Nat} {st st':List FV} {own:List (Nat×Blk)} (hz:BG args=some vs) (hl:Aq s own=some (.row (st.map .fv) false))
  (hr:Bm (ih f (.ptr (.ext 0) 0::vs.map .fv) ⟨[],[.row (st.map .fv) false]⟩) w [.row (st'.map .fv) false]) (k:IV→Hp→List Ref→List Ref→Option (IV×Hp)) :
  Ah (true::ks) false false ih f (.ptr (.own s) 0::args) ⟨own,[]⟩ k=k (.fv w) ⟨AO s (.row (st'.map .fv) false) own,[]⟩ [.own s] [.own s]:=by
 obtain ⟨v,own',e1,hfz⟩:=hr;obtain ⟨u,hu⟩:=NE hfz;have hD:E6 (true::ks) false false ih f (.ptr (.own s) 0::args) ⟨own,[]⟩ k=k (.fv w) ⟨AO s (.row (st'.map .fv) false) own,[]⟩ [.own s] [.own s]:=by
  have h1:Bk (true::ks) (.ptr (.own s) 0::args)=.ret (.ptr (.own s) 0::vs.map .fv,[.own s],[]):=by
   simp only [Bk,IF args ks hks hz,Rd.bind,IV.refs];rfl
  have h2:(BT 4096 [.own s] []).runLog ⟨own,[]⟩ []=some ([(.own s,.row (st.map .fv) false)],[.own s]):=by
   show (BT (4094+1+1) [.own s] []).runLog ⟨own,[]⟩ []=_
   simp only [BT,hasRef,Bool.false_eq_true,if_false,Rd.runLog,Hp.get,hl,Blk.refs,NV,List.append_nil,List.nil_append]
  have h3:IV.ren.renL (Dt [(.own s,.row (st.map .fv) false)]) (.ptr (.own s) 0::vs.map .fv)=some (.ptr (.ext 0) 0::vs.map .fv):=by
   simp only [IV.ren.renL,IV.ren,Dt,B9,if_true,Axd,Option.bind_some,E3]
  have h4:A3 (Dt [(.own s,.row (st.map .fv) false)]) [.row (st.map .fv) false]=some [.row (st.map .fv) false]:=by
   simp only [A3,Blk.ren,E3,Axd,Option.bind_some]
  have h5:A3 (Cj [(.own s,.row (st.map .fv) false)]) [.row (st'.map .fv) false]=some [.row (st'.map .fv) false]:=by
   simp only [A3,Blk.ren,E3,Axd,Option.bind_some]
  unfold E6;simp only [h1,Rd.runLog,h2,h3,Axg,Axf,h4,DA (Ci 3),DA CD,Jh,Bool.false_eq_true,if_false,e1,hu,Axd,IV.ren,h5,Axe,List.length_nil,Bq,List.all_nil,and_self,if_true,List.nil_append,List.zip_cons_cons,List.zip_nil_left];have h6:laid ⟨own,[]⟩ [(.own s,.row (st'.map .fv) false)]=some ⟨AO s (.row (st'.map .fv) false) own,[]⟩:=by
   simp only [laid,Hp.get,hl,Hp.set]
  simp only [h6,LQ,Ci]
 rw [J5,UA,Qy,NU 0 args _ _ _ _ ks hks hz];simp only [Qb,Rm,cond_false];exact hD
theorem Aqu {ih:Aa} {f:FuncId} {x y:IV} {vx vy w:FV} {s:Nat} {a b c a' b' c':FV} {own own':List (Nat×Blk)} (hr:Bm (ih f [.ptr (.ext 0) 0,.fv vx,.fv vy] ⟨[],[.row [.fv a,.fv b,.fv c] false]⟩) w [.row [.fv a',.fv b',.fv c'] false])
  (hx:A6 x=some vx) (hy:A6 y=some vy) (hl:Aq s own=some (.row [.fv a,.fv b,.fv c] false)) (ho:AO s (.row [.fv a',.fv b',.fv c'] false) own=own') (k:IV→Hp→List Ref→List Ref→Option (IV×Hp)) :
  Ah [true,false,false] false false ih f [.ptr (.own s) 0,x,y] ⟨own,[]⟩ k=k (.fv w) ⟨own',[]⟩ [.own s] [.own s]:=by
 subst ho;exact AeP (ks:=[false,false]) (by simp) (st:=[a,b,c]) (st':=[a',b',c']) (UI hx hy) hl hr k
theorem Ao9 {ih:Aa} {f:FuncId} {x y z:IV} {vx vy vz w:FV} {s:Nat} {a b c a' b' c':FV} {own own':List (Nat×Blk)} (hr:Bm (ih f [.ptr (.ext 0) 0,.fv vx,.fv vy,.fv vz] ⟨[],[.row [.fv a,.fv b,.fv c] false]⟩) w [.row [.fv a',.fv b',.fv c'] false])
  (hx:A6 x=some vx) (hy:A6 y=some vy) (hz:A6 z=some vz) (hl:Aq s own=some (.row [.fv a,.fv b,.fv c] false)) (ho:AO s (.row [.fv a',.fv b',.fv c'] false) own=own') (k:IV→Hp→List Ref→List Ref→Option (IV×Hp)) :
  Ah [true,false,false,false] false false ih f [.ptr (.own s) 0,x,y,z] ⟨own,[]⟩ k=k (.fv w) ⟨own',[]⟩ [.own s] [.own s]:=by
 subst ho;exact AeP (ks:=[false,false,false]) (by simp) (st:=[a,b,c]) (st':=[a',b',c']) (Acr hx hy hz) hl hr k
theorem Amd {ih:Aa} {f:FuncId} {x y:IV} {vx vy w:FV} {s:Nat} {a b a' b':FV} {own own':List (Nat×Blk)} (hr:Bm (ih f [.ptr (.ext 0) 0,.fv vx,.fv vy] ⟨[],[.row [.fv a,.fv b] false]⟩) w [.row [.fv a',.fv b'] false])
  (hx:A6 x=some vx) (hy:A6 y=some vy) (hl:Aq s own=some (.row [.fv a,.fv b] false)) (ho:AO s (.row [.fv a',.fv b'] false) own=own') (k:IV→Hp→List Ref→List Ref→Option (IV×Hp)) :
  Ah [true,false,false] false false ih f [.ptr (.own s) 0,x,y] ⟨own,[]⟩ k=k (.fv w) ⟨own',[]⟩ [.own s] [.own s]:=by
 subst ho;exact AeP (ks:=[false,false]) (by simp) (st:=[a,b]) (st':=[a',b']) (UI hx hy) hl hr k
section
variable {β:Type}
theorem Adk {rm:List Nat} {vals:List IV} {own:List (Nat×Blk)} {ext:List Blk} (hf:AL rm vals own []=true) (hx:∀s,Ref.own s ∉ ext.flatMap Blk.refs) (s:Nat) :
  Ref.own s∈IV.refs.refsL vals++(own.filter fun p=>!rm.contains p.1).flatMap (fun p=>p.2.refs)++ext.flatMap Blk.refs ↔ heldB rm vals own [] s=true:=by
 rw [← TH hf s,List.mem_append];constructor
 ·rintro (h | h)
  ·exact List.mem_append_left _ h
  ·exact absurd h (hx s)
 ·intro h;rcases List.mem_append.1 h with h | h
  ·exact .inl h
  ·cases h
theorem Ago {base rm:List Nat} {vals:List IV} {own:List (Nat×Blk)} {ext:List Blk} (hx:∀s,Ref.own s ∉ ext.flatMap Blk.refs) (hb:rm.any base.contains=false) (hf:AL rm vals own []=true) (k:Hp→Option β) :
  Bs base rm vals ⟨own,ext⟩ k=k ⟨Ho rm vals own [],ext⟩:=by
 have hm:=Adk hf hx;have hf0:=hf;simp only [AL,Bool.and_eq_true] at hf0;obtain ⟨g1,g2,g3,g4⟩:=hf0;unfold Bs;rw [hb];simp only [cond_false];rw [Mj];cases ha:(own.all fun p=>!rm.contains p.1) with
 | true =>
  simp only [Bool.not_true,cond_false];congr 2
  symm
  apply List.filter_eq_self.2;intro p hp;rw [List.all_eq_true.1 ha p hp];rfl
 | false =>
  simp only [Bool.not_false,cond_true];have slow:(match Cs base [] rm ⟨vals,⟨own,ext⟩⟩ with | none=>none | some S=>fH S.hp k)=k ⟨Ho rm vals own [],ext⟩:=by
   have hgone:(rm.filter fun k=>!anyIn [k] (IV.refs.refsL vals++(own.filter fun p=>!rm.contains p.1).flatMap (fun p=>p.2.refs)++ext.flatMap Blk.refs))=rm.filter fun s=>!heldB rm vals own [] s:=by
    apply List.filter_congr;intro s _;congr 1;exact Bool.eq_iff_iff.2 ((Ic s _).trans (hm s))
   have hown:(own.filter fun p=>!(rm.filter fun s=>!heldB rm vals own [] s).contains p.1)=Ho rm vals own []:=by
    apply List.filter_congr;intro p _;rw [Bool.eq_iff_iff];simp only [Bool.not_eq_true',Bool.or_eq_true,List.contains_eq_mem,decide_eq_false_iff_not,List.mem_filter];constructor
    ·intro h;by_cases h1:p.1∈rm
     ·right;cases hh:heldB rm vals own [] p.1 with
      | true=>rfl
      | false=>exact absurd ⟨h1,hh⟩ h
     ·exact .inl h1
    ·rintro (h | h) ⟨h1,h2⟩
     ·exact h h1
     ·rw [h] at h2;exact absurd h2 (by simp)
   simp only [Cs,hb,Bool.false_eq_true,if_false,AY,ha,hgone,hown];have hnone:anyIn (rm.filter fun s=>!heldB rm vals own [] s) (CP ⟨vals,⟨Ho rm vals own [],ext⟩⟩)=false:=by
    apply Eh;intro s hs hmem;obtain ⟨hs1,hs2⟩:=List.mem_filter.1 hs;have hs2:heldB rm vals own [] s=false:=by simpa using hs2
    simp only [CP,List.mem_append] at hmem;rcases hmem with (hmem | hmem) | hmem
    ·have:=(hm s).1 (List.mem_append_left _ (List.mem_append_left _ hmem))
     rw [this] at hs2;cases hs2
    ·obtain ⟨p,hp,hr⟩:=List.mem_flatMap.1 hmem;have hp1:=(List.mem_filter.1 hp).1;have hn:=(Ee (List.all_eq_true.1 g2 p hp1) s).1 hr;have h4:=List.all_eq_true.1 g4 p hp1;cases hc:rm.contains p.1 with
     | true =>
      rw [hc] at h4;have h4:(rm.all fun s=>!Fy s p.2)=true:=h4;have h5:=List.all_eq_true.1 h4 s hs1;rw [hn] at h5;cases h5
     | false =>
      have:=(hm s).1 (List.mem_append_left _ (List.mem_append_right _ (List.mem_flatMap.2 ⟨p,List.mem_filter.2 ⟨hp1,by rw [hc];rfl⟩,hr⟩)))
      rw [this] at hs2;cases hs2
    ·exact hx s hmem
   simp only [hnone,Bool.false_eq_true,if_false,LQ]
  cases hff:(and (FG rm (Ct vals [])) (and (Hh rm own) (I8 rm ext))) with
  | false=>exact slow
  | true =>
   have hff:(FG rm (Ct vals []) && (Hh rm own && I8 rm ext))=true:=hff;simp only [Bool.and_eq_true] at hff;simp only [Hm,cond_true];congr 2;apply List.filter_congr;intro p hp;cases hc:rm.contains p.1 with
   | false=>rfl
   | true =>
    have h1:=FC hff.1;rw [refsDL_eq,List.append_nil] at h1;have h2:=HG hff.2.1
    have:heldB rm vals own [] p.1=false:=by
     cases hh:heldB rm vals own [] p.1 with
     | false=>rfl
     | true =>
      have:=(hm p.1).2 hh
      have hpm:p.1∈rm:=List.contains_iff_mem.1 hc;rcases List.mem_append.1 this with h | h
      ·rcases List.mem_append.1 h with h | h
       ·exact absurd h (h1 _ hpm)
       ·exact absurd h (h2 _ hpm)
      ·exact absurd h (hx _)
    rw [this];rfl
structure ExtX (ext ext':List Blk):Prop where
 g:OE 400 [.ext 0] 0 ext=true
 l:ext'.length=ext.length
 o:okB ext.length ext'=true
theorem Zh {ks:List Bool} {ih:Aa} {f:FuncId} {args:List IV} {vs:List FV} {w:FV} {u:List (Ref×Blk)} {lg:List Ref} {own own':List (Nat×Blk)} {ext ext':List Blk}
  (hz:∀(e:Option (IV×Hp)) (k:List IV→List Ref→List (Ref×Blk)→List Ref→Option (IV×Hp)),SX args ks ⟨own,ext⟩ [] e k=k (vs.map .fv) [] u lg) (X:ExtX ext ext')
  (hr:Bm (ih f (.ptr (.ext 0) 0::vs.map .fv) ⟨[],ext⟩) w ext') (hlay:∀k:Hp→Option (IV×Hp),Ll u ⟨own,ext'⟩ k=k ⟨own',ext'⟩) (k:IV→Hp→List Ref→List Ref→Option (IV×Hp)) :
  Ah (true::ks) false false ih f (.ptr (.ext 0) 0::args) ⟨own,ext⟩ k=k (.fv w) ⟨own',ext'⟩ ((CI ext.length).reverse++lg) (Bq u++CI ext.length):=by
 rw [J5,UA,Qy,hz]
 have:=R0 (r1:=.ext 0) (rs1:=[]) hr X.g X.l X.o own (ih f (.ptr (.ext 0) 0::vs.map .fv) ⟨[],[]⟩) u lg (E6 (true::ks) false false ih f (.ptr (.ext 0) 0::args) ⟨own,ext⟩ k) k
 exact this.trans (hlay _)
theorem Aru:∀(cs:List FV),(∀x∈cs,∀l,x≠.agg l)→∀k:List FV→Option β,chK 1 cs.length cs k=k cs
 | [],_,k=>rfl
 | c::cs,h,k=>by
  show (FL (c::cs) 1 fun a=>FA (c::cs) 1 fun b=>AcI a fun x=>chK 1 cs.length b fun xs=>k (x::xs))=_
  rw [t1,d1]
  have:∀k:FV→Option β,AcI [c] k=k c:=by
   intro k;cases c with
   | agg l=>exact absurd rfl (h _ List.mem_cons_self l)
   | _=>rfl
  rw [this,Aru cs (fun x hx=>h x (List.mem_cons_of_mem _ hx))]
theorem P3 (d:Nat) (h:Hp) (lg:List Ref) (e:Option β):∀(l:List FV) (k:List FV→List (Ref×Blk)→List Ref→Option β),C3 (EU (d+1)) (l.map .fv) h lg e k=k l [] lg
 | [],k=>rfl
 | v::l,k=>by
  show (EU (d+1) (.fv v) h lg e fun y u lg=>C3 (EU (d+1)) (l.map .fv) h lg e fun ys us lg=>OJ u us fun w=>k (y::ys) w lg)=_
  show (C3 (EU (d+1)) (l.map .fv) h lg e fun ys us lg=>OJ [] us fun w=>k (v::ys) w lg)=_
  rw [P3 d h lg e l];rfl
theorem AgT {d:Nat} {s:Nat} {es:List FV} {ro:Bool} {own:List (Nat×Blk)} {ext:List Blk} (hl:Aq s own=some (.row (es.map .fv) ro)) (hn:es.length≤300) (ha:∀x∈es,∀l,x≠.agg l) (lg:List Ref) (e:Option β)
  (k:FV→List (Ref×Blk)→List Ref→Option β):EU (d+2) (.slc (.own s) 1 es.length) ⟨own,ext⟩ lg e k=k (.sl es) [(.own s,.row (es.map .fv) true)] (.own s::lg):=by
 show (C5 (.own s) ⟨own,ext⟩ fun b=>D7 b fun cells=>cond (Nat.ble cells.length 300) (cond (or (Nat.beq 1 0) (not (Nat.ble (es.length * 1) cells.length))) none
  (C3 (EU (d+1)) cells ⟨own,ext⟩ (.own s::lg) e fun cs u lg=>chK 1 es.length cs fun els=>k (.sl els) ((.own s,.row cells true)::u) lg)) e)=_
 rw [LV,BB,hl];simp only [Option.bind_some,Js,List.length_map,Nat.mul_one];rw [Bl,decide_eq_true hn,c_t,show Nat.ble es.length es.length=true by rw [Bl];exact decide_eq_true (Nat.le_refl _)]
 simp only [Bool.not_true]
 show (C3 (EU (d+1)) (es.map .fv) ⟨own,ext⟩ (.own s::lg) e fun cs u lg=>chK 1 es.length cs fun els=>k (.sl els) ((.own s,.row (es.map .fv) true)::u) lg)=_
 rw [P3,Aru es ha]
theorem Ars {s s2:Nat} {es:List FV} {ro ro2:Bool} {a b c d t x:FV} {own:List (Nat×Blk)} {ext:List Blk} (hl:Aq s own=some (.row [.fv a,.fv b,.slc (.own s2) 1 es.length,.fv c,.fv d,.fv t,.fv x] ro)) (hl2:Aq s2 own=some (.row (es.map .fv) ro2))
  (hn:es.length≤300) (ha:∀x∈es,∀l,x≠.agg l) (lg:List Ref) (e:Option β) (k:FV→List (Ref×Blk)→List Ref→Option β):EU 12 (.ptr (.own s) 0) ⟨own,ext⟩ lg e k =
   k (.fp [a,b,.sl es,c,d,t,x] 0) [(.own s,.row [.fv a,.fv b,.slc (.own s2) 1 es.length,.fv c,.fv d,.fv t,.fv x] true),(.own s2,.row (es.map .fv) true)] (.own s2 :: .own s::lg):=by
 rw [U8,LV,BB,hl];simp only [Option.bind_some,Js];rw [Bl,decide_eq_true (by simp),c_t];rw [fl1,LK,fl1,LK,fl1,AgT (d:=9) hl2 hn ha,fl1,LK,fl1,LK,fl1,LK,fl1,LK,fl0];rfl
end
end Idl
end Go.Proofs.Ytkfecngimlcfoaa
namespace Go.Proofs.Ytkfecngimlcfoaa
namespace Idl
theorem gb1 (a:FV):OE 400 [.ext 0] 0 [.row [.fv a] false]=true:=Q2 [a]
theorem ob1 (a:FV):okB 1 [.row [.fv a] false]=true:=Rs [a]
theorem Amu (a a':FV):OneX [.row [.fv a] false] [.row [.fv a'] false]:=⟨gb1 ..,rfl,rfl,ob1 ..⟩
theorem ApA {ks:List Bool} (hks:∀b∈ks,b=false) {ih:Aa} {f:FuncId} {a0:IV} {x0:FV} {args:List IV} {vs:List FV} {w:FV} {ext ext':List Blk} (h0:A6 a0=some x0) (hz:BG args=some vs) (X:OneX ext ext') (hr:Bm (ih f (.fv x0 :: .ptr (.ext 0) 0::vs.map .fv) ⟨[],ext⟩) w ext')
  (own:List (Nat×Blk)) (k:IV→Hp→List Ref→List Ref→Option (IV×Hp)):Ah (false::true::ks) false false ih f (a0 :: .ptr (.ext 0) 0::args) ⟨own,ext⟩ k=k (.fv w) ⟨own,ext'⟩ [.ext 0] [.ext 0]:=by
 rw [J5,RJ,KU _ _ _ _ h0,UA,Qy,NU 0 args _ _ _ _ ks hks hz]
 have:=R0 (r1:=.ext 0) (rs1:=[]) hr X.g (by rw [X.l,X.l']) (by rw [X.l];exact X.o) own (ih f (.fv x0 :: .ptr (.ext 0) 0::vs.map .fv) ⟨[],[]⟩) [] [] (E6 (false::true::ks) false false ih f (a0 :: .ptr (.ext 0) 0::args) ⟨own,ext⟩ k) k
 refine this.trans ?_;rw [X.l];rfl
theorem Ab7 {ih:Aa} {f:FuncId} {a b:IV} {x y w:FV} {ext ext':List Blk} (hr:Bm (ih f [.fv x,.ptr (.ext 0) 0,.fv y] ⟨[],ext⟩) w ext') (X:OneX ext ext') (ha:A6 a=some x) (hb:A6 b=some y) (own:List (Nat×Blk))
  (k:IV→Hp→List Ref→List Ref→Option (IV×Hp)):Ah [false,true,false] false false ih f [a,.ptr (.ext 0) 0,b] ⟨own,ext⟩ k=k (.fv w) ⟨own,ext'⟩ [.ext 0] [.ext 0]:=ApA (ks:=[false]) (by simp) ha (Agm hb) X hr own k
theorem Aoz {ks:List Bool} (hks:∀b∈ks,b=false) {ih:Aa} {f:FuncId} {a0:IV} {x0:FV} {args:List IV} {vs:List FV} {w:FV} {s:Nat} {st st':List FV} {own:List (Nat×Blk)} (h0:A6 a0=some x0) (hz:BG args=some vs) (hl:Aq s own=some (.row (st.map .fv) false))
  (hr:Bm (ih f (.fv x0 :: .ptr (.ext 0) 0::vs.map .fv) ⟨[],[.row (st.map .fv) false]⟩) w [.row (st'.map .fv) false]) (k:IV→Hp→List Ref→List Ref→Option (IV×Hp)) :
  Ah (false::true::ks) false false ih f (a0 :: .ptr (.own s) 0::args) ⟨own,[]⟩ k=k (.fv w) ⟨AO s (.row (st'.map .fv) false) own,[]⟩ [.own s] [.own s]:=by
 obtain ⟨v,own',e1,hfz⟩:=hr;obtain ⟨u,hu⟩:=NE hfz;have hD:E6 (false::true::ks) false false ih f (a0 :: .ptr (.own s) 0::args) ⟨own,[]⟩ k=k (.fv w) ⟨AO s (.row (st'.map .fv) false) own,[]⟩ [.own s] [.own s]:=by
  have h1:Bk (false::true::ks) (a0 :: .ptr (.own s) 0::args)=.ret (.fv x0 :: .ptr (.own s) 0::vs.map .fv,[.own s],[]):=by
   simp only [Bk,frp 4096 (by omega) h0,IF args ks hks hz,Rd.bind,IV.refs];rfl
  have h2:(BT 4096 [.own s] []).runLog ⟨own,[]⟩ []=some ([(.own s,.row (st.map .fv) false)],[.own s]):=by
   show (BT (4094+1+1) [.own s] []).runLog ⟨own,[]⟩ []=_
   simp only [BT,hasRef,Bool.false_eq_true,if_false,Rd.runLog,Hp.get,hl,Blk.refs,NV,List.append_nil,List.nil_append]
  have h3:IV.ren.renL (Dt [(.own s,.row (st.map .fv) false)]) (.fv x0 :: .ptr (.own s) 0::vs.map .fv)=some (.fv x0 :: .ptr (.ext 0) 0::vs.map .fv):=by
   simp only [IV.ren.renL,IV.ren,Dt,B9,if_true,Axd,Option.bind_some,E3]
  have h4:A3 (Dt [(.own s,.row (st.map .fv) false)]) [.row (st.map .fv) false]=some [.row (st.map .fv) false]:=by
   simp only [A3,Blk.ren,E3,Axd,Option.bind_some]
  have h5:A3 (Cj [(.own s,.row (st.map .fv) false)]) [.row (st'.map .fv) false]=some [.row (st'.map .fv) false]:=by
   simp only [A3,Blk.ren,E3,Axd,Option.bind_some]
  unfold E6;simp only [h1,Rd.runLog,h2,h3,Axg,Axf,h4,DA (Ci 3),DA CD,Jh,Bool.false_eq_true,if_false,e1,hu,Axd,IV.ren,h5,Axe,List.length_nil,Bq,List.all_nil,and_self,if_true,List.nil_append,List.zip_cons_cons,List.zip_nil_left];have h6:laid ⟨own,[]⟩ [(.own s,.row (st'.map .fv) false)]=some ⟨AO s (.row (st'.map .fv) false) own,[]⟩:=by
   simp only [laid,Hp.get,hl,Hp.set]
  simp only [h6,LQ,Ci]
 rw [J5,RJ,KU _ _ _ _ h0,UA,Qy,NU 0 args _ _ _ _ ks hks hz];simp only [Qb,Rm,cond_false];exact hD
theorem Aha {ih:Aa} {f:FuncId} {x y:IV} {vx vy w:FV} {s:Nat} {a a':FV} {own own':List (Nat×Blk)} (hr:Bm (ih f [.fv vx,.ptr (.ext 0) 0,.fv vy] ⟨[],[.row [.fv a] false]⟩) w [.row [.fv a'] false])
  (hx:A6 x=some vx) (hy:A6 y=some vy) (hl:Aq s own=some (.row [.fv a] false)) (ho:AO s (.row [.fv a'] false) own=own') (k:IV→Hp→List Ref→List Ref→Option (IV×Hp)) :
  Ah [false,true,false] false false ih f [x,.ptr (.own s) 0,y] ⟨own,[]⟩ k=k (.fv w) ⟨own',[]⟩ [.own s] [.own s]:=by
 subst ho;exact Aoz (ks:=[false]) (by simp) (st:=[a]) (st':=[a']) hx (Agm hy) hl hr k
def Bo (op:Int):Int:=if op<0 then -1 else ([-1,0,0,2,2,2,2,3,1,1,0,0,1,4,0,0,2,2,1,1,2,2,2,1,1,0,2,3,2,2,1]:List Int).getD op.toNat (-1)
theorem Ni (op:Int):(0≤op∧op≤30)∨op<0∨30<op:=by omega
theorem LF {op:Int} (h:op<0∨30<op):Bo op=-1:=by
 unfold Bo;split
 ·rfl
 ·rw [List.getD_eq_getElem?_getD,List.getElem?_eq_none (by simp;omega)];rfl
theorem XS {P:Int→Prop} (h:∀k:Nat,k<31→P k) {op:Int} (h1:0≤op∧op≤30):P op:=by
 have:=h op.toNat (by omega)
 rwa [Int.toNat_of_nonneg h1.1] at this
theorem NO {n:Nat} (hn:0<n) (op:Int):BE (SS dt n 52 [iv op] ⟨[],[]⟩) (.int .i64 (Bo op)):=by
 obtain ⟨n,rfl⟩:∃k,n=k+1:=⟨n - 1,by omega⟩;rw [c52];rcases Ni op with h | h
 ·revert op
  refine fun op h=>XS (P:=fun op=>BE (S52 (SS dt n) n (iv op) ⟨[],[]⟩) (.int .i64 (Bo op))) ?_ h;intro k hk;rcases k with _ | k
  ·simp only [PO,PS,SA,Si,Ss,Sc,RU,QK,Qf,Re,Rb,RT,PR,P9,SF,QX,PL,RP,S52,↓XX,XY,↓reduceIte,Nat.reduceBEq,Nat.reduceAdd,Int.reduceEq,Int.reduceLT,Int.reduceLE];exact Ao _ _
  iterate 30 (rcases k with _ | k;· simp only [PO,PS,SA,Si,Ss,Sc,RU,QK,Qf,Re,Rb,RT,PR,P9,SF,QX,PL,RP,S52,↓XX,XY,↓reduceIte,Nat.reduceBEq,Nat.reduceAdd,Int.reduceEq,Int.reduceLT,Int.reduceLE];exact Ao _ _)
  omega
 ·rw [LF h];have q1:op≠1:=by omega
  have q2:op≠2:=by omega
  have q3:op≠3:=by omega
  have q4:op≠4:=by omega
  have q5:op≠5:=by omega
  have q6:op≠6:=by omega
  have q7:op≠7:=by omega
  have q8:op≠8:=by omega
  have q9:op≠9:=by omega
  have q10:op≠10:=by omega
  have q11:op≠11:=by omega
  have q12:op≠12:=by omega
  have q13:op≠13:=by omega
  have q14:op≠14:=by omega
  have q15:op≠15:=by omega
  have q16:op≠16:=by omega
  have q17:op≠17:=by omega
  have q18:op≠18:=by omega
  have q19:op≠19:=by omega
  have q20:op≠20:=by omega
  have q21:op≠21:=by omega
  have q22:op≠22:=by omega
  have q23:op≠23:=by omega
  have q24:op≠24:=by omega
  have q25:op≠25:=by omega
  have q26:op≠26:=by omega
  have q27:op≠27:=by omega
  have q28:op≠28:=by omega
  have q29:op≠29:=by omega
  have q30:op≠30:=by omega
  simp only [PO,PS,SA,Si,Ss,Sc,RU,QK,Qf,Re,Rb,RT,PR,P9,SF,QX,PL,RP,S52,↓XX,XY,↓reduceIte,Nat.reduceBEq,Nat.reduceAdd,Int.reduceEq,Int.reduceLT,Int.reduceLE,q1,q2,q3,q4,q5,q6,q7,q8,q9,q10,q11,q12,q13,q14,q15,q16,q17,q18,q19,q20,q21,q22,q23,q24,q25,q26,q27,q28,q29,q30];exact Ao _ _
def ML (op n:Int):Bool:=if op=1 then decide (0≤n) && decide (n≤3000) else if op=2 then decide (0≤n) && decide (n≤2) else if op=26 then decide (0≤n) && decide (n≤4) else if op=25 then true else decide (n=0)
theorem Acz {n:Nat} (hn:0<n) (op m:Int):BE (SS dt n 89 [iv op,iv m] ⟨[],[]⟩) (.bool (ML op m)):=by
 obtain ⟨n,rfl⟩:∃k,n=k+1:=⟨n - 1,by omega⟩;rw [c89];unfold ML;by_cases h1:op=1
 ·by_cases h0:0≤m<;>simp only [↓UU7,↓XX,XY,↓reduceIte,Nat.reduceBEq,Nat.reduceAdd,Int.reduceEq,Int.reduceLT,Int.reduceLE,h0,h1]<;>exact Ao _ _
 by_cases h2:op=2
 ·by_cases h0:0≤m<;>simp only [↓UU7,↓XX,XY,↓reduceIte,Nat.reduceBEq,Nat.reduceAdd,Int.reduceEq,Int.reduceLT,Int.reduceLE,h0,h2]<;>exact Ao _ _
 by_cases h3:op=26
 ·by_cases h0:0≤m<;>simp only [↓UU7,↓XX,XY,↓reduceIte,Nat.reduceBEq,Nat.reduceAdd,Int.reduceEq,Int.reduceLT,Int.reduceLE,h0,h3]<;>exact Ao _ _
 by_cases h4:op=25
 ·simp only [↓UU7,↓XX,XY,↓reduceIte,Nat.reduceBEq,Nat.reduceAdd,Int.reduceEq,Int.reduceLT,Int.reduceLE,h4];exact Ao _ _
 simp only [↓UU7,↓XX,XY,↓reduceIte,Nat.reduceBEq,Nat.reduceAdd,Int.reduceEq,Int.reduceLT,Int.reduceLE,h1,h2,h3,h4];exact Ao _ _
theorem Vk {n:Nat} (hn:0<n) (op m:Int):BE (SS dt n 92 [iv op,iv m] ⟨[],[]⟩) (.bool (ML op m)):=by
 obtain ⟨n,rfl⟩:∃k,n=k+1:=⟨n - 1,by omega⟩;rw [c92];unfold ML;by_cases h1:op=1
 ·by_cases h0:0≤m<;>simp only [↓UU8,↓XX,XY,↓reduceIte,Nat.reduceBEq,Nat.reduceAdd,Int.reduceEq,Int.reduceLT,Int.reduceLE,h0,h1]<;>exact Ao _ _
 by_cases h2:op=2
 ·by_cases h0:0≤m<;>simp only [↓UU8,↓XX,XY,↓reduceIte,Nat.reduceBEq,Nat.reduceAdd,Int.reduceEq,Int.reduceLT,Int.reduceLE,h0,h2]<;>exact Ao _ _
 by_cases h3:op=26
 ·by_cases h0:0≤m<;>simp only [↓UU8,↓XX,XY,↓reduceIte,Nat.reduceBEq,Nat.reduceAdd,Int.reduceEq,Int.reduceLT,Int.reduceLE,h0,h3]<;>exact Ao _ _
 by_cases h4:op=25
 ·simp only [↓UU8,↓XX,XY,↓reduceIte,Nat.reduceBEq,Nat.reduceAdd,Int.reduceEq,Int.reduceLT,Int.reduceLE,h4];exact Ao _ _
 simp only [↓UU8,↓XX,XY,↓reduceIte,Nat.reduceBEq,Nat.reduceAdd,Int.reduceEq,Int.reduceLT,Int.reduceLE,h1,h2,h3,h4];exact Ao _ _
theorem Ff (l:List FV):(l.map IV.fv).all Fl=true:=by induction l with
 | nil=>rfl
 | cons a l ih=>rw [Axg,List.all_cons,ih];rfl
theorem Dr (s:Nat) (l:List FV):(l.map IV.fv).any (Cc s)=false:=by induction l with
 | nil=>rfl
 | cons a l ih=>rw [Axg,List.any_cons,ih];rfl
def De:List Tm→List FV
 | []=>[]
 | .mk o n k::l=>.int .i64 o :: .int .i64 n :: .sl (k.map Tm.enc)::De l
def MQ:Nat→List IV
 | 0=>[]
 | n+1=>iv 0::iv 0 :: .nils::MQ n
def B6 (ts:List Tm) (r:Nat):List IV:=(De ts).map .fv++MQ r
theorem Nw (ts:List Tm):(De ts).length=3 * ts.length:=by
 induction ts with
 | nil=>rfl
 | cons t l ih=>obtain ⟨o,n,k⟩:=t;simp only [De,Axe,ih];omega
theorem Vq (ts:List Tm) (t:Tm):De (ts++[t])=De ts++[.int .i64 t.op,.int .i64 t.n,.sl (t.kids.map Tm.enc)]:=by
 induction ts with
 | nil=>obtain ⟨o,n,k⟩:=t;rfl
 | cons a l ih=>obtain ⟨o,n,k⟩:=a;simp only [List.cons_append,De,ih]
theorem O0 {β:Type}:∀(A:List IV) (x y z:IV) (B:List IV) (a b c:FV) (k:List IV→Option β),D6 (A++x::y::z::B) A.length [a,b,c] k=k (A++.fv a :: .fv b :: .fv c::B)
 | [],x,y,z,B,a,b,c,k=>rfl
 | w::A,x,y,z,B,a,b,c,k=>by
  show D6 (A++x::y::z::B) A.length [a,b,c] (fun t=>k (w::t))=_
  rw [O0 A];rfl
theorem AmU {β:Type} (done:List Tm) (r:Nat) (o n:Int) (ks:List Tm) (k:List IV→Option β):D6 (B6 done (r+1)) (done.length * 3) [.int .i64 o,.int .i64 n,.sl (ks.map Tm.enc)] k=k (B6 (done++[.mk o n ks]) r):=by
 have h:=O0 (β:=β) ((De done).map .fv) (iv 0) (iv 0) .nils (MQ r) (.int .i64 o) (.int .i64 n) (.sl (ks.map Tm.enc)) k;rw [List.length_map,Nw,Nat.mul_comm] at h;refine h.trans ?_;congr 1;unfold B6;rw [Vq];simp [Tm.op,Tm.n,Tm.kids,iv]
theorem AsH {β:Type}:∀(ts:List Tm) (k:List FV→Option β),chK 3 ts.length (De ts) k=k (ts.map Tm.enc)
 | [],k=>rfl
 | .mk o n ks::l,k=>by
  show (FL (De (.mk o n ks::l)) 3 fun a=>FA (De (.mk o n ks::l)) 3 fun b=>AcI a fun x=>chK 3 l.length b fun xs=>k (x::xs))=_
  rw [De,t3,d3]
  show (chK 3 l.length (De l) fun xs=>k (.agg [.int .i64 o,.int .i64 n,.sl (ks.map Tm.enc)]::xs))=_
  rw [AsH l,Axg,An]
theorem Atg (n:Nat):OL n [iv 0,iv 0,.nils]=B6 [] n:=by
 induction n with
 | zero=>rfl
 | succ n ih=>rw [OL,ih];rfl
theorem AtF {n:Nat} (hn:n≤1000) (s:Nat) (own:List (Nat×Blk)) (ext:List Blk) (k:IV→Hp→List Ref→List Ref→Option (IV×Hp)) :
  Ay (BS EE s 28 (iv n) (iv n)) s ⟨own,ext⟩ k=CF own s (A2 own s (.row (B6 [] n) false) fun own=>k (.slc (.own s) 3 n) ⟨own,ext⟩ [] [.own s]):=by
 have:BS EE s 28 (iv n) (iv n)=.ret { eff:={ val:=.slc (.own s) 3 n },new:=some (.row (B6 [] n) false) }:=by
  simp only [BS,TN,tTm,UO];rw [if_pos ⟨by omega,by omega,by omega,by decide,by decide⟩,Int.toNat_natCast,Atg]
 rw [this];unfold Ay;simp only [Rd.runLog,Jd,CD,Ci];rfl
theorem Agr {β:Type} {n i:Nat} (h:i<n) (r:Ref) (k:IV→Option β):AT 3 (.slc r 3 n) (iv i) k=k (.ptr r (i * 3)):=by
 have e1:Nat.ble (Nat.succ i) n=true:=by rw [Bl];exact decide_eq_true h
 show (cond (and (Nat.ble (Nat.succ i) n) (Nat.beq 3 3)) (D0 (i * 3) fun o=>k (.ptr r o)) none)=_
 rw [e1];simp only [BO];rfl
theorem OC (ts:List Tm) (r:Nat):(B6 ts r).all Fl=true:=by
 unfold B6;rw [List.all_append,Ff,Bool.true_and]
 induction r with
 | zero=>rfl
 | succ r ih=>rw [MQ,List.all_cons,List.all_cons,List.all_cons,ih];rfl
theorem JW (s:Nat) (ts:List Tm) (r:Nat):(B6 ts r).any (Cc s)=false:=by
 unfold B6;rw [List.any_append,Dr,Bool.false_or]
 induction r with
 | zero=>rfl
 | succ r ih=>rw [MQ,List.any_cons,List.any_cons,List.any_cons,ih];rfl
theorem AjC {s d:Nat} {ts:List Tm} {ro:Bool} {own:List (Nat×Blk)} {ext:List Blk} (hl:Aq s own=some (.row (B6 ts 0) ro)) (hn:ts.length≤100) (lg:List Ref) (e:Option (IV×Hp))
  (k:FV→List (Ref×Blk)→List Ref→Option (IV×Hp)):EU (d+2) (.slc (.own s) 3 ts.length) ⟨own,ext⟩ lg e k=k (.sl (ts.map Tm.enc)) [(.own s,.row (B6 ts 0) true)] (.own s::lg):=by
 have hlen:(B6 ts 0).length=3 * ts.length:=by simp [B6,MQ,Nw]
 show (C5 (.own s) ⟨own,ext⟩ fun b=>D7 b fun cells=>cond (Nat.ble cells.length 300) (cond (or (Nat.beq 3 0) (not (Nat.ble (ts.length * 3) cells.length))) none
  (C3 (EU (d+1)) cells ⟨own,ext⟩ (.own s::lg) e fun cs u lg=>chK 3 ts.length cs fun els=>k (.sl els) ((.own s,.row cells true)::u) lg)) e)=_
 rw [LV,BB,hl];simp only [Option.bind_some,Js];rw [hlen,Bl,decide_eq_true (by omega),c_t,Bl,decide_eq_true (by omega)];simp only [Bool.not_true]
 show (C3 (EU (d+1)) (B6 ts 0) ⟨own,ext⟩ (.own s::lg) e fun cs u lg=>chK 3 ts.length cs fun els=>k (.sl els) ((.own s,.row (B6 ts 0) true)::u) lg)=_
 rw [show B6 ts 0=(De ts).map .fv by simp [B6,MQ],P3,AsH]
theorem Ar9 {s:Nat} {ts:List Tm} {ro:Bool} {a b:FV} {own:List (Nat×Blk)} {ext:List Blk} (hl:Aq s own=some (.row (B6 ts 0) ro)) (hn:ts.length≤100) (lg:List Ref) (e:Option (IV×Hp))
  (k:FV→List (Ref×Blk)→List Ref→Option (IV×Hp)):EU 12 (.agg [.fv a,.fv b,.slc (.own s) 3 ts.length]) ⟨own,ext⟩ lg e k=k (.agg [a,b,.sl (ts.map Tm.enc)]) [(.own s,.row (B6 ts 0) true)] (.own s::lg):=by
 rw [AoG,show Nat.ble [IV.fv a,.fv b,.slc (.own s) 3 ts.length].length 300=true from rfl,c_t,fl1,LK,fl1,LK,fl1,AjC (d:=9) hl hn,fl0]
 rfl
theorem He {β:Type} (o p:Int) (l:List FV) (r:List FV) (k:IV→Option β):AT 3 (.fv (.sl (.agg [.int .i64 o,.int .i64 p,.sl l]::r))) (iv 0) k=k (.fv (.fp [.int .i64 o,.int .i64 p,.sl l] 0)):=by
 have h:(.agg [.int .i64 o,.int .i64 p,.sl l]::r:List FV)[0]?=some (.agg [.int .i64 o,.int .i64 p,.sl l]):=rfl
 have:=Bz (β:=β) h (Bg _ _ _) k
 rw [Cb] at this;exact this
theorem HE {β:Type} (a:FV) (o p:Int) (l:List FV) (r:List FV) (k:IV→Option β):AT 3 (.fv (.sl (a :: .agg [.int .i64 o,.int .i64 p,.sl l]::r))) (iv 1) k=k (.fv (.fp [.int .i64 o,.int .i64 p,.sl l] 0)):=by
 have h:(a :: .agg [.int .i64 o,.int .i64 p,.sl l]::r:List FV)[1]?=some (.agg [.int .i64 o,.int .i64 p,.sl l]):=rfl
 have:=Bz (β:=β) h (Bg _ _ _) k
 rw [Cb] at this;exact this
theorem L3 {β:Type} (a b:FV) (o p:Int) (l:List FV) (r:List FV) (k:IV→Option β):AT 3 (.fv (.sl (a::b :: .agg [.int .i64 o,.int .i64 p,.sl l]::r))) (iv 2) k=k (.fv (.fp [.int .i64 o,.int .i64 p,.sl l] 0)):=by
 have h:(a::b :: .agg [.int .i64 o,.int .i64 p,.sl l]::r:List FV)[2]?=some (.agg [.int .i64 o,.int .i64 p,.sl l]):=rfl
 have:=Bz (β:=β) h (Bg _ _ _) k
 rw [Cb] at this;exact this
theorem Aka (w:FV) (own:List (Nat×Blk)):Agy (some (.fv w,⟨own,[]⟩)) w:=⟨_,own,rfl,AmV w own⟩
mutual
def Tm.chk:Tm→Int→Int→Int×Int
 | .mk op m l,n,d=>if 3000<n+1∨120<d then (n+1,5) else if Bo op≠(l.length:Int)∨ML op m=false then (n+1,1) else Tm.chkL l (n+1) (d+1)
def Tm.chkL:List Tm→Int→Int→Int×Int
 | [],n,_=>(n,0)
 | t::l,n,d=>if (t.chk n d).2=0 then Tm.chkL l (t.chk n d).1 d else t.chk n d
end
mutual
theorem AbP:∀(t:Tm) (n d:Int),n≤3000→n≤(t.chk n d).1∧(t.chk n d).1≤3001∧((t.chk n d).2=0→(t.chk n d).1=n+t.wt∧(t.chk n d).1≤3000∧d≤120)
 | .mk op m l,n,d,hn=>by
  rw [Tm.chk];split
  ·simp;omega
  ·split
   ·simp;omega
   ·have:=chkL_b l (n+1) (d+1) (by omega)
    simp only [Tm.wt];omega
theorem chkL_b:∀(l:List Tm) (n d:Int),n≤3000→n≤(Tm.chkL l n d).1∧(Tm.chkL l n d).1≤3001∧((Tm.chkL l n d).2=0→(Tm.chkL l n d).1=n+Tm.wtL l∧(Tm.chkL l n d).1≤3000)
 | [],n,d,hn=>by simp [Tm.chkL,Tm.wtL];omega
 | t::l,n,d,hn=>by
  have h1:=AbP t n d hn;rw [Tm.chkL];split
  ·rename_i h0;have h2:=chkL_b l (t.chk n d).1 d (by omega);simp only [Tm.wtL];omega
  ·rename_i h0;simp only [Tm.wtL];omega
end
abbrev HW (op m:Int) (ks:List Tm) (N E:Int):Hp:=⟨[(66060288,.row [iv op,iv m,.fv (.sl (ks.map Tm.enc))] false)],[.row [iv N,iv E] false]⟩
theorem KC (op:Int):Bo op≤4:=by
 rcases Ni op with h | h
 ·exact XS (P:=fun op=>Bo op≤4) (by
                         intro k hk;have:∀k:Fin 31,Bo (k.val:Int)≤4:=by decide
                         exact this ⟨k,hk⟩) h
 ·rw [LF h];omega
theorem Aiz:∀(n:Nat) (t:Tm) (N d:Int),2 * t.wt+2<n→0≤N→N≤3000→0≤d→d≤121 →
  Bm (SS dt n 63 [.ptr (.ext 0) 0,.fv t.enc,iv d] ⟨[],[.row [iv N,iv 0] false]⟩) (.tuple []) [.row [iv (t.chk N d).1,iv (t.chk N d).2] false]:=by
 intro n
 induction n using Nat.strongRecOn with
 | ind n ih =>
  intro t N d hn h0 hN hd0 hd;obtain ⟨op,m,ks⟩:=t;simp only [Tm.wt] at hn;obtain ⟨n,rfl⟩:∃k,n=k+1:=⟨n - 1,by omega⟩;rw [c63,An];have hlen:=EW ks;have hw:BA (N+1)=N+1:=by rw [Ax]<;>omega
  have hwd:BA (d+1)=d+1:=by rw [Ax]<;>omega
  have ha:=NO (n:=n) (by omega) op;have hb:=Acz (n:=n) (by omega) op m;have hl:∀(N' E':Int) (r:Int×Int),N'≤3000∨E'≠0→0≤N'→(E'=0→ks.length≤4∧r=Tm.chkL ks N' (d+1)∧d≤120)→(E'≠0→r=(N',E')) →
    Bm (By n (fun q20 l21 h22=>JL l21 h22 (SS dt n) q20) [.ptr (.ext 0) 0,iv d,.ptr (.own 66060288) 0,iv 0] (HW op m ks N' E')) (.tuple []) [.row [iv r.1,iv r.2] false]:=by
   intro N' E' r hN' hN0 h1 h2;refine Bb (Q:=fun r'=>Bm r' _ _) (fun k V H=>∃pre rest N2 E2,ks=pre++rest∧rest.length=k∧V=[.ptr (.ext 0) 0,iv d,.ptr (.own 66060288) 0,iv pre.length]∧H=HW op m ks N2 E2 ∧
    0≤N2∧(E2=0→N2≤3000∧ks.length≤4∧r=Tm.chkL rest N2 (d+1)∧d≤120)∧(E2≠0→r=(N2,E2))) ?_ n ks.length _ _ (by omega) ⟨[],ks,N',E',rfl,rfl,rfl,rfl,hN0,fun e=>⟨by rcases hN' with h | h;exact h;exact absurd e h,h1 e⟩,h2⟩
   rintro k V H rec ⟨pre,rest,N2,E2,hk,hkl,rfl,rfl,hN2,hok,hbad⟩ hrec;have hkk:ks.length=pre.length+rest.length:=by rw [hk];simp
   cases rest with
   | nil =>
    have hno:¬ ((pre.length:Int)<ks.length):=by rw [hkk];simp
    have:r=(N2,E2):=by
     by_cases he:E2=0
     ·rw [(hok he).2.2.1,he];rfl
     ·exact hbad he
    rw [this];simp only [KP,JF,KT,K5,JL,KW,Kl,Ku,Kc,JT,JE,KA,Kf,Kh,JR,S63,↓XX,XY,↓reduceIte,Nat.reduceBEq,Nat.reduceAdd,Int.reduceEq,Int.reduceLT,Int.reduceLE,hno];exact EV rfl _ _
   | cons t rest =>
    have hi:(pre.length:Int)<ks.length:=by rw [hkk];simp;omega
    by_cases he:E2=0
    ·subst he;obtain ⟨hb1,hb2,hr,hd2⟩:=hok rfl;have hg:=Cu hk;have htw:=CX (t:=t) (l:=ks) (by rw [hk];simp);have hc:=ih n (by omega) t N2 (d+1) (by omega) hN2 hb1 (by omega) (by omega);have hcb:=AbP t N2 (d+1) hb1;have hwi:BA ((pre.length:Int)+1)=((pre++[t]).length:Int):=(Ax (by omega) (by omega)).trans (by simp);rw [Tm.chkL] at hr;have h9:=hrec rest.length [.ptr (.ext 0) 0,iv d,.ptr (.own 66060288) 0,iv (pre++[t]).length] (HW op m ks (t.chk N2 (d+1)).1 (t.chk N2 (d+1)).2) (by simp only [Axe] at hkl;omega)
      ⟨pre++[t],rest,_,_,by rw [hk];simp,rfl,rfl,rfl,by omega,fun e=>⟨(hcb.2.2 e).2.1,hb2,by rw [hr,if_pos e],hd2⟩,fun e=>by rw [hr,if_neg e]⟩
     generalize t.chk N2 (d+1)=q at hc h9;obtain ⟨o,p,l⟩:=t;rw [An] at hc;simp only [KP,JF,KT,K5,JL,KW,Kl,Ku,Kc,JT,JE,KA,Kf,Kh,JR,S63,↓XX,XY,↓reduceIte,Nat.reduceBEq,Nat.reduceAdd,Int.reduceEq,Int.reduceLT,Int.reduceLE,hi,↓Bz (AQ hg) (Bg _ _ _),↓Cb,hwd,↓Jl hc (Atj _ _ _ _),hwi];exact h9
    ·rw [hbad he];simp only [KP,JF,KT,K5,JL,KW,Kl,Ku,Kc,JT,JE,KA,Kf,Kh,JR,S63,↓XX,XY,↓reduceIte,Nat.reduceBEq,Nat.reduceAdd,Int.reduceEq,Int.reduceLT,Int.reduceLE,hi,he];exact EV rfl _ _
  rw [Tm.chk];by_cases c1:3000<N+1
  ·have hx:=hl (N+1) 5 (N+1,5) (.inr (by decide)) (by omega) (fun e=>absurd e (by decide)) (fun _=>rfl);rw [if_pos (.inl c1)];simp only [↓UU5,↓XX,XY,↓reduceIte,Nat.reduceBEq,Nat.reduceAdd,Int.reduceEq,Int.reduceLT,Int.reduceLE,hw,c1];exact hx
  ·by_cases c2:120<d
   ·have hx:=hl (N+1) 5 (N+1,5) (.inr (by decide)) (by omega) (fun e=>absurd e (by decide)) (fun _=>rfl);rw [if_pos (.inr c2)];simp only [↓UU5,↓XX,XY,↓reduceIte,Nat.reduceBEq,Nat.reduceAdd,Int.reduceEq,Int.reduceLT,Int.reduceLE,hw,c1,c2];exact hx
   ·rw [if_neg (by omega)];by_cases c3:Bo op=(ks.length:Int)
    ·have hx1:=hl (N+1) 1 (N+1,1) (.inr (by decide)) (by omega) (fun e=>absurd e (by decide)) (fun _=>rfl);have hk4:=KC op;have hx0:=hl (N+1) 0 (Tm.chkL ks (N+1) (d+1)) (.inl (by omega)) (by omega) (fun _=>⟨by omega,rfl,by omega⟩) (fun e=>absurd rfl e);cases hnb:ML op m
     ·rw [hnb] at hb;rw [if_pos (.inr rfl)];simp only [↓UU5,↓XX,XY,↓reduceIte,Nat.reduceBEq,Nat.reduceAdd,Int.reduceEq,Int.reduceLT,Int.reduceLE,hw,c1,c2,↓Av ha,c3,↓Aj hb];exact hx1
     ·rw [hnb] at hb;rw [if_neg (by simp [c3])];simp only [↓UU5,↓XX,XY,↓reduceIte,Nat.reduceBEq,Nat.reduceAdd,Int.reduceEq,Int.reduceLT,Int.reduceLE,hw,c1,c2,↓Av ha,c3,↓Aj hb];exact hx0
    ·have hx1:=hl (N+1) 1 (N+1,1) (.inr (by decide)) (by omega) (fun e=>absurd e (by decide)) (fun _=>rfl);rw [if_pos (.inl c3)];simp only [↓UU5,↓XX,XY,↓reduceIte,Nat.reduceBEq,Nat.reduceAdd,Int.reduceEq,Int.reduceLT,Int.reduceLE,hw,c1,c2,↓Av ha,c3];exact hx1
theorem Ug {n:Nat} (t:Tm) (hn:2 * t.wt+3<n):BE (SS dt n 35 [.fv t.enc] ⟨[],[]⟩) (.int .i64 (t.chk 0 1).2):=by
 obtain ⟨n,rfl⟩:∃k,n=k+1:=⟨n - 1,by omega⟩;rw [c35];have h:=Aiz n t 0 1 (by omega) (by omega) (by omega) (by omega) (by omega);generalize t.chk 0 1=q at h;obtain ⟨op,m,ks⟩:=t;rw [An] at h ⊢;have c2:=fun k=>Amd (k:=k) h (x:=.fv (.agg [.int .i64 op,.int .i64 m,.sl (ks.map Tm.enc)])) (y:=iv 1) (s:=36701185) rfl rfl
  (own:=[(36700160,.row [iv op,iv m,.fv (.sl (ks.map Tm.enc))] false),(36701185,.row [iv 0,iv 0] false)])
  (own':=[(36700160,.row [iv op,iv m,.fv (.sl (ks.map Tm.enc))] false),(36701185,.row [iv q.1,iv q.2] false)]) (by simp [Aq]) (by simp [AO])
 simp only [AgA,S35,↓XX,XY,↓reduceIte,Nat.reduceBEq,Nat.reduceAdd,Int.reduceEq,Int.reduceLT,Int.reduceLE,↓c2];exact Ao _ _
theorem TO (s:Nat) (h:Hp) (k:IV→Hp→List Ref→List Ref→Option (IV×Hp)):Ay (Mo EE 132 [(0,.fv (.int .i64 (-1))),(1,.fv (.int .i64 0)),(2,.fv (.int .i64 0)),(3,.fv (.int .i64 2)),(4,.fv (.int .i64 2)),(5,.fv (.int .i64 2)),(6,.fv (.int .i64 2)),(7,.fv (.int .i64 3)),(8,.fv (.int .i64 1)),(9,.fv (.int .i64 1)),(10,.fv (.int .i64 0)),(11,.fv (.int .i64 0)),(12,.fv (.int .i64 1)),(13,.fv (.int .i64 4)),(14,.fv (.int .i64 0)),(15,.fv (.int .i64 0)),(16,.fv (.int .i64 2)),(17,.fv (.int .i64 2)),(18,.fv (.int .i64 1)),(19,.fv (.int .i64 1)),(20,.fv (.int .i64 2)),(21,.fv (.int .i64 2)),(22,.fv (.int .i64 2)),(23,.fv (.int .i64 1)),(24,.fv (.int .i64 1)),(25,.fv (.int .i64 0)),(26,.fv (.int .i64 2)),(27,.fv (.int .i64 3)),(28,.fv (.int .i64 2)),(29,.fv (.int .i64 2)),(30,.fv (.int .i64 1))]) s h k=k (.fv (.agg [.int .i64 (-1),.int .i64 0,.int .i64 0,.int .i64 2,.int .i64 2,.int .i64 2,.int .i64 2,.int .i64 3,.int .i64 1,.int .i64 1,.int .i64 0,.int .i64 0,.int .i64 1,.int .i64 4,.int .i64 0,.int .i64 0,.int .i64 2,.int .i64 2,.int .i64 1,.int .i64 1,.int .i64 2,.int .i64 2,.int .i64 2,.int .i64 1,.int .i64 1,.int .i64 0,.int .i64 2,.int .i64 3,.int .i64 2,.int .i64 2,.int .i64 1])) h [] []:=by
 have:Mo EE 132 [(0,.fv (.int .i64 (-1))),(1,.fv (.int .i64 0)),(2,.fv (.int .i64 0)),(3,.fv (.int .i64 2)),(4,.fv (.int .i64 2)),(5,.fv (.int .i64 2)),(6,.fv (.int .i64 2)),(7,.fv (.int .i64 3)),(8,.fv (.int .i64 1)),(9,.fv (.int .i64 1)),(10,.fv (.int .i64 0)),(11,.fv (.int .i64 0)),(12,.fv (.int .i64 1)),(13,.fv (.int .i64 4)),(14,.fv (.int .i64 0)),(15,.fv (.int .i64 0)),(16,.fv (.int .i64 2)),(17,.fv (.int .i64 2)),(18,.fv (.int .i64 1)),(19,.fv (.int .i64 1)),(20,.fv (.int .i64 2)),(21,.fv (.int .i64 2)),(22,.fv (.int .i64 2)),(23,.fv (.int .i64 1)),(24,.fv (.int .i64 1)),(25,.fv (.int .i64 0)),(26,.fv (.int .i64 2)),(27,.fv (.int .i64 3)),(28,.fv (.int .i64 2)),(29,.fv (.int .i64 2)),(30,.fv (.int .i64 1))]=Idl.val (.fv (.agg [.int .i64 (-1),.int .i64 0,.int .i64 0,.int .i64 2,.int .i64 2,.int .i64 2,.int .i64 2,.int .i64 3,.int .i64 1,.int .i64 1,.int .i64 0,.int .i64 0,.int .i64 1,.int .i64 4,.int .i64 0,.int .i64 0,.int .i64 2,.int .i64 2,.int .i64 1,.int .i64 1,.int .i64 2,.int .i64 2,.int .i64 2,.int .i64 1,.int .i64 1,.int .i64 0,.int .i64 2,.int .i64 3,.int .i64 2,.int .i64 2,.int .i64 1])):=by kernel_rfl
 rw [this];exact gen_val' _ _ _ _
theorem Ae8 {n:Nat} {op:Int} (h:op<0∨30<op):BE (SS dt (n+1) 91 [iv op] ⟨[],[]⟩) (.int .i64 (-1)):=by
 rw [c91];by_cases h1:op<0
 ·simp only [Vd,S91,↓XX,XY,↓reduceIte,Nat.reduceBEq,Nat.reduceAdd,Int.reduceEq,Int.reduceLT,Int.reduceLE,↓TO,h1];exact Ao _ _
 ·have h2:31≤op:=by omega
  simp only [Vd,S91,↓XX,XY,↓reduceIte,Nat.reduceBEq,Nat.reduceAdd,Int.reduceEq,Int.reduceLT,Int.reduceLE,↓TO,h1,h2];exact Ao _ _
def Af1 (k:Int) (o:Option (IV×Hp)):Bool:=match o with
 | some (.fv (.int .i64 m),⟨_,[]⟩)=>decide (m=k)
 | _=>false
theorem Agh {k:Int} {o:Option (IV×Hp)} (h:Af1 k o=true):BE o (.int .i64 k):=by
 unfold Af1 at h;split at h
 ·have:=of_decide_eq_true h
  subst this;exact Ao _ _
 ·cases h
theorem Afc {n:Nat} (hn:0<n) (op:Int):BE (SS dt n 91 [iv op] ⟨[],[]⟩) (.int .i64 (Bo op)):=by
 obtain ⟨n,rfl⟩:∃k,n=k+1:=⟨n - 1,by omega⟩;rcases Ni op with h | h
 ·revert op
  refine fun op h=>XS (P:=fun op=>BE (SS dt (n+1) 91 [iv op] ⟨[],[]⟩) (.int .i64 (Bo op))) ?_ h;intro k hk
  iterate 31 (rcases k with _ | k;· exact Agh (by kernel_rfl))
  omega
 ·rw [LF h];exact Ae8 h
abbrev HC (op m:Int) (ks:List Tm) (N:Int):Hp:=⟨[(71303168,.row [iv op,iv m,.fv (.sl (ks.map Tm.enc))] false)],[.row [iv N] false]⟩
theorem Abj {base rm:List Nat} {vals:List IV} {own:List (Nat×Blk)} {a:FV} (hb:rm.any base.contains=false) (hf:AL rm vals own []=true) (k:Hp→Option (IV×Hp)) :
  Bs base rm vals ⟨own,[.row [.fv a] false]⟩ k=k ⟨Ho rm vals own [],[.row [.fv a] false]⟩:=Ago (by intro s;simp [Blk.refs,IV.refs.refsL,IV.refs]) hb hf k
theorem Ac6:∀(n:Nat) (t:Tm) (N d:Int),2 * t.wt+2<n→0≤N→N≤3000→0≤d→d≤121 →
  Bm (SS dt n 68 [.fv t.enc,.ptr (.ext 0) 0,iv d] ⟨[],[.row [iv N] false]⟩) (.int .i64 (t.chk N d).2) [.row [iv (t.chk N d).1] false]:=by
 intro n
 induction n using Nat.strongRecOn with
 | ind n ih =>
  intro t N d hn h0 hN hd0 hd;obtain ⟨op,m,ks⟩:=t;simp only [Tm.wt] at hn;obtain ⟨n,rfl⟩:∃k,n=k+1:=⟨n - 1,by omega⟩;rw [c68,An];have hlen:=EW ks;have hw:BA (N+1)=N+1:=by rw [Ax]<;>omega
  have hwd:BA (d+1)=d+1:=by rw [Ax]<;>omega
  have ha:=Afc (n:=n) (by omega) op;have hb:=Vk (n:=n) (by omega) op m;rw [Tm.chk];by_cases c1:3000<N+1
  ·rw [if_pos (.inl c1)];simp only [↓UU6,↓XX,XY,↓reduceIte,Nat.reduceBEq,Nat.reduceAdd,Int.reduceEq,Int.reduceLT,Int.reduceLE,hw,c1];exact AG _ _ _
  by_cases c2:120<d
  ·rw [if_pos (.inr c2)];simp only [↓UU6,↓XX,XY,↓reduceIte,Nat.reduceBEq,Nat.reduceAdd,Int.reduceEq,Int.reduceLT,Int.reduceLE,hw,c1,c2];exact AG _ _ _
  rw [if_neg (by omega)];by_cases c3:Bo op=(ks.length:Int)
  ·cases hnb:ML op m
   ·rw [hnb] at hb;rw [if_pos (.inr rfl)];simp only [↓UU6,↓XX,XY,↓reduceIte,Nat.reduceBEq,Nat.reduceAdd,Int.reduceEq,Int.reduceLT,Int.reduceLE,hw,c1,c2,↓Av ha,c3,↓Aj hb];exact AG _ _ _
   ·rw [hnb] at hb;have hk4:=KC op;rw [if_neg (by simp [c3])];simp only [RG,R8,Sa,Sm,QQ,Ra,RA,Q5,RK,R4,S68,↓XX,XY,↓reduceIte,Nat.reduceBEq,Nat.reduceAdd,Int.reduceEq,Int.reduceLT,Int.reduceLE,hw,c1,c2,↓Av ha,c3,↓Aj hb,↓Abj,↓AJ,XD,heldB,AL,XE];refine Bb (Q:=fun r'=>Bm r' _ _) (fun k V H=>∃pre rest N2,ks=pre++rest∧rest.length=k∧V=[.ptr (.ext 0) 0,iv d,.fv (.sl (ks.map Tm.enc)),iv ks.length,iv pre.length]∧H=HC op m ks N2 ∧
     0≤N2∧N2≤3000∧Tm.chkL rest N2 (d+1)=Tm.chkL ks (N+1) (d+1)) ?_ n ks.length _ _ (by omega) ⟨[],ks,N+1,rfl,rfl,rfl,rfl,by omega,by omega,rfl⟩
    rintro k V H rec ⟨pre,rest,N2,hk,hkl,rfl,rfl,hN2,hN3,hr⟩ hrec;have hkk:ks.length=pre.length+rest.length:=by rw [hk];simp
    cases rest with
    | nil =>
     have hno:¬ ((pre.length:Int)<ks.length):=by rw [hkk];simp
     rw [← hr];simp only [↓UU6,↓XX,XY,↓reduceIte,Nat.reduceBEq,Nat.reduceAdd,Int.reduceEq,Int.reduceLT,Int.reduceLE,hno,Tm.chkL];exact AG _ _ _
    | cons t rest =>
     have hi:(pre.length:Int)<ks.length:=by rw [hkk];simp;omega
     have hg:=Cu hk;have htw:=CX (t:=t) (l:=ks) (by rw [hk];simp);have hc:=ih n (by omega) t N2 (d+1) (by omega) hN2 hN3 (by omega) (by omega);have hcb:=AbP t N2 (d+1) hN3;have hwi:BA ((pre.length:Int)+1)=((pre++[t]).length:Int):=(Ax (by omega) (by omega)).trans (by simp);rw [Tm.chkL] at hr;rw [← hr];have h9:=fun e=>hrec rest.length [.ptr (.ext 0) 0,iv d,.fv (.sl (ks.map Tm.enc)),iv ks.length,iv (pre++[t]).length] (HC op m ks (t.chk N2 (d+1)).1) (by simp only [Axe] at hkl;omega)
      ⟨pre++[t],rest,_,by rw [hk];simp,rfl,rfl,rfl,by omega,(hcb.2.2 e).2.1,by rw [← hr,if_pos e]⟩
     rw [← hr] at h9;generalize t.chk N2 (d+1)=q at hc h9 ⊢;obtain ⟨q1,q2⟩:=q;simp only at hc h9 ⊢;obtain ⟨o,p,l⟩:=t;rw [An] at hc;by_cases he:q2=0
     ·subst he;simp only [if_true] at h9 ⊢;simp only [↓UU6,↓XX,XY,↓reduceIte,Nat.reduceBEq,Nat.reduceAdd,Int.reduceEq,Int.reduceLT,Int.reduceLE,hi,↓Bz (AQ hg) (Bg _ _ _),↓Cb,hwd,↓Ab7 hc (Amu _ _),hwi,↓Abj,↓AJ,XD,heldB,AL,XE];exact h9 trivial
     ·rw [if_neg he];simp only [↓UU6,↓XX,XY,↓reduceIte,Nat.reduceBEq,Nat.reduceAdd,Int.reduceEq,Int.reduceLT,Int.reduceLE,hi,↓Bz (AQ hg) (Bg _ _ _),↓Cb,hwd,↓Ab7 hc (Amu _ _),he];exact AG _ _ _
  ·rw [if_pos (.inl c3)];simp only [↓UU6,↓XX,XY,↓reduceIte,Nat.reduceBEq,Nat.reduceAdd,Int.reduceEq,Int.reduceLT,Int.reduceLE,hw,c1,c2,↓Av ha,c3];exact AG _ _ _
theorem Ac4 {n:Nat} (t:Tm) (hn:2 * t.wt+3<n):BE (SS dt n 40 [.fv t.enc] ⟨[],[]⟩) (.int .i64 (t.chk 0 1).2):=by
 obtain ⟨n,rfl⟩:∃k,n=k+1:=⟨n - 1,by omega⟩;rw [c40];have h:=Ac6 n t 0 1 (by omega) (by omega) (by omega) (by omega) (by omega);generalize t.chk 0 1=q at h;obtain ⟨op,m,ks⟩:=t;rw [An] at h ⊢;have c2:=fun k=>Aha (k:=k) h (x:=.fv (.agg [.int .i64 op,.int .i64 m,.sl (ks.map Tm.enc)])) (y:=iv 1) (s:=41944065) rfl rfl
  (own:=[(41943040,.row [iv op,iv m,.fv (.sl (ks.map Tm.enc))] false),(41944065,.row [iv 0] false)])
  (own':=[(41943040,.row [iv op,iv m,.fv (.sl (ks.map Tm.enc))] false),(41944065,.row [iv q.1] false)]) (by simp [Aq]) (by simp [AO])
 simp only [S40,↓XX,XY,↓reduceIte,Nat.reduceBEq,Nat.reduceAdd,Int.reduceEq,Int.reduceLT,Int.reduceLE,↓c2];exact Ao _ _
inductive RV where
 | mk (op n:Int) (k env:List RV) (b:Tm)
def Tm.z:Tm:=.mk 0 0 []
def RV.enc:RV→FV
 | .mk op n k env (.mk bo bn bk)=>.fp [.int .i64 op,.int .i64 n,.sl (encL k),.sl (encL env),.int .i64 bo,.int .i64 bn,.sl (bk.map Tm.enc)] 0
where
 encL:List RV→List FV
  | []=>[]
  | v::l=>v.enc::encL l
theorem AeB (l:List RV):RV.enc.encL l=l.map RV.enc:=by
 induction l with
 | nil=>rfl
 | cons t l ih=>simp [RV.enc.encL,ih]
theorem Ix (op n:Int) (k env:List RV) (bo bn:Int) (bk:List Tm):(RV.mk op n k env (.mk bo bn bk)).enc =
  .fp [.int .i64 op,.int .i64 n,.sl (k.map RV.enc),.sl (env.map RV.enc),.int .i64 bo,.int .i64 bn,.sl (bk.map Tm.enc)] 0:=by simp only [RV.enc,AeB]
def RV.op:RV→Int
 | .mk op _ _ _ _=>op
def RV.n:RV→Int
 | .mk _ n _ _ _=>n
def RV.k:RV→List RV
 | .mk _ _ k _ _=>k
def RV.env:RV→List RV
 | .mk _ _ _ env _=>env
def RV.b:RV→Tm
 | .mk _ _ _ _ b=>b
def RV.var (n:Int):RV:=.mk 1 n [] [] .z
def RV.clo (env:List RV) (b:Tm):RV:=.mk 0 0 [] env b
def RV.zero:RV:=.mk 11 0 [] [] .z
def RV.node (op n:Int) (k:List RV):RV:=.mk op n k [] .z
theorem Mv (v:RV):v.enc=.fp [.int .i64 v.op,.int .i64 v.n,.sl (v.k.map RV.enc),.sl (v.env.map RV.enc),.int .i64 v.b.op,.int .i64 v.b.n,.sl (v.b.kids.map Tm.enc)] 0:=by
 obtain ⟨op,n,k,env,⟨bo,bn,bk⟩⟩:=v;exact Ix ..
theorem UG (t:Tm):Tm.enc t=.agg [.int .i64 t.op,.int .i64 t.n,.sl (t.kids.map Tm.enc)]:=by cases t;exact An ..
theorem Nj (v:RV):v.enc.cells.length=1:=by obtain ⟨op,n,k,env,⟨bo,bn,bk⟩⟩:=v;rfl
theorem TE (v:RV):v.enc.cells.all FV.one=true:=by obtain ⟨op,n,k,env,⟨bo,bn,bk⟩⟩:=v;rfl
theorem Acx (v:RV):v.enc.cells=[v.enc]:=by obtain ⟨op,n,k,env,⟨bo,bn,bk⟩⟩:=v;rfl
theorem tVs:EE.T 114=some ⟨1,24,.slice 84,[.nils]⟩:=by kernel_rfl
theorem tVp:EE.T 84=some ⟨1,8,.ptr,[.fv .nilp]⟩:=by kernel_rfl
theorem sV:SliceT EE 114 1:=⟨_,_,_,_,_,tVs,tVp,rfl,by decide,by decide⟩
theorem Jq (l:List RV):BC 1 (l.map RV.enc)=true:=by
 cases l with
 | nil=>rfl
 | cons a l=>simp only [Axg,BC,Nj,beq_self_eq_true]
theorem Amx (s:Nat) (h:Hp) (k:IV→Hp→List Ref→List Ref→Option (IV×Hp)):Ay (Ak EE 114 0 []) s h k=k (.clip []) h [] [] :=
 Cl tVs tVp (by decide) (cells:=[]) rfl k
theorem Up (a:RV) (s:Nat) (h:Hp) (k:IV→Hp→List Ref→List Ref→Option (IV×Hp)):Ay (Ak EE 114 1 [(0,.fv a.enc)]) s h k=k (.clip [a.enc]) h [] []:=by
 obtain ⟨op,n,kk,env,⟨bo,bn,bk⟩⟩:=a;rw [Ix];exact Cl tVs tVp (by decide) (cells:=[.fp [.int .i64 op,.int .i64 n,.sl (kk.map RV.enc),.sl (env.map RV.enc),.int .i64 bo,.int .i64 bn,.sl (bk.map Tm.enc)] 0]) rfl k
theorem Atb (a b:RV) (s:Nat) (h:Hp) (k:IV→Hp→List Ref→List Ref→Option (IV×Hp)):Ay (Ak EE 114 2 [(0,.fv a.enc),(1,.fv b.enc)]) s h k=k (.clip [a.enc,b.enc]) h [] []:=by
 obtain ⟨op,n,kk,env,⟨bo,bn,bk⟩⟩:=a;obtain ⟨op',n',kk',env',⟨bo',bn',bk'⟩⟩:=b;rw [Ix,Ix];exact Cl tVs tVp (by decide) (cells:=[.fp [.int .i64 op,.int .i64 n,.sl (kk.map RV.enc),.sl (env.map RV.enc),.int .i64 bo,.int .i64 bn,.sl (bk.map Tm.enc)] 0,.fp [.int .i64 op',.int .i64 n',.sl (kk'.map RV.enc),.sl (env'.map RV.enc),.int .i64 bo',.int .i64 bn',.sl (bk'.map Tm.enc)] 0]) rfl k
theorem Arz (a b c d:RV) (s:Nat) (h:Hp) (k:IV→Hp→List Ref→List Ref→Option (IV×Hp)):Ay (Ak EE 114 4 [(0,.fv a.enc),(1,.fv b.enc),(2,.fv c.enc),(3,.fv d.enc)]) s h k =
  k (.clip [a.enc,b.enc,c.enc,d.enc]) h [] []:=by
 have key:∀x:RV,∃l,x.enc=.fp l 0:=fun x=>⟨_,Mv x⟩;obtain ⟨la,ha⟩:=key a;obtain ⟨lb,hb⟩:=key b;obtain ⟨lc,hc⟩:=key c;obtain ⟨ld,hd⟩:=key d;rw [ha,hb,hc,hd];exact Cl tVs tVp (by decide) (cells:=[.fp la 0,.fp lb 0,.fp lc 0,.fp ld 0]) rfl k
theorem Ad7 (e:RV) (s:Nat) (own:List (Nat×Blk)) (ext:List Blk) (k:IV→Hp→List Ref→List Ref→Option (IV×Hp)) :
  Ay (AS EE s false .append [114,114] [.nils,.clip [e.enc]]) s ⟨own,ext⟩ k=CF own s (A2 own s (.tok 1 1) fun own=>k (.app (.own s) [e.enc]) ⟨own,ext⟩ [] [.own s]) :=
 KG sV (.clip _) (Jq [e]) rfl (by simp) (.inl rfl) s own ext k
theorem UB {es:List RV} (hb:es.length+1≤1000000) (e:RV) (r s:Nat) (own:List (Nat×Blk)) (ext:List Blk) (k:IV→Hp→List Ref→List Ref→Option (IV×Hp)) :
  Ay (AS EE s false .append [114,114] [.app (.own r) (es.map RV.enc),.clip [e.enc]]) s ⟨own,ext⟩ k =
   Gu own r fun b=>AgZ b es.length 1 (A2 own r (.tok (es.length+1) 1) fun own=>k (.app (.own r) ((es++[e]).map RV.enc)) ⟨own,ext⟩ [.own r] [.own r]):=by
 rw [Po sV (.clip [e.enc]) (Jq [e]) (Jq es) (by simp [TE]) (by simpa using hb) r s own ext k];simp only [List.length_map,List.map_append,Axg,Axf,Axe,List.length_nil,Nat.zero_add]
theorem Sl {n:Nat} (hn:0<n) (env vs:List RV) (hv:vs≠[]) (hb:env.length+vs.length≤1000000):BE (SS dt n 87 [.fv (.sl (env.map RV.enc)),.fv (.sl (vs.map RV.enc))] ⟨[],[]⟩) (.sl ((env++vs).map RV.enc)):=by
 obtain ⟨n,rfl⟩:∃k,n=k+1:=⟨n - 1,by omega⟩;rw [c87];have hvs:(vs.map RV.enc).isEmpty=false:=by cases vs with
  | nil=>exact absurd rfl hv
  | cons _ _=>rfl
 cases env with
 | nil =>
  simp only [S87,↓XX,XY,↓reduceIte,Nat.reduceBEq,Nat.reduceAdd,Int.reduceEq,Int.reduceLT,Int.reduceLE,↓Amx,↓Am3 sV (.sl []) (.inr rfl),↓KG sV (.sl (vs.map RV.enc)) (Jq vs) hvs (by simp;simp at hb;omega) (.inr rfl),List.nil_append];exact Ba rfl _
 | cons a env =>
  simp only [S87,↓XX,XY,↓reduceIte,Nat.reduceBEq,Nat.reduceAdd,Int.reduceEq,Int.reduceLT,Int.reduceLE,↓Amx];have h1:((a::env).map RV.enc).isEmpty=false:=rfl;have h0:=fun {β:Type}=>KG (β:=β) sV (.sl ((a::env).map RV.enc)) (Jq (a::env)) h1 (by simp only [List.length_map];omega) (.inr rfl:IV.clip []=.nils∨IV.clip []=.clip []);have h2:=fun {β:Type}=>Po (β:=β) sV (.sl (vs.map RV.enc)) (Jq vs) (Jq (a::env)) (by simp [TE]) (by simp only [List.length_map];omega);simp only [Axg] at h0 h2;simp only [↓XX,XY,↓reduceIte,Nat.reduceBEq,Nat.reduceAdd,Int.reduceEq,Int.reduceLT,Int.reduceLE,↓h0,↓h2,↓Hd,List.map_append,List.cons_append];exact Ba rfl _
theorem Af4 {n:Nat} (hn:0<n) (s nd:Int) (h1:s≤1000000) (h0:0≤s):Bm (SS dt n 108 [.ptr (.ext 0) 0] ⟨[],[.row [iv s,iv nd,iv 0] false]⟩) (.bool (decide (s+1≤1000)))
  [.row [iv (s+1),iv nd,iv (if s+1≤1000 then 0 else 17)] false]:=by
 obtain ⟨n,rfl⟩:∃k,n=k+1:=⟨n - 1,by omega⟩;rw [Aut];have hw:BA (s+1)=s+1:=by rw [Ax]<;>omega
 by_cases h:s+1≤1000
 ·have h':¬ 1000<s+1:=by omega
  simp only [Q0,Rn,QO,QZ,Ac8,↓XX,XY,↓reduceIte,Nat.reduceBEq,Nat.reduceAdd,Int.reduceEq,Int.reduceLT,Int.reduceLE,hw,h,h'];exact AG _ _ _
 ·have h':1000<s+1:=by omega
  simp only [Q0,Rn,QO,QZ,Ac8,↓XX,XY,↓reduceIte,Nat.reduceBEq,Nat.reduceAdd,Int.reduceEq,Int.reduceLT,Int.reduceLE,hw,h,h'];exact AG _ _ _
end Idl
end Go.Proofs.Ytkfecngimlcfoaa

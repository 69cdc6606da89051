/-
  Texts of a proof, part 10: an ideal semantics of the program, its functions in shallow form, contracts of them. No statement of the seat is proved here.
-/
import Derived.KernelRfl
import Derived.Test.YtbkdidonegggdaaNormPartsK9
set_option linter.all false
noncomputable section
namespace Go.Proofs.Ytbkdidonegggdaa
namespace Idl
theorem Aen {f:Nat} {G:Aa→Nat→Hp→Option (IV×Hp)} (e:dt.call f=fun ih n=>Mn (G ih n)) (n:Nat) (h:Hp):SS dt (n+1) f [] h=G (SS dt n) n  h:=by
 show dt.call f (SS dt n) n _ h=_
 rw [e];rfl
theorem Cw {f:Nat} {G:Aa→Nat→IV→Hp→Option (IV×Hp)} (e:dt.call f=fun ih n=>Hf (G ih n)) (n:Nat) (a0:IV) (h:Hp):SS dt (n+1) f [a0] h=G (SS dt n) n a0 h:=by
 show dt.call f (SS dt n) n _ h=_
 rw [e];rfl
theorem BQ {f:Nat} {G:Aa→Nat→IV→IV→Hp→Option (IV×Hp)} (e:dt.call f=fun ih n=>Fd (G ih n)) (n:Nat) (a0 a1:IV) (h:Hp):SS dt (n+1) f [a0,a1] h=G (SS dt n) n a0 a1 h:=by
 show dt.call f (SS dt n) n _ h=_
 rw [e];rfl
theorem I7 {f:Nat} {G:Aa→Nat→IV→IV→IV→Hp→Option (IV×Hp)} (e:dt.call f=fun ih n=>Ub (G ih n)) (n:Nat) (a0 a1 a2:IV) (h:Hp):SS dt (n+1) f [a0,a1,a2] h=G (SS dt n) n a0 a1 a2 h:=by
 show dt.call f (SS dt n) n _ h=_
 rw [e];rfl
theorem D9 {f:Nat} {G:Aa→Nat→IV→IV→IV→IV→Hp→Option (IV×Hp)} (e:dt.call f=fun ih n=>KT (G ih n)) (n:Nat) (a0 a1 a2 a3:IV) (h:Hp):SS dt (n+1) f [a0,a1,a2,a3] h=G (SS dt n) n a0 a1 a2 a3 h:=by
 show dt.call f (SS dt n) n _ h=_
 rw [e];rfl
theorem c10 (n:Nat) (a0 a1 a2 a3:IV) (h:Hp):SS dt (n+1) 10 [a0,a1,a2,a3] h=S10 (SS dt n) n a0 a1 a2 a3 h:=D9 (show dt.call 10=fun ih n=>KT (S10 ih n) by kernel_rfl) ..
theorem c12 (n:Nat) (a0 a1 a2 a3:IV) (h:Hp):SS dt (n+1) 12 [a0,a1,a2,a3] h=S12 (SS dt n) n a0 a1 a2 a3 h:=D9 (show dt.call 12=fun ih n=>KT (S12 ih n) by kernel_rfl) ..
theorem c15 (n:Nat) (a0:IV) (h:Hp):SS dt (n+1) 15 [a0] h=S15 (SS dt n) n a0 h:=Cw (show dt.call 15=fun ih n=>Hf (S15 ih n) by kernel_rfl) ..
theorem c16 (n:Nat) (a0:IV) (h:Hp):SS dt (n+1) 16 [a0] h=S16 (SS dt n) n a0 h:=Cw (show dt.call 16=fun ih n=>Hf (S16 ih n) by kernel_rfl) ..
theorem c17 (n:Nat) (a0 a1 a2 a3:IV) (h:Hp):SS dt (n+1) 17 [a0,a1,a2,a3] h=S17 (SS dt n) n a0 a1 a2 a3 h:=D9 (show dt.call 17=fun ih n=>KT (S17 ih n) by kernel_rfl) ..
theorem c18 (n:Nat) (a0:IV) (h:Hp):SS dt (n+1) 18 [a0] h=S18 (SS dt n) n a0 h:=Cw (show dt.call 18=fun ih n=>Hf (S18 ih n) by kernel_rfl) ..
theorem c19 (n:Nat) (a0:IV) (h:Hp):SS dt (n+1) 19 [a0] h=S19 (SS dt n) n a0 h:=Cw (show dt.call 19=fun ih n=>Hf (S19 ih n) by kernel_rfl) ..
theorem c20 (n:Nat) (a0:IV) (h:Hp):SS dt (n+1) 20 [a0] h=S20 (SS dt n) n a0 h:=Cw (show dt.call 20=fun ih n=>Hf (S20 ih n) by kernel_rfl) ..
theorem c21 (n:Nat) (a0 a1:IV) (h:Hp):SS dt (n+1) 21 [a0,a1] h=S21 (SS dt n) n a0 a1 h:=BQ (show dt.call 21=fun ih n=>Fd (S21 ih n) by kernel_rfl) ..
theorem c22 (n:Nat) (a0:IV) (h:Hp):SS dt (n+1) 22 [a0] h=S22 (SS dt n) n a0 h:=Cw (show dt.call 22=fun ih n=>Hf (S22 ih n) by kernel_rfl) ..
theorem c24 (n:Nat) (a0:IV) (h:Hp):SS dt (n+1) 24 [a0] h=S24 (SS dt n) n a0 h:=Cw (show dt.call 24=fun ih n=>Hf (S24 ih n) by kernel_rfl) ..
theorem c25 (n:Nat) (a0 a1 a2:IV) (h:Hp):SS dt (n+1) 25 [a0,a1,a2] h=S25 (SS dt n) n a0 a1 a2 h:=I7 (show dt.call 25=fun ih n=>Ub (S25 ih n) by kernel_rfl) ..
theorem c26 (n:Nat) (a0 a1 a2 a3:IV) (h:Hp):SS dt (n+1) 26 [a0,a1,a2,a3] h=S26 (SS dt n) n a0 a1 a2 a3 h:=D9 (show dt.call 26=fun ih n=>KT (S26 ih n) by kernel_rfl) ..
theorem c27 (n:Nat) (a0 a1:IV) (h:Hp):SS dt (n+1) 27 [a0,a1] h=S27 (SS dt n) n a0 a1 h:=BQ (show dt.call 27=fun ih n=>Fd (S27 ih n) by kernel_rfl) ..
theorem c29 (n:Nat) (a0 a1 a2:IV) (h:Hp):SS dt (n+1) 29 [a0,a1,a2] h=S29 (SS dt n) n a0 a1 a2 h:=I7 (show dt.call 29=fun ih n=>Ub (S29 ih n) by kernel_rfl) ..
theorem c30 (n:Nat) (a0 a1 a2:IV) (h:Hp):SS dt (n+1) 30 [a0,a1,a2] h=S30 (SS dt n) n a0 a1 a2 h:=I7 (show dt.call 30=fun ih n=>Ub (S30 ih n) by kernel_rfl) ..
theorem c31 (n:Nat) (a0 a1 a2:IV) (h:Hp):SS dt (n+1) 31 [a0,a1,a2] h=S31 (SS dt n) n a0 a1 a2 h:=I7 (show dt.call 31=fun ih n=>Ub (S31 ih n) by kernel_rfl) ..
theorem c32 (n:Nat) (a0 a1 a2 a3:IV) (h:Hp):SS dt (n+1) 32 [a0,a1,a2,a3] h=S32 (SS dt n) n a0 a1 a2 a3 h:=D9 (show dt.call 32=fun ih n=>KT (S32 ih n) by kernel_rfl) ..
theorem c33 (n:Nat) (a0 a1:IV) (h:Hp):SS dt (n+1) 33 [a0,a1] h=S33 (SS dt n) n a0 a1 h:=BQ (show dt.call 33=fun ih n=>Fd (S33 ih n) by kernel_rfl) ..
theorem c34 (n:Nat) (a0:IV) (h:Hp):SS dt (n+1) 34 [a0] h=S34 (SS dt n) n a0 h:=Cw (show dt.call 34=fun ih n=>Hf (S34 ih n) by kernel_rfl) ..
theorem c35 (n:Nat) (a0:IV) (h:Hp):SS dt (n+1) 35 [a0] h=S35 (SS dt n) n a0 h:=Cw (show dt.call 35=fun ih n=>Hf (S35 ih n) by kernel_rfl) ..
theorem c37 (n:Nat) (a0 a1:IV) (h:Hp):SS dt (n+1) 37 [a0,a1] h=S37 (SS dt n) n a0 a1 h:=BQ (show dt.call 37=fun ih n=>Fd (S37 ih n) by kernel_rfl) ..
theorem c43 (n:Nat) (a0:IV) (h:Hp):SS dt (n+1) 43 [a0] h=S43 (SS dt n) n a0 h:=Cw (show dt.call 43=fun ih n=>Hf (S43 ih n) by kernel_rfl) ..
theorem c46 (n:Nat) (a0:IV) (h:Hp):SS dt (n+1) 46 [a0] h=S46 (SS dt n) n a0 h:=Cw (show dt.call 46=fun ih n=>Hf (S46 ih n) by kernel_rfl) ..
theorem c47 (n:Nat) (a0 a1:IV) (h:Hp):SS dt (n+1) 47 [a0,a1] h=S47 (SS dt n) n a0 a1 h:=BQ (show dt.call 47=fun ih n=>Fd (S47 ih n) by kernel_rfl) ..
theorem c48 (n:Nat) (a0 a1 a2 a3:IV) (h:Hp):SS dt (n+1) 48 [a0,a1,a2,a3] h=S48 (SS dt n) n a0 a1 a2 a3 h:=D9 (show dt.call 48=fun ih n=>KT (S48 ih n) by kernel_rfl) ..
theorem c49 (n:Nat) (a0 a1 a2:IV) (h:Hp):SS dt (n+1) 49 [a0,a1,a2] h=S49 (SS dt n) n a0 a1 a2 h:=I7 (show dt.call 49=fun ih n=>Ub (S49 ih n) by kernel_rfl) ..
theorem c50 (n:Nat) (a0:IV) (h:Hp):SS dt (n+1) 50 [a0] h=S50 (SS dt n) n a0 h:=Cw (show dt.call 50=fun ih n=>Hf (S50 ih n) by kernel_rfl) ..
theorem c51 (n:Nat) (h:Hp):SS dt (n+1) 51 [] h=S51 (SS dt n) n  h:=Aen (show dt.call 51=fun ih n=>Mn (S51 ih n) by kernel_rfl) ..
theorem c52 (n:Nat) (a0 a1 a2:IV) (h:Hp):SS dt (n+1) 52 [a0,a1,a2] h=S52 (SS dt n) n a0 a1 a2 h:=I7 (show dt.call 52=fun ih n=>Ub (S52 ih n) by kernel_rfl) ..
theorem c53 (n:Nat) (a0 a1 a2 a3:IV) (h:Hp):SS dt (n+1) 53 [a0,a1,a2,a3] h=S53 (SS dt n) n a0 a1 a2 a3 h:=D9 (show dt.call 53=fun ih n=>KT (S53 ih n) by kernel_rfl) ..
theorem c54 (n:Nat) (a0 a1 a2:IV) (h:Hp):SS dt (n+1) 54 [a0,a1,a2] h=S54 (SS dt n) n a0 a1 a2 h:=I7 (show dt.call 54=fun ih n=>Ub (S54 ih n) by kernel_rfl) ..
theorem c55 (n:Nat) (a0 a1:IV) (h:Hp):SS dt (n+1) 55 [a0,a1] h=S55 (SS dt n) n a0 a1 h:=BQ (show dt.call 55=fun ih n=>Fd (S55 ih n) by kernel_rfl) ..
theorem c56 (n:Nat) (h:Hp):SS dt (n+1) 56 [] h=S56 (SS dt n) n  h:=Aen (show dt.call 56=fun ih n=>Mn (S56 ih n) by kernel_rfl) ..
theorem c57 (n:Nat) (a0:IV) (h:Hp):SS dt (n+1) 57 [a0] h=S57 (SS dt n) n a0 h:=Cw (show dt.call 57=fun ih n=>Hf (S57 ih n) by kernel_rfl) ..
theorem c58 (n:Nat) (a0 a1:IV) (h:Hp):SS dt (n+1) 58 [a0,a1] h=S58 (SS dt n) n a0 a1 h:=BQ (show dt.call 58=fun ih n=>Fd (S58 ih n) by kernel_rfl) ..
theorem c59 (n:Nat) (a0 a1 a2 a3:IV) (h:Hp):SS dt (n+1) 59 [a0,a1,a2,a3] h=S59 (SS dt n) n a0 a1 a2 a3 h:=D9 (show dt.call 59=fun ih n=>KT (S59 ih n) by kernel_rfl) ..
theorem c60 (n:Nat) (a0 a1 a2 a3:IV) (h:Hp):SS dt (n+1) 60 [a0,a1,a2,a3] h=S60 (SS dt n) n a0 a1 a2 a3 h:=D9 (show dt.call 60=fun ih n=>KT (S60 ih n) by kernel_rfl) ..
theorem c61 (n:Nat) (a0 a1 a2 a3:IV) (h:Hp):SS dt (n+1) 61 [a0,a1,a2,a3] h=S61 (SS dt n) n a0 a1 a2 a3 h:=D9 (show dt.call 61=fun ih n=>KT (S61 ih n) by kernel_rfl) ..
theorem c62 (n:Nat) (a0 a1 a2 a3:IV) (h:Hp):SS dt (n+1) 62 [a0,a1,a2,a3] h=S62 (SS dt n) n a0 a1 a2 a3 h:=D9 (show dt.call 62=fun ih n=>KT (S62 ih n) by kernel_rfl) ..
theorem c63 (n:Nat) (a0 a1:IV) (h:Hp):SS dt (n+1) 63 [a0,a1] h=S63 (SS dt n) n a0 a1 h:=BQ (show dt.call 63=fun ih n=>Fd (S63 ih n) by kernel_rfl) ..
theorem c64 (n:Nat) (a0 a1 a2 a3:IV) (h:Hp):SS dt (n+1) 64 [a0,a1,a2,a3] h=S64 (SS dt n) n a0 a1 a2 a3 h:=D9 (show dt.call 64=fun ih n=>KT (S64 ih n) by kernel_rfl) ..
theorem c68 (n:Nat) (a0 a1:IV) (h:Hp):SS dt (n+1) 68 [a0,a1] h=S68 (SS dt n) n a0 a1 h:=BQ (show dt.call 68=fun ih n=>Fd (S68 ih n) by kernel_rfl) ..
theorem c69 (n:Nat) (a0 a1:IV) (h:Hp):SS dt (n+1) 69 [a0,a1] h=S69 (SS dt n) n a0 a1 h:=BQ (show dt.call 69=fun ih n=>Fd (S69 ih n) by kernel_rfl) ..
theorem c70 (n:Nat) (a0 a1:IV) (h:Hp):SS dt (n+1) 70 [a0,a1] h=S70 (SS dt n) n a0 a1 h:=BQ (show dt.call 70=fun ih n=>Fd (S70 ih n) by kernel_rfl) ..
theorem c71 (n:Nat) (a0:IV) (h:Hp):SS dt (n+1) 71 [a0] h=S71 (SS dt n) n a0 h:=Cw (show dt.call 71=fun ih n=>Hf (S71 ih n) by kernel_rfl) ..
theorem c72 (n:Nat) (a0 a1:IV) (h:Hp):SS dt (n+1) 72 [a0,a1] h=S72 (SS dt n) n a0 a1 h:=BQ (show dt.call 72=fun ih n=>Fd (S72 ih n) by kernel_rfl) ..
theorem c73 (n:Nat) (a0 a1:IV) (h:Hp):SS dt (n+1) 73 [a0,a1] h=S73 (SS dt n) n a0 a1 h:=BQ (show dt.call 73=fun ih n=>Fd (S73 ih n) by kernel_rfl) ..
theorem c74 (n:Nat) (a0 a1:IV) (h:Hp):SS dt (n+1) 74 [a0,a1] h=S74 (SS dt n) n a0 a1 h:=BQ (show dt.call 74=fun ih n=>Fd (S74 ih n) by kernel_rfl) ..
theorem c75 (n:Nat) (a0 a1:IV) (h:Hp):SS dt (n+1) 75 [a0,a1] h=S75 (SS dt n) n a0 a1 h:=BQ (show dt.call 75=fun ih n=>Fd (S75 ih n) by kernel_rfl) ..
theorem c76 (n:Nat) (a0 a1:IV) (h:Hp):SS dt (n+1) 76 [a0,a1] h=S76 (SS dt n) n a0 a1 h:=BQ (show dt.call 76=fun ih n=>Fd (S76 ih n) by kernel_rfl) ..
theorem c77 (n:Nat) (a0:IV) (h:Hp):SS dt (n+1) 77 [a0] h=S77 (SS dt n) n a0 h:=Cw (show dt.call 77=fun ih n=>Hf (S77 ih n) by kernel_rfl) ..
theorem c78 (n:Nat) (a0 a1:IV) (h:Hp):SS dt (n+1) 78 [a0,a1] h=S78 (SS dt n) n a0 a1 h:=BQ (show dt.call 78=fun ih n=>Fd (S78 ih n) by kernel_rfl) ..
theorem c79 (n:Nat) (a0 a1:IV) (h:Hp):SS dt (n+1) 79 [a0,a1] h=S79 (SS dt n) n a0 a1 h:=BQ (show dt.call 79=fun ih n=>Fd (S79 ih n) by kernel_rfl) ..
theorem c80 (n:Nat) (a0 a1:IV) (h:Hp):SS dt (n+1) 80 [a0,a1] h=S80 (SS dt n) n a0 a1 h:=BQ (show dt.call 80=fun ih n=>Fd (S80 ih n) by kernel_rfl) ..
theorem c81 (n:Nat) (a0 a1 a2 a3:IV) (h:Hp):SS dt (n+1) 81 [a0,a1,a2,a3] h=S81 (SS dt n) n a0 a1 a2 a3 h:=D9 (show dt.call 81=fun ih n=>KT (S81 ih n) by kernel_rfl) ..
theorem c82 (n:Nat) (a0:IV) (h:Hp):SS dt (n+1) 82 [a0] h=S82 (SS dt n) n a0 h:=Cw (show dt.call 82=fun ih n=>Hf (S82 ih n) by kernel_rfl) ..
theorem c83 (n:Nat) (a0 a1:IV) (h:Hp):SS dt (n+1) 83 [a0,a1] h=S83 (SS dt n) n a0 a1 h:=BQ (show dt.call 83=fun ih n=>Fd (S83 ih n) by kernel_rfl) ..
theorem c86 (n:Nat) (a0:IV) (h:Hp):SS dt (n+1) 86 [a0] h=S86 (SS dt n) n a0 h:=Cw (show dt.call 86=fun ih n=>Hf (S86 ih n) by kernel_rfl) ..
theorem c87 (n:Nat) (a0 a1:IV) (h:Hp):SS dt (n+1) 87 [a0,a1] h=S87 (SS dt n) n a0 a1 h:=BQ (show dt.call 87=fun ih n=>Fd (S87 ih n) by kernel_rfl) ..
theorem c88 (n:Nat) (a0 a1:IV) (h:Hp):SS dt (n+1) 88 [a0,a1] h=S88 (SS dt n) n a0 a1 h:=BQ (show dt.call 88=fun ih n=>Fd (S88 ih n) by kernel_rfl) ..
theorem c89 (n:Nat) (a0 a1:IV) (h:Hp):SS dt (n+1) 89 [a0,a1] h=S89 (SS dt n) n a0 a1 h:=BQ (show dt.call 89=fun ih n=>Fd (S89 ih n) by kernel_rfl) ..
def Ud:=AsL @SB.eq_1<|AsL @Sc.eq_1<|AsL @PI.eq_1<|AsL @R7.eq_1<|AsL @Si.eq_1<|AsL @QO.eq_1<|AsL @R8.eq_1<|AsL @Qt.eq_1<|AsL @QL.eq_1<|AsL @Zg.eq_1<|AsL @RS.eq_1<|AsL @RQ.eq_1<|AsL @Qe.eq_1<|AsL @Q8.eq_1<|AsL @Ra.eq_1<|AsL @P1.eq_1<|AsL @PN.eq_1<|AsL @Q5.eq_1<|AsL @PX.eq_1<|@S10.eq_1
def UU2:=AsL @IE.eq_1<|AsL @H0.eq_1<|AsL @H4.eq_1<|AsL @IC.eq_1<|AsL @IJ.eq_1<|AsL @In.eq_1<|AsL @H5.eq_1<|AsL @HM.eq_1<|AsL @HY.eq_1<|AsL @H7.eq_1<|AsL @Il.eq_1<|AsL @HU.eq_1<|AsL @Iu.eq_1<|AsL @HX.eq_1<|AsL @HQ.eq_1<|AsL @Ix.eq_1<|@S62.eq_1
def UU3:=AsL @AfH.eq_1<|AsL @Agk.eq_1<|AsL @AeP.eq_1<|AsL @Ae6.eq_1<|AsL @AdH.eq_1<|@S63.eq_1
def UU4:=AsL @Yn.eq_1<|AsL @AaY.eq_1<|AsL @Aa8.eq_1<|AsL @YI.eq_1<|AsL @Aa5.eq_1<|AsL @Zn.eq_1<|AsL @Aaa.eq_1<|AsL @Z7.eq_1<|AsL @Wo.eq_1<|AsL @XR.eq_1<|AsL @Xj.eq_1<|AsL @VX.eq_1<|AsL @Aag.eq_1<|AsL @Aas.eq_1<|AsL @Abu.eq_1<|AsL @Yc.eq_1<|@S17.eq_1
def UU5:=AsL @U5.eq_1<|AsL @UI.eq_1<|AsL @UL.eq_1<|AsL @Vi.eq_1<|AsL @Vq.eq_1<|AsL @Us.eq_1<|AsL @Ve.eq_1<|AsL @VG.eq_1<|AsL @UX.eq_1<|AsL @Afl.eq_1<|@S24.eq_1
def UU6:=AsL @ZV.eq_1<|AsL @Ab5.eq_1<|AsL @YJ.eq_1<|AsL @Aap.eq_1<|AsL @Aci.eq_1<|AsL @YV.eq_1<|AsL @Aak.eq_1<|AsL @W7.eq_1<|AsL @Yd.eq_1<|AsL @AbN.eq_1<|AsL @Wc.eq_1<|AsL @Aby.eq_1<|AsL @W9.eq_1<|AsL @AbX.eq_1<|AsL @Zk.eq_1<|AsL @Abk.eq_1<|AsL @Z5.eq_1<|AsL @We.eq_1<|AsL @AbR.eq_1<|AsL @X8.eq_1<|AsL @Xu.eq_1<|AsL @WE.eq_1<|AsL @Abw.eq_1<|AsL @Y7.eq_1<|AsL @V0.eq_1<|AsL @Xg.eq_1<|AsL @Aaq.eq_1<|AsL @ZG.eq_1<|AsL @YG.eq_1<|AsL @Aa6.eq_1<|AsL @Ze.eq_1<|AsL @ZP.eq_1<|AsL @ZW.eq_1<|AsL @Z9.eq_1<|AsL @Yr.eq_1<|AsL @YH.eq_1<|AsL @Zi.eq_1<|AsL @AbT.eq_1<|AsL @AbC.eq_1<|AsL @WV.eq_1<|AsL @XM.eq_1<|@S26.eq_1
def UU7:=AsL @V7.eq_1<|AsL @YZ.eq_1<|AsL @V1.eq_1<|AsL @X4.eq_1<|AsL @WG.eq_1<|AsL @YF.eq_1<|AsL @AaM.eq_1<|AsL @YA.eq_1<|AsL @Aah.eq_1<|AsL @AbO.eq_1<|AsL @Ab9.eq_1<|AsL @AaN.eq_1<|AsL @X5.eq_1<|AsL @VY.eq_1<|AsL @Abz.eq_1<|AsL @Aa0.eq_1<|AsL @AbZ.eq_1<|AsL @YB.eq_1<|AsL @Zx.eq_1<|AsL @AaL.eq_1<|AsL @X2.eq_1<|AsL @XH.eq_1<|AsL @Zv.eq_1<|AsL @WI.eq_1<|AsL @Aaf.eq_1<|AsL @WZ.eq_1<|AsL @Ach.eq_1<|AsL @Aae.eq_1<|AsL @Zr.eq_1<|AsL @Z4.eq_1<|AsL @Abm.eq_1<|AsL @Acf.eq_1<|AsL @ZF.eq_1<|AsL @Ab0.eq_1<|AsL @Wj.eq_1<|AsL @YE.eq_1<|AsL @Abd.eq_1<|AsL @Yp.eq_1<|AsL @Yt.eq_1<|AsL @Abl.eq_1<|AsL @Yv.eq_1<|AsL @Aca.eq_1<|AsL @Abs.eq_1<|AsL @Zh.eq_1<|@S32.eq_1
def UU8:=AsL @Ab1.eq_1<|AsL @Wm.eq_1<|AsL @AbA.eq_1<|AsL @Ab6.eq_1<|AsL @XC.eq_1<|AsL @Aa3.eq_1<|AsL @Xv.eq_1<|AsL @YR.eq_1<|AsL @Wa.eq_1<|AsL @Abx.eq_1<|AsL @WK.eq_1<|AsL @Yz.eq_1<|AsL @ZX.eq_1<|AsL @Ya.eq_1<|AsL @Abg.eq_1<|AsL @WJ.eq_1<|AsL @ZJ.eq_1<|AsL @AaB.eq_1<|AsL @Aau.eq_1<|AsL @W0.eq_1<|AsL @X1.eq_1<|AsL @Zz.eq_1<|AsL @XP.eq_1<|AsL @Ys.eq_1<|AsL @AaZ.eq_1<|AsL @Yl.eq_1<|AsL @Xq.eq_1<|AsL @ZO.eq_1<|AsL @Xz.eq_1<|AsL @W4.eq_1<|AsL @AaF.eq_1<|AsL @Aar.eq_1<|AsL @Aal.eq_1<|AsL @YU.eq_1<|AsL @YT.eq_1<|AsL @AaD.eq_1<|AsL @ZB.eq_1<|AsL @YY.eq_1<|AsL @Y6.eq_1<|AsL @Xm.eq_1<|AsL @AbQ.eq_1<|AsL @AbJ.eq_1<|AsL @Wb.eq_1<|AsL @Z8.eq_1<|AsL @Wn.eq_1<|AsL @Xs.eq_1<|AsL @XZ.eq_1<|AsL @Yw.eq_1<|AsL @Zw.eq_1<|AsL @Y2.eq_1<|AsL @YL.eq_1<|AsL @Wv.eq_1<|AsL @X0.eq_1<|AsL @Zu.eq_1<|AsL @AaT.eq_1<|AsL @WL.eq_1<|@S64.eq_1
def Uw:=AsL @Xy.eq_1<|AsL @X7.eq_1<|AsL @WW.eq_1<|AsL @Abj.eq_1<|AsL @X3.eq_1<|AsL @ZS.eq_1<|AsL @AbB.eq_1<|AsL @X6.eq_1<|AsL @YM.eq_1<|AsL @Wf.eq_1<|AsL @Y4.eq_1<|AsL @YX.eq_1<|AsL @Xe.eq_1<|AsL @Xh.eq_1<|AsL @Xk.eq_1<|AsL @Abh.eq_1<|AsL @Aa1.eq_1<|AsL @WN.eq_1<|AsL @Aco.eq_1<|AsL @ZI.eq_1<|AsL @AbD.eq_1<|AsL @Zo.eq_1<|AsL @ZM.eq_1<|AsL @AaE.eq_1<|AsL @ZY.eq_1<|AsL @Ab8.eq_1<|AsL @ZZ.eq_1<|AsL @Abo.eq_1<|AsL @Abe.eq_1<|AsL @WR.eq_1<|AsL @Y1.eq_1<|AsL @Ace.eq_1<|AsL @Y3.eq_1<|AsL @Zf.eq_1<|AsL @Aab.eq_1<|AsL @Aad.eq_1<|AsL @Y5.eq_1<|AsL @ZK.eq_1<|AsL @Xw.eq_1<|AsL @AaK.eq_1<|AsL @Aba.eq_1<|AsL @Zl.eq_1<|AsL @ZE.eq_1<|AsL @Aaw.eq_1<|AsL @AaV.eq_1<|AsL @Yi.eq_1<|AsL @Za.eq_1<|AsL @Zp.eq_1<|AsL @Aa2.eq_1<|AsL @AbU.eq_1<|AsL @Xo.eq_1<|AsL @XU.eq_1<|AsL @Wk.eq_1<|AsL @Wz.eq_1<|AsL @Xb.eq_1<|AsL @Xr.eq_1<|AsL @XQ.eq_1<|AsL @XA.eq_1<|AsL @Yq.eq_1<|@S61.eq_1
def Ju:=AsL @Abr.eq_1<|AsL @V9.eq_1<|AsL @Wh.eq_1<|AsL @Wy.eq_1<|AsL @Z6.eq_1<|AsL @Yo.eq_1<|AsL @Yb.eq_1<|AsL @Xi.eq_1<|AsL @Zs.eq_1<|AsL @XT.eq_1<|AsL @AbF.eq_1<|AsL @W6.eq_1<|AsL @Aan.eq_1<|AsL @WQ.eq_1<|AsL @WH.eq_1<|AsL @Abq.eq_1<|AsL @Xd.eq_1<|AsL @AbI.eq_1<|AsL @V4.eq_1<|AsL @XS.eq_1<|AsL @AbW.eq_1<|AsL @XG.eq_1<|AsL @YK.eq_1<|AsL @W8.eq_1<|AsL @Wi.eq_1<|AsL @Wq.eq_1<|AsL @AbL.eq_1<|AsL @Zt.eq_1<|@S25.eq_1
def OA:=AsL @P2.eq_1<|AsL @Sn.eq_1<|AsL @Sg.eq_1<|AsL @Qv.eq_1<|AsL @P4.eq_1<|AsL @Pv.eq_1<|AsL @Ri.eq_1<|AsL @Sy.eq_1<|AsL @QK.eq_1<|AsL @Pu.eq_1<|AsL @R6.eq_1<|AsL @Sw.eq_1<|AsL @SA.eq_1<|AsL @PG.eq_1<|AsL @AbM.eq_1<|@S59.eq_1
def Jh:=AsL @Sb.eq_1<|AsL @Q9.eq_1<|AsL @RK.eq_1<|AsL @Sx.eq_1<|AsL @RX.eq_1<|AsL @Qs.eq_1<|AsL @QQ.eq_1<|AsL @QM.eq_1<|AsL @PP.eq_1<|AsL @PK.eq_1<|AsL @RH.eq_1<|AsL @PM.eq_1<|AsL @Rr.eq_1<|AsL @Rj.eq_1<|AsL @Sd.eq_1<|AsL @PH.eq_1<|AsL @Rx.eq_1<|AsL @Rn.eq_1<|AsL @Qq.eq_1<|AsL @Sf.eq_1<|AsL @RO.eq_1<|AsL @Rw.eq_1<|AsL @Sz.eq_1<|AsL @Qo.eq_1<|AsL @PA.eq_1<|AsL @SC.eq_1<|AsL @RA.eq_1<|AsL @PS.eq_1<|AsL @Sa.eq_1<|AsL @QE.eq_1<|AsL @Qy.eq_1<|AsL @QC.eq_1<|AsL @HN.eq_1<|AsL @RR.eq_1<|@S46.eq_1
def Aef:=AsL @EO.eq_1<|AsL @Eu.eq_1<|AsL @En.eq_1<|AsL @Ez.eq_1<|AsL @Ep.eq_1<|AsL @El.eq_1<|AsL @GQ.eq_1<|AsL @EF.eq_1<|AsL @ED.eq_1<|AsL @EP.eq_1<|AsL @Ey.eq_1<|AsL @EA.eq_1<|AsL @EN.eq_1<|AsL @Er.eq_1<|AsL @EK.eq_1<|AsL @EM.eq_1<|AsL @Em.eq_1<|AsL @EG.eq_1<|AsL @Ej.eq_1<|AsL @Ek.eq_1<|AsL @EH.eq_1<|AsL @Es.eq_1<|AsL @Eo.eq_1<|AsL @Ew.eq_1<|AsL @EI.eq_1<|AsL @EL.eq_1<|AsL @EC.eq_1<|AsL @EQ.eq_1<|AsL @Et.eq_1<|@S48.eq_1
def FK:=AsL @WA.eq_1<|AsL @AbV.eq_1<|AsL @AaH.eq_1<|AsL @Ws.eq_1<|AsL @Aai.eq_1<|AsL @V3.eq_1<|AsL @Wu.eq_1<|AsL @AbG.eq_1<|AsL @Zq.eq_1<|AsL @AaA.eq_1<|AsL @W3.eq_1<|AsL @Wx.eq_1<|AsL @AbY.eq_1<|AsL @Ack.eq_1<|AsL @Xt.eq_1<|AsL @Ye.eq_1<|AsL @WT.eq_1<|AsL @XJ.eq_1<|AsL @Acb.eq_1<|AsL @Z0.eq_1<|AsL @WU.eq_1<|AsL @XN.eq_1<|AsL @WX.eq_1<|AsL @Ab7.eq_1<|AsL @ZQ.eq_1<|AsL @Yy.eq_1<|AsL @WY.eq_1<|AsL @Wt.eq_1<|AsL @Aam.eq_1<|AsL @Acm.eq_1<|AsL @AbP.eq_1<|AsL @Aa9.eq_1<|AsL @ZN.eq_1<|AsL @Abn.eq_1<|AsL @Ab3.eq_1<|AsL @Yg.eq_1<|AsL @Wl.eq_1<|AsL @Aax.eq_1<|AsL @Yu.eq_1<|AsL @AaO.eq_1<|AsL @XF.eq_1<|AsL @Aa7.eq_1<|AsL @Acg.eq_1<|AsL @V8.eq_1<|AsL @AaI.eq_1<|AsL @Acl.eq_1<|AsL @Wp.eq_1<|AsL @Xp.eq_1<|AsL @Acj.eq_1<|AsL @Abf.eq_1<|@S70.eq_1
def TO:=AsL @IL.eq_1<|AsL @Ir.eq_1<|AsL @Ib.eq_1<|AsL @HS.eq_1<|AsL @Iv.eq_1<|AsL @Is.eq_1<|AsL @Iz.eq_1<|AsL @H9.eq_1<|AsL @IK.eq_1<|AsL @IB.eq_1<|AsL @Im.eq_1<|AsL @IP.eq_1<|AsL @IM.eq_1<|AsL @H3.eq_1<|AsL @Iq.eq_1<|AsL @Ih.eq_1<|AsL @Ia.eq_1<|AsL @IA.eq_1<|AsL @H8.eq_1<|AsL @Yf.eq_1<|AsL @Ic.eq_1<|AsL @Ip.eq_1<|AsL @Ii.eq_1<|@S49.eq_1
def Afz:=AsL @JM.eq_1<|AsL @JW.eq_1<|AsL @KL.eq_1<|AsL @JY.eq_1<|AsL @JB.eq_1<|AsL @Ky.eq_1<|AsL @JS.eq_1<|AsL @J4.eq_1<|AsL @JL.eq_1<|AsL @Js.eq_1<|AsL @Kg.eq_1<|AsL @Kw.eq_1<|AsL @Ks.eq_1<|AsL @J0.eq_1<|@S54.eq_1
def AeC:=AsL @Agv.eq_1<|AsL @AdJ.eq_1<|AsL @Aek.eq_1<|AsL @Ae8.eq_1<|AsL @Agb.eq_1<|@S83.eq_1
def Aey:=AsL @Af5.eq_1<|AsL @Aem.eq_1<|AsL @Agc.eq_1<|AsL @AfA.eq_1<|AsL @Aev.eq_1<|AsL @Ad3.eq_1<|@S71.eq_1
def Af9:=AsL @JQ.eq_1<|AsL @KC.eq_1<|AsL @JE.eq_1<|AsL @KD.eq_1<|AsL @Kn.eq_1<|AsL @KK.eq_1<|AsL @KQ.eq_1<|@S50.eq_1
def Vh:=AsL @Dc.eq_1<|AsL @Dl.eq_1<|AsL @Dd.eq_1<|AsL @C4.eq_1<|AsL @C5.eq_1<|AsL @Db.eq_1<|AsL @CB.eq_1<|AsL @DG.eq_1<|AsL @DS.eq_1<|AsL @DI.eq_1<|AsL @Dw.eq_1<|AsL @Ds.eq_1<|AsL @DM.eq_1<|AsL @C6.eq_1<|AsL @Du.eq_1<|AsL @Dq.eq_1<|AsL @Dn.eq_1<|AsL @Df.eq_1<|AsL @Do.eq_1<|AsL @C9.eq_1<|AsL @DK.eq_1<|AsL @DN.eq_1<|AsL @DC.eq_1<|AsL @DU.eq_1<|AsL @Dy.eq_1<|AsL @E3.eq_1<|AsL @DO.eq_1<|AsL @DL.eq_1<|AsL @Dp.eq_1<|AsL @C8.eq_1<|AsL @Dx.eq_1<|@S53.eq_1
def AcJ:=AsL @Af8.eq_1<|AsL @Agt.eq_1<|AsL @AdT.eq_1<|AsL @AdP.eq_1<|AsL @AeU.eq_1<|@S88.eq_1
def AdO:=AsL @LZ.eq_1<|AsL @Mb.eq_1<|AsL @Mf.eq_1<|AsL @Mk.eq_1<|AsL @LY.eq_1<|AsL @Mc.eq_1<|AsL @Me.eq_1<|AsL @L8.eq_1<|AsL @Abt.eq_1<|AsL @L1.eq_1<|AsL @Mg.eq_1<|AsL @Ms.eq_1<|AsL @L6.eq_1<|AsL @Mv.eq_1<|AsL @Ma.eq_1<|@S52.eq_1
def VV:=AsL @Acc.eq_1<|AsL @Z2.eq_1<|AsL @ZH.eq_1<|AsL @Acd.eq_1<|AsL @Yx.eq_1<|AsL @AaQ.eq_1<|AsL @ZT.eq_1<|AsL @Aac.eq_1<|AsL @WO.eq_1<|AsL @YO.eq_1<|AsL @Zj.eq_1<|AsL @Aa4.eq_1<|@S80.eq_1
section
variable {β:Type} {E:Env} {t:TypeId}
abbrev iv (n:Int):IV:=.fv (.int .i64 n)
theorem AjN (c:Prop) [Decidable c] (a b:Option β):Al (.fv (.bool (decide c))) a b=if c then a else b:=by
 by_cases h:c
 ·rw [decide_eq_true h,if_pos h];rfl
 ·rw [decide_eq_false h,if_neg h];rfl
theorem AhH (o:Nat) (r:Ref) (off:Nat) (k:IV→Option β):Ac o (.ptr r off) k=k (.ptr r (off+o)):=by
 show (DX (off+o) fun o=>k (.ptr r o))=_
 rw [BI]
theorem Pm (o:Nat) (cs:List FV) (off:Nat) (k:IV→Option β):Ac o (.fv (.fp cs off)) k=k (.fv (.fp cs (off+o))):=by
 show (DX (off+o) fun o=>k (.fv (.fp cs o)))=_
 rw [BI]
theorem AmK {size:Nat} {es:List FV} {n:Nat} {el:FV} (he:es[n]?=some el) (hl:el.cells.length=size) (k:IV→Option β):Bf size (.fv (.sl es)) (iv n) k=k (.fv (.fp el.cells 0)):=by
 show (DA es n fun el=>elK size el k)=_
 rw [CR,he]
 show elK size el k=_
 rw [Aff,if_pos hl]
theorem Lx {op:BinOp} {g:Nat→Nat→Bool} (hg:∀a b:Nat,Ft E op t (iv a) (iv b)=some (.fv (.bool (g a b)))) (a b:Int) (k:IV→Option β) :
  QU E t op g (iv a) (iv b) k=(Ft E op t (iv a) (iv b)).bind k:=by
 cases a with
 | ofNat a =>
  cases b with
  | ofNat b =>
   show AdZ (g a b) k=_
   rw [SO,show Ft E op t (iv (Int.ofNat a)) (iv (Int.ofNat b))=some (.fv (.bool (g a b))) from hg a b]
   rfl
  | negSucc b =>
   show CP E t op _ _ k=_
   rw [CP,CD]
 | negSucc a =>
  show CP E t op _ _ k=_
  rw [CP,CD]
theorem Aoc (a b:Int) (k:IV→Option β):A2 E t (iv a) (iv b) k=k (.fv (.bool (decide (a=b)))):=by
 rw [A2,Lx (fun a b=>by
  show some (IV.fv (.bool ((a:Int) == (b:Int))))=_
  rw [Ie];congr 3;exact decide_eq_decide.2 Int.ofNat_inj)]
 rfl
theorem Ao2 (a b:Int) (k:IV→Option β):IH E t (iv a) (iv b) k=k (.fv (.bool (!decide (a=b)))):=by
 rw [IH,Lx (fun a b=>by
  show some (IV.fv (.bool ((a:Int) != (b:Int))))=_
  rw [Ie];congr 3
  show (!decide ((a:Int)=(b:Int)))=!decide (a=b)
  congr 1;exact decide_eq_decide.2 Int.ofNat_inj)]
 rfl
theorem Aoh (a b:Int) (k:IV→Option β):Hg E t (iv a) (iv b) k=k (.fv (.bool (decide (a<b)))):=by
 rw [Hg,Lx (fun a b=>by
  show some (IV.fv (.bool (decide ((a:Int)<(b:Int)))))=_
  rw [Bi];congr 3;exact decide_eq_decide.2 (by omega))]
 rfl
theorem AnX (a b:Int) (k:IV→Option β):leS E t (iv a) (iv b) k=k (.fv (.bool (decide (a≤b)))):=by
 rw [leS,Lx (fun a b=>by
  show some (IV.fv (.bool (decide ((a:Int)≤(b:Int)))))=_
  rw [Bi];congr 3;exact decide_eq_decide.2 (by omega))]
 rfl
theorem Ao0 (b:Bool) (k:IV→Option β):CC (KS .not (.fv (.bool b))) k=k (.fv (.bool !b)):=by
 rw [CD];rfl
end
end Idl
end Go.Proofs.Ytbkdidonegggdaa
namespace Go.Proofs.Ytbkdidonegggdaa
namespace Idl
section
variable {β:Type} {α:Type}
theorem n0 (a:α) (l:List α) (k:α→Option β):DA (a::l) 0 k=k a:=rfl
theorem n1 (a b:α) (l:List α) (k:α→Option β):DA (a::b::l) 1 k=k b:=rfl
theorem n2 (a b c:α) (l:List α) (k:α→Option β):DA (a::b::c::l) 2 k=k c:=rfl
theorem n3 (a b c d:α) (l:List α) (k:α→Option β):DA (a::b::c::d::l) 3 k=k d:=rfl
theorem n4 (a b c d e:α) (l:List α) (k:α→Option β):DA (a::b::c::d::e::l) 4 k=k e:=rfl
theorem n5 (a b c d e f:α) (l:List α) (k:α→Option β):DA (a::b::c::d::e::f::l) 5 k=k f:=rfl
theorem n6 (a b c d e f g:α) (l:List α) (k:α→Option β):DA (a::b::c::d::e::f::g::l) 6 k=k g:=rfl
theorem d0 (l:List α) (k:List α→Option β):Fo l 0 k=k l:=by cases l<;>rfl
theorem d1 (a:α) (l:List α) (k:List α→Option β):Fo (a::l) 1 k=k l:=by cases l<;>rfl
theorem d2 (a b:α) (l:List α) (k:List α→Option β):Fo (a::b::l) 2 k=k l:=by cases l<;>rfl
theorem d3 (a b c:α) (l:List α) (k:List α→Option β):Fo (a::b::c::l) 3 k=k l:=by cases l<;>rfl
theorem d4 (a b c d:α) (l:List α) (k:List α→Option β):Fo (a::b::c::d::l) 4 k=k l:=by cases l<;>rfl
theorem t1 (a:α) (l:List α) (k:List α→Option β):FL (a::l) 1 k=k [a]:=by cases l<;>rfl
theorem t2 (a b:α) (l:List α) (k:List α→Option β):FL (a::b::l) 2 k=k [a,b]:=by cases l<;>rfl
theorem t3 (a b c:α) (l:List α) (k:List α→Option β):FL (a::b::c::l) 3 k=k [a,b,c]:=by cases l<;>rfl
theorem t4 (a b c d:α) (l:List α) (k:List α→Option β):FL (a::b::c::d::l) 4 k=k [a,b,c,d]:=by cases l<;>rfl
theorem t7 (a b c d e f g:α) (l:List α) (k:List α→Option β):FL (a::b::c::d::e::f::g::l) 7 k=k [a,b,c,d,e,f,g]:=by cases l<;>rfl
theorem Akf (l:List α) (k:List α→Option β):spK l k=k l:=Hn l k
theorem ap0 (us:List α) (k:List α→Option β):Qm [] us k=k us:=rfl
theorem ap1 (u:α) (l us:List α) (k:List α→Option β):Qm (u::l) us k=Qm l us fun w=>k (u::w):=rfl
theorem Anj (a:α) (l:List α) (k:α→List α→Option β):AA (a::l) k=k a l:=rfl
theorem c_t {γ:Type} (a b:γ):cond true a b=a:=rfl
theorem c_f {γ:Type} (a b:γ):cond false a b=b:=rfl
end
section
variable {β:Type}
theorem AgL {s j:Nat} (h:(s == j)=false):Nat.beq s j=false:=by
 rw [Ie];simpa using h
theorem NA (s:Nat) (own:List (Nat×Blk)) (ext:List Blk) (k:Blk→Option β):Dt (.own s) ⟨own,ext⟩ k=GF own s k:=rfl
theorem Ann (j:Nat) (own:List (Nat×Blk)) (ext:List Blk) (k:Blk→Option β):Dt (.ext j) ⟨own,ext⟩ k=DA ext j k:=rfl
theorem AjB (s:Nat) (b:Blk) (l:List (Nat×Blk)) (k:Blk→Option β):GF ((s,b)::l) s k=k b:=by
 show cond (Nat.beq s s) (k b) _=_
 rw [show Nat.beq s s=true from Nat.beq_refl s]
 rfl
theorem AlN {s j:Nat} (hne:(s == j)=false) (b:Blk) (l:List (Nat×Blk)) (k:Blk→Option β):GF ((j,b)::l) s k=GF l s k:=by
 show cond (Nat.beq s j) (k b) _=_
 rw [show Nat.beq s j=false from AgL hne]
 rfl
theorem Apc (s:Nat) (b:Blk) (k:List (Nat×Blk)→Option β):A1 [] s b k=k [(s,b)]:=rfl
theorem AjA (s:Nat) (b c:Blk) (l:List (Nat×Blk)) (k:List (Nat×Blk)→Option β):A1 ((s,c)::l) s b k=k ((s,b)::l):=by
 show cond (Nat.beq s s) _ _=_
 rw [show Nat.beq s s=true from Nat.beq_refl s]
 rfl
theorem AlS {s j:Nat} (hne:(s == j)=false) (b c:Blk) (l:List (Nat×Blk)) (k:List (Nat×Blk)→Option β):A1 ((j,c)::l) s b k=A1 l s b fun l=>k ((j,c)::l):=by
 show cond (Nat.beq s j) _ _=_
 rw [show Nat.beq s j=false from AgL hne]
 rfl
theorem AoN (s:Nat) (a:Option β):CG [] s a=a:=rfl
theorem Amc {s j:Nat} (hne:(s == j)=false) (b:Blk) (l:List (Nat×Blk)) (a:Option β):CG ((j,b)::l) s a=CG l s a:=by
 show cond (Nat.beq s j) none _=_
 rw [show Nat.beq s j=false from AgL hne]
 rfl
theorem Aaj (s:Nat) (b:Blk) (own:List (Nat×Blk)) (ext:List Blk) (k:Hp→Option β):FJ (.own s) b ⟨own,ext⟩ k=A1 own s b fun own=>k ⟨own,ext⟩:=rfl
theorem Ahu (j:Nat) (b:Blk) (own:List (Nat×Blk)) (ext:List Blk) (k:Hp→Option β):FJ (.ext j) b ⟨own,ext⟩ k=Pa ext j b fun ext=>k ⟨own,ext⟩:=rfl
theorem sn0 {α:Type} (a b:α) (l:List α) (k:List α→Option β):Pa (a::l) 0 b k=k (b::l):=rfl
theorem Any (s:Nat) (b:Blk) (v:IV) (own:List (Nat×Blk)) (ext:List Blk) (k:IV→Hp→List Ref→List Ref→Option β) :
  AJ s b v ⟨own,ext⟩ k=CG own s (A1 own s b fun own=>k v ⟨own,ext⟩ [] [.own s]):=rfl
theorem Mp (s:Nat) (cs:List FV) (h:Hp) (k:IV→Hp→List Ref→List Ref→Option β):Bg s (.fv (.agg cs)) h k=AJ s (.row (cs.map .fv) false) (.ptr (.own s) 0) h k:=by
 show spK (cs.map IV.fv) _=_
 rw [Hn]
theorem An3 (s:Nat) (a b:FV) (h:Hp) (k:IV→Hp→List Ref→List Ref→Option β):Bg s (.fv (.agg [a,b])) h k=AJ s (.row [.fv a,.fv b] false) (.ptr (.own s) 0) h k:=Mp ..
theorem Aol (s:Nat) (a b c:FV) (h:Hp) (k:IV→Hp→List Ref→List Ref→Option β):Bg s (.fv (.agg [a,b,c])) h k=AJ s (.row [.fv a,.fv b,.fv c] false) (.ptr (.own s) 0) h k:=Mp ..
theorem AnH (s:Nat) (a b c d:FV) (h:Hp) (k:IV→Hp→List Ref→List Ref→Option β):Bg s (.fv (.agg [a,b,c,d])) h k=AJ s (.row [.fv a,.fv b,.fv c,.fv d] false) (.ptr (.own s) 0) h k:=Mp ..
theorem AnT (s:Nat) (a:FV) (h:Hp) (k:IV→Hp→List Ref→List Ref→Option β):Bg s (.fv (.agg [a])) h k=AJ s (.row [.fv a] false) (.ptr (.own s) 0) h k:=Mp ..
theorem Tn (s:Nat) (cs:List IV) (h:Hp) (k:IV→Hp→List Ref→List Ref→Option β):Bg s (.agg cs) h k=AJ s (.row cs false) (.ptr (.own s) 0) h k:=by
 show spK cs _=_
 rw [Hn]
theorem AhR {x:IV} (hx:x.one=true) (s:Nat) (h:Hp) (k:IV→Hp→List Ref→List Ref→Option β):Bg s x h k=AJ s (.row [x] false) (.ptr (.own s) 0) h k:=by
 unfold Bg;rw [hx];rfl
theorem Akb (k:IntKind) (n:Int):IV.one (.fv (.int k n))=true:=rfl
theorem Ahr (b:Bool):IV.one (.fv (.bool b))=true:=rfl
theorem Ao1 (l:List FV):IV.one (.fv (.sl l))=true:=rfl
theorem Apj (l:List FV) (o:Nat):IV.one (.fv (.fp l o))=true:=rfl
theorem Ag1 (fn:Fn) (a b:List FV):IV.one (.fv (.func fn a b))=true:=rfl
theorem AgE:IV.one (.fv .nilp)=true:=rfl
theorem Aii:IV.one .nils=true:=rfl
theorem Alz (r:Ref) (o:Nat):IV.one (.ptr r o)=true:=rfl
theorem AlP (r:Ref) (a b:Nat):IV.one (.slc r a b)=true:=rfl
theorem AlX (r:Ref) (l:List FV):IV.one (.app r l)=true:=rfl
theorem Ah7 (l:List FV):IV.one (.clip l)=true:=rfl
theorem Amo:IV.one .emp=true:=rfl
theorem AlI (l:List IV):IV.one (.agg l)=false:=rfl
theorem AgW (l:List FV):IV.one (.fv (.agg l))=false:=rfl
theorem AmJ (k:IntKind) (n:Int):Hq (.int k n)=true:=rfl
theorem AhK (b:Bool):Hq (.bool b)=true:=rfl
theorem Ao6 (l:List FV):Hq (.sl l)=true:=rfl
theorem Anr (l:List FV) (o:Nat):Hq (.fp l o)=true:=rfl
theorem Ah9:Hq .nilp=true:=rfl
theorem Aka (l:List FV):Hq (.agg l)=false:=rfl
theorem Ah8:DH []=true:=rfl
theorem SW {v:FV} (h:Hq v=true) (l:List FV):DH (v::l)=DH l:=by
 show cond (Hq v) (DH l) false=_
 rw [h];rfl
theorem UC (r:Ref) (o:Nat) (k:Ref→Nat→Option β) (kf:List FV→Nat→Option β):EV (.ptr r o) k kf=k r o:=rfl
theorem Aqu (cs:List FV) (o:Nat) (k:Ref→Nat→Option β) (kf:List FV→Nat→Option β):EV (.fv (.fp cs o)) k kf=kf cs o:=rfl
theorem K7 (cs:List IV) (ro:Bool) (k:List IV→Option β):ET (.row cs ro) k=k cs:=rfl
theorem W5 (cs:List IV) (k:List IV→Option β):GX (.row cs false) k=k cs:=rfl
theorem Ae0 (v:FV) (e:Option β) (k:FV→Option β):Om (.fv v) e k=k v:=rfl
theorem Vn (l:List IV) (e:Option β) (k:FV→Option β):Om (.agg l) e k=e:=rfl
theorem Alc (e:Option β) (k:FV→Option β):Om .nils e k=e:=rfl
theorem Ak5 (r:Ref) (o:Nat) (e:Option β) (k:FV→Option β):Om (.ptr r o) e k=e:=rfl
theorem Al1 (r:Ref) (o:List FV) (e:Option β) (k:FV→Option β):Om (.app r o) e k=e:=rfl
theorem AlG (o:List FV) (e:Option β) (k:FV→Option β):Om (.clip o) e k=e:=rfl
theorem AkC (r:Ref) (a b:Nat) (e:Option β) (k:FV→Option β):Om (.slc r a b) e k=e:=rfl
theorem Als (e:Option β) (k:FV→Option β):Om .emp e k=e:=rfl
theorem Aky (cs:List FV) (k:List FV→Option β):GS (.agg cs) k=k cs:=rfl
theorem Anw (cs:List IV) (k:List IV→Option β) (kf:List FV→Option β):asAgg (.agg cs) k kf=k cs:=rfl
theorem AlR (cs:List FV) (k:List IV→Option β) (kf:List FV→Option β):asAgg (.fv (.agg cs)) k kf=kf cs:=rfl
theorem AgK (e:Option β) (k:List FV→Option β):Cl [] e k=k []:=rfl
theorem AjI (v:FV) (l:List IV) (e:Option β) (k:List FV→Option β):Cl (.fv v::l) e k=Cl l e fun vs=>k (v::vs):=rfl
theorem Agr (l:List IV) (e:Option β) (k:List FV→Option β):Cl (.nils::l) e k=e:=rfl
theorem AiL (r:Ref) (es:List FV) (l:List IV) (e:Option β) (k:List FV→Option β):Cl (.app r es::l) e k=e:=rfl
theorem AeT (es:List FV) (l:List IV) (e:Option β) (k:List FV→Option β):Cl (.clip es::l) e k=e:=rfl
theorem AhC (r:Ref) (o:Nat) (l:List IV) (e:Option β) (k:List FV→Option β):Cl (.ptr r o::l) e k=e:=rfl
theorem Ag3 (r:Ref) (a b:Nat) (l:List IV) (e:Option β) (k:List FV→Option β):Cl (.slc r a b::l) e k=e:=rfl
theorem AiB (es l:List IV) (e:Option β) (k:List FV→Option β):Cl (.agg es::l) e k=e:=rfl
theorem Agq (r:Ref) (l:List IV) (e:Option β) (k:List FV→Option β):Cl (.mapr r::l) e k=e:=rfl
theorem AoX (l:List IV) (k:IV→Option β):Oz l k=Cl l (k (.agg l)) fun vs=>k (.fv (.agg vs)):=rfl
theorem AoO (l:List IV) (k:IV→Option β):UD l k=Cl l (k (.tuple l)) fun vs=>k (.fv (.tuple vs)):=rfl
theorem ApL (a:IV) (h:Hp) (k:IV→List Ref→Option β):Af a h k=EV a (fun r o=>Dt r h fun b=>ET b fun cells=>DA cells o fun v=>k v [r]) fun cells o=>DA cells o fun v=>k (.fv v) []:=rfl
theorem ApU (size:Nat) (a:IV) (h:Hp) (k:IV→List Ref→Option β):Ai size a h k =
  EV a (fun r o=>Dt r h fun b=>ET b fun cells=>Fo cells o fun cs=>FL cs size fun cs=>Oz cs fun v=>k v [r]) fun cells o=>Fo cells o fun cs=>FL cs size fun cs=>k (.fv (.agg cs)) []:=rfl
theorem Akv (size:Nat) (a:IV) (h:Hp) (k:IV→Option β):AC true size a h k=Ai size a h fun v _=>k v:=rfl
theorem AkN (size:Nat) (a:IV) (h:Hp) (k:IV→Option β):AC false size a h k=Af a h fun v _=>k v:=rfl
theorem wr0 (l:List IV) (k:List IV→Option β):wrK [] l k=k l:=rfl
theorem wr1 (c:FV) (cs:List FV) (x:IV) (l:List IV) (k:List IV→Option β):wrK (c::cs) (x::l) k=wrK cs l fun t=>k (.fv c::t):=rfl
theorem sf0 (x:IV) (l:List IV) (cs:List FV) (k:List IV→Option β):DZ (x::l) 0 cs k=wrK cs (x::l) k:=rfl
theorem sf1 (x:IV) (l:List IV) (cs:List FV) (k:List IV→Option β):DZ (x::l) 1 cs k=DZ l 0 cs fun t=>k (x::t):=rfl
theorem sf2 (x y:IV) (l:List IV) (cs:List FV) (k:List IV→Option β):DZ (x::y::l) 2 cs k=DZ l 0 cs fun t=>k (x::y::t):=rfl
theorem sf3 (x y z:IV) (l:List IV) (cs:List FV) (k:List IV→Option β):DZ (x::y::z::l) 3 cs k=DZ l 0 cs fun t=>k (x::y::z::t):=rfl
theorem sf4 (x y z u:IV) (l:List IV) (cs:List FV) (k:List IV→Option β):DZ (x::y::z::u::l) 4 cs k=DZ l 0 cs fun t=>k (x::y::z::u::t):=rfl
theorem of0 (x b:IV) (l:List IV) (k:List IV→Option β):GG (x::l) 0 b k=k (b::l):=rfl
theorem of1 (x y b:IV) (l:List IV) (k:List IV→Option β):GG (x::y::l) 1 b k=k (x::b::l):=rfl
theorem of2 (x y z b:IV) (l:List IV) (k:List IV→Option β):GG (x::y::z::l) 2 b k=k (x::y::b::l):=rfl
theorem of3 (x y z u b:IV) (l:List IV) (k:List IV→Option β):GG (x::y::z::u::l) 3 b k=k (x::y::z::b::l):=rfl
theorem of6 (x y z u v w s b:IV) (l:List IV) (k:List IV→Option β):GG (x::y::z::u::v::w::s::l) 6 b k=k (x::y::z::u::v::w::b::l):=rfl
theorem AqA (size:Nat) (a:IV) (cs:List FV) (h:Hp) (k:Hp→List Ref→List Ref→Option β):Ak size a (.fv (.agg cs)) h k =
  EV a (fun r o=>Dt r h fun b=>GX b fun cells=>cond (and (Nat.beq cs.length size) (DH cs)) (DZ cells o cs fun cells=>FJ r (.row cells false) h fun h=>k h [r] [r]) none) fun _ _=>none:=rfl
theorem AfX (s:Nat) (x:IV):Fm (.own s) x=true:=rfl
theorem Apy (s:Nat) (a b c:IV) (ha:a.one=true) (hb:b.one=true) (hc:c.one=true) (own:List (Nat×Blk)) (ext:List Blk) (k:Hp→List Ref→List Ref→Option β) :
  Ak 3 (.ptr (.own s) 0) (.agg [a,b,c]) ⟨own,ext⟩ k=GF own s fun bl=>GX bl fun cells=>cond (Nat.ble 3 cells.length) (FJ (.own s) (.row (AZ cells 0 [a,b,c]) false) ⟨own,ext⟩ fun h=>k h [.own s] [.own s]) none:=by
 show GF own s (fun bl=>GX bl fun cells=>if IV.alive (.agg [a,b,c])=true∧(IV.cells (.agg [a,b,c])).length=3∧0+3≤cells.length∧(IV.cells (.agg [a,b,c])).all IV.one=true∧Fm (.own s) (.agg [a,b,c])=true then
  spK (AZ cells 0 (IV.cells (.agg [a,b,c]))) fun cells=>FJ (.own s) (.row cells false) ⟨own,ext⟩ fun h=>k h [.own s] [.own s] else none)=_
 congr 1
 funext bl
 congr 1
 funext cells
 by_cases h3:3≤cells.length
 ·rw [if_pos ⟨rfl,rfl,by omega,by simp [IV.cells,ha,hb,hc],rfl⟩,Hn,Bi,decide_eq_true h3];rfl
 ·rw [if_neg (fun h=>h3 (by omega)),Bi,decide_eq_false h3];rfl
theorem sc3 (a b c x y z:IV):AZ [x,y,z] 0 [a,b,c]=[a,b,c]:=rfl
theorem AqB (a x:IV) (h:Hp) (k:Hp→List Ref→List Ref→Option β):Bj a x h k =
  cond x.one (EV a (fun r o=>Dt r h fun b=>GX b fun cells=>cond (Fm r x) (GG cells o x fun cells=>FJ r (.row cells false) h fun h=>k h [r] [r]) none) fun _ _=>none) (Ak 1 a x h k):=rfl
theorem Ap4 (o:Nat) (r:Ref) (k:IV→Option β):Ac o (.ptr r 0) k=k (.ptr r o):=by rw [AhH,Nat.zero_add]
theorem Anf (o:Nat) (cs:List FV) (k:IV→Option β):Ac o (.fv (.fp cs 0)) k=k (.fv (.fp cs o)):=by rw [Pm,Nat.zero_add]
theorem Aob (r:Ref) (o:Nat) (k:IV→Option β):AB (.ptr r o) k=k (.ptr r o):=rfl
theorem AoI (cs:List FV) (o:Nat) (k:IV→Option β):AB (.fv (.fp cs o)) k=k (.fv (.fp cs o)):=rfl
theorem AdV (g:FuncId) (a b:List FV) (k:IV→Option β):AB (.fv (.func (.func g) a b)) k=k (.fv (.func (.func g) a b)):=rfl
theorem Aqq (ix:Nat) (vs:List IV) (k:IV→Option β):AK ix (.tuple vs) k=DA vs ix k:=rfl
theorem Aqk (ix:Nat) (vs:List FV) (k:IV→Option β):AK ix (.fv (.tuple vs)) k=DA vs ix fun v=>k (.fv v):=rfl
theorem ApN (o:Nat) (x:IV) (k:IV→Option β):Amm o x k=asAgg x (fun cs=>DA cs o k) fun cs=>DA cs o fun v=>k (.fv v):=rfl
theorem ApW (size o:Nat) (x:IV) (k:IV→Option β):AlH size o x k=asAgg x (fun cs=>Fo cs o fun cs=>FL cs size fun cs=>Oz cs k) fun cs=>Fo cs o fun cs=>FL cs size fun cs=>k (.fv (.agg cs)):=rfl
theorem AoH (z:List IV) (pl:List (Nat×Nat×IV)) (k:IV→Option β):Bv z pl k=NC z pl fun cells=>Oz cells k:=rfl
theorem fk0 (z:List IV) (k:List IV→Option β):NC z [] k=k z:=rfl
theorem fk1 (z:List IV) (o sz:Nat) (v:IV) (pl:List (Nat×Nat×IV)) (k:List IV→Option β):NC z ((o,sz,v)::pl) k=He z o sz v fun z=>NC z pl k:=rfl
theorem Amp {v:IV} (hv:v.one=true) (z:List IV) (o:Nat) (k:List IV→Option β):He z o 1 v k=GG z o v k:=by
 unfold He;cases v with
 | fv w =>
  show cond (Hq w) _ _=_
  have:Hq w=true:=by cases w<;>first | rfl | cases hv
  rw [this];rfl
 | _=>show WM _ _ _ _ _=_;unfold WM;rw [hv];rfl
theorem Aj4 (z:List IV) (o sz:Nat) (cs:List FV) (k:List IV→Option β):He z o sz (.fv (.agg cs)) k=cond (Nat.beq cs.length sz) (DZ z o cs k) none:=rfl
theorem nb3 (a b c:FV):Nat.beq [a,b,c].length 3=true:=rfl
theorem nb4 (a b c d:FV):Nat.beq [a,b,c,d].length 4=true:=rfl
theorem nb7 (a b c d e f g:FV):Nat.beq [a,b,c,d,e,f,g].length 7=true:=rfl
theorem nl3 (a b c:IV):Nat.ble 3 [a,b,c].length=true:=rfl
theorem Alg:(and true true)=true:=rfl
end
end Idl
end Go.Proofs.Ytbkdidonegggdaa
namespace Go.Proofs.Ytbkdidonegggdaa
namespace Idl
section
variable {β:Type} {E:Env} {t:TypeId}
theorem Vl (n:Int):IV.fv (.int .i64 n)=iv n:=rfl
def BS (n:Int):Int:=IntKind.i64.wrap n
theorem Av {n:Int} (h1:-9223372036854775808≤n) (h2:n≤9223372036854775807):BS n=n:=by
 show (if (true && decide ((n % (18446744073709551616:Int)) ≥ (9223372036854775808:Int)))=true then (n % (18446744073709551616:Int)) - (18446744073709551616:Int) else (n % (18446744073709551616:Int)))=n
 by_cases h:0≤n
 ·have e:n % (18446744073709551616:Int)=n:=by omega
  have e2:¬ n ≥ (9223372036854775808:Int):=by omega
  rw [e,decide_eq_false e2];rfl
 ·have e:n % (18446744073709551616:Int)=n+18446744073709551616:=by omega
  have e2:n+18446744073709551616 ≥ (9223372036854775808:Int):=by omega
  rw [e,decide_eq_true e2];simp
theorem Apf (a b:Int) (k:IV→Option β):BF E t (iv a) (iv b) k=k (iv (BS (a+b))):=by
 have hg:CP E t .add (iv a) (iv b) k=k (iv (BS (a+b))):=by
  rw [CP,CD];rfl
 cases a with
 | negSucc a=>exact hg
 | ofNat a=>cases b with
  | negSucc b=>exact hg
  | ofNat b =>
   show cond (Nat.ble (a+b) 9223372036854775807) (N9 (a+b) k) _=_
   rw [Bi];by_cases h:a+b≤9223372036854775807
   ·rw [decide_eq_true h]
    show N9 (a+b) k=_
    rw [Dm]
    have:BS (Int.ofNat a+Int.ofNat b)=((a+b:Nat):Int):=by
     rw [Av (by simp only [Int.ofNat_eq_natCast];omega) (by simp only [Int.ofNat_eq_natCast];omega)];simp only [Int.ofNat_eq_natCast];omega
    rw [this]
   ·rw [decide_eq_false h];exact hg
theorem Ape (a b:Int) (k:IV→Option β):A9 E t (iv a) (iv b) k=k (iv (BS (a - b))):=by
 have hg:CP E t .sub (iv a) (iv b) k=k (iv (BS (a - b))):=by
  rw [CP,CD];rfl
 cases a with
 | negSucc a=>exact hg
 | ofNat a=>cases b with
  | negSucc b=>exact hg
  | ofNat b =>
   show cond (and (Nat.ble b a) (Nat.ble a 9223372036854775807)) (N9 (a - b) k) _=_
   rw [Bi,Bi];by_cases h:b≤a∧a≤9223372036854775807
   ·rw [decide_eq_true h.1,decide_eq_true h.2]
    show N9 (a - b) k=_
    rw [Dm]
    have:BS (Int.ofNat a - Int.ofNat b)=((a - b:Nat):Int):=by
     rw [Av (by simp only [Int.ofNat_eq_natCast];omega) (by simp only [Int.ofNat_eq_natCast];omega)];simp only [Int.ofNat_eq_natCast];omega
    rw [this]
   ·have:(decide (b≤a) && decide (a≤9223372036854775807))=false:=by
     rw [← Bool.decide_and];exact decide_eq_false h
    rw [show and (decide (b≤a)) (decide (a≤9223372036854775807))=false from this]
    exact hg
theorem Ao9 (a b:Int) (k:IV→Option β):CP E t .mul (iv a) (iv b) k=k (iv (BS (a * b))):=by
 rw [CP,CD];rfl
theorem Afs {b:Int} (hb:b≠0) (a:Int) (k:IV→Option β):CP E t .quo (iv a) (iv b) k=k (iv (BS (a.tdiv b))):=by
 rw [CP,CD]
 have:Ft E .quo t (iv a) (iv b)=some (iv (BS (a.tdiv b))):=by
  show (G8 (Op.intDiv .quo .i64 a b)).bind Jm=_
  simp only [Op.intDiv,hb,if_false];rfl
 rw [this];rfl
theorem OI {b:Int} (hb:b≠0) (a:Int) (k:IV→Option β):CP E t .rem (iv a) (iv b) k=k (iv (a.tmod b)):=by
 rw [CP,CD]
 have:Ft E .rem t (iv a) (iv b)=some (iv (a.tmod b)):=by
  show (G8 (Op.intDiv .rem .i64 a b)).bind Jm=_
  simp only [Op.intDiv,hb,if_false];rfl
 rw [this];rfl
theorem Aqs (a b:Int) (k:IV→Option β):A2 E t (iv a) (iv b) k=k (.fv (.bool (decide (a=b)))):=Aoc a b k
theorem Aqv (a b:Int) (k:IV→Option β):IH E t (iv a) (iv b) k=k (.fv (.bool (!decide (a=b)))):=Ao2 a b k
theorem ApI (a b:Int) (k:IV→Option β):Hg E t (iv a) (iv b) k=k (.fv (.bool (decide (a<b)))):=Aoh a b k
theorem Ap3 (a b:Int) (k:IV→Option β):leS E t (iv a) (iv b) k=k (.fv (.bool (decide (a≤b)))):=AnX a b k
theorem ApD (a b:Int) (k:IV→Option β):KU E t (iv a) (iv b) k=k (.fv (.bool (decide (b<a)))):=by
 rw [KU,Lx (fun a b=>by
  show some (IV.fv (.bool (decide ((a:Int) > (b:Int)))))=_
  rw [Bi];congr 3;exact decide_eq_decide.2 (by omega))]
 rfl
theorem Ap2 (a b:Int) (k:IV→Option β):geS E t (iv a) (iv b) k=k (.fv (.bool (decide (b≤a)))):=by
 rw [geS,Lx (fun a b=>by
  show some (IV.fv (.bool (decide ((a:Int) ≥ (b:Int)))))=_
  rw [Bi];congr 3;exact decide_eq_decide.2 (by omega))]
 rfl
theorem Anc (a b:Bool) (hT:E.T t=some ⟨1,1,.bool,[.fv (.bool false)]⟩) (k:IV→Option β):A2 E t (.fv (.bool a)) (.fv (.bool b)) k=k (.fv (.bool (a == b))):=by
 show CP E t .eql _ _ k=_
 rw [CP,CD]
 have:Ft E .eql t (.fv (.bool a)) (.fv (.bool b))=some (.fv (.bool (a == b))):=by
  simp only [Ft,hT,SJ]
 rw [this];rfl
theorem Aow (b:Bool) (k:IV→Option β):CC (KS .not (.fv (.bool b))) k=k (.fv (.bool !b)):=Ao0 b k
theorem ApC (a b:Option β):Al (.fv (.bool true)) a b=a:=rfl
theorem Aqj (a b:Option β):Al (.fv (.bool false)) a b=b:=rfl
theorem ApS (c:Prop) [Decidable c] (a b:Option β):Al (.fv (.bool (decide c))) a b=if c then a else b:=AjN c a b
theorem Ap8 (c:Prop) [Decidable c] (a b:Option β):Al (.fv (.bool (!decide c))) a b=if c then b else a:=by
 by_cases h:c
 ·rw [decide_eq_true h,if_pos h];rfl
 ·rw [decide_eq_false h,if_neg h];rfl
theorem Aqd (c:Bool) (a b:Option β):Al (.fv (.bool c)) a b=if c=true then a else b:=by
 cases c<;>rfl
theorem ApV (c a b:IV) (k:IV→Option β):AF c a b k=Al c (k a) (k b):=rfl
theorem AnV {b:Bool} (hb:b=true) (h:Hp) (m:(IV→Hp→List Ref→List Ref→Option β)→Option β) (k:IV→Hp→List Ref→List Ref→Option β):Ab (.fv (.bool b)) true h m k=m k:=by rw [hb];rfl
theorem Ao4 {b:Bool} (hb:b=false) (h:Hp) (m:(IV→Hp→List Ref→List Ref→Option β)→Option β) (k:IV→Hp→List Ref→List Ref→Option β):Ab (.fv (.bool b)) false h m k=m k:=by rw [hb];rfl
theorem AnC {b:Bool} (hb:b=true) (h:Hp) (m:(IV→Hp→List Ref→List Ref→Option β)→Option β) (k:IV→Hp→List Ref→List Ref→Option β):Ab (.fv (.bool b)) false h m k=k FA h [] []:=by rw [hb];rfl
theorem Aog {b:Bool} (hb:b=false) (h:Hp) (m:(IV→Hp→List Ref→List Ref→Option β)→Option β) (k:IV→Hp→List Ref→List Ref→Option β):Ab (.fv (.bool b)) true h m k=k FA h [] []:=by rw [hb];rfl
theorem Aqa (w:Bool) (h:Hp) (m:(IV→Hp→List Ref→List Ref→Option β)→Option β) (k:IV→Hp→List Ref→List Ref→Option β):Ab FA w h m k=k FA h [] []:=rfl
theorem ch0 (rd wr:List Ref) (a:Option β):Ad [] rd wr a=a:=rfl
theorem ch1 (q1 q2:List Ref) (l:List (List Ref×List Ref)) (rd wr:List Ref) (a:Option β):Ad ((q1,q2)::l) rd wr a=cond (Uc q2 rd) (cond (Uc q2 wr) (cond (Uc wr q1) (Ad l rd wr a) none) none) none:=rfl
theorem dj0 (b:List Ref):Uc [] b=true:=rfl
theorem djn:∀(a:List Ref),Uc a []=true
 | []=>rfl
 | _::a=>djn a
theorem dj1 (r:Ref) (a b:List Ref):Uc (r::a) b=cond (Km r b) (Uc a b) false:=rfl
theorem an0 (r:Ref):Km r []=true:=rfl
theorem an1 (r s:Ref) (l:List Ref):Km r (s::l)=cond (LK r s) (Km r l) false:=rfl
theorem Aqc {i j:Nat} (h:(i == j)=false):LK (.own i) (.own j)=true:=by
 show not (Nat.beq i j)=true
 rw [show Nat.beq i j=false from AgL h];rfl
theorem AnL (i j:Nat):LK (.own i) (.ext j)=true:=rfl
theorem AnN (i j:Nat):LK (.ext i) (.own j)=true:=rfl
theorem Aqx (v:IV) (h:Hp):Ao [v] h=some (v,h):=rfl
theorem Ap7 (h:Hp):Ao [] h=some (.fv (.tuple []),h):=rfl
theorem ApK (a b:IV) (h:Hp):Ao [a,b] h=UD [a,b] fun v=>some (v,h):=rfl
theorem Ap6 (a b c:IV) (h:Hp):Ao [a,b,c] h=UD [a,b,c] fun v=>some (v,h):=rfl
theorem Aqy (a b c d:IV) (h:Hp):Ao [a,b,c,d] h=UD [a,b,c,d] fun v=>some (v,h):=rfl
theorem An9 (es:List FV) (k:IV→Option β):Ca (.fv (.sl es)) k=k (iv es.length):=Dm ..
theorem AoD (k:IV→Option β):Ca .nils k=k (iv 0):=rfl
theorem AnW (es:List FV) (k:IV→Option β):Ca (.clip es) k=k (iv es.length):=Dm ..
theorem AnY (r:Ref) (es:List FV) (k:IV→Option β):Ca (.app r es) k=k (iv es.length):=Dm ..
theorem Aop (r:Ref) (sz n:Nat) (k:IV→Option β):Ca (.slc r sz n) k=k (iv n):=Dm ..
theorem Bs {size:Nat} {es:List FV} {n:Nat} {el:FV} (he:es[n]?=some el) (hl:el.cells.length=size) (k:IV→Option β):Bf size (.fv (.sl es)) (iv n) k=k (.fv (.fp el.cells 0)):=AmK he hl k
theorem ApB {size:Nat} {r:Ref} {es:List FV} {n:Nat} {el:FV} (he:es[n]?=some el) (hl:el.cells.length=size) (k:IV→Option β):Bf size (.app r es) (iv n) k=k (.fv (.fp el.cells 0)):=AmK he hl k
theorem Aqh {size:Nat} {es:List FV} {n:Nat} {el:FV} (he:es[n]?=some el) (hl:el.cells.length=size) (k:IV→Option β):Bf size (.clip es) (iv n) k=k (.fv (.fp el.cells 0)):=AmK he hl k
theorem Ap1 {size sz len:Nat} {r:Ref} {n:Nat} (hn:n<len) (hs:sz=size) (k:IV→Option β):Bf size (.slc r sz len) (iv n) k=k (.ptr r (n * sz)):=by
 show cond (and (Nat.ble (Nat.succ n) len) (Nat.beq sz size)) (DX (n * sz) fun o=>k (.ptr r o)) none=_
 rw [Bi,decide_eq_true (show Nat.succ n≤len from hn),hs,show Nat.beq size size=true from Nat.beq_refl size]
 simp only [Bool.and_self,cond_true];rw [BI]
theorem AiH (size:Nat) (cs:List FV) (es:List FV) (hl:cs.length=size) (k:IV→Option β):Bf size (.fv (.sl (.agg cs::es))) (iv 0) k=k (.fv (.fp cs 0)):=Bs (el:=.agg cs) (n:=0) rfl hl k
theorem Ah0 (size:Nat) (cs:List FV) (e:FV) (es:List FV) (hl:cs.length=size) (k:IV→Option β):Bf size (.fv (.sl (e :: .agg cs::es))) (iv 1) k=k (.fv (.fp cs 0)):=Bs (el:=.agg cs) (n:=1) rfl hl k
theorem AhT (size:Nat) (cs:List FV) (e e':FV) (es:List FV) (hl:cs.length=size) (k:IV→Option β):Bf size (.fv (.sl (e::e' :: .agg cs::es))) (iv 2) k=k (.fv (.fp cs 0)):=Bs (el:=.agg cs) (n:=2) rfl hl k
theorem Ahe (size:Nat) (cs:List FV) (e e' e'':FV) (es:List FV) (hl:cs.length=size) (k:IV→Option β):Bf size (.fv (.sl (e::e'::e'' :: .agg cs::es))) (iv 3) k=k (.fv (.fp cs 0)):=Bs (el:=.agg cs) (n:=3) rfl hl k
def Fz (v:IV) (own:List (Nat×Blk)) (w:FV):Prop:=∃u lg,∀(e:Option (IV×Hp)) (K:FV→List (Ref×Blk)→List Ref→Option (IV×Hp)),FI 12 v ⟨own,[]⟩ [] e K=K w u lg
def B7 (r:Option (IV×Hp)) (w:FV):Prop:=∃v own,r=some (v,⟨own,[]⟩) ∧
 (Fz v own w∨((∀(e:Option (IV×Hp)) (K:FV→List (Ref×Blk)→List Ref→Option (IV×Hp)),FI 12 v ⟨own,[]⟩ [] e K=e)∧∃u,(CQ 4096 v).run ⟨own,[]⟩=some (w,u)))
theorem Anl (w:FV) (own:List (Nat×Blk)):Fz (.fv w) own w:=⟨[],[],fun _ _=>rfl⟩
theorem Ap (w:FV) (own:List (Nat×Blk)):B7 (some (.fv w,⟨own,[]⟩)) w:=⟨_,own,rfl,.inl (Anl w own)⟩
def Hh:IV→Option FV
 | .fv v=>some v
 | .nils=>some (.sl [])
 | .emp=>some (.sl [])
 | .clip es=>some (.sl es)
 | .app _ es=>some (.sl es)
 | _=>none
def C0:List IV→Option (List FV)
 | []=>some []
 | v::l=>(Hh v).bind fun x=>(C0 l).map fun xs=>x::xs
def A7 (v:IV):Option FV:=match v with
 | .agg cs=>if cs.length≤8 then (C0 cs).map .agg else none
 | v=>Hh v
def BO:List IV→Option (List FV)
 | []=>some []
 | v::l=>(A7 v).bind fun x=>(BO l).map fun xs=>x::xs
theorem Aod (v:FV):A7 (.fv v)=some v:=rfl
theorem Ail:A7 .nils=some (.sl []):=rfl
theorem Ak8:A7 .emp=some (.sl []):=rfl
theorem Ah5 (es:List FV):A7 (.clip es)=some (.sl es):=rfl
theorem Amz (r:Ref) (es:List FV):A7 (.app r es)=some (.sl es):=rfl
theorem Ant (v:FV):Hh (.fv v)=some v:=rfl
theorem AhQ:Hh .nils=some (.sl []):=rfl
theorem Akc:Hh .emp=some (.sl []):=rfl
theorem AgX (es:List FV):Hh (.clip es)=some (.sl es):=rfl
theorem Alb (r:Ref) (es:List FV):Hh (.app r es)=some (.sl es):=rfl
theorem ApR {a b c:IV} {x y z:FV} (ha:Hh a=some x) (hb:Hh b=some y) (hc:Hh c=some z):A7 (.agg [a,b,c])=some (.agg [x,y,z]):=by
 show (if 3≤8 then (C0 [a,b,c]).map FV.agg else none)=_
 simp [C0,ha,hb,hc]
theorem Ap5 {a b c d:IV} {x y z u:FV} (ha:Hh a=some x) (hb:Hh b=some y) (hc:Hh c=some z) (hd:Hh d=some u):A7 (.agg [a,b,c,d])=some (.agg [x,y,z,u]):=by
 show (if 4≤8 then (C0 [a,b,c,d]).map FV.agg else none)=_
 simp [C0,ha,hb,hc,hd]
theorem Ajc {v:IV} {x:FV} (d:Nat) (h:Hp) (lg:List Ref) (e:Option β) (k:FV→List (Ref×Blk)→List Ref→Option β) (hz:Hh v=some x):FI (d+1) v h lg e k=k x [] lg:=by
 cases v<;>first | (cases hz;rfl) | (cases hz)
theorem Yj (d:Nat) (h:Hp) (lg:List Ref) (e:Option β):∀(cs:List IV) (k:List FV→List (Ref×Blk)→List Ref→Option β) {xs:List FV},C0 cs=some xs→Ea (FI (d+1)) cs h lg e k=k xs [] lg
 | [],k,xs,hz=>by cases hz;rfl
 | v::cs,k,xs,hz=>by
  simp only [C0] at hz;cases h1:Hh v with
  | none=>rw [h1] at hz;cases hz
  | some x =>
   rw [h1] at hz;cases h2:C0 cs with
   | none=>rw [h2] at hz;cases hz
   | some ys =>
    rw [h2] at hz;cases hz
    show FI (d+1) v h lg e (fun y u lg=>Ea (FI (d+1)) cs h lg e fun ys us lg=>Qm u us fun w=>k (y::ys) w lg)=_
    rw [Ajc d h lg e _ h1,Yj d h lg e cs _ h2];rfl
theorem O7 {v:IV} {x:FV} (h:Hp) (lg:List Ref) (e:Option β) (k:FV→List (Ref×Blk)→List Ref→Option β) (hz:A7 v=some x):FI 12 v h lg e k=k x [] lg:=by
 cases v with
 | agg cs =>
  simp only [A7] at hz;split at hz
  ·rename_i hl;cases h2:C0 cs with
   | none=>rw [h2] at hz;cases hz
   | some ys =>
    rw [h2] at hz;cases hz
    show cond (Nat.ble cs.length 300) (Ea (FI 11) cs h lg e fun cs u lg=>k (.agg cs) u lg) e=_
    rw [Bi,decide_eq_true (show cs.length≤300 by omega)]
    exact Yj 10 h lg e cs _ h2
  ·cases hz
 | _=>exact Ajc 11 h lg e k hz
theorem AqC {v:IV} {x:FV} (hz:A7 v=some x) (own:List (Nat×Blk)):Fz v own x:=⟨[],[],fun e K=>O7 _ _ e K hz⟩
theorem Bb {v:IV} {x:FV} (hz:A7 v=some x) (own:List (Nat×Blk)):B7 (some (v,⟨own,[]⟩)) x:=⟨v,own,rfl,.inl (AqC hz own)⟩
theorem fr1 {v:IV} {x:FV} (n:Nat) (hz:Hh v=some x):CQ (n+1) v=.ret (x,[]):=by
 cases v<;>first | (cases hz;rfl) | (cases hz)
theorem ZU:∀(cs:List IV) (n:Nat) {xs:List FV},cs.length+1<n→C0 cs=some xs→frzL n cs=.ret (xs,[])
 | [],n+1,xs,_,hz=>by cases hz;rfl
 | v::cs,n+2,xs,hn,hz=>by
  simp only [C0] at hz;cases h1:Hh v with
  | none=>rw [h1] at hz;cases hz
  | some x =>
   rw [h1] at hz;cases h2:C0 cs with
   | none=>rw [h2] at hz;cases hz
   | some ys =>
    rw [h2] at hz;cases hz;simp only [AsQ] at hn;simp only [frzL,fr1 n h1,Rd.bind,ZU cs (n+1) (by omega) h2];rfl
theorem frp {v:IV} {x:FV} (n:Nat) (hn:20<n) (hz:A7 v=some x):CQ n v=.ret (x,[]):=by
 cases n with
 | zero=>omega
 | succ n =>
  cases v with
  | agg cs =>
   simp only [A7] at hz;split at hz
   ·rename_i hl;cases h2:C0 cs with
    | none=>rw [h2] at hz;cases hz
    | some ys =>
     rw [h2] at hz;cases hz;simp only [CQ,ZU cs n (by omega) h2,Rd.bind]
   ·cases hz
  | _=>exact fr1 n hz
theorem Ajw:∀(cs:List IV) (n:Nat) {xs:List FV},cs.length+30<n→BO cs=some xs→frzL n cs=.ret (xs,[])
 | [],n+1,xs,_,hz=>by cases hz;rfl
 | v::cs,n+1,xs,hn,hz=>by
  simp only [BO] at hz;cases h1:A7 v with
  | none=>rw [h1] at hz;cases hz
  | some x =>
   rw [h1] at hz;cases h2:BO cs with
   | none=>rw [h2] at hz;cases hz
   | some ys =>
    rw [h2] at hz;cases hz;simp only [AsQ] at hn;simp only [frzL,frp n (by omega) h1,Rd.bind,Ajw cs n (by omega) h2];rfl
theorem AR {vs:List IV} {xs:List FV} (hz:BO vs=some xs) (hl:vs.length≤100) (own:List (Nat×Blk)):B7 (some (.tuple vs,⟨own,[]⟩)) (.tuple xs) :=
 ⟨_,own,rfl,.inr ⟨fun _ _=>rfl,[],by
  show (CQ (4095+1) (.tuple vs)).run _=_
  simp only [CQ,Ajw vs 4095 (by omega) hz,Rd.bind];rfl⟩⟩
theorem AlZ:BO []=some []:=rfl
theorem Vv {a b:IV} {x y:FV} (ha:A7 a=some x) (hb:A7 b=some y):BO [a,b]=some [x,y]:=by simp [BO,ha,hb]
theorem AcG {a b c:IV} {x y z:FV} (ha:A7 a=some x) (hb:A7 b=some y) (hc:A7 c=some z):BO [a,b,c]=some [x,y,z]:=by simp [BO,ha,hb,hc]
theorem Ane {a b c d:IV} {x y z u:FV} (ha:A7 a=some x) (hb:A7 b=some y) (hc:A7 c=some z) (hd:A7 d=some u):BO [a,b,c,d]=some [x,y,z,u]:=by simp [BO,ha,hb,hc,hd]
theorem All {a:IV} {x:FV} (ha:A7 a=some x):BO [a]=some [x]:=by simp [BO,ha]
theorem ML:∀(args:List IV) {vs:List FV},BO args=some vs→Bm [] args=.ret (vs.map .fv,[],[])
 | [],vs,hz=>by cases hz;rfl
 | v::l,vs,hz=>by
  simp only [BO] at hz;cases h1:A7 v with
  | none=>rw [h1] at hz;cases hz
  | some x =>
   rw [h1] at hz;cases h2:BO l with
   | none=>rw [h2] at hz;cases hz
   | some ys =>
    rw [h2] at hz;cases hz;simp only [Bm,frp 4096 (by omega) h1,Rd.bind,ML l h2];rfl
theorem fz0 (keep:List Bool) (h:Hp) (lg:List Ref) (e:Option β) (k:List IV→List Ref→List (Ref×Blk)→List Ref→Option β):fzA [] keep h lg e k=k [] [] [] lg:=rfl
theorem Ad6 (x:IV) (l:List IV) (ks:List Bool) (h:Hp) (lg:List Ref) (e:Option β) (k:List IV→List Ref→List (Ref×Blk)→List Ref→Option β) :
  fzA (x::l) (true::ks) h lg e k=EV x (fun r o=>fzA l ks h lg e fun vs rs us lg=>k (.ptr r o::vs) (r::rs) us lg) fun _ _=>e:=rfl
theorem Up (x:IV) (l:List IV) (ks:List Bool) (h:Hp) (lg:List Ref) (e:Option β) (k:List IV→List Ref→List (Ref×Blk)→List Ref→Option β) :
  fzA (x::l) (false::ks) h lg e k=FI 12 x h lg e fun y u lg=>fzA l ks h lg e fun vs rs us lg=>Qm u us fun w=>k (.fv y::vs) rs w lg:=rfl
section
variable (d:Nat) (h:Hp) (lg:List Ref) (e:Option β) (k:FV→List (Ref×Blk)→List Ref→Option β)
theorem Amg (cs:List IV):FI 12 (.agg cs) h lg e k=cond (Nat.ble cs.length 300) (Ea (FI 11) cs h lg e fun cs u lg=>k (.agg cs) u lg) e:=rfl
theorem Ut (s:Nat) (off:Nat):FI 12 (.ptr (.own s) off) h lg e k=Dt (.own s) h fun b=>ET b fun cells=>cond (Nat.ble cells.length 300) (Ea (FI 11) cells h (.own s::lg) e fun cs u lg=>k (.fp cs off) ((.own s,.row cells true)::u) lg) e:=rfl
theorem LA (v:FV):FI 11 (.fv v) h lg e k=k v [] lg:=rfl
theorem fl0 (g:FzK β) (k:List FV→List (Ref×Blk)→List Ref→Option β):Ea g [] h lg e k=k [] [] lg:=rfl
theorem fl1 (g:FzK β) (x:IV) (l:List IV) (k:List FV→List (Ref×Blk)→List Ref→Option β):Ea g (x::l) h lg e k=g x h lg e fun y u lg=>Ea g l h lg e fun ys us lg=>Qm u us fun w=>k (y::ys) w lg:=rfl
end
def Acz (rs:List Ref) (r:Option (IV×Hp)) (h:Hp) (u:List (Ref×Blk)) (lg:List Ref) (e:Option (IV×Hp)) (g:List Ref→Option (IV×Hp)) (k:IV→Hp→List Ref→List Ref→Option (IV×Hp)):Option (IV×Hp):=match rs with
 | []=>(match r with
  | none=>none
  | some p=>match p with
   | (v,h')=>match h' with
    | ⟨own,ext⟩=>List.casesOn (motive:=fun _=>Option (IV×Hp)) ext (FI 12 v ⟨own,[]⟩ [] e fun w _ _=>Oc u h fun h2=>k (.fv w) h2 lg (Bq u)) fun _ _=>none)
 | r::rs=>g (r::rs)
theorem Pp (keep:List Bool) (ih:Aa) (f:FuncId) (args:List IV) (h:Hp) (k:IV→Hp→List Ref→List Ref→Option (IV×Hp)):Aj keep false false ih f args h k =
  fzA args keep h [] (Gs keep false false ih f args h k) fun vs rs u lg=>Acz rs (ih f vs ⟨[],[]⟩) h u lg (Gs keep false false ih f args h k) (fun rs=>match rs with
   | []=>none
   | r::rs=>(match h with
    | ⟨own,ext⟩=>cond (Oo 400 (r::rs) 0 ext) (match ih f vs ⟨[],ext⟩ with
     | none=>none
     | some p=>match p with
      | (v,h')=>match h' with
       | ⟨own',ext'⟩=>cond (and (Nat.beq ext'.length ext.length) (okB ext.length ext'))
        (FI 12 v ⟨own',ext'⟩ [] (Gs keep false false ih f args h k) fun w _ _=>Oc u ⟨own,ext'⟩ fun h2=>k (.fv w) h2 ((CJ ext.length).reverse++lg) (Bq u++CJ ext.length)) none)
     (Gs keep false false ih f args h k))) k:=by
 unfold Aj;simp only [cond_false];congr 1
theorem Ad0:∀(args:List IV) {vs:List FV} (h:Hp) (lg:List Ref) (e:Option β) (k:List IV→List Ref→List (Ref×Blk)→List Ref→Option β),BO args=some vs→fzA args [] h lg e k=k (vs.map .fv) [] [] lg
 | [],vs,h,lg,e,k,hz=>by cases hz;rfl
 | v::l,vs,h,lg,e,k,hz=>by
  simp only [BO] at hz;cases h1:A7 v with
  | none=>rw [h1] at hz;cases hz
  | some x =>
   rw [h1] at hz;cases h2:BO l with
   | none=>rw [h2] at hz;cases hz
   | some ys =>
    rw [h2] at hz;cases hz
    show FI 12 v h lg e (fun y u lg=>fzA l [] h lg e fun vs rs us lg=>Qm u us fun w=>k (.fv y::vs) rs w lg)=_
    rw [O7 h lg e _ h1,Ad0 l h lg e _ h2];rfl
theorem H1 (f:Ref→Option Ref):∀l:List FV,IV.ren.renL f (l.map .fv)=some (l.map .fv)
 | []=>rfl
 | v::l=>by
  simp only [AsS,IV.ren.renL,IV.ren,H1 f l];rfl
theorem Tw {ih:Aa} {f:FuncId} {args:List IV} {vs:List FV} {w:FV} (hz:BO args=some vs) (hr:B7 (ih f (vs.map .fv) ⟨[],[]⟩) w) (h:Hp) (k:IV→Hp→List Ref→List Ref→Option (IV×Hp)) :
  Aj [] false false ih f args h k=k (.fv w) h [] []:=by
 obtain ⟨v,own,e,hv⟩:=hr;have hD:(∃u,(CQ 4096 v).run ⟨own,[]⟩=some (w,u))→Gs [] false false ih f args h k=k (.fv w) h [] []:=by
  rintro ⟨u,hu⟩;unfold Gs;simp only [ML args hz,Rd.runLog,B9,H1,AsR,A5,ES (Cx 3),ES CX,Lv,Bool.false_eq_true,if_false,e,hu,AsP,IV.ren]
  show (match laid h ([]++(Bq []).zip []) with | none=>none | some h'=>fH h' fun h'=>fV 3 (.fv w) fun res=>k res h' [] _)=_
  simp only [Bq,AsR,List.zip_nil_left,List.append_nil,laid,MQ,Cx]
 rw [Pp,Ad0 args h [] _ _ hz,e];simp only [Acz];rcases hv with ⟨u',lg',hf⟩ | ⟨hf,hu⟩
 ·rw [hf];rfl
 ·rw [hf];exact hD hu
theorem Fs {ih:Aa} {f:FuncId} {w:FV} (hr:B7 (ih f [] ⟨[],[]⟩) w) (h:Hp) (k:IV→Hp→List Ref→List Ref→Option (IV×Hp)) :
  Aj [] false false ih f [] h k=k (.fv w) h [] []:=Tw (vs:=[]) rfl hr h k
theorem As {ih:Aa} {f:FuncId} {a:IV} {x w:FV} (hr:B7 (ih f [.fv x] ⟨[],[]⟩) w) (ha:A7 a=some x) (h:Hp) (k:IV→Hp→List Ref→List Ref→Option (IV×Hp)) :
  Aj [] false false ih f [a] h k=k (.fv w) h [] []:=Tw (All ha) hr h k
theorem Ag {ih:Aa} {f:FuncId} {a b:IV} {x y w:FV} (hr:B7 (ih f [.fv x,.fv y] ⟨[],[]⟩) w) (ha:A7 a=some x) (hb:A7 b=some y) (h:Hp) (k:IV→Hp→List Ref→List Ref→Option (IV×Hp)) :
  Aj [] false false ih f [a,b] h k=k (.fv w) h [] []:=Tw (Vv ha hb) hr h k
theorem A0 {ih:Aa} {f:FuncId} {a b c:IV} {x y z w:FV} (hr:B7 (ih f [.fv x,.fv y,.fv z] ⟨[],[]⟩) w) (ha:A7 a=some x) (hb:A7 b=some y) (hc:A7 c=some z) (h:Hp) (k:IV→Hp→List Ref→List Ref→Option (IV×Hp)) :
  Aj [] false false ih f [a,b,c] h k=k (.fv w) h [] []:=Tw (AcG ha hb hc) hr h k
theorem AD {ih:Aa} {f:FuncId} {a b c d:IV} {x y z u w:FV} (hr:B7 (ih f [.fv x,.fv y,.fv z,.fv u] ⟨[],[]⟩) w) (ha:A7 a=some x) (hb:A7 b=some y) (hc:A7 c=some z) (hd:A7 d=some u) (h:Hp)
  (k:IV→Hp→List Ref→List Ref→Option (IV×Hp)):Aj [] false false ih f [a,b,c,d] h k=k (.fv w) h [] []:=Tw (Ane ha hb hc hd) hr h k
theorem JV (v:IV) (s:Nat) (h:Hp) (k:IV→Hp→List Ref→List Ref→Option β):Ax (.ret { eff:={ val:=v } }) s h k=k v h [] []:=by
 unfold Ax;simp only [Rd.runLog,HZ,Cx];rfl
theorem gen_val' (v:IV) (s:Nat) (h:Hp) (k:IV→Hp→List Ref→List Ref→Option β):Ax (Idl.val v) s h k=k v h [] []:=JV v s h k
theorem Cq {e:TypeId} {a b:Nat} {ei:TI} {z:List IV} (hT:E.T t=some ⟨a,b,.slice e,z⟩) (he:E.T e=some ei) {len:Nat} (hs:¬ (ei.size=0∨len * ei.size > 65536)) {parts:List (Nat×IV)} {cells:List FV}
  (hf:Ct (fun j=>some (j * ei.size,ei.size)) (Ot len ei.zero) parts=some (cells.map .fv)) {s:Nat} {h:Hp} (k:IV→Hp→List Ref→List Ref→Option β) (hc:cells.length<65000:=by simp) :
  Ax (Ah E t len parts) s h k=k (.clip (BK ei.size len cells)) h [] []:=by
 have key:∀(l:List FV) (n:Nat),l.length<n→frzL n (l.map .fv)=.ret (l,[]):=by
  intro l
  induction l with
  | nil=>intro n hn;cases n with
   | zero=>simp at hn
   | succ n=>rfl
  | cons x l ih=>intro n hn;cases n with
   | zero=>simp at hn
   | succ n =>
    simp only [AsQ] at hn;cases n with
    | zero=>omega
    | succ n =>
     simp only [AsS,frzL,CQ,Rd.bind];rw [ih (n+1) (by omega)];rfl
 have:Ah E t len parts=.ret { eff:={ val:=.clip (BK ei.size len cells),upd:=[] } }:=by
  simp only [Ah,hT,he,if_neg hs,hf];rw [key _ _ (by omega)];rfl
 rw [this,JV]
end
end Idl
end Go.Proofs.Ytbkdidonegggdaa
namespace Go.Proofs.Ytbkdidonegggdaa
namespace Idl
def XY:=AsL @decide_true<|AsL @decide_false<|AsL @Bool.not_true<|AsL @Bool.not_false<|AsL @List.map_cons.{0,0}<|AsL @List.map_nil.{0,0}<|AsL @List.length_map.{0,0}<|AsL @List.length_cons.{0}<|AsL @List.length_nil.{0}<|AsL @Int.natCast_zero<|AsL @Int.natCast_one<|AsL @Bool.false_eq_true<|AsL @Bool.true_eq_false<|AsL @decide_eq_true_eq<|AsL @eq_self.{1}<|AsL @Bool.and_true<|AsL @Bool.true_and<|AsL @Bool.and_false<|AsL @Bool.false_and<|AsL @Nat.zero_add<|@Int.cast_ofNat_Int
def XE:=AsL @List.any_cons.{0}<|AsL @List.any_nil.{0}<|AsL @List.all_cons.{0}<|AsL @List.all_nil.{0}<|AsL @List.filter_cons.{0}<|AsL @List.filter_nil.{0}<|AsL @List.contains_cons.{0}<|AsL @List.contains_nil.{0}<|AsL @Bool.or_false<|AsL @Bool.or_true<|AsL @Bool.false_or<|AsL @Bool.true_or<|AsL @Bool.and_self<|AsL @Bool.not_eq_true<|AsL @BEq.rfl.{0}<|@beq_self_eq_true.{0}
def XX:=AsL @n0<|AsL @n1<|AsL @n2<|AsL @n3<|AsL @n4<|AsL @n5<|AsL @n6<|AsL @d0<|AsL @d1<|AsL @d2<|AsL @d3<|AsL @d4<|AsL @t1<|AsL @t2<|AsL @t3<|AsL @t4<|AsL @t7<|AsL @ap0<|AsL @ap1<|AsL @Anj<|AsL @c_t<|AsL @c_f<|AsL @NA<|AsL @Ann<|AsL @AjB<|AsL @AlN<|AsL @Apc<|AsL @AjA<|AsL @AlS<|AsL @AoN<|AsL @Amc<|AsL @Aaj<|AsL @Ahu<|AsL @sn0<|AsL @Any<|AsL @An3<|AsL @Aol<|AsL @AnH<|AsL @AnT<|AsL @Tn<|AsL @AhR<|AsL @Akb<|AsL @Ahr<|AsL @Ao1<|AsL @Apj<|AsL @Ag1<|AsL @AgE<|AsL @Aii<|AsL @Alz<|AsL @AlP<|AsL @AlX<|AsL @Ah7<|AsL @Amo<|AsL @AlI<|AsL @AgW<|AsL @AmJ<|AsL @AhK<|AsL @Ao6<|AsL @Anr<|AsL @Ah9<|AsL @Aka<|AsL @Ah8<|AsL @SW<|AsL @UC<|AsL @Aqu<|AsL @K7<|AsL @W5<|AsL @Ae0<|AsL @Vn<|AsL @Alc<|AsL @Ak5<|AsL @Al1<|AsL @AlG<|AsL @AkC<|AsL @Als<|AsL @Aky<|AsL @Anw<|AsL @AlR<|AsL @AgK<|AsL @AjI<|AsL @Agr<|AsL @AiL<|AsL @AeT<|AsL @AhC<|AsL @Ag3<|AsL @AiB<|AsL @Agq<|AsL @AoX<|AsL @AoO<|AsL @ApL<|AsL @ApU<|AsL @Akv<|AsL @AkN<|AsL @wr0<|AsL @wr1<|AsL @sf0<|AsL @sf1<|AsL @sf2<|AsL @sf3<|AsL @sf4<|AsL @of0<|AsL @of1<|AsL @of2<|AsL @of3<|AsL @of6<|AsL @AqA<|AsL @AfX<|AsL @Apy<|AsL @sc3<|AsL @AqB<|AsL @Ap4<|AsL @Anf<|AsL @Aob<|AsL @AoI<|AsL @AdV<|AsL @Aqq<|AsL @Aqk<|AsL @ApN<|AsL @ApW<|AsL @AoH<|AsL @fk0<|AsL @fk1<|AsL @Amp<|AsL @Aj4<|AsL @nb3<|AsL @nb4<|AsL @nb7<|AsL @nl3<|AsL @Alg<|AsL @Apf<|AsL @Ape<|AsL @Ao9<|AsL @Afs<|AsL @OI<|AsL @Aqs<|AsL @Aqv<|AsL @ApI<|AsL @Ap3<|AsL @ApD<|AsL @Ap2<|AsL @Anc<|AsL @Aow<|AsL @ApC<|AsL @Aqj<|AsL @ApS<|AsL @Ap8<|AsL @Aqd<|AsL @ApV<|AsL @AnV<|AsL @Ao4<|AsL @AnC<|AsL @Aog<|AsL @Aqa<|AsL @ch0<|AsL @ch1<|AsL @dj0<|AsL @djn<|AsL @dj1<|AsL @an0<|AsL @an1<|AsL @Aqc<|AsL @AnL<|AsL @AnN<|AsL @Aqx<|AsL @Ap7<|AsL @ApK<|AsL @Ap6<|AsL @Aqy<|AsL @An9<|AsL @AoD<|AsL @AnW<|AsL @AnY<|AsL @Aop<|AsL @Bs<|AsL @ApB<|AsL @Aqh<|AsL @Ap1<|AsL @AiH<|AsL @Ah0<|AsL @AhT<|AsL @Ahe<|AsL @Aod<|AsL @Ail<|AsL @Ak8<|AsL @Ah5<|AsL @Amz<|AsL @Ant<|AsL @AhQ<|AsL @Akc<|AsL @AgX<|AsL @Alb<|AsL @ApR<|AsL @Ap5<|AsL @AlZ<|AsL @Vv<|AsL @AcG<|AsL @Ane<|AsL @All<|AsL @JV<|@gen_val'
def Ev (f:FuncId) (args:List IV) (w:FV):Prop:=∃N,∀n,N≤n→B7 (SS dt n f args ⟨[],[]⟩) w
theorem Bd {F:(List IV→Hp→Option (IV×Hp))→List IV→Hp→Option (IV×Hp)} {Q:Option (IV×Hp)→Prop} (P:Nat→List IV→Hp→Prop)
  (step:∀k V H rec,P k V H→(∀k' V' H',k' < k→P k' V' H'→Q (rec V' H'))→Q (F rec V H)):∀m k V H,k<m→P k V H→Q (BD m F V H):=by
 intro m
 induction m with
 | zero=>intro k V H h;omega
 | succ m ih=>intro k V H hk hP;exact step k V H (BD m F) hP fun k' V' H' h1 h2=>ih k' V' H' (by omega) h2
mutual
def Tm.wt:Tm→Nat
 | .mk _ _ l=>1+Tm.wtL l
def Tm.wtL:List Tm→Nat
 | []=>0
 | t::l=>t.wt+Tm.wtL l
end
theorem D7 {t:Tm}:∀{l:List Tm},t∈l→t.wt≤Tm.wtL l
 | a::l,h=>by
  rcases List.mem_cons.1 h with rfl | h
  ·simp only [Tm.wtL];omega
  ·have:=D7 h;simp only [Tm.wtL];omega
theorem Gq:∀(l:List Tm),l.length≤Tm.wtL l
 | []=>Nat.zero_le _
 | (.mk _ _ k)::l=>by have:=Gq l;simp only [Tm.wtL,Tm.wt,AsQ];omega
theorem Ji (t:Tm):0<t.wt:=by cases t;simp only [Tm.wt];omega
theorem Am (op n:Int) (l:List Tm):(Tm.mk op n l).enc=.agg [.int .i64 op,.int .i64 n,.sl (l.map Tm.enc)]:=by simp only [Tm.enc,Xn]
theorem AQ {l:List Tm} {i:Nat} {op n:Int} {k:List Tm} (h:l[i]?=some (.mk op n k)):(l.map Tm.enc)[i]?=some (.agg [.int .i64 op,.int .i64 n,.sl (k.map Tm.enc)]):=by
 rw [List.getElem?_map,h,AsP,Am]
theorem CH {α:Type} {l pre rest:List α} {a:α} (h:l=pre++a::rest):l[pre.length]?=some a:=by
 rw [h,List.getElem?_append_right (Nat.le_refl _),Nat.sub_self];rfl
theorem B5 (a b c:FV):(FV.agg [a,b,c]).cells=[a,b,c]:=rfl
theorem Ba (a b c:FV):(FV.agg [a,b,c]).cells.length=3:=rfl
section
variable {β:Type} {E:Env}
def AeJ (b:Blk) (n sz:Nat) (x:Option β):Option β:=match b with
 | .tok a s=>if a=n∧s=sz then x else none
 | _=>none
theorem Hd (n sz:Nat) (x:Option β):AeJ (.tok n sz) n sz x=x:=by
 show (if n=n∧sz=sz then x else none)=x
 rw [if_pos ⟨rfl,rfl⟩]
inductive Plain2:IV→List FV→Prop
 | clip (es:List FV):Plain2 (.clip es) es
 | sl (es:List FV):Plain2 (.fv (.sl es)) es
 | app (r:Ref) (es:List FV):Plain2 (.app r es) es
theorem VL {x:IV} {es:List FV} (h:Plain2 x es):CQ 4096 x=.ret (.sl es,[]):=by cases h<;>rfl
structure SliceT (E:Env) (t:TypeId) (size:Nat):Prop where
 h:∃a b e z ei,E.T t=some ⟨a,b,.slice e,z⟩∧E.T e=some ei∧ei.size=size∧size≠0∧ei.bytes≤100000
theorem Ko {t:TypeId} {size:Nat} (T:SliceT E t size) {x:IV} {es2:List FV} (hx:Plain2 x es2) (h1:Bu size es2=true) (hne:es2.isEmpty=false) (hb:es2.length≤1000000) {s0:IV} (hs:s0=.nils∨s0=.clip []) (s:Nat) (own:List (Nat×Blk)) (ext:List Blk)
  (k:IV→Hp→List Ref→List Ref→Option β):Ax (AT E s false .append [t,t] [s0,x]) s ⟨own,ext⟩ k=CG own s (A1 own s (.tok es2.length size) fun own=>k (.app (.own s) es2) ⟨own,ext⟩ [] [.own s]):=by
 obtain ⟨a,b,e,z,ei,hT,he,rfl,h0,hby⟩:=T.h;have hlen:¬ (Bu ei.size []=false∨(([]:List FV).length+es2.length) * ei.bytes > 140737488355328∨([]:List FV).length+es2.length > 1073741824):=by
  have:es2.length * ei.bytes≤1000000 * 100000:=Nat.mul_le_mul hb hby
  rintro (h | h | h)
  ·cases h
  ·simp only [List.length_nil,Nat.zero_add] at h;omega
  ·simp only [List.length_nil,Nat.zero_add] at h;omega
 have key:AT E s false .append [t,t] [s0,x]=.ret { eff:={ val:=.app (.own s) es2,upd:=[] },new:=some (.tok es2.length ei.size) }:=by
  show E6 E s t (some t) false s0 x=_
  simp only [E6,hT,Option.bind_some,he,VL hx,Rd.bind,h0,h1,false_or,Bool.true_eq_false,if_false];rcases hs with rfl | rfl<;>simp only [B6,if_neg hlen,hne,List.nil_append,Bool.false_eq_true,if_false]
 rw [key];unfold Ax;simp only [Rd.runLog]
 show (I9 (some (.tok es2.length ei.size)) s ⟨own,ext⟩ fun h=>fV 3 (.app (.own s) es2) fun v=>k v h [] ([]++[.own s]))=_
 simp only [I9,CX,Cx];rfl
theorem Ai3 {t:TypeId} {size:Nat} (T:SliceT E t size) {x:IV} (hx:Plain2 x []) {s0:IV} (hs:s0=.nils∨s0=.clip []) (s:Nat) (h:Hp) (k:IV→Hp→List Ref→List Ref→Option β) :
  Ax (AT E s false .append [t,t] [s0,x]) s h k=k s0 h [] []:=by
 obtain ⟨a,b,e,z,ei,hT,he,rfl,h0,hby⟩:=T.h;have hlen:¬ (Bu ei.size []=false∨(([]:List FV).length+([]:List FV).length) * ei.bytes > 140737488355328∨([]:List FV).length+([]:List FV).length > 1073741824):=by
  rintro (h | h | h)
  ·cases h
  ·simp at h
  ·simp at h
 have key:AT E s false .append [t,t] [s0,x]=.ret { eff:={ val:=s0,upd:=[] } }:=by
  show E6 E s t (some t) false s0 x=_
  have h1:Bu ei.size []=true:=rfl;simp only [E6,hT,Option.bind_some,he,VL hx,Rd.bind,h0,h1,false_or,Bool.true_eq_false,if_false];rcases hs with rfl | rfl
  ·simp only [B6];rw [if_neg hlen];simp
  ·simp only [B6];rw [if_neg hlen];simp
 rw [key];exact JV s0 s h k
theorem Pf {t:TypeId} {size:Nat} (T:SliceT E t size) {x:IV} {es es2:List FV} (hx:Plain2 x es2) (h1:Bu size es2=true) (h2:Bu size es=true) (ho:(es2.all fun e=>e.cells.all FV.one)=true) (hb:es.length+es2.length≤1000000) (r s:Nat)
  (own:List (Nat×Blk)) (ext:List Blk) (k:IV→Hp→List Ref→List Ref→Option β):Ax (AT E s false .append [t,t] [.app (.own r) es,x]) s ⟨own,ext⟩ k =
   GF own r fun b=>AeJ b es.length size (A1 own r (.tok (es.length+es2.length) size) fun own=>k (.app (.own r) (es++es2)) ⟨own,ext⟩ [.own r] [.own r]):=by
 obtain ⟨a,b,e,z,ei,hT,he,rfl,h0,hby⟩:=T.h;have hlen:¬ (Bu ei.size es=false∨(es.length+es2.length) * ei.bytes > 140737488355328∨es.length+es2.length > 1073741824):=by
  have:(es.length+es2.length) * ei.bytes≤1000000 * 100000:=Nat.mul_le_mul hb hby
  rintro (h | h | h)
  ·rw [h2] at h;cases h
  ·omega
  ·omega
 have key:(AT E s false .append [t,t] [.app (.own r) es,x]).runLog ⟨own,ext⟩ []=(Aq r own).bind fun b=>match b with
   | .tok n sz=>if n=es.length∧sz=ei.size then some ({ eff:={ val:=.app (.own r) (es++es2),upd:=[(.own r,.tok (n+es2.length) sz)] } },[.own r]) else none
   | _=>none:=by
  show (E6 E s t (some t) false (.app (.own r) es) x).runLog _ _=_
  simp only [E6,hT,Option.bind_some,he,VL hx,Rd.bind,h0,h1,false_or,Bool.true_eq_false,if_false,B6,if_neg hlen,Rd.runLog,ho,and_true]
  show (match Aq r own with | some b=>_ | none=>none)=_
  cases Aq r own with
  | none=>rfl
  | some b =>
   cases b with
   | tok n sz =>
    simp only [Option.bind_some];by_cases hc:n=es.length∧sz=ei.size
    ·rw [if_pos hc,if_pos hc];rfl
    ·rw [if_neg hc,if_neg hc];rfl
   | _=>rfl
 unfold Ax;rw [key,BG];cases hl:Aq r own with
 | none=>simp
 | some b =>
  simp only [Option.bind_some];cases b with
  | tok n sz =>
   simp only [AeJ];by_cases hc:n=es.length∧sz=ei.size
   ·rw [if_pos hc,if_pos hc];obtain ⟨rfl,rfl⟩:=hc
    show (fRf (.own r) fun q=>Dt q ⟨own,ext⟩ fun _=>fBk (.tok (es.length+es2.length) ei.size) fun b=>FJ q b ⟨own,ext⟩ fun h=>I9 none s h fun h=>fV 3 (.app (.own r) (es++es2)) fun v=>k v h [.own r] ([.own r]++[]))=_
    simp only [MM,CX,Cx,I9,FJ,Dt];rw [BG,hl];rfl
   ·rw [if_neg hc,if_neg hc]
  | row _ _=>rfl
  | map _=>rfl
end
end Idl
end Go.Proofs.Ytbkdidonegggdaa
namespace Go.Proofs.Ytbkdidonegggdaa
namespace Idl
theorem TB:EE.T 29=some ⟨1,24,.slice 31,[.nils]⟩:=by kernel_rfl
theorem tTm:EE.T 31=some ⟨3,40,.struct [(0,3),(1,3),(2,29)],[.fv (.int .i64 0),.fv (.int .i64 0),.nils]⟩:=by kernel_rfl
theorem sTm:SliceT EE 29 3:=⟨_,_,_,_,_,TB,tTm,rfl,by decide,by decide⟩
theorem Jp (a:Tm) (s:Nat) (h:Hp) (k:IV→Hp→List Ref→List Ref→Option (IV×Hp)):Ax (Ah EE 29 1 [(0,.fv a.enc)]) s h k=k (.clip [a.enc]) h [] []:=by
 obtain ⟨o1,n1,k1⟩:=a;exact Cq TB tTm (by decide) (cells:=[.int .i64 o1,.int .i64 n1,.sl (Tm.enc.encL k1)]) rfl k
theorem Aku (a b:Tm) (s:Nat) (h:Hp) (k:IV→Hp→List Ref→List Ref→Option (IV×Hp)):Ax (Ah EE 29 2 [(0,.fv a.enc),(1,.fv b.enc)]) s h k=k (.clip [a.enc,b.enc]) h [] []:=by
 obtain ⟨o1,n1,k1⟩:=a;obtain ⟨o2,n2,k2⟩:=b;exact Cq TB tTm (by decide) (cells:=[.int .i64 o1,.int .i64 n1,.sl (Tm.enc.encL k1),.int .i64 o2,.int .i64 n2,.sl (Tm.enc.encL k2)]) rfl k
theorem AhG (a:Tm):a.enc.cells.length=3:=by cases a;rfl
theorem Ab2 (a:Tm):a.enc.cells.all FV.one=true:=by cases a;rfl
theorem Ig (l:List Tm):Bu 3 (l.map Tm.enc)=true:=by
 cases l with
 | nil=>rfl
 | cons a l=>simp only [AsS,Bu,AhG,beq_self_eq_true]
theorem RT (e:Tm) (s:Nat) (own:List (Nat×Blk)) (ext:List Blk) (k:IV→Hp→List Ref→List Ref→Option (IV×Hp)) :
  Ax (AT EE s false .append [29,29] [.nils,.clip [e.enc]]) s ⟨own,ext⟩ k=CG own s (A1 own s (.tok 1 3) fun own=>k (.app (.own s) [e.enc]) ⟨own,ext⟩ [] [.own s]) :=
 Ko sTm (.clip _) (Ig [e]) rfl (by simp) (.inl rfl) s own ext k
theorem Md {es:List Tm} (hb:es.length+1≤1000000) (e:Tm) (r s:Nat) (own:List (Nat×Blk)) (ext:List Blk) (k:IV→Hp→List Ref→List Ref→Option (IV×Hp)) :
  Ax (AT EE s false .append [29,29] [.app (.own r) (es.map Tm.enc),.clip [e.enc]]) s ⟨own,ext⟩ k =
   GF own r fun b=>AeJ b es.length 3 (A1 own r (.tok (es.length+1) 3) fun own=>k (.app (.own r) ((es++[e]).map Tm.enc)) ⟨own,ext⟩ [.own r] [.own r]):=by
 rw [Pf sTm (.clip [e.enc]) (Ig [e]) (Ig es) (by simp [Ab2]) (by simpa using hb) r s own ext k];simp only [List.length_map,List.map_append,AsS,AsR,AsQ,List.length_nil,Nat.zero_add]
theorem AjO {x m:Int} (h1:0<m) (h2:m≤4611686018427387904):(if x.tmod m<0 then BS (x.tmod m+m) else x.tmod m)=x % m:=by
 have a1:=Int.emod_nonneg x (show m≠0 by omega)
 have a2:=Int.emod_lt_of_pos x h1;have e1:x.tmod m=x - m * x.tdiv m:=by have:=Int.mul_tdiv_add_tmod x m;omega
 have e2:x % m=x - m * (x / m):=by have:=Int.mul_ediv_add_emod x m;omega
 have b1:-m<x.tmod m:=Int.lt_tmod_of_pos x h1;have b2:x.tmod m<m:=Int.tmod_lt_of_pos x h1;have key:∃q,x.tmod m=x % m+m * q:=⟨x / m - x.tdiv m,by rw [e1,e2,Int.mul_sub];omega⟩;obtain ⟨q,hq⟩:=key;have hq2:q=0∨q=-1:=by
  rcases Int.lt_trichotomy q 0 with h | h | h
  ·right;rcases Int.lt_trichotomy q (-1) with h' | h' | h'
   ·have:m * q≤m * (-2):=Int.mul_le_mul_of_nonneg_left (by omega) (by omega)
    omega
   ·exact h'
   ·omega
  ·exact .inl h
  ·have:m * 1≤m * q:=Int.mul_le_mul_of_nonneg_left (by omega) (by omega)
   omega
 rcases hq2 with rfl | rfl
 ·rw [if_neg (by omega)];omega
 ·rw [if_pos (by omega),Av (by omega) (by omega)];omega
theorem Ar {n:Nat} (hn:0<n) (x:Int) {m:Int} (h1:0<m) (h2:m≤4611686018427387904):B7 (SS dt n 55 [iv x,iv m] ⟨[],[]⟩) (.int .i64 (x % m)):=by
 obtain ⟨n,rfl⟩:=Nat.exists_eq_add_of_lt hn;rw [Nat.zero_add,c55];simp only [S55,↓XX,XY,↓reduceIte,Nat.reduceBEq,Nat.reduceAdd,Int.reduceEq,Int.reduceLT,Int.reduceLE,↓OI (show m≠0 by omega)]
 rw [← AjO h1 h2];by_cases hc:x.tmod m<0<;>simp only [hc,if_true,if_false]<;>exact Ap _ _
theorem D0 {n:Nat} (hn:0<n) (op:Int):B7 (SS dt n 27 [iv op,.fv (.sl [])] ⟨[],[]⟩) (Tm.mk op 0 []).enc:=by
 obtain ⟨n,rfl⟩:=Nat.exists_eq_add_of_lt hn;rw [Nat.zero_add,c27];simp only [S27,↓XX,XY,↓reduceIte,Nat.reduceBEq,Nat.reduceAdd,Int.reduceEq,Int.reduceLT,Int.reduceLE];exact Ap _ _
theorem C3 {n:Nat} (hn:0<n) (op:Int) (l:List Tm):B7 (SS dt n 27 [iv op,.fv (.sl (l.map Tm.enc))] ⟨[],[]⟩) (Tm.mk op 0 l).enc:=by
 obtain ⟨n,rfl⟩:=Nat.exists_eq_add_of_lt hn;rw [Nat.zero_add,c27];simp only [S27,↓XX,XY,↓reduceIte,Nat.reduceBEq,Nat.reduceAdd,Int.reduceEq,Int.reduceLT,Int.reduceLE,Am];exact Ap _ _
def Tm.kids:Tm→List Tm
 | .mk _ _ l=>l
def Tm.op:Tm→Int
 | .mk o _ _=>o
def Tm.n:Tm→Int
 | .mk _ n _=>n
def Tm.pick (r:Tm) (i:Nat):Tm:=match r.kids[i]? with
 | some k=>k
 | none=>.mk (BS (BS (r.op.tdiv 3)+i)) (BS (BS (r.n.tdiv 5)+BS (7 * i))) []
theorem AL {n:Nat} (hn:0<n) (r:Tm) (i:Nat):B7 (SS dt n 58 [.fv r.enc,iv i] ⟨[],[]⟩) (r.pick i).enc:=by
 obtain ⟨n,rfl⟩:=Nat.exists_eq_add_of_lt hn;rw [Nat.zero_add,c58];obtain ⟨op,m,ks⟩:=r;rw [Am];simp only [Tm.pick,Tm.kids,Tm.op,Tm.n];cases hk:ks[i]? with
 | some k =>
  have hi:(i:Int)<ks.length:=by have:=(List.getElem?_eq_some_iff.1 hk).1;omega
  obtain ⟨o,p,l⟩:=k;simp only [Vj,Uo,VD,VN,S58,↓XX,XY,↓reduceIte,Nat.reduceBEq,Nat.reduceAdd,Int.reduceEq,Int.reduceLT,Int.reduceLE,hi,↓Bs (AQ hk) (Ba _ _ _),↓B5,Am];exact Ap _ _
 | none =>
  have hi:¬ (i:Int)<ks.length:=by have:=List.getElem?_eq_none_iff.1 hk;omega
  simp only [Vj,Uo,VD,VN,S58,↓XX,XY,↓reduceIte,Nat.reduceBEq,Nat.reduceAdd,Int.reduceEq,Int.reduceLT,Int.reduceLE,hi,↓Afs (show (3:Int)≠0 by decide),↓Afs (show (5:Int)≠0 by decide)]
  exact Bb rfl _
section
variable {β:Type}
def Cb (s:Nat):IV→Bool
 | .ptr (.own j) _=>s == j
 | .slc (.own j) _ _=>s == j
 | .app (.own j) _=>s == j
 | .mapr (.own j)=>s == j
 | _=>false
def Fj:IV→Bool
 | .agg _ | .tuple _ | .func ..=>false
 | _=>true
def Fk (s:Nat):Blk→Bool
 | .row cells _=>cells.any (Cb s)
 | _=>false
def Tc:Blk→Bool
 | .row cells _=>cells.all Fj
 | .tok ..=>true
 | .map _=>false
theorem AcX {v:IV} (h:Fj v=true) (s:Nat):(Ref.own s∈v.refs) ↔ Cb s v=true:=by
 cases v with
 | ptr r o=>cases r<;>simp [IV.refs,Cb]
 | slc r a b=>cases r<;>simp [IV.refs,Cb]
 | app r es=>cases r<;>simp [IV.refs,Cb]
 | mapr r=>cases r<;>simp [IV.refs,Cb]
 | agg _=>cases h
 | tuple _=>cases h
 | func _ _ _=>cases h
 | _=>simp [IV.refs,Cb]
theorem I5:∀{l:List IV},l.all Fj=true→∀s,(Ref.own s∈IV.refs.refsL l) ↔ l.any (Cb s)=true
 | [],_,s=>by simp [IV.refs.refsL]
 | v::l,h,s=>by
  rw [List.all_cons,Bool.and_eq_true] at h;rw [IV.refs.refsL,List.mem_append,List.any_cons,Bool.or_eq_true,AcX h.1,I5 h.2]
theorem D6 {b:Blk} (h:Tc b=true) (s:Nat):(Ref.own s∈b.refs) ↔ Fk s b=true:=by
 cases b with
 | row cells ro=>exact I5 h s
 | tok n sz=>simp [Blk.refs,Fk]
 | map es=>cases h
theorem ID (s:Nat):∀l:List Ref,anyIn [s] l=true ↔ Ref.own s∈l
 | []=>by simp [anyIn]
 | .own k::l=>by
  rw [anyIn,Bool.or_eq_true,ID s l,List.mem_cons];simp [eq_comm]
 | .ext k::l=>by
  rw [anyIn,ID s l,List.mem_cons];simp
def heldB (rm:List Nat) (vals:List IV) (own:List (Nat×Blk)) (ext:List Blk) (s:Nat):Bool :=
 vals.any (Cb s) || (own.any (fun p=>!rm.contains p.1 && Fk s p.2) || ext.any (Fk s))
def IZ (rm:List Nat) (vals:List IV) (own:List (Nat×Blk)) (ext:List Blk):List (Nat×Blk):=own.filter fun p=>!rm.contains p.1 || heldB rm vals own ext p.1
def AO (rm:List Nat) (vals:List IV) (own:List (Nat×Blk)) (ext:List Blk):Bool :=
 vals.all Fj && (own.all (fun p=>Tc p.2) && (ext.all Tc && own.all fun p=>!rm.contains p.1 || rm.all fun s=>!Fk s p.2))
theorem Tb {rm:List Nat} {vals:List IV} {own:List (Nat×Blk)} {ext:List Blk} (hf:AO rm vals own ext=true) (s:Nat) :
  Ref.own s∈IV.refs.refsL vals++(own.filter fun p=>!rm.contains p.1).flatMap (fun p=>p.2.refs)++ext.flatMap Blk.refs ↔ heldB rm vals own ext s=true:=by
 simp only [AO,Bool.and_eq_true] at hf;obtain ⟨h1,h2,h3,_⟩:=hf;have e1:Ref.own s∈(own.filter fun p=>!rm.contains p.1).flatMap (fun p=>p.2.refs) ↔ (own.any fun p=>!rm.contains p.1 && Fk s p.2)=true:=by
  rw [List.mem_flatMap,List.any_eq_true];constructor
  ·rintro ⟨p,hp,hr⟩;obtain ⟨hp1,hp2⟩:=List.mem_filter.1 hp;exact ⟨p,hp1,by rw [hp2,(D6 (List.all_eq_true.1 h2 p hp1) s).1 hr];rfl⟩
  ·rintro ⟨p,hp,hr⟩;rw [Bool.and_eq_true] at hr;exact ⟨p,List.mem_filter.2 ⟨hp,hr.1⟩,(D6 (List.all_eq_true.1 h2 p hp) s).2 hr.2⟩
 have e2:Ref.own s∈ext.flatMap Blk.refs ↔ ext.any (Fk s)=true:=by
  rw [List.mem_flatMap,List.any_eq_true];constructor
  ·rintro ⟨p,hp,hr⟩;exact ⟨p,hp,(D6 (List.all_eq_true.1 h3 p hp) s).1 hr⟩
  ·rintro ⟨p,hp,hr⟩;exact ⟨p,hp,(D6 (List.all_eq_true.1 h3 p hp) s).2 hr⟩
 rw [List.mem_append,List.mem_append,I5 h1,e1,e2,heldB,Bool.or_eq_true,Bool.or_eq_true,or_assoc]
theorem AI {base rm:List Nat} {vals:List IV} {own:List (Nat×Blk)} {ext:List Blk} (hb:rm.any base.contains=false) (hf:AO rm vals own ext=true) (k:Hp→Option β) :
  Bt base rm vals ⟨own,ext⟩ k=k ⟨IZ rm vals own ext,ext⟩:=by
 have hm:=Tb hf;have hf0:=hf;simp only [AO,Bool.and_eq_true] at hf0;obtain ⟨g1,g2,g3,g4⟩:=hf0;unfold Bt;rw [hb];simp only [cond_false];rw [L2];cases ha:(own.all fun p=>!rm.contains p.1) with
 | true =>
  simp only [Bool.not_true,cond_false];congr 2
  symm
  apply List.filter_eq_self.2;intro p hp;rw [List.all_eq_true.1 ha p hp];rfl
 | false =>
  simp only [Bool.not_false,cond_true];have slow:(match Cs base [] rm ⟨vals,⟨own,ext⟩⟩ with | none=>none | some S=>fH S.hp k)=k ⟨IZ rm vals own ext,ext⟩:=by
   have hgone:(rm.filter fun k=>!anyIn [k] (IV.refs.refsL vals++(own.filter fun p=>!rm.contains p.1).flatMap (fun p=>p.2.refs)++ext.flatMap Blk.refs))=rm.filter fun s=>!heldB rm vals own ext s:=by
    apply List.filter_congr;intro s _;congr 1;exact Bool.eq_iff_iff.2 ((ID s _).trans (hm s))
   have hown:(own.filter fun p=>!(rm.filter fun s=>!heldB rm vals own ext s).contains p.1)=IZ rm vals own ext:=by
    apply List.filter_congr;intro p _;rw [Bool.eq_iff_iff];simp only [Bool.not_eq_true',Bool.or_eq_true,List.contains_eq_mem,decide_eq_false_iff_not,List.mem_filter];constructor
    ·intro h;by_cases h1:p.1∈rm
     ·right;cases hh:heldB rm vals own ext p.1 with
      | true=>rfl
      | false=>exact absurd ⟨h1,hh⟩ h
     ·exact .inl h1
    ·rintro (h | h) ⟨h1,h2⟩
     ·exact h h1
     ·rw [h] at h2;exact absurd h2 (by simp)
   simp only [Cs,hb,Bool.false_eq_true,if_false,AX,ha,hgone,hown];have hnone:anyIn (rm.filter fun s=>!heldB rm vals own ext s) (CN ⟨vals,⟨IZ rm vals own ext,ext⟩⟩)=false:=by
    apply Ec;intro s hs hmem;obtain ⟨hs1,hs2⟩:=List.mem_filter.1 hs;have hs2:heldB rm vals own ext s=false:=by simpa using hs2
    simp only [CN,List.mem_append] at hmem;rcases hmem with (hmem | hmem) | hmem
    ·have:=(hm s).1 (List.mem_append_left _ (List.mem_append_left _ hmem))
     rw [this] at hs2;cases hs2
    ·obtain ⟨p,hp,hr⟩:=List.mem_flatMap.1 hmem;have hp1:=(List.mem_filter.1 hp).1;have hn:=(D6 (List.all_eq_true.1 g2 p hp1) s).1 hr;have h4:=List.all_eq_true.1 g4 p hp1;cases hc:rm.contains p.1 with
     | true =>
      rw [hc] at h4;have h4:(rm.all fun s=>!Fk s p.2)=true:=h4;have h5:=List.all_eq_true.1 h4 s hs1;rw [hn] at h5;cases h5
     | false =>
      have:=(hm s).1 (List.mem_append_left _ (List.mem_append_right _ (List.mem_flatMap.2 ⟨p,List.mem_filter.2 ⟨hp1,by rw [hc];rfl⟩,hr⟩)))
      rw [this] at hs2;cases hs2
    ·have:=(hm s).1 (List.mem_append_right _ hmem)
     rw [this] at hs2;cases hs2
   simp only [hnone,Bool.false_eq_true,if_false,MQ]
  cases hff:(and (FG rm (Cu vals [])) (and (Hl rm own) (IT rm ext))) with
  | false=>exact slow
  | true =>
   have hff:(FG rm (Cu vals []) && (Hl rm own && IT rm ext))=true:=hff;simp only [Bool.and_eq_true] at hff;simp only [HC,cond_true];congr 2;apply List.filter_congr;intro p hp;cases hc:rm.contains p.1 with
   | false=>rfl
   | true =>
    have h1:=FF hff.1;rw [refsDL_eq,List.append_nil] at h1;have h2:=Hj hff.2.1;have h3:=NU hff.2.2
    have:heldB rm vals own ext p.1=false:=by
     cases hh:heldB rm vals own ext p.1 with
     | false=>rfl
     | true =>
      have:=(hm p.1).2 hh
      have hpm:p.1∈rm:=List.contains_iff_mem.1 hc;rcases List.mem_append.1 this with h | h
      ·rcases List.mem_append.1 h with h | h
       ·exact absurd h (h1 _ hpm)
       ·exact absurd h (h2 _ hpm)
      ·exact absurd h (h3 _ hpm)
    rw [this];rfl
end
section
variable (s j:Nat)
theorem ApT (rm:List Nat) (vals:List IV) (own:List (Nat×Blk)) (ext:List Blk):IZ rm vals own ext=own.filter fun p=>!rm.contains p.1 || heldB rm vals own ext p.1:=rfl
theorem nv1 (o:Nat):Cb s (.ptr (.own j) o)=(s == j):=rfl
theorem nv2 (a b:Nat):Cb s (.slc (.own j) a b)=(s == j):=rfl
theorem nv3 (es:List FV):Cb s (.app (.own j) es)=(s == j):=rfl
theorem nv4 (v:FV):Cb s (.fv v)=false:=rfl
theorem nv5:Cb s .nils=false:=rfl
theorem nv6 (es:List FV):Cb s (.clip es)=false:=rfl
theorem nv7 (o:Nat):Cb s (.ptr (.ext j) o)=false:=rfl
theorem nv8:Cb s .dead=false:=rfl
theorem nb1 (cs:List IV) (ro:Bool):Fk s (.row cs ro)=cs.any (Cb s):=rfl
theorem nb2 (a b:Nat):Fk s (.tok a b)=false:=rfl
theorem ApJ (r:Ref) (o:Nat):Fj (.ptr r o)=true:=rfl
theorem ApM (r:Ref) (a b:Nat):Fj (.slc r a b)=true:=rfl
theorem Aqg (r:Ref) (es:List FV):Fj (.app r es)=true:=rfl
theorem Aqi (v:FV):Fj (.fv v)=true:=rfl
theorem Aql:Fj .nils=true:=rfl
theorem Ap0 (es:List FV):Fj (.clip es)=true:=rfl
theorem AqD:Fj .dead=true:=rfl
theorem Aqn (cs:List IV) (ro:Bool):Tc (.row cs ro)=cs.all Fj:=rfl
theorem fb_2 (a b:Nat):Tc (.tok a b)=true:=rfl
end
def XD:=AsL @ApT<|AsL @nv1<|AsL @nv2<|AsL @nv3<|AsL @nv4<|AsL @nv5<|AsL @nv6<|AsL @nv7<|AsL @nv8<|AsL @nb1<|AsL @nb2<|AsL @ApJ<|AsL @ApM<|AsL @Aqg<|AsL @Aqi<|AsL @Aql<|AsL @Ap0<|AsL @AqD<|AsL @Aqn<|@fb_2
end Idl
end Go.Proofs.Ytbkdidonegggdaa
namespace Go.Proofs.Ytbkdidonegggdaa
namespace Idl
def Ae (op:Int) (i:Nat):Nat :=
 if op=3∨op=4∨op=6∨op=20∨op=28∨op=29 then (if i=1 then 1 else 0) else if op=13 then (if i=0 then 1 else if i=2 then 2 else 0) else 0
theorem Bn (op:Int) (i:Nat):Ae op i≤2:=by
 unfold Ae
 repeat' split
 all_goals omega
theorem Fu {n:Nat} (hn:0<n) (op:Int) (i:Nat):B7 (SS dt n 63 [iv op,iv i] ⟨[],[]⟩) (.int .i64 (Ae op i)):=by
 obtain ⟨n,rfl⟩:∃k,n=k+1:=⟨n - 1,by omega⟩;rw [c63];unfold Ae;by_cases h:op=3∨op=4∨op=6∨op=20∨op=28∨op=29
 ·rw [if_pos h];by_cases hi:i=1
  ·subst hi;rcases h with rfl | rfl | rfl | rfl | rfl | rfl<;>(simp only [↓UU3,↓XX,XY,↓reduceIte,Nat.reduceBEq,Nat.reduceAdd,Int.reduceEq,Int.reduceLT,Int.reduceLE];exact Ap _ _)
  ·have hi':¬ (i:Int)=1:=by omega
   rcases h with rfl | rfl | rfl | rfl | rfl | rfl<;>(simp only [↓UU3,↓XX,XY,↓reduceIte,Nat.reduceBEq,Nat.reduceAdd,Int.reduceEq,Int.reduceLT,Int.reduceLE,hi',hi];exact Ap _ _)
 ·rw [if_neg h];have h3:¬ op=3:=fun e=>h (by simp [e]);have h4:¬ op=4:=fun e=>h (by simp [e]);have h6:¬ op=6:=fun e=>h (by simp [e]);have h20:¬ op=20:=fun e=>h (by simp [e]);have h28:¬ op=28:=fun e=>h (by simp [e]);have h29:¬ op=29:=fun e=>h (by simp [e]);by_cases h13:op=13
  ·subst h13;by_cases hi:i=0
   ·subst hi;simp only [↓UU3,↓XX,XY,↓reduceIte,Nat.reduceBEq,Nat.reduceAdd,Int.reduceEq,Int.reduceLT,Int.reduceLE];exact Ap _ _
   ·have hi':¬ (i:Int)=0:=by omega
    by_cases hj:i=2
    ·subst hj;simp only [↓UU3,↓XX,XY,↓reduceIte,Nat.reduceBEq,Nat.reduceAdd,Int.reduceEq,Int.reduceLT,Int.reduceLE];exact Ap _ _
    ·have hj':¬ (i:Int)=2:=by omega
     simp only [↓UU3,↓XX,XY,↓reduceIte,Nat.reduceBEq,Nat.reduceAdd,Int.reduceEq,Int.reduceLT,Int.reduceLE,hi,hi',hj,hj'];exact Ap _ _
  ·simp only [↓UU3,↓XX,XY,↓reduceIte,Nat.reduceBEq,Nat.reduceAdd,Int.reduceEq,Int.reduceLT,Int.reduceLE,h3,h4,h6,h20,h28,h29,h13];exact Ap _ _
theorem Alf {n:Nat} (hn:0<n) (x:Int):B7 (SS dt n 34 [iv x] ⟨[],[]⟩) (Tm.mk 1 x []).enc:=by
 obtain ⟨n,rfl⟩:∃k,n=k+1:=⟨n - 1,by omega⟩;rw [c34];simp only [S34,↓XX,XY,↓reduceIte,Nat.reduceBEq,Nat.reduceAdd,Int.reduceEq,Int.reduceLT,Int.reduceLE];exact Bb rfl _
theorem Ae9 {n:Nat} (hn:0<n) (x:Int):B7 (SS dt n 57 [iv x] ⟨[],[]⟩) (Tm.mk 2 x []).enc:=by
 obtain ⟨n,rfl⟩:∃k,n=k+1:=⟨n - 1,by omega⟩;rw [c57];simp only [S57,↓XX,XY,↓reduceIte,Nat.reduceBEq,Nat.reduceAdd,Int.reduceEq,Int.reduceLT,Int.reduceLE];exact Bb rfl _
theorem Adu {n:Nat} (hn:0<n) (x:Int):B7 (SS dt n 43 [iv x] ⟨[],[]⟩) (Tm.mk 25 x []).enc:=by
 obtain ⟨n,rfl⟩:∃k,n=k+1:=⟨n - 1,by omega⟩;rw [c43];simp only [S43,↓XX,XY,↓reduceIte,Nat.reduceBEq,Nat.reduceAdd,Int.reduceEq,Int.reduceLT,Int.reduceLE];exact Bb rfl _
mutual
/-- No more than four kids anywhere. -/
def Tm.wk:Tm→Prop
 | .mk _ _ ks=>ks.length≤4∧Tm.wkL ks
def Tm.wkL:List Tm→Prop
 | []=>True
 | t::l=>t.wk∧Tm.wkL l
end
theorem RE {t:Tm}:∀{l:List Tm},Tm.wkL l→t∈l→t.wk
 | a::l,h,hm=>by
  rw [Tm.wkL] at h;rcases List.mem_cons.1 hm with rfl | hm
  ·exact h.1
  ·exact RE h.2 hm
mutual
def Tm.shift:Tm→Int→Int→Tm
 | .mk op n ks,d,c=>.mk op (if op=1∧c≤n then BS (n+d) else n) (Tm.shiftL op 0 ks d c)
def Tm.shiftL:Int→Nat→List Tm→Int→Int→List Tm
 | _,_,[],_,_=>[]
 | op,i,t::l,d,c=>t.shift d (c+Ae op i)::Tm.shiftL op (i+1) l d c
end
theorem Ed (op:Int) (d c:Int):∀(l:List Tm) (i:Nat),(Tm.shiftL op i l d c).length=l.length
 | [],_=>rfl
 | _::l,i=>by simp only [Tm.shiftL,AsQ,Ed op d c l]
theorem M2 (op d c:Int):∀(l l':List Tm) (i:Nat),Tm.shiftL op i (l++l') d c=Tm.shiftL op i l d c++Tm.shiftL op (i+l.length) l' d c
 | [],l',i=>by simp [Tm.shiftL]
 | t::l,l',i=>by simp only [List.cons_append,Tm.shiftL,M2 op d c l l',AsQ];congr 3;omega
theorem Dr:∀(n:Nat) (t:Tm) (d c:Int),t.wt+1<n→t.wk→0≤c→c+2 * t.wt≤4611686018427387904→B7 (SS dt n 31 [.fv t.enc,iv d,iv c] ⟨[],[]⟩) (t.shift d c).enc:=by
 intro n
 induction n with
 | zero=>intro t d c h;omega
 | succ n ih =>
  intro t d c h hw hc0 hc;obtain ⟨op,m,ks⟩:=t;simp only [Tm.wt] at h hc;rw [Tm.wk] at hw;rw [c31,Am];have hlen:=Gq ks;have main:∀m',m'=(if op=1∧c≤m then BS (m+d) else m) →
    B7 (BD n (fun q28 l29 h30=>II l29 h30 (SS dt n) ⟨[],[]⟩ q28) [iv d,iv c,.ptr (.own 32505856) 0,.ptr (.own 32505857) 0,.ptr (.own 32506885) 0,iv 0]
     ⟨[(32505856,.row [iv op,iv m,.fv (.sl (ks.map Tm.enc))] false),(32505857,.row [iv 0,iv 0,.nils] false),(32506885,.row [iv op,iv m',.nils] false)],[]⟩) ((Tm.mk op m ks).shift d c).enc:=by
   intro m' hm';refine Bd (Q:=fun r=>B7 r _) (fun k V H=>∃pre rest,ks=pre++rest∧rest.length=k∧V=[iv d,iv c,.ptr (.own 32505856) 0,.ptr (.own 32505857) 0,.ptr (.own 32506885) 0,iv pre.length] ∧
    (
     (pre=[]∧H=⟨[(32505856,.row [iv op,iv m,.fv (.sl (ks.map Tm.enc))] false),(32505857,.row [iv 0,iv 0,.nils] false),(32506885,.row [iv op,iv m',.nils] false)],[]⟩) ∨
     (pre≠[]∧H=⟨[(32505856,.row [iv op,iv m,.fv (.sl (ks.map Tm.enc))] false),(32505857,.row [iv 0,iv 0,.nils] false),(32506885,.row [iv op,iv m',.app (.own 32513040) ((Tm.shiftL op 0 pre d c).map Tm.enc)] false),(32513040,.tok (Tm.shiftL op 0 pre d c).length 3)],[]⟩)))
    ?_ n ks.length _ _ (by omega) ⟨[],ks,rfl,rfl,rfl,.inl ⟨rfl,rfl⟩⟩
   rintro k V H rec ⟨pre,rest,hk,hl,rfl,hH⟩ hrec;have hkl:ks.length=pre.length+rest.length:=by rw [hk];simp
   cases rest with
   | nil =>
    have hno:¬ ((pre.length:Int)<ks.length):=by rw [hkl];simp
    have hpre:ks=pre:=by simpa using hk
    rcases hH with ⟨rfl,rfl⟩ | ⟨_,rfl⟩
    ·subst hpre;simp only [Gm,FQ,F6,Gd,FY,Gg,FO,Ge,II,Gl,F9,F4,F8,FN,S31,↓XX,XY,↓reduceIte,Nat.reduceBEq,Nat.reduceAdd,Int.reduceEq,Int.reduceLT,Int.reduceLE,Int.lt_irrefl,Tm.shift,Tm.shiftL,← hm',Am];exact Bb rfl _
    ·subst hpre;simp only [Gm,FQ,F6,Gd,FY,Gg,FO,Ge,II,Gl,F9,F4,F8,FN,S31,↓XX,XY,↓reduceIte,Nat.reduceBEq,Nat.reduceAdd,Int.reduceEq,Int.reduceLT,Int.reduceLE,Int.lt_irrefl,Tm.shift,← hm',Am];exact Bb rfl _
   | cons t rest =>
    have hi:(pre.length:Int)<ks.length:=by rw [hkl];simp;omega
    have hg:=CH hk;have htw:=D7 (t:=t) (l:=ks) (by rw [hk];simp);have hb:=Fu (n:=n) (by omega) op pre.length;have hble:=Bn op pre.length;have hs:=ih t d (c+Ae op pre.length) (by omega) (RE hw.2 (by rw [hk];simp)) (by omega) (by omega);have hx:Tm.shiftL op 0 (pre++[t]) d c=Tm.shiftL op 0 pre d c++[t.shift d (c+Ae op pre.length)]:=by
     rw [M2];simp [Tm.shiftL]
    have hwc:BS (c+Ae op pre.length)=c+Ae op pre.length:=by rw [Av]<;>omega
    have hwi:BS ((pre.length:Int)+1)=((pre++[t]).length:Int):=(Av (by omega) (by omega)).trans (by simp);generalize hu:t.shift d (c+Ae op pre.length)=u at hs hx;obtain ⟨o,p,l⟩:=t;simp only [AsQ] at hl;rw [Am] at hs;rcases hH with ⟨hp0,rfl⟩ | ⟨hne,rfl⟩
    ·simp only [Gm,FQ,F6,Gd,FY,Gg,FO,Ge,II,Gl,F9,F4,F8,FN,S31,↓XX,XY,↓reduceIte,Nat.reduceBEq,Nat.reduceAdd,Int.reduceEq,Int.reduceLT,Int.reduceLE,hi,↓Bs (AQ hg) (Ba _ _ _),↓B5,↓Ag hb,hwc,hwi,↓A0 hs,↓Jp,↓RT,↓AI,XD,heldB,AO,XE];refine hrec rest.length _ _ (by omega) ?_;refine ⟨pre++[.mk o p l],rest,by rw [hk];simp,rfl,rfl,.inr ⟨by simp,?_⟩⟩;rw [hx,hp0];rfl
    ·have hle:(Tm.shiftL op 0 pre d c).length+1≤1000000:=by rw [Ed];omega
     have hq:(Tm.shiftL op 0 pre d c).length=pre.length:=Ed ..;simp only [Gm,FQ,F6,Gd,FY,Gg,FO,Ge,II,Gl,F9,F4,F8,FN,S31,↓XX,XY,↓reduceIte,Nat.reduceBEq,Nat.reduceAdd,Int.reduceEq,Int.reduceLT,Int.reduceLE,hi,↓Bs (AQ hg) (Ba _ _ _),↓B5,↓Ag hb,hwc,hwi,↓A0 hs,↓Jp,↓Md hle,↓Hd,↓AI,XD,heldB,AO,XE];refine hrec rest.length _ _ (by omega) ?_;refine ⟨pre++[.mk o p l],rest,by rw [hk];simp,rfl,rfl,.inr ⟨by simp,?_⟩⟩;rw [hx];simp only [List.length_append,AsQ,List.length_nil]
  by_cases h1:op=1
  ·by_cases h2:c≤m
   ·subst h1;simp only [Gm,FQ,F6,Gd,FY,Gg,FO,Ge,Gl,F9,F4,F8,FN,S31,↓XX,XY,↓reduceIte,Nat.reduceBEq,Nat.reduceAdd,Int.reduceEq,Int.reduceLT,Int.reduceLE,h2,↓AI,XD,heldB,AO,XE];exact main _ (by simp [h2])
   ·subst h1;simp only [Gm,FQ,F6,Gd,FY,Gg,FO,Ge,Gl,F9,F4,F8,FN,S31,↓XX,XY,↓reduceIte,Nat.reduceBEq,Nat.reduceAdd,Int.reduceEq,Int.reduceLT,Int.reduceLE,h2,↓AI,XD,heldB,AO,XE];exact main _ (by simp [h2])
  ·simp only [Gm,FQ,F6,Gd,FY,Gg,FO,Ge,Gl,F9,F4,F8,FN,S31,↓XX,XY,↓reduceIte,Nat.reduceBEq,Nat.reduceAdd,Int.reduceEq,Int.reduceLT,Int.reduceLE,h1,↓AI,XD,heldB,AO,XE];exact main _ (by simp [h1])
mutual
def Tm.subst:Tm→Int→Int→Tm→Tm
 | .mk op m ks,n,d,u=>if op=1 then (if m=n then u.shift d 0 else if n<m then .mk 1 (BS (m - 1)) [] else .mk op m ks) else .mk op m (Tm.substL op 0 ks n d u)
def Tm.substL:Int→Nat→List Tm→Int→Int→Tm→List Tm
 | _,_,[],_,_,_=>[]
 | op,i,t::l,n,d,u=>t.subst (n+Ae op i) (d+Ae op i) u::Tm.substL op (i+1) l n d u
end
theorem G9 (op n d:Int) (u:Tm):∀(l:List Tm) (i:Nat),(Tm.substL op i l n d u).length=l.length
 | [],_=>rfl
 | _::l,i=>by simp only [Tm.substL,AsQ,G9 op n d u l]
theorem MI (op n d:Int) (u:Tm):∀(l l':List Tm) (i:Nat),Tm.substL op i (l++l') n d u=Tm.substL op i l n d u++Tm.substL op (i+l.length) l' n d u
 | [],l',i=>by simp [Tm.substL]
 | t::l,l',i=>by simp only [List.cons_append,Tm.substL,MI op n d u l l',AsQ];congr 3;omega
theorem Afv (u:Tm) (hu:u.wk) (huw:u.wt≤1152921504606846976):∀(n:Nat) (t:Tm) (c d:Int),t.wt+u.wt+3<n→t.wk→-1000000000≤c→c+2 * t.wt≤461168601842738→0≤d→d+2 * t.wt≤461168601842738 →
  B7 (SS dt n 62 [.fv t.enc,iv c,iv d,.fv u.enc] ⟨[],[]⟩) (t.subst c d u).enc:=by
 intro n
 induction n with
 | zero=>intro t c d h;omega
 | succ n ih =>
  intro t c d h hw hc0 hc hd0 hd;obtain ⟨op,m,ks⟩:=t;simp only [Tm.wt] at h hc hd;rw [Tm.wk] at hw;rw [c62,Am];have hlen:=Gq ks;by_cases h1:op=1
  ·subst h1;have hsh:=Dr n u d 0 (by omega) hu (by omega) (by omega);rw [Tm.subst,if_pos rfl];generalize u.shift d 0=z at hsh ⊢;obtain ⟨uo,un,uk⟩:=u;obtain ⟨zo,zn,zk⟩:=z;rw [Am] at hsh ⊢;by_cases h2:m=c
   ·subst h2;simp only [↓UU2,↓XX,XY,↓reduceIte,Nat.reduceBEq,Nat.reduceAdd,Int.reduceEq,Int.reduceLT,Int.reduceLE,↓A0 hsh];simp only [↓UU2,↓XX,XY,↓reduceIte,Nat.reduceBEq,Nat.reduceAdd,Int.reduceEq,Int.reduceLT,Int.reduceLE,Am];exact Bb rfl _
   ·by_cases h3:c<m
    ·simp only [↓UU2,↓XX,XY,↓reduceIte,Nat.reduceBEq,Nat.reduceAdd,Int.reduceEq,Int.reduceLT,Int.reduceLE,h2,h3,Am];exact Bb rfl _
    ·simp only [↓UU2,↓XX,XY,↓reduceIte,Nat.reduceBEq,Nat.reduceAdd,Int.reduceEq,Int.reduceLT,Int.reduceLE,h2,h3,Am];exact Bb rfl _
  ·have main :
    B7 (BD n (fun q l h=>HP l h (SS dt n) ⟨[],[]⟩ q) [iv c,iv d,.ptr (.own 65011712) 0,.ptr (.own 65011713) 0,.ptr (.own 65011714) 0,.ptr (.own 65018885) 0,iv 0]
     ⟨[(65011712,.row [iv op,iv m,.fv (.sl (ks.map Tm.enc))] false),(65011713,.row [iv u.op,iv u.n,.fv (.sl (u.kids.map Tm.enc))] false),(65011714,.row [iv 0,iv 0,.nils] false),(65018885,.row [iv op,iv m,.nils] false)],[]⟩)
      (Tm.mk op m (Tm.substL op 0 ks c d u)).enc:=by
    refine Bd (Q:=fun r=>B7 r _) (fun k V H=>∃pre rest,ks=pre++rest∧rest.length=k∧V=[iv c,iv d,.ptr (.own 65011712) 0,.ptr (.own 65011713) 0,.ptr (.own 65011714) 0,.ptr (.own 65018885) 0,iv pre.length] ∧
     (
      (pre=[]∧H=⟨[(65011712,.row [iv op,iv m,.fv (.sl (ks.map Tm.enc))] false),(65011713,.row [iv u.op,iv u.n,.fv (.sl (u.kids.map Tm.enc))] false),(65011714,.row [iv 0,iv 0,.nils] false),(65018885,.row [iv op,iv m,.nils] false)],[]⟩) ∨
      (
      pre≠[]∧H=⟨[(65011712,.row [iv op,iv m,.fv (.sl (ks.map Tm.enc))] false),(65011713,.row [iv u.op,iv u.n,.fv (.sl (u.kids.map Tm.enc))] false),(65011714,.row [iv 0,iv 0,.nils] false),
      (65018885,.row [iv op,iv m,.app (.own 65024016) ((Tm.substL op 0 pre c d u).map Tm.enc)] false),(65024016,.tok (Tm.substL op 0 pre c d u).length 3)],[]⟩)))
     ?_ n ks.length _ _ (by omega) ⟨[],ks,rfl,rfl,rfl,.inl ⟨rfl,rfl⟩⟩
    rintro k V H rec ⟨pre,rest,hk,hl,rfl,hH⟩ hrec;have hkl:ks.length=pre.length+rest.length:=by rw [hk];simp
    cases rest with
    | nil =>
     have hno:¬ ((pre.length:Int)<ks.length):=by rw [hkl];simp
     have hpre:ks=pre:=by simpa using hk
     rcases hH with ⟨rfl,rfl⟩ | ⟨_,rfl⟩
     ·subst hpre;simp only [IE,H0,H4,IC,IJ,In,H5,HM,HY,H7,Il,HU,Iu,HP,HX,HQ,Ix,S62,↓XX,XY,↓reduceIte,Nat.reduceBEq,Nat.reduceAdd,Int.reduceEq,Int.reduceLT,Int.reduceLE,Int.lt_irrefl,Tm.substL,Am];exact Bb rfl _
     ·subst hpre;simp only [IE,H0,H4,IC,IJ,In,H5,HM,HY,H7,Il,HU,Iu,HP,HX,HQ,Ix,S62,↓XX,XY,↓reduceIte,Nat.reduceBEq,Nat.reduceAdd,Int.reduceEq,Int.reduceLT,Int.reduceLE,Int.lt_irrefl,Am];exact Bb rfl _
    | cons t rest =>
     have hi:(pre.length:Int)<ks.length:=by rw [hkl];simp;omega
     have hg:=CH hk;have htw:=D7 (t:=t) (l:=ks) (by rw [hk];simp);have hb:=Fu (n:=n) (by omega) op pre.length;have hble:=Bn op pre.length;have hs:=ih t (c+Ae op pre.length) (d+Ae op pre.length) (by omega) (RE hw.2 (by rw [hk];simp)) (by omega) (by omega) (by omega) (by omega);have hx:Tm.substL op 0 (pre++[t]) c d u=Tm.substL op 0 pre c d u++[t.subst (c+Ae op pre.length) (d+Ae op pre.length) u]:=by
      rw [MI];simp [Tm.substL]
     have hwc:BS (c+Ae op pre.length)=c+Ae op pre.length:=by rw [Av]<;>omega
     have hwd:BS (d+Ae op pre.length)=d+Ae op pre.length:=by rw [Av]<;>omega
     have hwi:BS ((pre.length:Int)+1)=((pre++[t]).length:Int):=(Av (by omega) (by omega)).trans (by simp);generalize hv:t.subst (c+Ae op pre.length) (d+Ae op pre.length) u=v at hs hx;obtain ⟨o,p,l⟩:=t;simp only [AsQ] at hl;have hue:u.enc=.agg [.int .i64 u.op,.int .i64 u.n,.sl (u.kids.map Tm.enc)]:=by cases u;exact Am ..
     rw [Am,hue] at hs;rcases hH with ⟨hp0,rfl⟩ | ⟨hne,rfl⟩
     ·simp only [IE,H0,H4,IC,IJ,In,H5,HM,HY,H7,Il,HU,Iu,HP,HX,HQ,Ix,S62,↓XX,XY,↓reduceIte,Nat.reduceBEq,Nat.reduceAdd,Int.reduceEq,Int.reduceLT,Int.reduceLE,hi,↓Bs (AQ hg) (Ba _ _ _),↓B5,↓Ag hb,hwc,hwd,hwi,↓AD hs,↓Jp,↓RT,↓AI,XD,heldB,AO,XE];refine hrec rest.length _ _ (by omega) ?_;refine ⟨pre++[.mk o p l],rest,by rw [hk];simp,rfl,rfl,.inr ⟨by simp,?_⟩⟩;rw [hx,hp0];rfl
     ·have hle:(Tm.substL op 0 pre c d u).length+1≤1000000:=by rw [G9];omega
      simp only [IE,H0,H4,IC,IJ,In,H5,HM,HY,H7,Il,HU,Iu,HP,HX,HQ,Ix,S62,↓XX,XY,↓reduceIte,Nat.reduceBEq,Nat.reduceAdd,Int.reduceEq,Int.reduceLT,Int.reduceLE,hi,↓Bs (AQ hg) (Ba _ _ _),↓B5,↓Ag hb,hwc,hwd,hwi,↓AD hs,↓Jp,↓Md hle,↓Hd,↓AI,XD,heldB,AO,XE];refine hrec rest.length _ _ (by omega) ?_;refine ⟨pre++[.mk o p l],rest,by rw [hk];simp,rfl,rfl,.inr ⟨by simp,?_⟩⟩;rw [hx];simp only [List.length_append,AsQ,List.length_nil]
   rw [Tm.subst,if_neg h1];obtain ⟨uo,un,uk⟩:=u;rw [Am (op:=uo)];simp only [↓UU2,↓XX,XY,↓reduceIte,Nat.reduceBEq,Nat.reduceAdd,Int.reduceEq,Int.reduceLT,Int.reduceLE,h1,↓AI,XD,heldB,AO,XE];exact main
theorem S9 {n:Nat} (t u:Tm) (c:Int) (hu:u.wk) (huw:u.wt≤1152921504606846976) (h:t.wt+u.wt+4<n) (hw:t.wk) (hww:t.wt≤100000000000000) (h0:-1000000000≤c) (hc:c+2 * t.wt≤461168601842738) :
  B7 (SS dt n 30 [.fv t.enc,iv c,.fv u.enc] ⟨[],[]⟩) (t.subst c 0 u).enc:=by
 obtain ⟨n,rfl⟩:∃k,n=k+1:=⟨n - 1,by omega⟩;rw [c30];have hs:=Afv u hu huw n t c 0 (by omega) hw h0 hc (by omega) (by omega);generalize t.subst c 0 u=v at hs ⊢;obtain ⟨o1,n1,k1⟩:=t;obtain ⟨o2,n2,k2⟩:=u;obtain ⟨o3,n3,k3⟩:=v;simp only [Am] at hs ⊢;simp only [Aez,S30,↓XX,XY,↓reduceIte,Nat.reduceBEq,Nat.reduceAdd,Int.reduceEq,Int.reduceLT,Int.reduceLE,↓AD hs];exact Bb rfl _
mutual
def Tm.free:Tm→Int→Bool
 | .mk op m ks,c=>if op=1 then decide (m=c) else Tm.freeL op 0 ks c
def Tm.freeL:Int→Nat→List Tm→Int→Bool
 | _,_,[],_=>false
 | op,i,t::l,c=>t.free (c+Ae op i) || Tm.freeL op (i+1) l c
end
theorem AhZ:∀(n:Nat) (t:Tm) (c:Int),t.wt+1<n→t.wt≤1152921504606846976→-1000000000≤c→c+2 * t.wt≤461168601842738→B7 (SS dt n 68 [.fv t.enc,iv c] ⟨[],[]⟩) (.bool (t.free c)):=by
 intro n
 induction n with
 | zero=>intro t c h;omega
 | succ n ih =>
  intro t c h hw hc0 hc;obtain ⟨op,m,ks⟩:=t;simp only [Tm.wt] at h hw hc;rw [c68,Am];have hlen:=Gq ks;by_cases h1:op=1
  ·subst h1;rw [Tm.free,if_pos rfl];simp only [Ld,K5,K9,Lh,K2,S68,↓XX,XY,↓reduceIte,Nat.reduceBEq,Nat.reduceAdd,Int.reduceEq,Int.reduceLT,Int.reduceLE];exact Ap _ _
  ·rw [Tm.free,if_neg h1];simp only [Ld,K5,K9,Lh,K2,S68,↓XX,XY,↓reduceIte,Nat.reduceBEq,Nat.reduceAdd,Int.reduceEq,Int.reduceLT,Int.reduceLE,h1];refine Bd (Q:=fun r=>B7 r _) (fun k V H=>∃pre rest,ks=pre++rest∧rest.length=k∧V=[iv c,.ptr (.own 71303168) 0,iv pre.length]∧H=⟨[(71303168,.row [iv op,iv m,.fv (.sl (ks.map Tm.enc))] false)],[]⟩∧Tm.freeL op pre.length rest c=Tm.freeL op 0 ks c)
    ?_ n ks.length _ _ (by omega) ⟨[],ks,rfl,rfl,rfl,rfl,rfl⟩
   rintro k V H rec ⟨pre,rest,hk,hl,rfl,rfl,ht⟩ hrec;have hkl:ks.length=pre.length+rest.length:=by rw [hk];simp
   cases rest with
   | nil =>
    have hno:¬ ((pre.length:Int)<ks.length):=by rw [hkl];simp
    rw [← ht];simp only [Ld,K5,K9,Lh,K2,Q3,S68,↓XX,XY,↓reduceIte,Nat.reduceBEq,Nat.reduceAdd,Int.reduceEq,Int.reduceLT,Int.reduceLE,hno,Tm.freeL];exact Ap _ _
   | cons t rest =>
    have hi:(pre.length:Int)<ks.length:=by rw [hkl];simp;omega
    have hg:=CH hk;have htw:=D7 (t:=t) (l:=ks) (by rw [hk];simp);have hb:=Fu (n:=n) (by omega) op pre.length;have hble:=Bn op pre.length;have hs:=ih t (c+Ae op pre.length) (by omega) (by omega) (by omega) (by omega);have hwc:BS (c+Ae op pre.length)=c+Ae op pre.length:=by rw [Av]<;>omega
    have hwi:BS ((pre.length:Int)+1)=((pre++[t]).length:Int):=(Av (by omega) (by omega)).trans (by simp);simp only [Tm.freeL] at ht;generalize t.free (c+Ae op pre.length)=v at hs ht;obtain ⟨o,p,l⟩:=t;simp only [AsQ] at hl;rw [Am] at hs;cases v
    ·simp only [Ld,K5,K9,Lh,K2,Q3,S68,↓XX,XY,↓reduceIte,Nat.reduceBEq,Nat.reduceAdd,Int.reduceEq,Int.reduceLT,Int.reduceLE,hi,↓Bs (AQ hg) (Ba _ _ _),↓B5,↓Ag hb,hwc,hwi,↓Ag hs];refine hrec rest.length _ _ (by omega) ?_;exact ⟨pre++[.mk o p l],rest,by rw [hk];simp,rfl,rfl,rfl,by simpa using ht⟩
    ·rw [← ht];simp only [Ld,K5,K9,Lh,K2,Q3,S68,↓XX,XY,↓reduceIte,Nat.reduceBEq,Nat.reduceAdd,Int.reduceEq,Int.reduceLT,Int.reduceLE,hi,↓Bs (AQ hg) (Ba _ _ _),↓B5,↓Ag hb,hwc,hwi,↓Ag hs,Bool.true_or];exact Ap _ _
mutual
def Tm.same:Tm→Tm→Bool
 | .mk o n l,.mk o' n' l'=>decide (o=o') && (decide (n=n') && (decide (l.length=l'.length) && Tm.sameL l l'))
def Tm.sameL:List Tm→List Tm→Bool
 | a::l,b::l'=>a.same b && Tm.sameL l l'
 | _,_=>true
end
mutual
theorem PQ:∀a b:Tm,a.same b=true ↔ a=b
 | .mk o n l,.mk o' n' l'=>by
  simp only [Tm.same,Bool.and_eq_true,decide_eq_true_eq,Tm.mk.injEq];constructor
  ·rintro ⟨rfl,rfl,h1,h2⟩;exact ⟨rfl,rfl,(sameL_eq l l' h1).1 h2⟩
  ·rintro ⟨rfl,rfl,rfl⟩;exact ⟨rfl,rfl,rfl,(sameL_eq l l rfl).2 rfl⟩
theorem sameL_eq:∀l l':List Tm,l.length=l'.length→(Tm.sameL l l'=true ↔ l=l')
 | [],[],_=>by simp [Tm.sameL]
 | a::l,b::l',h=>by
  simp only [Tm.sameL,Bool.and_eq_true,List.cons.injEq,PQ a b,sameL_eq l l' (by simpa using h)]
end
theorem Mt:∀(n:Nat) (a b:Tm),a.wt+1<n→a.wt≤1152921504606846976→B7 (SS dt n 21 [.fv a.enc,.fv b.enc] ⟨[],[]⟩) (.bool (a.same b)):=by
 intro n
 induction n with
 | zero=>intro a b h;omega
 | succ n ih =>
  intro a b h hw;obtain ⟨op,m,ks⟩:=a;obtain ⟨op',m',ks'⟩:=b;simp only [Tm.wt] at h hw;rw [c21,Am,Am];have hlen:=Gq ks;rw [Tm.same];by_cases h1:op=op'
  ·by_cases h2:m=m'
   ·by_cases h3:ks.length=ks'.length
    ·have h3':(ks.length:Int)=ks'.length:=by omega
     subst h1 h2;simp only [FX,FP,FM,Gc,Gj,Gf,Gi,Gb,FW,S21,↓XX,XY,↓reduceIte,Nat.reduceBEq,Nat.reduceAdd,Int.reduceEq,Int.reduceLT,Int.reduceLE,h3,h3',Tm.same];refine Bd (Q:=fun r=>B7 r _) (fun k V H=>∃pre rest pre' rest',ks=pre++rest∧ks'=pre'++rest'∧pre.length=pre'.length∧rest.length=k∧V=[.ptr (.own 22020096) 0,.ptr (.own 22020097) 0,iv pre.length] ∧
      H=⟨[(22020096,.row [iv op,iv m,.fv (.sl (ks.map Tm.enc))] false),(22020097,.row [iv op,iv m,.fv (.sl (ks'.map Tm.enc))] false)],[]⟩∧Tm.sameL rest rest'=Tm.sameL ks ks')
      ?_ n ks.length _ _ (by omega) ⟨[],ks,[],ks',rfl,rfl,rfl,rfl,rfl,rfl,rfl⟩
     rintro k V H rec ⟨pre,rest,pre',rest',hk,hk',hpl,hl,rfl,rfl,ht⟩ hrec;have hkl:ks.length=pre.length+rest.length:=by rw [hk];simp
     have hkl':ks'.length=pre'.length+rest'.length:=by rw [hk'];simp
     cases rest with
     | nil =>
      have hno:¬ ((pre.length:Int)<ks.length):=by rw [hkl];simp
      rw [← ht];simp only [FX,FP,FM,Gc,Gj,Mr,Gf,Gi,Gb,FW,S21,↓XX,XY,↓reduceIte,Nat.reduceBEq,Nat.reduceAdd,Int.reduceEq,Int.reduceLT,Int.reduceLE,hno,Tm.sameL];exact Ap _ _
     | cons t rest =>
      cases rest' with
      | nil=>simp at hkl hkl';omega
      | cons t' rest' =>
       have hi:(pre.length:Int)<ks.length:=by rw [hkl];simp;omega
       have hg:=CH hk;have hg':=CH hk';rw [← hpl] at hg';have htw:=D7 (t:=t) (l:=ks) (by rw [hk];simp);have hs:=ih t t' (by omega) (by omega);have hwi:BS ((pre.length:Int)+1)=((pre++[t]).length:Int):=(Av (by omega) (by omega)).trans (by simp);simp only [Tm.sameL] at ht;generalize t.same t'=v at hs ht;obtain ⟨o,p,l⟩:=t;obtain ⟨o',p',l'⟩:=t';simp only [AsQ] at hl;rw [Am,Am] at hs;cases v
       ·rw [← ht];simp only [FX,FP,FM,Gc,Gj,Mr,Gf,Gi,Gb,FW,S21,↓XX,XY,↓reduceIte,Nat.reduceBEq,Nat.reduceAdd,Int.reduceEq,Int.reduceLT,Int.reduceLE,hi,↓Bs (AQ hg) (Ba _ _ _),↓Bs (AQ hg') (Ba _ _ _),↓B5,↓Ag hs,Bool.false_and];exact Ap _ _
       ·simp only [FX,FP,FM,Gc,Gj,Mr,Gf,Gi,Gb,FW,S21,↓XX,XY,↓reduceIte,Nat.reduceBEq,Nat.reduceAdd,Int.reduceEq,Int.reduceLT,Int.reduceLE,hi,↓Bs (AQ hg) (Ba _ _ _),↓Bs (AQ hg') (Ba _ _ _),↓B5,hwi,↓Ag hs];refine hrec rest.length _ _ (by omega) ?_;exact ⟨pre++[.mk o p l],rest,pre'++[.mk o' p' l'],rest',by rw [hk];simp,by rw [hk'];simp,by simp [hpl],rfl,rfl,rfl,by simpa using ht⟩
    ·have h3':¬ (ks.length:Int)=ks'.length:=by omega
     simp only [FX,FP,FM,Gc,Gj,Gf,Gi,Gb,FW,S21,↓XX,XY,↓reduceIte,Nat.reduceBEq,Nat.reduceAdd,Int.reduceEq,Int.reduceLT,Int.reduceLE,h1,h2,h3,h3'];exact Ap _ _
   ·simp only [FX,FP,FM,Gc,Gj,Gf,Gi,Gb,FW,S21,↓XX,XY,↓reduceIte,Nat.reduceBEq,Nat.reduceAdd,Int.reduceEq,Int.reduceLT,Int.reduceLE,h1,h2];exact Ap _ _
  ·simp only [FX,FP,FM,Gc,Gj,Gf,Gi,Gb,FW,S21,↓XX,XY,↓reduceIte,Nat.reduceBEq,Nat.reduceAdd,Int.reduceEq,Int.reduceLT,Int.reduceLE,h1];exact Ap _ _
theorem AgO (o p:Int) (l:List Tm) (s:Nat) (h:Hp) (k:IV→Hp→List Ref→List Ref→Option (IV×Hp)):Ax (Ah EE 29 1 [(0,.fv (.agg [.int .i64 o,.int .i64 p,.sl (l.map Tm.enc)]))]) s h k=k (.clip [.agg [.int .i64 o,.int .i64 p,.sl (l.map Tm.enc)]]) h [] []:=by
 have:=Jp (.mk o p l) s h k
 rw [Am] at this;exact this
def Q2 (o:Option (IV×Hp)):Bool:=match o with
 | some (.fv (.bool b),⟨_,[]⟩)=>b
 | _=>false
theorem Ada {o:Option (IV×Hp)} (h:Q2 o=true):B7 o (.bool true):=by
 unfold Q2 at h;split at h
 ·subst h;exact Ap _ _
 ·cases h
theorem D4 (o1 n1 o2 n2:Int) (k1 k2:List FV) (s:Nat) (h:Hp) (k:IV→Hp→List Ref→List Ref→Option (IV×Hp)):Ax (Ah EE 29 2 [(0,.fv (.agg [.int .i64 o1,.int .i64 n1,.sl k1])),(1,.fv (.agg [.int .i64 o2,.int .i64 n2,.sl k2]))]) s h k =
  k (.clip [.agg [.int .i64 o1,.int .i64 n1,.sl k1],.agg [.int .i64 o2,.int .i64 n2,.sl k2]]) h [] []:=Cq TB tTm (by decide) (cells:=[.int .i64 o1,.int .i64 n1,.sl k1,.int .i64 o2,.int .i64 n2,.sl k2]) rfl k
theorem Jy (o1 n1 o2 n2 o3 n3:Int) (k1 k2 k3:List FV) (s:Nat) (h:Hp) (k:IV→Hp→List Ref→List Ref→Option (IV×Hp)):Ax (Ah EE 29 3 [(0,.fv (.agg [.int .i64 o1,.int .i64 n1,.sl k1])),(1,.fv (.agg [.int .i64 o2,.int .i64 n2,.sl k2])),(2,.fv (.agg [.int .i64 o3,.int .i64 n3,.sl k3]))]) s h k =
  k (.clip [.agg [.int .i64 o1,.int .i64 n1,.sl k1],.agg [.int .i64 o2,.int .i64 n2,.sl k2],.agg [.int .i64 o3,.int .i64 n3,.sl k3]]) h [] []:=Cq TB tTm (by decide) (cells:=[.int .i64 o1,.int .i64 n1,.sl k1,.int .i64 o2,.int .i64 n2,.sl k2,.int .i64 o3,.int .i64 n3,.sl k3]) rfl k
theorem Aos (o1 n1 o2 n2 o3 n3 o4 n4:Int) (k1 k2 k3 k4:List FV) (s:Nat) (h:Hp) (k:IV→Hp→List Ref→List Ref→Option (IV×Hp)):Ax (Ah EE 29 4 [(0,.fv (.agg [.int .i64 o1,.int .i64 n1,.sl k1])),(1,.fv (.agg [.int .i64 o2,.int .i64 n2,.sl k2])),(2,.fv (.agg [.int .i64 o3,.int .i64 n3,.sl k3])),(3,.fv (.agg [.int .i64 o4,.int .i64 n4,.sl k4]))]) s h k =
  k (.clip [.agg [.int .i64 o1,.int .i64 n1,.sl k1],.agg [.int .i64 o2,.int .i64 n2,.sl k2],.agg [.int .i64 o3,.int .i64 n3,.sl k3],.agg [.int .i64 o4,.int .i64 n4,.sl k4]]) h [] []:=Cq TB tTm (by decide) (cells:=[.int .i64 o1,.int .i64 n1,.sl k1,.int .i64 o2,.int .i64 n2,.sl k2,.int .i64 o3,.int .i64 n3,.sl k3,.int .i64 o4,.int .i64 n4,.sl k4]) rfl k
theorem D3 (o1 n1:Int) (k1:List FV) (s:Nat) (h:Hp) (k:IV→Hp→List Ref→List Ref→Option (IV×Hp)):Ax (Ah EE 29 1 [(0,.fv (.agg [.int .i64 o1,.int .i64 n1,.sl k1]))]) s h k =
  k (.clip [.agg [.int .i64 o1,.int .i64 n1,.sl k1]]) h [] []:=Cq TB tTm (by decide) (cells:=[.int .i64 o1,.int .i64 n1,.sl k1]) rfl k
def AjW (r:Option (IV×Hp)) (v:FV):Prop:=∃own,r=some (.fv v,⟨own,[]⟩)
theorem Lk {v:FV} {own:List (Nat×Blk)}:AjW (some (.fv v,⟨own,[]⟩)) v:=⟨own,rfl⟩
def HB:Nat→Tm
 | 0=>.mk 11 0 []
 | n+1=>.mk 12 0 [HB n]
theorem Apd {g:FuncId} (h:EE.pol.inl g=false) (h1:EE.pol.keep g=[]) (h2:EE.pol.split g=false) (h3:EE.pol.raw g=false) (ih:Aa) (xs:List IV) (h0:Hp) (k:IV→Hp→List Ref→List Ref→Option (IV×Hp)) :
  I6 EE ih (.fv (.func (.func g) [] [])) xs h0 k=Aj [] false false ih g xs h0 k:=by
 unfold I6;simp only [callee,h,cond_false,Akf,h1,h2,h3,AsR,List.nil_append,List.append_nil]
theorem Akp {n:Nat} (k:Nat) (hn:k+3<n) (hk:k≤1000000):B7 (SS dt n 35 [iv k] ⟨[],[]⟩) (HB k).enc:=by
 obtain ⟨n,rfl⟩:∃j,n=j+1:=⟨n - 1,by omega⟩;rw [c35];have h0:=D0 (n:=n) (by omega) 11;rw [Am] at h0;simp only [Qj,PF,RJ,S35,↓XX,XY,↓reduceIte,Nat.reduceBEq,Nat.reduceAdd,Int.reduceEq,Int.reduceLT,Int.reduceLE,↓Ag h0];refine Bd (Q:=fun r=>B7 r _) (fun j V H=>∃(i:Nat),i+j=k∧V=[iv k,.ptr (.own 36700160) 0,.ptr (.own 36701185) 0,iv i] ∧
   H=⟨[(36700160,.row [iv 0,iv 0,.nils] false),(36701185,.row [iv (HB i).op,iv (HB i).n,.fv (.sl ((HB i).kids.map Tm.enc))] false)],[]⟩) ?_ n k _ _ (by omega) ⟨0,by omega,rfl,rfl⟩
 rintro j V H rec ⟨i,hi,rfl,rfl⟩ hrec;cases j with
 | zero =>
  have:i=k:=by omega
  subst this;have hno:¬ ((i:Int)<i):=by omega
  generalize HB i=t;obtain ⟨o,p,l⟩:=t;rw [Am];simp only [Qj,PF,RJ,UU,S35,↓XX,XY,↓reduceIte,Nat.reduceBEq,Nat.reduceAdd,Int.reduceEq,Int.reduceLT,Int.reduceLE,hno,Tm.op,Tm.n,Tm.kids];exact Ap _ _
 | succ j =>
  have hlt:(i:Int)<k:=by omega
  have hw:BS ((i:Int)+1)=((i+1:Nat):Int):=(Av (by omega) (by omega)).trans (by simp);have ht:=C3 (n:=n) (by omega) 12 [HB i];have h9:=hrec j ([iv k,.ptr (.own 36700160) 0,.ptr (.own 36701185) 0,iv (i+1:Nat)]) (⟨[(36700160,.row [iv 0,iv 0,.nils] false),(36701185,.row [iv 12,iv 0,.fv (.sl ([HB i].map Tm.enc))] false)],[]⟩) (by omega) ⟨i+1,by omega,rfl,rfl⟩;generalize HB i=t at *;obtain ⟨o,p,l⟩:=t;simp only [AsS,AsR,Am] at ht h9;simp only [Qj,PF,RJ,UU,S35,↓XX,XY,↓reduceIte,Nat.reduceBEq,Nat.reduceAdd,Int.reduceEq,Int.reduceLT,Int.reduceLE,hlt,Tm.op,Tm.n,Tm.kids,↓AgO,↓Ag ht,hw];exact h9
theorem Uf (n:Nat):Q2 (SS dt (n+60) 14 [] ⟨[],[]⟩)=true:=by kernel_rfl
theorem Acw {n:Nat} (h:60≤n):B7 (SS dt n 14 [] ⟨[],[]⟩) (.bool true):=by
 obtain ⟨k,rfl⟩:∃k,n=k+60:=⟨n - 60,by omega⟩;exact Ada (Uf k)
section
variable {β:Type} {E:Env}
def AmP (cs:List IV) (k:List FV→Option β):Option β:=(C0 cs).bind k
theorem AgI {t e:TypeId} {a b:Nat} {ei:TI} {z:List IV} (hT:E.T t=some ⟨a,b,.slice e,z⟩) (he:E.T e=some ei) (hs:ei.size=1) (hz:∃x,ei.zero=[x]) (r s:Nat) (own:List (Nat×Blk)) (ext:List Blk)
  (hc:∀cells ro,Aq r own=some (.row cells ro)→cells.length≤100) (hk:∀cells ro,Aq r own=some (.row cells ro)→∃fc,C0 cells=some fc) (k:IV→Hp→List Ref→List Ref→Option β) :
  Ax (Ah E t 1 [(0,.ptr (.own r) 0)]) s ⟨own,ext⟩ k=GF own r fun bl=>ET bl fun cells=>AmP cells fun fc=>A1 own r (.row cells true) fun own=>k (.clip [.fp fc 0]) ⟨own,ext⟩ [.own r] [.own r]:=by
 obtain ⟨x,hx⟩:=hz;have hm:Ah E t 1 [(0,.ptr (.own r) 0)]=(frzL (65534+1+1) [.ptr (.own r) 0]).bind fun (vs,u)=>.ret { eff:={ val:=.clip (BK ei.size 1 vs),upd:=u } }:=by
  have h1:¬ (ei.size=0∨1 * ei.size > 65536):=by rw [hs];omega
  have h2:Ct (fun j=>some (j * ei.size,ei.size)) (Ot 1 ei.zero) [(0,.ptr (.own r) 0)]=some [.ptr (.own r) 0]:=by
   rw [hx,hs];rfl
  simp only [Ah,hT,he,if_neg h1,h2]
 rw [hm,BG];unfold Ax;cases hl:Aq r own with
 | none =>
  have:((frzL (65534+1+1) [.ptr (.own r) 0]).bind fun (vs,u)=>Rd.ret ({ eff:={ val:=.clip (BK ei.size 1 vs),upd:=u } }:Made)).runLog ⟨own,ext⟩ []=none:=by
   simp only [frzL,CQ,Rd.bind,Rd.runLog,Hp.get,hl]
  rw [this];rfl
 | some bl =>
  cases bl with
  | row cells ro =>
   obtain ⟨fc,hfc⟩:=hk cells ro hl;have hlen:=hc cells ro hl;have h3:frzL 65534 cells=.ret (fc,[]):=ZU cells 65534 (by omega) hfc
   have:((frzL (65534+1+1) [.ptr (.own r) 0]).bind fun (vs,u)=>Rd.ret ({ eff:={ val:=.clip (BK ei.size 1 vs),upd:=u } }:Made)).runLog ⟨own,ext⟩ [] =
     some ({ eff:={ val:=.clip (BK ei.size 1 [.fp fc 0]),upd:=[(.own r,.row cells true)] } },[.own r]):=by
    simp only [frzL,CQ,Rd.bind,Rd.runLog,Hp.get,hl,h3,List.append_nil]
   rw [this];simp only [Option.bind_some,ET,AmP,hfc,hs]
   show (fRf (.own r) fun q=>Dt q ⟨own,ext⟩ fun _=>fBk (.row cells true) fun b=>FJ q b ⟨own,ext⟩ fun h=>I9 none s h fun h=>fV 3 (.clip [.fp fc 0]) fun v=>k v h [.own r] ([.own r]++[]))=_
   simp only [MM,CX,Cx,I9,FJ,Dt];rw [BG,hl];rfl
  | tok n sz =>
   have:((frzL (65534+1+1) [.ptr (.own r) 0]).bind fun (vs,u)=>Rd.ret ({ eff:={ val:=.clip (BK ei.size 1 vs),upd:=u } }:Made)).runLog ⟨own,ext⟩ []=none:=by
    simp only [frzL,CQ,Rd.bind,Rd.runLog,Hp.get,hl]
   rw [this];rfl
  | map es =>
   have:((frzL (65534+1+1) [.ptr (.own r) 0]).bind fun (vs,u)=>Rd.ret ({ eff:={ val:=.clip (BK ei.size 1 vs),upd:=u } }:Made)).runLog ⟨own,ext⟩ []=none:=by
    simp only [frzL,CQ,Rd.bind,Rd.runLog,Hp.get,hl]
   rw [this];rfl
theorem Anx {t e:TypeId} {a b:Nat} {ei:TI} {z:List IV} (hT:E.T t=some ⟨a,b,.slice e,z⟩) (he:E.T e=some ei) (hs:ei.size=1) (hz:∃x,ei.zero=[x]) {r:Nat} {own own':List (Nat×Blk)} {cells:List IV} {ro:Bool} {fc:List FV}
  (hl:Aq r own=some (.row cells ro)) (hf:C0 cells=some fc) (hn:cells.length≤100) (ho:AW r (.row cells true) own=own') (s:Nat) (ext:List Blk) (k:IV→Hp→List Ref→List Ref→Option β) :
  Ax (Ah E t 1 [(0,.ptr (.own r) 0)]) s ⟨own,ext⟩ k=k (.clip [.fp fc 0]) ⟨own',ext⟩ [.own r] [.own r]:=by
 have h1:∀cells' ro',Aq r own=some (.row cells' ro')→cells'=cells:=fun c r h=>by rw [hl] at h;cases h;rfl
 rw [AgI hT he hs hz r s own ext (fun c r h=>by rw [h1 c r h];exact hn) (fun c r h=>by rw [h1 c r h];exact ⟨fc,hf⟩),BG,hl];simp only [Option.bind_some,ET,AmP,hf,B2,ho]
def Bo (r:Option (IV×Hp)) (w:FV) (ext:List Blk):Prop:=∃v own,r=some (v,⟨own,ext⟩) ∧
 ∃u lg,∀(e:Option (IV×Hp)) (K:FV→List (Ref×Blk)→List Ref→Option (IV×Hp)),FI 12 v ⟨own,ext⟩ [] e K=K w u lg
theorem AG (w:FV) (own:List (Nat×Blk)) (ext:List Blk):Bo (some (.fv w,⟨own,ext⟩)) w ext:=⟨_,own,rfl,[],[],fun _ _=>rfl⟩
theorem EX {v:IV} {w:FV} (hz:A7 v=some w) (own:List (Nat×Blk)) (ext:List Blk):Bo (some (v,⟨own,ext⟩)) w ext:=⟨_,own,rfl,[],[],fun e K=>O7 _ _ e K hz⟩
theorem Lt:∀l:List FV,Cu (l.map .fv) []=[]
 | []=>rfl
 | v::l=>by
  show S8 (.fv v) (Cu (l.map .fv) [])=[]
  rw [Lt l];rfl
theorem Aoq (n j:Nat) (t:List Ref) (s:Nat) (rest:List Blk):Oo (n+1) (.ext j::t) s rest=cond (Nat.ble (Nat.succ j) s) (Oo n t s rest) (cond (Nat.beq j s) (goR (Oo n) t s rest) false):=rfl
theorem AnI (n s:Nat):Oo (n+1) [] s []=true:=rfl
set_option maxRecDepth 20000 in
theorem Wr (st:List FV):Oo 400 [.ext 0] 0 [.row (st.map .fv) false]=true:=by
 rw [show (400:Nat)=398+1+1 from rfl,Aoq]
 show goR (Oo (398+1)) [] 0 [.row (st.map .fv) false]=true
 show Oo (398+1) ([]++EZ (.row (st.map .fv) false)) 1 []=true
 rw [show EZ (.row (st.map .fv) false)=Cu (st.map .fv) [] from rfl,Lt]
 exact AnI 398 1
theorem Zb (st:List FV):okB 1 [.row (st.map .fv) false]=true:=by
 show cond (okR 1 (EZ (.row (st.map .fv) false))) true false=true
 rw [show EZ (.row (st.map .fv) false)=Cu (st.map .fv) [] from rfl,Lt]
 rfl
theorem gb3 (a b c:FV):Oo 400 [.ext 0] 0 [.row [.fv a,.fv b,.fv c] false]=true:=Wr [a,b,c]
theorem ob3 (a b c:FV):okB 1 [.row [.fv a,.fv b,.fv c] false]=true:=Zb [a,b,c]
theorem gb2 (a b:FV):Oo 400 [.ext 0] 0 [.row [.fv a,.fv b] false]=true:=Wr [a,b]
theorem ob2 (a b:FV):okB 1 [.row [.fv a,.fv b] false]=true:=Zb [a,b]
theorem VQ {r1:Ref} {rs1:List Ref} {ih:Aa} {f:FuncId} {vs:List IV} {w:FV} {ext ext':List Blk} (hr:Bo (ih f vs ⟨[],ext⟩) w ext') (hg:Oo 400 (r1::rs1) 0 ext=true) (hl:ext'.length=ext.length) (ho:okB ext.length ext'=true)
  (own:List (Nat×Blk)) (r0:Option (IV×Hp)) (u:List (Ref×Blk)) (lg:List Ref) (e:Option (IV×Hp)) (k:IV→Hp→List Ref→List Ref→Option (IV×Hp)) :
  Acz (
     r1::rs1) r0 ⟨own,ext⟩ u lg e (fun rs=>match rs with
   | []=>none
   | r::rs=>(match (⟨own,ext⟩:Hp) with
    | ⟨own,ext⟩=>cond (Oo 400 (r::rs) 0 ext) (match ih f vs ⟨[],ext⟩ with
     | none=>none
     | some p=>match p with
      | (v,h')=>match h' with
       | ⟨own',ext'⟩=>cond (and (Nat.beq ext'.length ext.length) (okB ext.length ext'))
        (FI 12 v ⟨own',ext'⟩ [] e fun w _ _=>Oc u ⟨own,ext'⟩ fun h2=>k (.fv w) h2 ((CJ ext.length).reverse++lg) (Bq u++CJ ext.length)) none)
     e)) k=Oc u ⟨own,ext'⟩ fun h2=>k (.fv w) h2 ((CJ ext.length).reverse++lg) (Bq u++CJ ext.length):=by
 obtain ⟨v,own',e1,u',lg',hz⟩:=hr;simp only [Acz,hg,e1,hl,ho];rw [show (Nat.beq ext.length ext.length && true)=true by rw [Bool.and_true];exact Nat.beq_refl _,cond_true,hz]
 rfl
structure OneX (ext ext':List Blk):Prop where
 g:Oo 400 [.ext 0] 0 ext=true
 l:ext.length=1
 l':ext'.length=1
 o:okB 1 ext'=true
theorem Cj (a b c a' b' c':FV):OneX [.row [.fv a,.fv b,.fv c] false] [.row [.fv a',.fv b',.fv c'] false]:=⟨gb3 ..,rfl,rfl,ob3 ..⟩
theorem Ang (a b a' b':FV):OneX [.row [.fv a,.fv b] false] [.row [.fv a',.fv b'] false]:=⟨gb2 ..,rfl,rfl,ob2 ..⟩
theorem S4 (x:Nat):∀(args:List IV) {vs:List FV} (h:Hp) (lg:List Ref) (e:Option β) (k:List IV→List Ref→List (Ref×Blk)→List Ref→Option β) (ks:List Bool),(∀b∈ks,b=false)→BO args=some vs →
  fzA args ks h lg e k=k (vs.map .fv) [] [] lg
 | [],vs,h,lg,e,k,ks,_,hz=>by cases hz;rfl
 | v::l,vs,h,lg,e,k,[],_,hz=>Ad0 (v::l) h lg e k hz
 | v::l,vs,h,lg,e,k,b::ks,hk,hz=>by
  have hb:=hk b List.mem_cons_self;subst hb;simp only [BO] at hz;cases h1:A7 v with
  | none=>rw [h1] at hz;cases hz
  | some x' =>
   rw [h1] at hz;cases h2:BO l with
   | none=>rw [h2] at hz;cases hz
   | some ys =>
    rw [h2] at hz;cases hz;rw [Up,O7 h lg e _ h1,S4 x l h lg e _ ks (fun c hc=>hk c (List.mem_cons_of_mem _ hc)) h2];rfl
theorem AfF {ks:List Bool} (hks:∀b∈ks,b=false) {ih:Aa} {f:FuncId} {args:List IV} {vs:List FV} {w:FV} {ext ext':List Blk} (hz:BO args=some vs) (X:OneX ext ext') (hr:Bo (ih f (.ptr (.ext 0) 0::vs.map .fv) ⟨[],ext⟩) w ext')
  (own:List (Nat×Blk)) (k:IV→Hp→List Ref→List Ref→Option (IV×Hp)):Aj (true::ks) false false ih f (.ptr (.ext 0) 0::args) ⟨own,ext⟩ k=k (.fv w) ⟨own,ext'⟩ [.ext 0] [.ext 0]:=by
 rw [Pp,Ad6,UC,S4 0 args _ _ _ _ ks hks hz]
 have:=VQ (r1:=.ext 0) (rs1:=[]) hr X.g (by rw [X.l,X.l']) (by rw [X.l];exact X.o) own (ih f (.ptr (.ext 0) 0::vs.map .fv) ⟨[],[]⟩) [] [] (Gs (true::ks) false false ih f (.ptr (.ext 0) 0::args) ⟨own,ext⟩ k) k
 refine this.trans ?_;rw [X.l];rfl
theorem Dk {ih:Aa} {f:FuncId} {w:FV} {ext ext':List Blk} (hr:Bo (ih f [.ptr (.ext 0) 0] ⟨[],ext⟩) w ext') (X:OneX ext ext') (own:List (Nat×Blk)) (k:IV→Hp→List Ref→List Ref→Option (IV×Hp)) :
  Aj [true] false false ih f [.ptr (.ext 0) 0] ⟨own,ext⟩ k=k (.fv w) ⟨own,ext'⟩ [.ext 0] [.ext 0]:=AfF (ks:=[]) (by simp) (vs:=[]) rfl X hr own k
theorem I2 {ih:Aa} {f:FuncId} {a b:IV} {x y w:FV} {ext ext':List Blk} (hr:Bo (ih f [.ptr (.ext 0) 0,.fv x,.fv y] ⟨[],ext⟩) w ext') (X:OneX ext ext') (ha:A7 a=some x) (hb:A7 b=some y) (own:List (Nat×Blk))
  (k:IV→Hp→List Ref→List Ref→Option (IV×Hp)):Aj [true,false,false] false false ih f [.ptr (.ext 0) 0,a,b] ⟨own,ext⟩ k=k (.fv w) ⟨own,ext'⟩ [.ext 0] [.ext 0]:=AfF (ks:=[false,false]) (by simp) (Vv ha hb) X hr own k
theorem Afn {ih:Aa} {f:FuncId} {a b c:IV} {x y z w:FV} {ext ext':List Blk} (hr:Bo (ih f [.ptr (.ext 0) 0,.fv x,.fv y,.fv z] ⟨[],ext⟩) w ext') (X:OneX ext ext') (ha:A7 a=some x) (hb:A7 b=some y) (hc:A7 c=some z)
  (own:List (Nat×Blk)) (k:IV→Hp→List Ref→List Ref→Option (IV×Hp)):Aj [true,false,false,false] false false ih f [.ptr (.ext 0) 0,a,b,c] ⟨own,ext⟩ k=k (.fv w) ⟨own,ext'⟩ [.ext 0] [.ext 0] :=
 AfF (ks:=[false,false,false]) (by simp) (AcG ha hb hc) X hr own k
theorem QT {ih:Aa} {f:FuncId} {s:Nat} {own:List (Nat×Blk)} {cells:List IV} {ro:Bool} {fc:List FV} {w:FV} {ext ext':List Blk} (hr:Bo (ih f [.ptr (.ext 0) 0,.fv (.fp fc 0)] ⟨[],ext⟩) w ext') (X:OneX ext ext')
  (hl:Aq s own=some (.row cells ro)) (hz:C0 cells=some fc) (hn:cells.length≤300) (k:IV→Hp→List Ref→List Ref→Option (IV×Hp)) :
  Aj [true,false] false false ih f [.ptr (.ext 0) 0,.ptr (.own s) 0] ⟨own,ext⟩ k=k (.fv w) ⟨AW s (.row cells true) own,ext'⟩ [.ext 0,.own s] [.own s,.ext 0]:=by
 rw [Pp,Ad6,UC,Up,Ut,NA,BG,hl];simp only [Option.bind_some,K7];rw [Bi,decide_eq_true hn,c_t,Yj 10 _ _ _ cells _ hz,fz0]
 have:=VQ (r1:=.ext 0) (rs1:=[]) hr X.g (by rw [X.l,X.l']) (by rw [X.l];exact X.o) own (ih f [.ptr (.ext 0) 0,.fv (.fp fc 0)] ⟨[],[]⟩) [(.own s,.row cells true)] [.own s] (Gs [true,false] false false ih f [.ptr (.ext 0) 0,.ptr (.own s) 0] ⟨own,ext⟩ k) k
 refine this.trans ?_;rw [X.l]
 show (GF own s fun _=>A1 own s (.row cells true) fun own=>k (.fv w) ⟨own,ext'⟩ [.ext 0,.own s] [.own s,.ext 0])=_
 rw [BG,hl,Option.bind_some,B2]
end
end Idl
end Go.Proofs.Ytbkdidonegggdaa
namespace Go.Proofs.Ytbkdidonegggdaa
namespace Idl
inductive RV where
 | mk (op n:Int) (k env:List RV) (b:Tm)
def Tm.z:Tm:=.mk 0 0 []
def RV.enc:RV→FV
 | .mk op n k env (.mk bo bn bk)=>.fp [.int .i64 op,.int .i64 n,.sl (encL k),.sl (encL env),.int .i64 bo,.int .i64 bn,.sl (bk.map Tm.enc)] 0
where
 encL:List RV→List FV
  | []=>[]
  | v::l=>v.enc::encL l
theorem AeQ (l:List RV):RV.enc.encL l=l.map RV.enc:=by
 induction l with
 | nil=>rfl
 | cons t l ih=>simp [RV.enc.encL,ih]
theorem It (op n:Int) (k env:List RV) (bo bn:Int) (bk:List Tm):(RV.mk op n k env (.mk bo bn bk)).enc =
  .fp [.int .i64 op,.int .i64 n,.sl (k.map RV.enc),.sl (env.map RV.enc),.int .i64 bo,.int .i64 bn,.sl (bk.map Tm.enc)] 0:=by simp only [RV.enc,AeQ]
def RV.op:RV→Int
 | .mk op _ _ _ _=>op
def RV.n:RV→Int
 | .mk _ n _ _ _=>n
def RV.k:RV→List RV
 | .mk _ _ k _ _=>k
def RV.env:RV→List RV
 | .mk _ _ _ env _=>env
def RV.b:RV→Tm
 | .mk _ _ _ _ b=>b
def RV.var (n:Int):RV:=.mk 1 n [] [] .z
def RV.clo (env:List RV) (b:Tm):RV:=.mk 0 0 [] env b
def RV.zero:RV:=.mk 11 0 [] [] .z
def RV.node (op n:Int) (k:List RV):RV:=.mk op n k [] .z
theorem Mj (v:RV):v.enc=.fp [.int .i64 v.op,.int .i64 v.n,.sl (v.k.map RV.enc),.sl (v.env.map RV.enc),.int .i64 v.b.op,.int .i64 v.b.n,.sl (v.b.kids.map Tm.enc)] 0:=by
 obtain ⟨op,n,k,env,⟨bo,bn,bk⟩⟩:=v;exact It ..
theorem Uh (t:Tm):Tm.enc t=.agg [.int .i64 t.op,.int .i64 t.n,.sl (t.kids.map Tm.enc)]:=by cases t;exact Am ..
theorem MS (v:RV):v.enc.cells.length=1:=by obtain ⟨op,n,k,env,⟨bo,bn,bk⟩⟩:=v;rfl
theorem Tf (v:RV):v.enc.cells.all FV.one=true:=by obtain ⟨op,n,k,env,⟨bo,bn,bk⟩⟩:=v;rfl
theorem Acr (v:RV):v.enc.cells=[v.enc]:=by obtain ⟨op,n,k,env,⟨bo,bn,bk⟩⟩:=v;rfl
theorem tVs:EE.T 93=some ⟨1,24,.slice 72,[.nils]⟩:=by kernel_rfl
theorem tVp:EE.T 72=some ⟨1,8,.ptr,[.fv .nilp]⟩:=by kernel_rfl
theorem sV:SliceT EE 93 1:=⟨_,_,_,_,_,tVs,tVp,rfl,by decide,by decide⟩
theorem Jq (l:List RV):Bu 1 (l.map RV.enc)=true:=by
 cases l with
 | nil=>rfl
 | cons a l=>simp only [AsS,Bu,MS,beq_self_eq_true]
theorem Ai2 (s:Nat) (h:Hp) (k:IV→Hp→List Ref→List Ref→Option (IV×Hp)):Ax (Ah EE 93 0 []) s h k=k (.clip []) h [] [] :=
 Cq tVs tVp (by decide) (cells:=[]) rfl k
theorem TQ (a:RV) (s:Nat) (h:Hp) (k:IV→Hp→List Ref→List Ref→Option (IV×Hp)):Ax (Ah EE 93 1 [(0,.fv a.enc)]) s h k=k (.clip [a.enc]) h [] []:=by
 obtain ⟨op,n,kk,env,⟨bo,bn,bk⟩⟩:=a;rw [It];exact Cq tVs tVp (by decide) (cells:=[.fp [.int .i64 op,.int .i64 n,.sl (kk.map RV.enc),.sl (env.map RV.enc),.int .i64 bo,.int .i64 bn,.sl (bk.map Tm.enc)] 0]) rfl k
theorem An0 (a b:RV) (s:Nat) (h:Hp) (k:IV→Hp→List Ref→List Ref→Option (IV×Hp)):Ax (Ah EE 93 2 [(0,.fv a.enc),(1,.fv b.enc)]) s h k=k (.clip [a.enc,b.enc]) h [] []:=by
 obtain ⟨op,n,kk,env,⟨bo,bn,bk⟩⟩:=a;obtain ⟨op',n',kk',env',⟨bo',bn',bk'⟩⟩:=b;rw [It,It];exact Cq tVs tVp (by decide) (cells:=[.fp [.int .i64 op,.int .i64 n,.sl (kk.map RV.enc),.sl (env.map RV.enc),.int .i64 bo,.int .i64 bn,.sl (bk.map Tm.enc)] 0,.fp [.int .i64 op',.int .i64 n',.sl (kk'.map RV.enc),.sl (env'.map RV.enc),.int .i64 bo',.int .i64 bn',.sl (bk'.map Tm.enc)] 0]) rfl k
theorem AoB (a b c d:RV) (s:Nat) (h:Hp) (k:IV→Hp→List Ref→List Ref→Option (IV×Hp)):Ax (Ah EE 93 4 [(0,.fv a.enc),(1,.fv b.enc),(2,.fv c.enc),(3,.fv d.enc)]) s h k =
  k (.clip [a.enc,b.enc,c.enc,d.enc]) h [] []:=by
 have key:∀x:RV,∃l,x.enc=.fp l 0:=fun x=>⟨_,Mj x⟩;obtain ⟨la,ha⟩:=key a;obtain ⟨lb,hb⟩:=key b;obtain ⟨lc,hc⟩:=key c;obtain ⟨ld,hd⟩:=key d;rw [ha,hb,hc,hd];exact Cq tVs tVp (by decide) (cells:=[.fp la 0,.fp lb 0,.fp lc 0,.fp ld 0]) rfl k
theorem AdR (e:RV) (s:Nat) (own:List (Nat×Blk)) (ext:List Blk) (k:IV→Hp→List Ref→List Ref→Option (IV×Hp)) :
  Ax (AT EE s false .append [93,93] [.nils,.clip [e.enc]]) s ⟨own,ext⟩ k=CG own s (A1 own s (.tok 1 1) fun own=>k (.app (.own s) [e.enc]) ⟨own,ext⟩ [] [.own s]) :=
 Ko sV (.clip _) (Jq [e]) rfl (by simp) (.inl rfl) s own ext k
theorem UP {es:List RV} (hb:es.length+1≤1000000) (e:RV) (r s:Nat) (own:List (Nat×Blk)) (ext:List Blk) (k:IV→Hp→List Ref→List Ref→Option (IV×Hp)) :
  Ax (AT EE s false .append [93,93] [.app (.own r) (es.map RV.enc),.clip [e.enc]]) s ⟨own,ext⟩ k =
   GF own r fun b=>AeJ b es.length 1 (A1 own r (.tok (es.length+1) 1) fun own=>k (.app (.own r) ((es++[e]).map RV.enc)) ⟨own,ext⟩ [.own r] [.own r]):=by
 rw [Pf sV (.clip [e.enc]) (Jq [e]) (Jq es) (by simp [Tf]) (by simpa using hb) r s own ext k];simp only [List.length_map,List.map_append,AsS,AsR,AsQ,List.length_nil,Nat.zero_add]
theorem Ql {n:Nat} (hn:0<n) (env vs:List RV) (hv:vs≠[]) (hb:env.length+vs.length≤1000000):B7 (SS dt n 69 [.fv (.sl (env.map RV.enc)),.fv (.sl (vs.map RV.enc))] ⟨[],[]⟩) (.sl ((env++vs).map RV.enc)):=by
 obtain ⟨n,rfl⟩:∃k,n=k+1:=⟨n - 1,by omega⟩;rw [c69];have hvs:(vs.map RV.enc).isEmpty=false:=by cases vs with
  | nil=>exact absurd rfl hv
  | cons _ _=>rfl
 cases env with
 | nil =>
  simp only [S69,↓XX,XY,↓reduceIte,Nat.reduceBEq,Nat.reduceAdd,Int.reduceEq,Int.reduceLT,Int.reduceLE,↓Ai2,↓Ai3 sV (.sl []) (.inr rfl),↓Ko sV (.sl (vs.map RV.enc)) (Jq vs) hvs (by simp;simp at hb;omega) (.inr rfl),List.nil_append];exact Bb rfl _
 | cons a env =>
  simp only [S69,↓XX,XY,↓reduceIte,Nat.reduceBEq,Nat.reduceAdd,Int.reduceEq,Int.reduceLT,Int.reduceLE,↓Ai2];have h1:((a::env).map RV.enc).isEmpty=false:=rfl;have h0:=fun {β:Type}=>Ko (β:=β) sV (.sl ((a::env).map RV.enc)) (Jq (a::env)) h1 (by simp only [List.length_map];omega) (.inr rfl:IV.clip []=.nils∨IV.clip []=.clip []);have h2:=fun {β:Type}=>Pf (β:=β) sV (.sl (vs.map RV.enc)) (Jq vs) (Jq (a::env)) (by simp [Tf]) (by simp only [List.length_map];omega);simp only [AsS] at h0 h2;simp only [↓XX,XY,↓reduceIte,Nat.reduceBEq,Nat.reduceAdd,Int.reduceEq,Int.reduceLT,Int.reduceLE,↓h0,↓h2,↓Hd,List.map_append,List.cons_append];exact Bb rfl _
theorem AeK {n:Nat} (hn:0<n) (s nd:Int) (h1:s≤1000000) (h0:0≤s):Bo (SS dt n 86 [.ptr (.ext 0) 0] ⟨[],[.row [iv s,iv nd,iv 0] false]⟩) (.bool (decide (s+1≤1000)))
  [.row [iv (s+1),iv nd,iv (if s+1≤1000 then 0 else 17)] false]:=by
 obtain ⟨n,rfl⟩:∃k,n=k+1:=⟨n - 1,by omega⟩;rw [c86];have hw:BS (s+1)=s+1:=by rw [Av]<;>omega
 by_cases h:s+1≤1000
 ·have h':¬ 1000<s+1:=by omega
  simp only [U2,U7,UF,UM,S86,↓XX,XY,↓reduceIte,Nat.reduceBEq,Nat.reduceAdd,Int.reduceEq,Int.reduceLT,Int.reduceLE,hw,h,h'];exact AG _ _ _
 ·have h':1000<s+1:=by omega
  simp only [U2,U7,UF,UM,S86,↓XX,XY,↓reduceIte,Nat.reduceBEq,Nat.reduceAdd,Int.reduceEq,Int.reduceLT,Int.reduceLE,hw,h,h'];exact AG _ _ _
def AU (ev:Int→Int→Tm→Option (RV×Int×Int)) (op:Int) (env:List RV):Nat→List Tm→Int→Int→Option (List RV×Int×Int)
 | _,[],s,e=>some ([],s,e)
 | i,t::l,s,e=>if 0<Ae op i then (AU ev op env (i+1) l s e).map fun (vs,s,e)=>(.clo env t::vs,s,e) else
  match ev s e t with
  | none=>none
  | some (v,s,e)=>(AU ev op env (i+1) l s e).map fun (vs,s,e)=>(v::vs,s,e)
mutual
def Aw:Nat→Int→Int→Tm→List RV→Option (RV×Int×Int)
 | 0,_,_,_,_=>none
 | f+1,s,e,.mk op m ks,env =>
  if e≠0 then some (.zero,s,e) else if 900000<env.length then none else
  if op=1 then
   if m<env.length then (if 0≤m then (env[(env.length - 1 - m).toNat]?).map fun v=>(v,s,e) else none)
   else if m≤4611686018427387904 then some (.var (env.length - 1 - m),s,e) else none
  else if f≤ks.length then none else if 900000<ks.length then none else
  match AU (fun s e t=>Aw f s e t env) op env 0 ks s e with
  | none=>none
  | some (vs,s,e)=>headR f s e (.node op m vs)
def headR:Nat→Int→Int→RV→Option (RV×Int×Int)
 | 0,_,_,_=>none
 | f+1,s,e,v =>
  if e≠0 then some (v,s,e) else if s<0∨1000000<s then none else
  if v.op=5 then (match v.k[0]? with
   | none=>none
   | some k0=>if k0.op=4 then
     (if s+1≤1000 then (match k0.k[1]?,v.k[1]? with
      | some c,some x=>if 900000<c.env.length then none else Aw f (s+1) 0 c.b (c.env++[x])
      | _,_=>none) else some (v,s+1,17))
    else some (v,s,e))
  else if v.op=8∨v.op=9 then (match v.k[0]? with
   | none=>none
   | some k0=>if k0.op=7 then
     (if s+1≤1000 then (k0.k[(1+v.op - 8).toNat]?).map fun x=>(x,s+1,0) else some (v,s+1,17))
    else some (v,s,e))
  else if v.op=30 then (match v.k[0]? with
   | none=>none
   | some k0=>if k0.op=19 then
     (if s+1≤1000 then (k0.k[0]?).map fun x=>(x,s+1,0) else some (v,s+1,17))
    else some (v,s,e))
  else if v.op=19 then (match v.k[0]? with
   | none=>none
   | some k0=>if k0.op=30 then
     (if s+1≤1000 then (k0.k[0]?).map fun x=>(x,s+1,0) else some (v,s+1,17))
    else some (v,s,e))
  else if v.op=13 then (match v.k[0]?,v.k[1]?,v.k[2]?,v.k[3]? with
   | some k0,some k1,some k2,some k3 =>
    if k3.op=11 then (if s+1≤1000 then some (k1,s+1,0) else some (v,s+1,17))
    else if k3.op=12 then
     (if s+1≤1000 then (match k3.k[0]? with
      | none=>none
      | some x=>(match headR f (s+1) 0 (.node 13 0 [k0,k1,k2,x]) with
       | none=>none
       | some (h,s,e)=>if 900000<k2.env.length then none else Aw f s e k2.b (k2.env++[x,h])))
     else some (v,s+1,17))
    else some (v,s,e)
   | _,_,_,_=>none)
  else some (v,s,e)
end
theorem VI {β:Type} {l:List RV} {i:Nat} {v:RV} (h:l[i]?=some v) (k:IV→Option β):Bf 1 (.fv (.sl (l.map RV.enc))) (iv i) k=k (.fv (.fp [v.enc] 0)):=by
 have h1:(l.map RV.enc)[i]?=some v.enc:=by rw [List.getElem?_map,h];rfl
 rw [Bs h1 (MS v),Acr]
def PC (f:Nat):Prop:=∀(s e:Int) (t:Tm) (env:List RV) (v:RV) (s' e' nd:Int),Aw f s e t env=some (v,s',e')→∀n,f+1≤n →
 Bo (SS dt n 49 [.ptr (.ext 0) 0,.fv t.enc,.fv (.sl (env.map RV.enc))] ⟨[],[.row [iv s,iv nd,iv e] false]⟩) v.enc [.row [iv s',iv nd,iv e'] false]
def P8 (f:Nat):Prop:=∀(s e:Int) (v w:RV) (s' e' nd:Int),headR f s e v=some (w,s',e')→∀n,f+1≤n →
 Bo (SS dt n 70 [.ptr (.ext 0) 0,.fv v.enc] ⟨[],[.row [iv s,iv nd,iv e] false]⟩) w.enc [.row [iv s',iv nd,iv e'] false]
abbrev YW (op m:Int) (ks:List Tm) (K:IV) (tok:List (Nat×Blk)) (s nd e:Int):Hp :=
 ⟨(51380224,.row [iv op,iv m,.fv (.sl (ks.map Tm.enc))] false)::(51387397,.row [iv op,iv m,K,.nils,iv 0,iv 0,.nils] false)::tok,[.row [iv s,iv nd,iv e] false]⟩
theorem AnG {op m:Int} (l:List RV):(RV.node op m l).enc=.fp [.int .i64 op,.int .i64 m,.sl (l.map RV.enc),.sl [],.int .i64 0,.int .i64 0,.sl []] 0:=by rw [RV.node,Tm.z,It];rfl
theorem AcV {f:Nat} (he:PC f) (hh:P8 f):PC (f+1):=by
 intro s e t env v s' e' nd hev n hn;obtain ⟨n,rfl⟩:∃k,n=k+1:=⟨n - 1,by omega⟩;rw [c49];obtain ⟨op,m,ks⟩:=t;rw [Am];rw [Aw] at hev;by_cases h0:e≠0
 ·rw [if_pos h0] at hev;simp only [AsM,AsN] at hev;obtain ⟨rfl,rfl,rfl⟩:=hev;simp only [IL,Ir,Ib,HS,Iv,Is,Iz,H9,IK,IB,Im,IP,IM,H3,Iq,Ih,Ia,IA,H8,Ic,Ip,Ii,S49,↓XX,XY,↓reduceIte,Nat.reduceBEq,Nat.reduceAdd,Int.reduceEq,Int.reduceLT,Int.reduceLE,h0];exact ⟨_,_,rfl,_,_,fun _ _=>rfl⟩
 ·have h0':e=0:=by omega
  subst h0';rw [if_neg h0] at hev;by_cases hlen:900000<env.length
  ·rw [if_pos hlen] at hev;cases hev
  ·rw [if_neg hlen] at hev;by_cases h1:op=1
   ·rw [if_pos h1] at hev;subst h1;by_cases h2:m<env.length
    ·rw [if_pos h2] at hev;by_cases h3:0≤m
     ·rw [if_pos h3] at hev;cases hg:env[(env.length - 1 - m).toNat]? with
      | none=>rw [hg] at hev;cases hev
      | some u =>
       rw [hg] at hev;simp only [AsP,AsM,AsN] at hev;obtain ⟨rfl,rfl,rfl⟩:=hev;have e1:BS ((env.length:Int) - 1)=env.length - 1:=by rw [Av]<;>omega
       have e2:BS ((env.length:Int) - 1 - m)=(((env.length:Int) - 1 - m).toNat:Int):=by rw [Av]<;>omega
       simp only [IL,Ir,Ib,HS,Iv,Is,Iz,H9,IK,IB,Im,IP,IM,H3,Iq,Ih,Ia,IA,H8,Ic,Ip,Ii,S49,↓XX,XY,↓reduceIte,Nat.reduceBEq,Nat.reduceAdd,Int.reduceEq,Int.reduceLT,Int.reduceLE,h2,e1,e2,↓VI hg];exact AG _ _ _
     ·rw [if_neg h3] at hev;cases hev
    ·rw [if_neg h2] at hev;by_cases h3:m≤4611686018427387904
     ·rw [if_pos h3] at hev;simp only [AsM,AsN] at hev;obtain ⟨rfl,rfl,rfl⟩:=hev;have e1:BS ((env.length:Int) - 1)=env.length - 1:=by rw [Av]<;>omega
      have e2:BS ((env.length:Int) - 1 - m)=(env.length:Int) - 1 - m:=by rw [Av]<;>omega
      simp only [IL,Ir,Ib,HS,Iv,Is,Iz,H9,IK,IB,Im,IP,IM,H3,Iq,Ih,Ia,IA,H8,Ic,Ip,Ii,S49,↓XX,XY,↓reduceIte,Nat.reduceBEq,Nat.reduceAdd,Int.reduceEq,Int.reduceLT,Int.reduceLE,h2,e1,e2];exact ⟨_,_,rfl,_,_,fun _ _=>rfl⟩
     ·rw [if_neg h3] at hev;cases hev
   ·rw [if_neg h1] at hev;by_cases hf:f≤ks.length
    ·rw [if_pos hf] at hev;cases hev
    ·rw [if_neg hf] at hev;by_cases hk9:900000<ks.length
     ·rw [if_pos hk9] at hev;cases hev
     ·rw [if_neg hk9] at hev;cases hkg:AU (fun s e t=>Aw f s e t env) op env 0 ks s 0 with
      | none=>rw [hkg] at hev;cases hev
      | some q =>
      obtain ⟨vs,s1,e1⟩:=q;rw [hkg] at hev;simp only at hev;simp only [IL,Ir,Ib,HS,Iv,Is,Iz,H9,IK,IB,Im,IP,IM,H3,Iq,Ih,Ia,IA,H8,Ic,Ip,Ii,S49,↓XX,XY,↓reduceIte,Nat.reduceBEq,Nat.reduceAdd,Int.reduceEq,Int.reduceLT,Int.reduceLE,h1,↓AI,XD,heldB,AO,XE];refine Bd (Q:=fun r=>Bo r _ _) (fun k V H=>∃pre rest done s2 e2 us s3 e3,ks=pre++rest∧rest.length=k∧done.length=pre.length∧V=[.ptr (.ext 0) 0,.fv (.sl (env.map RV.enc)),.ptr (.own 51380224) 0,.ptr (.own 51387397) 0,iv pre.length] ∧
       (
        (pre=[]∧H=YW op m ks .nils [] s2 nd e2) ∨
        (∃r,(r=51392526∨r=51393550)∧pre≠[]∧H=YW op m ks (.app (.own r) (done.map RV.enc)) [(r,.tok done.length 1)] s2 nd e2)) ∧
       AU (fun s e t=>Aw f s e t env) op env pre.length rest s2 e2=some (us,s3,e3)∧headR f s3 e3 (.node op m (done++us))=some (v,s',e'))
       ?_ n ks.length _ _ (by omega) ⟨[],ks,[],s,0,vs,s1,e1,rfl,rfl,rfl,rfl,.inl ⟨rfl,rfl⟩,hkg,hev⟩
      rintro k V H rec ⟨pre,rest,done,s2,e2,us,s3,e3,hk,hl,hdl,rfl,hH,hkids,hhead⟩ hrec;have hkl:ks.length=pre.length+rest.length:=by rw [hk];simp
      have zenc:∀l:List RV,(RV.node op m l).enc=.fp [.int .i64 op,.int .i64 m,.sl (l.map RV.enc),.sl [],.int .i64 0,.int .i64 0,.sl []] 0:=fun l=>AnG l;cases rest with
      | nil =>
       simp only [AU,AsM,AsN] at hkids;obtain ⟨rfl,rfl,rfl⟩:=hkids;rw [List.append_nil] at hhead;have hc:=hh s2 e2 _ v s' e' nd hhead n (by omega);rw [zenc] at hc;have hpre:ks=pre:=by simpa using hk
       subst hpre;rcases hH with ⟨rfl,rfl⟩ | ⟨r,hr,hne,rfl⟩
       ·have hd:done=[]:=List.length_eq_zero_iff.1 hdl;subst hd;have hcall:=fun k=>QT (k:=k) (own:=[(51380224,.row [iv op,iv m,.fv (.sl (([]:List Tm).map Tm.enc))] false),(51387397,.row [iv op,iv m,.nils,.nils,iv 0,iv 0,.nils] false)])
         (cells:=[iv op,iv m,.nils,.nils,iv 0,iv 0,.nils]) (ro:=false) (s:=51387397) hc (Cj ..) (by simp [Aq]) rfl (by simp)
        simp only [↓TO,↓XX,XY,↓reduceIte,Nat.reduceBEq,Nat.reduceAdd,Int.reduceEq,Int.reduceLT,Int.reduceLE,Int.lt_irrefl,↓hcall];exact AG _ _ _
       ·have hcall:=fun k=>QT (k:=k) (own:=[(51380224,.row [iv op,iv m,.fv (.sl (ks.map Tm.enc))] false),(51387397,.row [iv op,iv m,.app (.own r) (done.map RV.enc),.nils,iv 0,iv 0,.nils] false),(r,.tok done.length 1)])
         (cells:=[iv op,iv m,.app (.own r) (done.map RV.enc),.nils,iv 0,iv 0,.nils]) (ro:=false) (s:=51387397) hc (Cj ..) (by simp [Aq]) rfl (by simp)
        simp only [↓TO,↓XX,XY,↓reduceIte,Nat.reduceBEq,Nat.reduceAdd,Int.reduceEq,Int.reduceLT,Int.reduceLE,Int.lt_irrefl,↓hcall];exact AG _ _ _
      | cons t rest =>
       have hi:(pre.length:Int)<ks.length:=by rw [hkl];simp;omega
       have hg:=CH hk;have hb:=Fu (n:=n) (by omega) op pre.length;have hwi:BS ((pre.length:Int)+1)=((pre++[t]).length:Int):=(Av (by omega) (by omega)).trans (by simp);have hbi:(0<(Ae op pre.length:Int)) ↔ 0<Ae op pre.length:=by omega
       have hd9:done.length+1≤1000000:=by omega
       simp only [AU] at hkids;simp only [AsQ] at hl;by_cases hbp:0<Ae op pre.length
       ·rw [if_pos hbp] at hkids;cases hkk:AU (fun s e t=>Aw f s e t env) op env (pre.length+1) rest s2 e2 with
        | none=>rw [hkk] at hkids;cases hkids
        | some q =>
        obtain ⟨us',s4,e4⟩:=q;rw [hkk] at hkids;simp only [AsP,AsM,AsN] at hkids;obtain ⟨rfl,rfl,rfl⟩:=hkids;have hbp':0<(Ae op pre.length:Int):=by omega
        have hce:(RV.clo env t).enc=.fp [.int .i64 0,.int .i64 0,.sl [],.sl (env.map RV.enc),.int .i64 t.op,.int .i64 t.n,.sl (t.kids.map Tm.enc)] 0:=by rw [Mj];rfl
        have hnext:∀tk,(tk=51392526∨tk=51393550)→Bo (rec [.ptr (.ext 0) 0,.fv (.sl (env.map RV.enc)),.ptr (.own 51380224) 0,.ptr (.own 51387397) 0,iv (pre++[t]).length]
          (YW op m ks (.app (.own tk) ((done++[RV.clo env t]).map RV.enc)) [(tk,.tok (done++[RV.clo env t]).length 1)] s2 nd e2)) v.enc [.row [iv s',iv nd,iv e'] false]:=fun tk htk =>
         hrec rest.length _ _ (by omega) ⟨pre++[t],rest,done++[.clo env t],s2,e2,us',s4,e4,by rw [hk];simp,rfl,by simp [hdl],rfl,.inr ⟨tk,htk,by simp,rfl⟩,by simpa using hkk,by simpa using hhead⟩
        obtain ⟨o,p,l⟩:=t;simp only [Tm.op,Tm.n,Tm.kids] at hce;have ha0:=fun {s own ext k}=>AdR (RV.clo env (.mk o p l)) s own ext k;have ha1:=fun {r s own ext k}=>UP hd9 (RV.clo env (.mk o p l)) r s own ext k;rw [hce] at ha0 ha1;have hbs:=fun (tl:List (Nat×Blk)) (K:IV) (own:List (Nat×Blk)) (hown:own=(51380224,.row [iv op,iv m,.fv (.sl (ks.map Tm.enc))] false)::(51387397,.row [iv op,iv m,K,.nils,iv 0,iv 0,.nils] false)::tl) (hl:Aq 51392524 own=some (.row [iv 0,iv 0,.nils,.fv (.sl (env.map RV.enc)),iv o,iv p,.fv (.sl (l.map Tm.enc))] false)) (own':List (Nat×Blk)) (ho) s ext (k:IV→Hp→List Ref→List Ref→Option (IV×Hp)) =>
         Anx (E:=EE) (own:=own) (own':=own') tVs tVp rfl ⟨_,rfl⟩ hl (fc:=[.int .i64 0,.int .i64 0,.sl [],.sl (env.map RV.enc),.int .i64 o,.int .i64 p,.sl (l.map Tm.enc)]) rfl (by simp) ho s ext k
        rcases hH with ⟨hp0,rfl⟩ | ⟨r,hr,hne,rfl⟩
        ·have hd0:done=[]:=List.length_eq_zero_iff.1 (by rw [hdl,hp0];rfl);subst hd0;have h9:=hnext _ (.inl rfl);simp only [List.nil_append,AsS,AsR,AsQ,List.length_nil] at h9;rw [hce] at h9;have hb0:=fun s ext k=>hbs [(51392524,.row [iv 0,iv 0,.nils,.fv (.sl (env.map RV.enc)),iv o,iv p,.fv (.sl (l.map Tm.enc))] false)] .nils _ rfl (by simp [Aq])
          [(51380224,.row [iv op,iv m,.fv (.sl (ks.map Tm.enc))] false),(51387397,.row [iv op,iv m,.nils,.nils,iv 0,iv 0,.nils] false),(51392524,.row [iv 0,iv 0,.nils,.fv (.sl (env.map RV.enc)),iv o,iv p,.fv (.sl (l.map Tm.enc))] true)] (by simp [AW]) s ext k
         simp only [↓TO,↓XX,XY,↓reduceIte,Nat.reduceBEq,Nat.reduceAdd,Int.reduceEq,Int.reduceLT,Int.reduceLE,hi,↓Bs (AQ hg) (Ba _ _ _),↓B5,↓Ag hb,hbp',hwi,↓hb0,↓ha0,↓AI,XD,heldB,AO,XE];exact h9
        ·have h9:=hnext r hr;rw [show (done++[RV.clo env (Tm.mk o p l)]).length=done.length+1 by simp] at h9
         simp only [List.map_append,AsS,AsR] at h9;rw [hce] at h9;simp only [List.map_append,AsS,AsR] at ha1;rw [hce] at ha1;have hb0:=fun s ext k=>hbs [(r,.tok done.length 1),(51392524,.row [iv 0,iv 0,.nils,.fv (.sl (env.map RV.enc)),iv o,iv p,.fv (.sl (l.map Tm.enc))] false)] (.app (.own r) (done.map RV.enc)) _ rfl (by rcases hr with rfl | rfl<;>simp [Aq])
          [(51380224,.row [iv op,iv m,.fv (.sl (ks.map Tm.enc))] false),(51387397,.row [iv op,iv m,.app (.own r) (done.map RV.enc),.nils,iv 0,iv 0,.nils] false),(r,.tok done.length 1),(51392524,.row [iv 0,iv 0,.nils,.fv (.sl (env.map RV.enc)),iv o,iv p,.fv (.sl (l.map Tm.enc))] true)]
          (by rcases hr with rfl | rfl<;>simp [AW]) s ext k
         rcases hr with rfl | rfl
         ·simp only [↓TO,↓XX,XY,↓reduceIte,Nat.reduceBEq,Nat.reduceAdd,Int.reduceEq,Int.reduceLT,Int.reduceLE,hi,↓Bs (AQ hg) (Ba _ _ _),↓B5,↓Ag hb,hbp',hwi,↓hb0,↓ha1,↓Hd,↓AI,XD,heldB,AO,XE];exact h9
         ·simp only [↓TO,↓XX,XY,↓reduceIte,Nat.reduceBEq,Nat.reduceAdd,Int.reduceEq,Int.reduceLT,Int.reduceLE,hi,↓Bs (AQ hg) (Ba _ _ _),↓B5,↓Ag hb,hbp',hwi,↓hb0,↓ha1,↓Hd,↓AI,XD,heldB,AO,XE];exact h9
       ·rw [if_neg hbp] at hkids;have hbp':¬ 0<(Ae op pre.length:Int):=by omega
        cases hev1:Aw f s2 e2 t env with
        | none=>rw [hev1] at hkids;cases hkids
        | some q =>
        obtain ⟨v1,s4,e4⟩:=q;rw [hev1] at hkids;simp only at hkids;cases hkk:AU (fun s e t=>Aw f s e t env) op env (pre.length+1) rest s4 e4 with
        | none=>rw [hkk] at hkids;cases hkids
        | some q =>
        obtain ⟨us',s5,e5⟩:=q;rw [hkk] at hkids;simp only [AsP,AsM,AsN] at hkids;obtain ⟨rfl,rfl,rfl⟩:=hkids;have hc:=he s2 e2 t env v1 s4 e4 nd hev1 n (by omega);have hnext:∀tk,(tk=51392526∨tk=51393550)→Bo (rec [.ptr (.ext 0) 0,.fv (.sl (env.map RV.enc)),.ptr (.own 51380224) 0,.ptr (.own 51387397) 0,iv (pre++[t]).length]
          (YW op m ks (.app (.own tk) ((done++[v1]).map RV.enc)) [(tk,.tok (done++[v1]).length 1)] s4 nd e4)) v.enc [.row [iv s',iv nd,iv e'] false]:=fun tk htk =>
         hrec rest.length _ _ (by omega) ⟨pre++[t],rest,done++[v1],s4,e4,us',s5,e5,by rw [hk];simp,rfl,by simp [hdl],rfl,.inr ⟨tk,htk,by simp,rfl⟩,by simpa using hkk,by simpa using hhead⟩
        obtain ⟨o,p,l⟩:=t;rw [Am] at hc;rcases hH with ⟨hp0,rfl⟩ | ⟨r,hr,hne,rfl⟩
        ·have hd0:done=[]:=List.length_eq_zero_iff.1 (by rw [hdl,hp0];rfl);subst hd0;have h9:=hnext _ (.inr rfl);simp only [List.nil_append,AsS,AsR,AsQ,List.length_nil] at h9;simp only [↓TO,↓XX,XY,↓reduceIte,Nat.reduceBEq,Nat.reduceAdd,Int.reduceEq,Int.reduceLT,Int.reduceLE,hi,↓Bs (AQ hg) (Ba _ _ _),↓B5,↓Ag hb,hbp',hwi,↓I2 hc (Cj _ _ _ _ _ _),↓TQ,↓AdR,↓AI,XD,heldB,AO,XE];exact h9
        ·have h9:=hnext r hr;rw [show (done++[v1]).length=done.length+1 by simp] at h9
         rcases hr with rfl | rfl
         ·simp only [↓TO,↓XX,XY,↓reduceIte,Nat.reduceBEq,Nat.reduceAdd,Int.reduceEq,Int.reduceLT,Int.reduceLE,hi,↓Bs (AQ hg) (Ba _ _ _),↓B5,↓Ag hb,hbp',hwi,↓I2 hc (Cj _ _ _ _ _ _),↓TQ,↓UP hd9,↓Hd,↓AI,XD,heldB,AO,XE];exact h9
         ·simp only [↓TO,↓XX,XY,↓reduceIte,Nat.reduceBEq,Nat.reduceAdd,Int.reduceEq,Int.reduceLT,Int.reduceLE,hi,↓Bs (AQ hg) (Ba _ _ _),↓B5,↓Ag hb,hbp',hwi,↓I2 hc (Cj _ _ _ _ _ _),↓TQ,↓UP hd9,↓Hd,↓AI,XD,heldB,AO,XE];exact h9
def RV.cl (v:RV):List FV:=[.int .i64 v.op,.int .i64 v.n,.sl (v.k.map RV.enc),.sl (v.env.map RV.enc),.int .i64 v.b.op,.int .i64 v.b.n,.sl (v.b.kids.map Tm.enc)]
section
variable {β:Type} (v:RV)
theorem AoM (k:IV→Option β):AB (.fv v.enc) k=k (.fv v.enc):=by rw [Mj];rfl
theorem ApO (o:Nat) (k:IV→Option β):Ac o (.fv v.enc) k=k (.fv (.fp v.cl o)):=by rw [Mj,Anf];rfl
theorem nc0 (k:FV→Option β):DA v.cl 0 k=k (.int .i64 v.op):=rfl
theorem nc1 (k:FV→Option β):DA v.cl 1 k=k (.int .i64 v.n):=rfl
theorem nc2 (k:FV→Option β):DA v.cl 2 k=k (.sl (v.k.map RV.enc)):=rfl
theorem nc3 (k:FV→Option β):DA v.cl 3 k=k (.sl (v.env.map RV.enc)):=rfl
theorem dc4 (k:List FV→Option β):Fo v.cl 4 k=k [.int .i64 v.b.op,.int .i64 v.b.n,.sl (v.b.kids.map Tm.enc)]:=rfl
end
theorem GR {β:Type} {l:List RV} {v:RV} (h:l[0]?=some v) (k:IV→Option β):Bf 1 (.fv (.sl (l.map RV.enc))) (iv 0) k=k (.fv (.fp [v.enc] 0)):=VI (i:=0) h k
theorem Afg {β:Type} {l:List RV} {v:RV} (h:l[1]?=some v) (k:IV→Option β):Bf 1 (.fv (.sl (l.map RV.enc))) (iv 1) k=k (.fv (.fp [v.enc] 0)):=VI (i:=1) h k
theorem Aot {β:Type} {l:List RV} {v:RV} (h:l[2]?=some v) (k:IV→Option β):Bf 1 (.fv (.sl (l.map RV.enc))) (iv 2) k=k (.fv (.fp [v.enc] 0)):=VI (i:=2) h k
theorem Afh {β:Type} {l:List RV} {v:RV} (h:l[3]?=some v) (k:IV→Option β):Bf 1 (.fv (.sl (l.map RV.enc))) (iv 3) k=k (.fv (.fp [v.enc] 0)):=VI (i:=3) h k
def XV:=AsL @AoM<|AsL @ApO<|AsL @nc0<|AsL @nc1<|AsL @nc2<|AsL @nc3 @dc4
set_option maxHeartbeats 1000000 in
set_option maxRecDepth 20000 in
theorem Ac7 {f:Nat} (he:PC f) (hh:P8 f):P8 (f+1):=by
 intro s e v w s' e' nd hev n hn;obtain ⟨n,rfl⟩:∃k,n=k+1:=⟨n - 1,by omega⟩;rw [c70];rw [headR] at hev;by_cases h0:e≠0
 ·rw [if_pos h0] at hev;simp only [AsM,AsN] at hev;obtain ⟨rfl,rfl,rfl⟩:=hev;simp only [↓FK,↓XX,XY,↓reduceIte,Nat.reduceBEq,Nat.reduceAdd,Int.reduceEq,Int.reduceLT,Int.reduceLE,h0];exact AG _ _ _
 ·have h0':e=0:=by omega
  subst h0';rw [if_neg h0] at hev;by_cases hs:s<0∨1000000<s
  ·rw [if_pos hs] at hev;cases hev
  ·rw [if_neg hs] at hev;have hst:=AeK (n:=n) (by omega) s nd (by omega) (by omega);have Cp:∀{x:RV} {a b:Int},some (x,a,b)=some (w,s',e')→x=w∧a=s'∧b=e':=by
    intro x a b h;simp only [AsM,AsN] at h;exact h
   by_cases h5:v.op=5
   ·rw [if_pos h5] at hev;cases hk0:v.k[0]? with
    | none=>rw [hk0] at hev;cases hev
    | some k0 =>
     rw [hk0] at hev;simp only at hev;by_cases h4:k0.op=4
     ·rw [if_pos h4] at hev;by_cases hq:s+1≤1000
      ·rw [if_pos hq] at hev;simp only [hq,decide_true,if_true] at hst;cases hc:k0.k[1]? with
       | none=>rw [hc] at hev;cases hev
       | some c =>
        cases hx:v.k[1]? with
        | none=>rw [hc,hx] at hev;cases hev
        | some x =>
         rw [hc,hx] at hev;simp only at hev;by_cases hl:900000<c.env.length
         ·rw [if_pos hl] at hev;cases hev
         ·rw [if_neg hl] at hev;have hcall:=he (s+1) 0 c.b (c.env++[x]) w s' e' nd hev n (by omega);rw [Uh] at hcall;have hp:=Ql (n:=n) (by omega) c.env [x] (by simp) (by simp;omega);simp only [AsS,AsR] at hp;simp only [↓FK,↓XX,XY,↓reduceIte,Nat.reduceBEq,Nat.reduceAdd,Int.reduceEq,Int.reduceLT,Int.reduceLE,↓XV,h5,↓GR hk0,h4,↓Dk hst (Cj _ _ _ _ _ _),↓Afg hc,↓Afg hx,↓TQ,↓Ag hp,↓I2 hcall (Cj _ _ _ _ _ _)];exact AG _ _ _
      ·rw [if_neg hq] at hev;obtain ⟨rfl,rfl,rfl⟩:=Cp hev;simp only [hq,decide_false,if_false] at hst;simp only [↓FK,↓XX,XY,↓reduceIte,Nat.reduceBEq,Nat.reduceAdd,Int.reduceEq,Int.reduceLT,Int.reduceLE,↓XV,h5,↓GR hk0,h4,↓Dk hst (Cj _ _ _ _ _ _)];exact AG _ _ _
     ·rw [if_neg h4] at hev;obtain ⟨rfl,rfl,rfl⟩:=Cp hev;simp only [↓FK,↓XX,XY,↓reduceIte,Nat.reduceBEq,Nat.reduceAdd,Int.reduceEq,Int.reduceLT,Int.reduceLE,↓XV,h5,↓GR hk0,h4];exact AG _ _ _
   ·rw [if_neg h5] at hev;by_cases h89:v.op=8∨v.op=9
    ·rw [if_pos h89] at hev;cases hk0:v.k[0]? with
     | none=>rw [hk0] at hev;cases hev
     | some k0 =>
      rw [hk0] at hev;simp only at hev;by_cases h7:k0.op=7
      ·rw [if_pos h7] at hev;by_cases hq:s+1≤1000
       ·rw [if_pos hq] at hev;simp only [hq,decide_true,if_true] at hst;cases hx:k0.k[(1+v.op - 8).toNat]? with
        | none=>rw [hx] at hev;cases hev
        | some x =>
         rw [hx] at hev;obtain ⟨rfl,rfl,rfl⟩:=Cp hev;rcases h89 with h8 | h9
         ·rw [h8] at hx;have hw1:BS (1+8)=9:=by decide
          have hw2:BS (9 - 8)=1:=by decide
          simp only [↓FK,↓XX,XY,↓reduceIte,Nat.reduceBEq,Nat.reduceAdd,Int.reduceEq,Int.reduceLT,Int.reduceLE,↓XV,h8,↓GR hk0,h7,↓Dk hst (Cj _ _ _ _ _ _),hw1,hw2,↓Afg (l:=k0.k) (v:=x) hx];exact AG _ _ _
         ·rw [h9] at hx;have hw1:BS (1+9)=10:=by decide
          have hw2:BS (10 - 8)=2:=by decide
          simp only [↓FK,↓XX,XY,↓reduceIte,Nat.reduceBEq,Nat.reduceAdd,Int.reduceEq,Int.reduceLT,Int.reduceLE,↓XV,h9,↓GR hk0,h7,↓Dk hst (Cj _ _ _ _ _ _),hw1,hw2,↓Aot (l:=k0.k) (v:=x) hx];exact AG _ _ _
       ·rw [if_neg hq] at hev;obtain ⟨rfl,rfl,rfl⟩:=Cp hev;simp only [hq,decide_false,if_false] at hst;rcases h89 with h8 | h9
        ·simp only [↓FK,↓XX,XY,↓reduceIte,Nat.reduceBEq,Nat.reduceAdd,Int.reduceEq,Int.reduceLT,Int.reduceLE,↓XV,h8,↓GR hk0,h7,↓Dk hst (Cj _ _ _ _ _ _)];exact AG _ _ _
        ·simp only [↓FK,↓XX,XY,↓reduceIte,Nat.reduceBEq,Nat.reduceAdd,Int.reduceEq,Int.reduceLT,Int.reduceLE,↓XV,h9,↓GR hk0,h7,↓Dk hst (Cj _ _ _ _ _ _)];exact AG _ _ _
      ·rw [if_neg h7] at hev;obtain ⟨rfl,rfl,rfl⟩:=Cp hev;rcases h89 with h8 | h9
       ·simp only [↓FK,↓XX,XY,↓reduceIte,Nat.reduceBEq,Nat.reduceAdd,Int.reduceEq,Int.reduceLT,Int.reduceLE,↓XV,h8,↓GR hk0,h7];exact AG _ _ _
       ·simp only [↓FK,↓XX,XY,↓reduceIte,Nat.reduceBEq,Nat.reduceAdd,Int.reduceEq,Int.reduceLT,Int.reduceLE,↓XV,h9,↓GR hk0,h7];exact AG _ _ _
    ·rw [if_neg h89] at hev;have h8:¬ v.op=8:=fun e=>h89 (.inl e);have h9:¬ v.op=9:=fun e=>h89 (.inr e);by_cases h30:v.op=30
     ·rw [if_pos h30] at hev;cases hk0:v.k[0]? with
      | none=>rw [hk0] at hev;cases hev
      | some k0 =>
       rw [hk0] at hev;simp only at hev;by_cases h7:k0.op=19
       ·rw [if_pos h7] at hev;by_cases hq:s+1≤1000
        ·rw [if_pos hq] at hev;simp only [hq,decide_true,if_true] at hst;cases hx:k0.k[0]? with
         | none=>rw [hx] at hev;cases hev
         | some x =>
          rw [hx] at hev;obtain ⟨rfl,rfl,rfl⟩:=Cp hev;simp only [↓FK,↓XX,XY,↓reduceIte,Nat.reduceBEq,Nat.reduceAdd,Int.reduceEq,Int.reduceLT,Int.reduceLE,↓XV,h30,↓GR hk0,h7,↓Dk hst (Cj _ _ _ _ _ _),↓GR hx];exact AG _ _ _
        ·rw [if_neg hq] at hev;obtain ⟨rfl,rfl,rfl⟩:=Cp hev;simp only [hq,decide_false,if_false] at hst;simp only [↓FK,↓XX,XY,↓reduceIte,Nat.reduceBEq,Nat.reduceAdd,Int.reduceEq,Int.reduceLT,Int.reduceLE,↓XV,h30,↓GR hk0,h7,↓Dk hst (Cj _ _ _ _ _ _)];exact AG _ _ _
       ·rw [if_neg h7] at hev;obtain ⟨rfl,rfl,rfl⟩:=Cp hev;simp only [↓FK,↓XX,XY,↓reduceIte,Nat.reduceBEq,Nat.reduceAdd,Int.reduceEq,Int.reduceLT,Int.reduceLE,↓XV,h30,↓GR hk0,h7];exact AG _ _ _
     ·rw [if_neg h30] at hev;by_cases h19:v.op=19
      ·rw [if_pos h19] at hev;cases hk0:v.k[0]? with
       | none=>rw [hk0] at hev;cases hev
       | some k0 =>
        rw [hk0] at hev;simp only at hev;by_cases h7:k0.op=30
        ·rw [if_pos h7] at hev;by_cases hq:s+1≤1000
         ·rw [if_pos hq] at hev;simp only [hq,decide_true,if_true] at hst;cases hx:k0.k[0]? with
          | none=>rw [hx] at hev;cases hev
          | some x =>
           rw [hx] at hev;obtain ⟨rfl,rfl,rfl⟩:=Cp hev;simp only [↓FK,↓XX,XY,↓reduceIte,Nat.reduceBEq,Nat.reduceAdd,Int.reduceEq,Int.reduceLT,Int.reduceLE,↓XV,h19,↓GR hk0,h7,↓Dk hst (Cj _ _ _ _ _ _),↓GR hx];exact AG _ _ _
         ·rw [if_neg hq] at hev;obtain ⟨rfl,rfl,rfl⟩:=Cp hev;simp only [hq,decide_false,if_false] at hst;simp only [↓FK,↓XX,XY,↓reduceIte,Nat.reduceBEq,Nat.reduceAdd,Int.reduceEq,Int.reduceLT,Int.reduceLE,↓XV,h19,↓GR hk0,h7,↓Dk hst (Cj _ _ _ _ _ _)];exact AG _ _ _
        ·rw [if_neg h7] at hev;obtain ⟨rfl,rfl,rfl⟩:=Cp hev;simp only [↓FK,↓XX,XY,↓reduceIte,Nat.reduceBEq,Nat.reduceAdd,Int.reduceEq,Int.reduceLT,Int.reduceLE,↓XV,h19,↓GR hk0,h7];exact AG _ _ _
      ·rw [if_neg h19] at hev;by_cases h13:v.op=13
       ·rw [if_pos h13] at hev;cases hk0:v.k[0]? with
        | none=>rw [hk0] at hev;cases hev
        | some k0 =>
        cases hk1:v.k[1]? with
        | none=>rw [hk0,hk1] at hev;cases hev
        | some k1 =>
        cases hk2:v.k[2]? with
        | none=>rw [hk0,hk1,hk2] at hev;cases hev
        | some k2 =>
        cases hk3:v.k[3]? with
        | none=>rw [hk0,hk1,hk2,hk3] at hev;cases hev
        | some k3 =>
        rw [hk0,hk1,hk2,hk3] at hev;simp only at hev;by_cases h11:k3.op=11
        ·rw [if_pos h11] at hev;by_cases hq:s+1≤1000
         ·rw [if_pos hq] at hev;obtain ⟨rfl,rfl,rfl⟩:=Cp hev;simp only [hq,decide_true,if_true] at hst;simp only [↓FK,↓XX,XY,↓reduceIte,Nat.reduceBEq,Nat.reduceAdd,Int.reduceEq,Int.reduceLT,Int.reduceLE,↓XV,h13,↓Afh hk3,h11,↓Dk hst (Cj _ _ _ _ _ _),↓Afg hk1];exact AG _ _ _
         ·rw [if_neg hq] at hev;obtain ⟨rfl,rfl,rfl⟩:=Cp hev;simp only [hq,decide_false,if_false] at hst;simp only [↓FK,↓XX,XY,↓reduceIte,Nat.reduceBEq,Nat.reduceAdd,Int.reduceEq,Int.reduceLT,Int.reduceLE,↓XV,h13,↓Afh hk3,h11,↓Dk hst (Cj _ _ _ _ _ _)];exact AG _ _ _
        ·rw [if_neg h11] at hev;by_cases h12:k3.op=12
         ·rw [if_pos h12] at hev;by_cases hq:s+1≤1000
          ·rw [if_pos hq] at hev;simp only [hq,decide_true,if_true] at hst;cases hx:k3.k[0]? with
           | none=>rw [hx] at hev;cases hev
           | some x =>
           rw [hx] at hev;simp only at hev;cases hd:headR f (s+1) 0 (.node 13 0 [k0,k1,k2,x]) with
           | none=>rw [hd] at hev;cases hev
           | some q =>
           obtain ⟨h,s2,e2⟩:=q;rw [hd] at hev;simp only at hev;by_cases hl:900000<k2.env.length
           ·rw [if_pos hl] at hev;cases hev
           ·rw [if_neg hl] at hev;have hcall:=he s2 e2 k2.b (k2.env++[x,h]) w s' e' nd hev n (by omega);rw [Uh] at hcall;have hcall2:=hh (s+1) 0 _ h s2 e2 nd hd n (by omega);rw [AnG] at hcall2;simp only [AsS,AsR] at hcall2;have hp:=Ql (n:=n) (by omega) k2.env [x,h] (by simp) (by simp;omega);simp only [AsS,AsR] at hp;have hcall3:=fun k=>QT (k:=k) (own:=[(73420822,.row [iv 13,iv 0,.clip [k0.enc,k1.enc,k2.enc,x.enc],.nils,iv 0,iv 0,.nils] false)])
             (cells:=[iv 13,iv 0,.clip [k0.enc,k1.enc,k2.enc,x.enc],.nils,iv 0,iv 0,.nils]) (ro:=false) (s:=73420822) hcall2 (Cj ..) (by simp [Aq]) rfl (by simp)
            simp only [↓FK,↓XX,XY,↓reduceIte,Nat.reduceBEq,Nat.reduceAdd,Int.reduceEq,Int.reduceLT,Int.reduceLE,↓XV,h13,↓Afh hk3,h11,h12,↓Dk hst (Cj _ _ _ _ _ _),↓GR hx,↓GR hk0,↓Afg hk1,↓Aot hk2,↓AoB,↓hcall3,↓An0,↓Ag hp,↓I2 hcall (Cj _ _ _ _ _ _)];exact AG _ _ _
          ·rw [if_neg hq] at hev;obtain ⟨rfl,rfl,rfl⟩:=Cp hev;simp only [hq,decide_false,if_false] at hst;simp only [↓FK,↓XX,XY,↓reduceIte,Nat.reduceBEq,Nat.reduceAdd,Int.reduceEq,Int.reduceLT,Int.reduceLE,↓XV,h13,↓Afh hk3,h11,h12,↓Dk hst (Cj _ _ _ _ _ _)];exact AG _ _ _
         ·rw [if_neg h12] at hev;obtain ⟨rfl,rfl,rfl⟩:=Cp hev;simp only [↓FK,↓XX,XY,↓reduceIte,Nat.reduceBEq,Nat.reduceAdd,Int.reduceEq,Int.reduceLT,Int.reduceLE,↓XV,h13,↓Afh hk3,h11,h12];exact AG _ _ _
       ·rw [if_neg h13] at hev;obtain ⟨rfl,rfl,rfl⟩:=Cp hev;simp only [↓FK,↓XX,XY,↓reduceIte,Nat.reduceBEq,Nat.reduceAdd,Int.reduceEq,Int.reduceLT,Int.reduceLE,↓XV,h5,h8,h9,h30,h19,h13];exact AG _ _ _
theorem ZA:∀f,PC f∧P8 f:=by
 intro f
 induction f with
 | zero=>exact ⟨(by intro s e t env v s' e' nd h;rw [Aw] at h;cases h),(by intro s e v w s' e' nd h;rw [headR] at h;cases h)⟩
 | succ f ih=>exact ⟨AcV ih.1 ih.2,Ac7 ih.1 ih.2⟩
end Idl
end Go.Proofs.Ytbkdidonegggdaa
namespace Go.Proofs.Ytbkdidonegggdaa
namespace Idl
def Fh (u:Int) (b:Nat):List RV:=(List.range b).map fun (j:Nat)=>RV.var (u+(j:Int))
theorem J9 (u:Int) (b:Nat):Fh u (b+1)=Fh u b++[RV.var (u+b)]:=by simp [Fh,List.range_succ]
theorem BH (u:Int) (b:Nat):(Fh u b).length=b:=by simp [Fh]
def A4 (rd:Int→Int→Int→RV→Int→Option (Tm×Int×Int×Int)) (f:Nat) (op u:Int):Nat→List RV→Int→Int→Int→Option (List Tm×Int×Int×Int)
 | _,[],s,nd,e=>some ([],s,nd,e)
 | i,k::l,s,nd,e =>
  match (if 0<Ae op i then (if 900000<k.env.length then none else Aw f s e k.b (k.env++Fh u (Ae op i))) else some (k,s,e)) with
  | none=>none
  | some (k',s1,e1)=>match rd s1 nd e1 k' (u+Ae op i) with
   | none=>none
   | some (t,s2,nd2,e2)=>(A4 rd f op u (i+1) l s2 nd2 e2).map fun (ts,s,nd,e)=>(t::ts,s,nd,e)
def AN:Nat→Int→Int→Int→RV→Int→Int→Option (Tm×Int×Int×Int)
 | 0,_,_,_,_,_,_=>none
 | f+1,s,nd,e,v,u,d =>
  if nd<0∨1000000<nd∨u<0∨1000000<u∨d<0∨1000000<d∨v.n < -2305843009213693952∨2305843009213693952<v.n∨f≤v.k.length∨900000<v.k.length∨f≤3 then none else
  if (if e=0∧(3000<nd+1∨120<d) then 5 else e)≠0 then some (.z,s,nd+1,(if e=0∧(3000<nd+1∨120<d) then 5 else e))
  else if v.op=1 then some (.mk 1 (u - 1 - v.n) [],s,nd+1,0)
  else (A4 (fun s nd e k u=>AN f s nd e k u (d+1)) f v.op u 0 v.k s (nd+1) 0).map fun (ts,s,nd,e)=>(.mk v.op v.n ts,s,nd,e)
def Vc (f:Nat):Prop:=∀(s nd e:Int) (v:RV) (u d:Int) (t:Tm) (s' nd' e':Int),AN f s nd e v u d=some (t,s',nd',e')→∀n,f+1≤n →
 Bo (SS dt n 48 [.ptr (.ext 0) 0,.fv v.enc,iv u,iv d] ⟨[],[.row [iv s,iv nd,iv e] false]⟩) t.enc [.row [iv s',iv nd',iv e'] false]
abbrev Lz (op m:Int) (K:IV) (tok:List (Nat×Blk)) (s nd e:Int):Hp :=
 ⟨(50331648,.row [iv 0,iv 0,.nils] false)::(50339849,.row [iv op,iv m,K] false)::tok,[.row [iv s,iv nd,iv e] false]⟩
theorem Aaz {cells:List IV} {fc:List FV} (hz:C0 cells=some fc) (hn:cells.length≤100) (s:Nat) (h:Hp) (k:IV→Hp→List Ref→List Ref→Option (IV×Hp)):fzS (J1 true s (.agg cells)) s (.agg cells) h k=k (.fv (.fp fc 0)) h [] []:=by
 have:J1 true s (.agg cells)=.ret { eff:={ val:=.fv (.fp fc 0),upd:=[] } }:=by
  simp only [J1,IV.alive,Bool.true_eq_false,if_false,if_true,IV.cells,ZU cells 4096 (by omega) hz,Rd.bind]
 unfold fzS;rw [this,Vn];exact JV _ s h k
theorem Zy (n:Int):(RV.var n).enc=.fp [.int .i64 1,.int .i64 n,.sl [],.sl [],.int .i64 0,.int .i64 0,.sl []] 0:=by rw [RV.var,Tm.z,It];rfl
set_option maxRecDepth 20000 in
set_option maxHeartbeats 1000000 in
theorem Ac0 {f:Nat} (hr:Vc f):Vc (f+1):=by
 intro s nd e v u d t s' nd' e' hev n hn;obtain ⟨n,rfl⟩:∃k,n=k+1:=⟨n - 1,by omega⟩;rw [c48];rw [AN] at hev;by_cases hbad:nd<0∨1000000<nd∨u<0∨1000000<u∨d<0∨1000000<d∨v.n < -2305843009213693952∨2305843009213693952<v.n∨f≤v.k.length∨900000<v.k.length∨f≤3
 ·rw [if_pos hbad] at hev;cases hev
 ·rw [if_neg hbad] at hev;have wnd:BS (nd+1)=nd+1:=by rw [Av]<;>omega
  have wd:BS (d+1)=d+1:=by rw [Av]<;>omega
  have wu:BS (u - 1)=u - 1:=by rw [Av]<;>omega
  have wv:BS (u - 1 - v.n)=u - 1 - v.n:=by rw [Av]<;>omega
  by_cases he:e=0
  ·subst he;by_cases h3:3000<nd+1
   ·have e5:(if (0:Int)=0∧(3000<nd+1∨120<d) then (5:Int) else 0)=5:=if_pos ⟨rfl,.inl h3⟩;rw [e5,if_pos (by decide)] at hev;simp only [AsM,AsN] at hev;obtain ⟨rfl,rfl,rfl,rfl⟩:=hev;simp only [↓Aef,↓XX,XY,↓reduceIte,Nat.reduceBEq,Nat.reduceAdd,Int.reduceEq,Int.reduceLT,Int.reduceLE,wnd,h3];exact EX rfl _ _
   ·by_cases h4:120<d
    ·have e5:(if (0:Int)=0∧(3000<nd+1∨120<d) then (5:Int) else 0)=5:=if_pos ⟨rfl,.inr h4⟩;rw [e5,if_pos (by decide)] at hev;simp only [AsM,AsN] at hev;obtain ⟨rfl,rfl,rfl,rfl⟩:=hev;simp only [↓Aef,↓XX,XY,↓reduceIte,Nat.reduceBEq,Nat.reduceAdd,Int.reduceEq,Int.reduceLT,Int.reduceLE,wnd,h3,h4];exact EX rfl _ _
    ·have e5:(if (0:Int)=0∧(3000<nd+1∨120<d) then (5:Int) else 0)=0:=if_neg (by omega);rw [e5,if_neg (by decide)] at hev;by_cases h1:v.op=1
     ·rw [if_pos h1] at hev;simp only [AsM,AsN] at hev;obtain ⟨rfl,rfl,rfl,rfl⟩:=hev;have hv:=Alf (n:=n) (by omega) (u - 1 - v.n);rw [Am] at hv ⊢;simp only [↓Aef,↓XX,XY,↓reduceIte,Nat.reduceBEq,Nat.reduceAdd,Int.reduceEq,Int.reduceLT,Int.reduceLE,↓XV,wnd,h3,h4,h1,wu,wv,↓As hv];exact EX rfl _ _
     ·rw [if_neg h1] at hev;cases hrk:A4 (fun s nd e k u=>AN f s nd e k u (d+1)) f v.op u 0 v.k s (nd+1) 0 with
      | none=>rw [hrk] at hev;cases hev
      | some q =>
      obtain ⟨ts,s1,nd1,e1⟩:=q;rw [hrk] at hev;simp only [AsP,AsM,AsN] at hev;obtain ⟨rfl,rfl,rfl,rfl⟩:=hev;simp only [↓Aef,↓XX,XY,↓reduceIte,Nat.reduceBEq,Nat.reduceAdd,Int.reduceEq,Int.reduceLT,Int.reduceLE,↓XV,wnd,h3,h4,h1,↓AI,XD,heldB,AO,XE];refine Bd (Q:=fun r=>Bo r _ _) (fun k V H=>∃(pre rest:List RV) (done:List Tm) (s2 nd2 e2:Int) (us:List Tm),v.k=pre++rest∧rest.length=k∧done.length=pre.length∧V=[.ptr (.ext 0) 0,.fv v.enc,iv u,iv d,.ptr (.own 50331648) 0,.ptr (.own 50339849) 0,iv pre.length] ∧
       (
        (pre=[]∧H=Lz v.op v.n .nils [] s2 nd2 e2) ∨
        (pre≠[]∧H=Lz v.op v.n (.app (.own 50353163) (done.map Tm.enc)) [(50353163,.tok done.length 3)] s2 nd2 e2)) ∧
       A4 (fun s nd e k u=>AN f s nd e k u (d+1)) f v.op u pre.length rest s2 nd2 e2=some (us,s1,nd1,e1)∧done++us=ts)
       ?_ n v.k.length _ _ (by omega) ⟨[],v.k,[],s,nd+1,0,ts,rfl,rfl,rfl,rfl,.inl ⟨rfl,rfl⟩,hrk,rfl⟩
      rintro k V H rec ⟨pre,rest,done,s2,nd2,e2,us,hk,hl,hdl,rfl,hH,hkids,hts⟩ hrec;have hkl:v.k.length=pre.length+rest.length:=by rw [hk];simp
      cases rest with
      | nil =>
       simp only [A4,AsM,AsN] at hkids;obtain ⟨rfl,rfl,rfl,rfl⟩:=hkids;rw [List.append_nil] at hts;subst hts;have hno:¬ ((pre.length:Int)<v.k.length):=by rw [hkl];simp
       rcases hH with ⟨hp0,rfl⟩ | ⟨hne,rfl⟩
       ·have hd0:done=[]:=List.length_eq_zero_iff.1 (by rw [hdl,hp0];rfl);subst hd0;simp only [EO,Eu,En,Ez,Ep,El,GQ,EF,ED,EP,Ey,EA,G4,EN,Er,EK,EM,Em,EG,Ej,E9,Ek,EH,Es,Eo,Ew,EI,EL,EC,EQ,Et,S48,↓XX,XY,↓reduceIte,Nat.reduceBEq,Nat.reduceAdd,Int.reduceEq,Int.reduceLT,Int.reduceLE,↓XV,hno,Am];exact EX rfl _ _
       ·simp only [EO,Eu,En,Ez,Ep,El,GQ,EF,ED,EP,Ey,EA,G4,EN,Er,EK,EM,Em,EG,Ej,E9,Ek,EH,Es,Eo,Ew,EI,EL,EC,EQ,Et,S48,↓XX,XY,↓reduceIte,Nat.reduceBEq,Nat.reduceAdd,Int.reduceEq,Int.reduceLT,Int.reduceLE,↓XV,hno,Am];exact EX rfl _ _
      | cons x rest =>
       have hi:(pre.length:Int)<v.k.length:=by rw [hkl];simp;omega
       have hg:=CH hk;have hb:=Fu (n:=n) (by omega) v.op pre.length;have hble:=Bn v.op pre.length;have hwi:BS ((pre.length:Int)+1)=((pre++[x]).length:Int):=(Av (by omega) (by omega)).trans (by simp);have hwb:BS (u+(Ae v.op pre.length:Int))=u+Ae v.op pre.length:=by rw [Av]<;>omega
       have hd9:done.length+1≤1000000:=by omega
       simp only [A4] at hkids;simp only [AsQ] at hl;have behind:∀(y:RV) (s3 e3:Int),(match AN f s3 nd2 e3 y (u+Ae v.op pre.length) (d+1) with
          | none=>none
          | some (t,s2,nd2,e2)=>(A4 (fun s nd e k u=>AN f s nd e k u (d+1)) f v.op u (pre.length+1) rest s2 nd2 e2).map fun (ts,s,nd,e)=>(t::ts,s,nd,e))=some (us,s1,nd1,e1) →
         ∀K tk,((pre=[]∧K=.nils∧tk=[])∨(pre≠[]∧K=.app (.own 50353163) (done.map Tm.enc)∧tk=[(50353163,.tok done.length 3)])) →
         Bo (GQ (.ptr (.own 50339849) 0) (Lz v.op v.n K tk s3 nd2 e3) (iv u) (iv (Ae v.op pre.length)) (iv d) (SS dt n) (.ptr (.ext 0) 0) (.fv y.enc) (iv pre.length) ⟨[],[.row [iv s,iv nd,iv 0] false]⟩ (.fv v.enc) (.ptr (.own 50331648) 0) rec)
          (Tm.mk v.op v.n ts).enc [.row [iv s1,iv nd1,iv e1] false]:=by
        intro y s3 e3 hy K tk hK;cases hrd:AN f s3 nd2 e3 y (u+Ae v.op pre.length) (d+1) with
        | none=>rw [hrd] at hy;cases hy
        | some q =>
        obtain ⟨t4,s4,nd4,e4⟩:=q;rw [hrd] at hy;simp only at hy;cases hkk:A4 (fun s nd e k u=>AN f s nd e k u (d+1)) f v.op u (pre.length+1) rest s4 nd4 e4 with
        | none=>rw [hkk] at hy;cases hy
        | some q =>
        obtain ⟨us',s5,nd5,e5'⟩:=q;rw [hkk] at hy;simp only [AsP,AsM,AsN] at hy;obtain ⟨rfl,rfl,rfl,rfl⟩:=hy;have hc:=hr s3 nd2 e3 y (u+Ae v.op pre.length) (d+1) t4 s4 nd4 e4 hrd n (by omega);have h9:Bo (rec [.ptr (.ext 0) 0,.fv v.enc,iv u,iv d,.ptr (.own 50331648) 0,.ptr (.own 50339849) 0,iv (pre++[x]).length]
          (Lz v.op v.n (.app (.own 50353163) ((done++[t4]).map Tm.enc)) [(50353163,.tok (done.length+1) 3)] s4 nd4 e4)) (Tm.mk v.op v.n ts).enc [.row [iv s5,iv nd5,iv e5'] false] :=
         hrec rest.length _ _ (by omega) ⟨pre++[x],rest,done++[t4],s4,nd4,e4,us',by rw [hk];simp,rfl,by simp [hdl],rfl,.inr ⟨by simp,by simp⟩,by simpa using hkk,by rw [← hts];simp⟩
        rcases hK with ⟨hp0,rfl,rfl⟩ | ⟨hne,rfl,rfl⟩
        ·have hd0:done=[]:=List.length_eq_zero_iff.1 (by rw [hdl,hp0];rfl);subst hd0;simp only [List.nil_append,AsS,AsR,List.length_nil] at h9;simp only [EO,Eu,En,Ez,Ep,El,GQ,EF,ED,EP,Ey,EA,G4,EN,Er,EK,EM,Em,EG,Ej,E9,Ek,EH,Es,Eo,Ew,EI,EL,EC,EQ,Et,S48,↓XX,XY,↓reduceIte,Nat.reduceBEq,Nat.reduceAdd,Int.reduceEq,Int.reduceLT,Int.reduceLE,↓XV,hwb,wd,hwi,↓Afn hc (Cj _ _ _ _ _ _),↓Jp,↓RT,↓AI,XD,heldB,AO,XE];exact h9
        ·simp only [EO,Eu,En,Ez,Ep,El,GQ,EF,ED,EP,Ey,EA,G4,EN,Er,EK,EM,Em,EG,Ej,E9,Ek,EH,Es,Eo,Ew,EI,EL,EC,EQ,Et,S48,↓XX,XY,↓reduceIte,Nat.reduceBEq,Nat.reduceAdd,Int.reduceEq,Int.reduceLT,Int.reduceLE,↓XV,hwb,wd,hwi,↓Afn hc (Cj _ _ _ _ _ _),↓Jp,↓Md hd9,↓Hd,↓AI,XD,heldB,AO,XE];exact h9
       have heads:∃K tk,((pre=[]∧K=.nils∧tk=[])∨(pre≠[]∧K=.app (.own 50353163) (done.map Tm.enc)∧tk=[(50353163,.tok done.length 3)]))∧H=Lz v.op v.n K tk s2 nd2 e2:=by
        rcases hH with ⟨a,b⟩ | ⟨a,b⟩
        ·exact ⟨_,_,.inl ⟨a,rfl,rfl⟩,b⟩
        ·exact ⟨_,_,.inr ⟨a,rfl,rfl⟩,b⟩
       obtain ⟨K,tk,hK,rfl⟩:=heads;by_cases hbp:0<Ae v.op pre.length
       ·rw [if_pos hbp] at hkids;by_cases hxe:900000<x.env.length
        ·rw [if_pos hxe] at hkids;cases hkids
        ·rw [if_neg hxe] at hkids;have hbp':0<(Ae v.op pre.length:Int):=by omega
         cases hev1:Aw f s2 e2 x.b (x.env++Fh u (Ae v.op pre.length)) with
         | none=>rw [hev1] at hkids;cases hkids
         | some q =>
         obtain ⟨y,s3,e3⟩:=q;rw [hev1] at hkids;have hB:=behind y s3 e3 hkids K tk hK;have hc:=(ZA f).1 s2 e2 x.b _ y s3 e3 nd2 hev1 n (by omega);rw [Uh] at hc;have hdrop:∀(vals:List IV),vals.all Fj=true→∀k:Hp→Option (IV×Hp),Bt [] [50351109] vals (Lz v.op v.n K tk s2 nd2 e2) k=k (Lz v.op v.n K tk s2 nd2 e2):=by
          intro vals hv k;rcases hK with ⟨_,rfl,rfl⟩ | ⟨_,rfl,rfl⟩<;>simp only [↓XX,XY,↓reduceIte,Nat.reduceBEq,Nat.reduceAdd,Int.reduceEq,Int.reduceLT,Int.reduceLE,↓AI,XD,heldB,AO,XE,hv]
         simp only [EO,Eu,En,Ez,Ep,El,EF,ED,EP,Ey,EA,EN,Er,EK,EM,Em,EG,Ej,E9,Ek,EH,Es,Eo,Ew,EI,EL,EC,EQ,Et,S48,↓XX,XY,↓reduceIte,Nat.reduceBEq,Nat.reduceAdd,Int.reduceEq,Int.reduceLT,Int.reduceLE,↓XV,hi,↓VI hg,↓Ag hb,hbp',↓hdrop,↓AI,XD,heldB,AO,XE];refine Bd (Q:=fun r=>Bo r _ _) (fun k V H=>∃j,j+k=Ae v.op pre.length∧V=[.ptr (.ext 0) 0,.fv v.enc,iv u,iv d,.ptr (.own 50331648) 0,.ptr (.own 50339849) 0,iv pre.length,iv (Ae v.op pre.length),.fv x.enc,.fv (.sl ((x.env++Fh u j).map RV.enc)),iv j] ∧
          H=Lz v.op v.n K tk s2 nd2 e2) ?_ n (Ae v.op pre.length) _ _ (by omega) ?_
         rotate_left
         ·exact ⟨0,by omega,by simp [Fh],rfl⟩
         rintro k2 V2 H2 rec2 ⟨j,hj,rfl,rfl⟩ hrec2;cases k2 with
         | zero =>
          have hjb:j=Ae v.op pre.length:=by omega
          subst hjb;simp only [EO,Eu,En,Ez,Ep,El,EF,ED,EP,Ey,EA,G4,EN,Er,EK,EM,Em,EG,Ej,E9,Ek,EH,Es,Eo,Ew,EI,EL,EC,EQ,Et,S48,↓XX,XY,↓reduceIte,Nat.reduceBEq,Nat.reduceAdd,Int.reduceEq,Int.reduceLT,Int.reduceLE,↓XV,Int.lt_irrefl,↓I2 hc (Cj _ _ _ _ _ _)];exact hB
         | succ k2 =>
          have hjb:(j:Int)<Ae v.op pre.length:=by omega
          have hwj:BS (u+(j:Int))=u+j:=by rw [Av]<;>omega
          have hwj1:BS ((j:Int)+1)=((j+1:Nat):Int):=by rw [Av]<;>omega
          have hp:=Ql (n:=n) (by omega) (x.env++Fh u j) [RV.var (u+j)] (by simp) (by simp [BH];omega);simp only [AsS,AsR,Zy] at hp;rw [List.append_assoc,← J9] at hp;have hbv:=fun s h k=>TQ (RV.var (u+j)) s h k;simp only [Zy] at hbv;have hfz:=fun s h (k:IV→Hp→List Ref→List Ref→Option (IV×Hp))=>Aaz (cells:=[.fv (.int .i64 1),iv (u+j),.nils,.nils,.fv (.int .i64 0),.fv (.int .i64 0),.nils]) (fc:=[.int .i64 1,.int .i64 (u+j),.sl [],.sl [],.int .i64 0,.int .i64 0,.sl []]) rfl (by simp) s h k;have h9:=hrec2 k2 _ _ (by omega) ⟨j+1,by omega,rfl,rfl⟩;simp only [EO,Eu,En,Ez,Ep,El,EF,ED,EP,Ey,EA,G4,EN,Er,EK,EM,Em,EG,Ej,E9,Ek,EH,Es,Eo,Ew,EI,EL,EC,EQ,Et,S48,↓XX,XY,↓reduceIte,Nat.reduceBEq,Nat.reduceAdd,Int.reduceEq,Int.reduceLT,Int.reduceLE,↓XV,hjb,hwj,hwj1,↓hfz,↓hbv,↓Ag hp,↓hdrop,↓AI,XD,heldB,AO,XE];exact h9
       ·rw [if_neg hbp] at hkids;have hbp':¬ 0<(Ae v.op pre.length:Int):=by omega
        have hB:=behind x s2 e2 hkids K tk hK;simp only [EO,Eu,En,Ez,Ep,El,EF,ED,EP,Ey,EA,EN,Er,EK,EM,Em,EG,Ej,E9,Ek,EH,Es,Eo,Ew,EI,EL,EC,EQ,Et,S48,↓XX,XY,↓reduceIte,Nat.reduceBEq,Nat.reduceAdd,Int.reduceEq,Int.reduceLT,Int.reduceLE,↓XV,hi,↓VI hg,↓Ag hb,hbp',↓AI,XD,heldB,AO,XE];exact hB
  ·have e5:(if e=0∧(3000<nd+1∨120<d) then (5:Int) else e)=e:=if_neg (by omega);rw [e5,if_pos he] at hev;simp only [AsM,AsN] at hev;obtain ⟨rfl,rfl,rfl,rfl⟩:=hev;simp only [↓Aef,↓XX,XY,↓reduceIte,Nat.reduceBEq,Nat.reduceAdd,Int.reduceEq,Int.reduceLT,Int.reduceLE,wnd,he];exact EX rfl _ _
theorem Ahg:∀f,Vc f:=by
 intro f
 induction f with
 | zero=>intro s nd e v u d t s' nd' e' h;rw [AN] at h;cases h
 | succ f ih=>exact Ac0 ih
theorem Xa {α:Type}:∀(r:Rd α) (h:Hp) (l:List Ref) {x:α} {l':List Ref},r.runLog h l=some (x,l')→r.run h=some x
 | .ret a,h,l,x,l',e=>by simp only [Rd.runLog,AsM,AsN] at e;rw [e.1];rfl
 | .fail,_,_,_,_,e=>by cases e
 | .get r k,h,l,x,l',e=>by
  simp only [Rd.runLog] at e;simp only [Rd.run];cases hg:h.get r with
  | none=>rw [hg] at e;cases e
  | some b=>rw [hg] at e;exact Xa (k b) h _ e
theorem TC {v:IV} {own:List (Nat×Blk)} {ext:List Blk} {w:FV} (h:∃u lg,∀(e:Option (IV×Hp)) (K:FV→List (Ref×Blk)→List Ref→Option (IV×Hp)),FI 12 v ⟨own,ext⟩ [] e K=K w u lg):∃u,(CQ 4096 v).run ⟨own,ext⟩=some (w,u):=by
 obtain ⟨u,lg,hz⟩:=h;rcases Og 12 v ⟨own,ext⟩ [] none (fun w _ _=>some (IV.fv w,(⟨[],[]⟩:Hp))) (.fv w,⟨[],[]⟩) (hz ..) with h | ⟨x,u',lg',h1,_,h2⟩
 ·cases h
 ·simp only [AsM,AsN,IV.fv.injEq,and_true] at h2;subst h2;exact ⟨u',Xa _ _ _ (h1 4096 (by decide))⟩
theorem SP:∀l:List FV,IV.refs.refsL (l.map .fv)=[]
 | []=>rfl
 | v::l=>by
  simp only [AsS,IV.refs.refsL,IV.refs,SP l,List.append_nil]
theorem Lw:∀(args:List IV) (ks:List Bool) {vs:List FV},(∀b∈ks,b=false)→BO args=some vs→Bm ks args=.ret (vs.map .fv,[],[])
 | [],ks,vs,_,hz=>by cases hz;cases ks<;>rfl
 | v::l,[],vs,_,hz=>ML (v::l) hz
 | v::l,b::ks,vs,hk,hz=>by
  have hb:=hk b List.mem_cons_self;subst hb;simp only [BO] at hz;cases h1:A7 v with
  | none=>rw [h1] at hz;cases hz
  | some x =>
   rw [h1] at hz;cases h2:BO l with
   | none=>rw [h2] at hz;cases hz
   | some ys =>
    rw [h2] at hz;cases hz;simp only [Bm,frp 4096 (by omega) h1,Rd.bind,Lw l ks (fun c hc=>hk c (List.mem_cons_of_mem _ hc)) h2];rfl
theorem VZ (s:Nat) (ext:List Blk):Oo 400 [.own s] 0 ext=false:=rfl
theorem Afa {ks:List Bool} (hks:∀b∈ks,b=false) {ih:Aa} {f:FuncId} {args:List IV} {vs:List FV} {w:FV} {s:Nat} {st st':List FV} {own:List (Nat×Blk)} (hz:BO args=some vs) (hl:Aq s own=some (.row (st.map .fv) false))
  (hr:Bo (ih f (.ptr (.ext 0) 0::vs.map .fv) ⟨[],[.row (st.map .fv) false]⟩) w [.row (st'.map .fv) false]) (k:IV→Hp→List Ref→List Ref→Option (IV×Hp)) :
  Aj (true::ks) false false ih f (.ptr (.own s) 0::args) ⟨own,[]⟩ k=k (.fv w) ⟨AW s (.row (st'.map .fv) false) own,[]⟩ [.own s] [.own s]:=by
 obtain ⟨v,own',e1,hfz⟩:=hr;obtain ⟨u,hu⟩:=TC hfz;have hD:Gs (true::ks) false false ih f (.ptr (.own s) 0::args) ⟨own,[]⟩ k=k (.fv w) ⟨AW s (.row (st'.map .fv) false) own,[]⟩ [.own s] [.own s]:=by
  have h1:Bm (true::ks) (.ptr (.own s) 0::args)=.ret (.ptr (.own s) 0::vs.map .fv,[.own s],[]):=by
   simp only [Bm,Lw args ks hks hz,Rd.bind,IV.refs];rfl
  have h2:(B9 4096 [.own s] []).runLog ⟨own,[]⟩ []=some ([(.own s,.row (st.map .fv) false)],[.own s]):=by
   show (B9 (4094+1+1) [.own s] []).runLog ⟨own,[]⟩ []=_
   simp only [B9,hasRef,Bool.false_eq_true,if_false,Rd.runLog,Hp.get,hl,Blk.refs,SP,List.append_nil,List.nil_append]
  have h3:IV.ren.renL (ER [(.own s,.row (st.map .fv) false)]) (.ptr (.own s) 0::vs.map .fv)=some (.ptr (.ext 0) 0::vs.map .fv):=by
   simp only [IV.ren.renL,IV.ren,ER,Ch,if_true,AsP,Option.bind_some,H1]
  have h4:A5 (ER [(.own s,.row (st.map .fv) false)]) [.row (st.map .fv) false]=some [.row (st.map .fv) false]:=by
   simp only [A5,Blk.ren,H1,AsP,Option.bind_some]
  have h5:A5 (Cp [(.own s,.row (st.map .fv) false)]) [.row (st'.map .fv) false]=some [.row (st'.map .fv) false]:=by
   simp only [A5,Blk.ren,H1,AsP,Option.bind_some]
  unfold Gs;simp only [h1,Rd.runLog,h2,h3,AsS,AsR,h4,ES (Cx 3),ES CX,Lv,Bool.false_eq_true,if_false,e1,hu,AsP,IV.ren,h5,AsQ,List.length_nil,Bq,List.all_nil,and_self,if_true,List.nil_append,List.zip_cons_cons,List.zip_nil_left];have h6:laid ⟨own,[]⟩ [(.own s,.row (st'.map .fv) false)]=some ⟨AW s (.row (st'.map .fv) false) own,[]⟩:=by
   simp only [laid,Hp.get,hl,Hp.set]
  simp only [h6,MQ,Cx]
 rw [Pp,Ad6,UC,S4 0 args _ _ _ _ ks hks hz];simp only [Acz,VZ,cond_false];exact hD
theorem AlF {ih:Aa} {f:FuncId} {x y:IV} {vx vy w:FV} {s:Nat} {a b c a' b' c':FV} {own own':List (Nat×Blk)} (hr:Bo (ih f [.ptr (.ext 0) 0,.fv vx,.fv vy] ⟨[],[.row [.fv a,.fv b,.fv c] false]⟩) w [.row [.fv a',.fv b',.fv c'] false])
  (hx:A7 x=some vx) (hy:A7 y=some vy) (hl:Aq s own=some (.row [.fv a,.fv b,.fv c] false)) (ho:AW s (.row [.fv a',.fv b',.fv c'] false) own=own') (k:IV→Hp→List Ref→List Ref→Option (IV×Hp)) :
  Aj [true,false,false] false false ih f [.ptr (.own s) 0,x,y] ⟨own,[]⟩ k=k (.fv w) ⟨own',[]⟩ [.own s] [.own s]:=by
 subst ho;exact Afa (ks:=[false,false]) (by simp) (st:=[a,b,c]) (st':=[a',b',c']) (Vv hx hy) hl hr k
theorem Ak4 {ih:Aa} {f:FuncId} {x y z:IV} {vx vy vz w:FV} {s:Nat} {a b c a' b' c':FV} {own own':List (Nat×Blk)} (hr:Bo (ih f [.ptr (.ext 0) 0,.fv vx,.fv vy,.fv vz] ⟨[],[.row [.fv a,.fv b,.fv c] false]⟩) w [.row [.fv a',.fv b',.fv c'] false])
  (hx:A7 x=some vx) (hy:A7 y=some vy) (hz:A7 z=some vz) (hl:Aq s own=some (.row [.fv a,.fv b,.fv c] false)) (ho:AW s (.row [.fv a',.fv b',.fv c'] false) own=own') (k:IV→Hp→List Ref→List Ref→Option (IV×Hp)) :
  Aj [true,false,false,false] false false ih f [.ptr (.own s) 0,x,y,z] ⟨own,[]⟩ k=k (.fv w) ⟨own',[]⟩ [.own s] [.own s]:=by
 subst ho;exact Afa (ks:=[false,false,false]) (by simp) (st:=[a,b,c]) (st':=[a',b',c']) (AcG hx hy hz) hl hr k
theorem Ahz {ih:Aa} {f:FuncId} {x y:IV} {vx vy w:FV} {s:Nat} {a b a' b':FV} {own own':List (Nat×Blk)} (hr:Bo (ih f [.ptr (.ext 0) 0,.fv vx,.fv vy] ⟨[],[.row [.fv a,.fv b] false]⟩) w [.row [.fv a',.fv b'] false])
  (hx:A7 x=some vx) (hy:A7 y=some vy) (hl:Aq s own=some (.row [.fv a,.fv b] false)) (ho:AW s (.row [.fv a',.fv b'] false) own=own') (k:IV→Hp→List Ref→List Ref→Option (IV×Hp)) :
  Aj [true,false,false] false false ih f [.ptr (.own s) 0,x,y] ⟨own,[]⟩ k=k (.fv w) ⟨own',[]⟩ [.own s] [.own s]:=by
 subst ho;exact Afa (ks:=[false,false]) (by simp) (st:=[a,b]) (st':=[a',b']) (Vv hx hy) hl hr k
def AM (f:Nat) (t:Tm):Option (Tm×Int):=match Aw f 0 0 t [] with
 | none=>none
 | some (v,s,e)=>match AN f s 0 e v 0 1 with
  | none=>none
  | some (u,_,_,e)=>some (if e≠0 then (.z,e) else (u,0))
theorem MV {n:Nat} (hn:0<n) (e:Int):B7 (SS dt n 19 [iv e] ⟨[],[]⟩) (.bool (decide (e=17) || decide (e=5))):=by
 obtain ⟨n,rfl⟩:∃k,n=k+1:=⟨n - 1,by omega⟩;rw [c19];by_cases h1:e=17
 ·simp only [S19,↓XX,XY,↓reduceIte,Nat.reduceBEq,Nat.reduceAdd,Int.reduceEq,Int.reduceLT,Int.reduceLE,h1,Bool.true_or];exact Ap _ _
 ·simp only [S19,↓XX,XY,↓reduceIte,Nat.reduceBEq,Nat.reduceAdd,Int.reduceEq,Int.reduceLT,Int.reduceLE,h1,Bool.false_or];exact Ap _ _
theorem Ac9 (f:Nat) (t u:Tm) (e:Int) (h:AM f t=some (u,e)) (n:Nat) (hn:f+2≤n):B7 (SS dt n 18 [.fv t.enc] ⟨[],[]⟩) (.tuple [u.enc,.int .i64 e]):=by
 obtain ⟨n,rfl⟩:∃k,n=k+1:=⟨n - 1,by omega⟩;rw [c18];unfold AM at h;cases he:Aw f 0 0 t [] with
 | none=>rw [he] at h;cases h
 | some q =>
 obtain ⟨v,s1,e1⟩:=q;rw [he] at h;simp only at h;cases hr:AN f s1 0 e1 v 0 1 with
 | none=>rw [hr] at h;cases h
 | some q =>
 obtain ⟨w,s2,nd2,e2⟩:=q;rw [hr] at h;simp only [AsM] at h;have h1:=(ZA f).1 0 0 t [] v s1 e1 0 he n (by omega);have h2:=Ahg f s1 0 e1 v 0 1 w s2 nd2 e2 hr n (by omega);obtain ⟨op,m,ks⟩:=t;rw [Am] at h1 ⊢;simp only [AsR] at h1;have c1:=fun k=>AlF (k:=k) h1 (x:=.fv (.agg [.int .i64 op,.int .i64 m,.sl (ks.map Tm.enc)])) (y:=.nils) (s:=18875393) rfl rfl
  (own:=[(18874368,.row [iv op,iv m,.fv (.sl (ks.map Tm.enc))] false),(18874369,.row [iv 0,iv 0,.nils] false),(18875393,.row [iv 0,iv 0,iv 0] false)])
  (own':=[(18874368,.row [iv op,iv m,.fv (.sl (ks.map Tm.enc))] false),(18874369,.row [iv 0,iv 0,.nils] false),(18875393,.row [iv s1,iv 0,iv e1] false)]) (by simp [Aq]) (by simp [AW])
 have c2:=fun k=>Ak4 (k:=k) h2 (x:=.fv v.enc) (y:=iv 0) (z:=iv 1) (s:=18875393) rfl rfl rfl
  (own:=[(18874368,.row [iv op,iv m,.fv (.sl (ks.map Tm.enc))] false),(18874369,.row [iv 0,iv 0,.nils] false),(18875393,.row [iv s1,iv 0,iv e1] false)])
  (own':=[(18874368,.row [iv op,iv m,.fv (.sl (ks.map Tm.enc))] false),(18874369,.row [iv 0,iv 0,.nils] false),(18875393,.row [iv s2,iv nd2,iv e2] false)]) (by simp [Aq]) (by simp [AW])
 obtain ⟨wo,wn,wk⟩:=w;rw [Am] at c2;by_cases hz:e2=0
 ·rw [if_neg (by simp [hz])] at h;simp only [AsN] at h;obtain ⟨rfl,rfl⟩:=h;subst hz;simp only [UT,Ul,VB,Uq,UJ,S18,↓XX,XY,↓reduceIte,Nat.reduceBEq,Nat.reduceAdd,Int.reduceEq,Int.reduceLT,Int.reduceLE,↓c1,↓c2,Am];exact Ap _ _
 ·rw [if_pos hz] at h;simp only [AsN] at h;obtain ⟨rfl,rfl⟩:=h;simp only [UT,Ul,VB,Uq,UJ,S18,↓XX,XY,↓reduceIte,Nat.reduceBEq,Nat.reduceAdd,Int.reduceEq,Int.reduceLT,Int.reduceLE,↓c1,↓c2,hz,Tm.z,Am];exact AR rfl (by simp) _
end Idl
end Go.Proofs.Ytbkdidonegggdaa

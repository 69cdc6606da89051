/-
  Texts of a proof, part 10: an ideal semantics of the program, its functions in shallow form, contracts of them. No statement of the seat is proved here.
-/
import Derived.KernelRfl
import Derived.Test.YtbkdidonegggdaaNormSubstK9
set_option linter.all false
noncomputable section
namespace Go.Proofs.Ytbkdidonegggdaa
namespace Idl
theorem Vg {f:Nat} {G:Aa→Nat→Hp→Option (IV×Hp)} (e:dt.call f=fun ih n=>LK (G ih n)) (n:Nat) (h:Hp):SS dt (n+1) f [] h=G (SS dt n) n  h:=by
 show dt.call f (SS dt n) n _ h=_
 rw [e];rfl
theorem Ck {f:Nat} {G:Aa→Nat→IV→Hp→Option (IV×Hp)} (e:dt.call f=fun ih n=>Ha (G ih n)) (n:Nat) (a0:IV) (h:Hp):SS dt (n+1) f [a0] h=G (SS dt n) n a0 h:=by
 show dt.call f (SS dt n) n _ h=_
 rw [e];rfl
theorem BP {f:Nat} {G:Aa→Nat→IV→IV→Hp→Option (IV×Hp)} (e:dt.call f=fun ih n=>E8 (G ih n)) (n:Nat) (a0 a1:IV) (h:Hp):SS dt (n+1) f [a0,a1] h=G (SS dt n) n a0 a1 h:=by
 show dt.call f (SS dt n) n _ h=_
 rw [e];rfl
theorem I4 {f:Nat} {G:Aa→Nat→IV→IV→IV→Hp→Option (IV×Hp)} (e:dt.call f=fun ih n=>Tx (G ih n)) (n:Nat) (a0 a1 a2:IV) (h:Hp):SS dt (n+1) f [a0,a1,a2] h=G (SS dt n) n a0 a1 a2 h:=by
 show dt.call f (SS dt n) n _ h=_
 rw [e];rfl
theorem Fe {f:Nat} {G:Aa→Nat→IV→IV→IV→IV→Hp→Option (IV×Hp)} (e:dt.call f=fun ih n=>LX (G ih n)) (n:Nat) (a0 a1 a2 a3:IV) (h:Hp):SS dt (n+1) f [a0,a1,a2,a3] h=G (SS dt n) n a0 a1 a2 a3 h:=by
 show dt.call f (SS dt n) n _ h=_
 rw [e];rfl
theorem c12 (n:Nat) (a0 a1 a2 a3:IV) (h:Hp):SS dt (n+1) 12 [a0,a1,a2,a3] h=S12 (SS dt n) n a0 a1 a2 a3 h:=Fe (show dt.call 12=fun ih n=>LX (S12 ih n) by kernel_rfl) ..
theorem c15 (n:Nat) (a0:IV) (h:Hp):SS dt (n+1) 15 [a0] h=S15 (SS dt n) n a0 h:=Ck (show dt.call 15=fun ih n=>Ha (S15 ih n) by kernel_rfl) ..
theorem c16 (n:Nat) (a0:IV) (h:Hp):SS dt (n+1) 16 [a0] h=S16 (SS dt n) n a0 h:=Ck (show dt.call 16=fun ih n=>Ha (S16 ih n) by kernel_rfl) ..
theorem c18 (n:Nat) (a0:IV) (h:Hp):SS dt (n+1) 18 [a0] h=S18 (SS dt n) n a0 h:=Ck (show dt.call 18=fun ih n=>Ha (S18 ih n) by kernel_rfl) ..
theorem c19 (n:Nat) (a0:IV) (h:Hp):SS dt (n+1) 19 [a0] h=S19 (SS dt n) n a0 h:=Ck (show dt.call 19=fun ih n=>Ha (S19 ih n) by kernel_rfl) ..
theorem c20 (n:Nat) (a0:IV) (h:Hp):SS dt (n+1) 20 [a0] h=S20 (SS dt n) n a0 h:=Ck (show dt.call 20=fun ih n=>Ha (S20 ih n) by kernel_rfl) ..
theorem c21 (n:Nat) (a0 a1:IV) (h:Hp):SS dt (n+1) 21 [a0,a1] h=S21 (SS dt n) n a0 a1 h:=BP (show dt.call 21=fun ih n=>E8 (S21 ih n) by kernel_rfl) ..
theorem c22 (n:Nat) (a0:IV) (h:Hp):SS dt (n+1) 22 [a0] h=S22 (SS dt n) n a0 h:=Ck (show dt.call 22=fun ih n=>Ha (S22 ih n) by kernel_rfl) ..
theorem c24 (n:Nat) (a0:IV) (h:Hp):SS dt (n+1) 24 [a0] h=S24 (SS dt n) n a0 h:=Ck (show dt.call 24=fun ih n=>Ha (S24 ih n) by kernel_rfl) ..
theorem c25 (n:Nat) (a0 a1 a2:IV) (h:Hp):SS dt (n+1) 25 [a0,a1,a2] h=S25 (SS dt n) n a0 a1 a2 h:=I4 (show dt.call 25=fun ih n=>Tx (S25 ih n) by kernel_rfl) ..
theorem c26 (n:Nat) (a0 a1 a2 a3:IV) (h:Hp):SS dt (n+1) 26 [a0,a1,a2,a3] h=S26 (SS dt n) n a0 a1 a2 a3 h:=Fe (show dt.call 26=fun ih n=>LX (S26 ih n) by kernel_rfl) ..
theorem c27 (n:Nat) (a0 a1:IV) (h:Hp):SS dt (n+1) 27 [a0,a1] h=S27 (SS dt n) n a0 a1 h:=BP (show dt.call 27=fun ih n=>E8 (S27 ih n) by kernel_rfl) ..
theorem c29 (n:Nat) (a0 a1 a2:IV) (h:Hp):SS dt (n+1) 29 [a0,a1,a2] h=S29 (SS dt n) n a0 a1 a2 h:=I4 (show dt.call 29=fun ih n=>Tx (S29 ih n) by kernel_rfl) ..
theorem c30 (n:Nat) (a0 a1 a2:IV) (h:Hp):SS dt (n+1) 30 [a0,a1,a2] h=S30 (SS dt n) n a0 a1 a2 h:=I4 (show dt.call 30=fun ih n=>Tx (S30 ih n) by kernel_rfl) ..
theorem c31 (n:Nat) (a0 a1 a2:IV) (h:Hp):SS dt (n+1) 31 [a0,a1,a2] h=S31 (SS dt n) n a0 a1 a2 h:=I4 (show dt.call 31=fun ih n=>Tx (S31 ih n) by kernel_rfl) ..
theorem c32 (n:Nat) (a0 a1 a2 a3:IV) (h:Hp):SS dt (n+1) 32 [a0,a1,a2,a3] h=S32 (SS dt n) n a0 a1 a2 a3 h:=Fe (show dt.call 32=fun ih n=>LX (S32 ih n) by kernel_rfl) ..
theorem c33 (n:Nat) (a0 a1:IV) (h:Hp):SS dt (n+1) 33 [a0,a1] h=S33 (SS dt n) n a0 a1 h:=BP (show dt.call 33=fun ih n=>E8 (S33 ih n) by kernel_rfl) ..
theorem c34 (n:Nat) (a0:IV) (h:Hp):SS dt (n+1) 34 [a0] h=S34 (SS dt n) n a0 h:=Ck (show dt.call 34=fun ih n=>Ha (S34 ih n) by kernel_rfl) ..
theorem c35 (n:Nat) (a0:IV) (h:Hp):SS dt (n+1) 35 [a0] h=S35 (SS dt n) n a0 h:=Ck (show dt.call 35=fun ih n=>Ha (S35 ih n) by kernel_rfl) ..
theorem c36 (n:Nat) (a0:IV) (h:Hp):SS dt (n+1) 36 [a0] h=S36 (SS dt n) n a0 h:=Ck (show dt.call 36=fun ih n=>Ha (S36 ih n) by kernel_rfl) ..
theorem c37 (n:Nat) (a0 a1:IV) (h:Hp):SS dt (n+1) 37 [a0,a1] h=S37 (SS dt n) n a0 a1 h:=BP (show dt.call 37=fun ih n=>E8 (S37 ih n) by kernel_rfl) ..
theorem c42 (n:Nat) (h:Hp):SS dt (n+1) 42 [] h=S42 (SS dt n) n  h:=Vg (show dt.call 42=fun ih n=>LK (S42 ih n) by kernel_rfl) ..
theorem c43 (n:Nat) (a0:IV) (h:Hp):SS dt (n+1) 43 [a0] h=S43 (SS dt n) n a0 h:=Ck (show dt.call 43=fun ih n=>Ha (S43 ih n) by kernel_rfl) ..
theorem c46 (n:Nat) (a0:IV) (h:Hp):SS dt (n+1) 46 [a0] h=S46 (SS dt n) n a0 h:=Ck (show dt.call 46=fun ih n=>Ha (S46 ih n) by kernel_rfl) ..
theorem c47 (n:Nat) (a0 a1:IV) (h:Hp):SS dt (n+1) 47 [a0,a1] h=S47 (SS dt n) n a0 a1 h:=BP (show dt.call 47=fun ih n=>E8 (S47 ih n) by kernel_rfl) ..
theorem c48 (n:Nat) (a0 a1 a2 a3:IV) (h:Hp):SS dt (n+1) 48 [a0,a1,a2,a3] h=S48 (SS dt n) n a0 a1 a2 a3 h:=Fe (show dt.call 48=fun ih n=>LX (S48 ih n) by kernel_rfl) ..
theorem c49 (n:Nat) (a0 a1 a2:IV) (h:Hp):SS dt (n+1) 49 [a0,a1,a2] h=S49 (SS dt n) n a0 a1 a2 h:=I4 (show dt.call 49=fun ih n=>Tx (S49 ih n) by kernel_rfl) ..
theorem c50 (n:Nat) (a0:IV) (h:Hp):SS dt (n+1) 50 [a0] h=S50 (SS dt n) n a0 h:=Ck (show dt.call 50=fun ih n=>Ha (S50 ih n) by kernel_rfl) ..
theorem c51 (n:Nat) (h:Hp):SS dt (n+1) 51 [] h=S51 (SS dt n) n  h:=Vg (show dt.call 51=fun ih n=>LK (S51 ih n) by kernel_rfl) ..
theorem c52 (n:Nat) (a0 a1 a2:IV) (h:Hp):SS dt (n+1) 52 [a0,a1,a2] h=S52 (SS dt n) n a0 a1 a2 h:=I4 (show dt.call 52=fun ih n=>Tx (S52 ih n) by kernel_rfl) ..
theorem c53 (n:Nat) (a0 a1 a2 a3:IV) (h:Hp):SS dt (n+1) 53 [a0,a1,a2,a3] h=S53 (SS dt n) n a0 a1 a2 a3 h:=Fe (show dt.call 53=fun ih n=>LX (S53 ih n) by kernel_rfl) ..
theorem c54 (n:Nat) (a0 a1 a2:IV) (h:Hp):SS dt (n+1) 54 [a0,a1,a2] h=S54 (SS dt n) n a0 a1 a2 h:=I4 (show dt.call 54=fun ih n=>Tx (S54 ih n) by kernel_rfl) ..
theorem c55 (n:Nat) (a0 a1:IV) (h:Hp):SS dt (n+1) 55 [a0,a1] h=S55 (SS dt n) n a0 a1 h:=BP (show dt.call 55=fun ih n=>E8 (S55 ih n) by kernel_rfl) ..
theorem c56 (n:Nat) (h:Hp):SS dt (n+1) 56 [] h=S56 (SS dt n) n  h:=Vg (show dt.call 56=fun ih n=>LK (S56 ih n) by kernel_rfl) ..
theorem c57 (n:Nat) (a0:IV) (h:Hp):SS dt (n+1) 57 [a0] h=S57 (SS dt n) n a0 h:=Ck (show dt.call 57=fun ih n=>Ha (S57 ih n) by kernel_rfl) ..
theorem c58 (n:Nat) (a0 a1:IV) (h:Hp):SS dt (n+1) 58 [a0,a1] h=S58 (SS dt n) n a0 a1 h:=BP (show dt.call 58=fun ih n=>E8 (S58 ih n) by kernel_rfl) ..
theorem c59 (n:Nat) (a0 a1 a2 a3:IV) (h:Hp):SS dt (n+1) 59 [a0,a1,a2,a3] h=S59 (SS dt n) n a0 a1 a2 a3 h:=Fe (show dt.call 59=fun ih n=>LX (S59 ih n) by kernel_rfl) ..
theorem c60 (n:Nat) (a0 a1 a2 a3:IV) (h:Hp):SS dt (n+1) 60 [a0,a1,a2,a3] h=S60 (SS dt n) n a0 a1 a2 a3 h:=Fe (show dt.call 60=fun ih n=>LX (S60 ih n) by kernel_rfl) ..
theorem c61 (n:Nat) (a0 a1 a2 a3:IV) (h:Hp):SS dt (n+1) 61 [a0,a1,a2,a3] h=S61 (SS dt n) n a0 a1 a2 a3 h:=Fe (show dt.call 61=fun ih n=>LX (S61 ih n) by kernel_rfl) ..
theorem c62 (n:Nat) (a0 a1 a2 a3:IV) (h:Hp):SS dt (n+1) 62 [a0,a1,a2,a3] h=S62 (SS dt n) n a0 a1 a2 a3 h:=Fe (show dt.call 62=fun ih n=>LX (S62 ih n) by kernel_rfl) ..
theorem c63 (n:Nat) (a0 a1:IV) (h:Hp):SS dt (n+1) 63 [a0,a1] h=S63 (SS dt n) n a0 a1 h:=BP (show dt.call 63=fun ih n=>E8 (S63 ih n) by kernel_rfl) ..
theorem c64 (n:Nat) (a0 a1 a2 a3:IV) (h:Hp):SS dt (n+1) 64 [a0,a1,a2,a3] h=S64 (SS dt n) n a0 a1 a2 a3 h:=Fe (show dt.call 64=fun ih n=>LX (S64 ih n) by kernel_rfl) ..
theorem c68 (n:Nat) (a0 a1:IV) (h:Hp):SS dt (n+1) 68 [a0,a1] h=S68 (SS dt n) n a0 a1 h:=BP (show dt.call 68=fun ih n=>E8 (S68 ih n) by kernel_rfl) ..
theorem c69 (n:Nat) (a0 a1:IV) (h:Hp):SS dt (n+1) 69 [a0,a1] h=S69 (SS dt n) n a0 a1 h:=BP (show dt.call 69=fun ih n=>E8 (S69 ih n) by kernel_rfl) ..
theorem c70 (n:Nat) (a0 a1:IV) (h:Hp):SS dt (n+1) 70 [a0,a1] h=S70 (SS dt n) n a0 a1 h:=BP (show dt.call 70=fun ih n=>E8 (S70 ih n) by kernel_rfl) ..
theorem c71 (n:Nat) (a0:IV) (h:Hp):SS dt (n+1) 71 [a0] h=S71 (SS dt n) n a0 h:=Ck (show dt.call 71=fun ih n=>Ha (S71 ih n) by kernel_rfl) ..
theorem c72 (n:Nat) (a0 a1:IV) (h:Hp):SS dt (n+1) 72 [a0,a1] h=S72 (SS dt n) n a0 a1 h:=BP (show dt.call 72=fun ih n=>E8 (S72 ih n) by kernel_rfl) ..
theorem c73 (n:Nat) (a0 a1:IV) (h:Hp):SS dt (n+1) 73 [a0,a1] h=S73 (SS dt n) n a0 a1 h:=BP (show dt.call 73=fun ih n=>E8 (S73 ih n) by kernel_rfl) ..
theorem c74 (n:Nat) (a0 a1:IV) (h:Hp):SS dt (n+1) 74 [a0,a1] h=S74 (SS dt n) n a0 a1 h:=BP (show dt.call 74=fun ih n=>E8 (S74 ih n) by kernel_rfl) ..
theorem c75 (n:Nat) (a0 a1:IV) (h:Hp):SS dt (n+1) 75 [a0,a1] h=S75 (SS dt n) n a0 a1 h:=BP (show dt.call 75=fun ih n=>E8 (S75 ih n) by kernel_rfl) ..
theorem c76 (n:Nat) (a0 a1:IV) (h:Hp):SS dt (n+1) 76 [a0,a1] h=S76 (SS dt n) n a0 a1 h:=BP (show dt.call 76=fun ih n=>E8 (S76 ih n) by kernel_rfl) ..
theorem c77 (n:Nat) (a0:IV) (h:Hp):SS dt (n+1) 77 [a0] h=S77 (SS dt n) n a0 h:=Ck (show dt.call 77=fun ih n=>Ha (S77 ih n) by kernel_rfl) ..
theorem c78 (n:Nat) (a0 a1:IV) (h:Hp):SS dt (n+1) 78 [a0,a1] h=S78 (SS dt n) n a0 a1 h:=BP (show dt.call 78=fun ih n=>E8 (S78 ih n) by kernel_rfl) ..
theorem c79 (n:Nat) (a0 a1:IV) (h:Hp):SS dt (n+1) 79 [a0,a1] h=S79 (SS dt n) n a0 a1 h:=BP (show dt.call 79=fun ih n=>E8 (S79 ih n) by kernel_rfl) ..
theorem c80 (n:Nat) (a0 a1:IV) (h:Hp):SS dt (n+1) 80 [a0,a1] h=S80 (SS dt n) n a0 a1 h:=BP (show dt.call 80=fun ih n=>E8 (S80 ih n) by kernel_rfl) ..
theorem c81 (n:Nat) (a0 a1 a2 a3:IV) (h:Hp):SS dt (n+1) 81 [a0,a1,a2,a3] h=S81 (SS dt n) n a0 a1 a2 a3 h:=Fe (show dt.call 81=fun ih n=>LX (S81 ih n) by kernel_rfl) ..
theorem c82 (n:Nat) (a0:IV) (h:Hp):SS dt (n+1) 82 [a0] h=S82 (SS dt n) n a0 h:=Ck (show dt.call 82=fun ih n=>Ha (S82 ih n) by kernel_rfl) ..
theorem c83 (n:Nat) (a0 a1:IV) (h:Hp):SS dt (n+1) 83 [a0,a1] h=S83 (SS dt n) n a0 a1 h:=BP (show dt.call 83=fun ih n=>E8 (S83 ih n) by kernel_rfl) ..
theorem c86 (n:Nat) (a0:IV) (h:Hp):SS dt (n+1) 86 [a0] h=S86 (SS dt n) n a0 h:=Ck (show dt.call 86=fun ih n=>Ha (S86 ih n) by kernel_rfl) ..
theorem c87 (n:Nat) (a0 a1:IV) (h:Hp):SS dt (n+1) 87 [a0,a1] h=S87 (SS dt n) n a0 a1 h:=BP (show dt.call 87=fun ih n=>E8 (S87 ih n) by kernel_rfl) ..
theorem c88 (n:Nat) (a0 a1:IV) (h:Hp):SS dt (n+1) 88 [a0,a1] h=S88 (SS dt n) n a0 a1 h:=BP (show dt.call 88=fun ih n=>E8 (S88 ih n) by kernel_rfl) ..
theorem c89 (n:Nat) (a0 a1:IV) (h:Hp):SS dt (n+1) 89 [a0,a1] h=S89 (SS dt n) n a0 a1 h:=BP (show dt.call 89=fun ih n=>E8 (S89 ih n) by kernel_rfl) ..
def U9:=ArF @AbE.eq_1<|ArF @Zm.eq_1<|ArF @VR.eq_1<|ArF @Y7.eq_1<|ArF @Abt.eq_1<|ArF @VK.eq_1<|ArF @Abg.eq_1<|ArF @Abm.eq_1<|ArF @Y3.eq_1<|ArF @Y2.eq_1<|ArF @ZA.eq_1<|ArF @XR.eq_1<|ArF @Aat.eq_1<|ArF @YY.eq_1<|ArF @V9.eq_1<|ArF @Z2.eq_1<|ArF @AaM.eq_1<|ArF @Abs.eq_1<|ArF @Zy.eq_1<|ArF @WZ.eq_1<|ArF @XA.eq_1<|ArF @Aa6.eq_1<|ArF @Zh.eq_1<|ArF @VY.eq_1<|ArF @X7.eq_1<|@S12.eq_1
def UU2:=ArF @H7.eq_1<|ArF @Iu.eq_1<|ArF @IJ.eq_1<|ArF @Ih.eq_1<|ArF @II.eq_1<|ArF @IK.eq_1<|ArF @HZ.eq_1<|ArF @HT.eq_1<|ArF @Iq.eq_1<|ArF @HN.eq_1<|ArF @Iz.eq_1<|ArF @IG.eq_1<|ArF @Ia.eq_1<|ArF @IH.eq_1<|ArF @H4.eq_1<|ArF @HV.eq_1<|@S62.eq_1
def UU3:=ArF @AfK.eq_1<|ArF @AfU.eq_1<|ArF @Ae5.eq_1<|ArF @AfJ.eq_1<|ArF @AfQ.eq_1<|@S63.eq_1
def UU4:=ArF @Ub.eq_1<|ArF @TY.eq_1<|ArF @U5.eq_1<|ArF @Uz.eq_1<|ArF @TC.eq_1<|ArF @T6.eq_1<|ArF @Vh.eq_1<|ArF @Ux.eq_1<|ArF @UC.eq_1<|ArF @AeZ.eq_1<|@S24.eq_1
def Zw:=ArF @YR.eq_1<|ArF @Wb.eq_1<|ArF @VM.eq_1<|ArF @AbN.eq_1<|ArF @Aan.eq_1<|ArF @Xa.eq_1<|ArF @YM.eq_1<|ArF @Xy.eq_1<|ArF @Zq.eq_1<|ArF @Xj.eq_1<|ArF @X2.eq_1<|ArF @AbW.eq_1<|ArF @WN.eq_1<|ArF @Wr.eq_1<|ArF @VE.eq_1<|ArF @Aab.eq_1<|ArF @Zt.eq_1<|ArF @Y6.eq_1<|ArF @AbM.eq_1<|ArF @Zf.eq_1<|ArF @XG.eq_1<|ArF @Yu.eq_1<|ArF @YP.eq_1<|ArF @ZS.eq_1<|ArF @We.eq_1<|ArF @X9.eq_1<|ArF @Yt.eq_1<|ArF @Aal.eq_1<|ArF @Abu.eq_1<|ArF @Zn.eq_1<|ArF @X3.eq_1<|ArF @YZ.eq_1<|ArF @YU.eq_1<|ArF @Xl.eq_1<|ArF @Abx.eq_1<|ArF @Zo.eq_1<|ArF @Wd.eq_1<|ArF @VP.eq_1<|ArF @Aai.eq_1<|ArF @VX.eq_1<|ArF @VS.eq_1<|@S26.eq_1
def UU6:=ArF @Zg.eq_1<|ArF @Abq.eq_1<|ArF @Vz.eq_1<|ArF @Aa2.eq_1<|ArF @Zb.eq_1<|ArF @YS.eq_1<|ArF @V3.eq_1<|ArF @VH.eq_1<|ArF @W4.eq_1<|ArF @XP.eq_1<|ArF @Xc.eq_1<|ArF @YD.eq_1<|ArF @ZR.eq_1<|ArF @Yd.eq_1<|ArF @W0.eq_1<|ArF @Wk.eq_1<|ArF @Y4.eq_1<|ArF @Yy.eq_1<|ArF @WK.eq_1<|ArF @VD.eq_1<|ArF @Aaa.eq_1<|ArF @Aad.eq_1<|ArF @AaD.eq_1<|ArF @ZI.eq_1<|ArF @AaX.eq_1<|ArF @Aao.eq_1<|ArF @XM.eq_1<|ArF @WJ.eq_1<|ArF @YX.eq_1<|ArF @YQ.eq_1<|ArF @YN.eq_1<|ArF @WI.eq_1<|ArF @AbA.eq_1<|ArF @AbZ.eq_1<|ArF @Aba.eq_1<|ArF @XC.eq_1<|ArF @Wc.eq_1<|ArF @Ys.eq_1<|ArF @AaJ.eq_1<|ArF @VQ.eq_1<|ArF @Vp.eq_1<|ArF @YF.eq_1<|ArF @XW.eq_1<|ArF @W1.eq_1<|@S32.eq_1
def UU7:=ArF @AaY.eq_1<|ArF @Yv.eq_1<|ArF @AaL.eq_1<|ArF @Vv.eq_1<|ArF @Abf.eq_1<|ArF @WW.eq_1<|ArF @Yx.eq_1<|ArF @Aa4.eq_1<|ArF @AaU.eq_1<|ArF @AaS.eq_1<|ArF @Z9.eq_1<|ArF @Yl.eq_1<|ArF @Aac.eq_1<|ArF @Ab5.eq_1<|ArF @AbV.eq_1<|ArF @Xu.eq_1<|ArF @Yf.eq_1<|ArF @Yo.eq_1<|ArF @Aar.eq_1<|ArF @WC.eq_1<|ArF @Yb.eq_1<|ArF @Xd.eq_1<|ArF @AbQ.eq_1<|ArF @Aa1.eq_1<|ArF @XZ.eq_1<|ArF @WO.eq_1<|ArF @Xg.eq_1<|ArF @Y0.eq_1<|ArF @AaO.eq_1<|ArF @YE.eq_1<|ArF @Ye.eq_1<|ArF @Xb.eq_1<|ArF @YV.eq_1<|ArF @Vq.eq_1<|ArF @AbF.eq_1<|ArF @ZX.eq_1<|ArF @Wa.eq_1<|ArF @VI.eq_1<|ArF @ZL.eq_1<|ArF @XO.eq_1<|ArF @Zz.eq_1<|ArF @Aa8.eq_1<|ArF @ZK.eq_1<|ArF @WX.eq_1<|ArF @Abp.eq_1<|ArF @Wj.eq_1<|ArF @Xr.eq_1<|ArF @Abl.eq_1<|ArF @AaR.eq_1<|ArF @Z0.eq_1<|ArF @Vw.eq_1<|ArF @Ya.eq_1<|ArF @AbD.eq_1<|ArF @AbI.eq_1<|ArF @VU.eq_1<|ArF @Abw.eq_1<|@S64.eq_1
def UR:=ArF @AaB.eq_1<|ArF @Aay.eq_1<|ArF @ZP.eq_1<|ArF @AbS.eq_1<|ArF @WL.eq_1<|ArF @Z8.eq_1<|ArF @AaN.eq_1<|ArF @WD.eq_1<|ArF @Abk.eq_1<|ArF @AbR.eq_1<|ArF @Ws.eq_1<|ArF @Xf.eq_1<|ArF @AbT.eq_1<|ArF @Aaw.eq_1<|ArF @Ab0.eq_1<|ArF @Aah.eq_1<|ArF @Zv.eq_1<|ArF @Z1.eq_1<|ArF @WF.eq_1<|ArF @VJ.eq_1<|ArF @Yc.eq_1<|ArF @YT.eq_1<|ArF @ZY.eq_1<|ArF @Xt.eq_1<|ArF @Zr.eq_1<|ArF @Xo.eq_1<|ArF @Aa0.eq_1<|ArF @YJ.eq_1<|ArF @Xv.eq_1<|ArF @WV.eq_1<|ArF @X5.eq_1<|ArF @Aak.eq_1<|ArF @Z3.eq_1<|ArF @Abn.eq_1<|ArF @VW.eq_1<|ArF @Ab4.eq_1<|ArF @Aae.eq_1<|ArF @Xk.eq_1<|ArF @WR.eq_1<|ArF @Aby.eq_1<|ArF @W3.eq_1<|ArF @Aaj.eq_1<|ArF @Zu.eq_1<|ArF @Aa9.eq_1<|ArF @V4.eq_1<|ArF @Abd.eq_1<|ArF @Wl.eq_1<|ArF @AbH.eq_1<|ArF @Wh.eq_1<|ArF @Aag.eq_1<|ArF @Zc.eq_1<|ArF @XK.eq_1<|ArF @Aav.eq_1<|ArF @ZF.eq_1<|ArF @ZM.eq_1<|ArF @Xs.eq_1<|ArF @ZQ.eq_1<|ArF @XN.eq_1<|ArF @WU.eq_1<|@S61.eq_1
def UU9:=ArF @Xe.eq_1<|ArF @Vn.eq_1<|ArF @AbB.eq_1<|ArF @AaF.eq_1<|ArF @Aa7.eq_1<|ArF @AbC.eq_1<|ArF @Aaz.eq_1<|ArF @Zp.eq_1<|ArF @Y8.eq_1<|ArF @ZC.eq_1<|ArF @AaH.eq_1<|ArF @XL.eq_1<|ArF @Ym.eq_1<|ArF @X0.eq_1<|ArF @X6.eq_1<|ArF @Aa3.eq_1<|ArF @Y1.eq_1<|ArF @Vr.eq_1<|ArF @Yk.eq_1<|ArF @V8.eq_1<|ArF @AbP.eq_1<|ArF @VC.eq_1<|ArF @VN.eq_1<|ArF @Vs.eq_1<|ArF @Wx.eq_1<|ArF @Zi.eq_1<|ArF @AbL.eq_1<|ArF @YH.eq_1<|@S25.eq_1
def Oh:=ArF @RL.eq_1<|ArF @Rq.eq_1<|ArF @QC.eq_1<|ArF @PN.eq_1<|ArF @Q1.eq_1<|ArF @P8.eq_1<|ArF @Rx.eq_1<|ArF @Qz.eq_1<|ArF @Pw.eq_1<|ArF @Qu.eq_1<|ArF @Qd.eq_1<|ArF @RM.eq_1<|ArF @Po.eq_1<|ArF @Rw.eq_1<|ArF @ZE.eq_1<|@S59.eq_1
def I3:=ArF @Qv.eq_1<|ArF @Pi.eq_1<|ArF @PA.eq_1<|ArF @Q5.eq_1<|ArF @P5.eq_1<|ArF @Qw.eq_1<|ArF @Qa.eq_1<|ArF @QY.eq_1<|ArF @QK.eq_1<|ArF @QV.eq_1<|ArF @Rn.eq_1<|ArF @QA.eq_1<|ArF @PD.eq_1<|ArF @RW.eq_1<|ArF @Q8.eq_1<|ArF @RU.eq_1<|ArF @RY.eq_1<|ArF @PR.eq_1<|ArF @Ry.eq_1<|ArF @PS.eq_1<|ArF @Ph.eq_1<|ArF @RC.eq_1<|ArF @PQ.eq_1<|ArF @QO.eq_1<|ArF @Qe.eq_1<|ArF @Rg.eq_1<|ArF @P6.eq_1<|ArF @P3.eq_1<|ArF @Qp.eq_1<|ArF @Q7.eq_1<|ArF @PT.eq_1<|ArF @Rt.eq_1<|ArF @If.eq_1<|ArF @P2.eq_1<|@S46.eq_1
def Af5:=ArF @Eb.eq_1<|ArF @En.eq_1<|ArF @Ew.eq_1<|ArF @Ey.eq_1<|ArF @EA.eq_1<|ArF @Ec.eq_1<|ArF @GU.eq_1<|ArF @Ef.eq_1<|ArF @Ej.eq_1<|ArF @EH.eq_1<|ArF @Eo.eq_1<|ArF @Em.eq_1<|ArF @EI.eq_1<|ArF @EC.eq_1<|ArF @Ep.eq_1<|ArF @EB.eq_1<|ArF @El.eq_1<|ArF @Er.eq_1<|ArF @Et.eq_1<|ArF @Ek.eq_1<|ArF @Ee.eq_1<|ArF @Ez.eq_1<|ArF @EG.eq_1<|ArF @ED.eq_1<|ArF @Eg.eq_1<|ArF @Ei.eq_1<|ArF @Es.eq_1<|ArF @Eh.eq_1<|ArF @Eu.eq_1<|@S48.eq_1
def FH:=ArF @Xp.eq_1<|ArF @Ab3.eq_1<|ArF @Vu.eq_1<|ArF @Ze.eq_1<|ArF @AaE.eq_1<|ArF @AaG.eq_1<|ArF @V6.eq_1<|ArF @Aax.eq_1<|ArF @Zx.eq_1<|ArF @AaV.eq_1<|ArF @Y9.eq_1<|ArF @Wq.eq_1<|ArF @Za.eq_1<|ArF @W6.eq_1<|ArF @Yn.eq_1<|ArF @Aaq.eq_1<|ArF @ZN.eq_1<|ArF @V7.eq_1<|ArF @X4.eq_1<|ArF @Abb.eq_1<|ArF @Ab1.eq_1<|ArF @Aap.eq_1<|ArF @YB.eq_1<|ArF @YO.eq_1<|ArF @Zl.eq_1<|ArF @ZG.eq_1<|ArF @Wt.eq_1<|ArF @Vt.eq_1<|ArF @Z7.eq_1<|ArF @Yg.eq_1<|ArF @AbK.eq_1<|ArF @X8.eq_1<|ArF @Wm.eq_1<|ArF @AaI.eq_1<|ArF @XQ.eq_1<|ArF @Z6.eq_1<|ArF @Xm.eq_1<|ArF @ZB.eq_1<|ArF @VA.eq_1<|ArF @V1.eq_1<|ArF @AbY.eq_1<|ArF @AaK.eq_1<|ArF @Y5.eq_1<|ArF @Wo.eq_1<|ArF @Aam.eq_1<|ArF @AaT.eq_1<|ArF @Aa5.eq_1<|ArF @VB.eq_1<|ArF @WH.eq_1<|ArF @Abv.eq_1<|@S70.eq_1
def R9:=ArF @IM.eq_1<|ArF @HO.eq_1<|ArF @ID.eq_1<|ArF @Ip.eq_1<|ArF @It.eq_1<|ArF @Ii.eq_1<|ArF @HY.eq_1<|ArF @H8.eq_1<|ArF @IL.eq_1<|ArF @HP.eq_1<|ArF @Il.eq_1<|ArF @IB.eq_1<|ArF @IA.eq_1<|ArF @Im.eq_1<|ArF @IN.eq_1<|ArF @Ie.eq_1<|ArF @IE.eq_1<|ArF @IC.eq_1<|ArF @HX.eq_1<|ArF @XS.eq_1<|ArF @H6.eq_1<|ArF @HS.eq_1<|ArF @Iw.eq_1<|@S49.eq_1
def Ade:=ArF @Kx.eq_1<|ArF @Kl.eq_1<|ArF @KD.eq_1<|ArF @J0.eq_1<|ArF @Jw.eq_1<|ArF @JK.eq_1<|ArF @J3.eq_1<|ArF @Kj.eq_1<|ArF @Kf.eq_1<|ArF @Kq.eq_1<|ArF @Kn.eq_1<|ArF @J8.eq_1<|ArF @KB.eq_1<|ArF @JJ.eq_1<|@S54.eq_1
def Ac4:=ArF @Ad8.eq_1<|ArF @AfD.eq_1<|ArF @Ae4.eq_1<|ArF @AdC.eq_1<|ArF @Afc.eq_1<|@S83.eq_1
def Aer:=ArF @AfY.eq_1<|ArF @Afs.eq_1<|ArF @Ad3.eq_1<|ArF @AdR.eq_1<|ArF @Afx.eq_1<|ArF @AeT.eq_1<|@S71.eq_1
def Ad5:=ArF @JB.eq_1<|ArF @KG.eq_1<|ArF @JI.eq_1<|ArF @KA.eq_1<|ArF @Kw.eq_1<|ArF @KL.eq_1<|ArF @JF.eq_1<|@S50.eq_1
def U6:=ArF @C5.eq_1<|ArF @DK.eq_1<|ArF @DJ.eq_1<|ArF @Du.eq_1<|ArF @C6.eq_1<|ArF @Db.eq_1<|ArF @Cw.eq_1<|ArF @Dk.eq_1<|ArF @Dw.eq_1<|ArF @DF.eq_1<|ArF @Dt.eq_1<|ArF @Di.eq_1<|ArF @C4.eq_1<|ArF @Dd.eq_1<|ArF @Dm.eq_1<|ArF @Dy.eq_1<|ArF @C8.eq_1<|ArF @C9.eq_1<|ArF @Dl.eq_1<|ArF @Dz.eq_1<|ArF @Dp.eq_1<|ArF @DC.eq_1<|ArF @Dx.eq_1<|ArF @Do.eq_1<|ArF @DA.eq_1<|ArF @E4.eq_1<|ArF @Dj.eq_1<|ArF @DB.eq_1<|ArF @De.eq_1<|ArF @DM.eq_1<|ArF @Dc.eq_1<|@S53.eq_1
def Ab8:=ArF @AdW.eq_1<|ArF @Aeg.eq_1<|ArF @Ac7.eq_1<|ArF @AeD.eq_1<|ArF @Aec.eq_1<|@S88.eq_1
def AeG:=ArF @Mr.eq_1<|ArF @LR.eq_1<|ArF @Mg.eq_1<|ArF @L6.eq_1<|ArF @L4.eq_1<|ArF @L3.eq_1<|ArF @LS.eq_1<|ArF @Ma.eq_1<|ArF @ZH.eq_1<|ArF @LU.eq_1<|ArF @LQ.eq_1<|ArF @Mf.eq_1<|ArF @Mo.eq_1<|ArF @L0.eq_1<|ArF @L7.eq_1<|@S52.eq_1
def TE:=ArF @Wy.eq_1<|ArF @Yh.eq_1<|ArF @W2.eq_1<|ArF @WE.eq_1<|ArF @Zd.eq_1<|ArF @Xn.eq_1<|ArF @Wn.eq_1<|ArF @XH.eq_1<|ArF @ZO.eq_1<|ArF @YC.eq_1<|ArF @VV.eq_1<|ArF @Aas.eq_1<|@S80.eq_1
section
variable {β:Type} {E:Env} {t:TypeId}
abbrev iv (n:Int):IV:=.fv (.int .i64 n)
theorem AiS (c:Prop) [Decidable c] (a b:Option β):Ak (.fv (.bool (decide c))) a b=if c then a else b:=by
 by_cases h:c
 ·rw [decide_eq_true h,if_pos h];rfl
 ·rw [decide_eq_false h,if_neg h];rfl
theorem Aho (o:Nat) (r:Ref) (off:Nat) (k:IV→Option β):Ac o (.ptr r off) k=k (.ptr r (off+o)):=by
 show (DR (off+o) fun o=>k (.ptr r o))=_
 rw [BF]
theorem OX (o:Nat) (cs:List FV) (off:Nat) (k:IV→Option β):Ac o (.fv (.fp cs off)) k=k (.fv (.fp cs (off+o))):=by
 show (DR (off+o) fun o=>k (.fv (.fp cs o)))=_
 rw [BF]
theorem Aky {size:Nat} {es:List FV} {n:Nat} {el:FV} (he:es[n]?=some el) (hl:el.cells.length=size) (k:IV→Option β):Bc size (.fv (.sl es)) (iv n) k=k (.fv (.fp el.cells 0)):=by
 show (C1 es n fun el=>elK size el k)=_
 rw [CO,he]
 show elK size el k=_
 rw [Afm,if_pos hl]
theorem KW {op:BinOp} {g:Nat→Nat→Bool} (hg:∀a b:Nat,FE E op t (iv a) (iv b)=some (.fv (.bool (g a b)))) (a b:Int) (k:IV→Option β) :
  RK E t op g (iv a) (iv b) k=(FE E op t (iv a) (iv b)).bind k:=by
 cases a with
 | ofNat a =>
  cases b with
  | ofNat b =>
   show Adz (g a b) k=_
   rw [SF,show FE E op t (iv (Int.ofNat a)) (iv (Int.ofNat b))=some (.fv (.bool (g a b))) from hg a b]
   rfl
  | negSucc b =>
   show CJ E t op _ _ k=_
   rw [CJ,Cy]
 | negSucc a =>
  show CJ E t op _ _ k=_
  rw [CJ,Cy]
theorem AnB (a b:Int) (k:IV→Option β):A2 E t (iv a) (iv b) k=k (.fv (.bool (decide (a=b)))):=by
 rw [A2,KW (fun a b=>by
  show some (IV.fv (.bool ((a:Int) == (b:Int))))=_
  rw [Is];congr 3;exact decide_eq_decide.2 Int.ofNat_inj)]
 rfl
theorem AnK (a b:Int) (k:IV→Option β):Jd E t (iv a) (iv b) k=k (.fv (.bool (!decide (a=b)))):=by
 rw [Jd,KW (fun a b=>by
  show some (IV.fv (.bool ((a:Int) != (b:Int))))=_
  rw [Is];congr 3
  show (!decide ((a:Int)=(b:Int)))=!decide (a=b)
  congr 1;exact decide_eq_decide.2 Int.ofNat_inj)]
 rfl
theorem AmV (a b:Int) (k:IV→Option β):He E t (iv a) (iv b) k=k (.fv (.bool (decide (a<b)))):=by
 rw [He,KW (fun a b=>by
  show some (IV.fv (.bool (decide ((a:Int)<(b:Int)))))=_
  rw [Bf];congr 3;exact decide_eq_decide.2 (by omega))]
 rfl
theorem Ana (a b:Int) (k:IV→Option β):leS E t (iv a) (iv b) k=k (.fv (.bool (decide (a≤b)))):=by
 rw [leS,KW (fun a b=>by
  show some (IV.fv (.bool (decide ((a:Int)≤(b:Int)))))=_
  rw [Bf];congr 3;exact decide_eq_decide.2 (by omega))]
 rfl
theorem AmL (b:Bool) (k:IV→Option β):D6 (Of .not (.fv (.bool b))) k=k (.fv (.bool !b)):=by
 rw [Cy];rfl
end
end Idl
end Go.Proofs.Ytbkdidonegggdaa
namespace Go.Proofs.Ytbkdidonegggdaa
namespace Idl
section
variable {β:Type} {α:Type}
theorem n0 (a:α) (l:List α) (k:α→Option β):C1 (a::l) 0 k=k a:=rfl
theorem n1 (a b:α) (l:List α) (k:α→Option β):C1 (a::b::l) 1 k=k b:=rfl
theorem n2 (a b c:α) (l:List α) (k:α→Option β):C1 (a::b::c::l) 2 k=k c:=rfl
theorem n3 (a b c d:α) (l:List α) (k:α→Option β):C1 (a::b::c::d::l) 3 k=k d:=rfl
theorem n4 (a b c d e:α) (l:List α) (k:α→Option β):C1 (a::b::c::d::e::l) 4 k=k e:=rfl
theorem n5 (a b c d e f:α) (l:List α) (k:α→Option β):C1 (a::b::c::d::e::f::l) 5 k=k f:=rfl
theorem n6 (a b c d e f g:α) (l:List α) (k:α→Option β):C1 (a::b::c::d::e::f::g::l) 6 k=k g:=rfl
theorem d0 (l:List α) (k:List α→Option β):Fa l 0 k=k l:=by cases l<;>rfl
theorem d1 (a:α) (l:List α) (k:List α→Option β):Fa (a::l) 1 k=k l:=by cases l<;>rfl
theorem d2 (a b:α) (l:List α) (k:List α→Option β):Fa (a::b::l) 2 k=k l:=by cases l<;>rfl
theorem d3 (a b c:α) (l:List α) (k:List α→Option β):Fa (a::b::c::l) 3 k=k l:=by cases l<;>rfl
theorem d4 (a b c d:α) (l:List α) (k:List α→Option β):Fa (a::b::c::d::l) 4 k=k l:=by cases l<;>rfl
theorem t1 (a:α) (l:List α) (k:List α→Option β):FF (a::l) 1 k=k [a]:=by cases l<;>rfl
theorem t2 (a b:α) (l:List α) (k:List α→Option β):FF (a::b::l) 2 k=k [a,b]:=by cases l<;>rfl
theorem t3 (a b c:α) (l:List α) (k:List α→Option β):FF (a::b::c::l) 3 k=k [a,b,c]:=by cases l<;>rfl
theorem t4 (a b c d:α) (l:List α) (k:List α→Option β):FF (a::b::c::d::l) 4 k=k [a,b,c,d]:=by cases l<;>rfl
theorem t7 (a b c d e f g:α) (l:List α) (k:List α→Option β):FF (a::b::c::d::e::f::g::l) 7 k=k [a,b,c,d,e,f,g]:=by cases l<;>rfl
theorem AjO (l:List α) (k:List α→Option β):spK l k=k l:=HB l k
theorem ap0 (us:List α) (k:List α→Option β):Qh [] us k=k us:=rfl
theorem ap1 (u:α) (l us:List α) (k:List α→Option β):Qh (u::l) us k=Qh l us fun w=>k (u::w):=rfl
theorem Ame (a:α) (l:List α) (k:α→List α→Option β):AC (a::l) k=k a l:=rfl
theorem c_t {γ:Type} (a b:γ):cond true a b=a:=rfl
theorem c_f {γ:Type} (a b:γ):cond false a b=b:=rfl
end
section
variable {β:Type}
theorem Ahm {s j:Nat} (h:(s == j)=false):Nat.beq s j=false:=by
 rw [Is];simpa using h
theorem My (s:Nat) (own:List (Nat×Blk)) (ext:List Blk) (k:Blk→Option β):Dq (.own s) ⟨own,ext⟩ k=Gx own s k:=rfl
theorem AnU (j:Nat) (own:List (Nat×Blk)) (ext:List Blk) (k:Blk→Option β):Dq (.ext j) ⟨own,ext⟩ k=C1 ext j k:=rfl
theorem Aic (s:Nat) (b:Blk) (l:List (Nat×Blk)) (k:Blk→Option β):Gx ((s,b)::l) s k=k b:=by
 show cond (Nat.beq s s) (k b) _=_
 rw [show Nat.beq s s=true from Nat.beq_refl s]
 rfl
theorem Ak1 {s j:Nat} (hne:(s == j)=false) (b:Blk) (l:List (Nat×Blk)) (k:Blk→Option β):Gx ((j,b)::l) s k=Gx l s k:=by
 show cond (Nat.beq s j) (k b) _=_
 rw [show Nat.beq s j=false from Ahm hne]
 rfl
theorem An0 (s:Nat) (b:Blk) (k:List (Nat×Blk)→Option β):A1 [] s b k=k [(s,b)]:=rfl
theorem AiH (s:Nat) (b c:Blk) (l:List (Nat×Blk)) (k:List (Nat×Blk)→Option β):A1 ((s,c)::l) s b k=k ((s,b)::l):=by
 show cond (Nat.beq s s) _ _=_
 rw [show Nat.beq s s=true from Nat.beq_refl s]
 rfl
theorem AlB {s j:Nat} (hne:(s == j)=false) (b c:Blk) (l:List (Nat×Blk)) (k:List (Nat×Blk)→Option β):A1 ((j,c)::l) s b k=A1 l s b fun l=>k ((j,c)::l):=by
 show cond (Nat.beq s j) _ _=_
 rw [show Nat.beq s j=false from Ahm hne]
 rfl
theorem AnV (s:Nat) (a:Option β):CG [] s a=a:=rfl
theorem Ak4 {s j:Nat} (hne:(s == j)=false) (b:Blk) (l:List (Nat×Blk)) (a:Option β):CG ((j,b)::l) s a=CG l s a:=by
 show cond (Nat.beq s j) none _=_
 rw [show Nat.beq s j=false from Ahm hne]
 rfl
theorem AbJ (s:Nat) (b:Blk) (own:List (Nat×Blk)) (ext:List Blk) (k:Hp→Option β):FI (.own s) b ⟨own,ext⟩ k=A1 own s b fun own=>k ⟨own,ext⟩:=rfl
theorem Ahd (j:Nat) (b:Blk) (own:List (Nat×Blk)) (ext:List Blk) (k:Hp→Option β):FI (.ext j) b ⟨own,ext⟩ k=Ox ext j b fun ext=>k ⟨own,ext⟩:=rfl
theorem sn0 {α:Type} (a b:α) (l:List α) (k:List α→Option β):Ox (a::l) 0 b k=k (b::l):=rfl
theorem Ang (s:Nat) (b:Blk) (v:IV) (own:List (Nat×Blk)) (ext:List Blk) (k:IV→Hp→List Ref→List Ref→Option β) :
  AL s b v ⟨own,ext⟩ k=CG own s (A1 own s b fun own=>k v ⟨own,ext⟩ [] [.own s]):=rfl
theorem Me (s:Nat) (cs:List FV) (h:Hp) (k:IV→Hp→List Ref→List Ref→Option β):Bj s (.fv (.agg cs)) h k=AL s (.row (cs.map .fv) false) (.ptr (.own s) 0) h k:=by
 show spK (cs.map IV.fv) _=_
 rw [HB]
theorem Am6 (s:Nat) (a b:FV) (h:Hp) (k:IV→Hp→List Ref→List Ref→Option β):Bj s (.fv (.agg [a,b])) h k=AL s (.row [.fv a,.fv b] false) (.ptr (.own s) 0) h k:=Me ..
theorem Aoc (s:Nat) (a b c:FV) (h:Hp) (k:IV→Hp→List Ref→List Ref→Option β):Bj s (.fv (.agg [a,b,c])) h k=AL s (.row [.fv a,.fv b,.fv c] false) (.ptr (.own s) 0) h k:=Me ..
theorem AmP (s:Nat) (a b c d:FV) (h:Hp) (k:IV→Hp→List Ref→List Ref→Option β):Bj s (.fv (.agg [a,b,c,d])) h k=AL s (.row [.fv a,.fv b,.fv c,.fv d] false) (.ptr (.own s) 0) h k:=Me ..
theorem AmY (s:Nat) (a:FV) (h:Hp) (k:IV→Hp→List Ref→List Ref→Option β):Bj s (.fv (.agg [a])) h k=AL s (.row [.fv a] false) (.ptr (.own s) 0) h k:=Me ..
theorem Sy (s:Nat) (cs:List IV) (h:Hp) (k:IV→Hp→List Ref→List Ref→Option β):Bj s (.agg cs) h k=AL s (.row cs false) (.ptr (.own s) 0) h k:=by
 show spK cs _=_
 rw [HB]
theorem AgT {x:IV} (hx:x.one=true) (s:Nat) (h:Hp) (k:IV→Hp→List Ref→List Ref→Option β):Bj s x h k=AL s (.row [x] false) (.ptr (.own s) 0) h k:=by
 unfold Bj;rw [hx];rfl
theorem AkT (k:IntKind) (n:Int):IV.one (.fv (.int k n))=true:=rfl
theorem Agp (b:Bool):IV.one (.fv (.bool b))=true:=rfl
theorem Anw (l:List FV):IV.one (.fv (.sl l))=true:=rfl
theorem AnH (l:List FV) (o:Nat):IV.one (.fv (.fp l o))=true:=rfl
theorem AgB (fn:Fn) (a b:List FV):IV.one (.fv (.func fn a b))=true:=rfl
theorem Ah1:IV.one (.fv .nilp)=true:=rfl
theorem Ag4:IV.one .nils=true:=rfl
theorem AiU (r:Ref) (o:Nat):IV.one (.ptr r o)=true:=rfl
theorem Alz (r:Ref) (a b:Nat):IV.one (.slc r a b)=true:=rfl
theorem AlF (r:Ref) (l:List FV):IV.one (.app r l)=true:=rfl
theorem AhQ (l:List FV):IV.one (.clip l)=true:=rfl
theorem Alg:IV.one .emp=true:=rfl
theorem Ajj (l:List IV):IV.one (.agg l)=false:=rfl
theorem AgH (l:List FV):IV.one (.fv (.agg l))=false:=rfl
theorem AlS (k:IntKind) (n:Int):Hg (.int k n)=true:=rfl
theorem Ahx (b:Bool):Hg (.bool b)=true:=rfl
theorem Anc (l:List FV):Hg (.sl l)=true:=rfl
theorem Am1 (l:List FV) (o:Nat):Hg (.fp l o)=true:=rfl
theorem Ag3:Hg .nilp=true:=rfl
theorem AlW (l:List FV):Hg (.agg l)=false:=rfl
theorem Ahz:DD []=true:=rfl
theorem Ta {v:FV} (h:Hg v=true) (l:List FV):DD (v::l)=DD l:=by
 show cond (Hg v) (DD l) false=_
 rw [h];rfl
theorem Uc (r:Ref) (o:Nat) (k:Ref→Nat→Option β) (kf:List FV→Nat→Option β):EJ (.ptr r o) k kf=k r o:=rfl
theorem AoV (cs:List FV) (o:Nat) (k:Ref→Nat→Option β) (kf:List FV→Nat→Option β):EJ (.fv (.fp cs o)) k kf=kf cs o:=rfl
theorem Le (cs:List IV) (ro:Bool) (k:List IV→Option β):EO (.row cs ro) k=k cs:=rfl
theorem WG (cs:List IV) (k:List IV→Option β):GP (.row cs false) k=k cs:=rfl
theorem Aeb (v:FV) (e:Option β) (k:FV→Option β):N6 (.fv v) e k=k v:=rfl
theorem Um (l:List IV) (e:Option β) (k:FV→Option β):N6 (.agg l) e k=e:=rfl
theorem AkC (e:Option β) (k:FV→Option β):N6 .nils e k=e:=rfl
theorem Aly (r:Ref) (o:Nat) (e:Option β) (k:FV→Option β):N6 (.ptr r o) e k=e:=rfl
theorem Alx (r:Ref) (o:List FV) (e:Option β) (k:FV→Option β):N6 (.app r o) e k=e:=rfl
theorem Aja (o:List FV) (e:Option β) (k:FV→Option β):N6 (.clip o) e k=e:=rfl
theorem Ajg (r:Ref) (a b:Nat) (e:Option β) (k:FV→Option β):N6 (.slc r a b) e k=e:=rfl
theorem AjK (e:Option β) (k:FV→Option β):N6 .emp e k=e:=rfl
theorem Ajq (cs:List FV) (k:List FV→Option β):G6 (.agg cs) k=k cs:=rfl
theorem AmD (cs:List IV) (k:List IV→Option β) (kf:List FV→Option β):asAgg (.agg cs) k kf=k cs:=rfl
theorem AjM (cs:List FV) (k:List IV→Option β) (kf:List FV→Option β):asAgg (.fv (.agg cs)) k kf=kf cs:=rfl
theorem AgU (e:Option β) (k:List FV→Option β):Cl [] e k=k []:=rfl
theorem AjC (v:FV) (l:List IV) (e:Option β) (k:List FV→Option β):Cl (.fv v::l) e k=Cl l e fun vs=>k (v::vs):=rfl
theorem AfT (l:List IV) (e:Option β) (k:List FV→Option β):Cl (.nils::l) e k=e:=rfl
theorem AhG (r:Ref) (es:List FV) (l:List IV) (e:Option β) (k:List FV→Option β):Cl (.app r es::l) e k=e:=rfl
theorem Aeh (es:List FV) (l:List IV) (e:Option β) (k:List FV→Option β):Cl (.clip es::l) e k=e:=rfl
theorem Ahu (r:Ref) (o:Nat) (l:List IV) (e:Option β) (k:List FV→Option β):Cl (.ptr r o::l) e k=e:=rfl
theorem Agn (r:Ref) (a b:Nat) (l:List IV) (e:Option β) (k:List FV→Option β):Cl (.slc r a b::l) e k=e:=rfl
theorem Ahb (es l:List IV) (e:Option β) (k:List FV→Option β):Cl (.agg es::l) e k=e:=rfl
theorem AfB (r:Ref) (l:List IV) (e:Option β) (k:List FV→Option β):Cl (.mapr r::l) e k=e:=rfl
theorem AnC (l:List IV) (k:IV→Option β):Od l k=Cl l (k (.agg l)) fun vs=>k (.fv (.agg vs)):=rfl
theorem Am9 (l:List IV) (k:IV→Option β):UL l k=Cl l (k (.tuple l)) fun vs=>k (.fv (.tuple vs)):=rfl
theorem Apt (a:IV) (h:Hp) (k:IV→List Ref→Option β):Af a h k=EJ a (fun r o=>Dq r h fun b=>EO b fun cells=>C1 cells o fun v=>k v [r]) fun cells o=>C1 cells o fun v=>k (.fv v) []:=rfl
theorem Ao0 (size:Nat) (a:IV) (h:Hp) (k:IV→List Ref→Option β):Ai size a h k =
  EJ a (fun r o=>Dq r h fun b=>EO b fun cells=>Fa cells o fun cs=>FF cs size fun cs=>Od cs fun v=>k v [r]) fun cells o=>Fa cells o fun cs=>FF cs size fun cs=>k (.fv (.agg cs)) []:=rfl
theorem Aj2 (size:Nat) (a:IV) (h:Hp) (k:IV→Option β):AG true size a h k=Ai size a h fun v _=>k v:=rfl
theorem AkK (size:Nat) (a:IV) (h:Hp) (k:IV→Option β):AG false size a h k=Af a h fun v _=>k v:=rfl
theorem wr0 (l:List IV) (k:List IV→Option β):wrK [] l k=k l:=rfl
theorem wr1 (c:FV) (cs:List FV) (x:IV) (l:List IV) (k:List IV→Option β):wrK (c::cs) (x::l) k=wrK cs l fun t=>k (.fv c::t):=rfl
theorem sf0 (x:IV) (l:List IV) (cs:List FV) (k:List IV→Option β):DU (x::l) 0 cs k=wrK cs (x::l) k:=rfl
theorem sf1 (x:IV) (l:List IV) (cs:List FV) (k:List IV→Option β):DU (x::l) 1 cs k=DU l 0 cs fun t=>k (x::t):=rfl
theorem sf2 (x y:IV) (l:List IV) (cs:List FV) (k:List IV→Option β):DU (x::y::l) 2 cs k=DU l 0 cs fun t=>k (x::y::t):=rfl
theorem sf3 (x y z:IV) (l:List IV) (cs:List FV) (k:List IV→Option β):DU (x::y::z::l) 3 cs k=DU l 0 cs fun t=>k (x::y::z::t):=rfl
theorem sf4 (x y z u:IV) (l:List IV) (cs:List FV) (k:List IV→Option β):DU (x::y::z::u::l) 4 cs k=DU l 0 cs fun t=>k (x::y::z::u::t):=rfl
theorem of0 (x b:IV) (l:List IV) (k:List IV→Option β):Gw (x::l) 0 b k=k (b::l):=rfl
theorem of1 (x y b:IV) (l:List IV) (k:List IV→Option β):Gw (x::y::l) 1 b k=k (x::b::l):=rfl
theorem of2 (x y z b:IV) (l:List IV) (k:List IV→Option β):Gw (x::y::z::l) 2 b k=k (x::y::b::l):=rfl
theorem of3 (x y z u b:IV) (l:List IV) (k:List IV→Option β):Gw (x::y::z::u::l) 3 b k=k (x::y::z::b::l):=rfl
theorem of6 (x y z u v w s b:IV) (l:List IV) (k:List IV→Option β):Gw (x::y::z::u::v::w::s::l) 6 b k=k (x::y::z::u::v::w::b::l):=rfl
theorem Ao7 (size:Nat) (a:IV) (cs:List FV) (h:Hp) (k:Hp→List Ref→List Ref→Option β):Al size a (.fv (.agg cs)) h k =
  EJ a (fun r o=>Dq r h fun b=>GP b fun cells=>cond (and (Nat.beq cs.length size) (DD cs)) (DU cells o cs fun cells=>FI r (.row cells false) h fun h=>k h [r] [r]) none) fun _ _=>none:=rfl
theorem Ada (s:Nat) (x:IV):FA (.own s) x=true:=rfl
theorem Apw (s:Nat) (a b c:IV) (ha:a.one=true) (hb:b.one=true) (hc:c.one=true) (own:List (Nat×Blk)) (ext:List Blk) (k:Hp→List Ref→List Ref→Option β) :
  Al 3 (.ptr (.own s) 0) (.agg [a,b,c]) ⟨own,ext⟩ k=Gx own s fun bl=>GP bl fun cells=>cond (Nat.ble 3 cells.length) (FI (.own s) (.row (A0 cells 0 [a,b,c]) false) ⟨own,ext⟩ fun h=>k h [.own s] [.own s]) none:=by
 show Gx own s (fun bl=>GP bl fun cells=>if IV.alive (.agg [a,b,c])=true∧(IV.cells (.agg [a,b,c])).length=3∧0+3≤cells.length∧(IV.cells (.agg [a,b,c])).all IV.one=true∧FA (.own s) (.agg [a,b,c])=true then
  spK (A0 cells 0 (IV.cells (.agg [a,b,c]))) fun cells=>FI (.own s) (.row cells false) ⟨own,ext⟩ fun h=>k h [.own s] [.own s] else none)=_
 congr 1
 funext bl
 congr 1
 funext cells
 by_cases h3:3≤cells.length
 ·rw [if_pos ⟨rfl,rfl,by omega,by simp [IV.cells,ha,hb,hc],rfl⟩,HB,Bf,decide_eq_true h3];rfl
 ·rw [if_neg (fun h=>h3 (by omega)),Bf,decide_eq_false h3];rfl
theorem sc3 (a b c x y z:IV):A0 [x,y,z] 0 [a,b,c]=[a,b,c]:=rfl
theorem Apf (a x:IV) (h:Hp) (k:Hp→List Ref→List Ref→Option β):Bp a x h k =
  cond x.one (EJ a (fun r o=>Dq r h fun b=>GP b fun cells=>cond (FA r x) (Gw cells o x fun cells=>FI r (.row cells false) h fun h=>k h [r] [r]) none) fun _ _=>none) (Al 1 a x h k):=rfl
theorem Apk (o:Nat) (r:Ref) (k:IV→Option β):Ac o (.ptr r 0) k=k (.ptr r o):=by rw [Aho,Nat.zero_add]
theorem An5 (o:Nat) (cs:List FV) (k:IV→Option β):Ac o (.fv (.fp cs 0)) k=k (.fv (.fp cs o)):=by rw [OX,Nat.zero_add]
theorem AmC (r:Ref) (o:Nat) (k:IV→Option β):AB (.ptr r o) k=k (.ptr r o):=rfl
theorem Anm (cs:List FV) (o:Nat) (k:IV→Option β):AB (.fv (.fp cs o)) k=k (.fv (.fp cs o)):=rfl
theorem Afy (g:FuncId) (a b:List FV) (k:IV→Option β):AB (.fv (.func (.func g) a b)) k=k (.fv (.func (.func g) a b)):=rfl
theorem Apd (ix:Nat) (vs:List IV) (k:IV→Option β):AN ix (.tuple vs) k=C1 vs ix k:=rfl
theorem ApD (ix:Nat) (vs:List FV) (k:IV→Option β):AN ix (.fv (.tuple vs)) k=C1 vs ix fun v=>k (.fv v):=rfl
theorem Aow (o:Nat) (x:IV) (k:IV→Option β):AiR o x k=asAgg x (fun cs=>C1 cs o k) fun cs=>C1 cs o fun v=>k (.fv v):=rfl
theorem AoK (size o:Nat) (x:IV) (k:IV→Option β):AjJ size o x k=asAgg x (fun cs=>Fa cs o fun cs=>FF cs size fun cs=>Od cs k) fun cs=>Fa cs o fun cs=>FF cs size fun cs=>k (.fv (.agg cs)):=rfl
theorem Anb (z:List IV) (pl:List (Nat×Nat×IV)) (k:IV→Option β):Bw z pl k=Nc z pl fun cells=>Od cells k:=rfl
theorem fk0 (z:List IV) (k:List IV→Option β):Nc z [] k=k z:=rfl
theorem fk1 (z:List IV) (o sz:Nat) (v:IV) (pl:List (Nat×Nat×IV)) (k:List IV→Option β):Nc z ((o,sz,v)::pl) k=Hb z o sz v fun z=>Nc z pl k:=rfl
theorem Ajh {v:IV} (hv:v.one=true) (z:List IV) (o:Nat) (k:List IV→Option β):Hb z o 1 v k=Gw z o v k:=by
 unfold Hb;cases v with
 | fv w =>
  show cond (Hg w) _ _=_
  have:Hg w=true:=by cases w<;>first | rfl | cases hv
  rw [this];rfl
 | _=>show Abz _ _ _ _ _=_;unfold Abz;rw [hv];rfl
theorem Ak0 (z:List IV) (o sz:Nat) (cs:List FV) (k:List IV→Option β):Hb z o sz (.fv (.agg cs)) k=cond (Nat.beq cs.length sz) (DU z o cs k) none:=rfl
theorem nb3 (a b c:FV):Nat.beq [a,b,c].length 3=true:=rfl
theorem nb4 (a b c d:FV):Nat.beq [a,b,c,d].length 4=true:=rfl
theorem nb7 (a b c d e f g:FV):Nat.beq [a,b,c,d,e,f,g].length 7=true:=rfl
theorem nl3 (a b c:IV):Nat.ble 3 [a,b,c].length=true:=rfl
theorem AjF:(and true true)=true:=rfl
end
end Idl
end Go.Proofs.Ytbkdidonegggdaa
namespace Go.Proofs.Ytbkdidonegggdaa
namespace Idl
section
variable {β:Type} {E:Env} {t:TypeId}
theorem TM (n:Int):IV.fv (.int .i64 n)=iv n:=rfl
def BN (n:Int):Int:=IntKind.i64.wrap n
theorem Au {n:Int} (h1:-9223372036854775808≤n) (h2:n≤9223372036854775807):BN n=n:=by
 show (if (true && decide ((n % (18446744073709551616:Int)) ≥ (9223372036854775808:Int)))=true then (n % (18446744073709551616:Int)) - (18446744073709551616:Int) else (n % (18446744073709551616:Int)))=n
 by_cases h:0≤n
 ·have e:n % (18446744073709551616:Int)=n:=by omega
  have e2:¬ n ≥ (9223372036854775808:Int):=by omega
  rw [e,decide_eq_false e2];rfl
 ·have e:n % (18446744073709551616:Int)=n+18446744073709551616:=by omega
  have e2:n+18446744073709551616 ≥ (9223372036854775808:Int):=by omega
  rw [e,decide_eq_true e2];simp
theorem AnQ (a b:Int) (k:IV→Option β):BH E t (iv a) (iv b) k=k (iv (BN (a+b))):=by
 have hg:CJ E t .add (iv a) (iv b) k=k (iv (BN (a+b))):=by
  rw [CJ,Cy];rfl
 cases a with
 | negSucc a=>exact hg
 | ofNat a=>cases b with
  | negSucc b=>exact hg
  | ofNat b =>
   show cond (Nat.ble (a+b) 9223372036854775807) (M9 (a+b) k) _=_
   rw [Bf];by_cases h:a+b≤9223372036854775807
   ·rw [decide_eq_true h]
    show M9 (a+b) k=_
    rw [Ds]
    have:BN (Int.ofNat a+Int.ofNat b)=((a+b:Nat):Int):=by
     rw [Au (by simp only [Int.ofNat_eq_natCast];omega) (by simp only [Int.ofNat_eq_natCast];omega)];simp only [Int.ofNat_eq_natCast];omega
    rw [this]
   ·rw [decide_eq_false h];exact hg
theorem Amo (a b:Int) (k:IV→Option β):A9 E t (iv a) (iv b) k=k (iv (BN (a - b))):=by
 have hg:CJ E t .sub (iv a) (iv b) k=k (iv (BN (a - b))):=by
  rw [CJ,Cy];rfl
 cases a with
 | negSucc a=>exact hg
 | ofNat a=>cases b with
  | negSucc b=>exact hg
  | ofNat b =>
   show cond (and (Nat.ble b a) (Nat.ble a 9223372036854775807)) (M9 (a - b) k) _=_
   rw [Bf,Bf];by_cases h:b≤a∧a≤9223372036854775807
   ·rw [decide_eq_true h.1,decide_eq_true h.2]
    show M9 (a - b) k=_
    rw [Ds]
    have:BN (Int.ofNat a - Int.ofNat b)=((a - b:Nat):Int):=by
     rw [Au (by simp only [Int.ofNat_eq_natCast];omega) (by simp only [Int.ofNat_eq_natCast];omega)];simp only [Int.ofNat_eq_natCast];omega
    rw [this]
   ·have:(decide (b≤a) && decide (a≤9223372036854775807))=false:=by
     rw [← Bool.decide_and];exact decide_eq_false h
    rw [show and (decide (b≤a)) (decide (a≤9223372036854775807))=false from this]
    exact hg
theorem Anx (a b:Int) (k:IV→Option β):CJ E t .mul (iv a) (iv b) k=k (iv (BN (a * b))):=by
 rw [CJ,Cy];rfl
theorem AdU {b:Int} (hb:b≠0) (a:Int) (k:IV→Option β):CJ E t .quo (iv a) (iv b) k=k (iv (BN (a.tdiv b))):=by
 rw [CJ,Cy]
 have:FE E .quo t (iv a) (iv b)=some (iv (BN (a.tdiv b))):=by
  show (GO (Op.intDiv .quo .i64 a b)).bind Jp=_
  simp only [Op.intDiv,hb,if_false];rfl
 rw [this];rfl
theorem Oz {b:Int} (hb:b≠0) (a:Int) (k:IV→Option β):CJ E t .rem (iv a) (iv b) k=k (iv (a.tmod b)):=by
 rw [CJ,Cy]
 have:FE E .rem t (iv a) (iv b)=some (iv (a.tmod b)):=by
  show (GO (Op.intDiv .rem .i64 a b)).bind Jp=_
  simp only [Op.intDiv,hb,if_false];rfl
 rw [this];rfl
theorem AoP (a b:Int) (k:IV→Option β):A2 E t (iv a) (iv b) k=k (.fv (.bool (decide (a=b)))):=AnB a b k
theorem Apv (a b:Int) (k:IV→Option β):Jd E t (iv a) (iv b) k=k (.fv (.bool (!decide (a=b)))):=AnK a b k
theorem AoG (a b:Int) (k:IV→Option β):He E t (iv a) (iv b) k=k (.fv (.bool (decide (a<b)))):=AmV a b k
theorem AoO (a b:Int) (k:IV→Option β):leS E t (iv a) (iv b) k=k (.fv (.bool (decide (a≤b)))):=Ana a b k
theorem AoM (a b:Int) (k:IV→Option β):KN E t (iv a) (iv b) k=k (.fv (.bool (decide (b<a)))):=by
 rw [KN,KW (fun a b=>by
  show some (IV.fv (.bool (decide ((a:Int) > (b:Int)))))=_
  rw [Bf];congr 3;exact decide_eq_decide.2 (by omega))]
 rfl
theorem AoF (a b:Int) (k:IV→Option β):geS E t (iv a) (iv b) k=k (.fv (.bool (decide (b≤a)))):=by
 rw [geS,KW (fun a b=>by
  show some (IV.fv (.bool (decide ((a:Int) ≥ (b:Int)))))=_
  rw [Bf];congr 3;exact decide_eq_decide.2 (by omega))]
 rfl
theorem Aod (a b:Bool) (hT:E.T t=some ⟨1,1,.bool,[.fv (.bool false)]⟩) (k:IV→Option β):A2 E t (.fv (.bool a)) (.fv (.bool b)) k=k (.fv (.bool (a == b))):=by
 show CJ E t .eql _ _ k=_
 rw [CJ,Cy]
 have:FE E .eql t (.fv (.bool a)) (.fv (.bool b))=some (.fv (.bool (a == b))):=by
  simp only [FE,hT,Sj]
 rw [this];rfl
theorem AmF (b:Bool) (k:IV→Option β):D6 (Of .not (.fv (.bool b))) k=k (.fv (.bool !b)):=AmL b k
theorem Apu (a b:Option β):Ak (.fv (.bool true)) a b=a:=rfl
theorem Aoz (a b:Option β):Ak (.fv (.bool false)) a b=b:=rfl
theorem Ao1 (c:Prop) [Decidable c] (a b:Option β):Ak (.fv (.bool (decide c))) a b=if c then a else b:=AiS c a b
theorem Ao8 (c:Prop) [Decidable c] (a b:Option β):Ak (.fv (.bool (!decide c))) a b=if c then b else a:=by
 by_cases h:c
 ·rw [decide_eq_true h,if_pos h];rfl
 ·rw [decide_eq_false h,if_neg h];rfl
theorem AoS (c:Bool) (a b:Option β):Ak (.fv (.bool c)) a b=if c=true then a else b:=by
 cases c<;>rfl
theorem Ao2 (c a b:IV) (k:IV→Option β):AF c a b k=Ak c (k a) (k b):=rfl
theorem Amw {b:Bool} (hb:b=true) (h:Hp) (m:(IV→Hp→List Ref→List Ref→Option β)→Option β) (k:IV→Hp→List Ref→List Ref→Option β):Ab (.fv (.bool b)) true h m k=m k:=by rw [hb];rfl
theorem Am4 {b:Bool} (hb:b=false) (h:Hp) (m:(IV→Hp→List Ref→List Ref→Option β)→Option β) (k:IV→Hp→List Ref→List Ref→Option β):Ab (.fv (.bool b)) false h m k=m k:=by rw [hb];rfl
theorem AnL {b:Bool} (hb:b=true) (h:Hp) (m:(IV→Hp→List Ref→List Ref→Option β)→Option β) (k:IV→Hp→List Ref→List Ref→Option β):Ab (.fv (.bool b)) false h m k=k Fk h [] []:=by rw [hb];rfl
theorem Anr {b:Bool} (hb:b=false) (h:Hp) (m:(IV→Hp→List Ref→List Ref→Option β)→Option β) (k:IV→Hp→List Ref→List Ref→Option β):Ab (.fv (.bool b)) true h m k=k Fk h [] []:=by rw [hb];rfl
theorem AoY (w:Bool) (h:Hp) (m:(IV→Hp→List Ref→List Ref→Option β)→Option β) (k:IV→Hp→List Ref→List Ref→Option β):Ab Fk w h m k=k Fk h [] []:=rfl
theorem ch0 (rd wr:List Ref) (a:Option β):Ad [] rd wr a=a:=rfl
theorem ch1 (q1 q2:List Ref) (l:List (List Ref×List Ref)) (rd wr:List Ref) (a:Option β):Ad ((q1,q2)::l) rd wr a=cond (Tw q2 rd) (cond (Tw q2 wr) (cond (Tw wr q1) (Ad l rd wr a) none) none) none:=rfl
theorem dj0 (b:List Ref):Tw [] b=true:=rfl
theorem djn:∀(a:List Ref),Tw a []=true
 | []=>rfl
 | _::a=>djn a
theorem dj1 (r:Ref) (a b:List Ref):Tw (r::a) b=cond (Js r b) (Tw a b) false:=rfl
theorem an0 (r:Ref):Js r []=true:=rfl
theorem an1 (r s:Ref) (l:List Ref):Js r (s::l)=cond (LA r s) (Js r l) false:=rfl
theorem AoW {i j:Nat} (h:(i == j)=false):LA (.own i) (.own j)=true:=by
 show not (Nat.beq i j)=true
 rw [show Nat.beq i j=false from Ahm h];rfl
theorem Anh (i j:Nat):LA (.own i) (.ext j)=true:=rfl
theorem AnJ (i j:Nat):LA (.ext i) (.own j)=true:=rfl
theorem Aoy (v:IV) (h:Hp):Aq [v] h=some (v,h):=rfl
theorem Ao4 (h:Hp):Aq [] h=some (.fv (.tuple []),h):=rfl
theorem AoE (a b:IV) (h:Hp):Aq [a,b] h=UL [a,b] fun v=>some (v,h):=rfl
theorem Apa (a b c:IV) (h:Hp):Aq [a,b,c] h=UL [a,b,c] fun v=>some (v,h):=rfl
theorem Aot (a b c d:IV) (h:Hp):Aq [a,b,c,d] h=UL [a,b,c,d] fun v=>some (v,h):=rfl
theorem Amt (es:List FV) (k:IV→Option β):Ca (.fv (.sl es)) k=k (iv es.length):=Ds ..
theorem Am3 (k:IV→Option β):Ca .nils k=k (iv 0):=rfl
theorem Am8 (es:List FV) (k:IV→Option β):Ca (.clip es) k=k (iv es.length):=Ds ..
theorem AnE (r:Ref) (es:List FV) (k:IV→Option β):Ca (.app r es) k=k (iv es.length):=Ds ..
theorem Ams (r:Ref) (sz n:Nat) (k:IV→Option β):Ca (.slc r sz n) k=k (iv n):=Ds ..
theorem Bx {size:Nat} {es:List FV} {n:Nat} {el:FV} (he:es[n]?=some el) (hl:el.cells.length=size) (k:IV→Option β):Bc size (.fv (.sl es)) (iv n) k=k (.fv (.fp el.cells 0)):=Aky he hl k
theorem Apb {size:Nat} {r:Ref} {es:List FV} {n:Nat} {el:FV} (he:es[n]?=some el) (hl:el.cells.length=size) (k:IV→Option β):Bc size (.app r es) (iv n) k=k (.fv (.fp el.cells 0)):=Aky he hl k
theorem Aph {size:Nat} {es:List FV} {n:Nat} {el:FV} (he:es[n]?=some el) (hl:el.cells.length=size) (k:IV→Option β):Bc size (.clip es) (iv n) k=k (.fv (.fp el.cells 0)):=Aky he hl k
theorem ApB {size sz len:Nat} {r:Ref} {n:Nat} (hn:n<len) (hs:sz=size) (k:IV→Option β):Bc size (.slc r sz len) (iv n) k=k (.ptr r (n * sz)):=by
 show cond (and (Nat.ble (Nat.succ n) len) (Nat.beq sz size)) (DR (n * sz) fun o=>k (.ptr r o)) none=_
 rw [Bf,decide_eq_true (show Nat.succ n≤len from hn),hs,show Nat.beq size size=true from Nat.beq_refl size]
 simp only [Bool.and_self,cond_true];rw [BF]
theorem Ah4 (size:Nat) (cs:List FV) (es:List FV) (hl:cs.length=size) (k:IV→Option β):Bc size (.fv (.sl (.agg cs::es))) (iv 0) k=k (.fv (.fp cs 0)):=Bx (el:=.agg cs) (n:=0) rfl hl k
theorem Agv (size:Nat) (cs:List FV) (e:FV) (es:List FV) (hl:cs.length=size) (k:IV→Option β):Bc size (.fv (.sl (e :: .agg cs::es))) (iv 1) k=k (.fv (.fp cs 0)):=Bx (el:=.agg cs) (n:=1) rfl hl k
theorem Ag9 (size:Nat) (cs:List FV) (e e':FV) (es:List FV) (hl:cs.length=size) (k:IV→Option β):Bc size (.fv (.sl (e::e' :: .agg cs::es))) (iv 2) k=k (.fv (.fp cs 0)):=Bx (el:=.agg cs) (n:=2) rfl hl k
theorem Ahl (size:Nat) (cs:List FV) (e e' e'':FV) (es:List FV) (hl:cs.length=size) (k:IV→Option β):Bc size (.fv (.sl (e::e'::e'' :: .agg cs::es))) (iv 3) k=k (.fv (.fp cs 0)):=Bx (el:=.agg cs) (n:=3) rfl hl k
def Fz (v:IV) (own:List (Nat×Blk)) (w:FV):Prop:=∃u lg,∀(e:Option (IV×Hp)) (K:FV→List (Ref×Blk)→List Ref→Option (IV×Hp)),FG 12 v ⟨own,[]⟩ [] e K=K w u lg
def BY (r:Option (IV×Hp)) (w:FV):Prop:=∃v own,r=some (v,⟨own,[]⟩) ∧
 (Fz v own w∨((∀(e:Option (IV×Hp)) (K:FV→List (Ref×Blk)→List Ref→Option (IV×Hp)),FG 12 v ⟨own,[]⟩ [] e K=e)∧∃u,(CN 4096 v).run ⟨own,[]⟩=some (w,u)))
theorem Aob (w:FV) (own:List (Nat×Blk)):Fz (.fv w) own w:=⟨[],[],fun _ _=>rfl⟩
theorem Ap (w:FV) (own:List (Nat×Blk)):BY (some (.fv w,⟨own,[]⟩)) w:=⟨_,own,rfl,.inl (Aob w own)⟩
def Hd:IV→Option FV
 | .fv v=>some v
 | .nils=>some (.sl [])
 | .emp=>some (.sl [])
 | .clip es=>some (.sl es)
 | .app _ es=>some (.sl es)
 | _=>none
def CV:List IV→Option (List FV)
 | []=>some []
 | v::l=>(Hd v).bind fun x=>(CV l).map fun xs=>x::xs
def A5 (v:IV):Option FV:=match v with
 | .agg cs=>if cs.length≤8 then (CV cs).map .agg else none
 | v=>Hd v
def BI:List IV→Option (List FV)
 | []=>some []
 | v::l=>(A5 v).bind fun x=>(BI l).map fun xs=>x::xs
theorem Aof (v:FV):A5 (.fv v)=some v:=rfl
theorem AhD:A5 .nils=some (.sl []):=rfl
theorem Ak2:A5 .emp=some (.sl []):=rfl
theorem Agr (es:List FV):A5 (.clip es)=some (.sl es):=rfl
theorem Ala (r:Ref) (es:List FV):A5 (.app r es)=some (.sl es):=rfl
theorem Ane (v:FV):Hd (.fv v)=some v:=rfl
theorem Ag2:Hd .nils=some (.sl []):=rfl
theorem AjP:Hd .emp=some (.sl []):=rfl
theorem AhE (es:List FV):Hd (.clip es)=some (.sl es):=rfl
theorem Akh (r:Ref) (es:List FV):Hd (.app r es)=some (.sl es):=rfl
theorem Aov {a b c:IV} {x y z:FV} (ha:Hd a=some x) (hb:Hd b=some y) (hc:Hd c=some z):A5 (.agg [a,b,c])=some (.agg [x,y,z]):=by
 show (if 3≤8 then (CV [a,b,c]).map FV.agg else none)=_
 simp [CV,ha,hb,hc]
theorem AoD {a b c d:IV} {x y z u:FV} (ha:Hd a=some x) (hb:Hd b=some y) (hc:Hd c=some z) (hd:Hd d=some u):A5 (.agg [a,b,c,d])=some (.agg [x,y,z,u]):=by
 show (if 4≤8 then (CV [a,b,c,d]).map FV.agg else none)=_
 simp [CV,ha,hb,hc,hd]
theorem AiI {v:IV} {x:FV} (d:Nat) (h:Hp) (lg:List Ref) (e:Option β) (k:FV→List (Ref×Blk)→List Ref→Option β) (hz:Hd v=some x):FG (d+1) v h lg e k=k x [] lg:=by
 cases v<;>first | (cases hz;rfl) | (cases hz)
theorem V0 (d:Nat) (h:Hp) (lg:List Ref) (e:Option β):∀(cs:List IV) (k:List FV→List (Ref×Blk)→List Ref→Option β) {xs:List FV},CV cs=some xs→Ea (FG (d+1)) cs h lg e k=k xs [] lg
 | [],k,xs,hz=>by cases hz;rfl
 | v::cs,k,xs,hz=>by
  simp only [CV] at hz;cases h1:Hd v with
  | none=>rw [h1] at hz;cases hz
  | some x =>
   rw [h1] at hz;cases h2:CV cs with
   | none=>rw [h2] at hz;cases hz
   | some ys =>
    rw [h2] at hz;cases hz
    show FG (d+1) v h lg e (fun y u lg=>Ea (FG (d+1)) cs h lg e fun ys us lg=>Qh u us fun w=>k (y::ys) w lg)=_
    rw [AiI d h lg e _ h1,V0 d h lg e cs _ h2];rfl
theorem OB {v:IV} {x:FV} (h:Hp) (lg:List Ref) (e:Option β) (k:FV→List (Ref×Blk)→List Ref→Option β) (hz:A5 v=some x):FG 12 v h lg e k=k x [] lg:=by
 cases v with
 | agg cs =>
  simp only [A5] at hz;split at hz
  ·rename_i hl;cases h2:CV cs with
   | none=>rw [h2] at hz;cases hz
   | some ys =>
    rw [h2] at hz;cases hz
    show cond (Nat.ble cs.length 300) (Ea (FG 11) cs h lg e fun cs u lg=>k (.agg cs) u lg) e=_
    rw [Bf,decide_eq_true (show cs.length≤300 by omega)]
    exact V0 10 h lg e cs _ h2
  ·cases hz
 | _=>exact AiI 11 h lg e k hz
theorem AoN {v:IV} {x:FV} (hz:A5 v=some x) (own:List (Nat×Blk)):Fz v own x:=⟨[],[],fun e K=>OB _ _ e K hz⟩
theorem Ba {v:IV} {x:FV} (hz:A5 v=some x) (own:List (Nat×Blk)):BY (some (v,⟨own,[]⟩)) x:=⟨v,own,rfl,.inl (AoN hz own)⟩
theorem fr1 {v:IV} {x:FV} (n:Nat) (hz:Hd v=some x):CN (n+1) v=.ret (x,[]):=by
 cases v<;>first | (cases hz;rfl) | (cases hz)
theorem WA:∀(cs:List IV) (n:Nat) {xs:List FV},cs.length+1<n→CV cs=some xs→frzL n cs=.ret (xs,[])
 | [],n+1,xs,_,hz=>by cases hz;rfl
 | v::cs,n+2,xs,hn,hz=>by
  simp only [CV] at hz;cases h1:Hd v with
  | none=>rw [h1] at hz;cases hz
  | some x =>
   rw [h1] at hz;cases h2:CV cs with
   | none=>rw [h2] at hz;cases hz
   | some ys =>
    rw [h2] at hz;cases hz;simp only [ArK] at hn;simp only [frzL,fr1 n h1,Rd.bind,WA cs (n+1) (by omega) h2];rfl
theorem frp {v:IV} {x:FV} (n:Nat) (hn:20<n) (hz:A5 v=some x):CN n v=.ret (x,[]):=by
 cases n with
 | zero=>omega
 | succ n =>
  cases v with
  | agg cs =>
   simp only [A5] at hz;split at hz
   ·rename_i hl;cases h2:CV cs with
    | none=>rw [h2] at hz;cases hz
    | some ys =>
     rw [h2] at hz;cases hz;simp only [CN,WA cs n (by omega) h2,Rd.bind]
   ·cases hz
  | _=>exact fr1 n hz
theorem AiK:∀(cs:List IV) (n:Nat) {xs:List FV},cs.length+30<n→BI cs=some xs→frzL n cs=.ret (xs,[])
 | [],n+1,xs,_,hz=>by cases hz;rfl
 | v::cs,n+1,xs,hn,hz=>by
  simp only [BI] at hz;cases h1:A5 v with
  | none=>rw [h1] at hz;cases hz
  | some x =>
   rw [h1] at hz;cases h2:BI cs with
   | none=>rw [h2] at hz;cases hz
   | some ys =>
    rw [h2] at hz;cases hz;simp only [ArK] at hn;simp only [frzL,frp n (by omega) h1,Rd.bind,AiK cs n (by omega) h2];rfl
theorem AW {vs:List IV} {xs:List FV} (hz:BI vs=some xs) (hl:vs.length≤100) (own:List (Nat×Blk)):BY (some (.tuple vs,⟨own,[]⟩)) (.tuple xs) :=
 ⟨_,own,rfl,.inr ⟨fun _ _=>rfl,[],by
  show (CN (4095+1) (.tuple vs)).run _=_
  simp only [CN,AiK vs 4095 (by omega) hz,Rd.bind];rfl⟩⟩
theorem AlD:BI []=some []:=rfl
theorem UG {a b:IV} {x y:FV} (ha:A5 a=some x) (hb:A5 b=some y):BI [a,b]=some [x,y]:=by simp [BI,ha,hb]
theorem Acl {a b c:IV} {x y z:FV} (ha:A5 a=some x) (hb:A5 b=some y) (hc:A5 c=some z):BI [a,b,c]=some [x,y,z]:=by simp [BI,ha,hb,hc]
theorem AnF {a b c d:IV} {x y z u:FV} (ha:A5 a=some x) (hb:A5 b=some y) (hc:A5 c=some z) (hd:A5 d=some u):BI [a,b,c,d]=some [x,y,z,u]:=by simp [BI,ha,hb,hc,hd]
theorem AkS {a:IV} {x:FV} (ha:A5 a=some x):BI [a]=some [x]:=by simp [BI,ha]
theorem MD:∀(args:List IV) {vs:List FV},BI args=some vs→Bl [] args=.ret (vs.map .fv,[],[])
 | [],vs,hz=>by cases hz;rfl
 | v::l,vs,hz=>by
  simp only [BI] at hz;cases h1:A5 v with
  | none=>rw [h1] at hz;cases hz
  | some x =>
   rw [h1] at hz;cases h2:BI l with
   | none=>rw [h2] at hz;cases hz
   | some ys =>
    rw [h2] at hz;cases hz;simp only [Bl,frp 4096 (by omega) h1,Rd.bind,MD l h2];rfl
theorem fz0 (keep:List Bool) (h:Hp) (lg:List Ref) (e:Option β) (k:List IV→List Ref→List (Ref×Blk)→List Ref→Option β):fzA [] keep h lg e k=k [] [] [] lg:=rfl
theorem Afa (x:IV) (l:List IV) (ks:List Bool) (h:Hp) (lg:List Ref) (e:Option β) (k:List IV→List Ref→List (Ref×Blk)→List Ref→Option β) :
  fzA (x::l) (true::ks) h lg e k=EJ x (fun r o=>fzA l ks h lg e fun vs rs us lg=>k (.ptr r o::vs) (r::rs) us lg) fun _ _=>e:=rfl
theorem UX (x:IV) (l:List IV) (ks:List Bool) (h:Hp) (lg:List Ref) (e:Option β) (k:List IV→List Ref→List (Ref×Blk)→List Ref→Option β) :
  fzA (x::l) (false::ks) h lg e k=FG 12 x h lg e fun y u lg=>fzA l ks h lg e fun vs rs us lg=>Qh u us fun w=>k (.fv y::vs) rs w lg:=rfl
section
variable (d:Nat) (h:Hp) (lg:List Ref) (e:Option β) (k:FV→List (Ref×Blk)→List Ref→Option β)
theorem Als (cs:List IV):FG 12 (.agg cs) h lg e k=cond (Nat.ble cs.length 300) (Ea (FG 11) cs h lg e fun cs u lg=>k (.agg cs) u lg) e:=rfl
theorem T7 (s:Nat) (off:Nat):FG 12 (.ptr (.own s) off) h lg e k=Dq (.own s) h fun b=>EO b fun cells=>cond (Nat.ble cells.length 300) (Ea (FG 11) cells h (.own s::lg) e fun cs u lg=>k (.fp cs off) ((.own s,.row cells true)::u) lg) e:=rfl
theorem Ly (v:FV):FG 11 (.fv v) h lg e k=k v [] lg:=rfl
theorem fl0 (g:FzK β) (k:List FV→List (Ref×Blk)→List Ref→Option β):Ea g [] h lg e k=k [] [] lg:=rfl
theorem fl1 (g:FzK β) (x:IV) (l:List IV) (k:List FV→List (Ref×Blk)→List Ref→Option β):Ea g (x::l) h lg e k=g x h lg e fun y u lg=>Ea g l h lg e fun ys us lg=>Qh u us fun w=>k (y::ys) w lg:=rfl
end
def AcL (rs:List Ref) (r:Option (IV×Hp)) (h:Hp) (u:List (Ref×Blk)) (lg:List Ref) (e:Option (IV×Hp)) (g:List Ref→Option (IV×Hp)) (k:IV→Hp→List Ref→List Ref→Option (IV×Hp)):Option (IV×Hp):=match rs with
 | []=>(match r with
  | none=>none
  | some p=>match p with
   | (v,h')=>match h' with
    | ⟨own,ext⟩=>List.casesOn (motive:=fun _=>Option (IV×Hp)) ext (FG 12 v ⟨own,[]⟩ [] e fun w _ _=>MJ u h fun h2=>k (.fv w) h2 lg (Bo u)) fun _ _=>none)
 | r::rs=>g (r::rs)
theorem OG (keep:List Bool) (ih:Aa) (f:FuncId) (args:List IV) (h:Hp) (k:IV→Hp→List Ref→List Ref→Option (IV×Hp)):Aj keep false false ih f args h k =
  fzA args keep h [] (Gq keep false false ih f args h k) fun vs rs u lg=>AcL rs (ih f vs ⟨[],[]⟩) h u lg (Gq keep false false ih f args h k) (fun rs=>match rs with
   | []=>none
   | r::rs=>(match h with
    | ⟨own,ext⟩=>cond (Og 400 (r::rs) 0 ext) (match ih f vs ⟨[],ext⟩ with
     | none=>none
     | some p=>match p with
      | (v,h')=>match h' with
       | ⟨own',ext'⟩=>cond (and (Nat.beq ext'.length ext.length) (okB ext.length ext'))
        (FG 12 v ⟨own',ext'⟩ [] (Gq keep false false ih f args h k) fun w _ _=>MJ u ⟨own,ext'⟩ fun h2=>k (.fv w) h2 ((CE ext.length).reverse++lg) (Bo u++CE ext.length)) none)
     (Gq keep false false ih f args h k))) k:=by
 unfold Aj;simp only [cond_false];congr 1
theorem AdO:∀(args:List IV) {vs:List FV} (h:Hp) (lg:List Ref) (e:Option β) (k:List IV→List Ref→List (Ref×Blk)→List Ref→Option β),BI args=some vs→fzA args [] h lg e k=k (vs.map .fv) [] [] lg
 | [],vs,h,lg,e,k,hz=>by cases hz;rfl
 | v::l,vs,h,lg,e,k,hz=>by
  simp only [BI] at hz;cases h1:A5 v with
  | none=>rw [h1] at hz;cases hz
  | some x =>
   rw [h1] at hz;cases h2:BI l with
   | none=>rw [h2] at hz;cases hz
   | some ys =>
    rw [h2] at hz;cases hz
    show FG 12 v h lg e (fun y u lg=>fzA l [] h lg e fun vs rs us lg=>Qh u us fun w=>k (.fv y::vs) rs w lg)=_
    rw [OB h lg e _ h1,AdO l h lg e _ h2];rfl
theorem H5 (f:Ref→Option Ref):∀l:List FV,IV.ren.renL f (l.map .fv)=some (l.map .fv)
 | []=>rfl
 | v::l=>by
  simp only [ArM,IV.ren.renL,IV.ren,H5 f l];rfl
theorem Tb {ih:Aa} {f:FuncId} {args:List IV} {vs:List FV} {w:FV} (hz:BI args=some vs) (hr:BY (ih f (vs.map .fv) ⟨[],[]⟩) w) (h:Hp) (k:IV→Hp→List Ref→List Ref→Option (IV×Hp)) :
  Aj [] false false ih f args h k=k (.fv w) h [] []:=by
 obtain ⟨v,own,e,hv⟩:=hr;have hD:(∃u,(CN 4096 v).run ⟨own,[]⟩=some (w,u))→Gq [] false false ih f args h k=k (.fv w) h [] []:=by
  rintro ⟨u,hu⟩;unfold Gq;simp only [MD args hz,Rd.runLog,B8,H5,ArL,A3,EK (Cs 3),EK CT,Lc,Bool.false_eq_true,if_false,e,hu,ArJ,IV.ren]
  show (match laid h ([]++(Bo []).zip []) with | none=>none | some h'=>fH h' fun h'=>fV 3 (.fv w) fun res=>k res h' [] _)=_
  simp only [Bo,ArL,List.zip_nil_left,List.append_nil,laid,MQ,Cs]
 rw [OG,AdO args h [] _ _ hz,e];simp only [AcL];rcases hv with ⟨u',lg',hf⟩ | ⟨hf,hu⟩
 ·rw [hf];rfl
 ·rw [hf];exact hD hu
theorem Bu {ih:Aa} {f:FuncId} {w:FV} (hr:BY (ih f [] ⟨[],[]⟩) w) (h:Hp) (k:IV→Hp→List Ref→List Ref→Option (IV×Hp)) :
  Aj [] false false ih f [] h k=k (.fv w) h [] []:=Tb (vs:=[]) rfl hr h k
theorem An {ih:Aa} {f:FuncId} {a:IV} {x w:FV} (hr:BY (ih f [.fv x] ⟨[],[]⟩) w) (ha:A5 a=some x) (h:Hp) (k:IV→Hp→List Ref→List Ref→Option (IV×Hp)) :
  Aj [] false false ih f [a] h k=k (.fv w) h [] []:=Tb (AkS ha) hr h k
theorem Ag {ih:Aa} {f:FuncId} {a b:IV} {x y w:FV} (hr:BY (ih f [.fv x,.fv y] ⟨[],[]⟩) w) (ha:A5 a=some x) (hb:A5 b=some y) (h:Hp) (k:IV→Hp→List Ref→List Ref→Option (IV×Hp)) :
  Aj [] false false ih f [a,b] h k=k (.fv w) h [] []:=Tb (UG ha hb) hr h k
theorem AH {ih:Aa} {f:FuncId} {a b c:IV} {x y z w:FV} (hr:BY (ih f [.fv x,.fv y,.fv z] ⟨[],[]⟩) w) (ha:A5 a=some x) (hb:A5 b=some y) (hc:A5 c=some z) (h:Hp) (k:IV→Hp→List Ref→List Ref→Option (IV×Hp)) :
  Aj [] false false ih f [a,b,c] h k=k (.fv w) h [] []:=Tb (Acl ha hb hc) hr h k
theorem Aw {ih:Aa} {f:FuncId} {a b c d:IV} {x y z u w:FV} (hr:BY (ih f [.fv x,.fv y,.fv z,.fv u] ⟨[],[]⟩) w) (ha:A5 a=some x) (hb:A5 b=some y) (hc:A5 c=some z) (hd:A5 d=some u) (h:Hp)
  (k:IV→Hp→List Ref→List Ref→Option (IV×Hp)):Aj [] false false ih f [a,b,c,d] h k=k (.fv w) h [] []:=Tb (AnF ha hb hc hd) hr h k
theorem Ke (v:IV) (s:Nat) (h:Hp) (k:IV→Hp→List Ref→List Ref→Option β):Ay (.ret { eff:={ val:=v } }) s h k=k v h [] []:=by
 unfold Ay;simp only [Rd.runLog,Ij,Cs];rfl
theorem gen_val' (v:IV) (s:Nat) (h:Hp) (k:IV→Hp→List Ref→List Ref→Option β):Ay (Idl.val v) s h k=k v h [] []:=Ke v s h k
theorem Cn {e:TypeId} {a b:Nat} {ei:TI} {z:List IV} (hT:E.T t=some ⟨a,b,.slice e,z⟩) (he:E.T e=some ei) {len:Nat} (hs:¬ (ei.size=0∨len * ei.size > 65536)) {parts:List (Nat×IV)} {cells:List FV}
  (hf:Cr (fun j=>some (j * ei.size,ei.size)) (N7 len ei.zero) parts=some (cells.map .fv)) {s:Nat} {h:Hp} (k:IV→Hp→List Ref→List Ref→Option β) (hc:cells.length<65000:=by simp) :
  Ay (Ah E t len parts) s h k=k (.clip (BG ei.size len cells)) h [] []:=by
 have key:∀(l:List FV) (n:Nat),l.length<n→frzL n (l.map .fv)=.ret (l,[]):=by
  intro l
  induction l with
  | nil=>intro n hn;cases n with
   | zero=>simp at hn
   | succ n=>rfl
  | cons x l ih=>intro n hn;cases n with
   | zero=>simp at hn
   | succ n =>
    simp only [ArK] at hn;cases n with
    | zero=>omega
    | succ n =>
     simp only [ArM,frzL,CN,Rd.bind];rw [ih (n+1) (by omega)];rfl
 have:Ah E t len parts=.ret { eff:={ val:=.clip (BG ei.size len cells),upd:=[] } }:=by
  simp only [Ah,hT,he,if_neg hs,hf];rw [key _ _ (by omega)];rfl
 rw [this,Ke]
end
end Idl
end Go.Proofs.Ytbkdidonegggdaa
namespace Go.Proofs.Ytbkdidonegggdaa
namespace Idl
def XY:=ArF @decide_true<|ArF @decide_false<|ArF @Bool.not_true<|ArF @Bool.not_false<|ArF @List.map_cons.{0,0}<|ArF @List.map_nil.{0,0}<|ArF @List.length_map.{0,0}<|ArF @List.length_cons.{0}<|ArF @List.length_nil.{0}<|ArF @Int.natCast_zero<|ArF @Int.natCast_one<|ArF @Bool.false_eq_true<|ArF @Bool.true_eq_false<|ArF @decide_eq_true_eq<|ArF @eq_self.{1}<|ArF @Bool.and_true<|ArF @Bool.true_and<|ArF @Bool.and_false<|ArF @Bool.false_and<|ArF @Nat.zero_add<|@Int.cast_ofNat_Int
def XE:=ArF @List.any_cons.{0}<|ArF @List.any_nil.{0}<|ArF @List.all_cons.{0}<|ArF @List.all_nil.{0}<|ArF @List.filter_cons.{0}<|ArF @List.filter_nil.{0}<|ArF @List.contains_cons.{0}<|ArF @List.contains_nil.{0}<|ArF @Bool.or_false<|ArF @Bool.or_true<|ArF @Bool.false_or<|ArF @Bool.true_or<|ArF @Bool.and_self<|ArF @Bool.not_eq_true<|ArF @BEq.rfl.{0}<|@beq_self_eq_true.{0}
def XX:=ArF @n0<|ArF @n1<|ArF @n2<|ArF @n3<|ArF @n4<|ArF @n5<|ArF @n6<|ArF @d0<|ArF @d1<|ArF @d2<|ArF @d3<|ArF @d4<|ArF @t1<|ArF @t2<|ArF @t3<|ArF @t4<|ArF @t7<|ArF @ap0<|ArF @ap1<|ArF @Ame<|ArF @c_t<|ArF @c_f<|ArF @My<|ArF @AnU<|ArF @Aic<|ArF @Ak1<|ArF @An0<|ArF @AiH<|ArF @AlB<|ArF @AnV<|ArF @Ak4<|ArF @AbJ<|ArF @Ahd<|ArF @sn0<|ArF @Ang<|ArF @Am6<|ArF @Aoc<|ArF @AmP<|ArF @AmY<|ArF @Sy<|ArF @AgT<|ArF @AkT<|ArF @Agp<|ArF @Anw<|ArF @AnH<|ArF @AgB<|ArF @Ah1<|ArF @Ag4<|ArF @AiU<|ArF @Alz<|ArF @AlF<|ArF @AhQ<|ArF @Alg<|ArF @Ajj<|ArF @AgH<|ArF @AlS<|ArF @Ahx<|ArF @Anc<|ArF @Am1<|ArF @Ag3<|ArF @AlW<|ArF @Ahz<|ArF @Ta<|ArF @Uc<|ArF @AoV<|ArF @Le<|ArF @WG<|ArF @Aeb<|ArF @Um<|ArF @AkC<|ArF @Aly<|ArF @Alx<|ArF @Aja<|ArF @Ajg<|ArF @AjK<|ArF @Ajq<|ArF @AmD<|ArF @AjM<|ArF @AgU<|ArF @AjC<|ArF @AfT<|ArF @AhG<|ArF @Aeh<|ArF @Ahu<|ArF @Agn<|ArF @Ahb<|ArF @AfB<|ArF @AnC<|ArF @Am9<|ArF @Apt<|ArF @Ao0<|ArF @Aj2<|ArF @AkK<|ArF @wr0<|ArF @wr1<|ArF @sf0<|ArF @sf1<|ArF @sf2<|ArF @sf3<|ArF @sf4<|ArF @of0<|ArF @of1<|ArF @of2<|ArF @of3<|ArF @of6<|ArF @Ao7<|ArF @Ada<|ArF @Apw<|ArF @sc3<|ArF @Apf<|ArF @Apk<|ArF @An5<|ArF @AmC<|ArF @Anm<|ArF @Afy<|ArF @Apd<|ArF @ApD<|ArF @Aow<|ArF @AoK<|ArF @Anb<|ArF @fk0<|ArF @fk1<|ArF @Ajh<|ArF @Ak0<|ArF @nb3<|ArF @nb4<|ArF @nb7<|ArF @nl3<|ArF @AjF<|ArF @AnQ<|ArF @Amo<|ArF @Anx<|ArF @AdU<|ArF @Oz<|ArF @AoP<|ArF @Apv<|ArF @AoG<|ArF @AoO<|ArF @AoM<|ArF @AoF<|ArF @Aod<|ArF @AmF<|ArF @Apu<|ArF @Aoz<|ArF @Ao1<|ArF @Ao8<|ArF @AoS<|ArF @Ao2<|ArF @Amw<|ArF @Am4<|ArF @AnL<|ArF @Anr<|ArF @AoY<|ArF @ch0<|ArF @ch1<|ArF @dj0<|ArF @djn<|ArF @dj1<|ArF @an0<|ArF @an1<|ArF @AoW<|ArF @Anh<|ArF @AnJ<|ArF @Aoy<|ArF @Ao4<|ArF @AoE<|ArF @Apa<|ArF @Aot<|ArF @Amt<|ArF @Am3<|ArF @Am8<|ArF @AnE<|ArF @Ams<|ArF @Bx<|ArF @Apb<|ArF @Aph<|ArF @ApB<|ArF @Ah4<|ArF @Agv<|ArF @Ag9<|ArF @Ahl<|ArF @Aof<|ArF @AhD<|ArF @Ak2<|ArF @Agr<|ArF @Ala<|ArF @Ane<|ArF @Ag2<|ArF @AjP<|ArF @AhE<|ArF @Akh<|ArF @Aov<|ArF @AoD<|ArF @AlD<|ArF @UG<|ArF @Acl<|ArF @AnF<|ArF @AkS<|ArF @Ke<|@gen_val'
def Ev (f:FuncId) (args:List IV) (w:FV):Prop:=∃N,∀n,N≤n→BY (SS dt n f args ⟨[],[]⟩) w
theorem A7 {F:(List IV→Hp→Option (IV×Hp))→List IV→Hp→Option (IV×Hp)} {Q:Option (IV×Hp)→Prop} (P:Nat→List IV→Hp→Prop)
  (step:∀k V H rec,P k V H→(∀k' V' H',k' < k→P k' V' H'→Q (rec V' H'))→Q (F rec V H)):∀m k V H,k<m→P k V H→Q (BK m F V H):=by
 intro m
 induction m with
 | zero=>intro k V H h;omega
 | succ m ih=>intro k V H hk hP;exact step k V H (BK m F) hP fun k' V' H' h1 h2=>ih k' V' H' (by omega) h2
mutual
def Tm.wt:Tm→Nat
 | .mk _ _ l=>1+Tm.wtL l
def Tm.wtL:List Tm→Nat
 | []=>0
 | t::l=>t.wt+Tm.wtL l
end
theorem C7 {t:Tm}:∀{l:List Tm},t∈l→t.wt≤Tm.wtL l
 | a::l,h=>by
  rcases List.mem_cons.1 h with rfl | h
  ·simp only [Tm.wtL];omega
  ·have:=C7 h;simp only [Tm.wtL];omega
theorem Fr:∀(l:List Tm),l.length≤Tm.wtL l
 | []=>Nat.zero_le _
 | (.mk _ _ k)::l=>by have:=Fr l;simp only [Tm.wtL,Tm.wt,ArK];omega
theorem Jk (t:Tm):0<t.wt:=by cases t;simp only [Tm.wt];omega
theorem Am (op n:Int) (l:List Tm):(Tm.mk op n l).enc=.agg [.int .i64 op,.int .i64 n,.sl (l.map Tm.enc)]:=by simp only [Tm.enc,AaP]
theorem AR {l:List Tm} {i:Nat} {op n:Int} {k:List Tm} (h:l[i]?=some (.mk op n k)):(l.map Tm.enc)[i]?=some (.agg [.int .i64 op,.int .i64 n,.sl (k.map Tm.enc)]):=by
 rw [List.getElem?_map,h,ArJ,Am]
theorem CF {α:Type} {l pre rest:List α} {a:α} (h:l=pre++a::rest):l[pre.length]?=some a:=by
 rw [h,List.getElem?_append_right (Nat.le_refl _),Nat.sub_self];rfl
theorem Ce (a b c:FV):(FV.agg [a,b,c]).cells=[a,b,c]:=rfl
theorem Bh (a b c:FV):(FV.agg [a,b,c]).cells.length=3:=rfl
section
variable {β:Type} {E:Env}
def Ae3 (b:Blk) (n sz:Nat) (x:Option β):Option β:=match b with
 | .tok a s=>if a=n∧s=sz then x else none
 | _=>none
theorem HL (n sz:Nat) (x:Option β):Ae3 (.tok n sz) n sz x=x:=by
 show (if n=n∧sz=sz then x else none)=x
 rw [if_pos ⟨rfl,rfl⟩]
inductive Plain2:IV→List FV→Prop
 | clip (es:List FV):Plain2 (.clip es) es
 | sl (es:List FV):Plain2 (.fv (.sl es)) es
 | app (r:Ref) (es:List FV):Plain2 (.app r es) es
theorem UY {x:IV} {es:List FV} (h:Plain2 x es):CN 4096 x=.ret (.sl es,[]):=by cases h<;>rfl
structure SliceT (E:Env) (t:TypeId) (size:Nat):Prop where
 h:∃a b e z ei,E.T t=some ⟨a,b,.slice e,z⟩∧E.T e=some ei∧ei.size=size∧size≠0∧ei.bytes≤100000
theorem LC {t:TypeId} {size:Nat} (T:SliceT E t size) {x:IV} {es2:List FV} (hx:Plain2 x es2) (h1:Bv size es2=true) (hne:es2.isEmpty=false) (hb:es2.length≤1000000) {s0:IV} (hs:s0=.nils∨s0=.clip []) (s:Nat) (own:List (Nat×Blk)) (ext:List Blk)
  (k:IV→Hp→List Ref→List Ref→Option β):Ay (AU E s false .append [t,t] [s0,x]) s ⟨own,ext⟩ k=CG own s (A1 own s (.tok es2.length size) fun own=>k (.app (.own s) es2) ⟨own,ext⟩ [] [.own s]):=by
 obtain ⟨a,b,e,z,ei,hT,he,rfl,h0,hby⟩:=T.h;have hlen:¬ (Bv ei.size []=false∨(([]:List FV).length+es2.length) * ei.bytes > 140737488355328∨([]:List FV).length+es2.length > 1073741824):=by
  have:es2.length * ei.bytes≤1000000 * 100000:=Nat.mul_le_mul hb hby
  rintro (h | h | h)
  ·cases h
  ·simp only [List.length_nil,Nat.zero_add] at h;omega
  ·simp only [List.length_nil,Nat.zero_add] at h;omega
 have key:AU E s false .append [t,t] [s0,x]=.ret { eff:={ val:=.app (.own s) es2,upd:=[] },new:=some (.tok es2.length ei.size) }:=by
  show EZ E s t (some t) false s0 x=_
  simp only [EZ,hT,Option.bind_some,he,UY hx,Rd.bind,h0,h1,false_or,Bool.true_eq_false,if_false];rcases hs with rfl | rfl<;>simp only [B5,if_neg hlen,hne,List.nil_append,Bool.false_eq_true,if_false]
 rw [key];unfold Ay;simp only [Rd.runLog]
 show (I7 (some (.tok es2.length ei.size)) s ⟨own,ext⟩ fun h=>fV 3 (.app (.own s) es2) fun v=>k v h [] ([]++[.own s]))=_
 simp only [I7,CT,Cs];rfl
theorem Aiy {t:TypeId} {size:Nat} (T:SliceT E t size) {x:IV} (hx:Plain2 x []) {s0:IV} (hs:s0=.nils∨s0=.clip []) (s:Nat) (h:Hp) (k:IV→Hp→List Ref→List Ref→Option β) :
  Ay (AU E s false .append [t,t] [s0,x]) s h k=k s0 h [] []:=by
 obtain ⟨a,b,e,z,ei,hT,he,rfl,h0,hby⟩:=T.h;have hlen:¬ (Bv ei.size []=false∨(([]:List FV).length+([]:List FV).length) * ei.bytes > 140737488355328∨([]:List FV).length+([]:List FV).length > 1073741824):=by
  rintro (h | h | h)
  ·cases h
  ·simp at h
  ·simp at h
 have key:AU E s false .append [t,t] [s0,x]=.ret { eff:={ val:=s0,upd:=[] } }:=by
  show EZ E s t (some t) false s0 x=_
  have h1:Bv ei.size []=true:=rfl;simp only [EZ,hT,Option.bind_some,he,UY hx,Rd.bind,h0,h1,false_or,Bool.true_eq_false,if_false];rcases hs with rfl | rfl
  ·simp only [B5];rw [if_neg hlen];simp
  ·simp only [B5];rw [if_neg hlen];simp
 rw [key];exact Ke s0 s h k
theorem Sv {t:TypeId} {size:Nat} (T:SliceT E t size) {x:IV} {es es2:List FV} (hx:Plain2 x es2) (h1:Bv size es2=true) (h2:Bv size es=true) (ho:(es2.all fun e=>e.cells.all FV.one)=true) (hb:es.length+es2.length≤1000000) (r s:Nat)
  (own:List (Nat×Blk)) (ext:List Blk) (k:IV→Hp→List Ref→List Ref→Option β):Ay (AU E s false .append [t,t] [.app (.own r) es,x]) s ⟨own,ext⟩ k =
   Gx own r fun b=>Ae3 b es.length size (A1 own r (.tok (es.length+es2.length) size) fun own=>k (.app (.own r) (es++es2)) ⟨own,ext⟩ [.own r] [.own r]):=by
 obtain ⟨a,b,e,z,ei,hT,he,rfl,h0,hby⟩:=T.h;have hlen:¬ (Bv ei.size es=false∨(es.length+es2.length) * ei.bytes > 140737488355328∨es.length+es2.length > 1073741824):=by
  have:(es.length+es2.length) * ei.bytes≤1000000 * 100000:=Nat.mul_le_mul hb hby
  rintro (h | h | h)
  ·rw [h2] at h;cases h
  ·omega
  ·omega
 have key:(AU E s false .append [t,t] [.app (.own r) es,x]).runLog ⟨own,ext⟩ []=(Ar r own).bind fun b=>match b with
   | .tok n sz=>if n=es.length∧sz=ei.size then some ({ eff:={ val:=.app (.own r) (es++es2),upd:=[(.own r,.tok (n+es2.length) sz)] } },[.own r]) else none
   | _=>none:=by
  show (EZ E s t (some t) false (.app (.own r) es) x).runLog _ _=_
  simp only [EZ,hT,Option.bind_some,he,UY hx,Rd.bind,h0,h1,false_or,Bool.true_eq_false,if_false,B5,if_neg hlen,Rd.runLog,ho,and_true]
  show (match Ar r own with | some b=>_ | none=>none)=_
  cases Ar r own with
  | none=>rfl
  | some b =>
   cases b with
   | tok n sz =>
    simp only [Option.bind_some];by_cases hc:n=es.length∧sz=ei.size
    ·rw [if_pos hc,if_pos hc];rfl
    ·rw [if_neg hc,if_neg hc];rfl
   | _=>rfl
 unfold Ay;rw [key,BE];cases hl:Ar r own with
 | none=>simp
 | some b =>
  simp only [Option.bind_some];cases b with
  | tok n sz =>
   simp only [Ae3];by_cases hc:n=es.length∧sz=ei.size
   ·rw [if_pos hc,if_pos hc];obtain ⟨rfl,rfl⟩:=hc
    show (fRf (.own r) fun q=>Dq q ⟨own,ext⟩ fun _=>fBk (.tok (es.length+es2.length) ei.size) fun b=>FI q b ⟨own,ext⟩ fun h=>I7 none s h fun h=>fV 3 (.app (.own r) (es++es2)) fun v=>k v h [.own r] ([.own r]++[]))=_
    simp only [Nt,CT,Cs,I7,FI,Dq];rw [BE,hl];rfl
   ·rw [if_neg hc,if_neg hc]
  | row _ _=>rfl
  | map _=>rfl
end
end Idl
end Go.Proofs.Ytbkdidonegggdaa
namespace Go.Proofs.Ytbkdidonegggdaa
namespace Idl
theorem S4:EE.T 29=some ⟨1,24,.slice 31,[.nils]⟩:=by kernel_rfl
theorem tTm:EE.T 31=some ⟨3,40,.struct [(0,3),(1,3),(2,29)],[.fv (.int .i64 0),.fv (.int .i64 0),.nils]⟩:=by kernel_rfl
theorem sTm:SliceT EE 29 3:=⟨_,_,_,_,_,S4,tTm,rfl,by decide,by decide⟩
theorem Jc (a:Tm) (s:Nat) (h:Hp) (k:IV→Hp→List Ref→List Ref→Option (IV×Hp)):Ay (Ah EE 29 1 [(0,.fv a.enc)]) s h k=k (.clip [a.enc]) h [] []:=by
 obtain ⟨o1,n1,k1⟩:=a;exact Cn S4 tTm (by decide) (cells:=[.int .i64 o1,.int .i64 n1,.sl (Tm.enc.encL k1)]) rfl k
theorem Ajk (a b:Tm) (s:Nat) (h:Hp) (k:IV→Hp→List Ref→List Ref→Option (IV×Hp)):Ay (Ah EE 29 2 [(0,.fv a.enc),(1,.fv b.enc)]) s h k=k (.clip [a.enc,b.enc]) h [] []:=by
 obtain ⟨o1,n1,k1⟩:=a;obtain ⟨o2,n2,k2⟩:=b;exact Cn S4 tTm (by decide) (cells:=[.int .i64 o1,.int .i64 n1,.sl (Tm.enc.encL k1),.int .i64 o2,.int .i64 n2,.sl (Tm.enc.encL k2)]) rfl k
theorem Ah7 (a:Tm):a.enc.cells.length=3:=by cases a;rfl
theorem Ah9 (a:Tm):a.enc.cells.all FV.one=true:=by cases a;rfl
theorem Ri (l:List Tm):Bv 3 (l.map Tm.enc)=true:=by
 cases l with
 | nil=>rfl
 | cons a l=>simp only [ArM,Bv,Ah7,beq_self_eq_true]
theorem Qn (e:Tm) (s:Nat) (own:List (Nat×Blk)) (ext:List Blk) (k:IV→Hp→List Ref→List Ref→Option (IV×Hp)) :
  Ay (AU EE s false .append [29,29] [.nils,.clip [e.enc]]) s ⟨own,ext⟩ k=CG own s (A1 own s (.tok 1 3) fun own=>k (.app (.own s) [e.enc]) ⟨own,ext⟩ [] [.own s]) :=
 LC sTm (.clip _) (Ri [e]) rfl (by simp) (.inl rfl) s own ext k
theorem Mk {es:List Tm} (hb:es.length+1≤1000000) (e:Tm) (r s:Nat) (own:List (Nat×Blk)) (ext:List Blk) (k:IV→Hp→List Ref→List Ref→Option (IV×Hp)) :
  Ay (AU EE s false .append [29,29] [.app (.own r) (es.map Tm.enc),.clip [e.enc]]) s ⟨own,ext⟩ k =
   Gx own r fun b=>Ae3 b es.length 3 (A1 own r (.tok (es.length+1) 3) fun own=>k (.app (.own r) ((es++[e]).map Tm.enc)) ⟨own,ext⟩ [.own r] [.own r]):=by
 rw [Sv sTm (.clip [e.enc]) (Ri [e]) (Ri es) (by simp [Ah9]) (by simpa using hb) r s own ext k];simp only [List.length_map,List.map_append,ArM,ArL,ArK,List.length_nil,Nat.zero_add]
theorem Ai5 {x m:Int} (h1:0<m) (h2:m≤4611686018427387904):(if x.tmod m<0 then BN (x.tmod m+m) else x.tmod m)=x % m:=by
 have a1:=Int.emod_nonneg x (show m≠0 by omega)
 have a2:=Int.emod_lt_of_pos x h1;have e1:x.tmod m=x - m * x.tdiv m:=by have:=Int.mul_tdiv_add_tmod x m;omega
 have e2:x % m=x - m * (x / m):=by have:=Int.mul_ediv_add_emod x m;omega
 have b1:-m<x.tmod m:=Int.lt_tmod_of_pos x h1;have b2:x.tmod m<m:=Int.tmod_lt_of_pos x h1;have key:∃q,x.tmod m=x % m+m * q:=⟨x / m - x.tdiv m,by rw [e1,e2,Int.mul_sub];omega⟩;obtain ⟨q,hq⟩:=key;have hq2:q=0∨q=-1:=by
  rcases Int.lt_trichotomy q 0 with h | h | h
  ·right;rcases Int.lt_trichotomy q (-1) with h' | h' | h'
   ·have:m * q≤m * (-2):=Int.mul_le_mul_of_nonneg_left (by omega) (by omega)
    omega
   ·exact h'
   ·omega
  ·exact .inl h
  ·have:m * 1≤m * q:=Int.mul_le_mul_of_nonneg_left (by omega) (by omega)
   omega
 rcases hq2 with rfl | rfl
 ·rw [if_neg (by omega)];omega
 ·rw [if_pos (by omega),Au (by omega) (by omega)];omega
theorem As {n:Nat} (hn:0<n) (x:Int) {m:Int} (h1:0<m) (h2:m≤4611686018427387904):BY (SS dt n 55 [iv x,iv m] ⟨[],[]⟩) (.int .i64 (x % m)):=by
 obtain ⟨n,rfl⟩:=Nat.exists_eq_add_of_lt hn;rw [Nat.zero_add,c55];simp only [S55,↓XX,XY,↓reduceIte,Nat.reduceBEq,Nat.reduceAdd,Int.reduceEq,Int.reduceLT,Int.reduceLE,↓Oz (show m≠0 by omega)]
 rw [← Ai5 h1 h2];by_cases hc:x.tmod m<0<;>simp only [hc,if_true,if_false]<;>exact Ap _ _
theorem DS {n:Nat} (hn:0<n) (op:Int):BY (SS dt n 27 [iv op,.fv (.sl [])] ⟨[],[]⟩) (Tm.mk op 0 []).enc:=by
 obtain ⟨n,rfl⟩:=Nat.exists_eq_add_of_lt hn;rw [Nat.zero_add,c27];simp only [S27,↓XX,XY,↓reduceIte,Nat.reduceBEq,Nat.reduceAdd,Int.reduceEq,Int.reduceLT,Int.reduceLE];exact Ap _ _
theorem C0 {n:Nat} (hn:0<n) (op:Int) (l:List Tm):BY (SS dt n 27 [iv op,.fv (.sl (l.map Tm.enc))] ⟨[],[]⟩) (Tm.mk op 0 l).enc:=by
 obtain ⟨n,rfl⟩:=Nat.exists_eq_add_of_lt hn;rw [Nat.zero_add,c27];simp only [S27,↓XX,XY,↓reduceIte,Nat.reduceBEq,Nat.reduceAdd,Int.reduceEq,Int.reduceLT,Int.reduceLE,Am];exact Ap _ _
def Tm.kids:Tm→List Tm
 | .mk _ _ l=>l
def Tm.op:Tm→Int
 | .mk o _ _=>o
def Tm.n:Tm→Int
 | .mk _ n _=>n
def Tm.pick (r:Tm) (i:Nat):Tm:=match r.kids[i]? with
 | some k=>k
 | none=>.mk (BN (BN (r.op.tdiv 3)+i)) (BN (BN (r.n.tdiv 5)+BN (7 * i))) []
theorem AK {n:Nat} (hn:0<n) (r:Tm) (i:Nat):BY (SS dt n 58 [.fv r.enc,iv i] ⟨[],[]⟩) (r.pick i).enc:=by
 obtain ⟨n,rfl⟩:=Nat.exists_eq_add_of_lt hn;rw [Nat.zero_add,c58];obtain ⟨op,m,ks⟩:=r;rw [Am];simp only [Tm.pick,Tm.kids,Tm.op,Tm.n];cases hk:ks[i]? with
 | some k =>
  have hi:(i:Int)<ks.length:=by have:=(List.getElem?_eq_some_iff.1 hk).1;omega
  obtain ⟨o,p,l⟩:=k;simp only [UV,Ui,UU,TL,S58,↓XX,XY,↓reduceIte,Nat.reduceBEq,Nat.reduceAdd,Int.reduceEq,Int.reduceLT,Int.reduceLE,hi,↓Bx (AR hk) (Bh _ _ _),↓Ce,Am];exact Ap _ _
 | none =>
  have hi:¬ (i:Int)<ks.length:=by have:=List.getElem?_eq_none_iff.1 hk;omega
  simp only [UV,Ui,UU,TL,S58,↓XX,XY,↓reduceIte,Nat.reduceBEq,Nat.reduceAdd,Int.reduceEq,Int.reduceLT,Int.reduceLE,hi,↓AdU (show (3:Int)≠0 by decide),↓AdU (show (5:Int)≠0 by decide)]
  exact Ba rfl _
section
variable {β:Type}
def B7 (s:Nat):IV→Bool
 | .ptr (.own j) _=>s == j
 | .slc (.own j) _ _=>s == j
 | .app (.own j) _=>s == j
 | .mapr (.own j)=>s == j
 | _=>false
def Fg:IV→Bool
 | .agg _ | .tuple _ | .func ..=>false
 | _=>true
def Fj (s:Nat):Blk→Bool
 | .row cells _=>cells.any (B7 s)
 | _=>false
def Tu:Blk→Bool
 | .row cells _=>cells.all Fg
 | .tok ..=>true
 | .map _=>false
theorem Ace {v:IV} (h:Fg v=true) (s:Nat):(Ref.own s∈v.refs) ↔ B7 s v=true:=by
 cases v with
 | ptr r o=>cases r<;>simp [IV.refs,B7]
 | slc r a b=>cases r<;>simp [IV.refs,B7]
 | app r es=>cases r<;>simp [IV.refs,B7]
 | mapr r=>cases r<;>simp [IV.refs,B7]
 | agg _=>cases h
 | tuple _=>cases h
 | func _ _ _=>cases h
 | _=>simp [IV.refs,B7]
theorem Jj:∀{l:List IV},l.all Fg=true→∀s,(Ref.own s∈IV.refs.refsL l) ↔ l.any (B7 s)=true
 | [],_,s=>by simp [IV.refs.refsL]
 | v::l,h,s=>by
  rw [List.all_cons,Bool.and_eq_true] at h;rw [IV.refs.refsL,List.mem_append,List.any_cons,Bool.or_eq_true,Ace h.1,Jj h.2]
theorem DZ {b:Blk} (h:Tu b=true) (s:Nat):(Ref.own s∈b.refs) ↔ Fj s b=true:=by
 cases b with
 | row cells ro=>exact Jj h s
 | tok n sz=>simp [Blk.refs,Fj]
 | map es=>cases h
theorem Ig (s:Nat):∀l:List Ref,anyIn [s] l=true ↔ Ref.own s∈l
 | []=>by simp [anyIn]
 | .own k::l=>by
  rw [anyIn,Bool.or_eq_true,Ig s l,List.mem_cons];simp [eq_comm]
 | .ext k::l=>by
  rw [anyIn,Ig s l,List.mem_cons];simp
def heldB (rm:List Nat) (vals:List IV) (own:List (Nat×Blk)) (ext:List Blk) (s:Nat):Bool :=
 vals.any (B7 s) || (own.any (fun p=>!rm.contains p.1 && Fj s p.2) || ext.any (Fj s))
def I1 (rm:List Nat) (vals:List IV) (own:List (Nat×Blk)) (ext:List Blk):List (Nat×Blk):=own.filter fun p=>!rm.contains p.1 || heldB rm vals own ext p.1
def AO (rm:List Nat) (vals:List IV) (own:List (Nat×Blk)) (ext:List Blk):Bool :=
 vals.all Fg && (own.all (fun p=>Tu p.2) && (ext.all Tu && own.all fun p=>!rm.contains p.1 || rm.all fun s=>!Fj s p.2))
theorem Sk {rm:List Nat} {vals:List IV} {own:List (Nat×Blk)} {ext:List Blk} (hf:AO rm vals own ext=true) (s:Nat) :
  Ref.own s∈IV.refs.refsL vals++(own.filter fun p=>!rm.contains p.1).flatMap (fun p=>p.2.refs)++ext.flatMap Blk.refs ↔ heldB rm vals own ext s=true:=by
 simp only [AO,Bool.and_eq_true] at hf;obtain ⟨h1,h2,h3,_⟩:=hf;have e1:Ref.own s∈(own.filter fun p=>!rm.contains p.1).flatMap (fun p=>p.2.refs) ↔ (own.any fun p=>!rm.contains p.1 && Fj s p.2)=true:=by
  rw [List.mem_flatMap,List.any_eq_true];constructor
  ·rintro ⟨p,hp,hr⟩;obtain ⟨hp1,hp2⟩:=List.mem_filter.1 hp;exact ⟨p,hp1,by rw [hp2,(DZ (List.all_eq_true.1 h2 p hp1) s).1 hr];rfl⟩
  ·rintro ⟨p,hp,hr⟩;rw [Bool.and_eq_true] at hr;exact ⟨p,List.mem_filter.2 ⟨hp,hr.1⟩,(DZ (List.all_eq_true.1 h2 p hp) s).2 hr.2⟩
 have e2:Ref.own s∈ext.flatMap Blk.refs ↔ ext.any (Fj s)=true:=by
  rw [List.mem_flatMap,List.any_eq_true];constructor
  ·rintro ⟨p,hp,hr⟩;exact ⟨p,hp,(DZ (List.all_eq_true.1 h3 p hp) s).1 hr⟩
  ·rintro ⟨p,hp,hr⟩;exact ⟨p,hp,(DZ (List.all_eq_true.1 h3 p hp) s).2 hr⟩
 rw [List.mem_append,List.mem_append,Jj h1,e1,e2,heldB,Bool.or_eq_true,Bool.or_eq_true,or_assoc]
theorem AJ {base rm:List Nat} {vals:List IV} {own:List (Nat×Blk)} {ext:List Blk} (hb:rm.any base.contains=false) (hf:AO rm vals own ext=true) (k:Hp→Option β) :
  By base rm vals ⟨own,ext⟩ k=k ⟨I1 rm vals own ext,ext⟩:=by
 have hm:=Sk hf;have hf0:=hf;simp only [AO,Bool.and_eq_true] at hf0;obtain ⟨g1,g2,g3,g4⟩:=hf0;unfold By;rw [hb];simp only [cond_false];rw [L9];cases ha:(own.all fun p=>!rm.contains p.1) with
 | true =>
  simp only [Bool.not_true,cond_false];congr 2
  symm
  apply List.filter_eq_self.2;intro p hp;rw [List.all_eq_true.1 ha p hp];rfl
 | false =>
  simp only [Bool.not_false,cond_true];have slow:(match Cv base [] rm ⟨vals,⟨own,ext⟩⟩ with | none=>none | some S=>fH S.hp k)=k ⟨I1 rm vals own ext,ext⟩:=by
   have hgone:(rm.filter fun k=>!anyIn [k] (IV.refs.refsL vals++(own.filter fun p=>!rm.contains p.1).flatMap (fun p=>p.2.refs)++ext.flatMap Blk.refs))=rm.filter fun s=>!heldB rm vals own ext s:=by
    apply List.filter_congr;intro s _;congr 1;exact Bool.eq_iff_iff.2 ((Ig s _).trans (hm s))
   have hown:(own.filter fun p=>!(rm.filter fun s=>!heldB rm vals own ext s).contains p.1)=I1 rm vals own ext:=by
    apply List.filter_congr;intro p _;rw [Bool.eq_iff_iff];simp only [Bool.not_eq_true',Bool.or_eq_true,List.contains_eq_mem,decide_eq_false_iff_not,List.mem_filter];constructor
    ·intro h;by_cases h1:p.1∈rm
     ·right;cases hh:heldB rm vals own ext p.1 with
      | true=>rfl
      | false=>exact absurd ⟨h1,hh⟩ h
     ·exact .inl h1
    ·rintro (h | h) ⟨h1,h2⟩
     ·exact h h1
     ·rw [h] at h2;exact absurd h2 (by simp)
   simp only [Cv,hb,Bool.false_eq_true,if_false,AX,ha,hgone,hown];have hnone:anyIn (rm.filter fun s=>!heldB rm vals own ext s) (CL ⟨vals,⟨I1 rm vals own ext,ext⟩⟩)=false:=by
    apply D8;intro s hs hmem;obtain ⟨hs1,hs2⟩:=List.mem_filter.1 hs;have hs2:heldB rm vals own ext s=false:=by simpa using hs2
    simp only [CL,List.mem_append] at hmem;rcases hmem with (hmem | hmem) | hmem
    ·have:=(hm s).1 (List.mem_append_left _ (List.mem_append_left _ hmem))
     rw [this] at hs2;cases hs2
    ·obtain ⟨p,hp,hr⟩:=List.mem_flatMap.1 hmem;have hp1:=(List.mem_filter.1 hp).1;have hn:=(DZ (List.all_eq_true.1 g2 p hp1) s).1 hr;have h4:=List.all_eq_true.1 g4 p hp1;cases hc:rm.contains p.1 with
     | true =>
      rw [hc] at h4;have h4:(rm.all fun s=>!Fj s p.2)=true:=h4;have h5:=List.all_eq_true.1 h4 s hs1;rw [hn] at h5;cases h5
     | false =>
      have:=(hm s).1 (List.mem_append_left _ (List.mem_append_right _ (List.mem_flatMap.2 ⟨p,List.mem_filter.2 ⟨hp1,by rw [hc];rfl⟩,hr⟩)))
      rw [this] at hs2;cases hs2
    ·have:=(hm s).1 (List.mem_append_right _ hmem)
     rw [this] at hs2;cases hs2
   simp only [hnone,Bool.false_eq_true,if_false,MQ]
  cases hff:(and (Fs rm (Ct vals [])) (and (Hu rm own) (IU rm ext))) with
  | false=>exact slow
  | true =>
   have hff:(Fs rm (Ct vals []) && (Hu rm own && IU rm ext))=true:=hff;simp only [Bool.and_eq_true] at hff;simp only [Hj,cond_true];congr 2;apply List.filter_congr;intro p hp;cases hc:rm.contains p.1 with
   | false=>rfl
   | true =>
    have h1:=Fp hff.1;rw [refsDL_eq,List.append_nil] at h1;have h2:=Hl hff.2.1;have h3:=NY hff.2.2
    have:heldB rm vals own ext p.1=false:=by
     cases hh:heldB rm vals own ext p.1 with
     | false=>rfl
     | true =>
      have:=(hm p.1).2 hh
      have hpm:p.1∈rm:=List.contains_iff_mem.1 hc;rcases List.mem_append.1 this with h | h
      ·rcases List.mem_append.1 h with h | h
       ·exact absurd h (h1 _ hpm)
       ·exact absurd h (h2 _ hpm)
      ·exact absurd h (h3 _ hpm)
    rw [this];rfl
end
section
variable (s j:Nat)
theorem Ao9 (rm:List Nat) (vals:List IV) (own:List (Nat×Blk)) (ext:List Blk):I1 rm vals own ext=own.filter fun p=>!rm.contains p.1 || heldB rm vals own ext p.1:=rfl
theorem nv1 (o:Nat):B7 s (.ptr (.own j) o)=(s == j):=rfl
theorem nv2 (a b:Nat):B7 s (.slc (.own j) a b)=(s == j):=rfl
theorem nv3 (es:List FV):B7 s (.app (.own j) es)=(s == j):=rfl
theorem nv4 (v:FV):B7 s (.fv v)=false:=rfl
theorem nv5:B7 s .nils=false:=rfl
theorem nv6 (es:List FV):B7 s (.clip es)=false:=rfl
theorem nv7 (o:Nat):B7 s (.ptr (.ext j) o)=false:=rfl
theorem nv8:B7 s .dead=false:=rfl
theorem nb1 (cs:List IV) (ro:Bool):Fj s (.row cs ro)=cs.any (B7 s):=rfl
theorem nb2 (a b:Nat):Fj s (.tok a b)=false:=rfl
theorem AoR (r:Ref) (o:Nat):Fg (.ptr r o)=true:=rfl
theorem App (r:Ref) (a b:Nat):Fg (.slc r a b)=true:=rfl
theorem AoB (r:Ref) (es:List FV):Fg (.app r es)=true:=rfl
theorem Apc (v:FV):Fg (.fv v)=true:=rfl
theorem ApA:Fg .nils=true:=rfl
theorem Apo (es:List FV):Fg (.clip es)=true:=rfl
theorem AoX:Fg .dead=true:=rfl
theorem Apl (cs:List IV) (ro:Bool):Tu (.row cs ro)=cs.all Fg:=rfl
theorem fb_2 (a b:Nat):Tu (.tok a b)=true:=rfl
end
def XD:=ArF @Ao9<|ArF @nv1<|ArF @nv2<|ArF @nv3<|ArF @nv4<|ArF @nv5<|ArF @nv6<|ArF @nv7<|ArF @nv8<|ArF @nb1<|ArF @nb2<|ArF @AoR<|ArF @App<|ArF @AoB<|ArF @Apc<|ArF @ApA<|ArF @Apo<|ArF @AoX<|ArF @Apl<|@fb_2
end Idl
end Go.Proofs.Ytbkdidonegggdaa
namespace Go.Proofs.Ytbkdidonegggdaa
namespace Idl
def Ae (op:Int) (i:Nat):Nat :=
 if op=3∨op=4∨op=6∨op=20∨op=28∨op=29 then (if i=1 then 1 else 0) else if op=13 then (if i=0 then 1 else if i=2 then 2 else 0) else 0
theorem Br (op:Int) (i:Nat):Ae op i≤2:=by
 unfold Ae
 repeat' split
 all_goals omega
theorem Fv {n:Nat} (hn:0<n) (op:Int) (i:Nat):BY (SS dt n 63 [iv op,iv i] ⟨[],[]⟩) (.int .i64 (Ae op i)):=by
 obtain ⟨n,rfl⟩:∃k,n=k+1:=⟨n - 1,by omega⟩;rw [c63];unfold Ae;by_cases h:op=3∨op=4∨op=6∨op=20∨op=28∨op=29
 ·rw [if_pos h];by_cases hi:i=1
  ·subst hi;rcases h with rfl | rfl | rfl | rfl | rfl | rfl<;>(simp only [↓UU3,↓XX,XY,↓reduceIte,Nat.reduceBEq,Nat.reduceAdd,Int.reduceEq,Int.reduceLT,Int.reduceLE];exact Ap _ _)
  ·have hi':¬ (i:Int)=1:=by omega
   rcases h with rfl | rfl | rfl | rfl | rfl | rfl<;>(simp only [↓UU3,↓XX,XY,↓reduceIte,Nat.reduceBEq,Nat.reduceAdd,Int.reduceEq,Int.reduceLT,Int.reduceLE,hi',hi];exact Ap _ _)
 ·rw [if_neg h];have h3:¬ op=3:=fun e=>h (by simp [e]);have h4:¬ op=4:=fun e=>h (by simp [e]);have h6:¬ op=6:=fun e=>h (by simp [e]);have h20:¬ op=20:=fun e=>h (by simp [e]);have h28:¬ op=28:=fun e=>h (by simp [e]);have h29:¬ op=29:=fun e=>h (by simp [e]);by_cases h13:op=13
  ·subst h13;by_cases hi:i=0
   ·subst hi;simp only [↓UU3,↓XX,XY,↓reduceIte,Nat.reduceBEq,Nat.reduceAdd,Int.reduceEq,Int.reduceLT,Int.reduceLE];exact Ap _ _
   ·have hi':¬ (i:Int)=0:=by omega
    by_cases hj:i=2
    ·subst hj;simp only [↓UU3,↓XX,XY,↓reduceIte,Nat.reduceBEq,Nat.reduceAdd,Int.reduceEq,Int.reduceLT,Int.reduceLE];exact Ap _ _
    ·have hj':¬ (i:Int)=2:=by omega
     simp only [↓UU3,↓XX,XY,↓reduceIte,Nat.reduceBEq,Nat.reduceAdd,Int.reduceEq,Int.reduceLT,Int.reduceLE,hi,hi',hj,hj'];exact Ap _ _
  ·simp only [↓UU3,↓XX,XY,↓reduceIte,Nat.reduceBEq,Nat.reduceAdd,Int.reduceEq,Int.reduceLT,Int.reduceLE,h3,h4,h6,h20,h28,h29,h13];exact Ap _ _
theorem Aj7 {n:Nat} (hn:0<n) (x:Int):BY (SS dt n 34 [iv x] ⟨[],[]⟩) (Tm.mk 1 x []).enc:=by
 obtain ⟨n,rfl⟩:∃k,n=k+1:=⟨n - 1,by omega⟩;rw [c34];simp only [S34,↓XX,XY,↓reduceIte,Nat.reduceBEq,Nat.reduceAdd,Int.reduceEq,Int.reduceLT,Int.reduceLE];exact Ba rfl _
theorem Aea {n:Nat} (hn:0<n) (x:Int):BY (SS dt n 57 [iv x] ⟨[],[]⟩) (Tm.mk 2 x []).enc:=by
 obtain ⟨n,rfl⟩:∃k,n=k+1:=⟨n - 1,by omega⟩;rw [c57];simp only [S57,↓XX,XY,↓reduceIte,Nat.reduceBEq,Nat.reduceAdd,Int.reduceEq,Int.reduceLT,Int.reduceLE];exact Ba rfl _
theorem AjN {n:Nat} (hn:0<n) (x:Int):BY (SS dt n 43 [iv x] ⟨[],[]⟩) (Tm.mk 25 x []).enc:=by
 obtain ⟨n,rfl⟩:∃k,n=k+1:=⟨n - 1,by omega⟩;rw [c43];simp only [S43,↓XX,XY,↓reduceIte,Nat.reduceBEq,Nat.reduceAdd,Int.reduceEq,Int.reduceLT,Int.reduceLE];exact Ba rfl _
mutual
/-- No more than four kids anywhere. -/
def Tm.wk:Tm→Prop
 | .mk _ _ ks=>ks.length≤4∧Tm.wkL ks
def Tm.wkL:List Tm→Prop
 | []=>True
 | t::l=>t.wk∧Tm.wkL l
end
theorem RA {t:Tm}:∀{l:List Tm},Tm.wkL l→t∈l→t.wk
 | a::l,h,hm=>by
  rw [Tm.wkL] at h;rcases List.mem_cons.1 hm with rfl | hm
  ·exact h.1
  ·exact RA h.2 hm
mutual
def Tm.shift:Tm→Int→Int→Tm
 | .mk op n ks,d,c=>.mk op (if op=1∧c≤n then BN (n+d) else n) (Tm.shiftL op 0 ks d c)
def Tm.shiftL:Int→Nat→List Tm→Int→Int→List Tm
 | _,_,[],_,_=>[]
 | op,i,t::l,d,c=>t.shift d (c+Ae op i)::Tm.shiftL op (i+1) l d c
end
theorem D3 (op:Int) (d c:Int):∀(l:List Tm) (i:Nat),(Tm.shiftL op i l d c).length=l.length
 | [],_=>rfl
 | _::l,i=>by simp only [Tm.shiftL,ArK,D3 op d c l]
theorem MG (op d c:Int):∀(l l':List Tm) (i:Nat),Tm.shiftL op i (l++l') d c=Tm.shiftL op i l d c++Tm.shiftL op (i+l.length) l' d c
 | [],l',i=>by simp [Tm.shiftL]
 | t::l,l',i=>by simp only [List.cons_append,Tm.shiftL,MG op d c l l',ArK];congr 3;omega
theorem DO:∀(n:Nat) (t:Tm) (d c:Int),t.wt+1<n→t.wk→0≤c→c+2 * t.wt≤4611686018427387904→BY (SS dt n 31 [.fv t.enc,iv d,iv c] ⟨[],[]⟩) (t.shift d c).enc:=by
 intro n
 induction n with
 | zero=>intro t d c h;omega
 | succ n ih =>
  intro t d c h hw hc0 hc;obtain ⟨op,m,ks⟩:=t;simp only [Tm.wt] at h hc;rw [Tm.wk] at hw;rw [c31,Am];have hlen:=Fr ks;have main:∀m',m'=(if op=1∧c≤m then BN (m+d) else m) →
    BY (BK n (fun q28 l29 h30=>In l29 h30 (SS dt n) ⟨[],[]⟩ q28) [iv d,iv c,.ptr (.own 32505856) 0,.ptr (.own 32505857) 0,.ptr (.own 32506885) 0,iv 0]
     ⟨[(32505856,.row [iv op,iv m,.fv (.sl (ks.map Tm.enc))] false),(32505857,.row [iv 0,iv 0,.nils] false),(32506885,.row [iv op,iv m',.nils] false)],[]⟩) ((Tm.mk op m ks).shift d c).enc:=by
   intro m' hm';refine A7 (Q:=fun r=>BY r _) (fun k V H=>∃pre rest,ks=pre++rest∧rest.length=k∧V=[iv d,iv c,.ptr (.own 32505856) 0,.ptr (.own 32505857) 0,.ptr (.own 32506885) 0,iv pre.length] ∧
    (
     (pre=[]∧H=⟨[(32505856,.row [iv op,iv m,.fv (.sl (ks.map Tm.enc))] false),(32505857,.row [iv 0,iv 0,.nils] false),(32506885,.row [iv op,iv m',.nils] false)],[]⟩) ∨
     (pre≠[]∧H=⟨[(32505856,.row [iv op,iv m,.fv (.sl (ks.map Tm.enc))] false),(32505857,.row [iv 0,iv 0,.nils] false),(32506885,.row [iv op,iv m',.app (.own 32513040) ((Tm.shiftL op 0 pre d c).map Tm.enc)] false),(32513040,.tok (Tm.shiftL op 0 pre d c).length 3)],[]⟩)))
    ?_ n ks.length _ _ (by omega) ⟨[],ks,rfl,rfl,rfl,.inl ⟨rfl,rfl⟩⟩
   rintro k V H rec ⟨pre,rest,hk,hl,rfl,hH⟩ hrec;have hkl:ks.length=pre.length+rest.length:=by rw [hk];simp
   cases rest with
   | nil =>
    have hno:¬ ((pre.length:Int)<ks.length):=by rw [hkl];simp
    have hpre:ks=pre:=by simpa using hk
    rcases hH with ⟨rfl,rfl⟩ | ⟨_,rfl⟩
    ·subst hpre;simp only [F6,F9,FO,Gb,FN,FJ,FW,FZ,In,FK,Gj,Gf,FR,FQ,S31,↓XX,XY,↓reduceIte,Nat.reduceBEq,Nat.reduceAdd,Int.reduceEq,Int.reduceLT,Int.reduceLE,Int.lt_irrefl,Tm.shift,Tm.shiftL,← hm',Am];exact Ba rfl _
    ·subst hpre;simp only [F6,F9,FO,Gb,FN,FJ,FW,FZ,In,FK,Gj,Gf,FR,FQ,S31,↓XX,XY,↓reduceIte,Nat.reduceBEq,Nat.reduceAdd,Int.reduceEq,Int.reduceLT,Int.reduceLE,Int.lt_irrefl,Tm.shift,← hm',Am];exact Ba rfl _
   | cons t rest =>
    have hi:(pre.length:Int)<ks.length:=by rw [hkl];simp;omega
    have hg:=CF hk;have htw:=C7 (t:=t) (l:=ks) (by rw [hk];simp);have hb:=Fv (n:=n) (by omega) op pre.length;have hble:=Br op pre.length;have hs:=ih t d (c+Ae op pre.length) (by omega) (RA hw.2 (by rw [hk];simp)) (by omega) (by omega);have hx:Tm.shiftL op 0 (pre++[t]) d c=Tm.shiftL op 0 pre d c++[t.shift d (c+Ae op pre.length)]:=by
     rw [MG];simp [Tm.shiftL]
    have hwc:BN (c+Ae op pre.length)=c+Ae op pre.length:=by rw [Au]<;>omega
    have hwi:BN ((pre.length:Int)+1)=((pre++[t]).length:Int):=(Au (by omega) (by omega)).trans (by simp);generalize hu:t.shift d (c+Ae op pre.length)=u at hs hx;obtain ⟨o,p,l⟩:=t;simp only [ArK] at hl;rw [Am] at hs;rcases hH with ⟨hp0,rfl⟩ | ⟨hne,rfl⟩
    ·simp only [F6,F9,FO,Gb,FN,FJ,FW,FZ,In,FK,Gj,Gf,FR,FQ,S31,↓XX,XY,↓reduceIte,Nat.reduceBEq,Nat.reduceAdd,Int.reduceEq,Int.reduceLT,Int.reduceLE,hi,↓Bx (AR hg) (Bh _ _ _),↓Ce,↓Ag hb,hwc,hwi,↓AH hs,↓Jc,↓Qn,↓AJ,XD,heldB,AO,XE];refine hrec rest.length _ _ (by omega) ?_;refine ⟨pre++[.mk o p l],rest,by rw [hk];simp,rfl,rfl,.inr ⟨by simp,?_⟩⟩;rw [hx,hp0];rfl
    ·have hle:(Tm.shiftL op 0 pre d c).length+1≤1000000:=by rw [D3];omega
     have hq:(Tm.shiftL op 0 pre d c).length=pre.length:=D3 ..;simp only [F6,F9,FO,Gb,FN,FJ,FW,FZ,In,FK,Gj,Gf,FR,FQ,S31,↓XX,XY,↓reduceIte,Nat.reduceBEq,Nat.reduceAdd,Int.reduceEq,Int.reduceLT,Int.reduceLE,hi,↓Bx (AR hg) (Bh _ _ _),↓Ce,↓Ag hb,hwc,hwi,↓AH hs,↓Jc,↓Mk hle,↓HL,↓AJ,XD,heldB,AO,XE];refine hrec rest.length _ _ (by omega) ?_;refine ⟨pre++[.mk o p l],rest,by rw [hk];simp,rfl,rfl,.inr ⟨by simp,?_⟩⟩;rw [hx];simp only [List.length_append,ArK,List.length_nil]
  by_cases h1:op=1
  ·by_cases h2:c≤m
   ·subst h1;simp only [F6,F9,FO,Gb,FN,FJ,FW,FZ,FK,Gj,Gf,FR,FQ,S31,↓XX,XY,↓reduceIte,Nat.reduceBEq,Nat.reduceAdd,Int.reduceEq,Int.reduceLT,Int.reduceLE,h2,↓AJ,XD,heldB,AO,XE];exact main _ (by simp [h2])
   ·subst h1;simp only [F6,F9,FO,Gb,FN,FJ,FW,FZ,FK,Gj,Gf,FR,FQ,S31,↓XX,XY,↓reduceIte,Nat.reduceBEq,Nat.reduceAdd,Int.reduceEq,Int.reduceLT,Int.reduceLE,h2,↓AJ,XD,heldB,AO,XE];exact main _ (by simp [h2])
  ·simp only [F6,F9,FO,Gb,FN,FJ,FW,FZ,FK,Gj,Gf,FR,FQ,S31,↓XX,XY,↓reduceIte,Nat.reduceBEq,Nat.reduceAdd,Int.reduceEq,Int.reduceLT,Int.reduceLE,h1,↓AJ,XD,heldB,AO,XE];exact main _ (by simp [h1])
mutual
def Tm.subst:Tm→Int→Int→Tm→Tm
 | .mk op m ks,n,d,u=>if op=1 then (if m=n then u.shift d 0 else if n<m then .mk 1 (BN (m - 1)) [] else .mk op m ks) else .mk op m (Tm.substL op 0 ks n d u)
def Tm.substL:Int→Nat→List Tm→Int→Int→Tm→List Tm
 | _,_,[],_,_,_=>[]
 | op,i,t::l,n,d,u=>t.subst (n+Ae op i) (d+Ae op i) u::Tm.substL op (i+1) l n d u
end
theorem G8 (op n d:Int) (u:Tm):∀(l:List Tm) (i:Nat),(Tm.substL op i l n d u).length=l.length
 | [],_=>rfl
 | _::l,i=>by simp only [Tm.substL,ArK,G8 op n d u l]
theorem Ng (op n d:Int) (u:Tm):∀(l l':List Tm) (i:Nat),Tm.substL op i (l++l') n d u=Tm.substL op i l n d u++Tm.substL op (i+l.length) l' n d u
 | [],l',i=>by simp [Tm.substL]
 | t::l,l',i=>by simp only [List.cons_append,Tm.substL,Ng op n d u l l',ArK];congr 3;omega
theorem Afh (u:Tm) (hu:u.wk) (huw:u.wt≤1152921504606846976):∀(n:Nat) (t:Tm) (c d:Int),t.wt+u.wt+3<n→t.wk→-1000000000≤c→c+2 * t.wt≤461168601842738→0≤d→d+2 * t.wt≤461168601842738 →
  BY (SS dt n 62 [.fv t.enc,iv c,iv d,.fv u.enc] ⟨[],[]⟩) (t.subst c d u).enc:=by
 intro n
 induction n with
 | zero=>intro t c d h;omega
 | succ n ih =>
  intro t c d h hw hc0 hc hd0 hd;obtain ⟨op,m,ks⟩:=t;simp only [Tm.wt] at h hc hd;rw [Tm.wk] at hw;rw [c62,Am];have hlen:=Fr ks;by_cases h1:op=1
  ·subst h1;have hsh:=DO n u d 0 (by omega) hu (by omega) (by omega);rw [Tm.subst,if_pos rfl];generalize u.shift d 0=z at hsh ⊢;obtain ⟨uo,un,uk⟩:=u;obtain ⟨zo,zn,zk⟩:=z;rw [Am] at hsh ⊢;by_cases h2:m=c
   ·subst h2;simp only [↓UU2,↓XX,XY,↓reduceIte,Nat.reduceBEq,Nat.reduceAdd,Int.reduceEq,Int.reduceLT,Int.reduceLE,↓AH hsh];simp only [↓UU2,↓XX,XY,↓reduceIte,Nat.reduceBEq,Nat.reduceAdd,Int.reduceEq,Int.reduceLT,Int.reduceLE,Am];exact Ba rfl _
   ·by_cases h3:c<m
    ·simp only [↓UU2,↓XX,XY,↓reduceIte,Nat.reduceBEq,Nat.reduceAdd,Int.reduceEq,Int.reduceLT,Int.reduceLE,h2,h3,Am];exact Ba rfl _
    ·simp only [↓UU2,↓XX,XY,↓reduceIte,Nat.reduceBEq,Nat.reduceAdd,Int.reduceEq,Int.reduceLT,Int.reduceLE,h2,h3,Am];exact Ba rfl _
  ·have main :
    BY (BK n (fun q l h=>H0 l h (SS dt n) ⟨[],[]⟩ q) [iv c,iv d,.ptr (.own 65011712) 0,.ptr (.own 65011713) 0,.ptr (.own 65011714) 0,.ptr (.own 65018885) 0,iv 0]
     ⟨[(65011712,.row [iv op,iv m,.fv (.sl (ks.map Tm.enc))] false),(65011713,.row [iv u.op,iv u.n,.fv (.sl (u.kids.map Tm.enc))] false),(65011714,.row [iv 0,iv 0,.nils] false),(65018885,.row [iv op,iv m,.nils] false)],[]⟩)
      (Tm.mk op m (Tm.substL op 0 ks c d u)).enc:=by
    refine A7 (Q:=fun r=>BY r _) (fun k V H=>∃pre rest,ks=pre++rest∧rest.length=k∧V=[iv c,iv d,.ptr (.own 65011712) 0,.ptr (.own 65011713) 0,.ptr (.own 65011714) 0,.ptr (.own 65018885) 0,iv pre.length] ∧
     (
      (pre=[]∧H=⟨[(65011712,.row [iv op,iv m,.fv (.sl (ks.map Tm.enc))] false),(65011713,.row [iv u.op,iv u.n,.fv (.sl (u.kids.map Tm.enc))] false),(65011714,.row [iv 0,iv 0,.nils] false),(65018885,.row [iv op,iv m,.nils] false)],[]⟩) ∨
      (
      pre≠[]∧H=⟨[(65011712,.row [iv op,iv m,.fv (.sl (ks.map Tm.enc))] false),(65011713,.row [iv u.op,iv u.n,.fv (.sl (u.kids.map Tm.enc))] false),(65011714,.row [iv 0,iv 0,.nils] false),
      (65018885,.row [iv op,iv m,.app (.own 65024016) ((Tm.substL op 0 pre c d u).map Tm.enc)] false),(65024016,.tok (Tm.substL op 0 pre c d u).length 3)],[]⟩)))
     ?_ n ks.length _ _ (by omega) ⟨[],ks,rfl,rfl,rfl,.inl ⟨rfl,rfl⟩⟩
    rintro k V H rec ⟨pre,rest,hk,hl,rfl,hH⟩ hrec;have hkl:ks.length=pre.length+rest.length:=by rw [hk];simp
    cases rest with
    | nil =>
     have hno:¬ ((pre.length:Int)<ks.length):=by rw [hkl];simp
     have hpre:ks=pre:=by simpa using hk
     rcases hH with ⟨rfl,rfl⟩ | ⟨_,rfl⟩
     ·subst hpre;simp only [H7,Iu,IJ,Ih,II,IK,HZ,HT,Iq,HN,Iz,IG,Ia,H0,IH,H4,HV,S62,↓XX,XY,↓reduceIte,Nat.reduceBEq,Nat.reduceAdd,Int.reduceEq,Int.reduceLT,Int.reduceLE,Int.lt_irrefl,Tm.substL,Am];exact Ba rfl _
     ·subst hpre;simp only [H7,Iu,IJ,Ih,II,IK,HZ,HT,Iq,HN,Iz,IG,Ia,H0,IH,H4,HV,S62,↓XX,XY,↓reduceIte,Nat.reduceBEq,Nat.reduceAdd,Int.reduceEq,Int.reduceLT,Int.reduceLE,Int.lt_irrefl,Am];exact Ba rfl _
    | cons t rest =>
     have hi:(pre.length:Int)<ks.length:=by rw [hkl];simp;omega
     have hg:=CF hk;have htw:=C7 (t:=t) (l:=ks) (by rw [hk];simp);have hb:=Fv (n:=n) (by omega) op pre.length;have hble:=Br op pre.length;have hs:=ih t (c+Ae op pre.length) (d+Ae op pre.length) (by omega) (RA hw.2 (by rw [hk];simp)) (by omega) (by omega) (by omega) (by omega);have hx:Tm.substL op 0 (pre++[t]) c d u=Tm.substL op 0 pre c d u++[t.subst (c+Ae op pre.length) (d+Ae op pre.length) u]:=by
      rw [Ng];simp [Tm.substL]
     have hwc:BN (c+Ae op pre.length)=c+Ae op pre.length:=by rw [Au]<;>omega
     have hwd:BN (d+Ae op pre.length)=d+Ae op pre.length:=by rw [Au]<;>omega
     have hwi:BN ((pre.length:Int)+1)=((pre++[t]).length:Int):=(Au (by omega) (by omega)).trans (by simp);generalize hv:t.subst (c+Ae op pre.length) (d+Ae op pre.length) u=v at hs hx;obtain ⟨o,p,l⟩:=t;simp only [ArK] at hl;have hue:u.enc=.agg [.int .i64 u.op,.int .i64 u.n,.sl (u.kids.map Tm.enc)]:=by cases u;exact Am ..
     rw [Am,hue] at hs;rcases hH with ⟨hp0,rfl⟩ | ⟨hne,rfl⟩
     ·simp only [H7,Iu,IJ,Ih,II,IK,HZ,HT,Iq,HN,Iz,IG,Ia,H0,IH,H4,HV,S62,↓XX,XY,↓reduceIte,Nat.reduceBEq,Nat.reduceAdd,Int.reduceEq,Int.reduceLT,Int.reduceLE,hi,↓Bx (AR hg) (Bh _ _ _),↓Ce,↓Ag hb,hwc,hwd,hwi,↓Aw hs,↓Jc,↓Qn,↓AJ,XD,heldB,AO,XE];refine hrec rest.length _ _ (by omega) ?_;refine ⟨pre++[.mk o p l],rest,by rw [hk];simp,rfl,rfl,.inr ⟨by simp,?_⟩⟩;rw [hx,hp0];rfl
     ·have hle:(Tm.substL op 0 pre c d u).length+1≤1000000:=by rw [G8];omega
      simp only [H7,Iu,IJ,Ih,II,IK,HZ,HT,Iq,HN,Iz,IG,Ia,H0,IH,H4,HV,S62,↓XX,XY,↓reduceIte,Nat.reduceBEq,Nat.reduceAdd,Int.reduceEq,Int.reduceLT,Int.reduceLE,hi,↓Bx (AR hg) (Bh _ _ _),↓Ce,↓Ag hb,hwc,hwd,hwi,↓Aw hs,↓Jc,↓Mk hle,↓HL,↓AJ,XD,heldB,AO,XE];refine hrec rest.length _ _ (by omega) ?_;refine ⟨pre++[.mk o p l],rest,by rw [hk];simp,rfl,rfl,.inr ⟨by simp,?_⟩⟩;rw [hx];simp only [List.length_append,ArK,List.length_nil]
   rw [Tm.subst,if_neg h1];obtain ⟨uo,un,uk⟩:=u;rw [Am (op:=uo)];simp only [↓UU2,↓XX,XY,↓reduceIte,Nat.reduceBEq,Nat.reduceAdd,Int.reduceEq,Int.reduceLT,Int.reduceLE,h1,↓AJ,XD,heldB,AO,XE];exact main
theorem Kc {n:Nat} (t u:Tm) (c:Int) (hu:u.wk) (huw:u.wt≤1152921504606846976) (h:t.wt+u.wt+4<n) (hw:t.wk) (hww:t.wt≤100000000000000) (h0:-1000000000≤c) (hc:c+2 * t.wt≤461168601842738) :
  BY (SS dt n 30 [.fv t.enc,iv c,.fv u.enc] ⟨[],[]⟩) (t.subst c 0 u).enc:=by
 obtain ⟨n,rfl⟩:∃k,n=k+1:=⟨n - 1,by omega⟩;rw [c30];have hs:=Afh u hu huw n t c 0 (by omega) hw h0 hc (by omega) (by omega);generalize t.subst c 0 u=v at hs ⊢;obtain ⟨o1,n1,k1⟩:=t;obtain ⟨o2,n2,k2⟩:=u;obtain ⟨o3,n3,k3⟩:=v;simp only [Am] at hs ⊢;simp only [Afk,S30,↓XX,XY,↓reduceIte,Nat.reduceBEq,Nat.reduceAdd,Int.reduceEq,Int.reduceLT,Int.reduceLE,↓Aw hs];exact Ba rfl _
mutual
def Tm.free:Tm→Int→Bool
 | .mk op m ks,c=>if op=1 then decide (m=c) else Tm.freeL op 0 ks c
def Tm.freeL:Int→Nat→List Tm→Int→Bool
 | _,_,[],_=>false
 | op,i,t::l,c=>t.free (c+Ae op i) || Tm.freeL op (i+1) l c
end
theorem Agg:∀(n:Nat) (t:Tm) (c:Int),t.wt+1<n→t.wt≤1152921504606846976→-1000000000≤c→c+2 * t.wt≤461168601842738→BY (SS dt n 68 [.fv t.enc,iv c] ⟨[],[]⟩) (.bool (t.free c)):=by
 intro n
 induction n with
 | zero=>intro t c h;omega
 | succ n ih =>
  intro t c h hw hc0 hc;obtain ⟨op,m,ks⟩:=t;simp only [Tm.wt] at h hw hc;rw [c68,Am];have hlen:=Fr ks;by_cases h1:op=1
  ·subst h1;rw [Tm.free,if_pos rfl];simp only [Lf,Ld,La,KQ,K4,S68,↓XX,XY,↓reduceIte,Nat.reduceBEq,Nat.reduceAdd,Int.reduceEq,Int.reduceLT,Int.reduceLE];exact Ap _ _
  ·rw [Tm.free,if_neg h1];simp only [Lf,Ld,La,KQ,K4,S68,↓XX,XY,↓reduceIte,Nat.reduceBEq,Nat.reduceAdd,Int.reduceEq,Int.reduceLT,Int.reduceLE,h1];refine A7 (Q:=fun r=>BY r _) (fun k V H=>∃pre rest,ks=pre++rest∧rest.length=k∧V=[iv c,.ptr (.own 71303168) 0,iv pre.length]∧H=⟨[(71303168,.row [iv op,iv m,.fv (.sl (ks.map Tm.enc))] false)],[]⟩∧Tm.freeL op pre.length rest c=Tm.freeL op 0 ks c)
    ?_ n ks.length _ _ (by omega) ⟨[],ks,rfl,rfl,rfl,rfl,rfl⟩
   rintro k V H rec ⟨pre,rest,hk,hl,rfl,rfl,ht⟩ hrec;have hkl:ks.length=pre.length+rest.length:=by rw [hk];simp
   cases rest with
   | nil =>
    have hno:¬ ((pre.length:Int)<ks.length):=by rw [hkl];simp
    rw [← ht];simp only [Lf,Ld,La,KQ,K4,Q4,S68,↓XX,XY,↓reduceIte,Nat.reduceBEq,Nat.reduceAdd,Int.reduceEq,Int.reduceLT,Int.reduceLE,hno,Tm.freeL];exact Ap _ _
   | cons t rest =>
    have hi:(pre.length:Int)<ks.length:=by rw [hkl];simp;omega
    have hg:=CF hk;have htw:=C7 (t:=t) (l:=ks) (by rw [hk];simp);have hb:=Fv (n:=n) (by omega) op pre.length;have hble:=Br op pre.length;have hs:=ih t (c+Ae op pre.length) (by omega) (by omega) (by omega) (by omega);have hwc:BN (c+Ae op pre.length)=c+Ae op pre.length:=by rw [Au]<;>omega
    have hwi:BN ((pre.length:Int)+1)=((pre++[t]).length:Int):=(Au (by omega) (by omega)).trans (by simp);simp only [Tm.freeL] at ht;generalize t.free (c+Ae op pre.length)=v at hs ht;obtain ⟨o,p,l⟩:=t;simp only [ArK] at hl;rw [Am] at hs;cases v
    ·simp only [Lf,Ld,La,KQ,K4,Q4,S68,↓XX,XY,↓reduceIte,Nat.reduceBEq,Nat.reduceAdd,Int.reduceEq,Int.reduceLT,Int.reduceLE,hi,↓Bx (AR hg) (Bh _ _ _),↓Ce,↓Ag hb,hwc,hwi,↓Ag hs];refine hrec rest.length _ _ (by omega) ?_;exact ⟨pre++[.mk o p l],rest,by rw [hk];simp,rfl,rfl,rfl,by simpa using ht⟩
    ·rw [← ht];simp only [Lf,Ld,La,KQ,K4,Q4,S68,↓XX,XY,↓reduceIte,Nat.reduceBEq,Nat.reduceAdd,Int.reduceEq,Int.reduceLT,Int.reduceLE,hi,↓Bx (AR hg) (Bh _ _ _),↓Ce,↓Ag hb,hwc,hwi,↓Ag hs,Bool.true_or];exact Ap _ _
mutual
def Tm.same:Tm→Tm→Bool
 | .mk o n l,.mk o' n' l'=>decide (o=o') && (decide (n=n') && (decide (l.length=l'.length) && Tm.sameL l l'))
def Tm.sameL:List Tm→List Tm→Bool
 | a::l,b::l'=>a.same b && Tm.sameL l l'
 | _,_=>true
end
mutual
theorem Qf:∀a b:Tm,a.same b=true ↔ a=b
 | .mk o n l,.mk o' n' l'=>by
  simp only [Tm.same,Bool.and_eq_true,decide_eq_true_eq,Tm.mk.injEq];constructor
  ·rintro ⟨rfl,rfl,h1,h2⟩;exact ⟨rfl,rfl,(sameL_eq l l' h1).1 h2⟩
  ·rintro ⟨rfl,rfl,rfl⟩;exact ⟨rfl,rfl,rfl,(sameL_eq l l rfl).2 rfl⟩
theorem sameL_eq:∀l l':List Tm,l.length=l'.length→(Tm.sameL l l'=true ↔ l=l')
 | [],[],_=>by simp [Tm.sameL]
 | a::l,b::l',h=>by
  simp only [Tm.sameL,Bool.and_eq_true,List.cons.injEq,Qf a b,sameL_eq l l' (by simpa using h)]
end
theorem L1:∀(n:Nat) (a b:Tm),a.wt+1<n→a.wt≤1152921504606846976→BY (SS dt n 21 [.fv a.enc,.fv b.enc] ⟨[],[]⟩) (.bool (a.same b)):=by
 intro n
 induction n with
 | zero=>intro a b h;omega
 | succ n ih =>
  intro a b h hw;obtain ⟨op,m,ks⟩:=a;obtain ⟨op',m',ks'⟩:=b;simp only [Tm.wt] at h hw;rw [c21,Am,Am];have hlen:=Fr ks;rw [Tm.same];by_cases h1:op=op'
  ·by_cases h2:m=m'
   ·by_cases h3:ks.length=ks'.length
    ·have h3':(ks.length:Int)=ks'.length:=by omega
     subst h1 h2;simp only [FY,F4,Gc,Ga,Gi,FU,FL,F7,F5,S21,↓XX,XY,↓reduceIte,Nat.reduceBEq,Nat.reduceAdd,Int.reduceEq,Int.reduceLT,Int.reduceLE,h3,h3',Tm.same];refine A7 (Q:=fun r=>BY r _) (fun k V H=>∃pre rest pre' rest',ks=pre++rest∧ks'=pre'++rest'∧pre.length=pre'.length∧rest.length=k∧V=[.ptr (.own 22020096) 0,.ptr (.own 22020097) 0,iv pre.length] ∧
      H=⟨[(22020096,.row [iv op,iv m,.fv (.sl (ks.map Tm.enc))] false),(22020097,.row [iv op,iv m,.fv (.sl (ks'.map Tm.enc))] false)],[]⟩∧Tm.sameL rest rest'=Tm.sameL ks ks')
      ?_ n ks.length _ _ (by omega) ⟨[],ks,[],ks',rfl,rfl,rfl,rfl,rfl,rfl,rfl⟩
     rintro k V H rec ⟨pre,rest,pre',rest',hk,hk',hpl,hl,rfl,rfl,ht⟩ hrec;have hkl:ks.length=pre.length+rest.length:=by rw [hk];simp
     have hkl':ks'.length=pre'.length+rest'.length:=by rw [hk'];simp
     cases rest with
     | nil =>
      have hno:¬ ((pre.length:Int)<ks.length):=by rw [hkl];simp
      rw [← ht];simp only [FY,F4,Gc,Ga,Gi,Mj,FU,FL,F7,F5,S21,↓XX,XY,↓reduceIte,Nat.reduceBEq,Nat.reduceAdd,Int.reduceEq,Int.reduceLT,Int.reduceLE,hno,Tm.sameL];exact Ap _ _
     | cons t rest =>
      cases rest' with
      | nil=>simp at hkl hkl';omega
      | cons t' rest' =>
       have hi:(pre.length:Int)<ks.length:=by rw [hkl];simp;omega
       have hg:=CF hk;have hg':=CF hk';rw [← hpl] at hg';have htw:=C7 (t:=t) (l:=ks) (by rw [hk];simp);have hs:=ih t t' (by omega) (by omega);have hwi:BN ((pre.length:Int)+1)=((pre++[t]).length:Int):=(Au (by omega) (by omega)).trans (by simp);simp only [Tm.sameL] at ht;generalize t.same t'=v at hs ht;obtain ⟨o,p,l⟩:=t;obtain ⟨o',p',l'⟩:=t';simp only [ArK] at hl;rw [Am,Am] at hs;cases v
       ·rw [← ht];simp only [FY,F4,Gc,Ga,Gi,Mj,FU,FL,F7,F5,S21,↓XX,XY,↓reduceIte,Nat.reduceBEq,Nat.reduceAdd,Int.reduceEq,Int.reduceLT,Int.reduceLE,hi,↓Bx (AR hg) (Bh _ _ _),↓Bx (AR hg') (Bh _ _ _),↓Ce,↓Ag hs,Bool.false_and];exact Ap _ _
       ·simp only [FY,F4,Gc,Ga,Gi,Mj,FU,FL,F7,F5,S21,↓XX,XY,↓reduceIte,Nat.reduceBEq,Nat.reduceAdd,Int.reduceEq,Int.reduceLT,Int.reduceLE,hi,↓Bx (AR hg) (Bh _ _ _),↓Bx (AR hg') (Bh _ _ _),↓Ce,hwi,↓Ag hs];refine hrec rest.length _ _ (by omega) ?_;exact ⟨pre++[.mk o p l],rest,pre'++[.mk o' p' l'],rest',by rw [hk];simp,by rw [hk'];simp,by simp [hpl],rfl,rfl,rfl,by simpa using ht⟩
    ·have h3':¬ (ks.length:Int)=ks'.length:=by omega
     simp only [FY,F4,Gc,Ga,Gi,FU,FL,F7,F5,S21,↓XX,XY,↓reduceIte,Nat.reduceBEq,Nat.reduceAdd,Int.reduceEq,Int.reduceLT,Int.reduceLE,h1,h2,h3,h3'];exact Ap _ _
   ·simp only [FY,F4,Gc,Ga,Gi,FU,FL,F7,F5,S21,↓XX,XY,↓reduceIte,Nat.reduceBEq,Nat.reduceAdd,Int.reduceEq,Int.reduceLT,Int.reduceLE,h1,h2];exact Ap _ _
  ·simp only [FY,F4,Gc,Ga,Gi,FU,FL,F7,F5,S21,↓XX,XY,↓reduceIte,Nat.reduceBEq,Nat.reduceAdd,Int.reduceEq,Int.reduceLT,Int.reduceLE,h1];exact Ap _ _
theorem AgP (o p:Int) (l:List Tm) (s:Nat) (h:Hp) (k:IV→Hp→List Ref→List Ref→Option (IV×Hp)):Ay (Ah EE 29 1 [(0,.fv (.agg [.int .i64 o,.int .i64 p,.sl (l.map Tm.enc)]))]) s h k=k (.clip [.agg [.int .i64 o,.int .i64 p,.sl (l.map Tm.enc)]]) h [] []:=by
 have:=Jc (.mk o p l) s h k
 rw [Am] at this;exact this
def PH (o:Option (IV×Hp)):Bool:=match o with
 | some (.fv (.bool b),⟨_,[]⟩)=>b
 | _=>false
theorem AcU {o:Option (IV×Hp)} (h:PH o=true):BY o (.bool true):=by
 unfold PH at h;split at h
 ·subst h;exact Ap _ _
 ·cases h
theorem DV (o1 n1 o2 n2:Int) (k1 k2:List FV) (s:Nat) (h:Hp) (k:IV→Hp→List Ref→List Ref→Option (IV×Hp)):Ay (Ah EE 29 2 [(0,.fv (.agg [.int .i64 o1,.int .i64 n1,.sl k1])),(1,.fv (.agg [.int .i64 o2,.int .i64 n2,.sl k2]))]) s h k =
  k (.clip [.agg [.int .i64 o1,.int .i64 n1,.sl k1],.agg [.int .i64 o2,.int .i64 n2,.sl k2]]) h [] []:=Cn S4 tTm (by decide) (cells:=[.int .i64 o1,.int .i64 n1,.sl k1,.int .i64 o2,.int .i64 n2,.sl k2]) rfl k
theorem Ko (o1 n1 o2 n2 o3 n3:Int) (k1 k2 k3:List FV) (s:Nat) (h:Hp) (k:IV→Hp→List Ref→List Ref→Option (IV×Hp)):Ay (Ah EE 29 3 [(0,.fv (.agg [.int .i64 o1,.int .i64 n1,.sl k1])),(1,.fv (.agg [.int .i64 o2,.int .i64 n2,.sl k2])),(2,.fv (.agg [.int .i64 o3,.int .i64 n3,.sl k3]))]) s h k =
  k (.clip [.agg [.int .i64 o1,.int .i64 n1,.sl k1],.agg [.int .i64 o2,.int .i64 n2,.sl k2],.agg [.int .i64 o3,.int .i64 n3,.sl k3]]) h [] []:=Cn S4 tTm (by decide) (cells:=[.int .i64 o1,.int .i64 n1,.sl k1,.int .i64 o2,.int .i64 n2,.sl k2,.int .i64 o3,.int .i64 n3,.sl k3]) rfl k
theorem AnA (o1 n1 o2 n2 o3 n3 o4 n4:Int) (k1 k2 k3 k4:List FV) (s:Nat) (h:Hp) (k:IV→Hp→List Ref→List Ref→Option (IV×Hp)):Ay (Ah EE 29 4 [(0,.fv (.agg [.int .i64 o1,.int .i64 n1,.sl k1])),(1,.fv (.agg [.int .i64 o2,.int .i64 n2,.sl k2])),(2,.fv (.agg [.int .i64 o3,.int .i64 n3,.sl k3])),(3,.fv (.agg [.int .i64 o4,.int .i64 n4,.sl k4]))]) s h k =
  k (.clip [.agg [.int .i64 o1,.int .i64 n1,.sl k1],.agg [.int .i64 o2,.int .i64 n2,.sl k2],.agg [.int .i64 o3,.int .i64 n3,.sl k3],.agg [.int .i64 o4,.int .i64 n4,.sl k4]]) h [] []:=Cn S4 tTm (by decide) (cells:=[.int .i64 o1,.int .i64 n1,.sl k1,.int .i64 o2,.int .i64 n2,.sl k2,.int .i64 o3,.int .i64 n3,.sl k3,.int .i64 o4,.int .i64 n4,.sl k4]) rfl k
theorem ER (o1 n1:Int) (k1:List FV) (s:Nat) (h:Hp) (k:IV→Hp→List Ref→List Ref→Option (IV×Hp)):Ay (Ah EE 29 1 [(0,.fv (.agg [.int .i64 o1,.int .i64 n1,.sl k1]))]) s h k =
  k (.clip [.agg [.int .i64 o1,.int .i64 n1,.sl k1]]) h [] []:=Cn S4 tTm (by decide) (cells:=[.int .i64 o1,.int .i64 n1,.sl k1]) rfl k
def Anj (r:Option (IV×Hp)) (v:FV):Prop:=∃own,r=some (.fv v,⟨own,[]⟩)
theorem Jb {v:FV} {own:List (Nat×Blk)}:Anj (some (.fv v,⟨own,[]⟩)) v:=⟨own,rfl⟩
def Hv:Nat→Tm
 | 0=>.mk 11 0 []
 | n+1=>.mk 12 0 [Hv n]
theorem AmB {g:FuncId} (h:EE.pol.inl g=false) (h1:EE.pol.keep g=[]) (h2:EE.pol.split g=false) (h3:EE.pol.raw g=false) (ih:Aa) (xs:List IV) (h0:Hp) (k:IV→Hp→List Ref→List Ref→Option (IV×Hp)) :
  Jn EE ih (.fv (.func (.func g) [] [])) xs h0 k=Aj [] false false ih g xs h0 k:=by
 unfold Jn;simp only [callee,h,cond_false,AjO,h1,h2,h3,ArL,List.nil_append,List.append_nil]
theorem Alu {n:Nat} (k:Nat) (hn:k+3<n) (hk:k≤1000000):BY (SS dt n 35 [iv k] ⟨[],[]⟩) (Hv k).enc:=by
 obtain ⟨n,rfl⟩:∃j,n=j+1:=⟨n - 1,by omega⟩;rw [c35];have h0:=DS (n:=n) (by omega) 11;rw [Am] at h0;simp only [Qt,QU,Pf,S35,↓XX,XY,↓reduceIte,Nat.reduceBEq,Nat.reduceAdd,Int.reduceEq,Int.reduceLT,Int.reduceLE,↓Ag h0];refine A7 (Q:=fun r=>BY r _) (fun j V H=>∃(i:Nat),i+j=k∧V=[iv k,.ptr (.own 36700160) 0,.ptr (.own 36701185) 0,iv i] ∧
   H=⟨[(36700160,.row [iv 0,iv 0,.nils] false),(36701185,.row [iv (Hv i).op,iv (Hv i).n,.fv (.sl ((Hv i).kids.map Tm.enc))] false)],[]⟩) ?_ n k _ _ (by omega) ⟨0,by omega,rfl,rfl⟩
 rintro j V H rec ⟨i,hi,rfl,rfl⟩ hrec;cases j with
 | zero =>
  have:i=k:=by omega
  subst this;have hno:¬ ((i:Int)<i):=by omega
  generalize Hv i=t;obtain ⟨o,p,l⟩:=t;rw [Am];simp only [Qt,QU,Pf,UP,S35,↓XX,XY,↓reduceIte,Nat.reduceBEq,Nat.reduceAdd,Int.reduceEq,Int.reduceLT,Int.reduceLE,hno,Tm.op,Tm.n,Tm.kids];exact Ap _ _
 | succ j =>
  have hlt:(i:Int)<k:=by omega
  have hw:BN ((i:Int)+1)=((i+1:Nat):Int):=(Au (by omega) (by omega)).trans (by simp);have ht:=C0 (n:=n) (by omega) 12 [Hv i];have h9:=hrec j ([iv k,.ptr (.own 36700160) 0,.ptr (.own 36701185) 0,iv (i+1:Nat)]) (⟨[(36700160,.row [iv 0,iv 0,.nils] false),(36701185,.row [iv 12,iv 0,.fv (.sl ([Hv i].map Tm.enc))] false)],[]⟩) (by omega) ⟨i+1,by omega,rfl,rfl⟩;generalize Hv i=t at *;obtain ⟨o,p,l⟩:=t;simp only [ArM,ArL,Am] at ht h9;simp only [Qt,QU,Pf,UP,S35,↓XX,XY,↓reduceIte,Nat.reduceBEq,Nat.reduceAdd,Int.reduceEq,Int.reduceLT,Int.reduceLE,hlt,Tm.op,Tm.n,Tm.kids,↓AgP,↓Ag ht,hw];exact h9
theorem M5:∀(n:Nat) (t:Tm),t.wt<n→t.wt≤1152921504606846976→BY (SS dt n 36 [.fv t.enc] ⟨[],[]⟩) (.int .i64 t.wt):=by
 intro n
 induction n with
 | zero=>intro t h;omega
 | succ n ih =>
  intro t h hw;obtain ⟨op,m,ks⟩:=t;simp only [Tm.wt] at h hw ⊢;rw [c36,Am];have hlen:=Fr ks;simp only [Q9,Q6,PO,S36,↓XX,XY,↓reduceIte,Nat.reduceBEq,Nat.reduceAdd,Int.reduceEq,Int.reduceLT,Int.reduceLE];refine A7 (Q:=fun r=>BY r _) (fun k V H=>∃(pre rest:List Tm) (acc:Nat),ks=pre++rest∧rest.length=k∧V=[.ptr (.own 37748736) 0,iv acc,iv pre.length]∧H=⟨[(37748736,.row [iv op,iv m,.fv (.sl (ks.map Tm.enc))] false)],[]⟩∧acc+Tm.wtL rest=1+Tm.wtL ks)
   ?_ n ks.length _ _ (by omega) ⟨[],ks,1,rfl,rfl,rfl,rfl,rfl⟩
  rintro k V H rec ⟨pre,rest,acc,hk,hl,rfl,rfl,ht⟩ hrec;have hkl:ks.length=pre.length+rest.length:=by rw [hk];simp
  cases rest with
  | nil =>
   have hno:¬ ((pre.length:Int)<ks.length):=by rw [hkl];simp
   simp only [Tm.wtL] at ht;rw [← ht];simp only [Q9,Q6,PO,Ty,S36,↓XX,XY,↓reduceIte,Nat.reduceBEq,Nat.reduceAdd,Int.reduceEq,Int.reduceLT,Int.reduceLE,hno];exact Ap _ _
  | cons t rest =>
   have hi:(pre.length:Int)<ks.length:=by rw [hkl];simp;omega
   have hg:=CF hk;have htw:=C7 (t:=t) (l:=ks) (by rw [hk];simp);have hs:=ih t (by omega) (by omega);simp only [Tm.wtL] at ht;have hwi:BN ((pre.length:Int)+1)=((pre++[t]).length:Int):=(Au (by omega) (by omega)).trans (by simp);have hwa:BN ((acc:Int)+(t.wt:Int))=((acc+t.wt:Nat):Int):=(Au (by omega) (by omega)).trans (by simp);have h9:=hrec rest.length ([.ptr (.own 37748736) 0,iv (acc+t.wt:Nat),iv (pre++[t]).length]) _ (by simp only [ArK] at hl;omega) ⟨pre++[t],rest,acc+t.wt,by rw [hk];simp,rfl,rfl,rfl,by omega⟩;generalize t.wt=v at hs hwa h9;obtain ⟨o,p,l⟩:=t;rw [Am] at hs;simp only [Q9,Q6,PO,Ty,S36,↓XX,XY,↓reduceIte,Nat.reduceBEq,Nat.reduceAdd,Int.reduceEq,Int.reduceLT,Int.reduceLE,hi,↓Bx (AR hg) (Bh _ _ _),↓Ce,↓An hs,hwi,hwa];exact h9
theorem UE (n:Nat):PH (SS dt (n+60) 14 [] ⟨[],[]⟩)=true:=by kernel_rfl
theorem AcJ {n:Nat} (h:60≤n):BY (SS dt n 14 [] ⟨[],[]⟩) (.bool true):=by
 obtain ⟨k,rfl⟩:∃k,n=k+60:=⟨n - 60,by omega⟩;exact AcU (UE k)
section
variable {β:Type} {E:Env}
def Akk (cs:List IV) (k:List FV→Option β):Option β:=(CV cs).bind k
theorem AhM {t e:TypeId} {a b:Nat} {ei:TI} {z:List IV} (hT:E.T t=some ⟨a,b,.slice e,z⟩) (he:E.T e=some ei) (hs:ei.size=1) (hz:∃x,ei.zero=[x]) (r s:Nat) (own:List (Nat×Blk)) (ext:List Blk)
  (hc:∀cells ro,Ar r own=some (.row cells ro)→cells.length≤100) (hk:∀cells ro,Ar r own=some (.row cells ro)→∃fc,CV cells=some fc) (k:IV→Hp→List Ref→List Ref→Option β) :
  Ay (Ah E t 1 [(0,.ptr (.own r) 0)]) s ⟨own,ext⟩ k=Gx own r fun bl=>EO bl fun cells=>Akk cells fun fc=>A1 own r (.row cells true) fun own=>k (.clip [.fp fc 0]) ⟨own,ext⟩ [.own r] [.own r]:=by
 obtain ⟨x,hx⟩:=hz;have hm:Ah E t 1 [(0,.ptr (.own r) 0)]=(frzL (65534+1+1) [.ptr (.own r) 0]).bind fun (vs,u)=>.ret { eff:={ val:=.clip (BG ei.size 1 vs),upd:=u } }:=by
  have h1:¬ (ei.size=0∨1 * ei.size > 65536):=by rw [hs];omega
  have h2:Cr (fun j=>some (j * ei.size,ei.size)) (N7 1 ei.zero) [(0,.ptr (.own r) 0)]=some [.ptr (.own r) 0]:=by
   rw [hx,hs];rfl
  simp only [Ah,hT,he,if_neg h1,h2]
 rw [hm,BE];unfold Ay;cases hl:Ar r own with
 | none =>
  have:((frzL (65534+1+1) [.ptr (.own r) 0]).bind fun (vs,u)=>Rd.ret ({ eff:={ val:=.clip (BG ei.size 1 vs),upd:=u } }:Made)).runLog ⟨own,ext⟩ []=none:=by
   simp only [frzL,CN,Rd.bind,Rd.runLog,Hp.get,hl]
  rw [this];rfl
 | some bl =>
  cases bl with
  | row cells ro =>
   obtain ⟨fc,hfc⟩:=hk cells ro hl;have hlen:=hc cells ro hl;have h3:frzL 65534 cells=.ret (fc,[]):=WA cells 65534 (by omega) hfc
   have:((frzL (65534+1+1) [.ptr (.own r) 0]).bind fun (vs,u)=>Rd.ret ({ eff:={ val:=.clip (BG ei.size 1 vs),upd:=u } }:Made)).runLog ⟨own,ext⟩ [] =
     some ({ eff:={ val:=.clip (BG ei.size 1 [.fp fc 0]),upd:=[(.own r,.row cells true)] } },[.own r]):=by
    simp only [frzL,CN,Rd.bind,Rd.runLog,Hp.get,hl,h3,List.append_nil]
   rw [this];simp only [Option.bind_some,EO,Akk,hfc,hs]
   show (fRf (.own r) fun q=>Dq q ⟨own,ext⟩ fun _=>fBk (.row cells true) fun b=>FI q b ⟨own,ext⟩ fun h=>I7 none s h fun h=>fV 3 (.clip [.fp fc 0]) fun v=>k v h [.own r] ([.own r]++[]))=_
   simp only [Nt,CT,Cs,I7,FI,Dq];rw [BE,hl];rfl
  | tok n sz =>
   have:((frzL (65534+1+1) [.ptr (.own r) 0]).bind fun (vs,u)=>Rd.ret ({ eff:={ val:=.clip (BG ei.size 1 vs),upd:=u } }:Made)).runLog ⟨own,ext⟩ []=none:=by
    simp only [frzL,CN,Rd.bind,Rd.runLog,Hp.get,hl]
   rw [this];rfl
  | map es =>
   have:((frzL (65534+1+1) [.ptr (.own r) 0]).bind fun (vs,u)=>Rd.ret ({ eff:={ val:=.clip (BG ei.size 1 vs),upd:=u } }:Made)).runLog ⟨own,ext⟩ []=none:=by
    simp only [frzL,CN,Rd.bind,Rd.runLog,Hp.get,hl]
   rw [this];rfl
theorem AmJ {t e:TypeId} {a b:Nat} {ei:TI} {z:List IV} (hT:E.T t=some ⟨a,b,.slice e,z⟩) (he:E.T e=some ei) (hs:ei.size=1) (hz:∃x,ei.zero=[x]) {r:Nat} {own own':List (Nat×Blk)} {cells:List IV} {ro:Bool} {fc:List FV}
  (hl:Ar r own=some (.row cells ro)) (hf:CV cells=some fc) (hn:cells.length≤100) (ho:AT r (.row cells true) own=own') (s:Nat) (ext:List Blk) (k:IV→Hp→List Ref→List Ref→Option β) :
  Ay (Ah E t 1 [(0,.ptr (.own r) 0)]) s ⟨own,ext⟩ k=k (.clip [.fp fc 0]) ⟨own',ext⟩ [.own r] [.own r]:=by
 have h1:∀cells' ro',Ar r own=some (.row cells' ro')→cells'=cells:=fun c r h=>by rw [hl] at h;cases h;rfl
 rw [AhM hT he hs hz r s own ext (fun c r h=>by rw [h1 c r h];exact hn) (fun c r h=>by rw [h1 c r h];exact ⟨fc,hf⟩),BE,hl];simp only [Option.bind_some,EO,Akk,hf,B3,ho]
def Bm (r:Option (IV×Hp)) (w:FV) (ext:List Blk):Prop:=∃v own,r=some (v,⟨own,ext⟩) ∧
 ∃u lg,∀(e:Option (IV×Hp)) (K:FV→List (Ref×Blk)→List Ref→Option (IV×Hp)),FG 12 v ⟨own,ext⟩ [] e K=K w u lg
theorem AE (w:FV) (own:List (Nat×Blk)) (ext:List Blk):Bm (some (.fv w,⟨own,ext⟩)) w ext:=⟨_,own,rfl,[],[],fun _ _=>rfl⟩
theorem EP {v:IV} {w:FV} (hz:A5 v=some w) (own:List (Nat×Blk)) (ext:List Blk):Bm (some (v,⟨own,ext⟩)) w ext:=⟨_,own,rfl,[],[],fun e K=>OB _ _ e K hz⟩
theorem K0:∀l:List FV,Ct (l.map .fv) []=[]
 | []=>rfl
 | v::l=>by
  show SV (.fv v) (Ct (l.map .fv) [])=[]
  rw [K0 l];rfl
theorem Anu (n j:Nat) (t:List Ref) (s:Nat) (rest:List Blk):Og (n+1) (.ext j::t) s rest=cond (Nat.ble (Nat.succ j) s) (Og n t s rest) (cond (Nat.beq j s) (goR (Og n) t s rest) false):=rfl
theorem AnT (n s:Nat):Og (n+1) [] s []=true:=rfl
set_option maxRecDepth 20000 in
theorem VL (st:List FV):Og 400 [.ext 0] 0 [.row (st.map .fv) false]=true:=by
 rw [show (400:Nat)=398+1+1 from rfl,Anu]
 show goR (Og (398+1)) [] 0 [.row (st.map .fv) false]=true
 show Og (398+1) ([]++EQ (.row (st.map .fv) false)) 1 []=true
 rw [show EQ (.row (st.map .fv) false)=Ct (st.map .fv) [] from rfl,K0]
 exact AnT 398 1
theorem AbG (st:List FV):okB 1 [.row (st.map .fv) false]=true:=by
 show cond (okR 1 (EQ (.row (st.map .fv) false))) true false=true
 rw [show EQ (.row (st.map .fv) false)=Ct (st.map .fv) [] from rfl,K0]
 rfl
theorem gb3 (a b c:FV):Og 400 [.ext 0] 0 [.row [.fv a,.fv b,.fv c] false]=true:=VL [a,b,c]
theorem ob3 (a b c:FV):okB 1 [.row [.fv a,.fv b,.fv c] false]=true:=AbG [a,b,c]
theorem gb2 (a b:FV):Og 400 [.ext 0] 0 [.row [.fv a,.fv b] false]=true:=VL [a,b]
theorem ob2 (a b:FV):okB 1 [.row [.fv a,.fv b] false]=true:=AbG [a,b]
theorem Ua {r1:Ref} {rs1:List Ref} {ih:Aa} {f:FuncId} {vs:List IV} {w:FV} {ext ext':List Blk} (hr:Bm (ih f vs ⟨[],ext⟩) w ext') (hg:Og 400 (r1::rs1) 0 ext=true) (hl:ext'.length=ext.length) (ho:okB ext.length ext'=true)
  (own:List (Nat×Blk)) (r0:Option (IV×Hp)) (u:List (Ref×Blk)) (lg:List Ref) (e:Option (IV×Hp)) (k:IV→Hp→List Ref→List Ref→Option (IV×Hp)) :
  AcL (
     r1::rs1) r0 ⟨own,ext⟩ u lg e (fun rs=>match rs with
   | []=>none
   | r::rs=>(match (⟨own,ext⟩:Hp) with
    | ⟨own,ext⟩=>cond (Og 400 (r::rs) 0 ext) (match ih f vs ⟨[],ext⟩ with
     | none=>none
     | some p=>match p with
      | (v,h')=>match h' with
       | ⟨own',ext'⟩=>cond (and (Nat.beq ext'.length ext.length) (okB ext.length ext'))
        (FG 12 v ⟨own',ext'⟩ [] e fun w _ _=>MJ u ⟨own,ext'⟩ fun h2=>k (.fv w) h2 ((CE ext.length).reverse++lg) (Bo u++CE ext.length)) none)
     e)) k=MJ u ⟨own,ext'⟩ fun h2=>k (.fv w) h2 ((CE ext.length).reverse++lg) (Bo u++CE ext.length):=by
 obtain ⟨v,own',e1,u',lg',hz⟩:=hr;simp only [AcL,hg,e1,hl,ho];rw [show (Nat.beq ext.length ext.length && true)=true by rw [Bool.and_true];exact Nat.beq_refl _,cond_true,hz]
 rfl
structure OneX (ext ext':List Blk):Prop where
 g:Og 400 [.ext 0] 0 ext=true
 l:ext.length=1
 l':ext'.length=1
 o:okB 1 ext'=true
theorem Cg (a b c a' b' c':FV):OneX [.row [.fv a,.fv b,.fv c] false] [.row [.fv a',.fv b',.fv c'] false]:=⟨gb3 ..,rfl,rfl,ob3 ..⟩
theorem Ank (a b a' b':FV):OneX [.row [.fv a,.fv b] false] [.row [.fv a',.fv b'] false]:=⟨gb2 ..,rfl,rfl,ob2 ..⟩
theorem Tf (x:Nat):∀(args:List IV) {vs:List FV} (h:Hp) (lg:List Ref) (e:Option β) (k:List IV→List Ref→List (Ref×Blk)→List Ref→Option β) (ks:List Bool),(∀b∈ks,b=false)→BI args=some vs →
  fzA args ks h lg e k=k (vs.map .fv) [] [] lg
 | [],vs,h,lg,e,k,ks,_,hz=>by cases hz;rfl
 | v::l,vs,h,lg,e,k,[],_,hz=>AdO (v::l) h lg e k hz
 | v::l,vs,h,lg,e,k,b::ks,hk,hz=>by
  have hb:=hk b List.mem_cons_self;subst hb;simp only [BI] at hz;cases h1:A5 v with
  | none=>rw [h1] at hz;cases hz
  | some x' =>
   rw [h1] at hz;cases h2:BI l with
   | none=>rw [h2] at hz;cases hz
   | some ys =>
    rw [h2] at hz;cases hz;rw [UX,OB h lg e _ h1,Tf x l h lg e _ ks (fun c hc=>hk c (List.mem_cons_of_mem _ hc)) h2];rfl
theorem Afn {ks:List Bool} (hks:∀b∈ks,b=false) {ih:Aa} {f:FuncId} {args:List IV} {vs:List FV} {w:FV} {ext ext':List Blk} (hz:BI args=some vs) (X:OneX ext ext') (hr:Bm (ih f (.ptr (.ext 0) 0::vs.map .fv) ⟨[],ext⟩) w ext')
  (own:List (Nat×Blk)) (k:IV→Hp→List Ref→List Ref→Option (IV×Hp)):Aj (true::ks) false false ih f (.ptr (.ext 0) 0::args) ⟨own,ext⟩ k=k (.fv w) ⟨own,ext'⟩ [.ext 0] [.ext 0]:=by
 rw [OG,Afa,Uc,Tf 0 args _ _ _ _ ks hks hz]
 have:=Ua (r1:=.ext 0) (rs1:=[]) hr X.g (by rw [X.l,X.l']) (by rw [X.l];exact X.o) own (ih f (.ptr (.ext 0) 0::vs.map .fv) ⟨[],[]⟩) [] [] (Gq (true::ks) false false ih f (.ptr (.ext 0) 0::args) ⟨own,ext⟩ k) k
 refine this.trans ?_;rw [X.l];rfl
theorem DH {ih:Aa} {f:FuncId} {w:FV} {ext ext':List Blk} (hr:Bm (ih f [.ptr (.ext 0) 0] ⟨[],ext⟩) w ext') (X:OneX ext ext') (own:List (Nat×Blk)) (k:IV→Hp→List Ref→List Ref→Option (IV×Hp)) :
  Aj [true] false false ih f [.ptr (.ext 0) 0] ⟨own,ext⟩ k=k (.fv w) ⟨own,ext'⟩ [.ext 0] [.ext 0]:=Afn (ks:=[]) (by simp) (vs:=[]) rfl X hr own k
theorem I6 {ih:Aa} {f:FuncId} {a b:IV} {x y w:FV} {ext ext':List Blk} (hr:Bm (ih f [.ptr (.ext 0) 0,.fv x,.fv y] ⟨[],ext⟩) w ext') (X:OneX ext ext') (ha:A5 a=some x) (hb:A5 b=some y) (own:List (Nat×Blk))
  (k:IV→Hp→List Ref→List Ref→Option (IV×Hp)):Aj [true,false,false] false false ih f [.ptr (.ext 0) 0,a,b] ⟨own,ext⟩ k=k (.fv w) ⟨own,ext'⟩ [.ext 0] [.ext 0]:=Afn (ks:=[false,false]) (by simp) (UG ha hb) X hr own k
theorem Afg {ih:Aa} {f:FuncId} {a b c:IV} {x y z w:FV} {ext ext':List Blk} (hr:Bm (ih f [.ptr (.ext 0) 0,.fv x,.fv y,.fv z] ⟨[],ext⟩) w ext') (X:OneX ext ext') (ha:A5 a=some x) (hb:A5 b=some y) (hc:A5 c=some z)
  (own:List (Nat×Blk)) (k:IV→Hp→List Ref→List Ref→Option (IV×Hp)):Aj [true,false,false,false] false false ih f [.ptr (.ext 0) 0,a,b,c] ⟨own,ext⟩ k=k (.fv w) ⟨own,ext'⟩ [.ext 0] [.ext 0] :=
 Afn (ks:=[false,false,false]) (by simp) (Acl ha hb hc) X hr own k
theorem RN {ih:Aa} {f:FuncId} {s:Nat} {own:List (Nat×Blk)} {cells:List IV} {ro:Bool} {fc:List FV} {w:FV} {ext ext':List Blk} (hr:Bm (ih f [.ptr (.ext 0) 0,.fv (.fp fc 0)] ⟨[],ext⟩) w ext') (X:OneX ext ext')
  (hl:Ar s own=some (.row cells ro)) (hz:CV cells=some fc) (hn:cells.length≤300) (k:IV→Hp→List Ref→List Ref→Option (IV×Hp)) :
  Aj [true,false] false false ih f [.ptr (.ext 0) 0,.ptr (.own s) 0] ⟨own,ext⟩ k=k (.fv w) ⟨AT s (.row cells true) own,ext'⟩ [.ext 0,.own s] [.own s,.ext 0]:=by
 rw [OG,Afa,Uc,UX,T7,My,BE,hl];simp only [Option.bind_some,Le];rw [Bf,decide_eq_true hn,c_t,V0 10 _ _ _ cells _ hz,fz0]
 have:=Ua (r1:=.ext 0) (rs1:=[]) hr X.g (by rw [X.l,X.l']) (by rw [X.l];exact X.o) own (ih f [.ptr (.ext 0) 0,.fv (.fp fc 0)] ⟨[],[]⟩) [(.own s,.row cells true)] [.own s] (Gq [true,false] false false ih f [.ptr (.ext 0) 0,.ptr (.own s) 0] ⟨own,ext⟩ k) k
 refine this.trans ?_;rw [X.l]
 show (Gx own s fun _=>A1 own s (.row cells true) fun own=>k (.fv w) ⟨own,ext'⟩ [.ext 0,.own s] [.own s,.ext 0])=_
 rw [BE,hl,Option.bind_some,B3]
end
end Idl
end Go.Proofs.Ytbkdidonegggdaa
namespace Go.Proofs.Ytbkdidonegggdaa
namespace Idl
inductive RV where
 | mk (op n:Int) (k env:List RV) (b:Tm)
def Tm.z:Tm:=.mk 0 0 []
def RV.enc:RV→FV
 | .mk op n k env (.mk bo bn bk)=>.fp [.int .i64 op,.int .i64 n,.sl (encL k),.sl (encL env),.int .i64 bo,.int .i64 bn,.sl (bk.map Tm.enc)] 0
where
 encL:List RV→List FV
  | []=>[]
  | v::l=>v.enc::encL l
theorem AdQ (l:List RV):RV.enc.encL l=l.map RV.enc:=by
 induction l with
 | nil=>rfl
 | cons t l ih=>simp [RV.enc.encL,ih]
theorem Ik (op n:Int) (k env:List RV) (bo bn:Int) (bk:List Tm):(RV.mk op n k env (.mk bo bn bk)).enc =
  .fp [.int .i64 op,.int .i64 n,.sl (k.map RV.enc),.sl (env.map RV.enc),.int .i64 bo,.int .i64 bn,.sl (bk.map Tm.enc)] 0:=by simp only [RV.enc,AdQ]
def RV.op:RV→Int
 | .mk op _ _ _ _=>op
def RV.n:RV→Int
 | .mk _ n _ _ _=>n
def RV.k:RV→List RV
 | .mk _ _ k _ _=>k
def RV.env:RV→List RV
 | .mk _ _ _ env _=>env
def RV.b:RV→Tm
 | .mk _ _ _ _ b=>b
def RV.var (n:Int):RV:=.mk 1 n [] [] .z
def RV.clo (env:List RV) (b:Tm):RV:=.mk 0 0 [] env b
def RV.zero:RV:=.mk 11 0 [] [] .z
def RV.node (op n:Int) (k:List RV):RV:=.mk op n k [] .z
theorem LW (v:RV):v.enc=.fp [.int .i64 v.op,.int .i64 v.n,.sl (v.k.map RV.enc),.sl (v.env.map RV.enc),.int .i64 v.b.op,.int .i64 v.b.n,.sl (v.b.kids.map Tm.enc)] 0:=by
 obtain ⟨op,n,k,env,⟨bo,bn,bk⟩⟩:=v;exact Ik ..
theorem Uu (t:Tm):Tm.enc t=.agg [.int .i64 t.op,.int .i64 t.n,.sl (t.kids.map Tm.enc)]:=by cases t;exact Am ..
theorem Nj (v:RV):v.enc.cells.length=1:=by obtain ⟨op,n,k,env,⟨bo,bn,bk⟩⟩:=v;rfl
theorem ST (v:RV):v.enc.cells.all FV.one=true:=by obtain ⟨op,n,k,env,⟨bo,bn,bk⟩⟩:=v;rfl
theorem Acp (v:RV):v.enc.cells=[v.enc]:=by obtain ⟨op,n,k,env,⟨bo,bn,bk⟩⟩:=v;rfl
theorem tVs:EE.T 93=some ⟨1,24,.slice 72,[.nils]⟩:=by kernel_rfl
theorem tVp:EE.T 72=some ⟨1,8,.ptr,[.fv .nilp]⟩:=by kernel_rfl
theorem sV:SliceT EE 93 1:=⟨_,_,_,_,_,tVs,tVp,rfl,by decide,by decide⟩
theorem Jg (l:List RV):Bv 1 (l.map RV.enc)=true:=by
 cases l with
 | nil=>rfl
 | cons a l=>simp only [ArM,Bv,Nj,beq_self_eq_true]
theorem AiM (s:Nat) (h:Hp) (k:IV→Hp→List Ref→List Ref→Option (IV×Hp)):Ay (Ah EE 93 0 []) s h k=k (.clip []) h [] [] :=
 Cn tVs tVp (by decide) (cells:=[]) rfl k
theorem SB (a:RV) (s:Nat) (h:Hp) (k:IV→Hp→List Ref→List Ref→Option (IV×Hp)):Ay (Ah EE 93 1 [(0,.fv a.enc)]) s h k=k (.clip [a.enc]) h [] []:=by
 obtain ⟨op,n,kk,env,⟨bo,bn,bk⟩⟩:=a;rw [Ik];exact Cn tVs tVp (by decide) (cells:=[.fp [.int .i64 op,.int .i64 n,.sl (kk.map RV.enc),.sl (env.map RV.enc),.int .i64 bo,.int .i64 bn,.sl (bk.map Tm.enc)] 0]) rfl k
theorem Ani (a b:RV) (s:Nat) (h:Hp) (k:IV→Hp→List Ref→List Ref→Option (IV×Hp)):Ay (Ah EE 93 2 [(0,.fv a.enc),(1,.fv b.enc)]) s h k=k (.clip [a.enc,b.enc]) h [] []:=by
 obtain ⟨op,n,kk,env,⟨bo,bn,bk⟩⟩:=a;obtain ⟨op',n',kk',env',⟨bo',bn',bk'⟩⟩:=b;rw [Ik,Ik];exact Cn tVs tVp (by decide) (cells:=[.fp [.int .i64 op,.int .i64 n,.sl (kk.map RV.enc),.sl (env.map RV.enc),.int .i64 bo,.int .i64 bn,.sl (bk.map Tm.enc)] 0,.fp [.int .i64 op',.int .i64 n',.sl (kk'.map RV.enc),.sl (env'.map RV.enc),.int .i64 bo',.int .i64 bn',.sl (bk'.map Tm.enc)] 0]) rfl k
theorem AmR (a b c d:RV) (s:Nat) (h:Hp) (k:IV→Hp→List Ref→List Ref→Option (IV×Hp)):Ay (Ah EE 93 4 [(0,.fv a.enc),(1,.fv b.enc),(2,.fv c.enc),(3,.fv d.enc)]) s h k =
  k (.clip [a.enc,b.enc,c.enc,d.enc]) h [] []:=by
 have key:∀x:RV,∃l,x.enc=.fp l 0:=fun x=>⟨_,LW x⟩;obtain ⟨la,ha⟩:=key a;obtain ⟨lb,hb⟩:=key b;obtain ⟨lc,hc⟩:=key c;obtain ⟨ld,hd⟩:=key d;rw [ha,hb,hc,hd];exact Cn tVs tVp (by decide) (cells:=[.fp la 0,.fp lb 0,.fp lc 0,.fp ld 0]) rfl k
theorem Af3 (e:RV) (s:Nat) (own:List (Nat×Blk)) (ext:List Blk) (k:IV→Hp→List Ref→List Ref→Option (IV×Hp)) :
  Ay (AU EE s false .append [93,93] [.nils,.clip [e.enc]]) s ⟨own,ext⟩ k=CG own s (A1 own s (.tok 1 1) fun own=>k (.app (.own s) [e.enc]) ⟨own,ext⟩ [] [.own s]) :=
 LC sV (.clip _) (Jg [e]) rfl (by simp) (.inl rfl) s own ext k
theorem UB {es:List RV} (hb:es.length+1≤1000000) (e:RV) (r s:Nat) (own:List (Nat×Blk)) (ext:List Blk) (k:IV→Hp→List Ref→List Ref→Option (IV×Hp)) :
  Ay (AU EE s false .append [93,93] [.app (.own r) (es.map RV.enc),.clip [e.enc]]) s ⟨own,ext⟩ k =
   Gx own r fun b=>Ae3 b es.length 1 (A1 own r (.tok (es.length+1) 1) fun own=>k (.app (.own r) ((es++[e]).map RV.enc)) ⟨own,ext⟩ [.own r] [.own r]):=by
 rw [Sv sV (.clip [e.enc]) (Jg [e]) (Jg es) (by simp [ST]) (by simpa using hb) r s own ext k];simp only [List.length_map,List.map_append,ArM,ArL,ArK,List.length_nil,Nat.zero_add]
theorem RR {n:Nat} (hn:0<n) (env vs:List RV) (hv:vs≠[]) (hb:env.length+vs.length≤1000000):BY (SS dt n 69 [.fv (.sl (env.map RV.enc)),.fv (.sl (vs.map RV.enc))] ⟨[],[]⟩) (.sl ((env++vs).map RV.enc)):=by
 obtain ⟨n,rfl⟩:∃k,n=k+1:=⟨n - 1,by omega⟩;rw [c69];have hvs:(vs.map RV.enc).isEmpty=false:=by cases vs with
  | nil=>exact absurd rfl hv
  | cons _ _=>rfl
 cases env with
 | nil =>
  simp only [S69,↓XX,XY,↓reduceIte,Nat.reduceBEq,Nat.reduceAdd,Int.reduceEq,Int.reduceLT,Int.reduceLE,↓AiM,↓Aiy sV (.sl []) (.inr rfl),↓LC sV (.sl (vs.map RV.enc)) (Jg vs) hvs (by simp;simp at hb;omega) (.inr rfl),List.nil_append];exact Ba rfl _
 | cons a env =>
  simp only [S69,↓XX,XY,↓reduceIte,Nat.reduceBEq,Nat.reduceAdd,Int.reduceEq,Int.reduceLT,Int.reduceLE,↓AiM];have h1:((a::env).map RV.enc).isEmpty=false:=rfl;have h0:=fun {β:Type}=>LC (β:=β) sV (.sl ((a::env).map RV.enc)) (Jg (a::env)) h1 (by simp only [List.length_map];omega) (.inr rfl:IV.clip []=.nils∨IV.clip []=.clip []);have h2:=fun {β:Type}=>Sv (β:=β) sV (.sl (vs.map RV.enc)) (Jg vs) (Jg (a::env)) (by simp [ST]) (by simp only [List.length_map];omega);simp only [ArM] at h0 h2;simp only [↓XX,XY,↓reduceIte,Nat.reduceBEq,Nat.reduceAdd,Int.reduceEq,Int.reduceLT,Int.reduceLE,↓h0,↓h2,↓HL,List.map_append,List.cons_append];exact Ba rfl _
theorem AeJ {n:Nat} (hn:0<n) (s nd:Int) (h1:s≤1000000) (h0:0≤s):Bm (SS dt n 86 [.ptr (.ext 0) 0] ⟨[],[.row [iv s,iv nd,iv 0] false]⟩) (.bool (decide (s+1≤1000)))
  [.row [iv (s+1),iv nd,iv (if s+1≤1000 then 0 else 17)] false]:=by
 obtain ⟨n,rfl⟩:∃k,n=k+1:=⟨n - 1,by omega⟩;rw [c86];have hw:BN (s+1)=s+1:=by rw [Au]<;>omega
 by_cases h:s+1≤1000
 ·have h':¬ 1000<s+1:=by omega
  simp only [Va,Uy,TH,U8,S86,↓XX,XY,↓reduceIte,Nat.reduceBEq,Nat.reduceAdd,Int.reduceEq,Int.reduceLT,Int.reduceLE,hw,h,h'];exact AE _ _ _
 ·have h':1000<s+1:=by omega
  simp only [Va,Uy,TH,U8,S86,↓XX,XY,↓reduceIte,Nat.reduceBEq,Nat.reduceAdd,Int.reduceEq,Int.reduceLT,Int.reduceLE,hw,h,h'];exact AE _ _ _
def AV (ev:Int→Int→Tm→Option (RV×Int×Int)) (op:Int) (env:List RV):Nat→List Tm→Int→Int→Option (List RV×Int×Int)
 | _,[],s,e=>some ([],s,e)
 | i,t::l,s,e=>if 0<Ae op i then (AV ev op env (i+1) l s e).map fun (vs,s,e)=>(.clo env t::vs,s,e) else
  match ev s e t with
  | none=>none
  | some (v,s,e)=>(AV ev op env (i+1) l s e).map fun (vs,s,e)=>(v::vs,s,e)
mutual
def AA:Nat→Int→Int→Tm→List RV→Option (RV×Int×Int)
 | 0,_,_,_,_=>none
 | f+1,s,e,.mk op m ks,env =>
  if e≠0 then some (.zero,s,e) else if 900000<env.length then none else
  if op=1 then
   if m<env.length then (if 0≤m then (env[(env.length - 1 - m).toNat]?).map fun v=>(v,s,e) else none)
   else if m≤4611686018427387904 then some (.var (env.length - 1 - m),s,e) else none
  else if f≤ks.length then none else if 900000<ks.length then none else
  match AV (fun s e t=>AA f s e t env) op env 0 ks s e with
  | none=>none
  | some (vs,s,e)=>headR f s e (.node op m vs)
def headR:Nat→Int→Int→RV→Option (RV×Int×Int)
 | 0,_,_,_=>none
 | f+1,s,e,v =>
  if e≠0 then some (v,s,e) else if s<0∨1000000<s then none else
  if v.op=5 then (match v.k[0]? with
   | none=>none
   | some k0=>if k0.op=4 then
     (if s+1≤1000 then (match k0.k[1]?,v.k[1]? with
      | some c,some x=>if 900000<c.env.length then none else AA f (s+1) 0 c.b (c.env++[x])
      | _,_=>none) else some (v,s+1,17))
    else some (v,s,e))
  else if v.op=8∨v.op=9 then (match v.k[0]? with
   | none=>none
   | some k0=>if k0.op=7 then
     (if s+1≤1000 then (k0.k[(1+v.op - 8).toNat]?).map fun x=>(x,s+1,0) else some (v,s+1,17))
    else some (v,s,e))
  else if v.op=30 then (match v.k[0]? with
   | none=>none
   | some k0=>if k0.op=19 then
     (if s+1≤1000 then (k0.k[0]?).map fun x=>(x,s+1,0) else some (v,s+1,17))
    else some (v,s,e))
  else if v.op=19 then (match v.k[0]? with
   | none=>none
   | some k0=>if k0.op=30 then
     (if s+1≤1000 then (k0.k[0]?).map fun x=>(x,s+1,0) else some (v,s+1,17))
    else some (v,s,e))
  else if v.op=13 then (match v.k[0]?,v.k[1]?,v.k[2]?,v.k[3]? with
   | some k0,some k1,some k2,some k3 =>
    if k3.op=11 then (if s+1≤1000 then some (k1,s+1,0) else some (v,s+1,17))
    else if k3.op=12 then
     (if s+1≤1000 then (match k3.k[0]? with
      | none=>none
      | some x=>(match headR f (s+1) 0 (.node 13 0 [k0,k1,k2,x]) with
       | none=>none
       | some (h,s,e)=>if 900000<k2.env.length then none else AA f s e k2.b (k2.env++[x,h])))
     else some (v,s+1,17))
    else some (v,s,e)
   | _,_,_,_=>none)
  else some (v,s,e)
end
theorem Uf {β:Type} {l:List RV} {i:Nat} {v:RV} (h:l[i]?=some v) (k:IV→Option β):Bc 1 (.fv (.sl (l.map RV.enc))) (iv i) k=k (.fv (.fp [v.enc] 0)):=by
 have h1:(l.map RV.enc)[i]?=some v.enc:=by rw [List.getElem?_map,h];rfl
 rw [Bx h1 (Nj v),Acp]
def Pu (f:Nat):Prop:=∀(s e:Int) (t:Tm) (env:List RV) (v:RV) (s' e' nd:Int),AA f s e t env=some (v,s',e')→∀n,f+1≤n →
 Bm (SS dt n 49 [.ptr (.ext 0) 0,.fv t.enc,.fv (.sl (env.map RV.enc))] ⟨[],[.row [iv s,iv nd,iv e] false]⟩) v.enc [.row [iv s',iv nd,iv e'] false]
def PM (f:Nat):Prop:=∀(s e:Int) (v w:RV) (s' e' nd:Int),headR f s e v=some (w,s',e')→∀n,f+1≤n →
 Bm (SS dt n 70 [.ptr (.ext 0) 0,.fv v.enc] ⟨[],[.row [iv s,iv nd,iv e] false]⟩) w.enc [.row [iv s',iv nd,iv e'] false]
abbrev WY (op m:Int) (ks:List Tm) (K:IV) (tok:List (Nat×Blk)) (s nd e:Int):Hp :=
 ⟨(51380224,.row [iv op,iv m,.fv (.sl (ks.map Tm.enc))] false)::(51387397,.row [iv op,iv m,K,.nils,iv 0,iv 0,.nils] false)::tok,[.row [iv s,iv nd,iv e] false]⟩
theorem AmE {op m:Int} (l:List RV):(RV.node op m l).enc=.fp [.int .i64 op,.int .i64 m,.sl (l.map RV.enc),.sl [],.int .i64 0,.int .i64 0,.sl []] 0:=by rw [RV.node,Tm.z,Ik];rfl
theorem AcO {f:Nat} (he:Pu f) (hh:PM f):Pu (f+1):=by
 intro s e t env v s' e' nd hev n hn;obtain ⟨n,rfl⟩:∃k,n=k+1:=⟨n - 1,by omega⟩;rw [c49];obtain ⟨op,m,ks⟩:=t;rw [Am];rw [AA] at hev;by_cases h0:e≠0
 ·rw [if_pos h0] at hev;simp only [ArG,ArH] at hev;obtain ⟨rfl,rfl,rfl⟩:=hev;simp only [IM,HO,ID,Ip,It,Ii,HY,H8,IL,HP,Il,IB,IA,Im,IN,Ie,IE,IC,HX,H6,HS,Iw,S49,↓XX,XY,↓reduceIte,Nat.reduceBEq,Nat.reduceAdd,Int.reduceEq,Int.reduceLT,Int.reduceLE,h0];exact ⟨_,_,rfl,_,_,fun _ _=>rfl⟩
 ·have h0':e=0:=by omega
  subst h0';rw [if_neg h0] at hev;by_cases hlen:900000<env.length
  ·rw [if_pos hlen] at hev;cases hev
  ·rw [if_neg hlen] at hev;by_cases h1:op=1
   ·rw [if_pos h1] at hev;subst h1;by_cases h2:m<env.length
    ·rw [if_pos h2] at hev;by_cases h3:0≤m
     ·rw [if_pos h3] at hev;cases hg:env[(env.length - 1 - m).toNat]? with
      | none=>rw [hg] at hev;cases hev
      | some u =>
       rw [hg] at hev;simp only [ArJ,ArG,ArH] at hev;obtain ⟨rfl,rfl,rfl⟩:=hev;have e1:BN ((env.length:Int) - 1)=env.length - 1:=by rw [Au]<;>omega
       have e2:BN ((env.length:Int) - 1 - m)=(((env.length:Int) - 1 - m).toNat:Int):=by rw [Au]<;>omega
       simp only [IM,HO,ID,Ip,It,Ii,HY,H8,IL,HP,Il,IB,IA,Im,IN,Ie,IE,IC,HX,H6,HS,Iw,S49,↓XX,XY,↓reduceIte,Nat.reduceBEq,Nat.reduceAdd,Int.reduceEq,Int.reduceLT,Int.reduceLE,h2,e1,e2,↓Uf hg];exact AE _ _ _
     ·rw [if_neg h3] at hev;cases hev
    ·rw [if_neg h2] at hev;by_cases h3:m≤4611686018427387904
     ·rw [if_pos h3] at hev;simp only [ArG,ArH] at hev;obtain ⟨rfl,rfl,rfl⟩:=hev;have e1:BN ((env.length:Int) - 1)=env.length - 1:=by rw [Au]<;>omega
      have e2:BN ((env.length:Int) - 1 - m)=(env.length:Int) - 1 - m:=by rw [Au]<;>omega
      simp only [IM,HO,ID,Ip,It,Ii,HY,H8,IL,HP,Il,IB,IA,Im,IN,Ie,IE,IC,HX,H6,HS,Iw,S49,↓XX,XY,↓reduceIte,Nat.reduceBEq,Nat.reduceAdd,Int.reduceEq,Int.reduceLT,Int.reduceLE,h2,e1,e2];exact ⟨_,_,rfl,_,_,fun _ _=>rfl⟩
     ·rw [if_neg h3] at hev;cases hev
   ·rw [if_neg h1] at hev;by_cases hf:f≤ks.length
    ·rw [if_pos hf] at hev;cases hev
    ·rw [if_neg hf] at hev;by_cases hk9:900000<ks.length
     ·rw [if_pos hk9] at hev;cases hev
     ·rw [if_neg hk9] at hev;cases hkg:AV (fun s e t=>AA f s e t env) op env 0 ks s 0 with
      | none=>rw [hkg] at hev;cases hev
      | some q =>
      obtain ⟨vs,s1,e1⟩:=q;rw [hkg] at hev;simp only at hev;simp only [IM,HO,ID,Ip,It,Ii,HY,H8,IL,HP,Il,IB,IA,Im,IN,Ie,IE,IC,HX,H6,HS,Iw,S49,↓XX,XY,↓reduceIte,Nat.reduceBEq,Nat.reduceAdd,Int.reduceEq,Int.reduceLT,Int.reduceLE,h1,↓AJ,XD,heldB,AO,XE];refine A7 (Q:=fun r=>Bm r _ _) (fun k V H=>∃pre rest done s2 e2 us s3 e3,ks=pre++rest∧rest.length=k∧done.length=pre.length∧V=[.ptr (.ext 0) 0,.fv (.sl (env.map RV.enc)),.ptr (.own 51380224) 0,.ptr (.own 51387397) 0,iv pre.length] ∧
       (
        (pre=[]∧H=WY op m ks .nils [] s2 nd e2) ∨
        (∃r,(r=51392526∨r=51393550)∧pre≠[]∧H=WY op m ks (.app (.own r) (done.map RV.enc)) [(r,.tok done.length 1)] s2 nd e2)) ∧
       AV (fun s e t=>AA f s e t env) op env pre.length rest s2 e2=some (us,s3,e3)∧headR f s3 e3 (.node op m (done++us))=some (v,s',e'))
       ?_ n ks.length _ _ (by omega) ⟨[],ks,[],s,0,vs,s1,e1,rfl,rfl,rfl,rfl,.inl ⟨rfl,rfl⟩,hkg,hev⟩
      rintro k V H rec ⟨pre,rest,done,s2,e2,us,s3,e3,hk,hl,hdl,rfl,hH,hkids,hhead⟩ hrec;have hkl:ks.length=pre.length+rest.length:=by rw [hk];simp
      have zenc:∀l:List RV,(RV.node op m l).enc=.fp [.int .i64 op,.int .i64 m,.sl (l.map RV.enc),.sl [],.int .i64 0,.int .i64 0,.sl []] 0:=fun l=>AmE l;cases rest with
      | nil =>
       simp only [AV,ArG,ArH] at hkids;obtain ⟨rfl,rfl,rfl⟩:=hkids;rw [List.append_nil] at hhead;have hc:=hh s2 e2 _ v s' e' nd hhead n (by omega);rw [zenc] at hc;have hpre:ks=pre:=by simpa using hk
       subst hpre;rcases hH with ⟨rfl,rfl⟩ | ⟨r,hr,hne,rfl⟩
       ·have hd:done=[]:=List.length_eq_zero_iff.1 hdl;subst hd;have hcall:=fun k=>RN (k:=k) (own:=[(51380224,.row [iv op,iv m,.fv (.sl (([]:List Tm).map Tm.enc))] false),(51387397,.row [iv op,iv m,.nils,.nils,iv 0,iv 0,.nils] false)])
         (cells:=[iv op,iv m,.nils,.nils,iv 0,iv 0,.nils]) (ro:=false) (s:=51387397) hc (Cg ..) (by simp [Ar]) rfl (by simp)
        simp only [↓R9,↓XX,XY,↓reduceIte,Nat.reduceBEq,Nat.reduceAdd,Int.reduceEq,Int.reduceLT,Int.reduceLE,Int.lt_irrefl,↓hcall];exact AE _ _ _
       ·have hcall:=fun k=>RN (k:=k) (own:=[(51380224,.row [iv op,iv m,.fv (.sl (ks.map Tm.enc))] false),(51387397,.row [iv op,iv m,.app (.own r) (done.map RV.enc),.nils,iv 0,iv 0,.nils] false),(r,.tok done.length 1)])
         (cells:=[iv op,iv m,.app (.own r) (done.map RV.enc),.nils,iv 0,iv 0,.nils]) (ro:=false) (s:=51387397) hc (Cg ..) (by simp [Ar]) rfl (by simp)
        simp only [↓R9,↓XX,XY,↓reduceIte,Nat.reduceBEq,Nat.reduceAdd,Int.reduceEq,Int.reduceLT,Int.reduceLE,Int.lt_irrefl,↓hcall];exact AE _ _ _
      | cons t rest =>
       have hi:(pre.length:Int)<ks.length:=by rw [hkl];simp;omega
       have hg:=CF hk;have hb:=Fv (n:=n) (by omega) op pre.length;have hwi:BN ((pre.length:Int)+1)=((pre++[t]).length:Int):=(Au (by omega) (by omega)).trans (by simp);have hbi:(0<(Ae op pre.length:Int)) ↔ 0<Ae op pre.length:=by omega
       have hd9:done.length+1≤1000000:=by omega
       simp only [AV] at hkids;simp only [ArK] at hl;by_cases hbp:0<Ae op pre.length
       ·rw [if_pos hbp] at hkids;cases hkk:AV (fun s e t=>AA f s e t env) op env (pre.length+1) rest s2 e2 with
        | none=>rw [hkk] at hkids;cases hkids
        | some q =>
        obtain ⟨us',s4,e4⟩:=q;rw [hkk] at hkids;simp only [ArJ,ArG,ArH] at hkids;obtain ⟨rfl,rfl,rfl⟩:=hkids;have hbp':0<(Ae op pre.length:Int):=by omega
        have hce:(RV.clo env t).enc=.fp [.int .i64 0,.int .i64 0,.sl [],.sl (env.map RV.enc),.int .i64 t.op,.int .i64 t.n,.sl (t.kids.map Tm.enc)] 0:=by rw [LW];rfl
        have hnext:∀tk,(tk=51392526∨tk=51393550)→Bm (rec [.ptr (.ext 0) 0,.fv (.sl (env.map RV.enc)),.ptr (.own 51380224) 0,.ptr (.own 51387397) 0,iv (pre++[t]).length]
          (WY op m ks (.app (.own tk) ((done++[RV.clo env t]).map RV.enc)) [(tk,.tok (done++[RV.clo env t]).length 1)] s2 nd e2)) v.enc [.row [iv s',iv nd,iv e'] false]:=fun tk htk =>
         hrec rest.length _ _ (by omega) ⟨pre++[t],rest,done++[.clo env t],s2,e2,us',s4,e4,by rw [hk];simp,rfl,by simp [hdl],rfl,.inr ⟨tk,htk,by simp,rfl⟩,by simpa using hkk,by simpa using hhead⟩
        obtain ⟨o,p,l⟩:=t;simp only [Tm.op,Tm.n,Tm.kids] at hce;have ha0:=fun {s own ext k}=>Af3 (RV.clo env (.mk o p l)) s own ext k;have ha1:=fun {r s own ext k}=>UB hd9 (RV.clo env (.mk o p l)) r s own ext k;rw [hce] at ha0 ha1;have hbs:=fun (tl:List (Nat×Blk)) (K:IV) (own:List (Nat×Blk)) (hown:own=(51380224,.row [iv op,iv m,.fv (.sl (ks.map Tm.enc))] false)::(51387397,.row [iv op,iv m,K,.nils,iv 0,iv 0,.nils] false)::tl) (hl:Ar 51392524 own=some (.row [iv 0,iv 0,.nils,.fv (.sl (env.map RV.enc)),iv o,iv p,.fv (.sl (l.map Tm.enc))] false)) (own':List (Nat×Blk)) (ho) s ext (k:IV→Hp→List Ref→List Ref→Option (IV×Hp)) =>
         AmJ (E:=EE) (own:=own) (own':=own') tVs tVp rfl ⟨_,rfl⟩ hl (fc:=[.int .i64 0,.int .i64 0,.sl [],.sl (env.map RV.enc),.int .i64 o,.int .i64 p,.sl (l.map Tm.enc)]) rfl (by simp) ho s ext k
        rcases hH with ⟨hp0,rfl⟩ | ⟨r,hr,hne,rfl⟩
        ·have hd0:done=[]:=List.length_eq_zero_iff.1 (by rw [hdl,hp0];rfl);subst hd0;have h9:=hnext _ (.inl rfl);simp only [List.nil_append,ArM,ArL,ArK,List.length_nil] at h9;rw [hce] at h9;have hb0:=fun s ext k=>hbs [(51392524,.row [iv 0,iv 0,.nils,.fv (.sl (env.map RV.enc)),iv o,iv p,.fv (.sl (l.map Tm.enc))] false)] .nils _ rfl (by simp [Ar])
          [(51380224,.row [iv op,iv m,.fv (.sl (ks.map Tm.enc))] false),(51387397,.row [iv op,iv m,.nils,.nils,iv 0,iv 0,.nils] false),(51392524,.row [iv 0,iv 0,.nils,.fv (.sl (env.map RV.enc)),iv o,iv p,.fv (.sl (l.map Tm.enc))] true)] (by simp [AT]) s ext k
         simp only [↓R9,↓XX,XY,↓reduceIte,Nat.reduceBEq,Nat.reduceAdd,Int.reduceEq,Int.reduceLT,Int.reduceLE,hi,↓Bx (AR hg) (Bh _ _ _),↓Ce,↓Ag hb,hbp',hwi,↓hb0,↓ha0,↓AJ,XD,heldB,AO,XE];exact h9
        ·have h9:=hnext r hr;rw [show (done++[RV.clo env (Tm.mk o p l)]).length=done.length+1 by simp] at h9
         simp only [List.map_append,ArM,ArL] at h9;rw [hce] at h9;simp only [List.map_append,ArM,ArL] at ha1;rw [hce] at ha1;have hb0:=fun s ext k=>hbs [(r,.tok done.length 1),(51392524,.row [iv 0,iv 0,.nils,.fv (.sl (env.map RV.enc)),iv o,iv p,.fv (.sl (l.map Tm.enc))] false)] (.app (.own r) (done.map RV.enc)) _ rfl (by rcases hr with rfl | rfl<;>simp [Ar])
          [(51380224,.row [iv op,iv m,.fv (.sl (ks.map Tm.enc))] false),(51387397,.row [iv op,iv m,.app (.own r) (done.map RV.enc),.nils,iv 0,iv 0,.nils] false),(r,.tok done.length 1),(51392524,.row [iv 0,iv 0,.nils,.fv (.sl (env.map RV.enc)),iv o,iv p,.fv (.sl (l.map Tm.enc))] true)]
          (by rcases hr with rfl | rfl<;>simp [AT]) s ext k
         rcases hr with rfl | rfl
         ·simp only [↓R9,↓XX,XY,↓reduceIte,Nat.reduceBEq,Nat.reduceAdd,Int.reduceEq,Int.reduceLT,Int.reduceLE,hi,↓Bx (AR hg) (Bh _ _ _),↓Ce,↓Ag hb,hbp',hwi,↓hb0,↓ha1,↓HL,↓AJ,XD,heldB,AO,XE];exact h9
         ·simp only [↓R9,↓XX,XY,↓reduceIte,Nat.reduceBEq,Nat.reduceAdd,Int.reduceEq,Int.reduceLT,Int.reduceLE,hi,↓Bx (AR hg) (Bh _ _ _),↓Ce,↓Ag hb,hbp',hwi,↓hb0,↓ha1,↓HL,↓AJ,XD,heldB,AO,XE];exact h9
       ·rw [if_neg hbp] at hkids;have hbp':¬ 0<(Ae op pre.length:Int):=by omega
        cases hev1:AA f s2 e2 t env with
        | none=>rw [hev1] at hkids;cases hkids
        | some q =>
        obtain ⟨v1,s4,e4⟩:=q;rw [hev1] at hkids;simp only at hkids;cases hkk:AV (fun s e t=>AA f s e t env) op env (pre.length+1) rest s4 e4 with
        | none=>rw [hkk] at hkids;cases hkids
        | some q =>
        obtain ⟨us',s5,e5⟩:=q;rw [hkk] at hkids;simp only [ArJ,ArG,ArH] at hkids;obtain ⟨rfl,rfl,rfl⟩:=hkids;have hc:=he s2 e2 t env v1 s4 e4 nd hev1 n (by omega);have hnext:∀tk,(tk=51392526∨tk=51393550)→Bm (rec [.ptr (.ext 0) 0,.fv (.sl (env.map RV.enc)),.ptr (.own 51380224) 0,.ptr (.own 51387397) 0,iv (pre++[t]).length]
          (WY op m ks (.app (.own tk) ((done++[v1]).map RV.enc)) [(tk,.tok (done++[v1]).length 1)] s4 nd e4)) v.enc [.row [iv s',iv nd,iv e'] false]:=fun tk htk =>
         hrec rest.length _ _ (by omega) ⟨pre++[t],rest,done++[v1],s4,e4,us',s5,e5,by rw [hk];simp,rfl,by simp [hdl],rfl,.inr ⟨tk,htk,by simp,rfl⟩,by simpa using hkk,by simpa using hhead⟩
        obtain ⟨o,p,l⟩:=t;rw [Am] at hc;rcases hH with ⟨hp0,rfl⟩ | ⟨r,hr,hne,rfl⟩
        ·have hd0:done=[]:=List.length_eq_zero_iff.1 (by rw [hdl,hp0];rfl);subst hd0;have h9:=hnext _ (.inr rfl);simp only [List.nil_append,ArM,ArL,ArK,List.length_nil] at h9;simp only [↓R9,↓XX,XY,↓reduceIte,Nat.reduceBEq,Nat.reduceAdd,Int.reduceEq,Int.reduceLT,Int.reduceLE,hi,↓Bx (AR hg) (Bh _ _ _),↓Ce,↓Ag hb,hbp',hwi,↓I6 hc (Cg _ _ _ _ _ _),↓SB,↓Af3,↓AJ,XD,heldB,AO,XE];exact h9
        ·have h9:=hnext r hr;rw [show (done++[v1]).length=done.length+1 by simp] at h9
         rcases hr with rfl | rfl
         ·simp only [↓R9,↓XX,XY,↓reduceIte,Nat.reduceBEq,Nat.reduceAdd,Int.reduceEq,Int.reduceLT,Int.reduceLE,hi,↓Bx (AR hg) (Bh _ _ _),↓Ce,↓Ag hb,hbp',hwi,↓I6 hc (Cg _ _ _ _ _ _),↓SB,↓UB hd9,↓HL,↓AJ,XD,heldB,AO,XE];exact h9
         ·simp only [↓R9,↓XX,XY,↓reduceIte,Nat.reduceBEq,Nat.reduceAdd,Int.reduceEq,Int.reduceLT,Int.reduceLE,hi,↓Bx (AR hg) (Bh _ _ _),↓Ce,↓Ag hb,hbp',hwi,↓I6 hc (Cg _ _ _ _ _ _),↓SB,↓UB hd9,↓HL,↓AJ,XD,heldB,AO,XE];exact h9
def RV.cl (v:RV):List FV:=[.int .i64 v.op,.int .i64 v.n,.sl (v.k.map RV.enc),.sl (v.env.map RV.enc),.int .i64 v.b.op,.int .i64 v.b.n,.sl (v.b.kids.map Tm.enc)]
section
variable {β:Type} (v:RV)
theorem Amj (k:IV→Option β):AB (.fv v.enc) k=k (.fv v.enc):=by rw [LW];rfl
theorem Aps (o:Nat) (k:IV→Option β):Ac o (.fv v.enc) k=k (.fv (.fp v.cl o)):=by rw [LW,An5];rfl
theorem nc0 (k:FV→Option β):C1 v.cl 0 k=k (.int .i64 v.op):=rfl
theorem nc1 (k:FV→Option β):C1 v.cl 1 k=k (.int .i64 v.n):=rfl
theorem nc2 (k:FV→Option β):C1 v.cl 2 k=k (.sl (v.k.map RV.enc)):=rfl
theorem nc3 (k:FV→Option β):C1 v.cl 3 k=k (.sl (v.env.map RV.enc)):=rfl
theorem dc4 (k:List FV→Option β):Fa v.cl 4 k=k [.int .i64 v.b.op,.int .i64 v.b.n,.sl (v.b.kids.map Tm.enc)]:=rfl
end
theorem GQ {β:Type} {l:List RV} {v:RV} (h:l[0]?=some v) (k:IV→Option β):Bc 1 (.fv (.sl (l.map RV.enc))) (iv 0) k=k (.fv (.fp [v.enc] 0)):=Uf (i:=0) h k
theorem Ad1 {β:Type} {l:List RV} {v:RV} (h:l[1]?=some v) (k:IV→Option β):Bc 1 (.fv (.sl (l.map RV.enc))) (iv 1) k=k (.fv (.fp [v.enc] 0)):=Uf (i:=1) h k
theorem An6 {β:Type} {l:List RV} {v:RV} (h:l[2]?=some v) (k:IV→Option β):Bc 1 (.fv (.sl (l.map RV.enc))) (iv 2) k=k (.fv (.fp [v.enc] 0)):=Uf (i:=2) h k
theorem Aey {β:Type} {l:List RV} {v:RV} (h:l[3]?=some v) (k:IV→Option β):Bc 1 (.fv (.sl (l.map RV.enc))) (iv 3) k=k (.fv (.fp [v.enc] 0)):=Uf (i:=3) h k
def XV:=ArF @Amj<|ArF @Aps<|ArF @nc0<|ArF @nc1<|ArF @nc2<|ArF @nc3 @dc4
set_option maxHeartbeats 1000000 in
set_option maxRecDepth 20000 in
theorem Acb {f:Nat} (he:Pu f) (hh:PM f):PM (f+1):=by
 intro s e v w s' e' nd hev n hn;obtain ⟨n,rfl⟩:∃k,n=k+1:=⟨n - 1,by omega⟩;rw [c70];rw [headR] at hev;by_cases h0:e≠0
 ·rw [if_pos h0] at hev;simp only [ArG,ArH] at hev;obtain ⟨rfl,rfl,rfl⟩:=hev;simp only [↓FH,↓XX,XY,↓reduceIte,Nat.reduceBEq,Nat.reduceAdd,Int.reduceEq,Int.reduceLT,Int.reduceLE,h0];exact AE _ _ _
 ·have h0':e=0:=by omega
  subst h0';rw [if_neg h0] at hev;by_cases hs:s<0∨1000000<s
  ·rw [if_pos hs] at hev;cases hev
  ·rw [if_neg hs] at hev;have hst:=AeJ (n:=n) (by omega) s nd (by omega) (by omega);have Ch:∀{x:RV} {a b:Int},some (x,a,b)=some (w,s',e')→x=w∧a=s'∧b=e':=by
    intro x a b h;simp only [ArG,ArH] at h;exact h
   by_cases h5:v.op=5
   ·rw [if_pos h5] at hev;cases hk0:v.k[0]? with
    | none=>rw [hk0] at hev;cases hev
    | some k0 =>
     rw [hk0] at hev;simp only at hev;by_cases h4:k0.op=4
     ·rw [if_pos h4] at hev;by_cases hq:s+1≤1000
      ·rw [if_pos hq] at hev;simp only [hq,decide_true,if_true] at hst;cases hc:k0.k[1]? with
       | none=>rw [hc] at hev;cases hev
       | some c =>
        cases hx:v.k[1]? with
        | none=>rw [hc,hx] at hev;cases hev
        | some x =>
         rw [hc,hx] at hev;simp only at hev;by_cases hl:900000<c.env.length
         ·rw [if_pos hl] at hev;cases hev
         ·rw [if_neg hl] at hev;have hcall:=he (s+1) 0 c.b (c.env++[x]) w s' e' nd hev n (by omega);rw [Uu] at hcall;have hp:=RR (n:=n) (by omega) c.env [x] (by simp) (by simp;omega);simp only [ArM,ArL] at hp;simp only [↓FH,↓XX,XY,↓reduceIte,Nat.reduceBEq,Nat.reduceAdd,Int.reduceEq,Int.reduceLT,Int.reduceLE,↓XV,h5,↓GQ hk0,h4,↓DH hst (Cg _ _ _ _ _ _),↓Ad1 hc,↓Ad1 hx,↓SB,↓Ag hp,↓I6 hcall (Cg _ _ _ _ _ _)];exact AE _ _ _
      ·rw [if_neg hq] at hev;obtain ⟨rfl,rfl,rfl⟩:=Ch hev;simp only [hq,decide_false,if_false] at hst;simp only [↓FH,↓XX,XY,↓reduceIte,Nat.reduceBEq,Nat.reduceAdd,Int.reduceEq,Int.reduceLT,Int.reduceLE,↓XV,h5,↓GQ hk0,h4,↓DH hst (Cg _ _ _ _ _ _)];exact AE _ _ _
     ·rw [if_neg h4] at hev;obtain ⟨rfl,rfl,rfl⟩:=Ch hev;simp only [↓FH,↓XX,XY,↓reduceIte,Nat.reduceBEq,Nat.reduceAdd,Int.reduceEq,Int.reduceLT,Int.reduceLE,↓XV,h5,↓GQ hk0,h4];exact AE _ _ _
   ·rw [if_neg h5] at hev;by_cases h89:v.op=8∨v.op=9
    ·rw [if_pos h89] at hev;cases hk0:v.k[0]? with
     | none=>rw [hk0] at hev;cases hev
     | some k0 =>
      rw [hk0] at hev;simp only at hev;by_cases h7:k0.op=7
      ·rw [if_pos h7] at hev;by_cases hq:s+1≤1000
       ·rw [if_pos hq] at hev;simp only [hq,decide_true,if_true] at hst;cases hx:k0.k[(1+v.op - 8).toNat]? with
        | none=>rw [hx] at hev;cases hev
        | some x =>
         rw [hx] at hev;obtain ⟨rfl,rfl,rfl⟩:=Ch hev;rcases h89 with h8 | h9
         ·rw [h8] at hx;have hw1:BN (1+8)=9:=by decide
          have hw2:BN (9 - 8)=1:=by decide
          simp only [↓FH,↓XX,XY,↓reduceIte,Nat.reduceBEq,Nat.reduceAdd,Int.reduceEq,Int.reduceLT,Int.reduceLE,↓XV,h8,↓GQ hk0,h7,↓DH hst (Cg _ _ _ _ _ _),hw1,hw2,↓Ad1 (l:=k0.k) (v:=x) hx];exact AE _ _ _
         ·rw [h9] at hx;have hw1:BN (1+9)=10:=by decide
          have hw2:BN (10 - 8)=2:=by decide
          simp only [↓FH,↓XX,XY,↓reduceIte,Nat.reduceBEq,Nat.reduceAdd,Int.reduceEq,Int.reduceLT,Int.reduceLE,↓XV,h9,↓GQ hk0,h7,↓DH hst (Cg _ _ _ _ _ _),hw1,hw2,↓An6 (l:=k0.k) (v:=x) hx];exact AE _ _ _
       ·rw [if_neg hq] at hev;obtain ⟨rfl,rfl,rfl⟩:=Ch hev;simp only [hq,decide_false,if_false] at hst;rcases h89 with h8 | h9
        ·simp only [↓FH,↓XX,XY,↓reduceIte,Nat.reduceBEq,Nat.reduceAdd,Int.reduceEq,Int.reduceLT,Int.reduceLE,↓XV,h8,↓GQ hk0,h7,↓DH hst (Cg _ _ _ _ _ _)];exact AE _ _ _
        ·simp only [↓FH,↓XX,XY,↓reduceIte,Nat.reduceBEq,Nat.reduceAdd,Int.reduceEq,Int.reduceLT,Int.reduceLE,↓XV,h9,↓GQ hk0,h7,↓DH hst (Cg _ _ _ _ _ _)];exact AE _ _ _
      ·rw [if_neg h7] at hev;obtain ⟨rfl,rfl,rfl⟩:=Ch hev;rcases h89 with h8 | h9
       ·simp only [↓FH,↓XX,XY,↓reduceIte,Nat.reduceBEq,Nat.reduceAdd,Int.reduceEq,Int.reduceLT,Int.reduceLE,↓XV,h8,↓GQ hk0,h7];exact AE _ _ _
       ·simp only [↓FH,↓XX,XY,↓reduceIte,Nat.reduceBEq,Nat.reduceAdd,Int.reduceEq,Int.reduceLT,Int.reduceLE,↓XV,h9,↓GQ hk0,h7];exact AE _ _ _
    ·rw [if_neg h89] at hev;have h8:¬ v.op=8:=fun e=>h89 (.inl e);have h9:¬ v.op=9:=fun e=>h89 (.inr e);by_cases h30:v.op=30
     ·rw [if_pos h30] at hev;cases hk0:v.k[0]? with
      | none=>rw [hk0] at hev;cases hev
      | some k0 =>
       rw [hk0] at hev;simp only at hev;by_cases h7:k0.op=19
       ·rw [if_pos h7] at hev;by_cases hq:s+1≤1000
        ·rw [if_pos hq] at hev;simp only [hq,decide_true,if_true] at hst;cases hx:k0.k[0]? with
         | none=>rw [hx] at hev;cases hev
         | some x =>
          rw [hx] at hev;obtain ⟨rfl,rfl,rfl⟩:=Ch hev;simp only [↓FH,↓XX,XY,↓reduceIte,Nat.reduceBEq,Nat.reduceAdd,Int.reduceEq,Int.reduceLT,Int.reduceLE,↓XV,h30,↓GQ hk0,h7,↓DH hst (Cg _ _ _ _ _ _),↓GQ hx];exact AE _ _ _
        ·rw [if_neg hq] at hev;obtain ⟨rfl,rfl,rfl⟩:=Ch hev;simp only [hq,decide_false,if_false] at hst;simp only [↓FH,↓XX,XY,↓reduceIte,Nat.reduceBEq,Nat.reduceAdd,Int.reduceEq,Int.reduceLT,Int.reduceLE,↓XV,h30,↓GQ hk0,h7,↓DH hst (Cg _ _ _ _ _ _)];exact AE _ _ _
       ·rw [if_neg h7] at hev;obtain ⟨rfl,rfl,rfl⟩:=Ch hev;simp only [↓FH,↓XX,XY,↓reduceIte,Nat.reduceBEq,Nat.reduceAdd,Int.reduceEq,Int.reduceLT,Int.reduceLE,↓XV,h30,↓GQ hk0,h7];exact AE _ _ _
     ·rw [if_neg h30] at hev;by_cases h19:v.op=19
      ·rw [if_pos h19] at hev;cases hk0:v.k[0]? with
       | none=>rw [hk0] at hev;cases hev
       | some k0 =>
        rw [hk0] at hev;simp only at hev;by_cases h7:k0.op=30
        ·rw [if_pos h7] at hev;by_cases hq:s+1≤1000
         ·rw [if_pos hq] at hev;simp only [hq,decide_true,if_true] at hst;cases hx:k0.k[0]? with
          | none=>rw [hx] at hev;cases hev
          | some x =>
           rw [hx] at hev;obtain ⟨rfl,rfl,rfl⟩:=Ch hev;simp only [↓FH,↓XX,XY,↓reduceIte,Nat.reduceBEq,Nat.reduceAdd,Int.reduceEq,Int.reduceLT,Int.reduceLE,↓XV,h19,↓GQ hk0,h7,↓DH hst (Cg _ _ _ _ _ _),↓GQ hx];exact AE _ _ _
         ·rw [if_neg hq] at hev;obtain ⟨rfl,rfl,rfl⟩:=Ch hev;simp only [hq,decide_false,if_false] at hst;simp only [↓FH,↓XX,XY,↓reduceIte,Nat.reduceBEq,Nat.reduceAdd,Int.reduceEq,Int.reduceLT,Int.reduceLE,↓XV,h19,↓GQ hk0,h7,↓DH hst (Cg _ _ _ _ _ _)];exact AE _ _ _
        ·rw [if_neg h7] at hev;obtain ⟨rfl,rfl,rfl⟩:=Ch hev;simp only [↓FH,↓XX,XY,↓reduceIte,Nat.reduceBEq,Nat.reduceAdd,Int.reduceEq,Int.reduceLT,Int.reduceLE,↓XV,h19,↓GQ hk0,h7];exact AE _ _ _
      ·rw [if_neg h19] at hev;by_cases h13:v.op=13
       ·rw [if_pos h13] at hev;cases hk0:v.k[0]? with
        | none=>rw [hk0] at hev;cases hev
        | some k0 =>
        cases hk1:v.k[1]? with
        | none=>rw [hk0,hk1] at hev;cases hev
        | some k1 =>
        cases hk2:v.k[2]? with
        | none=>rw [hk0,hk1,hk2] at hev;cases hev
        | some k2 =>
        cases hk3:v.k[3]? with
        | none=>rw [hk0,hk1,hk2,hk3] at hev;cases hev
        | some k3 =>
        rw [hk0,hk1,hk2,hk3] at hev;simp only at hev;by_cases h11:k3.op=11
        ·rw [if_pos h11] at hev;by_cases hq:s+1≤1000
         ·rw [if_pos hq] at hev;obtain ⟨rfl,rfl,rfl⟩:=Ch hev;simp only [hq,decide_true,if_true] at hst;simp only [↓FH,↓XX,XY,↓reduceIte,Nat.reduceBEq,Nat.reduceAdd,Int.reduceEq,Int.reduceLT,Int.reduceLE,↓XV,h13,↓Aey hk3,h11,↓DH hst (Cg _ _ _ _ _ _),↓Ad1 hk1];exact AE _ _ _
         ·rw [if_neg hq] at hev;obtain ⟨rfl,rfl,rfl⟩:=Ch hev;simp only [hq,decide_false,if_false] at hst;simp only [↓FH,↓XX,XY,↓reduceIte,Nat.reduceBEq,Nat.reduceAdd,Int.reduceEq,Int.reduceLT,Int.reduceLE,↓XV,h13,↓Aey hk3,h11,↓DH hst (Cg _ _ _ _ _ _)];exact AE _ _ _
        ·rw [if_neg h11] at hev;by_cases h12:k3.op=12
         ·rw [if_pos h12] at hev;by_cases hq:s+1≤1000
          ·rw [if_pos hq] at hev;simp only [hq,decide_true,if_true] at hst;cases hx:k3.k[0]? with
           | none=>rw [hx] at hev;cases hev
           | some x =>
           rw [hx] at hev;simp only at hev;cases hd:headR f (s+1) 0 (.node 13 0 [k0,k1,k2,x]) with
           | none=>rw [hd] at hev;cases hev
           | some q =>
           obtain ⟨h,s2,e2⟩:=q;rw [hd] at hev;simp only at hev;by_cases hl:900000<k2.env.length
           ·rw [if_pos hl] at hev;cases hev
           ·rw [if_neg hl] at hev;have hcall:=he s2 e2 k2.b (k2.env++[x,h]) w s' e' nd hev n (by omega);rw [Uu] at hcall;have hcall2:=hh (s+1) 0 _ h s2 e2 nd hd n (by omega);rw [AmE] at hcall2;simp only [ArM,ArL] at hcall2;have hp:=RR (n:=n) (by omega) k2.env [x,h] (by simp) (by simp;omega);simp only [ArM,ArL] at hp;have hcall3:=fun k=>RN (k:=k) (own:=[(73420822,.row [iv 13,iv 0,.clip [k0.enc,k1.enc,k2.enc,x.enc],.nils,iv 0,iv 0,.nils] false)])
             (cells:=[iv 13,iv 0,.clip [k0.enc,k1.enc,k2.enc,x.enc],.nils,iv 0,iv 0,.nils]) (ro:=false) (s:=73420822) hcall2 (Cg ..) (by simp [Ar]) rfl (by simp)
            simp only [↓FH,↓XX,XY,↓reduceIte,Nat.reduceBEq,Nat.reduceAdd,Int.reduceEq,Int.reduceLT,Int.reduceLE,↓XV,h13,↓Aey hk3,h11,h12,↓DH hst (Cg _ _ _ _ _ _),↓GQ hx,↓GQ hk0,↓Ad1 hk1,↓An6 hk2,↓AmR,↓hcall3,↓Ani,↓Ag hp,↓I6 hcall (Cg _ _ _ _ _ _)];exact AE _ _ _
          ·rw [if_neg hq] at hev;obtain ⟨rfl,rfl,rfl⟩:=Ch hev;simp only [hq,decide_false,if_false] at hst;simp only [↓FH,↓XX,XY,↓reduceIte,Nat.reduceBEq,Nat.reduceAdd,Int.reduceEq,Int.reduceLT,Int.reduceLE,↓XV,h13,↓Aey hk3,h11,h12,↓DH hst (Cg _ _ _ _ _ _)];exact AE _ _ _
         ·rw [if_neg h12] at hev;obtain ⟨rfl,rfl,rfl⟩:=Ch hev;simp only [↓FH,↓XX,XY,↓reduceIte,Nat.reduceBEq,Nat.reduceAdd,Int.reduceEq,Int.reduceLT,Int.reduceLE,↓XV,h13,↓Aey hk3,h11,h12];exact AE _ _ _
       ·rw [if_neg h13] at hev;obtain ⟨rfl,rfl,rfl⟩:=Ch hev;simp only [↓FH,↓XX,XY,↓reduceIte,Nat.reduceBEq,Nat.reduceAdd,Int.reduceEq,Int.reduceLT,Int.reduceLE,↓XV,h5,h8,h9,h30,h19,h13];exact AE _ _ _
theorem Xq:∀f,Pu f∧PM f:=by
 intro f
 induction f with
 | zero=>exact ⟨(by intro s e t env v s' e' nd h;rw [AA] at h;cases h),(by intro s e v w s' e' nd h;rw [headR] at h;cases h)⟩
 | succ f ih=>exact ⟨AcO ih.1 ih.2,Acb ih.1 ih.2⟩
end Idl
end Go.Proofs.Ytbkdidonegggdaa
namespace Go.Proofs.Ytbkdidonegggdaa
namespace Idl
def IR (u:Int) (b:Nat):List RV:=(List.range b).map fun (j:Nat)=>RV.var (u+(j:Int))
theorem SI (u:Int) (b:Nat):IR u (b+1)=IR u b++[RV.var (u+b)]:=by simp [IR,List.range_succ]
theorem Cm (u:Int) (b:Nat):(IR u b).length=b:=by simp [IR]
def A8 (rd:Int→Int→Int→RV→Int→Option (Tm×Int×Int×Int)) (f:Nat) (op u:Int):Nat→List RV→Int→Int→Int→Option (List Tm×Int×Int×Int)
 | _,[],s,nd,e=>some ([],s,nd,e)
 | i,k::l,s,nd,e =>
  match (if 0<Ae op i then (if 900000<k.env.length then none else AA f s e k.b (k.env++IR u (Ae op i))) else some (k,s,e)) with
  | none=>none
  | some (k',s1,e1)=>match rd s1 nd e1 k' (u+Ae op i) with
   | none=>none
   | some (t,s2,nd2,e2)=>(A8 rd f op u (i+1) l s2 nd2 e2).map fun (ts,s,nd,e)=>(t::ts,s,nd,e)
def AY:Nat→Int→Int→Int→RV→Int→Int→Option (Tm×Int×Int×Int)
 | 0,_,_,_,_,_,_=>none
 | f+1,s,nd,e,v,u,d =>
  if nd<0∨1000000<nd∨u<0∨1000000<u∨d<0∨1000000<d∨v.n < -2305843009213693952∨2305843009213693952<v.n∨f≤v.k.length∨900000<v.k.length∨f≤3 then none else
  if (if e=0∧(3000<nd+1∨120<d) then 5 else e)≠0 then some (.z,s,nd+1,(if e=0∧(3000<nd+1∨120<d) then 5 else e))
  else if v.op=1 then some (.mk 1 (u - 1 - v.n) [],s,nd+1,0)
  else (A8 (fun s nd e k u=>AY f s nd e k u (d+1)) f v.op u 0 v.k s (nd+1) 0).map fun (ts,s,nd,e)=>(.mk v.op v.n ts,s,nd,e)
def Ur (f:Nat):Prop:=∀(s nd e:Int) (v:RV) (u d:Int) (t:Tm) (s' nd' e':Int),AY f s nd e v u d=some (t,s',nd',e')→∀n,f+1≤n →
 Bm (SS dt n 48 [.ptr (.ext 0) 0,.fv v.enc,iv u,iv d] ⟨[],[.row [iv s,iv nd,iv e] false]⟩) t.enc [.row [iv s',iv nd',iv e'] false]
abbrev Lv (op m:Int) (K:IV) (tok:List (Nat×Blk)) (s nd e:Int):Hp :=
 ⟨(50331648,.row [iv 0,iv 0,.nils] false)::(50339849,.row [iv op,iv m,K] false)::tok,[.row [iv s,iv nd,iv e] false]⟩
theorem Zs {cells:List IV} {fc:List FV} (hz:CV cells=some fc) (hn:cells.length≤100) (s:Nat) (h:Hp) (k:IV→Hp→List Ref→List Ref→Option (IV×Hp)):fzS (Kg true s (.agg cells)) s (.agg cells) h k=k (.fv (.fp fc 0)) h [] []:=by
 have:Kg true s (.agg cells)=.ret { eff:={ val:=.fv (.fp fc 0),upd:=[] } }:=by
  simp only [Kg,IV.alive,Bool.true_eq_false,if_false,if_true,IV.cells,WA cells 4096 (by omega) hz,Rd.bind]
 unfold fzS;rw [this,Um];exact Ke _ s h k
theorem VF (n:Int):(RV.var n).enc=.fp [.int .i64 1,.int .i64 n,.sl [],.sl [],.int .i64 0,.int .i64 0,.sl []] 0:=by rw [RV.var,Tm.z,Ik];rfl
set_option maxRecDepth 20000 in
set_option maxHeartbeats 1000000 in
theorem Acn {f:Nat} (hr:Ur f):Ur (f+1):=by
 intro s nd e v u d t s' nd' e' hev n hn;obtain ⟨n,rfl⟩:∃k,n=k+1:=⟨n - 1,by omega⟩;rw [c48];rw [AY] at hev;by_cases hbad:nd<0∨1000000<nd∨u<0∨1000000<u∨d<0∨1000000<d∨v.n < -2305843009213693952∨2305843009213693952<v.n∨f≤v.k.length∨900000<v.k.length∨f≤3
 ·rw [if_pos hbad] at hev;cases hev
 ·rw [if_neg hbad] at hev;have wnd:BN (nd+1)=nd+1:=by rw [Au]<;>omega
  have wd:BN (d+1)=d+1:=by rw [Au]<;>omega
  have wu:BN (u - 1)=u - 1:=by rw [Au]<;>omega
  have wv:BN (u - 1 - v.n)=u - 1 - v.n:=by rw [Au]<;>omega
  by_cases he:e=0
  ·subst he;by_cases h3:3000<nd+1
   ·have e5:(if (0:Int)=0∧(3000<nd+1∨120<d) then (5:Int) else 0)=5:=if_pos ⟨rfl,.inl h3⟩;rw [e5,if_pos (by decide)] at hev;simp only [ArG,ArH] at hev;obtain ⟨rfl,rfl,rfl,rfl⟩:=hev;simp only [↓Af5,↓XX,XY,↓reduceIte,Nat.reduceBEq,Nat.reduceAdd,Int.reduceEq,Int.reduceLT,Int.reduceLE,wnd,h3];exact EP rfl _ _
   ·by_cases h4:120<d
    ·have e5:(if (0:Int)=0∧(3000<nd+1∨120<d) then (5:Int) else 0)=5:=if_pos ⟨rfl,.inr h4⟩;rw [e5,if_pos (by decide)] at hev;simp only [ArG,ArH] at hev;obtain ⟨rfl,rfl,rfl,rfl⟩:=hev;simp only [↓Af5,↓XX,XY,↓reduceIte,Nat.reduceBEq,Nat.reduceAdd,Int.reduceEq,Int.reduceLT,Int.reduceLE,wnd,h3,h4];exact EP rfl _ _
    ·have e5:(if (0:Int)=0∧(3000<nd+1∨120<d) then (5:Int) else 0)=0:=if_neg (by omega);rw [e5,if_neg (by decide)] at hev;by_cases h1:v.op=1
     ·rw [if_pos h1] at hev;simp only [ArG,ArH] at hev;obtain ⟨rfl,rfl,rfl,rfl⟩:=hev;have hv:=Aj7 (n:=n) (by omega) (u - 1 - v.n);rw [Am] at hv ⊢;simp only [↓Af5,↓XX,XY,↓reduceIte,Nat.reduceBEq,Nat.reduceAdd,Int.reduceEq,Int.reduceLT,Int.reduceLE,↓XV,wnd,h3,h4,h1,wu,wv,↓An hv];exact EP rfl _ _
     ·rw [if_neg h1] at hev;cases hrk:A8 (fun s nd e k u=>AY f s nd e k u (d+1)) f v.op u 0 v.k s (nd+1) 0 with
      | none=>rw [hrk] at hev;cases hev
      | some q =>
      obtain ⟨ts,s1,nd1,e1⟩:=q;rw [hrk] at hev;simp only [ArJ,ArG,ArH] at hev;obtain ⟨rfl,rfl,rfl,rfl⟩:=hev;simp only [↓Af5,↓XX,XY,↓reduceIte,Nat.reduceBEq,Nat.reduceAdd,Int.reduceEq,Int.reduceLT,Int.reduceLE,↓XV,wnd,h3,h4,h1,↓AJ,XD,heldB,AO,XE];refine A7 (Q:=fun r=>Bm r _ _) (fun k V H=>∃(pre rest:List RV) (done:List Tm) (s2 nd2 e2:Int) (us:List Tm),v.k=pre++rest∧rest.length=k∧done.length=pre.length∧V=[.ptr (.ext 0) 0,.fv v.enc,iv u,iv d,.ptr (.own 50331648) 0,.ptr (.own 50339849) 0,iv pre.length] ∧
       (
        (pre=[]∧H=Lv v.op v.n .nils [] s2 nd2 e2) ∨
        (pre≠[]∧H=Lv v.op v.n (.app (.own 50353163) (done.map Tm.enc)) [(50353163,.tok done.length 3)] s2 nd2 e2)) ∧
       A8 (fun s nd e k u=>AY f s nd e k u (d+1)) f v.op u pre.length rest s2 nd2 e2=some (us,s1,nd1,e1)∧done++us=ts)
       ?_ n v.k.length _ _ (by omega) ⟨[],v.k,[],s,nd+1,0,ts,rfl,rfl,rfl,rfl,.inl ⟨rfl,rfl⟩,hrk,rfl⟩
      rintro k V H rec ⟨pre,rest,done,s2,nd2,e2,us,hk,hl,hdl,rfl,hH,hkids,hts⟩ hrec;have hkl:v.k.length=pre.length+rest.length:=by rw [hk];simp
      cases rest with
      | nil =>
       simp only [A8,ArG,ArH] at hkids;obtain ⟨rfl,rfl,rfl,rfl⟩:=hkids;rw [List.append_nil] at hts;subst hts;have hno:¬ ((pre.length:Int)<v.k.length):=by rw [hkl];simp
       rcases hH with ⟨hp0,rfl⟩ | ⟨hne,rfl⟩
       ·have hd0:done=[]:=List.length_eq_zero_iff.1 (by rw [hdl,hp0];rfl);subst hd0;simp only [Eb,En,Ew,Ey,EA,Ec,GU,Ef,Ej,EH,Eo,Em,GW,EI,EC,Ep,EB,El,Er,Et,E6,Ek,Ee,Ez,EG,ED,Eg,Ei,Es,Eh,Eu,S48,↓XX,XY,↓reduceIte,Nat.reduceBEq,Nat.reduceAdd,Int.reduceEq,Int.reduceLT,Int.reduceLE,↓XV,hno,Am];exact EP rfl _ _
       ·simp only [Eb,En,Ew,Ey,EA,Ec,GU,Ef,Ej,EH,Eo,Em,GW,EI,EC,Ep,EB,El,Er,Et,E6,Ek,Ee,Ez,EG,ED,Eg,Ei,Es,Eh,Eu,S48,↓XX,XY,↓reduceIte,Nat.reduceBEq,Nat.reduceAdd,Int.reduceEq,Int.reduceLT,Int.reduceLE,↓XV,hno,Am];exact EP rfl _ _
      | cons x rest =>
       have hi:(pre.length:Int)<v.k.length:=by rw [hkl];simp;omega
       have hg:=CF hk;have hb:=Fv (n:=n) (by omega) v.op pre.length;have hble:=Br v.op pre.length;have hwi:BN ((pre.length:Int)+1)=((pre++[x]).length:Int):=(Au (by omega) (by omega)).trans (by simp);have hwb:BN (u+(Ae v.op pre.length:Int))=u+Ae v.op pre.length:=by rw [Au]<;>omega
       have hd9:done.length+1≤1000000:=by omega
       simp only [A8] at hkids;simp only [ArK] at hl;have behind:∀(y:RV) (s3 e3:Int),(match AY f s3 nd2 e3 y (u+Ae v.op pre.length) (d+1) with
          | none=>none
          | some (t,s2,nd2,e2)=>(A8 (fun s nd e k u=>AY f s nd e k u (d+1)) f v.op u (pre.length+1) rest s2 nd2 e2).map fun (ts,s,nd,e)=>(t::ts,s,nd,e))=some (us,s1,nd1,e1) →
         ∀K tk,((pre=[]∧K=.nils∧tk=[])∨(pre≠[]∧K=.app (.own 50353163) (done.map Tm.enc)∧tk=[(50353163,.tok done.length 3)])) →
         Bm (GU (.ptr (.own 50339849) 0) (Lv v.op v.n K tk s3 nd2 e3) (iv u) (iv (Ae v.op pre.length)) (iv d) (SS dt n) (.ptr (.ext 0) 0) (.fv y.enc) (iv pre.length) ⟨[],[.row [iv s,iv nd,iv 0] false]⟩ (.fv v.enc) (.ptr (.own 50331648) 0) rec)
          (Tm.mk v.op v.n ts).enc [.row [iv s1,iv nd1,iv e1] false]:=by
        intro y s3 e3 hy K tk hK;cases hrd:AY f s3 nd2 e3 y (u+Ae v.op pre.length) (d+1) with
        | none=>rw [hrd] at hy;cases hy
        | some q =>
        obtain ⟨t4,s4,nd4,e4⟩:=q;rw [hrd] at hy;simp only at hy;cases hkk:A8 (fun s nd e k u=>AY f s nd e k u (d+1)) f v.op u (pre.length+1) rest s4 nd4 e4 with
        | none=>rw [hkk] at hy;cases hy
        | some q =>
        obtain ⟨us',s5,nd5,e5'⟩:=q;rw [hkk] at hy;simp only [ArJ,ArG,ArH] at hy;obtain ⟨rfl,rfl,rfl,rfl⟩:=hy;have hc:=hr s3 nd2 e3 y (u+Ae v.op pre.length) (d+1) t4 s4 nd4 e4 hrd n (by omega);have h9:Bm (rec [.ptr (.ext 0) 0,.fv v.enc,iv u,iv d,.ptr (.own 50331648) 0,.ptr (.own 50339849) 0,iv (pre++[x]).length]
          (Lv v.op v.n (.app (.own 50353163) ((done++[t4]).map Tm.enc)) [(50353163,.tok (done.length+1) 3)] s4 nd4 e4)) (Tm.mk v.op v.n ts).enc [.row [iv s5,iv nd5,iv e5'] false] :=
         hrec rest.length _ _ (by omega) ⟨pre++[x],rest,done++[t4],s4,nd4,e4,us',by rw [hk];simp,rfl,by simp [hdl],rfl,.inr ⟨by simp,by simp⟩,by simpa using hkk,by rw [← hts];simp⟩
        rcases hK with ⟨hp0,rfl,rfl⟩ | ⟨hne,rfl,rfl⟩
        ·have hd0:done=[]:=List.length_eq_zero_iff.1 (by rw [hdl,hp0];rfl);subst hd0;simp only [List.nil_append,ArM,ArL,List.length_nil] at h9;simp only [Eb,En,Ew,Ey,EA,Ec,GU,Ef,Ej,EH,Eo,Em,GW,EI,EC,Ep,EB,El,Er,Et,E6,Ek,Ee,Ez,EG,ED,Eg,Ei,Es,Eh,Eu,S48,↓XX,XY,↓reduceIte,Nat.reduceBEq,Nat.reduceAdd,Int.reduceEq,Int.reduceLT,Int.reduceLE,↓XV,hwb,wd,hwi,↓Afg hc (Cg _ _ _ _ _ _),↓Jc,↓Qn,↓AJ,XD,heldB,AO,XE];exact h9
        ·simp only [Eb,En,Ew,Ey,EA,Ec,GU,Ef,Ej,EH,Eo,Em,GW,EI,EC,Ep,EB,El,Er,Et,E6,Ek,Ee,Ez,EG,ED,Eg,Ei,Es,Eh,Eu,S48,↓XX,XY,↓reduceIte,Nat.reduceBEq,Nat.reduceAdd,Int.reduceEq,Int.reduceLT,Int.reduceLE,↓XV,hwb,wd,hwi,↓Afg hc (Cg _ _ _ _ _ _),↓Jc,↓Mk hd9,↓HL,↓AJ,XD,heldB,AO,XE];exact h9
       have heads:∃K tk,((pre=[]∧K=.nils∧tk=[])∨(pre≠[]∧K=.app (.own 50353163) (done.map Tm.enc)∧tk=[(50353163,.tok done.length 3)]))∧H=Lv v.op v.n K tk s2 nd2 e2:=by
        rcases hH with ⟨a,b⟩ | ⟨a,b⟩
        ·exact ⟨_,_,.inl ⟨a,rfl,rfl⟩,b⟩
        ·exact ⟨_,_,.inr ⟨a,rfl,rfl⟩,b⟩
       obtain ⟨K,tk,hK,rfl⟩:=heads;by_cases hbp:0<Ae v.op pre.length
       ·rw [if_pos hbp] at hkids;by_cases hxe:900000<x.env.length
        ·rw [if_pos hxe] at hkids;cases hkids
        ·rw [if_neg hxe] at hkids;have hbp':0<(Ae v.op pre.length:Int):=by omega
         cases hev1:AA f s2 e2 x.b (x.env++IR u (Ae v.op pre.length)) with
         | none=>rw [hev1] at hkids;cases hkids
         | some q =>
         obtain ⟨y,s3,e3⟩:=q;rw [hev1] at hkids;have hB:=behind y s3 e3 hkids K tk hK;have hc:=(Xq f).1 s2 e2 x.b _ y s3 e3 nd2 hev1 n (by omega);rw [Uu] at hc;have hdrop:∀(vals:List IV),vals.all Fg=true→∀k:Hp→Option (IV×Hp),By [] [50351109] vals (Lv v.op v.n K tk s2 nd2 e2) k=k (Lv v.op v.n K tk s2 nd2 e2):=by
          intro vals hv k;rcases hK with ⟨_,rfl,rfl⟩ | ⟨_,rfl,rfl⟩<;>simp only [↓XX,XY,↓reduceIte,Nat.reduceBEq,Nat.reduceAdd,Int.reduceEq,Int.reduceLT,Int.reduceLE,↓AJ,XD,heldB,AO,XE,hv]
         simp only [Eb,En,Ew,Ey,EA,Ec,Ef,Ej,EH,Eo,Em,EI,EC,Ep,EB,El,Er,Et,E6,Ek,Ee,Ez,EG,ED,Eg,Ei,Es,Eh,Eu,S48,↓XX,XY,↓reduceIte,Nat.reduceBEq,Nat.reduceAdd,Int.reduceEq,Int.reduceLT,Int.reduceLE,↓XV,hi,↓Uf hg,↓Ag hb,hbp',↓hdrop,↓AJ,XD,heldB,AO,XE];refine A7 (Q:=fun r=>Bm r _ _) (fun k V H=>∃j,j+k=Ae v.op pre.length∧V=[.ptr (.ext 0) 0,.fv v.enc,iv u,iv d,.ptr (.own 50331648) 0,.ptr (.own 50339849) 0,iv pre.length,iv (Ae v.op pre.length),.fv x.enc,.fv (.sl ((x.env++IR u j).map RV.enc)),iv j] ∧
          H=Lv v.op v.n K tk s2 nd2 e2) ?_ n (Ae v.op pre.length) _ _ (by omega) ?_
         rotate_left
         ·exact ⟨0,by omega,by simp [IR],rfl⟩
         rintro k2 V2 H2 rec2 ⟨j,hj,rfl,rfl⟩ hrec2;cases k2 with
         | zero =>
          have hjb:j=Ae v.op pre.length:=by omega
          subst hjb;simp only [Eb,En,Ew,Ey,EA,Ec,Ef,Ej,EH,Eo,Em,GW,EI,EC,Ep,EB,El,Er,Et,E6,Ek,Ee,Ez,EG,ED,Eg,Ei,Es,Eh,Eu,S48,↓XX,XY,↓reduceIte,Nat.reduceBEq,Nat.reduceAdd,Int.reduceEq,Int.reduceLT,Int.reduceLE,↓XV,Int.lt_irrefl,↓I6 hc (Cg _ _ _ _ _ _)];exact hB
         | succ k2 =>
          have hjb:(j:Int)<Ae v.op pre.length:=by omega
          have hwj:BN (u+(j:Int))=u+j:=by rw [Au]<;>omega
          have hwj1:BN ((j:Int)+1)=((j+1:Nat):Int):=by rw [Au]<;>omega
          have hp:=RR (n:=n) (by omega) (x.env++IR u j) [RV.var (u+j)] (by simp) (by simp [Cm];omega);simp only [ArM,ArL,VF] at hp;rw [List.append_assoc,← SI] at hp;have hbv:=fun s h k=>SB (RV.var (u+j)) s h k;simp only [VF] at hbv;have hfz:=fun s h (k:IV→Hp→List Ref→List Ref→Option (IV×Hp))=>Zs (cells:=[.fv (.int .i64 1),iv (u+j),.nils,.nils,.fv (.int .i64 0),.fv (.int .i64 0),.nils]) (fc:=[.int .i64 1,.int .i64 (u+j),.sl [],.sl [],.int .i64 0,.int .i64 0,.sl []]) rfl (by simp) s h k;have h9:=hrec2 k2 _ _ (by omega) ⟨j+1,by omega,rfl,rfl⟩;simp only [Eb,En,Ew,Ey,EA,Ec,Ef,Ej,EH,Eo,Em,GW,EI,EC,Ep,EB,El,Er,Et,E6,Ek,Ee,Ez,EG,ED,Eg,Ei,Es,Eh,Eu,S48,↓XX,XY,↓reduceIte,Nat.reduceBEq,Nat.reduceAdd,Int.reduceEq,Int.reduceLT,Int.reduceLE,↓XV,hjb,hwj,hwj1,↓hfz,↓hbv,↓Ag hp,↓hdrop,↓AJ,XD,heldB,AO,XE];exact h9
       ·rw [if_neg hbp] at hkids;have hbp':¬ 0<(Ae v.op pre.length:Int):=by omega
        have hB:=behind x s2 e2 hkids K tk hK;simp only [Eb,En,Ew,Ey,EA,Ec,Ef,Ej,EH,Eo,Em,EI,EC,Ep,EB,El,Er,Et,E6,Ek,Ee,Ez,EG,ED,Eg,Ei,Es,Eh,Eu,S48,↓XX,XY,↓reduceIte,Nat.reduceBEq,Nat.reduceAdd,Int.reduceEq,Int.reduceLT,Int.reduceLE,↓XV,hi,↓Uf hg,↓Ag hb,hbp',↓AJ,XD,heldB,AO,XE];exact hB
  ·have e5:(if e=0∧(3000<nd+1∨120<d) then (5:Int) else e)=e:=if_neg (by omega);rw [e5,if_pos he] at hev;simp only [ArG,ArH] at hev;obtain ⟨rfl,rfl,rfl,rfl⟩:=hev;simp only [↓Af5,↓XX,XY,↓reduceIte,Nat.reduceBEq,Nat.reduceAdd,Int.reduceEq,Int.reduceLT,Int.reduceLE,wnd,he];exact EP rfl _ _
theorem Ahq:∀f,Ur f:=by
 intro f
 induction f with
 | zero=>intro s nd e v u d t s' nd' e' h;rw [AY] at h;cases h
 | succ f ih=>exact Acn ih
theorem Wp {α:Type}:∀(r:Rd α) (h:Hp) (l:List Ref) {x:α} {l':List Ref},r.runLog h l=some (x,l')→r.run h=some x
 | .ret a,h,l,x,l',e=>by simp only [Rd.runLog,ArG,ArH] at e;rw [e.1];rfl
 | .fail,_,_,_,_,e=>by cases e
 | .get r k,h,l,x,l',e=>by
  simp only [Rd.runLog] at e;simp only [Rd.run];cases hg:h.get r with
  | none=>rw [hg] at e;cases e
  | some b=>rw [hg] at e;exact Wp (k b) h _ e
theorem Ss {v:IV} {own:List (Nat×Blk)} {ext:List Blk} {w:FV} (h:∃u lg,∀(e:Option (IV×Hp)) (K:FV→List (Ref×Blk)→List Ref→Option (IV×Hp)),FG 12 v ⟨own,ext⟩ [] e K=K w u lg):∃u,(CN 4096 v).run ⟨own,ext⟩=some (w,u):=by
 obtain ⟨u,lg,hz⟩:=h;rcases MY 12 v ⟨own,ext⟩ [] none (fun w _ _=>some (IV.fv w,(⟨[],[]⟩:Hp))) (.fv w,⟨[],[]⟩) (hz ..) with h | ⟨x,u',lg',h1,_,h2⟩
 ·cases h
 ·simp only [ArG,ArH,IV.fv.injEq,and_true] at h2;subst h2;exact ⟨u',Wp _ _ _ (h1 4096 (by decide))⟩
theorem SG:∀l:List FV,IV.refs.refsL (l.map .fv)=[]
 | []=>rfl
 | v::l=>by
  simp only [ArM,IV.refs.refsL,IV.refs,SG l,List.append_nil]
theorem KU:∀(args:List IV) (ks:List Bool) {vs:List FV},(∀b∈ks,b=false)→BI args=some vs→Bl ks args=.ret (vs.map .fv,[],[])
 | [],ks,vs,_,hz=>by cases hz;cases ks<;>rfl
 | v::l,[],vs,_,hz=>MD (v::l) hz
 | v::l,b::ks,vs,hk,hz=>by
  have hb:=hk b List.mem_cons_self;subst hb;simp only [BI] at hz;cases h1:A5 v with
  | none=>rw [h1] at hz;cases hz
  | some x =>
   rw [h1] at hz;cases h2:BI l with
   | none=>rw [h2] at hz;cases hz
   | some ys =>
    rw [h2] at hz;cases hz;simp only [Bl,frp 4096 (by omega) h1,Rd.bind,KU l ks (fun c hc=>hk c (List.mem_cons_of_mem _ hc)) h2];rfl
theorem YK (s:Nat) (ext:List Blk):Og 400 [.own s] 0 ext=false:=rfl
theorem AfR {ks:List Bool} (hks:∀b∈ks,b=false) {ih:Aa} {f:FuncId} {args:List IV} {vs:List FV} {w:FV} {s:Nat} {st st':List FV} {own:List (Nat×Blk)} (hz:BI args=some vs) (hl:Ar s own=some (.row (st.map .fv) false))
  (hr:Bm (ih f (.ptr (.ext 0) 0::vs.map .fv) ⟨[],[.row (st.map .fv) false]⟩) w [.row (st'.map .fv) false]) (k:IV→Hp→List Ref→List Ref→Option (IV×Hp)) :
  Aj (true::ks) false false ih f (.ptr (.own s) 0::args) ⟨own,[]⟩ k=k (.fv w) ⟨AT s (.row (st'.map .fv) false) own,[]⟩ [.own s] [.own s]:=by
 obtain ⟨v,own',e1,hfz⟩:=hr;obtain ⟨u,hu⟩:=Ss hfz;have hD:Gq (true::ks) false false ih f (.ptr (.own s) 0::args) ⟨own,[]⟩ k=k (.fv w) ⟨AT s (.row (st'.map .fv) false) own,[]⟩ [.own s] [.own s]:=by
  have h1:Bl (true::ks) (.ptr (.own s) 0::args)=.ret (.ptr (.own s) 0::vs.map .fv,[.own s],[]):=by
   simp only [Bl,KU args ks hks hz,Rd.bind,IV.refs];rfl
  have h2:(B8 4096 [.own s] []).runLog ⟨own,[]⟩ []=some ([(.own s,.row (st.map .fv) false)],[.own s]):=by
   show (B8 (4094+1+1) [.own s] []).runLog ⟨own,[]⟩ []=_
   simp only [B8,hasRef,Bool.false_eq_true,if_false,Rd.runLog,Hp.get,hl,Blk.refs,SG,List.append_nil,List.nil_append]
  have h3:IV.ren.renL (EL [(.own s,.row (st.map .fv) false)]) (.ptr (.own s) 0::vs.map .fv)=some (.ptr (.ext 0) 0::vs.map .fv):=by
   simp only [IV.ren.renL,IV.ren,EL,Cc,if_true,ArJ,Option.bind_some,H5]
  have h4:A3 (EL [(.own s,.row (st.map .fv) false)]) [.row (st.map .fv) false]=some [.row (st.map .fv) false]:=by
   simp only [A3,Blk.ren,H5,ArJ,Option.bind_some]
  have h5:A3 (Ch [(.own s,.row (st.map .fv) false)]) [.row (st'.map .fv) false]=some [.row (st'.map .fv) false]:=by
   simp only [A3,Blk.ren,H5,ArJ,Option.bind_some]
  unfold Gq;simp only [h1,Rd.runLog,h2,h3,ArM,ArL,h4,EK (Cs 3),EK CT,Lc,Bool.false_eq_true,if_false,e1,hu,ArJ,IV.ren,h5,ArK,List.length_nil,Bo,List.all_nil,and_self,if_true,List.nil_append,List.zip_cons_cons,List.zip_nil_left];have h6:laid ⟨own,[]⟩ [(.own s,.row (st'.map .fv) false)]=some ⟨AT s (.row (st'.map .fv) false) own,[]⟩:=by
   simp only [laid,Hp.get,hl,Hp.set]
  simp only [h6,MQ,Cs]
 rw [OG,Afa,Uc,Tf 0 args _ _ _ _ ks hks hz];simp only [AcL,YK,cond_false];exact hD
theorem Ak5 {ih:Aa} {f:FuncId} {x y:IV} {vx vy w:FV} {s:Nat} {a b c a' b' c':FV} {own own':List (Nat×Blk)} (hr:Bm (ih f [.ptr (.ext 0) 0,.fv vx,.fv vy] ⟨[],[.row [.fv a,.fv b,.fv c] false]⟩) w [.row [.fv a',.fv b',.fv c'] false])
  (hx:A5 x=some vx) (hy:A5 y=some vy) (hl:Ar s own=some (.row [.fv a,.fv b,.fv c] false)) (ho:AT s (.row [.fv a',.fv b',.fv c'] false) own=own') (k:IV→Hp→List Ref→List Ref→Option (IV×Hp)) :
  Aj [true,false,false] false false ih f [.ptr (.own s) 0,x,y] ⟨own,[]⟩ k=k (.fv w) ⟨own',[]⟩ [.own s] [.own s]:=by
 subst ho;exact AfR (ks:=[false,false]) (by simp) (st:=[a,b,c]) (st':=[a',b',c']) (UG hx hy) hl hr k
theorem Ajc {ih:Aa} {f:FuncId} {x y z:IV} {vx vy vz w:FV} {s:Nat} {a b c a' b' c':FV} {own own':List (Nat×Blk)} (hr:Bm (ih f [.ptr (.ext 0) 0,.fv vx,.fv vy,.fv vz] ⟨[],[.row [.fv a,.fv b,.fv c] false]⟩) w [.row [.fv a',.fv b',.fv c'] false])
  (hx:A5 x=some vx) (hy:A5 y=some vy) (hz:A5 z=some vz) (hl:Ar s own=some (.row [.fv a,.fv b,.fv c] false)) (ho:AT s (.row [.fv a',.fv b',.fv c'] false) own=own') (k:IV→Hp→List Ref→List Ref→Option (IV×Hp)) :
  Aj [true,false,false,false] false false ih f [.ptr (.own s) 0,x,y,z] ⟨own,[]⟩ k=k (.fv w) ⟨own',[]⟩ [.own s] [.own s]:=by
 subst ho;exact AfR (ks:=[false,false,false]) (by simp) (st:=[a,b,c]) (st':=[a',b',c']) (Acl hx hy hz) hl hr k
theorem Ahk {ih:Aa} {f:FuncId} {x y:IV} {vx vy w:FV} {s:Nat} {a b a' b':FV} {own own':List (Nat×Blk)} (hr:Bm (ih f [.ptr (.ext 0) 0,.fv vx,.fv vy] ⟨[],[.row [.fv a,.fv b] false]⟩) w [.row [.fv a',.fv b'] false])
  (hx:A5 x=some vx) (hy:A5 y=some vy) (hl:Ar s own=some (.row [.fv a,.fv b] false)) (ho:AT s (.row [.fv a',.fv b'] false) own=own') (k:IV→Hp→List Ref→List Ref→Option (IV×Hp)) :
  Aj [true,false,false] false false ih f [.ptr (.own s) 0,x,y] ⟨own,[]⟩ k=k (.fv w) ⟨own',[]⟩ [.own s] [.own s]:=by
 subst ho;exact AfR (ks:=[false,false]) (by simp) (st:=[a,b]) (st':=[a',b']) (UG hx hy) hl hr k
def AQ (f:Nat) (t:Tm):Option (Tm×Int):=match AA f 0 0 t [] with
 | none=>none
 | some (v,s,e)=>match AY f s 0 e v 0 1 with
  | none=>none
  | some (u,_,_,e)=>some (if e≠0 then (.z,e) else (u,0))
theorem NV {n:Nat} (hn:0<n) (e:Int):BY (SS dt n 19 [iv e] ⟨[],[]⟩) (.bool (decide (e=17) || decide (e=5))):=by
 obtain ⟨n,rfl⟩:∃k,n=k+1:=⟨n - 1,by omega⟩;rw [c19];by_cases h1:e=17
 ·simp only [S19,↓XX,XY,↓reduceIte,Nat.reduceBEq,Nat.reduceAdd,Int.reduceEq,Int.reduceLT,Int.reduceLE,h1,Bool.true_or];exact Ap _ _
 ·simp only [S19,↓XX,XY,↓reduceIte,Nat.reduceBEq,Nat.reduceAdd,Int.reduceEq,Int.reduceLT,Int.reduceLE,h1,Bool.false_or];exact Ap _ _
theorem AcT (f:Nat) (t u:Tm) (e:Int) (h:AQ f t=some (u,e)) (n:Nat) (hn:f+2≤n):BY (SS dt n 18 [.fv t.enc] ⟨[],[]⟩) (.tuple [u.enc,.int .i64 e]):=by
 obtain ⟨n,rfl⟩:∃k,n=k+1:=⟨n - 1,by omega⟩;rw [c18];unfold AQ at h;cases he:AA f 0 0 t [] with
 | none=>rw [he] at h;cases h
 | some q =>
 obtain ⟨v,s1,e1⟩:=q;rw [he] at h;simp only at h;cases hr:AY f s1 0 e1 v 0 1 with
 | none=>rw [hr] at h;cases h
 | some q =>
 obtain ⟨w,s2,nd2,e2⟩:=q;rw [hr] at h;simp only [ArG] at h;have h1:=(Xq f).1 0 0 t [] v s1 e1 0 he n (by omega);have h2:=Ahq f s1 0 e1 v 0 1 w s2 nd2 e2 hr n (by omega);obtain ⟨op,m,ks⟩:=t;rw [Am] at h1 ⊢;simp only [ArL] at h1;have c1:=fun k=>Ak5 (k:=k) h1 (x:=.fv (.agg [.int .i64 op,.int .i64 m,.sl (ks.map Tm.enc)])) (y:=.nils) (s:=18875393) rfl rfl
  (own:=[(18874368,.row [iv op,iv m,.fv (.sl (ks.map Tm.enc))] false),(18874369,.row [iv 0,iv 0,.nils] false),(18875393,.row [iv 0,iv 0,iv 0] false)])
  (own':=[(18874368,.row [iv op,iv m,.fv (.sl (ks.map Tm.enc))] false),(18874369,.row [iv 0,iv 0,.nils] false),(18875393,.row [iv s1,iv 0,iv e1] false)]) (by simp [Ar]) (by simp [AT])
 have c2:=fun k=>Ajc (k:=k) h2 (x:=.fv v.enc) (y:=iv 0) (z:=iv 1) (s:=18875393) rfl rfl rfl
  (own:=[(18874368,.row [iv op,iv m,.fv (.sl (ks.map Tm.enc))] false),(18874369,.row [iv 0,iv 0,.nils] false),(18875393,.row [iv s1,iv 0,iv e1] false)])
  (own':=[(18874368,.row [iv op,iv m,.fv (.sl (ks.map Tm.enc))] false),(18874369,.row [iv 0,iv 0,.nils] false),(18875393,.row [iv s2,iv nd2,iv e2] false)]) (by simp [Ar]) (by simp [AT])
 obtain ⟨wo,wn,wk⟩:=w;rw [Am] at c2;by_cases hz:e2=0
 ·rw [if_neg (by simp [hz])] at h;simp only [ArH] at h;obtain ⟨rfl,rfl⟩:=h;subst hz;simp only [U3,Uk,TF,T9,Vd,S18,↓XX,XY,↓reduceIte,Nat.reduceBEq,Nat.reduceAdd,Int.reduceEq,Int.reduceLT,Int.reduceLE,↓c1,↓c2,Am];exact Ap _ _
 ·rw [if_pos hz] at h;simp only [ArH] at h;obtain ⟨rfl,rfl⟩:=h;simp only [U3,Uk,TF,T9,Vd,S18,↓XX,XY,↓reduceIte,Nat.reduceBEq,Nat.reduceAdd,Int.reduceEq,Int.reduceLT,Int.reduceLE,↓c1,↓c2,hz,Tm.z,Am];exact AW rfl (by simp) _
end Idl
end Go.Proofs.Ytbkdidonegggdaa

/-
  Texts of a proof, part 10: an ideal semantics of the program, its functions in shallow form, contracts of them. No statement of the seat is proved here.
-/
import Derived.KernelRfl
import Derived.Test.YtbkdidonegggdaaNormStepsK9
set_option linter.all false
noncomputable section
namespace Go.Proofs.Ytbkdidonegggdaa
namespace Idl
theorem AgO {f:Nat} {G:Aa→Nat→Hp→Option (IV×Hp)} (e:dt.call f=fun ih n=>Md (G ih n)) (n:Nat) (h:Hp):SS dt (n+1) f [] h=G (SS dt n) n  h:=by
 show dt.call f (SS dt n) n _ h=_
 rw [e];rfl
theorem CD {f:Nat} {G:Aa→Nat→IV→Hp→Option (IV×Hp)} (e:dt.call f=fun ih n=>Hn (G ih n)) (n:Nat) (a0:IV) (h:Hp):SS dt (n+1) f [a0] h=G (SS dt n) n a0 h:=by
 show dt.call f (SS dt n) n _ h=_
 rw [e];rfl
theorem BU {f:Nat} {G:Aa→Nat→IV→IV→Hp→Option (IV×Hp)} (e:dt.call f=fun ih n=>E1 (G ih n)) (n:Nat) (a0 a1:IV) (h:Hp):SS dt (n+1) f [a0,a1] h=G (SS dt n) n a0 a1 h:=by
 show dt.call f (SS dt n) n _ h=_
 rw [e];rfl
theorem JA {f:Nat} {G:Aa→Nat→IV→IV→IV→Hp→Option (IV×Hp)} (e:dt.call f=fun ih n=>UV (G ih n)) (n:Nat) (a0 a1 a2:IV) (h:Hp):SS dt (n+1) f [a0,a1,a2] h=G (SS dt n) n a0 a1 a2 h:=by
 show dt.call f (SS dt n) n _ h=_
 rw [e];rfl
theorem Fs {f:Nat} {G:Aa→Nat→IV→IV→IV→IV→Hp→Option (IV×Hp)} (e:dt.call f=fun ih n=>Mq (G ih n)) (n:Nat) (a0 a1 a2 a3:IV) (h:Hp):SS dt (n+1) f [a0,a1,a2,a3] h=G (SS dt n) n a0 a1 a2 a3 h:=by
 show dt.call f (SS dt n) n _ h=_
 rw [e];rfl
theorem Anl {f:Nat} {G:Aa→Nat→IV→IV→IV→IV→IV→Hp→Option (IV×Hp)} (e:dt.call f=fun ih n=>ar5 (G ih n)) (n:Nat) (a0 a1 a2 a3 a4:IV) (h:Hp):SS dt (n+1) f [a0,a1,a2,a3,a4] h=G (SS dt n) n a0 a1 a2 a3 a4 h:=by
 show dt.call f (SS dt n) n _ h=_
 rw [e];rfl
theorem c5 (n:Nat) (a0 a1 a2 a3 a4:IV) (h:Hp):SS dt (n+1) 5 [a0,a1,a2,a3,a4] h=S5 (SS dt n) n a0 a1 a2 a3 a4 h:=Anl (show dt.call 5=fun ih n=>ar5 (S5 ih n) by kernel_rfl) ..
theorem c12 (n:Nat) (a0 a1 a2 a3:IV) (h:Hp):SS dt (n+1) 12 [a0,a1,a2,a3] h=S12 (SS dt n) n a0 a1 a2 a3 h:=Fs (show dt.call 12=fun ih n=>Mq (S12 ih n) by kernel_rfl) ..
theorem c15 (n:Nat) (a0:IV) (h:Hp):SS dt (n+1) 15 [a0] h=S15 (SS dt n) n a0 h:=CD (show dt.call 15=fun ih n=>Hn (S15 ih n) by kernel_rfl) ..
theorem c16 (n:Nat) (a0:IV) (h:Hp):SS dt (n+1) 16 [a0] h=S16 (SS dt n) n a0 h:=CD (show dt.call 16=fun ih n=>Hn (S16 ih n) by kernel_rfl) ..
theorem c18 (n:Nat) (a0:IV) (h:Hp):SS dt (n+1) 18 [a0] h=S18 (SS dt n) n a0 h:=CD (show dt.call 18=fun ih n=>Hn (S18 ih n) by kernel_rfl) ..
theorem c19 (n:Nat) (a0:IV) (h:Hp):SS dt (n+1) 19 [a0] h=S19 (SS dt n) n a0 h:=CD (show dt.call 19=fun ih n=>Hn (S19 ih n) by kernel_rfl) ..
theorem c20 (n:Nat) (a0:IV) (h:Hp):SS dt (n+1) 20 [a0] h=S20 (SS dt n) n a0 h:=CD (show dt.call 20=fun ih n=>Hn (S20 ih n) by kernel_rfl) ..
theorem c21 (n:Nat) (a0 a1:IV) (h:Hp):SS dt (n+1) 21 [a0,a1] h=S21 (SS dt n) n a0 a1 h:=BU (show dt.call 21=fun ih n=>E1 (S21 ih n) by kernel_rfl) ..
theorem c22 (n:Nat) (a0:IV) (h:Hp):SS dt (n+1) 22 [a0] h=S22 (SS dt n) n a0 h:=CD (show dt.call 22=fun ih n=>Hn (S22 ih n) by kernel_rfl) ..
theorem c24 (n:Nat) (a0:IV) (h:Hp):SS dt (n+1) 24 [a0] h=S24 (SS dt n) n a0 h:=CD (show dt.call 24=fun ih n=>Hn (S24 ih n) by kernel_rfl) ..
theorem c25 (n:Nat) (a0 a1 a2:IV) (h:Hp):SS dt (n+1) 25 [a0,a1,a2] h=S25 (SS dt n) n a0 a1 a2 h:=JA (show dt.call 25=fun ih n=>UV (S25 ih n) by kernel_rfl) ..
theorem c26 (n:Nat) (a0 a1 a2 a3:IV) (h:Hp):SS dt (n+1) 26 [a0,a1,a2,a3] h=S26 (SS dt n) n a0 a1 a2 a3 h:=Fs (show dt.call 26=fun ih n=>Mq (S26 ih n) by kernel_rfl) ..
theorem c27 (n:Nat) (a0 a1:IV) (h:Hp):SS dt (n+1) 27 [a0,a1] h=S27 (SS dt n) n a0 a1 h:=BU (show dt.call 27=fun ih n=>E1 (S27 ih n) by kernel_rfl) ..
theorem c28 (n:Nat) (a0 a1:IV) (h:Hp):SS dt (n+1) 28 [a0,a1] h=S28 (SS dt n) n a0 a1 h:=BU (show dt.call 28=fun ih n=>E1 (S28 ih n) by kernel_rfl) ..
theorem c29 (n:Nat) (a0 a1 a2:IV) (h:Hp):SS dt (n+1) 29 [a0,a1,a2] h=S29 (SS dt n) n a0 a1 a2 h:=JA (show dt.call 29=fun ih n=>UV (S29 ih n) by kernel_rfl) ..
theorem c30 (n:Nat) (a0 a1 a2:IV) (h:Hp):SS dt (n+1) 30 [a0,a1,a2] h=S30 (SS dt n) n a0 a1 a2 h:=JA (show dt.call 30=fun ih n=>UV (S30 ih n) by kernel_rfl) ..
theorem c31 (n:Nat) (a0 a1 a2:IV) (h:Hp):SS dt (n+1) 31 [a0,a1,a2] h=S31 (SS dt n) n a0 a1 a2 h:=JA (show dt.call 31=fun ih n=>UV (S31 ih n) by kernel_rfl) ..
theorem c32 (n:Nat) (a0 a1 a2 a3:IV) (h:Hp):SS dt (n+1) 32 [a0,a1,a2,a3] h=S32 (SS dt n) n a0 a1 a2 a3 h:=Fs (show dt.call 32=fun ih n=>Mq (S32 ih n) by kernel_rfl) ..
theorem c33 (n:Nat) (a0 a1:IV) (h:Hp):SS dt (n+1) 33 [a0,a1] h=S33 (SS dt n) n a0 a1 h:=BU (show dt.call 33=fun ih n=>E1 (S33 ih n) by kernel_rfl) ..
theorem c34 (n:Nat) (a0:IV) (h:Hp):SS dt (n+1) 34 [a0] h=S34 (SS dt n) n a0 h:=CD (show dt.call 34=fun ih n=>Hn (S34 ih n) by kernel_rfl) ..
theorem c35 (n:Nat) (a0:IV) (h:Hp):SS dt (n+1) 35 [a0] h=S35 (SS dt n) n a0 h:=CD (show dt.call 35=fun ih n=>Hn (S35 ih n) by kernel_rfl) ..
theorem c43 (n:Nat) (a0:IV) (h:Hp):SS dt (n+1) 43 [a0] h=S43 (SS dt n) n a0 h:=CD (show dt.call 43=fun ih n=>Hn (S43 ih n) by kernel_rfl) ..
theorem c46 (n:Nat) (a0:IV) (h:Hp):SS dt (n+1) 46 [a0] h=S46 (SS dt n) n a0 h:=CD (show dt.call 46=fun ih n=>Hn (S46 ih n) by kernel_rfl) ..
theorem c47 (n:Nat) (a0 a1:IV) (h:Hp):SS dt (n+1) 47 [a0,a1] h=S47 (SS dt n) n a0 a1 h:=BU (show dt.call 47=fun ih n=>E1 (S47 ih n) by kernel_rfl) ..
theorem c48 (n:Nat) (a0 a1 a2 a3:IV) (h:Hp):SS dt (n+1) 48 [a0,a1,a2,a3] h=S48 (SS dt n) n a0 a1 a2 a3 h:=Fs (show dt.call 48=fun ih n=>Mq (S48 ih n) by kernel_rfl) ..
theorem c49 (n:Nat) (a0 a1 a2:IV) (h:Hp):SS dt (n+1) 49 [a0,a1,a2] h=S49 (SS dt n) n a0 a1 a2 h:=JA (show dt.call 49=fun ih n=>UV (S49 ih n) by kernel_rfl) ..
theorem c50 (n:Nat) (a0:IV) (h:Hp):SS dt (n+1) 50 [a0] h=S50 (SS dt n) n a0 h:=CD (show dt.call 50=fun ih n=>Hn (S50 ih n) by kernel_rfl) ..
theorem c51 (n:Nat) (h:Hp):SS dt (n+1) 51 [] h=S51 (SS dt n) n  h:=AgO (show dt.call 51=fun ih n=>Md (S51 ih n) by kernel_rfl) ..
theorem c52 (n:Nat) (a0 a1 a2:IV) (h:Hp):SS dt (n+1) 52 [a0,a1,a2] h=S52 (SS dt n) n a0 a1 a2 h:=JA (show dt.call 52=fun ih n=>UV (S52 ih n) by kernel_rfl) ..
theorem c53 (n:Nat) (a0 a1 a2 a3:IV) (h:Hp):SS dt (n+1) 53 [a0,a1,a2,a3] h=S53 (SS dt n) n a0 a1 a2 a3 h:=Fs (show dt.call 53=fun ih n=>Mq (S53 ih n) by kernel_rfl) ..
theorem c54 (n:Nat) (a0 a1 a2:IV) (h:Hp):SS dt (n+1) 54 [a0,a1,a2] h=S54 (SS dt n) n a0 a1 a2 h:=JA (show dt.call 54=fun ih n=>UV (S54 ih n) by kernel_rfl) ..
theorem c55 (n:Nat) (a0 a1:IV) (h:Hp):SS dt (n+1) 55 [a0,a1] h=S55 (SS dt n) n a0 a1 h:=BU (show dt.call 55=fun ih n=>E1 (S55 ih n) by kernel_rfl) ..
theorem c56 (n:Nat) (h:Hp):SS dt (n+1) 56 [] h=S56 (SS dt n) n  h:=AgO (show dt.call 56=fun ih n=>Md (S56 ih n) by kernel_rfl) ..
theorem c57 (n:Nat) (a0:IV) (h:Hp):SS dt (n+1) 57 [a0] h=S57 (SS dt n) n a0 h:=CD (show dt.call 57=fun ih n=>Hn (S57 ih n) by kernel_rfl) ..
theorem c58 (n:Nat) (a0 a1:IV) (h:Hp):SS dt (n+1) 58 [a0,a1] h=S58 (SS dt n) n a0 a1 h:=BU (show dt.call 58=fun ih n=>E1 (S58 ih n) by kernel_rfl) ..
theorem c59 (n:Nat) (a0 a1 a2 a3:IV) (h:Hp):SS dt (n+1) 59 [a0,a1,a2,a3] h=S59 (SS dt n) n a0 a1 a2 a3 h:=Fs (show dt.call 59=fun ih n=>Mq (S59 ih n) by kernel_rfl) ..
theorem c60 (n:Nat) (a0 a1 a2 a3:IV) (h:Hp):SS dt (n+1) 60 [a0,a1,a2,a3] h=S60 (SS dt n) n a0 a1 a2 a3 h:=Fs (show dt.call 60=fun ih n=>Mq (S60 ih n) by kernel_rfl) ..
theorem c61 (n:Nat) (a0 a1 a2 a3:IV) (h:Hp):SS dt (n+1) 61 [a0,a1,a2,a3] h=S61 (SS dt n) n a0 a1 a2 a3 h:=Fs (show dt.call 61=fun ih n=>Mq (S61 ih n) by kernel_rfl) ..
theorem c62 (n:Nat) (a0 a1 a2 a3:IV) (h:Hp):SS dt (n+1) 62 [a0,a1,a2,a3] h=S62 (SS dt n) n a0 a1 a2 a3 h:=Fs (show dt.call 62=fun ih n=>Mq (S62 ih n) by kernel_rfl) ..
theorem c63 (n:Nat) (a0 a1:IV) (h:Hp):SS dt (n+1) 63 [a0,a1] h=S63 (SS dt n) n a0 a1 h:=BU (show dt.call 63=fun ih n=>E1 (S63 ih n) by kernel_rfl) ..
theorem c64 (n:Nat) (a0 a1 a2 a3:IV) (h:Hp):SS dt (n+1) 64 [a0,a1,a2,a3] h=S64 (SS dt n) n a0 a1 a2 a3 h:=Fs (show dt.call 64=fun ih n=>Mq (S64 ih n) by kernel_rfl) ..
theorem c68 (n:Nat) (a0 a1:IV) (h:Hp):SS dt (n+1) 68 [a0,a1] h=S68 (SS dt n) n a0 a1 h:=BU (show dt.call 68=fun ih n=>E1 (S68 ih n) by kernel_rfl) ..
theorem c69 (n:Nat) (a0 a1:IV) (h:Hp):SS dt (n+1) 69 [a0,a1] h=S69 (SS dt n) n a0 a1 h:=BU (show dt.call 69=fun ih n=>E1 (S69 ih n) by kernel_rfl) ..
theorem c70 (n:Nat) (a0 a1:IV) (h:Hp):SS dt (n+1) 70 [a0,a1] h=S70 (SS dt n) n a0 a1 h:=BU (show dt.call 70=fun ih n=>E1 (S70 ih n) by kernel_rfl) ..
theorem c71 (n:Nat) (a0:IV) (h:Hp):SS dt (n+1) 71 [a0] h=S71 (SS dt n) n a0 h:=CD (show dt.call 71=fun ih n=>Hn (S71 ih n) by kernel_rfl) ..
theorem c72 (n:Nat) (a0 a1:IV) (h:Hp):SS dt (n+1) 72 [a0,a1] h=S72 (SS dt n) n a0 a1 h:=BU (show dt.call 72=fun ih n=>E1 (S72 ih n) by kernel_rfl) ..
theorem c73 (n:Nat) (a0 a1:IV) (h:Hp):SS dt (n+1) 73 [a0,a1] h=S73 (SS dt n) n a0 a1 h:=BU (show dt.call 73=fun ih n=>E1 (S73 ih n) by kernel_rfl) ..
theorem c74 (n:Nat) (a0 a1:IV) (h:Hp):SS dt (n+1) 74 [a0,a1] h=S74 (SS dt n) n a0 a1 h:=BU (show dt.call 74=fun ih n=>E1 (S74 ih n) by kernel_rfl) ..
theorem c75 (n:Nat) (a0 a1:IV) (h:Hp):SS dt (n+1) 75 [a0,a1] h=S75 (SS dt n) n a0 a1 h:=BU (show dt.call 75=fun ih n=>E1 (S75 ih n) by kernel_rfl) ..
theorem c76 (n:Nat) (a0 a1:IV) (h:Hp):SS dt (n+1) 76 [a0,a1] h=S76 (SS dt n) n a0 a1 h:=BU (show dt.call 76=fun ih n=>E1 (S76 ih n) by kernel_rfl) ..
theorem c77 (n:Nat) (a0:IV) (h:Hp):SS dt (n+1) 77 [a0] h=S77 (SS dt n) n a0 h:=CD (show dt.call 77=fun ih n=>Hn (S77 ih n) by kernel_rfl) ..
theorem c78 (n:Nat) (a0 a1:IV) (h:Hp):SS dt (n+1) 78 [a0,a1] h=S78 (SS dt n) n a0 a1 h:=BU (show dt.call 78=fun ih n=>E1 (S78 ih n) by kernel_rfl) ..
theorem c79 (n:Nat) (a0 a1:IV) (h:Hp):SS dt (n+1) 79 [a0,a1] h=S79 (SS dt n) n a0 a1 h:=BU (show dt.call 79=fun ih n=>E1 (S79 ih n) by kernel_rfl) ..
theorem c80 (n:Nat) (a0 a1:IV) (h:Hp):SS dt (n+1) 80 [a0,a1] h=S80 (SS dt n) n a0 a1 h:=BU (show dt.call 80=fun ih n=>E1 (S80 ih n) by kernel_rfl) ..
theorem c81 (n:Nat) (a0 a1 a2 a3:IV) (h:Hp):SS dt (n+1) 81 [a0,a1,a2,a3] h=S81 (SS dt n) n a0 a1 a2 a3 h:=Fs (show dt.call 81=fun ih n=>Mq (S81 ih n) by kernel_rfl) ..
theorem c82 (n:Nat) (a0:IV) (h:Hp):SS dt (n+1) 82 [a0] h=S82 (SS dt n) n a0 h:=CD (show dt.call 82=fun ih n=>Hn (S82 ih n) by kernel_rfl) ..
theorem c83 (n:Nat) (a0 a1:IV) (h:Hp):SS dt (n+1) 83 [a0,a1] h=S83 (SS dt n) n a0 a1 h:=BU (show dt.call 83=fun ih n=>E1 (S83 ih n) by kernel_rfl) ..
theorem c86 (n:Nat) (a0:IV) (h:Hp):SS dt (n+1) 86 [a0] h=S86 (SS dt n) n a0 h:=CD (show dt.call 86=fun ih n=>Hn (S86 ih n) by kernel_rfl) ..
theorem c87 (n:Nat) (a0 a1:IV) (h:Hp):SS dt (n+1) 87 [a0,a1] h=S87 (SS dt n) n a0 a1 h:=BU (show dt.call 87=fun ih n=>E1 (S87 ih n) by kernel_rfl) ..
theorem c88 (n:Nat) (a0 a1:IV) (h:Hp):SS dt (n+1) 88 [a0,a1] h=S88 (SS dt n) n a0 a1 h:=BU (show dt.call 88=fun ih n=>E1 (S88 ih n) by kernel_rfl) ..
theorem c89 (n:Nat) (a0 a1:IV) (h:Hp):SS dt (n+1) 89 [a0,a1] h=S89 (SS dt n) n a0 a1 h:=BU (show dt.call 89=fun ih n=>E1 (S89 ih n) by kernel_rfl) ..
def C9:=Ata @QM.eq_1<|Ata @SY.eq_1<|Ata @Sw.eq_1<|Ata @SJ.eq_1<|Ata @R2.eq_1<|Ata @Qi.eq_1<|Ata @Rc.eq_1<|Ata @SA.eq_1<|Ata @RH.eq_1<|Ata @QA.eq_1<|Ata @VG.eq_1<|Ata @Qw.eq_1<|Ata @Ps.eq_1<|Ata @RO.eq_1<|Ata @QE.eq_1<|Ata @ST.eq_1<|Ata @SK.eq_1<|Ata @Ql.eq_1<|Ata @SX.eq_1<|Ata @PB.eq_1<|Ata @Qr.eq_1<|Ata @Pv.eq_1<|Ata @Sk.eq_1<|Ata @RW.eq_1<|Ata @Tk.eq_1<|Ata @SN.eq_1<|Ata @P9.eq_1<|Ata @Rr.eq_1<|Ata @Qa.eq_1<|Ata @To.eq_1<|Ata @Qc.eq_1<|Ata @SR.eq_1<|Ata @Q2.eq_1<|Ata @Rf.eq_1<|Ata @Q3.eq_1<|Ata @Q0.eq_1<|Ata @Tf.eq_1<|Ata @Se.eq_1<|Ata @RB.eq_1<|Ata @P2.eq_1<|Ata @Pw.eq_1<|Ata @RA.eq_1<|Ata @Q6.eq_1<|Ata @Rm.eq_1<|Ata @S6.eq_1<|Ata @RG.eq_1<|Ata @Q4.eq_1<|Ata @PN.eq_1<|Ata @PQ.eq_1<|Ata @Qg.eq_1<|Ata @Sg.eq_1<|Ata @QT.eq_1<|Ata @Re.eq_1<|Ata @Qn.eq_1<|Ata @QL.eq_1<|Ata @Rw.eq_1<|Ata @Ti.eq_1<|Ata @QS.eq_1<|Ata @Sy.eq_1<|Ata @SL.eq_1<|Ata @Rz.eq_1<|Ata @Qz.eq_1<|Ata @SQ.eq_1<|Ata @P4.eq_1<|Ata @Q9.eq_1<|Ata @Pu.eq_1<|Ata @Qo.eq_1<|Ata @P8.eq_1<|Ata @Tc.eq_1<|@S5.eq_1
def I5:=Ata @QM.eq_1<|Ata @SY.eq_1<|Ata @Sw.eq_1<|Ata @SJ.eq_1<|Ata @R2.eq_1<|Ata @Qi.eq_1<|Ata @Rc.eq_1<|Ata @SA.eq_1<|Ata @RH.eq_1<|Ata @QA.eq_1<|Ata @Qw.eq_1<|Ata @Ps.eq_1<|Ata @RO.eq_1<|Ata @QE.eq_1<|Ata @ST.eq_1<|Ata @SK.eq_1<|Ata @Ql.eq_1<|Ata @SX.eq_1<|Ata @PB.eq_1<|Ata @Qr.eq_1<|Ata @Pv.eq_1<|Ata @Sk.eq_1<|Ata @RW.eq_1<|Ata @Tk.eq_1<|Ata @SN.eq_1<|Ata @P9.eq_1<|Ata @Rr.eq_1<|Ata @Qa.eq_1<|Ata @To.eq_1<|Ata @Qc.eq_1<|Ata @SR.eq_1<|Ata @Q2.eq_1<|Ata @Rf.eq_1<|Ata @Q3.eq_1<|Ata @Q0.eq_1<|Ata @Tf.eq_1<|Ata @Se.eq_1<|Ata @RB.eq_1<|Ata @P2.eq_1<|Ata @Pw.eq_1<|Ata @RA.eq_1<|Ata @Q6.eq_1<|Ata @Rm.eq_1<|Ata @S6.eq_1<|Ata @RG.eq_1<|Ata @Q4.eq_1<|Ata @PN.eq_1<|Ata @PQ.eq_1<|Ata @Qg.eq_1<|Ata @Sg.eq_1<|Ata @QT.eq_1<|Ata @Re.eq_1<|Ata @Qn.eq_1<|Ata @QL.eq_1<|Ata @Rw.eq_1<|Ata @Ti.eq_1<|Ata @QS.eq_1<|Ata @Sy.eq_1<|Ata @SL.eq_1<|Ata @Rz.eq_1<|Ata @Qz.eq_1<|Ata @SQ.eq_1<|Ata @P4.eq_1<|Ata @Q9.eq_1<|Ata @Pu.eq_1<|Ata @Qo.eq_1<|Ata @P8.eq_1<|Ata @Tc.eq_1<|@S5.eq_1
def UU3:=Ata @Ic.eq_1<|Ata @Ib.eq_1<|Ata @IN.eq_1<|Ata @IC.eq_1<|Ata @Iv.eq_1<|Ata @Iq.eq_1<|Ata @H8.eq_1<|Ata @ID.eq_1<|Ata @IQ.eq_1<|Ata @H0.eq_1<|Ata @Ia.eq_1<|Ata @Iu.eq_1<|Ata @IL.eq_1<|Ata @Ik.eq_1<|Ata @IK.eq_1<|Ata @In.eq_1<|@S62.eq_1
def UU4:=Ata @AeY.eq_1<|Ata @Afa.eq_1<|Ata @Aet.eq_1<|Ata @AeI.eq_1<|Ata @Agw.eq_1<|@S63.eq_1
def UU5:=Ata @Wj.eq_1<|Ata @Wt.eq_1<|Ata @U9.eq_1<|Ata @Wb.eq_1<|Ata @Vs.eq_1<|Ata @Wv.eq_1<|Ata @VW.eq_1<|Ata @Vq.eq_1<|Ata @Wh.eq_1<|Ata @Ae2.eq_1<|@S24.eq_1
def UU6:=Ata @Abn.eq_1<|Ata @AbO.eq_1<|Ata @Xy.eq_1<|Ata @Aat.eq_1<|Ata @Xv.eq_1<|Ata @Ab7.eq_1<|Ata @AbT.eq_1<|Ata @AbU.eq_1<|Ata @WW.eq_1<|Ata @AaQ.eq_1<|Ata @WV.eq_1<|Ata @YG.eq_1<|Ata @YI.eq_1<|Ata @Aa2.eq_1<|Ata @Zj.eq_1<|Ata @WR.eq_1<|Ata @Abl.eq_1<|Ata @Zq.eq_1<|Ata @Zk.eq_1<|Ata @YV.eq_1<|Ata @AbX.eq_1<|Ata @AbH.eq_1<|Ata @Abx.eq_1<|Ata @AbN.eq_1<|Ata @Z5.eq_1<|Ata @Aah.eq_1<|Ata @Y6.eq_1<|Ata @X3.eq_1<|Ata @Yf.eq_1<|Ata @WG.eq_1<|Ata @ZH.eq_1<|Ata @XJ.eq_1<|Ata @Aaa.eq_1<|Ata @ZS.eq_1<|Ata @Aa6.eq_1<|Ata @Acl.eq_1<|Ata @W0.eq_1<|Ata @Aa3.eq_1<|Ata @AbC.eq_1<|Ata @XP.eq_1<|Ata @X2.eq_1<|@S26.eq_1
def UU7:=Ata @WQ.eq_1<|Ata @AbE.eq_1<|Ata @AbD.eq_1<|Ata @AaW.eq_1<|Ata @YT.eq_1<|Ata @WI.eq_1<|Ata @AaT.eq_1<|Ata @WH.eq_1<|Ata @W4.eq_1<|Ata @XS.eq_1<|Ata @Y2.eq_1<|Ata @X8.eq_1<|Ata @YJ.eq_1<|Ata @X6.eq_1<|Ata @Zh.eq_1<|Ata @Ab1.eq_1<|Ata @Acu.eq_1<|Ata @W1.eq_1<|Ata @Aci.eq_1<|Ata @Ze.eq_1<|Ata @Aa1.eq_1<|Ata @Yb.eq_1<|Ata @AcU.eq_1<|Ata @Aal.eq_1<|Ata @Z0.eq_1<|Ata @Yz.eq_1<|Ata @Xo.eq_1<|Ata @ZX.eq_1<|Ata @AbZ.eq_1<|Ata @Abj.eq_1<|Ata @AcN.eq_1<|Ata @Zg.eq_1<|Ata @AbW.eq_1<|Ata @ZG.eq_1<|Ata @Zu.eq_1<|Ata @Acq.eq_1<|Ata @XU.eq_1<|Ata @W2.eq_1<|Ata @Xz.eq_1<|Ata @Acz.eq_1<|Ata @Ab6.eq_1<|Ata @YY.eq_1<|Ata @XW.eq_1<|Ata @Abi.eq_1<|@S32.eq_1
def UU8:=Ata @Xx.eq_1<|Ata @Xe.eq_1<|Ata @Xs.eq_1<|Ata @Zf.eq_1<|Ata @Zs.eq_1<|Ata @WK.eq_1<|Ata @YD.eq_1<|Ata @XN.eq_1<|Ata @AbB.eq_1<|Ata @XG.eq_1<|Ata @AcH.eq_1<|Ata @Aa7.eq_1<|Ata @Aby.eq_1<|Ata @AcQ.eq_1<|Ata @AaO.eq_1<|Ata @Zn.eq_1<|Ata @YR.eq_1<|Ata @Abc.eq_1<|Ata @AcG.eq_1<|Ata @AcC.eq_1<|Ata @Y1.eq_1<|Ata @Yg.eq_1<|Ata @Ack.eq_1<|Ata @Acr.eq_1<|Ata @Zt.eq_1<|Ata @AcF.eq_1<|Ata @AbR.eq_1<|Ata @Ab5.eq_1<|Ata @AbM.eq_1<|Ata @Abz.eq_1<|Ata @Xc.eq_1<|Ata @AbK.eq_1<|Ata @AaK.eq_1<|Ata @Xl.eq_1<|Ata @Zo.eq_1<|Ata @Aai.eq_1<|Ata @Abb.eq_1<|Ata @Xb.eq_1<|Ata @XF.eq_1<|Ata @ZZ.eq_1<|Ata @Aag.eq_1<|Ata @WN.eq_1<|Ata @Xp.eq_1<|Ata @YA.eq_1<|Ata @Zr.eq_1<|Ata @Aay.eq_1<|Ata @WY.eq_1<|Ata @Abq.eq_1<|Ata @Ab2.eq_1<|Ata @Y8.eq_1<|Ata @Y5.eq_1<|Ata @AaZ.eq_1<|Ata @Aa8.eq_1<|Ata @AaR.eq_1<|Ata @X1.eq_1<|Ata @Za.eq_1<|@S64.eq_1
def Vg:=Ata @X5.eq_1<|Ata @ZA.eq_1<|Ata @AbL.eq_1<|Ata @YN.eq_1<|Ata @ZW.eq_1<|Ata @Abg.eq_1<|Ata @Yl.eq_1<|Ata @AaJ.eq_1<|Ata @Yq.eq_1<|Ata @Aav.eq_1<|Ata @Aa4.eq_1<|Ata @AcD.eq_1<|Ata @AcS.eq_1<|Ata @Acj.eq_1<|Ata @Abo.eq_1<|Ata @AcP.eq_1<|Ata @Yo.eq_1<|Ata @YU.eq_1<|Ata @AaU.eq_1<|Ata @Yd.eq_1<|Ata @WL.eq_1<|Ata @AbQ.eq_1<|Ata @XH.eq_1<|Ata @AaI.eq_1<|Ata @Y7.eq_1<|Ata @Acy.eq_1<|Ata @Aba.eq_1<|Ata @AaS.eq_1<|Ata @AcM.eq_1<|Ata @Aax.eq_1<|Ata @YO.eq_1<|Ata @Zm.eq_1<|Ata @WP.eq_1<|Ata @Aaf.eq_1<|Ata @ZQ.eq_1<|Ata @Abm.eq_1<|Ata @XQ.eq_1<|Ata @Acm.eq_1<|Ata @X4.eq_1<|Ata @AaY.eq_1<|Ata @Zc.eq_1<|Ata @YK.eq_1<|Ata @X9.eq_1<|Ata @Aaj.eq_1<|Ata @XO.eq_1<|Ata @Ach.eq_1<|Ata @AaF.eq_1<|Ata @Ace.eq_1<|Ata @Aco.eq_1<|Ata @Zy.eq_1<|Ata @AbY.eq_1<|Ata @AcA.eq_1<|Ata @Ya.eq_1<|Ata @Z4.eq_1<|Ata @Aad.eq_1<|Ata @Y4.eq_1<|Ata @Abh.eq_1<|Ata @WX.eq_1<|Ata @ZI.eq_1<|@S61.eq_1
def Kv:=Ata @Z1.eq_1<|Ata @Aab.eq_1<|Ata @ZF.eq_1<|Ata @AaX.eq_1<|Ata @Aam.eq_1<|Ata @Zx.eq_1<|Ata @AcK.eq_1<|Ata @Acx.eq_1<|Ata @X0.eq_1<|Ata @Yw.eq_1<|Ata @AaP.eq_1<|Ata @W3.eq_1<|Ata @Aa0.eq_1<|Ata @Aan.eq_1<|Ata @Aap.eq_1<|Ata @Xq.eq_1<|Ata @YW.eq_1<|Ata @AcO.eq_1<|Ata @Yc.eq_1<|Ata @Z2.eq_1<|Ata @Xw.eq_1<|Ata @Xr.eq_1<|Ata @AcL.eq_1<|Ata @Aac.eq_1<|Ata @ZV.eq_1<|Ata @XM.eq_1<|Ata @Zw.eq_1<|Ata @Yx.eq_1<|@S25.eq_1
def Ou:=Ata @PK.eq_1<|Ata @R9.eq_1<|Ata @P6.eq_1<|Ata @S7.eq_1<|Ata @S4.eq_1<|Ata @Rg.eq_1<|Ata @PX.eq_1<|Ata @Ra.eq_1<|Ata @Qq.eq_1<|Ata @SB.eq_1<|Ata @Q5.eq_1<|Ata @SP.eq_1<|Ata @PR.eq_1<|Ata @Rj.eq_1<|Ata @XK.eq_1<|@S59.eq_1
def Jq:=Ata @RR.eq_1<|Ata @Rs.eq_1<|Ata @Sr.eq_1<|Ata @So.eq_1<|Ata @Rh.eq_1<|Ata @Pz.eq_1<|Ata @Tp.eq_1<|Ata @SF.eq_1<|Ata @Qy.eq_1<|Ata @PH.eq_1<|Ata @Sd.eq_1<|Ata @Qx.eq_1<|Ata @SG.eq_1<|Ata @R0.eq_1<|Ata @Qb.eq_1<|Ata @QY.eq_1<|Ata @Qf.eq_1<|Ata @RJ.eq_1<|Ata @Sn.eq_1<|Ata @P7.eq_1<|Ata @P3.eq_1<|Ata @Sc.eq_1<|Ata @QH.eq_1<|Ata @RM.eq_1<|Ata @SD.eq_1<|Ata @QO.eq_1<|Ata @PL.eq_1<|Ata @PC.eq_1<|Ata @Sb.eq_1<|Ata @PZ.eq_1<|Ata @Tn.eq_1<|Ata @Q7.eq_1<|Ata @IM.eq_1<|Ata @PF.eq_1<|@S46.eq_1
def Ag4:=Ata @Ez.eq_1<|Ata @Ey.eq_1<|Ata @EA.eq_1<|Ata @El.eq_1<|Ata @ED.eq_1<|Ata @En.eq_1<|Ata @GV.eq_1<|Ata @Eu.eq_1<|Ata @EK.eq_1<|Ata @EM.eq_1<|Ata @Ew.eq_1<|Ata @EJ.eq_1<|Ata @Eo.eq_1<|Ata @Eg.eq_1<|Ata @EI.eq_1<|Ata @Em.eq_1<|Ata @EG.eq_1<|Ata @EC.eq_1<|Ata @Ei.eq_1<|Ata @EH.eq_1<|Ata @Et.eq_1<|Ata @EF.eq_1<|Ata @Ep.eq_1<|Ata @EL.eq_1<|Ata @Ej.eq_1<|Ata @Ek.eq_1<|Ata @Es.eq_1<|Ata @EB.eq_1<|Ata @Eh.eq_1<|@S48.eq_1
def FL:=Ata @XT.eq_1<|Ata @Yk.eq_1<|Ata @Abs.eq_1<|Ata @Yv.eq_1<|Ata @Abt.eq_1<|Ata @Zz.eq_1<|Ata @WU.eq_1<|Ata @Aak.eq_1<|Ata @ZP.eq_1<|Ata @X7.eq_1<|Ata @Z6.eq_1<|Ata @Aaz.eq_1<|Ata @AaH.eq_1<|Ata @Zb.eq_1<|Ata @Z8.eq_1<|Ata @AbP.eq_1<|Ata @AaA.eq_1<|Ata @Ye.eq_1<|Ata @Xu.eq_1<|Ata @Ab8.eq_1<|Ata @Aao.eq_1<|Ata @AaV.eq_1<|Ata @AaN.eq_1<|Ata @Z7.eq_1<|Ata @Aas.eq_1<|Ata @Abd.eq_1<|Ata @AcI.eq_1<|Ata @ZD.eq_1<|Ata @Yp.eq_1<|Ata @Aca.eq_1<|Ata @W6.eq_1<|Ata @Yu.eq_1<|Ata @Acw.eq_1<|Ata @Ab0.eq_1<|Ata @Xi.eq_1<|Ata @XZ.eq_1<|Ata @ZJ.eq_1<|Ata @Abw.eq_1<|Ata @Aa5.eq_1<|Ata @AcR.eq_1<|Ata @AbF.eq_1<|Ata @XA.eq_1<|Ata @Xg.eq_1<|Ata @XB.eq_1<|Ata @ZM.eq_1<|Ata @ZR.eq_1<|Ata @Aa9.eq_1<|Ata @Abp.eq_1<|Ata @WO.eq_1<|Ata @AaB.eq_1<|@S70.eq_1
def TU:=Ata @Ih.eq_1<|Ata @H9.eq_1<|Ata @IW.eq_1<|Ata @H5.eq_1<|Ata @Il.eq_1<|Ata @IF.eq_1<|Ata @Is.eq_1<|Ata @IA.eq_1<|Ata @IZ.eq_1<|Ata @Ig.eq_1<|Ata @IG.eq_1<|Ata @IT.eq_1<|Ata @IY.eq_1<|Ata @Iz.eq_1<|Ata @II.eq_1<|Ata @H1.eq_1<|Ata @I0.eq_1<|Ata @Ir.eq_1<|Ata @If.eq_1<|Ata @YS.eq_1<|Ata @Ix.eq_1<|Ata @Ie.eq_1<|Ata @IU.eq_1<|@S49.eq_1
def Ad7:=Ata @J9.eq_1<|Ata @JF.eq_1<|Ata @JY.eq_1<|Ata @Kg.eq_1<|Ata @KD.eq_1<|Ata @JH.eq_1<|Ata @Ke.eq_1<|Ata @KS.eq_1<|Ata @Kc.eq_1<|Ata @J5.eq_1<|Ata @JQ.eq_1<|Ata @Kk.eq_1<|Ata @KW.eq_1<|Ata @Kp.eq_1<|@S54.eq_1
def Afp:=Ata @Ae4.eq_1<|Ata @AgD.eq_1<|Ata @AeC.eq_1<|Ata @AgM.eq_1<|Ata @Afu.eq_1<|@S83.eq_1
def AfO:=Ata @AeS.eq_1<|Ata @Agl.eq_1<|Ata @AgB.eq_1<|Ata @Aft.eq_1<|Ata @AgF.eq_1<|Ata @Afg.eq_1<|@S71.eq_1
def Afh:=Ata @KU.eq_1<|Ata @Kd.eq_1<|Ata @Kq.eq_1<|Ata @JZ.eq_1<|Ata @J0.eq_1<|Ata @Kn.eq_1<|Ata @Kl.eq_1<|@S50.eq_1
def VE:=Ata @Dr.eq_1<|Ata @DS.eq_1<|Ata @Dj.eq_1<|Ata @DG.eq_1<|Ata @Dy.eq_1<|Ata @DO.eq_1<|Ata @CF.eq_1<|Ata @Di.eq_1<|Ata @DC.eq_1<|Ata @Dk.eq_1<|Ata @Dn.eq_1<|Ata @DR.eq_1<|Ata @DE.eq_1<|Ata @DJ.eq_1<|Ata @DP.eq_1<|Ata @Du.eq_1<|Ata @Dt.eq_1<|Ata @DL.eq_1<|Ata @DM.eq_1<|Ata @Df.eq_1<|Ata @Dz.eq_1<|Ata @Dd.eq_1<|Ata @DW.eq_1<|Ata @DN.eq_1<|Ata @DB.eq_1<|Ata @E6.eq_1<|Ata @Dl.eq_1<|Ata @DU.eq_1<|Ata @De.eq_1<|Ata @DD.eq_1<|Ata @DX.eq_1<|@S53.eq_1
def Adb:=Ata @Aej.eq_1<|Ata @Ad9.eq_1<|Ata @Ae3.eq_1<|Ata @AeK.eq_1<|Ata @AfG.eq_1<|@S88.eq_1
def Agx:=Ata @Mw.eq_1<|Ata @L5.eq_1<|Ata @L9.eq_1<|Ata @MA.eq_1<|Ata @Mg.eq_1<|Ata @Mb.eq_1<|Ata @Mu.eq_1<|Ata @Mp.eq_1<|Ata @XC.eq_1<|Ata @Ma.eq_1<|Ata @Mz.eq_1<|Ata @Mc.eq_1<|Ata @Mx.eq_1<|Ata @L8.eq_1<|Ata @Ms.eq_1<|@S52.eq_1
def Vj:=Ata @Zi.eq_1<|Ata @ZL.eq_1<|Ata @YH.eq_1<|Ata @Acn.eq_1<|Ata @Aau.eq_1<|Ata @XR.eq_1<|Ata @AaL.eq_1<|Ata @Yi.eq_1<|Ata @Aaq.eq_1<|Ata @YQ.eq_1<|Ata @AcB.eq_1<|Ata @YZ.eq_1<|@S80.eq_1
section
variable {β:Type} {E:Env} {t:TypeId}
abbrev iv (n:Int):IV:=.fv (.int .i64 n)
theorem Ak1 (c:Prop) [Decidable c] (a b:Option β):Al (.fv (.bool (decide c))) a b=if c then a else b:=by
 by_cases h:c
 ·rw [decide_eq_true h,if_pos h];rfl
 ·rw [decide_eq_false h,if_neg h];rfl
theorem Ain (o:Nat) (r:Ref) (off:Nat) (k:IV→Option β):Ae o (.ptr r off) k=k (.ptr r (off+o)):=by
 show (DZ (off+o) fun o=>k (.ptr r o))=_
 rw [BM]
theorem O4 (o:Nat) (cs:List FV) (off:Nat) (k:IV→Option β):Ae o (.fv (.fp cs off)) k=k (.fv (.fp cs (off+o))):=by
 show (DZ (off+o) fun o=>k (.fv (.fp cs o)))=_
 rw [BM]
theorem Am7 {size:Nat} {es:List FV} {n:Nat} {el:FV} (he:es[n]?=some el) (hl:el.cells.length=size) (k:IV→Option β):Bc size (.fv (.sl es)) (iv n) k=k (.fv (.fp el.cells 0)):=by
 show (Do es n fun el=>elK size el k)=_
 rw [CZ,he]
 show elK size el k=_
 rw [Aen,if_pos hl]
theorem Lp {op:BinOp} {g:Nat→Nat→Bool} (hg:∀a b:Nat,Fk E op t (iv a) (iv b)=some (.fv (.bool (g a b)))) (a b:Int) (k:IV→Option β) :
  Sl E t op g (iv a) (iv b) k=(Fk E op t (iv a) (iv b)).bind k:=by
 cases a with
 | ofNat a =>
  cases b with
  | ofNat b =>
   show Af9 (g a b) k=_
   rw [Tx,show Fk E op t (iv (Int.ofNat a)) (iv (Int.ofNat b))=some (.fv (.bool (g a b))) from hg a b]
   rfl
  | negSucc b =>
   show CN E t op _ _ k=_
   rw [CN,CI]
 | negSucc a =>
  show CN E t op _ _ k=_
  rw [CN,CI]
theorem An6 (a b:Int) (k:IV→Option β):A0 E t (iv a) (iv b) k=k (.fv (.bool (decide (a=b)))):=by
 rw [A0,Lp (fun a b=>by
  show some (IV.fv (.bool ((a:Int) == (b:Int))))=_
  rw [Ii];congr 3;exact decide_eq_decide.2 Int.ofNat_inj)]
 rfl
theorem Apb (a b:Int) (k:IV→Option β):I1 E t (iv a) (iv b) k=k (.fv (.bool (!decide (a=b)))):=by
 rw [I1,Lp (fun a b=>by
  show some (IV.fv (.bool ((a:Int) != (b:Int))))=_
  rw [Ii];congr 3
  show (!decide ((a:Int)=(b:Int)))=!decide (a=b)
  congr 1;exact decide_eq_decide.2 Int.ofNat_inj)]
 rfl
theorem AnO (a b:Int) (k:IV→Option β):Hm E t (iv a) (iv b) k=k (.fv (.bool (decide (a<b)))):=by
 rw [Hm,Lp (fun a b=>by
  show some (IV.fv (.bool (decide ((a:Int)<(b:Int)))))=_
  rw [Bi];congr 3;exact decide_eq_decide.2 (by omega))]
 rfl
theorem Aop (a b:Int) (k:IV→Option β):leS E t (iv a) (iv b) k=k (.fv (.bool (decide (a≤b)))):=by
 rw [leS,Lp (fun a b=>by
  show some (IV.fv (.bool (decide ((a:Int)≤(b:Int)))))=_
  rw [Bi];congr 3;exact decide_eq_decide.2 (by omega))]
 rfl
theorem Ao7 (b:Bool) (k:IV→Option β):CJ (KX .not (.fv (.bool b))) k=k (.fv (.bool !b)):=by
 rw [CI];rfl
end
end Idl
end Go.Proofs.Ytbkdidonegggdaa
namespace Go.Proofs.Ytbkdidonegggdaa
namespace Idl
section
variable {β:Type} {α:Type}
theorem n0 (a:α) (l:List α) (k:α→Option β):Do (a::l) 0 k=k a:=rfl
theorem n1 (a b:α) (l:List α) (k:α→Option β):Do (a::b::l) 1 k=k b:=rfl
theorem n2 (a b c:α) (l:List α) (k:α→Option β):Do (a::b::c::l) 2 k=k c:=rfl
theorem n3 (a b c d:α) (l:List α) (k:α→Option β):Do (a::b::c::d::l) 3 k=k d:=rfl
theorem n4 (a b c d e:α) (l:List α) (k:α→Option β):Do (a::b::c::d::e::l) 4 k=k e:=rfl
theorem n5 (a b c d e f:α) (l:List α) (k:α→Option β):Do (a::b::c::d::e::f::l) 5 k=k f:=rfl
theorem n6 (a b c d e f g:α) (l:List α) (k:α→Option β):Do (a::b::c::d::e::f::g::l) 6 k=k g:=rfl
theorem d0 (l:List α) (k:List α→Option β):Fw l 0 k=k l:=by cases l<;>rfl
theorem d1 (a:α) (l:List α) (k:List α→Option β):Fw (a::l) 1 k=k l:=by cases l<;>rfl
theorem d2 (a b:α) (l:List α) (k:List α→Option β):Fw (a::b::l) 2 k=k l:=by cases l<;>rfl
theorem d3 (a b c:α) (l:List α) (k:List α→Option β):Fw (a::b::c::l) 3 k=k l:=by cases l<;>rfl
theorem d4 (a b c d:α) (l:List α) (k:List α→Option β):Fw (a::b::c::d::l) 4 k=k l:=by cases l<;>rfl
theorem t1 (a:α) (l:List α) (k:List α→Option β):FI (a::l) 1 k=k [a]:=by cases l<;>rfl
theorem t2 (a b:α) (l:List α) (k:List α→Option β):FI (a::b::l) 2 k=k [a,b]:=by cases l<;>rfl
theorem t3 (a b c:α) (l:List α) (k:List α→Option β):FI (a::b::c::l) 3 k=k [a,b,c]:=by cases l<;>rfl
theorem t4 (a b c d:α) (l:List α) (k:List α→Option β):FI (a::b::c::d::l) 4 k=k [a,b,c,d]:=by cases l<;>rfl
theorem t7 (a b c d e f g:α) (l:List α) (k:List α→Option β):FI (a::b::c::d::e::f::g::l) 7 k=k [a,b,c,d,e,f,g]:=by cases l<;>rfl
theorem AmC (l:List α) (k:List α→Option β):spK l k=k l:=HT l k
theorem ap0 (us:List α) (k:List α→Option β):PI [] us k=k us:=rfl
theorem ap1 (u:α) (l us:List α) (k:List α→Option β):PI (u::l) us k=PI l us fun w=>k (u::w):=rfl
theorem Aoa (a:α) (l:List α) (k:α→List α→Option β):AH (a::l) k=k a l:=rfl
theorem c_t {γ:Type} (a b:γ):cond true a b=a:=rfl
theorem c_f {γ:Type} (a b:γ):cond false a b=b:=rfl
end
section
variable {β:Type}
theorem AiA {s j:Nat} (h:(s == j)=false):Nat.beq s j=false:=by
 rw [Ii];simpa using h
theorem Nc (s:Nat) (own:List (Nat×Blk)) (ext:List Blk) (k:Blk→Option β):Dp (.own s) ⟨own,ext⟩ k=GC own s k:=rfl
theorem Aoe (j:Nat) (own:List (Nat×Blk)) (ext:List Blk) (k:Blk→Option β):Dp (.ext j) ⟨own,ext⟩ k=Do ext j k:=rfl
theorem Aj3 (s:Nat) (b:Blk) (l:List (Nat×Blk)) (k:Blk→Option β):GC ((s,b)::l) s k=k b:=by
 show cond (Nat.beq s s) (k b) _=_
 rw [show Nat.beq s s=true from Nat.beq_refl s]
 rfl
theorem AkT {s j:Nat} (hne:(s == j)=false) (b:Blk) (l:List (Nat×Blk)) (k:Blk→Option β):GC ((j,b)::l) s k=GC l s k:=by
 show cond (Nat.beq s j) (k b) _=_
 rw [show Nat.beq s j=false from AiA hne]
 rfl
theorem An2 (s:Nat) (b:Blk) (k:List (Nat×Blk)→Option β):A2 [] s b k=k [(s,b)]:=rfl
theorem AjE (s:Nat) (b c:Blk) (l:List (Nat×Blk)) (k:List (Nat×Blk)→Option β):A2 ((s,c)::l) s b k=k ((s,b)::l):=by
 show cond (Nat.beq s s) _ _=_
 rw [show Nat.beq s s=true from Nat.beq_refl s]
 rfl
theorem Akg {s j:Nat} (hne:(s == j)=false) (b c:Blk) (l:List (Nat×Blk)) (k:List (Nat×Blk)→Option β):A2 ((j,c)::l) s b k=A2 l s b fun l=>k ((j,c)::l):=by
 show cond (Nat.beq s j) _ _=_
 rw [show Nat.beq s j=false from AiA hne]
 rfl
theorem AoU (s:Nat) (a:Option β):CO [] s a=a:=rfl
theorem AmH {s j:Nat} (hne:(s == j)=false) (b:Blk) (l:List (Nat×Blk)) (a:Option β):CO ((j,b)::l) s a=CO l s a:=by
 show cond (Nat.beq s j) none _=_
 rw [show Nat.beq s j=false from AiA hne]
 rfl
theorem AbG (s:Nat) (b:Blk) (own:List (Nat×Blk)) (ext:List Blk) (k:Hp→Option β):FJ (.own s) b ⟨own,ext⟩ k=A2 own s b fun own=>k ⟨own,ext⟩:=rfl
theorem Ajr (j:Nat) (b:Blk) (own:List (Nat×Blk)) (ext:List Blk) (k:Hp→Option β):FJ (.ext j) b ⟨own,ext⟩ k=Ph ext j b fun ext=>k ⟨own,ext⟩:=rfl
theorem sn0 {α:Type} (a b:α) (l:List α) (k:List α→Option β):Ph (a::l) 0 b k=k (b::l):=rfl
theorem Ape (s:Nat) (b:Blk) (v:IV) (own:List (Nat×Blk)) (ext:List Blk) (k:IV→Hp→List Ref→List Ref→Option β) :
  AM s b v ⟨own,ext⟩ k=CO own s (A2 own s b fun own=>k v ⟨own,ext⟩ [] [.own s]):=rfl
theorem Mi (s:Nat) (cs:List FV) (h:Hp) (k:IV→Hp→List Ref→List Ref→Option β):Bh s (.fv (.agg cs)) h k=AM s (.row (cs.map .fv) false) (.ptr (.own s) 0) h k:=by
 show spK (cs.map IV.fv) _=_
 rw [HT]
theorem AoS (s:Nat) (a b:FV) (h:Hp) (k:IV→Hp→List Ref→List Ref→Option β):Bh s (.fv (.agg [a,b])) h k=AM s (.row [.fv a,.fv b] false) (.ptr (.own s) 0) h k:=Mi ..
theorem Apr (s:Nat) (a b c:FV) (h:Hp) (k:IV→Hp→List Ref→List Ref→Option β):Bh s (.fv (.agg [a,b,c])) h k=AM s (.row [.fv a,.fv b,.fv c] false) (.ptr (.own s) 0) h k:=Mi ..
theorem AnL (s:Nat) (a b c d:FV) (h:Hp) (k:IV→Hp→List Ref→List Ref→Option β):Bh s (.fv (.agg [a,b,c,d])) h k=AM s (.row [.fv a,.fv b,.fv c,.fv d] false) (.ptr (.own s) 0) h k:=Mi ..
theorem AoJ (s:Nat) (a:FV) (h:Hp) (k:IV→Hp→List Ref→List Ref→Option β):Bh s (.fv (.agg [a])) h k=AM s (.row [.fv a] false) (.ptr (.own s) 0) h k:=Mi ..
theorem TA (s:Nat) (cs:List IV) (h:Hp) (k:IV→Hp→List Ref→List Ref→Option β):Bh s (.agg cs) h k=AM s (.row cs false) (.ptr (.own s) 0) h k:=by
 show spK cs _=_
 rw [HT]
theorem Ahz {x:IV} (hx:x.one=true) (s:Nat) (h:Hp) (k:IV→Hp→List Ref→List Ref→Option β):Bh s x h k=AM s (.row [x] false) (.ptr (.own s) 0) h k:=by
 unfold Bh;rw [hx];rfl
theorem AlR (k:IntKind) (n:Int):IV.one (.fv (.int k n))=true:=rfl
theorem AiB (b:Bool):IV.one (.fv (.bool b))=true:=rfl
theorem AnN (l:List FV):IV.one (.fv (.sl l))=true:=rfl
theorem Aol (l:List FV) (o:Nat):IV.one (.fv (.fp l o))=true:=rfl
theorem AiJ (fn:Fn) (a b:List FV):IV.one (.fv (.func fn a b))=true:=rfl
theorem Ahr:IV.one (.fv .nilp)=true:=rfl
theorem Aiy:IV.one .nils=true:=rfl
theorem Amv (r:Ref) (o:Nat):IV.one (.ptr r o)=true:=rfl
theorem AlV (r:Ref) (a b:Nat):IV.one (.slc r a b)=true:=rfl
theorem Alf (r:Ref) (l:List FV):IV.one (.app r l)=true:=rfl
theorem Aiz (l:List FV):IV.one (.clip l)=true:=rfl
theorem AkY:IV.one .emp=true:=rfl
theorem AmT (l:List IV):IV.one (.agg l)=false:=rfl
theorem Ahc (l:List FV):IV.one (.fv (.agg l))=false:=rfl
theorem AmW (k:IntKind) (n:Int):HL (.int k n)=true:=rfl
theorem Ai5 (b:Bool):HL (.bool b)=true:=rfl
theorem AoB (l:List FV):HL (.sl l)=true:=rfl
theorem AoG (l:List FV) (o:Nat):HL (.fp l o)=true:=rfl
theorem Ahx:HL .nilp=true:=rfl
theorem Amt (l:List FV):HL (.agg l)=false:=rfl
theorem Ahf:Dc []=true:=rfl
theorem UU {v:FV} (h:HL v=true) (l:List FV):Dc (v::l)=Dc l:=by
 show cond (HL v) (Dc l) false=_
 rw [h];rfl
theorem Wf (r:Ref) (o:Nat) (k:Ref→Nat→Option β) (kf:List FV→Nat→Option β):ET (.ptr r o) k kf=k r o:=rfl
theorem Aqe (cs:List FV) (o:Nat) (k:Ref→Nat→Option β) (kf:List FV→Nat→Option β):ET (.fv (.fp cs o)) k kf=kf cs o:=rfl
theorem Lu (cs:List IV) (ro:Bool) (k:List IV→Option β):EP (.row cs ro) k=k cs:=rfl
theorem ZB (cs:List IV) (k:List IV→Option β):G6 (.row cs false) k=k cs:=rfl
theorem AfN (v:FV) (e:Option β) (k:FV→Option β):On (.fv v) e k=k v:=rfl
theorem V0 (l:List IV) (e:Option β) (k:FV→Option β):On (.agg l) e k=e:=rfl
theorem Alr (e:Option β) (k:FV→Option β):On .nils e k=e:=rfl
theorem AmM (r:Ref) (o:Nat) (e:Option β) (k:FV→Option β):On (.ptr r o) e k=e:=rfl
theorem AlN (r:Ref) (o:List FV) (e:Option β) (k:FV→Option β):On (.app r o) e k=e:=rfl
theorem Amx (o:List FV) (e:Option β) (k:FV→Option β):On (.clip o) e k=e:=rfl
theorem Akx (r:Ref) (a b:Nat) (e:Option β) (k:FV→Option β):On (.slc r a b) e k=e:=rfl
theorem Am2 (e:Option β) (k:FV→Option β):On .emp e k=e:=rfl
theorem AkB (cs:List FV) (k:List FV→Option β):He (.agg cs) k=k cs:=rfl
theorem Aoy (cs:List IV) (k:List IV→Option β) (kf:List FV→Option β):asAgg (.agg cs) k kf=k cs:=rfl
theorem Amf (cs:List FV) (k:List IV→Option β) (kf:List FV→Option β):asAgg (.fv (.agg cs)) k kf=kf cs:=rfl
theorem AiG (e:Option β) (k:List FV→Option β):Cp [] e k=k []:=rfl
theorem Aks (v:FV) (l:List IV) (e:Option β) (k:List FV→Option β):Cp (.fv v::l) e k=Cp l e fun vs=>k (v::vs):=rfl
theorem Aei (l:List IV) (e:Option β) (k:List FV→Option β):Cp (.nils::l) e k=e:=rfl
theorem Aih (r:Ref) (es:List FV) (l:List IV) (e:Option β) (k:List FV→Option β):Cp (.app r es::l) e k=e:=rfl
theorem AgG (es:List FV) (l:List IV) (e:Option β) (k:List FV→Option β):Cp (.clip es::l) e k=e:=rfl
theorem AiC (r:Ref) (o:Nat) (l:List IV) (e:Option β) (k:List FV→Option β):Cp (.ptr r o::l) e k=e:=rfl
theorem AiN (r:Ref) (a b:Nat) (l:List IV) (e:Option β) (k:List FV→Option β):Cp (.slc r a b::l) e k=e:=rfl
theorem Ah0 (es l:List IV) (e:Option β) (k:List FV→Option β):Cp (.agg es::l) e k=e:=rfl
theorem Afi (r:Ref) (l:List IV) (e:Option β) (k:List FV→Option β):Cp (.mapr r::l) e k=e:=rfl
theorem ApD (l:List IV) (k:IV→Option β):Oq l k=Cp l (k (.agg l)) fun vs=>k (.fv (.agg vs)):=rfl
theorem An3 (l:List IV) (k:IV→Option β):Wq l k=Cp l (k (.tuple l)) fun vs=>k (.fv (.tuple vs)):=rfl
theorem AqL (a:IV) (h:Hp) (k:IV→List Ref→Option β):Ah a h k=ET a (fun r o=>Dp r h fun b=>EP b fun cells=>Do cells o fun v=>k v [r]) fun cells o=>Do cells o fun v=>k (.fv v) []:=rfl
theorem AqC (size:Nat) (a:IV) (h:Hp) (k:IV→List Ref→Option β):Ai size a h k =
  ET a (fun r o=>Dp r h fun b=>EP b fun cells=>Fw cells o fun cs=>FI cs size fun cs=>Oq cs fun v=>k v [r]) fun cells o=>Fw cells o fun cs=>FI cs size fun cs=>k (.fv (.agg cs)) []:=rfl
theorem AmD (size:Nat) (a:IV) (h:Hp) (k:IV→Option β):AK true size a h k=Ai size a h fun v _=>k v:=rfl
theorem Akc (size:Nat) (a:IV) (h:Hp) (k:IV→Option β):AK false size a h k=Ah a h fun v _=>k v:=rfl
theorem wr0 (l:List IV) (k:List IV→Option β):wrK [] l k=k l:=rfl
theorem wr1 (c:FV) (cs:List FV) (x:IV) (l:List IV) (k:List IV→Option β):wrK (c::cs) (x::l) k=wrK cs l fun t=>k (.fv c::t):=rfl
theorem sf0 (x:IV) (l:List IV) (cs:List FV) (k:List IV→Option β):D1 (x::l) 0 cs k=wrK cs (x::l) k:=rfl
theorem sf1 (x:IV) (l:List IV) (cs:List FV) (k:List IV→Option β):D1 (x::l) 1 cs k=D1 l 0 cs fun t=>k (x::t):=rfl
theorem sf2 (x y:IV) (l:List IV) (cs:List FV) (k:List IV→Option β):D1 (x::y::l) 2 cs k=D1 l 0 cs fun t=>k (x::y::t):=rfl
theorem sf3 (x y z:IV) (l:List IV) (cs:List FV) (k:List IV→Option β):D1 (x::y::z::l) 3 cs k=D1 l 0 cs fun t=>k (x::y::z::t):=rfl
theorem sf4 (x y z u:IV) (l:List IV) (cs:List FV) (k:List IV→Option β):D1 (x::y::z::u::l) 4 cs k=D1 l 0 cs fun t=>k (x::y::z::u::t):=rfl
theorem of0 (x b:IV) (l:List IV) (k:List IV→Option β):GP (x::l) 0 b k=k (b::l):=rfl
theorem of1 (x y b:IV) (l:List IV) (k:List IV→Option β):GP (x::y::l) 1 b k=k (x::b::l):=rfl
theorem of2 (x y z b:IV) (l:List IV) (k:List IV→Option β):GP (x::y::z::l) 2 b k=k (x::y::b::l):=rfl
theorem of3 (x y z u b:IV) (l:List IV) (k:List IV→Option β):GP (x::y::z::u::l) 3 b k=k (x::y::z::b::l):=rfl
theorem of6 (x y z u v w s b:IV) (l:List IV) (k:List IV→Option β):GP (x::y::z::u::v::w::s::l) 6 b k=k (x::y::z::u::v::w::b::l):=rfl
theorem Ap6 (size:Nat) (a:IV) (cs:List FV) (h:Hp) (k:Hp→List Ref→List Ref→Option β):Ak size a (.fv (.agg cs)) h k =
  ET a (fun r o=>Dp r h fun b=>G6 b fun cells=>cond (and (Nat.beq cs.length size) (Dc cs)) (D1 cells o cs fun cells=>FJ r (.row cells false) h fun h=>k h [r] [r]) none) fun _ _=>none:=rfl
theorem Af0 (s:Nat) (x:IV):Fu (.own s) x=true:=rfl
theorem AqX (s:Nat) (a b c:IV) (ha:a.one=true) (hb:b.one=true) (hc:c.one=true) (own:List (Nat×Blk)) (ext:List Blk) (k:Hp→List Ref→List Ref→Option β) :
  Ak 3 (.ptr (.own s) 0) (.agg [a,b,c]) ⟨own,ext⟩ k=GC own s fun bl=>G6 bl fun cells=>cond (Nat.ble 3 cells.length) (FJ (.own s) (.row (A1 cells 0 [a,b,c]) false) ⟨own,ext⟩ fun h=>k h [.own s] [.own s]) none:=by
 show GC own s (fun bl=>G6 bl fun cells=>if IV.alive (.agg [a,b,c])=true∧(IV.cells (.agg [a,b,c])).length=3∧0+3≤cells.length∧(IV.cells (.agg [a,b,c])).all IV.one=true∧Fu (.own s) (.agg [a,b,c])=true then
  spK (A1 cells 0 (IV.cells (.agg [a,b,c]))) fun cells=>FJ (.own s) (.row cells false) ⟨own,ext⟩ fun h=>k h [.own s] [.own s] else none)=_
 congr 1
 funext bl
 congr 1
 funext cells
 by_cases h3:3≤cells.length
 ·rw [if_pos ⟨rfl,rfl,by omega,by simp [IV.cells,ha,hb,hc],rfl⟩,HT,Bi,decide_eq_true h3];rfl
 ·rw [if_neg (fun h=>h3 (by omega)),Bi,decide_eq_false h3];rfl
theorem sc3 (a b c x y z:IV):A1 [x,y,z] 0 [a,b,c]=[a,b,c]:=rfl
theorem Ap9 (a x:IV) (h:Hp) (k:Hp→List Ref→List Ref→Option β):Bt a x h k =
  cond x.one (ET a (fun r o=>Dp r h fun b=>G6 b fun cells=>cond (Fu r x) (GP cells o x fun cells=>FJ r (.row cells false) h fun h=>k h [r] [r]) none) fun _ _=>none) (Ak 1 a x h k):=rfl
theorem AqD (o:Nat) (r:Ref) (k:IV→Option β):Ae o (.ptr r 0) k=k (.ptr r o):=by rw [Ain,Nat.zero_add]
theorem Apk (o:Nat) (cs:List FV) (k:IV→Option β):Ae o (.fv (.fp cs 0)) k=k (.fv (.fp cs o)):=by rw [O4,Nat.zero_add]
theorem Aph (r:Ref) (o:Nat) (k:IV→Option β):AG (.ptr r o) k=k (.ptr r o):=rfl
theorem AnW (cs:List FV) (o:Nat) (k:IV→Option β):AG (.fv (.fp cs o)) k=k (.fv (.fp cs o)):=rfl
theorem Aee (g:FuncId) (a b:List FV) (k:IV→Option β):AG (.fv (.func (.func g) a b)) k=k (.fv (.func (.func g) a b)):=rfl
theorem AqZ (ix:Nat) (vs:List IV) (k:IV→Option β):AL ix (.tuple vs) k=Do vs ix k:=rfl
theorem Aqv (ix:Nat) (vs:List FV) (k:IV→Option β):AL ix (.fv (.tuple vs)) k=Do vs ix fun v=>k (.fv v):=rfl
theorem AqM (o:Nat) (x:IV) (k:IV→Option β):AlZ o x k=asAgg x (fun cs=>Do cs o k) fun cs=>Do cs o fun v=>k (.fv v):=rfl
theorem Ap7 (size o:Nat) (x:IV) (k:IV→Option β):Amc size o x k=asAgg x (fun cs=>Fw cs o fun cs=>FI cs size fun cs=>Oq cs k) fun cs=>Fw cs o fun cs=>FI cs size fun cs=>k (.fv (.agg cs)):=rfl
theorem AnY (z:List IV) (pl:List (Nat×Nat×IV)) (k:IV→Option β):Bz z pl k=Od z pl fun cells=>Oq cells k:=rfl
theorem fk0 (z:List IV) (k:List IV→Option β):Od z [] k=k z:=rfl
theorem fk1 (z:List IV) (o sz:Nat) (v:IV) (pl:List (Nat×Nat×IV)) (k:List IV→Option β):Od z ((o,sz,v)::pl) k=Hj z o sz v fun z=>Od z pl k:=rfl
theorem AkD {v:IV} (hv:v.one=true) (z:List IV) (o:Nat) (k:List IV→Option β):Hj z o 1 v k=GP z o v k:=by
 unfold Hj;cases v with
 | fv w =>
  show cond (HL w) _ _=_
  have:HL w=true:=by cases w<;>first | rfl | cases hv
  rw [this];rfl
 | _=>show Acs _ _ _ _ _=_;unfold Acs;rw [hv];rfl
theorem Akm (z:List IV) (o sz:Nat) (cs:List FV) (k:List IV→Option β):Hj z o sz (.fv (.agg cs)) k=cond (Nat.beq cs.length sz) (D1 z o cs k) none:=rfl
theorem nb3 (a b c:FV):Nat.beq [a,b,c].length 3=true:=rfl
theorem nb4 (a b c d:FV):Nat.beq [a,b,c,d].length 4=true:=rfl
theorem nb7 (a b c d e f g:FV):Nat.beq [a,b,c,d,e,f,g].length 7=true:=rfl
theorem nl3 (a b c:IV):Nat.ble 3 [a,b,c].length=true:=rfl
theorem Alw:(and true true)=true:=rfl
end
end Idl
end Go.Proofs.Ytbkdidonegggdaa
namespace Go.Proofs.Ytbkdidonegggdaa
namespace Idl
section
variable {β:Type} {E:Env} {t:TypeId}
theorem Ws (n:Int):IV.fv (.int .i64 n)=iv n:=rfl
def B0 (n:Int):Int:=IntKind.i64.wrap n
theorem Ay {n:Int} (h1:-9223372036854775808≤n) (h2:n≤9223372036854775807):B0 n=n:=by
 show (if (true && decide ((n % (18446744073709551616:Int)) ≥ (9223372036854775808:Int)))=true then (n % (18446744073709551616:Int)) - (18446744073709551616:Int) else (n % (18446744073709551616:Int)))=n
 by_cases h:0≤n
 ·have e:n % (18446744073709551616:Int)=n:=by omega
  have e2:¬ n ≥ (9223372036854775808:Int):=by omega
  rw [e,decide_eq_false e2];rfl
 ·have e:n % (18446744073709551616:Int)=n+18446744073709551616:=by omega
  have e2:n+18446744073709551616 ≥ (9223372036854775808:Int):=by omega
  rw [e,decide_eq_true e2];simp
theorem AoR (a b:Int) (k:IV→Option β):BH E t (iv a) (iv b) k=k (iv (B0 (a+b))):=by
 have hg:CN E t .add (iv a) (iv b) k=k (iv (B0 (a+b))):=by
  rw [CN,CI];rfl
 cases a with
 | negSucc a=>exact hg
 | ofNat a=>cases b with
  | negSucc b=>exact hg
  | ofNat b =>
   show cond (Nat.ble (a+b) 9223372036854775807) (MF (a+b) k) _=_
   rw [Bi];by_cases h:a+b≤9223372036854775807
   ·rw [decide_eq_true h]
    show MF (a+b) k=_
    rw [DK]
    have:B0 (Int.ofNat a+Int.ofNat b)=((a+b:Nat):Int):=by
     rw [Ay (by simp only [Int.ofNat_eq_natCast];omega) (by simp only [Int.ofNat_eq_natCast];omega)];simp only [Int.ofNat_eq_natCast];omega
    rw [this]
   ·rw [decide_eq_false h];exact hg
theorem Aou (a b:Int) (k:IV→Option β):A9 E t (iv a) (iv b) k=k (iv (B0 (a - b))):=by
 have hg:CN E t .sub (iv a) (iv b) k=k (iv (B0 (a - b))):=by
  rw [CN,CI];rfl
 cases a with
 | negSucc a=>exact hg
 | ofNat a=>cases b with
  | negSucc b=>exact hg
  | ofNat b =>
   show cond (and (Nat.ble b a) (Nat.ble a 9223372036854775807)) (MF (a - b) k) _=_
   rw [Bi,Bi];by_cases h:b≤a∧a≤9223372036854775807
   ·rw [decide_eq_true h.1,decide_eq_true h.2]
    show MF (a - b) k=_
    rw [DK]
    have:B0 (Int.ofNat a - Int.ofNat b)=((a - b:Nat):Int):=by
     rw [Ay (by simp only [Int.ofNat_eq_natCast];omega) (by simp only [Int.ofNat_eq_natCast];omega)];simp only [Int.ofNat_eq_natCast];omega
    rw [this]
   ·have:(decide (b≤a) && decide (a≤9223372036854775807))=false:=by
     rw [← Bool.decide_and];exact decide_eq_false h
    rw [show and (decide (b≤a)) (decide (a≤9223372036854775807))=false from this]
    exact hg
theorem Apn (a b:Int) (k:IV→Option β):CN E t .mul (iv a) (iv b) k=k (iv (B0 (a * b))):=by
 rw [CN,CI];rfl
theorem Afj {b:Int} (hb:b≠0) (a:Int) (k:IV→Option β):CN E t .quo (iv a) (iv b) k=k (iv (B0 (a.tdiv b))):=by
 rw [CN,CI]
 have:Fk E .quo t (iv a) (iv b)=some (iv (B0 (a.tdiv b))):=by
  show (G3 (Op.intDiv .quo .i64 a b)).bind Jx=_
  simp only [Op.intDiv,hb,if_false];rfl
 rw [this];rfl
theorem Nu {b:Int} (hb:b≠0) (a:Int) (k:IV→Option β):CN E t .rem (iv a) (iv b) k=k (iv (a.tmod b)):=by
 rw [CN,CI]
 have:Fk E .rem t (iv a) (iv b)=some (iv (a.tmod b)):=by
  show (G3 (Op.intDiv .rem .i64 a b)).bind Jx=_
  simp only [Op.intDiv,hb,if_false];rfl
 rw [this];rfl
theorem Aq1 (a b:Int) (k:IV→Option β):A0 E t (iv a) (iv b) k=k (.fv (.bool (decide (a=b)))):=An6 a b k
theorem Aq6 (a b:Int) (k:IV→Option β):I1 E t (iv a) (iv b) k=k (.fv (.bool (!decide (a=b)))):=Apb a b k
theorem Aqa (a b:Int) (k:IV→Option β):Hm E t (iv a) (iv b) k=k (.fv (.bool (decide (a<b)))):=AnO a b k
theorem Aqt (a b:Int) (k:IV→Option β):leS E t (iv a) (iv b) k=k (.fv (.bool (decide (a≤b)))):=Aop a b k
theorem Aqj (a b:Int) (k:IV→Option β):KY E t (iv a) (iv b) k=k (.fv (.bool (decide (b<a)))):=by
 rw [KY,Lp (fun a b=>by
  show some (IV.fv (.bool (decide ((a:Int) > (b:Int)))))=_
  rw [Bi];congr 3;exact decide_eq_decide.2 (by omega))]
 rfl
theorem Aq3 (a b:Int) (k:IV→Option β):geS E t (iv a) (iv b) k=k (.fv (.bool (decide (b≤a)))):=by
 rw [geS,Lp (fun a b=>by
  show some (IV.fv (.bool (decide ((a:Int) ≥ (b:Int)))))=_
  rw [Bi];congr 3;exact decide_eq_decide.2 (by omega))]
 rfl
theorem Apj (a b:Bool) (hT:E.T t=some ⟨1,1,.bool,[.fv (.bool false)]⟩) (k:IV→Option β):A0 E t (.fv (.bool a)) (.fv (.bool b)) k=k (.fv (.bool (a == b))):=by
 show CN E t .eql _ _ k=_
 rw [CN,CI]
 have:Fk E .eql t (.fv (.bool a)) (.fv (.bool b))=some (.fv (.bool (a == b))):=by
  simp only [Fk,hT,UP]
 rw [this];rfl
theorem AoL (b:Bool) (k:IV→Option β):CJ (KX .not (.fv (.bool b))) k=k (.fv (.bool !b)):=Ao7 b k
theorem Aqg (a b:Option β):Al (.fv (.bool true)) a b=a:=rfl
theorem AqY (a b:Option β):Al (.fv (.bool false)) a b=b:=rfl
theorem Aq4 (c:Prop) [Decidable c] (a b:Option β):Al (.fv (.bool (decide c))) a b=if c then a else b:=Ak1 c a b
theorem Aqb (c:Prop) [Decidable c] (a b:Option β):Al (.fv (.bool (!decide c))) a b=if c then b else a:=by
 by_cases h:c
 ·rw [decide_eq_true h,if_pos h];rfl
 ·rw [decide_eq_false h,if_neg h];rfl
theorem Aqd (c:Bool) (a b:Option β):Al (.fv (.bool c)) a b=if c=true then a else b:=by
 cases c<;>rfl
theorem AqT (c a b:IV) (k:IV→Option β):AF c a b k=Al c (k a) (k b):=rfl
theorem Apo {b:Bool} (hb:b=true) (h:Hp) (m:(IV→Hp→List Ref→List Ref→Option β)→Option β) (k:IV→Hp→List Ref→List Ref→Option β):Ab (.fv (.bool b)) true h m k=m k:=by rw [hb];rfl
theorem Apu {b:Bool} (hb:b=false) (h:Hp) (m:(IV→Hp→List Ref→List Ref→Option β)→Option β) (k:IV→Hp→List Ref→List Ref→Option β):Ab (.fv (.bool b)) false h m k=m k:=by rw [hb];rfl
theorem Apm {b:Bool} (hb:b=true) (h:Hp) (m:(IV→Hp→List Ref→List Ref→Option β)→Option β) (k:IV→Hp→List Ref→List Ref→Option β):Ab (.fv (.bool b)) false h m k=k FG h [] []:=by rw [hb];rfl
theorem AoZ {b:Bool} (hb:b=false) (h:Hp) (m:(IV→Hp→List Ref→List Ref→Option β)→Option β) (k:IV→Hp→List Ref→List Ref→Option β):Ab (.fv (.bool b)) true h m k=k FG h [] []:=by rw [hb];rfl
theorem Aqm (w:Bool) (h:Hp) (m:(IV→Hp→List Ref→List Ref→Option β)→Option β) (k:IV→Hp→List Ref→List Ref→Option β):Ab FG w h m k=k FG h [] []:=rfl
theorem ch0 (rd wr:List Ref) (a:Option β):Ac [] rd wr a=a:=rfl
theorem ch1 (q1 q2:List Ref) (l:List (List Ref×List Ref)) (rd wr:List Ref) (a:Option β):Ac ((q1,q2)::l) rd wr a=cond (Fh q2 rd) (cond (Fh q2 wr) (cond (Fh wr q1) (Ac l rd wr a) none) none) none:=rfl
theorem dj0 (b:List Ref):Fh [] b=true:=rfl
theorem djn:∀(a:List Ref),Fh a []=true
 | []=>rfl
 | _::a=>djn a
theorem dj1 (r:Ref) (a b:List Ref):Fh (r::a) b=cond (JD r b) (Fh a b) false:=rfl
theorem an0 (r:Ref):JD r []=true:=rfl
theorem an1 (r s:Ref) (l:List Ref):JD r (s::l)=cond (LQ r s) (JD r l) false:=rfl
theorem Aqh {i j:Nat} (h:(i == j)=false):LQ (.own i) (.own j)=true:=by
 show not (Nat.beq i j)=true
 rw [show Nat.beq i j=false from AiA h];rfl
theorem AnU (i j:Nat):LQ (.own i) (.ext j)=true:=rfl
theorem Ao3 (i j:Nat):LQ (.ext i) (.own j)=true:=rfl
theorem AqF (v:IV) (h:Hp):Ap [v] h=some (v,h):=rfl
theorem Aqn (h:Hp):Ap [] h=some (.fv (.tuple []),h):=rfl
theorem Aqr (a b:IV) (h:Hp):Ap [a,b] h=Wq [a,b] fun v=>some (v,h):=rfl
theorem Aq8 (a b c:IV) (h:Hp):Ap [a,b,c] h=Wq [a,b,c] fun v=>some (v,h):=rfl
theorem AqG (a b c d:IV) (h:Hp):Ap [a,b,c,d] h=Wq [a,b,c,d] fun v=>some (v,h):=rfl
theorem Apy (es:List FV) (k:IV→Option β):Cf (.fv (.sl es)) k=k (iv es.length):=DK ..
theorem Aog (k:IV→Option β):Cf .nils k=k (iv 0):=rfl
theorem Apg (es:List FV) (k:IV→Option β):Cf (.clip es) k=k (iv es.length):=DK ..
theorem AoM (r:Ref) (es:List FV) (k:IV→Option β):Cf (.app r es) k=k (iv es.length):=DK ..
theorem ApG (r:Ref) (sz n:Nat) (k:IV→Option β):Cf (.slc r sz n) k=k (iv n):=DK ..
theorem BE {size:Nat} {es:List FV} {n:Nat} {el:FV} (he:es[n]?=some el) (hl:el.cells.length=size) (k:IV→Option β):Bc size (.fv (.sl es)) (iv n) k=k (.fv (.fp el.cells 0)):=Am7 he hl k
theorem Ap8 {size:Nat} {r:Ref} {es:List FV} {n:Nat} {el:FV} (he:es[n]?=some el) (hl:el.cells.length=size) (k:IV→Option β):Bc size (.app r es) (iv n) k=k (.fv (.fp el.cells 0)):=Am7 he hl k
theorem Aqy {size:Nat} {es:List FV} {n:Nat} {el:FV} (he:es[n]?=some el) (hl:el.cells.length=size) (k:IV→Option β):Bc size (.clip es) (iv n) k=k (.fv (.fp el.cells 0)):=Am7 he hl k
theorem Aq2 {size sz len:Nat} {r:Ref} {n:Nat} (hn:n<len) (hs:sz=size) (k:IV→Option β):Bc size (.slc r sz len) (iv n) k=k (.ptr r (n * sz)):=by
 show cond (and (Nat.ble (Nat.succ n) len) (Nat.beq sz size)) (DZ (n * sz) fun o=>k (.ptr r o)) none=_
 rw [Bi,decide_eq_true (show Nat.succ n≤len from hn),hs,show Nat.beq size size=true from Nat.beq_refl size]
 simp only [Bool.and_self,cond_true];rw [BM]
theorem Ahk (size:Nat) (cs:List FV) (es:List FV) (hl:cs.length=size) (k:IV→Option β):Bc size (.fv (.sl (.agg cs::es))) (iv 0) k=k (.fv (.fp cs 0)):=BE (el:=.agg cs) (n:=0) rfl hl k
theorem AiX (size:Nat) (cs:List FV) (e:FV) (es:List FV) (hl:cs.length=size) (k:IV→Option β):Bc size (.fv (.sl (e :: .agg cs::es))) (iv 1) k=k (.fv (.fp cs 0)):=BE (el:=.agg cs) (n:=1) rfl hl k
theorem Aiu (size:Nat) (cs:List FV) (e e':FV) (es:List FV) (hl:cs.length=size) (k:IV→Option β):Bc size (.fv (.sl (e::e' :: .agg cs::es))) (iv 2) k=k (.fv (.fp cs 0)):=BE (el:=.agg cs) (n:=2) rfl hl k
theorem Air (size:Nat) (cs:List FV) (e e' e'':FV) (es:List FV) (hl:cs.length=size) (k:IV→Option β):Bc size (.fv (.sl (e::e'::e'' :: .agg cs::es))) (iv 3) k=k (.fv (.fp cs 0)):=BE (el:=.agg cs) (n:=3) rfl hl k
def Fz (v:IV) (own:List (Nat×Blk)) (w:FV):Prop:=∃u lg,∀(e:Option (IV×Hp)) (K:FV→List (Ref×Blk)→List Ref→Option (IV×Hp)),FK 12 v ⟨own,[]⟩ [] e K=K w u lg
def Bk (r:Option (IV×Hp)) (w:FV):Prop:=∃v own,r=some (v,⟨own,[]⟩) ∧
 (Fz v own w∨((∀(e:Option (IV×Hp)) (K:FV→List (Ref×Blk)→List Ref→Option (IV×Hp)),FK 12 v ⟨own,[]⟩ [] e K=e)∧∃u,(CW 4096 v).run ⟨own,[]⟩=some (w,u)))
theorem Apv (w:FV) (own:List (Nat×Blk)):Fz (.fv w) own w:=⟨[],[],fun _ _=>rfl⟩
theorem Aq (w:FV) (own:List (Nat×Blk)):Bk (some (.fv w,⟨own,[]⟩)) w:=⟨_,own,rfl,.inl (Apv w own)⟩
def Hl:IV→Option FV
 | .fv v=>some v
 | .nils=>some (.sl [])
 | .emp=>some (.sl [])
 | .clip es=>some (.sl es)
 | .app _ es=>some (.sl es)
 | _=>none
def C6:List IV→Option (List FV)
 | []=>some []
 | v::l=>(Hl v).bind fun x=>(C6 l).map fun xs=>x::xs
def A6 (v:IV):Option FV:=match v with
 | .agg cs=>if cs.length≤8 then (C6 cs).map .agg else none
 | v=>Hl v
def BO:List IV→Option (List FV)
 | []=>some []
 | v::l=>(A6 v).bind fun x=>(BO l).map fun xs=>x::xs
theorem AoP (v:FV):A6 (.fv v)=some v:=rfl
theorem Ais:A6 .nils=some (.sl []):=rfl
theorem AmP:A6 .emp=some (.sl []):=rfl
theorem Ahs (es:List FV):A6 (.clip es)=some (.sl es):=rfl
theorem Amh (r:Ref) (es:List FV):A6 (.app r es)=some (.sl es):=rfl
theorem Apc (v:FV):Hl (.fv v)=some v:=rfl
theorem Ahb:Hl .nils=some (.sl []):=rfl
theorem AlA:Hl .emp=some (.sl []):=rfl
theorem Ahp (es:List FV):Hl (.clip es)=some (.sl es):=rfl
theorem Alm (r:Ref) (es:List FV):Hl (.app r es)=some (.sl es):=rfl
theorem Aqu {a b c:IV} {x y z:FV} (ha:Hl a=some x) (hb:Hl b=some y) (hc:Hl c=some z):A6 (.agg [a,b,c])=some (.agg [x,y,z]):=by
 show (if 3≤8 then (C6 [a,b,c]).map FV.agg else none)=_
 simp [C6,ha,hb,hc]
theorem AqK {a b c d:IV} {x y z u:FV} (ha:Hl a=some x) (hb:Hl b=some y) (hc:Hl c=some z) (hd:Hl d=some u):A6 (.agg [a,b,c,d])=some (.agg [x,y,z,u]):=by
 show (if 4≤8 then (C6 [a,b,c,d]).map FV.agg else none)=_
 simp [C6,ha,hb,hc,hd]
theorem AjC {v:IV} {x:FV} (d:Nat) (h:Hp) (lg:List Ref) (e:Option β) (k:FV→List (Ref×Blk)→List Ref→Option β) (hz:Hl v=some x):FK (d+1) v h lg e k=k x [] lg:=by
 cases v<;>first | (cases hz;rfl) | (cases hz)
theorem Acv (d:Nat) (h:Hp) (lg:List Ref) (e:Option β):∀(cs:List IV) (k:List FV→List (Ref×Blk)→List Ref→Option β) {xs:List FV},C6 cs=some xs→Ec (FK (d+1)) cs h lg e k=k xs [] lg
 | [],k,xs,hz=>by cases hz;rfl
 | v::cs,k,xs,hz=>by
  simp only [C6] at hz;cases h1:Hl v with
  | none=>rw [h1] at hz;cases hz
  | some x =>
   rw [h1] at hz;cases h2:C6 cs with
   | none=>rw [h2] at hz;cases hz
   | some ys =>
    rw [h2] at hz;cases hz
    show FK (d+1) v h lg e (fun y u lg=>Ec (FK (d+1)) cs h lg e fun ys us lg=>PI u us fun w=>k (y::ys) w lg)=_
    rw [AjC d h lg e _ h1,Acv d h lg e cs _ h2];rfl
theorem O2 {v:IV} {x:FV} (h:Hp) (lg:List Ref) (e:Option β) (k:FV→List (Ref×Blk)→List Ref→Option β) (hz:A6 v=some x):FK 12 v h lg e k=k x [] lg:=by
 cases v with
 | agg cs =>
  simp only [A6] at hz;split at hz
  ·rename_i hl;cases h2:C6 cs with
   | none=>rw [h2] at hz;cases hz
   | some ys =>
    rw [h2] at hz;cases hz
    show cond (Nat.ble cs.length 300) (Ec (FK 11) cs h lg e fun cs u lg=>k (.agg cs) u lg) e=_
    rw [Bi,decide_eq_true (show cs.length≤300 by omega)]
    exact Acv 10 h lg e cs _ h2
  ·cases hz
 | _=>exact AjC 11 h lg e k hz
theorem Aq0 {v:IV} {x:FV} (hz:A6 v=some x) (own:List (Nat×Blk)):Fz v own x:=⟨[],[],fun e K=>O2 _ _ e K hz⟩
theorem A8 {v:IV} {x:FV} (hz:A6 v=some x) (own:List (Nat×Blk)):Bk (some (v,⟨own,[]⟩)) x:=⟨v,own,rfl,.inl (Aq0 hz own)⟩
theorem fr1 {v:IV} {x:FV} (n:Nat) (hz:Hl v=some x):CW (n+1) v=.ret (x,[]):=by
 cases v<;>first | (cases hz;rfl) | (cases hz)
theorem Yt:∀(cs:List IV) (n:Nat) {xs:List FV},cs.length+1<n→C6 cs=some xs→frzL n cs=.ret (xs,[])
 | [],n+1,xs,_,hz=>by cases hz;rfl
 | v::cs,n+2,xs,hn,hz=>by
  simp only [C6] at hz;cases h1:Hl v with
  | none=>rw [h1] at hz;cases hz
  | some x =>
   rw [h1] at hz;cases h2:C6 cs with
   | none=>rw [h2] at hz;cases hz
   | some ys =>
    rw [h2] at hz;cases hz;simp only [Atf] at hn;simp only [frzL,fr1 n h1,Rd.bind,Yt cs (n+1) (by omega) h2];rfl
theorem frp {v:IV} {x:FV} (n:Nat) (hn:20<n) (hz:A6 v=some x):CW n v=.ret (x,[]):=by
 cases n with
 | zero=>omega
 | succ n =>
  cases v with
  | agg cs =>
   simp only [A6] at hz;split at hz
   ·rename_i hl;cases h2:C6 cs with
    | none=>rw [h2] at hz;cases hz
    | some ys =>
     rw [h2] at hz;cases hz;simp only [CW,Yt cs n (by omega) h2,Rd.bind]
   ·cases hz
  | _=>exact fr1 n hz
theorem AjS:∀(cs:List IV) (n:Nat) {xs:List FV},cs.length+30<n→BO cs=some xs→frzL n cs=.ret (xs,[])
 | [],n+1,xs,_,hz=>by cases hz;rfl
 | v::cs,n+1,xs,hn,hz=>by
  simp only [BO] at hz;cases h1:A6 v with
  | none=>rw [h1] at hz;cases hz
  | some x =>
   rw [h1] at hz;cases h2:BO cs with
   | none=>rw [h2] at hz;cases hz
   | some ys =>
    rw [h2] at hz;cases hz;simp only [Atf] at hn;simp only [frzL,frp n (by omega) h1,Rd.bind,AjS cs n (by omega) h2];rfl
theorem AV {vs:List IV} {xs:List FV} (hz:BO vs=some xs) (hl:vs.length≤100) (own:List (Nat×Blk)):Bk (some (.tuple vs,⟨own,[]⟩)) (.tuple xs) :=
 ⟨_,own,rfl,.inr ⟨fun _ _=>rfl,[],by
  show (CW (4095+1) (.tuple vs)).run _=_
  simp only [CW,AjS vs 4095 (by omega) hz,Rd.bind];rfl⟩⟩
theorem Ake:BO []=some []:=rfl
theorem U7 {a b:IV} {x y:FV} (ha:A6 a=some x) (hb:A6 b=some y):BO [a,b]=some [x,y]:=by simp [BO,ha,hb]
theorem Ada {a b c:IV} {x y z:FV} (ha:A6 a=some x) (hb:A6 b=some y) (hc:A6 c=some z):BO [a,b,c]=some [x,y,z]:=by simp [BO,ha,hb,hc]
theorem AoN {a b c d:IV} {x y z u:FV} (ha:A6 a=some x) (hb:A6 b=some y) (hc:A6 c=some z) (hd:A6 d=some u):BO [a,b,c,d]=some [x,y,z,u]:=by simp [BO,ha,hb,hc,hd]
theorem Anh {a:IV} {x:FV} (ha:A6 a=some x):BO [a]=some [x]:=by simp [BO,ha]
theorem NS:∀(args:List IV) {vs:List FV},BO args=some vs→Bp [] args=.ret (vs.map .fv,[],[])
 | [],vs,hz=>by cases hz;rfl
 | v::l,vs,hz=>by
  simp only [BO] at hz;cases h1:A6 v with
  | none=>rw [h1] at hz;cases hz
  | some x =>
   rw [h1] at hz;cases h2:BO l with
   | none=>rw [h2] at hz;cases hz
   | some ys =>
    rw [h2] at hz;cases hz;simp only [Bp,frp 4096 (by omega) h1,Rd.bind,NS l h2];rfl
theorem fz0 (keep:List Bool) (h:Hp) (lg:List Ref) (e:Option β) (k:List IV→List Ref→List (Ref×Blk)→List Ref→Option β):Xh [] keep h lg e k=k [] [] [] lg:=rfl
theorem Ad1 (x:IV) (l:List IV) (ks:List Bool) (h:Hp) (lg:List Ref) (e:Option β) (k:List IV→List Ref→List (Ref×Blk)→List Ref→Option β) :
  Xh (x::l) (true::ks) h lg e k=ET x (fun r o=>Xh l ks h lg e fun vs rs us lg=>k (.ptr r o::vs) (r::rs) us lg) fun _ _=>e:=rfl
theorem Vx (x:IV) (l:List IV) (ks:List Bool) (h:Hp) (lg:List Ref) (e:Option β) (k:List IV→List Ref→List (Ref×Blk)→List Ref→Option β) :
  Xh (x::l) (false::ks) h lg e k=FK 12 x h lg e fun y u lg=>Xh l ks h lg e fun vs rs us lg=>PI u us fun w=>k (.fv y::vs) rs w lg:=rfl
section
variable (d:Nat) (h:Hp) (lg:List Ref) (e:Option β) (k:FV→List (Ref×Blk)→List Ref→Option β)
theorem Ana (cs:List IV):FK 12 (.agg cs) h lg e k=cond (Nat.ble cs.length 300) (Ec (FK 11) cs h lg e fun cs u lg=>k (.agg cs) u lg) e:=rfl
theorem WD (s:Nat) (off:Nat):FK 12 (.ptr (.own s) off) h lg e k=Dp (.own s) h fun b=>EP b fun cells=>cond (Nat.ble cells.length 300) (Ec (FK 11) cells h (.own s::lg) e fun cs u lg=>k (.fp cs off) ((.own s,.row cells true)::u) lg) e:=rfl
theorem LS (v:FV):FK 11 (.fv v) h lg e k=k v [] lg:=rfl
theorem fl0 (g:FzK β) (k:List FV→List (Ref×Blk)→List Ref→Option β):Ec g [] h lg e k=k [] [] lg:=rfl
theorem fl1 (g:FzK β) (x:IV) (l:List IV) (k:List FV→List (Ref×Blk)→List Ref→Option β):Ec g (x::l) h lg e k=g x h lg e fun y u lg=>Ec g l h lg e fun ys us lg=>PI u us fun w=>k (y::ys) w lg:=rfl
end
def AdF (rs:List Ref) (r:Option (IV×Hp)) (h:Hp) (u:List (Ref×Blk)) (lg:List Ref) (e:Option (IV×Hp)) (g:List Ref→Option (IV×Hp)) (k:IV→Hp→List Ref→List Ref→Option (IV×Hp)):Option (IV×Hp):=match rs with
 | []=>(match r with
  | none=>none
  | some p=>match p with
   | (v,h')=>match h' with
    | ⟨own,ext⟩=>List.casesOn (motive:=fun _=>Option (IV×Hp)) ext (FK 12 v ⟨own,[]⟩ [] e fun w _ _=>NY u h fun h2=>k (.fv w) h2 lg (Bs u)) fun _ _=>none)
 | r::rs=>g (r::rs)
theorem OS (keep:List Bool) (ih:Aa) (f:FuncId) (args:List IV) (h:Hp) (k:IV→Hp→List Ref→List Ref→Option (IV×Hp)):Aj keep false false ih f args h k =
  Xh args keep h [] (Gu keep false false ih f args h k) fun vs rs u lg=>AdF rs (ih f vs ⟨[],[]⟩) h u lg (Gu keep false false ih f args h k) (fun rs=>match rs with
   | []=>none
   | r::rs=>(match h with
    | ⟨own,ext⟩=>cond (Ox 400 (r::rs) 0 ext) (match ih f vs ⟨[],ext⟩ with
     | none=>none
     | some p=>match p with
      | (v,h')=>match h' with
       | ⟨own',ext'⟩=>cond (and (Nat.beq ext'.length ext.length) (okB ext.length ext'))
        (FK 12 v ⟨own',ext'⟩ [] (Gu keep false false ih f args h k) fun w _ _=>NY u ⟨own,ext'⟩ fun h2=>k (.fv w) h2 ((CP ext.length).reverse++lg) (Bs u++CP ext.length)) none)
     (Gu keep false false ih f args h k))) k:=by
 unfold Aj;simp only [cond_false];congr 1
theorem AeF:∀(args:List IV) {vs:List FV} (h:Hp) (lg:List Ref) (e:Option β) (k:List IV→List Ref→List (Ref×Blk)→List Ref→Option β),BO args=some vs→Xh args [] h lg e k=k (vs.map .fv) [] [] lg
 | [],vs,h,lg,e,k,hz=>by cases hz;rfl
 | v::l,vs,h,lg,e,k,hz=>by
  simp only [BO] at hz;cases h1:A6 v with
  | none=>rw [h1] at hz;cases hz
  | some x =>
   rw [h1] at hz;cases h2:BO l with
   | none=>rw [h2] at hz;cases hz
   | some ys =>
    rw [h2] at hz;cases hz
    show FK 12 v h lg e (fun y u lg=>Xh l [] h lg e fun vs rs us lg=>PI u us fun w=>k (.fv y::vs) rs w lg)=_
    rw [O2 h lg e _ h1,AeF l h lg e _ h2];rfl
theorem IX (f:Ref→Option Ref):∀l:List FV,IV.ren.renL f (l.map .fv)=some (l.map .fv)
 | []=>rfl
 | v::l=>by
  simp only [Ath,IV.ren.renL,IV.ren,IX f l];rfl
theorem TZ {ih:Aa} {f:FuncId} {args:List IV} {vs:List FV} {w:FV} (hz:BO args=some vs) (hr:Bk (ih f (vs.map .fv) ⟨[],[]⟩) w) (h:Hp) (k:IV→Hp→List Ref→List Ref→Option (IV×Hp)) :
  Aj [] false false ih f args h k=k (.fv w) h [] []:=by
 obtain ⟨v,own,e,hv⟩:=hr;have hD:(∃u,(CW 4096 v).run ⟨own,[]⟩=some (w,u))→Gu [] false false ih f args h k=k (.fv w) h [] []:=by
  rintro ⟨u,hu⟩;unfold Gu;simp only [NS args hz,Rd.runLog,Cc,IX,Atg,A4,EU (CB 3),EU C3,Lr,Bool.false_eq_true,if_false,e,hu,Ate,IV.ren]
  show (match laid h ([]++(Bs []).zip []) with | none=>none | some h'=>fH h' fun h'=>fV 3 (.fv w) fun res=>k res h' [] _)=_
  simp only [Bs,Atg,List.zip_nil_left,List.append_nil,laid,N8,CB]
 rw [OS,AeF args h [] _ _ hz,e];simp only [AdF];rcases hv with ⟨u',lg',hf⟩ | ⟨hf,hu⟩
 ·rw [hf];rfl
 ·rw [hf];exact hD hu
theorem Gm {ih:Aa} {f:FuncId} {w:FV} (hr:Bk (ih f [] ⟨[],[]⟩) w) (h:Hp) (k:IV→Hp→List Ref→List Ref→Option (IV×Hp)) :
  Aj [] false false ih f [] h k=k (.fv w) h [] []:=TZ (vs:=[]) rfl hr h k
theorem Am {ih:Aa} {f:FuncId} {a:IV} {x w:FV} (hr:Bk (ih f [.fv x] ⟨[],[]⟩) w) (ha:A6 a=some x) (h:Hp) (k:IV→Hp→List Ref→List Ref→Option (IV×Hp)) :
  Aj [] false false ih f [a] h k=k (.fv w) h [] []:=TZ (Anh ha) hr h k
theorem Ad {ih:Aa} {f:FuncId} {a b:IV} {x y w:FV} (hr:Bk (ih f [.fv x,.fv y] ⟨[],[]⟩) w) (ha:A6 a=some x) (hb:A6 b=some y) (h:Hp) (k:IV→Hp→List Ref→List Ref→Option (IV×Hp)) :
  Aj [] false false ih f [a,b] h k=k (.fv w) h [] []:=TZ (U7 ha hb) hr h k
theorem Au {ih:Aa} {f:FuncId} {a b c:IV} {x y z w:FV} (hr:Bk (ih f [.fv x,.fv y,.fv z] ⟨[],[]⟩) w) (ha:A6 a=some x) (hb:A6 b=some y) (hc:A6 c=some z) (h:Hp) (k:IV→Hp→List Ref→List Ref→Option (IV×Hp)) :
  Aj [] false false ih f [a,b,c] h k=k (.fv w) h [] []:=TZ (Ada ha hb hc) hr h k
theorem Az {ih:Aa} {f:FuncId} {a b c d:IV} {x y z u w:FV} (hr:Bk (ih f [.fv x,.fv y,.fv z,.fv u] ⟨[],[]⟩) w) (ha:A6 a=some x) (hb:A6 b=some y) (hc:A6 c=some z) (hd:A6 d=some u) (h:Hp)
  (k:IV→Hp→List Ref→List Ref→Option (IV×Hp)):Aj [] false false ih f [a,b,c,d] h k=k (.fv w) h [] []:=TZ (AoN ha hb hc hd) hr h k
theorem J3 (v:IV) (s:Nat) (h:Hp) (k:IV→Hp→List Ref→List Ref→Option β):Aw (.ret { eff:={ val:=v } }) s h k=k v h [] []:=by
 unfold Aw;simp only [Rd.runLog,IP,CB];rfl
theorem gen_val' (v:IV) (s:Nat) (h:Hp) (k:IV→Hp→List Ref→List Ref→Option β):Aw (Idl.val v) s h k=k v h [] []:=J3 v s h k
theorem Cu {e:TypeId} {a b:Nat} {ei:TI} {z:List IV} (hT:E.T t=some ⟨a,b,.slice e,z⟩) (he:E.T e=some ei) {len:Nat} (hs:¬ (ei.size=0∨len * ei.size > 65536)) {parts:List (Nat×IV)} {cells:List FV}
  (hf:Cx (fun j=>some (j * ei.size,ei.size)) (Ot len ei.zero) parts=some (cells.map .fv)) {s:Nat} {h:Hp} (k:IV→Hp→List Ref→List Ref→Option β) (hc:cells.length<65000:=by simp) :
  Aw (Ag E t len parts) s h k=k (.clip (BL ei.size len cells)) h [] []:=by
 have key:∀(l:List FV) (n:Nat),l.length<n→frzL n (l.map .fv)=.ret (l,[]):=by
  intro l
  induction l with
  | nil=>intro n hn;cases n with
   | zero=>simp at hn
   | succ n=>rfl
  | cons x l ih=>intro n hn;cases n with
   | zero=>simp at hn
   | succ n =>
    simp only [Atf] at hn;cases n with
    | zero=>omega
    | succ n =>
     simp only [Ath,frzL,CW,Rd.bind];rw [ih (n+1) (by omega)];rfl
 have:Ag E t len parts=.ret { eff:={ val:=.clip (BL ei.size len cells),upd:=[] } }:=by
  simp only [Ag,hT,he,if_neg hs,hf];rw [key _ _ (by omega)];rfl
 rw [this,J3]
end
end Idl
end Go.Proofs.Ytbkdidonegggdaa
namespace Go.Proofs.Ytbkdidonegggdaa
namespace Idl
def XY:=Ata @decide_true<|Ata @decide_false<|Ata @Bool.not_true<|Ata @Bool.not_false<|Ata @List.map_cons.{0,0}<|Ata @List.map_nil.{0,0}<|Ata @List.length_map.{0,0}<|Ata @List.length_cons.{0}<|Ata @List.length_nil.{0}<|Ata @Int.natCast_zero<|Ata @Int.natCast_one<|Ata @Bool.false_eq_true<|Ata @Bool.true_eq_false<|Ata @decide_eq_true_eq<|Ata @eq_self.{1}<|Ata @Bool.and_true<|Ata @Bool.true_and<|Ata @Bool.and_false<|Ata @Bool.false_and<|Ata @Nat.zero_add<|@Int.cast_ofNat_Int
def XE:=Ata @List.any_cons.{0}<|Ata @List.any_nil.{0}<|Ata @List.all_cons.{0}<|Ata @List.all_nil.{0}<|Ata @List.filter_cons.{0}<|Ata @List.filter_nil.{0}<|Ata @List.contains_cons.{0}<|Ata @List.contains_nil.{0}<|Ata @Bool.or_false<|Ata @Bool.or_true<|Ata @Bool.false_or<|Ata @Bool.true_or<|Ata @Bool.and_self<|Ata @Bool.not_eq_true<|Ata @BEq.rfl.{0}<|@beq_self_eq_true.{0}
def XX:=Ata @n0<|Ata @n1<|Ata @n2<|Ata @n3<|Ata @n4<|Ata @n5<|Ata @n6<|Ata @d0<|Ata @d1<|Ata @d2<|Ata @d3<|Ata @d4<|Ata @t1<|Ata @t2<|Ata @t3<|Ata @t4<|Ata @t7<|Ata @ap0<|Ata @ap1<|Ata @Aoa<|Ata @c_t<|Ata @c_f<|Ata @Nc<|Ata @Aoe<|Ata @Aj3<|Ata @AkT<|Ata @An2<|Ata @AjE<|Ata @Akg<|Ata @AoU<|Ata @AmH<|Ata @AbG<|Ata @Ajr<|Ata @sn0<|Ata @Ape<|Ata @AoS<|Ata @Apr<|Ata @AnL<|Ata @AoJ<|Ata @TA<|Ata @Ahz<|Ata @AlR<|Ata @AiB<|Ata @AnN<|Ata @Aol<|Ata @AiJ<|Ata @Ahr<|Ata @Aiy<|Ata @Amv<|Ata @AlV<|Ata @Alf<|Ata @Aiz<|Ata @AkY<|Ata @AmT<|Ata @Ahc<|Ata @AmW<|Ata @Ai5<|Ata @AoB<|Ata @AoG<|Ata @Ahx<|Ata @Amt<|Ata @Ahf<|Ata @UU<|Ata @Wf<|Ata @Aqe<|Ata @Lu<|Ata @ZB<|Ata @AfN<|Ata @V0<|Ata @Alr<|Ata @AmM<|Ata @AlN<|Ata @Amx<|Ata @Akx<|Ata @Am2<|Ata @AkB<|Ata @Aoy<|Ata @Amf<|Ata @AiG<|Ata @Aks<|Ata @Aei<|Ata @Aih<|Ata @AgG<|Ata @AiC<|Ata @AiN<|Ata @Ah0<|Ata @Afi<|Ata @ApD<|Ata @An3<|Ata @AqL<|Ata @AqC<|Ata @AmD<|Ata @Akc<|Ata @wr0<|Ata @wr1<|Ata @sf0<|Ata @sf1<|Ata @sf2<|Ata @sf3<|Ata @sf4<|Ata @of0<|Ata @of1<|Ata @of2<|Ata @of3<|Ata @of6<|Ata @Ap6<|Ata @Af0<|Ata @AqX<|Ata @sc3<|Ata @Ap9<|Ata @AqD<|Ata @Apk<|Ata @Aph<|Ata @AnW<|Ata @Aee<|Ata @AqZ<|Ata @Aqv<|Ata @AqM<|Ata @Ap7<|Ata @AnY<|Ata @fk0<|Ata @fk1<|Ata @AkD<|Ata @Akm<|Ata @nb3<|Ata @nb4<|Ata @nb7<|Ata @nl3<|Ata @Alw<|Ata @AoR<|Ata @Aou<|Ata @Apn<|Ata @Afj<|Ata @Nu<|Ata @Aq1<|Ata @Aq6<|Ata @Aqa<|Ata @Aqt<|Ata @Aqj<|Ata @Aq3<|Ata @Apj<|Ata @AoL<|Ata @Aqg<|Ata @AqY<|Ata @Aq4<|Ata @Aqb<|Ata @Aqd<|Ata @AqT<|Ata @Apo<|Ata @Apu<|Ata @Apm<|Ata @AoZ<|Ata @Aqm<|Ata @ch0<|Ata @ch1<|Ata @dj0<|Ata @djn<|Ata @dj1<|Ata @an0<|Ata @an1<|Ata @Aqh<|Ata @AnU<|Ata @Ao3<|Ata @AqF<|Ata @Aqn<|Ata @Aqr<|Ata @Aq8<|Ata @AqG<|Ata @Apy<|Ata @Aog<|Ata @Apg<|Ata @AoM<|Ata @ApG<|Ata @BE<|Ata @Ap8<|Ata @Aqy<|Ata @Aq2<|Ata @Ahk<|Ata @AiX<|Ata @Aiu<|Ata @Air<|Ata @AoP<|Ata @Ais<|Ata @AmP<|Ata @Ahs<|Ata @Amh<|Ata @Apc<|Ata @Ahb<|Ata @AlA<|Ata @Ahp<|Ata @Alm<|Ata @Aqu<|Ata @AqK<|Ata @Ake<|Ata @U7<|Ata @Ada<|Ata @AoN<|Ata @Anh<|Ata @J3<|@gen_val'
def Ev (f:FuncId) (args:List IV) (w:FV):Prop:=∃N,∀n,N≤n→Bk (SS dt n f args ⟨[],[]⟩) w
theorem Bf {F:(List IV→Hp→Option (IV×Hp))→List IV→Hp→Option (IV×Hp)} {Q:Option (IV×Hp)→Prop} (P:Nat→List IV→Hp→Prop)
  (step:∀k V H rec,P k V H→(∀k' V' H',k' < k→P k' V' H'→Q (rec V' H'))→Q (F rec V H)):∀m k V H,k<m→P k V H→Q (BQ m F V H):=by
 intro m
 induction m with
 | zero=>intro k V H h;omega
 | succ m ih=>intro k V H hk hP;exact step k V H (BQ m F) hP fun k' V' H' h1 h2=>ih k' V' H' (by omega) h2
mutual
def Tm.wt:Tm→Nat
 | .mk _ _ l=>1+Tm.wtL l
def Tm.wtL:List Tm→Nat
 | []=>0
 | t::l=>t.wt+Tm.wtL l
end
theorem D8 {t:Tm}:∀{l:List Tm},t∈l→t.wt≤Tm.wtL l
 | a::l,h=>by
  rcases List.mem_cons.1 h with rfl | h
  ·simp only [Tm.wtL];omega
  ·have:=D8 h;simp only [Tm.wtL];omega
theorem Gx:∀(l:List Tm),l.length≤Tm.wtL l
 | []=>Nat.zero_le _
 | (.mk _ _ k)::l=>by have:=Gx l;simp only [Tm.wtL,Tm.wt,Atf];omega
theorem Jp (t:Tm):0<t.wt:=by cases t;simp only [Tm.wt];omega
theorem An (op n:Int) (l:List Tm):(Tm.mk op n l).enc=.agg [.int .i64 op,.int .i64 n,.sl (l.map Tm.enc)]:=by simp only [Tm.enc,Y0]
theorem AQ {l:List Tm} {i:Nat} {op n:Int} {k:List Tm} (h:l[i]?=some (.mk op n k)):(l.map Tm.enc)[i]?=some (.agg [.int .i64 op,.int .i64 n,.sl (k.map Tm.enc)]):=by
 rw [List.getElem?_map,h,Ate,An]
theorem C2 {α:Type} {l pre rest:List α} {a:α} (h:l=pre++a::rest):l[pre.length]?=some a:=by
 rw [h,List.getElem?_append_right (Nat.le_refl _),Nat.sub_self];rfl
theorem Cr (a b c:FV):(FV.agg [a,b,c]).cells=[a,b,c]:=rfl
theorem Bo (a b c:FV):(FV.agg [a,b,c]).cells.length=3:=rfl
section
variable {β:Type} {E:Env}
def AgT (b:Blk) (n sz:Nat) (x:Option β):Option β:=match b with
 | .tok a s=>if a=n∧s=sz then x else none
 | _=>none
theorem HU (n sz:Nat) (x:Option β):AgT (.tok n sz) n sz x=x:=by
 show (if n=n∧sz=sz then x else none)=x
 rw [if_pos ⟨rfl,rfl⟩]
inductive Plain2:IV→List FV→Prop
 | clip (es:List FV):Plain2 (.clip es) es
 | sl (es:List FV):Plain2 (.fv (.sl es)) es
 | app (r:Ref) (es:List FV):Plain2 (.app r es) es
theorem Wx {x:IV} {es:List FV} (h:Plain2 x es):CW 4096 x=.ret (.sl es,[]):=by cases h<;>rfl
structure SliceT (E:Env) (t:TypeId) (size:Nat):Prop where
 h:∃a b e z ei,E.T t=some ⟨a,b,.slice e,z⟩∧E.T e=some ei∧ei.size=size∧size≠0∧ei.bytes≤100000
theorem LL {t:TypeId} {size:Nat} (T:SliceT E t size) {x:IV} {es2:List FV} (hx:Plain2 x es2) (h1:By size es2=true) (hne:es2.isEmpty=false) (hb:es2.length≤1000000) {s0:IV} (hs:s0=.nils∨s0=.clip []) (s:Nat) (own:List (Nat×Blk)) (ext:List Blk)
  (k:IV→Hp→List Ref→List Ref→Option β):Aw (AT E s false .append [t,t] [s0,x]) s ⟨own,ext⟩ k=CO own s (A2 own s (.tok es2.length size) fun own=>k (.app (.own s) es2) ⟨own,ext⟩ [] [.own s]):=by
 obtain ⟨a,b,e,z,ei,hT,he,rfl,h0,hby⟩:=T.h;have hlen:¬ (By ei.size []=false∨(([]:List FV).length+es2.length) * ei.bytes > 140737488355328∨([]:List FV).length+es2.length > 1073741824):=by
  have:es2.length * ei.bytes≤1000000 * 100000:=Nat.mul_le_mul hb hby
  rintro (h | h | h)
  ·cases h
  ·simp only [List.length_nil,Nat.zero_add] at h;omega
  ·simp only [List.length_nil,Nat.zero_add] at h;omega
 have key:AT E s false .append [t,t] [s0,x]=.ret { eff:={ val:=.app (.own s) es2,upd:=[] },new:=some (.tok es2.length ei.size) }:=by
  show E0 E s t (some t) false s0 x=_
  simp only [E0,hT,Option.bind_some,he,Wx hx,Rd.bind,h0,h1,false_or,Bool.true_eq_false,if_false];rcases hs with rfl | rfl<;>simp only [Ca,if_neg hlen,hne,List.nil_append,Bool.false_eq_true,if_false]
 rw [key];unfold Aw;simp only [Rd.runLog]
 show (Jl (some (.tok es2.length ei.size)) s ⟨own,ext⟩ fun h=>fV 3 (.app (.own s) es2) fun v=>k v h [] ([]++[.own s]))=_
 simp only [Jl,C3,CB];rfl
theorem AjN {t:TypeId} {size:Nat} (T:SliceT E t size) {x:IV} (hx:Plain2 x []) {s0:IV} (hs:s0=.nils∨s0=.clip []) (s:Nat) (h:Hp) (k:IV→Hp→List Ref→List Ref→Option β) :
  Aw (AT E s false .append [t,t] [s0,x]) s h k=k s0 h [] []:=by
 obtain ⟨a,b,e,z,ei,hT,he,rfl,h0,hby⟩:=T.h;have hlen:¬ (By ei.size []=false∨(([]:List FV).length+([]:List FV).length) * ei.bytes > 140737488355328∨([]:List FV).length+([]:List FV).length > 1073741824):=by
  rintro (h | h | h)
  ·cases h
  ·simp at h
  ·simp at h
 have key:AT E s false .append [t,t] [s0,x]=.ret { eff:={ val:=s0,upd:=[] } }:=by
  show E0 E s t (some t) false s0 x=_
  have h1:By ei.size []=true:=rfl;simp only [E0,hT,Option.bind_some,he,Wx hx,Rd.bind,h0,h1,false_or,Bool.true_eq_false,if_false];rcases hs with rfl | rfl
  ·simp only [Ca];rw [if_neg hlen];simp
  ·simp only [Ca];rw [if_neg hlen];simp
 rw [key];exact J3 s0 s h k
theorem Ua {t:TypeId} {size:Nat} (T:SliceT E t size) {x:IV} {es es2:List FV} (hx:Plain2 x es2) (h1:By size es2=true) (h2:By size es=true) (ho:(es2.all fun e=>e.cells.all FV.one)=true) (hb:es.length+es2.length≤1000000) (r s:Nat)
  (own:List (Nat×Blk)) (ext:List Blk) (k:IV→Hp→List Ref→List Ref→Option β):Aw (AT E s false .append [t,t] [.app (.own r) es,x]) s ⟨own,ext⟩ k =
   GC own r fun b=>AgT b es.length size (A2 own r (.tok (es.length+es2.length) size) fun own=>k (.app (.own r) (es++es2)) ⟨own,ext⟩ [.own r] [.own r]):=by
 obtain ⟨a,b,e,z,ei,hT,he,rfl,h0,hby⟩:=T.h;have hlen:¬ (By ei.size es=false∨(es.length+es2.length) * ei.bytes > 140737488355328∨es.length+es2.length > 1073741824):=by
  have:(es.length+es2.length) * ei.bytes≤1000000 * 100000:=Nat.mul_le_mul hb hby
  rintro (h | h | h)
  ·rw [h2] at h;cases h
  ·omega
  ·omega
 have key:(AT E s false .append [t,t] [.app (.own r) es,x]).runLog ⟨own,ext⟩ []=(Ar r own).bind fun b=>match b with
   | .tok n sz=>if n=es.length∧sz=ei.size then some ({ eff:={ val:=.app (.own r) (es++es2),upd:=[(.own r,.tok (n+es2.length) sz)] } },[.own r]) else none
   | _=>none:=by
  show (E0 E s t (some t) false (.app (.own r) es) x).runLog _ _=_
  simp only [E0,hT,Option.bind_some,he,Wx hx,Rd.bind,h0,h1,false_or,Bool.true_eq_false,if_false,Ca,if_neg hlen,Rd.runLog,ho,and_true]
  show (match Ar r own with | some b=>_ | none=>none)=_
  cases Ar r own with
  | none=>rfl
  | some b =>
   cases b with
   | tok n sz =>
    simp only [Option.bind_some];by_cases hc:n=es.length∧sz=ei.size
    ·rw [if_pos hc,if_pos hc];rfl
    ·rw [if_neg hc,if_neg hc];rfl
   | _=>rfl
 unfold Aw;rw [key,BN];cases hl:Ar r own with
 | none=>simp
 | some b =>
  simp only [Option.bind_some];cases b with
  | tok n sz =>
   simp only [AgT];by_cases hc:n=es.length∧sz=ei.size
   ·rw [if_pos hc,if_pos hc];obtain ⟨rfl,rfl⟩:=hc
    show (fRf (.own r) fun q=>Dp q ⟨own,ext⟩ fun _=>fBk (.tok (es.length+es2.length) ei.size) fun b=>FJ q b ⟨own,ext⟩ fun h=>Jl none s h fun h=>fV 3 (.app (.own r) (es++es2)) fun v=>k v h [.own r] ([.own r]++[]))=_
    simp only [M6,C3,CB,Jl,FJ,Dp];rw [BN,hl];rfl
   ·rw [if_neg hc,if_neg hc]
  | row _ _=>rfl
  | map _=>rfl
end
end Idl
end Go.Proofs.Ytbkdidonegggdaa
namespace Go.Proofs.Ytbkdidonegggdaa
namespace Idl
theorem UB:EE.T 29=some ⟨1,24,.slice 31,[.nils]⟩:=by kernel_rfl
theorem tTm:EE.T 31=some ⟨3,40,.struct [(0,3),(1,3),(2,29)],[.fv (.int .i64 0),.fv (.int .i64 0),.nils]⟩:=by kernel_rfl
theorem sTm:SliceT EE 29 3:=⟨_,_,_,_,_,UB,tTm,rfl,by decide,by decide⟩
theorem Jk (a:Tm) (s:Nat) (h:Hp) (k:IV→Hp→List Ref→List Ref→Option (IV×Hp)):Aw (Ag EE 29 1 [(0,.fv a.enc)]) s h k=k (.clip [a.enc]) h [] []:=by
 obtain ⟨o1,n1,k1⟩:=a;exact Cu UB tTm (by decide) (cells:=[.int .i64 o1,.int .i64 n1,.sl (Tm.enc.encL k1)]) rfl k
theorem Alp (a b:Tm) (s:Nat) (h:Hp) (k:IV→Hp→List Ref→List Ref→Option (IV×Hp)):Aw (Ag EE 29 2 [(0,.fv a.enc),(1,.fv b.enc)]) s h k=k (.clip [a.enc,b.enc]) h [] []:=by
 obtain ⟨o1,n1,k1⟩:=a;obtain ⟨o2,n2,k2⟩:=b;exact Cu UB tTm (by decide) (cells:=[.int .i64 o1,.int .i64 n1,.sl (Tm.enc.encL k1),.int .i64 o2,.int .i64 n2,.sl (Tm.enc.encL k2)]) rfl k
theorem Ah9 (a:Tm):a.enc.cells.length=3:=by cases a;rfl
theorem Aja (a:Tm):a.enc.cells.all FV.one=true:=by cases a;rfl
theorem Q8 (l:List Tm):By 3 (l.map Tm.enc)=true:=by
 cases l with
 | nil=>rfl
 | cons a l=>simp only [Ath,By,Ah9,beq_self_eq_true]
theorem Qp (e:Tm) (s:Nat) (own:List (Nat×Blk)) (ext:List Blk) (k:IV→Hp→List Ref→List Ref→Option (IV×Hp)) :
  Aw (AT EE s false .append [29,29] [.nils,.clip [e.enc]]) s ⟨own,ext⟩ k=CO own s (A2 own s (.tok 1 3) fun own=>k (.app (.own s) [e.enc]) ⟨own,ext⟩ [] [.own s]) :=
 LL sTm (.clip _) (Q8 [e]) rfl (by simp) (.inl rfl) s own ext k
theorem My {es:List Tm} (hb:es.length+1≤1000000) (e:Tm) (r s:Nat) (own:List (Nat×Blk)) (ext:List Blk) (k:IV→Hp→List Ref→List Ref→Option (IV×Hp)) :
  Aw (AT EE s false .append [29,29] [.app (.own r) (es.map Tm.enc),.clip [e.enc]]) s ⟨own,ext⟩ k =
   GC own r fun b=>AgT b es.length 3 (A2 own r (.tok (es.length+1) 3) fun own=>k (.app (.own r) ((es++[e]).map Tm.enc)) ⟨own,ext⟩ [.own r] [.own r]):=by
 rw [Ua sTm (.clip [e.enc]) (Q8 [e]) (Q8 es) (by simp [Aja]) (by simpa using hb) r s own ext k];simp only [List.length_map,List.map_append,Ath,Atg,Atf,List.length_nil,Nat.zero_add]
theorem Aey {x m:Int} (h1:0<m) (h2:m≤4611686018427387904):(if x.tmod m<0 then B0 (x.tmod m+m) else x.tmod m)=x % m:=by
 have a1:=Int.emod_nonneg x (show m≠0 by omega)
 have a2:=Int.emod_lt_of_pos x h1;have e1:x.tmod m=x - m * x.tdiv m:=by have:=Int.mul_tdiv_add_tmod x m;omega
 have e2:x % m=x - m * (x / m):=by have:=Int.mul_ediv_add_emod x m;omega
 have b1:-m<x.tmod m:=Int.lt_tmod_of_pos x h1;have b2:x.tmod m<m:=Int.tmod_lt_of_pos x h1;have key:∃q,x.tmod m=x % m+m * q:=⟨x / m - x.tdiv m,by rw [e1,e2,Int.mul_sub];omega⟩;obtain ⟨q,hq⟩:=key;have hq2:q=0∨q=-1:=by
  rcases Int.lt_trichotomy q 0 with h | h | h
  ·right;rcases Int.lt_trichotomy q (-1) with h' | h' | h'
   ·have:m * q≤m * (-2):=Int.mul_le_mul_of_nonneg_left (by omega) (by omega)
    omega
   ·exact h'
   ·omega
  ·exact .inl h
  ·have:m * 1≤m * q:=Int.mul_le_mul_of_nonneg_left (by omega) (by omega)
   omega
 rcases hq2 with rfl | rfl
 ·rw [if_neg (by omega)];omega
 ·rw [if_pos (by omega),Ay (by omega) (by omega)];omega
theorem As {n:Nat} (hn:0<n) (x:Int) {m:Int} (h1:0<m) (h2:m≤4611686018427387904):Bk (SS dt n 55 [iv x,iv m] ⟨[],[]⟩) (.int .i64 (x % m)):=by
 obtain ⟨n,rfl⟩:=Nat.exists_eq_add_of_lt hn;rw [Nat.zero_add,c55];simp only [S55,↓XX,XY,↓reduceIte,Nat.reduceBEq,Nat.reduceAdd,Int.reduceEq,Int.reduceLT,Int.reduceLE,↓Nu (show m≠0 by omega)]
 rw [← Aey h1 h2];by_cases hc:x.tmod m<0<;>simp only [hc,if_true,if_false]<;>exact Aq _ _
theorem Dw {n:Nat} (hn:0<n) (op:Int):Bk (SS dt n 27 [iv op,.fv (.sl [])] ⟨[],[]⟩) (Tm.mk op 0 []).enc:=by
 obtain ⟨n,rfl⟩:=Nat.exists_eq_add_of_lt hn;rw [Nat.zero_add,c27];simp only [S27,↓XX,XY,↓reduceIte,Nat.reduceBEq,Nat.reduceAdd,Int.reduceEq,Int.reduceLT,Int.reduceLE];exact Aq _ _
theorem B3 {n:Nat} (hn:0<n) (op:Int) (l:List Tm):Bk (SS dt n 27 [iv op,.fv (.sl (l.map Tm.enc))] ⟨[],[]⟩) (Tm.mk op 0 l).enc:=by
 obtain ⟨n,rfl⟩:=Nat.exists_eq_add_of_lt hn;rw [Nat.zero_add,c27];simp only [S27,↓XX,XY,↓reduceIte,Nat.reduceBEq,Nat.reduceAdd,Int.reduceEq,Int.reduceLT,Int.reduceLE,An];exact Aq _ _
def Tm.kids:Tm→List Tm
 | .mk _ _ l=>l
def Tm.op:Tm→Int
 | .mk o _ _=>o
def Tm.n:Tm→Int
 | .mk _ n _=>n
def Tm.pick (r:Tm) (i:Nat):Tm:=match r.kids[i]? with
 | some k=>k
 | none=>.mk (B0 (B0 (r.op.tdiv 3)+i)) (B0 (B0 (r.n.tdiv 5)+B0 (7 * i))) []
theorem AN {n:Nat} (hn:0<n) (r:Tm) (i:Nat):Bk (SS dt n 58 [.fv r.enc,iv i] ⟨[],[]⟩) (r.pick i).enc:=by
 obtain ⟨n,rfl⟩:=Nat.exists_eq_add_of_lt hn;rw [Nat.zero_add,c58];obtain ⟨op,m,ks⟩:=r;rw [An];simp only [Tm.pick,Tm.kids,Tm.op,Tm.n];cases hk:ks[i]? with
 | some k =>
  have hi:(i:Int)<ks.length:=by have:=(List.getElem?_eq_some_iff.1 hk).1;omega
  obtain ⟨o,p,l⟩:=k;simp only [VV,WF,Vk,U8,S58,↓XX,XY,↓reduceIte,Nat.reduceBEq,Nat.reduceAdd,Int.reduceEq,Int.reduceLT,Int.reduceLE,hi,↓BE (AQ hk) (Bo _ _ _),↓Cr,An];exact Aq _ _
 | none =>
  have hi:¬ (i:Int)<ks.length:=by have:=List.getElem?_eq_none_iff.1 hk;omega
  simp only [VV,WF,Vk,U8,S58,↓XX,XY,↓reduceIte,Nat.reduceBEq,Nat.reduceAdd,Int.reduceEq,Int.reduceLT,Int.reduceLE,hi,↓Afj (show (3:Int)≠0 by decide),↓Afj (show (5:Int)≠0 by decide)]
  exact A8 rfl _
section
variable {β:Type}
def Cb (s:Nat):IV→Bool
 | .ptr (.own j) _=>s == j
 | .slc (.own j) _ _=>s == j
 | .app (.own j) _=>s == j
 | .mapr (.own j)=>s == j
 | _=>false
def Fo:IV→Bool
 | .agg _ | .tuple _ | .func ..=>false
 | _=>true
def Fi (s:Nat):Blk→Bool
 | .row cells _=>cells.any (Cb s)
 | _=>false
def US:Blk→Bool
 | .row cells _=>cells.all Fo
 | .tok ..=>true
 | .map _=>false
theorem Adf {v:IV} (h:Fo v=true) (s:Nat):(Ref.own s∈v.refs) ↔ Cb s v=true:=by
 cases v with
 | ptr r o=>cases r<;>simp [IV.refs,Cb]
 | slc r a b=>cases r<;>simp [IV.refs,Cb]
 | app r es=>cases r<;>simp [IV.refs,Cb]
 | mapr r=>cases r<;>simp [IV.refs,Cb]
 | agg _=>cases h
 | tuple _=>cases h
 | func _ _ _=>cases h
 | _=>simp [IV.refs,Cb]
theorem Jw:∀{l:List IV},l.all Fo=true→∀s,(Ref.own s∈IV.refs.refsL l) ↔ l.any (Cb s)=true
 | [],_,s=>by simp [IV.refs.refsL]
 | v::l,h,s=>by
  rw [List.all_cons,Bool.and_eq_true] at h;rw [IV.refs.refsL,List.mem_append,List.any_cons,Bool.or_eq_true,Adf h.1,Jw h.2]
theorem D7 {b:Blk} (h:US b=true) (s:Nat):(Ref.own s∈b.refs) ↔ Fi s b=true:=by
 cases b with
 | row cells ro=>exact Jw h s
 | tok n sz=>simp [Blk.refs,Fi]
 | map es=>cases h
theorem IH (s:Nat):∀l:List Ref,anyIn [s] l=true ↔ Ref.own s∈l
 | []=>by simp [anyIn]
 | .own k::l=>by
  rw [anyIn,Bool.or_eq_true,IH s l,List.mem_cons];simp [eq_comm]
 | .ext k::l=>by
  rw [anyIn,IH s l,List.mem_cons];simp
def heldB (rm:List Nat) (vals:List IV) (own:List (Nat×Blk)) (ext:List Blk) (s:Nat):Bool :=
 vals.any (Cb s) || (own.any (fun p=>!rm.contains p.1 && Fi s p.2) || ext.any (Fi s))
def Jb (rm:List Nat) (vals:List IV) (own:List (Nat×Blk)) (ext:List Blk):List (Nat×Blk):=own.filter fun p=>!rm.contains p.1 || heldB rm vals own ext p.1
def AB (rm:List Nat) (vals:List IV) (own:List (Nat×Blk)) (ext:List Blk):Bool :=
 vals.all Fo && (own.all (fun p=>US p.2) && (ext.all US && own.all fun p=>!rm.contains p.1 || rm.all fun s=>!Fi s p.2))
theorem Ug {rm:List Nat} {vals:List IV} {own:List (Nat×Blk)} {ext:List Blk} (hf:AB rm vals own ext=true) (s:Nat) :
  Ref.own s∈IV.refs.refsL vals++(own.filter fun p=>!rm.contains p.1).flatMap (fun p=>p.2.refs)++ext.flatMap Blk.refs ↔ heldB rm vals own ext s=true:=by
 simp only [AB,Bool.and_eq_true] at hf;obtain ⟨h1,h2,h3,_⟩:=hf;have e1:Ref.own s∈(own.filter fun p=>!rm.contains p.1).flatMap (fun p=>p.2.refs) ↔ (own.any fun p=>!rm.contains p.1 && Fi s p.2)=true:=by
  rw [List.mem_flatMap,List.any_eq_true];constructor
  ·rintro ⟨p,hp,hr⟩;obtain ⟨hp1,hp2⟩:=List.mem_filter.1 hp;exact ⟨p,hp1,by rw [hp2,(D7 (List.all_eq_true.1 h2 p hp1) s).1 hr];rfl⟩
  ·rintro ⟨p,hp,hr⟩;rw [Bool.and_eq_true] at hr;exact ⟨p,List.mem_filter.2 ⟨hp,hr.1⟩,(D7 (List.all_eq_true.1 h2 p hp) s).2 hr.2⟩
 have e2:Ref.own s∈ext.flatMap Blk.refs ↔ ext.any (Fi s)=true:=by
  rw [List.mem_flatMap,List.any_eq_true];constructor
  ·rintro ⟨p,hp,hr⟩;exact ⟨p,hp,(D7 (List.all_eq_true.1 h3 p hp) s).1 hr⟩
  ·rintro ⟨p,hp,hr⟩;exact ⟨p,hp,(D7 (List.all_eq_true.1 h3 p hp) s).2 hr⟩
 rw [List.mem_append,List.mem_append,Jw h1,e1,e2,heldB,Bool.or_eq_true,Bool.or_eq_true,or_assoc]
theorem Av {base rm:List Nat} {vals:List IV} {own:List (Nat×Blk)} {ext:List Blk} (hb:rm.any base.contains=false) (hf:AB rm vals own ext=true) (k:Hp→Option β) :
  BB base rm vals ⟨own,ext⟩ k=k ⟨Jb rm vals own ext,ext⟩:=by
 have hm:=Ug hf;have hf0:=hf;simp only [AB,Bool.and_eq_true] at hf0;obtain ⟨g1,g2,g3,g4⟩:=hf0;unfold BB;rw [hb];simp only [cond_false];rw [ME];cases ha:(own.all fun p=>!rm.contains p.1) with
 | true =>
  simp only [Bool.not_true,cond_false];congr 2
  symm
  apply List.filter_eq_self.2;intro p hp;rw [List.all_eq_true.1 ha p hp];rfl
 | false =>
  simp only [Bool.not_false,cond_true];have slow:(match CA base [] rm ⟨vals,⟨own,ext⟩⟩ with | none=>none | some S=>fH S.hp k)=k ⟨Jb rm vals own ext,ext⟩:=by
   have hgone:(rm.filter fun k=>!anyIn [k] (IV.refs.refsL vals++(own.filter fun p=>!rm.contains p.1).flatMap (fun p=>p.2.refs)++ext.flatMap Blk.refs))=rm.filter fun s=>!heldB rm vals own ext s:=by
    apply List.filter_congr;intro s _;congr 1;exact Bool.eq_iff_iff.2 ((IH s _).trans (hm s))
   have hown:(own.filter fun p=>!(rm.filter fun s=>!heldB rm vals own ext s).contains p.1)=Jb rm vals own ext:=by
    apply List.filter_congr;intro p _;rw [Bool.eq_iff_iff];simp only [Bool.not_eq_true',Bool.or_eq_true,List.contains_eq_mem,decide_eq_false_iff_not,List.mem_filter];constructor
    ·intro h;by_cases h1:p.1∈rm
     ·right;cases hh:heldB rm vals own ext p.1 with
      | true=>rfl
      | false=>exact absurd ⟨h1,hh⟩ h
     ·exact .inl h1
    ·rintro (h | h) ⟨h1,h2⟩
     ·exact h h1
     ·rw [h] at h2;exact absurd h2 (by simp)
   simp only [CA,hb,Bool.false_eq_true,if_false,AW,ha,hgone,hown];have hnone:anyIn (rm.filter fun s=>!heldB rm vals own ext s) (CT ⟨vals,⟨Jb rm vals own ext,ext⟩⟩)=false:=by
    apply D6;intro s hs hmem;obtain ⟨hs1,hs2⟩:=List.mem_filter.1 hs;have hs2:heldB rm vals own ext s=false:=by simpa using hs2
    simp only [CT,List.mem_append] at hmem;rcases hmem with (hmem | hmem) | hmem
    ·have:=(hm s).1 (List.mem_append_left _ (List.mem_append_left _ hmem))
     rw [this] at hs2;cases hs2
    ·obtain ⟨p,hp,hr⟩:=List.mem_flatMap.1 hmem;have hp1:=(List.mem_filter.1 hp).1;have hn:=(D7 (List.all_eq_true.1 g2 p hp1) s).1 hr;have h4:=List.all_eq_true.1 g4 p hp1;cases hc:rm.contains p.1 with
     | true =>
      rw [hc] at h4;have h4:(rm.all fun s=>!Fi s p.2)=true:=h4;have h5:=List.all_eq_true.1 h4 s hs1;rw [hn] at h5;cases h5
     | false =>
      have:=(hm s).1 (List.mem_append_left _ (List.mem_append_right _ (List.mem_flatMap.2 ⟨p,List.mem_filter.2 ⟨hp1,by rw [hc];rfl⟩,hr⟩)))
      rw [this] at hs2;cases hs2
    ·have:=(hm s).1 (List.mem_append_right _ hmem)
     rw [this] at hs2;cases hs2
   simp only [hnone,Bool.false_eq_true,if_false,N8]
  cases hff:(and (Fx rm (Cy vals [])) (and (HP rm own) (I9 rm ext))) with
  | false=>exact slow
  | true =>
   have hff:(Fx rm (Cy vals []) && (HP rm own && I9 rm ext))=true:=hff;simp only [Bool.and_eq_true] at hff;simp only [HY,cond_true];congr 2;apply List.filter_congr;intro p hp;cases hc:rm.contains p.1 with
   | false=>rfl
   | true =>
    have h1:=Ft hff.1;rw [refsDL_eq,List.append_nil] at h1;have h2:=HQ hff.2.1;have h3:=NO hff.2.2
    have:heldB rm vals own ext p.1=false:=by
     cases hh:heldB rm vals own ext p.1 with
     | false=>rfl
     | true =>
      have:=(hm p.1).2 hh
      have hpm:p.1∈rm:=List.contains_iff_mem.1 hc;rcases List.mem_append.1 this with h | h
      ·rcases List.mem_append.1 h with h | h
       ·exact absurd h (h1 _ hpm)
       ·exact absurd h (h2 _ hpm)
      ·exact absurd h (h3 _ hpm)
    rw [this];rfl
end
section
variable (s j:Nat)
theorem Aq7 (rm:List Nat) (vals:List IV) (own:List (Nat×Blk)) (ext:List Blk):Jb rm vals own ext=own.filter fun p=>!rm.contains p.1 || heldB rm vals own ext p.1:=rfl
theorem nv1 (o:Nat):Cb s (.ptr (.own j) o)=(s == j):=rfl
theorem nv2 (a b:Nat):Cb s (.slc (.own j) a b)=(s == j):=rfl
theorem nv3 (es:List FV):Cb s (.app (.own j) es)=(s == j):=rfl
theorem nv4 (v:FV):Cb s (.fv v)=false:=rfl
theorem nv5:Cb s .nils=false:=rfl
theorem nv6 (es:List FV):Cb s (.clip es)=false:=rfl
theorem nv7 (o:Nat):Cb s (.ptr (.ext j) o)=false:=rfl
theorem nv8:Cb s .dead=false:=rfl
theorem nb1 (cs:List IV) (ro:Bool):Fi s (.row cs ro)=cs.any (Cb s):=rfl
theorem nb2 (a b:Nat):Fi s (.tok a b)=false:=rfl
theorem AqJ (r:Ref) (o:Nat):Fo (.ptr r o)=true:=rfl
theorem Aqq (r:Ref) (a b:Nat):Fo (.slc r a b)=true:=rfl
theorem Aqw (r:Ref) (es:List FV):Fo (.app r es)=true:=rfl
theorem Aql (v:FV):Fo (.fv v)=true:=rfl
theorem AqP:Fo .nils=true:=rfl
theorem Ap3 (es:List FV):Fo (.clip es)=true:=rfl
theorem Aqp:Fo .dead=true:=rfl
theorem Aqk (cs:List IV) (ro:Bool):US (.row cs ro)=cs.all Fo:=rfl
theorem fb_2 (a b:Nat):US (.tok a b)=true:=rfl
end
def XD:=Ata @Aq7<|Ata @nv1<|Ata @nv2<|Ata @nv3<|Ata @nv4<|Ata @nv5<|Ata @nv6<|Ata @nv7<|Ata @nv8<|Ata @nb1<|Ata @nb2<|Ata @AqJ<|Ata @Aqq<|Ata @Aqw<|Ata @Aql<|Ata @AqP<|Ata @Ap3<|Ata @Aqp<|Ata @Aqk<|@fb_2
end Idl
end Go.Proofs.Ytbkdidonegggdaa
namespace Go.Proofs.Ytbkdidonegggdaa
namespace Idl
def Af (op:Int) (i:Nat):Nat :=
 if op=3∨op=4∨op=6∨op=20∨op=28∨op=29 then (if i=1 then 1 else 0) else if op=13 then (if i=0 then 1 else if i=2 then 2 else 0) else 0
theorem Bv (op:Int) (i:Nat):Af op i≤2:=by
 unfold Af
 repeat' split
 all_goals omega
theorem Fy {n:Nat} (hn:0<n) (op:Int) (i:Nat):Bk (SS dt n 63 [iv op,iv i] ⟨[],[]⟩) (.int .i64 (Af op i)):=by
 obtain ⟨n,rfl⟩:∃k,n=k+1:=⟨n - 1,by omega⟩;rw [c63];unfold Af;by_cases h:op=3∨op=4∨op=6∨op=20∨op=28∨op=29
 ·rw [if_pos h];by_cases hi:i=1
  ·subst hi;rcases h with rfl | rfl | rfl | rfl | rfl | rfl<;>(simp only [↓UU4,↓XX,XY,↓reduceIte,Nat.reduceBEq,Nat.reduceAdd,Int.reduceEq,Int.reduceLT,Int.reduceLE];exact Aq _ _)
  ·have hi':¬ (i:Int)=1:=by omega
   rcases h with rfl | rfl | rfl | rfl | rfl | rfl<;>(simp only [↓UU4,↓XX,XY,↓reduceIte,Nat.reduceBEq,Nat.reduceAdd,Int.reduceEq,Int.reduceLT,Int.reduceLE,hi',hi];exact Aq _ _)
 ·rw [if_neg h];have h3:¬ op=3:=fun e=>h (by simp [e]);have h4:¬ op=4:=fun e=>h (by simp [e]);have h6:¬ op=6:=fun e=>h (by simp [e]);have h20:¬ op=20:=fun e=>h (by simp [e]);have h28:¬ op=28:=fun e=>h (by simp [e]);have h29:¬ op=29:=fun e=>h (by simp [e]);by_cases h13:op=13
  ·subst h13;by_cases hi:i=0
   ·subst hi;simp only [↓UU4,↓XX,XY,↓reduceIte,Nat.reduceBEq,Nat.reduceAdd,Int.reduceEq,Int.reduceLT,Int.reduceLE];exact Aq _ _
   ·have hi':¬ (i:Int)=0:=by omega
    by_cases hj:i=2
    ·subst hj;simp only [↓UU4,↓XX,XY,↓reduceIte,Nat.reduceBEq,Nat.reduceAdd,Int.reduceEq,Int.reduceLT,Int.reduceLE];exact Aq _ _
    ·have hj':¬ (i:Int)=2:=by omega
     simp only [↓UU4,↓XX,XY,↓reduceIte,Nat.reduceBEq,Nat.reduceAdd,Int.reduceEq,Int.reduceLT,Int.reduceLE,hi,hi',hj,hj'];exact Aq _ _
  ·simp only [↓UU4,↓XX,XY,↓reduceIte,Nat.reduceBEq,Nat.reduceAdd,Int.reduceEq,Int.reduceLT,Int.reduceLE,h3,h4,h6,h20,h28,h29,h13];exact Aq _ _
theorem Alk {n:Nat} (hn:0<n) (x:Int):Bk (SS dt n 34 [iv x] ⟨[],[]⟩) (Tm.mk 1 x []).enc:=by
 obtain ⟨n,rfl⟩:∃k,n=k+1:=⟨n - 1,by omega⟩;rw [c34];simp only [S34,↓XX,XY,↓reduceIte,Nat.reduceBEq,Nat.reduceAdd,Int.reduceEq,Int.reduceLT,Int.reduceLE];exact A8 rfl _
theorem Aeh {n:Nat} (hn:0<n) (x:Int):Bk (SS dt n 57 [iv x] ⟨[],[]⟩) (Tm.mk 2 x []).enc:=by
 obtain ⟨n,rfl⟩:∃k,n=k+1:=⟨n - 1,by omega⟩;rw [c57];simp only [S57,↓XX,XY,↓reduceIte,Nat.reduceBEq,Nat.reduceAdd,Int.reduceEq,Int.reduceLT,Int.reduceLE];exact A8 rfl _
theorem Ank {n:Nat} (hn:0<n) (x:Int):Bk (SS dt n 43 [iv x] ⟨[],[]⟩) (Tm.mk 25 x []).enc:=by
 obtain ⟨n,rfl⟩:∃k,n=k+1:=⟨n - 1,by omega⟩;rw [c43];simp only [S43,↓XX,XY,↓reduceIte,Nat.reduceBEq,Nat.reduceAdd,Int.reduceEq,Int.reduceLT,Int.reduceLE];exact A8 rfl _
mutual
/-- No more than four kids anywhere. -/
def Tm.wk:Tm→Prop
 | .mk _ _ ks=>ks.length≤4∧Tm.wkL ks
def Tm.wkL:List Tm→Prop
 | []=>True
 | t::l=>t.wk∧Tm.wkL l
end
theorem Pr {t:Tm}:∀{l:List Tm},Tm.wkL l→t∈l→t.wk
 | a::l,h,hm=>by
  rw [Tm.wkL] at h;rcases List.mem_cons.1 hm with rfl | hm
  ·exact h.1
  ·exact Pr h.2 hm
mutual
def Tm.shift:Tm→Int→Int→Tm
 | .mk op n ks,d,c=>.mk op (if op=1∧c≤n then B0 (n+d) else n) (Tm.shiftL op 0 ks d c)
def Tm.shiftL:Int→Nat→List Tm→Int→Int→List Tm
 | _,_,[],_,_=>[]
 | op,i,t::l,d,c=>t.shift d (c+Af op i)::Tm.shiftL op (i+1) l d c
end
theorem D4 (op:Int) (d c:Int):∀(l:List Tm) (i:Nat),(Tm.shiftL op i l d c).length=l.length
 | [],_=>rfl
 | _::l,i=>by simp only [Tm.shiftL,Atf,D4 op d c l]
theorem Ol (op d c:Int):∀(l l':List Tm) (i:Nat),Tm.shiftL op i (l++l') d c=Tm.shiftL op i l d c++Tm.shiftL op (i+l.length) l' d c
 | [],l',i=>by simp [Tm.shiftL]
 | t::l,l',i=>by simp only [List.cons_append,Tm.shiftL,Ol op d c l l',Atf];congr 3;omega
theorem B5:∀(n:Nat) (t:Tm) (d c:Int),t.wt+1<n→t.wk→0≤c→c+2 * t.wt≤4611686018427387904→Bk (SS dt n 31 [.fv t.enc,iv d,iv c] ⟨[],[]⟩) (t.shift d c).enc:=by
 intro n
 induction n with
 | zero=>intro t d c h;omega
 | succ n ih =>
  intro t d c h hw hc0 hc;obtain ⟨op,m,ks⟩:=t;simp only [Tm.wt] at h hc;rw [Tm.wk] at hw;rw [c31,An];have hlen:=Gx ks;have main:∀m',m'=(if op=1∧c≤m then B0 (m+d) else m) →
    Bk (BQ n (fun q28 l29 h30=>Ij l29 h30 (SS dt n) ⟨[],[]⟩ q28) [iv d,iv c,.ptr (.own 32505856) 0,.ptr (.own 32505857) 0,.ptr (.own 32506885) 0,iv 0]
     ⟨[(32505856,.row [iv op,iv m,.fv (.sl (ks.map Tm.enc))] false),(32505857,.row [iv 0,iv 0,.nils] false),(32506885,.row [iv op,iv m',.nils] false)],[]⟩) ((Tm.mk op m ks).shift d c).enc:=by
   intro m' hm';refine Bf (Q:=fun r=>Bk r _) (fun k V H=>∃pre rest,ks=pre++rest∧rest.length=k∧V=[iv d,iv c,.ptr (.own 32505856) 0,.ptr (.own 32505857) 0,.ptr (.own 32506885) 0,iv pre.length] ∧
    (
     (pre=[]∧H=⟨[(32505856,.row [iv op,iv m,.fv (.sl (ks.map Tm.enc))] false),(32505857,.row [iv 0,iv 0,.nils] false),(32506885,.row [iv op,iv m',.nils] false)],[]⟩) ∨
     (pre≠[]∧H=⟨[(32505856,.row [iv op,iv m,.fv (.sl (ks.map Tm.enc))] false),(32505857,.row [iv 0,iv 0,.nils] false),(32506885,.row [iv op,iv m',.app (.own 32513040) ((Tm.shiftL op 0 pre d c).map Tm.enc)] false),(32513040,.tok (Tm.shiftL op 0 pre d c).length 3)],[]⟩)))
    ?_ n ks.length _ _ (by omega) ⟨[],ks,rfl,rfl,rfl,.inl ⟨rfl,rfl⟩⟩
   rintro k V H rec ⟨pre,rest,hk,hl,rfl,hH⟩ hrec;have hkl:ks.length=pre.length+rest.length:=by rw [hk];simp
   cases rest with
   | nil =>
    have hno:¬ ((pre.length:Int)<ks.length):=by rw [hkl];simp
    have hpre:ks=pre:=by simpa using hk
    rcases hH with ⟨rfl,rfl⟩ | ⟨_,rfl⟩
    ·subst hpre;simp only [Gk,FY,FN,F4,Gh,F7,F9,Ge,Ij,FR,F5,Gg,Gq,Gs,S31,↓XX,XY,↓reduceIte,Nat.reduceBEq,Nat.reduceAdd,Int.reduceEq,Int.reduceLT,Int.reduceLE,Int.lt_irrefl,Tm.shift,Tm.shiftL,← hm',An];exact A8 rfl _
    ·subst hpre;simp only [Gk,FY,FN,F4,Gh,F7,F9,Ge,Ij,FR,F5,Gg,Gq,Gs,S31,↓XX,XY,↓reduceIte,Nat.reduceBEq,Nat.reduceAdd,Int.reduceEq,Int.reduceLT,Int.reduceLE,Int.lt_irrefl,Tm.shift,← hm',An];exact A8 rfl _
   | cons t rest =>
    have hi:(pre.length:Int)<ks.length:=by rw [hkl];simp;omega
    have hg:=C2 hk;have htw:=D8 (t:=t) (l:=ks) (by rw [hk];simp);have hb:=Fy (n:=n) (by omega) op pre.length;have hble:=Bv op pre.length;have hs:=ih t d (c+Af op pre.length) (by omega) (Pr hw.2 (by rw [hk];simp)) (by omega) (by omega);have hx:Tm.shiftL op 0 (pre++[t]) d c=Tm.shiftL op 0 pre d c++[t.shift d (c+Af op pre.length)]:=by
     rw [Ol];simp [Tm.shiftL]
    have hwc:B0 (c+Af op pre.length)=c+Af op pre.length:=by rw [Ay]<;>omega
    have hwi:B0 ((pre.length:Int)+1)=((pre++[t]).length:Int):=(Ay (by omega) (by omega)).trans (by simp);generalize hu:t.shift d (c+Af op pre.length)=u at hs hx;obtain ⟨o,p,l⟩:=t;simp only [Atf] at hl;rw [An] at hs;rcases hH with ⟨hp0,rfl⟩ | ⟨hne,rfl⟩
    ·simp only [Gk,FY,FN,F4,Gh,F7,F9,Ge,Ij,FR,F5,Gg,Gq,Gs,S31,↓XX,XY,↓reduceIte,Nat.reduceBEq,Nat.reduceAdd,Int.reduceEq,Int.reduceLT,Int.reduceLE,hi,↓BE (AQ hg) (Bo _ _ _),↓Cr,↓Ad hb,hwc,hwi,↓Au hs,↓Jk,↓Qp,↓Av,XD,heldB,AB,XE];refine hrec rest.length _ _ (by omega) ?_;refine ⟨pre++[.mk o p l],rest,by rw [hk];simp,rfl,rfl,.inr ⟨by simp,?_⟩⟩;rw [hx,hp0];rfl
    ·have hle:(Tm.shiftL op 0 pre d c).length+1≤1000000:=by rw [D4];omega
     have hq:(Tm.shiftL op 0 pre d c).length=pre.length:=D4 ..;simp only [Gk,FY,FN,F4,Gh,F7,F9,Ge,Ij,FR,F5,Gg,Gq,Gs,S31,↓XX,XY,↓reduceIte,Nat.reduceBEq,Nat.reduceAdd,Int.reduceEq,Int.reduceLT,Int.reduceLE,hi,↓BE (AQ hg) (Bo _ _ _),↓Cr,↓Ad hb,hwc,hwi,↓Au hs,↓Jk,↓My hle,↓HU,↓Av,XD,heldB,AB,XE];refine hrec rest.length _ _ (by omega) ?_;refine ⟨pre++[.mk o p l],rest,by rw [hk];simp,rfl,rfl,.inr ⟨by simp,?_⟩⟩;rw [hx];simp only [List.length_append,Atf,List.length_nil]
  by_cases h1:op=1
  ·by_cases h2:c≤m
   ·subst h1;simp only [Gk,FY,FN,F4,Gh,F7,F9,Ge,FR,F5,Gg,Gq,Gs,S31,↓XX,XY,↓reduceIte,Nat.reduceBEq,Nat.reduceAdd,Int.reduceEq,Int.reduceLT,Int.reduceLE,h2,↓Av,XD,heldB,AB,XE];exact main _ (by simp [h2])
   ·subst h1;simp only [Gk,FY,FN,F4,Gh,F7,F9,Ge,FR,F5,Gg,Gq,Gs,S31,↓XX,XY,↓reduceIte,Nat.reduceBEq,Nat.reduceAdd,Int.reduceEq,Int.reduceLT,Int.reduceLE,h2,↓Av,XD,heldB,AB,XE];exact main _ (by simp [h2])
  ·simp only [Gk,FY,FN,F4,Gh,F7,F9,Ge,FR,F5,Gg,Gq,Gs,S31,↓XX,XY,↓reduceIte,Nat.reduceBEq,Nat.reduceAdd,Int.reduceEq,Int.reduceLT,Int.reduceLE,h1,↓Av,XD,heldB,AB,XE];exact main _ (by simp [h1])
mutual
def Tm.subst:Tm→Int→Int→Tm→Tm
 | .mk op m ks,n,d,u=>if op=1 then (if m=n then u.shift d 0 else if n<m then .mk 1 (B0 (m - 1)) [] else .mk op m ks) else .mk op m (Tm.substL op 0 ks n d u)
def Tm.substL:Int→Nat→List Tm→Int→Int→Tm→List Tm
 | _,_,[],_,_,_=>[]
 | op,i,t::l,n,d,u=>t.subst (n+Af op i) (d+Af op i) u::Tm.substL op (i+1) l n d u
end
theorem Hc (op n d:Int) (u:Tm):∀(l:List Tm) (i:Nat),(Tm.substL op i l n d u).length=l.length
 | [],_=>rfl
 | _::l,i=>by simp only [Tm.substL,Atf,Hc op n d u l]
theorem NW (op n d:Int) (u:Tm):∀(l l':List Tm) (i:Nat),Tm.substL op i (l++l') n d u=Tm.substL op i l n d u++Tm.substL op (i+l.length) l' n d u
 | [],l',i=>by simp [Tm.substL]
 | t::l,l',i=>by simp only [List.cons_append,Tm.substL,NW op n d u l l',Atf];congr 3;omega
theorem Agp (u:Tm) (hu:u.wk) (huw:u.wt≤1152921504606846976):∀(n:Nat) (t:Tm) (c d:Int),t.wt+u.wt+3<n→t.wk→-1000000000≤c→c+2 * t.wt≤4611686018427387904→0≤d→d+2 * t.wt≤4611686018427387904 →
  Bk (SS dt n 62 [.fv t.enc,iv c,iv d,.fv u.enc] ⟨[],[]⟩) (t.subst c d u).enc:=by
 intro n
 induction n with
 | zero=>intro t c d h;omega
 | succ n ih =>
  intro t c d h hw hc0 hc hd0 hd;obtain ⟨op,m,ks⟩:=t;simp only [Tm.wt] at h hc hd;rw [Tm.wk] at hw;rw [c62,An];have hlen:=Gx ks;by_cases h1:op=1
  ·subst h1;have hsh:=B5 n u d 0 (by omega) hu (by omega) (by omega);rw [Tm.subst,if_pos rfl];generalize u.shift d 0=z at hsh ⊢;obtain ⟨uo,un,uk⟩:=u;obtain ⟨zo,zn,zk⟩:=z;rw [An] at hsh ⊢;by_cases h2:m=c
   ·subst h2;simp only [↓UU3,↓XX,XY,↓reduceIte,Nat.reduceBEq,Nat.reduceAdd,Int.reduceEq,Int.reduceLT,Int.reduceLE,↓Au hsh];simp only [↓UU3,↓XX,XY,↓reduceIte,Nat.reduceBEq,Nat.reduceAdd,Int.reduceEq,Int.reduceLT,Int.reduceLE,An];exact A8 rfl _
   ·by_cases h3:c<m
    ·simp only [↓UU3,↓XX,XY,↓reduceIte,Nat.reduceBEq,Nat.reduceAdd,Int.reduceEq,Int.reduceLT,Int.reduceLE,h2,h3,An];exact A8 rfl _
    ·simp only [↓UU3,↓XX,XY,↓reduceIte,Nat.reduceBEq,Nat.reduceAdd,Int.reduceEq,Int.reduceLT,Int.reduceLE,h2,h3,An];exact A8 rfl _
  ·have main :
    Bk (BQ n (fun q l h=>IB l h (SS dt n) ⟨[],[]⟩ q) [iv c,iv d,.ptr (.own 65011712) 0,.ptr (.own 65011713) 0,.ptr (.own 65011714) 0,.ptr (.own 65018885) 0,iv 0]
     ⟨[(65011712,.row [iv op,iv m,.fv (.sl (ks.map Tm.enc))] false),(65011713,.row [iv u.op,iv u.n,.fv (.sl (u.kids.map Tm.enc))] false),(65011714,.row [iv 0,iv 0,.nils] false),(65018885,.row [iv op,iv m,.nils] false)],[]⟩)
      (Tm.mk op m (Tm.substL op 0 ks c d u)).enc:=by
    refine Bf (Q:=fun r=>Bk r _) (fun k V H=>∃pre rest,ks=pre++rest∧rest.length=k∧V=[iv c,iv d,.ptr (.own 65011712) 0,.ptr (.own 65011713) 0,.ptr (.own 65011714) 0,.ptr (.own 65018885) 0,iv pre.length] ∧
     (
      (pre=[]∧H=⟨[(65011712,.row [iv op,iv m,.fv (.sl (ks.map Tm.enc))] false),(65011713,.row [iv u.op,iv u.n,.fv (.sl (u.kids.map Tm.enc))] false),(65011714,.row [iv 0,iv 0,.nils] false),(65018885,.row [iv op,iv m,.nils] false)],[]⟩) ∨
      (
      pre≠[]∧H=⟨[(65011712,.row [iv op,iv m,.fv (.sl (ks.map Tm.enc))] false),(65011713,.row [iv u.op,iv u.n,.fv (.sl (u.kids.map Tm.enc))] false),(65011714,.row [iv 0,iv 0,.nils] false),
      (65018885,.row [iv op,iv m,.app (.own 65024016) ((Tm.substL op 0 pre c d u).map Tm.enc)] false),(65024016,.tok (Tm.substL op 0 pre c d u).length 3)],[]⟩)))
     ?_ n ks.length _ _ (by omega) ⟨[],ks,rfl,rfl,rfl,.inl ⟨rfl,rfl⟩⟩
    rintro k V H rec ⟨pre,rest,hk,hl,rfl,hH⟩ hrec;have hkl:ks.length=pre.length+rest.length:=by rw [hk];simp
    cases rest with
    | nil =>
     have hno:¬ ((pre.length:Int)<ks.length):=by rw [hkl];simp
     have hpre:ks=pre:=by simpa using hk
     rcases hH with ⟨rfl,rfl⟩ | ⟨_,rfl⟩
     ·subst hpre;simp only [Ic,Ib,IN,IC,Iv,Iq,H8,ID,IQ,H0,Ia,Iu,IL,IB,Ik,IK,In,S62,↓XX,XY,↓reduceIte,Nat.reduceBEq,Nat.reduceAdd,Int.reduceEq,Int.reduceLT,Int.reduceLE,Int.lt_irrefl,Tm.substL,An];exact A8 rfl _
     ·subst hpre;simp only [Ic,Ib,IN,IC,Iv,Iq,H8,ID,IQ,H0,Ia,Iu,IL,IB,Ik,IK,In,S62,↓XX,XY,↓reduceIte,Nat.reduceBEq,Nat.reduceAdd,Int.reduceEq,Int.reduceLT,Int.reduceLE,Int.lt_irrefl,An];exact A8 rfl _
    | cons t rest =>
     have hi:(pre.length:Int)<ks.length:=by rw [hkl];simp;omega
     have hg:=C2 hk;have htw:=D8 (t:=t) (l:=ks) (by rw [hk];simp);have hb:=Fy (n:=n) (by omega) op pre.length;have hble:=Bv op pre.length;have hs:=ih t (c+Af op pre.length) (d+Af op pre.length) (by omega) (Pr hw.2 (by rw [hk];simp)) (by omega) (by omega) (by omega) (by omega);have hx:Tm.substL op 0 (pre++[t]) c d u=Tm.substL op 0 pre c d u++[t.subst (c+Af op pre.length) (d+Af op pre.length) u]:=by
      rw [NW];simp [Tm.substL]
     have hwc:B0 (c+Af op pre.length)=c+Af op pre.length:=by rw [Ay]<;>omega
     have hwd:B0 (d+Af op pre.length)=d+Af op pre.length:=by rw [Ay]<;>omega
     have hwi:B0 ((pre.length:Int)+1)=((pre++[t]).length:Int):=(Ay (by omega) (by omega)).trans (by simp);generalize hv:t.subst (c+Af op pre.length) (d+Af op pre.length) u=v at hs hx;obtain ⟨o,p,l⟩:=t;simp only [Atf] at hl;have hue:u.enc=.agg [.int .i64 u.op,.int .i64 u.n,.sl (u.kids.map Tm.enc)]:=by cases u;exact An ..
     rw [An,hue] at hs;rcases hH with ⟨hp0,rfl⟩ | ⟨hne,rfl⟩
     ·simp only [Ic,Ib,IN,IC,Iv,Iq,H8,ID,IQ,H0,Ia,Iu,IL,IB,Ik,IK,In,S62,↓XX,XY,↓reduceIte,Nat.reduceBEq,Nat.reduceAdd,Int.reduceEq,Int.reduceLT,Int.reduceLE,hi,↓BE (AQ hg) (Bo _ _ _),↓Cr,↓Ad hb,hwc,hwd,hwi,↓Az hs,↓Jk,↓Qp,↓Av,XD,heldB,AB,XE];refine hrec rest.length _ _ (by omega) ?_;refine ⟨pre++[.mk o p l],rest,by rw [hk];simp,rfl,rfl,.inr ⟨by simp,?_⟩⟩;rw [hx,hp0];rfl
     ·have hle:(Tm.substL op 0 pre c d u).length+1≤1000000:=by rw [Hc];omega
      simp only [Ic,Ib,IN,IC,Iv,Iq,H8,ID,IQ,H0,Ia,Iu,IL,IB,Ik,IK,In,S62,↓XX,XY,↓reduceIte,Nat.reduceBEq,Nat.reduceAdd,Int.reduceEq,Int.reduceLT,Int.reduceLE,hi,↓BE (AQ hg) (Bo _ _ _),↓Cr,↓Ad hb,hwc,hwd,hwi,↓Az hs,↓Jk,↓My hle,↓HU,↓Av,XD,heldB,AB,XE];refine hrec rest.length _ _ (by omega) ?_;refine ⟨pre++[.mk o p l],rest,by rw [hk];simp,rfl,rfl,.inr ⟨by simp,?_⟩⟩;rw [hx];simp only [List.length_append,Atf,List.length_nil]
   rw [Tm.subst,if_neg h1];obtain ⟨uo,un,uk⟩:=u;rw [An (op:=uo)];simp only [↓UU3,↓XX,XY,↓reduceIte,Nat.reduceBEq,Nat.reduceAdd,Int.reduceEq,Int.reduceLT,Int.reduceLE,h1,↓Av,XD,heldB,AB,XE];exact main
theorem HI {n:Nat} (t u:Tm) (c:Int) (hu:u.wk) (huw:u.wt≤1152921504606846976) (h:t.wt+u.wt+4<n) (hw:t.wk) (hww:t.wt≤2305843009213693951) (h0:-1000000000≤c) (hc:c+2 * t.wt≤4611686018427387904) :
  Bk (SS dt n 30 [.fv t.enc,iv c,.fv u.enc] ⟨[],[]⟩) (t.subst c 0 u).enc:=by
 obtain ⟨n,rfl⟩:∃k,n=k+1:=⟨n - 1,by omega⟩;rw [c30];have hs:=Agp u hu huw n t c 0 (by omega) hw h0 hc (by omega) (by omega);generalize t.subst c 0 u=v at hs ⊢;obtain ⟨o1,n1,k1⟩:=t;obtain ⟨o2,n2,k2⟩:=u;obtain ⟨o3,n3,k3⟩:=v;simp only [An] at hs ⊢;simp only [Afw,S30,↓XX,XY,↓reduceIte,Nat.reduceBEq,Nat.reduceAdd,Int.reduceEq,Int.reduceLT,Int.reduceLE,↓Az hs];exact A8 rfl _
mutual
def Tm.free:Tm→Int→Bool
 | .mk op m ks,c=>if op=1 then decide (m=c) else Tm.freeL op 0 ks c
def Tm.freeL:Int→Nat→List Tm→Int→Bool
 | _,_,[],_=>false
 | op,i,t::l,c=>t.free (c+Af op i) || Tm.freeL op (i+1) l c
end
theorem Ahn:∀(n:Nat) (t:Tm) (c:Int),t.wt+1<n→t.wt≤1152921504606846976→-1000000000≤c→c+2 * t.wt≤461168601842738→Bk (SS dt n 68 [.fv t.enc,iv c] ⟨[],[]⟩) (.bool (t.free c)):=by
 intro n
 induction n with
 | zero=>intro t c h;omega
 | succ n ih =>
  intro t c h hw hc0 hc;obtain ⟨op,m,ks⟩:=t;simp only [Tm.wt] at h hw hc;rw [c68,An];have hlen:=Gx ks;by_cases h1:op=1
  ·subst h1;rw [Tm.free,if_pos rfl];simp only [LB,Lo,Lt,Lz,K6,S68,↓XX,XY,↓reduceIte,Nat.reduceBEq,Nat.reduceAdd,Int.reduceEq,Int.reduceLT,Int.reduceLE];exact Aq _ _
  ·rw [Tm.free,if_neg h1];simp only [LB,Lo,Lt,Lz,K6,S68,↓XX,XY,↓reduceIte,Nat.reduceBEq,Nat.reduceAdd,Int.reduceEq,Int.reduceLT,Int.reduceLE,h1];refine Bf (Q:=fun r=>Bk r _) (fun k V H=>∃pre rest,ks=pre++rest∧rest.length=k∧V=[iv c,.ptr (.own 71303168) 0,iv pre.length]∧H=⟨[(71303168,.row [iv op,iv m,.fv (.sl (ks.map Tm.enc))] false)],[]⟩∧Tm.freeL op pre.length rest c=Tm.freeL op 0 ks c)
    ?_ n ks.length _ _ (by omega) ⟨[],ks,rfl,rfl,rfl,rfl,rfl⟩
   rintro k V H rec ⟨pre,rest,hk,hl,rfl,rfl,ht⟩ hrec;have hkl:ks.length=pre.length+rest.length:=by rw [hk];simp
   cases rest with
   | nil =>
    have hno:¬ ((pre.length:Int)<ks.length):=by rw [hkl];simp
    rw [← ht];simp only [LB,Lo,Lt,Lz,K6,SU,S68,↓XX,XY,↓reduceIte,Nat.reduceBEq,Nat.reduceAdd,Int.reduceEq,Int.reduceLT,Int.reduceLE,hno,Tm.freeL];exact Aq _ _
   | cons t rest =>
    have hi:(pre.length:Int)<ks.length:=by rw [hkl];simp;omega
    have hg:=C2 hk;have htw:=D8 (t:=t) (l:=ks) (by rw [hk];simp);have hb:=Fy (n:=n) (by omega) op pre.length;have hble:=Bv op pre.length;have hs:=ih t (c+Af op pre.length) (by omega) (by omega) (by omega) (by omega);have hwc:B0 (c+Af op pre.length)=c+Af op pre.length:=by rw [Ay]<;>omega
    have hwi:B0 ((pre.length:Int)+1)=((pre++[t]).length:Int):=(Ay (by omega) (by omega)).trans (by simp);simp only [Tm.freeL] at ht;generalize t.free (c+Af op pre.length)=v at hs ht;obtain ⟨o,p,l⟩:=t;simp only [Atf] at hl;rw [An] at hs;cases v
    ·simp only [LB,Lo,Lt,Lz,K6,SU,S68,↓XX,XY,↓reduceIte,Nat.reduceBEq,Nat.reduceAdd,Int.reduceEq,Int.reduceLT,Int.reduceLE,hi,↓BE (AQ hg) (Bo _ _ _),↓Cr,↓Ad hb,hwc,hwi,↓Ad hs];refine hrec rest.length _ _ (by omega) ?_;exact ⟨pre++[.mk o p l],rest,by rw [hk];simp,rfl,rfl,rfl,by simpa using ht⟩
    ·rw [← ht];simp only [LB,Lo,Lt,Lz,K6,SU,S68,↓XX,XY,↓reduceIte,Nat.reduceBEq,Nat.reduceAdd,Int.reduceEq,Int.reduceLT,Int.reduceLE,hi,↓BE (AQ hg) (Bo _ _ _),↓Cr,↓Ad hb,hwc,hwi,↓Ad hs,Bool.true_or];exact Aq _ _
mutual
def Tm.same:Tm→Tm→Bool
 | .mk o n l,.mk o' n' l'=>decide (o=o') && (decide (n=n') && (decide (l.length=l'.length) && Tm.sameL l l'))
def Tm.sameL:List Tm→List Tm→Bool
 | a::l,b::l'=>a.same b && Tm.sameL l l'
 | _,_=>true
end
mutual
theorem PY:∀a b:Tm,a.same b=true ↔ a=b
 | .mk o n l,.mk o' n' l'=>by
  simp only [Tm.same,Bool.and_eq_true,decide_eq_true_eq,Tm.mk.injEq];constructor
  ·rintro ⟨rfl,rfl,h1,h2⟩;exact ⟨rfl,rfl,(sameL_eq l l' h1).1 h2⟩
  ·rintro ⟨rfl,rfl,rfl⟩;exact ⟨rfl,rfl,rfl,(sameL_eq l l rfl).2 rfl⟩
theorem sameL_eq:∀l l':List Tm,l.length=l'.length→(Tm.sameL l l'=true ↔ l=l')
 | [],[],_=>by simp [Tm.sameL]
 | a::l,b::l',h=>by
  simp only [Tm.sameL,Bool.and_eq_true,List.cons.injEq,PY a b,sameL_eq l l' (by simpa using h)]
end
theorem Mj:∀(n:Nat) (a b:Tm),a.wt+1<n→a.wt≤1152921504606846976→Bk (SS dt n 21 [.fv a.enc,.fv b.enc] ⟨[],[]⟩) (.bool (a.same b)):=by
 intro n
 induction n with
 | zero=>intro a b h;omega
 | succ n ih =>
  intro a b h hw;obtain ⟨op,m,ks⟩:=a;obtain ⟨op',m',ks'⟩:=b;simp only [Tm.wt] at h hw;rw [c21,An,An];have hlen:=Gx ks;rw [Tm.same];by_cases h1:op=op'
  ·by_cases h2:m=m'
   ·by_cases h3:ks.length=ks'.length
    ·have h3':(ks.length:Int)=ks'.length:=by omega
     subst h1 h2;simp only [FU,Gp,Gl,Gd,Ga,Gj,Gf,F6,FO,S21,↓XX,XY,↓reduceIte,Nat.reduceBEq,Nat.reduceAdd,Int.reduceEq,Int.reduceLT,Int.reduceLE,h3,h3',Tm.same];refine Bf (Q:=fun r=>Bk r _) (fun k V H=>∃pre rest pre' rest',ks=pre++rest∧ks'=pre'++rest'∧pre.length=pre'.length∧rest.length=k∧V=[.ptr (.own 22020096) 0,.ptr (.own 22020097) 0,iv pre.length] ∧
      H=⟨[(22020096,.row [iv op,iv m,.fv (.sl (ks.map Tm.enc))] false),(22020097,.row [iv op,iv m,.fv (.sl (ks'.map Tm.enc))] false)],[]⟩∧Tm.sameL rest rest'=Tm.sameL ks ks')
      ?_ n ks.length _ _ (by omega) ⟨[],ks,[],ks',rfl,rfl,rfl,rfl,rfl,rfl,rfl⟩
     rintro k V H rec ⟨pre,rest,pre',rest',hk,hk',hpl,hl,rfl,rfl,ht⟩ hrec;have hkl:ks.length=pre.length+rest.length:=by rw [hk];simp
     have hkl':ks'.length=pre'.length+rest'.length:=by rw [hk'];simp
     cases rest with
     | nil =>
      have hno:¬ ((pre.length:Int)<ks.length):=by rw [hkl];simp
      rw [← ht];simp only [FU,Gp,Gl,Gd,Ga,Me,Gj,Gf,F6,FO,S21,↓XX,XY,↓reduceIte,Nat.reduceBEq,Nat.reduceAdd,Int.reduceEq,Int.reduceLT,Int.reduceLE,hno,Tm.sameL];exact Aq _ _
     | cons t rest =>
      cases rest' with
      | nil=>simp at hkl hkl';omega
      | cons t' rest' =>
       have hi:(pre.length:Int)<ks.length:=by rw [hkl];simp;omega
       have hg:=C2 hk;have hg':=C2 hk';rw [← hpl] at hg';have htw:=D8 (t:=t) (l:=ks) (by rw [hk];simp);have hs:=ih t t' (by omega) (by omega);have hwi:B0 ((pre.length:Int)+1)=((pre++[t]).length:Int):=(Ay (by omega) (by omega)).trans (by simp);simp only [Tm.sameL] at ht;generalize t.same t'=v at hs ht;obtain ⟨o,p,l⟩:=t;obtain ⟨o',p',l'⟩:=t';simp only [Atf] at hl;rw [An,An] at hs;cases v
       ·rw [← ht];simp only [FU,Gp,Gl,Gd,Ga,Me,Gj,Gf,F6,FO,S21,↓XX,XY,↓reduceIte,Nat.reduceBEq,Nat.reduceAdd,Int.reduceEq,Int.reduceLT,Int.reduceLE,hi,↓BE (AQ hg) (Bo _ _ _),↓BE (AQ hg') (Bo _ _ _),↓Cr,↓Ad hs,Bool.false_and];exact Aq _ _
       ·simp only [FU,Gp,Gl,Gd,Ga,Me,Gj,Gf,F6,FO,S21,↓XX,XY,↓reduceIte,Nat.reduceBEq,Nat.reduceAdd,Int.reduceEq,Int.reduceLT,Int.reduceLE,hi,↓BE (AQ hg) (Bo _ _ _),↓BE (AQ hg') (Bo _ _ _),↓Cr,hwi,↓Ad hs];refine hrec rest.length _ _ (by omega) ?_;exact ⟨pre++[.mk o p l],rest,pre'++[.mk o' p' l'],rest',by rw [hk];simp,by rw [hk'];simp,by simp [hpl],rfl,rfl,rfl,by simpa using ht⟩
    ·have h3':¬ (ks.length:Int)=ks'.length:=by omega
     simp only [FU,Gp,Gl,Gd,Ga,Gj,Gf,F6,FO,S21,↓XX,XY,↓reduceIte,Nat.reduceBEq,Nat.reduceAdd,Int.reduceEq,Int.reduceLT,Int.reduceLE,h1,h2,h3,h3'];exact Aq _ _
   ·simp only [FU,Gp,Gl,Gd,Ga,Gj,Gf,F6,FO,S21,↓XX,XY,↓reduceIte,Nat.reduceBEq,Nat.reduceAdd,Int.reduceEq,Int.reduceLT,Int.reduceLE,h1,h2];exact Aq _ _
  ·simp only [FU,Gp,Gl,Gd,Ga,Gj,Gf,F6,FO,S21,↓XX,XY,↓reduceIte,Nat.reduceBEq,Nat.reduceAdd,Int.reduceEq,Int.reduceLT,Int.reduceLE,h1];exact Aq _ _
theorem AiR (o p:Int) (l:List Tm) (s:Nat) (h:Hp) (k:IV→Hp→List Ref→List Ref→Option (IV×Hp)):Aw (Ag EE 29 1 [(0,.fv (.agg [.int .i64 o,.int .i64 p,.sl (l.map Tm.enc)]))]) s h k=k (.clip [.agg [.int .i64 o,.int .i64 p,.sl (l.map Tm.enc)]]) h [] []:=by
 have:=Jk (.mk o p l) s h k
 rw [An] at this;exact this
def PO (o:Option (IV×Hp)):Bool:=match o with
 | some (.fv (.bool b),⟨_,[]⟩)=>b
 | _=>false
theorem Adq {o:Option (IV×Hp)} (h:PO o=true):Bk o (.bool true):=by
 unfold PO at h;split at h
 ·subst h;exact Aq _ _
 ·cases h
theorem BD (o1 n1 o2 n2:Int) (k1 k2:List FV) (s:Nat) (h:Hp) (k:IV→Hp→List Ref→List Ref→Option (IV×Hp)):Aw (Ag EE 29 2 [(0,.fv (.agg [.int .i64 o1,.int .i64 n1,.sl k1])),(1,.fv (.agg [.int .i64 o2,.int .i64 n2,.sl k2]))]) s h k =
  k (.clip [.agg [.int .i64 o1,.int .i64 n1,.sl k1],.agg [.int .i64 o2,.int .i64 n2,.sl k2]]) h [] []:=Cu UB tTm (by decide) (cells:=[.int .i64 o1,.int .i64 n1,.sl k1,.int .i64 o2,.int .i64 n2,.sl k2]) rfl k
theorem EQ (o1 n1 o2 n2 o3 n3:Int) (k1 k2 k3:List FV) (s:Nat) (h:Hp) (k:IV→Hp→List Ref→List Ref→Option (IV×Hp)):Aw (Ag EE 29 3 [(0,.fv (.agg [.int .i64 o1,.int .i64 n1,.sl k1])),(1,.fv (.agg [.int .i64 o2,.int .i64 n2,.sl k2])),(2,.fv (.agg [.int .i64 o3,.int .i64 n3,.sl k3]))]) s h k =
  k (.clip [.agg [.int .i64 o1,.int .i64 n1,.sl k1],.agg [.int .i64 o2,.int .i64 n2,.sl k2],.agg [.int .i64 o3,.int .i64 n3,.sl k3]]) h [] []:=Cu UB tTm (by decide) (cells:=[.int .i64 o1,.int .i64 n1,.sl k1,.int .i64 o2,.int .i64 n2,.sl k2,.int .i64 o3,.int .i64 n3,.sl k3]) rfl k
theorem GT (o1 n1 o2 n2 o3 n3 o4 n4:Int) (k1 k2 k3 k4:List FV) (s:Nat) (h:Hp) (k:IV→Hp→List Ref→List Ref→Option (IV×Hp)):Aw (Ag EE 29 4 [(0,.fv (.agg [.int .i64 o1,.int .i64 n1,.sl k1])),(1,.fv (.agg [.int .i64 o2,.int .i64 n2,.sl k2])),(2,.fv (.agg [.int .i64 o3,.int .i64 n3,.sl k3])),(3,.fv (.agg [.int .i64 o4,.int .i64 n4,.sl k4]))]) s h k =
  k (.clip [.agg [.int .i64 o1,.int .i64 n1,.sl k1],.agg [.int .i64 o2,.int .i64 n2,.sl k2],.agg [.int .i64 o3,.int .i64 n3,.sl k3],.agg [.int .i64 o4,.int .i64 n4,.sl k4]]) h [] []:=Cu UB tTm (by decide) (cells:=[.int .i64 o1,.int .i64 n1,.sl k1,.int .i64 o2,.int .i64 n2,.sl k2,.int .i64 o3,.int .i64 n3,.sl k3,.int .i64 o4,.int .i64 n4,.sl k4]) rfl k
theorem Bw (o1 n1:Int) (k1:List FV) (s:Nat) (h:Hp) (k:IV→Hp→List Ref→List Ref→Option (IV×Hp)):Aw (Ag EE 29 1 [(0,.fv (.agg [.int .i64 o1,.int .i64 n1,.sl k1]))]) s h k =
  k (.clip [.agg [.int .i64 o1,.int .i64 n1,.sl k1]]) h [] []:=Cu UB tTm (by decide) (cells:=[.int .i64 o1,.int .i64 n1,.sl k1]) rfl k
def Rk (r:Option (IV×Hp)) (v:FV):Prop:=∃own,r=some (.fv v,⟨own,[]⟩)
theorem Bl {v:FV} {own:List (Nat×Blk)}:Rk (some (.fv v,⟨own,[]⟩)) v:=⟨own,rfl⟩
def HV:Nat→Tm
 | 0=>.mk 11 0 []
 | n+1=>.mk 12 0 [HV n]
theorem AoO {g:FuncId} (h:EE.pol.inl g=false) (h1:EE.pol.keep g=[]) (h2:EE.pol.split g=false) (h3:EE.pol.raw g=false) (ih:Aa) (xs:List IV) (h0:Hp) (k:IV→Hp→List Ref→List Ref→Option (IV×Hp)) :
  Jo EE ih (.fv (.func (.func g) [] [])) xs h0 k=Aj [] false false ih g xs h0 k:=by
 unfold Jo;simp only [callee,h,cond_false,AmC,h1,h2,h3,Atg,List.nil_append,List.append_nil]
theorem Akf {n:Nat} (k:Nat) (hn:k+3<n) (hk:k≤1000000):Bk (SS dt n 35 [iv k] ⟨[],[]⟩) (HV k).enc:=by
 obtain ⟨n,rfl⟩:∃j,n=j+1:=⟨n - 1,by omega⟩;rw [c35];have h0:=Dw (n:=n) (by omega) 11;rw [An] at h0;simp only [Su,SV,PD,S35,↓XX,XY,↓reduceIte,Nat.reduceBEq,Nat.reduceAdd,Int.reduceEq,Int.reduceLT,Int.reduceLE,↓Ad h0];refine Bf (Q:=fun r=>Bk r _) (fun j V H=>∃(i:Nat),i+j=k∧V=[iv k,.ptr (.own 36700160) 0,.ptr (.own 36701185) 0,iv i] ∧
   H=⟨[(36700160,.row [iv 0,iv 0,.nils] false),(36701185,.row [iv (HV i).op,iv (HV i).n,.fv (.sl ((HV i).kids.map Tm.enc))] false)],[]⟩) ?_ n k _ _ (by omega) ⟨0,by omega,rfl,rfl⟩
 rintro j V H rec ⟨i,hi,rfl,rfl⟩ hrec;cases j with
 | zero =>
  have:i=k:=by omega
  subst this;have hno:¬ ((i:Int)<i):=by omega
  generalize HV i=t;obtain ⟨o,p,l⟩:=t;rw [An];simp only [Su,SV,PD,VQ,S35,↓XX,XY,↓reduceIte,Nat.reduceBEq,Nat.reduceAdd,Int.reduceEq,Int.reduceLT,Int.reduceLE,hno,Tm.op,Tm.n,Tm.kids];exact Aq _ _
 | succ j =>
  have hlt:(i:Int)<k:=by omega
  have hw:B0 ((i:Int)+1)=((i+1:Nat):Int):=(Ay (by omega) (by omega)).trans (by simp);have ht:=B3 (n:=n) (by omega) 12 [HV i];have h9:=hrec j ([iv k,.ptr (.own 36700160) 0,.ptr (.own 36701185) 0,iv (i+1:Nat)]) (⟨[(36700160,.row [iv 0,iv 0,.nils] false),(36701185,.row [iv 12,iv 0,.fv (.sl ([HV i].map Tm.enc))] false)],[]⟩) (by omega) ⟨i+1,by omega,rfl,rfl⟩;generalize HV i=t at *;obtain ⟨o,p,l⟩:=t;simp only [Ath,Atg,An] at ht h9;simp only [Su,SV,PD,VQ,S35,↓XX,XY,↓reduceIte,Nat.reduceBEq,Nat.reduceAdd,Int.reduceEq,Int.reduceLT,Int.reduceLE,hlt,Tm.op,Tm.n,Tm.kids,↓AiR,↓Ad ht,hw];exact h9
theorem VP (n:Nat):PO (SS dt (n+60) 14 [] ⟨[],[]⟩)=true:=by kernel_rfl
theorem OC {n:Nat} (h:60≤n):Bk (SS dt n 14 [] ⟨[],[]⟩) (.bool true):=by
 obtain ⟨k,rfl⟩:∃k,n=k+60:=⟨n - 60,by omega⟩;exact Adq (VP k)
theorem Vi {n:Nat} (hn:0<n) (x:Int) {m:Int} (h1:0<m) (h2:m≤4611686018427387904):Bk (SS dt n 28 [iv x,iv m] ⟨[],[]⟩) (.int .i64 (x % m)):=by
 obtain ⟨n,rfl⟩:=Nat.exists_eq_add_of_lt hn;rw [Nat.zero_add,c28];simp only [S28,↓XX,XY,↓reduceIte,Nat.reduceBEq,Nat.reduceAdd,Int.reduceEq,Int.reduceLT,Int.reduceLE,↓Nu (show m≠0 by omega)]
 rw [← Aey h1 h2];by_cases hc:x.tmod m<0<;>simp only [hc,if_true,if_false]<;>exact Aq _ _
section
variable {β:Type} {E:Env}
def Ano (cs:List IV) (k:List FV→Option β):Option β:=(C6 cs).bind k
theorem Ahm {t e:TypeId} {a b:Nat} {ei:TI} {z:List IV} (hT:E.T t=some ⟨a,b,.slice e,z⟩) (he:E.T e=some ei) (hs:ei.size=1) (hz:∃x,ei.zero=[x]) (r s:Nat) (own:List (Nat×Blk)) (ext:List Blk)
  (hc:∀cells ro,Ar r own=some (.row cells ro)→cells.length≤100) (hk:∀cells ro,Ar r own=some (.row cells ro)→∃fc,C6 cells=some fc) (k:IV→Hp→List Ref→List Ref→Option β) :
  Aw (Ag E t 1 [(0,.ptr (.own r) 0)]) s ⟨own,ext⟩ k=GC own r fun bl=>EP bl fun cells=>Ano cells fun fc=>A2 own r (.row cells true) fun own=>k (.clip [.fp fc 0]) ⟨own,ext⟩ [.own r] [.own r]:=by
 obtain ⟨x,hx⟩:=hz;have hm:Ag E t 1 [(0,.ptr (.own r) 0)]=(frzL (65534+1+1) [.ptr (.own r) 0]).bind fun (vs,u)=>.ret { eff:={ val:=.clip (BL ei.size 1 vs),upd:=u } }:=by
  have h1:¬ (ei.size=0∨1 * ei.size > 65536):=by rw [hs];omega
  have h2:Cx (fun j=>some (j * ei.size,ei.size)) (Ot 1 ei.zero) [(0,.ptr (.own r) 0)]=some [.ptr (.own r) 0]:=by
   rw [hx,hs];rfl
  simp only [Ag,hT,he,if_neg h1,h2]
 rw [hm,BN];unfold Aw;cases hl:Ar r own with
 | none =>
  have:((frzL (65534+1+1) [.ptr (.own r) 0]).bind fun (vs,u)=>Rd.ret ({ eff:={ val:=.clip (BL ei.size 1 vs),upd:=u } }:Made)).runLog ⟨own,ext⟩ []=none:=by
   simp only [frzL,CW,Rd.bind,Rd.runLog,Hp.get,hl]
  rw [this];rfl
 | some bl =>
  cases bl with
  | row cells ro =>
   obtain ⟨fc,hfc⟩:=hk cells ro hl;have hlen:=hc cells ro hl;have h3:frzL 65534 cells=.ret (fc,[]):=Yt cells 65534 (by omega) hfc
   have:((frzL (65534+1+1) [.ptr (.own r) 0]).bind fun (vs,u)=>Rd.ret ({ eff:={ val:=.clip (BL ei.size 1 vs),upd:=u } }:Made)).runLog ⟨own,ext⟩ [] =
     some ({ eff:={ val:=.clip (BL ei.size 1 [.fp fc 0]),upd:=[(.own r,.row cells true)] } },[.own r]):=by
    simp only [frzL,CW,Rd.bind,Rd.runLog,Hp.get,hl,h3,List.append_nil]
   rw [this];simp only [Option.bind_some,EP,Ano,hfc,hs]
   show (fRf (.own r) fun q=>Dp q ⟨own,ext⟩ fun _=>fBk (.row cells true) fun b=>FJ q b ⟨own,ext⟩ fun h=>Jl none s h fun h=>fV 3 (.clip [.fp fc 0]) fun v=>k v h [.own r] ([.own r]++[]))=_
   simp only [M6,C3,CB,Jl,FJ,Dp];rw [BN,hl];rfl
  | tok n sz =>
   have:((frzL (65534+1+1) [.ptr (.own r) 0]).bind fun (vs,u)=>Rd.ret ({ eff:={ val:=.clip (BL ei.size 1 vs),upd:=u } }:Made)).runLog ⟨own,ext⟩ []=none:=by
    simp only [frzL,CW,Rd.bind,Rd.runLog,Hp.get,hl]
   rw [this];rfl
  | map es =>
   have:((frzL (65534+1+1) [.ptr (.own r) 0]).bind fun (vs,u)=>Rd.ret ({ eff:={ val:=.clip (BL ei.size 1 vs),upd:=u } }:Made)).runLog ⟨own,ext⟩ []=none:=by
    simp only [frzL,CW,Rd.bind,Rd.runLog,Hp.get,hl]
   rw [this];rfl
theorem Apz {t e:TypeId} {a b:Nat} {ei:TI} {z:List IV} (hT:E.T t=some ⟨a,b,.slice e,z⟩) (he:E.T e=some ei) (hs:ei.size=1) (hz:∃x,ei.zero=[x]) {r:Nat} {own own':List (Nat×Blk)} {cells:List IV} {ro:Bool} {fc:List FV}
  (hl:Ar r own=some (.row cells ro)) (hf:C6 cells=some fc) (hn:cells.length≤100) (ho:AS r (.row cells true) own=own') (s:Nat) (ext:List Blk) (k:IV→Hp→List Ref→List Ref→Option β) :
  Aw (Ag E t 1 [(0,.ptr (.own r) 0)]) s ⟨own,ext⟩ k=k (.clip [.fp fc 0]) ⟨own',ext⟩ [.own r] [.own r]:=by
 have h1:∀cells' ro',Ar r own=some (.row cells' ro')→cells'=cells:=fun c r h=>by rw [hl] at h;cases h;rfl
 rw [Ahm hT he hs hz r s own ext (fun c r h=>by rw [h1 c r h];exact hn) (fun c r h=>by rw [h1 c r h];exact ⟨fc,hf⟩),BN,hl];simp only [Option.bind_some,EP,Ano,hf,B6,ho]
def Bq (r:Option (IV×Hp)) (w:FV) (ext:List Blk):Prop:=∃v own,r=some (v,⟨own,ext⟩) ∧
 ∃u lg,∀(e:Option (IV×Hp)) (K:FV→List (Ref×Blk)→List Ref→Option (IV×Hp)),FK 12 v ⟨own,ext⟩ [] e K=K w u lg
theorem AJ (w:FV) (own:List (Nat×Blk)) (ext:List Blk):Bq (some (.fv w,⟨own,ext⟩)) w ext:=⟨_,own,rfl,[],[],fun _ _=>rfl⟩
theorem EW {v:IV} {w:FV} (hz:A6 v=some w) (own:List (Nat×Blk)) (ext:List Blk):Bq (some (v,⟨own,ext⟩)) w ext:=⟨_,own,rfl,[],[],fun e K=>O2 _ _ e K hz⟩
theorem K7:∀l:List FV,Cy (l.map .fv) []=[]
 | []=>rfl
 | v::l=>by
  show TY (.fv v) (Cy (l.map .fv) [])=[]
  rw [K7 l];rfl
theorem ApK (n j:Nat) (t:List Ref) (s:Nat) (rest:List Blk):Ox (n+1) (.ext j::t) s rest=cond (Nat.ble (Nat.succ j) s) (Ox n t s rest) (cond (Nat.beq j s) (goR (Ox n) t s rest) false):=rfl
theorem AoK (n s:Nat):Ox (n+1) [] s []=true:=rfl
set_option maxRecDepth 20000 in
theorem ZC (st:List FV):Ox 400 [.ext 0] 0 [.row (st.map .fv) false]=true:=by
 rw [show (400:Nat)=398+1+1 from rfl,ApK]
 show goR (Ox (398+1)) [] 0 [.row (st.map .fv) false]=true
 show Ox (398+1) ([]++EY (.row (st.map .fv) false)) 1 []=true
 rw [show EY (.row (st.map .fv) false)=Cy (st.map .fv) [] from rfl,K7]
 exact AoK 398 1
theorem AaG (st:List FV):okB 1 [.row (st.map .fv) false]=true:=by
 show cond (okR 1 (EY (.row (st.map .fv) false))) true false=true
 rw [show EY (.row (st.map .fv) false)=Cy (st.map .fv) [] from rfl,K7]
 rfl
theorem gb3 (a b c:FV):Ox 400 [.ext 0] 0 [.row [.fv a,.fv b,.fv c] false]=true:=ZC [a,b,c]
theorem ob3 (a b c:FV):okB 1 [.row [.fv a,.fv b,.fv c] false]=true:=AaG [a,b,c]
theorem gb2 (a b:FV):Ox 400 [.ext 0] 0 [.row [.fv a,.fv b] false]=true:=ZC [a,b]
theorem ob2 (a b:FV):okB 1 [.row [.fv a,.fv b] false]=true:=AaG [a,b]
theorem Vn {r1:Ref} {rs1:List Ref} {ih:Aa} {f:FuncId} {vs:List IV} {w:FV} {ext ext':List Blk} (hr:Bq (ih f vs ⟨[],ext⟩) w ext') (hg:Ox 400 (r1::rs1) 0 ext=true) (hl:ext'.length=ext.length) (ho:okB ext.length ext'=true)
  (own:List (Nat×Blk)) (r0:Option (IV×Hp)) (u:List (Ref×Blk)) (lg:List Ref) (e:Option (IV×Hp)) (k:IV→Hp→List Ref→List Ref→Option (IV×Hp)) :
  AdF (
     r1::rs1) r0 ⟨own,ext⟩ u lg e (fun rs=>match rs with
   | []=>none
   | r::rs=>(match (⟨own,ext⟩:Hp) with
    | ⟨own,ext⟩=>cond (Ox 400 (r::rs) 0 ext) (match ih f vs ⟨[],ext⟩ with
     | none=>none
     | some p=>match p with
      | (v,h')=>match h' with
       | ⟨own',ext'⟩=>cond (and (Nat.beq ext'.length ext.length) (okB ext.length ext'))
        (FK 12 v ⟨own',ext'⟩ [] e fun w _ _=>NY u ⟨own,ext'⟩ fun h2=>k (.fv w) h2 ((CP ext.length).reverse++lg) (Bs u++CP ext.length)) none)
     e)) k=NY u ⟨own,ext'⟩ fun h2=>k (.fv w) h2 ((CP ext.length).reverse++lg) (Bs u++CP ext.length):=by
 obtain ⟨v,own',e1,u',lg',hz⟩:=hr;simp only [AdF,hg,e1,hl,ho];rw [show (Nat.beq ext.length ext.length && true)=true by rw [Bool.and_true];exact Nat.beq_refl _,cond_true,hz]
 rfl
structure OneX (ext ext':List Blk):Prop where
 g:Ox 400 [.ext 0] 0 ext=true
 l:ext.length=1
 l':ext'.length=1
 o:okB 1 ext'=true
theorem Cj (a b c a' b' c':FV):OneX [.row [.fv a,.fv b,.fv c] false] [.row [.fv a',.fv b',.fv c'] false]:=⟨gb3 ..,rfl,rfl,ob3 ..⟩
theorem Apw (a b a' b':FV):OneX [.row [.fv a,.fv b] false] [.row [.fv a',.fv b'] false]:=⟨gb2 ..,rfl,rfl,ob2 ..⟩
theorem UT (x:Nat):∀(args:List IV) {vs:List FV} (h:Hp) (lg:List Ref) (e:Option β) (k:List IV→List Ref→List (Ref×Blk)→List Ref→Option β) (ks:List Bool),(∀b∈ks,b=false)→BO args=some vs →
  Xh args ks h lg e k=k (vs.map .fv) [] [] lg
 | [],vs,h,lg,e,k,ks,_,hz=>by cases hz;rfl
 | v::l,vs,h,lg,e,k,[],_,hz=>AeF (v::l) h lg e k hz
 | v::l,vs,h,lg,e,k,b::ks,hk,hz=>by
  have hb:=hk b List.mem_cons_self;subst hb;simp only [BO] at hz;cases h1:A6 v with
  | none=>rw [h1] at hz;cases hz
  | some x' =>
   rw [h1] at hz;cases h2:BO l with
   | none=>rw [h2] at hz;cases hz
   | some ys =>
    rw [h2] at hz;cases hz;rw [Vx,O2 h lg e _ h1,UT x l h lg e _ ks (fun c hc=>hk c (List.mem_cons_of_mem _ hc)) h2];rfl
theorem AfV {ks:List Bool} (hks:∀b∈ks,b=false) {ih:Aa} {f:FuncId} {args:List IV} {vs:List FV} {w:FV} {ext ext':List Blk} (hz:BO args=some vs) (X:OneX ext ext') (hr:Bq (ih f (.ptr (.ext 0) 0::vs.map .fv) ⟨[],ext⟩) w ext')
  (own:List (Nat×Blk)) (k:IV→Hp→List Ref→List Ref→Option (IV×Hp)):Aj (true::ks) false false ih f (.ptr (.ext 0) 0::args) ⟨own,ext⟩ k=k (.fv w) ⟨own,ext'⟩ [.ext 0] [.ext 0]:=by
 rw [OS,Ad1,Wf,UT 0 args _ _ _ _ ks hks hz]
 have:=Vn (r1:=.ext 0) (rs1:=[]) hr X.g (by rw [X.l,X.l']) (by rw [X.l];exact X.o) own (ih f (.ptr (.ext 0) 0::vs.map .fv) ⟨[],[]⟩) [] [] (Gu (true::ks) false false ih f (.ptr (.ext 0) 0::args) ⟨own,ext⟩ k) k
 refine this.trans ?_;rw [X.l];rfl
theorem Dq {ih:Aa} {f:FuncId} {w:FV} {ext ext':List Blk} (hr:Bq (ih f [.ptr (.ext 0) 0] ⟨[],ext⟩) w ext') (X:OneX ext ext') (own:List (Nat×Blk)) (k:IV→Hp→List Ref→List Ref→Option (IV×Hp)) :
  Aj [true] false false ih f [.ptr (.ext 0) 0] ⟨own,ext⟩ k=k (.fv w) ⟨own,ext'⟩ [.ext 0] [.ext 0]:=AfV (ks:=[]) (by simp) (vs:=[]) rfl X hr own k
theorem Jr {ih:Aa} {f:FuncId} {a b:IV} {x y w:FV} {ext ext':List Blk} (hr:Bq (ih f [.ptr (.ext 0) 0,.fv x,.fv y] ⟨[],ext⟩) w ext') (X:OneX ext ext') (ha:A6 a=some x) (hb:A6 b=some y) (own:List (Nat×Blk))
  (k:IV→Hp→List Ref→List Ref→Option (IV×Hp)):Aj [true,false,false] false false ih f [.ptr (.ext 0) 0,a,b] ⟨own,ext⟩ k=k (.fv w) ⟨own,ext'⟩ [.ext 0] [.ext 0]:=AfV (ks:=[false,false]) (by simp) (U7 ha hb) X hr own k
theorem Ae7 {ih:Aa} {f:FuncId} {a b c:IV} {x y z w:FV} {ext ext':List Blk} (hr:Bq (ih f [.ptr (.ext 0) 0,.fv x,.fv y,.fv z] ⟨[],ext⟩) w ext') (X:OneX ext ext') (ha:A6 a=some x) (hb:A6 b=some y) (hc:A6 c=some z)
  (own:List (Nat×Blk)) (k:IV→Hp→List Ref→List Ref→Option (IV×Hp)):Aj [true,false,false,false] false false ih f [.ptr (.ext 0) 0,a,b,c] ⟨own,ext⟩ k=k (.fv w) ⟨own,ext'⟩ [.ext 0] [.ext 0] :=
 AfV (ks:=[false,false,false]) (by simp) (Ada ha hb hc) X hr own k
theorem QV {ih:Aa} {f:FuncId} {s:Nat} {own:List (Nat×Blk)} {cells:List IV} {ro:Bool} {fc:List FV} {w:FV} {ext ext':List Blk} (hr:Bq (ih f [.ptr (.ext 0) 0,.fv (.fp fc 0)] ⟨[],ext⟩) w ext') (X:OneX ext ext')
  (hl:Ar s own=some (.row cells ro)) (hz:C6 cells=some fc) (hn:cells.length≤300) (k:IV→Hp→List Ref→List Ref→Option (IV×Hp)) :
  Aj [true,false] false false ih f [.ptr (.ext 0) 0,.ptr (.own s) 0] ⟨own,ext⟩ k=k (.fv w) ⟨AS s (.row cells true) own,ext'⟩ [.ext 0,.own s] [.own s,.ext 0]:=by
 rw [OS,Ad1,Wf,Vx,WD,Nc,BN,hl];simp only [Option.bind_some,Lu];rw [Bi,decide_eq_true hn,c_t,Acv 10 _ _ _ cells _ hz,fz0]
 have:=Vn (r1:=.ext 0) (rs1:=[]) hr X.g (by rw [X.l,X.l']) (by rw [X.l];exact X.o) own (ih f [.ptr (.ext 0) 0,.fv (.fp fc 0)] ⟨[],[]⟩) [(.own s,.row cells true)] [.own s] (Gu [true,false] false false ih f [.ptr (.ext 0) 0,.ptr (.own s) 0] ⟨own,ext⟩ k) k
 refine this.trans ?_;rw [X.l]
 show (GC own s fun _=>A2 own s (.row cells true) fun own=>k (.fv w) ⟨own,ext'⟩ [.ext 0,.own s] [.own s,.ext 0])=_
 rw [BN,hl,Option.bind_some,B6]
end
end Idl
end Go.Proofs.Ytbkdidonegggdaa
namespace Go.Proofs.Ytbkdidonegggdaa
namespace Idl
inductive RV where
 | mk (op n:Int) (k env:List RV) (b:Tm)
def Tm.z:Tm:=.mk 0 0 []
def RV.enc:RV→FV
 | .mk op n k env (.mk bo bn bk)=>.fp [.int .i64 op,.int .i64 n,.sl (encL k),.sl (encL env),.int .i64 bo,.int .i64 bn,.sl (bk.map Tm.enc)] 0
where
 encL:List RV→List FV
  | []=>[]
  | v::l=>v.enc::encL l
theorem Aew (l:List RV):RV.enc.encL l=l.map RV.enc:=by
 induction l with
 | nil=>rfl
 | cons t l ih=>simp [RV.enc.encL,ih]
theorem Ip (op n:Int) (k env:List RV) (bo bn:Int) (bk:List Tm):(RV.mk op n k env (.mk bo bn bk)).enc =
  .fp [.int .i64 op,.int .i64 n,.sl (k.map RV.enc),.sl (env.map RV.enc),.int .i64 bo,.int .i64 bn,.sl (bk.map Tm.enc)] 0:=by simp only [RV.enc,Aew]
def RV.op:RV→Int
 | .mk op _ _ _ _=>op
def RV.n:RV→Int
 | .mk _ n _ _ _=>n
def RV.k:RV→List RV
 | .mk _ _ k _ _=>k
def RV.env:RV→List RV
 | .mk _ _ _ env _=>env
def RV.b:RV→Tm
 | .mk _ _ _ _ b=>b
def RV.var (n:Int):RV:=.mk 1 n [] [] .z
def RV.clo (env:List RV) (b:Tm):RV:=.mk 0 0 [] env b
def RV.zero:RV:=.mk 11 0 [] [] .z
def RV.node (op n:Int) (k:List RV):RV:=.mk op n k [] .z
theorem L7 (v:RV):v.enc=.fp [.int .i64 v.op,.int .i64 v.n,.sl (v.k.map RV.enc),.sl (v.env.map RV.enc),.int .i64 v.b.op,.int .i64 v.b.n,.sl (v.b.kids.map Tm.enc)] 0:=by
 obtain ⟨op,n,k,env,⟨bo,bn,bk⟩⟩:=v;exact Ip ..
theorem Vf (t:Tm):Tm.enc t=.agg [.int .i64 t.op,.int .i64 t.n,.sl (t.kids.map Tm.enc)]:=by cases t;exact An ..
theorem M2 (v:RV):v.enc.cells.length=1:=by obtain ⟨op,n,k,env,⟨bo,bn,bk⟩⟩:=v;rfl
theorem Tz (v:RV):v.enc.cells.all FV.one=true:=by obtain ⟨op,n,k,env,⟨bo,bn,bk⟩⟩:=v;rfl
theorem AcY (v:RV):v.enc.cells=[v.enc]:=by obtain ⟨op,n,k,env,⟨bo,bn,bk⟩⟩:=v;rfl
theorem tVs:EE.T 93=some ⟨1,24,.slice 72,[.nils]⟩:=by kernel_rfl
theorem tVp:EE.T 72=some ⟨1,8,.ptr,[.fv .nilp]⟩:=by kernel_rfl
theorem sV:SliceT EE 93 1:=⟨_,_,_,_,_,tVs,tVp,rfl,by decide,by decide⟩
theorem Jj (l:List RV):By 1 (l.map RV.enc)=true:=by
 cases l with
 | nil=>rfl
 | cons a l=>simp only [Ath,By,M2,beq_self_eq_true]
theorem Aj5 (s:Nat) (h:Hp) (k:IV→Hp→List Ref→List Ref→Option (IV×Hp)):Aw (Ag EE 93 0 []) s h k=k (.clip []) h [] [] :=
 Cu tVs tVp (by decide) (cells:=[]) rfl k
theorem Uj (a:RV) (s:Nat) (h:Hp) (k:IV→Hp→List Ref→List Ref→Option (IV×Hp)):Aw (Ag EE 93 1 [(0,.fv a.enc)]) s h k=k (.clip [a.enc]) h [] []:=by
 obtain ⟨op,n,kk,env,⟨bo,bn,bk⟩⟩:=a;rw [Ip];exact Cu tVs tVp (by decide) (cells:=[.fp [.int .i64 op,.int .i64 n,.sl (kk.map RV.enc),.sl (env.map RV.enc),.int .i64 bo,.int .i64 bn,.sl (bk.map Tm.enc)] 0]) rfl k
theorem Apt (a b:RV) (s:Nat) (h:Hp) (k:IV→Hp→List Ref→List Ref→Option (IV×Hp)):Aw (Ag EE 93 2 [(0,.fv a.enc),(1,.fv b.enc)]) s h k=k (.clip [a.enc,b.enc]) h [] []:=by
 obtain ⟨op,n,kk,env,⟨bo,bn,bk⟩⟩:=a;obtain ⟨op',n',kk',env',⟨bo',bn',bk'⟩⟩:=b;rw [Ip,Ip];exact Cu tVs tVp (by decide) (cells:=[.fp [.int .i64 op,.int .i64 n,.sl (kk.map RV.enc),.sl (env.map RV.enc),.int .i64 bo,.int .i64 bn,.sl (bk.map Tm.enc)] 0,.fp [.int .i64 op',.int .i64 n',.sl (kk'.map RV.enc),.sl (env'.map RV.enc),.int .i64 bo',.int .i64 bn',.sl (bk'.map Tm.enc)] 0]) rfl k
theorem An9 (a b c d:RV) (s:Nat) (h:Hp) (k:IV→Hp→List Ref→List Ref→Option (IV×Hp)):Aw (Ag EE 93 4 [(0,.fv a.enc),(1,.fv b.enc),(2,.fv c.enc),(3,.fv d.enc)]) s h k =
  k (.clip [a.enc,b.enc,c.enc,d.enc]) h [] []:=by
 have key:∀x:RV,∃l,x.enc=.fp l 0:=fun x=>⟨_,L7 x⟩;obtain ⟨la,ha⟩:=key a;obtain ⟨lb,hb⟩:=key b;obtain ⟨lc,hc⟩:=key c;obtain ⟨ld,hd⟩:=key d;rw [ha,hb,hc,hd];exact Cu tVs tVp (by decide) (cells:=[.fp la 0,.fp lb 0,.fp lc 0,.fp ld 0]) rfl k
theorem AfP (e:RV) (s:Nat) (own:List (Nat×Blk)) (ext:List Blk) (k:IV→Hp→List Ref→List Ref→Option (IV×Hp)) :
  Aw (AT EE s false .append [93,93] [.nils,.clip [e.enc]]) s ⟨own,ext⟩ k=CO own s (A2 own s (.tok 1 1) fun own=>k (.app (.own s) [e.enc]) ⟨own,ext⟩ [] [.own s]) :=
 LL sV (.clip _) (Jj [e]) rfl (by simp) (.inl rfl) s own ext k
theorem Vo {es:List RV} (hb:es.length+1≤1000000) (e:RV) (r s:Nat) (own:List (Nat×Blk)) (ext:List Blk) (k:IV→Hp→List Ref→List Ref→Option (IV×Hp)) :
  Aw (AT EE s false .append [93,93] [.app (.own r) (es.map RV.enc),.clip [e.enc]]) s ⟨own,ext⟩ k =
   GC own r fun b=>AgT b es.length 1 (A2 own r (.tok (es.length+1) 1) fun own=>k (.app (.own r) ((es++[e]).map RV.enc)) ⟨own,ext⟩ [.own r] [.own r]):=by
 rw [Ua sV (.clip [e.enc]) (Jj [e]) (Jj es) (by simp [Tz]) (by simpa using hb) r s own ext k];simp only [List.length_map,List.map_append,Ath,Atg,Atf,List.length_nil,Nat.zero_add]
theorem R6 {n:Nat} (hn:0<n) (env vs:List RV) (hv:vs≠[]) (hb:env.length+vs.length≤1000000):Bk (SS dt n 69 [.fv (.sl (env.map RV.enc)),.fv (.sl (vs.map RV.enc))] ⟨[],[]⟩) (.sl ((env++vs).map RV.enc)):=by
 obtain ⟨n,rfl⟩:∃k,n=k+1:=⟨n - 1,by omega⟩;rw [c69];have hvs:(vs.map RV.enc).isEmpty=false:=by cases vs with
  | nil=>exact absurd rfl hv
  | cons _ _=>rfl
 cases env with
 | nil =>
  simp only [S69,↓XX,XY,↓reduceIte,Nat.reduceBEq,Nat.reduceAdd,Int.reduceEq,Int.reduceLT,Int.reduceLE,↓Aj5,↓AjN sV (.sl []) (.inr rfl),↓LL sV (.sl (vs.map RV.enc)) (Jj vs) hvs (by simp;simp at hb;omega) (.inr rfl),List.nil_append];exact A8 rfl _
 | cons a env =>
  simp only [S69,↓XX,XY,↓reduceIte,Nat.reduceBEq,Nat.reduceAdd,Int.reduceEq,Int.reduceLT,Int.reduceLE,↓Aj5];have h1:((a::env).map RV.enc).isEmpty=false:=rfl;have h0:=fun {β:Type}=>LL (β:=β) sV (.sl ((a::env).map RV.enc)) (Jj (a::env)) h1 (by simp only [List.length_map];omega) (.inr rfl:IV.clip []=.nils∨IV.clip []=.clip []);have h2:=fun {β:Type}=>Ua (β:=β) sV (.sl (vs.map RV.enc)) (Jj vs) (Jj (a::env)) (by simp [Tz]) (by simp only [List.length_map];omega);simp only [Ath] at h0 h2;simp only [↓XX,XY,↓reduceIte,Nat.reduceBEq,Nat.reduceAdd,Int.reduceEq,Int.reduceLT,Int.reduceLE,↓h0,↓h2,↓HU,List.map_append,List.cons_append];exact A8 rfl _
theorem AfX {n:Nat} (hn:0<n) (s nd:Int) (h1:s≤1000000) (h0:0≤s):Bq (SS dt n 86 [.ptr (.ext 0) 0] ⟨[],[.row [iv s,iv nd,iv 0] false]⟩) (.bool (decide (s+1≤1000)))
  [.row [iv (s+1),iv nd,iv (if s+1≤1000 then 0 else 17)] false]:=by
 obtain ⟨n,rfl⟩:∃k,n=k+1:=⟨n - 1,by omega⟩;rw [c86];have hw:B0 (s+1)=s+1:=by rw [Ay]<;>omega
 by_cases h:s+1≤1000
 ·have h':¬ 1000<s+1:=by omega
  simp only [Wo,VL,Vl,VM,S86,↓XX,XY,↓reduceIte,Nat.reduceBEq,Nat.reduceAdd,Int.reduceEq,Int.reduceLT,Int.reduceLE,hw,h,h'];exact AJ _ _ _
 ·have h':1000<s+1:=by omega
  simp only [Wo,VL,Vl,VM,S86,↓XX,XY,↓reduceIte,Nat.reduceBEq,Nat.reduceAdd,Int.reduceEq,Int.reduceLT,Int.reduceLE,hw,h,h'];exact AJ _ _ _
def AU (ev:Int→Int→Tm→Option (RV×Int×Int)) (op:Int) (env:List RV):Nat→List Tm→Int→Int→Option (List RV×Int×Int)
 | _,[],s,e=>some ([],s,e)
 | i,t::l,s,e=>if 0<Af op i then (AU ev op env (i+1) l s e).map fun (vs,s,e)=>(.clo env t::vs,s,e) else
  match ev s e t with
  | none=>none
  | some (v,s,e)=>(AU ev op env (i+1) l s e).map fun (vs,s,e)=>(v::vs,s,e)
mutual
def AE:Nat→Int→Int→Tm→List RV→Option (RV×Int×Int)
 | 0,_,_,_,_=>none
 | f+1,s,e,.mk op m ks,env =>
  if e≠0 then some (.zero,s,e) else if 900000<env.length then none else
  if op=1 then
   if m<env.length then (if 0≤m then (env[(env.length - 1 - m).toNat]?).map fun v=>(v,s,e) else none)
   else if m≤4611686018427387904 then some (.var (env.length - 1 - m),s,e) else none
  else if f≤ks.length then none else if 900000<ks.length then none else
  match AU (fun s e t=>AE f s e t env) op env 0 ks s e with
  | none=>none
  | some (vs,s,e)=>headR f s e (.node op m vs)
def headR:Nat→Int→Int→RV→Option (RV×Int×Int)
 | 0,_,_,_=>none
 | f+1,s,e,v =>
  if e≠0 then some (v,s,e) else if s<0∨1000000<s then none else
  if v.op=5 then (match v.k[0]? with
   | none=>none
   | some k0=>if k0.op=4 then
     (if s+1≤1000 then (match k0.k[1]?,v.k[1]? with
      | some c,some x=>if 900000<c.env.length then none else AE f (s+1) 0 c.b (c.env++[x])
      | _,_=>none) else some (v,s+1,17))
    else some (v,s,e))
  else if v.op=8∨v.op=9 then (match v.k[0]? with
   | none=>none
   | some k0=>if k0.op=7 then
     (if s+1≤1000 then (k0.k[(1+v.op - 8).toNat]?).map fun x=>(x,s+1,0) else some (v,s+1,17))
    else some (v,s,e))
  else if v.op=30 then (match v.k[0]? with
   | none=>none
   | some k0=>if k0.op=19 then
     (if s+1≤1000 then (k0.k[0]?).map fun x=>(x,s+1,0) else some (v,s+1,17))
    else some (v,s,e))
  else if v.op=19 then (match v.k[0]? with
   | none=>none
   | some k0=>if k0.op=30 then
     (if s+1≤1000 then (k0.k[0]?).map fun x=>(x,s+1,0) else some (v,s+1,17))
    else some (v,s,e))
  else if v.op=13 then (match v.k[0]?,v.k[1]?,v.k[2]?,v.k[3]? with
   | some k0,some k1,some k2,some k3 =>
    if k3.op=11 then (if s+1≤1000 then some (k1,s+1,0) else some (v,s+1,17))
    else if k3.op=12 then
     (if s+1≤1000 then (match k3.k[0]? with
      | none=>none
      | some x=>(match headR f (s+1) 0 (.node 13 0 [k0,k1,k2,x]) with
       | none=>none
       | some (h,s,e)=>if 900000<k2.env.length then none else AE f s e k2.b (k2.env++[x,h])))
     else some (v,s+1,17))
    else some (v,s,e)
   | _,_,_,_=>none)
  else some (v,s,e)
end
theorem Wz {β:Type} {l:List RV} {i:Nat} {v:RV} (h:l[i]?=some v) (k:IV→Option β):Bc 1 (.fv (.sl (l.map RV.enc))) (iv i) k=k (.fv (.fp [v.enc] 0)):=by
 have h1:(l.map RV.enc)[i]?=some v.enc:=by rw [List.getElem?_map,h];rfl
 rw [BE h1 (M2 v),AcY]
def Tj (f:Nat):Prop:=∀(s e:Int) (t:Tm) (env:List RV) (v:RV) (s' e' nd:Int),AE f s e t env=some (v,s',e')→∀n,f+1≤n →
 Bq (SS dt n 49 [.ptr (.ext 0) 0,.fv t.enc,.fv (.sl (env.map RV.enc))] ⟨[],[.row [iv s,iv nd,iv e] false]⟩) v.enc [.row [iv s',iv nd,iv e'] false]
def R8 (f:Nat):Prop:=∀(s e:Int) (v w:RV) (s' e' nd:Int),headR f s e v=some (w,s',e')→∀n,f+1≤n →
 Bq (SS dt n 70 [.ptr (.ext 0) 0,.fv v.enc] ⟨[],[.row [iv s,iv nd,iv e] false]⟩) w.enc [.row [iv s',iv nd,iv e'] false]
abbrev ZN (op m:Int) (ks:List Tm) (K:IV) (tok:List (Nat×Blk)) (s nd e:Int):Hp :=
 ⟨(51380224,.row [iv op,iv m,.fv (.sl (ks.map Tm.enc))] false)::(51387397,.row [iv op,iv m,K,.nils,iv 0,iv 0,.nils] false)::tok,[.row [iv s,iv nd,iv e] false]⟩
theorem Aoz {op m:Int} (l:List RV):(RV.node op m l).enc=.fp [.int .i64 op,.int .i64 m,.sl (l.map RV.enc),.sl [],.int .i64 0,.int .i64 0,.sl []] 0:=by rw [RV.node,Tm.z,Ip];rfl
theorem AdP {f:Nat} (he:Tj f) (hh:R8 f):Tj (f+1):=by
 intro s e t env v s' e' nd hev n hn;obtain ⟨n,rfl⟩:∃k,n=k+1:=⟨n - 1,by omega⟩;rw [c49];obtain ⟨op,m,ks⟩:=t;rw [An];rw [AE] at hev;by_cases h0:e≠0
 ·rw [if_pos h0] at hev;simp only [Atb,Atc] at hev;obtain ⟨rfl,rfl,rfl⟩:=hev;simp only [Ih,H9,IW,H5,Il,IF,Is,IA,IZ,Ig,IG,IT,IY,Iz,II,H1,I0,Ir,If,Ix,Ie,IU,S49,↓XX,XY,↓reduceIte,Nat.reduceBEq,Nat.reduceAdd,Int.reduceEq,Int.reduceLT,Int.reduceLE,h0];exact ⟨_,_,rfl,_,_,fun _ _=>rfl⟩
 ·have h0':e=0:=by omega
  subst h0';rw [if_neg h0] at hev;by_cases hlen:900000<env.length
  ·rw [if_pos hlen] at hev;cases hev
  ·rw [if_neg hlen] at hev;by_cases h1:op=1
   ·rw [if_pos h1] at hev;subst h1;by_cases h2:m<env.length
    ·rw [if_pos h2] at hev;by_cases h3:0≤m
     ·rw [if_pos h3] at hev;cases hg:env[(env.length - 1 - m).toNat]? with
      | none=>rw [hg] at hev;cases hev
      | some u =>
       rw [hg] at hev;simp only [Ate,Atb,Atc] at hev;obtain ⟨rfl,rfl,rfl⟩:=hev;have e1:B0 ((env.length:Int) - 1)=env.length - 1:=by rw [Ay]<;>omega
       have e2:B0 ((env.length:Int) - 1 - m)=(((env.length:Int) - 1 - m).toNat:Int):=by rw [Ay]<;>omega
       simp only [Ih,H9,IW,H5,Il,IF,Is,IA,IZ,Ig,IG,IT,IY,Iz,II,H1,I0,Ir,If,Ix,Ie,IU,S49,↓XX,XY,↓reduceIte,Nat.reduceBEq,Nat.reduceAdd,Int.reduceEq,Int.reduceLT,Int.reduceLE,h2,e1,e2,↓Wz hg];exact AJ _ _ _
     ·rw [if_neg h3] at hev;cases hev
    ·rw [if_neg h2] at hev;by_cases h3:m≤4611686018427387904
     ·rw [if_pos h3] at hev;simp only [Atb,Atc] at hev;obtain ⟨rfl,rfl,rfl⟩:=hev;have e1:B0 ((env.length:Int) - 1)=env.length - 1:=by rw [Ay]<;>omega
      have e2:B0 ((env.length:Int) - 1 - m)=(env.length:Int) - 1 - m:=by rw [Ay]<;>omega
      simp only [Ih,H9,IW,H5,Il,IF,Is,IA,IZ,Ig,IG,IT,IY,Iz,II,H1,I0,Ir,If,Ix,Ie,IU,S49,↓XX,XY,↓reduceIte,Nat.reduceBEq,Nat.reduceAdd,Int.reduceEq,Int.reduceLT,Int.reduceLE,h2,e1,e2];exact ⟨_,_,rfl,_,_,fun _ _=>rfl⟩
     ·rw [if_neg h3] at hev;cases hev
   ·rw [if_neg h1] at hev;by_cases hf:f≤ks.length
    ·rw [if_pos hf] at hev;cases hev
    ·rw [if_neg hf] at hev;by_cases hk9:900000<ks.length
     ·rw [if_pos hk9] at hev;cases hev
     ·rw [if_neg hk9] at hev;cases hkg:AU (fun s e t=>AE f s e t env) op env 0 ks s 0 with
      | none=>rw [hkg] at hev;cases hev
      | some q =>
      obtain ⟨vs,s1,e1⟩:=q;rw [hkg] at hev;simp only at hev;simp only [Ih,H9,IW,H5,Il,IF,Is,IA,IZ,Ig,IG,IT,IY,Iz,II,H1,I0,Ir,If,Ix,Ie,IU,S49,↓XX,XY,↓reduceIte,Nat.reduceBEq,Nat.reduceAdd,Int.reduceEq,Int.reduceLT,Int.reduceLE,h1,↓Av,XD,heldB,AB,XE];refine Bf (Q:=fun r=>Bq r _ _) (fun k V H=>∃pre rest done s2 e2 us s3 e3,ks=pre++rest∧rest.length=k∧done.length=pre.length∧V=[.ptr (.ext 0) 0,.fv (.sl (env.map RV.enc)),.ptr (.own 51380224) 0,.ptr (.own 51387397) 0,iv pre.length] ∧
       (
        (pre=[]∧H=ZN op m ks .nils [] s2 nd e2) ∨
        (∃r,(r=51392526∨r=51393550)∧pre≠[]∧H=ZN op m ks (.app (.own r) (done.map RV.enc)) [(r,.tok done.length 1)] s2 nd e2)) ∧
       AU (fun s e t=>AE f s e t env) op env pre.length rest s2 e2=some (us,s3,e3)∧headR f s3 e3 (.node op m (done++us))=some (v,s',e'))
       ?_ n ks.length _ _ (by omega) ⟨[],ks,[],s,0,vs,s1,e1,rfl,rfl,rfl,rfl,.inl ⟨rfl,rfl⟩,hkg,hev⟩
      rintro k V H rec ⟨pre,rest,done,s2,e2,us,s3,e3,hk,hl,hdl,rfl,hH,hkids,hhead⟩ hrec;have hkl:ks.length=pre.length+rest.length:=by rw [hk];simp
      have zenc:∀l:List RV,(RV.node op m l).enc=.fp [.int .i64 op,.int .i64 m,.sl (l.map RV.enc),.sl [],.int .i64 0,.int .i64 0,.sl []] 0:=fun l=>Aoz l;cases rest with
      | nil =>
       simp only [AU,Atb,Atc] at hkids;obtain ⟨rfl,rfl,rfl⟩:=hkids;rw [List.append_nil] at hhead;have hc:=hh s2 e2 _ v s' e' nd hhead n (by omega);rw [zenc] at hc;have hpre:ks=pre:=by simpa using hk
       subst hpre;rcases hH with ⟨rfl,rfl⟩ | ⟨r,hr,hne,rfl⟩
       ·have hd:done=[]:=List.length_eq_zero_iff.1 hdl;subst hd;have hcall:=fun k=>QV (k:=k) (own:=[(51380224,.row [iv op,iv m,.fv (.sl (([]:List Tm).map Tm.enc))] false),(51387397,.row [iv op,iv m,.nils,.nils,iv 0,iv 0,.nils] false)])
         (cells:=[iv op,iv m,.nils,.nils,iv 0,iv 0,.nils]) (ro:=false) (s:=51387397) hc (Cj ..) (by simp [Ar]) rfl (by simp)
        simp only [↓TU,↓XX,XY,↓reduceIte,Nat.reduceBEq,Nat.reduceAdd,Int.reduceEq,Int.reduceLT,Int.reduceLE,Int.lt_irrefl,↓hcall];exact AJ _ _ _
       ·have hcall:=fun k=>QV (k:=k) (own:=[(51380224,.row [iv op,iv m,.fv (.sl (ks.map Tm.enc))] false),(51387397,.row [iv op,iv m,.app (.own r) (done.map RV.enc),.nils,iv 0,iv 0,.nils] false),(r,.tok done.length 1)])
         (cells:=[iv op,iv m,.app (.own r) (done.map RV.enc),.nils,iv 0,iv 0,.nils]) (ro:=false) (s:=51387397) hc (Cj ..) (by simp [Ar]) rfl (by simp)
        simp only [↓TU,↓XX,XY,↓reduceIte,Nat.reduceBEq,Nat.reduceAdd,Int.reduceEq,Int.reduceLT,Int.reduceLE,Int.lt_irrefl,↓hcall];exact AJ _ _ _
      | cons t rest =>
       have hi:(pre.length:Int)<ks.length:=by rw [hkl];simp;omega
       have hg:=C2 hk;have hb:=Fy (n:=n) (by omega) op pre.length;have hwi:B0 ((pre.length:Int)+1)=((pre++[t]).length:Int):=(Ay (by omega) (by omega)).trans (by simp);have hbi:(0<(Af op pre.length:Int)) ↔ 0<Af op pre.length:=by omega
       have hd9:done.length+1≤1000000:=by omega
       simp only [AU] at hkids;simp only [Atf] at hl;by_cases hbp:0<Af op pre.length
       ·rw [if_pos hbp] at hkids;cases hkk:AU (fun s e t=>AE f s e t env) op env (pre.length+1) rest s2 e2 with
        | none=>rw [hkk] at hkids;cases hkids
        | some q =>
        obtain ⟨us',s4,e4⟩:=q;rw [hkk] at hkids;simp only [Ate,Atb,Atc] at hkids;obtain ⟨rfl,rfl,rfl⟩:=hkids;have hbp':0<(Af op pre.length:Int):=by omega
        have hce:(RV.clo env t).enc=.fp [.int .i64 0,.int .i64 0,.sl [],.sl (env.map RV.enc),.int .i64 t.op,.int .i64 t.n,.sl (t.kids.map Tm.enc)] 0:=by rw [L7];rfl
        have hnext:∀tk,(tk=51392526∨tk=51393550)→Bq (rec [.ptr (.ext 0) 0,.fv (.sl (env.map RV.enc)),.ptr (.own 51380224) 0,.ptr (.own 51387397) 0,iv (pre++[t]).length]
          (ZN op m ks (.app (.own tk) ((done++[RV.clo env t]).map RV.enc)) [(tk,.tok (done++[RV.clo env t]).length 1)] s2 nd e2)) v.enc [.row [iv s',iv nd,iv e'] false]:=fun tk htk =>
         hrec rest.length _ _ (by omega) ⟨pre++[t],rest,done++[.clo env t],s2,e2,us',s4,e4,by rw [hk];simp,rfl,by simp [hdl],rfl,.inr ⟨tk,htk,by simp,rfl⟩,by simpa using hkk,by simpa using hhead⟩
        obtain ⟨o,p,l⟩:=t;simp only [Tm.op,Tm.n,Tm.kids] at hce;have ha0:=fun {s own ext k}=>AfP (RV.clo env (.mk o p l)) s own ext k;have ha1:=fun {r s own ext k}=>Vo hd9 (RV.clo env (.mk o p l)) r s own ext k;rw [hce] at ha0 ha1;have hbs:=fun (tl:List (Nat×Blk)) (K:IV) (own:List (Nat×Blk)) (hown:own=(51380224,.row [iv op,iv m,.fv (.sl (ks.map Tm.enc))] false)::(51387397,.row [iv op,iv m,K,.nils,iv 0,iv 0,.nils] false)::tl) (hl:Ar 51392524 own=some (.row [iv 0,iv 0,.nils,.fv (.sl (env.map RV.enc)),iv o,iv p,.fv (.sl (l.map Tm.enc))] false)) (own':List (Nat×Blk)) (ho) s ext (k:IV→Hp→List Ref→List Ref→Option (IV×Hp)) =>
         Apz (E:=EE) (own:=own) (own':=own') tVs tVp rfl ⟨_,rfl⟩ hl (fc:=[.int .i64 0,.int .i64 0,.sl [],.sl (env.map RV.enc),.int .i64 o,.int .i64 p,.sl (l.map Tm.enc)]) rfl (by simp) ho s ext k
        rcases hH with ⟨hp0,rfl⟩ | ⟨r,hr,hne,rfl⟩
        ·have hd0:done=[]:=List.length_eq_zero_iff.1 (by rw [hdl,hp0];rfl);subst hd0;have h9:=hnext _ (.inl rfl);simp only [List.nil_append,Ath,Atg,Atf,List.length_nil] at h9;rw [hce] at h9;have hb0:=fun s ext k=>hbs [(51392524,.row [iv 0,iv 0,.nils,.fv (.sl (env.map RV.enc)),iv o,iv p,.fv (.sl (l.map Tm.enc))] false)] .nils _ rfl (by simp [Ar])
          [(51380224,.row [iv op,iv m,.fv (.sl (ks.map Tm.enc))] false),(51387397,.row [iv op,iv m,.nils,.nils,iv 0,iv 0,.nils] false),(51392524,.row [iv 0,iv 0,.nils,.fv (.sl (env.map RV.enc)),iv o,iv p,.fv (.sl (l.map Tm.enc))] true)] (by simp [AS]) s ext k
         simp only [↓TU,↓XX,XY,↓reduceIte,Nat.reduceBEq,Nat.reduceAdd,Int.reduceEq,Int.reduceLT,Int.reduceLE,hi,↓BE (AQ hg) (Bo _ _ _),↓Cr,↓Ad hb,hbp',hwi,↓hb0,↓ha0,↓Av,XD,heldB,AB,XE];exact h9
        ·have h9:=hnext r hr;rw [show (done++[RV.clo env (Tm.mk o p l)]).length=done.length+1 by simp] at h9
         simp only [List.map_append,Ath,Atg] at h9;rw [hce] at h9;simp only [List.map_append,Ath,Atg] at ha1;rw [hce] at ha1;have hb0:=fun s ext k=>hbs [(r,.tok done.length 1),(51392524,.row [iv 0,iv 0,.nils,.fv (.sl (env.map RV.enc)),iv o,iv p,.fv (.sl (l.map Tm.enc))] false)] (.app (.own r) (done.map RV.enc)) _ rfl (by rcases hr with rfl | rfl<;>simp [Ar])
          [(51380224,.row [iv op,iv m,.fv (.sl (ks.map Tm.enc))] false),(51387397,.row [iv op,iv m,.app (.own r) (done.map RV.enc),.nils,iv 0,iv 0,.nils] false),(r,.tok done.length 1),(51392524,.row [iv 0,iv 0,.nils,.fv (.sl (env.map RV.enc)),iv o,iv p,.fv (.sl (l.map Tm.enc))] true)]
          (by rcases hr with rfl | rfl<;>simp [AS]) s ext k
         rcases hr with rfl | rfl
         ·simp only [↓TU,↓XX,XY,↓reduceIte,Nat.reduceBEq,Nat.reduceAdd,Int.reduceEq,Int.reduceLT,Int.reduceLE,hi,↓BE (AQ hg) (Bo _ _ _),↓Cr,↓Ad hb,hbp',hwi,↓hb0,↓ha1,↓HU,↓Av,XD,heldB,AB,XE];exact h9
         ·simp only [↓TU,↓XX,XY,↓reduceIte,Nat.reduceBEq,Nat.reduceAdd,Int.reduceEq,Int.reduceLT,Int.reduceLE,hi,↓BE (AQ hg) (Bo _ _ _),↓Cr,↓Ad hb,hbp',hwi,↓hb0,↓ha1,↓HU,↓Av,XD,heldB,AB,XE];exact h9
       ·rw [if_neg hbp] at hkids;have hbp':¬ 0<(Af op pre.length:Int):=by omega
        cases hev1:AE f s2 e2 t env with
        | none=>rw [hev1] at hkids;cases hkids
        | some q =>
        obtain ⟨v1,s4,e4⟩:=q;rw [hev1] at hkids;simp only at hkids;cases hkk:AU (fun s e t=>AE f s e t env) op env (pre.length+1) rest s4 e4 with
        | none=>rw [hkk] at hkids;cases hkids
        | some q =>
        obtain ⟨us',s5,e5⟩:=q;rw [hkk] at hkids;simp only [Ate,Atb,Atc] at hkids;obtain ⟨rfl,rfl,rfl⟩:=hkids;have hc:=he s2 e2 t env v1 s4 e4 nd hev1 n (by omega);have hnext:∀tk,(tk=51392526∨tk=51393550)→Bq (rec [.ptr (.ext 0) 0,.fv (.sl (env.map RV.enc)),.ptr (.own 51380224) 0,.ptr (.own 51387397) 0,iv (pre++[t]).length]
          (ZN op m ks (.app (.own tk) ((done++[v1]).map RV.enc)) [(tk,.tok (done++[v1]).length 1)] s4 nd e4)) v.enc [.row [iv s',iv nd,iv e'] false]:=fun tk htk =>
         hrec rest.length _ _ (by omega) ⟨pre++[t],rest,done++[v1],s4,e4,us',s5,e5,by rw [hk];simp,rfl,by simp [hdl],rfl,.inr ⟨tk,htk,by simp,rfl⟩,by simpa using hkk,by simpa using hhead⟩
        obtain ⟨o,p,l⟩:=t;rw [An] at hc;rcases hH with ⟨hp0,rfl⟩ | ⟨r,hr,hne,rfl⟩
        ·have hd0:done=[]:=List.length_eq_zero_iff.1 (by rw [hdl,hp0];rfl);subst hd0;have h9:=hnext _ (.inr rfl);simp only [List.nil_append,Ath,Atg,Atf,List.length_nil] at h9;simp only [↓TU,↓XX,XY,↓reduceIte,Nat.reduceBEq,Nat.reduceAdd,Int.reduceEq,Int.reduceLT,Int.reduceLE,hi,↓BE (AQ hg) (Bo _ _ _),↓Cr,↓Ad hb,hbp',hwi,↓Jr hc (Cj _ _ _ _ _ _),↓Uj,↓AfP,↓Av,XD,heldB,AB,XE];exact h9
        ·have h9:=hnext r hr;rw [show (done++[v1]).length=done.length+1 by simp] at h9
         rcases hr with rfl | rfl
         ·simp only [↓TU,↓XX,XY,↓reduceIte,Nat.reduceBEq,Nat.reduceAdd,Int.reduceEq,Int.reduceLT,Int.reduceLE,hi,↓BE (AQ hg) (Bo _ _ _),↓Cr,↓Ad hb,hbp',hwi,↓Jr hc (Cj _ _ _ _ _ _),↓Uj,↓Vo hd9,↓HU,↓Av,XD,heldB,AB,XE];exact h9
         ·simp only [↓TU,↓XX,XY,↓reduceIte,Nat.reduceBEq,Nat.reduceAdd,Int.reduceEq,Int.reduceLT,Int.reduceLE,hi,↓BE (AQ hg) (Bo _ _ _),↓Cr,↓Ad hb,hbp',hwi,↓Jr hc (Cj _ _ _ _ _ _),↓Uj,↓Vo hd9,↓HU,↓Av,XD,heldB,AB,XE];exact h9
def RV.cl (v:RV):List FV:=[.int .i64 v.op,.int .i64 v.n,.sl (v.k.map RV.enc),.sl (v.env.map RV.enc),.int .i64 v.b.op,.int .i64 v.b.n,.sl (v.b.kids.map Tm.enc)]
section
variable {β:Type} (v:RV)
theorem Aoo (k:IV→Option β):AG (.fv v.enc) k=k (.fv v.enc):=by rw [L7];rfl
theorem Aqo (o:Nat) (k:IV→Option β):Ae o (.fv v.enc) k=k (.fv (.fp v.cl o)):=by rw [L7,Apk];rfl
theorem nc0 (k:FV→Option β):Do v.cl 0 k=k (.int .i64 v.op):=rfl
theorem nc1 (k:FV→Option β):Do v.cl 1 k=k (.int .i64 v.n):=rfl
theorem nc2 (k:FV→Option β):Do v.cl 2 k=k (.sl (v.k.map RV.enc)):=rfl
theorem nc3 (k:FV→Option β):Do v.cl 3 k=k (.sl (v.env.map RV.enc)):=rfl
theorem dc4 (k:List FV→Option β):Fw v.cl 4 k=k [.int .i64 v.b.op,.int .i64 v.b.n,.sl (v.b.kids.map Tm.enc)]:=rfl
end
theorem G5 {β:Type} {l:List RV} {v:RV} (h:l[0]?=some v) (k:IV→Option β):Bc 1 (.fv (.sl (l.map RV.enc))) (iv 0) k=k (.fv (.fp [v.enc] 0)):=Wz (i:=0) h k
theorem AfA {β:Type} {l:List RV} {v:RV} (h:l[1]?=some v) (k:IV→Option β):Bc 1 (.fv (.sl (l.map RV.enc))) (iv 1) k=k (.fv (.fp [v.enc] 0)):=Wz (i:=1) h k
theorem AnR {β:Type} {l:List RV} {v:RV} (h:l[2]?=some v) (k:IV→Option β):Bc 1 (.fv (.sl (l.map RV.enc))) (iv 2) k=k (.fv (.fp [v.enc] 0)):=Wz (i:=2) h k
theorem AgI {β:Type} {l:List RV} {v:RV} (h:l[3]?=some v) (k:IV→Option β):Bc 1 (.fv (.sl (l.map RV.enc))) (iv 3) k=k (.fv (.fp [v.enc] 0)):=Wz (i:=3) h k
def XV:=Ata @Aoo<|Ata @Aqo<|Ata @nc0<|Ata @nc1<|Ata @nc2<|Ata @nc3 @dc4
set_option maxHeartbeats 1000000 in
set_option maxRecDepth 20000 in
theorem AdC {f:Nat} (he:Tj f) (hh:R8 f):R8 (f+1):=by
 intro s e v w s' e' nd hev n hn;obtain ⟨n,rfl⟩:∃k,n=k+1:=⟨n - 1,by omega⟩;rw [c70];rw [headR] at hev;by_cases h0:e≠0
 ·rw [if_pos h0] at hev;simp only [Atb,Atc] at hev;obtain ⟨rfl,rfl,rfl⟩:=hev;simp only [↓FL,↓XX,XY,↓reduceIte,Nat.reduceBEq,Nat.reduceAdd,Int.reduceEq,Int.reduceLT,Int.reduceLE,h0];exact AJ _ _ _
 ·have h0':e=0:=by omega
  subst h0';rw [if_neg h0] at hev;by_cases hs:s<0∨1000000<s
  ·rw [if_pos hs] at hev;cases hev
  ·rw [if_neg hs] at hev;have hst:=AfX (n:=n) (by omega) s nd (by omega) (by omega);have Cq:∀{x:RV} {a b:Int},some (x,a,b)=some (w,s',e')→x=w∧a=s'∧b=e':=by
    intro x a b h;simp only [Atb,Atc] at h;exact h
   by_cases h5:v.op=5
   ·rw [if_pos h5] at hev;cases hk0:v.k[0]? with
    | none=>rw [hk0] at hev;cases hev
    | some k0 =>
     rw [hk0] at hev;simp only at hev;by_cases h4:k0.op=4
     ·rw [if_pos h4] at hev;by_cases hq:s+1≤1000
      ·rw [if_pos hq] at hev;simp only [hq,decide_true,if_true] at hst;cases hc:k0.k[1]? with
       | none=>rw [hc] at hev;cases hev
       | some c =>
        cases hx:v.k[1]? with
        | none=>rw [hc,hx] at hev;cases hev
        | some x =>
         rw [hc,hx] at hev;simp only at hev;by_cases hl:900000<c.env.length
         ·rw [if_pos hl] at hev;cases hev
         ·rw [if_neg hl] at hev;have hcall:=he (s+1) 0 c.b (c.env++[x]) w s' e' nd hev n (by omega);rw [Vf] at hcall;have hp:=R6 (n:=n) (by omega) c.env [x] (by simp) (by simp;omega);simp only [Ath,Atg] at hp;simp only [↓FL,↓XX,XY,↓reduceIte,Nat.reduceBEq,Nat.reduceAdd,Int.reduceEq,Int.reduceLT,Int.reduceLE,↓XV,h5,↓G5 hk0,h4,↓Dq hst (Cj _ _ _ _ _ _),↓AfA hc,↓AfA hx,↓Uj,↓Ad hp,↓Jr hcall (Cj _ _ _ _ _ _)];exact AJ _ _ _
      ·rw [if_neg hq] at hev;obtain ⟨rfl,rfl,rfl⟩:=Cq hev;simp only [hq,decide_false,if_false] at hst;simp only [↓FL,↓XX,XY,↓reduceIte,Nat.reduceBEq,Nat.reduceAdd,Int.reduceEq,Int.reduceLT,Int.reduceLE,↓XV,h5,↓G5 hk0,h4,↓Dq hst (Cj _ _ _ _ _ _)];exact AJ _ _ _
     ·rw [if_neg h4] at hev;obtain ⟨rfl,rfl,rfl⟩:=Cq hev;simp only [↓FL,↓XX,XY,↓reduceIte,Nat.reduceBEq,Nat.reduceAdd,Int.reduceEq,Int.reduceLT,Int.reduceLE,↓XV,h5,↓G5 hk0,h4];exact AJ _ _ _
   ·rw [if_neg h5] at hev;by_cases h89:v.op=8∨v.op=9
    ·rw [if_pos h89] at hev;cases hk0:v.k[0]? with
     | none=>rw [hk0] at hev;cases hev
     | some k0 =>
      rw [hk0] at hev;simp only at hev;by_cases h7:k0.op=7
      ·rw [if_pos h7] at hev;by_cases hq:s+1≤1000
       ·rw [if_pos hq] at hev;simp only [hq,decide_true,if_true] at hst;cases hx:k0.k[(1+v.op - 8).toNat]? with
        | none=>rw [hx] at hev;cases hev
        | some x =>
         rw [hx] at hev;obtain ⟨rfl,rfl,rfl⟩:=Cq hev;rcases h89 with h8 | h9
         ·rw [h8] at hx;have hw1:B0 (1+8)=9:=by decide
          have hw2:B0 (9 - 8)=1:=by decide
          simp only [↓FL,↓XX,XY,↓reduceIte,Nat.reduceBEq,Nat.reduceAdd,Int.reduceEq,Int.reduceLT,Int.reduceLE,↓XV,h8,↓G5 hk0,h7,↓Dq hst (Cj _ _ _ _ _ _),hw1,hw2,↓AfA (l:=k0.k) (v:=x) hx];exact AJ _ _ _
         ·rw [h9] at hx;have hw1:B0 (1+9)=10:=by decide
          have hw2:B0 (10 - 8)=2:=by decide
          simp only [↓FL,↓XX,XY,↓reduceIte,Nat.reduceBEq,Nat.reduceAdd,Int.reduceEq,Int.reduceLT,Int.reduceLE,↓XV,h9,↓G5 hk0,h7,↓Dq hst (Cj _ _ _ _ _ _),hw1,hw2,↓AnR (l:=k0.k) (v:=x) hx];exact AJ _ _ _
       ·rw [if_neg hq] at hev;obtain ⟨rfl,rfl,rfl⟩:=Cq hev;simp only [hq,decide_false,if_false] at hst;rcases h89 with h8 | h9
        ·simp only [↓FL,↓XX,XY,↓reduceIte,Nat.reduceBEq,Nat.reduceAdd,Int.reduceEq,Int.reduceLT,Int.reduceLE,↓XV,h8,↓G5 hk0,h7,↓Dq hst (Cj _ _ _ _ _ _)];exact AJ _ _ _
        ·simp only [↓FL,↓XX,XY,↓reduceIte,Nat.reduceBEq,Nat.reduceAdd,Int.reduceEq,Int.reduceLT,Int.reduceLE,↓XV,h9,↓G5 hk0,h7,↓Dq hst (Cj _ _ _ _ _ _)];exact AJ _ _ _
      ·rw [if_neg h7] at hev;obtain ⟨rfl,rfl,rfl⟩:=Cq hev;rcases h89 with h8 | h9
       ·simp only [↓FL,↓XX,XY,↓reduceIte,Nat.reduceBEq,Nat.reduceAdd,Int.reduceEq,Int.reduceLT,Int.reduceLE,↓XV,h8,↓G5 hk0,h7];exact AJ _ _ _
       ·simp only [↓FL,↓XX,XY,↓reduceIte,Nat.reduceBEq,Nat.reduceAdd,Int.reduceEq,Int.reduceLT,Int.reduceLE,↓XV,h9,↓G5 hk0,h7];exact AJ _ _ _
    ·rw [if_neg h89] at hev;have h8:¬ v.op=8:=fun e=>h89 (.inl e);have h9:¬ v.op=9:=fun e=>h89 (.inr e);by_cases h30:v.op=30
     ·rw [if_pos h30] at hev;cases hk0:v.k[0]? with
      | none=>rw [hk0] at hev;cases hev
      | some k0 =>
       rw [hk0] at hev;simp only at hev;by_cases h7:k0.op=19
       ·rw [if_pos h7] at hev;by_cases hq:s+1≤1000
        ·rw [if_pos hq] at hev;simp only [hq,decide_true,if_true] at hst;cases hx:k0.k[0]? with
         | none=>rw [hx] at hev;cases hev
         | some x =>
          rw [hx] at hev;obtain ⟨rfl,rfl,rfl⟩:=Cq hev;simp only [↓FL,↓XX,XY,↓reduceIte,Nat.reduceBEq,Nat.reduceAdd,Int.reduceEq,Int.reduceLT,Int.reduceLE,↓XV,h30,↓G5 hk0,h7,↓Dq hst (Cj _ _ _ _ _ _),↓G5 hx];exact AJ _ _ _
        ·rw [if_neg hq] at hev;obtain ⟨rfl,rfl,rfl⟩:=Cq hev;simp only [hq,decide_false,if_false] at hst;simp only [↓FL,↓XX,XY,↓reduceIte,Nat.reduceBEq,Nat.reduceAdd,Int.reduceEq,Int.reduceLT,Int.reduceLE,↓XV,h30,↓G5 hk0,h7,↓Dq hst (Cj _ _ _ _ _ _)];exact AJ _ _ _
       ·rw [if_neg h7] at hev;obtain ⟨rfl,rfl,rfl⟩:=Cq hev;simp only [↓FL,↓XX,XY,↓reduceIte,Nat.reduceBEq,Nat.reduceAdd,Int.reduceEq,Int.reduceLT,Int.reduceLE,↓XV,h30,↓G5 hk0,h7];exact AJ _ _ _
     ·rw [if_neg h30] at hev;by_cases h19:v.op=19
      ·rw [if_pos h19] at hev;cases hk0:v.k[0]? with
       | none=>rw [hk0] at hev;cases hev
       | some k0 =>
        rw [hk0] at hev;simp only at hev;by_cases h7:k0.op=30
        ·rw [if_pos h7] at hev;by_cases hq:s+1≤1000
         ·rw [if_pos hq] at hev;simp only [hq,decide_true,if_true] at hst;cases hx:k0.k[0]? with
          | none=>rw [hx] at hev;cases hev
          | some x =>
           rw [hx] at hev;obtain ⟨rfl,rfl,rfl⟩:=Cq hev;simp only [↓FL,↓XX,XY,↓reduceIte,Nat.reduceBEq,Nat.reduceAdd,Int.reduceEq,Int.reduceLT,Int.reduceLE,↓XV,h19,↓G5 hk0,h7,↓Dq hst (Cj _ _ _ _ _ _),↓G5 hx];exact AJ _ _ _
         ·rw [if_neg hq] at hev;obtain ⟨rfl,rfl,rfl⟩:=Cq hev;simp only [hq,decide_false,if_false] at hst;simp only [↓FL,↓XX,XY,↓reduceIte,Nat.reduceBEq,Nat.reduceAdd,Int.reduceEq,Int.reduceLT,Int.reduceLE,↓XV,h19,↓G5 hk0,h7,↓Dq hst (Cj _ _ _ _ _ _)];exact AJ _ _ _
        ·rw [if_neg h7] at hev;obtain ⟨rfl,rfl,rfl⟩:=Cq hev;simp only [↓FL,↓XX,XY,↓reduceIte,Nat.reduceBEq,Nat.reduceAdd,Int.reduceEq,Int.reduceLT,Int.reduceLE,↓XV,h19,↓G5 hk0,h7];exact AJ _ _ _
      ·rw [if_neg h19] at hev;by_cases h13:v.op=13
       ·rw [if_pos h13] at hev;cases hk0:v.k[0]? with
        | none=>rw [hk0] at hev;cases hev
        | some k0 =>
        cases hk1:v.k[1]? with
        | none=>rw [hk0,hk1] at hev;cases hev
        | some k1 =>
        cases hk2:v.k[2]? with
        | none=>rw [hk0,hk1,hk2] at hev;cases hev
        | some k2 =>
        cases hk3:v.k[3]? with
        | none=>rw [hk0,hk1,hk2,hk3] at hev;cases hev
        | some k3 =>
        rw [hk0,hk1,hk2,hk3] at hev;simp only at hev;by_cases h11:k3.op=11
        ·rw [if_pos h11] at hev;by_cases hq:s+1≤1000
         ·rw [if_pos hq] at hev;obtain ⟨rfl,rfl,rfl⟩:=Cq hev;simp only [hq,decide_true,if_true] at hst;simp only [↓FL,↓XX,XY,↓reduceIte,Nat.reduceBEq,Nat.reduceAdd,Int.reduceEq,Int.reduceLT,Int.reduceLE,↓XV,h13,↓AgI hk3,h11,↓Dq hst (Cj _ _ _ _ _ _),↓AfA hk1];exact AJ _ _ _
         ·rw [if_neg hq] at hev;obtain ⟨rfl,rfl,rfl⟩:=Cq hev;simp only [hq,decide_false,if_false] at hst;simp only [↓FL,↓XX,XY,↓reduceIte,Nat.reduceBEq,Nat.reduceAdd,Int.reduceEq,Int.reduceLT,Int.reduceLE,↓XV,h13,↓AgI hk3,h11,↓Dq hst (Cj _ _ _ _ _ _)];exact AJ _ _ _
        ·rw [if_neg h11] at hev;by_cases h12:k3.op=12
         ·rw [if_pos h12] at hev;by_cases hq:s+1≤1000
          ·rw [if_pos hq] at hev;simp only [hq,decide_true,if_true] at hst;cases hx:k3.k[0]? with
           | none=>rw [hx] at hev;cases hev
           | some x =>
           rw [hx] at hev;simp only at hev;cases hd:headR f (s+1) 0 (.node 13 0 [k0,k1,k2,x]) with
           | none=>rw [hd] at hev;cases hev
           | some q =>
           obtain ⟨h,s2,e2⟩:=q;rw [hd] at hev;simp only at hev;by_cases hl:900000<k2.env.length
           ·rw [if_pos hl] at hev;cases hev
           ·rw [if_neg hl] at hev;have hcall:=he s2 e2 k2.b (k2.env++[x,h]) w s' e' nd hev n (by omega);rw [Vf] at hcall;have hcall2:=hh (s+1) 0 _ h s2 e2 nd hd n (by omega);rw [Aoz] at hcall2;simp only [Ath,Atg] at hcall2;have hp:=R6 (n:=n) (by omega) k2.env [x,h] (by simp) (by simp;omega);simp only [Ath,Atg] at hp;have hcall3:=fun k=>QV (k:=k) (own:=[(73420822,.row [iv 13,iv 0,.clip [k0.enc,k1.enc,k2.enc,x.enc],.nils,iv 0,iv 0,.nils] false)])
             (cells:=[iv 13,iv 0,.clip [k0.enc,k1.enc,k2.enc,x.enc],.nils,iv 0,iv 0,.nils]) (ro:=false) (s:=73420822) hcall2 (Cj ..) (by simp [Ar]) rfl (by simp)
            simp only [↓FL,↓XX,XY,↓reduceIte,Nat.reduceBEq,Nat.reduceAdd,Int.reduceEq,Int.reduceLT,Int.reduceLE,↓XV,h13,↓AgI hk3,h11,h12,↓Dq hst (Cj _ _ _ _ _ _),↓G5 hx,↓G5 hk0,↓AfA hk1,↓AnR hk2,↓An9,↓hcall3,↓Apt,↓Ad hp,↓Jr hcall (Cj _ _ _ _ _ _)];exact AJ _ _ _
          ·rw [if_neg hq] at hev;obtain ⟨rfl,rfl,rfl⟩:=Cq hev;simp only [hq,decide_false,if_false] at hst;simp only [↓FL,↓XX,XY,↓reduceIte,Nat.reduceBEq,Nat.reduceAdd,Int.reduceEq,Int.reduceLT,Int.reduceLE,↓XV,h13,↓AgI hk3,h11,h12,↓Dq hst (Cj _ _ _ _ _ _)];exact AJ _ _ _
         ·rw [if_neg h12] at hev;obtain ⟨rfl,rfl,rfl⟩:=Cq hev;simp only [↓FL,↓XX,XY,↓reduceIte,Nat.reduceBEq,Nat.reduceAdd,Int.reduceEq,Int.reduceLT,Int.reduceLE,↓XV,h13,↓AgI hk3,h11,h12];exact AJ _ _ _
       ·rw [if_neg h13] at hev;obtain ⟨rfl,rfl,rfl⟩:=Cq hev;simp only [↓FL,↓XX,XY,↓reduceIte,Nat.reduceBEq,Nat.reduceAdd,Int.reduceEq,Int.reduceLT,Int.reduceLE,↓XV,h5,h8,h9,h30,h19,h13];exact AJ _ _ _
theorem Xt:∀f,Tj f∧R8 f:=by
 intro f
 induction f with
 | zero=>exact ⟨(by intro s e t env v s' e' nd h;rw [AE] at h;cases h),(by intro s e v w s' e' nd h;rw [headR] at h;cases h)⟩
 | succ f ih=>exact ⟨AdP ih.1 ih.2,AdC ih.1 ih.2⟩
end Idl
end Go.Proofs.Ytbkdidonegggdaa
namespace Go.Proofs.Ytbkdidonegggdaa
namespace Idl
def I7 (u:Int) (b:Nat):List RV:=(List.range b).map fun (j:Nat)=>RV.var (u+(j:Int))
theorem TD (u:Int) (b:Nat):I7 u (b+1)=I7 u b++[RV.var (u+b)]:=by simp [I7,List.range_succ]
theorem Cs (u:Int) (b:Nat):(I7 u b).length=b:=by simp [I7]
def Ba (rd:Int→Int→Int→RV→Int→Option (Tm×Int×Int×Int)) (f:Nat) (op u:Int):Nat→List RV→Int→Int→Int→Option (List Tm×Int×Int×Int)
 | _,[],s,nd,e=>some ([],s,nd,e)
 | i,k::l,s,nd,e =>
  match (if 0<Af op i then (if 900000<k.env.length then none else AE f s e k.b (k.env++I7 u (Af op i))) else some (k,s,e)) with
  | none=>none
  | some (k',s1,e1)=>match rd s1 nd e1 k' (u+Af op i) with
   | none=>none
   | some (t,s2,nd2,e2)=>(Ba rd f op u (i+1) l s2 nd2 e2).map fun (ts,s,nd,e)=>(t::ts,s,nd,e)
def AX:Nat→Int→Int→Int→RV→Int→Int→Option (Tm×Int×Int×Int)
 | 0,_,_,_,_,_,_=>none
 | f+1,s,nd,e,v,u,d =>
  if nd<0∨1000000<nd∨u<0∨1000000<u∨d<0∨1000000<d∨v.n < -2305843009213693952∨2305843009213693952<v.n∨f≤v.k.length∨900000<v.k.length∨f≤3 then none else
  if (if e=0∧(3000<nd+1∨120<d) then 5 else e)≠0 then some (.z,s,nd+1,(if e=0∧(3000<nd+1∨120<d) then 5 else e))
  else if v.op=1 then some (.mk 1 (u - 1 - v.n) [],s,nd+1,0)
  else (Ba (fun s nd e k u=>AX f s nd e k u (d+1)) f v.op u 0 v.k s (nd+1) 0).map fun (ts,s,nd,e)=>(.mk v.op v.n ts,s,nd,e)
def Vb (f:Nat):Prop:=∀(s nd e:Int) (v:RV) (u d:Int) (t:Tm) (s' nd' e':Int),AX f s nd e v u d=some (t,s',nd',e')→∀n,f+1≤n →
 Bq (SS dt n 48 [.ptr (.ext 0) 0,.fv v.enc,iv u,iv d] ⟨[],[.row [iv s,iv nd,iv e] false]⟩) t.enc [.row [iv s',iv nd',iv e'] false]
abbrev LI (op m:Int) (K:IV) (tok:List (Nat×Blk)) (s nd e:Int):Hp :=
 ⟨(50331648,.row [iv 0,iv 0,.nils] false)::(50339849,.row [iv op,iv m,K] false)::tok,[.row [iv s,iv nd,iv e] false]⟩
theorem Xf {cells:List IV} {fc:List FV} (hz:C6 cells=some fc) (hn:cells.length≤100) (s:Nat) (h:Hp) (k:IV→Hp→List Ref→List Ref→Option (IV×Hp)):fzS (Kw true s (.agg cells)) s (.agg cells) h k=k (.fv (.fp fc 0)) h [] []:=by
 have:Kw true s (.agg cells)=.ret { eff:={ val:=.fv (.fp fc 0),upd:=[] } }:=by
  simp only [Kw,IV.alive,Bool.true_eq_false,if_false,if_true,IV.cells,Yt cells 4096 (by omega) hz,Rd.bind]
 unfold fzS;rw [this,V0];exact J3 _ s h k
theorem ZT (n:Int):(RV.var n).enc=.fp [.int .i64 1,.int .i64 n,.sl [],.sl [],.int .i64 0,.int .i64 0,.sl []] 0:=by rw [RV.var,Tm.z,Ip];rfl
set_option maxRecDepth 20000 in
set_option maxHeartbeats 1000000 in
theorem Adg {f:Nat} (hr:Vb f):Vb (f+1):=by
 intro s nd e v u d t s' nd' e' hev n hn;obtain ⟨n,rfl⟩:∃k,n=k+1:=⟨n - 1,by omega⟩;rw [c48];rw [AX] at hev;by_cases hbad:nd<0∨1000000<nd∨u<0∨1000000<u∨d<0∨1000000<d∨v.n < -2305843009213693952∨2305843009213693952<v.n∨f≤v.k.length∨900000<v.k.length∨f≤3
 ·rw [if_pos hbad] at hev;cases hev
 ·rw [if_neg hbad] at hev;have wnd:B0 (nd+1)=nd+1:=by rw [Ay]<;>omega
  have wd:B0 (d+1)=d+1:=by rw [Ay]<;>omega
  have wu:B0 (u - 1)=u - 1:=by rw [Ay]<;>omega
  have wv:B0 (u - 1 - v.n)=u - 1 - v.n:=by rw [Ay]<;>omega
  by_cases he:e=0
  ·subst he;by_cases h3:3000<nd+1
   ·have e5:(if (0:Int)=0∧(3000<nd+1∨120<d) then (5:Int) else 0)=5:=if_pos ⟨rfl,.inl h3⟩;rw [e5,if_pos (by decide)] at hev;simp only [Atb,Atc] at hev;obtain ⟨rfl,rfl,rfl,rfl⟩:=hev;simp only [↓Ag4,↓XX,XY,↓reduceIte,Nat.reduceBEq,Nat.reduceAdd,Int.reduceEq,Int.reduceLT,Int.reduceLE,wnd,h3];exact EW rfl _ _
   ·by_cases h4:120<d
    ·have e5:(if (0:Int)=0∧(3000<nd+1∨120<d) then (5:Int) else 0)=5:=if_pos ⟨rfl,.inr h4⟩;rw [e5,if_pos (by decide)] at hev;simp only [Atb,Atc] at hev;obtain ⟨rfl,rfl,rfl,rfl⟩:=hev;simp only [↓Ag4,↓XX,XY,↓reduceIte,Nat.reduceBEq,Nat.reduceAdd,Int.reduceEq,Int.reduceLT,Int.reduceLE,wnd,h3,h4];exact EW rfl _ _
    ·have e5:(if (0:Int)=0∧(3000<nd+1∨120<d) then (5:Int) else 0)=0:=if_neg (by omega);rw [e5,if_neg (by decide)] at hev;by_cases h1:v.op=1
     ·rw [if_pos h1] at hev;simp only [Atb,Atc] at hev;obtain ⟨rfl,rfl,rfl,rfl⟩:=hev;have hv:=Alk (n:=n) (by omega) (u - 1 - v.n);rw [An] at hv ⊢;simp only [↓Ag4,↓XX,XY,↓reduceIte,Nat.reduceBEq,Nat.reduceAdd,Int.reduceEq,Int.reduceLT,Int.reduceLE,↓XV,wnd,h3,h4,h1,wu,wv,↓Am hv];exact EW rfl _ _
     ·rw [if_neg h1] at hev;cases hrk:Ba (fun s nd e k u=>AX f s nd e k u (d+1)) f v.op u 0 v.k s (nd+1) 0 with
      | none=>rw [hrk] at hev;cases hev
      | some q =>
      obtain ⟨ts,s1,nd1,e1⟩:=q;rw [hrk] at hev;simp only [Ate,Atb,Atc] at hev;obtain ⟨rfl,rfl,rfl,rfl⟩:=hev;simp only [↓Ag4,↓XX,XY,↓reduceIte,Nat.reduceBEq,Nat.reduceAdd,Int.reduceEq,Int.reduceLT,Int.reduceLE,↓XV,wnd,h3,h4,h1,↓Av,XD,heldB,AB,XE];refine Bf (Q:=fun r=>Bq r _ _) (fun k V H=>∃(pre rest:List RV) (done:List Tm) (s2 nd2 e2:Int) (us:List Tm),v.k=pre++rest∧rest.length=k∧done.length=pre.length∧V=[.ptr (.ext 0) 0,.fv v.enc,iv u,iv d,.ptr (.own 50331648) 0,.ptr (.own 50339849) 0,iv pre.length] ∧
       (
        (pre=[]∧H=LI v.op v.n .nils [] s2 nd2 e2) ∨
        (pre≠[]∧H=LI v.op v.n (.app (.own 50353163) (done.map Tm.enc)) [(50353163,.tok done.length 3)] s2 nd2 e2)) ∧
       Ba (fun s nd e k u=>AX f s nd e k u (d+1)) f v.op u pre.length rest s2 nd2 e2=some (us,s1,nd1,e1)∧done++us=ts)
       ?_ n v.k.length _ _ (by omega) ⟨[],v.k,[],s,nd+1,0,ts,rfl,rfl,rfl,rfl,.inl ⟨rfl,rfl⟩,hrk,rfl⟩
      rintro k V H rec ⟨pre,rest,done,s2,nd2,e2,us,hk,hl,hdl,rfl,hH,hkids,hts⟩ hrec;have hkl:v.k.length=pre.length+rest.length:=by rw [hk];simp
      cases rest with
      | nil =>
       simp only [Ba,Atb,Atc] at hkids;obtain ⟨rfl,rfl,rfl,rfl⟩:=hkids;rw [List.append_nil] at hts;subst hts;have hno:¬ ((pre.length:Int)<v.k.length):=by rw [hkl];simp
       rcases hH with ⟨hp0,rfl⟩ | ⟨hne,rfl⟩
       ·have hd0:done=[]:=List.length_eq_zero_iff.1 (by rw [hdl,hp0];rfl);subst hd0;simp only [Ez,Ey,EA,El,ED,En,GV,Eu,EK,EM,Ew,EJ,Hd,Eo,Eg,EI,Em,EG,EC,Ei,E4,EH,Et,EF,Ep,EL,Ej,Ek,Es,EB,Eh,S48,↓XX,XY,↓reduceIte,Nat.reduceBEq,Nat.reduceAdd,Int.reduceEq,Int.reduceLT,Int.reduceLE,↓XV,hno,An];exact EW rfl _ _
       ·simp only [Ez,Ey,EA,El,ED,En,GV,Eu,EK,EM,Ew,EJ,Hd,Eo,Eg,EI,Em,EG,EC,Ei,E4,EH,Et,EF,Ep,EL,Ej,Ek,Es,EB,Eh,S48,↓XX,XY,↓reduceIte,Nat.reduceBEq,Nat.reduceAdd,Int.reduceEq,Int.reduceLT,Int.reduceLE,↓XV,hno,An];exact EW rfl _ _
      | cons x rest =>
       have hi:(pre.length:Int)<v.k.length:=by rw [hkl];simp;omega
       have hg:=C2 hk;have hb:=Fy (n:=n) (by omega) v.op pre.length;have hble:=Bv v.op pre.length;have hwi:B0 ((pre.length:Int)+1)=((pre++[x]).length:Int):=(Ay (by omega) (by omega)).trans (by simp);have hwb:B0 (u+(Af v.op pre.length:Int))=u+Af v.op pre.length:=by rw [Ay]<;>omega
       have hd9:done.length+1≤1000000:=by omega
       simp only [Ba] at hkids;simp only [Atf] at hl;have behind:∀(y:RV) (s3 e3:Int),(match AX f s3 nd2 e3 y (u+Af v.op pre.length) (d+1) with
          | none=>none
          | some (t,s2,nd2,e2)=>(Ba (fun s nd e k u=>AX f s nd e k u (d+1)) f v.op u (pre.length+1) rest s2 nd2 e2).map fun (ts,s,nd,e)=>(t::ts,s,nd,e))=some (us,s1,nd1,e1) →
         ∀K tk,((pre=[]∧K=.nils∧tk=[])∨(pre≠[]∧K=.app (.own 50353163) (done.map Tm.enc)∧tk=[(50353163,.tok done.length 3)])) →
         Bq (GV (.ptr (.own 50339849) 0) (LI v.op v.n K tk s3 nd2 e3) (iv u) (iv (Af v.op pre.length)) (iv d) (SS dt n) (.ptr (.ext 0) 0) (.fv y.enc) (iv pre.length) ⟨[],[.row [iv s,iv nd,iv 0] false]⟩ (.fv v.enc) (.ptr (.own 50331648) 0) rec)
          (Tm.mk v.op v.n ts).enc [.row [iv s1,iv nd1,iv e1] false]:=by
        intro y s3 e3 hy K tk hK;cases hrd:AX f s3 nd2 e3 y (u+Af v.op pre.length) (d+1) with
        | none=>rw [hrd] at hy;cases hy
        | some q =>
        obtain ⟨t4,s4,nd4,e4⟩:=q;rw [hrd] at hy;simp only at hy;cases hkk:Ba (fun s nd e k u=>AX f s nd e k u (d+1)) f v.op u (pre.length+1) rest s4 nd4 e4 with
        | none=>rw [hkk] at hy;cases hy
        | some q =>
        obtain ⟨us',s5,nd5,e5'⟩:=q;rw [hkk] at hy;simp only [Ate,Atb,Atc] at hy;obtain ⟨rfl,rfl,rfl,rfl⟩:=hy;have hc:=hr s3 nd2 e3 y (u+Af v.op pre.length) (d+1) t4 s4 nd4 e4 hrd n (by omega);have h9:Bq (rec [.ptr (.ext 0) 0,.fv v.enc,iv u,iv d,.ptr (.own 50331648) 0,.ptr (.own 50339849) 0,iv (pre++[x]).length]
          (LI v.op v.n (.app (.own 50353163) ((done++[t4]).map Tm.enc)) [(50353163,.tok (done.length+1) 3)] s4 nd4 e4)) (Tm.mk v.op v.n ts).enc [.row [iv s5,iv nd5,iv e5'] false] :=
         hrec rest.length _ _ (by omega) ⟨pre++[x],rest,done++[t4],s4,nd4,e4,us',by rw [hk];simp,rfl,by simp [hdl],rfl,.inr ⟨by simp,by simp⟩,by simpa using hkk,by rw [← hts];simp⟩
        rcases hK with ⟨hp0,rfl,rfl⟩ | ⟨hne,rfl,rfl⟩
        ·have hd0:done=[]:=List.length_eq_zero_iff.1 (by rw [hdl,hp0];rfl);subst hd0;simp only [List.nil_append,Ath,Atg,List.length_nil] at h9;simp only [Ez,Ey,EA,El,ED,En,GV,Eu,EK,EM,Ew,EJ,Hd,Eo,Eg,EI,Em,EG,EC,Ei,E4,EH,Et,EF,Ep,EL,Ej,Ek,Es,EB,Eh,S48,↓XX,XY,↓reduceIte,Nat.reduceBEq,Nat.reduceAdd,Int.reduceEq,Int.reduceLT,Int.reduceLE,↓XV,hwb,wd,hwi,↓Ae7 hc (Cj _ _ _ _ _ _),↓Jk,↓Qp,↓Av,XD,heldB,AB,XE];exact h9
        ·simp only [Ez,Ey,EA,El,ED,En,GV,Eu,EK,EM,Ew,EJ,Hd,Eo,Eg,EI,Em,EG,EC,Ei,E4,EH,Et,EF,Ep,EL,Ej,Ek,Es,EB,Eh,S48,↓XX,XY,↓reduceIte,Nat.reduceBEq,Nat.reduceAdd,Int.reduceEq,Int.reduceLT,Int.reduceLE,↓XV,hwb,wd,hwi,↓Ae7 hc (Cj _ _ _ _ _ _),↓Jk,↓My hd9,↓HU,↓Av,XD,heldB,AB,XE];exact h9
       have heads:∃K tk,((pre=[]∧K=.nils∧tk=[])∨(pre≠[]∧K=.app (.own 50353163) (done.map Tm.enc)∧tk=[(50353163,.tok done.length 3)]))∧H=LI v.op v.n K tk s2 nd2 e2:=by
        rcases hH with ⟨a,b⟩ | ⟨a,b⟩
        ·exact ⟨_,_,.inl ⟨a,rfl,rfl⟩,b⟩
        ·exact ⟨_,_,.inr ⟨a,rfl,rfl⟩,b⟩
       obtain ⟨K,tk,hK,rfl⟩:=heads;by_cases hbp:0<Af v.op pre.length
       ·rw [if_pos hbp] at hkids;by_cases hxe:900000<x.env.length
        ·rw [if_pos hxe] at hkids;cases hkids
        ·rw [if_neg hxe] at hkids;have hbp':0<(Af v.op pre.length:Int):=by omega
         cases hev1:AE f s2 e2 x.b (x.env++I7 u (Af v.op pre.length)) with
         | none=>rw [hev1] at hkids;cases hkids
         | some q =>
         obtain ⟨y,s3,e3⟩:=q;rw [hev1] at hkids;have hB:=behind y s3 e3 hkids K tk hK;have hc:=(Xt f).1 s2 e2 x.b _ y s3 e3 nd2 hev1 n (by omega);rw [Vf] at hc;have hdrop:∀(vals:List IV),vals.all Fo=true→∀k:Hp→Option (IV×Hp),BB [] [50351109] vals (LI v.op v.n K tk s2 nd2 e2) k=k (LI v.op v.n K tk s2 nd2 e2):=by
          intro vals hv k;rcases hK with ⟨_,rfl,rfl⟩ | ⟨_,rfl,rfl⟩<;>simp only [↓XX,XY,↓reduceIte,Nat.reduceBEq,Nat.reduceAdd,Int.reduceEq,Int.reduceLT,Int.reduceLE,↓Av,XD,heldB,AB,XE,hv]
         simp only [Ez,Ey,EA,El,ED,En,Eu,EK,EM,Ew,EJ,Eo,Eg,EI,Em,EG,EC,Ei,E4,EH,Et,EF,Ep,EL,Ej,Ek,Es,EB,Eh,S48,↓XX,XY,↓reduceIte,Nat.reduceBEq,Nat.reduceAdd,Int.reduceEq,Int.reduceLT,Int.reduceLE,↓XV,hi,↓Wz hg,↓Ad hb,hbp',↓hdrop,↓Av,XD,heldB,AB,XE];refine Bf (Q:=fun r=>Bq r _ _) (fun k V H=>∃j,j+k=Af v.op pre.length∧V=[.ptr (.ext 0) 0,.fv v.enc,iv u,iv d,.ptr (.own 50331648) 0,.ptr (.own 50339849) 0,iv pre.length,iv (Af v.op pre.length),.fv x.enc,.fv (.sl ((x.env++I7 u j).map RV.enc)),iv j] ∧
          H=LI v.op v.n K tk s2 nd2 e2) ?_ n (Af v.op pre.length) _ _ (by omega) ?_
         rotate_left
         ·exact ⟨0,by omega,by simp [I7],rfl⟩
         rintro k2 V2 H2 rec2 ⟨j,hj,rfl,rfl⟩ hrec2;cases k2 with
         | zero =>
          have hjb:j=Af v.op pre.length:=by omega
          subst hjb;simp only [Ez,Ey,EA,El,ED,En,Eu,EK,EM,Ew,EJ,Hd,Eo,Eg,EI,Em,EG,EC,Ei,E4,EH,Et,EF,Ep,EL,Ej,Ek,Es,EB,Eh,S48,↓XX,XY,↓reduceIte,Nat.reduceBEq,Nat.reduceAdd,Int.reduceEq,Int.reduceLT,Int.reduceLE,↓XV,Int.lt_irrefl,↓Jr hc (Cj _ _ _ _ _ _)];exact hB
         | succ k2 =>
          have hjb:(j:Int)<Af v.op pre.length:=by omega
          have hwj:B0 (u+(j:Int))=u+j:=by rw [Ay]<;>omega
          have hwj1:B0 ((j:Int)+1)=((j+1:Nat):Int):=by rw [Ay]<;>omega
          have hp:=R6 (n:=n) (by omega) (x.env++I7 u j) [RV.var (u+j)] (by simp) (by simp [Cs];omega);simp only [Ath,Atg,ZT] at hp;rw [List.append_assoc,← TD] at hp;have hbv:=fun s h k=>Uj (RV.var (u+j)) s h k;simp only [ZT] at hbv;have hfz:=fun s h (k:IV→Hp→List Ref→List Ref→Option (IV×Hp))=>Xf (cells:=[.fv (.int .i64 1),iv (u+j),.nils,.nils,.fv (.int .i64 0),.fv (.int .i64 0),.nils]) (fc:=[.int .i64 1,.int .i64 (u+j),.sl [],.sl [],.int .i64 0,.int .i64 0,.sl []]) rfl (by simp) s h k;have h9:=hrec2 k2 _ _ (by omega) ⟨j+1,by omega,rfl,rfl⟩;simp only [Ez,Ey,EA,El,ED,En,Eu,EK,EM,Ew,EJ,Hd,Eo,Eg,EI,Em,EG,EC,Ei,E4,EH,Et,EF,Ep,EL,Ej,Ek,Es,EB,Eh,S48,↓XX,XY,↓reduceIte,Nat.reduceBEq,Nat.reduceAdd,Int.reduceEq,Int.reduceLT,Int.reduceLE,↓XV,hjb,hwj,hwj1,↓hfz,↓hbv,↓Ad hp,↓hdrop,↓Av,XD,heldB,AB,XE];exact h9
       ·rw [if_neg hbp] at hkids;have hbp':¬ 0<(Af v.op pre.length:Int):=by omega
        have hB:=behind x s2 e2 hkids K tk hK;simp only [Ez,Ey,EA,El,ED,En,Eu,EK,EM,Ew,EJ,Eo,Eg,EI,Em,EG,EC,Ei,E4,EH,Et,EF,Ep,EL,Ej,Ek,Es,EB,Eh,S48,↓XX,XY,↓reduceIte,Nat.reduceBEq,Nat.reduceAdd,Int.reduceEq,Int.reduceLT,Int.reduceLE,↓XV,hi,↓Wz hg,↓Ad hb,hbp',↓Av,XD,heldB,AB,XE];exact hB
  ·have e5:(if e=0∧(3000<nd+1∨120<d) then (5:Int) else e)=e:=if_neg (by omega);rw [e5,if_pos he] at hev;simp only [Atb,Atc] at hev;obtain ⟨rfl,rfl,rfl,rfl⟩:=hev;simp only [↓Ag4,↓XX,XY,↓reduceIte,Nat.reduceBEq,Nat.reduceAdd,Int.reduceEq,Int.reduceLT,Int.reduceLE,wnd,he];exact EW rfl _ _
theorem AhV:∀f,Vb f:=by
 intro f
 induction f with
 | zero=>intro s nd e v u d t s' nd' e' h;rw [AX] at h;cases h
 | succ f ih=>exact Adg ih
theorem AaE {α:Type}:∀(r:Rd α) (h:Hp) (l:List Ref) {x:α} {l':List Ref},r.runLog h l=some (x,l')→r.run h=some x
 | .ret a,h,l,x,l',e=>by simp only [Rd.runLog,Atb,Atc] at e;rw [e.1];rfl
 | .fail,_,_,_,_,e=>by cases e
 | .get r k,h,l,x,l',e=>by
  simp only [Rd.runLog] at e;simp only [Rd.run];cases hg:h.get r with
  | none=>rw [hg] at e;cases e
  | some b=>rw [hg] at e;exact AaE (k b) h _ e
theorem T7 {v:IV} {own:List (Nat×Blk)} {ext:List Blk} {w:FV} (h:∃u lg,∀(e:Option (IV×Hp)) (K:FV→List (Ref×Blk)→List Ref→Option (IV×Hp)),FK 12 v ⟨own,ext⟩ [] e K=K w u lg):∃u,(CW 4096 v).run ⟨own,ext⟩=some (w,u):=by
 obtain ⟨u,lg,hz⟩:=h;rcases ND 12 v ⟨own,ext⟩ [] none (fun w _ _=>some (IV.fv w,(⟨[],[]⟩:Hp))) (.fv w,⟨[],[]⟩) (hz ..) with h | ⟨x,u',lg',h1,_,h2⟩
 ·cases h
 ·simp only [Atb,Atc,IV.fv.injEq,and_true] at h2;subst h2;exact ⟨u',AaE _ _ _ (h1 4096 (by decide))⟩
theorem UF:∀l:List FV,IV.refs.refsL (l.map .fv)=[]
 | []=>rfl
 | v::l=>by
  simp only [Ath,IV.refs.refsL,IV.refs,UF l,List.append_nil]
theorem Lq:∀(args:List IV) (ks:List Bool) {vs:List FV},(∀b∈ks,b=false)→BO args=some vs→Bp ks args=.ret (vs.map .fv,[],[])
 | [],ks,vs,_,hz=>by cases hz;cases ks<;>rfl
 | v::l,[],vs,_,hz=>NS (v::l) hz
 | v::l,b::ks,vs,hk,hz=>by
  have hb:=hk b List.mem_cons_self;subst hb;simp only [BO] at hz;cases h1:A6 v with
  | none=>rw [h1] at hz;cases hz
  | some x =>
   rw [h1] at hz;cases h2:BO l with
   | none=>rw [h2] at hz;cases hz
   | some ys =>
    rw [h2] at hz;cases hz;simp only [Bp,frp 4096 (by omega) h1,Rd.bind,Lq l ks (fun c hc=>hk c (List.mem_cons_of_mem _ hc)) h2];rfl
theorem Ab4 (s:Nat) (ext:List Blk):Ox 400 [.own s] 0 ext=false:=rfl
theorem AgU {ks:List Bool} (hks:∀b∈ks,b=false) {ih:Aa} {f:FuncId} {args:List IV} {vs:List FV} {w:FV} {s:Nat} {st st':List FV} {own:List (Nat×Blk)} (hz:BO args=some vs) (hl:Ar s own=some (.row (st.map .fv) false))
  (hr:Bq (ih f (.ptr (.ext 0) 0::vs.map .fv) ⟨[],[.row (st.map .fv) false]⟩) w [.row (st'.map .fv) false]) (k:IV→Hp→List Ref→List Ref→Option (IV×Hp)) :
  Aj (true::ks) false false ih f (.ptr (.own s) 0::args) ⟨own,[]⟩ k=k (.fv w) ⟨AS s (.row (st'.map .fv) false) own,[]⟩ [.own s] [.own s]:=by
 obtain ⟨v,own',e1,hfz⟩:=hr;obtain ⟨u,hu⟩:=T7 hfz;have hD:Gu (true::ks) false false ih f (.ptr (.own s) 0::args) ⟨own,[]⟩ k=k (.fv w) ⟨AS s (.row (st'.map .fv) false) own,[]⟩ [.own s] [.own s]:=by
  have h1:Bp (true::ks) (.ptr (.own s) 0::args)=.ret (.ptr (.own s) 0::vs.map .fv,[.own s],[]):=by
   simp only [Bp,Lq args ks hks hz,Rd.bind,IV.refs];rfl
  have h2:(Cc 4096 [.own s] []).runLog ⟨own,[]⟩ []=some ([(.own s,.row (st.map .fv) false)],[.own s]):=by
   show (Cc (4094+1+1) [.own s] []).runLog ⟨own,[]⟩ []=_
   simp only [Cc,hasRef,Bool.false_eq_true,if_false,Rd.runLog,Hp.get,hl,Blk.refs,UF,List.append_nil,List.nil_append]
  have h3:IV.ren.renL (EV [(.own s,.row (st.map .fv) false)]) (.ptr (.own s) 0::vs.map .fv)=some (.ptr (.ext 0) 0::vs.map .fv):=by
   simp only [IV.ren.renL,IV.ren,EV,Ch,if_true,Ate,Option.bind_some,IX]
  have h4:A4 (EV [(.own s,.row (st.map .fv) false)]) [.row (st.map .fv) false]=some [.row (st.map .fv) false]:=by
   simp only [A4,Blk.ren,IX,Ate,Option.bind_some]
  have h5:A4 (Cq [(.own s,.row (st.map .fv) false)]) [.row (st'.map .fv) false]=some [.row (st'.map .fv) false]:=by
   simp only [A4,Blk.ren,IX,Ate,Option.bind_some]
  unfold Gu;simp only [h1,Rd.runLog,h2,h3,Ath,Atg,h4,EU (CB 3),EU C3,Lr,Bool.false_eq_true,if_false,e1,hu,Ate,IV.ren,h5,Atf,List.length_nil,Bs,List.all_nil,and_self,if_true,List.nil_append,List.zip_cons_cons,List.zip_nil_left];have h6:laid ⟨own,[]⟩ [(.own s,.row (st'.map .fv) false)]=some ⟨AS s (.row (st'.map .fv) false) own,[]⟩:=by
   simp only [laid,Hp.get,hl,Hp.set]
  simp only [h6,N8,CB]
 rw [OS,Ad1,Wf,UT 0 args _ _ _ _ ks hks hz];simp only [AdF,Ab4,cond_false];exact hD
theorem AkJ {ih:Aa} {f:FuncId} {x y:IV} {vx vy w:FV} {s:Nat} {a b c a' b' c':FV} {own own':List (Nat×Blk)} (hr:Bq (ih f [.ptr (.ext 0) 0,.fv vx,.fv vy] ⟨[],[.row [.fv a,.fv b,.fv c] false]⟩) w [.row [.fv a',.fv b',.fv c'] false])
  (hx:A6 x=some vx) (hy:A6 y=some vy) (hl:Ar s own=some (.row [.fv a,.fv b,.fv c] false)) (ho:AS s (.row [.fv a',.fv b',.fv c'] false) own=own') (k:IV→Hp→List Ref→List Ref→Option (IV×Hp)) :
  Aj [true,false,false] false false ih f [.ptr (.own s) 0,x,y] ⟨own,[]⟩ k=k (.fv w) ⟨own',[]⟩ [.own s] [.own s]:=by
 subst ho;exact AgU (ks:=[false,false]) (by simp) (st:=[a,b,c]) (st':=[a',b',c']) (U7 hx hy) hl hr k
theorem AkX {ih:Aa} {f:FuncId} {x y z:IV} {vx vy vz w:FV} {s:Nat} {a b c a' b' c':FV} {own own':List (Nat×Blk)} (hr:Bq (ih f [.ptr (.ext 0) 0,.fv vx,.fv vy,.fv vz] ⟨[],[.row [.fv a,.fv b,.fv c] false]⟩) w [.row [.fv a',.fv b',.fv c'] false])
  (hx:A6 x=some vx) (hy:A6 y=some vy) (hz:A6 z=some vz) (hl:Ar s own=some (.row [.fv a,.fv b,.fv c] false)) (ho:AS s (.row [.fv a',.fv b',.fv c'] false) own=own') (k:IV→Hp→List Ref→List Ref→Option (IV×Hp)) :
  Aj [true,false,false,false] false false ih f [.ptr (.own s) 0,x,y,z] ⟨own,[]⟩ k=k (.fv w) ⟨own',[]⟩ [.own s] [.own s]:=by
 subst ho;exact AgU (ks:=[false,false,false]) (by simp) (st:=[a,b,c]) (st':=[a',b',c']) (Ada hx hy hz) hl hr k
theorem Aiv {ih:Aa} {f:FuncId} {x y:IV} {vx vy w:FV} {s:Nat} {a b a' b':FV} {own own':List (Nat×Blk)} (hr:Bq (ih f [.ptr (.ext 0) 0,.fv vx,.fv vy] ⟨[],[.row [.fv a,.fv b] false]⟩) w [.row [.fv a',.fv b'] false])
  (hx:A6 x=some vx) (hy:A6 y=some vy) (hl:Ar s own=some (.row [.fv a,.fv b] false)) (ho:AS s (.row [.fv a',.fv b'] false) own=own') (k:IV→Hp→List Ref→List Ref→Option (IV×Hp)) :
  Aj [true,false,false] false false ih f [.ptr (.own s) 0,x,y] ⟨own,[]⟩ k=k (.fv w) ⟨own',[]⟩ [.own s] [.own s]:=by
 subst ho;exact AgU (ks:=[false,false]) (by simp) (st:=[a,b]) (st':=[a',b']) (U7 hx hy) hl hr k
def AY (f:Nat) (t:Tm):Option (Tm×Int):=match AE f 0 0 t [] with
 | none=>none
 | some (v,s,e)=>match AX f s 0 e v 0 1 with
  | none=>none
  | some (u,_,_,e)=>some (if e≠0 then (.z,e) else (u,0))
theorem Uh {n:Nat} (hn:0<n) (e:Int):Bk (SS dt n 19 [iv e] ⟨[],[]⟩) (.bool (decide (e=17) || decide (e=5))):=by
 obtain ⟨n,rfl⟩:∃k,n=k+1:=⟨n - 1,by omega⟩;rw [c19];by_cases h1:e=17
 ·simp only [S19,↓XX,XY,↓reduceIte,Nat.reduceBEq,Nat.reduceAdd,Int.reduceEq,Int.reduceLT,Int.reduceLE,h1,Bool.true_or];exact Aq _ _
 ·simp only [S19,↓XX,XY,↓reduceIte,Nat.reduceBEq,Nat.reduceAdd,Int.reduceEq,Int.reduceLT,Int.reduceLE,h1,Bool.false_or];exact Aq _ _
theorem Ac3 (f:Nat) (t u:Tm) (e:Int) (h:AY f t=some (u,e)) (n:Nat) (hn:f+2≤n):Bk (SS dt n 18 [.fv t.enc] ⟨[],[]⟩) (.tuple [u.enc,.int .i64 e]):=by
 obtain ⟨n,rfl⟩:∃k,n=k+1:=⟨n - 1,by omega⟩;rw [c18];unfold AY at h;cases he:AE f 0 0 t [] with
 | none=>rw [he] at h;cases h
 | some q =>
 obtain ⟨v,s1,e1⟩:=q;rw [he] at h;simp only at h;cases hr:AX f s1 0 e1 v 0 1 with
 | none=>rw [hr] at h;cases h
 | some q =>
 obtain ⟨w,s2,nd2,e2⟩:=q;rw [hr] at h;simp only [Atb] at h;have h1:=(Xt f).1 0 0 t [] v s1 e1 0 he n (by omega);have h2:=AhV f s1 0 e1 v 0 1 w s2 nd2 e2 hr n (by omega);obtain ⟨op,m,ks⟩:=t;rw [An] at h1 ⊢;simp only [Atg] at h1;have c1:=fun k=>AkJ (k:=k) h1 (x:=.fv (.agg [.int .i64 op,.int .i64 m,.sl (ks.map Tm.enc)])) (y:=.nils) (s:=18875393) rfl rfl
  (own:=[(18874368,.row [iv op,iv m,.fv (.sl (ks.map Tm.enc))] false),(18874369,.row [iv 0,iv 0,.nils] false),(18875393,.row [iv 0,iv 0,iv 0] false)])
  (own':=[(18874368,.row [iv op,iv m,.fv (.sl (ks.map Tm.enc))] false),(18874369,.row [iv 0,iv 0,.nils] false),(18875393,.row [iv s1,iv 0,iv e1] false)]) (by simp [Ar]) (by simp [AS])
 have c2:=fun k=>AkX (k:=k) h2 (x:=.fv v.enc) (y:=iv 0) (z:=iv 1) (s:=18875393) rfl rfl rfl
  (own:=[(18874368,.row [iv op,iv m,.fv (.sl (ks.map Tm.enc))] false),(18874369,.row [iv 0,iv 0,.nils] false),(18875393,.row [iv s1,iv 0,iv e1] false)])
  (own':=[(18874368,.row [iv op,iv m,.fv (.sl (ks.map Tm.enc))] false),(18874369,.row [iv 0,iv 0,.nils] false),(18875393,.row [iv s2,iv nd2,iv e2] false)]) (by simp [Ar]) (by simp [AS])
 obtain ⟨wo,wn,wk⟩:=w;rw [An] at c2;by_cases hz:e2=0
 ·rw [if_neg (by simp [hz])] at h;simp only [Atc] at h;obtain ⟨rfl,rfl⟩:=h;subst hz;simp only [Wp,Vz,Wc,V1,Vd,S18,↓XX,XY,↓reduceIte,Nat.reduceBEq,Nat.reduceAdd,Int.reduceEq,Int.reduceLT,Int.reduceLE,↓c1,↓c2,An];exact Aq _ _
 ·rw [if_pos hz] at h;simp only [Atc] at h;obtain ⟨rfl,rfl⟩:=h;simp only [Wp,Vz,Wc,V1,Vd,S18,↓XX,XY,↓reduceIte,Nat.reduceBEq,Nat.reduceAdd,Int.reduceEq,Int.reduceLT,Int.reduceLE,↓c1,↓c2,hz,Tm.z,An];exact AV rfl (by simp) _
end Idl
end Go.Proofs.Ytbkdidonegggdaa

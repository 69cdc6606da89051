/-
  Texts of a proof, part 10: an ideal semantics of the program, its functions in shallow form, contracts of them. No statement of the seat is proved here.
-/
import Derived.KernelRfl
import Derived.Test.YtkfecngimlcfoaaStageWrapK9
set_option linter.all false
noncomputable section
namespace Go.Proofs.Ytkfecngimlcfoaa
namespace Idl
theorem AdY {f:Nat} {G:Aa→Nat→Hp→Option (IV×Hp)} (e:dt.call f=fun ih n=>ar0 (G ih n)) (n:Nat) (h:Hp):SS dt (n+1) f [] h=G (SS dt n) n  h:=by
 show dt.call f (SS dt n) n _ h=_
 rw [e];rfl
theorem B7 {f:Nat} {G:Aa→Nat→IV→Hp→Option (IV×Hp)} (e:dt.call f=fun ih n=>GE (G ih n)) (n:Nat) (a0:IV) (h:Hp):SS dt (n+1) f [a0] h=G (SS dt n) n a0 h:=by
 show dt.call f (SS dt n) n _ h=_
 rw [e];rfl
theorem Bp {f:Nat} {G:Aa→Nat→IV→IV→Hp→Option (IV×Hp)} (e:dt.call f=fun ih n=>DL (G ih n)) (n:Nat) (a0 a1:IV) (h:Hp):SS dt (n+1) f [a0,a1] h=G (SS dt n) n a0 a1 h:=by
 show dt.call f (SS dt n) n _ h=_
 rw [e];rfl
theorem GO {f:Nat} {G:Aa→Nat→IV→IV→IV→Hp→Option (IV×Hp)} (e:dt.call f=fun ih n=>OP (G ih n)) (n:Nat) (a0 a1 a2:IV) (h:Hp):SS dt (n+1) f [a0,a1,a2] h=G (SS dt n) n a0 a1 a2 h:=by
 show dt.call f (SS dt n) n _ h=_
 rw [e];rfl
theorem F7 {f:Nat} {G:Aa→Nat→IV→IV→IV→IV→Hp→Option (IV×Hp)} (e:dt.call f=fun ih n=>N9 (G ih n)) (n:Nat) (a0 a1 a2 a3:IV) (h:Hp):SS dt (n+1) f [a0,a1,a2,a3] h=G (SS dt n) n a0 a1 a2 a3 h:=by
 show dt.call f (SS dt n) n _ h=_
 rw [e];rfl
theorem c9 (n:Nat) (a0 a1 a2:IV) (h:Hp):SS dt (n+1) 9 [a0,a1,a2] h=S9 (SS dt n) n a0 a1 a2 h:=GO (show dt.call 9=fun ih n=>OP (S9 ih n) by kernel_rfl) ..
theorem c12 (n:Nat) (a0:IV) (h:Hp):SS dt (n+1) 12 [a0] h=S12 (SS dt n) n a0 h:=B7 (show dt.call 12=fun ih n=>GE (S12 ih n) by kernel_rfl) ..
theorem c15 (n:Nat) (a0:IV) (h:Hp):SS dt (n+1) 15 [a0] h=S15 (SS dt n) n a0 h:=B7 (show dt.call 15=fun ih n=>GE (S15 ih n) by kernel_rfl) ..
theorem c16 (n:Nat) (a0:IV) (h:Hp):SS dt (n+1) 16 [a0] h=S16 (SS dt n) n a0 h:=B7 (show dt.call 16=fun ih n=>GE (S16 ih n) by kernel_rfl) ..
theorem c17 (n:Nat) (a0 a1:IV) (h:Hp):SS dt (n+1) 17 [a0,a1] h=S17 (SS dt n) n a0 a1 h:=Bp (show dt.call 17=fun ih n=>DL (S17 ih n) by kernel_rfl) ..
theorem c18 (n:Nat) (a0:IV) (h:Hp):SS dt (n+1) 18 [a0] h=S18 (SS dt n) n a0 h:=B7 (show dt.call 18=fun ih n=>GE (S18 ih n) by kernel_rfl) ..
theorem c23 (n:Nat) (a0 a1:IV) (h:Hp):SS dt (n+1) 23 [a0,a1] h=S23 (SS dt n) n a0 a1 h:=Bp (show dt.call 23=fun ih n=>DL (S23 ih n) by kernel_rfl) ..
theorem c24 (n:Nat) (a0 a1:IV) (h:Hp):SS dt (n+1) 24 [a0,a1] h=S24 (SS dt n) n a0 a1 h:=Bp (show dt.call 24=fun ih n=>DL (S24 ih n) by kernel_rfl) ..
theorem c25 (n:Nat) (a0:IV) (h:Hp):SS dt (n+1) 25 [a0] h=S25 (SS dt n) n a0 h:=B7 (show dt.call 25=fun ih n=>GE (S25 ih n) by kernel_rfl) ..
theorem c26 (n:Nat) (a0:IV) (h:Hp):SS dt (n+1) 26 [a0] h=S26 (SS dt n) n a0 h:=B7 (show dt.call 26=fun ih n=>GE (S26 ih n) by kernel_rfl) ..
theorem c27 (n:Nat) (a0:IV) (h:Hp):SS dt (n+1) 27 [a0] h=S27 (SS dt n) n a0 h:=B7 (show dt.call 27=fun ih n=>GE (S27 ih n) by kernel_rfl) ..
theorem c28 (n:Nat) (a0 a1:IV) (h:Hp):SS dt (n+1) 28 [a0,a1] h=S28 (SS dt n) n a0 a1 h:=Bp (show dt.call 28=fun ih n=>DL (S28 ih n) by kernel_rfl) ..
theorem c33 (n:Nat) (a0 a1 a2 a3:IV) (h:Hp):SS dt (n+1) 33 [a0,a1,a2,a3] h=S33 (SS dt n) n a0 a1 a2 a3 h:=F7 (show dt.call 33=fun ih n=>N9 (S33 ih n) by kernel_rfl) ..
theorem c34 (n:Nat) (a0:IV) (h:Hp):SS dt (n+1) 34 [a0] h=S34 (SS dt n) n a0 h:=B7 (show dt.call 34=fun ih n=>GE (S34 ih n) by kernel_rfl) ..
theorem c35 (n:Nat) (a0:IV) (h:Hp):SS dt (n+1) 35 [a0] h=S35 (SS dt n) n a0 h:=B7 (show dt.call 35=fun ih n=>GE (S35 ih n) by kernel_rfl) ..
theorem c36 (n:Nat) (a0 a1:IV) (h:Hp):SS dt (n+1) 36 [a0,a1] h=S36 (SS dt n) n a0 a1 h:=Bp (show dt.call 36=fun ih n=>DL (S36 ih n) by kernel_rfl) ..
theorem c38 (n:Nat) (a0 a1 a2:IV) (h:Hp):SS dt (n+1) 38 [a0,a1,a2] h=S38 (SS dt n) n a0 a1 a2 h:=GO (show dt.call 38=fun ih n=>OP (S38 ih n) by kernel_rfl) ..
theorem c39 (n:Nat) (a0 a1 a2 a3:IV) (h:Hp):SS dt (n+1) 39 [a0,a1,a2,a3] h=S39 (SS dt n) n a0 a1 a2 a3 h:=F7 (show dt.call 39=fun ih n=>N9 (S39 ih n) by kernel_rfl) ..
theorem c40 (n:Nat) (a0:IV) (h:Hp):SS dt (n+1) 40 [a0] h=S40 (SS dt n) n a0 h:=B7 (show dt.call 40=fun ih n=>GE (S40 ih n) by kernel_rfl) ..
theorem c41 (n:Nat) (a0:IV) (h:Hp):SS dt (n+1) 41 [a0] h=S41 (SS dt n) n a0 h:=B7 (show dt.call 41=fun ih n=>GE (S41 ih n) by kernel_rfl) ..
theorem c42 (n:Nat) (a0 a1:IV) (h:Hp):SS dt (n+1) 42 [a0,a1] h=S42 (SS dt n) n a0 a1 h:=Bp (show dt.call 42=fun ih n=>DL (S42 ih n) by kernel_rfl) ..
theorem c45 (n:Nat) (a0 a1 a2:IV) (h:Hp):SS dt (n+1) 45 [a0,a1,a2] h=S45 (SS dt n) n a0 a1 a2 h:=GO (show dt.call 45=fun ih n=>OP (S45 ih n) by kernel_rfl) ..
theorem c47 (n:Nat) (a0:IV) (h:Hp):SS dt (n+1) 47 [a0] h=S47 (SS dt n) n a0 h:=B7 (show dt.call 47=fun ih n=>GE (S47 ih n) by kernel_rfl) ..
theorem c52 (n:Nat) (a0:IV) (h:Hp):SS dt (n+1) 52 [a0] h=S52 (SS dt n) n a0 h:=B7 (show dt.call 52=fun ih n=>GE (S52 ih n) by kernel_rfl) ..
theorem c54 (n:Nat) (a0 a1:IV) (h:Hp):SS dt (n+1) 54 [a0,a1] h=S54 (SS dt n) n a0 a1 h:=Bp (show dt.call 54=fun ih n=>DL (S54 ih n) by kernel_rfl) ..
theorem c55 (n:Nat) (a0 a1:IV) (h:Hp):SS dt (n+1) 55 [a0,a1] h=S55 (SS dt n) n a0 a1 h:=Bp (show dt.call 55=fun ih n=>DL (S55 ih n) by kernel_rfl) ..
theorem c56 (n:Nat) (a0 a1:IV) (h:Hp):SS dt (n+1) 56 [a0,a1] h=S56 (SS dt n) n a0 a1 h:=Bp (show dt.call 56=fun ih n=>DL (S56 ih n) by kernel_rfl) ..
theorem c58 (n:Nat) (a0 a1 a2 a3:IV) (h:Hp):SS dt (n+1) 58 [a0,a1,a2,a3] h=S58 (SS dt n) n a0 a1 a2 a3 h:=F7 (show dt.call 58=fun ih n=>N9 (S58 ih n) by kernel_rfl) ..
theorem c59 (n:Nat) (a0 a1 a2 a3:IV) (h:Hp):SS dt (n+1) 59 [a0,a1,a2,a3] h=S59 (SS dt n) n a0 a1 a2 a3 h:=F7 (show dt.call 59=fun ih n=>N9 (S59 ih n) by kernel_rfl) ..
theorem c60 (n:Nat) (a0 a1 a2:IV) (h:Hp):SS dt (n+1) 60 [a0,a1,a2] h=S60 (SS dt n) n a0 a1 a2 h:=GO (show dt.call 60=fun ih n=>OP (S60 ih n) by kernel_rfl) ..
theorem c61 (n:Nat) (a0 a1 a2 a3:IV) (h:Hp):SS dt (n+1) 61 [a0,a1,a2,a3] h=S61 (SS dt n) n a0 a1 a2 a3 h:=F7 (show dt.call 61=fun ih n=>N9 (S61 ih n) by kernel_rfl) ..
theorem c62 (n:Nat) (a0 a1 a2:IV) (h:Hp):SS dt (n+1) 62 [a0,a1,a2] h=S62 (SS dt n) n a0 a1 a2 h:=GO (show dt.call 62=fun ih n=>OP (S62 ih n) by kernel_rfl) ..
theorem c63 (n:Nat) (a0 a1 a2:IV) (h:Hp):SS dt (n+1) 63 [a0,a1,a2] h=S63 (SS dt n) n a0 a1 a2 h:=GO (show dt.call 63=fun ih n=>OP (S63 ih n) by kernel_rfl) ..
theorem c64 (n:Nat) (h:Hp):SS dt (n+1) 64 [] h=S64 (SS dt n) n  h:=AdY (show dt.call 64=fun ih n=>ar0 (S64 ih n) by kernel_rfl) ..
theorem c65 (n:Nat) (a0 a1 a2 a3:IV) (h:Hp):SS dt (n+1) 65 [a0,a1,a2,a3] h=S65 (SS dt n) n a0 a1 a2 a3 h:=F7 (show dt.call 65=fun ih n=>N9 (S65 ih n) by kernel_rfl) ..
theorem c66 (n:Nat) (a0 a1 a2 a3:IV) (h:Hp):SS dt (n+1) 66 [a0,a1,a2,a3] h=S66 (SS dt n) n a0 a1 a2 a3 h:=F7 (show dt.call 66=fun ih n=>N9 (S66 ih n) by kernel_rfl) ..
theorem c67 (n:Nat) (a0 a1 a2:IV) (h:Hp):SS dt (n+1) 67 [a0,a1,a2] h=S67 (SS dt n) n a0 a1 a2 h:=GO (show dt.call 67=fun ih n=>OP (S67 ih n) by kernel_rfl) ..
theorem c68 (n:Nat) (a0 a1 a2:IV) (h:Hp):SS dt (n+1) 68 [a0,a1,a2] h=S68 (SS dt n) n a0 a1 a2 h:=GO (show dt.call 68=fun ih n=>OP (S68 ih n) by kernel_rfl) ..
theorem c69 (n:Nat) (a0:IV) (h:Hp):SS dt (n+1) 69 [a0] h=S69 (SS dt n) n a0 h:=B7 (show dt.call 69=fun ih n=>GE (S69 ih n) by kernel_rfl) ..
theorem c70 (n:Nat) (h:Hp):SS dt (n+1) 70 [] h=S70 (SS dt n) n  h:=AdY (show dt.call 70=fun ih n=>ar0 (S70 ih n) by kernel_rfl) ..
theorem c71 (n:Nat) (a0 a1 a2:IV) (h:Hp):SS dt (n+1) 71 [a0,a1,a2] h=S71 (SS dt n) n a0 a1 a2 h:=GO (show dt.call 71=fun ih n=>OP (S71 ih n) by kernel_rfl) ..
theorem c72 (n:Nat) (a0 a1 a2 a3:IV) (h:Hp):SS dt (n+1) 72 [a0,a1,a2,a3] h=S72 (SS dt n) n a0 a1 a2 a3 h:=F7 (show dt.call 72=fun ih n=>N9 (S72 ih n) by kernel_rfl) ..
theorem c73 (n:Nat) (a0 a1:IV) (h:Hp):SS dt (n+1) 73 [a0,a1] h=S73 (SS dt n) n a0 a1 h:=Bp (show dt.call 73=fun ih n=>DL (S73 ih n) by kernel_rfl) ..
theorem c74 (n:Nat) (a0 a1:IV) (h:Hp):SS dt (n+1) 74 [a0,a1] h=S74 (SS dt n) n a0 a1 h:=Bp (show dt.call 74=fun ih n=>DL (S74 ih n) by kernel_rfl) ..
theorem c86 (n:Nat) (a0:IV) (h:Hp):SS dt (n+1) 86 [a0] h=S86 (SS dt n) n a0 h:=B7 (show dt.call 86=fun ih n=>GE (S86 ih n) by kernel_rfl) ..
theorem c87 (n:Nat) (a0 a1:IV) (h:Hp):SS dt (n+1) 87 [a0,a1] h=S87 (SS dt n) n a0 a1 h:=Bp (show dt.call 87=fun ih n=>DL (S87 ih n) by kernel_rfl) ..
theorem c88 (n:Nat) (a0 a1:IV) (h:Hp):SS dt (n+1) 88 [a0,a1] h=S88 (SS dt n) n a0 a1 h:=Bp (show dt.call 88=fun ih n=>DL (S88 ih n) by kernel_rfl) ..
theorem c89 (n:Nat) (a0 a1:IV) (h:Hp):SS dt (n+1) 89 [a0,a1] h=S89 (SS dt n) n a0 a1 h:=Bp (show dt.call 89=fun ih n=>DL (S89 ih n) by kernel_rfl) ..
theorem c90 (n:Nat) (a0 a1 a2 a3:IV) (h:Hp):SS dt (n+1) 90 [a0,a1,a2,a3] h=S90 (SS dt n) n a0 a1 a2 a3 h:=F7 (show dt.call 90=fun ih n=>N9 (S90 ih n) by kernel_rfl) ..
theorem c91 (n:Nat) (a0:IV) (h:Hp):SS dt (n+1) 91 [a0] h=S91 (SS dt n) n a0 h:=B7 (show dt.call 91=fun ih n=>GE (S91 ih n) by kernel_rfl) ..
theorem c92 (n:Nat) (a0 a1:IV) (h:Hp):SS dt (n+1) 92 [a0,a1] h=S92 (SS dt n) n a0 a1 h:=Bp (show dt.call 92=fun ih n=>DL (S92 ih n) by kernel_rfl) ..
theorem c93 (n:Nat) (a0:IV) (h:Hp):SS dt (n+1) 93 [a0] h=S93 (SS dt n) n a0 h:=B7 (show dt.call 93=fun ih n=>GE (S93 ih n) by kernel_rfl) ..
theorem c94 (n:Nat) (a0 a1:IV) (h:Hp):SS dt (n+1) 94 [a0,a1] h=S94 (SS dt n) n a0 a1 h:=Bp (show dt.call 94=fun ih n=>DL (S94 ih n) by kernel_rfl) ..
theorem c95 (n:Nat) (a0 a1:IV) (h:Hp):SS dt (n+1) 95 [a0,a1] h=S95 (SS dt n) n a0 a1 h:=Bp (show dt.call 95=fun ih n=>DL (S95 ih n) by kernel_rfl) ..
theorem c96 (n:Nat) (a0 a1:IV) (h:Hp):SS dt (n+1) 96 [a0,a1] h=S96 (SS dt n) n a0 a1 h:=Bp (show dt.call 96=fun ih n=>DL (S96 ih n) by kernel_rfl) ..
theorem c97 (n:Nat) (a0 a1:IV) (h:Hp):SS dt (n+1) 97 [a0,a1] h=S97 (SS dt n) n a0 a1 h:=Bp (show dt.call 97=fun ih n=>DL (S97 ih n) by kernel_rfl) ..
theorem c98 (n:Nat) (a0 a1:IV) (h:Hp):SS dt (n+1) 98 [a0,a1] h=S98 (SS dt n) n a0 a1 h:=Bp (show dt.call 98=fun ih n=>DL (S98 ih n) by kernel_rfl) ..
theorem c99 (n:Nat) (a0:IV) (h:Hp):SS dt (n+1) 99 [a0] h=S99 (SS dt n) n a0 h:=B7 (show dt.call 99=fun ih n=>GE (S99 ih n) by kernel_rfl) ..
theorem AnX (n:Nat) (a0 a1:IV) (h:Hp):SS dt (n+1) 100 [a0,a1] h=Vi (SS dt n) n a0 a1 h:=Bp (show dt.call 100=fun ih n=>DL (Vi ih n) by kernel_rfl) ..
theorem Aol (n:Nat) (a0 a1:IV) (h:Hp):SS dt (n+1) 101 [a0,a1] h=Aft (SS dt n) n a0 a1 h:=Bp (show dt.call 101=fun ih n=>DL (Aft ih n) by kernel_rfl) ..
theorem Ao0 (n:Nat) (a0 a1:IV) (h:Hp):SS dt (n+1) 102 [a0,a1] h=S102 (SS dt n) n a0 a1 h:=Bp (show dt.call 102=fun ih n=>DL (S102 ih n) by kernel_rfl) ..
theorem AoE (n:Nat) (a0 a1 a2 a3:IV) (h:Hp):SS dt (n+1) 103 [a0,a1,a2,a3] h=AcT (SS dt n) n a0 a1 a2 a3 h:=F7 (show dt.call 103=fun ih n=>N9 (AcT ih n) by kernel_rfl) ..
theorem Aop (n:Nat) (a0 a1:IV) (h:Hp):SS dt (n+1) 104 [a0,a1] h=Sw (SS dt n) n a0 a1 h:=Bp (show dt.call 104=fun ih n=>DL (Sw ih n) by kernel_rfl) ..
theorem Aob (n:Nat) (a0 a1:IV) (h:Hp):SS dt (n+1) 107 [a0,a1] h=PU (SS dt n) n a0 a1 h:=Bp (show dt.call 107=fun ih n=>DL (PU ih n) by kernel_rfl) ..
theorem An4 (n:Nat) (a0:IV) (h:Hp):SS dt (n+1) 108 [a0] h=AbS (SS dt n) n a0 h:=B7 (show dt.call 108=fun ih n=>GE (AbS ih n) by kernel_rfl) ..
theorem Ao2 (n:Nat) (a0 a1:IV) (h:Hp):SS dt (n+1) 109 [a0,a1] h=Ab9 (SS dt n) n a0 a1 h:=Bp (show dt.call 109=fun ih n=>DL (Ab9 ih n) by kernel_rfl) ..
theorem An7 (n:Nat) (a0 a1:IV) (h:Hp):SS dt (n+1) 110 [a0,a1] h=S110 (SS dt n) n a0 a1 h:=Bp (show dt.call 110=fun ih n=>DL (S110 ih n) by kernel_rfl) ..
theorem AoA (n:Nat) (a0 a1:IV) (h:Hp):SS dt (n+1) 111 [a0,a1] h=T9 (SS dt n) n a0 a1 h:=Bp (show dt.call 111=fun ih n=>DL (T9 ih n) by kernel_rfl) ..
def UU1:=Are @M0.eq_1<|Are @M8.eq_1<|Are @M1.eq_1<|Are @Mv.eq_1<|Are @NA.eq_1<|Are @MP.eq_1<|Are @NY.eq_1<|Are @Mh.eq_1<|Are @My.eq_1<|Are @Ub.eq_1<|Are @MY.eq_1<|Are @Nf.eq_1<|Are @Mz.eq_1<|Are @NR.eq_1<|Are @MH.eq_1<|Are @MW.eq_1<|@S9.eq_1
def UU2:=Are @Ia.eq_1<|Are @Is.eq_1<|Are @Ik.eq_1<|Are @Iz.eq_1<|Are @HG.eq_1<|Are @Im.eq_1<|Are @HH.eq_1<|Are @IB.eq_1<|Are @Ie.eq_1<|Are @Ip.eq_1<|Are @In.eq_1<|Are @HN.eq_1<|Are @HM.eq_1<|Are @If.eq_1<|Are @Ij.eq_1<|Are @HE.eq_1<|@S90.eq_1
def UU3:=Are @AdE.eq_1<|Are @Aev.eq_1<|Are @Ad1.eq_1<|Are @Afk.eq_1<|Are @Ad7.eq_1<|@S54.eq_1
def UU4:=Are @Mw.eq_1<|Are @Mc.eq_1<|Are @Mq.eq_1<|Are @MA.eq_1<|Are @Mp.eq_1<|Are @Nd.eq_1<|@S42.eq_1
def UU:=Are @Pa.eq_1<|Are @Si.eq_1<|Are @Qz.eq_1<|Are @Se.eq_1<|Are @Qu.eq_1<|Are @Rs.eq_1<|Are @RY.eq_1<|Are @Qb.eq_1<|Are @PC.eq_1<|Are @QK.eq_1<|Are @Pf.eq_1<|Are @QH.eq_1<|Are @Qo.eq_1<|Are @Qr.eq_1<|Are @Ru.eq_1<|Are @Rj.eq_1<|Are @Rh.eq_1<|Are @RZ.eq_1<|Are @R3.eq_1<|Are @Q2.eq_1<|Are @R8.eq_1<|Are @R6.eq_1<|Are @PT.eq_1<|Are @QZ.eq_1<|Are @Rm.eq_1<|Are @Qi.eq_1<|Are @Sf.eq_1<|Are @Qa.eq_1<|Are @P1.eq_1<|Are @Po.eq_1<|Are @Pz.eq_1<|Are @PQ.eq_1<|Are @Il.eq_1<|Are @Qc.eq_1<|@S86.eq_1
def UU6:=Are @Ez.eq_1<|Are @Eh.eq_1<|Are @En.eq_1<|Are @D3.eq_1<|Are @D4.eq_1<|Are @Ek.eq_1<|Are @GK.eq_1<|Are @EB.eq_1<|Are @Eo.eq_1<|Are @EA.eq_1<|Are @Ec.eq_1<|Are @D5.eq_1<|Are @Ej.eq_1<|Are @Et.eq_1<|Are @D6.eq_1<|Are @Eu.eq_1<|Are @Er.eq_1<|Are @Ew.eq_1<|Are @D9.eq_1<|Are @Es.eq_1<|Are @Em.eq_1<|Are @Eg.eq_1<|Are @Ei.eq_1<|Are @Ef.eq_1<|Are @Ep.eq_1<|Are @Ed.eq_1<|Are @Eb.eq_1<|Are @D7.eq_1<|Are @Ea.eq_1<|@S61.eq_1
def Oa:=Are @ZB.eq_1<|Are @Vw.eq_1<|Are @YH.eq_1<|Are @Y4.eq_1<|Are @Abc.eq_1<|Are @Zc.eq_1<|Are @Y1.eq_1<|Are @Aah.eq_1<|Are @Aak.eq_1<|Are @Yo.eq_1<|Are @Abn.eq_1<|Are @AaN.eq_1<|Are @XS.eq_1<|Are @Aa6.eq_1<|Are @Wo.eq_1<|Are @VQ.eq_1<|Are @Xy.eq_1<|Are @YG.eq_1<|Are @Vz.eq_1<|Are @V3.eq_1<|Are @VZ.eq_1<|Are @XA.eq_1<|Are @YW.eq_1<|Are @Zu.eq_1<|Are @Yz.eq_1<|Are @YU.eq_1<|Are @WG.eq_1<|Are @Aap.eq_1<|Are @Zw.eq_1<|Are @Xw.eq_1<|Are @YA.eq_1<|Are @Yb.eq_1<|Are @WK.eq_1<|Are @Aau.eq_1<|Are @W2.eq_1<|Are @Ws.eq_1<|Are @ZN.eq_1<|Are @Aae.eq_1<|Are @Aa4.eq_1<|Are @Ze.eq_1<|Are @YI.eq_1<|Are @Zm.eq_1<|Are @Xo.eq_1<|Are @Aa3.eq_1<|Are @VG.eq_1<|Are @Xn.eq_1<|Are @ZZ.eq_1<|Are @Aaa.eq_1<|Are @YQ.eq_1<|Are @Aa1.eq_1<|@S88.eq_1
def UU8:=Are @H3.eq_1<|Are @Iv.eq_1<|Are @HS.eq_1<|Are @HF.eq_1<|Are @HL.eq_1<|Are @IA.eq_1<|Are @IE.eq_1<|Are @H7.eq_1<|Are @HB.eq_1<|Are @H5.eq_1<|Are @Ib.eq_1<|Are @It.eq_1<|Are @H1.eq_1<|Are @HU.eq_1<|Are @HZ.eq_1<|Are @HY.eq_1<|Are @Ii.eq_1<|Are @H9.eq_1<|Are @H6.eq_1<|Are @Wn.eq_1<|Are @Iq.eq_1<|Are @H0.eq_1<|Are @HV.eq_1<|@S62.eq_1
def UU9:=Are @Aec.eq_1<|Are @AfD.eq_1<|Are @Aeo.eq_1<|Are @AdJ.eq_1<|Are @Aes.eq_1<|Are @AcB.eq_1<|@S93.eq_1
def AeE:=Are @JZ.eq_1<|Are @JA.eq_1<|Are @JF.eq_1<|Are @J4.eq_1<|Are @Jg.eq_1<|Are @Ka.eq_1<|Are @Jr.eq_1<|@S69.eq_1
def Uv:=Are @Dw.eq_1<|Are @C3.eq_1<|Are @CZ.eq_1<|Are @C0.eq_1<|Are @Dd.eq_1<|Are @Dj.eq_1<|Are @Cr.eq_1<|Are @C6.eq_1<|Are @C1.eq_1<|Are @Da.eq_1<|Are @CY.eq_1<|Are @DK.eq_1<|Are @DG.eq_1<|Are @C7.eq_1<|Are @Dn.eq_1<|Are @DH.eq_1<|Are @DA.eq_1<|Are @Di.eq_1<|Are @CX.eq_1<|Are @DJ.eq_1<|Are @Dc.eq_1<|Are @Du.eq_1<|Are @C5.eq_1<|Are @CW.eq_1<|Are @Dk.eq_1<|Are @EP.eq_1<|Are @DB.eq_1<|Are @Db.eq_1<|Are @DI.eq_1<|Are @Dl.eq_1<|Are @Dr.eq_1<|@S72.eq_1
def Acv:=Are @Zv.eq_1<|Are @Aal.eq_1<|Are @YN.eq_1<|Are @Abs.eq_1<|Are @AaU.eq_1<|@S110.eq_1
def Afc:=Are @LC.eq_1<|Are @LQ.eq_1<|Are @Lz.eq_1<|Are @LB.eq_1<|Are @LL.eq_1<|Are @LY.eq_1<|Are @LN.eq_1<|Are @LI.eq_1<|Are @Zk.eq_1<|Are @LD.eq_1<|Are @Ls.eq_1<|Are @LG.eq_1<|Are @L8.eq_1<|Are @L7.eq_1<|Are @LM.eq_1<|@S71.eq_1
def UE:=Are @Tk.eq_1<|Are @TC.eq_1<|Are @Sv.eq_1<|Are @S7.eq_1<|Are @Ti.eq_1<|Are @TR.eq_1<|Are @S5.eq_1<|Are @TE.eq_1<|Are @SL.eq_1<|Are @SX.eq_1<|Are @Tv.eq_1<|Are @T6.eq_1<|@S102.eq_1
def Ads:=Are @JG.eq_1<|Are @Jm.eq_1<|Are @JU.eq_1<|Are @Jn.eq_1<|Are @Ki.eq_1<|Are @JL.eq_1<|Are @Jf.eq_1<|Are @JQ.eq_1<|Are @Kv.eq_1<|Are @J7.eq_1<|Are @JY.eq_1<|Are @JV.eq_1<|Are @Kk.eq_1<|Are @JC.eq_1<|@S63.eq_1
def Un:=Are @Q9.eq_1<|Are @Sb.eq_1<|Are @P9.eq_1<|Are @Yg.eq_1<|Are @Py.eq_1<|Are @Pi.eq_1<|Are @R0.eq_1<|Are @Rq.eq_1<|Are @Pu.eq_1<|Are @PS.eq_1<|Are @PN.eq_1<|@S68.eq_1
def Ado:=Are @Ad5.eq_1<|Are @AdZ.eq_1<|Are @AdF.eq_1<|Are @Ad6.eq_1<|Are @Ae7.eq_1<|@S89.eq_1
def AcH:=Are @AcS.eq_1<|Are @AeS.eq_1<|Are @Adn.eq_1<|Are @AcF.eq_1<|Are @AeA.eq_1<|@S92.eq_1
def Jq:=Are @Xm.eq_1<|Are @AaP.eq_1<|Are @XH.eq_1<|Are @VB.eq_1<|Are @AaQ.eq_1<|Are @VN.eq_1<|Are @Xe.eq_1<|Are @ZD.eq_1<|Are @Zd.eq_1<|Are @W5.eq_1<|Are @WE.eq_1<|Are @Aac.eq_1<|Are @Zb.eq_1<|Are @YL.eq_1<|Are @YF.eq_1<|Are @Abo.eq_1<|Are @VC.eq_1<|Are @Xv.eq_1<|Are @WC.eq_1<|Are @Aat.eq_1<|Are @YP.eq_1<|Are @Yp.eq_1<|Are @XB.eq_1<|Are @W8.eq_1<|Are @ZL.eq_1<|Are @Wl.eq_1<|Are @Aav.eq_1<|Are @Wr.eq_1<|Are @YO.eq_1<|Are @Abg.eq_1<|Are @Aao.eq_1<|Are @V9.eq_1<|Are @Wz.eq_1<|Are @Zx.eq_1<|Are @VJ.eq_1<|Are @WQ.eq_1<|Are @Y5.eq_1<|Are @WN.eq_1<|Are @Z9.eq_1<|Are @Zf.eq_1<|Are @Yf.eq_1<|@S39.eq_1
def Nb:=Are @Yc.eq_1<|Are @Xl.eq_1<|Are @YB.eq_1<|Are @Aaq.eq_1<|Are @AaH.eq_1<|Are @Xd.eq_1<|Are @WT.eq_1<|Are @Vx.eq_1<|Are @XT.eq_1<|Are @Xu.eq_1<|Are @AaT.eq_1<|Are @Xc.eq_1<|Are @VS.eq_1<|Are @Xa.eq_1<|Are @XW.eq_1<|Are @Xt.eq_1<|Are @Wi.eq_1<|Are @Wy.eq_1<|Are @Aaw.eq_1<|Are @AaC.eq_1<|Are @Xg.eq_1<|Are @Aaf.eq_1<|Are @WU.eq_1<|Are @WB.eq_1<|Are @Za.eq_1<|Are @WP.eq_1<|Are @AaK.eq_1<|Are @X4.eq_1<|Are @XG.eq_1<|Are @X2.eq_1<|Are @Yi.eq_1<|Are @WX.eq_1<|Are @Ye.eq_1<|Are @ZT.eq_1<|Are @XU.eq_1<|Are @Zs.eq_1<|Are @W0.eq_1<|Are @Z5.eq_1<|Are @Wf.eq_1<|Are @Aaz.eq_1<|Are @V0.eq_1<|Are @YV.eq_1<|Are @Zy.eq_1<|Are @X3.eq_1<|@S33.eq_1
def Sy:=Are @Yk.eq_1<|Are @VA.eq_1<|Are @Wc.eq_1<|Are @Xh.eq_1<|Are @Aai.eq_1<|Are @XQ.eq_1<|Are @ZX.eq_1<|Are @Xz.eq_1<|Are @VV.eq_1<|Are @VP.eq_1<|Are @Yr.eq_1<|Are @Y9.eq_1<|Are @Aar.eq_1<|Are @VY.eq_1<|Are @VI.eq_1<|Are @Yn.eq_1<|Are @Yt.eq_1<|Are @AaS.eq_1<|Are @AaJ.eq_1<|Are @Z1.eq_1<|Are @WW.eq_1<|Are @XC.eq_1<|Are @WJ.eq_1<|Are @Vv.eq_1<|Are @Ya.eq_1<|Are @Xb.eq_1<|Are @Abq.eq_1<|Are @Aam.eq_1<|Are @Z7.eq_1<|Are @Y8.eq_1<|Are @Y2.eq_1<|Are @Xj.eq_1<|Are @V4.eq_1<|Are @Abl.eq_1<|Are @ZE.eq_1<|Are @Yx.eq_1<|Are @ZV.eq_1<|Are @YZ.eq_1<|Are @ZK.eq_1<|Are @Zq.eq_1<|Are @Zo.eq_1<|Are @WI.eq_1<|Are @W7.eq_1<|Are @Abe.eq_1<|Are @VD.eq_1<|Are @AaV.eq_1<|Are @ZY.eq_1<|Are @Wt.eq_1<|Are @Zh.eq_1<|Are @ZH.eq_1<|Are @Aa0.eq_1<|Are @VL.eq_1<|Are @Zp.eq_1<|Are @Wb.eq_1<|Are @ZW.eq_1<|Are @W4.eq_1<|@S59.eq_1
def I4:=Are @Yw.eq_1<|Are @Wj.eq_1<|Are @AaY.eq_1<|Are @Yv.eq_1<|Are @AaM.eq_1<|Are @Y7.eq_1<|Are @Z8.eq_1<|Are @VM.eq_1<|Are @Wk.eq_1<|Are @Wv.eq_1<|Are @ZR.eq_1<|Are @Abb.eq_1<|Are @W9.eq_1<|Are @ZG.eq_1<|Are @YY.eq_1<|Are @WD.eq_1<|Are @V1.eq_1<|Are @XL.eq_1<|Are @ZJ.eq_1<|Are @YR.eq_1<|Are @Zr.eq_1<|Are @Wd.eq_1<|Are @WF.eq_1<|Are @Wx.eq_1<|Are @AaG.eq_1<|Are @ZC.eq_1<|Are @Abj.eq_1<|Are @Wa.eq_1<|Are @Y6.eq_1<|Are @W1.eq_1<|Are @YM.eq_1<|Are @YS.eq_1<|Are @Wh.eq_1<|Are @ZF.eq_1<|Are @Aag.eq_1<|Are @Xq.eq_1<|Are @AaF.eq_1<|Are @AaO.eq_1<|Are @WH.eq_1<|Are @VH.eq_1<|Are @ZM.eq_1<|Are @VE.eq_1<|Are @Yq.eq_1<|Are @XP.eq_1<|Are @Yl.eq_1<|Are @X6.eq_1<|Are @Ww.eq_1<|Are @Aa7.eq_1<|Are @AaD.eq_1<|Are @Abd.eq_1<|Are @Aay.eq_1<|Are @Wp.eq_1<|Are @Abr.eq_1<|Are @ZO.eq_1<|Are @YE.eq_1<|Are @ZP.eq_1<|Are @Abi.eq_1<|Are @Yu.eq_1<|Are @VF.eq_1<|@S66.eq_1
def J5:=Are @Zg.eq_1<|Are @VW.eq_1<|Are @XZ.eq_1<|Are @WY.eq_1<|Are @Aa8.eq_1<|Are @Vt.eq_1<|Are @VO.eq_1<|Are @Y0.eq_1<|Are @XK.eq_1<|Are @Abp.eq_1<|Are @Abk.eq_1<|Are @Zt.eq_1<|Are @Xr.eq_1<|Are @AaR.eq_1<|Are @Xs.eq_1<|Are @Vu.eq_1<|Are @YJ.eq_1<|Are @Aab.eq_1<|Are @Aan.eq_1<|Are @Wq.eq_1<|Are @X0.eq_1<|Are @VR.eq_1<|Are @XR.eq_1<|Are @Yj.eq_1<|Are @YT.eq_1<|Are @V6.eq_1<|Are @Aa5.eq_1<|Are @X9.eq_1<|@S38.eq_1
def On:=Are @Qv.eq_1<|Are @Rn.eq_1<|Are @Sg.eq_1<|Are @QC.eq_1<|Are @Ri.eq_1<|Are @QA.eq_1<|Are @Rr.eq_1<|Are @Qn.eq_1<|Are @Pr.eq_1<|Are @RW.eq_1<|Are @RC.eq_1<|Are @Ry.eq_1<|Are @PZ.eq_1<|Are @QS.eq_1<|Are @Ym.eq_1<|@S58.eq_1
section
variable {β:Type} {E:Env} {t:TypeId}
abbrev iv (n:Int):IV:=.fv (.int .i64 n)
theorem Akp (c:Prop) [Decidable c] (a b:Option β):Aj (.fv (.bool (decide c))) a b=if c then a else b:=by
 by_cases h:c
 ·rw [decide_eq_true h,if_pos h];rfl
 ·rw [decide_eq_false h,if_neg h];rfl
theorem Ahv (o:Nat) (r:Ref) (off:Nat) (k:IV→Option β):Ac o (.ptr r off) k=k (.ptr r (off+o)):=by
 show (DN (off+o) fun o=>k (.ptr r o))=_
 rw [BE]
theorem O1 (o:Nat) (cs:List FV) (off:Nat) (k:IV→Option β):Ac o (.fv (.fp cs off)) k=k (.fv (.fp cs (off+o))):=by
 show (DN (off+o) fun o=>k (.fv (.fp cs o)))=_
 rw [BE]
theorem AjT {size:Nat} {es:List FV} {n:Nat} {el:FV} (he:es[n]?=some el) (hl:el.cells.length=size) (k:IV→Option β):Bf size (.fv (.sl es)) (iv n) k=k (.fv (.fp el.cells 0)):=by
 show (C4 es n fun el=>elK size el k)=_
 rw [CL,he]
 show elK size el k=_
 rw [Ade,if_pos hl]
theorem KU {op:BinOp} {g:Nat→Nat→Bool} (hg:∀a b:Nat,Fp E op t (iv a) (iv b)=some (.fv (.bool (g a b)))) (a b:Int) (k:IV→Option β) :
  PL E t op g (iv a) (iv b) k=(Fp E op t (iv a) (iv b)).bind k:=by
 cases a with
 | ofNat a =>
  cases b with
  | ofNat b =>
   show AeF (g a b) k=_
   rw [Tl,show Fp E op t (iv (Int.ofNat a)) (iv (Int.ofNat b))=some (.fv (.bool (g a b))) from hg a b]
   rfl
  | negSucc b =>
   show CA E t op _ _ k=_
   rw [CA,Cs]
 | negSucc a =>
  show CA E t op _ _ k=_
  rw [CA,Cs]
theorem Al6 (a b:Int) (k:IV→Option β):AZ E t (iv a) (iv b) k=k (.fv (.bool (decide (a=b)))):=by
 rw [AZ,KU (fun a b=>by
  show some (IV.fv (.bool ((a:Int) == (b:Int))))=_
  rw [ID];congr 3;exact decide_eq_decide.2 Int.ofNat_inj)]
 rfl
theorem Any (a b:Int) (k:IV→Option β):Ig E t (iv a) (iv b) k=k (.fv (.bool (!decide (a=b)))):=by
 rw [Ig,KU (fun a b=>by
  show some (IV.fv (.bool ((a:Int) != (b:Int))))=_
  rw [ID];congr 3
  show (!decide ((a:Int)=(b:Int)))=!decide (a=b)
  congr 1;exact decide_eq_decide.2 Int.ofNat_inj)]
 rfl
theorem Al4 (a b:Int) (k:IV→Option β):G6 E t (iv a) (iv b) k=k (.fv (.bool (decide (a<b)))):=by
 rw [G6,KU (fun a b=>by
  show some (IV.fv (.bool (decide ((a:Int)<(b:Int)))))=_
  rw [Bb];congr 3;exact decide_eq_decide.2 (by omega))]
 rfl
theorem Amw (a b:Int) (k:IV→Option β):leS E t (iv a) (iv b) k=k (.fv (.bool (decide (a≤b)))):=by
 rw [leS,KU (fun a b=>by
  show some (IV.fv (.bool (decide ((a:Int)≤(b:Int)))))=_
  rw [Bb];congr 3;exact decide_eq_decide.2 (by omega))]
 rfl
theorem AnE (b:Bool) (k:IV→Option β):DP (N8 .not (.fv (.bool b))) k=k (.fv (.bool !b)):=by
 rw [Cs];rfl
end
end Idl
end Go.Proofs.Ytkfecngimlcfoaa
namespace Go.Proofs.Ytkfecngimlcfoaa
namespace Idl
section
variable {β:Type} {α:Type}
theorem n0 (a:α) (l:List α) (k:α→Option β):C4 (a::l) 0 k=k a:=rfl
theorem n1 (a b:α) (l:List α) (k:α→Option β):C4 (a::b::l) 1 k=k b:=rfl
theorem n2 (a b c:α) (l:List α) (k:α→Option β):C4 (a::b::c::l) 2 k=k c:=rfl
theorem n3 (a b c d:α) (l:List α) (k:α→Option β):C4 (a::b::c::d::l) 3 k=k d:=rfl
theorem n4 (a b c d e:α) (l:List α) (k:α→Option β):C4 (a::b::c::d::e::l) 4 k=k e:=rfl
theorem n5 (a b c d e f:α) (l:List α) (k:α→Option β):C4 (a::b::c::d::e::f::l) 5 k=k f:=rfl
theorem n6 (a b c d e f g:α) (l:List α) (k:α→Option β):C4 (a::b::c::d::e::f::g::l) 6 k=k g:=rfl
theorem d0 (l:List α) (k:List α→Option β):Fd l 0 k=k l:=by cases l<;>rfl
theorem d1 (a:α) (l:List α) (k:List α→Option β):Fd (a::l) 1 k=k l:=by cases l<;>rfl
theorem d2 (a b:α) (l:List α) (k:List α→Option β):Fd (a::b::l) 2 k=k l:=by cases l<;>rfl
theorem d3 (a b c:α) (l:List α) (k:List α→Option β):Fd (a::b::c::l) 3 k=k l:=by cases l<;>rfl
theorem d4 (a b c d:α) (l:List α) (k:List α→Option β):Fd (a::b::c::d::l) 4 k=k l:=by cases l<;>rfl
theorem t1 (a:α) (l:List α) (k:List α→Option β):Fv (a::l) 1 k=k [a]:=by cases l<;>rfl
theorem t2 (a b:α) (l:List α) (k:List α→Option β):Fv (a::b::l) 2 k=k [a,b]:=by cases l<;>rfl
theorem t3 (a b c:α) (l:List α) (k:List α→Option β):Fv (a::b::c::l) 3 k=k [a,b,c]:=by cases l<;>rfl
theorem t4 (a b c d:α) (l:List α) (k:List α→Option β):Fv (a::b::c::d::l) 4 k=k [a,b,c,d]:=by cases l<;>rfl
theorem t7 (a b c d e f g:α) (l:List α) (k:List α→Option β):Fv (a::b::c::d::e::f::g::l) 7 k=k [a,b,c,d,e,f,g]:=by cases l<;>rfl
theorem Aeu (l:List α) (k:List α→Option β):spK l k=k l:=Hh l k
theorem ap0 (us:List α) (k:List α→Option β):Oi [] us k=k us:=rfl
theorem ap1 (u:α) (l us:List α) (k:List α→Option β):Oi (u::l) us k=Oi l us fun w=>k (u::w):=rfl
theorem Anv (a:α) (l:List α) (k:α→List α→Option β):AA (a::l) k=k a l:=rfl
theorem c_t {γ:Type} (a b:γ):cond true a b=a:=rfl
theorem c_f {γ:Type} (a b:γ):cond false a b=b:=rfl
end
section
variable {β:Type}
theorem AgQ {s j:Nat} (h:(s == j)=false):Nat.beq s j=false:=by
 rw [ID];simpa using h
theorem K6 (s:Nat) (own:List (Nat×Blk)) (ext:List Blk) (k:Blk→Option β):CV (.own s) ⟨own,ext⟩ k=Ga own s k:=rfl
theorem Amu (j:Nat) (own:List (Nat×Blk)) (ext:List Blk) (k:Blk→Option β):CV (.ext j) ⟨own,ext⟩ k=C4 ext j k:=rfl
theorem Ah9 (s:Nat) (b:Blk) (l:List (Nat×Blk)) (k:Blk→Option β):Ga ((s,b)::l) s k=k b:=by
 show cond (Nat.beq s s) (k b) _=_
 rw [show Nat.beq s s=true from Nat.beq_refl s]
 rfl
theorem Ajn {s j:Nat} (hne:(s == j)=false) (b:Blk) (l:List (Nat×Blk)) (k:Blk→Option β):Ga ((j,b)::l) s k=Ga l s k:=by
 show cond (Nat.beq s j) (k b) _=_
 rw [show Nat.beq s j=false from AgQ hne]
 rfl
theorem Am2 (s:Nat) (b:Blk) (k:List (Nat×Blk)→Option β):A0 [] s b k=k [(s,b)]:=rfl
theorem Aig (s:Nat) (b c:Blk) (l:List (Nat×Blk)) (k:List (Nat×Blk)→Option β):A0 ((s,c)::l) s b k=k ((s,b)::l):=by
 show cond (Nat.beq s s) _ _=_
 rw [show Nat.beq s s=true from Nat.beq_refl s]
 rfl
theorem Ajs {s j:Nat} (hne:(s == j)=false) (b c:Blk) (l:List (Nat×Blk)) (k:List (Nat×Blk)→Option β):A0 ((j,c)::l) s b k=A0 l s b fun l=>k ((j,c)::l):=by
 show cond (Nat.beq s j) _ _=_
 rw [show Nat.beq s j=false from AgQ hne]
 rfl
theorem Anj (s:Nat) (a:Option β):Cu [] s a=a:=rfl
theorem AiV {s j:Nat} (hne:(s == j)=false) (b:Blk) (l:List (Nat×Blk)) (a:Option β):Cu ((j,b)::l) s a=Cu l s a:=by
 show cond (Nat.beq s j) none _=_
 rw [show Nat.beq s j=false from AgQ hne]
 rfl
theorem Wm (s:Nat) (b:Blk) (own:List (Nat×Blk)) (ext:List Blk) (k:Hp→Option β):Fu (.own s) b ⟨own,ext⟩ k=A0 own s b fun own=>k ⟨own,ext⟩:=rfl
theorem Ag9 (j:Nat) (b:Blk) (own:List (Nat×Blk)) (ext:List Blk) (k:Hp→Option β):Fu (.ext j) b ⟨own,ext⟩ k=OE ext j b fun ext=>k ⟨own,ext⟩:=rfl
theorem sn0 {α:Type} (a b:α) (l:List α) (k:List α→Option β):OE (a::l) 0 b k=k (b::l):=rfl
theorem AmQ (s:Nat) (b:Blk) (v:IV) (own:List (Nat×Blk)) (ext:List Blk) (k:IV→Hp→List Ref→List Ref→Option β) :
  AK s b v ⟨own,ext⟩ k=Cu own s (A0 own s b fun own=>k v ⟨own,ext⟩ [] [.own s]):=rfl
theorem Lt (s:Nat) (cs:List FV) (h:Hp) (k:IV→Hp→List Ref→List Ref→Option β):Bg s (.fv (.agg cs)) h k=AK s (.row (cs.map .fv) false) (.ptr (.own s) 0) h k:=by
 show spK (cs.map IV.fv) _=_
 rw [Hh]
theorem AlU (s:Nat) (a b:FV) (h:Hp) (k:IV→Hp→List Ref→List Ref→Option β):Bg s (.fv (.agg [a,b])) h k=AK s (.row [.fv a,.fv b] false) (.ptr (.own s) 0) h k:=Lt ..
theorem Am7 (s:Nat) (a b c:FV) (h:Hp) (k:IV→Hp→List Ref→List Ref→Option β):Bg s (.fv (.agg [a,b,c])) h k=AK s (.row [.fv a,.fv b,.fv c] false) (.ptr (.own s) 0) h k:=Lt ..
theorem AlG (s:Nat) (a b c d:FV) (h:Hp) (k:IV→Hp→List Ref→List Ref→Option β):Bg s (.fv (.agg [a,b,c,d])) h k=AK s (.row [.fv a,.fv b,.fv c,.fv d] false) (.ptr (.own s) 0) h k:=Lt ..
theorem AmS (s:Nat) (a:FV) (h:Hp) (k:IV→Hp→List Ref→List Ref→Option β):Bg s (.fv (.agg [a])) h k=AK s (.row [.fv a] false) (.ptr (.own s) 0) h k:=Lt ..
theorem Tc (s:Nat) (cs:List IV) (h:Hp) (k:IV→Hp→List Ref→List Ref→Option β):Bg s (.agg cs) h k=AK s (.row cs false) (.ptr (.own s) 0) h k:=by
 show spK cs _=_
 rw [Hh]
theorem AgY {x:IV} (hx:x.one=true) (s:Nat) (h:Hp) (k:IV→Hp→List Ref→List Ref→Option β):Bg s x h k=AK s (.row [x] false) (.ptr (.own s) 0) h k:=by
 unfold Bg;rw [hx];rfl
theorem Ale (k:IntKind) (n:Int):IV.one (.fv (.int k n))=true:=rfl
theorem Ahj (b:Bool):IV.one (.fv (.bool b))=true:=rfl
theorem AlX (l:List FV):IV.one (.fv (.sl l))=true:=rfl
theorem Amf (l:List FV) (o:Nat):IV.one (.fv (.fp l o))=true:=rfl
theorem Ag1 (fn:Fn) (a b:List FV):IV.one (.fv (.func fn a b))=true:=rfl
theorem Aga:IV.one (.fv .nilp)=true:=rfl
theorem AhM:IV.one .nils=true:=rfl
theorem Ai1 (r:Ref) (o:Nat):IV.one (.ptr r o)=true:=rfl
theorem AjL (r:Ref) (a b:Nat):IV.one (.slc r a b)=true:=rfl
theorem Akh (r:Ref) (l:List FV):IV.one (.app r l)=true:=rfl
theorem AgA (l:List FV):IV.one (.clip l)=true:=rfl
theorem AjA:IV.one .emp=true:=rfl
theorem Ai0 (l:List IV):IV.one (.agg l)=false:=rfl
theorem AfY (l:List FV):IV.one (.fv (.agg l))=false:=rfl
theorem AjR (k:IntKind) (n:Int):Hr (.int k n)=true:=rfl
theorem Ahc (b:Bool):Hr (.bool b)=true:=rfl
theorem Amx (l:List FV):Hr (.sl l)=true:=rfl
theorem AlQ (l:List FV) (o:Nat):Hr (.fp l o)=true:=rfl
theorem AgB:Hr .nilp=true:=rfl
theorem Ajv (l:List FV):Hr (.agg l)=false:=rfl
theorem Af2:Dx []=true:=rfl
theorem Ta {v:FV} (h:Hr v=true) (l:List FV):Dx (v::l)=Dx l:=by
 show cond (Hr v) (Dx l) false=_
 rw [h];rfl
theorem P3 (r:Ref) (o:Nat) (k:Ref→Nat→Option β) (kf:List FV→Nat→Option β):EF (.ptr r o) k kf=k r o:=rfl
theorem AoD (cs:List FV) (o:Nat) (k:Ref→Nat→Option β) (kf:List FV→Nat→Option β):EF (.fv (.fp cs o)) k kf=kf cs o:=rfl
theorem Ja (cs:List IV) (ro:Bool) (k:List IV→Option β):DU (.row cs ro) k=k cs:=rfl
theorem VX (cs:List IV) (k:List IV→Option β):GJ (.row cs false) k=k cs:=rfl
theorem AcU (v:FV) (e:Option β) (k:FV→Option β):N7 (.fv v) e k=k v:=rfl
theorem Vr (l:List IV) (e:Option β) (k:FV→Option β):N7 (.agg l) e k=e:=rfl
theorem Ajm (e:Option β) (k:FV→Option β):N7 .nils e k=e:=rfl
theorem AjW (r:Ref) (o:Nat) (e:Option β) (k:FV→Option β):N7 (.ptr r o) e k=e:=rfl
theorem AkD (r:Ref) (o:List FV) (e:Option β) (k:FV→Option β):N7 (.app r o) e k=e:=rfl
theorem Aj9 (o:List FV) (e:Option β) (k:FV→Option β):N7 (.clip o) e k=e:=rfl
theorem Ai2 (r:Ref) (a b:Nat) (e:Option β) (k:FV→Option β):N7 (.slc r a b) e k=e:=rfl
theorem Akf (e:Option β) (k:FV→Option β):N7 .emp e k=e:=rfl
theorem Aj7 (cs:List FV) (k:List FV→Option β):GZ (.agg cs) k=k cs:=rfl
theorem Am4 (cs:List IV) (k:List IV→Option β) (kf:List FV→Option β):asAgg (.agg cs) k kf=k cs:=rfl
theorem AjZ (cs:List FV) (k:List IV→Option β) (kf:List FV→Option β):asAgg (.fv (.agg cs)) k kf=kf cs:=rfl
theorem Ags (e:Option β) (k:List FV→Option β):Cf [] e k=k []:=rfl
theorem AkW (v:FV) (l:List IV) (e:Option β) (k:List FV→Option β):Cf (.fv v::l) e k=Cf l e fun vs=>k (v::vs):=rfl
theorem Adl (l:List IV) (e:Option β) (k:List FV→Option β):Cf (.nils::l) e k=e:=rfl
theorem Agj (r:Ref) (es:List FV) (l:List IV) (e:Option β) (k:List FV→Option β):Cf (.app r es::l) e k=e:=rfl
theorem AeR (es:List FV) (l:List IV) (e:Option β) (k:List FV→Option β):Cf (.clip es::l) e k=e:=rfl
theorem AgJ (r:Ref) (o:Nat) (l:List IV) (e:Option β) (k:List FV→Option β):Cf (.ptr r o::l) e k=e:=rfl
theorem Agx (r:Ref) (a b:Nat) (l:List IV) (e:Option β) (k:List FV→Option β):Cf (.slc r a b::l) e k=e:=rfl
theorem Agt (es l:List IV) (e:Option β) (k:List FV→Option β):Cf (.agg es::l) e k=e:=rfl
theorem Adf (r:Ref) (l:List IV) (e:Option β) (k:List FV→Option β):Cf (.mapr r::l) e k=e:=rfl
theorem Amd (l:List IV) (k:IV→Option β):Oe l k=Cf l (k (.agg l)) fun vs=>k (.fv (.agg vs)):=rfl
theorem Ana (l:List IV) (k:IV→Option β):Ul l k=Cf l (k (.tuple l)) fun vs=>k (.fv (.tuple vs)):=rfl
theorem AoH (a:IV) (h:Hp) (k:IV→List Ref→Option β):Ae a h k=EF a (fun r o=>CV r h fun b=>DU b fun cells=>C4 cells o fun v=>k v [r]) fun cells o=>C4 cells o fun v=>k (.fv v) []:=rfl
theorem AoO (size:Nat) (a:IV) (h:Hp) (k:IV→List Ref→Option β):Ai size a h k =
  EF a (fun r o=>CV r h fun b=>DU b fun cells=>Fd cells o fun cs=>Fv cs size fun cs=>Oe cs fun v=>k v [r]) fun cells o=>Fd cells o fun cs=>Fv cs size fun cs=>k (.fv (.agg cs)) []:=rfl
theorem Aio (size:Nat) (a:IV) (h:Hp) (k:IV→Option β):AE true size a h k=Ai size a h fun v _=>k v:=rfl
theorem AiE (size:Nat) (a:IV) (h:Hp) (k:IV→Option β):AE false size a h k=Ae a h fun v _=>k v:=rfl
theorem wr0 (l:List IV) (k:List IV→Option β):wrK [] l k=k l:=rfl
theorem wr1 (c:FV) (cs:List FV) (x:IV) (l:List IV) (k:List IV→Option β):wrK (c::cs) (x::l) k=wrK cs l fun t=>k (.fv c::t):=rfl
theorem sf0 (x:IV) (l:List IV) (cs:List FV) (k:List IV→Option β):DQ (x::l) 0 cs k=wrK cs (x::l) k:=rfl
theorem sf1 (x:IV) (l:List IV) (cs:List FV) (k:List IV→Option β):DQ (x::l) 1 cs k=DQ l 0 cs fun t=>k (x::t):=rfl
theorem sf2 (x y:IV) (l:List IV) (cs:List FV) (k:List IV→Option β):DQ (x::y::l) 2 cs k=DQ l 0 cs fun t=>k (x::y::t):=rfl
theorem sf3 (x y z:IV) (l:List IV) (cs:List FV) (k:List IV→Option β):DQ (x::y::z::l) 3 cs k=DQ l 0 cs fun t=>k (x::y::z::t):=rfl
theorem sf4 (x y z u:IV) (l:List IV) (cs:List FV) (k:List IV→Option β):DQ (x::y::z::u::l) 4 cs k=DQ l 0 cs fun t=>k (x::y::z::u::t):=rfl
theorem of0 (x b:IV) (l:List IV) (k:List IV→Option β):Gu (x::l) 0 b k=k (b::l):=rfl
theorem of1 (x y b:IV) (l:List IV) (k:List IV→Option β):Gu (x::y::l) 1 b k=k (x::b::l):=rfl
theorem of2 (x y z b:IV) (l:List IV) (k:List IV→Option β):Gu (x::y::z::l) 2 b k=k (x::y::b::l):=rfl
theorem of3 (x y z u b:IV) (l:List IV) (k:List IV→Option β):Gu (x::y::z::u::l) 3 b k=k (x::y::z::b::l):=rfl
theorem of6 (x y z u v w s b:IV) (l:List IV) (k:List IV→Option β):Gu (x::y::z::u::v::w::s::l) 6 b k=k (x::y::z::u::v::w::b::l):=rfl
theorem Aoi (size:Nat) (a:IV) (cs:List FV) (h:Hp) (k:Hp→List Ref→List Ref→Option β):Al size a (.fv (.agg cs)) h k =
  EF a (fun r o=>CV r h fun b=>GJ b fun cells=>cond (and (Nat.beq cs.length size) (Dx cs)) (DQ cells o cs fun cells=>Fu r (.row cells false) h fun h=>k h [r] [r]) none) fun _ _=>none:=rfl
theorem AcD (s:Nat) (x:IV):Fr (.own s) x=true:=rfl
theorem Aof (s:Nat) (a b c:IV) (ha:a.one=true) (hb:b.one=true) (hc:c.one=true) (own:List (Nat×Blk)) (ext:List Blk) (k:Hp→List Ref→List Ref→Option β) :
  Al 3 (.ptr (.own s) 0) (.agg [a,b,c]) ⟨own,ext⟩ k=Ga own s fun bl=>GJ bl fun cells=>cond (Nat.ble 3 cells.length) (Fu (.own s) (.row (A3 cells 0 [a,b,c]) false) ⟨own,ext⟩ fun h=>k h [.own s] [.own s]) none:=by
 show Ga own s (fun bl=>GJ bl fun cells=>if IV.alive (.agg [a,b,c])=true∧(IV.cells (.agg [a,b,c])).length=3∧0+3≤cells.length∧(IV.cells (.agg [a,b,c])).all IV.one=true∧Fr (.own s) (.agg [a,b,c])=true then
  spK (A3 cells 0 (IV.cells (.agg [a,b,c]))) fun cells=>Fu (.own s) (.row cells false) ⟨own,ext⟩ fun h=>k h [.own s] [.own s] else none)=_
 congr 1
 funext bl
 congr 1
 funext cells
 by_cases h3:3≤cells.length
 ·rw [if_pos ⟨rfl,rfl,by omega,by simp [IV.cells,ha,hb,hc],rfl⟩,Hh,Bb,decide_eq_true h3];rfl
 ·rw [if_neg (fun h=>h3 (by omega)),Bb,decide_eq_false h3];rfl
theorem sc3 (a b c x y z:IV):A3 [x,y,z] 0 [a,b,c]=[a,b,c]:=rfl
theorem Ao6 (a x:IV) (h:Hp) (k:Hp→List Ref→List Ref→Option β):Bj a x h k =
  cond x.one (EF a (fun r o=>CV r h fun b=>GJ b fun cells=>cond (Fr r x) (Gu cells o x fun cells=>Fu r (.row cells false) h fun h=>k h [r] [r]) none) fun _ _=>none) (Al 1 a x h k):=rfl
theorem Aok (o:Nat) (r:Ref) (k:IV→Option β):Ac o (.ptr r 0) k=k (.ptr r o):=by rw [Ahv,Nat.zero_add]
theorem AlM (o:Nat) (cs:List FV) (k:IV→Option β):Ac o (.fv (.fp cs 0)) k=k (.fv (.fp cs o)):=by rw [O1,Nat.zero_add]
theorem AnK (r:Ref) (o:Nat) (k:IV→Option β):AC (.ptr r o) k=k (.ptr r o):=rfl
theorem Am5 (cs:List FV) (o:Nat) (k:IV→Option β):AC (.fv (.fp cs o)) k=k (.fv (.fp cs o)):=rfl
theorem Aer (g:FuncId) (a b:List FV) (k:IV→Option β):AC (.fv (.func (.func g) a b)) k=k (.fv (.func (.func g) a b)):=rfl
theorem Aoq (ix:Nat) (vs:List IV) (k:IV→Option β):AN ix (.tuple vs) k=C4 vs ix k:=rfl
theorem Aoe (ix:Nat) (vs:List FV) (k:IV→Option β):AN ix (.fv (.tuple vs)) k=C4 vs ix fun v=>k (.fv v):=rfl
theorem AoZ (o:Nat) (x:IV) (k:IV→Option β):AkB o x k=asAgg x (fun cs=>C4 cs o k) fun cs=>C4 cs o fun v=>k (.fv v):=rfl
theorem Ape (size o:Nat) (x:IV) (k:IV→Option β):Aj5 size o x k=asAgg x (fun cs=>Fd cs o fun cs=>Fv cs size fun cs=>Oe cs k) fun cs=>Fd cs o fun cs=>Fv cs size fun cs=>k (.fv (.agg cs)):=rfl
theorem AmY (z:List IV) (pl:List (Nat×Nat×IV)) (k:IV→Option β):Bw z pl k=MR z pl fun cells=>Oe cells k:=rfl
theorem fk0 (z:List IV) (k:List IV→Option β):MR z [] k=k z:=rfl
theorem fk1 (z:List IV) (o sz:Nat) (v:IV) (pl:List (Nat×Nat×IV)) (k:List IV→Option β):MR z ((o,sz,v)::pl) k=G7 z o sz v fun z=>MR z pl k:=rfl
theorem Ai5 {v:IV} (hv:v.one=true) (z:List IV) (o:Nat) (k:List IV→Option β):G7 z o 1 v k=Gu z o v k:=by
 unfold G7;cases v with
 | fv w =>
  show cond (Hr w) _ _=_
  have:Hr w=true:=by cases w<;>first | rfl | cases hv
  rw [this];rfl
 | _=>show WO _ _ _ _ _=_;unfold WO;rw [hv];rfl
theorem Ajr (z:List IV) (o sz:Nat) (cs:List FV) (k:List IV→Option β):G7 z o sz (.fv (.agg cs)) k=cond (Nat.beq cs.length sz) (DQ z o cs k) none:=rfl
theorem nb3 (a b c:FV):Nat.beq [a,b,c].length 3=true:=rfl
theorem nb4 (a b c d:FV):Nat.beq [a,b,c,d].length 4=true:=rfl
theorem nb7 (a b c d e f g:FV):Nat.beq [a,b,c,d,e,f,g].length 7=true:=rfl
theorem nl3 (a b c:IV):Nat.ble 3 [a,b,c].length=true:=rfl
theorem Ajg:(and true true)=true:=rfl
end
end Idl
end Go.Proofs.Ytkfecngimlcfoaa
namespace Go.Proofs.Ytkfecngimlcfoaa
namespace Idl
section
variable {β:Type} {E:Env} {t:TypeId}
theorem Vf (n:Int):IV.fv (.int .i64 n)=iv n:=rfl
def BM (n:Int):Int:=IntKind.i64.wrap n
theorem As {n:Int} (h1:-9223372036854775808≤n) (h2:n≤9223372036854775807):BM n=n:=by
 show (if (true && decide ((n % (18446744073709551616:Int)) ≥ (9223372036854775808:Int)))=true then (n % (18446744073709551616:Int)) - (18446744073709551616:Int) else (n % (18446744073709551616:Int)))=n
 by_cases h:0≤n
 ·have e:n % (18446744073709551616:Int)=n:=by omega
  have e2:¬ n ≥ (9223372036854775808:Int):=by omega
  rw [e,decide_eq_false e2];rfl
 ·have e:n % (18446744073709551616:Int)=n+18446744073709551616:=by omega
  have e2:n+18446744073709551616 ≥ (9223372036854775808:Int):=by omega
  rw [e,decide_eq_true e2];simp
theorem Anc (a b:Int) (k:IV→Option β):Bz E t (iv a) (iv b) k=k (iv (BM (a+b))):=by
 have hg:CA E t .add (iv a) (iv b) k=k (iv (BM (a+b))):=by
  rw [CA,Cs];rfl
 cases a with
 | negSucc a=>exact hg
 | ofNat a=>cases b with
  | negSucc b=>exact hg
  | ofNat b =>
   show cond (Nat.ble (a+b) 9223372036854775807) (MD (a+b) k) _=_
   rw [Bb];by_cases h:a+b≤9223372036854775807
   ·rw [decide_eq_true h]
    show MD (a+b) k=_
    rw [C8]
    have:BM (Int.ofNat a+Int.ofNat b)=((a+b:Nat):Int):=by
     rw [As (by simp only [Int.ofNat_eq_natCast];omega) (by simp only [Int.ofNat_eq_natCast];omega)];simp only [Int.ofNat_eq_natCast];omega
    rw [this]
   ·rw [decide_eq_false h];exact hg
theorem AmB (a b:Int) (k:IV→Option β):Ba E t (iv a) (iv b) k=k (iv (BM (a - b))):=by
 have hg:CA E t .sub (iv a) (iv b) k=k (iv (BM (a - b))):=by
  rw [CA,Cs];rfl
 cases a with
 | negSucc a=>exact hg
 | ofNat a=>cases b with
  | negSucc b=>exact hg
  | ofNat b =>
   show cond (and (Nat.ble b a) (Nat.ble a 9223372036854775807)) (MD (a - b) k) _=_
   rw [Bb,Bb];by_cases h:b≤a∧a≤9223372036854775807
   ·rw [decide_eq_true h.1,decide_eq_true h.2]
    show MD (a - b) k=_
    rw [C8]
    have:BM (Int.ofNat a - Int.ofNat b)=((a - b:Nat):Int):=by
     rw [As (by simp only [Int.ofNat_eq_natCast];omega) (by simp only [Int.ofNat_eq_natCast];omega)];simp only [Int.ofNat_eq_natCast];omega
    rw [this]
   ·have:(decide (b≤a) && decide (a≤9223372036854775807))=false:=by
     rw [← Bool.decide_and];exact decide_eq_false h
    rw [show and (decide (b≤a)) (decide (a≤9223372036854775807))=false from this]
    exact hg
theorem AlD (a b:Int) (k:IV→Option β):CA E t .mul (iv a) (iv b) k=k (iv (BM (a * b))):=by
 rw [CA,Cs];rfl
theorem AeO {b:Int} (hb:b≠0) (a:Int) (k:IV→Option β):CA E t .quo (iv a) (iv b) k=k (iv (BM (a.tdiv b))):=by
 rw [CA,Cs]
 have:Fp E .quo t (iv a) (iv b)=some (iv (BM (a.tdiv b))):=by
  show (GQ (Op.intDiv .quo .i64 a b)).bind IW=_
  simp only [Op.intDiv,hb,if_false];rfl
 rw [this];rfl
theorem MB {b:Int} (hb:b≠0) (a:Int) (k:IV→Option β):CA E t .rem (iv a) (iv b) k=k (iv (a.tmod b)):=by
 rw [CA,Cs]
 have:Fp E .rem t (iv a) (iv b)=some (iv (a.tmod b)):=by
  show (GQ (Op.intDiv .rem .i64 a b)).bind IW=_
  simp only [Op.intDiv,hb,if_false];rfl
 rw [this];rfl
theorem Apa (a b:Int) (k:IV→Option β):AZ E t (iv a) (iv b) k=k (.fv (.bool (decide (a=b)))):=Al6 a b k
theorem AnY (a b:Int) (k:IV→Option β):Ig E t (iv a) (iv b) k=k (.fv (.bool (!decide (a=b)))):=Any a b k
theorem An1 (a b:Int) (k:IV→Option β):G6 E t (iv a) (iv b) k=k (.fv (.bool (decide (a<b)))):=Al4 a b k
theorem Aom (a b:Int) (k:IV→Option β):leS E t (iv a) (iv b) k=k (.fv (.bool (decide (a≤b)))):=Amw a b k
theorem AoL (a b:Int) (k:IV→Option β):Kx E t (iv a) (iv b) k=k (.fv (.bool (decide (b<a)))):=by
 rw [Kx,KU (fun a b=>by
  show some (IV.fv (.bool (decide ((a:Int) > (b:Int)))))=_
  rw [Bb];congr 3;exact decide_eq_decide.2 (by omega))]
 rfl
theorem Aox (a b:Int) (k:IV→Option β):geS E t (iv a) (iv b) k=k (.fv (.bool (decide (b≤a)))):=by
 rw [geS,KU (fun a b=>by
  show some (IV.fv (.bool (decide ((a:Int) ≥ (b:Int)))))=_
  rw [Bb];congr 3;exact decide_eq_decide.2 (by omega))]
 rfl
theorem AmC (a b:Bool) (hT:E.T t=some ⟨1,1,.bool,[.fv (.bool false)]⟩) (k:IV→Option β):AZ E t (.fv (.bool a)) (.fv (.bool b)) k=k (.fv (.bool (a == b))):=by
 show CA E t .eql _ _ k=_
 rw [CA,Cs]
 have:Fp E .eql t (.fv (.bool a)) (.fv (.bool b))=some (.fv (.bool (a == b))):=by
  simp only [Fp,hT,Sr]
 rw [this];rfl
theorem AmX (b:Bool) (k:IV→Option β):DP (N8 .not (.fv (.bool b))) k=k (.fv (.bool !b)):=AnE b k
theorem An9 (a b:Option β):Aj (.fv (.bool true)) a b=a:=rfl
theorem An5 (a b:Option β):Aj (.fv (.bool false)) a b=b:=rfl
theorem Aod (c:Prop) [Decidable c] (a b:Option β):Aj (.fv (.bool (decide c))) a b=if c then a else b:=Akp c a b
theorem AoT (c:Prop) [Decidable c] (a b:Option β):Aj (.fv (.bool (!decide c))) a b=if c then b else a:=by
 by_cases h:c
 ·rw [decide_eq_true h,if_pos h];rfl
 ·rw [decide_eq_false h,if_neg h];rfl
theorem Aoj (c:Bool) (a b:Option β):Aj (.fv (.bool c)) a b=if c=true then a else b:=by
 cases c<;>rfl
theorem AoW (c a b:IV) (k:IV→Option β):AF c a b k=Aj c (k a) (k b):=rfl
theorem Amj {b:Bool} (hb:b=true) (h:Hp) (m:(IV→Hp→List Ref→List Ref→Option β)→Option β) (k:IV→Hp→List Ref→List Ref→Option β):Ab (.fv (.bool b)) true h m k=m k:=by rw [hb];rfl
theorem Al1 {b:Bool} (hb:b=false) (h:Hp) (m:(IV→Hp→List Ref→List Ref→Option β)→Option β) (k:IV→Hp→List Ref→List Ref→Option β):Ab (.fv (.bool b)) false h m k=m k:=by rw [hb];rfl
theorem Ane {b:Bool} (hb:b=true) (h:Hp) (m:(IV→Hp→List Ref→List Ref→Option β)→Option β) (k:IV→Hp→List Ref→List Ref→Option β):Ab (.fv (.bool b)) false h m k=k E9 h [] []:=by rw [hb];rfl
theorem AmZ {b:Bool} (hb:b=false) (h:Hp) (m:(IV→Hp→List Ref→List Ref→Option β)→Option β) (k:IV→Hp→List Ref→List Ref→Option β):Ab (.fv (.bool b)) true h m k=k E9 h [] []:=by rw [hb];rfl
theorem Aot (w:Bool) (h:Hp) (m:(IV→Hp→List Ref→List Ref→Option β)→Option β) (k:IV→Hp→List Ref→List Ref→Option β):Ab E9 w h m k=k E9 h [] []:=rfl
theorem ch0 (rd wr:List Ref) (a:Option β):Ad [] rd wr a=a:=rfl
theorem ch1 (q1 q2:List Ref) (l:List (List Ref×List Ref)) (rd wr:List Ref) (a:Option β):Ad ((q1,q2)::l) rd wr a=cond (T7 q2 rd) (cond (T7 q2 wr) (cond (T7 wr q1) (Ad l rd wr a) none) none) none:=rfl
theorem dj0 (b:List Ref):T7 [] b=true:=rfl
theorem djn:∀(a:List Ref),T7 a []=true
 | []=>rfl
 | _::a=>djn a
theorem dj1 (r:Ref) (a b:List Ref):T7 (r::a) b=cond (JK r b) (T7 a b) false:=rfl
theorem an0 (r:Ref):JK r []=true:=rfl
theorem an1 (r s:Ref) (l:List Ref):JK r (s::l)=cond (Lc r s) (JK r l) false:=rfl
theorem An0 {i j:Nat} (h:(i == j)=false):Lc (.own i) (.own j)=true:=by
 show not (Nat.beq i j)=true
 rw [show Nat.beq i j=false from AgQ h];rfl
theorem AmI (i j:Nat):Lc (.own i) (.ext j)=true:=rfl
theorem Amv (i j:Nat):Lc (.ext i) (.own j)=true:=rfl
theorem An2 (v:IV) (h:Hp):An [v] h=some (v,h):=rfl
theorem Ao4 (h:Hp):An [] h=some (.fv (.tuple []),h):=rfl
theorem AoM (a b:IV) (h:Hp):An [a,b] h=Ul [a,b] fun v=>some (v,h):=rfl
theorem AoN (a b c:IV) (h:Hp):An [a,b,c] h=Ul [a,b,c] fun v=>some (v,h):=rfl
theorem AoX (a b c d:IV) (h:Hp):An [a,b,c,d] h=Ul [a,b,c,d] fun v=>some (v,h):=rfl
theorem AnI (es:List FV) (k:IV→Option β):Ca (.fv (.sl es)) k=k (iv es.length):=C8 ..
theorem Anx (k:IV→Option β):Ca .nils k=k (iv 0):=rfl
theorem AnH (es:List FV) (k:IV→Option β):Ca (.clip es) k=k (iv es.length):=C8 ..
theorem AnA (r:Ref) (es:List FV) (k:IV→Option β):Ca (.app r es) k=k (iv es.length):=C8 ..
theorem Amh (r:Ref) (sz n:Nat) (k:IV→Option β):Ca (.slc r sz n) k=k (iv n):=C8 ..
theorem BN {size:Nat} {es:List FV} {n:Nat} {el:FV} (he:es[n]?=some el) (hl:el.cells.length=size) (k:IV→Option β):Bf size (.fv (.sl es)) (iv n) k=k (.fv (.fp el.cells 0)):=AjT he hl k
theorem AoK {size:Nat} {r:Ref} {es:List FV} {n:Nat} {el:FV} (he:es[n]?=some el) (hl:el.cells.length=size) (k:IV→Option β):Bf size (.app r es) (iv n) k=k (.fv (.fp el.cells 0)):=AjT he hl k
theorem Aph {size:Nat} {es:List FV} {n:Nat} {el:FV} (he:es[n]?=some el) (hl:el.cells.length=size) (k:IV→Option β):Bf size (.clip es) (iv n) k=k (.fv (.fp el.cells 0)):=AjT he hl k
theorem Apb {size sz len:Nat} {r:Ref} {n:Nat} (hn:n<len) (hs:sz=size) (k:IV→Option β):Bf size (.slc r sz len) (iv n) k=k (.ptr r (n * sz)):=by
 show cond (and (Nat.ble (Nat.succ n) len) (Nat.beq sz size)) (DN (n * sz) fun o=>k (.ptr r o)) none=_
 rw [Bb,decide_eq_true (show Nat.succ n≤len from hn),hs,show Nat.beq size size=true from Nat.beq_refl size]
 simp only [Bool.and_self,cond_true];rw [BE]
theorem AgF (size:Nat) (cs:List FV) (es:List FV) (hl:cs.length=size) (k:IV→Option β):Bf size (.fv (.sl (.agg cs::es))) (iv 0) k=k (.fv (.fp cs 0)):=BN (el:=.agg cs) (n:=0) rfl hl k
theorem AgX (size:Nat) (cs:List FV) (e:FV) (es:List FV) (hl:cs.length=size) (k:IV→Option β):Bf size (.fv (.sl (e :: .agg cs::es))) (iv 1) k=k (.fv (.fp cs 0)):=BN (el:=.agg cs) (n:=1) rfl hl k
theorem Af9 (size:Nat) (cs:List FV) (e e':FV) (es:List FV) (hl:cs.length=size) (k:IV→Option β):Bf size (.fv (.sl (e::e' :: .agg cs::es))) (iv 2) k=k (.fv (.fp cs 0)):=BN (el:=.agg cs) (n:=2) rfl hl k
theorem AfT (size:Nat) (cs:List FV) (e e' e'':FV) (es:List FV) (hl:cs.length=size) (k:IV→Option β):Bf size (.fv (.sl (e::e'::e'' :: .agg cs::es))) (iv 3) k=k (.fv (.fp cs 0)):=BN (el:=.agg cs) (n:=3) rfl hl k
def Fz (v:IV) (own:List (Nat×Blk)) (w:FV):Prop:=∃u lg,∀(e:Option (IV×Hp)) (K:FV→List (Ref×Blk)→List Ref→Option (IV×Hp)),EJ 12 v ⟨own,[]⟩ [] e K=K w u lg
def BZ (r:Option (IV×Hp)) (w:FV):Prop:=∃v own,r=some (v,⟨own,[]⟩) ∧
 (Fz v own w∨((∀(e:Option (IV×Hp)) (K:FV→List (Ref×Blk)→List Ref→Option (IV×Hp)),EJ 12 v ⟨own,[]⟩ [] e K=e)∧∃u,(CJ 4096 v).run ⟨own,[]⟩=some (w,u)))
def Ac0 (r:Option (IV×Hp)) (w:FV):Prop:=∃v own,r=some (v,⟨own,[]⟩)∧Fz v own w
theorem AhX (w:FV) (own:List (Nat×Blk)):Fz (.fv w) own w:=⟨[],[],fun _ _=>rfl⟩
theorem Ao (w:FV) (own:List (Nat×Blk)):BZ (some (.fv w,⟨own,[]⟩)) w:=⟨_,own,rfl,.inl (AhX w own)⟩
def G9:IV→Option FV
 | .fv v=>some v
 | .nils=>some (.sl [])
 | .emp=>some (.sl [])
 | .clip es=>some (.sl es)
 | .app _ es=>some (.sl es)
 | _=>none
def CQ:List IV→Option (List FV)
 | []=>some []
 | v::l=>(G9 v).bind fun x=>(CQ l).map fun xs=>x::xs
def A4 (v:IV):Option FV:=match v with
 | .agg cs=>if cs.length≤8 then (CQ cs).map .agg else none
 | v=>G9 v
def Bx:List IV→Option (List FV)
 | []=>some []
 | v::l=>(A4 v).bind fun x=>(Bx l).map fun xs=>x::xs
theorem Ang (v:FV):A4 (.fv v)=some v:=rfl
theorem Agb:A4 .nils=some (.sl []):=rfl
theorem AiX:A4 .emp=some (.sl []):=rfl
theorem Ahx (es:List FV):A4 (.clip es)=some (.sl es):=rfl
theorem Ai4 (r:Ref) (es:List FV):A4 (.app r es)=some (.sl es):=rfl
theorem AnC (v:FV):G9 (.fv v)=some v:=rfl
theorem Af8:G9 .nils=some (.sl []):=rfl
theorem Ai6:G9 .emp=some (.sl []):=rfl
theorem Agz (es:List FV):G9 (.clip es)=some (.sl es):=rfl
theorem AkF (r:Ref) (es:List FV):G9 (.app r es)=some (.sl es):=rfl
theorem AoB {a b c:IV} {x y z:FV} (ha:G9 a=some x) (hb:G9 b=some y) (hc:G9 c=some z):A4 (.agg [a,b,c])=some (.agg [x,y,z]):=by
 show (if 3≤8 then (CQ [a,b,c]).map FV.agg else none)=_
 simp [CQ,ha,hb,hc]
theorem AoQ {a b c d:IV} {x y z u:FV} (ha:G9 a=some x) (hb:G9 b=some y) (hc:G9 c=some z) (hd:G9 d=some u):A4 (.agg [a,b,c,d])=some (.agg [x,y,z,u]):=by
 show (if 4≤8 then (CQ [a,b,c,d]).map FV.agg else none)=_
 simp [CQ,ha,hb,hc,hd]
theorem Aim {v:IV} {x:FV} (d:Nat) (h:Hp) (lg:List Ref) (e:Option β) (k:FV→List (Ref×Blk)→List Ref→Option β) (hz:G9 v=some x):EJ (d+1) v h lg e k=k x [] lg:=by
 cases v<;>first | (cases hz;rfl) | (cases hz)
theorem Abm (d:Nat) (h:Hp) (lg:List Ref) (e:Option β):∀(cs:List IV) (k:List FV→List (Ref×Blk)→List Ref→Option β) {xs:List FV},CQ cs=some xs→CU (EJ (d+1)) cs h lg e k=k xs [] lg
 | [],k,xs,hz=>by cases hz;rfl
 | v::cs,k,xs,hz=>by
  simp only [CQ] at hz;cases h1:G9 v with
  | none=>rw [h1] at hz;cases hz
  | some x =>
   rw [h1] at hz;cases h2:CQ cs with
   | none=>rw [h2] at hz;cases hz
   | some ys =>
    rw [h2] at hz;cases hz
    show EJ (d+1) v h lg e (fun y u lg=>CU (EJ (d+1)) cs h lg e fun ys us lg=>Oi u us fun w=>k (y::ys) w lg)=_
    rw [Aim d h lg e _ h1,Abm d h lg e cs _ h2];rfl
theorem Kw {v:IV} {x:FV} (h:Hp) (lg:List Ref) (e:Option β) (k:FV→List (Ref×Blk)→List Ref→Option β) (hz:A4 v=some x):EJ 12 v h lg e k=k x [] lg:=by
 cases v with
 | agg cs =>
  simp only [A4] at hz;split at hz
  ·rename_i hl;cases h2:CQ cs with
   | none=>rw [h2] at hz;cases hz
   | some ys =>
    rw [h2] at hz;cases hz
    show cond (Nat.ble cs.length 300) (CU (EJ 11) cs h lg e fun cs u lg=>k (.agg cs) u lg) e=_
    rw [Bb,decide_eq_true (show cs.length≤300 by omega)]
    exact Abm 10 h lg e cs _ h2
  ·cases hz
 | _=>exact Aim 11 h lg e k hz
theorem An6 {v:IV} {x:FV} (hz:A4 v=some x) (own:List (Nat×Blk)):Fz v own x:=⟨[],[],fun e K=>Kw _ _ e K hz⟩
theorem Be {v:IV} {x:FV} (hz:A4 v=some x) (own:List (Nat×Blk)):BZ (some (v,⟨own,[]⟩)) x:=⟨v,own,rfl,.inl (An6 hz own)⟩
theorem fr1 {v:IV} {x:FV} (n:Nat) (hz:G9 v=some x):CJ (n+1) v=.ret (x,[]):=by
 cases v<;>first | (cases hz;rfl) | (cases hz)
theorem YD:∀(cs:List IV) (n:Nat) {xs:List FV},cs.length+1<n→CQ cs=some xs→frzL n cs=.ret (xs,[])
 | [],n+1,xs,_,hz=>by cases hz;rfl
 | v::cs,n+2,xs,hn,hz=>by
  simp only [CQ] at hz;cases h1:G9 v with
  | none=>rw [h1] at hz;cases hz
  | some x =>
   rw [h1] at hz;cases h2:CQ cs with
   | none=>rw [h2] at hz;cases hz
   | some ys =>
    rw [h2] at hz;cases hz;simp only [Arj] at hn;simp only [frzL,fr1 n h1,Rd.bind,YD cs (n+1) (by omega) h2];rfl
theorem frp {v:IV} {x:FV} (n:Nat) (hn:20<n) (hz:A4 v=some x):CJ n v=.ret (x,[]):=by
 cases n with
 | zero=>omega
 | succ n =>
  cases v with
  | agg cs =>
   simp only [A4] at hz;split at hz
   ·rename_i hl;cases h2:CQ cs with
    | none=>rw [h2] at hz;cases hz
    | some ys =>
     rw [h2] at hz;cases hz;simp only [CJ,YD cs n (by omega) h2,Rd.bind]
   ·cases hz
  | _=>exact fr1 n hz
theorem AhU:∀(cs:List IV) (n:Nat) {xs:List FV},cs.length+30<n→Bx cs=some xs→frzL n cs=.ret (xs,[])
 | [],n+1,xs,_,hz=>by cases hz;rfl
 | v::cs,n+1,xs,hn,hz=>by
  simp only [Bx] at hz;cases h1:A4 v with
  | none=>rw [h1] at hz;cases hz
  | some x =>
   rw [h1] at hz;cases h2:Bx cs with
   | none=>rw [h2] at hz;cases hz
   | some ys =>
    rw [h2] at hz;cases hz;simp only [Arj] at hn;simp only [frzL,frp n (by omega) h1,Rd.bind,AhU cs n (by omega) h2];rfl
theorem AU {vs:List IV} {xs:List FV} (hz:Bx vs=some xs) (hl:vs.length≤100) (own:List (Nat×Blk)):BZ (some (.tuple vs,⟨own,[]⟩)) (.tuple xs) :=
 ⟨_,own,rfl,.inr ⟨fun _ _=>rfl,[],by
  show (CJ (4095+1) (.tuple vs)).run _=_
  simp only [CJ,AhU vs 4095 (by omega) hz,Rd.bind];rfl⟩⟩
theorem Ali:Bx []=some []:=rfl
theorem UK {a b:IV} {x y:FV} (ha:A4 a=some x) (hb:A4 b=some y):Bx [a,b]=some [x,y]:=by simp [Bx,ha,hb]
theorem Abv {a b c:IV} {x y z:FV} (ha:A4 a=some x) (hb:A4 b=some y) (hc:A4 c=some z):Bx [a,b,c]=some [x,y,z]:=by simp [Bx,ha,hb,hc]
theorem AlL {a b c d:IV} {x y z u:FV} (ha:A4 a=some x) (hb:A4 b=some y) (hc:A4 c=some z) (hd:A4 d=some u):Bx [a,b,c,d]=some [x,y,z,u]:=by simp [Bx,ha,hb,hc,hd]
theorem AcJ {a:IV} {x:FV} (ha:A4 a=some x):Bx [a]=some [x]:=by simp [Bx,ha]
theorem Md:∀(args:List IV) {vs:List FV},Bx args=some vs→Bc [] args=.ret (vs.map .fv,[],[])
 | [],vs,hz=>by cases hz;rfl
 | v::l,vs,hz=>by
  simp only [Bx] at hz;cases h1:A4 v with
  | none=>rw [h1] at hz;cases hz
  | some x =>
   rw [h1] at hz;cases h2:Bx l with
   | none=>rw [h2] at hz;cases hz
   | some ys =>
    rw [h2] at hz;cases hz;simp only [Bc,frp 4096 (by omega) h1,Rd.bind,Md l h2];rfl
theorem fz0 (keep:List Bool) (h:Hp) (lg:List Ref) (e:Option β) (k:List IV→List Ref→List (Ref×Blk)→List Ref→Option β):Sp [] keep h lg e k=k [] [] [] lg:=rfl
theorem fz1 (x:IV) (l:List IV) (h:Hp) (lg:List Ref) (e:Option β) (k:List IV→List Ref→List (Ref×Blk)→List Ref→Option β) :
  Sp (x::l) [] h lg e k=EJ 12 x h lg e fun y u lg=>Sp l [] h lg e fun vs rs us lg=>Oi u us fun w=>k (.fv y::vs) rs w lg:=rfl
theorem U2 (x:IV) (l:List IV) (ks:List Bool) (h:Hp) (lg:List Ref) (e:Option β) (k:List IV→List Ref→List (Ref×Blk)→List Ref→Option β) :
  Sp (x::l) (true::ks) h lg e k=EF x (fun r o=>Sp l ks h lg e fun vs rs us lg=>k (.ptr r o::vs) (r::rs) us lg) fun _ _=>e:=rfl
theorem RR (x:IV) (l:List IV) (ks:List Bool) (h:Hp) (lg:List Ref) (e:Option β) (k:List IV→List Ref→List (Ref×Blk)→List Ref→Option β) :
  Sp (x::l) (false::ks) h lg e k=EJ 12 x h lg e fun y u lg=>Sp l ks h lg e fun vs rs us lg=>Oi u us fun w=>k (.fv y::vs) rs w lg:=rfl
section
variable (d:Nat) (h:Hp) (lg:List Ref) (e:Option β) (k:FV→List (Ref×Blk)→List Ref→Option β)
theorem Aje (cs:List IV):EJ 12 (.agg cs) h lg e k=cond (Nat.ble cs.length 300) (CU (EJ 11) cs h lg e fun cs u lg=>k (.agg cs) u lg) e:=rfl
theorem U4 (s:Nat) (off:Nat):EJ 12 (.ptr (.own s) off) h lg e k=CV (.own s) h fun b=>DU b fun cells=>cond (Nat.ble cells.length 300) (CU (EJ 11) cells h (.own s::lg) e fun cs u lg=>k (.fp cs off) ((.own s,.row cells true)::u) lg) e:=rfl
theorem K4 (v:FV):EJ 11 (.fv v) h lg e k=k v [] lg:=rfl
theorem fl0 (g:FzK β) (k:List FV→List (Ref×Blk)→List Ref→Option β):CU g [] h lg e k=k [] [] lg:=rfl
theorem fl1 (g:FzK β) (x:IV) (l:List IV) (k:List FV→List (Ref×Blk)→List Ref→Option β):CU g (x::l) h lg e k=g x h lg e fun y u lg=>CU g l h lg e fun ys us lg=>Oi u us fun w=>k (y::ys) w lg:=rfl
end
def PE (rs:List Ref) (r:Option (IV×Hp)) (h:Hp) (u:List (Ref×Blk)) (lg:List Ref) (e:Option (IV×Hp)) (g:List Ref→Option (IV×Hp)) (k:IV→Hp→List Ref→List Ref→Option (IV×Hp)):Option (IV×Hp):=match rs with
 | []=>(match r with
  | none=>none
  | some p=>match p with
   | (v,h')=>match h' with
    | ⟨own,ext⟩=>List.casesOn (motive:=fun _=>Option (IV×Hp)) ext (EJ 12 v ⟨own,[]⟩ [] e fun w _ _=>KS u h fun h2=>k (.fv w) h2 lg (Bk u)) fun _ _=>none)
 | r::rs=>g (r::rs)
theorem Je (keep:List Bool) (ih:Aa) (f:FuncId) (args:List IV) (h:Hp) (k:IV→Hp→List Ref→List Ref→Option (IV×Hp)):Ak keep false false ih f args h k =
  Sp args keep h [] (ES keep false false ih f args h k) fun vs rs u lg=>PE rs (ih f vs ⟨[],[]⟩) h u lg (ES keep false false ih f args h k) (fun rs=>match rs with
   | []=>none
   | r::rs=>(match h with
    | ⟨own,ext⟩=>cond (Ob 400 (r::rs) 0 ext) (match ih f vs ⟨[],ext⟩ with
     | none=>none
     | some p=>match p with
      | (v,h')=>match h' with
       | ⟨own',ext'⟩=>cond (and (Nat.beq ext'.length ext.length) (okB ext.length ext'))
        (EJ 12 v ⟨own',ext'⟩ [] (ES keep false false ih f args h k) fun w _ _=>KS u ⟨own,ext'⟩ fun h2=>k (.fv w) h2 ((CC ext.length).reverse++lg) (Bk u++CC ext.length)) none)
     (ES keep false false ih f args h k))) k:=by
 unfold Ak;simp only [cond_false];congr 1
theorem AmA {r:Option (IV×Hp)} {w:FV} (hr:Ac0 r w) (h:Hp) (u:List (Ref×Blk)) (lg:List Ref) (e:Option (IV×Hp)) (g:List Ref→Option (IV×Hp)) (k:IV→Hp→List Ref→List Ref→Option (IV×Hp)) :
  PE [] r h u lg e g k=KS u h fun h2=>k (.fv w) h2 lg (Bk u):=by
 obtain ⟨v,own,rfl,u',lg',hz⟩:=hr;simp only [PE];rw [hz]
theorem AcN:∀(args:List IV) {vs:List FV} (h:Hp) (lg:List Ref) (e:Option β) (k:List IV→List Ref→List (Ref×Blk)→List Ref→Option β),Bx args=some vs→Sp args [] h lg e k=k (vs.map .fv) [] [] lg
 | [],vs,h,lg,e,k,hz=>by cases hz;rfl
 | v::l,vs,h,lg,e,k,hz=>by
  simp only [Bx] at hz;cases h1:A4 v with
  | none=>rw [h1] at hz;cases hz
  | some x =>
   rw [h1] at hz;cases h2:Bx l with
   | none=>rw [h2] at hz;cases hz
   | some ys =>
    rw [h2] at hz;cases hz
    show EJ 12 v h lg e (fun y u lg=>Sp l [] h lg e fun vs rs us lg=>Oi u us fun w=>k (.fv y::vs) rs w lg)=_
    rw [Kw h lg e _ h1,AcN l h lg e _ h2];rfl
theorem E1 (f:Ref→Option Ref):∀l:List FV,IV.ren.renL f (l.map .fv)=some (l.map .fv)
 | []=>rfl
 | v::l=>by
  simp only [Arl,IV.ren.renL,IV.ren,E1 f l];rfl
theorem TS {ih:Aa} {f:FuncId} {args:List IV} {vs:List FV} {w:FV} (hz:Bx args=some vs) (hr:BZ (ih f (vs.map .fv) ⟨[],[]⟩) w) (h:Hp) (k:IV→Hp→List Ref→List Ref→Option (IV×Hp)) :
  Ak [] false false ih f args h k=k (.fv w) h [] []:=by
 obtain ⟨v,own,e,hv⟩:=hr;have hD:(∃u,(CJ 4096 v).run ⟨own,[]⟩=some (w,u))→ES [] false false ih f args h k=k (.fv w) h [] []:=by
  rintro ⟨u,hu⟩;unfold ES;simp only [Md args hz,Rd.runLog,BT,E1,Ark,A1,Df (Ce 3),Df Cw,Jc,Bool.false_eq_true,if_false,e,hu,Ari,IV.ren]
  show (match laid h ([]++(Bk []).zip []) with | none=>none | some h'=>fH h' fun h'=>fV 3 (.fv w) fun res=>k res h' [] _)=_
  simp only [Bk,Ark,List.zip_nil_left,List.append_nil,laid,K3,Ce]
 rw [Je,AcN args h [] _ _ hz,e];simp only [PE];rcases hv with ⟨u',lg',hf⟩ | ⟨hf,hu⟩
 ·rw [hf];rfl
 ·rw [hf];exact hD hu
theorem G3 {ih:Aa} {f:FuncId} {w:FV} (hr:BZ (ih f [] ⟨[],[]⟩) w) (h:Hp) (k:IV→Hp→List Ref→List Ref→Option (IV×Hp)) :
  Ak [] false false ih f [] h k=k (.fv w) h [] []:=TS (vs:=[]) rfl hr h k
theorem Ay {ih:Aa} {f:FuncId} {a:IV} {x w:FV} (hr:BZ (ih f [.fv x] ⟨[],[]⟩) w) (ha:A4 a=some x) (h:Hp) (k:IV→Hp→List Ref→List Ref→Option (IV×Hp)) :
  Ak [] false false ih f [a] h k=k (.fv w) h [] []:=TS (AcJ ha) hr h k
theorem Ag {ih:Aa} {f:FuncId} {a b:IV} {x y w:FV} (hr:BZ (ih f [.fv x,.fv y] ⟨[],[]⟩) w) (ha:A4 a=some x) (hb:A4 b=some y) (h:Hp) (k:IV→Hp→List Ref→List Ref→Option (IV×Hp)) :
  Ak [] false false ih f [a,b] h k=k (.fv w) h [] []:=TS (UK ha hb) hr h k
theorem A5 {ih:Aa} {f:FuncId} {a b c:IV} {x y z w:FV} (hr:BZ (ih f [.fv x,.fv y,.fv z] ⟨[],[]⟩) w) (ha:A4 a=some x) (hb:A4 b=some y) (hc:A4 c=some z) (h:Hp) (k:IV→Hp→List Ref→List Ref→Option (IV×Hp)) :
  Ak [] false false ih f [a,b,c] h k=k (.fv w) h [] []:=TS (Abv ha hb hc) hr h k
theorem AG {ih:Aa} {f:FuncId} {a b c d:IV} {x y z u w:FV} (hr:BZ (ih f [.fv x,.fv y,.fv z,.fv u] ⟨[],[]⟩) w) (ha:A4 a=some x) (hb:A4 b=some y) (hc:A4 c=some z) (hd:A4 d=some u) (h:Hp)
  (k:IV→Hp→List Ref→List Ref→Option (IV×Hp)):Ak [] false false ih f [a,b,c,d] h k=k (.fv w) h [] []:=TS (AlL ha hb hc hd) hr h k
theorem GH (v:IV) (s:Nat) (h:Hp) (k:IV→Hp→List Ref→List Ref→Option β):Aw (.ret { eff:={ val:=v } }) s h k=k v h [] []:=by
 unfold Aw;simp only [Rd.runLog,HJ,Ce];rfl
theorem gen_val' (v:IV) (s:Nat) (h:Hp) (k:IV→Hp→List Ref→List Ref→Option β):Aw (Idl.val v) s h k=k v h [] []:=GH v s h k
theorem Ci {e:TypeId} {a b:Nat} {ei:TI} {z:List IV} (hT:E.T t=some ⟨a,b,.slice e,z⟩) (he:E.T e=some ei) {len:Nat} (hs:¬ (ei.size=0∨len * ei.size > 65536)) {parts:List (Nat×IV)} {cells:List FV}
  (hf:Ck (fun j=>some (j * ei.size,ei.size)) (Oj len ei.zero) parts=some (cells.map .fv)) {s:Nat} {h:Hp} (k:IV→Hp→List Ref→List Ref→Option β) (hc:cells.length<65000:=by simp) :
  Aw (Af E t len parts) s h k=k (.clip (BH ei.size len cells)) h [] []:=by
 have key:∀(l:List FV) (n:Nat),l.length<n→frzL n (l.map .fv)=.ret (l,[]):=by
  intro l
  induction l with
  | nil=>intro n hn;cases n with
   | zero=>simp at hn
   | succ n=>rfl
  | cons x l ih=>intro n hn;cases n with
   | zero=>simp at hn
   | succ n =>
    simp only [Arj] at hn;cases n with
    | zero=>omega
    | succ n =>
     simp only [Arl,frzL,CJ,Rd.bind];rw [ih (n+1) (by omega)];rfl
 have:Af E t len parts=.ret { eff:={ val:=.clip (BH ei.size len cells),upd:=[] } }:=by
  simp only [Af,hT,he,if_neg hs,hf];rw [key _ _ (by omega)];rfl
 rw [this,GH]
end
end Idl
end Go.Proofs.Ytkfecngimlcfoaa
namespace Go.Proofs.Ytkfecngimlcfoaa
namespace Idl
def XY:=Are @decide_true<|Are @decide_false<|Are @Bool.not_true<|Are @Bool.not_false<|Are @List.map_cons.{0,0}<|Are @List.map_nil.{0,0}<|Are @List.length_map.{0,0}<|Are @List.length_cons.{0}<|Are @List.length_nil.{0}<|Are @Int.natCast_zero<|Are @Int.natCast_one<|Are @Bool.false_eq_true<|Are @Bool.true_eq_false<|Are @decide_eq_true_eq<|Are @eq_self.{1}<|Are @Bool.and_true<|Are @Bool.true_and<|Are @Bool.and_false<|Are @Bool.false_and<|Are @Nat.zero_add<|@Int.cast_ofNat_Int
def XE:=Are @List.any_cons.{0}<|Are @List.any_nil.{0}<|Are @List.all_cons.{0}<|Are @List.all_nil.{0}<|Are @List.filter_cons.{0}<|Are @List.filter_nil.{0}<|Are @List.contains_cons.{0}<|Are @List.contains_nil.{0}<|Are @Bool.or_false<|Are @Bool.or_true<|Are @Bool.false_or<|Are @Bool.true_or<|Are @Bool.and_self<|Are @Bool.not_eq_true<|Are @BEq.rfl.{0}<|@beq_self_eq_true.{0}
def XX:=Are @n0<|Are @n1<|Are @n2<|Are @n3<|Are @n4<|Are @n5<|Are @n6<|Are @d0<|Are @d1<|Are @d2<|Are @d3<|Are @d4<|Are @t1<|Are @t2<|Are @t3<|Are @t4<|Are @t7<|Are @ap0<|Are @ap1<|Are @Anv<|Are @c_t<|Are @c_f<|Are @K6<|Are @Amu<|Are @Ah9<|Are @Ajn<|Are @Am2<|Are @Aig<|Are @Ajs<|Are @Anj<|Are @AiV<|Are @Wm<|Are @Ag9<|Are @sn0<|Are @AmQ<|Are @AlU<|Are @Am7<|Are @AlG<|Are @AmS<|Are @Tc<|Are @AgY<|Are @Ale<|Are @Ahj<|Are @AlX<|Are @Amf<|Are @Ag1<|Are @Aga<|Are @AhM<|Are @Ai1<|Are @AjL<|Are @Akh<|Are @AgA<|Are @AjA<|Are @Ai0<|Are @AfY<|Are @AjR<|Are @Ahc<|Are @Amx<|Are @AlQ<|Are @AgB<|Are @Ajv<|Are @Af2<|Are @Ta<|Are @P3<|Are @AoD<|Are @Ja<|Are @VX<|Are @AcU<|Are @Vr<|Are @Ajm<|Are @AjW<|Are @AkD<|Are @Aj9<|Are @Ai2<|Are @Akf<|Are @Aj7<|Are @Am4<|Are @AjZ<|Are @Ags<|Are @AkW<|Are @Adl<|Are @Agj<|Are @AeR<|Are @AgJ<|Are @Agx<|Are @Agt<|Are @Adf<|Are @Amd<|Are @Ana<|Are @AoH<|Are @AoO<|Are @Aio<|Are @AiE<|Are @wr0<|Are @wr1<|Are @sf0<|Are @sf1<|Are @sf2<|Are @sf3<|Are @sf4<|Are @of0<|Are @of1<|Are @of2<|Are @of3<|Are @of6<|Are @Aoi<|Are @AcD<|Are @Aof<|Are @sc3<|Are @Ao6<|Are @Aok<|Are @AlM<|Are @AnK<|Are @Am5<|Are @Aer<|Are @Aoq<|Are @Aoe<|Are @AoZ<|Are @Ape<|Are @AmY<|Are @fk0<|Are @fk1<|Are @Ai5<|Are @Ajr<|Are @nb3<|Are @nb4<|Are @nb7<|Are @nl3<|Are @Ajg<|Are @Anc<|Are @AmB<|Are @AlD<|Are @AeO<|Are @MB<|Are @Apa<|Are @AnY<|Are @An1<|Are @Aom<|Are @AoL<|Are @Aox<|Are @AmC<|Are @AmX<|Are @An9<|Are @An5<|Are @Aod<|Are @AoT<|Are @Aoj<|Are @AoW<|Are @Amj<|Are @Al1<|Are @Ane<|Are @AmZ<|Are @Aot<|Are @ch0<|Are @ch1<|Are @dj0<|Are @djn<|Are @dj1<|Are @an0<|Are @an1<|Are @An0<|Are @AmI<|Are @Amv<|Are @An2<|Are @Ao4<|Are @AoM<|Are @AoN<|Are @AoX<|Are @AnI<|Are @Anx<|Are @AnH<|Are @AnA<|Are @Amh<|Are @BN<|Are @AoK<|Are @Aph<|Are @Apb<|Are @AgF<|Are @AgX<|Are @Af9<|Are @AfT<|Are @Ang<|Are @Agb<|Are @AiX<|Are @Ahx<|Are @Ai4<|Are @AnC<|Are @Af8<|Are @Ai6<|Are @Agz<|Are @AkF<|Are @AoB<|Are @AoQ<|Are @Ali<|Are @UK<|Are @Abv<|Are @AlL<|Are @AcJ<|Are @GH<|@gen_val'
def Ev (f:FuncId) (args:List IV) (w:FV):Prop:=∃N,∀n,N≤n→BZ (SS dt n f args ⟨[],[]⟩) w
theorem A7 {F:(List IV→Hp→Option (IV×Hp))→List IV→Hp→Option (IV×Hp)} {Q:Option (IV×Hp)→Prop} (P:Nat→List IV→Hp→Prop)
  (step:∀k V H rec,P k V H→(∀k' V' H',k' < k→P k' V' H'→Q (rec V' H'))→Q (F rec V H)):∀m k V H,k<m→P k V H→Q (BD m F V H):=by
 intro m
 induction m with
 | zero=>intro k V H h;omega
 | succ m ih=>intro k V H hk hP;exact step k V H (BD m F) hP fun k' V' H' h1 h2=>ih k' V' H' (by omega) h2
mutual
def Tm.wt:Tm→Nat
 | .mk _ _ l=>1+Tm.wtL l
def Tm.wtL:List Tm→Nat
 | []=>0
 | t::l=>t.wt+Tm.wtL l
end
theorem DD {t:Tm}:∀{l:List Tm},t∈l→t.wt≤Tm.wtL l
 | a::l,h=>by
  rcases List.mem_cons.1 h with rfl | h
  ·simp only [Tm.wtL];omega
  ·have:=DD h;simp only [Tm.wtL];omega
theorem Fg:∀(l:List Tm),l.length≤Tm.wtL l
 | []=>Nat.zero_le _
 | (.mk _ _ k)::l=>by have:=Fg l;simp only [Tm.wtL,Tm.wt,Arj];omega
theorem I6 (t:Tm):0<t.wt:=by cases t;simp only [Tm.wt];omega
theorem Am (op n:Int) (l:List Tm):(Tm.mk op n l).enc=.agg [.int .i64 op,.int .i64 n,.sl (l.map Tm.enc)]:=by simp only [Tm.enc,Xi]
theorem AY {l:List Tm} {i:Nat} {op n:Int} {k:List Tm} (h:l[i]?=some (.mk op n k)):(l.map Tm.enc)[i]?=some (.agg [.int .i64 op,.int .i64 n,.sl (k.map Tm.enc)]):=by
 rw [List.getElem?_map,h,Ari,Am]
theorem Cv {α:Type} {l pre rest:List α} {a:α} (h:l=pre++a::rest):l[pre.length]?=some a:=by
 rw [h,List.getElem?_append_right (Nat.le_refl _),Nat.sub_self];rfl
theorem Cy (a b c:FV):(FV.agg [a,b,c]).cells=[a,b,c]:=rfl
theorem Bt (a b c:FV):(FV.agg [a,b,c]).cells.length=3:=rfl
section
variable {β:Type} {E:Env}
def AdM (b:Blk) (n sz:Nat) (x:Option β):Option β:=match b with
 | .tok a s=>if a=n∧s=sz then x else none
 | _=>none
theorem Hc (n sz:Nat) (x:Option β):AdM (.tok n sz) n sz x=x:=by
 show (if n=n∧sz=sz then x else none)=x
 rw [if_pos ⟨rfl,rfl⟩]
inductive Plain2:IV→List FV→Prop
 | clip (es:List FV):Plain2 (.clip es) es
 | sl (es:List FV):Plain2 (.fv (.sl es)) es
 | app (r:Ref) (es:List FV):Plain2 (.app r es) es
theorem Uc {x:IV} {es:List FV} (h:Plain2 x es):CJ 4096 x=.ret (.sl es,[]):=by cases h<;>rfl
structure SliceT (E:Env) (t:TypeId) (size:Nat):Prop where
 h:∃a b e z ei,E.T t=some ⟨a,b,.slice e,z⟩∧E.T e=some ei∧ei.size=size∧size≠0∧ei.bytes≤100000
theorem K1 {t:TypeId} {size:Nat} (T:SliceT E t size) {x:IV} {es2:List FV} (hx:Plain2 x es2) (h1:Bv size es2=true) (hne:es2.isEmpty=false) (hb:es2.length≤1000000) {s0:IV} (hs:s0=.nils∨s0=.clip []) (s:Nat) (own:List (Nat×Blk)) (ext:List Blk)
  (k:IV→Hp→List Ref→List Ref→Option β):Aw (AS E s false .append [t,t] [s0,x]) s ⟨own,ext⟩ k=Cu own s (A0 own s (.tok es2.length size) fun own=>k (.app (.own s) es2) ⟨own,ext⟩ [] [.own s]):=by
 obtain ⟨a,b,e,z,ei,hT,he,rfl,h0,hby⟩:=T.h;have hlen:¬ (Bv ei.size []=false∨(([]:List FV).length+es2.length) * ei.bytes > 140737488355328∨([]:List FV).length+es2.length > 1073741824):=by
  have:es2.length * ei.bytes≤1000000 * 100000:=Nat.mul_le_mul hb hby
  rintro (h | h | h)
  ·cases h
  ·simp only [List.length_nil,Nat.zero_add] at h;omega
  ·simp only [List.length_nil,Nat.zero_add] at h;omega
 have key:AS E s false .append [t,t] [s0,x]=.ret { eff:={ val:=.app (.own s) es2,upd:=[] },new:=some (.tok es2.length ei.size) }:=by
  show EU E s t (some t) false s0 x=_
  simp only [EU,hT,Option.bind_some,he,Uc hx,Rd.bind,h0,h1,false_or,Bool.true_eq_false,if_false];rcases hs with rfl | rfl<;>simp only [B4,if_neg hlen,hne,List.nil_append,Bool.false_eq_true,if_false]
 rw [key];unfold Aw;simp only [Rd.runLog]
 show (I1 (some (.tok es2.length ei.size)) s ⟨own,ext⟩ fun h=>fV 3 (.app (.own s) es2) fun v=>k v h [] ([]++[.own s]))=_
 simp only [I1,Cw,Ce];rfl
theorem Ail {t:TypeId} {size:Nat} (T:SliceT E t size) {x:IV} (hx:Plain2 x []) {s0:IV} (hs:s0=.nils∨s0=.clip []) (s:Nat) (h:Hp) (k:IV→Hp→List Ref→List Ref→Option β) :
  Aw (AS E s false .append [t,t] [s0,x]) s h k=k s0 h [] []:=by
 obtain ⟨a,b,e,z,ei,hT,he,rfl,h0,hby⟩:=T.h;have hlen:¬ (Bv ei.size []=false∨(([]:List FV).length+([]:List FV).length) * ei.bytes > 140737488355328∨([]:List FV).length+([]:List FV).length > 1073741824):=by
  rintro (h | h | h)
  ·cases h
  ·simp at h
  ·simp at h
 have key:AS E s false .append [t,t] [s0,x]=.ret { eff:={ val:=s0,upd:=[] } }:=by
  show EU E s t (some t) false s0 x=_
  have h1:Bv ei.size []=true:=rfl;simp only [EU,hT,Option.bind_some,he,Uc hx,Rd.bind,h0,h1,false_or,Bool.true_eq_false,if_false];rcases hs with rfl | rfl
  ·simp only [B4];rw [if_neg hlen];simp
  ·simp only [B4];rw [if_neg hlen];simp
 rw [key];exact GH s0 s h k
theorem Tn {t:TypeId} {size:Nat} (T:SliceT E t size) {x:IV} {es es2:List FV} (hx:Plain2 x es2) (h1:Bv size es2=true) (h2:Bv size es=true) (ho:(es2.all fun e=>e.cells.all FV.one)=true) (hb:es.length+es2.length≤1000000) (r s:Nat)
  (own:List (Nat×Blk)) (ext:List Blk) (k:IV→Hp→List Ref→List Ref→Option β):Aw (AS E s false .append [t,t] [.app (.own r) es,x]) s ⟨own,ext⟩ k =
   Ga own r fun b=>AdM b es.length size (A0 own r (.tok (es.length+es2.length) size) fun own=>k (.app (.own r) (es++es2)) ⟨own,ext⟩ [.own r] [.own r]):=by
 obtain ⟨a,b,e,z,ei,hT,he,rfl,h0,hby⟩:=T.h;have hlen:¬ (Bv ei.size es=false∨(es.length+es2.length) * ei.bytes > 140737488355328∨es.length+es2.length > 1073741824):=by
  have:(es.length+es2.length) * ei.bytes≤1000000 * 100000:=Nat.mul_le_mul hb hby
  rintro (h | h | h)
  ·rw [h2] at h;cases h
  ·omega
  ·omega
 have key:(AS E s false .append [t,t] [.app (.own r) es,x]).runLog ⟨own,ext⟩ []=(Ap r own).bind fun b=>match b with
   | .tok n sz=>if n=es.length∧sz=ei.size then some ({ eff:={ val:=.app (.own r) (es++es2),upd:=[(.own r,.tok (n+es2.length) sz)] } },[.own r]) else none
   | _=>none:=by
  show (EU E s t (some t) false (.app (.own r) es) x).runLog _ _=_
  simp only [EU,hT,Option.bind_some,he,Uc hx,Rd.bind,h0,h1,false_or,Bool.true_eq_false,if_false,B4,if_neg hlen,Rd.runLog,ho,and_true]
  show (match Ap r own with | some b=>_ | none=>none)=_
  cases Ap r own with
  | none=>rfl
  | some b =>
   cases b with
   | tok n sz =>
    simp only [Option.bind_some];by_cases hc:n=es.length∧sz=ei.size
    ·rw [if_pos hc,if_pos hc];rfl
    ·rw [if_neg hc,if_neg hc];rfl
   | _=>rfl
 unfold Aw;rw [key,Br];cases hl:Ap r own with
 | none=>simp
 | some b =>
  simp only [Option.bind_some];cases b with
  | tok n sz =>
   simp only [AdM];by_cases hc:n=es.length∧sz=ei.size
   ·rw [if_pos hc,if_pos hc];obtain ⟨rfl,rfl⟩:=hc
    show (fRf (.own r) fun q=>CV q ⟨own,ext⟩ fun _=>fBk (.tok (es.length+es2.length) ei.size) fun b=>Fu q b ⟨own,ext⟩ fun h=>I1 none s h fun h=>fV 3 (.app (.own r) (es++es2)) fun v=>k v h [.own r] ([.own r]++[]))=_
    simp only [Ma,Cw,Ce,I1,Fu,CV];rw [Br,hl];rfl
   ·rw [if_neg hc,if_neg hc]
  | row _ _=>rfl
  | map _=>rfl
end
end Idl
end Go.Proofs.Ytkfecngimlcfoaa
namespace Go.Proofs.Ytkfecngimlcfoaa
namespace Idl
theorem Od:EE.T 28=some ⟨1,24,.slice 30,[.nils]⟩:=by kernel_rfl
theorem tTm:EE.T 30=some ⟨3,40,.struct [(0,3),(1,3),(2,28)],[.fv (.int .i64 0),.fv (.int .i64 0),.nils]⟩:=by kernel_rfl
theorem sTm:SliceT EE 28 3:=⟨_,_,_,_,_,Od,tTm,rfl,by decide,by decide⟩
theorem I5 (a:Tm) (s:Nat) (h:Hp) (k:IV→Hp→List Ref→List Ref→Option (IV×Hp)):Aw (Af EE 28 1 [(0,.fv a.enc)]) s h k=k (.clip [a.enc]) h [] []:=by
 obtain ⟨o1,n1,k1⟩:=a;exact Ci Od tTm (by decide) (cells:=[.int .i64 o1,.int .i64 n1,.sl (Tm.enc.encL k1)]) rfl k
theorem AkI (a b:Tm) (s:Nat) (h:Hp) (k:IV→Hp→List Ref→List Ref→Option (IV×Hp)):Aw (Af EE 28 2 [(0,.fv a.enc),(1,.fv b.enc)]) s h k=k (.clip [a.enc,b.enc]) h [] []:=by
 obtain ⟨o1,n1,k1⟩:=a;obtain ⟨o2,n2,k2⟩:=b;exact Ci Od tTm (by decide) (cells:=[.int .i64 o1,.int .i64 n1,.sl (Tm.enc.encL k1),.int .i64 o2,.int .i64 n2,.sl (Tm.enc.encL k2)]) rfl k
theorem Ahu (a:Tm):a.enc.cells.length=3:=by cases a;rfl
theorem Ahk (a:Tm):a.enc.cells.all FV.one=true:=by cases a;rfl
theorem Pg (l:List Tm):Bv 3 (l.map Tm.enc)=true:=by
 cases l with
 | nil=>rfl
 | cons a l=>simp only [Arl,Bv,Ahu,beq_self_eq_true]
theorem Q5 (e:Tm) (s:Nat) (own:List (Nat×Blk)) (ext:List Blk) (k:IV→Hp→List Ref→List Ref→Option (IV×Hp)) :
  Aw (AS EE s false .append [28,28] [.nils,.clip [e.enc]]) s ⟨own,ext⟩ k=Cu own s (A0 own s (.tok 1 3) fun own=>k (.app (.own s) [e.enc]) ⟨own,ext⟩ [] [.own s]) :=
 K1 sTm (.clip _) (Pg [e]) rfl (by simp) (.inl rfl) s own ext k
theorem LX {es:List Tm} (hb:es.length+1≤1000000) (e:Tm) (r s:Nat) (own:List (Nat×Blk)) (ext:List Blk) (k:IV→Hp→List Ref→List Ref→Option (IV×Hp)) :
  Aw (AS EE s false .append [28,28] [.app (.own r) (es.map Tm.enc),.clip [e.enc]]) s ⟨own,ext⟩ k =
   Ga own r fun b=>AdM b es.length 3 (A0 own r (.tok (es.length+1) 3) fun own=>k (.app (.own r) ((es++[e]).map Tm.enc)) ⟨own,ext⟩ [.own r] [.own r]):=by
 rw [Tn sTm (.clip [e.enc]) (Pg [e]) (Pg es) (by simp [Ahk]) (by simpa using hb) r s own ext k];simp only [List.length_map,List.map_append,Arl,Ark,Arj,List.length_nil,Nat.zero_add]
theorem AfH {x m:Int} (h1:0<m) (h2:m≤4611686018427387904):(if x.tmod m<0 then BM (x.tmod m+m) else x.tmod m)=x % m:=by
 have a1:=Int.emod_nonneg x (show m≠0 by omega)
 have a2:=Int.emod_lt_of_pos x h1;have e1:x.tmod m=x - m * x.tdiv m:=by have:=Int.mul_tdiv_add_tmod x m;omega
 have e2:x % m=x - m * (x / m):=by have:=Int.mul_ediv_add_emod x m;omega
 have b1:-m<x.tmod m:=Int.lt_tmod_of_pos x h1;have b2:x.tmod m<m:=Int.tmod_lt_of_pos x h1;have key:∃q,x.tmod m=x % m+m * q:=⟨x / m - x.tdiv m,by rw [e1,e2,Int.mul_sub];omega⟩;obtain ⟨q,hq⟩:=key;have hq2:q=0∨q=-1:=by
  rcases Int.lt_trichotomy q 0 with h | h | h
  ·right;rcases Int.lt_trichotomy q (-1) with h' | h' | h'
   ·have:m * q≤m * (-2):=Int.mul_le_mul_of_nonneg_left (by omega) (by omega)
    omega
   ·exact h'
   ·omega
  ·exact .inl h
  ·have:m * 1≤m * q:=Int.mul_le_mul_of_nonneg_left (by omega) (by omega)
   omega
 rcases hq2 with rfl | rfl
 ·rw [if_neg (by omega)];omega
 ·rw [if_pos (by omega),As (by omega) (by omega)];omega
theorem Ar {n:Nat} (hn:0<n) (x:Int) {m:Int} (h1:0<m) (h2:m≤4611686018427387904):BZ (SS dt n 55 [iv x,iv m] ⟨[],[]⟩) (.int .i64 (x % m)):=by
 obtain ⟨n,rfl⟩:=Nat.exists_eq_add_of_lt hn;rw [Nat.zero_add,c55];simp only [S55,↓XX,XY,↓reduceIte,Nat.reduceBEq,Nat.reduceAdd,Int.reduceEq,Int.reduceLT,Int.reduceLE,↓MB (show m≠0 by omega)]
 rw [← AfH h1 h2];by_cases hc:x.tmod m<0<;>simp only [hc,if_true,if_false]<;>exact Ao _ _
theorem EM {n:Nat} (hn:0<n) (op:Int):BZ (SS dt n 24 [iv op,.fv (.sl [])] ⟨[],[]⟩) (Tm.mk op 0 []).enc:=by
 obtain ⟨n,rfl⟩:=Nat.exists_eq_add_of_lt hn;rw [Nat.zero_add,c24];simp only [S24,↓XX,XY,↓reduceIte,Nat.reduceBEq,Nat.reduceAdd,Int.reduceEq,Int.reduceLT,Int.reduceLE];exact Ao _ _
theorem CF {n:Nat} (hn:0<n) (op:Int) (l:List Tm):BZ (SS dt n 24 [iv op,.fv (.sl (l.map Tm.enc))] ⟨[],[]⟩) (Tm.mk op 0 l).enc:=by
 obtain ⟨n,rfl⟩:=Nat.exists_eq_add_of_lt hn;rw [Nat.zero_add,c24];simp only [S24,↓XX,XY,↓reduceIte,Nat.reduceBEq,Nat.reduceAdd,Int.reduceEq,Int.reduceLT,Int.reduceLE,Am];exact Ao _ _
def Tm.kids:Tm→List Tm
 | .mk _ _ l=>l
def Tm.op:Tm→Int
 | .mk o _ _=>o
def Tm.n:Tm→Int
 | .mk _ n _=>n
def Tm.pick (r:Tm) (i:Nat):Tm:=match r.kids[i]? with
 | some k=>k
 | none=>.mk (BM (BM (r.op.tdiv 3)+i)) (BM (BM (r.n.tdiv 5)+BM (7 * i))) []
theorem AI {n:Nat} (hn:0<n) (r:Tm) (i:Nat):BZ (SS dt n 56 [.fv r.enc,iv i] ⟨[],[]⟩) (r.pick i).enc:=by
 obtain ⟨n,rfl⟩:=Nat.exists_eq_add_of_lt hn;rw [Nat.zero_add,c56];obtain ⟨op,m,ks⟩:=r;rw [Am];simp only [Tm.pick,Tm.kids,Tm.op,Tm.n];cases hk:ks[i]? with
 | some k =>
  have hi:(i:Int)<ks.length:=by have:=(List.getElem?_eq_some_iff.1 hk).1;omega
  obtain ⟨o,p,l⟩:=k;simp only [UP,Uf,UC,U5,S56,↓XX,XY,↓reduceIte,Nat.reduceBEq,Nat.reduceAdd,Int.reduceEq,Int.reduceLT,Int.reduceLE,hi,↓BN (AY hk) (Bt _ _ _),↓Cy,Am];exact Ao _ _
 | none =>
  have hi:¬ (i:Int)<ks.length:=by have:=List.getElem?_eq_none_iff.1 hk;omega
  simp only [UP,Uf,UC,U5,S56,↓XX,XY,↓reduceIte,Nat.reduceBEq,Nat.reduceAdd,Int.reduceEq,Int.reduceLT,Int.reduceLE,hi,↓AeO (show (3:Int)≠0 by decide),↓AeO (show (5:Int)≠0 by decide)]
  exact Be rfl _
section
variable {β:Type}
def B6 (s:Nat):IV→Bool
 | .ptr (.own j) _=>s == j
 | .slc (.own j) _ _=>s == j
 | .app (.own j) _=>s == j
 | .mapr (.own j)=>s == j
 | _=>false
def Fo:IV→Bool
 | .agg _ | .tuple _ | .func ..=>false
 | _=>true
def E8 (s:Nat):Blk→Bool
 | .row cells _=>cells.any (B6 s)
 | _=>false
def SN:Blk→Bool
 | .row cells _=>cells.all Fo
 | .tok ..=>true
 | .map _=>false
theorem Aby {v:IV} (h:Fo v=true) (s:Nat):(Ref.own s∈v.refs) ↔ B6 s v=true:=by
 cases v with
 | ptr r o=>cases r<;>simp [IV.refs,B6]
 | slc r a b=>cases r<;>simp [IV.refs,B6]
 | app r es=>cases r<;>simp [IV.refs,B6]
 | mapr r=>cases r<;>simp [IV.refs,B6]
 | agg _=>cases h
 | tuple _=>cases h
 | func _ _ _=>cases h
 | _=>simp [IV.refs,B6]
theorem I3:∀{l:List IV},l.all Fo=true→∀s,(Ref.own s∈IV.refs.refsL l) ↔ l.any (B6 s)=true
 | [],_,s=>by simp [IV.refs.refsL]
 | v::l,h,s=>by
  rw [List.all_cons,Bool.and_eq_true] at h;rw [IV.refs.refsL,List.mem_append,List.any_cons,Bool.or_eq_true,Aby h.1,I3 h.2]
theorem DX {b:Blk} (h:SN b=true) (s:Nat):(Ref.own s∈b.refs) ↔ E8 s b=true:=by
 cases b with
 | row cells ro=>exact I3 h s
 | tok n sz=>simp [Blk.refs,E8]
 | map es=>cases h
theorem HQ (s:Nat):∀l:List Ref,anyIn [s] l=true ↔ Ref.own s∈l
 | []=>by simp [anyIn]
 | .own k::l=>by
  rw [anyIn,Bool.or_eq_true,HQ s l,List.mem_cons];simp [eq_comm]
 | .ext k::l=>by
  rw [anyIn,HQ s l,List.mem_cons];simp
def heldB (rm:List Nat) (vals:List IV) (own:List (Nat×Blk)) (ext:List Blk) (s:Nat):Bool :=
 vals.any (B6 s) || (own.any (fun p=>!rm.contains p.1 && E8 s p.2) || ext.any (E8 s))
def Hq (rm:List Nat) (vals:List IV) (own:List (Nat×Blk)) (ext:List Blk):List (Nat×Blk):=own.filter fun p=>!rm.contains p.1 || heldB rm vals own ext p.1
def AQ (rm:List Nat) (vals:List IV) (own:List (Nat×Blk)) (ext:List Blk):Bool :=
 vals.all Fo && (own.all (fun p=>SN p.2) && (ext.all SN && own.all fun p=>!rm.contains p.1 || rm.all fun s=>!E8 s p.2))
theorem Tf {rm:List Nat} {vals:List IV} {own:List (Nat×Blk)} {ext:List Blk} (hf:AQ rm vals own ext=true) (s:Nat) :
  Ref.own s∈IV.refs.refsL vals++(own.filter fun p=>!rm.contains p.1).flatMap (fun p=>p.2.refs)++ext.flatMap Blk.refs ↔ heldB rm vals own ext s=true:=by
 simp only [AQ,Bool.and_eq_true] at hf;obtain ⟨h1,h2,h3,_⟩:=hf;have e1:Ref.own s∈(own.filter fun p=>!rm.contains p.1).flatMap (fun p=>p.2.refs) ↔ (own.any fun p=>!rm.contains p.1 && E8 s p.2)=true:=by
  rw [List.mem_flatMap,List.any_eq_true];constructor
  ·rintro ⟨p,hp,hr⟩;obtain ⟨hp1,hp2⟩:=List.mem_filter.1 hp;exact ⟨p,hp1,by rw [hp2,(DX (List.all_eq_true.1 h2 p hp1) s).1 hr];rfl⟩
  ·rintro ⟨p,hp,hr⟩;rw [Bool.and_eq_true] at hr;exact ⟨p,List.mem_filter.2 ⟨hp,hr.1⟩,(DX (List.all_eq_true.1 h2 p hp) s).2 hr.2⟩
 have e2:Ref.own s∈ext.flatMap Blk.refs ↔ ext.any (E8 s)=true:=by
  rw [List.mem_flatMap,List.any_eq_true];constructor
  ·rintro ⟨p,hp,hr⟩;exact ⟨p,hp,(DX (List.all_eq_true.1 h3 p hp) s).1 hr⟩
  ·rintro ⟨p,hp,hr⟩;exact ⟨p,hp,(DX (List.all_eq_true.1 h3 p hp) s).2 hr⟩
 rw [List.mem_append,List.mem_append,I3 h1,e1,e2,heldB,Bool.or_eq_true,Bool.or_eq_true,or_assoc]
theorem AJ {base rm:List Nat} {vals:List IV} {own:List (Nat×Blk)} {ext:List Blk} (hb:rm.any base.contains=false) (hf:AQ rm vals own ext=true) (k:Hp→Option β) :
  Bs base rm vals ⟨own,ext⟩ k=k ⟨Hq rm vals own ext,ext⟩:=by
 have hm:=Tf hf;have hf0:=hf;simp only [AQ,Bool.and_eq_true] at hf0;obtain ⟨g1,g2,g3,g4⟩:=hf0;unfold Bs;rw [hb];simp only [cond_false];rw [LA];cases ha:(own.all fun p=>!rm.contains p.1) with
 | true =>
  simp only [Bool.not_true,cond_false];congr 2
  symm
  apply List.filter_eq_self.2;intro p hp;rw [List.all_eq_true.1 ha p hp];rfl
 | false =>
  simp only [Bool.not_false,cond_true];have slow:(match Cn base [] rm ⟨vals,⟨own,ext⟩⟩ with | none=>none | some S=>fH S.hp k)=k ⟨Hq rm vals own ext,ext⟩:=by
   have hgone:(rm.filter fun k=>!anyIn [k] (IV.refs.refsL vals++(own.filter fun p=>!rm.contains p.1).flatMap (fun p=>p.2.refs)++ext.flatMap Blk.refs))=rm.filter fun s=>!heldB rm vals own ext s:=by
    apply List.filter_congr;intro s _;congr 1;exact Bool.eq_iff_iff.2 ((HQ s _).trans (hm s))
   have hown:(own.filter fun p=>!(rm.filter fun s=>!heldB rm vals own ext s).contains p.1)=Hq rm vals own ext:=by
    apply List.filter_congr;intro p _;rw [Bool.eq_iff_iff];simp only [Bool.not_eq_true',Bool.or_eq_true,List.contains_eq_mem,decide_eq_false_iff_not,List.mem_filter];constructor
    ·intro h;by_cases h1:p.1∈rm
     ·right;cases hh:heldB rm vals own ext p.1 with
      | true=>rfl
      | false=>exact absurd ⟨h1,hh⟩ h
     ·exact .inl h1
    ·rintro (h | h) ⟨h1,h2⟩
     ·exact h h1
     ·rw [h] at h2;exact absurd h2 (by simp)
   simp only [Cn,hb,Bool.false_eq_true,if_false,AV,ha,hgone,hown];have hnone:anyIn (rm.filter fun s=>!heldB rm vals own ext s) (CG ⟨vals,⟨Hq rm vals own ext,ext⟩⟩)=false:=by
    apply D0;intro s hs hmem;obtain ⟨hs1,hs2⟩:=List.mem_filter.1 hs;have hs2:heldB rm vals own ext s=false:=by simpa using hs2
    simp only [CG,List.mem_append] at hmem;rcases hmem with (hmem | hmem) | hmem
    ·have:=(hm s).1 (List.mem_append_left _ (List.mem_append_left _ hmem))
     rw [this] at hs2;cases hs2
    ·obtain ⟨p,hp,hr⟩:=List.mem_flatMap.1 hmem;have hp1:=(List.mem_filter.1 hp).1;have hn:=(DX (List.all_eq_true.1 g2 p hp1) s).1 hr;have h4:=List.all_eq_true.1 g4 p hp1;cases hc:rm.contains p.1 with
     | true =>
      rw [hc] at h4;have h4:(rm.all fun s=>!E8 s p.2)=true:=h4;have h5:=List.all_eq_true.1 h4 s hs1;rw [hn] at h5;cases h5
     | false =>
      have:=(hm s).1 (List.mem_append_left _ (List.mem_append_right _ (List.mem_flatMap.2 ⟨p,List.mem_filter.2 ⟨hp1,by rw [hc];rfl⟩,hr⟩)))
      rw [this] at hs2;cases hs2
    ·have:=(hm s).1 (List.mem_append_right _ hmem)
     rw [this] at hs2;cases hs2
   simp only [hnone,Bool.false_eq_true,if_false,K3]
  cases hff:(and (E7 rm (Cj vals [])) (and (Ht rm own) (IP rm ext))) with
  | false=>exact slow
  | true =>
   have hff:(E7 rm (Cj vals []) && (Ht rm own && IP rm ext))=true:=hff;simp only [Bool.and_eq_true] at hff;simp only [Hs,cond_true];congr 2;apply List.filter_congr;intro p hp;cases hc:rm.contains p.1 with
   | false=>rfl
   | true =>
    have h1:=E6 hff.1;rw [refsDL_eq,List.append_nil] at h1;have h2:=Hw hff.2.1;have h3:=M9 hff.2.2
    have:heldB rm vals own ext p.1=false:=by
     cases hh:heldB rm vals own ext p.1 with
     | false=>rfl
     | true =>
      have:=(hm p.1).2 hh
      have hpm:p.1∈rm:=List.contains_iff_mem.1 hc;rcases List.mem_append.1 this with h | h
      ·rcases List.mem_append.1 h with h | h
       ·exact absurd h (h1 _ hpm)
       ·exact absurd h (h2 _ hpm)
      ·exact absurd h (h3 _ hpm)
    rw [this];rfl
end
section
variable (s j:Nat)
theorem Aoz (rm:List Nat) (vals:List IV) (own:List (Nat×Blk)) (ext:List Blk):Hq rm vals own ext=own.filter fun p=>!rm.contains p.1 || heldB rm vals own ext p.1:=rfl
theorem nv1 (o:Nat):B6 s (.ptr (.own j) o)=(s == j):=rfl
theorem nv2 (a b:Nat):B6 s (.slc (.own j) a b)=(s == j):=rfl
theorem nv3 (es:List FV):B6 s (.app (.own j) es)=(s == j):=rfl
theorem nv4 (v:FV):B6 s (.fv v)=false:=rfl
theorem nv5:B6 s .nils=false:=rfl
theorem nv6 (es:List FV):B6 s (.clip es)=false:=rfl
theorem nv7 (o:Nat):B6 s (.ptr (.ext j) o)=false:=rfl
theorem nv8:B6 s .dead=false:=rfl
theorem nb1 (cs:List IV) (ro:Bool):E8 s (.row cs ro)=cs.any (B6 s):=rfl
theorem nb2 (a b:Nat):E8 s (.tok a b)=false:=rfl
theorem Apg (r:Ref) (o:Nat):Fo (.ptr r o)=true:=rfl
theorem Aor (r:Ref) (a b:Nat):Fo (.slc r a b)=true:=rfl
theorem Ao5 (r:Ref) (es:List FV):Fo (.app r es)=true:=rfl
theorem Ao7 (v:FV):Fo (.fv v)=true:=rfl
theorem Aow:Fo .nils=true:=rfl
theorem AoP (es:List FV):Fo (.clip es)=true:=rfl
theorem Ao8:Fo .dead=true:=rfl
theorem Aon (cs:List IV) (ro:Bool):SN (.row cs ro)=cs.all Fo:=rfl
theorem fb_2 (a b:Nat):SN (.tok a b)=true:=rfl
end
def XD:=Are @Aoz<|Are @nv1<|Are @nv2<|Are @nv3<|Are @nv4<|Are @nv5<|Are @nv6<|Are @nv7<|Are @nv8<|Are @nb1<|Are @nb2<|Are @Apg<|Are @Aor<|Are @Ao5<|Are @Ao7<|Are @Aow<|Are @AoP<|Are @Ao8<|Are @Aon<|@fb_2
end Idl
end Go.Proofs.Ytkfecngimlcfoaa
namespace Go.Proofs.Ytkfecngimlcfoaa
namespace Idl
def Ah (op:Int) (i:Nat):Nat :=
 if op=3∨op=4∨op=6∨op=20∨op=28∨op=29 then (if i=1 then 1 else 0) else if op=13 then (if i=0 then 1 else if i=2 then 2 else 0) else 0
theorem BA (op:Int) (i:Nat):Ah op i≤2:=by
 unfold Ah
 repeat' split
 all_goals omega
theorem Fs {n:Nat} (hn:0<n) (op:Int) (i:Nat):BZ (SS dt n 54 [iv op,iv i] ⟨[],[]⟩) (.int .i64 (Ah op i)):=by
 obtain ⟨n,rfl⟩:∃k,n=k+1:=⟨n - 1,by omega⟩;rw [c54];unfold Ah;by_cases h:op=3∨op=4∨op=6∨op=20∨op=28∨op=29
 ·rw [if_pos h];by_cases hi:i=1
  ·subst hi;rcases h with rfl | rfl | rfl | rfl | rfl | rfl<;>(simp only [↓UU3,↓XX,XY,↓reduceIte,Nat.reduceBEq,Nat.reduceAdd,Int.reduceEq,Int.reduceLT,Int.reduceLE];exact Ao _ _)
  ·have hi':¬ (i:Int)=1:=by omega
   rcases h with rfl | rfl | rfl | rfl | rfl | rfl<;>(simp only [↓UU3,↓XX,XY,↓reduceIte,Nat.reduceBEq,Nat.reduceAdd,Int.reduceEq,Int.reduceLT,Int.reduceLE,hi',hi];exact Ao _ _)
 ·rw [if_neg h];have h3:¬ op=3:=fun e=>h (by simp [e]);have h4:¬ op=4:=fun e=>h (by simp [e]);have h6:¬ op=6:=fun e=>h (by simp [e]);have h20:¬ op=20:=fun e=>h (by simp [e]);have h28:¬ op=28:=fun e=>h (by simp [e]);have h29:¬ op=29:=fun e=>h (by simp [e]);by_cases h13:op=13
  ·subst h13;by_cases hi:i=0
   ·subst hi;simp only [↓UU3,↓XX,XY,↓reduceIte,Nat.reduceBEq,Nat.reduceAdd,Int.reduceEq,Int.reduceLT,Int.reduceLE];exact Ao _ _
   ·have hi':¬ (i:Int)=0:=by omega
    by_cases hj:i=2
    ·subst hj;simp only [↓UU3,↓XX,XY,↓reduceIte,Nat.reduceBEq,Nat.reduceAdd,Int.reduceEq,Int.reduceLT,Int.reduceLE];exact Ao _ _
    ·have hj':¬ (i:Int)=2:=by omega
     simp only [↓UU3,↓XX,XY,↓reduceIte,Nat.reduceBEq,Nat.reduceAdd,Int.reduceEq,Int.reduceLT,Int.reduceLE,hi,hi',hj,hj'];exact Ao _ _
  ·simp only [↓UU3,↓XX,XY,↓reduceIte,Nat.reduceBEq,Nat.reduceAdd,Int.reduceEq,Int.reduceLT,Int.reduceLE,h3,h4,h6,h20,h28,h29,h13];exact Ao _ _
theorem AiU {n:Nat} (hn:0<n) (x:Int):BZ (SS dt n 25 [iv x] ⟨[],[]⟩) (Tm.mk 1 x []).enc:=by
 obtain ⟨n,rfl⟩:∃k,n=k+1:=⟨n - 1,by omega⟩;rw [c25];simp only [S25,↓XX,XY,↓reduceIte,Nat.reduceBEq,Nat.reduceAdd,Int.reduceEq,Int.reduceLT,Int.reduceLE];exact Be rfl _
theorem AdC {n:Nat} (hn:0<n) (x:Int):BZ (SS dt n 47 [iv x] ⟨[],[]⟩) (Tm.mk 2 x []).enc:=by
 obtain ⟨n,rfl⟩:∃k,n=k+1:=⟨n - 1,by omega⟩;rw [c47];simp only [S47,↓XX,XY,↓reduceIte,Nat.reduceBEq,Nat.reduceAdd,Int.reduceEq,Int.reduceLT,Int.reduceLE];exact Be rfl _
theorem AkG {n:Nat} (hn:0<n) (x:Int):BZ (SS dt n 26 [iv x] ⟨[],[]⟩) (Tm.mk 25 x []).enc:=by
 obtain ⟨n,rfl⟩:∃k,n=k+1:=⟨n - 1,by omega⟩;rw [c26];simp only [S26,↓XX,XY,↓reduceIte,Nat.reduceBEq,Nat.reduceAdd,Int.reduceEq,Int.reduceLT,Int.reduceLE];exact Be rfl _
mutual
/-- No more than four kids anywhere. -/
def Tm.wk:Tm→Prop
 | .mk _ _ ks=>ks.length≤4∧Tm.wkL ks
def Tm.wkL:List Tm→Prop
 | []=>True
 | t::l=>t.wk∧Tm.wkL l
end
theorem RA {t:Tm}:∀{l:List Tm},Tm.wkL l→t∈l→t.wk
 | a::l,h,hm=>by
  rw [Tm.wkL] at h;rcases List.mem_cons.1 hm with rfl | hm
  ·exact h.1
  ·exact RA h.2 hm
mutual
def Tm.shift:Tm→Int→Int→Tm
 | .mk op n ks,d,c=>.mk op (if op=1∧c≤n then BM (n+d) else n) (Tm.shiftL op 0 ks d c)
def Tm.shiftL:Int→Nat→List Tm→Int→Int→List Tm
 | _,_,[],_,_=>[]
 | op,i,t::l,d,c=>t.shift d (c+Ah op i)::Tm.shiftL op (i+1) l d c
end
theorem D1 (op:Int) (d c:Int):∀(l:List Tm) (i:Nat),(Tm.shiftL op i l d c).length=l.length
 | [],_=>rfl
 | _::l,i=>by simp only [Tm.shiftL,Arj,D1 op d c l]
theorem Mg (op d c:Int):∀(l l':List Tm) (i:Nat),Tm.shiftL op i (l++l') d c=Tm.shiftL op i l d c++Tm.shiftL op (i+l.length) l' d c
 | [],l',i=>by simp [Tm.shiftL]
 | t::l,l',i=>by simp only [List.cons_append,Tm.shiftL,Mg op d c l l',Arj];congr 3;omega
theorem DC:∀(n:Nat) (t:Tm) (d c:Int),t.wt+1<n→t.wk→0≤c→c+2 * t.wt≤4611686018427387904→BZ (SS dt n 45 [.fv t.enc,iv d,iv c] ⟨[],[]⟩) (t.shift d c).enc:=by
 intro n
 induction n with
 | zero=>intro t d c h;omega
 | succ n ih =>
  intro t d c h hw hc0 hc;obtain ⟨op,m,ks⟩:=t;simp only [Tm.wt] at h hc;rw [Tm.wk] at hw;rw [c45,Am];have hlen:=Fg ks;have main:∀m',m'=(if op=1∧c≤m then BM (m+d) else m) →
    BZ (BD n (fun q28 l29 h30=>IC l29 h30 (SS dt n) ⟨[],[]⟩ q28) [iv d,iv c,.ptr (.own 47185920) 0,.ptr (.own 47185921) 0,.ptr (.own 47186949) 0,iv 0]
     ⟨[(47185920,.row [iv op,iv m,.fv (.sl (ks.map Tm.enc))] false),(47185921,.row [iv 0,iv 0,.nils] false),(47186949,.row [iv op,iv m',.nils] false)],[]⟩) ((Tm.mk op m ks).shift d c).enc:=by
   intro m' hm';refine A7 (Q:=fun r=>BZ r _) (fun k V H=>∃pre rest,ks=pre++rest∧rest.length=k∧V=[iv d,iv c,.ptr (.own 47185920) 0,.ptr (.own 47185921) 0,.ptr (.own 47186949) 0,iv pre.length] ∧
    (
     (pre=[]∧H=⟨[(47185920,.row [iv op,iv m,.fv (.sl (ks.map Tm.enc))] false),(47185921,.row [iv 0,iv 0,.nils] false),(47186949,.row [iv op,iv m',.nils] false)],[]⟩) ∨
     (pre≠[]∧H=⟨[(47185920,.row [iv op,iv m,.fv (.sl (ks.map Tm.enc))] false),(47185921,.row [iv 0,iv 0,.nils] false),(47186949,.row [iv op,iv m',.app (.own 47193104) ((Tm.shiftL op 0 pre d c).map Tm.enc)] false),(47193104,.tok (Tm.shiftL op 0 pre d c).length 3)],[]⟩)))
    ?_ n ks.length _ _ (by omega) ⟨[],ks,rfl,rfl,rfl,.inl ⟨rfl,rfl⟩⟩
   rintro k V H rec ⟨pre,rest,hk,hl,rfl,hH⟩ hrec;have hkl:ks.length=pre.length+rest.length:=by rw [hk];simp
   cases rest with
   | nil =>
    have hno:¬ ((pre.length:Int)<ks.length):=by rw [hkl];simp
    have hpre:ks=pre:=by simpa using hk
    rcases hH with ⟨rfl,rfl⟩ | ⟨_,rfl⟩
    ·subst hpre;simp only [FP,FB,Fy,FG,FX,F4,FD,FU,IC,FO,FA,FM,Fw,FZ,S45,↓XX,XY,↓reduceIte,Nat.reduceBEq,Nat.reduceAdd,Int.reduceEq,Int.reduceLT,Int.reduceLE,Int.lt_irrefl,Tm.shift,Tm.shiftL,← hm',Am];exact Be rfl _
    ·subst hpre;simp only [FP,FB,Fy,FG,FX,F4,FD,FU,IC,FO,FA,FM,Fw,FZ,S45,↓XX,XY,↓reduceIte,Nat.reduceBEq,Nat.reduceAdd,Int.reduceEq,Int.reduceLT,Int.reduceLE,Int.lt_irrefl,Tm.shift,← hm',Am];exact Be rfl _
   | cons t rest =>
    have hi:(pre.length:Int)<ks.length:=by rw [hkl];simp;omega
    have hg:=Cv hk;have htw:=DD (t:=t) (l:=ks) (by rw [hk];simp);have hb:=Fs (n:=n) (by omega) op pre.length;have hble:=BA op pre.length;have hs:=ih t d (c+Ah op pre.length) (by omega) (RA hw.2 (by rw [hk];simp)) (by omega) (by omega);have hx:Tm.shiftL op 0 (pre++[t]) d c=Tm.shiftL op 0 pre d c++[t.shift d (c+Ah op pre.length)]:=by
     rw [Mg];simp [Tm.shiftL]
    have hwc:BM (c+Ah op pre.length)=c+Ah op pre.length:=by rw [As]<;>omega
    have hwi:BM ((pre.length:Int)+1)=((pre++[t]).length:Int):=(As (by omega) (by omega)).trans (by simp);generalize hu:t.shift d (c+Ah op pre.length)=u at hs hx;obtain ⟨o,p,l⟩:=t;simp only [Arj] at hl;rw [Am] at hs;rcases hH with ⟨hp0,rfl⟩ | ⟨hne,rfl⟩
    ·simp only [FP,FB,Fy,FG,FX,F4,FD,FU,IC,FO,FA,FM,Fw,FZ,S45,↓XX,XY,↓reduceIte,Nat.reduceBEq,Nat.reduceAdd,Int.reduceEq,Int.reduceLT,Int.reduceLE,hi,↓BN (AY hg) (Bt _ _ _),↓Cy,↓Ag hb,hwc,hwi,↓A5 hs,↓I5,↓Q5,↓AJ,XD,heldB,AQ,XE];refine hrec rest.length _ _ (by omega) ?_;refine ⟨pre++[.mk o p l],rest,by rw [hk];simp,rfl,rfl,.inr ⟨by simp,?_⟩⟩;rw [hx,hp0];rfl
    ·have hle:(Tm.shiftL op 0 pre d c).length+1≤1000000:=by rw [D1];omega
     have hq:(Tm.shiftL op 0 pre d c).length=pre.length:=D1 ..;simp only [FP,FB,Fy,FG,FX,F4,FD,FU,IC,FO,FA,FM,Fw,FZ,S45,↓XX,XY,↓reduceIte,Nat.reduceBEq,Nat.reduceAdd,Int.reduceEq,Int.reduceLT,Int.reduceLE,hi,↓BN (AY hg) (Bt _ _ _),↓Cy,↓Ag hb,hwc,hwi,↓A5 hs,↓I5,↓LX hle,↓Hc,↓AJ,XD,heldB,AQ,XE];refine hrec rest.length _ _ (by omega) ?_;refine ⟨pre++[.mk o p l],rest,by rw [hk];simp,rfl,rfl,.inr ⟨by simp,?_⟩⟩;rw [hx];simp only [List.length_append,Arj,List.length_nil]
  by_cases h1:op=1
  ·by_cases h2:c≤m
   ·subst h1;simp only [FP,FB,Fy,FG,FX,F4,FD,FU,FO,FA,FM,Fw,FZ,S45,↓XX,XY,↓reduceIte,Nat.reduceBEq,Nat.reduceAdd,Int.reduceEq,Int.reduceLT,Int.reduceLE,h2,↓AJ,XD,heldB,AQ,XE];exact main _ (by simp [h2])
   ·subst h1;simp only [FP,FB,Fy,FG,FX,F4,FD,FU,FO,FA,FM,Fw,FZ,S45,↓XX,XY,↓reduceIte,Nat.reduceBEq,Nat.reduceAdd,Int.reduceEq,Int.reduceLT,Int.reduceLE,h2,↓AJ,XD,heldB,AQ,XE];exact main _ (by simp [h2])
  ·simp only [FP,FB,Fy,FG,FX,F4,FD,FU,FO,FA,FM,Fw,FZ,S45,↓XX,XY,↓reduceIte,Nat.reduceBEq,Nat.reduceAdd,Int.reduceEq,Int.reduceLT,Int.reduceLE,h1,↓AJ,XD,heldB,AQ,XE];exact main _ (by simp [h1])
mutual
def Tm.subst:Tm→Int→Int→Tm→Tm
 | .mk op m ks,n,d,u=>if op=1 then (if m=n then u.shift d 0 else if n<m then .mk 1 (BM (m - 1)) [] else .mk op m ks) else .mk op m (Tm.substL op 0 ks n d u)
def Tm.substL:Int→Nat→List Tm→Int→Int→Tm→List Tm
 | _,_,[],_,_,_=>[]
 | op,i,t::l,n,d,u=>t.subst (n+Ah op i) (d+Ah op i) u::Tm.substL op (i+1) l n d u
end
theorem GI (op n d:Int) (u:Tm):∀(l:List Tm) (i:Nat),(Tm.substL op i l n d u).length=l.length
 | [],_=>rfl
 | _::l,i=>by simp only [Tm.substL,Arj,GI op n d u l]
theorem Ni (op n d:Int) (u:Tm):∀(l l':List Tm) (i:Nat),Tm.substL op i (l++l') n d u=Tm.substL op i l n d u++Tm.substL op (i+l.length) l' n d u
 | [],l',i=>by simp [Tm.substL]
 | t::l,l',i=>by simp only [List.cons_append,Tm.substL,Ni op n d u l l',Arj];congr 3;omega
theorem AdB (u:Tm) (hu:u.wk) (huw:u.wt≤1152921504606846976):∀(n:Nat) (t:Tm) (c d:Int),t.wt+u.wt+3<n→t.wk→-1000000000≤c→c+2 * t.wt≤461168601842738→0≤d→d+2 * t.wt≤461168601842738 →
  BZ (SS dt n 90 [.fv t.enc,iv c,iv d,.fv u.enc] ⟨[],[]⟩) (t.subst c d u).enc:=by
 intro n
 induction n with
 | zero=>intro t c d h;omega
 | succ n ih =>
  intro t c d h hw hc0 hc hd0 hd;obtain ⟨op,m,ks⟩:=t;simp only [Tm.wt] at h hc hd;rw [Tm.wk] at hw;rw [c90,Am];have hlen:=Fg ks;by_cases h1:op=1
  ·subst h1;have hsh:=DC n u d 0 (by omega) hu (by omega) (by omega);rw [Tm.subst,if_pos rfl];generalize u.shift d 0=z at hsh ⊢;obtain ⟨uo,un,uk⟩:=u;obtain ⟨zo,zn,zk⟩:=z;rw [Am] at hsh ⊢;by_cases h2:m=c
   ·subst h2;simp only [↓UU2,↓XX,XY,↓reduceIte,Nat.reduceBEq,Nat.reduceAdd,Int.reduceEq,Int.reduceLT,Int.reduceLE,↓A5 hsh];simp only [↓UU2,↓XX,XY,↓reduceIte,Nat.reduceBEq,Nat.reduceAdd,Int.reduceEq,Int.reduceLT,Int.reduceLE,Am];exact Be rfl _
   ·by_cases h3:c<m
    ·simp only [↓UU2,↓XX,XY,↓reduceIte,Nat.reduceBEq,Nat.reduceAdd,Int.reduceEq,Int.reduceLT,Int.reduceLE,h2,h3,Am];exact Be rfl _
    ·simp only [↓UU2,↓XX,XY,↓reduceIte,Nat.reduceBEq,Nat.reduceAdd,Int.reduceEq,Int.reduceLT,Int.reduceLE,h2,h3,Am];exact Be rfl _
  ·have main :
    BZ (BD n (fun q l h=>H8 l h (SS dt n) ⟨[],[]⟩ q) [iv c,iv d,.ptr (.own 94371840) 0,.ptr (.own 94371841) 0,.ptr (.own 94371842) 0,.ptr (.own 94379013) 0,iv 0]
     ⟨[(94371840,.row [iv op,iv m,.fv (.sl (ks.map Tm.enc))] false),(94371841,.row [iv u.op,iv u.n,.fv (.sl (u.kids.map Tm.enc))] false),(94371842,.row [iv 0,iv 0,.nils] false),(94379013,.row [iv op,iv m,.nils] false)],[]⟩)
      (Tm.mk op m (Tm.substL op 0 ks c d u)).enc:=by
    refine A7 (Q:=fun r=>BZ r _) (fun k V H=>∃pre rest,ks=pre++rest∧rest.length=k∧V=[iv c,iv d,.ptr (.own 94371840) 0,.ptr (.own 94371841) 0,.ptr (.own 94371842) 0,.ptr (.own 94379013) 0,iv pre.length] ∧
     (
      (pre=[]∧H=⟨[(94371840,.row [iv op,iv m,.fv (.sl (ks.map Tm.enc))] false),(94371841,.row [iv u.op,iv u.n,.fv (.sl (u.kids.map Tm.enc))] false),(94371842,.row [iv 0,iv 0,.nils] false),(94379013,.row [iv op,iv m,.nils] false)],[]⟩) ∨
      (
      pre≠[]∧H=⟨[(94371840,.row [iv op,iv m,.fv (.sl (ks.map Tm.enc))] false),(94371841,.row [iv u.op,iv u.n,.fv (.sl (u.kids.map Tm.enc))] false),(94371842,.row [iv 0,iv 0,.nils] false),
      (94379013,.row [iv op,iv m,.app (.own 94384144) ((Tm.substL op 0 pre c d u).map Tm.enc)] false),(94384144,.tok (Tm.substL op 0 pre c d u).length 3)],[]⟩)))
     ?_ n ks.length _ _ (by omega) ⟨[],ks,rfl,rfl,rfl,.inl ⟨rfl,rfl⟩⟩
    rintro k V H rec ⟨pre,rest,hk,hl,rfl,hH⟩ hrec;have hkl:ks.length=pre.length+rest.length:=by rw [hk];simp
    cases rest with
    | nil =>
     have hno:¬ ((pre.length:Int)<ks.length):=by rw [hkl];simp
     have hpre:ks=pre:=by simpa using hk
     rcases hH with ⟨rfl,rfl⟩ | ⟨_,rfl⟩
     ·subst hpre;simp only [Ia,Is,Ik,Iz,HG,Im,HH,IB,Ie,Ip,In,HN,HM,H8,If,Ij,HE,S90,↓XX,XY,↓reduceIte,Nat.reduceBEq,Nat.reduceAdd,Int.reduceEq,Int.reduceLT,Int.reduceLE,Int.lt_irrefl,Tm.substL,Am];exact Be rfl _
     ·subst hpre;simp only [Ia,Is,Ik,Iz,HG,Im,HH,IB,Ie,Ip,In,HN,HM,H8,If,Ij,HE,S90,↓XX,XY,↓reduceIte,Nat.reduceBEq,Nat.reduceAdd,Int.reduceEq,Int.reduceLT,Int.reduceLE,Int.lt_irrefl,Am];exact Be rfl _
    | cons t rest =>
     have hi:(pre.length:Int)<ks.length:=by rw [hkl];simp;omega
     have hg:=Cv hk;have htw:=DD (t:=t) (l:=ks) (by rw [hk];simp);have hb:=Fs (n:=n) (by omega) op pre.length;have hble:=BA op pre.length;have hs:=ih t (c+Ah op pre.length) (d+Ah op pre.length) (by omega) (RA hw.2 (by rw [hk];simp)) (by omega) (by omega) (by omega) (by omega);have hx:Tm.substL op 0 (pre++[t]) c d u=Tm.substL op 0 pre c d u++[t.subst (c+Ah op pre.length) (d+Ah op pre.length) u]:=by
      rw [Ni];simp [Tm.substL]
     have hwc:BM (c+Ah op pre.length)=c+Ah op pre.length:=by rw [As]<;>omega
     have hwd:BM (d+Ah op pre.length)=d+Ah op pre.length:=by rw [As]<;>omega
     have hwi:BM ((pre.length:Int)+1)=((pre++[t]).length:Int):=(As (by omega) (by omega)).trans (by simp);generalize hv:t.subst (c+Ah op pre.length) (d+Ah op pre.length) u=v at hs hx;obtain ⟨o,p,l⟩:=t;simp only [Arj] at hl;have hue:u.enc=.agg [.int .i64 u.op,.int .i64 u.n,.sl (u.kids.map Tm.enc)]:=by cases u;exact Am ..
     rw [Am,hue] at hs;rcases hH with ⟨hp0,rfl⟩ | ⟨hne,rfl⟩
     ·simp only [Ia,Is,Ik,Iz,HG,Im,HH,IB,Ie,Ip,In,HN,HM,H8,If,Ij,HE,S90,↓XX,XY,↓reduceIte,Nat.reduceBEq,Nat.reduceAdd,Int.reduceEq,Int.reduceLT,Int.reduceLE,hi,↓BN (AY hg) (Bt _ _ _),↓Cy,↓Ag hb,hwc,hwd,hwi,↓AG hs,↓I5,↓Q5,↓AJ,XD,heldB,AQ,XE];refine hrec rest.length _ _ (by omega) ?_;refine ⟨pre++[.mk o p l],rest,by rw [hk];simp,rfl,rfl,.inr ⟨by simp,?_⟩⟩;rw [hx,hp0];rfl
     ·have hle:(Tm.substL op 0 pre c d u).length+1≤1000000:=by rw [GI];omega
      simp only [Ia,Is,Ik,Iz,HG,Im,HH,IB,Ie,Ip,In,HN,HM,H8,If,Ij,HE,S90,↓XX,XY,↓reduceIte,Nat.reduceBEq,Nat.reduceAdd,Int.reduceEq,Int.reduceLT,Int.reduceLE,hi,↓BN (AY hg) (Bt _ _ _),↓Cy,↓Ag hb,hwc,hwd,hwi,↓AG hs,↓I5,↓LX hle,↓Hc,↓AJ,XD,heldB,AQ,XE];refine hrec rest.length _ _ (by omega) ?_;refine ⟨pre++[.mk o p l],rest,by rw [hk];simp,rfl,rfl,.inr ⟨by simp,?_⟩⟩;rw [hx];simp only [List.length_append,Arj,List.length_nil]
   rw [Tm.subst,if_neg h1];obtain ⟨uo,un,uk⟩:=u;rw [Am (op:=uo)];simp only [↓UU2,↓XX,XY,↓reduceIte,Nat.reduceBEq,Nat.reduceAdd,Int.reduceEq,Int.reduceLT,Int.reduceLE,h1,↓AJ,XD,heldB,AQ,XE];exact main
theorem TW {n:Nat} (t u:Tm) (c:Int) (hu:u.wk) (huw:u.wt≤1152921504606846976) (h:t.wt+u.wt+4<n) (hw:t.wk) (hww:t.wt≤100000000000000) (h0:-1000000000≤c) (hc:c+2 * t.wt≤461168601842738) :
  BZ (SS dt n 67 [.fv t.enc,iv c,.fv u.enc] ⟨[],[]⟩) (t.subst c 0 u).enc:=by
 obtain ⟨n,rfl⟩:∃k,n=k+1:=⟨n - 1,by omega⟩;rw [c67];have hs:=AdB u hu huw n t c 0 (by omega) hw h0 hc (by omega) (by omega);generalize t.subst c 0 u=v at hs ⊢;obtain ⟨o1,n1,k1⟩:=t;obtain ⟨o2,n2,k2⟩:=u;obtain ⟨o3,n3,k3⟩:=v;simp only [Am] at hs ⊢;simp only [AcG,S67,↓XX,XY,↓reduceIte,Nat.reduceBEq,Nat.reduceAdd,Int.reduceEq,Int.reduceLT,Int.reduceLE,↓AG hs];exact Be rfl _
mutual
def Tm.free:Tm→Int→Bool
 | .mk op m ks,c=>if op=1 then decide (m=c) else Tm.freeL op 0 ks c
def Tm.freeL:Int→Nat→List Tm→Int→Bool
 | _,_,[],_=>false
 | op,i,t::l,c=>t.free (c+Ah op i) || Tm.freeL op (i+1) l c
end
theorem AgT:∀(n:Nat) (t:Tm) (c:Int),t.wt+1<n→t.wt≤1152921504606846976→-1000000000≤c→c+2 * t.wt≤461168601842738→BZ (SS dt n 107 [.fv t.enc,iv c] ⟨[],[]⟩) (.bool (t.free c)):=by
 intro n
 induction n with
 | zero=>intro t c h;omega
 | succ n ih =>
  intro t c h hw hc0 hc;obtain ⟨op,m,ks⟩:=t;simp only [Tm.wt] at h hw hc;rw [Aob,Am];have hlen:=Fg ks;by_cases h1:op=1
  ·subst h1;rw [Tm.free,if_pos rfl];simp only [Ir,HX,HD,HO,IF,PU,↓XX,XY,↓reduceIte,Nat.reduceBEq,Nat.reduceAdd,Int.reduceEq,Int.reduceLT,Int.reduceLE];exact Ao _ _
  ·rw [Tm.free,if_neg h1];simp only [Ir,HX,HD,HO,IF,PU,↓XX,XY,↓reduceIte,Nat.reduceBEq,Nat.reduceAdd,Int.reduceEq,Int.reduceLT,Int.reduceLE,h1];refine A7 (Q:=fun r=>BZ r _) (fun k V H=>∃pre rest,ks=pre++rest∧rest.length=k∧V=[iv c,.ptr (.own 112197632) 0,iv pre.length]∧H=⟨[(112197632,.row [iv op,iv m,.fv (.sl (ks.map Tm.enc))] false)],[]⟩∧Tm.freeL op pre.length rest c=Tm.freeL op 0 ks c)
    ?_ n ks.length _ _ (by omega) ⟨[],ks,rfl,rfl,rfl,rfl,rfl⟩
   rintro k V H rec ⟨pre,rest,hk,hl,rfl,rfl,ht⟩ hrec;have hkl:ks.length=pre.length+rest.length:=by rw [hk];simp
   cases rest with
   | nil =>
    have hno:¬ ((pre.length:Int)<ks.length):=by rw [hkl];simp
    rw [← ht];simp only [Ir,HX,HD,HO,IF,Ly,PU,↓XX,XY,↓reduceIte,Nat.reduceBEq,Nat.reduceAdd,Int.reduceEq,Int.reduceLT,Int.reduceLE,hno,Tm.freeL];exact Ao _ _
   | cons t rest =>
    have hi:(pre.length:Int)<ks.length:=by rw [hkl];simp;omega
    have hg:=Cv hk;have htw:=DD (t:=t) (l:=ks) (by rw [hk];simp);have hb:=Fs (n:=n) (by omega) op pre.length;have hble:=BA op pre.length;have hs:=ih t (c+Ah op pre.length) (by omega) (by omega) (by omega) (by omega);have hwc:BM (c+Ah op pre.length)=c+Ah op pre.length:=by rw [As]<;>omega
    have hwi:BM ((pre.length:Int)+1)=((pre++[t]).length:Int):=(As (by omega) (by omega)).trans (by simp);simp only [Tm.freeL] at ht;generalize t.free (c+Ah op pre.length)=v at hs ht;obtain ⟨o,p,l⟩:=t;simp only [Arj] at hl;rw [Am] at hs;cases v
    ·simp only [Ir,HX,HD,HO,IF,Ly,PU,↓XX,XY,↓reduceIte,Nat.reduceBEq,Nat.reduceAdd,Int.reduceEq,Int.reduceLT,Int.reduceLE,hi,↓BN (AY hg) (Bt _ _ _),↓Cy,↓Ag hb,hwc,hwi,↓Ag hs];refine hrec rest.length _ _ (by omega) ?_;exact ⟨pre++[.mk o p l],rest,by rw [hk];simp,rfl,rfl,rfl,by simpa using ht⟩
    ·rw [← ht];simp only [Ir,HX,HD,HO,IF,Ly,PU,↓XX,XY,↓reduceIte,Nat.reduceBEq,Nat.reduceAdd,Int.reduceEq,Int.reduceLT,Int.reduceLE,hi,↓BN (AY hg) (Bt _ _ _),↓Cy,↓Ag hb,hwc,hwi,↓Ag hs,Bool.true_or];exact Ao _ _
mutual
def Tm.same:Tm→Tm→Bool
 | .mk o n l,.mk o' n' l'=>decide (o=o') && (decide (n=n') && (decide (l.length=l'.length) && Tm.sameL l l'))
def Tm.sameL:List Tm→List Tm→Bool
 | a::l,b::l'=>a.same b && Tm.sameL l l'
 | _,_=>true
end
mutual
theorem Rg:∀a b:Tm,a.same b=true ↔ a=b
 | .mk o n l,.mk o' n' l'=>by
  simp only [Tm.same,Bool.and_eq_true,decide_eq_true_eq,Tm.mk.injEq];constructor
  ·rintro ⟨rfl,rfl,h1,h2⟩;exact ⟨rfl,rfl,(sameL_eq l l' h1).1 h2⟩
  ·rintro ⟨rfl,rfl,rfl⟩;exact ⟨rfl,rfl,rfl,(sameL_eq l l rfl).2 rfl⟩
theorem sameL_eq:∀l l':List Tm,l.length=l'.length→(Tm.sameL l l'=true ↔ l=l')
 | [],[],_=>by simp [Tm.sameL]
 | a::l,b::l',h=>by
  simp only [Tm.sameL,Bool.and_eq_true,List.cons.injEq,Rg a b,sameL_eq l l' (by simpa using h)]
end
theorem LO:∀(n:Nat) (a b:Tm),a.wt+1<n→a.wt≤1152921504606846976→BZ (SS dt n 17 [.fv a.enc,.fv b.enc] ⟨[],[]⟩) (.bool (a.same b)):=by
 intro n
 induction n with
 | zero=>intro a b h;omega
 | succ n ih =>
  intro a b h hw;obtain ⟨op,m,ks⟩:=a;obtain ⟨op',m',ks'⟩:=b;simp only [Tm.wt] at h hw;rw [c17,Am,Am];have hlen:=Fg ks;rw [Tm.same];by_cases h1:op=op'
  ·by_cases h2:m=m'
   ·by_cases h3:ks.length=ks'.length
    ·have h3':(ks.length:Int)=ks'.length:=by omega
     subst h1 h2;simp only [FJ,FH,FL,FY,Fx,FC,FW,FK,FN,S17,↓XX,XY,↓reduceIte,Nat.reduceBEq,Nat.reduceAdd,Int.reduceEq,Int.reduceLT,Int.reduceLE,h3,h3',Tm.same];refine A7 (Q:=fun r=>BZ r _) (fun k V H=>∃pre rest pre' rest',ks=pre++rest∧ks'=pre'++rest'∧pre.length=pre'.length∧rest.length=k∧V=[.ptr (.own 17825792) 0,.ptr (.own 17825793) 0,iv pre.length] ∧
      H=⟨[(17825792,.row [iv op,iv m,.fv (.sl (ks.map Tm.enc))] false),(17825793,.row [iv op,iv m,.fv (.sl (ks'.map Tm.enc))] false)],[]⟩∧Tm.sameL rest rest'=Tm.sameL ks ks')
      ?_ n ks.length _ _ (by omega) ⟨[],ks,[],ks',rfl,rfl,rfl,rfl,rfl,rfl,rfl⟩
     rintro k V H rec ⟨pre,rest,pre',rest',hk,hk',hpl,hl,rfl,rfl,ht⟩ hrec;have hkl:ks.length=pre.length+rest.length:=by rw [hk];simp
     have hkl':ks'.length=pre'.length+rest'.length:=by rw [hk'];simp
     cases rest with
     | nil =>
      have hno:¬ ((pre.length:Int)<ks.length):=by rw [hkl];simp
      rw [← ht];simp only [FJ,FH,FL,FY,Fx,LJ,FC,FW,FK,FN,S17,↓XX,XY,↓reduceIte,Nat.reduceBEq,Nat.reduceAdd,Int.reduceEq,Int.reduceLT,Int.reduceLE,hno,Tm.sameL];exact Ao _ _
     | cons t rest =>
      cases rest' with
      | nil=>simp at hkl hkl';omega
      | cons t' rest' =>
       have hi:(pre.length:Int)<ks.length:=by rw [hkl];simp;omega
       have hg:=Cv hk;have hg':=Cv hk';rw [← hpl] at hg';have htw:=DD (t:=t) (l:=ks) (by rw [hk];simp);have hs:=ih t t' (by omega) (by omega);have hwi:BM ((pre.length:Int)+1)=((pre++[t]).length:Int):=(As (by omega) (by omega)).trans (by simp);simp only [Tm.sameL] at ht;generalize t.same t'=v at hs ht;obtain ⟨o,p,l⟩:=t;obtain ⟨o',p',l'⟩:=t';simp only [Arj] at hl;rw [Am,Am] at hs;cases v
       ·rw [← ht];simp only [FJ,FH,FL,FY,Fx,LJ,FC,FW,FK,FN,S17,↓XX,XY,↓reduceIte,Nat.reduceBEq,Nat.reduceAdd,Int.reduceEq,Int.reduceLT,Int.reduceLE,hi,↓BN (AY hg) (Bt _ _ _),↓BN (AY hg') (Bt _ _ _),↓Cy,↓Ag hs,Bool.false_and];exact Ao _ _
       ·simp only [FJ,FH,FL,FY,Fx,LJ,FC,FW,FK,FN,S17,↓XX,XY,↓reduceIte,Nat.reduceBEq,Nat.reduceAdd,Int.reduceEq,Int.reduceLT,Int.reduceLE,hi,↓BN (AY hg) (Bt _ _ _),↓BN (AY hg') (Bt _ _ _),↓Cy,hwi,↓Ag hs];refine hrec rest.length _ _ (by omega) ?_;exact ⟨pre++[.mk o p l],rest,pre'++[.mk o' p' l'],rest',by rw [hk];simp,by rw [hk'];simp,by simp [hpl],rfl,rfl,rfl,by simpa using ht⟩
    ·have h3':¬ (ks.length:Int)=ks'.length:=by omega
     simp only [FJ,FH,FL,FY,Fx,FC,FW,FK,FN,S17,↓XX,XY,↓reduceIte,Nat.reduceBEq,Nat.reduceAdd,Int.reduceEq,Int.reduceLT,Int.reduceLE,h1,h2,h3,h3'];exact Ao _ _
   ·simp only [FJ,FH,FL,FY,Fx,FC,FW,FK,FN,S17,↓XX,XY,↓reduceIte,Nat.reduceBEq,Nat.reduceAdd,Int.reduceEq,Int.reduceLT,Int.reduceLE,h1,h2];exact Ao _ _
  ·simp only [FJ,FH,FL,FY,Fx,FC,FW,FK,FN,S17,↓XX,XY,↓reduceIte,Nat.reduceBEq,Nat.reduceAdd,Int.reduceEq,Int.reduceLT,Int.reduceLE,h1];exact Ao _ _
theorem AfW (o p:Int) (l:List Tm) (s:Nat) (h:Hp) (k:IV→Hp→List Ref→List Ref→Option (IV×Hp)):Aw (Af EE 28 1 [(0,.fv (.agg [.int .i64 o,.int .i64 p,.sl (l.map Tm.enc)]))]) s h k=k (.clip [.agg [.int .i64 o,.int .i64 p,.sl (l.map Tm.enc)]]) h [] []:=by
 have:=I5 (.mk o p l) s h k
 rw [Am] at this;exact this
def Qt (o:Option (IV×Hp)):Bool:=match o with
 | some (.fv (.bool b),⟨_,[]⟩)=>b
 | _=>false
theorem AbQ {o:Option (IV×Hp)} (h:Qt o=true):BZ o (.bool true):=by
 unfold Qt at h;split at h
 ·subst h;exact Ao _ _
 ·cases h
theorem DR (o1 n1 o2 n2:Int) (k1 k2:List FV) (s:Nat) (h:Hp) (k:IV→Hp→List Ref→List Ref→Option (IV×Hp)):Aw (Af EE 28 2 [(0,.fv (.agg [.int .i64 o1,.int .i64 n1,.sl k1])),(1,.fv (.agg [.int .i64 o2,.int .i64 n2,.sl k2]))]) s h k =
  k (.clip [.agg [.int .i64 o1,.int .i64 n1,.sl k1],.agg [.int .i64 o2,.int .i64 n2,.sl k2]]) h [] []:=Ci Od tTm (by decide) (cells:=[.int .i64 o1,.int .i64 n1,.sl k1,.int .i64 o2,.int .i64 n2,.sl k2]) rfl k
theorem Kd (o1 n1 o2 n2 o3 n3:Int) (k1 k2 k3:List FV) (s:Nat) (h:Hp) (k:IV→Hp→List Ref→List Ref→Option (IV×Hp)):Aw (Af EE 28 3 [(0,.fv (.agg [.int .i64 o1,.int .i64 n1,.sl k1])),(1,.fv (.agg [.int .i64 o2,.int .i64 n2,.sl k2])),(2,.fv (.agg [.int .i64 o3,.int .i64 n3,.sl k3]))]) s h k =
  k (.clip [.agg [.int .i64 o1,.int .i64 n1,.sl k1],.agg [.int .i64 o2,.int .i64 n2,.sl k2],.agg [.int .i64 o3,.int .i64 n3,.sl k3]]) h [] []:=Ci Od tTm (by decide) (cells:=[.int .i64 o1,.int .i64 n1,.sl k1,.int .i64 o2,.int .i64 n2,.sl k2,.int .i64 o3,.int .i64 n3,.sl k3]) rfl k
theorem AlY (o1 n1 o2 n2 o3 n3 o4 n4:Int) (k1 k2 k3 k4:List FV) (s:Nat) (h:Hp) (k:IV→Hp→List Ref→List Ref→Option (IV×Hp)):Aw (Af EE 28 4 [(0,.fv (.agg [.int .i64 o1,.int .i64 n1,.sl k1])),(1,.fv (.agg [.int .i64 o2,.int .i64 n2,.sl k2])),(2,.fv (.agg [.int .i64 o3,.int .i64 n3,.sl k3])),(3,.fv (.agg [.int .i64 o4,.int .i64 n4,.sl k4]))]) s h k =
  k (.clip [.agg [.int .i64 o1,.int .i64 n1,.sl k1],.agg [.int .i64 o2,.int .i64 n2,.sl k2],.agg [.int .i64 o3,.int .i64 n3,.sl k3],.agg [.int .i64 o4,.int .i64 n4,.sl k4]]) h [] []:=Ci Od tTm (by decide) (cells:=[.int .i64 o1,.int .i64 n1,.sl k1,.int .i64 o2,.int .i64 n2,.sl k2,.int .i64 o3,.int .i64 n3,.sl k3,.int .i64 o4,.int .i64 n4,.sl k4]) rfl k
theorem ED (o1 n1:Int) (k1:List FV) (s:Nat) (h:Hp) (k:IV→Hp→List Ref→List Ref→Option (IV×Hp)):Aw (Af EE 28 1 [(0,.fv (.agg [.int .i64 o1,.int .i64 n1,.sl k1]))]) s h k =
  k (.clip [.agg [.int .i64 o1,.int .i64 n1,.sl k1]]) h [] []:=Ci Od tTm (by decide) (cells:=[.int .i64 o1,.int .i64 n1,.sl k1]) rfl k
def Ahn (r:Option (IV×Hp)) (v:FV):Prop:=∃own,r=some (.fv v,⟨own,[]⟩)
theorem QJ {v:FV} {own:List (Nat×Blk)}:Ahn (some (.fv v,⟨own,[]⟩)) v:=⟨own,rfl⟩
def Hk:Nat→Tm
 | 0=>.mk 11 0 []
 | n+1=>.mk 12 0 [Hk n]
theorem AmP {g:FuncId} (h:EE.pol.inl g=false) (h1:EE.pol.keep g=[]) (h2:EE.pol.split g=false) (h3:EE.pol.raw g=false) (ih:Aa) (xs:List IV) (h0:Hp) (k:IV→Hp→List Ref→List Ref→Option (IV×Hp)) :
  Fh EE ih (.fv (.func (.func g) [] [])) xs h0 k=Ak [] false false ih g xs h0 k:=by
 unfold Fh;simp only [callee,h,cond_false,Aeu,h1,h2,h3,Ark,List.nil_append,List.append_nil]
theorem Ajb {n:Nat} (k:Nat) (hn:k+3<n) (hk:k≤1000000):BZ (SS dt n 27 [iv k] ⟨[],[]⟩) (Hk k).enc:=by
 obtain ⟨n,rfl⟩:∃j,n=j+1:=⟨n - 1,by omega⟩;rw [c27];have h0:=EM (n:=n) (by omega) 11;rw [Am] at h0;simp only [Sc,Qs,PB,S27,↓XX,XY,↓reduceIte,Nat.reduceBEq,Nat.reduceAdd,Int.reduceEq,Int.reduceLT,Int.reduceLE,↓Ag h0];refine A7 (Q:=fun r=>BZ r _) (fun j V H=>∃(i:Nat),i+j=k∧V=[iv k,.ptr (.own 28311552) 0,.ptr (.own 28312577) 0,iv i] ∧
   H=⟨[(28311552,.row [iv 0,iv 0,.nils] false),(28312577,.row [iv (Hk i).op,iv (Hk i).n,.fv (.sl ((Hk i).kids.map Tm.enc))] false)],[]⟩) ?_ n k _ _ (by omega) ⟨0,by omega,rfl,rfl⟩
 rintro j V H rec ⟨i,hi,rfl,rfl⟩ hrec;cases j with
 | zero =>
  have:i=k:=by omega
  subst this;have hno:¬ ((i:Int)<i):=by omega
  generalize Hk i=t;obtain ⟨o,p,l⟩:=t;rw [Am];simp only [Sc,Qs,PB,UX,S27,↓XX,XY,↓reduceIte,Nat.reduceBEq,Nat.reduceAdd,Int.reduceEq,Int.reduceLT,Int.reduceLE,hno,Tm.op,Tm.n,Tm.kids];exact Ao _ _
 | succ j =>
  have hlt:(i:Int)<k:=by omega
  have hw:BM ((i:Int)+1)=((i+1:Nat):Int):=(As (by omega) (by omega)).trans (by simp);have ht:=CF (n:=n) (by omega) 12 [Hk i];have h9:=hrec j ([iv k,.ptr (.own 28311552) 0,.ptr (.own 28312577) 0,iv (i+1:Nat)]) (⟨[(28311552,.row [iv 0,iv 0,.nils] false),(28312577,.row [iv 12,iv 0,.fv (.sl ([Hk i].map Tm.enc))] false)],[]⟩) (by omega) ⟨i+1,by omega,rfl,rfl⟩;generalize Hk i=t at *;obtain ⟨o,p,l⟩:=t;simp only [Arl,Ark,Am] at ht h9;simp only [Sc,Qs,PB,UX,S27,↓XX,XY,↓reduceIte,Nat.reduceBEq,Nat.reduceAdd,Int.reduceEq,Int.reduceLT,Int.reduceLE,hlt,Tm.op,Tm.n,Tm.kids,↓AfW,↓Ag ht,hw];exact h9
theorem Q3 (n:Nat):Qt (SS dt (n+60) 11 [] ⟨[],[]⟩)=true:=by kernel_rfl
theorem Su {n:Nat} (h:60≤n):BZ (SS dt n 11 [] ⟨[],[]⟩) (.bool true):=by
 obtain ⟨k,rfl⟩:∃k,n=k+60:=⟨n - 60,by omega⟩;exact AbQ (Q3 k)
section
variable {β:Type} {E:Env}
def Aj2 (cs:List IV) (k:List FV→Option β):Option β:=(CQ cs).bind k
theorem Ahw {t e:TypeId} {a b:Nat} {ei:TI} {z:List IV} (hT:E.T t=some ⟨a,b,.slice e,z⟩) (he:E.T e=some ei) (hs:ei.size=1) (hz:∃x,ei.zero=[x]) (r s:Nat) (own:List (Nat×Blk)) (ext:List Blk)
  (hc:∀cells ro,Ap r own=some (.row cells ro)→cells.length≤100) (hk:∀cells ro,Ap r own=some (.row cells ro)→∃fc,CQ cells=some fc) (k:IV→Hp→List Ref→List Ref→Option β) :
  Aw (Af E t 1 [(0,.ptr (.own r) 0)]) s ⟨own,ext⟩ k=Ga own r fun bl=>DU bl fun cells=>Aj2 cells fun fc=>A0 own r (.row cells true) fun own=>k (.clip [.fp fc 0]) ⟨own,ext⟩ [.own r] [.own r]:=by
 obtain ⟨x,hx⟩:=hz;have hm:Af E t 1 [(0,.ptr (.own r) 0)]=(frzL (65534+1+1) [.ptr (.own r) 0]).bind fun (vs,u)=>.ret { eff:={ val:=.clip (BH ei.size 1 vs),upd:=u } }:=by
  have h1:¬ (ei.size=0∨1 * ei.size > 65536):=by rw [hs];omega
  have h2:Ck (fun j=>some (j * ei.size,ei.size)) (Oj 1 ei.zero) [(0,.ptr (.own r) 0)]=some [.ptr (.own r) 0]:=by
   rw [hx,hs];rfl
  simp only [Af,hT,he,if_neg h1,h2]
 rw [hm,Br];unfold Aw;cases hl:Ap r own with
 | none =>
  have:((frzL (65534+1+1) [.ptr (.own r) 0]).bind fun (vs,u)=>Rd.ret ({ eff:={ val:=.clip (BH ei.size 1 vs),upd:=u } }:Made)).runLog ⟨own,ext⟩ []=none:=by
   simp only [frzL,CJ,Rd.bind,Rd.runLog,Hp.get,hl]
  rw [this];rfl
 | some bl =>
  cases bl with
  | row cells ro =>
   obtain ⟨fc,hfc⟩:=hk cells ro hl;have hlen:=hc cells ro hl;have h3:frzL 65534 cells=.ret (fc,[]):=YD cells 65534 (by omega) hfc
   have:((frzL (65534+1+1) [.ptr (.own r) 0]).bind fun (vs,u)=>Rd.ret ({ eff:={ val:=.clip (BH ei.size 1 vs),upd:=u } }:Made)).runLog ⟨own,ext⟩ [] =
     some ({ eff:={ val:=.clip (BH ei.size 1 [.fp fc 0]),upd:=[(.own r,.row cells true)] } },[.own r]):=by
    simp only [frzL,CJ,Rd.bind,Rd.runLog,Hp.get,hl,h3,List.append_nil]
   rw [this];simp only [Option.bind_some,DU,Aj2,hfc,hs]
   show (fRf (.own r) fun q=>CV q ⟨own,ext⟩ fun _=>fBk (.row cells true) fun b=>Fu q b ⟨own,ext⟩ fun h=>I1 none s h fun h=>fV 3 (.clip [.fp fc 0]) fun v=>k v h [.own r] ([.own r]++[]))=_
   simp only [Ma,Cw,Ce,I1,Fu,CV];rw [Br,hl];rfl
  | tok n sz =>
   have:((frzL (65534+1+1) [.ptr (.own r) 0]).bind fun (vs,u)=>Rd.ret ({ eff:={ val:=.clip (BH ei.size 1 vs),upd:=u } }:Made)).runLog ⟨own,ext⟩ []=none:=by
    simp only [frzL,CJ,Rd.bind,Rd.runLog,Hp.get,hl]
   rw [this];rfl
  | map es =>
   have:((frzL (65534+1+1) [.ptr (.own r) 0]).bind fun (vs,u)=>Rd.ret ({ eff:={ val:=.clip (BH ei.size 1 vs),upd:=u } }:Made)).runLog ⟨own,ext⟩ []=none:=by
    simp only [frzL,CJ,Rd.bind,Rd.runLog,Hp.get,hl]
   rw [this];rfl
theorem AnM {t e:TypeId} {a b:Nat} {ei:TI} {z:List IV} (hT:E.T t=some ⟨a,b,.slice e,z⟩) (he:E.T e=some ei) (hs:ei.size=1) (hz:∃x,ei.zero=[x]) {r:Nat} {own own':List (Nat×Blk)} {cells:List IV} {ro:Bool} {fc:List FV}
  (hl:Ap r own=some (.row cells ro)) (hf:CQ cells=some fc) (hn:cells.length≤100) (ho:AM r (.row cells true) own=own') (s:Nat) (ext:List Blk) (k:IV→Hp→List Ref→List Ref→Option β) :
  Aw (Af E t 1 [(0,.ptr (.own r) 0)]) s ⟨own,ext⟩ k=k (.clip [.fp fc 0]) ⟨own',ext⟩ [.own r] [.own r]:=by
 have h1:∀cells' ro',Ap r own=some (.row cells' ro')→cells'=cells:=fun c r h=>by rw [hl] at h;cases h;rfl
 rw [Ahw hT he hs hz r s own ext (fun c r h=>by rw [h1 c r h];exact hn) (fun c r h=>by rw [h1 c r h];exact ⟨fc,hf⟩),Br,hl];simp only [Option.bind_some,DU,Aj2,hf,BO,ho]
def Bd (r:Option (IV×Hp)) (w:FV) (ext:List Blk):Prop:=∃v own,r=some (v,⟨own,ext⟩) ∧
 ∃u lg,∀(e:Option (IV×Hp)) (K:FV→List (Ref×Blk)→List Ref→Option (IV×Hp)),EJ 12 v ⟨own,ext⟩ [] e K=K w u lg
theorem AB (w:FV) (own:List (Nat×Blk)) (ext:List Blk):Bd (some (.fv w,⟨own,ext⟩)) w ext:=⟨_,own,rfl,[],[],fun _ _=>rfl⟩
theorem EH {v:IV} {w:FV} (hz:A4 v=some w) (own:List (Nat×Blk)) (ext:List Blk):Bd (some (v,⟨own,ext⟩)) w ext:=⟨_,own,rfl,[],[],fun e K=>Kw _ _ e K hz⟩
theorem KN:∀l:List FV,Cj (l.map .fv) []=[]
 | []=>rfl
 | v::l=>by
  show So (.fv v) (Cj (l.map .fv) [])=[]
  rw [KN l];rfl
theorem Amy (n j:Nat) (t:List Ref) (s:Nat) (rest:List Blk):Ob (n+1) (.ext j::t) s rest=cond (Nat.ble (Nat.succ j) s) (Ob n t s rest) (cond (Nat.beq j s) (goR (Ob n) t s rest) false):=rfl
theorem Am1 (n s:Nat):Ob (n+1) [] s []=true:=rfl
set_option maxRecDepth 20000 in
theorem Q6 (st:List FV):Ob 400 [.ext 0] 0 [.row (st.map .fv) false]=true:=by
 rw [show (400:Nat)=398+1+1 from rfl,Amy]
 show goR (Ob (398+1)) [] 0 [.row (st.map .fv) false]=true
 show Ob (398+1) ([]++EK (.row (st.map .fv) false)) 1 []=true
 rw [show EK (.row (st.map .fv) false)=Cj (st.map .fv) [] from rfl,KN]
 exact Am1 398 1
theorem QD (st:List FV):okB 1 [.row (st.map .fv) false]=true:=by
 show cond (okR 1 (EK (.row (st.map .fv) false))) true false=true
 rw [show EK (.row (st.map .fv) false)=Cj (st.map .fv) [] from rfl,KN]
 rfl
theorem gb3 (a b c:FV):Ob 400 [.ext 0] 0 [.row [.fv a,.fv b,.fv c] false]=true:=Q6 [a,b,c]
theorem ob3 (a b c:FV):okB 1 [.row [.fv a,.fv b,.fv c] false]=true:=QD [a,b,c]
theorem gb2 (a b:FV):Ob 400 [.ext 0] 0 [.row [.fv a,.fv b] false]=true:=Q6 [a,b]
theorem ob2 (a b:FV):okB 1 [.row [.fv a,.fv b] false]=true:=QD [a,b]
theorem RP {r1:Ref} {rs1:List Ref} {ih:Aa} {f:FuncId} {vs:List IV} {w:FV} {ext ext':List Blk} (hr:Bd (ih f vs ⟨[],ext⟩) w ext') (hg:Ob 400 (r1::rs1) 0 ext=true) (hl:ext'.length=ext.length) (ho:okB ext.length ext'=true)
  (own:List (Nat×Blk)) (r0:Option (IV×Hp)) (u:List (Ref×Blk)) (lg:List Ref) (e:Option (IV×Hp)) (k:IV→Hp→List Ref→List Ref→Option (IV×Hp)) :
  PE (
     r1::rs1) r0 ⟨own,ext⟩ u lg e (fun rs=>match rs with
   | []=>none
   | r::rs=>(match (⟨own,ext⟩:Hp) with
    | ⟨own,ext⟩=>cond (Ob 400 (r::rs) 0 ext) (match ih f vs ⟨[],ext⟩ with
     | none=>none
     | some p=>match p with
      | (v,h')=>match h' with
       | ⟨own',ext'⟩=>cond (and (Nat.beq ext'.length ext.length) (okB ext.length ext'))
        (EJ 12 v ⟨own',ext'⟩ [] e fun w _ _=>KS u ⟨own,ext'⟩ fun h2=>k (.fv w) h2 ((CC ext.length).reverse++lg) (Bk u++CC ext.length)) none)
     e)) k=KS u ⟨own,ext'⟩ fun h2=>k (.fv w) h2 ((CC ext.length).reverse++lg) (Bk u++CC ext.length):=by
 obtain ⟨v,own',e1,u',lg',hz⟩:=hr;simp only [PE,hg,e1,hl,ho];rw [show (Nat.beq ext.length ext.length && true)=true by rw [Bool.and_true];exact Nat.beq_refl _,cond_true,hz]
 rfl
structure OneX (ext ext':List Blk):Prop where
 g:Ob 400 [.ext 0] 0 ext=true
 l:ext.length=1
 l':ext'.length=1
 o:okB 1 ext'=true
theorem Cd (a b c a' b' c':FV):OneX [.row [.fv a,.fv b,.fv c] false] [.row [.fv a',.fv b',.fv c'] false]:=⟨gb3 ..,rfl,rfl,ob3 ..⟩
theorem Ann (a b a' b':FV):OneX [.row [.fv a,.fv b] false] [.row [.fv a',.fv b'] false]:=⟨gb2 ..,rfl,rfl,ob2 ..⟩
theorem Ns (x:Nat):∀(args:List IV) {vs:List FV} (h:Hp) (lg:List Ref) (e:Option β) (k:List IV→List Ref→List (Ref×Blk)→List Ref→Option β) (ks:List Bool),(∀b∈ks,b=false)→Bx args=some vs →
  Sp args ks h lg e k=k (vs.map .fv) [] [] lg
 | [],vs,h,lg,e,k,ks,_,hz=>by cases hz;rfl
 | v::l,vs,h,lg,e,k,[],_,hz=>AcN (v::l) h lg e k hz
 | v::l,vs,h,lg,e,k,b::ks,hk,hz=>by
  have hb:=hk b List.mem_cons_self;subst hb;simp only [Bx] at hz;cases h1:A4 v with
  | none=>rw [h1] at hz;cases hz
  | some x' =>
   rw [h1] at hz;cases h2:Bx l with
   | none=>rw [h2] at hz;cases hz
   | some ys =>
    rw [h2] at hz;cases hz;rw [RR,Kw h lg e _ h1,Ns x l h lg e _ ks (fun c hc=>hk c (List.mem_cons_of_mem _ hc)) h2];rfl
theorem Aex {ks:List Bool} (hks:∀b∈ks,b=false) {ih:Aa} {f:FuncId} {args:List IV} {vs:List FV} {w:FV} {ext ext':List Blk} (hz:Bx args=some vs) (X:OneX ext ext') (hr:Bd (ih f (.ptr (.ext 0) 0::vs.map .fv) ⟨[],ext⟩) w ext')
  (own:List (Nat×Blk)) (k:IV→Hp→List Ref→List Ref→Option (IV×Hp)):Ak (true::ks) false false ih f (.ptr (.ext 0) 0::args) ⟨own,ext⟩ k=k (.fv w) ⟨own,ext'⟩ [.ext 0] [.ext 0]:=by
 rw [Je,U2,P3,Ns 0 args _ _ _ _ ks hks hz]
 have:=RP (r1:=.ext 0) (rs1:=[]) hr X.g (by rw [X.l,X.l']) (by rw [X.l];exact X.o) own (ih f (.ptr (.ext 0) 0::vs.map .fv) ⟨[],[]⟩) [] [] (ES (true::ks) false false ih f (.ptr (.ext 0) 0::args) ⟨own,ext⟩ k) k
 refine this.trans ?_;rw [X.l];rfl
theorem C9 {ih:Aa} {f:FuncId} {w:FV} {ext ext':List Blk} (hr:Bd (ih f [.ptr (.ext 0) 0] ⟨[],ext⟩) w ext') (X:OneX ext ext') (own:List (Nat×Blk)) (k:IV→Hp→List Ref→List Ref→Option (IV×Hp)) :
  Ak [true] false false ih f [.ptr (.ext 0) 0] ⟨own,ext⟩ k=k (.fv w) ⟨own,ext'⟩ [.ext 0] [.ext 0]:=Aex (ks:=[]) (by simp) (vs:=[]) rfl X hr own k
theorem IX {ih:Aa} {f:FuncId} {a b:IV} {x y w:FV} {ext ext':List Blk} (hr:Bd (ih f [.ptr (.ext 0) 0,.fv x,.fv y] ⟨[],ext⟩) w ext') (X:OneX ext ext') (ha:A4 a=some x) (hb:A4 b=some y) (own:List (Nat×Blk))
  (k:IV→Hp→List Ref→List Ref→Option (IV×Hp)):Ak [true,false,false] false false ih f [.ptr (.ext 0) 0,a,b] ⟨own,ext⟩ k=k (.fv w) ⟨own,ext'⟩ [.ext 0] [.ext 0]:=Aex (ks:=[false,false]) (by simp) (UK ha hb) X hr own k
theorem Ac9 {ih:Aa} {f:FuncId} {a b c:IV} {x y z w:FV} {ext ext':List Blk} (hr:Bd (ih f [.ptr (.ext 0) 0,.fv x,.fv y,.fv z] ⟨[],ext⟩) w ext') (X:OneX ext ext') (ha:A4 a=some x) (hb:A4 b=some y) (hc:A4 c=some z)
  (own:List (Nat×Blk)) (k:IV→Hp→List Ref→List Ref→Option (IV×Hp)):Ak [true,false,false,false] false false ih f [.ptr (.ext 0) 0,a,b,c] ⟨own,ext⟩ k=k (.fv w) ⟨own,ext'⟩ [.ext 0] [.ext 0] :=
 Aex (ks:=[false,false,false]) (by simp) (Abv ha hb hc) X hr own k
theorem Pw {ih:Aa} {f:FuncId} {s:Nat} {own:List (Nat×Blk)} {cells:List IV} {ro:Bool} {fc:List FV} {w:FV} {ext ext':List Blk} (hr:Bd (ih f [.ptr (.ext 0) 0,.fv (.fp fc 0)] ⟨[],ext⟩) w ext') (X:OneX ext ext')
  (hl:Ap s own=some (.row cells ro)) (hz:CQ cells=some fc) (hn:cells.length≤300) (k:IV→Hp→List Ref→List Ref→Option (IV×Hp)) :
  Ak [true,false] false false ih f [.ptr (.ext 0) 0,.ptr (.own s) 0] ⟨own,ext⟩ k=k (.fv w) ⟨AM s (.row cells true) own,ext'⟩ [.ext 0,.own s] [.own s,.ext 0]:=by
 rw [Je,U2,P3,RR,U4,K6,Br,hl];simp only [Option.bind_some,Ja];rw [Bb,decide_eq_true hn,c_t,Abm 10 _ _ _ cells _ hz,fz0]
 have:=RP (r1:=.ext 0) (rs1:=[]) hr X.g (by rw [X.l,X.l']) (by rw [X.l];exact X.o) own (ih f [.ptr (.ext 0) 0,.fv (.fp fc 0)] ⟨[],[]⟩) [(.own s,.row cells true)] [.own s] (ES [true,false] false false ih f [.ptr (.ext 0) 0,.ptr (.own s) 0] ⟨own,ext⟩ k) k
 refine this.trans ?_;rw [X.l]
 show (Ga own s fun _=>A0 own s (.row cells true) fun own=>k (.fv w) ⟨own,ext'⟩ [.ext 0,.own s] [.own s,.ext 0])=_
 rw [Br,hl,Option.bind_some,BO]
end
end Idl
end Go.Proofs.Ytkfecngimlcfoaa
namespace Go.Proofs.Ytkfecngimlcfoaa
namespace Idl
theorem AaX {α:Type}:∀(r:Rd α) (h:Hp) (l:List Ref) {x:α} {l':List Ref},r.runLog h l=some (x,l')→r.run h=some x
 | .ret a,h,l,x,l',e=>by simp only [Rd.runLog,Arf,Arg] at e;rw [e.1];rfl
 | .fail,_,_,_,_,e=>by cases e
 | .get r k,h,l,x,l',e=>by
  simp only [Rd.runLog] at e;simp only [Rd.run];cases hg:h.get r with
  | none=>rw [hg] at e;cases e
  | some b=>rw [hg] at e;exact AaX (k b) h _ e
theorem Mu {v:IV} {own:List (Nat×Blk)} {ext:List Blk} {w:FV} (h:∃u lg,∀(e:Option (IV×Hp)) (K:FV→List (Ref×Blk)→List Ref→Option (IV×Hp)),EJ 12 v ⟨own,ext⟩ [] e K=K w u lg):∃u,(CJ 4096 v).run ⟨own,ext⟩=some (w,u):=by
 obtain ⟨u,lg,hz⟩:=h;rcases Me 12 v ⟨own,ext⟩ [] none (fun w _ _=>some (IV.fv w,(⟨[],[]⟩:Hp))) (.fv w,⟨[],[]⟩) (hz ..) with h | ⟨x,u',lg',h1,_,h2⟩
 ·cases h
 ·simp only [Arf,Arg,IV.fv.injEq,and_true] at h2;subst h2;exact ⟨u',AaX _ _ _ (h1 4096 (by decide))⟩
theorem NO:∀l:List FV,IV.refs.refsL (l.map .fv)=[]
 | []=>rfl
 | v::l=>by
  simp only [Arl,IV.refs.refsL,IV.refs,NO l,List.append_nil]
theorem HI:∀(args:List IV) (ks:List Bool) {vs:List FV},(∀b∈ks,b=false)→Bx args=some vs→Bc ks args=.ret (vs.map .fv,[],[])
 | [],ks,vs,_,hz=>by cases hz;cases ks<;>rfl
 | v::l,[],vs,_,hz=>Md (v::l) hz
 | v::l,b::ks,vs,hk,hz=>by
  have hb:=hk b List.mem_cons_self;subst hb;simp only [Bx] at hz;cases h1:A4 v with
  | none=>rw [h1] at hz;cases hz
  | some x =>
   rw [h1] at hz;cases h2:Bx l with
   | none=>rw [h2] at hz;cases hz
   | some ys =>
    rw [h2] at hz;cases hz;simp only [Bc,frp 4096 (by omega) h1,Rd.bind,HI l ks (fun c hc=>hk c (List.mem_cons_of_mem _ hc)) h2];rfl
theorem PY (s:Nat) (ext:List Blk):Ob 400 [.own s] 0 ext=false:=rfl
theorem AfJ {ks:List Bool} (hks:∀b∈ks,b=false) {ih:Aa} {f:FuncId} {args:List IV} {vs:List FV} {w:FV} {s:Nat} {st st':List FV} {own:List (Nat×Blk)} (hz:Bx args=some vs) (hl:Ap s own=some (.row (st.map .fv) false))
  (hr:Bd (ih f (.ptr (.ext 0) 0::vs.map .fv) ⟨[],[.row (st.map .fv) false]⟩) w [.row (st'.map .fv) false]) (k:IV→Hp→List Ref→List Ref→Option (IV×Hp)) :
  Ak (true::ks) false false ih f (.ptr (.own s) 0::args) ⟨own,[]⟩ k=k (.fv w) ⟨AM s (.row (st'.map .fv) false) own,[]⟩ [.own s] [.own s]:=by
 obtain ⟨v,own',e1,hfz⟩:=hr;obtain ⟨u,hu⟩:=Mu hfz;have hD:ES (true::ks) false false ih f (.ptr (.own s) 0::args) ⟨own,[]⟩ k=k (.fv w) ⟨AM s (.row (st'.map .fv) false) own,[]⟩ [.own s] [.own s]:=by
  have h1:Bc (true::ks) (.ptr (.own s) 0::args)=.ret (.ptr (.own s) 0::vs.map .fv,[.own s],[]):=by
   simp only [Bc,HI args ks hks hz,Rd.bind,IV.refs];rfl
  have h2:(BT 4096 [.own s] []).runLog ⟨own,[]⟩ []=some ([(.own s,.row (st.map .fv) false)],[.own s]):=by
   show (BT (4094+1+1) [.own s] []).runLog ⟨own,[]⟩ []=_
   simp only [BT,hasRef,Bool.false_eq_true,if_false,Rd.runLog,Hp.get,hl,Blk.refs,NO,List.append_nil,List.nil_append]
  have h3:IV.ren.renL (Dt [(.own s,.row (st.map .fv) false)]) (.ptr (.own s) 0::vs.map .fv)=some (.ptr (.ext 0) 0::vs.map .fv):=by
   simp only [IV.ren.renL,IV.ren,Dt,B3,if_true,Ari,Option.bind_some,E1]
  have h4:A1 (Dt [(.own s,.row (st.map .fv) false)]) [.row (st.map .fv) false]=some [.row (st.map .fv) false]:=by
   simp only [A1,Blk.ren,E1,Ari,Option.bind_some]
  have h5:A1 (Cc [(.own s,.row (st.map .fv) false)]) [.row (st'.map .fv) false]=some [.row (st'.map .fv) false]:=by
   simp only [A1,Blk.ren,E1,Ari,Option.bind_some]
  unfold ES;simp only [h1,Rd.runLog,h2,h3,Arl,Ark,h4,Df (Ce 3),Df Cw,Jc,Bool.false_eq_true,if_false,e1,hu,Ari,IV.ren,h5,Arj,List.length_nil,Bk,List.all_nil,and_self,if_true,List.nil_append,List.zip_cons_cons,List.zip_nil_left];have h6:laid ⟨own,[]⟩ [(.own s,.row (st'.map .fv) false)]=some ⟨AM s (.row (st'.map .fv) false) own,[]⟩:=by
   simp only [laid,Hp.get,hl,Hp.set]
  simp only [h6,K3,Ce]
 rw [Je,U2,P3,Ns 0 args _ _ _ _ ks hks hz];simp only [PE,PY,cond_false];exact hD
theorem Alj {ih:Aa} {f:FuncId} {x y:IV} {vx vy w:FV} {s:Nat} {a b c a' b' c':FV} {own own':List (Nat×Blk)} (hr:Bd (ih f [.ptr (.ext 0) 0,.fv vx,.fv vy] ⟨[],[.row [.fv a,.fv b,.fv c] false]⟩) w [.row [.fv a',.fv b',.fv c'] false])
  (hx:A4 x=some vx) (hy:A4 y=some vy) (hl:Ap s own=some (.row [.fv a,.fv b,.fv c] false)) (ho:AM s (.row [.fv a',.fv b',.fv c'] false) own=own') (k:IV→Hp→List Ref→List Ref→Option (IV×Hp)) :
  Ak [true,false,false] false false ih f [.ptr (.own s) 0,x,y] ⟨own,[]⟩ k=k (.fv w) ⟨own',[]⟩ [.own s] [.own s]:=by
 subst ho;exact AfJ (ks:=[false,false]) (by simp) (st:=[a,b,c]) (st':=[a',b',c']) (UK hx hy) hl hr k
theorem AjO {ih:Aa} {f:FuncId} {x y z:IV} {vx vy vz w:FV} {s:Nat} {a b c a' b' c':FV} {own own':List (Nat×Blk)} (hr:Bd (ih f [.ptr (.ext 0) 0,.fv vx,.fv vy,.fv vz] ⟨[],[.row [.fv a,.fv b,.fv c] false]⟩) w [.row [.fv a',.fv b',.fv c'] false])
  (hx:A4 x=some vx) (hy:A4 y=some vy) (hz:A4 z=some vz) (hl:Ap s own=some (.row [.fv a,.fv b,.fv c] false)) (ho:AM s (.row [.fv a',.fv b',.fv c'] false) own=own') (k:IV→Hp→List Ref→List Ref→Option (IV×Hp)) :
  Ak [true,false,false,false] false false ih f [.ptr (.own s) 0,x,y,z] ⟨own,[]⟩ k=k (.fv w) ⟨own',[]⟩ [.own s] [.own s]:=by
 subst ho;exact AfJ (ks:=[false,false,false]) (by simp) (st:=[a,b,c]) (st':=[a',b',c']) (Abv hx hy hz) hl hr k
theorem Agd {ih:Aa} {f:FuncId} {x y:IV} {vx vy w:FV} {s:Nat} {a b a' b':FV} {own own':List (Nat×Blk)} (hr:Bd (ih f [.ptr (.ext 0) 0,.fv vx,.fv vy] ⟨[],[.row [.fv a,.fv b] false]⟩) w [.row [.fv a',.fv b'] false])
  (hx:A4 x=some vx) (hy:A4 y=some vy) (hl:Ap s own=some (.row [.fv a,.fv b] false)) (ho:AM s (.row [.fv a',.fv b'] false) own=own') (k:IV→Hp→List Ref→List Ref→Option (IV×Hp)) :
  Ak [true,false,false] false false ih f [.ptr (.own s) 0,x,y] ⟨own,[]⟩ k=k (.fv w) ⟨own',[]⟩ [.own s] [.own s]:=by
 subst ho;exact AfJ (ks:=[false,false]) (by simp) (st:=[a,b]) (st':=[a',b']) (UK hx hy) hl hr k
section
variable {β:Type}
theorem Aci {rm:List Nat} {vals:List IV} {own:List (Nat×Blk)} {ext:List Blk} (hf:AQ rm vals own []=true) (hx:∀s,Ref.own s ∉ ext.flatMap Blk.refs) (s:Nat) :
  Ref.own s∈IV.refs.refsL vals++(own.filter fun p=>!rm.contains p.1).flatMap (fun p=>p.2.refs)++ext.flatMap Blk.refs ↔ heldB rm vals own [] s=true:=by
 rw [← Tf hf s,List.mem_append];constructor
 ·rintro (h | h)
  ·exact List.mem_append_left _ h
  ·exact absurd h (hx s)
 ·intro h;rcases List.mem_append.1 h with h | h
  ·exact .inl h
  ·cases h
theorem Aff {base rm:List Nat} {vals:List IV} {own:List (Nat×Blk)} {ext:List Blk} (hx:∀s,Ref.own s ∉ ext.flatMap Blk.refs) (hb:rm.any base.contains=false) (hf:AQ rm vals own []=true) (k:Hp→Option β) :
  Bs base rm vals ⟨own,ext⟩ k=k ⟨Hq rm vals own [],ext⟩:=by
 have hm:=Aci hf hx;have hf0:=hf;simp only [AQ,Bool.and_eq_true] at hf0;obtain ⟨g1,g2,g3,g4⟩:=hf0;unfold Bs;rw [hb];simp only [cond_false];rw [LA];cases ha:(own.all fun p=>!rm.contains p.1) with
 | true =>
  simp only [Bool.not_true,cond_false];congr 2
  symm
  apply List.filter_eq_self.2;intro p hp;rw [List.all_eq_true.1 ha p hp];rfl
 | false =>
  simp only [Bool.not_false,cond_true];have slow:(match Cn base [] rm ⟨vals,⟨own,ext⟩⟩ with | none=>none | some S=>fH S.hp k)=k ⟨Hq rm vals own [],ext⟩:=by
   have hgone:(rm.filter fun k=>!anyIn [k] (IV.refs.refsL vals++(own.filter fun p=>!rm.contains p.1).flatMap (fun p=>p.2.refs)++ext.flatMap Blk.refs))=rm.filter fun s=>!heldB rm vals own [] s:=by
    apply List.filter_congr;intro s _;congr 1;exact Bool.eq_iff_iff.2 ((HQ s _).trans (hm s))
   have hown:(own.filter fun p=>!(rm.filter fun s=>!heldB rm vals own [] s).contains p.1)=Hq rm vals own []:=by
    apply List.filter_congr;intro p _;rw [Bool.eq_iff_iff];simp only [Bool.not_eq_true',Bool.or_eq_true,List.contains_eq_mem,decide_eq_false_iff_not,List.mem_filter];constructor
    ·intro h;by_cases h1:p.1∈rm
     ·right;cases hh:heldB rm vals own [] p.1 with
      | true=>rfl
      | false=>exact absurd ⟨h1,hh⟩ h
     ·exact .inl h1
    ·rintro (h | h) ⟨h1,h2⟩
     ·exact h h1
     ·rw [h] at h2;exact absurd h2 (by simp)
   simp only [Cn,hb,Bool.false_eq_true,if_false,AV,ha,hgone,hown];have hnone:anyIn (rm.filter fun s=>!heldB rm vals own [] s) (CG ⟨vals,⟨Hq rm vals own [],ext⟩⟩)=false:=by
    apply D0;intro s hs hmem;obtain ⟨hs1,hs2⟩:=List.mem_filter.1 hs;have hs2:heldB rm vals own [] s=false:=by simpa using hs2
    simp only [CG,List.mem_append] at hmem;rcases hmem with (hmem | hmem) | hmem
    ·have:=(hm s).1 (List.mem_append_left _ (List.mem_append_left _ hmem))
     rw [this] at hs2;cases hs2
    ·obtain ⟨p,hp,hr⟩:=List.mem_flatMap.1 hmem;have hp1:=(List.mem_filter.1 hp).1;have hn:=(DX (List.all_eq_true.1 g2 p hp1) s).1 hr;have h4:=List.all_eq_true.1 g4 p hp1;cases hc:rm.contains p.1 with
     | true =>
      rw [hc] at h4;have h4:(rm.all fun s=>!E8 s p.2)=true:=h4;have h5:=List.all_eq_true.1 h4 s hs1;rw [hn] at h5;cases h5
     | false =>
      have:=(hm s).1 (List.mem_append_left _ (List.mem_append_right _ (List.mem_flatMap.2 ⟨p,List.mem_filter.2 ⟨hp1,by rw [hc];rfl⟩,hr⟩)))
      rw [this] at hs2;cases hs2
    ·exact hx s hmem
   simp only [hnone,Bool.false_eq_true,if_false,K3]
  cases hff:(and (E7 rm (Cj vals [])) (and (Ht rm own) (IP rm ext))) with
  | false=>exact slow
  | true =>
   have hff:(E7 rm (Cj vals []) && (Ht rm own && IP rm ext))=true:=hff;simp only [Bool.and_eq_true] at hff;simp only [Hs,cond_true];congr 2;apply List.filter_congr;intro p hp;cases hc:rm.contains p.1 with
   | false=>rfl
   | true =>
    have h1:=E6 hff.1;rw [refsDL_eq,List.append_nil] at h1;have h2:=Hw hff.2.1
    have:heldB rm vals own [] p.1=false:=by
     cases hh:heldB rm vals own [] p.1 with
     | false=>rfl
     | true =>
      have:=(hm p.1).2 hh
      have hpm:p.1∈rm:=List.contains_iff_mem.1 hc;rcases List.mem_append.1 this with h | h
      ·rcases List.mem_append.1 h with h | h
       ·exact absurd h (h1 _ hpm)
       ·exact absurd h (h2 _ hpm)
      ·exact absurd h (hx _)
    rw [this];rfl
structure ExtX (ext ext':List Blk):Prop where
 g:Ob 400 [.ext 0] 0 ext=true
 l:ext'.length=ext.length
 o:okB ext.length ext'=true
theorem Vs {ks:List Bool} {ih:Aa} {f:FuncId} {args:List IV} {vs:List FV} {w:FV} {u:List (Ref×Blk)} {lg:List Ref} {own own':List (Nat×Blk)} {ext ext':List Blk}
  (hz:∀(e:Option (IV×Hp)) (k:List IV→List Ref→List (Ref×Blk)→List Ref→Option (IV×Hp)),Sp args ks ⟨own,ext⟩ [] e k=k (vs.map .fv) [] u lg) (X:ExtX ext ext')
  (hr:Bd (ih f (.ptr (.ext 0) 0::vs.map .fv) ⟨[],ext⟩) w ext') (hlay:∀k:Hp→Option (IV×Hp),KS u ⟨own,ext'⟩ k=k ⟨own',ext'⟩) (k:IV→Hp→List Ref→List Ref→Option (IV×Hp)) :
  Ak (true::ks) false false ih f (.ptr (.ext 0) 0::args) ⟨own,ext⟩ k=k (.fv w) ⟨own',ext'⟩ ((CC ext.length).reverse++lg) (Bk u++CC ext.length):=by
 rw [Je,U2,P3,hz]
 have:=RP (r1:=.ext 0) (rs1:=[]) hr X.g X.l X.o own (ih f (.ptr (.ext 0) 0::vs.map .fv) ⟨[],[]⟩) u lg (ES (true::ks) false false ih f (.ptr (.ext 0) 0::args) ⟨own,ext⟩ k) k
 exact this.trans (hlay _)
theorem AmK:∀(cs:List FV),(∀x∈cs,∀l,x≠.agg l)→∀k:List FV→Option β,chK 1 cs.length cs k=k cs
 | [],_,k=>rfl
 | c::cs,h,k=>by
  show (Fv (c::cs) 1 fun a=>Fd (c::cs) 1 fun b=>AbM a fun x=>chK 1 cs.length b fun xs=>k (x::xs))=_
  rw [t1,d1]
  have:∀k:FV→Option β,AbM [c] k=k c:=by
   intro k;cases c with
   | agg l=>exact absurd rfl (h _ List.mem_cons_self l)
   | _=>rfl
  rw [this,AmK cs (fun x hx=>h x (List.mem_cons_of_mem _ hx))]
theorem Ps (d:Nat) (h:Hp) (lg:List Ref) (e:Option β):∀(l:List FV) (k:List FV→List (Ref×Blk)→List Ref→Option β),CU (EJ (d+1)) (l.map .fv) h lg e k=k l [] lg
 | [],k=>rfl
 | v::l,k=>by
  show (EJ (d+1) (.fv v) h lg e fun y u lg=>CU (EJ (d+1)) (l.map .fv) h lg e fun ys us lg=>Oi u us fun w=>k (y::ys) w lg)=_
  show (CU (EJ (d+1)) (l.map .fv) h lg e fun ys us lg=>Oi [] us fun w=>k (v::ys) w lg)=_
  rw [Ps d h lg e l];rfl
theorem Adv {d:Nat} {s:Nat} {es:List FV} {ro:Bool} {own:List (Nat×Blk)} {ext:List Blk} (hl:Ap s own=some (.row (es.map .fv) ro)) (hn:es.length≤300) (ha:∀x∈es,∀l,x≠.agg l) (lg:List Ref) (e:Option β)
  (k:FV→List (Ref×Blk)→List Ref→Option β):EJ (d+2) (.slc (.own s) 1 es.length) ⟨own,ext⟩ lg e k=k (.sl es) [(.own s,.row (es.map .fv) true)] (.own s::lg):=by
 show (CV (.own s) ⟨own,ext⟩ fun b=>DU b fun cells=>cond (Nat.ble cells.length 300) (cond (or (Nat.beq 1 0) (not (Nat.ble (es.length * 1) cells.length))) none
  (CU (EJ (d+1)) cells ⟨own,ext⟩ (.own s::lg) e fun cs u lg=>chK 1 es.length cs fun els=>k (.sl els) ((.own s,.row cells true)::u) lg)) e)=_
 rw [K6,Br,hl];simp only [Option.bind_some,Ja,List.length_map,Nat.mul_one];rw [Bb,decide_eq_true hn,c_t,show Nat.ble es.length es.length=true by rw [Bb];exact decide_eq_true (Nat.le_refl _)]
 simp only [Bool.not_true]
 show (CU (EJ (d+1)) (es.map .fv) ⟨own,ext⟩ (.own s::lg) e fun cs u lg=>chK 1 es.length cs fun els=>k (.sl els) ((.own s,.row (es.map .fv) true)::u) lg)=_
 rw [Ps,AmK es ha]
theorem Amg {s s2:Nat} {es:List FV} {ro ro2:Bool} {a b c d t x:FV} {own:List (Nat×Blk)} {ext:List Blk} (hl:Ap s own=some (.row [.fv a,.fv b,.slc (.own s2) 1 es.length,.fv c,.fv d,.fv t,.fv x] ro)) (hl2:Ap s2 own=some (.row (es.map .fv) ro2))
  (hn:es.length≤300) (ha:∀x∈es,∀l,x≠.agg l) (lg:List Ref) (e:Option β) (k:FV→List (Ref×Blk)→List Ref→Option β):EJ 12 (.ptr (.own s) 0) ⟨own,ext⟩ lg e k =
   k (.fp [a,b,.sl es,c,d,t,x] 0) [(.own s,.row [.fv a,.fv b,.slc (.own s2) 1 es.length,.fv c,.fv d,.fv t,.fv x] true),(.own s2,.row (es.map .fv) true)] (.own s2 :: .own s::lg):=by
 rw [U4,K6,Br,hl];simp only [Option.bind_some,Ja];rw [Bb,decide_eq_true (by simp),c_t];rw [fl1,K4,fl1,K4,fl1,Adv (d:=9) hl2 hn ha,fl1,K4,fl1,K4,fl1,K4,fl1,K4,fl0];rfl
end
end Idl
end Go.Proofs.Ytkfecngimlcfoaa
namespace Go.Proofs.Ytkfecngimlcfoaa
namespace Idl
theorem EN (l:List FV):(l.map IV.fv).all Fo=true:=by induction l with
 | nil=>rfl
 | cons a l ih=>rw [Arl,List.all_cons,ih];rfl
theorem De (s:Nat) (l:List FV):(l.map IV.fv).any (B6 s)=false:=by induction l with
 | nil=>rfl
 | cons a l ih=>rw [Arl,List.any_cons,ih];rfl
def Dq:List Tm→List FV
 | []=>[]
 | .mk o n k::l=>.int .i64 o :: .int .i64 n :: .sl (k.map Tm.enc)::Dq l
def Mt:Nat→List IV
 | 0=>[]
 | n+1=>iv 0::iv 0 :: .nils::Mt n
def B1 (ts:List Tm) (r:Nat):List IV:=(Dq ts).map .fv++Mt r
theorem MG (ts:List Tm):(Dq ts).length=3 * ts.length:=by
 induction ts with
 | nil=>rfl
 | cons t l ih=>obtain ⟨o,n,k⟩:=t;simp only [Dq,Arj,ih];omega
theorem UQ (ts:List Tm) (t:Tm):Dq (ts++[t])=Dq ts++[.int .i64 t.op,.int .i64 t.n,.sl (t.kids.map Tm.enc)]:=by
 induction ts with
 | nil=>obtain ⟨o,n,k⟩:=t;rfl
 | cons a l ih=>obtain ⟨o,n,k⟩:=a;simp only [List.cons_append,Dq,ih]
theorem OI {β:Type}:∀(A:List IV) (x y z:IV) (B:List IV) (a b c:FV) (k:List IV→Option β),DQ (A++x::y::z::B) A.length [a,b,c] k=k (A++.fv a :: .fv b :: .fv c::B)
 | [],x,y,z,B,a,b,c,k=>rfl
 | w::A,x,y,z,B,a,b,c,k=>by
  show DQ (A++x::y::z::B) A.length [a,b,c] (fun t=>k (w::t))=_
  rw [OI A];rfl
theorem Ah8 {β:Type} (done:List Tm) (r:Nat) (o n:Int) (ks:List Tm) (k:List IV→Option β):DQ (B1 done (r+1)) (done.length * 3) [.int .i64 o,.int .i64 n,.sl (ks.map Tm.enc)] k=k (B1 (done++[.mk o n ks]) r):=by
 have h:=OI (β:=β) ((Dq done).map .fv) (iv 0) (iv 0) .nils (Mt r) (.int .i64 o) (.int .i64 n) (.sl (ks.map Tm.enc)) k;rw [List.length_map,MG,Nat.mul_comm] at h;refine h.trans ?_;congr 1;unfold B1;rw [UQ];simp [Tm.op,Tm.n,Tm.kids,iv]
theorem Amz {β:Type}:∀(ts:List Tm) (k:List FV→Option β),chK 3 ts.length (Dq ts) k=k (ts.map Tm.enc)
 | [],k=>rfl
 | .mk o n ks::l,k=>by
  show (Fv (Dq (.mk o n ks::l)) 3 fun a=>Fd (Dq (.mk o n ks::l)) 3 fun b=>AbM a fun x=>chK 3 l.length b fun xs=>k (x::xs))=_
  rw [Dq,t3,d3]
  show (chK 3 l.length (Dq l) fun xs=>k (.agg [.int .i64 o,.int .i64 n,.sl (ks.map Tm.enc)]::xs))=_
  rw [Amz l,Arl,Am]
theorem Anm (n:Nat):Oj n [iv 0,iv 0,.nils]=B1 [] n:=by
 induction n with
 | zero=>rfl
 | succ n ih=>rw [Oj,ih];rfl
theorem Aoo {n:Nat} (hn:n≤1000) (s:Nat) (own:List (Nat×Blk)) (ext:List Blk) (k:IV→Hp→List Ref→List Ref→Option (IV×Hp)) :
  Aw (BK EE s 28 (iv n) (iv n)) s ⟨own,ext⟩ k=Cu own s (A0 own s (.row (B1 [] n) false) fun own=>k (.slc (.own s) 3 n) ⟨own,ext⟩ [] [.own s]):=by
 have:BK EE s 28 (iv n) (iv n)=.ret { eff:={ val:=.slc (.own s) 3 n },new:=some (.row (B1 [] n) false) }:=by
  simp only [BK,Od,tTm,Vf];rw [if_pos ⟨by omega,by omega,by omega,by decide,by decide⟩,Int.toNat_natCast,Anm]
 rw [this];unfold Aw;simp only [Rd.runLog,I1,Cw,Ce];rfl
theorem AdP {β:Type} {n i:Nat} (h:i<n) (r:Ref) (k:IV→Option β):Bf 3 (.slc r 3 n) (iv i) k=k (.ptr r (i * 3)):=by
 have e1:Nat.ble (Nat.succ i) n=true:=by rw [Bb];exact decide_eq_true h
 show (cond (and (Nat.ble (Nat.succ i) n) (Nat.beq 3 3)) (DN (i * 3) fun o=>k (.ptr r o)) none)=_
 rw [e1];simp only [BE];rfl
theorem Mk (ts:List Tm) (r:Nat):(B1 ts r).all Fo=true:=by
 unfold B1;rw [List.all_append,EN,Bool.true_and]
 induction r with
 | zero=>rfl
 | succ r ih=>rw [Mt,List.all_cons,List.all_cons,List.all_cons,ih];rfl
theorem Jz (s:Nat) (ts:List Tm) (r:Nat):(B1 ts r).any (B6 s)=false:=by
 unfold B1;rw [List.any_append,De,Bool.false_or]
 induction r with
 | zero=>rfl
 | succ r ih=>rw [Mt,List.any_cons,List.any_cons,List.any_cons,ih];rfl
theorem AfZ {s d:Nat} {ts:List Tm} {ro:Bool} {own:List (Nat×Blk)} {ext:List Blk} (hl:Ap s own=some (.row (B1 ts 0) ro)) (hn:ts.length≤100) (lg:List Ref) (e:Option (IV×Hp))
  (k:FV→List (Ref×Blk)→List Ref→Option (IV×Hp)):EJ (d+2) (.slc (.own s) 3 ts.length) ⟨own,ext⟩ lg e k=k (.sl (ts.map Tm.enc)) [(.own s,.row (B1 ts 0) true)] (.own s::lg):=by
 have hlen:(B1 ts 0).length=3 * ts.length:=by simp [B1,Mt,MG]
 show (CV (.own s) ⟨own,ext⟩ fun b=>DU b fun cells=>cond (Nat.ble cells.length 300) (cond (or (Nat.beq 3 0) (not (Nat.ble (ts.length * 3) cells.length))) none
  (CU (EJ (d+1)) cells ⟨own,ext⟩ (.own s::lg) e fun cs u lg=>chK 3 ts.length cs fun els=>k (.sl els) ((.own s,.row cells true)::u) lg)) e)=_
 rw [K6,Br,hl];simp only [Option.bind_some,Ja];rw [hlen,Bb,decide_eq_true (by omega),c_t,Bb,decide_eq_true (by omega)];simp only [Bool.not_true]
 show (CU (EJ (d+1)) (B1 ts 0) ⟨own,ext⟩ (.own s::lg) e fun cs u lg=>chK 3 ts.length cs fun els=>k (.sl els) ((.own s,.row (B1 ts 0) true)::u) lg)=_
 rw [show B1 ts 0=(Dq ts).map .fv by simp [B1,Mt],Ps,Amz]
theorem AlE {s:Nat} {ts:List Tm} {ro:Bool} {a b:FV} {own:List (Nat×Blk)} {ext:List Blk} (hl:Ap s own=some (.row (B1 ts 0) ro)) (hn:ts.length≤100) (lg:List Ref) (e:Option (IV×Hp))
  (k:FV→List (Ref×Blk)→List Ref→Option (IV×Hp)):EJ 12 (.agg [.fv a,.fv b,.slc (.own s) 3 ts.length]) ⟨own,ext⟩ lg e k=k (.agg [a,b,.sl (ts.map Tm.enc)]) [(.own s,.row (B1 ts 0) true)] (.own s::lg):=by
 rw [Aje,show Nat.ble [IV.fv a,.fv b,.slc (.own s) 3 ts.length].length 300=true from rfl,c_t,fl1,K4,fl1,K4,fl1,AfZ (d:=9) hl hn,fl0]
 rfl
theorem G8 {β:Type} (o p:Int) (l:List FV) (r:List FV) (k:IV→Option β):Bf 3 (.fv (.sl (.agg [.int .i64 o,.int .i64 p,.sl l]::r))) (iv 0) k=k (.fv (.fp [.int .i64 o,.int .i64 p,.sl l] 0)):=by
 have h:(.agg [.int .i64 o,.int .i64 p,.sl l]::r:List FV)[0]?=some (.agg [.int .i64 o,.int .i64 p,.sl l]):=rfl
 have:=BN (β:=β) h (Bt _ _ _) k
 rw [Cy] at this;exact this
theorem Hj {β:Type} (a:FV) (o p:Int) (l:List FV) (r:List FV) (k:IV→Option β):Bf 3 (.fv (.sl (a :: .agg [.int .i64 o,.int .i64 p,.sl l]::r))) (iv 1) k=k (.fv (.fp [.int .i64 o,.int .i64 p,.sl l] 0)):=by
 have h:(a :: .agg [.int .i64 o,.int .i64 p,.sl l]::r:List FV)[1]?=some (.agg [.int .i64 o,.int .i64 p,.sl l]):=rfl
 have:=BN (β:=β) h (Bt _ _ _) k
 rw [Cy] at this;exact this
theorem Lp {β:Type} (a b:FV) (o p:Int) (l:List FV) (r:List FV) (k:IV→Option β):Bf 3 (.fv (.sl (a::b :: .agg [.int .i64 o,.int .i64 p,.sl l]::r))) (iv 2) k=k (.fv (.fp [.int .i64 o,.int .i64 p,.sl l] 0)):=by
 have h:(a::b :: .agg [.int .i64 o,.int .i64 p,.sl l]::r:List FV)[2]?=some (.agg [.int .i64 o,.int .i64 p,.sl l]):=rfl
 have:=BN (β:=β) h (Bt _ _ _) k
 rw [Cy] at this;exact this
theorem Ahy (w:FV) (own:List (Nat×Blk)):Ac0 (some (.fv w,⟨own,[]⟩)) w:=⟨_,own,rfl,AhX w own⟩
theorem AkO {ks:List Bool} {ih:Aa} {f:FuncId} {args:List IV} {vs:List FV} {w:FV} {u:List (Ref×Blk)} {lg:List Ref} {own own':List (Nat×Blk)}
  (hz:∀(e:Option (IV×Hp)) (k:List IV→List Ref→List (Ref×Blk)→List Ref→Option (IV×Hp)),Sp args ks ⟨own,[]⟩ [] e k=k (vs.map .fv) [] u lg)
  (hr:Ac0 (ih f (vs.map .fv) ⟨[],[]⟩) w) (hlay:∀k:Hp→Option (IV×Hp),KS u ⟨own,[]⟩ k=k ⟨own',[]⟩) (k:IV→Hp→List Ref→List Ref→Option (IV×Hp)) :
  Ak ks false false ih f args ⟨own,[]⟩ k=k (.fv w) ⟨own',[]⟩ lg (Bk u):=by
 rw [Je,hz,AmA hr,hlay]
theorem AnL {g:FuncId} (h:EE.pol.inl g=false) (h1:EE.pol.keep g=[]) (h2:EE.pol.split g=false) (h3:EE.pol.raw g=false) (caps:List FV) (ih:Aa) (xs:List IV) (h0:Hp) (k:IV→Hp→List Ref→List Ref→Option (IV×Hp)) :
  Fh EE ih (.fv (.func (.func g) [] caps)) xs h0 k=Ak [] false false ih g (xs++caps.map .fv) h0 k:=by
 unfold Fh;simp only [callee,h,cond_false,Aeu,h1,h2,h3,Ark,List.nil_append]
theorem Ala (fn:Fn) (r:Ref) (o:Nat):CM fn [] [.ptr r o]=.func fn [] [.ptr r o]:=rfl
theorem Ams {d s:Nat} {cs:List FV} {ro:Bool} {own:List (Nat×Blk)} {ext:List Blk} (hl:Ap s own=some (.row (cs.map .fv) ro)) (hn:cs.length≤300) (lg:List Ref) (e:Option (IV×Hp)) (k:FV→List (Ref×Blk)→List Ref→Option (IV×Hp)) :
  EJ (d+2) (.ptr (.own s) 0) ⟨own,ext⟩ lg e k=k (.fp cs 0) [(.own s,.row (cs.map .fv) true)] (.own s::lg):=by
 show (CV (.own s) ⟨own,ext⟩ fun b=>DU b fun cells=>cond (Nat.ble cells.length 300) (CU (EJ (d+1)) cells ⟨own,ext⟩ (.own s::lg) e fun cs u lg=>k (.fp cs 0) ((.own s,.row cells true)::u) lg) e)=_
 rw [K6,Br,hl];simp only [Option.bind_some,Ja,List.length_map];rw [Bb,decide_eq_true hn,c_t,Ps]
theorem AiB {s1:Nat} {c1:List FV} {r1:Bool} {fn:Fn} {own:List (Nat×Blk)} {ext:List Blk} (h1:Ap s1 own=some (.row (c1.map .fv) r1)) (n1:c1.length≤300)
  (lg:List Ref) (e:Option (IV×Hp)) (k:FV→List (Ref×Blk)→List Ref→Option (IV×Hp)) :
  EJ 12 (.func fn [] [.ptr (.own s1) 0]) ⟨own,ext⟩ lg e k=k (.func fn [] [.fp c1 0]) [(.own s1,.row (c1.map .fv) true)] (.own s1::lg):=by
 show (CU (EJ 11) [] ⟨own,ext⟩ lg e fun x u lg=>CU (EJ 11) [.ptr (.own s1) 0] ⟨own,ext⟩ lg e fun y v lg=>Oi u v fun w=>k (.func fn x y) w lg)=_
 rw [fl0,fl1,Ams (d:=9) h1 n1,fl0];rfl
theorem Akc {ih:Aa} {f:FuncId} {x w:FV} {a:IV} {fn:Fn} {s1:Nat} {c1:List FV} {r1:Bool} {own own':List (Nat×Blk)} (hr:Ac0 (ih f [.fv x,.fv (.func fn [] [.fp c1 0])] ⟨[],[]⟩) w) (ha:A4 a=some x)
  (h1:Ap s1 own=some (.row (c1.map .fv) r1)) (n1:c1.length≤300) (ho:AM s1 (.row (c1.map .fv) true) own=own') (k:IV→Hp→List Ref→List Ref→Option (IV×Hp)) :
  Ak [] false false ih f [a,.func fn [] [.ptr (.own s1) 0]] ⟨own,[]⟩ k=k (.fv w) ⟨own',[]⟩ [.own s1] [.own s1]:=by
 subst ho;refine AkO (vs:=[x,.func fn [] [.fp c1 0]]) (u:=[(.own s1,.row (c1.map .fv) true)]) (lg:=[.own s1]) ?_ hr ?_ k
 ·intro e k;rw [fz1,Kw _ _ e _ ha,fz1,AiB h1 n1,fz0];rfl
 ·intro k
  show (Ga own s1 fun _=>A0 own s1 (.row (c1.map .fv) true) fun own=>k ⟨own,_⟩)=_
  rw [Br,h1,Option.bind_some,BO]
theorem Al7 {g:FuncId} (h:EE.pol.inl g=false) (h1:EE.pol.keep g=[]) (h2:EE.pol.split g=false) (h3:EE.pol.raw g=false) (p:FV) (ih:Aa) (xs:List IV) (h0:Hp) (k:IV→Hp→List Ref→List Ref→Option (IV×Hp)) :
  Fh EE ih (.fv (.func (.func g) [p] [])) xs h0 k=Ak [] false false ih g (.fv p::xs) h0 k:=by
 unfold Fh;simp only [callee,h,cond_false,Aeu,h1,h2,h3,Ark,Arl,List.append_nil,List.cons_append,List.nil_append]
theorem Anu (fn:Fn) (p:FV):CM fn [.fv p] []=.fv (.func fn [p] []):=rfl
def okP (op:Int):Bool:=(decide (op=1) || (decide (op=15) || (decide (op=16) || decide (op=17)))) || (decide (20≤op) && decide (op≤29))
mutual
def Tm.plainP:Tm→Bool
 | .mk op _ l=>okP op && Tm.plainPL l
def Tm.plainPL:List Tm→Bool
 | []=>true
 | t::l=>t.plainP && Tm.plainPL l
end
abbrev pF:FV:=.agg [.int .i64 20,.int .i64 29]
abbrev Qj:FV:=.func (.func 42) [pF] []
abbrev OS:FV:=.func (.func 74) [] [.fp [Qj] 0]
theorem Ak4 (ih:Aa) (xs:List IV) (h0:Hp) (k:IV→Hp→List Ref→List Ref→Option (IV×Hp)):Fh EE ih (.fv (.func (.func 42) [.agg [.int .i64 20,.int .i64 29]] [])) xs h0 k=Ak [] false false ih 42 (.fv pF::xs) h0 k :=
 Al7 (by kernel_rfl) (by kernel_rfl) (by kernel_rfl) (by kernel_rfl) ..
theorem YC (ih:Aa) (xs:List IV) (h0:Hp) (k:IV→Hp→List Ref→List Ref→Option (IV×Hp)):Fh EE ih (.fv OS) xs h0 k=Ak [] false false ih 74 (xs++[.fv (.fp [Qj] 0)]) h0 k :=
 AnL (by kernel_rfl) (by kernel_rfl) (by kernel_rfl) (by kernel_rfl) _ ..
theorem Aho {n:Nat} (t:Tm) (b:Bool) (h:BZ (SS dt n 42 [.fv pF,.fv t.enc] ⟨[],[]⟩) (.bool b)):BZ (SS dt (n+1) 74 [.fv t.enc,.fv (.fp [Qj] 0)] ⟨[],[]⟩) (.bool (!b)):=by
 rw [c74];obtain ⟨o,p,l⟩:=t;rw [Am] at h ⊢;simp only [S74,↓XX,XY,↓reduceIte,Nat.reduceBEq,Nat.reduceAdd,Int.reduceEq,Int.reduceLT,Int.reduceLE,↓Ak4,↓Ag h];exact Ao _ _
theorem Acj {n:Nat} (ks:List Tm) (hl:ks.length≤900000) (hn:ks.length<n) (h:∀t∈ks,BZ (SS dt n 74 [.fv t.enc,.fv (.fp [Qj] 0)] ⟨[],[]⟩) (.bool (!t.plainP))) :
  ∃j:Int,BZ (SS dt (n+1) 104 [.fv (.sl (ks.map Tm.enc)),.fv OS] ⟨[],[]⟩) (.int .i64 j)∧(decide (0≤j)=!Tm.plainPL ks):=by
 rw [Aop];simp only [Jj,J9,Sw,↓XX,XY,↓reduceIte,Nat.reduceBEq,Nat.reduceAdd,Int.reduceEq,Int.reduceLT,Int.reduceLE];refine A7 (Q:=fun r=>∃j:Int,BZ r (.int .i64 j)∧(decide (0≤j)=!Tm.plainPL ks)) (fun k V H=>∃(pre rest:List Tm),ks=pre++rest∧rest.length=k∧Tm.plainPL rest=Tm.plainPL ks ∧
   V=[.fv (.sl (ks.map Tm.enc)),.fv OS,iv ks.length,iv pre.length]∧H=⟨[],[]⟩)
  ?_ n ks.length _ _ (by omega) ⟨[],ks,rfl,rfl,rfl,rfl,rfl⟩
 rintro k V H rec ⟨pre,rest,hks,hkl,hr,rfl,rfl⟩ hrec;have hkk:ks.length=pre.length+rest.length:=by rw [hks];simp
 cases rest with
 | nil =>
  have hno:¬ ((pre.length:Int)<ks.length):=by rw [hkk];simp
  refine ⟨-1,?_,by rw [← hr];rfl⟩;simp only [Jj,J9,LP,Sw,↓XX,XY,↓reduceIte,Nat.reduceBEq,Nat.reduceAdd,Int.reduceEq,Int.reduceLT,Int.reduceLE,hno];exact Ao _ _
 | cons x rest =>
  have hi:(pre.length:Int)<ks.length:=by rw [hkk];simp;omega
  have hg2:=Cv hks;have hs:=h x (by rw [hks];simp);have hwi:BM ((pre.length:Int)+1)=((pre++[x]).length:Int):=(As (by omega) (by omega)).trans (by simp);rw [Tm.plainPL] at hr;have h9:=fun e=>hrec rest.length [.fv (.sl (ks.map Tm.enc)),.fv OS,iv ks.length,iv (pre++[x]).length] _ (by simp only [Arj] at hkl;omega) ⟨pre++[x],rest,by rw [hks];simp,rfl,e,rfl,rfl⟩;generalize x.plainP=b at hs hr;cases b
  ·rw [Bool.false_and] at hr;refine ⟨pre.length,?_,by rw [← hr];simp⟩;obtain ⟨o,p,l⟩:=x;rw [Am] at hs;simp only [Jj,J9,LP,Sw,↓XX,XY,↓reduceIte,Nat.reduceBEq,Nat.reduceAdd,Int.reduceEq,Int.reduceLT,Int.reduceLE,hi,↓BN (AY hg2) (Bt _ _ _),↓Cy,↓YC,List.cons_append,List.nil_append,↓Ag hs];exact Ao _ _
  ·rw [Bool.true_and] at hr;have h9:=h9 hr;obtain ⟨o,p,l⟩:=x;rw [Am] at hs;simp only [Jj,J9,LP,Sw,↓XX,XY,↓reduceIte,Nat.reduceBEq,Nat.reduceAdd,Int.reduceEq,Int.reduceLT,Int.reduceLE,hi,↓BN (AY hg2) (Bt _ _ _),↓Cy,↓YC,List.cons_append,List.nil_append,↓Ag hs,hwi];exact h9
theorem Ajk:∀(n:Nat) (t:Tm),4 * t.wt+4<n→t.wt≤900000→BZ (SS dt n 42 [.fv pF,.fv t.enc] ⟨[],[]⟩) (.bool t.plainP):=by
 intro n
 induction n using Nat.strongRecOn with
 | ind n ih =>
  intro t hn hw;obtain ⟨op,m,ks⟩:=t;simp only [Tm.wt] at hn hw;obtain ⟨n,rfl⟩:∃k,n=k+1+1+1+1:=⟨n - 4,by omega⟩;have hlen:=Fg ks;rw [c42,Am,Tm.plainP];obtain ⟨j,hj,hjb⟩:=Acj (n:=n+1) ks (by omega) (by omega) (fun t ht=>Aho t _ (ih n (by omega) t (by have:=DD ht;omega) (by have:=DD ht;omega)));have hc:BZ (SS dt (n+1+1+1) 73 [.fv (.sl (ks.map Tm.enc)),.fv OS] ⟨[],[]⟩) (.bool (!Tm.plainPL ks)):=by
   rw [c73,← hjb];simp only [S73,↓XX,XY,↓reduceIte,Nat.reduceBEq,Nat.reduceAdd,Int.reduceEq,Int.reduceLT,Int.reduceLE,↓Ag hj];exact Ao _ _
  have hcf:Ac0 (SS dt (n+1+1+1) 73 [.fv (.sl (ks.map Tm.enc)),.fv OS] ⟨[],[]⟩) (.bool (!Tm.plainPL ks)):=by
   rw [c73,← hjb];simp only [S73,↓XX,XY,↓reduceIte,Nat.reduceBEq,Nat.reduceAdd,Int.reduceEq,Int.reduceLT,Int.reduceLE,↓Ag hj];exact Ahy _ _
  cases ho:okP op
  ·rw [Bool.false_and];simp only [okP,Bool.or_eq_false_iff,Bool.and_eq_false_iff,decide_eq_false_iff_not] at ho;obtain ⟨⟨h1,h2,h3,h4⟩,h5⟩:=ho;by_cases h6:op<20
   ·simp only [Mw,NU,Mc,Mq,MA,Mp,Nd,S42,↓XX,XY,↓reduceIte,Nat.reduceBEq,Nat.reduceAdd,Int.reduceEq,Int.reduceLT,Int.reduceLE,h1,h2,h3,h4,h6];exact Ao _ _
   ·have h7:29<op:=by omega
    simp only [Mw,NU,Mc,Mq,MA,Mp,Nd,S42,↓XX,XY,↓reduceIte,Nat.reduceBEq,Nat.reduceAdd,Int.reduceEq,Int.reduceLT,Int.reduceLE,h1,h2,h3,h4,h6,h7];exact Ao _ _
  ·rw [Bool.true_and];simp only [okP,Bool.or_eq_true,Bool.and_eq_true,decide_eq_true_eq] at ho;have hrest:BZ (NU ⟨[(44040192,.row [iv 20,iv 29] false),(44040193,.row [iv op,iv m,.fv (.sl (ks.map Tm.enc))] false)],[]⟩ (.ptr (.own 44040192) 0) (.ptr (.own 44040193) 0) (SS dt (n+1+1+1))) (.bool (Tm.plainPL ks)):=by
    simp only [Mw,NU,Mc,Mq,MA,Mp,Nd,S42,↓XX,XY,↓reduceIte,Nat.reduceBEq,Nat.reduceAdd,Int.reduceEq,Int.reduceLT,Int.reduceLE,Anu,Ala];rw [Akc hcf rfl (by rfl) (by simp) rfl];simp only [↓XX,XY,↓reduceIte,Nat.reduceBEq,Nat.reduceAdd,Int.reduceEq,Int.reduceLT,Int.reduceLE,Bool.not_not];exact Ao _ _
   by_cases h1:op=1
   ·simp only [↓UU4,↓XX,XY,↓reduceIte,Nat.reduceBEq,Nat.reduceAdd,Int.reduceEq,Int.reduceLT,Int.reduceLE,h1];rw [h1] at hrest;exact hrest
   by_cases h2:op=15
   ·simp only [↓UU4,↓XX,XY,↓reduceIte,Nat.reduceBEq,Nat.reduceAdd,Int.reduceEq,Int.reduceLT,Int.reduceLE,h2];rw [h2] at hrest;exact hrest
   by_cases h3:op=16
   ·simp only [↓UU4,↓XX,XY,↓reduceIte,Nat.reduceBEq,Nat.reduceAdd,Int.reduceEq,Int.reduceLT,Int.reduceLE,h3];rw [h3] at hrest;exact hrest
   by_cases h4:op=17
   ·simp only [↓UU4,↓XX,XY,↓reduceIte,Nat.reduceBEq,Nat.reduceAdd,Int.reduceEq,Int.reduceLT,Int.reduceLE,h4];rw [h4] at hrest;exact hrest
   have h5:¬ op<20:=by omega
   have h6:¬ 29<op:=by omega
   simp only [↓UU4,↓XX,XY,↓reduceIte,Nat.reduceBEq,Nat.reduceAdd,Int.reduceEq,Int.reduceLT,Int.reduceLE,h1,h2,h3,h4,h5,h6];exact hrest
theorem Abw {n:Nat} (t:Tm) (hn:4 * t.wt+5<n) (hw:t.wt≤900000):BZ (SS dt n 18 [.fv t.enc] ⟨[],[]⟩) (.bool t.plainP):=by
 obtain ⟨n,rfl⟩:∃k,n=k+1:=⟨n - 1,by omega⟩;rw [c18];have h:=Ajk n t (by omega) hw;obtain ⟨o,p,l⟩:=t;rw [Am] at h ⊢;simp only [S18,↓XX,XY,↓reduceIte,Nat.reduceBEq,Nat.reduceAdd,Int.reduceEq,Int.reduceLT,Int.reduceLE,↓Ag h];exact Ao _ _
inductive RV where
 | mk (op n:Int) (k env:List RV) (b:Tm)
def Tm.z:Tm:=.mk 0 0 []
def RV.enc:RV→FV
 | .mk op n k env (.mk bo bn bk)=>.fp [.int .i64 op,.int .i64 n,.sl (encL k),.sl (encL env),.int .i64 bo,.int .i64 bn,.sl (bk.map Tm.enc)] 0
where
 encL:List RV→List FV
  | []=>[]
  | v::l=>v.enc::encL l
theorem AdN (l:List RV):RV.enc.encL l=l.map RV.enc:=by
 induction l with
 | nil=>rfl
 | cons t l ih=>simp [RV.enc.encL,ih]
theorem IG (op n:Int) (k env:List RV) (bo bn:Int) (bk:List Tm):(RV.mk op n k env (.mk bo bn bk)).enc =
  .fp [.int .i64 op,.int .i64 n,.sl (k.map RV.enc),.sl (env.map RV.enc),.int .i64 bo,.int .i64 bn,.sl (bk.map Tm.enc)] 0:=by simp only [RV.enc,AdN]
def RV.op:RV→Int
 | .mk op _ _ _ _=>op
def RV.n:RV→Int
 | .mk _ n _ _ _=>n
def RV.k:RV→List RV
 | .mk _ _ k _ _=>k
def RV.env:RV→List RV
 | .mk _ _ _ env _=>env
def RV.b:RV→Tm
 | .mk _ _ _ _ b=>b
def RV.var (n:Int):RV:=.mk 1 n [] [] .z
def RV.clo (env:List RV) (b:Tm):RV:=.mk 0 0 [] env b
def RV.zero:RV:=.mk 11 0 [] [] .z
def RV.node (op n:Int) (k:List RV):RV:=.mk op n k [] .z
theorem L6 (v:RV):v.enc=.fp [.int .i64 v.op,.int .i64 v.n,.sl (v.k.map RV.enc),.sl (v.env.map RV.enc),.int .i64 v.b.op,.int .i64 v.b.n,.sl (v.b.kids.map Tm.enc)] 0:=by
 obtain ⟨op,n,k,env,⟨bo,bn,bk⟩⟩:=v;exact IG ..
theorem Vh (t:Tm):Tm.enc t=.agg [.int .i64 t.op,.int .i64 t.n,.sl (t.kids.map Tm.enc)]:=by cases t;exact Am ..
theorem ND (v:RV):v.enc.cells.length=1:=by obtain ⟨op,n,k,env,⟨bo,bn,bk⟩⟩:=v;rfl
theorem SK (v:RV):v.enc.cells.all FV.one=true:=by obtain ⟨op,n,k,env,⟨bo,bn,bk⟩⟩:=v;rfl
theorem Acd (v:RV):v.enc.cells=[v.enc]:=by obtain ⟨op,n,k,env,⟨bo,bn,bk⟩⟩:=v;rfl
theorem tVs:EE.T 114=some ⟨1,24,.slice 84,[.nils]⟩:=by kernel_rfl
theorem tVp:EE.T 84=some ⟨1,8,.ptr,[.fv .nilp]⟩:=by kernel_rfl
theorem sV:SliceT EE 114 1:=⟨_,_,_,_,_,tVs,tVp,rfl,by decide,by decide⟩
theorem IU (l:List RV):Bv 1 (l.map RV.enc)=true:=by
 cases l with
 | nil=>rfl
 | cons a l=>simp only [Arl,Bv,ND,beq_self_eq_true]
theorem Aik (s:Nat) (h:Hp) (k:IV→Hp→List Ref→List Ref→Option (IV×Hp)):Aw (Af EE 114 0 []) s h k=k (.clip []) h [] [] :=
 Ci tVs tVp (by decide) (cells:=[]) rfl k
theorem TD (a:RV) (s:Nat) (h:Hp) (k:IV→Hp→List Ref→List Ref→Option (IV×Hp)):Aw (Af EE 114 1 [(0,.fv a.enc)]) s h k=k (.clip [a.enc]) h [] []:=by
 obtain ⟨op,n,kk,env,⟨bo,bn,bk⟩⟩:=a;rw [IG];exact Ci tVs tVp (by decide) (cells:=[.fp [.int .i64 op,.int .i64 n,.sl (kk.map RV.enc),.sl (env.map RV.enc),.int .i64 bo,.int .i64 bn,.sl (bk.map Tm.enc)] 0]) rfl k
theorem AmN (a b:RV) (s:Nat) (h:Hp) (k:IV→Hp→List Ref→List Ref→Option (IV×Hp)):Aw (Af EE 114 2 [(0,.fv a.enc),(1,.fv b.enc)]) s h k=k (.clip [a.enc,b.enc]) h [] []:=by
 obtain ⟨op,n,kk,env,⟨bo,bn,bk⟩⟩:=a;obtain ⟨op',n',kk',env',⟨bo',bn',bk'⟩⟩:=b;rw [IG,IG];exact Ci tVs tVp (by decide) (cells:=[.fp [.int .i64 op,.int .i64 n,.sl (kk.map RV.enc),.sl (env.map RV.enc),.int .i64 bo,.int .i64 bn,.sl (bk.map Tm.enc)] 0,.fp [.int .i64 op',.int .i64 n',.sl (kk'.map RV.enc),.sl (env'.map RV.enc),.int .i64 bo',.int .i64 bn',.sl (bk'.map Tm.enc)] 0]) rfl k
theorem Anr (a b c d:RV) (s:Nat) (h:Hp) (k:IV→Hp→List Ref→List Ref→Option (IV×Hp)):Aw (Af EE 114 4 [(0,.fv a.enc),(1,.fv b.enc),(2,.fv c.enc),(3,.fv d.enc)]) s h k =
  k (.clip [a.enc,b.enc,c.enc,d.enc]) h [] []:=by
 have key:∀x:RV,∃l,x.enc=.fp l 0:=fun x=>⟨_,L6 x⟩;obtain ⟨la,ha⟩:=key a;obtain ⟨lb,hb⟩:=key b;obtain ⟨lc,hc⟩:=key c;obtain ⟨ld,hd⟩:=key d;rw [ha,hb,hc,hd];exact Ci tVs tVp (by decide) (cells:=[.fp la 0,.fp lb 0,.fp lc 0,.fp ld 0]) rfl k
theorem Ad8 (e:RV) (s:Nat) (own:List (Nat×Blk)) (ext:List Blk) (k:IV→Hp→List Ref→List Ref→Option (IV×Hp)) :
  Aw (AS EE s false .append [114,114] [.nils,.clip [e.enc]]) s ⟨own,ext⟩ k=Cu own s (A0 own s (.tok 1 1) fun own=>k (.app (.own s) [e.enc]) ⟨own,ext⟩ [] [.own s]) :=
 K1 sV (.clip _) (IU [e]) rfl (by simp) (.inl rfl) s own ext k
theorem U3 {es:List RV} (hb:es.length+1≤1000000) (e:RV) (r s:Nat) (own:List (Nat×Blk)) (ext:List Blk) (k:IV→Hp→List Ref→List Ref→Option (IV×Hp)) :
  Aw (AS EE s false .append [114,114] [.app (.own r) (es.map RV.enc),.clip [e.enc]]) s ⟨own,ext⟩ k =
   Ga own r fun b=>AdM b es.length 1 (A0 own r (.tok (es.length+1) 1) fun own=>k (.app (.own r) ((es++[e]).map RV.enc)) ⟨own,ext⟩ [.own r] [.own r]):=by
 rw [Tn sV (.clip [e.enc]) (IU [e]) (IU es) (by simp [SK]) (by simpa using hb) r s own ext k];simp only [List.length_map,List.map_append,Arl,Ark,Arj,List.length_nil,Nat.zero_add]
theorem Qf {n:Nat} (hn:0<n) (env vs:List RV) (hv:vs≠[]) (hb:env.length+vs.length≤1000000):BZ (SS dt n 87 [.fv (.sl (env.map RV.enc)),.fv (.sl (vs.map RV.enc))] ⟨[],[]⟩) (.sl ((env++vs).map RV.enc)):=by
 obtain ⟨n,rfl⟩:∃k,n=k+1:=⟨n - 1,by omega⟩;rw [c87];have hvs:(vs.map RV.enc).isEmpty=false:=by cases vs with
  | nil=>exact absurd rfl hv
  | cons _ _=>rfl
 cases env with
 | nil =>
  simp only [S87,↓XX,XY,↓reduceIte,Nat.reduceBEq,Nat.reduceAdd,Int.reduceEq,Int.reduceLT,Int.reduceLE,↓Aik,↓Ail sV (.sl []) (.inr rfl),↓K1 sV (.sl (vs.map RV.enc)) (IU vs) hvs (by simp;simp at hb;omega) (.inr rfl),List.nil_append];exact Be rfl _
 | cons a env =>
  simp only [S87,↓XX,XY,↓reduceIte,Nat.reduceBEq,Nat.reduceAdd,Int.reduceEq,Int.reduceLT,Int.reduceLE,↓Aik];have h1:((a::env).map RV.enc).isEmpty=false:=rfl;have h0:=fun {β:Type}=>K1 (β:=β) sV (.sl ((a::env).map RV.enc)) (IU (a::env)) h1 (by simp only [List.length_map];omega) (.inr rfl:IV.clip []=.nils∨IV.clip []=.clip []);have h2:=fun {β:Type}=>Tn (β:=β) sV (.sl (vs.map RV.enc)) (IU vs) (IU (a::env)) (by simp [SK]) (by simp only [List.length_map];omega);simp only [Arl] at h0 h2;simp only [↓XX,XY,↓reduceIte,Nat.reduceBEq,Nat.reduceAdd,Int.reduceEq,Int.reduceLT,Int.reduceLE,↓h0,↓h2,↓Hc,List.map_append,List.cons_append];exact Be rfl _
theorem Ael {n:Nat} (hn:0<n) (s nd:Int) (h1:s≤1000000) (h0:0≤s):Bd (SS dt n 108 [.ptr (.ext 0) 0] ⟨[],[.row [iv s,iv nd,iv 0] false]⟩) (.bool (decide (s+1≤1000)))
  [.row [iv (s+1),iv nd,iv (if s+1≤1000 then 0 else 17)] false]:=by
 obtain ⟨n,rfl⟩:∃k,n=k+1:=⟨n - 1,by omega⟩;rw [An4];have hw:BM (s+1)=s+1:=by rw [As]<;>omega
 by_cases h:s+1≤1000
 ·have h':¬ 1000<s+1:=by omega
  simp only [RJ,Pt,RB,Rz,AbS,↓XX,XY,↓reduceIte,Nat.reduceBEq,Nat.reduceAdd,Int.reduceEq,Int.reduceLT,Int.reduceLE,hw,h,h'];exact AB _ _ _
 ·have h':1000<s+1:=by omega
  simp only [RJ,Pt,RB,Rz,AbS,↓XX,XY,↓reduceIte,Nat.reduceBEq,Nat.reduceAdd,Int.reduceEq,Int.reduceLT,Int.reduceLE,hw,h,h'];exact AB _ _ _
def AO (ev:Int→Int→Tm→Option (RV×Int×Int)) (op:Int) (env:List RV):Nat→List Tm→Int→Int→Option (List RV×Int×Int)
 | _,[],s,e=>some ([],s,e)
 | i,t::l,s,e=>if 0<Ah op i then (AO ev op env (i+1) l s e).map fun (vs,s,e)=>(.clo env t::vs,s,e) else
  match ev s e t with
  | none=>none
  | some (v,s,e)=>(AO ev op env (i+1) l s e).map fun (vs,s,e)=>(v::vs,s,e)
mutual
def Av:Nat→Int→Int→Tm→List RV→Option (RV×Int×Int)
 | 0,_,_,_,_=>none
 | f+1,s,e,.mk op m ks,env =>
  if e≠0 then some (.zero,s,e) else if 900000<env.length then none else
  if op=1 then
   if m<env.length then (if 0≤m then (env[(env.length - 1 - m).toNat]?).map fun v=>(v,s,e) else none)
   else if m≤4611686018427387904 then some (.var (env.length - 1 - m),s,e) else none
  else if f≤ks.length then none else if 900000<ks.length then none else
  match AO (fun s e t=>Av f s e t env) op env 0 ks s e with
  | none=>none
  | some (vs,s,e)=>headR f s e (.node op m vs)
def headR:Nat→Int→Int→RV→Option (RV×Int×Int)
 | 0,_,_,_=>none
 | f+1,s,e,v =>
  if e≠0 then some (v,s,e) else if s<0∨1000000<s then none else
  if v.op=5 then (match v.k[0]? with
   | none=>none
   | some k0=>if k0.op=4 then
     (if s+1≤1000 then (match k0.k[1]?,v.k[1]? with
      | some c,some x=>if 900000<c.env.length then none else Av f (s+1) 0 c.b (c.env++[x])
      | _,_=>none) else some (v,s+1,17))
    else some (v,s,e))
  else if v.op=8∨v.op=9 then (match v.k[0]? with
   | none=>none
   | some k0=>if k0.op=7 then
     (if s+1≤1000 then (k0.k[(1+v.op - 8).toNat]?).map fun x=>(x,s+1,0) else some (v,s+1,17))
    else some (v,s,e))
  else if v.op=30 then (match v.k[0]? with
   | none=>none
   | some k0=>if k0.op=19 then
     (if s+1≤1000 then (k0.k[0]?).map fun x=>(x,s+1,0) else some (v,s+1,17))
    else some (v,s,e))
  else if v.op=19 then (match v.k[0]? with
   | none=>none
   | some k0=>if k0.op=30 then
     (if s+1≤1000 then (k0.k[0]?).map fun x=>(x,s+1,0) else some (v,s+1,17))
    else some (v,s,e))
  else if v.op=13 then (match v.k[0]?,v.k[1]?,v.k[2]?,v.k[3]? with
   | some k0,some k1,some k2,some k3 =>
    if k3.op=11 then (if s+1≤1000 then some (k1,s+1,0) else some (v,s+1,17))
    else if k3.op=12 then
     (if s+1≤1000 then (match k3.k[0]? with
      | none=>none
      | some x=>(match headR f (s+1) 0 (.node 13 0 [k0,k1,k2,x]) with
       | none=>none
       | some (h,s,e)=>if 900000<k2.env.length then none else Av f s e k2.b (k2.env++[x,h])))
     else some (v,s+1,17))
    else some (v,s,e)
   | _,_,_,_=>none)
  else some (v,s,e)
end
theorem U8 {β:Type} {l:List RV} {i:Nat} {v:RV} (h:l[i]?=some v) (k:IV→Option β):Bf 1 (.fv (.sl (l.map RV.enc))) (iv i) k=k (.fv (.fp [v.enc] 0)):=by
 have h1:(l.map RV.enc)[i]?=some v.enc:=by rw [List.getElem?_map,h];rfl
 rw [BN h1 (ND v),Acd]
def QF (f:Nat):Prop:=∀(s e:Int) (t:Tm) (env:List RV) (v:RV) (s' e' nd:Int),Av f s e t env=some (v,s',e')→∀n,f+1≤n →
 Bd (SS dt n 62 [.ptr (.ext 0) 0,.fv t.enc,.fv (.sl (env.map RV.enc))] ⟨[],[.row [iv s,iv nd,iv e] false]⟩) v.enc [.row [iv s',iv nd,iv e'] false]
def RM (f:Nat):Prop:=∀(s e:Int) (v w:RV) (s' e' nd:Int),headR f s e v=some (w,s',e')→∀n,f+1≤n →
 Bd (SS dt n 88 [.ptr (.ext 0) 0,.fv v.enc] ⟨[],[.row [iv s,iv nd,iv e] false]⟩) w.enc [.row [iv s',iv nd,iv e'] false]
abbrev Z2 (op m:Int) (ks:List Tm) (K:IV) (tok:List (Nat×Blk)) (s nd e:Int):Hp :=
 ⟨(65011712,.row [iv op,iv m,.fv (.sl (ks.map Tm.enc))] false)::(65018885,.row [iv op,iv m,K,.nils,iv 0,iv 0,.nils] false)::tok,[.row [iv s,iv nd,iv e] false]⟩
theorem Ani {op m:Int} (l:List RV):(RV.node op m l).enc=.fp [.int .i64 op,.int .i64 m,.sl (l.map RV.enc),.sl [],.int .i64 0,.int .i64 0,.sl []] 0:=by rw [RV.node,Tm.z,IG];rfl
theorem AbL {f:Nat} (he:QF f) (hh:RM f):QF (f+1):=by
 intro s e t env v s' e' nd hev n hn;obtain ⟨n,rfl⟩:∃k,n=k+1:=⟨n - 1,by omega⟩;rw [c62];obtain ⟨op,m,ks⟩:=t;rw [Am];rw [Av] at hev;by_cases h0:e≠0
 ·rw [if_pos h0] at hev;simp only [Arf,Arg] at hev;obtain ⟨rfl,rfl,rfl⟩:=hev;simp only [H3,Iv,HS,HF,HL,IA,IE,H7,HB,H5,Ib,It,H1,HU,HZ,HY,Ii,H9,H6,Iq,H0,HV,S62,↓XX,XY,↓reduceIte,Nat.reduceBEq,Nat.reduceAdd,Int.reduceEq,Int.reduceLT,Int.reduceLE,h0];exact ⟨_,_,rfl,_,_,fun _ _=>rfl⟩
 ·have h0':e=0:=by omega
  subst h0';rw [if_neg h0] at hev;by_cases hlen:900000<env.length
  ·rw [if_pos hlen] at hev;cases hev
  ·rw [if_neg hlen] at hev;by_cases h1:op=1
   ·rw [if_pos h1] at hev;subst h1;by_cases h2:m<env.length
    ·rw [if_pos h2] at hev;by_cases h3:0≤m
     ·rw [if_pos h3] at hev;cases hg:env[(env.length - 1 - m).toNat]? with
      | none=>rw [hg] at hev;cases hev
      | some u =>
       rw [hg] at hev;simp only [Ari,Arf,Arg] at hev;obtain ⟨rfl,rfl,rfl⟩:=hev;have e1:BM ((env.length:Int) - 1)=env.length - 1:=by rw [As]<;>omega
       have e2:BM ((env.length:Int) - 1 - m)=(((env.length:Int) - 1 - m).toNat:Int):=by rw [As]<;>omega
       simp only [H3,Iv,HS,HF,HL,IA,IE,H7,HB,H5,Ib,It,H1,HU,HZ,HY,Ii,H9,H6,Iq,H0,HV,S62,↓XX,XY,↓reduceIte,Nat.reduceBEq,Nat.reduceAdd,Int.reduceEq,Int.reduceLT,Int.reduceLE,h2,e1,e2,↓U8 hg];exact AB _ _ _
     ·rw [if_neg h3] at hev;cases hev
    ·rw [if_neg h2] at hev;by_cases h3:m≤4611686018427387904
     ·rw [if_pos h3] at hev;simp only [Arf,Arg] at hev;obtain ⟨rfl,rfl,rfl⟩:=hev;have e1:BM ((env.length:Int) - 1)=env.length - 1:=by rw [As]<;>omega
      have e2:BM ((env.length:Int) - 1 - m)=(env.length:Int) - 1 - m:=by rw [As]<;>omega
      simp only [H3,Iv,HS,HF,HL,IA,IE,H7,HB,H5,Ib,It,H1,HU,HZ,HY,Ii,H9,H6,Iq,H0,HV,S62,↓XX,XY,↓reduceIte,Nat.reduceBEq,Nat.reduceAdd,Int.reduceEq,Int.reduceLT,Int.reduceLE,h2,e1,e2];exact ⟨_,_,rfl,_,_,fun _ _=>rfl⟩
     ·rw [if_neg h3] at hev;cases hev
   ·rw [if_neg h1] at hev;by_cases hf:f≤ks.length
    ·rw [if_pos hf] at hev;cases hev
    ·rw [if_neg hf] at hev;by_cases hk9:900000<ks.length
     ·rw [if_pos hk9] at hev;cases hev
     ·rw [if_neg hk9] at hev;cases hkg:AO (fun s e t=>Av f s e t env) op env 0 ks s 0 with
      | none=>rw [hkg] at hev;cases hev
      | some q =>
      obtain ⟨vs,s1,e1⟩:=q;rw [hkg] at hev;simp only at hev;simp only [H3,Iv,HS,HF,HL,IA,IE,H7,HB,H5,Ib,It,H1,HU,HZ,HY,Ii,H9,H6,Iq,H0,HV,S62,↓XX,XY,↓reduceIte,Nat.reduceBEq,Nat.reduceAdd,Int.reduceEq,Int.reduceLT,Int.reduceLE,h1,↓AJ,XD,heldB,AQ,XE];refine A7 (Q:=fun r=>Bd r _ _) (fun k V H=>∃pre rest done s2 e2 us s3 e3,ks=pre++rest∧rest.length=k∧done.length=pre.length∧V=[.ptr (.ext 0) 0,.fv (.sl (env.map RV.enc)),.ptr (.own 65011712) 0,.ptr (.own 65018885) 0,iv pre.length] ∧
       (
        (pre=[]∧H=Z2 op m ks .nils [] s2 nd e2) ∨
        (∃r,(r=65024014∨r=65025038)∧pre≠[]∧H=Z2 op m ks (.app (.own r) (done.map RV.enc)) [(r,.tok done.length 1)] s2 nd e2)) ∧
       AO (fun s e t=>Av f s e t env) op env pre.length rest s2 e2=some (us,s3,e3)∧headR f s3 e3 (.node op m (done++us))=some (v,s',e'))
       ?_ n ks.length _ _ (by omega) ⟨[],ks,[],s,0,vs,s1,e1,rfl,rfl,rfl,rfl,.inl ⟨rfl,rfl⟩,hkg,hev⟩
      rintro k V H rec ⟨pre,rest,done,s2,e2,us,s3,e3,hk,hl,hdl,rfl,hH,hkids,hhead⟩ hrec;have hkl:ks.length=pre.length+rest.length:=by rw [hk];simp
      have zenc:∀l:List RV,(RV.node op m l).enc=.fp [.int .i64 op,.int .i64 m,.sl (l.map RV.enc),.sl [],.int .i64 0,.int .i64 0,.sl []] 0:=fun l=>Ani l;cases rest with
      | nil =>
       simp only [AO,Arf,Arg] at hkids;obtain ⟨rfl,rfl,rfl⟩:=hkids;rw [List.append_nil] at hhead;have hc:=hh s2 e2 _ v s' e' nd hhead n (by omega);rw [zenc] at hc;have hpre:ks=pre:=by simpa using hk
       subst hpre;rcases hH with ⟨rfl,rfl⟩ | ⟨r,hr,hne,rfl⟩
       ·have hd:done=[]:=List.length_eq_zero_iff.1 hdl;subst hd;have hcall:=fun k=>Pw (k:=k) (own:=[(65011712,.row [iv op,iv m,.fv (.sl (([]:List Tm).map Tm.enc))] false),(65018885,.row [iv op,iv m,.nils,.nils,iv 0,iv 0,.nils] false)])
         (cells:=[iv op,iv m,.nils,.nils,iv 0,iv 0,.nils]) (ro:=false) (s:=65018885) hc (Cd ..) (by simp [Ap]) rfl (by simp)
        simp only [↓UU8,↓XX,XY,↓reduceIte,Nat.reduceBEq,Nat.reduceAdd,Int.reduceEq,Int.reduceLT,Int.reduceLE,Int.lt_irrefl,↓hcall];exact AB _ _ _
       ·have hcall:=fun k=>Pw (k:=k) (own:=[(65011712,.row [iv op,iv m,.fv (.sl (ks.map Tm.enc))] false),(65018885,.row [iv op,iv m,.app (.own r) (done.map RV.enc),.nils,iv 0,iv 0,.nils] false),(r,.tok done.length 1)])
         (cells:=[iv op,iv m,.app (.own r) (done.map RV.enc),.nils,iv 0,iv 0,.nils]) (ro:=false) (s:=65018885) hc (Cd ..) (by simp [Ap]) rfl (by simp)
        simp only [↓UU8,↓XX,XY,↓reduceIte,Nat.reduceBEq,Nat.reduceAdd,Int.reduceEq,Int.reduceLT,Int.reduceLE,Int.lt_irrefl,↓hcall];exact AB _ _ _
      | cons t rest =>
       have hi:(pre.length:Int)<ks.length:=by rw [hkl];simp;omega
       have hg:=Cv hk;have hb:=Fs (n:=n) (by omega) op pre.length;have hwi:BM ((pre.length:Int)+1)=((pre++[t]).length:Int):=(As (by omega) (by omega)).trans (by simp);have hbi:(0<(Ah op pre.length:Int)) ↔ 0<Ah op pre.length:=by omega
       have hd9:done.length+1≤1000000:=by omega
       simp only [AO] at hkids;simp only [Arj] at hl;by_cases hbp:0<Ah op pre.length
       ·rw [if_pos hbp] at hkids;cases hkk:AO (fun s e t=>Av f s e t env) op env (pre.length+1) rest s2 e2 with
        | none=>rw [hkk] at hkids;cases hkids
        | some q =>
        obtain ⟨us',s4,e4⟩:=q;rw [hkk] at hkids;simp only [Ari,Arf,Arg] at hkids;obtain ⟨rfl,rfl,rfl⟩:=hkids;have hbp':0<(Ah op pre.length:Int):=by omega
        have hce:(RV.clo env t).enc=.fp [.int .i64 0,.int .i64 0,.sl [],.sl (env.map RV.enc),.int .i64 t.op,.int .i64 t.n,.sl (t.kids.map Tm.enc)] 0:=by rw [L6];rfl
        have hnext:∀tk,(tk=65024014∨tk=65025038)→Bd (rec [.ptr (.ext 0) 0,.fv (.sl (env.map RV.enc)),.ptr (.own 65011712) 0,.ptr (.own 65018885) 0,iv (pre++[t]).length]
          (Z2 op m ks (.app (.own tk) ((done++[RV.clo env t]).map RV.enc)) [(tk,.tok (done++[RV.clo env t]).length 1)] s2 nd e2)) v.enc [.row [iv s',iv nd,iv e'] false]:=fun tk htk =>
         hrec rest.length _ _ (by omega) ⟨pre++[t],rest,done++[.clo env t],s2,e2,us',s4,e4,by rw [hk];simp,rfl,by simp [hdl],rfl,.inr ⟨tk,htk,by simp,rfl⟩,by simpa using hkk,by simpa using hhead⟩
        obtain ⟨o,p,l⟩:=t;simp only [Tm.op,Tm.n,Tm.kids] at hce;have ha0:=fun {s own ext k}=>Ad8 (RV.clo env (.mk o p l)) s own ext k;have ha1:=fun {r s own ext k}=>U3 hd9 (RV.clo env (.mk o p l)) r s own ext k;rw [hce] at ha0 ha1;have hbs:=fun (tl:List (Nat×Blk)) (K:IV) (own:List (Nat×Blk)) (hown:own=(65011712,.row [iv op,iv m,.fv (.sl (ks.map Tm.enc))] false)::(65018885,.row [iv op,iv m,K,.nils,iv 0,iv 0,.nils] false)::tl) (hl:Ap 65024012 own=some (.row [iv 0,iv 0,.nils,.fv (.sl (env.map RV.enc)),iv o,iv p,.fv (.sl (l.map Tm.enc))] false)) (own':List (Nat×Blk)) (ho) s ext (k:IV→Hp→List Ref→List Ref→Option (IV×Hp)) =>
         AnM (E:=EE) (own:=own) (own':=own') tVs tVp rfl ⟨_,rfl⟩ hl (fc:=[.int .i64 0,.int .i64 0,.sl [],.sl (env.map RV.enc),.int .i64 o,.int .i64 p,.sl (l.map Tm.enc)]) rfl (by simp) ho s ext k
        rcases hH with ⟨hp0,rfl⟩ | ⟨r,hr,hne,rfl⟩
        ·have hd0:done=[]:=List.length_eq_zero_iff.1 (by rw [hdl,hp0];rfl);subst hd0;have h9:=hnext _ (.inl rfl);simp only [List.nil_append,Arl,Ark,Arj,List.length_nil] at h9;rw [hce] at h9;have hb0:=fun s ext k=>hbs [(65024012,.row [iv 0,iv 0,.nils,.fv (.sl (env.map RV.enc)),iv o,iv p,.fv (.sl (l.map Tm.enc))] false)] .nils _ rfl (by simp [Ap])
          [(65011712,.row [iv op,iv m,.fv (.sl (ks.map Tm.enc))] false),(65018885,.row [iv op,iv m,.nils,.nils,iv 0,iv 0,.nils] false),(65024012,.row [iv 0,iv 0,.nils,.fv (.sl (env.map RV.enc)),iv o,iv p,.fv (.sl (l.map Tm.enc))] true)] (by simp [AM]) s ext k
         simp only [↓UU8,↓XX,XY,↓reduceIte,Nat.reduceBEq,Nat.reduceAdd,Int.reduceEq,Int.reduceLT,Int.reduceLE,hi,↓BN (AY hg) (Bt _ _ _),↓Cy,↓Ag hb,hbp',hwi,↓hb0,↓ha0,↓AJ,XD,heldB,AQ,XE];exact h9
        ·have h9:=hnext r hr;rw [show (done++[RV.clo env (Tm.mk o p l)]).length=done.length+1 by simp] at h9
         simp only [List.map_append,Arl,Ark] at h9;rw [hce] at h9;simp only [List.map_append,Arl,Ark] at ha1;rw [hce] at ha1;have hb0:=fun s ext k=>hbs [(r,.tok done.length 1),(65024012,.row [iv 0,iv 0,.nils,.fv (.sl (env.map RV.enc)),iv o,iv p,.fv (.sl (l.map Tm.enc))] false)] (.app (.own r) (done.map RV.enc)) _ rfl (by rcases hr with rfl | rfl<;>simp [Ap])
          [(65011712,.row [iv op,iv m,.fv (.sl (ks.map Tm.enc))] false),(65018885,.row [iv op,iv m,.app (.own r) (done.map RV.enc),.nils,iv 0,iv 0,.nils] false),(r,.tok done.length 1),(65024012,.row [iv 0,iv 0,.nils,.fv (.sl (env.map RV.enc)),iv o,iv p,.fv (.sl (l.map Tm.enc))] true)]
          (by rcases hr with rfl | rfl<;>simp [AM]) s ext k
         rcases hr with rfl | rfl
         ·simp only [↓UU8,↓XX,XY,↓reduceIte,Nat.reduceBEq,Nat.reduceAdd,Int.reduceEq,Int.reduceLT,Int.reduceLE,hi,↓BN (AY hg) (Bt _ _ _),↓Cy,↓Ag hb,hbp',hwi,↓hb0,↓ha1,↓Hc,↓AJ,XD,heldB,AQ,XE];exact h9
         ·simp only [↓UU8,↓XX,XY,↓reduceIte,Nat.reduceBEq,Nat.reduceAdd,Int.reduceEq,Int.reduceLT,Int.reduceLE,hi,↓BN (AY hg) (Bt _ _ _),↓Cy,↓Ag hb,hbp',hwi,↓hb0,↓ha1,↓Hc,↓AJ,XD,heldB,AQ,XE];exact h9
       ·rw [if_neg hbp] at hkids;have hbp':¬ 0<(Ah op pre.length:Int):=by omega
        cases hev1:Av f s2 e2 t env with
        | none=>rw [hev1] at hkids;cases hkids
        | some q =>
        obtain ⟨v1,s4,e4⟩:=q;rw [hev1] at hkids;simp only at hkids;cases hkk:AO (fun s e t=>Av f s e t env) op env (pre.length+1) rest s4 e4 with
        | none=>rw [hkk] at hkids;cases hkids
        | some q =>
        obtain ⟨us',s5,e5⟩:=q;rw [hkk] at hkids;simp only [Ari,Arf,Arg] at hkids;obtain ⟨rfl,rfl,rfl⟩:=hkids;have hc:=he s2 e2 t env v1 s4 e4 nd hev1 n (by omega);have hnext:∀tk,(tk=65024014∨tk=65025038)→Bd (rec [.ptr (.ext 0) 0,.fv (.sl (env.map RV.enc)),.ptr (.own 65011712) 0,.ptr (.own 65018885) 0,iv (pre++[t]).length]
          (Z2 op m ks (.app (.own tk) ((done++[v1]).map RV.enc)) [(tk,.tok (done++[v1]).length 1)] s4 nd e4)) v.enc [.row [iv s',iv nd,iv e'] false]:=fun tk htk =>
         hrec rest.length _ _ (by omega) ⟨pre++[t],rest,done++[v1],s4,e4,us',s5,e5,by rw [hk];simp,rfl,by simp [hdl],rfl,.inr ⟨tk,htk,by simp,rfl⟩,by simpa using hkk,by simpa using hhead⟩
        obtain ⟨o,p,l⟩:=t;rw [Am] at hc;rcases hH with ⟨hp0,rfl⟩ | ⟨r,hr,hne,rfl⟩
        ·have hd0:done=[]:=List.length_eq_zero_iff.1 (by rw [hdl,hp0];rfl);subst hd0;have h9:=hnext _ (.inr rfl);simp only [List.nil_append,Arl,Ark,Arj,List.length_nil] at h9;simp only [↓UU8,↓XX,XY,↓reduceIte,Nat.reduceBEq,Nat.reduceAdd,Int.reduceEq,Int.reduceLT,Int.reduceLE,hi,↓BN (AY hg) (Bt _ _ _),↓Cy,↓Ag hb,hbp',hwi,↓IX hc (Cd _ _ _ _ _ _),↓TD,↓Ad8,↓AJ,XD,heldB,AQ,XE];exact h9
        ·have h9:=hnext r hr;rw [show (done++[v1]).length=done.length+1 by simp] at h9
         rcases hr with rfl | rfl
         ·simp only [↓UU8,↓XX,XY,↓reduceIte,Nat.reduceBEq,Nat.reduceAdd,Int.reduceEq,Int.reduceLT,Int.reduceLE,hi,↓BN (AY hg) (Bt _ _ _),↓Cy,↓Ag hb,hbp',hwi,↓IX hc (Cd _ _ _ _ _ _),↓TD,↓U3 hd9,↓Hc,↓AJ,XD,heldB,AQ,XE];exact h9
         ·simp only [↓UU8,↓XX,XY,↓reduceIte,Nat.reduceBEq,Nat.reduceAdd,Int.reduceEq,Int.reduceLT,Int.reduceLE,hi,↓BN (AY hg) (Bt _ _ _),↓Cy,↓Ag hb,hbp',hwi,↓IX hc (Cd _ _ _ _ _ _),↓TD,↓U3 hd9,↓Hc,↓AJ,XD,heldB,AQ,XE];exact h9
end Idl
end Go.Proofs.Ytkfecngimlcfoaa

/-
  Texts of a proof, part 10: an ideal semantics of the program, its functions in shallow form, contracts of them. No statement of the seat is proved here.
-/
import Derived.KernelRfl
import Derived.Test.YtkfecngimlcfoaaStageAllK9
set_option linter.all false
set_option maxRecDepth 20000
set_option maxHeartbeats 16000000
noncomputable section
namespace Go.Proofs.Ytkfecngimlcfoaa
namespace Idl
theorem Aj8 {f:Nat} {G:Aj->Nat->Hp->Option (IV×Hp)} (e:dt.call f=fun ih n=>PD (G ih n)) (n:Nat) (h:Hp):SS dt (n+1) f [] h=G (SS dt n) n  h:=by
 show dt.call f (SS dt n) n _ h=_
 rw [e];rfl
theorem B5 {f:Nat} {G:Aj->Nat->IV->Hp->Option (IV×Hp)} (e:dt.call f=fun ih n=>Mq (G ih n)) (n:Nat) (a0:IV) (h:Hp):SS dt (n+1) f [a0] h=G (SS dt n) n a0 h:=by
 show dt.call f (SS dt n) n _ h=_
 rw [e];rfl
theorem Be {f:Nat} {G:Aj->Nat->IV->IV->Hp->Option (IV×Hp)} (e:dt.call f=fun ih n=>G9 (G ih n)) (n:Nat) (a0 a1:IV) (h:Hp):SS dt (n+1) f [a0,a1] h=G (SS dt n) n a0 a1 h:=by
 show dt.call f (SS dt n) n _ h=_
 rw [e];rfl
theorem Fg {f:Nat} {G:Aj->Nat->IV->IV->IV->Hp->Option (IV×Hp)} (e:dt.call f=fun ih n=>ar3 (G ih n)) (n:Nat) (a0 a1 a2:IV) (h:Hp):SS dt (n+1) f [a0,a1,a2] h=G (SS dt n) n a0 a1 a2 h:=by
 show dt.call f (SS dt n) n _ h=_
 rw [e];rfl
theorem DM {f:Nat} {G:Aj->Nat->IV->IV->IV->IV->Hp->Option (IV×Hp)} (e:dt.call f=fun ih n=>V6 (G ih n)) (n:Nat) (a0 a1 a2 a3:IV) (h:Hp):SS dt (n+1) f [a0,a1,a2,a3] h=G (SS dt n) n a0 a1 a2 a3 h:=by
 show dt.call f (SS dt n) n _ h=_
 rw [e];rfl
def c3:=@Be 3 S3 (by kernel_rfl)
def c12:=@B5 12 S12 (by kernel_rfl)
def c13:=@DM 13 S13 (by kernel_rfl)
def c14:=@B5 14 S14 (by kernel_rfl)
def c15:=@B5 15 S15 (by kernel_rfl)
def c16:=@B5 16 S16 (by kernel_rfl)
def c17:=@Be 17 S17 (by kernel_rfl)
def c18:=@B5 18 S18 (by kernel_rfl)
def c19:=@Be 19 S19 (by kernel_rfl)
def c20:=@Fg 20 S20 (by kernel_rfl)
def c24:=@Be 24 S24 (by kernel_rfl)
def c25:=@B5 25 S25 (by kernel_rfl)
def c26:=@B5 26 S26 (by kernel_rfl)
def c27:=@B5 27 S27 (by kernel_rfl)
def c28:=@Be 28 S28 (by kernel_rfl)
def c29:=@B5 29 S29 (by kernel_rfl)
def c33:=@DM 33 S33 (by kernel_rfl)
def c34:=@B5 34 S34 (by kernel_rfl)
def c35:=@B5 35 S35 (by kernel_rfl)
def c36:=@Be 36 S36 (by kernel_rfl)
def c37:=@B5 37 S37 (by kernel_rfl)
def c38:=@Fg 38 S38 (by kernel_rfl)
def c39:=@DM 39 S39 (by kernel_rfl)
def c40:=@B5 40 S40 (by kernel_rfl)
def c41:=@B5 41 S41 (by kernel_rfl)
def c42:=@Be 42 S42 (by kernel_rfl)
def c43:=@Be 43 S43 (by kernel_rfl)
def c45:=@Fg 45 S45 (by kernel_rfl)
def c46:=@Be 46 S46 (by kernel_rfl)
def c47:=@B5 47 S47 (by kernel_rfl)
def c48:=@DM 48 S48 (by kernel_rfl)
def c49:=@DM 49 S49 (by kernel_rfl)
def c52:=@B5 52 S52 (by kernel_rfl)
def c54:=@Be 54 S54 (by kernel_rfl)
def c55:=@Be 55 S55 (by kernel_rfl)
def c56:=@Be 56 S56 (by kernel_rfl)
def c58:=@DM 58 S58 (by kernel_rfl)
def c59:=@DM 59 S59 (by kernel_rfl)
def c60:=@Fg 60 S60 (by kernel_rfl)
def c61:=@DM 61 S61 (by kernel_rfl)
def c62:=@Fg 62 S62 (by kernel_rfl)
def c63:=@Fg 63 S63 (by kernel_rfl)
def c64:=@Aj8 64 S64 (by kernel_rfl)
def c65:=@DM 65 S65 (by kernel_rfl)
def c66:=@DM 66 S66 (by kernel_rfl)
def c67:=@Fg 67 S67 (by kernel_rfl)
def c68:=@Fg 68 S68 (by kernel_rfl)
def c69:=@B5 69 S69 (by kernel_rfl)
def c70:=@Aj8 70 S70 (by kernel_rfl)
def c71:=@Fg 71 S71 (by kernel_rfl)
def c72:=@DM 72 S72 (by kernel_rfl)
def c73:=@Be 73 S73 (by kernel_rfl)
def c74:=@Be 74 S74 (by kernel_rfl)
def c75:=@Fg 75 S75 (by kernel_rfl)
def c76:=@Be 76 S76 (by kernel_rfl)
def c77:=@Be 77 S77 (by kernel_rfl)
def c78:=@Fg 78 S78 (by kernel_rfl)
def c79:=@Fg 79 S79 (by kernel_rfl)
def c80:=@DM 80 S80 (by kernel_rfl)
def c81:=@Be 81 S81 (by kernel_rfl)
def c82:=@Be 82 S82 (by kernel_rfl)
def c86:=@B5 86 S86 (by kernel_rfl)
def c87:=@Be 87 S87 (by kernel_rfl)
def c88:=@Be 88 S88 (by kernel_rfl)
def c89:=@Be 89 S89 (by kernel_rfl)
def c90:=@DM 90 S90 (by kernel_rfl)
def c91:=@B5 91 S91 (by kernel_rfl)
def c92:=@Be 92 S92 (by kernel_rfl)
def c93:=@B5 93 S93 (by kernel_rfl)
def c94:=@Be 94 S94 (by kernel_rfl)
def c95:=@Be 95 S95 (by kernel_rfl)
def c96:=@Be 96 S96 (by kernel_rfl)
def c97:=@Be 97 S97 (by kernel_rfl)
def c98:=@Be 98 S98 (by kernel_rfl)
def c99:=@B5 99 S99 (by kernel_rfl)
def AyG:=@Be 100 Ahv (by kernel_rfl)
def Azb:=@Be 101 AoI (by kernel_rfl)
def Ay5:=@Be 102 S102 (by kernel_rfl)
def Azc:=@DM 103 AqF (by kernel_rfl)
def AzC:=@Be 104 Ww (by kernel_rfl)
def Aym:=@B5 105 AmZ (by kernel_rfl)
def Ay6:=@Be 107 UX (by kernel_rfl)
def Ay1:=@B5 108 AiL (by kernel_rfl)
def Azo:=@Be 109 Aju (by kernel_rfl)
def Ayu:=@Be 110 S110 (by kernel_rfl)
def AyR:=@Be 111 Ait (by kernel_rfl)
theorem and8 {a b c d e f g h i:Prop}(p:a)(q:b)(r:c)(s:d)(t:e)(u:f)(v:g)(w:h)(x:i):a/\b/\c/\d/\e/\f/\g/\h/\i:=⟨p,q,r,s,t,u,v,w,x⟩
def UU1:=and8 @AjC.eq_1 @Amb.eq_1 @Ak6.eq_1 @Ajg.eq_1 @Aji.eq_1 @Ajf.eq_1 @Ajl.eq_1 @Akm.eq_1<|and8 @AkA.eq_1 @AjH.eq_1 @Aly.eq_1 @Amy.eq_1 @AjM.eq_1 @AjN.eq_1 @Ajs.eq_1 @Ajr.eq_1<| @S3.eq_1
def UU2:=ABY @OE.eq_1<|ABY @O9.eq_1<|ABY @OO.eq_1<|ABY @OV.eq_1<|ABY @OC.eq_1<|ABY @O6.eq_1<|@S42.eq_1
def UU3:=and8 @Jh.eq_1 @IS.eq_1 @Jw.eq_1 @I7.eq_1 @Jv.eq_1 @I4.eq_1 @I1.eq_1 @IF.eq_1<|and8 @I5.eq_1 @ID.eq_1 @IN.eq_1 @IQ.eq_1 @JC.eq_1 @IK.eq_1 @Jb.eq_1 @IU.eq_1<| @S90.eq_1
def UU4:=ABY @AmH.eq_1<|ABY @Akw.eq_1<|ABY @Alc.eq_1<|ABY @AlB.eq_1<|ABY @Ala.eq_1<|@S54.eq_1
def UU5:=ABY @Akb.eq_1<|ABY @AlC.eq_1<|ABY @Akd.eq_1<|ABY @Als.eq_1<|ABY @Amn.eq_1<|ABY @AlF.eq_1<|@S93.eq_1
def UU6:=ABY @KC.eq_1<|ABY @LM.eq_1<|ABY @KE.eq_1<|ABY @LI.eq_1<|ABY @Lp.eq_1<|ABY @KA.eq_1<|ABY @Le.eq_1<|@S69.eq_1
def UU7:=and8 @D0.eq_1 @Dw.eq_1 @D7.eq_1 @Ds.eq_1 @D6.eq_1 @DJ.eq_1 @CP.eq_1 @D9.eq_1<|and8 @DW.eq_1 @DR.eq_1 @DI.eq_1 @D1.eq_1 @Eb.eq_1 @D8.eq_1 @Du.eq_1 @D5.eq_1<|and8 @DB.eq_1 @Ec.eq_1 @DE.eq_1 @DX.eq_1 @D3.eq_1 @Dy.eq_1 @DL.eq_1 @DU.eq_1<|ABY @Dv.eq_1<|ABY @Fu.eq_1<|ABY @Dt.eq_1<|ABY @DY.eq_1<|ABY @DO.eq_1<|ABY @DK.eq_1<|ABY @Dx.eq_1<|@S72.eq_1
def UU8:=ABY @Aas.eq_1<|ABY @Aey.eq_1<|ABY @Ag7.eq_1<|ABY @ZM.eq_1<|ABY @AgS.eq_1<|@S110.eq_1
def UU9:=and8 @M2.eq_1 @M6.eq_1 @Ni.eq_1 @Ny.eq_1 @MS.eq_1 @M1.eq_1 @MU.eq_1 @Nq.eq_1<|ABY @AfP.eq_1<|ABY @Nd.eq_1<|ABY @M7.eq_1<|ABY @Nn.eq_1<|ABY @Nf.eq_1<|ABY @Na.eq_1<|ABY @MZ.eq_1<|@S71.eq_1
def W2:=and8 @U1.eq_1 @U2.eq_1 @U8.eq_1 @Vl.eq_1 @Vn.eq_1 @VO.eq_1 @Vk.eq_1 @Uy.eq_1<|ABY @VL.eq_1<|ABY @Vg.eq_1<|ABY @VS.eq_1<|ABY @Vj.eq_1<|@S102.eq_1
def AkK:=and8 @EZ.eq_1 @ED.eq_1 @E7.eq_1 @ES.eq_1 @E6.eq_1 @EW.eq_1 @Hz.eq_1 @EX.eq_1<|and8 @ER.eq_1 @E8.eq_1 @EO.eq_1 @EN.eq_1 @EG.eq_1 @E0.eq_1 @EJ.eq_1 @EL.eq_1<|and8 @EF.eq_1 @E3.eq_1 @EK.eq_1 @EU.eq_1 @EQ.eq_1 @Fa.eq_1 @EH.eq_1 @EP.eq_1<|ABY @EM.eq_1<|ABY @E9.eq_1<|ABY @E5.eq_1<|ABY @ET.eq_1<|ABY @EY.eq_1<|@S61.eq_1
def Gj:=and8 @Ac4.eq_1 @YW.eq_1 @Af3.eq_1 @Aav.eq_1 @Agt.eq_1 @Ad6.eq_1 @Acy.eq_1 @Agv.eq_1<|and8 @Yy.eq_1 @Aec.eq_1 @Ahm.eq_1 @Ahd.eq_1 @AaG.eq_1 @YZ.eq_1 @Zr.eq_1 @Aco.eq_1<|and8 @Abv.eq_1 @Aac.eq_1 @Ahi.eq_1 @Afg.eq_1 @Aex.eq_1 @Acj.eq_1 @Aeh.eq_1 @AfW.eq_1<|and8 @Acf.eq_1 @YI.eq_1 @YV.eq_1 @Ya.eq_1 @AbC.eq_1 @Age.eq_1 @Aa8.eq_1 @AcK.eq_1<|and8 @AdB.eq_1 @AeU.eq_1 @Ag6.eq_1 @Agw.eq_1 @Aed.eq_1 @AfM.eq_1 @AcV.eq_1 @Af8.eq_1<|and8 @Ack.eq_1 @Abf.eq_1 @Yu.eq_1 @Aa9.eq_1 @AeA.eq_1 @Ag9.eq_1 @ZR.eq_1 @AfK.eq_1<|ABY @YP.eq_1<|ABY @AfO.eq_1<|@S88.eq_1
def Vm:=and8 @Ji.eq_1 @Je.eq_1 @I9.eq_1 @Jk.eq_1 @I2.eq_1 @JA.eq_1 @Jt.eq_1 @IZ.eq_1<|and8 @Jl.eq_1 @Jn.eq_1 @Jr.eq_1 @IW.eq_1 @II.eq_1 @IH.eq_1 @Jy.eq_1 @Ja.eq_1<|ABY @IJ.eq_1<|ABY @IM.eq_1<|ABY @IR.eq_1<|ABY @Afm.eq_1<|ABY @Ju.eq_1<|ABY @JH.eq_1<|ABY @Jz.eq_1<|@S62.eq_1
def AkV:=and8 @Kx.eq_1 @KH.eq_1 @KB.eq_1 @Lv.eq_1 @Lu.eq_1 @LA.eq_1 @Lh.eq_1 @LC.eq_1<|ABY @LH.eq_1<|ABY @LB.eq_1<|ABY @KW.eq_1<|ABY @Lo.eq_1<|ABY @Lc.eq_1<|ABY @KO.eq_1<|@S63.eq_1
def Ws:=and8 @QM.eq_1 @Q4.eq_1 @Sl.eq_1 @AfC.eq_1 @Se.eq_1 @RG.eq_1 @Sk.eq_1 @SL.eq_1<|ABY @RE.eq_1<|ABY @R4.eq_1<|ABY @Su.eq_1<|@S68.eq_1
def AlM:=ABY @Alj.eq_1<|ABY @Amu.eq_1<|ABY @Akq.eq_1<|ABY @AjY.eq_1<|ABY @AiM.eq_1<|@S89.eq_1
def Ai3:=ABY @Alk.eq_1<|ABY @Al9.eq_1<|ABY @Al4.eq_1<|ABY @AmC.eq_1<|ABY @AjB.eq_1<|@S92.eq_1
def Ahy:=and8 @Adt.eq_1 @Aay.eq_1 @Agu.eq_1 @Acq.eq_1 @Adz.eq_1 @AgX.eq_1 @Aal.eq_1 @AaP.eq_1<|and8 @AeL.eq_1 @Acv.eq_1 @AbV.eq_1 @Aev.eq_1 @AaR.eq_1 @AcC.eq_1 @Ae6.eq_1 @AeI.eq_1<| @S13.eq_1
def UK:=and8 @WP.eq_1 @Wi.eq_1 @WB.eq_1 @Wx.eq_1 @Xw.eq_1 @WC.eq_1 @XJ.eq_1 @XL.eq_1<|ABY @Wj.eq_1<|ABY @Amj.eq_1<|@S37.eq_1
def Kr:=and8 @X9.eq_1 @AbD.eq_1 @Aaz.eq_1 @AdE.eq_1 @Abi.eq_1 @Aaf.eq_1 @Ab1.eq_1 @Yd.eq_1<|and8 @Ado.eq_1 @AgL.eq_1 @Aff.eq_1 @Za.eq_1 @Y3.eq_1 @AgC.eq_1 @AaM.eq_1 @ZU.eq_1<|and8 @Ag3.eq_1 @AeJ.eq_1 @Abm.eq_1 @AbP.eq_1 @Ad1.eq_1 @Yx.eq_1 @Agc.eq_1 @Zh.eq_1<|and8 @Y5.eq_1 @AeY.eq_1 @Adq.eq_1 @Ad2.eq_1 @YB.eq_1 @AfI.eq_1 @Aar.eq_1 @AcO.eq_1<|and8 @Z9.eq_1 @Zx.eq_1 @Aa5.eq_1 @Z5.eq_1 @Z4.eq_1 @AfL.eq_1 @Aef.eq_1 @X6.eq_1<|ABY @Z6.eq_1<|@S39.eq_1
def OQ:=and8 @Adw.eq_1 @Y7.eq_1 @Afq.eq_1 @AaO.eq_1 @YH.eq_1 @Yc.eq_1 @Aaw.eq_1 @Aba.eq_1<|and8 @Yq.eq_1 @AcF.eq_1 @YR.eq_1 @ZS.eq_1 @Abt.eq_1 @Adr.eq_1 @Afe.eq_1 @YM.eq_1<|and8 @AeR.eq_1 @Afu.eq_1 @Agf.eq_1 @Zg.eq_1 @Ad3.eq_1 @AdD.eq_1 @ZF.eq_1 @ZC.eq_1<|and8 @Aaj.eq_1 @Aga.eq_1 @Zk.eq_1 @Abq.eq_1 @Adj.eq_1 @AgF.eq_1 @Afy.eq_1 @AcL.eq_1<|and8 @AbM.eq_1 @Yh.eq_1 @AgT.eq_1 @Y9.eq_1 @Abh.eq_1 @Afc.eq_1 @Acr.eq_1 @Aam.eq_1<|ABY @Zn.eq_1<|ABY @Ab4.eq_1<|ABY @X4.eq_1<|ABY @AdK.eq_1<|@S33.eq_1
def VD:=and8 @AbU.eq_1 @Agm.eq_1 @Afn.eq_1 @AaU.eq_1 @ZK.eq_1 @AgH.eq_1 @AfG.eq_1 @X8.eq_1<|and8 @AaD.eq_1 @Aa6.eq_1 @Ahl.eq_1 @Abk.eq_1 @AcZ.eq_1 @Ago.eq_1 @Abx.eq_1 @AgG.eq_1<|and8 @Afp.eq_1 @Aat.eq_1 @AfT.eq_1 @Ace.eq_1 @Ac8.eq_1 @Afb.eq_1 @Zq.eq_1 @ZP.eq_1<|and8 @Zb.eq_1 @AdY.eq_1 @AbR.eq_1 @Aan.eq_1 @AcQ.eq_1 @AeZ.eq_1 @Aep.eq_1 @AbY.eq_1<|and8 @AbI.eq_1 @AeV.eq_1 @Ae2.eq_1 @Af1.eq_1 @Ab0.eq_1 @AfD.eq_1 @Yn.eq_1 @AbA.eq_1<|and8 @Yp.eq_1 @Af0.eq_1 @AbW.eq_1 @Ac3.eq_1 @Yt.eq_1 @AfR.eq_1 @Abz.eq_1 @AcP.eq_1<|and8 @AaE.eq_1 @Agg.eq_1 @Ada.eq_1 @Ad7.eq_1 @Ads.eq_1 @Zw.eq_1 @Ahc.eq_1 @Ag2.eq_1<| @S59.eq_1
def Kb:=and8 @Aes.eq_1 @Afv.eq_1 @Ady.eq_1 @Aah.eq_1 @AeQ.eq_1 @Abj.eq_1 @Ach.eq_1 @Acz.eq_1<|and8 @AeC.eq_1 @AgI.eq_1 @AbZ.eq_1 @ZD.eq_1 @Afx.eq_1 @Acc.eq_1 @AfB.eq_1 @AeB.eq_1<|and8 @Yr.eq_1 @X7.eq_1 @AdO.eq_1 @Ae9.eq_1 @YS.eq_1 @YX.eq_1 @AcS.eq_1 @ZW.eq_1<|and8 @AdZ.eq_1 @Af4.eq_1 @AfJ.eq_1 @AfH.eq_1 @AeE.eq_1 @Acx.eq_1 @AbB.eq_1 @AcT.eq_1<|and8 @Aau.eq_1 @AcE.eq_1 @Abb.eq_1 @Acs.eq_1 @X3.eq_1 @Ae8.eq_1 @Zu.eq_1 @Yw.eq_1<|and8 @Z7.eq_1 @AaC.eq_1 @ZO.eq_1 @ZA.eq_1 @Ae0.eq_1 @AcM.eq_1 @AbK.eq_1 @Adu.eq_1<|and8 @YE.eq_1 @Abs.eq_1 @Yj.eq_1 @Ae5.eq_1 @AgZ.eq_1 @AbL.eq_1 @Ahf.eq_1 @YA.eq_1<|ABY @AfX.eq_1<|ABY @ZQ.eq_1<|ABY @Aej.eq_1<|@S66.eq_1
def Kj:=and8 @Af7.eq_1 @X2.eq_1 @Adp.eq_1 @AgU.eq_1 @AeO.eq_1 @Aeu.eq_1 @AdF.eq_1 @Ag4.eq_1<|and8 @AfV.eq_1 @Abr.eq_1 @AeH.eq_1 @AbQ.eq_1 @Adi.eq_1 @AbG.eq_1 @AcD.eq_1 @Zp.eq_1<|and8 @Aa1.eq_1 @Zl.eq_1 @Acn.eq_1 @Ahh.eq_1 @AgA.eq_1 @Yg.eq_1 @Ab8.eq_1 @Abe.eq_1<|ABY @AeF.eq_1<|ABY @AbF.eq_1<|ABY @Aek.eq_1<|ABY @AdR.eq_1<|@S38.eq_1
def Py:=and8 @Rn.eq_1 @QY.eq_1 @TL.eq_1 @Rv.eq_1 @Q0.eq_1 @S9.eq_1 @Q6.eq_1 @RP.eq_1<|ABY @Sb.eq_1<|ABY @Ty.eq_1<|ABY @Sa.eq_1<|ABY @Rp.eq_1<|ABY @So.eq_1<|ABY @Rf.eq_1<|ABY @Ad4.eq_1<|@S58.eq_1
def J7:=and8 @Tv.eq_1 @R6.eq_1 @SQ.eq_1 @ST.eq_1 @S5.eq_1 @Q1.eq_1 @Rh.eq_1 @SR.eq_1<|and8 @To.eq_1 @Sd.eq_1 @TF.eq_1 @Re.eq_1 @QU.eq_1 @S0.eq_1 @TV.eq_1 @SB.eq_1<|and8 @SG.eq_1 @TP.eq_1 @RS.eq_1 @Ua.eq_1 @SE.eq_1 @Tg.eq_1 @Tb.eq_1 @S7.eq_1<|and8 @RD.eq_1 @Ss.eq_1 @Ub.eq_1 @TR.eq_1 @Sq.eq_1 @R5.eq_1 @QO.eq_1 @RZ.eq_1<|ABY @Js.eq_1<|ABY @SD.eq_1<|@S86.eq_1
def Fv:=and8 @Aa2.eq_1 @Ab7.eq_1 @Agx.eq_1 @AfS.eq_1 @AbJ.eq_1 @Ac0.eq_1 @Agi.eq_1 @AdX.eq_1<|and8 @AcW.eq_1 @AgN.eq_1 @Aew.eq_1 @Acu.eq_1 @Aa0.eq_1 @AeG.eq_1 @Ac5.eq_1 @AfN.eq_1<|and8 @Ahe.eq_1 @Af5.eq_1 @Adg.eq_1 @AaY.eq_1 @Adf.eq_1 @Afa.eq_1 @ZE.eq_1 @Acb.eq_1<|and8 @AgD.eq_1 @AbE.eq_1 @Abc.eq_1 @AbT.eq_1 @AfF.eq_1 @Ad5.eq_1 @Acw.eq_1 @Yi.eq_1<|and8 @Yb.eq_1 @Aee.eq_1 @Afz.eq_1 @Ag8.eq_1 @Ab9.eq_1 @Zf.eq_1 @Ac9.eq_1 @Afl.eq_1<|and8 @Aft.eq_1 @YL.eq_1 @Z0.eq_1 @ZI.eq_1 @AcH.eq_1 @Ael.eq_1 @Adc.eq_1 @Yk.eq_1<|and8 @AgJ.eq_1 @Ab2.eq_1 @Ahk.eq_1 @YY.eq_1 @Yf.eq_1 @Aag.eq_1 @Ab6.eq_1 @Adm.eq_1<|and8 @Adb.eq_1 @Abo.eq_1 @AbS.eq_1 @AaV.eq_1 @Aak.eq_1 @Zj.eq_1 @Acd.eq_1 @AaN.eq_1<|ABY @Ac1.eq_1<|ABY @AeX.eq_1<|ABY @Adl.eq_1<|ABY @AgE.eq_1<|ABY @ZG.eq_1<|@S43.eq_1
def Amc:=and8 @Ahj.eq_1 @Aeb.eq_1 @AcA.eq_1 @Aeg.eq_1 @AgO.eq_1 @Y6.eq_1 @AaB.eq_1 @Yv.eq_1<|and8 @Af6.eq_1 @AdS.eq_1 @AgW.eq_1 @Aa7.eq_1 @Abn.eq_1 @AfY.eq_1 @Yz.eq_1 @Z3.eq_1<|and8 @Yl.eq_1 @AdG.eq_1 @Ae4.eq_1 @AeK.eq_1 @Aaa.eq_1 @AeS.eq_1 @Aax.eq_1 @AfU.eq_1<|and8 @Ad9.eq_1 @YC.eq_1 @Agk.eq_1 @Abg.eq_1 @YQ.eq_1 @Aez.eq_1 @AdN.eq_1 @ZZ.eq_1<|and8 @Afo.eq_1 @AgK.eq_1 @AaQ.eq_1 @AdH.eq_1 @Aap.eq_1 @AgM.eq_1 @Afr.eq_1 @Afs.eq_1<|ABY @AgB.eq_1<|ABY @Z1.eq_1<|ABY @AeT.eq_1<|ABY @Agb.eq_1<|@S20.eq_1
def Amm:=and8 @Ae7.eq_1 @Afj.eq_1 @AcN.eq_1 @AcJ.eq_1 @AcX.eq_1 @AbN.eq_1 @X0.eq_1 @AaH.eq_1<|and8 @ZB.eq_1 @AaA.eq_1 @AeM.eq_1 @Y0.eq_1 @AaJ.eq_1 @AgV.eq_1 @Aem.eq_1 @YJ.eq_1<|and8 @Ac7.eq_1 @Zi.eq_1 @ZN.eq_1 @Abw.eq_1 @Afk.eq_1 @AgR.eq_1 @Agn.eq_1 @AcY.eq_1<|and8 @AaW.eq_1 @ZX.eq_1 @AdI.eq_1 @Agl.eq_1 @Zd.eq_1 @AaI.eq_1 @Y8.eq_1 @Agz.eq_1<| @S81.eq_1
def AhS:=and8 @AcI.eq_1 @Zm.eq_1 @AdL.eq_1 @Aao.eq_1 @Zy.eq_1 @AaT.eq_1 @Aaq.eq_1 @AeD.eq_1<|and8 @ZV.eq_1 @Agy.eq_1 @Aet.eq_1 @ZL.eq_1 @Aab.eq_1 @AfA.eq_1 @AdM.eq_1 @Aad.eq_1<|and8 @AaS.eq_1 @AcR.eq_1 @Zt.eq_1 @Ab5.eq_1 @Af9.eq_1 @Abu.eq_1 @Ag1.eq_1 @AgP.eq_1<|and8 @X5.eq_1 @Aca.eq_1 @AaL.eq_1 @AdV.eq_1 @Aen.eq_1 @Aeo.eq_1 @Ac6.eq_1 @Agr.eq_1<|ABY @Abl.eq_1<|ABY @Afd.eq_1<|ABY @Agq.eq_1<|ABY @AbH.eq_1<|ABY @AaK.eq_1<|ABY @Adv.eq_1<|ABY @AaX.eq_1<|@S46.eq_1
section
variable {β:Type} {E:Env} {t:TypeId}
abbrev iv (n:Int):IV:=.fv (.int .i64 n)
theorem Asj (c:Prop) [Decidable c] (a b:Option β):Ai (.fv (.bool (decide c))) a b=if c then a else b:=by
 by_cases h:c
 ·rw [decide_eq_true h,if_pos h];rfl
 ·rw [decide_eq_false h,if_neg h];rfl
theorem Ap0 (o:Nat) (r:Ref) (off:Nat) (k:IV->Option β):Ac o (.ptr r off) k=k (.ptr r (off+o)):=by
 show (Ek (off+o) fun o=>k (.ptr r o))=_
 rw [BQ]
theorem QF (o:Nat) (cs:List FV) (off:Nat) (k:IV->Option β):Ac o (.fv (.fp cs off)) k=k (.fv (.fp cs (off+o))):=by
 show (Ek (off+o) fun o=>k (.fv (.fp cs o)))=_
 rw [BQ]
theorem AuA {size:Nat} {es:List FV} {n:Nat} {el:FV} (he:es[n]?=some el) (hl:el.cells.length=size) (k:IV->Option β):AN size (.fv (.sl es)) (iv n) k=k (.fv (.fp el.cells 0)):=by
 show (DS es n fun el=>elK size el k)=_
 rw [De,he]
 show elK size el k=_
 rw [Ai9,if_pos hl]
theorem L9 {op:BinOp} {g:Nat->Nat->Bool} (hg:∀a b:Nat,FY E op t (iv a) (iv b)=some (.fv (.bool (g a b)))) (a b:Int) (k:IV->Option β) :
  Ud E t op g (iv a) (iv b) k=(FY E op t (iv a) (iv b)).bind k:=by
 cases a with
 | ofNat a =>
  cases b with
  | ofNat b =>
   show Ak9 (g a b) k=_
   rw [UV,show FY E op t (iv (Int.ofNat a)) (iv (Int.ofNat b))=some (.fv (.bool (g a b))) from hg a b]
   rfl
  | negSucc b =>
   show C5 E t op _ _ k=_
   rw [C5,CR]
 | negSucc a =>
  show C5 E t op _ _ k=_
  rw [C5,CR]
theorem Axf (a b:Int) (k:IV->Option β):AK E t (iv a) (iv b) k=k (.fv (.bool (decide (a=b)))):=by
 rw [AK,L9 (fun a b=>by
  show some (IV.fv (.bool ((a:Int) == (b:Int))))=_
  rw [JE];congr 3;exact decide_eq_decide.2 Int.ofNat_inj)]
 rfl
theorem AxE (a b:Int) (k:IV->Option β):Ch E t (iv a) (iv b) k=k (.fv (.bool (!decide (a=b)))):=by
 rw [Ch,L9 (fun a b=>by
  show some (IV.fv (.bool ((a:Int) != (b:Int))))=_
  rw [JE];congr 3
  show (!decide ((a:Int)=(b:Int)))=!decide (a=b)
  congr 1;exact decide_eq_decide.2 Int.ofNat_inj)]
 rfl
theorem AvI (a b:Int) (k:IV->Option β):Hu E t (iv a) (iv b) k=k (.fv (.bool (decide (a<b)))):=by
 rw [Hu,L9 (fun a b=>by
  show some (IV.fv (.bool (decide ((a:Int)<(b:Int)))))=_
  rw [Bl];congr 3;exact decide_eq_decide.2 (by omega))]
 rfl
theorem AwM (a b:Int) (k:IV->Option β):leS E t (iv a) (iv b) k=k (.fv (.bool (decide (a<=b)))):=by
 rw [leS,L9 (fun a b=>by
  show some (IV.fv (.bool (decide ((a:Int)<=(b:Int)))))=_
  rw [Bl];congr 3;exact decide_eq_decide.2 (by omega))]
 rfl
theorem Aw6 (b:Bool) (k:IV->Option β):CF (Kg .not (.fv (.bool b))) k=k (.fv (.bool !b)):=by
 rw [CR];rfl
end
end Idl
end Go.Proofs.Ytkfecngimlcfoaa
namespace Go.Proofs.Ytkfecngimlcfoaa
namespace Idl
section
variable {β:Type} {α:Type}
theorem n0 (a:α) (l:List α) (k:α->Option β):DS (a::l) 0 k=k a:=rfl
theorem n1 (a b:α) (l:List α) (k:α->Option β):DS (a::b::l) 1 k=k b:=rfl
theorem n2 (a b c:α) (l:List α) (k:α->Option β):DS (a::b::c::l) 2 k=k c:=rfl
theorem n3 (a b c d:α) (l:List α) (k:α->Option β):DS (a::b::c::d::l) 3 k=k d:=rfl
theorem n4 (a b c d e:α) (l:List α) (k:α->Option β):DS (a::b::c::d::e::l) 4 k=k e:=rfl
theorem n5 (a b c d e f:α) (l:List α) (k:α->Option β):DS (a::b::c::d::e::f::l) 5 k=k f:=rfl
theorem n6 (a b c d e f g:α) (l:List α) (k:α->Option β):DS (a::b::c::d::e::f::g::l) 6 k=k g:=rfl
theorem d0 (l:List α) (k:List α->Option β):FX l 0 k=k l:=by cases l<;>rfl
theorem d1 (a:α) (l:List α) (k:List α->Option β):FX (a::l) 1 k=k l:=by cases l<;>rfl
theorem d2 (a b:α) (l:List α) (k:List α->Option β):FX (a::b::l) 2 k=k l:=by cases l<;>rfl
theorem d3 (a b c:α) (l:List α) (k:List α->Option β):FX (a::b::c::l) 3 k=k l:=by cases l<;>rfl
theorem d4 (a b c d:α) (l:List α) (k:List α->Option β):FX (a::b::c::d::l) 4 k=k l:=by cases l<;>rfl
theorem t1 (a:α) (l:List α) (k:List α->Option β):Gi (a::l) 1 k=k [a]:=by cases l<;>rfl
theorem t2 (a b:α) (l:List α) (k:List α->Option β):Gi (a::b::l) 2 k=k [a,b]:=by cases l<;>rfl
theorem t3 (a b c:α) (l:List α) (k:List α->Option β):Gi (a::b::c::l) 3 k=k [a,b,c]:=by cases l<;>rfl
theorem t4 (a b c d:α) (l:List α) (k:List α->Option β):Gi (a::b::c::d::l) 4 k=k [a,b,c,d]:=by cases l<;>rfl
theorem t7 (a b c d e f g:α) (l:List α) (k:List α->Option β):Gi (a::b::c::d::e::f::g::l) 7 k=k [a,b,c,d,e,f,g]:=by cases l<;>rfl
theorem Ajk (l:List α) (k:List α->Option β):spK l k=k l:=It l k
theorem ap0 (us:List α) (k:List α->Option β):PA [] us k=k us:=rfl
theorem ap1 (u:α) (l us:List α) (k:List α->Option β):PA (u::l) us k=PA l us fun w=>k (u::w):=rfl
theorem Aww (a:α) (l:List α) (k:α->List α->Option β):AD (a::l) k=k a l:=rfl
theorem c_t {γ:Type} (a b:γ):cond true a b=a:=rfl
theorem c_f {γ:Type} (a b:γ):cond false a b=b:=rfl
end
section
variable {β:Type}
theorem Ap6 {s j:Nat} (h:(s == j)=false):Nat.beq s j=false:=by
 rw [JE];simpa using h
theorem Mw (s:Nat) (own:List (Nat×Blk)) (ext:List Blk) (k:Blk->Option β):Dp (.own s) ⟨own,ext⟩ k=G6 own s k:=rfl
theorem AwG (j:Nat) (own:List (Nat×Blk)) (ext:List Blk) (k:Blk->Option β):Dp (.ext j) ⟨own,ext⟩ k=DS ext j k:=rfl
theorem Aq1 (s:Nat) (b:Blk) (l:List (Nat×Blk)) (k:Blk->Option β):G6 ((s,b)::l) s k=k b:=by
 show cond (Nat.beq s s) (k b) _=_
 rw [show Nat.beq s s=true from Nat.beq_refl s]
 rfl
theorem ArN {s j:Nat} (hne:(s == j)=false) (b:Blk) (l:List (Nat×Blk)) (k:Blk->Option β):G6 ((j,b)::l) s k=G6 l s k:=by
 show cond (Nat.beq s j) (k b) _=_
 rw [show Nat.beq s j=false from Ap6 hne]
 rfl
theorem Aw3 (s:Nat) (b:Blk) (k:List (Nat×Blk)->Option β):A4 [] s b k=k [(s,b)]:=rfl
theorem Arg (s:Nat) (b c:Blk) (l:List (Nat×Blk)) (k:List (Nat×Blk)->Option β):A4 ((s,c)::l) s b k=k ((s,b)::l):=by
 show cond (Nat.beq s s) _ _=_
 rw [show Nat.beq s s=true from Nat.beq_refl s]
 rfl
theorem Asm {s j:Nat} (hne:(s == j)=false) (b c:Blk) (l:List (Nat×Blk)) (k:List (Nat×Blk)->Option β):A4 ((j,c)::l) s b k=A4 l s b fun l=>k ((j,c)::l):=by
 show cond (Nat.beq s j) _ _=_
 rw [show Nat.beq s j=false from Ap6 hne]
 rfl
theorem Av4 (s:Nat) (a:Option β):C0 [] s a=a:=rfl
theorem AuB {s j:Nat} (hne:(s == j)=false) (b:Blk) (l:List (Nat×Blk)) (a:Option β):C0 ((j,b)::l) s a=C0 l s a:=by
 show cond (Nat.beq s j) none _=_
 rw [show Nat.beq s j=false from Ap6 hne]
 rfl
theorem Agh (s:Nat) (b:Blk) (own:List (Nat×Blk)) (ext:List Blk) (k:Hp->Option β):Gg (.own s) b ⟨own,ext⟩ k=A4 own s b fun own=>k ⟨own,ext⟩:=rfl
theorem Aol (j:Nat) (b:Blk) (own:List (Nat×Blk)) (ext:List Blk) (k:Hp->Option β):Gg (.ext j) b ⟨own,ext⟩ k=Qw ext j b fun ext=>k ⟨own,ext⟩:=rfl
theorem sn0 {α:Type} (a b:α) (l:List α) (k:List α->Option β):Qw (a::l) 0 b k=k (b::l):=rfl
theorem Axi (s:Nat) (b:Blk) (v:IV) (own:List (Nat×Blk)) (ext:List Blk) (k:IV->Hp->List Ref->List Ref->Option β) :
  GY s b v ⟨own,ext⟩ k=C0 own s (A4 own s b fun own=>k v ⟨own,ext⟩ [] [.own s]):=rfl
theorem MV (s:Nat) (cs:List FV) (h:Hp) (k:IV->Hp->List Ref->List Ref->Option β):AW s (.fv (.agg cs)) h k=GY s (.row (cs.map .fv) false) (.ptr (.own s) 0) h k:=by
 show spK (cs.map IV.fv) _=_
 rw [It]
theorem Axm (s:Nat) (a b:FV) (h:Hp) (k:IV->Hp->List Ref->List Ref->Option β):AW s (.fv (.agg [a,b])) h k=GY s (.row [.fv a,.fv b] false) (.ptr (.own s) 0) h k:=MV ..
theorem AwR (s:Nat) (a b c:FV) (h:Hp) (k:IV->Hp->List Ref->List Ref->Option β):AW s (.fv (.agg [a,b,c])) h k=GY s (.row [.fv a,.fv b,.fv c] false) (.ptr (.own s) 0) h k:=MV ..
theorem AwW (s:Nat) (a b c d:FV) (h:Hp) (k:IV->Hp->List Ref->List Ref->Option β):AW s (.fv (.agg [a,b,c,d])) h k=GY s (.row [.fv a,.fv b,.fv c,.fv d] false) (.ptr (.own s) 0) h k:=MV ..
theorem Awv (s:Nat) (a:FV) (h:Hp) (k:IV->Hp->List Ref->List Ref->Option β):AW s (.fv (.agg [a])) h k=GY s (.row [.fv a] false) (.ptr (.own s) 0) h k:=MV ..
theorem VW (s:Nat) (cs:List IV) (h:Hp) (k:IV->Hp->List Ref->List Ref->Option β):AW s (.agg cs) h k=GY s (.row cs false) (.ptr (.own s) 0) h k:=by
 show spK cs _=_
 rw [It]
theorem AnB {x:IV} (hx:x.one=true) (s:Nat) (h:Hp) (k:IV->Hp->List Ref->List Ref->Option β):AW s x h k=GY s (.row [x] false) (.ptr (.own s) 0) h k:=by
 unfold AW;rw [hx];rfl
theorem Aso (k:IntKind) (n:Int):IV.one (.fv (.int k n))=true:=rfl
theorem Anp (b:Bool):IV.one (.fv (.bool b))=true:=rfl
theorem AwY (l:List FV):IV.one (.fv (.sl l))=true:=rfl
theorem Awx (l:List FV) (o:Nat):IV.one (.fv (.fp l o))=true:=rfl
theorem Aon (fn:Fn) (a b:List FV):IV.one (.fv (.func fn a b))=true:=rfl
theorem Ao6:IV.one (.fv .nilp)=true:=rfl
theorem Ao5:IV.one .nils=true:=rfl
theorem Auh (r:Ref) (o:Nat):IV.one (.ptr r o)=true:=rfl
theorem AsY (r:Ref) (a b:Nat):IV.one (.slc r a b)=true:=rfl
theorem Asx (r:Ref) (l:List FV):IV.one (.app r l)=true:=rfl
theorem Ank (l:List FV):IV.one (.clip l)=true:=rfl
theorem AuW:IV.one .emp=true:=rfl
theorem Atl (l:List IV):IV.one (.agg l)=false:=rfl
theorem Aoq (l:List FV):IV.one (.fv (.agg l))=false:=rfl
theorem Ar3 (k:IntKind) (n:Int):H6 (.int k n)=true:=rfl
theorem Aqr (b:Bool):H6 (.bool b)=true:=rfl
theorem Axk (l:List FV):H6 (.sl l)=true:=rfl
theorem AvC (l:List FV) (o:Nat):H6 (.fp l o)=true:=rfl
theorem Aqc:H6 .nilp=true:=rfl
theorem Ats (l:List FV):H6 (.agg l)=false:=rfl
theorem AoR:DA []=true:=rfl
theorem VI {v:FV} (h:H6 v=true) (l:List FV):DA (v::l)=DA l:=by
 show cond (H6 v) (DA l) false=_
 rw [h];rfl
theorem TY (r:Ref) (o:Nat) (k:Ref->Nat->Option β) (kf:List FV->Nat->Option β):Ff (.ptr r o) k kf=k r o:=rfl
theorem AyF (cs:List FV) (o:Nat) (k:Ref->Nat->Option β) (kf:List FV->Nat->Option β):Ff (.fv (.fp cs o)) k kf=kf cs o:=rfl
theorem JZ (cs:List IV) (ro:Bool) (k:List IV->Option β):En (.row cs ro) k=k cs:=rfl
theorem YU (cs:List IV) (k:List IV->Option β):HP (.row cs false) k=k cs:=rfl
theorem AkB (v:FV) (e:Option β) (k:FV->Option β):Px (.fv v) e k=k v:=rfl
theorem XQ (l:List IV) (e:Option β) (k:FV->Option β):Px (.agg l) e k=e:=rfl
theorem Ato (e:Option β) (k:FV->Option β):Px .nils e k=e:=rfl
theorem ArB (r:Ref) (o:Nat) (e:Option β) (k:FV->Option β):Px (.ptr r o) e k=e:=rfl
theorem Aru (r:Ref) (o:List FV) (e:Option β) (k:FV->Option β):Px (.app r o) e k=e:=rfl
theorem AuH (o:List FV) (e:Option β) (k:FV->Option β):Px (.clip o) e k=e:=rfl
theorem AtP (r:Ref) (a b:Nat) (e:Option β) (k:FV->Option β):Px (.slc r a b) e k=e:=rfl
theorem AtM (e:Option β) (k:FV->Option β):Px .emp e k=e:=rfl
theorem Aup (cs:List FV) (k:List FV->Option β):HN (.agg cs) k=k cs:=rfl
theorem Awd (cs:List IV) (k:List IV->Option β) (kf:List FV->Option β):asAgg (.agg cs) k kf=k cs:=rfl
theorem AtS (cs:List FV) (k:List IV->Option β) (kf:List FV->Option β):asAgg (.fv (.agg cs)) k kf=kf cs:=rfl
theorem Aqx (e:Option β) (k:List FV->Option β):CD [] e k=k []:=rfl
theorem AsH (v:FV) (l:List IV) (e:Option β) (k:List FV->Option β):CD (.fv v::l) e k=CD l e fun vs=>k (v::vs):=rfl
theorem Ajd (l:List IV) (e:Option β) (k:List FV->Option β):CD (.nils::l) e k=e:=rfl
theorem Aqg (r:Ref) (es:List FV) (l:List IV) (e:Option β) (k:List FV->Option β):CD (.app r es::l) e k=e:=rfl
theorem Akz (es:List FV) (l:List IV) (e:Option β) (k:List FV->Option β):CD (.clip es::l) e k=e:=rfl
theorem Anf (r:Ref) (o:Nat) (l:List IV) (e:Option β) (k:List FV->Option β):CD (.ptr r o::l) e k=e:=rfl
theorem Aod (r:Ref) (a b:Nat) (l:List IV) (e:Option β) (k:List FV->Option β):CD (.slc r a b::l) e k=e:=rfl
theorem AoM (es l:List IV) (e:Option β) (k:List FV->Option β):CD (.agg es::l) e k=e:=rfl
theorem AiT (r:Ref) (l:List IV) (e:Option β) (k:List FV->Option β):CD (.mapr r::l) e k=e:=rfl
theorem AvQ (l:List IV) (k:IV->Option β):PC l k=CD l (k (.agg l)) fun vs=>k (.fv (.agg vs)):=rfl
theorem Av5 (l:List IV) (k:IV->Option β):Xc l k=CD l (k (.tuple l)) fun vs=>k (.fv (.tuple vs)):=rfl
theorem AyD (a:IV) (h:Hp) (k:IV->List Ref->Option β):Ah a h k=Ff a (fun r o=>Dp r h fun b=>En b fun cells=>DS cells o fun v=>k v [r]) fun cells o=>DS cells o fun v=>k (.fv v) []:=rfl
theorem Azf (size:Nat) (a:IV) (h:Hp) (k:IV->List Ref->Option β):Ad size a h k =
  Ff a (fun r o=>Dp r h fun b=>En b fun cells=>FX cells o fun cs=>Gi cs size fun cs=>PC cs fun v=>k v [r]) fun cells o=>FX cells o fun cs=>Gi cs size fun cs=>k (.fv (.agg cs)) []:=rfl
theorem Asb (size:Nat) (a:IV) (h:Hp) (k:IV->Option β):Ar true size a h k=Ad size a h fun v _=>k v:=rfl
theorem AsA (size:Nat) (a:IV) (h:Hp) (k:IV->Option β):Ar false size a h k=Ah a h fun v _=>k v:=rfl
theorem wr0 (l:List IV) (k:List IV->Option β):wrK [] l k=k l:=rfl
theorem wr1 (c:FV) (cs:List FV) (x:IV) (l:List IV) (k:List IV->Option β):wrK (c::cs) (x::l) k=wrK cs l fun t=>k (.fv c::t):=rfl
theorem sf0 (x:IV) (l:List IV) (cs:List FV) (k:List IV->Option β):Ep (x::l) 0 cs k=wrK cs (x::l) k:=rfl
theorem sf1 (x:IV) (l:List IV) (cs:List FV) (k:List IV->Option β):Ep (x::l) 1 cs k=Ep l 0 cs fun t=>k (x::t):=rfl
theorem sf2 (x y:IV) (l:List IV) (cs:List FV) (k:List IV->Option β):Ep (x::y::l) 2 cs k=Ep l 0 cs fun t=>k (x::y::t):=rfl
theorem sf3 (x y z:IV) (l:List IV) (cs:List FV) (k:List IV->Option β):Ep (x::y::z::l) 3 cs k=Ep l 0 cs fun t=>k (x::y::z::t):=rfl
theorem sf4 (x y z u:IV) (l:List IV) (cs:List FV) (k:List IV->Option β):Ep (x::y::z::u::l) 4 cs k=Ep l 0 cs fun t=>k (x::y::z::u::t):=rfl
theorem of0 (x b:IV) (l:List IV) (k:List IV->Option β):Hn (x::l) 0 b k=k (b::l):=rfl
theorem of1 (x y b:IV) (l:List IV) (k:List IV->Option β):Hn (x::y::l) 1 b k=k (x::b::l):=rfl
theorem of2 (x y z b:IV) (l:List IV) (k:List IV->Option β):Hn (x::y::z::l) 2 b k=k (x::y::b::l):=rfl
theorem of3 (x y z u b:IV) (l:List IV) (k:List IV->Option β):Hn (x::y::z::u::l) 3 b k=k (x::y::z::b::l):=rfl
theorem of6 (x y z u v w s b:IV) (l:List IV) (k:List IV->Option β):Hn (x::y::z::u::v::w::s::l) 6 b k=k (x::y::z::u::v::w::b::l):=rfl
theorem AyL (size:Nat) (a:IV) (cs:List FV) (h:Hp) (k:Hp->List Ref->List Ref->Option β):Ae size a (.fv (.agg cs)) h k =
  Ff a (fun r o=>Dp r h fun b=>HP b fun cells=>cond (and (Nat.beq cs.length size) (DA cs)) (Ep cells o cs fun cells=>Gg r (.row cells false) h fun h=>k h [r] [r]) none) fun _ _=>none:=rfl
theorem Amr (s:Nat) (x:IV):FK (.own s) x=true:=rfl
theorem Ay2 (s:Nat) (a b c:IV) (ha:a.one=true) (hb:b.one=true) (hc:c.one=true) (own:List (Nat×Blk)) (ext:List Blk) (k:Hp->List Ref->List Ref->Option β) :
  Ae 3 (.ptr (.own s) 0) (.agg [a,b,c]) ⟨own,ext⟩ k=G6 own s fun bl=>HP bl fun cells=>cond (Nat.ble 3 cells.length) (Gg (.own s) (.row (A7 cells 0 [a,b,c]) false) ⟨own,ext⟩ fun h=>k h [.own s] [.own s]) none:=by
 show G6 own s (fun bl=>HP bl fun cells=>if IV.alive (.agg [a,b,c])=true/\(IV.cells (.agg [a,b,c])).length=3/\0+3<=cells.length/\(IV.cells (.agg [a,b,c])).all IV.one=true/\FK (.own s) (.agg [a,b,c])=true then
  spK (A7 cells 0 (IV.cells (.agg [a,b,c]))) fun cells=>Gg (.own s) (.row cells false) ⟨own,ext⟩ fun h=>k h [.own s] [.own s] else none)=_
 congr 1
 funext bl
 congr 1
 funext cells
 by_cases h3:3<=cells.length
 ·rw [if_pos ⟨rfl,rfl,by omega,by simp [IV.cells,ha,hb,hc],rfl⟩,It,Bl,decide_eq_true h3];rfl
 ·rw [if_neg (fun h=>h3 (by omega)),Bl,decide_eq_false h3];rfl
theorem sc3 (a b c x y z:IV):A7 [x,y,z] 0 [a,b,c]=[a,b,c]:=rfl
theorem Azg (a x:IV) (h:Hp) (k:Hp->List Ref->List Ref->Option β):Bp a x h k =
  cond x.one (Ff a (fun r o=>Dp r h fun b=>HP b fun cells=>cond (FK r x) (Hn cells o x fun cells=>Gg r (.row cells false) h fun h=>k h [r] [r]) none) fun _ _=>none) (Ae 1 a x h k):=rfl
theorem AyP (o:Nat) (r:Ref) (k:IV->Option β):Ac o (.ptr r 0) k=k (.ptr r o):=by rw [Ap0,Nat.zero_add]
theorem AvX (o:Nat) (cs:List FV) (k:IV->Option β):Ac o (.fv (.fp cs 0)) k=k (.fv (.fp cs o)):=by rw [QF,Nat.zero_add]
theorem Axy (r:Ref) (o:Nat) (k:IV->Option β):AH (.ptr r o) k=k (.ptr r o):=rfl
theorem Avu (cs:List FV) (o:Nat) (k:IV->Option β):AH (.fv (.fp cs o)) k=k (.fv (.fp cs o)):=rfl
theorem AjV (g:FuncId) (a b:List FV) (k:IV->Option β):AH (.fv (.func (.func g) a b)) k=k (.fv (.func (.func g) a b)):=rfl
theorem Ayf (ix:Nat) (vs:List IV) (k:IV->Option β):Aq ix (.tuple vs) k=DS vs ix k:=rfl
theorem Ayo (ix:Nat) (vs:List FV) (k:IV->Option β):Aq ix (.fv (.tuple vs)) k=DS vs ix fun v=>k (.fv v):=rfl
theorem Ayt (o:Nat) (x:IV) (k:IV->Option β):Aro o x k=asAgg x (fun cs=>DS cs o k) fun cs=>DS cs o fun v=>k (.fv v):=rfl
theorem AyV (size o:Nat) (x:IV) (k:IV->Option β):As5 size o x k=asAgg x (fun cs=>FX cs o fun cs=>Gi cs size fun cs=>PC cs k) fun cs=>FX cs o fun cs=>Gi cs size fun cs=>k (.fv (.agg cs)):=rfl
theorem AwN (z:List IV) (pl:List (Nat×Nat×IV)) (k:IV->Option β):By z pl k=O5 z pl fun cells=>PC cells k:=rfl
theorem fk0 (z:List IV) (k:List IV->Option β):O5 z [] k=k z:=rfl
theorem fk1 (z:List IV) (o sz:Nat) (v:IV) (pl:List (Nat×Nat×IV)) (k:List IV->Option β):O5 z ((o,sz,v)::pl) k=HU z o sz v fun z=>O5 z pl k:=rfl
theorem Arw {v:IV} (hv:v.one=true) (z:List IV) (o:Nat) (k:List IV->Option β):HU z o 1 v k=Hn z o v k:=by
 unfold HU;cases v with
 | fv w =>
  show cond (H6 w) _ _=_
  have:H6 w=true:=by cases w<;>first | rfl | cases hv
  rw [this];rfl
 | _=>show AeW _ _ _ _ _=_;unfold AeW;rw [hv];rfl
theorem ArP (z:List IV) (o sz:Nat) (cs:List FV) (k:List IV->Option β):HU z o sz (.fv (.agg cs)) k=cond (Nat.beq cs.length sz) (Ep z o cs k) none:=rfl
theorem nb3 (a b c:FV):Nat.beq [a,b,c].length 3=true:=rfl
theorem nb4 (a b c d:FV):Nat.beq [a,b,c,d].length 4=true:=rfl
theorem nb7 (a b c d e f g:FV):Nat.beq [a,b,c,d,e,f,g].length 7=true:=rfl
theorem nl3 (a b c:IV):Nat.ble 3 [a,b,c].length=true:=rfl
theorem AsX:(and true true)=true:=rfl
end
end Idl
end Go.Proofs.Ytkfecngimlcfoaa
namespace Go.Proofs.Ytkfecngimlcfoaa
namespace Idl
section
variable {β:Type} {E:Env} {t:TypeId}
theorem W7 (n:Int):IV.fv (.int .i64 n)=iv n:=rfl
def BK (n:Int):Int:=IntKind.i64.wrap n
theorem Av {n:Int} (h1:-9223372036854775808<=n) (h2:n<=9223372036854775807):BK n=n:=by
 show (if (true && decide ((n % (18446744073709551616:Int)) ≥ (9223372036854775808:Int)))=true then (n % (18446744073709551616:Int)) - (18446744073709551616:Int) else (n % (18446744073709551616:Int)))=n
 by_cases h:0<=n
 ·have e:n % (18446744073709551616:Int)=n:=by omega
  have e2:¬ n ≥ (9223372036854775808:Int):=by omega
  rw [e,decide_eq_false e2];rfl
 ·have e:n % (18446744073709551616:Int)=n+18446744073709551616:=by omega
  have e2:n+18446744073709551616 ≥ (9223372036854775808:Int):=by omega
  rw [e,decide_eq_true e2];simp
theorem Av8 (a b:Int) (k:IV->Option β):BD E t (iv a) (iv b) k=k (iv (BK (a+b))):=by
 have hg:C5 E t .add (iv a) (iv b) k=k (iv (BK (a+b))):=by
  rw [C5,CR];rfl
 cases a with
 | negSucc a=>exact hg
 | ofNat a=>cases b with
  | negSucc b=>exact hg
  | ofNat b =>
   show cond (Nat.ble (a+b) 9223372036854775807) (NL (a+b) k) _=_
   rw [Bl];by_cases h:a+b<=9223372036854775807
   ·rw [decide_eq_true h]
    show NL (a+b) k=_
    rw [Ef]
    have:BK (Int.ofNat a+Int.ofNat b)=((a+b:Nat):Int):=by
     rw [Av (by simp only [Int.ofNat_eq_natCast];omega) (by simp only [Int.ofNat_eq_natCast];omega)];simp only [Int.ofNat_eq_natCast];omega
    rw [this]
   ·rw [decide_eq_false h];exact hg
theorem Awm (a b:Int) (k:IV->Option β):Bd E t (iv a) (iv b) k=k (iv (BK (a - b))):=by
 have hg:C5 E t .sub (iv a) (iv b) k=k (iv (BK (a - b))):=by
  rw [C5,CR];rfl
 cases a with
 | negSucc a=>exact hg
 | ofNat a=>cases b with
  | negSucc b=>exact hg
  | ofNat b =>
   show cond (and (Nat.ble b a) (Nat.ble a 9223372036854775807)) (NL (a - b) k) _=_
   rw [Bl,Bl];by_cases h:b<=a/\a<=9223372036854775807
   ·rw [decide_eq_true h.1,decide_eq_true h.2]
    show NL (a - b) k=_
    rw [Ef]
    have:BK (Int.ofNat a - Int.ofNat b)=((a - b:Nat):Int):=by
     rw [Av (by simp only [Int.ofNat_eq_natCast];omega) (by simp only [Int.ofNat_eq_natCast];omega)];simp only [Int.ofNat_eq_natCast];omega
    rw [this]
   ·have:(decide (b<=a) && decide (a<=9223372036854775807))=false:=by
     rw [<- Bool.decide_and];exact decide_eq_false h
    rw [show and (decide (b<=a)) (decide (a<=9223372036854775807))=false from this]
    exact hg
theorem AwP (a b:Int) (k:IV->Option β):C5 E t .mul (iv a) (iv b) k=k (iv (BK (a * b))):=by
 rw [C5,CR];rfl
theorem AmI {b:Int} (hb:b≠0) (a:Int) (k:IV->Option β):C5 E t .quo (iv a) (iv b) k=k (iv (BK (a.tdiv b))):=by
 rw [C5,CR]
 have:FY E .quo t (iv a) (iv b)=some (iv (BK (a.tdiv b))):=by
  show (HF (Op.intDiv .quo .i64 a b)).bind J0=_
  simp only [Op.intDiv,hb,if_false];rfl
 rw [this];rfl
theorem Qk {b:Int} (hb:b≠0) (a:Int) (k:IV->Option β):C5 E t .rem (iv a) (iv b) k=k (iv (a.tmod b)):=by
 rw [C5,CR]
 have:FY E .rem t (iv a) (iv b)=some (iv (a.tmod b)):=by
  show (HF (Op.intDiv .rem .i64 a b)).bind J0=_
  simp only [Op.intDiv,hb,if_false];rfl
 rw [this];rfl
theorem Ayq (a b:Int) (k:IV->Option β):AK E t (iv a) (iv b) k=k (.fv (.bool (decide (a=b)))):=Axf a b k
theorem Azw (a b:Int) (k:IV->Option β):Ch E t (iv a) (iv b) k=k (.fv (.bool (!decide (a=b)))):=AxE a b k
theorem Azq (a b:Int) (k:IV->Option β):Hu E t (iv a) (iv b) k=k (.fv (.bool (decide (a<b)))):=AvI a b k
theorem Ay9 (a b:Int) (k:IV->Option β):leS E t (iv a) (iv b) k=k (.fv (.bool (decide (a<=b)))):=AwM a b k
theorem AyM (a b:Int) (k:IV->Option β):LU E t (iv a) (iv b) k=k (.fv (.bool (decide (b<a)))):=by
 rw [LU,L9 (fun a b=>by
  show some (IV.fv (.bool (decide ((a:Int) > (b:Int)))))=_
  rw [Bl];congr 3;exact decide_eq_decide.2 (by omega))]
 rfl
theorem Azd (a b:Int) (k:IV->Option β):V4 E t (iv a) (iv b) k=k (.fv (.bool (decide (b<=a)))):=by
 rw [V4,L9 (fun a b=>by
  show some (IV.fv (.bool (decide ((a:Int) ≥ (b:Int)))))=_
  rw [Bl];congr 3;exact decide_eq_decide.2 (by omega))]
 rfl
theorem Axv (a b:Bool) (hT:E.T t=some ⟨1,1,.bool,[.fv (.bool false)]⟩) (k:IV->Option β):AK E t (.fv (.bool a)) (.fv (.bool b)) k=k (.fv (.bool (a == b))):=by
 show C5 E t .eql _ _ k=_
 rw [C5,CR]
 have:FY E .eql t (.fv (.bool a)) (.fv (.bool b))=some (.fv (.bool (a == b))):=by
  simp only [FY,hT,Vv]
 rw [this];rfl
theorem AwA (b:Bool) (k:IV->Option β):CF (Kg .not (.fv (.bool b))) k=k (.fv (.bool !b)):=Aw6 b k
theorem AyQ (a b:Option β):Ai (.fv (.bool true)) a b=a:=rfl
theorem Ayr (a b:Option β):Ai (.fv (.bool false)) a b=b:=rfl
theorem Ayp (c:Prop) [Decidable c] (a b:Option β):Ai (.fv (.bool (decide c))) a b=if c then a else b:=Asj c a b
theorem Azl (c:Prop) [Decidable c] (a b:Option β):Ai (.fv (.bool (!decide c))) a b=if c then b else a:=by
 by_cases h:c
 ·rw [decide_eq_true h,if_pos h];rfl
 ·rw [decide_eq_false h,if_neg h];rfl
theorem Azn (c:Bool) (a b:Option β):Ai (.fv (.bool c)) a b=if c=true then a else b:=by
 cases c<;>rfl
theorem Ayh (c a b:IV) (k:IV->Option β):AF c a b k=Ai c (k a) (k b):=rfl
theorem Avw {b:Bool} (hb:b=true) (h:Hp) (m:(IV->Hp->List Ref->List Ref->Option β)->Option β) (k:IV->Hp->List Ref->List Ref->Option β):Aa (.fv (.bool b)) true h m k=m k:=by rw [hb];rfl
theorem Awf {b:Bool} (hb:b=false) (h:Hp) (m:(IV->Hp->List Ref->List Ref->Option β)->Option β) (k:IV->Hp->List Ref->List Ref->Option β):Aa (.fv (.bool b)) false h m k=m k:=by rw [hb];rfl
theorem AwV {b:Bool} (hb:b=true) (h:Hp) (m:(IV->Hp->List Ref->List Ref->Option β)->Option β) (k:IV->Hp->List Ref->List Ref->Option β):Aa (.fv (.bool b)) false h m k=k FM h [] []:=by rw [hb];rfl
theorem Awu {b:Bool} (hb:b=false) (h:Hp) (m:(IV->Hp->List Ref->List Ref->Option β)->Option β) (k:IV->Hp->List Ref->List Ref->Option β):Aa (.fv (.bool b)) true h m k=k FM h [] []:=by rw [hb];rfl
theorem Ayv (w:Bool) (h:Hp) (m:(IV->Hp->List Ref->List Ref->Option β)->Option β) (k:IV->Hp->List Ref->List Ref->Option β):Aa FM w h m k=k FM h [] []:=rfl
theorem ch0 (rd wr:List Ref) (a:Option β):Ab [] rd wr a=a:=rfl
theorem ch1 (q1 q2:List Ref) (l:List (List Ref×List Ref)) (rd wr:List Ref) (a:Option β):Ab ((q1,q2)::l) rd wr a=cond (V3 q2 rd) (cond (V3 q2 wr) (cond (V3 wr q1) (Ab l rd wr a) none) none) none:=rfl
theorem dj0 (b:List Ref):V3 [] b=true:=rfl
theorem djn:∀(a:List Ref),V3 a []=true
 | []=>rfl
 | _::a=>djn a
theorem dj1 (r:Ref) (a b:List Ref):V3 (r::a) b=cond (KD r b) (V3 a b) false:=rfl
theorem an0 (r:Ref):KD r []=true:=rfl
theorem an1 (r s:Ref) (l:List Ref):KD r (s::l)=cond (MB r s) (KD r l) false:=rfl
theorem AyH {i j:Nat} (h:(i == j)=false):MB (.own i) (.own j)=true:=by
 show not (Nat.beq i j)=true
 rw [show Nat.beq i j=false from Ap6 h];rfl
theorem AvT (i j:Nat):MB (.own i) (.ext j)=true:=rfl
theorem Av0 (i j:Nat):MB (.ext i) (.own j)=true:=rfl
theorem Ayz (v:IV) (h:Hp):Al [v] h=some (v,h):=rfl
theorem AyZ (h:Hp):Al [] h=some (.fv (.tuple []),h):=rfl
theorem AyW (a b:IV) (h:Hp):Al [a,b] h=Xc [a,b] fun v=>some (v,h):=rfl
theorem AyY (a b c:IV) (h:Hp):Al [a,b,c] h=Xc [a,b,c] fun v=>some (v,h):=rfl
theorem Ays (a b c d:IV) (h:Hp):Al [a,b,c,d] h=Xc [a,b,c,d] fun v=>some (v,h):=rfl
theorem Axu (es:List FV) (k:IV->Option β):B9 (.fv (.sl es)) k=k (iv es.length):=Ef ..
theorem AxH (k:IV->Option β):B9 .nils k=k (iv 0):=rfl
theorem AwL (es:List FV) (k:IV->Option β):B9 (.clip es) k=k (iv es.length):=Ef ..
theorem AvJ (r:Ref) (es:List FV) (k:IV->Option β):B9 (.app r es) k=k (iv es.length):=Ef ..
theorem Avq (r:Ref) (sz n:Nat) (k:IV->Option β):B9 (.slc r sz n) k=k (iv n):=Ef ..
theorem Bt {size:Nat} {es:List FV} {n:Nat} {el:FV} (he:es[n]?=some el) (hl:el.cells.length=size) (k:IV->Option β):AN size (.fv (.sl es)) (iv n) k=k (.fv (.fp el.cells 0)):=AuA he hl k
theorem Azt {size:Nat} {r:Ref} {es:List FV} {n:Nat} {el:FV} (he:es[n]?=some el) (hl:el.cells.length=size) (k:IV->Option β):AN size (.app r es) (iv n) k=k (.fv (.fp el.cells 0)):=AuA he hl k
theorem Aze {size:Nat} {es:List FV} {n:Nat} {el:FV} (he:es[n]?=some el) (hl:el.cells.length=size) (k:IV->Option β):AN size (.clip es) (iv n) k=k (.fv (.fp el.cells 0)):=AuA he hl k
theorem AyA {size sz len:Nat} {r:Ref} {n:Nat} (hn:n<len) (hs:sz=size) (k:IV->Option β):AN size (.slc r sz len) (iv n) k=k (.ptr r (n * sz)):=by
 show cond (and (Nat.ble (Nat.succ n) len) (Nat.beq sz size)) (Ek (n * sz) fun o=>k (.ptr r o)) none=_
 rw [Bl,decide_eq_true (show Nat.succ n<=len from hn),hs,show Nat.beq size size=true from Nat.beq_refl size]
 simp only [Bool.and_self,cond_true];rw [BQ]
theorem AnP (size:Nat) (cs:List FV) (es:List FV) (hl:cs.length=size) (k:IV->Option β):AN size (.fv (.sl (.agg cs::es))) (iv 0) k=k (.fv (.fp cs 0)):=Bt (el:=.agg cs) (n:=0) rfl hl k
theorem AnK (size:Nat) (cs:List FV) (e:FV) (es:List FV) (hl:cs.length=size) (k:IV->Option β):AN size (.fv (.sl (e :: .agg cs::es))) (iv 1) k=k (.fv (.fp cs 0)):=Bt (el:=.agg cs) (n:=1) rfl hl k
theorem Ao7 (size:Nat) (cs:List FV) (e e':FV) (es:List FV) (hl:cs.length=size) (k:IV->Option β):AN size (.fv (.sl (e::e' :: .agg cs::es))) (iv 2) k=k (.fv (.fp cs 0)):=Bt (el:=.agg cs) (n:=2) rfl hl k
theorem Aoy (size:Nat) (cs:List FV) (e e' e'':FV) (es:List FV) (hl:cs.length=size) (k:IV->Option β):AN size (.fv (.sl (e::e'::e'' :: .agg cs::es))) (iv 3) k=k (.fv (.fp cs 0)):=Bt (el:=.agg cs) (n:=3) rfl hl k
def Fz (v:IV) (own:List (Nat×Blk)) (w:FV):Prop:=∃u lg,∀(e:Option (IV×Hp)) (K:FV->List (Ref×Blk)->List Ref->Option (IV×Hp)),Fh 12 v ⟨own,[]⟩ [] e K=K w u lg
def AZ (r:Option (IV×Hp)) (w:FV):Prop:=∃v own,r=some (v,⟨own,[]⟩) /\
 (Fz v own w\/((∀(e:Option (IV×Hp)) (K:FV->List (Ref×Blk)->List Ref->Option (IV×Hp)),Fh 12 v ⟨own,[]⟩ [] e K=e)/\∃u,(Dc 4096 v).run ⟨own,[]⟩=some (w,u)))
def Ai8 (r:Option (IV×Hp)) (w:FV):Prop:=∃v own,r=some (v,⟨own,[]⟩)/\Fz v own w
theorem Aq6 (w:FV) (own:List (Nat×Blk)):Fz (.fv w) own w:=⟨[],[],fun _ _=>rfl⟩
theorem An (w:FV) (own:List (Nat×Blk)):AZ (some (.fv w,⟨own,[]⟩)) w:=⟨_,own,rfl,.inl (Aq6 w own)⟩
def HV:IV->Option FV
 | .fv v=>some v
 | .nils=>some (.sl [])
 | .emp=>some (.sl [])
 | .clip es=>some (.sl es)
 | .app _ es=>some (.sl es)
 | _=>none
def Do:List IV->Option (List FV)
 | []=>some []
 | v::l=>(HV v).bind fun x=>(Do l).map fun xs=>x::xs
def Ba (v:IV):Option FV:=match v with
 | .agg cs=>if cs.length<=8 then (Do cs).map .agg else none
 | v=>HV v
def BL:List IV->Option (List FV)
 | []=>some []
 | v::l=>(Ba v).bind fun x=>(BL l).map fun xs=>x::xs
theorem AwU (v:FV):Ba (.fv v)=some v:=rfl
theorem An1:Ba .nils=some (.sl []):=rfl
theorem AuR:Ba .emp=some (.sl []):=rfl
theorem AnT (es:List FV):Ba (.clip es)=some (.sl es):=rfl
theorem Ar4 (r:Ref) (es:List FV):Ba (.app r es)=some (.sl es):=rfl
theorem AwD (v:FV):HV (.fv v)=some v:=rfl
theorem Apc:HV .nils=some (.sl []):=rfl
theorem Auy:HV .emp=some (.sl []):=rfl
theorem AoQ (es:List FV):HV (.clip es)=some (.sl es):=rfl
theorem Arp (r:Ref) (es:List FV):HV (.app r es)=some (.sl es):=rfl
theorem Azz {a b c:IV} {x y z:FV} (ha:HV a=some x) (hb:HV b=some y) (hc:HV c=some z):Ba (.agg [a,b,c])=some (.agg [x,y,z]):=by
 show (if 3<=8 then (Do [a,b,c]).map FV.agg else none)=_
 simp [Do,ha,hb,hc]
theorem Azx {a b c d:IV} {x y z u:FV} (ha:HV a=some x) (hb:HV b=some y) (hc:HV c=some z) (hd:HV d=some u):Ba (.agg [a,b,c,d])=some (.agg [x,y,z,u]):=by
 show (if 4<=8 then (Do [a,b,c,d]).map FV.agg else none)=_
 simp [Do,ha,hb,hc,hd]
theorem AqN {v:IV} {x:FV} (d:Nat) (h:Hp) (lg:List Ref) (e:Option β) (k:FV->List (Ref×Blk)->List Ref->Option β) (hz:HV v=some x):Fh (d+1) v h lg e k=k x [] lg:=by
 cases v<;>first | (cases hz;rfl) | (cases hz)
theorem Ag5 (d:Nat) (h:Hp) (lg:List Ref) (e:Option β):∀(cs:List IV) (k:List FV->List (Ref×Blk)->List Ref->Option β) {xs:List FV},Do cs=some xs->Dq (Fh (d+1)) cs h lg e k=k xs [] lg
 | [],k,xs,hz=>by cases hz;rfl
 | v::cs,k,xs,hz=>by
  simp only [Do] at hz;cases h1:HV v with
  | none=>rw [h1] at hz;cases hz
  | some x =>
   rw [h1] at hz;cases h2:Do cs with
   | none=>rw [h2] at hz;cases hz
   | some ys =>
    rw [h2] at hz;cases hz
    show Fh (d+1) v h lg e (fun y u lg=>Dq (Fh (d+1)) cs h lg e fun ys us lg=>PA u us fun w=>k (y::ys) w lg)=_
    rw [AqN d h lg e _ h1,Ag5 d h lg e cs _ h2];rfl
theorem LP {v:IV} {x:FV} (h:Hp) (lg:List Ref) (e:Option β) (k:FV->List (Ref×Blk)->List Ref->Option β) (hz:Ba v=some x):Fh 12 v h lg e k=k x [] lg:=by
 cases v with
 | agg cs =>
  simp only [Ba] at hz;split at hz
  ·rename_i hl;cases h2:Do cs with
   | none=>rw [h2] at hz;cases hz
   | some ys =>
    rw [h2] at hz;cases hz
    show cond (Nat.ble cs.length 300) (Dq (Fh 11) cs h lg e fun cs u lg=>k (.agg cs) u lg) e=_
    rw [Bl,decide_eq_true (show cs.length<=300 by omega)]
    exact Ag5 10 h lg e cs _ h2
  ·cases hz
 | _=>exact AqN 11 h lg e k hz
theorem Azv {v:IV} {x:FV} (hz:Ba v=some x) (own:List (Nat×Blk)):Fz v own x:=⟨[],[],fun e K=>LP _ _ e K hz⟩
theorem Bb {v:IV} {x:FV} (hz:Ba v=some x) (own:List (Nat×Blk)):AZ (some (v,⟨own,[]⟩)) x:=⟨v,own,rfl,.inl (Azv hz own)⟩
theorem fr1 {v:IV} {x:FV} (n:Nat) (hz:HV v=some x):Dc (n+1) v=.ret (x,[]):=by
 cases v<;>first | (cases hz;rfl) | (cases hz)
theorem YO:∀(cs:List IV) (n:Nat) {xs:List FV},cs.length+1<n->Do cs=some xs->frzL n cs=.ret (xs,[])
 | [],n+1,xs,_,hz=>by cases hz;rfl
 | v::cs,n+2,xs,hn,hz=>by
  simp only [Do] at hz;cases h1:HV v with
  | none=>rw [h1] at hz;cases hz
  | some x =>
   rw [h1] at hz;cases h2:Do cs with
   | none=>rw [h2] at hz;cases hz
   | some ys =>
    rw [h2] at hz;cases hz;simp only [AB3] at hn;simp only [frzL,fr1 n h1,Rd.bind,YO cs (n+1) (by omega) h2];rfl
theorem frp {v:IV} {x:FV} (n:Nat) (hn:20<n) (hz:Ba v=some x):Dc n v=.ret (x,[]):=by
 cases n with
 | zero=>omega
 | succ n =>
  cases v with
  | agg cs =>
   simp only [Ba] at hz;split at hz
   ·rename_i hl;cases h2:Do cs with
    | none=>rw [h2] at hz;cases hz
    | some ys =>
     rw [h2] at hz;cases hz;simp only [Dc,YO cs n (by omega) h2,Rd.bind]
   ·cases hz
  | _=>exact fr1 n hz
theorem Aq5:∀(cs:List IV) (n:Nat) {xs:List FV},cs.length+30<n->BL cs=some xs->frzL n cs=.ret (xs,[])
 | [],n+1,xs,_,hz=>by cases hz;rfl
 | v::cs,n+1,xs,hn,hz=>by
  simp only [BL] at hz;cases h1:Ba v with
  | none=>rw [h1] at hz;cases hz
  | some x =>
   rw [h1] at hz;cases h2:BL cs with
   | none=>rw [h2] at hz;cases hz
   | some ys =>
    rw [h2] at hz;cases hz;simp only [AB3] at hn;simp only [frzL,frp n (by omega) h1,Rd.bind,Aq5 cs n (by omega) h2];rfl
theorem Ax {vs:List IV} {xs:List FV} (hz:BL vs=some xs) (hl:vs.length<=100) (own:List (Nat×Blk)):AZ (some (.tuple vs,⟨own,[]⟩)) (.tuple xs) :=
 ⟨_,own,rfl,.inr ⟨fun _ _=>rfl,[],by
  show (Dc (4095+1) (.tuple vs)).run _=_
  simp only [Dc,Aq5 vs 4095 (by omega) hz,Rd.bind];rfl⟩⟩
theorem ArJ:BL []=some []:=rfl
theorem WJ {a b:IV} {x y:FV} (ha:Ba a=some x) (hb:Ba b=some y):BL [a,b]=some [x,y]:=by simp [BL,ha,hb]
theorem Ahq {a b c:IV} {x y z:FV} (ha:Ba a=some x) (hb:Ba b=some y) (hc:Ba c=some z):BL [a,b,c]=some [x,y,z]:=by simp [BL,ha,hb,hc]
theorem Awp {a b c d:IV} {x y z u:FV} (ha:Ba a=some x) (hb:Ba b=some y) (hc:Ba c=some z) (hd:Ba d=some u):BL [a,b,c,d]=some [x,y,z,u]:=by simp [BL,ha,hb,hc,hd]
theorem Amv {a:IV} {x:FV} (ha:Ba a=some x):BL [a]=some [x]:=by simp [BL,ha]
theorem Pg:∀(args:List IV) {vs:List FV},BL args=some vs->Bn [] args=.ret (vs.map .fv,[],[])
 | [],vs,hz=>by cases hz;rfl
 | v::l,vs,hz=>by
  simp only [BL] at hz;cases h1:Ba v with
  | none=>rw [h1] at hz;cases hz
  | some x =>
   rw [h1] at hz;cases h2:BL l with
   | none=>rw [h2] at hz;cases hz
   | some ys =>
    rw [h2] at hz;cases hz;simp only [Bn,frp 4096 (by omega) h1,Rd.bind,Pg l h2];rfl
theorem fz0 (keep:List Bool) (h:Hp) (lg:List Ref) (e:Option β) (k:List IV->List Ref->List (Ref×Blk)->List Ref->Option β):UA [] keep h lg e k=k [] [] [] lg:=rfl
theorem fz1 (x:IV) (l:List IV) (h:Hp) (lg:List Ref) (e:Option β) (k:List IV->List Ref->List (Ref×Blk)->List Ref->Option β) :
  UA (x::l) [] h lg e k=Fh 12 x h lg e fun y u lg=>UA l [] h lg e fun vs rs us lg=>PA u us fun w=>k (.fv y::vs) rs w lg:=rfl
theorem WT (x:IV) (l:List IV) (ks:List Bool) (h:Hp) (lg:List Ref) (e:Option β) (k:List IV->List Ref->List (Ref×Blk)->List Ref->Option β) :
  UA (x::l) (true::ks) h lg e k=Ff x (fun r o=>UA l ks h lg e fun vs rs us lg=>k (.ptr r o::vs) (r::rs) us lg) fun _ _=>e:=rfl
theorem TD (x:IV) (l:List IV) (ks:List Bool) (h:Hp) (lg:List Ref) (e:Option β) (k:List IV->List Ref->List (Ref×Blk)->List Ref->Option β) :
  UA (x::l) (false::ks) h lg e k=Fh 12 x h lg e fun y u lg=>UA l ks h lg e fun vs rs us lg=>PA u us fun w=>k (.fv y::vs) rs w lg:=rfl
section
variable (d:Nat) (h:Hp) (lg:List Ref) (e:Option β) (k:FV->List (Ref×Blk)->List Ref->Option β)
theorem Asi (cs:List IV):Fh 12 (.agg cs) h lg e k=cond (Nat.ble cs.length 300) (Dq (Fh 11) cs h lg e fun cs u lg=>k (.agg cs) u lg) e:=rfl
theorem WQ (s:Nat) (off:Nat):Fh 12 (.ptr (.own s) off) h lg e k=Dp (.own s) h fun b=>En b fun cells=>cond (Nat.ble cells.length 300) (Dq (Fh 11) cells h (.own s::lg) e fun cs u lg=>k (.fp cs off) ((.own s,.row cells true)::u) lg) e:=rfl
theorem MA (v:FV):Fh 11 (.fv v) h lg e k=k v [] lg:=rfl
theorem fl0 (g:FzK β) (k:List FV->List (Ref×Blk)->List Ref->Option β):Dq g [] h lg e k=k [] [] lg:=rfl
theorem fl1 (g:FzK β) (x:IV) (l:List IV) (k:List FV->List (Ref×Blk)->List Ref->Option β):Dq g (x::l) h lg e k=g x h lg e fun y u lg=>Dq g l h lg e fun ys us lg=>PA u us fun w=>k (y::ys) w lg:=rfl
end
def SN (rs:List Ref) (r:Option (IV×Hp)) (h:Hp) (u:List (Ref×Blk)) (lg:List Ref) (e:Option (IV×Hp)) (g:List Ref->Option (IV×Hp)) (k:IV->Hp->List Ref->List Ref->Option (IV×Hp)):Option (IV×Hp):=match rs with
 | []=>(match r with
  | none=>none
  | some p=>match p with
   | (v,h')=>match h' with
    | ⟨own,ext⟩=>List.casesOn (motive:=fun _=>Option (IV×Hp)) ext (Fh 12 v ⟨own,[]⟩ [] e fun w _ _=>Mt u h fun h2=>k (.fv w) h2 lg (Bq u)) fun _ _=>none)
 | r::rs=>g (r::rs)
theorem Ku (keep:List Bool) (ih:Aj) (f:FuncId) (args:List IV) (h:Hp) (k:IV->Hp->List Ref->List Ref->Option (IV×Hp)):A0 keep false false ih f args h k =
  UA args keep h [] (FE keep false false ih f args h k) fun vs rs u lg=>SN rs (ih f vs ⟨[],[]⟩) h u lg (FE keep false false ih f args h k) (fun rs=>match rs with
   | []=>none
   | r::rs=>(match h with
    | ⟨own,ext⟩=>cond (Pw 400 (r::rs) 0 ext) (match ih f vs ⟨[],ext⟩ with
     | none=>none
     | some p=>match p with
      | (v,h')=>match h' with
       | ⟨own',ext'⟩=>cond (and (Nat.beq ext'.length ext.length) (okB ext.length ext'))
        (Fh 12 v ⟨own',ext'⟩ [] (FE keep false false ih f args h k) fun w _ _=>Mt u ⟨own,ext'⟩ fun h2=>k (.fv w) h2 ((CY ext.length).reverse++lg) (Bq u++CY ext.length)) none)
     (FE keep false false ih f args h k))) k:=by
 unfold A0;simp only [cond_false];congr 1
theorem Aw1 {r:Option (IV×Hp)} {w:FV} (hr:Ai8 r w) (h:Hp) (u:List (Ref×Blk)) (lg:List Ref) (e:Option (IV×Hp)) (g:List Ref->Option (IV×Hp)) (k:IV->Hp->List Ref->List Ref->Option (IV×Hp)) :
  SN [] r h u lg e g k=Mt u h fun h2=>k (.fv w) h2 lg (Bq u):=by
 obtain ⟨v,own,rfl,u',lg',hz⟩:=hr;simp only [SN];rw [hz]
theorem AjQ:∀(args:List IV) {vs:List FV} (h:Hp) (lg:List Ref) (e:Option β) (k:List IV->List Ref->List (Ref×Blk)->List Ref->Option β),BL args=some vs->UA args [] h lg e k=k (vs.map .fv) [] [] lg
 | [],vs,h,lg,e,k,hz=>by cases hz;rfl
 | v::l,vs,h,lg,e,k,hz=>by
  simp only [BL] at hz;cases h1:Ba v with
  | none=>rw [h1] at hz;cases hz
  | some x =>
   rw [h1] at hz;cases h2:BL l with
   | none=>rw [h2] at hz;cases hz
   | some ys =>
    rw [h2] at hz;cases hz
    show Fh 12 v h lg e (fun y u lg=>UA l [] h lg e fun vs rs us lg=>PA u us fun w=>k (.fv y::vs) rs w lg)=_
    rw [LP h lg e _ h1,AjQ l h lg e _ h2];rfl
theorem Fw (f:Ref->Option Ref):∀l:List FV,IV.ren.renL f (l.map .fv)=some (l.map .fv)
 | []=>rfl
 | v::l=>by
  simp only [AB5,IV.ren.renL,IV.ren,Fw f l];rfl
theorem Vu {ih:Aj} {f:FuncId} {args:List IV} {vs:List FV} {w:FV} (hz:BL args=some vs) (hr:AZ (ih f (vs.map .fv) ⟨[],[]⟩) w) (h:Hp) (k:IV->Hp->List Ref->List Ref->Option (IV×Hp)) :
  A0 [] false false ih f args h k=k (.fv w) h [] []:=by
 obtain ⟨v,own,e,hv⟩:=hr;have hD:(∃u,(Dc 4096 v).run ⟨own,[]⟩=some (w,u))->FE [] false false ih f args h k=k (.fv w) h [] []:=by
  rintro ⟨u,hu⟩;unfold FE;simp only [Pg args hz,Rd.runLog,B2,Fw,AB4,A5,DG (Cy 3),DG C1,JU,Bool.false_eq_true,if_false,e,hu,AB2,IV.ren]
  show (match laid h ([]++(Bq []).zip []) with | none=>none | some h'=>fH h' fun h'=>fV 3 (.fv w) fun res=>k res h' [] _)=_
  simp only [Bq,AB4,List.zip_nil_left,List.append_nil,laid,MG,Cy]
 rw [Ku,AjQ args h [] _ _ hz,e];simp only [SN];rcases hv with ⟨u',lg',hf⟩ | ⟨hf,hu⟩
 ·rw [hf];rfl
 ·rw [hf];exact hD hu
theorem Gk {ih:Aj} {f:FuncId} {w:FV} (hr:AZ (ih f [] ⟨[],[]⟩) w) (h:Hp) (k:IV->Hp->List Ref->List Ref->Option (IV×Hp)) :
  A0 [] false false ih f [] h k=k (.fv w) h [] []:=Vu (vs:=[]) rfl hr h k
theorem Aw {ih:Aj} {f:FuncId} {a:IV} {x w:FV} (hr:AZ (ih f [.fv x] ⟨[],[]⟩) w) (ha:Ba a=some x) (h:Hp) (k:IV->Hp->List Ref->List Ref->Option (IV×Hp)) :
  A0 [] false false ih f [a] h k=k (.fv w) h [] []:=Vu (Amv ha) hr h k
theorem Ag {ih:Aj} {f:FuncId} {a b:IV} {x y w:FV} (hr:AZ (ih f [.fv x,.fv y] ⟨[],[]⟩) w) (ha:Ba a=some x) (hb:Ba b=some y) (h:Hp) (k:IV->Hp->List Ref->List Ref->Option (IV×Hp)) :
  A0 [] false false ih f [a,b] h k=k (.fv w) h [] []:=Vu (WJ ha hb) hr h k
theorem AJ {ih:Aj} {f:FuncId} {a b c:IV} {x y z w:FV} (hr:AZ (ih f [.fv x,.fv y,.fv z] ⟨[],[]⟩) w) (ha:Ba a=some x) (hb:Ba b=some y) (hc:Ba c=some z) (h:Hp) (k:IV->Hp->List Ref->List Ref->Option (IV×Hp)) :
  A0 [] false false ih f [a,b,c] h k=k (.fv w) h [] []:=Vu (Ahq ha hb hc) hr h k
theorem AC {ih:Aj} {f:FuncId} {a b c d:IV} {x y z u w:FV} (hr:AZ (ih f [.fv x,.fv y,.fv z,.fv u] ⟨[],[]⟩) w) (ha:Ba a=some x) (hb:Ba b=some y) (hc:Ba c=some z) (hd:Ba d=some u) (h:Hp)
  (k:IV->Hp->List Ref->List Ref->Option (IV×Hp)):A0 [] false false ih f [a,b,c,d] h k=k (.fv w) h [] []:=Vu (Awp ha hb hc hd) hr h k
theorem Kz (v:IV) (s:Nat) (h:Hp) (k:IV->Hp->List Ref->List Ref->Option β):Ay (.ret { eff:={ val:=v } }) s h k=k v h [] []:=by
 unfold Ay;simp only [Rd.runLog,Jp,Cy];rfl
theorem gen_val' (v:IV) (s:Nat) (h:Hp) (k:IV->Hp->List Ref->List Ref->Option β):Ay (Idl.val v) s h k=k v h [] []:=Kz v s h k
theorem Cv {e:TypeId} {a b:Nat} {ei:TI} {z:List IV} (hT:E.T t=some ⟨a,b,.slice e,z⟩) (he:E.T e=some ei) {len:Nat} (hs:¬ (ei.size=0\/len * ei.size > 65536)) {parts:List (Nat×IV)} {cells:List FV}
  (hf:CG (fun j=>some (j * ei.size,ei.size)) (PF len ei.zero) parts=some (cells.map .fv)) {s:Nat} {h:Hp} (k:IV->Hp->List Ref->List Ref->Option β) (hc:cells.length<65000:=by simp) :
  Ay (Ak E t len parts) s h k=k (.clip (BT ei.size len cells)) h [] []:=by
 have key:∀(l:List FV) (n:Nat),l.length<n->frzL n (l.map .fv)=.ret (l,[]):=by
  intro l
  induction l with
  | nil=>intro n hn;cases n with
   | zero=>simp at hn
   | succ n=>rfl
  | cons x l ih=>intro n hn;cases n with
   | zero=>simp at hn
   | succ n =>
    simp only [AB3] at hn;cases n with
    | zero=>omega
    | succ n =>
     simp only [AB5,frzL,Dc,Rd.bind];rw [ih (n+1) (by omega)];rfl
 have:Ak E t len parts=.ret { eff:={ val:=.clip (BT ei.size len cells),upd:=[] } }:=by
  simp only [Ak,hT,he,if_neg hs,hf];rw [key _ _ (by omega)];rfl
 rw [this,Kz]
end
end Idl
end Go.Proofs.Ytkfecngimlcfoaa
namespace Go.Proofs.Ytkfecngimlcfoaa
namespace Idl
def XY:=ABY @decide_true<|ABY @decide_false<|ABY @Bool.not_true<|ABY @Bool.not_false<|ABY @List.map_cons.{0,0}<|ABY @List.map_nil.{0,0}<|ABY @List.length_map.{0,0}<|ABY @List.length_cons.{0}<|ABY @List.length_nil.{0}<|ABY @Int.natCast_zero<|ABY @Int.natCast_one<|ABY @Bool.false_eq_true<|ABY @Bool.true_eq_false<|ABY @decide_eq_true_eq<|ABY @eq_self.{1}<|ABY @Bool.and_true<|ABY @Bool.true_and<|ABY @Bool.and_false<|ABY @Bool.false_and<|ABY @Nat.zero_add<|@Int.cast_ofNat_Int
def XE:=ABY @List.any_cons.{0}<|ABY @List.any_nil.{0}<|ABY @List.all_cons.{0}<|ABY @List.all_nil.{0}<|ABY @List.filter_cons.{0}<|ABY @List.filter_nil.{0}<|ABY @List.contains_cons.{0}<|ABY @List.contains_nil.{0}<|ABY @Bool.or_false<|ABY @Bool.or_true<|ABY @Bool.false_or<|ABY @Bool.true_or<|ABY @Bool.and_self<|ABY @Bool.not_eq_true<|ABY @BEq.rfl.{0}<|@beq_self_eq_true.{0}
def XX:=ABY @n0<|ABY @n1<|ABY @n2<|ABY @n3<|ABY @n4<|ABY @n5<|ABY @n6<|ABY @d0<|ABY @d1<|ABY @d2<|ABY @d3<|ABY @d4<|ABY @t1<|ABY @t2<|ABY @t3<|ABY @t4<|ABY @t7<|ABY @ap0<|ABY @ap1<|ABY @Aww<|ABY @c_t<|ABY @c_f<|ABY @Mw<|ABY @AwG<|ABY @Aq1<|ABY @ArN<|ABY @Aw3<|ABY @Arg<|ABY @Asm<|ABY @Av4<|ABY @AuB<|ABY @Agh<|ABY @Aol<|ABY @sn0<|ABY @Axi<|ABY @Axm<|ABY @AwR<|ABY @AwW<|ABY @Awv<|ABY @VW<|ABY @AnB<|ABY @Aso<|ABY @Anp<|ABY @AwY<|ABY @Awx<|ABY @Aon<|ABY @Ao6<|ABY @Ao5<|ABY @Auh<|ABY @AsY<|ABY @Asx<|ABY @Ank<|ABY @AuW<|ABY @Atl<|ABY @Aoq<|ABY @Ar3<|ABY @Aqr<|ABY @Axk<|ABY @AvC<|ABY @Aqc<|ABY @Ats<|ABY @AoR<|ABY @VI<|ABY @TY<|ABY @AyF<|ABY @JZ<|ABY @YU<|ABY @AkB<|ABY @XQ<|ABY @Ato<|ABY @ArB<|ABY @Aru<|ABY @AuH<|ABY @AtP<|ABY @AtM<|ABY @Aup<|ABY @Awd<|ABY @AtS<|ABY @Aqx<|ABY @AsH<|ABY @Ajd<|ABY @Aqg<|ABY @Akz<|ABY @Anf<|ABY @Aod<|ABY @AoM<|ABY @AiT<|ABY @AvQ<|ABY @Av5<|ABY @AyD<|ABY @Azf<|ABY @Asb<|ABY @AsA<|ABY @wr0<|ABY @wr1<|ABY @sf0<|ABY @sf1<|ABY @sf2<|ABY @sf3<|ABY @sf4<|ABY @of0<|ABY @of1<|ABY @of2<|ABY @of3<|ABY @of6<|ABY @AyL<|ABY @Amr<|ABY @Ay2<|ABY @sc3<|ABY @Azg<|ABY @AyP<|ABY @AvX<|ABY @Axy<|ABY @Avu<|ABY @AjV<|ABY @Ayf<|ABY @Ayo<|ABY @Ayt<|ABY @AyV<|ABY @AwN<|ABY @fk0<|ABY @fk1<|ABY @Arw<|ABY @ArP<|ABY @nb3<|ABY @nb4<|ABY @nb7<|ABY @nl3<|ABY @AsX<|ABY @Av8<|ABY @Awm<|ABY @AwP<|ABY @AmI<|ABY @Qk<|ABY @Ayq<|ABY @Azw<|ABY @Azq<|ABY @Ay9<|ABY @AyM<|ABY @Azd<|ABY @Axv<|ABY @AwA<|ABY @AyQ<|ABY @Ayr<|ABY @Ayp<|ABY @Azl<|ABY @Azn<|ABY @Ayh<|ABY @Avw<|ABY @Awf<|ABY @AwV<|ABY @Awu<|ABY @Ayv<|ABY @ch0<|ABY @ch1<|ABY @dj0<|ABY @djn<|ABY @dj1<|ABY @an0<|ABY @an1<|ABY @AyH<|ABY @AvT<|ABY @Av0<|ABY @Ayz<|ABY @AyZ<|ABY @AyW<|ABY @AyY<|ABY @Ays<|ABY @Axu<|ABY @AxH<|ABY @AwL<|ABY @AvJ<|ABY @Avq<|ABY @Bt<|ABY @Azt<|ABY @Aze<|ABY @AyA<|ABY @AnP<|ABY @AnK<|ABY @Ao7<|ABY @Aoy<|ABY @AwU<|ABY @An1<|ABY @AuR<|ABY @AnT<|ABY @Ar4<|ABY @AwD<|ABY @Apc<|ABY @Auy<|ABY @AoQ<|ABY @Arp<|ABY @Azz<|ABY @Azx<|ABY @ArJ<|ABY @WJ<|ABY @Ahq<|ABY @Awp<|ABY @Amv<|ABY @Kz<|@gen_val'
def Ev (f:FuncId) (args:List IV) (w:FV):Prop:=∃N,∀n,N<=n->AZ (SS dt n f args ⟨[],[]⟩) w
theorem Bc {F:(List IV->Hp->Option (IV×Hp))->List IV->Hp->Option (IV×Hp)} {Q:Option (IV×Hp)->Prop} (P:Nat->List IV->Hp->Prop)
  (step:∀k V H rec,P k V H->(∀k' V' H',k' < k->P k' V' H'->Q (rec V' H'))->Q (F rec V H)):∀m k V H,k<m->P k V H->Q (BH m F V H):=by
 intro m
 induction m with
 | zero=>intro k V H h;omega
 | succ m ih=>intro k V H hk hP;exact step k V H (BH m F) hP fun k' V' H' h1 h2=>ih k' V' H' (by omega) h2
mutual
def Tm.wt:Tm->Nat
 | .mk _ _ l=>1+Tm.wtL l
def Tm.wtL:List Tm->Nat
 | []=>0
 | t::l=>t.wt+Tm.wtL l
end
theorem CZ {t:Tm}:∀{l:List Tm},t∈l->t.wt<=Tm.wtL l
 | a::l,h=>by
  rcases List.mem_cons.1 h with rfl | h
  ·simp only [Tm.wtL];omega
  ·have:=CZ h;simp only [Tm.wtL];omega
theorem Fj:∀(l:List Tm),l.length<=Tm.wtL l
 | []=>Nat.zero_le _
 | (.mk _ _ k)::l=>by have:=Fj l;simp only [Tm.wtL,Tm.wt,AB3];omega
theorem DV (t:Tm):0<t.wt:=by cases t;simp only [Tm.wt];omega
theorem Am (op n:Int) (l:List Tm):(Tm.mk op n l).enc=.agg [.int .i64 op,.int .i64 n,.sl (l.map Tm.enc)]:=by simp only [Tm.enc,Zv]
theorem AM {l:List Tm} {i:Nat} {op n:Int} {k:List Tm} (h:l[i]?=some (.mk op n k)):(l.map Tm.enc)[i]?=some (.agg [.int .i64 op,.int .i64 n,.sl (k.map Tm.enc)]):=by
 rw [List.getElem?_map,h,AB2,Am]
theorem CC {α:Type} {l pre rest:List α} {a:α} (h:l=pre++a::rest):l[pre.length]?=some a:=by
 rw [h,List.getElem?_append_right (Nat.le_refl _),Nat.sub_self];rfl
theorem Cd (a b c:FV):(FV.agg [a,b,c]).cells=[a,b,c]:=rfl
theorem Bg (a b c:FV):(FV.agg [a,b,c]).cells.length=3:=rfl
section
variable {β:Type} {E:Env}
def Akr (b:Blk) (n sz:Nat) (x:Option β):Option β:=match b with
 | .tok a s=>if a=n/\s=sz then x else none
 | _=>none
theorem Hl (n sz:Nat) (x:Option β):Akr (.tok n sz) n sz x=x:=by
 show (if n=n/\sz=sz then x else none)=x
 rw [if_pos ⟨rfl,rfl⟩]
inductive Plain2:IV->List FV->Prop
 | clip (es:List FV):Plain2 (.clip es) es
 | sl (es:List FV):Plain2 (.fv (.sl es)) es
 | app (r:Ref) (es:List FV):Plain2 (.app r es) es
theorem WF {x:IV} {es:List FV} (h:Plain2 x es):Dc 4096 x=.ret (.sl es,[]):=by cases h<;>rfl
structure SliceT (E:Env) (t:TypeId) (size:Nat):Prop where
 h:∃a b e z ei,E.T t=some ⟨a,b,.slice e,z⟩/\E.T e=some ei/\ei.size=size/\size≠0/\ei.bytes<=100000
theorem HS {t:TypeId} {size:Nat} (T:SliceT E t size) {x:IV} {es2:List FV} (hx:Plain2 x es2) (h1:BG size es2=true) (hne:es2.isEmpty=false) (hb:es2.length<=1000000) {s0:IV} (hs:s0=.nils\/s0=.clip []) (s:Nat) (own:List (Nat×Blk)) (ext:List Blk)
  (k:IV->Hp->List Ref->List Ref->Option β):Ay (AO E s false .append [t,t] [s0,x]) s ⟨own,ext⟩ k=C0 own s (A4 own s (.tok es2.length size) fun own=>k (.app (.own s) es2) ⟨own,ext⟩ [] [.own s]):=by
 obtain ⟨a,b,e,z,ei,hT,he,rfl,h0,hby⟩:=T.h;have hlen:¬ (BG ei.size []=false\/(([]:List FV).length+es2.length) * ei.bytes > 140737488355328\/([]:List FV).length+es2.length > 1073741824):=by
  have:es2.length * ei.bytes<=1000000 * 100000:=Nat.mul_le_mul hb hby
  rintro (h | h | h)
  ·cases h
  ·simp only [List.length_nil,Nat.zero_add] at h;omega
  ·simp only [List.length_nil,Nat.zero_add] at h;omega
 have key:AO E s false .append [t,t] [s0,x]=.ret { eff:={ val:=.app (.own s) es2,upd:=[] },new:=some (.tok es2.length ei.size) }:=by
  show Fs E s t (some t) false s0 x=_
  simp only [Fs,hT,Option.bind_some,he,WF hx,Rd.bind,h0,h1,false_or,Bool.true_eq_false,if_false];rcases hs with rfl | rfl<;>simp only [Cj,if_neg hlen,hne,List.nil_append,Bool.false_eq_true,if_false]
 rw [key];unfold Ay;simp only [Rd.runLog]
 show (J8 (some (.tok es2.length ei.size)) s ⟨own,ext⟩ fun h=>fV 3 (.app (.own s) es2) fun v=>k v h [] ([]++[.own s]))=_
 simp only [J8,C1,Cy];rfl
theorem YF {t:TypeId} {size:Nat} (T:SliceT E t size) {x:IV} (hx:Plain2 x []) {s0:IV} (hs:s0=.nils\/s0=.clip []) (s:Nat) (h:Hp) (k:IV->Hp->List Ref->List Ref->Option β) :
  Ay (AO E s false .append [t,t] [s0,x]) s h k=k s0 h [] []:=by
 obtain ⟨a,b,e,z,ei,hT,he,rfl,h0,hby⟩:=T.h;have hlen:¬ (BG ei.size []=false\/(([]:List FV).length+([]:List FV).length) * ei.bytes > 140737488355328\/([]:List FV).length+([]:List FV).length > 1073741824):=by
  rintro (h | h | h)
  ·cases h
  ·simp at h
  ·simp at h
 have key:AO E s false .append [t,t] [s0,x]=.ret { eff:={ val:=s0,upd:=[] } }:=by
  show Fs E s t (some t) false s0 x=_
  have h1:BG ei.size []=true:=rfl;simp only [Fs,hT,Option.bind_some,he,WF hx,Rd.bind,h0,h1,false_or,Bool.true_eq_false,if_false];rcases hs with rfl | rfl
  ·simp only [Cj];rw [if_neg hlen];simp
  ·simp only [Cj];rw [if_neg hlen];simp
 rw [key];exact Kz s0 s h k
theorem Qu {t:TypeId} {size:Nat} (T:SliceT E t size) {x:IV} {es es2:List FV} (hx:Plain2 x es2) (h1:BG size es2=true) (h2:BG size es=true) (ho:(es2.all fun e=>e.cells.all FV.one)=true) (hb:es.length+es2.length<=1000000) (r s:Nat)
  (own:List (Nat×Blk)) (ext:List Blk) (k:IV->Hp->List Ref->List Ref->Option β):Ay (AO E s false .append [t,t] [.app (.own r) es,x]) s ⟨own,ext⟩ k =
   G6 own r fun b=>Akr b es.length size (A4 own r (.tok (es.length+es2.length) size) fun own=>k (.app (.own r) (es++es2)) ⟨own,ext⟩ [.own r] [.own r]):=by
 obtain ⟨a,b,e,z,ei,hT,he,rfl,h0,hby⟩:=T.h;have hlen:¬ (BG ei.size es=false\/(es.length+es2.length) * ei.bytes > 140737488355328\/es.length+es2.length > 1073741824):=by
  have:(es.length+es2.length) * ei.bytes<=1000000 * 100000:=Nat.mul_le_mul hb hby
  rintro (h | h | h)
  ·rw [h2] at h;cases h
  ·omega
  ·omega
 have key:(AO E s false .append [t,t] [.app (.own r) es,x]).runLog ⟨own,ext⟩ []=(Ao r own).bind fun b=>match b with
   | .tok n sz=>if n=es.length/\sz=ei.size then some ({ eff:={ val:=.app (.own r) (es++es2),upd:=[(.own r,.tok (n+es2.length) sz)] } },[.own r]) else none
   | _=>none:=by
  show (Fs E s t (some t) false (.app (.own r) es) x).runLog _ _=_
  simp only [Fs,hT,Option.bind_some,he,WF hx,Rd.bind,h0,h1,false_or,Bool.true_eq_false,if_false,Cj,if_neg hlen,Rd.runLog,ho,and_true]
  show (match Ao r own with | some b=>_ | none=>none)=_
  cases Ao r own with
  | none=>rfl
  | some b =>
   cases b with
   | tok n sz =>
    simp only [Option.bind_some];by_cases hc:n=es.length/\sz=ei.size
    ·rw [if_pos hc,if_pos hc];rfl
    ·rw [if_neg hc,if_neg hc];rfl
   | _=>rfl
 unfold Ay;rw [key,BC];cases hl:Ao r own with
 | none=>simp
 | some b =>
  simp only [Option.bind_some];cases b with
  | tok n sz =>
   simp only [Akr];by_cases hc:n=es.length/\sz=ei.size
   ·rw [if_pos hc,if_pos hc];obtain ⟨rfl,rfl⟩:=hc
    show (fRf (.own r) fun q=>Dp q ⟨own,ext⟩ fun _=>fBk (.tok (es.length+es2.length) ei.size) fun b=>Gg q b ⟨own,ext⟩ fun h=>J8 none s h fun h=>fV 3 (.app (.own r) (es++es2)) fun v=>k v h [.own r] ([.own r]++[]))=_
    simp only [Pt,C1,Cy,J8,Gg,Dp];rw [BC,hl];rfl
   ·rw [if_neg hc,if_neg hc]
  | row _ _=>rfl
  | map _=>rfl
end
end Idl
end Go.Proofs.Ytkfecngimlcfoaa
namespace Go.Proofs.Ytkfecngimlcfoaa
namespace Idl
theorem RK:EE.T 28=some ⟨1,24,.slice 30,[.nils]⟩:=by kernel_rfl
theorem tTm:EE.T 30=some ⟨3,40,.struct [(0,3),(1,3),(2,28)],[.fv (.int .i64 0),.fv (.int .i64 0),.nils]⟩:=by kernel_rfl
theorem sTm:SliceT EE 28 3:=⟨_,_,_,_,_,RK,tTm,rfl,by decide,by decide⟩
theorem Kf (a:Tm) (s:Nat) (h:Hp) (k:IV->Hp->List Ref->List Ref->Option (IV×Hp)):Ay (Ak EE 28 1 [(0,.fv a.enc)]) s h k=k (.clip [a.enc]) h [] []:=by
 obtain ⟨o1,n1,k1⟩:=a;exact Cv RK tTm (by decide) (cells:=[.int .i64 o1,.int .i64 n1,.sl (Tm.enc.encL k1)]) rfl k
theorem Auo (a b:Tm) (s:Nat) (h:Hp) (k:IV->Hp->List Ref->List Ref->Option (IV×Hp)):Ay (Ak EE 28 2 [(0,.fv a.enc),(1,.fv b.enc)]) s h k=k (.clip [a.enc,b.enc]) h [] []:=by
 obtain ⟨o1,n1,k1⟩:=a;obtain ⟨o2,n2,k2⟩:=b;exact Cv RK tTm (by decide) (cells:=[.int .i64 o1,.int .i64 n1,.sl (Tm.enc.encL k1),.int .i64 o2,.int .i64 n2,.sl (Tm.enc.encL k2)]) rfl k
theorem Anr (a:Tm):a.enc.cells.length=3:=by cases a;rfl
theorem AoP (a:Tm):a.enc.cells.all FV.one=true:=by cases a;rfl
theorem Kt (l:List Tm):BG 3 (l.map Tm.enc)=true:=by
 cases l with
 | nil=>rfl
 | cons a l=>simp only [AB5,BG,Anr,beq_self_eq_true]
theorem Sz (e:Tm) (s:Nat) (own:List (Nat×Blk)) (ext:List Blk) (k:IV->Hp->List Ref->List Ref->Option (IV×Hp)) :
  Ay (AO EE s false .append [28,28] [.nils,.clip [e.enc]]) s ⟨own,ext⟩ k=C0 own s (A4 own s (.tok 1 3) fun own=>k (.app (.own s) [e.enc]) ⟨own,ext⟩ [] [.own s]) :=
 HS sTm (.clip _) (Kt [e]) rfl (by simp) (.inl rfl) s own ext k
theorem Kq {es:List Tm} (hb:es.length+1<=1000000) (e:Tm) (r s:Nat) (own:List (Nat×Blk)) (ext:List Blk) (k:IV->Hp->List Ref->List Ref->Option (IV×Hp)) :
  Ay (AO EE s false .append [28,28] [.app (.own r) (es.map Tm.enc),.clip [e.enc]]) s ⟨own,ext⟩ k =
   G6 own r fun b=>Akr b es.length 3 (A4 own r (.tok (es.length+1) 3) fun own=>k (.app (.own r) ((es++[e]).map Tm.enc)) ⟨own,ext⟩ [.own r] [.own r]):=by
 rw [Qu sTm (.clip [e.enc]) (Kt [e]) (Kt es) (by simp [AoP]) (by simpa using hb) r s own ext k];simp only [List.length_map,List.map_append,AB5,AB4,AB3,List.length_nil,Nat.zero_add]
theorem Arz {x m:Int} (h1:0<m) (h2:m<=4611686018427387904):(if x.tmod m<0 then BK (x.tmod m+m) else x.tmod m)=x % m:=by
 have a1:=Int.emod_nonneg x (show m≠0 by omega)
 have a2:=Int.emod_lt_of_pos x h1;have e1:x.tmod m=x - m * x.tdiv m:=by have:=Int.mul_tdiv_add_tmod x m;omega
 have e2:x % m=x - m * (x / m):=by have:=Int.mul_ediv_add_emod x m;omega
 have b1:-m<x.tmod m:=Int.lt_tmod_of_pos x h1;have b2:x.tmod m<m:=Int.tmod_lt_of_pos x h1;have key:∃q,x.tmod m=x % m+m * q:=⟨x / m - x.tdiv m,by rw [e1,e2,Int.mul_sub];omega⟩;obtain ⟨q,hq⟩:=key;have hq2:q=0\/q=-1:=by
  rcases Int.lt_trichotomy q 0 with h | h | h
  ·right;rcases Int.lt_trichotomy q (-1) with h' | h' | h'
   ·have:m * q<=m * (-2):=Int.mul_le_mul_of_nonneg_left (by omega) (by omega)
    omega
   ·exact h'
   ·omega
  ·exact .inl h
  ·have:m * 1<=m * q:=Int.mul_le_mul_of_nonneg_left (by omega) (by omega)
   omega
 rcases hq2 with rfl | rfl
 ·rw [if_neg (by omega)];omega
 ·rw [if_pos (by omega),Av (by omega) (by omega)];omega
theorem As {n:Nat} (hn:0<n) (x:Int) {m:Int} (h1:0<m) (h2:m<=4611686018427387904):AZ (SS dt n 55 [iv x,iv m] ⟨[],[]⟩) (.int .i64 (x % m)):=by
 obtain ⟨n,rfl⟩:=Nat.exists_eq_add_of_lt hn;rw [Nat.zero_add,c55];simp only [S55,↓XX,XY,↓reduceIte,Nat.reduceBEq,Nat.reduceAdd,Int.reduceEq,Int.reduceLT,Int.reduceLE,↓Qk (show m≠0 by omega)]
 rw [<- Arz h1 h2];by_cases hc:x.tmod m<0<;>simp only [hc,if_true,if_false]<;>exact An _ _
theorem BE {n:Nat} (hn:0<n) (op:Int):AZ (SS dt n 24 [iv op,.fv (.sl [])] ⟨[],[]⟩) (Tm.mk op 0 []).enc:=by
 obtain ⟨n,rfl⟩:=Nat.exists_eq_add_of_lt hn;rw [Nat.zero_add,c24];simp only [S24,↓XX,XY,↓reduceIte,Nat.reduceBEq,Nat.reduceAdd,Int.reduceEq,Int.reduceLT,Int.reduceLE];exact An _ _
theorem CO {n:Nat} (hn:0<n) (op:Int) (l:List Tm):AZ (SS dt n 24 [iv op,.fv (.sl (l.map Tm.enc))] ⟨[],[]⟩) (Tm.mk op 0 l).enc:=by
 obtain ⟨n,rfl⟩:=Nat.exists_eq_add_of_lt hn;rw [Nat.zero_add,c24];simp only [S24,↓XX,XY,↓reduceIte,Nat.reduceBEq,Nat.reduceAdd,Int.reduceEq,Int.reduceLT,Int.reduceLE,Am];exact An _ _
def Tm.kids:Tm->List Tm
 | .mk _ _ l=>l
def Tm.op:Tm->Int
 | .mk o _ _=>o
def Tm.n:Tm->Int
 | .mk _ n _=>n
def Tm.pick (r:Tm) (i:Nat):Tm:=match r.kids[i]? with
 | some k=>k
 | none=>.mk (BK (BK (r.op.tdiv 3)+i)) (BK (BK (r.n.tdiv 5)+BK (7 * i))) []
theorem AL {n:Nat} (hn:0<n) (r:Tm) (i:Nat):AZ (SS dt n 56 [.fv r.enc,iv i] ⟨[],[]⟩) (r.pick i).enc:=by
 obtain ⟨n,rfl⟩:=Nat.exists_eq_add_of_lt hn;rw [Nat.zero_add,c56];obtain ⟨op,m,ks⟩:=r;rw [Am];simp only [Tm.pick,Tm.kids,Tm.op,Tm.n];cases hk:ks[i]? with
 | some k =>
  have hi:(i:Int)<ks.length:=by have:=(List.getElem?_eq_some_iff.1 hk).1;omega
  obtain ⟨o,p,l⟩:=k;simp only [XM,WK,Wp,WW,S56,↓XX,XY,↓reduceIte,Nat.reduceBEq,Nat.reduceAdd,Int.reduceEq,Int.reduceLT,Int.reduceLE,hi,↓Bt (AM hk) (Bg _ _ _),↓Cd,Am];exact An _ _
 | none =>
  have hi:¬ (i:Int)<ks.length:=by have:=List.getElem?_eq_none_iff.1 hk;omega
  simp only [XM,WK,Wp,WW,S56,↓XX,XY,↓reduceIte,Nat.reduceBEq,Nat.reduceAdd,Int.reduceEq,Int.reduceLT,Int.reduceLE,hi,↓AmI (show (3:Int)≠0 by decide),↓AmI (show (5:Int)≠0 by decide)]
  exact Bb rfl _
section
variable {β:Type}
def Cm (s:Nat):IV->Bool
 | .ptr (.own j) _=>s == j
 | .slc (.own j) _ _=>s == j
 | .app (.own j) _=>s == j
 | .mapr (.own j)=>s == j
 | _=>false
def Gb:IV->Bool
 | .agg _ | .tuple _ | .func ..=>false
 | _=>true
def Gc (s:Nat):Blk->Bool
 | .row cells _=>cells.any (Cm s)
 | _=>false
def Vb:Blk->Bool
 | .row cells _=>cells.all Gb
 | .tok ..=>true
 | .map _=>false
theorem AhH {v:IV} (h:Gb v=true) (s:Nat):(Ref.own s∈v.refs) ↔ Cm s v=true:=by
 cases v with
 | ptr r o=>cases r<;>simp [IV.refs,Cm]
 | slc r a b=>cases r<;>simp [IV.refs,Cm]
 | app r es=>cases r<;>simp [IV.refs,Cm]
 | mapr r=>cases r<;>simp [IV.refs,Cm]
 | agg _=>cases h
 | tuple _=>cases h
 | func _ _ _=>cases h
 | _=>simp [IV.refs,Cm]
theorem J3:∀{l:List IV},l.all Gb=true->∀s,(Ref.own s∈IV.refs.refsL l) ↔ l.any (Cm s)=true
 | [],_,s=>by simp [IV.refs.refsL]
 | v::l,h,s=>by
  rw [List.all_cons,Bool.and_eq_true] at h;rw [IV.refs.refsL,List.mem_append,List.any_cons,Bool.or_eq_true,AhH h.1,J3 h.2]
theorem Et {b:Blk} (h:Vb b=true) (s:Nat):(Ref.own s∈b.refs) ↔ Gc s b=true:=by
 cases b with
 | row cells ro=>exact J3 h s
 | tok n sz=>simp [Blk.refs,Gc]
 | map es=>cases h
theorem Jm (s:Nat):∀l:List Ref,anyIn [s] l=true ↔ Ref.own s∈l
 | []=>by simp [anyIn]
 | .own k::l=>by
  rw [anyIn,Bool.or_eq_true,Jm s l,List.mem_cons];simp [eq_comm]
 | .ext k::l=>by
  rw [anyIn,Jm s l,List.mem_cons];simp
def heldB (rm:List Nat) (vals:List IV) (own:List (Nat×Blk)) (ext:List Blk) (s:Nat):Bool :=
 vals.any (Cm s) || (own.any (fun p=>!rm.contains p.1 && Gc s p.2) || ext.any (Gc s))
def Ik (rm:List Nat) (vals:List IV) (own:List (Nat×Blk)) (ext:List Blk):List (Nat×Blk):=own.filter fun p=>!rm.contains p.1 || heldB rm vals own ext p.1
def AR (rm:List Nat) (vals:List IV) (own:List (Nat×Blk)) (ext:List Blk):Bool :=
 vals.all Gb && (own.all (fun p=>Vb p.2) && (ext.all Vb && own.all fun p=>!rm.contains p.1 || rm.all fun s=>!Gc s p.2))
theorem VZ {rm:List Nat} {vals:List IV} {own:List (Nat×Blk)} {ext:List Blk} (hf:AR rm vals own ext=true) (s:Nat) :
  Ref.own s∈IV.refs.refsL vals++(own.filter fun p=>!rm.contains p.1).flatMap (fun p=>p.2.refs)++ext.flatMap Blk.refs ↔ heldB rm vals own ext s=true:=by
 simp only [AR,Bool.and_eq_true] at hf;obtain ⟨h1,h2,h3,_⟩:=hf;have e1:Ref.own s∈(own.filter fun p=>!rm.contains p.1).flatMap (fun p=>p.2.refs) ↔ (own.any fun p=>!rm.contains p.1 && Gc s p.2)=true:=by
  rw [List.mem_flatMap,List.any_eq_true];constructor
  ·rintro ⟨p,hp,hr⟩;obtain ⟨hp1,hp2⟩:=List.mem_filter.1 hp;exact ⟨p,hp1,by rw [hp2,(Et (List.all_eq_true.1 h2 p hp1) s).1 hr];rfl⟩
  ·rintro ⟨p,hp,hr⟩;rw [Bool.and_eq_true] at hr;exact ⟨p,List.mem_filter.2 ⟨hp,hr.1⟩,(Et (List.all_eq_true.1 h2 p hp) s).2 hr.2⟩
 have e2:Ref.own s∈ext.flatMap Blk.refs ↔ ext.any (Gc s)=true:=by
  rw [List.mem_flatMap,List.any_eq_true];constructor
  ·rintro ⟨p,hp,hr⟩;exact ⟨p,hp,(Et (List.all_eq_true.1 h3 p hp) s).1 hr⟩
  ·rintro ⟨p,hp,hr⟩;exact ⟨p,hp,(Et (List.all_eq_true.1 h3 p hp) s).2 hr⟩
 rw [List.mem_append,List.mem_append,J3 h1,e1,e2,heldB,Bool.or_eq_true,Bool.or_eq_true,or_assoc]
theorem AI {base rm:List Nat} {vals:List IV} {own:List (Nat×Blk)} {ext:List Blk} (hb:rm.any base.contains=false) (hf:AR rm vals own ext=true) (k:Hp->Option β) :
  Bx base rm vals ⟨own,ext⟩ k=k ⟨Ik rm vals own ext,ext⟩:=by
 have hm:=VZ hf;have hf0:=hf;simp only [AR,Bool.and_eq_true] at hf0;obtain ⟨g1,g2,g3,g4⟩:=hf0;unfold Bx;rw [hb];simp only [cond_false];rw [Nu];cases ha:(own.all fun p=>!rm.contains p.1) with
 | true =>
  simp only [Bool.not_true,cond_false];congr 2
  symm
  apply List.filter_eq_self.2;intro p hp;rw [List.all_eq_true.1 ha p hp];rfl
 | false =>
  simp only [Bool.not_false,cond_true];have slow:(match CL base [] rm ⟨vals,⟨own,ext⟩⟩ with | none=>none | some S=>fH S.hp k)=k ⟨Ik rm vals own ext,ext⟩:=by
   have hgone:(rm.filter fun k=>!anyIn [k] (IV.refs.refsL vals++(own.filter fun p=>!rm.contains p.1).flatMap (fun p=>p.2.refs)++ext.flatMap Blk.refs))=rm.filter fun s=>!heldB rm vals own ext s:=by
    apply List.filter_congr;intro s _;congr 1;exact Bool.eq_iff_iff.2 ((Jm s _).trans (hm s))
   have hown:(own.filter fun p=>!(rm.filter fun s=>!heldB rm vals own ext s).contains p.1)=Ik rm vals own ext:=by
    apply List.filter_congr;intro p _;rw [Bool.eq_iff_iff];simp only [Bool.not_eq_true',Bool.or_eq_true,List.contains_eq_mem,decide_eq_false_iff_not,List.mem_filter];constructor
    ·intro h;by_cases h1:p.1∈rm
     ·right;cases hh:heldB rm vals own ext p.1 with
      | true=>rfl
      | false=>exact absurd ⟨h1,hh⟩ h
     ·exact .inl h1
    ·rintro (h | h) ⟨h1,h2⟩
     ·exact h h1
     ·rw [h] at h2;exact absurd h2 (by simp)
   simp only [CL,hb,Bool.false_eq_true,if_false,AY,ha,hgone,hown];have hnone:anyIn (rm.filter fun s=>!heldB rm vals own ext s) (C9 ⟨vals,⟨Ik rm vals own ext,ext⟩⟩)=false:=by
    apply Ey;intro s hs hmem;obtain ⟨hs1,hs2⟩:=List.mem_filter.1 hs;have hs2:heldB rm vals own ext s=false:=by simpa using hs2
    simp only [C9,List.mem_append] at hmem;rcases hmem with (hmem | hmem) | hmem
    ·have:=(hm s).1 (List.mem_append_left _ (List.mem_append_left _ hmem))
     rw [this] at hs2;cases hs2
    ·obtain ⟨p,hp,hr⟩:=List.mem_flatMap.1 hmem;have hp1:=(List.mem_filter.1 hp).1;have hn:=(Et (List.all_eq_true.1 g2 p hp1) s).1 hr;have h4:=List.all_eq_true.1 g4 p hp1;cases hc:rm.contains p.1 with
     | true =>
      rw [hc] at h4;have h4:(rm.all fun s=>!Gc s p.2)=true:=h4;have h5:=List.all_eq_true.1 h4 s hs1;rw [hn] at h5;cases h5
     | false =>
      have:=(hm s).1 (List.mem_append_left _ (List.mem_append_right _ (List.mem_flatMap.2 ⟨p,List.mem_filter.2 ⟨hp1,by rw [hc];rfl⟩,hr⟩)))
      rw [this] at hs2;cases hs2
    ·have:=(hm s).1 (List.mem_append_right _ hmem)
     rw [this] at hs2;cases hs2
   simp only [hnone,Bool.false_eq_true,if_false,MG]
  cases hff:(and (Gd rm (CK vals [])) (and (Iw rm own) (JM rm ext))) with
  | false=>exact slow
  | true =>
   have hff:(Gd rm (CK vals []) && (Iw rm own && JM rm ext))=true:=hff;simp only [Bool.and_eq_true] at hff;simp only [H7,cond_true];congr 2;apply List.filter_congr;intro p hp;cases hc:rm.contains p.1 with
   | false=>rfl
   | true =>
    have h1:=F8 hff.1;rw [refsDL_eq,List.append_nil] at h1;have h2:=H1 hff.2.1;have h3:=NF hff.2.2
    have:heldB rm vals own ext p.1=false:=by
     cases hh:heldB rm vals own ext p.1 with
     | false=>rfl
     | true =>
      have:=(hm p.1).2 hh
      have hpm:p.1∈rm:=List.contains_iff_mem.1 hc;rcases List.mem_append.1 this with h | h
      ·rcases List.mem_append.1 h with h | h
       ·exact absurd h (h1 _ hpm)
       ·exact absurd h (h2 _ hpm)
      ·exact absurd h (h3 _ hpm)
    rw [this];rfl
end
section
variable (s j:Nat)
theorem AyJ (rm:List Nat) (vals:List IV) (own:List (Nat×Blk)) (ext:List Blk):Ik rm vals own ext=own.filter fun p=>!rm.contains p.1 || heldB rm vals own ext p.1:=rfl
theorem nv1 (o:Nat):Cm s (.ptr (.own j) o)=(s == j):=rfl
theorem nv2 (a b:Nat):Cm s (.slc (.own j) a b)=(s == j):=rfl
theorem nv3 (es:List FV):Cm s (.app (.own j) es)=(s == j):=rfl
theorem nv4 (v:FV):Cm s (.fv v)=false:=rfl
theorem nv5:Cm s .nils=false:=rfl
theorem nv6 (es:List FV):Cm s (.clip es)=false:=rfl
theorem nv7 (o:Nat):Cm s (.ptr (.ext j) o)=false:=rfl
theorem nv8:Cm s .dead=false:=rfl
theorem nb1 (cs:List IV) (ro:Bool):Gc s (.row cs ro)=cs.any (Cm s):=rfl
theorem nb2 (a b:Nat):Gc s (.tok a b)=false:=rfl
theorem Azk (r:Ref) (o:Nat):Gb (.ptr r o)=true:=rfl
theorem AyC (r:Ref) (a b:Nat):Gb (.slc r a b)=true:=rfl
theorem Azp (r:Ref) (es:List FV):Gb (.app r es)=true:=rfl
theorem AyB (v:FV):Gb (.fv v)=true:=rfl
theorem Azh:Gb .nils=true:=rfl
theorem AyU (es:List FV):Gb (.clip es)=true:=rfl
theorem AyN:Gb .dead=true:=rfl
theorem Azu (cs:List IV) (ro:Bool):Vb (.row cs ro)=cs.all Gb:=rfl
theorem fb_2 (a b:Nat):Vb (.tok a b)=true:=rfl
end
def XD:=ABY @AyJ<|ABY @nv1<|ABY @nv2<|ABY @nv3<|ABY @nv4<|ABY @nv5<|ABY @nv6<|ABY @nv7<|ABY @nv8<|ABY @nb1<|ABY @nb2<|ABY @Azk<|ABY @AyC<|ABY @Azp<|ABY @AyB<|ABY @Azh<|ABY @AyU<|ABY @AyN<|ABY @Azu<|@fb_2
end Idl
end Go.Proofs.Ytkfecngimlcfoaa
namespace Go.Proofs.Ytkfecngimlcfoaa
namespace Idl
def Af (op:Int) (i:Nat):Nat :=
 if op=3\/op=4\/op=6\/op=20\/op=28\/op=29 then (if i=1 then 1 else 0) else if op=13 then (if i=0 then 1 else if i=2 then 2 else 0) else 0
theorem Bj (op:Int) (i:Nat):Af op i<=2:=by
 unfold Af
 repeat' split
 all_goals omega
theorem F6 {n:Nat} (hn:0<n) (op:Int) (i:Nat):AZ (SS dt n 54 [iv op,iv i] ⟨[],[]⟩) (.int .i64 (Af op i)):=by
 obtain ⟨n,rfl⟩:∃k,n=k+1:=⟨n - 1,by omega⟩;rw [c54];unfold Af;by_cases h:op=3\/op=4\/op=6\/op=20\/op=28\/op=29
 ·rw [if_pos h];by_cases hi:i=1
  ·subst hi;rcases h with rfl | rfl | rfl | rfl | rfl | rfl<;>(simp only [↓UU4,↓XX,XY,↓reduceIte,Nat.reduceBEq,Nat.reduceAdd,Int.reduceEq,Int.reduceLT,Int.reduceLE];exact An _ _)
  ·have hi':¬ (i:Int)=1:=by omega
   rcases h with rfl | rfl | rfl | rfl | rfl | rfl<;>(simp only [↓UU4,↓XX,XY,↓reduceIte,Nat.reduceBEq,Nat.reduceAdd,Int.reduceEq,Int.reduceLT,Int.reduceLE,hi',hi];exact An _ _)
 ·rw [if_neg h];have h3:¬ op=3:=fun e=>h (by simp [e]);have h4:¬ op=4:=fun e=>h (by simp [e]);have h6:¬ op=6:=fun e=>h (by simp [e]);have h20:¬ op=20:=fun e=>h (by simp [e]);have h28:¬ op=28:=fun e=>h (by simp [e]);have h29:¬ op=29:=fun e=>h (by simp [e]);by_cases h13:op=13
  ·subst h13;by_cases hi:i=0
   ·subst hi;simp only [↓UU4,↓XX,XY,↓reduceIte,Nat.reduceBEq,Nat.reduceAdd,Int.reduceEq,Int.reduceLT,Int.reduceLE];exact An _ _
   ·have hi':¬ (i:Int)=0:=by omega
    by_cases hj:i=2
    ·subst hj;simp only [↓UU4,↓XX,XY,↓reduceIte,Nat.reduceBEq,Nat.reduceAdd,Int.reduceEq,Int.reduceLT,Int.reduceLE];exact An _ _
    ·have hj':¬ (i:Int)=2:=by omega
     simp only [↓UU4,↓XX,XY,↓reduceIte,Nat.reduceBEq,Nat.reduceAdd,Int.reduceEq,Int.reduceLT,Int.reduceLE,hi,hi',hj,hj'];exact An _ _
  ·simp only [↓UU4,↓XX,XY,↓reduceIte,Nat.reduceBEq,Nat.reduceAdd,Int.reduceEq,Int.reduceLT,Int.reduceLE,h3,h4,h6,h20,h28,h29,h13];exact An _ _
theorem Arq {n:Nat} (hn:0<n) (x:Int):AZ (SS dt n 25 [iv x] ⟨[],[]⟩) (Tm.mk 1 x []).enc:=by
 obtain ⟨n,rfl⟩:∃k,n=k+1:=⟨n - 1,by omega⟩;rw [c25];simp only [S25,↓XX,XY,↓reduceIte,Nat.reduceBEq,Nat.reduceAdd,Int.reduceEq,Int.reduceLT,Int.reduceLE];exact Bb rfl _
theorem AiU {n:Nat} (hn:0<n) (x:Int):AZ (SS dt n 47 [iv x] ⟨[],[]⟩) (Tm.mk 2 x []).enc:=by
 obtain ⟨n,rfl⟩:∃k,n=k+1:=⟨n - 1,by omega⟩;rw [c47];simp only [S47,↓XX,XY,↓reduceIte,Nat.reduceBEq,Nat.reduceAdd,Int.reduceEq,Int.reduceLT,Int.reduceLE];exact Bb rfl _
theorem AkY {n:Nat} (hn:0<n) (x:Int):AZ (SS dt n 26 [iv x] ⟨[],[]⟩) (Tm.mk 25 x []).enc:=by
 obtain ⟨n,rfl⟩:∃k,n=k+1:=⟨n - 1,by omega⟩;rw [c26];simp only [S26,↓XX,XY,↓reduceIte,Nat.reduceBEq,Nat.reduceAdd,Int.reduceEq,Int.reduceLT,Int.reduceLE];exact Bb rfl _
mutual
/-- No more than four kids anywhere. -/
def Tm.wk:Tm->Prop
 | .mk _ _ ks=>ks.length<=4/\Tm.wkL ks
def Tm.wkL:List Tm->Prop
 | []=>True
 | t::l=>t.wk/\Tm.wkL l
end
theorem RJ {t:Tm}:∀{l:List Tm},Tm.wkL l->t∈l->t.wk
 | a::l,h,hm=>by
  rw [Tm.wkL] at h;rcases List.mem_cons.1 hm with rfl | hm
  ·exact h.1
  ·exact RJ h.2 hm
mutual
def Tm.shift:Tm->Int->Int->Tm
 | .mk op n ks,d,c=>.mk op (if op=1/\c<=n then BK (n+d) else n) (Tm.shiftL op 0 ks d c)
def Tm.shiftL:Int->Nat->List Tm->Int->Int->List Tm
 | _,_,[],_,_=>[]
 | op,i,t::l,d,c=>t.shift d (c+Af op i)::Tm.shiftL op (i+1) l d c
end
theorem EA (op:Int) (d c:Int):∀(l:List Tm) (i:Nat),(Tm.shiftL op i l d c).length=l.length
 | [],_=>rfl
 | _::l,i=>by simp only [Tm.shiftL,AB3,EA op d c l]
theorem NJ (op d c:Int):∀(l l':List Tm) (i:Nat),Tm.shiftL op i (l++l') d c=Tm.shiftL op i l d c++Tm.shiftL op (i+l.length) l' d c
 | [],l',i=>by simp [Tm.shiftL]
 | t::l,l',i=>by simp only [List.cons_append,Tm.shiftL,NJ op d c l l',AB3];congr 3;omega
theorem CJ:∀(n:Nat) (t:Tm) (d c:Int),t.wt+1<n->t.wk->0<=c->c+2 * t.wt<=4611686018427387904->AZ (SS dt n 45 [.fv t.enc,iv d,iv c] ⟨[],[]⟩) (t.shift d c).enc:=by
 intro n
 induction n with
 | zero=>intro t d c h;omega
 | succ n ih =>
  intro t d c h hw hc0 hc;obtain ⟨op,m,ks⟩:=t;simp only [Tm.wt] at h hc;rw [Tm.wk] at hw;rw [c45,Am];have hlen:=Fj ks;have main:∀m',m'=(if op=1/\c<=m then BK (m+d) else m) ->
    AZ (BH n (fun q28 l29 h30=>IG l29 h30 (SS dt n) ⟨[],[]⟩ q28) [iv d,iv c,.ptr (.own 47185920) 0,.ptr (.own 47185921) 0,.ptr (.own 47186949) 0,iv 0]
     ⟨[(47185920,.row [iv op,iv m,.fv (.sl (ks.map Tm.enc))] false),(47185921,.row [iv 0,iv 0,.nils] false),(47186949,.row [iv op,iv m',.nils] false)],[]⟩) ((Tm.mk op m ks).shift d c).enc:=by
   intro m' hm';refine Bc (Q:=fun r=>AZ r _) (fun k V H=>∃pre rest,ks=pre++rest/\rest.length=k/\V=[iv d,iv c,.ptr (.own 47185920) 0,.ptr (.own 47185921) 0,.ptr (.own 47186949) 0,iv pre.length] /\
    (
     (pre=[]/\H=⟨[(47185920,.row [iv op,iv m,.fv (.sl (ks.map Tm.enc))] false),(47185921,.row [iv 0,iv 0,.nils] false),(47186949,.row [iv op,iv m',.nils] false)],[]⟩) \/
     (pre≠[]/\H=⟨[(47185920,.row [iv op,iv m,.fv (.sl (ks.map Tm.enc))] false),(47185921,.row [iv 0,iv 0,.nils] false),(47186949,.row [iv op,iv m',.app (.own 47193104) ((Tm.shiftL op 0 pre d c).map Tm.enc)] false),(47193104,.tok (Tm.shiftL op 0 pre d c).length 3)],[]⟩)))
    ?_ n ks.length _ _ (by omega) ⟨[],ks,rfl,rfl,rfl,.inl ⟨rfl,rfl⟩⟩
   rintro k V H rec ⟨pre,rest,hk,hl,rfl,hH⟩ hrec;have hkl:ks.length=pre.length+rest.length:=by rw [hk];simp
   cases rest with
   | nil =>
    have hno:¬ ((pre.length:Int)<ks.length):=by rw [hkl];simp
    have hpre:ks=pre:=by simpa using hk
    rcases hH with ⟨rfl,rfl⟩ | ⟨_,rfl⟩
    ·subst hpre;simp only [GB,Gm,Gu,Gz,GI,GD,GT,Gw,IG,GJ,GG,Gv,Gl,GU,S45,↓XX,XY,↓reduceIte,Nat.reduceBEq,Nat.reduceAdd,Int.reduceEq,Int.reduceLT,Int.reduceLE,Int.lt_irrefl,Tm.shift,Tm.shiftL,<- hm',Am];exact Bb rfl _
    ·subst hpre;simp only [GB,Gm,Gu,Gz,GI,GD,GT,Gw,IG,GJ,GG,Gv,Gl,GU,S45,↓XX,XY,↓reduceIte,Nat.reduceBEq,Nat.reduceAdd,Int.reduceEq,Int.reduceLT,Int.reduceLE,Int.lt_irrefl,Tm.shift,<- hm',Am];exact Bb rfl _
   | cons t rest =>
    have hi:(pre.length:Int)<ks.length:=by rw [hkl];simp;omega
    have hg:=CC hk;have htw:=CZ (t:=t) (l:=ks) (by rw [hk];simp);have hb:=F6 (n:=n) (by omega) op pre.length;have hble:=Bj op pre.length;have hs:=ih t d (c+Af op pre.length) (by omega) (RJ hw.2 (by rw [hk];simp)) (by omega) (by omega);have hx:Tm.shiftL op 0 (pre++[t]) d c=Tm.shiftL op 0 pre d c++[t.shift d (c+Af op pre.length)]:=by
     rw [NJ];simp [Tm.shiftL]
    have hwc:BK (c+Af op pre.length)=c+Af op pre.length:=by rw [Av]<;>omega
    have hwi:BK ((pre.length:Int)+1)=((pre++[t]).length:Int):=(Av (by omega) (by omega)).trans (by simp);generalize hu:t.shift d (c+Af op pre.length)=u at hs hx;obtain ⟨o,p,l⟩:=t;simp only [AB3] at hl;rw [Am] at hs;rcases hH with ⟨hp0,rfl⟩ | ⟨hne,rfl⟩
    ·simp only [GB,Gm,Gu,Gz,GI,GD,GT,Gw,IG,GJ,GG,Gv,Gl,GU,S45,↓XX,XY,↓reduceIte,Nat.reduceBEq,Nat.reduceAdd,Int.reduceEq,Int.reduceLT,Int.reduceLE,hi,↓Bt (AM hg) (Bg _ _ _),↓Cd,↓Ag hb,hwc,hwi,↓AJ hs,↓Kf,↓Sz,↓AI,XD,heldB,AR,XE];refine hrec rest.length _ _ (by omega) ?_;refine ⟨pre++[.mk o p l],rest,by rw [hk];simp,rfl,rfl,.inr ⟨by simp,?_⟩⟩;rw [hx,hp0];rfl
    ·have hle:(Tm.shiftL op 0 pre d c).length+1<=1000000:=by rw [EA];omega
     have hq:(Tm.shiftL op 0 pre d c).length=pre.length:=EA ..;simp only [GB,Gm,Gu,Gz,GI,GD,GT,Gw,IG,GJ,GG,Gv,Gl,GU,S45,↓XX,XY,↓reduceIte,Nat.reduceBEq,Nat.reduceAdd,Int.reduceEq,Int.reduceLT,Int.reduceLE,hi,↓Bt (AM hg) (Bg _ _ _),↓Cd,↓Ag hb,hwc,hwi,↓AJ hs,↓Kf,↓Kq hle,↓Hl,↓AI,XD,heldB,AR,XE];refine hrec rest.length _ _ (by omega) ?_;refine ⟨pre++[.mk o p l],rest,by rw [hk];simp,rfl,rfl,.inr ⟨by simp,?_⟩⟩;rw [hx];simp only [List.length_append,AB3,List.length_nil]
  by_cases h1:op=1
  ·by_cases h2:c<=m
   ·subst h1;simp only [GB,Gm,Gu,Gz,GI,GD,GT,Gw,GJ,GG,Gv,Gl,GU,S45,↓XX,XY,↓reduceIte,Nat.reduceBEq,Nat.reduceAdd,Int.reduceEq,Int.reduceLT,Int.reduceLE,h2,↓AI,XD,heldB,AR,XE];exact main _ (by simp [h2])
   ·subst h1;simp only [GB,Gm,Gu,Gz,GI,GD,GT,Gw,GJ,GG,Gv,Gl,GU,S45,↓XX,XY,↓reduceIte,Nat.reduceBEq,Nat.reduceAdd,Int.reduceEq,Int.reduceLT,Int.reduceLE,h2,↓AI,XD,heldB,AR,XE];exact main _ (by simp [h2])
  ·simp only [GB,Gm,Gu,Gz,GI,GD,GT,Gw,GJ,GG,Gv,Gl,GU,S45,↓XX,XY,↓reduceIte,Nat.reduceBEq,Nat.reduceAdd,Int.reduceEq,Int.reduceLT,Int.reduceLE,h1,↓AI,XD,heldB,AR,XE];exact main _ (by simp [h1])
mutual
def Tm.subst:Tm->Int->Int->Tm->Tm
 | .mk op m ks,n,d,u=>if op=1 then (if m=n then u.shift d 0 else if n<m then .mk 1 (BK (m - 1)) [] else .mk op m ks) else .mk op m (Tm.substL op 0 ks n d u)
def Tm.substL:Int->Nat->List Tm->Int->Int->Tm->List Tm
 | _,_,[],_,_,_=>[]
 | op,i,t::l,n,d,u=>t.subst (n+Af op i) (d+Af op i) u::Tm.substL op (i+1) l n d u
end
theorem Hy (op n d:Int) (u:Tm):∀(l:List Tm) (i:Nat),(Tm.substL op i l n d u).length=l.length
 | [],_=>rfl
 | _::l,i=>by simp only [Tm.substL,AB3,Hy op n d u l]
theorem NZ (op n d:Int) (u:Tm):∀(l l':List Tm) (i:Nat),Tm.substL op i (l++l') n d u=Tm.substL op i l n d u++Tm.substL op (i+l.length) l' n d u
 | [],l',i=>by simp [Tm.substL]
 | t::l,l',i=>by simp only [List.cons_append,Tm.substL,NZ op n d u l l',AB3];congr 3;omega
theorem Amo (u:Tm) (hu:u.wk) (huw:u.wt<=1152921504606846976):∀(n:Nat) (t:Tm) (c d:Int),t.wt+u.wt+3<n->t.wk->-1000000000<=c->c+2 * t.wt<=4611686018427387904->0<=d->d+2 * t.wt<=4611686018427387904 ->
  AZ (SS dt n 90 [.fv t.enc,iv c,iv d,.fv u.enc] ⟨[],[]⟩) (t.subst c d u).enc:=by
 intro n
 induction n with
 | zero=>intro t c d h;omega
 | succ n ih =>
  intro t c d h hw hc0 hc hd0 hd;obtain ⟨op,m,ks⟩:=t;simp only [Tm.wt] at h hc hd;rw [Tm.wk] at hw;rw [c90,Am];have hlen:=Fj ks;by_cases h1:op=1
  ·subst h1;have hsh:=CJ n u d 0 (by omega) hu (by omega) (by omega);rw [Tm.subst,if_pos rfl];generalize u.shift d 0=z at hsh ⊢;obtain ⟨uo,un,uk⟩:=u;obtain ⟨zo,zn,zk⟩:=z;rw [Am] at hsh ⊢;by_cases h2:m=c
   ·subst h2;simp only [↓UU3,↓XX,XY,↓reduceIte,Nat.reduceBEq,Nat.reduceAdd,Int.reduceEq,Int.reduceLT,Int.reduceLE,↓AJ hsh];simp only [↓UU3,↓XX,XY,↓reduceIte,Nat.reduceBEq,Nat.reduceAdd,Int.reduceEq,Int.reduceLT,Int.reduceLE,Am];exact Bb rfl _
   ·by_cases h3:c<m
    ·simp only [↓UU3,↓XX,XY,↓reduceIte,Nat.reduceBEq,Nat.reduceAdd,Int.reduceEq,Int.reduceLT,Int.reduceLE,h2,h3,Am];exact Bb rfl _
    ·simp only [↓UU3,↓XX,XY,↓reduceIte,Nat.reduceBEq,Nat.reduceAdd,Int.reduceEq,Int.reduceLT,Int.reduceLE,h2,h3,Am];exact Bb rfl _
  ·have main :
    AZ (BH n (fun q l h=>IY l h (SS dt n) ⟨[],[]⟩ q) [iv c,iv d,.ptr (.own 94371840) 0,.ptr (.own 94371841) 0,.ptr (.own 94371842) 0,.ptr (.own 94379013) 0,iv 0]
     ⟨[(94371840,.row [iv op,iv m,.fv (.sl (ks.map Tm.enc))] false),(94371841,.row [iv u.op,iv u.n,.fv (.sl (u.kids.map Tm.enc))] false),(94371842,.row [iv 0,iv 0,.nils] false),(94379013,.row [iv op,iv m,.nils] false)],[]⟩)
      (Tm.mk op m (Tm.substL op 0 ks c d u)).enc:=by
    refine Bc (Q:=fun r=>AZ r _) (fun k V H=>∃pre rest,ks=pre++rest/\rest.length=k/\V=[iv c,iv d,.ptr (.own 94371840) 0,.ptr (.own 94371841) 0,.ptr (.own 94371842) 0,.ptr (.own 94379013) 0,iv pre.length] /\
     (
      (pre=[]/\H=⟨[(94371840,.row [iv op,iv m,.fv (.sl (ks.map Tm.enc))] false),(94371841,.row [iv u.op,iv u.n,.fv (.sl (u.kids.map Tm.enc))] false),(94371842,.row [iv 0,iv 0,.nils] false),(94379013,.row [iv op,iv m,.nils] false)],[]⟩) \/
      (
      pre≠[]/\H=⟨[(94371840,.row [iv op,iv m,.fv (.sl (ks.map Tm.enc))] false),(94371841,.row [iv u.op,iv u.n,.fv (.sl (u.kids.map Tm.enc))] false),(94371842,.row [iv 0,iv 0,.nils] false),
      (94379013,.row [iv op,iv m,.app (.own 94384144) ((Tm.substL op 0 pre c d u).map Tm.enc)] false),(94384144,.tok (Tm.substL op 0 pre c d u).length 3)],[]⟩)))
     ?_ n ks.length _ _ (by omega) ⟨[],ks,rfl,rfl,rfl,.inl ⟨rfl,rfl⟩⟩
    rintro k V H rec ⟨pre,rest,hk,hl,rfl,hH⟩ hrec;have hkl:ks.length=pre.length+rest.length:=by rw [hk];simp
    cases rest with
    | nil =>
     have hno:¬ ((pre.length:Int)<ks.length):=by rw [hkl];simp
     have hpre:ks=pre:=by simpa using hk
     rcases hH with ⟨rfl,rfl⟩ | ⟨_,rfl⟩
     ·subst hpre;simp only [Jh,IS,Jw,I7,Jv,I4,I1,IF,I5,ID,IN,IQ,JC,IY,IK,Jb,IU,S90,↓XX,XY,↓reduceIte,Nat.reduceBEq,Nat.reduceAdd,Int.reduceEq,Int.reduceLT,Int.reduceLE,Int.lt_irrefl,Tm.substL,Am];exact Bb rfl _
     ·subst hpre;simp only [Jh,IS,Jw,I7,Jv,I4,I1,IF,I5,ID,IN,IQ,JC,IY,IK,Jb,IU,S90,↓XX,XY,↓reduceIte,Nat.reduceBEq,Nat.reduceAdd,Int.reduceEq,Int.reduceLT,Int.reduceLE,Int.lt_irrefl,Am];exact Bb rfl _
    | cons t rest =>
     have hi:(pre.length:Int)<ks.length:=by rw [hkl];simp;omega
     have hg:=CC hk;have htw:=CZ (t:=t) (l:=ks) (by rw [hk];simp);have hb:=F6 (n:=n) (by omega) op pre.length;have hble:=Bj op pre.length;have hs:=ih t (c+Af op pre.length) (d+Af op pre.length) (by omega) (RJ hw.2 (by rw [hk];simp)) (by omega) (by omega) (by omega) (by omega);have hx:Tm.substL op 0 (pre++[t]) c d u=Tm.substL op 0 pre c d u++[t.subst (c+Af op pre.length) (d+Af op pre.length) u]:=by
      rw [NZ];simp [Tm.substL]
     have hwc:BK (c+Af op pre.length)=c+Af op pre.length:=by rw [Av]<;>omega
     have hwd:BK (d+Af op pre.length)=d+Af op pre.length:=by rw [Av]<;>omega
     have hwi:BK ((pre.length:Int)+1)=((pre++[t]).length:Int):=(Av (by omega) (by omega)).trans (by simp);generalize hv:t.subst (c+Af op pre.length) (d+Af op pre.length) u=v at hs hx;obtain ⟨o,p,l⟩:=t;simp only [AB3] at hl;have hue:u.enc=.agg [.int .i64 u.op,.int .i64 u.n,.sl (u.kids.map Tm.enc)]:=by cases u;exact Am ..
     rw [Am,hue] at hs;rcases hH with ⟨hp0,rfl⟩ | ⟨hne,rfl⟩
     ·simp only [Jh,IS,Jw,I7,Jv,I4,I1,IF,I5,ID,IN,IQ,JC,IY,IK,Jb,IU,S90,↓XX,XY,↓reduceIte,Nat.reduceBEq,Nat.reduceAdd,Int.reduceEq,Int.reduceLT,Int.reduceLE,hi,↓Bt (AM hg) (Bg _ _ _),↓Cd,↓Ag hb,hwc,hwd,hwi,↓AC hs,↓Kf,↓Sz,↓AI,XD,heldB,AR,XE];refine hrec rest.length _ _ (by omega) ?_;refine ⟨pre++[.mk o p l],rest,by rw [hk];simp,rfl,rfl,.inr ⟨by simp,?_⟩⟩;rw [hx,hp0];rfl
     ·have hle:(Tm.substL op 0 pre c d u).length+1<=1000000:=by rw [Hy];omega
      simp only [Jh,IS,Jw,I7,Jv,I4,I1,IF,I5,ID,IN,IQ,JC,IY,IK,Jb,IU,S90,↓XX,XY,↓reduceIte,Nat.reduceBEq,Nat.reduceAdd,Int.reduceEq,Int.reduceLT,Int.reduceLE,hi,↓Bt (AM hg) (Bg _ _ _),↓Cd,↓Ag hb,hwc,hwd,hwi,↓AC hs,↓Kf,↓Kq hle,↓Hl,↓AI,XD,heldB,AR,XE];refine hrec rest.length _ _ (by omega) ?_;refine ⟨pre++[.mk o p l],rest,by rw [hk];simp,rfl,rfl,.inr ⟨by simp,?_⟩⟩;rw [hx];simp only [List.length_append,AB3,List.length_nil]
   rw [Tm.subst,if_neg h1];obtain ⟨uo,un,uk⟩:=u;rw [Am (op:=uo)];simp only [↓UU3,↓XX,XY,↓reduceIte,Nat.reduceBEq,Nat.reduceAdd,Int.reduceEq,Int.reduceLT,Int.reduceLE,h1,↓AI,XD,heldB,AR,XE];exact main
theorem OS {n:Nat} (t u:Tm) (c:Int) (hu:u.wk) (huw:u.wt<=1152921504606846976) (h:t.wt+u.wt+4<n) (hw:t.wk) (hww:t.wt<=2305843009213693951) (h0:-1000000000<=c) (hc:c+2 * t.wt<=4611686018427387904) :
  AZ (SS dt n 67 [.fv t.enc,iv c,.fv u.enc] ⟨[],[]⟩) (t.subst c 0 u).enc:=by
 obtain ⟨n,rfl⟩:∃k,n=k+1:=⟨n - 1,by omega⟩;rw [c67];have hs:=Amo u hu huw n t c 0 (by omega) hw h0 hc (by omega) (by omega);generalize t.subst c 0 u=v at hs ⊢;obtain ⟨o1,n1,k1⟩:=t;obtain ⟨o2,n2,k2⟩:=u;obtain ⟨o3,n3,k3⟩:=v;simp only [Am] at hs ⊢;simp only [AmA,S67,↓XX,XY,↓reduceIte,Nat.reduceBEq,Nat.reduceAdd,Int.reduceEq,Int.reduceLT,Int.reduceLE,↓AC hs];exact Bb rfl _
mutual
def Tm.free:Tm->Int->Bool
 | .mk op m ks,c=>if op=1 then decide (m=c) else Tm.freeL op 0 ks c
def Tm.freeL:Int->Nat->List Tm->Int->Bool
 | _,_,[],_=>false
 | op,i,t::l,c=>t.free (c+Af op i) || Tm.freeL op (i+1) l c
end
theorem Aby:∀(n:Nat) (t:Tm) (c:Int),t.wt+1<n->t.wt<=1152921504606846976->-1000000000<=c->c+2 * t.wt<=461168601842738->AZ (SS dt n 107 [.fv t.enc,iv c] ⟨[],[]⟩) (.bool (t.free c)):=by
 intro n
 induction n with
 | zero=>intro t c h;omega
 | succ n ih =>
  intro t c h hw hc0 hc;obtain ⟨op,m,ks⟩:=t;simp only [Tm.wt] at h hw hc;rw [Ay6,Am];have hlen:=Fj ks;by_cases h1:op=1
  ·subst h1;rw [Tm.free,if_pos rfl];simp only [Jd,IX,IP,IE,Jg,UX,↓XX,XY,↓reduceIte,Nat.reduceBEq,Nat.reduceAdd,Int.reduceEq,Int.reduceLT,Int.reduceLE];exact An _ _
  ·rw [Tm.free,if_neg h1];simp only [Jd,IX,IP,IE,Jg,UX,↓XX,XY,↓reduceIte,Nat.reduceBEq,Nat.reduceAdd,Int.reduceEq,Int.reduceLT,Int.reduceLE,h1];refine Bc (Q:=fun r=>AZ r _) (fun k V H=>∃pre rest,ks=pre++rest/\rest.length=k/\V=[iv c,.ptr (.own 112197632) 0,iv pre.length]/\H=⟨[(112197632,.row [iv op,iv m,.fv (.sl (ks.map Tm.enc))] false)],[]⟩/\Tm.freeL op pre.length rest c=Tm.freeL op 0 ks c)
    ?_ n ks.length _ _ (by omega) ⟨[],ks,rfl,rfl,rfl,rfl,rfl⟩
   rintro k V H rec ⟨pre,rest,hk,hl,rfl,rfl,ht⟩ hrec;have hkl:ks.length=pre.length+rest.length:=by rw [hk];simp
   cases rest with
   | nil =>
    have hno:¬ ((pre.length:Int)<ks.length):=by rw [hkl];simp
    rw [<- ht];simp only [Jd,IX,IP,IE,Jg,Nt,UX,↓XX,XY,↓reduceIte,Nat.reduceBEq,Nat.reduceAdd,Int.reduceEq,Int.reduceLT,Int.reduceLE,hno,Tm.freeL];exact An _ _
   | cons t rest =>
    have hi:(pre.length:Int)<ks.length:=by rw [hkl];simp;omega
    have hg:=CC hk;have htw:=CZ (t:=t) (l:=ks) (by rw [hk];simp);have hb:=F6 (n:=n) (by omega) op pre.length;have hble:=Bj op pre.length;have hs:=ih t (c+Af op pre.length) (by omega) (by omega) (by omega) (by omega);have hwc:BK (c+Af op pre.length)=c+Af op pre.length:=by rw [Av]<;>omega
    have hwi:BK ((pre.length:Int)+1)=((pre++[t]).length:Int):=(Av (by omega) (by omega)).trans (by simp);simp only [Tm.freeL] at ht;generalize t.free (c+Af op pre.length)=v at hs ht;obtain ⟨o,p,l⟩:=t;simp only [AB3] at hl;rw [Am] at hs;cases v
    ·simp only [Jd,IX,IP,IE,Jg,Nt,UX,↓XX,XY,↓reduceIte,Nat.reduceBEq,Nat.reduceAdd,Int.reduceEq,Int.reduceLT,Int.reduceLE,hi,↓Bt (AM hg) (Bg _ _ _),↓Cd,↓Ag hb,hwc,hwi,↓Ag hs];refine hrec rest.length _ _ (by omega) ?_;exact ⟨pre++[.mk o p l],rest,by rw [hk];simp,rfl,rfl,rfl,by simpa using ht⟩
    ·rw [<- ht];simp only [Jd,IX,IP,IE,Jg,Nt,UX,↓XX,XY,↓reduceIte,Nat.reduceBEq,Nat.reduceAdd,Int.reduceEq,Int.reduceLT,Int.reduceLE,hi,↓Bt (AM hg) (Bg _ _ _),↓Cd,↓Ag hb,hwc,hwi,↓Ag hs,Bool.true_or];exact An _ _
mutual
def Tm.same:Tm->Tm->Bool
 | .mk o n l,.mk o' n' l'=>decide (o=o') && (decide (n=n') && (decide (l.length=l'.length) && Tm.sameL l l'))
def Tm.sameL:List Tm->List Tm->Bool
 | a::l,b::l'=>a.same b && Tm.sameL l l'
 | _,_=>true
end
mutual
theorem Jx:∀a b:Tm,a.same b=true ↔ a=b
 | .mk o n l,.mk o' n' l'=>by
  simp only [Tm.same,Bool.and_eq_true,decide_eq_true_eq,Tm.mk.injEq];constructor
  ·rintro ⟨rfl,rfl,h1,h2⟩;exact ⟨rfl,rfl,(sameL_eq l l' h1).1 h2⟩
  ·rintro ⟨rfl,rfl,rfl⟩;exact ⟨rfl,rfl,rfl,(sameL_eq l l rfl).2 rfl⟩
theorem sameL_eq:∀l l':List Tm,l.length=l'.length->(Tm.sameL l l'=true ↔ l=l')
 | [],[],_=>by simp [Tm.sameL]
 | a::l,b::l',h=>by
  simp only [Tm.sameL,Bool.and_eq_true,List.cons.injEq,Jx a b,sameL_eq l l' (by simpa using h)]
end
theorem HL:∀(n:Nat) (a b:Tm),a.wt+1<n->a.wt<=1152921504606846976->AZ (SS dt n 17 [.fv a.enc,.fv b.enc] ⟨[],[]⟩) (.bool (a.same b)):=by
 intro n
 induction n with
 | zero=>intro a b h;omega
 | succ n ih =>
  intro a b h hw;obtain ⟨op,m,ks⟩:=a;obtain ⟨op',m',ks'⟩:=b;simp only [Tm.wt] at h hw;rw [c17,Am,Am];have hlen:=Fj ks;rw [Tm.same];by_cases h1:op=op'
  ·by_cases h2:m=m'
   ·by_cases h3:ks.length=ks'.length
    ·have h3':(ks.length:Int)=ks'.length:=by omega
     subst h1 h2;simp only [GP,GK,GR,GC,Gt,GN,Gs,GA,Gq,S17,↓XX,XY,↓reduceIte,Nat.reduceBEq,Nat.reduceAdd,Int.reduceEq,Int.reduceLT,Int.reduceLE,h3,h3',Tm.same];refine Bc (Q:=fun r=>AZ r _) (fun k V H=>∃pre rest pre' rest',ks=pre++rest/\ks'=pre'++rest'/\pre.length=pre'.length/\rest.length=k/\V=[.ptr (.own 17825792) 0,.ptr (.own 17825793) 0,iv pre.length] /\
      H=⟨[(17825792,.row [iv op,iv m,.fv (.sl (ks.map Tm.enc))] false),(17825793,.row [iv op,iv m,.fv (.sl (ks'.map Tm.enc))] false)],[]⟩/\Tm.sameL rest rest'=Tm.sameL ks ks')
      ?_ n ks.length _ _ (by omega) ⟨[],ks,[],ks',rfl,rfl,rfl,rfl,rfl,rfl,rfl⟩
     rintro k V H rec ⟨pre,rest,pre',rest',hk,hk',hpl,hl,rfl,rfl,ht⟩ hrec;have hkl:ks.length=pre.length+rest.length:=by rw [hk];simp
     have hkl':ks'.length=pre'.length+rest'.length:=by rw [hk'];simp
     cases rest with
     | nil =>
      have hno:¬ ((pre.length:Int)<ks.length):=by rw [hkl];simp
      rw [<- ht];simp only [GP,GK,GR,GC,Gt,Nz,GN,Gs,GA,Gq,S17,↓XX,XY,↓reduceIte,Nat.reduceBEq,Nat.reduceAdd,Int.reduceEq,Int.reduceLT,Int.reduceLE,hno,Tm.sameL];exact An _ _
     | cons t rest =>
      cases rest' with
      | nil=>simp at hkl hkl';omega
      | cons t' rest' =>
       have hi:(pre.length:Int)<ks.length:=by rw [hkl];simp;omega
       have hg:=CC hk;have hg':=CC hk';rw [<- hpl] at hg';have htw:=CZ (t:=t) (l:=ks) (by rw [hk];simp);have hs:=ih t t' (by omega) (by omega);have hwi:BK ((pre.length:Int)+1)=((pre++[t]).length:Int):=(Av (by omega) (by omega)).trans (by simp);simp only [Tm.sameL] at ht;generalize t.same t'=v at hs ht;obtain ⟨o,p,l⟩:=t;obtain ⟨o',p',l'⟩:=t';simp only [AB3] at hl;rw [Am,Am] at hs;cases v
       ·rw [<- ht];simp only [GP,GK,GR,GC,Gt,Nz,GN,Gs,GA,Gq,S17,↓XX,XY,↓reduceIte,Nat.reduceBEq,Nat.reduceAdd,Int.reduceEq,Int.reduceLT,Int.reduceLE,hi,↓Bt (AM hg) (Bg _ _ _),↓Bt (AM hg') (Bg _ _ _),↓Cd,↓Ag hs,Bool.false_and];exact An _ _
       ·simp only [GP,GK,GR,GC,Gt,Nz,GN,Gs,GA,Gq,S17,↓XX,XY,↓reduceIte,Nat.reduceBEq,Nat.reduceAdd,Int.reduceEq,Int.reduceLT,Int.reduceLE,hi,↓Bt (AM hg) (Bg _ _ _),↓Bt (AM hg') (Bg _ _ _),↓Cd,hwi,↓Ag hs];refine hrec rest.length _ _ (by omega) ?_;exact ⟨pre++[.mk o p l],rest,pre'++[.mk o' p' l'],rest',by rw [hk];simp,by rw [hk'];simp,by simp [hpl],rfl,rfl,rfl,by simpa using ht⟩
    ·have h3':¬ (ks.length:Int)=ks'.length:=by omega
     simp only [GP,GK,GR,GC,Gt,GN,Gs,GA,Gq,S17,↓XX,XY,↓reduceIte,Nat.reduceBEq,Nat.reduceAdd,Int.reduceEq,Int.reduceLT,Int.reduceLE,h1,h2,h3,h3'];exact An _ _
   ·simp only [GP,GK,GR,GC,Gt,GN,Gs,GA,Gq,S17,↓XX,XY,↓reduceIte,Nat.reduceBEq,Nat.reduceAdd,Int.reduceEq,Int.reduceLT,Int.reduceLE,h1,h2];exact An _ _
  ·simp only [GP,GK,GR,GC,Gt,GN,Gs,GA,Gq,S17,↓XX,XY,↓reduceIte,Nat.reduceBEq,Nat.reduceAdd,Int.reduceEq,Int.reduceLT,Int.reduceLE,h1];exact An _ _
theorem Apt (o p:Int) (l:List Tm) (s:Nat) (h:Hp) (k:IV->Hp->List Ref->List Ref->Option (IV×Hp)):Ay (Ak EE 28 1 [(0,.fv (.agg [.int .i64 o,.int .i64 p,.sl (l.map Tm.enc)]))]) s h k=k (.clip [.agg [.int .i64 o,.int .i64 p,.sl (l.map Tm.enc)]]) h [] []:=by
 have:=Kf (.mk o p l) s h k
 rw [Am] at this;exact this
def RT (o:Option (IV×Hp)):Bool:=match o with
 | some (.fv (.bool b),⟨_,[]⟩)=>b
 | _=>false
theorem AhG {o:Option (IV×Hp)} (h:RT o=true):AZ o (.bool true):=by
 unfold RT at h;split at h
 ·subst h;exact An _ _
 ·cases h
theorem CT (o1 n1 o2 n2:Int) (k1 k2:List FV) (s:Nat) (h:Hp) (k:IV->Hp->List Ref->List Ref->Option (IV×Hp)):Ay (Ak EE 28 2 [(0,.fv (.agg [.int .i64 o1,.int .i64 n1,.sl k1])),(1,.fv (.agg [.int .i64 o2,.int .i64 n2,.sl k2]))]) s h k =
  k (.clip [.agg [.int .i64 o1,.int .i64 n1,.sl k1],.agg [.int .i64 o2,.int .i64 n2,.sl k2]]) h [] []:=Cv RK tTm (by decide) (cells:=[.int .i64 o1,.int .i64 n1,.sl k1,.int .i64 o2,.int .i64 n2,.sl k2]) rfl k
theorem Ls (o1 n1 o2 n2 o3 n3:Int) (k1 k2 k3:List FV) (s:Nat) (h:Hp) (k:IV->Hp->List Ref->List Ref->Option (IV×Hp)):Ay (Ak EE 28 3 [(0,.fv (.agg [.int .i64 o1,.int .i64 n1,.sl k1])),(1,.fv (.agg [.int .i64 o2,.int .i64 n2,.sl k2])),(2,.fv (.agg [.int .i64 o3,.int .i64 n3,.sl k3]))]) s h k =
  k (.clip [.agg [.int .i64 o1,.int .i64 n1,.sl k1],.agg [.int .i64 o2,.int .i64 n2,.sl k2],.agg [.int .i64 o3,.int .i64 n3,.sl k3]]) h [] []:=Cv RK tTm (by decide) (cells:=[.int .i64 o1,.int .i64 n1,.sl k1,.int .i64 o2,.int .i64 n2,.sl k2,.int .i64 o3,.int .i64 n3,.sl k3]) rfl k
theorem AwZ (o1 n1 o2 n2 o3 n3 o4 n4:Int) (k1 k2 k3 k4:List FV) (s:Nat) (h:Hp) (k:IV->Hp->List Ref->List Ref->Option (IV×Hp)):Ay (Ak EE 28 4 [(0,.fv (.agg [.int .i64 o1,.int .i64 n1,.sl k1])),(1,.fv (.agg [.int .i64 o2,.int .i64 n2,.sl k2])),(2,.fv (.agg [.int .i64 o3,.int .i64 n3,.sl k3])),(3,.fv (.agg [.int .i64 o4,.int .i64 n4,.sl k4]))]) s h k =
  k (.clip [.agg [.int .i64 o1,.int .i64 n1,.sl k1],.agg [.int .i64 o2,.int .i64 n2,.sl k2],.agg [.int .i64 o3,.int .i64 n3,.sl k3],.agg [.int .i64 o4,.int .i64 n4,.sl k4]]) h [] []:=Cv RK tTm (by decide) (cells:=[.int .i64 o1,.int .i64 n1,.sl k1,.int .i64 o2,.int .i64 n2,.sl k2,.int .i64 o3,.int .i64 n3,.sl k3,.int .i64 o4,.int .i64 n4,.sl k4]) rfl k
theorem Em (o1 n1:Int) (k1:List FV) (s:Nat) (h:Hp) (k:IV->Hp->List Ref->List Ref->Option (IV×Hp)):Ay (Ak EE 28 1 [(0,.fv (.agg [.int .i64 o1,.int .i64 n1,.sl k1]))]) s h k =
  k (.clip [.agg [.int .i64 o1,.int .i64 n1,.sl k1]]) h [] []:=Cv RK tTm (by decide) (cells:=[.int .i64 o1,.int .i64 n1,.sl k1]) rfl k
def An4 (r:Option (IV×Hp)) (v:FV):Prop:=∃own,r=some (.fv v,⟨own,[]⟩)
theorem AlJ {v:FV} {own:List (Nat×Blk)}:An4 (some (.fv v,⟨own,[]⟩)) v:=⟨own,rfl⟩
def CM:Nat->Tm
 | 0=>.mk 11 0 []
 | n+1=>.mk 12 0 [CM n]
theorem AvW {g:FuncId} (h:EE.pol.inl g=false) (h1:EE.pol.keep g=[]) (h2:EE.pol.split g=false) (h3:EE.pol.raw g=false) (ih:Aj) (xs:List IV) (h0:Hp) (k:IV->Hp->List Ref->List Ref->Option (IV×Hp)) :
  FN EE ih (.fv (.func (.func g) [] [])) xs h0 k=A0 [] false false ih g xs h0 k:=by
 unfold FN;simp only [callee,h,cond_false,Ajk,h1,h2,h3,AB4,List.nil_append,List.append_nil]
theorem AkW (s:Nat) (h:Hp) (k:IV->Hp->List Ref->List Ref->Option (IV×Hp)):Ay (Ak EE 28 0 []) s h k=k (.clip []) h [] []:=Cv RK tTm (by decide) (cells:=[]) rfl k
section
variable {β:Type} {E:Env}
def ArT (cs:List IV) (k:List FV->Option β):Option β:=(Do cs).bind k
theorem Ao3 {t e:TypeId} {a b:Nat} {ei:TI} {z:List IV} (hT:E.T t=some ⟨a,b,.slice e,z⟩) (he:E.T e=some ei) (hs:ei.size=1) (hz:∃x,ei.zero=[x]) (r s:Nat) (own:List (Nat×Blk)) (ext:List Blk)
  (hc:∀cells ro,Ao r own=some (.row cells ro)->cells.length<=100) (hk:∀cells ro,Ao r own=some (.row cells ro)->∃fc,Do cells=some fc) (k:IV->Hp->List Ref->List Ref->Option β) :
  Ay (Ak E t 1 [(0,.ptr (.own r) 0)]) s ⟨own,ext⟩ k=G6 own r fun bl=>En bl fun cells=>ArT cells fun fc=>A4 own r (.row cells true) fun own=>k (.clip [.fp fc 0]) ⟨own,ext⟩ [.own r] [.own r]:=by
 obtain ⟨x,hx⟩:=hz;have hm:Ak E t 1 [(0,.ptr (.own r) 0)]=(frzL (65534+1+1) [.ptr (.own r) 0]).bind fun (vs,u)=>.ret { eff:={ val:=.clip (BT ei.size 1 vs),upd:=u } }:=by
  have h1:¬ (ei.size=0\/1 * ei.size > 65536):=by rw [hs];omega
  have h2:CG (fun j=>some (j * ei.size,ei.size)) (PF 1 ei.zero) [(0,.ptr (.own r) 0)]=some [.ptr (.own r) 0]:=by
   rw [hx,hs];rfl
  simp only [Ak,hT,he,if_neg h1,h2]
 rw [hm,BC];unfold Ay;cases hl:Ao r own with
 | none =>
  have:((frzL (65534+1+1) [.ptr (.own r) 0]).bind fun (vs,u)=>Rd.ret ({ eff:={ val:=.clip (BT ei.size 1 vs),upd:=u } }:Made)).runLog ⟨own,ext⟩ []=none:=by
   simp only [frzL,Dc,Rd.bind,Rd.runLog,Hp.get,hl]
  rw [this];rfl
 | some bl =>
  cases bl with
  | row cells ro =>
   obtain ⟨fc,hfc⟩:=hk cells ro hl;have hlen:=hc cells ro hl;have h3:frzL 65534 cells=.ret (fc,[]):=YO cells 65534 (by omega) hfc
   have:((frzL (65534+1+1) [.ptr (.own r) 0]).bind fun (vs,u)=>Rd.ret ({ eff:={ val:=.clip (BT ei.size 1 vs),upd:=u } }:Made)).runLog ⟨own,ext⟩ [] =
     some ({ eff:={ val:=.clip (BT ei.size 1 [.fp fc 0]),upd:=[(.own r,.row cells true)] } },[.own r]):=by
    simp only [frzL,Dc,Rd.bind,Rd.runLog,Hp.get,hl,h3,List.append_nil]
   rw [this];simp only [Option.bind_some,En,ArT,hfc,hs]
   show (fRf (.own r) fun q=>Dp q ⟨own,ext⟩ fun _=>fBk (.row cells true) fun b=>Gg q b ⟨own,ext⟩ fun h=>J8 none s h fun h=>fV 3 (.clip [.fp fc 0]) fun v=>k v h [.own r] ([.own r]++[]))=_
   simp only [Pt,C1,Cy,J8,Gg,Dp];rw [BC,hl];rfl
  | tok n sz =>
   have:((frzL (65534+1+1) [.ptr (.own r) 0]).bind fun (vs,u)=>Rd.ret ({ eff:={ val:=.clip (BT ei.size 1 vs),upd:=u } }:Made)).runLog ⟨own,ext⟩ []=none:=by
    simp only [frzL,Dc,Rd.bind,Rd.runLog,Hp.get,hl]
   rw [this];rfl
  | map es =>
   have:((frzL (65534+1+1) [.ptr (.own r) 0]).bind fun (vs,u)=>Rd.ret ({ eff:={ val:=.clip (BT ei.size 1 vs),upd:=u } }:Made)).runLog ⟨own,ext⟩ []=none:=by
    simp only [frzL,Dc,Rd.bind,Rd.runLog,Hp.get,hl]
   rw [this];rfl
theorem AwJ {t e:TypeId} {a b:Nat} {ei:TI} {z:List IV} (hT:E.T t=some ⟨a,b,.slice e,z⟩) (he:E.T e=some ei) (hs:ei.size=1) (hz:∃x,ei.zero=[x]) {r:Nat} {own own':List (Nat×Blk)} {cells:List IV} {ro:Bool} {fc:List FV}
  (hl:Ao r own=some (.row cells ro)) (hf:Do cells=some fc) (hn:cells.length<=100) (ho:AP r (.row cells true) own=own') (s:Nat) (ext:List Blk) (k:IV->Hp->List Ref->List Ref->Option β) :
  Ay (Ak E t 1 [(0,.ptr (.own r) 0)]) s ⟨own,ext⟩ k=k (.clip [.fp fc 0]) ⟨own',ext⟩ [.own r] [.own r]:=by
 have h1:∀cells' ro',Ao r own=some (.row cells' ro')->cells'=cells:=fun c r h=>by rw [hl] at h;cases h;rfl
 rw [Ao3 hT he hs hz r s own ext (fun c r h=>by rw [h1 c r h];exact hn) (fun c r h=>by rw [h1 c r h];exact ⟨fc,hf⟩),BC,hl];simp only [Option.bind_some,En,ArT,hf,BZ,ho]
def Bm (r:Option (IV×Hp)) (w:FV) (ext:List Blk):Prop:=∃v own,r=some (v,⟨own,ext⟩) /\
 ∃u lg,∀(e:Option (IV×Hp)) (K:FV->List (Ref×Blk)->List Ref->Option (IV×Hp)),Fh 12 v ⟨own,ext⟩ [] e K=K w u lg
theorem AG (w:FV) (own:List (Nat×Blk)) (ext:List Blk):Bm (some (.fv w,⟨own,ext⟩)) w ext:=⟨_,own,rfl,[],[],fun _ _=>rfl⟩
theorem Fk {v:IV} {w:FV} (hz:Ba v=some w) (own:List (Nat×Blk)) (ext:List Blk):Bm (some (v,⟨own,ext⟩)) w ext:=⟨_,own,rfl,[],[],fun e K=>LP _ _ e K hz⟩
theorem Mo:∀l:List FV,CK (l.map .fv) []=[]
 | []=>rfl
 | v::l=>by
  show Vf (.fv v) (CK (l.map .fv) [])=[]
  rw [Mo l];rfl
theorem AwK (n j:Nat) (t:List Ref) (s:Nat) (rest:List Blk):Pw (n+1) (.ext j::t) s rest=cond (Nat.ble (Nat.succ j) s) (Pw n t s rest) (cond (Nat.beq j s) (goR (Pw n) t s rest) false):=rfl
theorem Avr (n s:Nat):Pw (n+1) [] s []=true:=rfl
theorem TZ (st:List FV):Pw 400 [.ext 0] 0 [.row (st.map .fv) false]=true:=by
 rw [show (400:Nat)=398+1+1 from rfl,AwK]
 show goR (Pw (398+1)) [] 0 [.row (st.map .fv) false]=true
 show Pw (398+1) ([]++Fm (.row (st.map .fv) false)) 1 []=true
 rw [show Fm (.row (st.map .fv) false)=CK (st.map .fv) [] from rfl,Mo]
 exact Avr 398 1
theorem SK (st:List FV):okB 1 [.row (st.map .fv) false]=true:=by
 show cond (okR 1 (Fm (.row (st.map .fv) false))) true false=true
 rw [show Fm (.row (st.map .fv) false)=CK (st.map .fv) [] from rfl,Mo]
 rfl
theorem gb3 (a b c:FV):Pw 400 [.ext 0] 0 [.row [.fv a,.fv b,.fv c] false]=true:=TZ [a,b,c]
theorem ob3 (a b c:FV):okB 1 [.row [.fv a,.fv b,.fv c] false]=true:=SK [a,b,c]
theorem gb2 (a b:FV):Pw 400 [.ext 0] 0 [.row [.fv a,.fv b] false]=true:=TZ [a,b]
theorem ob2 (a b:FV):okB 1 [.row [.fv a,.fv b] false]=true:=SK [a,b]
theorem RC {r1:Ref} {rs1:List Ref} {ih:Aj} {f:FuncId} {vs:List IV} {w:FV} {ext ext':List Blk} (hr:Bm (ih f vs ⟨[],ext⟩) w ext') (hg:Pw 400 (r1::rs1) 0 ext=true) (hl:ext'.length=ext.length) (ho:okB ext.length ext'=true)
  (own:List (Nat×Blk)) (r0:Option (IV×Hp)) (u:List (Ref×Blk)) (lg:List Ref) (e:Option (IV×Hp)) (k:IV->Hp->List Ref->List Ref->Option (IV×Hp)) :
  SN (
     r1::rs1) r0 ⟨own,ext⟩ u lg e (fun rs=>match rs with
   | []=>none
   | r::rs=>(match (⟨own,ext⟩:Hp) with
    | ⟨own,ext⟩=>cond (Pw 400 (r::rs) 0 ext) (match ih f vs ⟨[],ext⟩ with
     | none=>none
     | some p=>match p with
      | (v,h')=>match h' with
       | ⟨own',ext'⟩=>cond (and (Nat.beq ext'.length ext.length) (okB ext.length ext'))
        (Fh 12 v ⟨own',ext'⟩ [] e fun w _ _=>Mt u ⟨own,ext'⟩ fun h2=>k (.fv w) h2 ((CY ext.length).reverse++lg) (Bq u++CY ext.length)) none)
     e)) k=Mt u ⟨own,ext'⟩ fun h2=>k (.fv w) h2 ((CY ext.length).reverse++lg) (Bq u++CY ext.length):=by
 obtain ⟨v,own',e1,u',lg',hz⟩:=hr;simp only [SN,hg,e1,hl,ho];rw [show (Nat.beq ext.length ext.length && true)=true by rw [Bool.and_true];exact Nat.beq_refl _,cond_true,hz]
 rfl
structure OneX (ext ext':List Blk):Prop where
 g:Pw 400 [.ext 0] 0 ext=true
 l:ext.length=1
 l':ext'.length=1
 o:okB 1 ext'=true
theorem Ct (a b c a' b' c':FV):OneX [.row [.fv a,.fv b,.fv c] false] [.row [.fv a',.fv b',.fv c'] false]:=⟨gb3 ..,rfl,rfl,ob3 ..⟩
theorem AxA (a b a' b':FV):OneX [.row [.fv a,.fv b] false] [.row [.fv a',.fv b'] false]:=⟨gb2 ..,rfl,rfl,ob2 ..⟩
theorem O2 (x:Nat):∀(args:List IV) {vs:List FV} (h:Hp) (lg:List Ref) (e:Option β) (k:List IV->List Ref->List (Ref×Blk)->List Ref->Option β) (ks:List Bool),(∀b∈ks,b=false)->BL args=some vs ->
  UA args ks h lg e k=k (vs.map .fv) [] [] lg
 | [],vs,h,lg,e,k,ks,_,hz=>by cases hz;rfl
 | v::l,vs,h,lg,e,k,[],_,hz=>AjQ (v::l) h lg e k hz
 | v::l,vs,h,lg,e,k,b::ks,hk,hz=>by
  have hb:=hk b List.mem_cons_self;subst hb;simp only [BL] at hz;cases h1:Ba v with
  | none=>rw [h1] at hz;cases hz
  | some x' =>
   rw [h1] at hz;cases h2:BL l with
   | none=>rw [h2] at hz;cases hz
   | some ys =>
    rw [h2] at hz;cases hz;rw [TD,LP h lg e _ h1,O2 x l h lg e _ ks (fun c hc=>hk c (List.mem_cons_of_mem _ hc)) h2];rfl
theorem Alv {ks:List Bool} (hks:∀b∈ks,b=false) {ih:Aj} {f:FuncId} {args:List IV} {vs:List FV} {w:FV} {ext ext':List Blk} (hz:BL args=some vs) (X:OneX ext ext') (hr:Bm (ih f (.ptr (.ext 0) 0::vs.map .fv) ⟨[],ext⟩) w ext')
  (own:List (Nat×Blk)) (k:IV->Hp->List Ref->List Ref->Option (IV×Hp)):A0 (true::ks) false false ih f (.ptr (.ext 0) 0::args) ⟨own,ext⟩ k=k (.fv w) ⟨own,ext'⟩ [.ext 0] [.ext 0]:=by
 rw [Ku,WT,TY,O2 0 args _ _ _ _ ks hks hz]
 have:=RC (r1:=.ext 0) (rs1:=[]) hr X.g (by rw [X.l,X.l']) (by rw [X.l];exact X.o) own (ih f (.ptr (.ext 0) 0::vs.map .fv) ⟨[],[]⟩) [] [] (FE (true::ks) false false ih f (.ptr (.ext 0) 0::args) ⟨own,ext⟩ k) k
 refine this.trans ?_;rw [X.l];rfl
theorem DD {ih:Aj} {f:FuncId} {w:FV} {ext ext':List Blk} (hr:Bm (ih f [.ptr (.ext 0) 0] ⟨[],ext⟩) w ext') (X:OneX ext ext') (own:List (Nat×Blk)) (k:IV->Hp->List Ref->List Ref->Option (IV×Hp)) :
  A0 [true] false false ih f [.ptr (.ext 0) 0] ⟨own,ext⟩ k=k (.fv w) ⟨own,ext'⟩ [.ext 0] [.ext 0]:=Alv (ks:=[]) (by simp) (vs:=[]) rfl X hr own k
theorem Ke {ih:Aj} {f:FuncId} {a b:IV} {x y w:FV} {ext ext':List Blk} (hr:Bm (ih f [.ptr (.ext 0) 0,.fv x,.fv y] ⟨[],ext⟩) w ext') (X:OneX ext ext') (ha:Ba a=some x) (hb:Ba b=some y) (own:List (Nat×Blk))
  (k:IV->Hp->List Ref->List Ref->Option (IV×Hp)):A0 [true,false,false] false false ih f [.ptr (.ext 0) 0,a,b] ⟨own,ext⟩ k=k (.fv w) ⟨own,ext'⟩ [.ext 0] [.ext 0]:=Alv (ks:=[false,false]) (by simp) (WJ ha hb) X hr own k
theorem AiS {ih:Aj} {f:FuncId} {a b c:IV} {x y z w:FV} {ext ext':List Blk} (hr:Bm (ih f [.ptr (.ext 0) 0,.fv x,.fv y,.fv z] ⟨[],ext⟩) w ext') (X:OneX ext ext') (ha:Ba a=some x) (hb:Ba b=some y) (hc:Ba c=some z)
  (own:List (Nat×Blk)) (k:IV->Hp->List Ref->List Ref->Option (IV×Hp)):A0 [true,false,false,false] false false ih f [.ptr (.ext 0) 0,a,b,c] ⟨own,ext⟩ k=k (.fv w) ⟨own,ext'⟩ [.ext 0] [.ext 0] :=
 Alv (ks:=[false,false,false]) (by simp) (Ahq ha hb hc) X hr own k
theorem Rt {ih:Aj} {f:FuncId} {s:Nat} {own:List (Nat×Blk)} {cells:List IV} {ro:Bool} {fc:List FV} {w:FV} {ext ext':List Blk} (hr:Bm (ih f [.ptr (.ext 0) 0,.fv (.fp fc 0)] ⟨[],ext⟩) w ext') (X:OneX ext ext')
  (hl:Ao s own=some (.row cells ro)) (hz:Do cells=some fc) (hn:cells.length<=300) (k:IV->Hp->List Ref->List Ref->Option (IV×Hp)) :
  A0 [true,false] false false ih f [.ptr (.ext 0) 0,.ptr (.own s) 0] ⟨own,ext⟩ k=k (.fv w) ⟨AP s (.row cells true) own,ext'⟩ [.ext 0,.own s] [.own s,.ext 0]:=by
 rw [Ku,WT,TY,TD,WQ,Mw,BC,hl];simp only [Option.bind_some,JZ];rw [Bl,decide_eq_true hn,c_t,Ag5 10 _ _ _ cells _ hz,fz0]
 have:=RC (r1:=.ext 0) (rs1:=[]) hr X.g (by rw [X.l,X.l']) (by rw [X.l];exact X.o) own (ih f [.ptr (.ext 0) 0,.fv (.fp fc 0)] ⟨[],[]⟩) [(.own s,.row cells true)] [.own s] (FE [true,false] false false ih f [.ptr (.ext 0) 0,.ptr (.own s) 0] ⟨own,ext⟩ k) k
 refine this.trans ?_;rw [X.l]
 show (G6 own s fun _=>A4 own s (.row cells true) fun own=>k (.fv w) ⟨own,ext'⟩ [.ext 0,.own s] [.own s,.ext 0])=_
 rw [BC,hl,Option.bind_some,BZ]
end
end Idl
end Go.Proofs.Ytkfecngimlcfoaa
namespace Go.Proofs.Ytkfecngimlcfoaa
namespace Idl
theorem AdQ {α:Type}:∀(r:Rd α) (h:Hp) (l:List Ref) {x:α} {l':List Ref},r.runLog h l=some (x,l')->r.run h=some x
 | .ret a,h,l,x,l',e=>by simp only [Rd.runLog,ABZ,AB0] at e;rw [e.1];rfl
 | .fail,_,_,_,_,e=>by cases e
 | .get r k,h,l,x,l',e=>by
  simp only [Rd.runLog] at e;simp only [Rd.run];cases hg:h.get r with
  | none=>rw [hg] at e;cases e
  | some b=>rw [hg] at e;exact AdQ (k b) h _ e
theorem Pa {v:IV} {own:List (Nat×Blk)} {ext:List Blk} {w:FV} (h:∃u lg,∀(e:Option (IV×Hp)) (K:FV->List (Ref×Blk)->List Ref->Option (IV×Hp)),Fh 12 v ⟨own,ext⟩ [] e K=K w u lg):∃u,(Dc 4096 v).run ⟨own,ext⟩=some (w,u):=by
 obtain ⟨u,lg,hz⟩:=h;rcases OZ 12 v ⟨own,ext⟩ [] none (fun w _ _=>some (IV.fv w,(⟨[],[]⟩:Hp))) (.fv w,⟨[],[]⟩) (hz ..) with h | ⟨x,u',lg',h1,_,h2⟩
 ·cases h
 ·simp only [ABZ,AB0,IV.fv.injEq,and_true] at h2;subst h2;exact ⟨u',AdQ _ _ _ (h1 4096 (by decide))⟩
theorem On:∀l:List FV,IV.refs.refsL (l.map .fv)=[]
 | []=>rfl
 | v::l=>by
  simp only [AB5,IV.refs.refsL,IV.refs,On l,List.append_nil]
theorem Jf:∀(args:List IV) (ks:List Bool) {vs:List FV},(∀b∈ks,b=false)->BL args=some vs->Bn ks args=.ret (vs.map .fv,[],[])
 | [],ks,vs,_,hz=>by cases hz;cases ks<;>rfl
 | v::l,[],vs,_,hz=>Pg (v::l) hz
 | v::l,b::ks,vs,hk,hz=>by
  have hb:=hk b List.mem_cons_self;subst hb;simp only [BL] at hz;cases h1:Ba v with
  | none=>rw [h1] at hz;cases hz
  | some x =>
   rw [h1] at hz;cases h2:BL l with
   | none=>rw [h2] at hz;cases hz
   | some ys =>
    rw [h2] at hz;cases hz;simp only [Bn,frp 4096 (by omega) h1,Rd.bind,Jf l ks (fun c hc=>hk c (List.mem_cons_of_mem _ hc)) h2];rfl
theorem Td (s:Nat) (ext:List Blk):Pw 400 [.own s] 0 ext=false:=rfl
theorem AlW {ks:List Bool} (hks:∀b∈ks,b=false) {ih:Aj} {f:FuncId} {args:List IV} {vs:List FV} {w:FV} {s:Nat} {st st':List FV} {own:List (Nat×Blk)} (hz:BL args=some vs) (hl:Ao s own=some (.row (st.map .fv) false))
  (hr:Bm (ih f (.ptr (.ext 0) 0::vs.map .fv) ⟨[],[.row (st.map .fv) false]⟩) w [.row (st'.map .fv) false]) (k:IV->Hp->List Ref->List Ref->Option (IV×Hp)) :
  A0 (true::ks) false false ih f (.ptr (.own s) 0::args) ⟨own,[]⟩ k=k (.fv w) ⟨AP s (.row (st'.map .fv) false) own,[]⟩ [.own s] [.own s]:=by
 obtain ⟨v,own',e1,hfz⟩:=hr;obtain ⟨u,hu⟩:=Pa hfz;have hD:FE (true::ks) false false ih f (.ptr (.own s) 0::args) ⟨own,[]⟩ k=k (.fv w) ⟨AP s (.row (st'.map .fv) false) own,[]⟩ [.own s] [.own s]:=by
  have h1:Bn (true::ks) (.ptr (.own s) 0::args)=.ret (.ptr (.own s) 0::vs.map .fv,[.own s],[]):=by
   simp only [Bn,Jf args ks hks hz,Rd.bind,IV.refs];rfl
  have h2:(B2 4096 [.own s] []).runLog ⟨own,[]⟩ []=some ([(.own s,.row (st.map .fv) false)],[.own s]):=by
   show (B2 (4094+1+1) [.own s] []).runLog ⟨own,[]⟩ []=_
   simp only [B2,hasRef,Bool.false_eq_true,if_false,Rd.runLog,Hp.get,hl,Blk.refs,On,List.append_nil,List.nil_append]
  have h3:IV.ren.renL (Dr [(.own s,.row (st.map .fv) false)]) (.ptr (.own s) 0::vs.map .fv)=some (.ptr (.ext 0) 0::vs.map .fv):=by
   simp only [IV.ren.renL,IV.ren,Dr,Ck,if_true,AB2,Option.bind_some,Fw]
  have h4:A5 (Dr [(.own s,.row (st.map .fv) false)]) [.row (st.map .fv) false]=some [.row (st.map .fv) false]:=by
   simp only [A5,Blk.ren,Fw,AB2,Option.bind_some]
  have h5:A5 (Cw [(.own s,.row (st.map .fv) false)]) [.row (st'.map .fv) false]=some [.row (st'.map .fv) false]:=by
   simp only [A5,Blk.ren,Fw,AB2,Option.bind_some]
  unfold FE;simp only [h1,Rd.runLog,h2,h3,AB5,AB4,h4,DG (Cy 3),DG C1,JU,Bool.false_eq_true,if_false,e1,hu,AB2,IV.ren,h5,AB3,List.length_nil,Bq,List.all_nil,and_self,if_true,List.nil_append,List.zip_cons_cons,List.zip_nil_left];have h6:laid ⟨own,[]⟩ [(.own s,.row (st'.map .fv) false)]=some ⟨AP s (.row (st'.map .fv) false) own,[]⟩:=by
   simp only [laid,Hp.get,hl,Hp.set]
  simp only [h6,MG,Cy]
 rw [Ku,WT,TY,O2 0 args _ _ _ _ ks hks hz];simp only [SN,Td,cond_false];exact hD
theorem ArR {ih:Aj} {f:FuncId} {x y:IV} {vx vy w:FV} {s:Nat} {a b c a' b' c':FV} {own own':List (Nat×Blk)} (hr:Bm (ih f [.ptr (.ext 0) 0,.fv vx,.fv vy] ⟨[],[.row [.fv a,.fv b,.fv c] false]⟩) w [.row [.fv a',.fv b',.fv c'] false])
  (hx:Ba x=some vx) (hy:Ba y=some vy) (hl:Ao s own=some (.row [.fv a,.fv b,.fv c] false)) (ho:AP s (.row [.fv a',.fv b',.fv c'] false) own=own') (k:IV->Hp->List Ref->List Ref->Option (IV×Hp)) :
  A0 [true,false,false] false false ih f [.ptr (.own s) 0,x,y] ⟨own,[]⟩ k=k (.fv w) ⟨own',[]⟩ [.own s] [.own s]:=by
 subst ho;exact AlW (ks:=[false,false]) (by simp) (st:=[a,b,c]) (st':=[a',b',c']) (WJ hx hy) hl hr k
theorem Aui {ih:Aj} {f:FuncId} {x y z:IV} {vx vy vz w:FV} {s:Nat} {a b c a' b' c':FV} {own own':List (Nat×Blk)} (hr:Bm (ih f [.ptr (.ext 0) 0,.fv vx,.fv vy,.fv vz] ⟨[],[.row [.fv a,.fv b,.fv c] false]⟩) w [.row [.fv a',.fv b',.fv c'] false])
  (hx:Ba x=some vx) (hy:Ba y=some vy) (hz:Ba z=some vz) (hl:Ao s own=some (.row [.fv a,.fv b,.fv c] false)) (ho:AP s (.row [.fv a',.fv b',.fv c'] false) own=own') (k:IV->Hp->List Ref->List Ref->Option (IV×Hp)) :
  A0 [true,false,false,false] false false ih f [.ptr (.own s) 0,x,y,z] ⟨own,[]⟩ k=k (.fv w) ⟨own',[]⟩ [.own s] [.own s]:=by
 subst ho;exact AlW (ks:=[false,false,false]) (by simp) (st:=[a,b,c]) (st':=[a',b',c']) (Ahq hx hy hz) hl hr k
theorem Ao4 {ih:Aj} {f:FuncId} {x y:IV} {vx vy w:FV} {s:Nat} {a b a' b':FV} {own own':List (Nat×Blk)} (hr:Bm (ih f [.ptr (.ext 0) 0,.fv vx,.fv vy] ⟨[],[.row [.fv a,.fv b] false]⟩) w [.row [.fv a',.fv b'] false])
  (hx:Ba x=some vx) (hy:Ba y=some vy) (hl:Ao s own=some (.row [.fv a,.fv b] false)) (ho:AP s (.row [.fv a',.fv b'] false) own=own') (k:IV->Hp->List Ref->List Ref->Option (IV×Hp)) :
  A0 [true,false,false] false false ih f [.ptr (.own s) 0,x,y] ⟨own,[]⟩ k=k (.fv w) ⟨own',[]⟩ [.own s] [.own s]:=by
 subst ho;exact AlW (ks:=[false,false]) (by simp) (st:=[a,b]) (st':=[a',b']) (WJ hx hy) hl hr k
section
variable {β:Type}
theorem Ail {rm:List Nat} {vals:List IV} {own:List (Nat×Blk)} {ext:List Blk} (hf:AR rm vals own []=true) (hx:∀s,Ref.own s ∉ ext.flatMap Blk.refs) (s:Nat) :
  Ref.own s∈IV.refs.refsL vals++(own.filter fun p=>!rm.contains p.1).flatMap (fun p=>p.2.refs)++ext.flatMap Blk.refs ↔ heldB rm vals own [] s=true:=by
 rw [<- VZ hf s,List.mem_append];constructor
 ·rintro (h | h)
  ·exact List.mem_append_left _ h
  ·exact absurd h (hx s)
 ·intro h;rcases List.mem_append.1 h with h | h
  ·exact .inl h
  ·cases h
theorem Alh {base rm:List Nat} {vals:List IV} {own:List (Nat×Blk)} {ext:List Blk} (hx:∀s,Ref.own s ∉ ext.flatMap Blk.refs) (hb:rm.any base.contains=false) (hf:AR rm vals own []=true) (k:Hp->Option β) :
  Bx base rm vals ⟨own,ext⟩ k=k ⟨Ik rm vals own [],ext⟩:=by
 have hm:=Ail hf hx;have hf0:=hf;simp only [AR,Bool.and_eq_true] at hf0;obtain ⟨g1,g2,g3,g4⟩:=hf0;unfold Bx;rw [hb];simp only [cond_false];rw [Nu];cases ha:(own.all fun p=>!rm.contains p.1) with
 | true =>
  simp only [Bool.not_true,cond_false];congr 2
  symm
  apply List.filter_eq_self.2;intro p hp;rw [List.all_eq_true.1 ha p hp];rfl
 | false =>
  simp only [Bool.not_false,cond_true];have slow:(match CL base [] rm ⟨vals,⟨own,ext⟩⟩ with | none=>none | some S=>fH S.hp k)=k ⟨Ik rm vals own [],ext⟩:=by
   have hgone:(rm.filter fun k=>!anyIn [k] (IV.refs.refsL vals++(own.filter fun p=>!rm.contains p.1).flatMap (fun p=>p.2.refs)++ext.flatMap Blk.refs))=rm.filter fun s=>!heldB rm vals own [] s:=by
    apply List.filter_congr;intro s _;congr 1;exact Bool.eq_iff_iff.2 ((Jm s _).trans (hm s))
   have hown:(own.filter fun p=>!(rm.filter fun s=>!heldB rm vals own [] s).contains p.1)=Ik rm vals own []:=by
    apply List.filter_congr;intro p _;rw [Bool.eq_iff_iff];simp only [Bool.not_eq_true',Bool.or_eq_true,List.contains_eq_mem,decide_eq_false_iff_not,List.mem_filter];constructor
    ·intro h;by_cases h1:p.1∈rm
     ·right;cases hh:heldB rm vals own [] p.1 with
      | true=>rfl
      | false=>exact absurd ⟨h1,hh⟩ h
     ·exact .inl h1
    ·rintro (h | h) ⟨h1,h2⟩
     ·exact h h1
     ·rw [h] at h2;exact absurd h2 (by simp)
   simp only [CL,hb,Bool.false_eq_true,if_false,AY,ha,hgone,hown];have hnone:anyIn (rm.filter fun s=>!heldB rm vals own [] s) (C9 ⟨vals,⟨Ik rm vals own [],ext⟩⟩)=false:=by
    apply Ey;intro s hs hmem;obtain ⟨hs1,hs2⟩:=List.mem_filter.1 hs;have hs2:heldB rm vals own [] s=false:=by simpa using hs2
    simp only [C9,List.mem_append] at hmem;rcases hmem with (hmem | hmem) | hmem
    ·have:=(hm s).1 (List.mem_append_left _ (List.mem_append_left _ hmem))
     rw [this] at hs2;cases hs2
    ·obtain ⟨p,hp,hr⟩:=List.mem_flatMap.1 hmem;have hp1:=(List.mem_filter.1 hp).1;have hn:=(Et (List.all_eq_true.1 g2 p hp1) s).1 hr;have h4:=List.all_eq_true.1 g4 p hp1;cases hc:rm.contains p.1 with
     | true =>
      rw [hc] at h4;have h4:(rm.all fun s=>!Gc s p.2)=true:=h4;have h5:=List.all_eq_true.1 h4 s hs1;rw [hn] at h5;cases h5
     | false =>
      have:=(hm s).1 (List.mem_append_left _ (List.mem_append_right _ (List.mem_flatMap.2 ⟨p,List.mem_filter.2 ⟨hp1,by rw [hc];rfl⟩,hr⟩)))
      rw [this] at hs2;cases hs2
    ·exact hx s hmem
   simp only [hnone,Bool.false_eq_true,if_false,MG]
  cases hff:(and (Gd rm (CK vals [])) (and (Iw rm own) (JM rm ext))) with
  | false=>exact slow
  | true =>
   have hff:(Gd rm (CK vals []) && (Iw rm own && JM rm ext))=true:=hff;simp only [Bool.and_eq_true] at hff;simp only [H7,cond_true];congr 2;apply List.filter_congr;intro p hp;cases hc:rm.contains p.1 with
   | false=>rfl
   | true =>
    have h1:=F8 hff.1;rw [refsDL_eq,List.append_nil] at h1;have h2:=H1 hff.2.1
    have:heldB rm vals own [] p.1=false:=by
     cases hh:heldB rm vals own [] p.1 with
     | false=>rfl
     | true =>
      have:=(hm p.1).2 hh
      have hpm:p.1∈rm:=List.contains_iff_mem.1 hc;rcases List.mem_append.1 this with h | h
      ·rcases List.mem_append.1 h with h | h
       ·exact absurd h (h1 _ hpm)
       ·exact absurd h (h2 _ hpm)
      ·exact absurd h (hx _)
    rw [this];rfl
structure ExtX (ext ext':List Blk):Prop where
 g:Pw 400 [.ext 0] 0 ext=true
 l:ext'.length=ext.length
 o:okB ext.length ext'=true
theorem Afw {ks:List Bool} {ih:Aj} {f:FuncId} {args:List IV} {vs:List FV} {w:FV} {u:List (Ref×Blk)} {lg:List Ref} {own own':List (Nat×Blk)} {ext ext':List Blk}
  (hz:∀(e:Option (IV×Hp)) (k:List IV->List Ref->List (Ref×Blk)->List Ref->Option (IV×Hp)),UA args ks ⟨own,ext⟩ [] e k=k (vs.map .fv) [] u lg) (X:ExtX ext ext')
  (hr:Bm (ih f (.ptr (.ext 0) 0::vs.map .fv) ⟨[],ext⟩) w ext') (hlay:∀k:Hp->Option (IV×Hp),Mt u ⟨own,ext'⟩ k=k ⟨own',ext'⟩) (k:IV->Hp->List Ref->List Ref->Option (IV×Hp)) :
  A0 (true::ks) false false ih f (.ptr (.ext 0) 0::args) ⟨own,ext⟩ k=k (.fv w) ⟨own',ext'⟩ ((CY ext.length).reverse++lg) (Bq u++CY ext.length):=by
 rw [Ku,WT,TY,hz]
 have:=RC (r1:=.ext 0) (rs1:=[]) hr X.g X.l X.o own (ih f (.ptr (.ext 0) 0::vs.map .fv) ⟨[],[]⟩) u lg (FE (true::ks) false false ih f (.ptr (.ext 0) 0::args) ⟨own,ext⟩ k) k
 exact this.trans (hlay _)
theorem Avs:∀(cs:List FV),(∀x∈cs,∀l,x≠.agg l)->∀k:List FV->Option β,chK 1 cs.length cs k=k cs
 | [],_,k=>rfl
 | c::cs,h,k=>by
  show (Gi (c::cs) 1 fun a=>FX (c::cs) 1 fun b=>AhF a fun x=>chK 1 cs.length b fun xs=>k (x::xs))=_
  rw [t1,d1]
  have:∀k:FV->Option β,AhF [c] k=k c:=by
   intro k;cases c with
   | agg l=>exact absurd rfl (h _ List.mem_cons_self l)
   | _=>rfl
  rw [this,Avs cs (fun x hx=>h x (List.mem_cons_of_mem _ hx))]
theorem Ts (d:Nat) (h:Hp) (lg:List Ref) (e:Option β):∀(l:List FV) (k:List FV->List (Ref×Blk)->List Ref->Option β),Dq (Fh (d+1)) (l.map .fv) h lg e k=k l [] lg
 | [],k=>rfl
 | v::l,k=>by
  show (Fh (d+1) (.fv v) h lg e fun y u lg=>Dq (Fh (d+1)) (l.map .fv) h lg e fun ys us lg=>PA u us fun w=>k (y::ys) w lg)=_
  show (Dq (Fh (d+1)) (l.map .fv) h lg e fun ys us lg=>PA [] us fun w=>k (v::ys) w lg)=_
  rw [Ts d h lg e l];rfl
theorem Ama {d:Nat} {s:Nat} {es:List FV} {ro:Bool} {own:List (Nat×Blk)} {ext:List Blk} (hl:Ao s own=some (.row (es.map .fv) ro)) (hn:es.length<=300) (ha:∀x∈es,∀l,x≠.agg l) (lg:List Ref) (e:Option β)
  (k:FV->List (Ref×Blk)->List Ref->Option β):Fh (d+2) (.slc (.own s) 1 es.length) ⟨own,ext⟩ lg e k=k (.sl es) [(.own s,.row (es.map .fv) true)] (.own s::lg):=by
 show (Dp (.own s) ⟨own,ext⟩ fun b=>En b fun cells=>cond (Nat.ble cells.length 300) (cond (or (Nat.beq 1 0) (not (Nat.ble (es.length * 1) cells.length))) none
  (Dq (Fh (d+1)) cells ⟨own,ext⟩ (.own s::lg) e fun cs u lg=>chK 1 es.length cs fun els=>k (.sl els) ((.own s,.row cells true)::u) lg)) e)=_
 rw [Mw,BC,hl];simp only [Option.bind_some,JZ,List.length_map,Nat.mul_one];rw [Bl,decide_eq_true hn,c_t,show Nat.ble es.length es.length=true by rw [Bl];exact decide_eq_true (Nat.le_refl _)]
 simp only [Bool.not_true]
 show (Dq (Fh (d+1)) (es.map .fv) ⟨own,ext⟩ (.own s::lg) e fun cs u lg=>chK 1 es.length cs fun els=>k (.sl els) ((.own s,.row (es.map .fv) true)::u) lg)=_
 rw [Ts,Avs es ha]
theorem Aw8 {s s2:Nat} {es:List FV} {ro ro2:Bool} {a b c d t x:FV} {own:List (Nat×Blk)} {ext:List Blk} (hl:Ao s own=some (.row [.fv a,.fv b,.slc (.own s2) 1 es.length,.fv c,.fv d,.fv t,.fv x] ro)) (hl2:Ao s2 own=some (.row (es.map .fv) ro2))
  (hn:es.length<=300) (ha:∀x∈es,∀l,x≠.agg l) (lg:List Ref) (e:Option β) (k:FV->List (Ref×Blk)->List Ref->Option β):Fh 12 (.ptr (.own s) 0) ⟨own,ext⟩ lg e k =
   k (.fp [a,b,.sl es,c,d,t,x] 0) [(.own s,.row [.fv a,.fv b,.slc (.own s2) 1 es.length,.fv c,.fv d,.fv t,.fv x] true),(.own s2,.row (es.map .fv) true)] (.own s2 :: .own s::lg):=by
 rw [WQ,Mw,BC,hl];simp only [Option.bind_some,JZ];rw [Bl,decide_eq_true (by simp),c_t];rw [fl1,MA,fl1,MA,fl1,Ama (d:=9) hl2 hn ha,fl1,MA,fl1,MA,fl1,MA,fl1,MA,fl0];rfl
end
end Idl
end Go.Proofs.Ytkfecngimlcfoaa
namespace Go.Proofs.Ytkfecngimlcfoaa
namespace Idl
theorem FB (l:List FV):(l.map IV.fv).all Gb=true:=by induction l with
 | nil=>rfl
 | cons a l ih=>rw [AB5,List.all_cons,ih];rfl
theorem DQ (s:Nat) (l:List FV):(l.map IV.fv).any (Cm s)=false:=by induction l with
 | nil=>rfl
 | cons a l ih=>rw [AB5,List.any_cons,ih];rfl
def D4:List Tm->List FV
 | []=>[]
 | .mk o n k::l=>.int .i64 o :: .int .i64 n :: .sl (k.map Tm.enc)::D4 l
def N9:Nat->List IV
 | 0=>[]
 | n+1=>iv 0::iv 0 :: .nils::N9 n
def Cf (ts:List Tm) (r:Nat):List IV:=(D4 ts).map .fv++N9 r
theorem Pp (ts:List Tm):(D4 ts).length=3 * ts.length:=by
 induction ts with
 | nil=>rfl
 | cons t l ih=>obtain ⟨o,n,k⟩:=t;simp only [D4,AB3,ih];omega
theorem Xh (ts:List Tm) (t:Tm):D4 (ts++[t])=D4 ts++[.int .i64 t.op,.int .i64 t.n,.sl (t.kids.map Tm.enc)]:=by
 induction ts with
 | nil=>obtain ⟨o,n,k⟩:=t;rfl
 | cons a l ih=>obtain ⟨o,n,k⟩:=a;simp only [List.cons_append,D4,ih]
theorem Qj {β:Type}:∀(A:List IV) (x y z:IV) (B:List IV) (a b c:FV) (k:List IV->Option β),Ep (A++x::y::z::B) A.length [a,b,c] k=k (A++.fv a :: .fv b :: .fv c::B)
 | [],x,y,z,B,a,b,c,k=>rfl
 | w::A,x,y,z,B,a,b,c,k=>by
  show Ep (A++x::y::z::B) A.length [a,b,c] (fun t=>k (w::t))=_
  rw [Qj A];rfl
theorem AqL {β:Type} (done:List Tm) (r:Nat) (o n:Int) (ks:List Tm) (k:List IV->Option β):Ep (Cf done (r+1)) (done.length * 3) [.int .i64 o,.int .i64 n,.sl (ks.map Tm.enc)] k=k (Cf (done++[.mk o n ks]) r):=by
 have h:=Qj (β:=β) ((D4 done).map .fv) (iv 0) (iv 0) .nils (N9 r) (.int .i64 o) (.int .i64 n) (.sl (ks.map Tm.enc)) k;rw [List.length_map,Pp,Nat.mul_comm] at h;refine h.trans ?_;congr 1;unfold Cf;rw [Xh];simp [Tm.op,Tm.n,Tm.kids,iv]
theorem Avp {β:Type}:∀(ts:List Tm) (k:List FV->Option β),chK 3 ts.length (D4 ts) k=k (ts.map Tm.enc)
 | [],k=>rfl
 | .mk o n ks::l,k=>by
  show (Gi (D4 (.mk o n ks::l)) 3 fun a=>FX (D4 (.mk o n ks::l)) 3 fun b=>AhF a fun x=>chK 3 l.length b fun xs=>k (x::xs))=_
  rw [D4,t3,d3]
  show (chK 3 l.length (D4 l) fun xs=>k (.agg [.int .i64 o,.int .i64 n,.sl (ks.map Tm.enc)]::xs))=_
  rw [Avp l,AB5,Am]
theorem Awh (n:Nat):PF n [iv 0,iv 0,.nils]=Cf [] n:=by
 induction n with
 | zero=>rfl
 | succ n ih=>rw [PF,ih];rfl
theorem Ay3 {n:Nat} (hn:n<=1000) (s:Nat) (own:List (Nat×Blk)) (ext:List Blk) (k:IV->Hp->List Ref->List Ref->Option (IV×Hp)) :
  Ay (BW EE s 28 (iv n) (iv n)) s ⟨own,ext⟩ k=C0 own s (A4 own s (.row (Cf [] n) false) fun own=>k (.slc (.own s) 3 n) ⟨own,ext⟩ [] [.own s]):=by
 have:BW EE s 28 (iv n) (iv n)=.ret { eff:={ val:=.slc (.own s) 3 n },new:=some (.row (Cf [] n) false) }:=by
  simp only [BW,RK,tTm,W7];rw [if_pos ⟨by omega,by omega,by omega,by decide,by decide⟩,Int.toNat_natCast,Awh]
 rw [this];unfold Ay;simp only [Rd.runLog,J8,C1,Cy];rfl
theorem AkE {β:Type} {n i:Nat} (h:i<n) (r:Ref) (k:IV->Option β):AN 3 (.slc r 3 n) (iv i) k=k (.ptr r (i * 3)):=by
 have e1:Nat.ble (Nat.succ i) n=true:=by rw [Bl];exact decide_eq_true h
 show (cond (and (Nat.ble (Nat.succ i) n) (Nat.beq 3 3)) (Ek (i * 3) fun o=>k (.ptr r o)) none)=_
 rw [e1];simp only [BQ];rfl
theorem NQ (ts:List Tm) (r:Nat):(Cf ts r).all Gb=true:=by
 unfold Cf;rw [List.all_append,FB,Bool.true_and]
 induction r with
 | zero=>rfl
 | succ r ih=>rw [N9,List.all_cons,List.all_cons,List.all_cons,ih];rfl
theorem Ld (s:Nat) (ts:List Tm) (r:Nat):(Cf ts r).any (Cm s)=false:=by
 unfold Cf;rw [List.any_append,DQ,Bool.false_or]
 induction r with
 | zero=>rfl
 | succ r ih=>rw [N9,List.any_cons,List.any_cons,List.any_cons,ih];rfl
theorem Apu {s d:Nat} {ts:List Tm} {ro:Bool} {own:List (Nat×Blk)} {ext:List Blk} (hl:Ao s own=some (.row (Cf ts 0) ro)) (hn:ts.length<=100) (lg:List Ref) (e:Option (IV×Hp))
  (k:FV->List (Ref×Blk)->List Ref->Option (IV×Hp)):Fh (d+2) (.slc (.own s) 3 ts.length) ⟨own,ext⟩ lg e k=k (.sl (ts.map Tm.enc)) [(.own s,.row (Cf ts 0) true)] (.own s::lg):=by
 have hlen:(Cf ts 0).length=3 * ts.length:=by simp [Cf,N9,Pp]
 show (Dp (.own s) ⟨own,ext⟩ fun b=>En b fun cells=>cond (Nat.ble cells.length 300) (cond (or (Nat.beq 3 0) (not (Nat.ble (ts.length * 3) cells.length))) none
  (Dq (Fh (d+1)) cells ⟨own,ext⟩ (.own s::lg) e fun cs u lg=>chK 3 ts.length cs fun els=>k (.sl els) ((.own s,.row cells true)::u) lg)) e)=_
 rw [Mw,BC,hl];simp only [Option.bind_some,JZ];rw [hlen,Bl,decide_eq_true (by omega),c_t,Bl,decide_eq_true (by omega)];simp only [Bool.not_true]
 show (Dq (Fh (d+1)) (Cf ts 0) ⟨own,ext⟩ (.own s::lg) e fun cs u lg=>chK 3 ts.length cs fun els=>k (.sl els) ((.own s,.row (Cf ts 0) true)::u) lg)=_
 rw [show Cf ts 0=(D4 ts).map .fv by simp [Cf,N9],Ts,Avp]
theorem AxD {s:Nat} {ts:List Tm} {ro:Bool} {a b:FV} {own:List (Nat×Blk)} {ext:List Blk} (hl:Ao s own=some (.row (Cf ts 0) ro)) (hn:ts.length<=100) (lg:List Ref) (e:Option (IV×Hp))
  (k:FV->List (Ref×Blk)->List Ref->Option (IV×Hp)):Fh 12 (.agg [.fv a,.fv b,.slc (.own s) 3 ts.length]) ⟨own,ext⟩ lg e k=k (.agg [a,b,.sl (ts.map Tm.enc)]) [(.own s,.row (Cf ts 0) true)] (.own s::lg):=by
 rw [Asi,show Nat.ble [IV.fv a,.fv b,.slc (.own s) 3 ts.length].length 300=true from rfl,c_t,fl1,MA,fl1,MA,fl1,Apu (d:=9) hl hn,fl0]
 rfl
theorem Cs {β:Type} (o p:Int) (l:List FV) (r:List FV) (k:IV->Option β):AN 3 (.fv (.sl (.agg [.int .i64 o,.int .i64 p,.sl l]::r))) (iv 0) k=k (.fv (.fp [.int .i64 o,.int .i64 p,.sl l] 0)):=by
 have h:(.agg [.int .i64 o,.int .i64 p,.sl l]::r:List FV)[0]?=some (.agg [.int .i64 o,.int .i64 p,.sl l]):=rfl
 have:=Bt (β:=β) h (Bg _ _ _) k
 rw [Cd] at this;exact this
theorem CA {β:Type} (a:FV) (o p:Int) (l:List FV) (r:List FV) (k:IV->Option β):AN 3 (.fv (.sl (a :: .agg [.int .i64 o,.int .i64 p,.sl l]::r))) (iv 1) k=k (.fv (.fp [.int .i64 o,.int .i64 p,.sl l] 0)):=by
 have h:(a :: .agg [.int .i64 o,.int .i64 p,.sl l]::r:List FV)[1]?=some (.agg [.int .i64 o,.int .i64 p,.sl l]):=rfl
 have:=Bt (β:=β) h (Bg _ _ _) k
 rw [Cd] at this;exact this
theorem JS {β:Type} (a b:FV) (o p:Int) (l:List FV) (r:List FV) (k:IV->Option β):AN 3 (.fv (.sl (a::b :: .agg [.int .i64 o,.int .i64 p,.sl l]::r))) (iv 2) k=k (.fv (.fp [.int .i64 o,.int .i64 p,.sl l] 0)):=by
 have h:(a::b :: .agg [.int .i64 o,.int .i64 p,.sl l]::r:List FV)[2]?=some (.agg [.int .i64 o,.int .i64 p,.sl l]):=rfl
 have:=Bt (β:=β) h (Bg _ _ _) k
 rw [Cd] at this;exact this
theorem Aoj (w:FV) (own:List (Nat×Blk)):Ai8 (some (.fv w,⟨own,[]⟩)) w:=⟨_,own,rfl,Aq6 w own⟩
theorem AuD {ks:List Bool} {ih:Aj} {f:FuncId} {args:List IV} {vs:List FV} {w:FV} {u:List (Ref×Blk)} {lg:List Ref} {own own':List (Nat×Blk)}
  (hz:∀(e:Option (IV×Hp)) (k:List IV->List Ref->List (Ref×Blk)->List Ref->Option (IV×Hp)),UA args ks ⟨own,[]⟩ [] e k=k (vs.map .fv) [] u lg)
  (hr:Ai8 (ih f (vs.map .fv) ⟨[],[]⟩) w) (hlay:∀k:Hp->Option (IV×Hp),Mt u ⟨own,[]⟩ k=k ⟨own',[]⟩) (k:IV->Hp->List Ref->List Ref->Option (IV×Hp)) :
  A0 ks false false ih f args ⟨own,[]⟩ k=k (.fv w) ⟨own',[]⟩ lg (Bq u):=by
 rw [Ku,hz,Aw1 hr,hlay]
theorem Awa {g:FuncId} (h:EE.pol.inl g=false) (h1:EE.pol.keep g=[]) (h2:EE.pol.split g=false) (h3:EE.pol.raw g=false) (caps:List FV) (ih:Aj) (xs:List IV) (h0:Hp) (k:IV->Hp->List Ref->List Ref->Option (IV×Hp)) :
  FN EE ih (.fv (.func (.func g) [] caps)) xs h0 k=A0 [] false false ih g (xs++caps.map .fv) h0 k:=by
 unfold FN;simp only [callee,h,cond_false,Ajk,h1,h2,h3,AB4,List.nil_append]
theorem AtA (fn:Fn) (r:Ref) (o:Nat):Dk fn [] [.ptr r o]=.func fn [] [.ptr r o]:=rfl
theorem AvY {d s:Nat} {cs:List FV} {ro:Bool} {own:List (Nat×Blk)} {ext:List Blk} (hl:Ao s own=some (.row (cs.map .fv) ro)) (hn:cs.length<=300) (lg:List Ref) (e:Option (IV×Hp)) (k:FV->List (Ref×Blk)->List Ref->Option (IV×Hp)) :
  Fh (d+2) (.ptr (.own s) 0) ⟨own,ext⟩ lg e k=k (.fp cs 0) [(.own s,.row (cs.map .fv) true)] (.own s::lg):=by
 show (Dp (.own s) ⟨own,ext⟩ fun b=>En b fun cells=>cond (Nat.ble cells.length 300) (Dq (Fh (d+1)) cells ⟨own,ext⟩ (.own s::lg) e fun cs u lg=>k (.fp cs 0) ((.own s,.row cells true)::u) lg) e)=_
 rw [Mw,BC,hl];simp only [Option.bind_some,JZ,List.length_map];rw [Bl,decide_eq_true hn,c_t,Ts]
theorem Asr {s1:Nat} {c1:List FV} {r1:Bool} {fn:Fn} {own:List (Nat×Blk)} {ext:List Blk} (h1:Ao s1 own=some (.row (c1.map .fv) r1)) (n1:c1.length<=300)
  (lg:List Ref) (e:Option (IV×Hp)) (k:FV->List (Ref×Blk)->List Ref->Option (IV×Hp)) :
  Fh 12 (.func fn [] [.ptr (.own s1) 0]) ⟨own,ext⟩ lg e k=k (.func fn [] [.fp c1 0]) [(.own s1,.row (c1.map .fv) true)] (.own s1::lg):=by
 show (Dq (Fh 11) [] ⟨own,ext⟩ lg e fun x u lg=>Dq (Fh 11) [.ptr (.own s1) 0] ⟨own,ext⟩ lg e fun y v lg=>PA u v fun w=>k (.func fn x y) w lg)=_
 rw [fl0,fl1,AvY (d:=9) h1 n1,fl0];rfl
theorem ArD {ih:Aj} {f:FuncId} {x w:FV} {a:IV} {fn:Fn} {s1:Nat} {c1:List FV} {r1:Bool} {own own':List (Nat×Blk)} (hr:Ai8 (ih f [.fv x,.fv (.func fn [] [.fp c1 0])] ⟨[],[]⟩) w) (ha:Ba a=some x)
  (h1:Ao s1 own=some (.row (c1.map .fv) r1)) (n1:c1.length<=300) (ho:AP s1 (.row (c1.map .fv) true) own=own') (k:IV->Hp->List Ref->List Ref->Option (IV×Hp)) :
  A0 [] false false ih f [a,.func fn [] [.ptr (.own s1) 0]] ⟨own,[]⟩ k=k (.fv w) ⟨own',[]⟩ [.own s1] [.own s1]:=by
 subst ho;refine AuD (vs:=[x,.func fn [] [.fp c1 0]]) (u:=[(.own s1,.row (c1.map .fv) true)]) (lg:=[.own s1]) ?_ hr ?_ k
 ·intro e k;rw [fz1,LP _ _ e _ ha,fz1,Asr h1 n1,fz0];rfl
 ·intro k
  show (G6 own s1 fun _=>A4 own s1 (.row (c1.map .fv) true) fun own=>k ⟨own,_⟩)=_
  rw [BC,h1,Option.bind_some,BZ]
theorem Awi {g:FuncId} (h:EE.pol.inl g=false) (h1:EE.pol.keep g=[]) (h2:EE.pol.split g=false) (h3:EE.pol.raw g=false) (p:FV) (ih:Aj) (xs:List IV) (h0:Hp) (k:IV->Hp->List Ref->List Ref->Option (IV×Hp)) :
  FN EE ih (.fv (.func (.func g) [p] [])) xs h0 k=A0 [] false false ih g (.fv p::xs) h0 k:=by
 unfold FN;simp only [callee,h,cond_false,Ajk,h1,h2,h3,AB4,AB5,List.append_nil,List.cons_append,List.nil_append]
theorem AvV (fn:Fn) (p:FV):Dk fn [.fv p] []=.fv (.func fn [p] []):=rfl
def okP (op:Int):Bool:=(decide (op=1) || (decide (op=15) || (decide (op=16) || decide (op=17)))) || (decide (20<=op) && decide (op<=29))
mutual
def Tm.plainP:Tm->Bool
 | .mk op _ l=>okP op && Tm.plainPL l
def Tm.plainPL:List Tm->Bool
 | []=>true
 | t::l=>t.plainP && Tm.plainPL l
end
abbrev pF:FV:=.agg [.int .i64 20,.int .i64 29]
abbrev Ue:FV:=.func (.func 42) [pF] []
abbrev Qo:FV:=.func (.func 74) [] [.fp [Ue] 0]
theorem As1 (ih:Aj) (xs:List IV) (h0:Hp) (k:IV->Hp->List Ref->List Ref->Option (IV×Hp)):FN EE ih (.fv (.func (.func 42) [.agg [.int .i64 20,.int .i64 29]] [])) xs h0 k=A0 [] false false ih 42 (.fv pF::xs) h0 k :=
 Awi (by kernel_rfl) (by kernel_rfl) (by kernel_rfl) (by kernel_rfl) ..
theorem AdU (ih:Aj) (xs:List IV) (h0:Hp) (k:IV->Hp->List Ref->List Ref->Option (IV×Hp)):FN EE ih (.fv Qo) xs h0 k=A0 [] false false ih 74 (xs++[.fv (.fp [Ue] 0)]) h0 k :=
 Awa (by kernel_rfl) (by kernel_rfl) (by kernel_rfl) (by kernel_rfl) _ ..
theorem ApD {n:Nat} (t:Tm) (b:Bool) (h:AZ (SS dt n 42 [.fv pF,.fv t.enc] ⟨[],[]⟩) (.bool b)):AZ (SS dt (n+1) 74 [.fv t.enc,.fv (.fp [Ue] 0)] ⟨[],[]⟩) (.bool (!b)):=by
 rw [c74];obtain ⟨o,p,l⟩:=t;rw [Am] at h ⊢;simp only [S74,↓XX,XY,↓reduceIte,Nat.reduceBEq,Nat.reduceAdd,Int.reduceEq,Int.reduceLT,Int.reduceLE,↓As1,↓Ag h];exact An _ _
theorem Ah2 {n:Nat} (ks:List Tm) (hl:ks.length<=900000) (hn:ks.length<n) (h:∀t∈ks,AZ (SS dt n 74 [.fv t.enc,.fv (.fp [Ue] 0)] ⟨[],[]⟩) (.bool (!t.plainP))) :
  ∃j:Int,AZ (SS dt (n+1) 104 [.fv (.sl (ks.map Tm.enc)),.fv Qo] ⟨[],[]⟩) (.int .i64 j)/\(decide (0<=j)=!Tm.plainPL ks):=by
 rw [AzC];simp only [KK,Lk,Ww,↓XX,XY,↓reduceIte,Nat.reduceBEq,Nat.reduceAdd,Int.reduceEq,Int.reduceLT,Int.reduceLE];refine Bc (Q:=fun r=>∃j:Int,AZ r (.int .i64 j)/\(decide (0<=j)=!Tm.plainPL ks)) (fun k V H=>∃(pre rest:List Tm),ks=pre++rest/\rest.length=k/\Tm.plainPL rest=Tm.plainPL ks /\
   V=[.fv (.sl (ks.map Tm.enc)),.fv Qo,iv ks.length,iv pre.length]/\H=⟨[],[]⟩)
  ?_ n ks.length _ _ (by omega) ⟨[],ks,rfl,rfl,rfl,rfl,rfl⟩
 rintro k V H rec ⟨pre,rest,hks,hkl,hr,rfl,rfl⟩ hrec;have hkk:ks.length=pre.length+rest.length:=by rw [hks];simp
 cases rest with
 | nil =>
  have hno:¬ ((pre.length:Int)<ks.length):=by rw [hkk];simp
  refine ⟨-1,?_,by rw [<- hr];rfl⟩;simp only [KK,Lk,Np,Ww,↓XX,XY,↓reduceIte,Nat.reduceBEq,Nat.reduceAdd,Int.reduceEq,Int.reduceLT,Int.reduceLE,hno];exact An _ _
 | cons x rest =>
  have hi:(pre.length:Int)<ks.length:=by rw [hkk];simp;omega
  have hg2:=CC hks;have hs:=h x (by rw [hks];simp);have hwi:BK ((pre.length:Int)+1)=((pre++[x]).length:Int):=(Av (by omega) (by omega)).trans (by simp);rw [Tm.plainPL] at hr;have h9:=fun e=>hrec rest.length [.fv (.sl (ks.map Tm.enc)),.fv Qo,iv ks.length,iv (pre++[x]).length] _ (by simp only [AB3] at hkl;omega) ⟨pre++[x],rest,by rw [hks];simp,rfl,e,rfl,rfl⟩;generalize x.plainP=b at hs hr;cases b
  ·rw [Bool.false_and] at hr;refine ⟨pre.length,?_,by rw [<- hr];simp⟩;obtain ⟨o,p,l⟩:=x;rw [Am] at hs;simp only [KK,Lk,Np,Ww,↓XX,XY,↓reduceIte,Nat.reduceBEq,Nat.reduceAdd,Int.reduceEq,Int.reduceLT,Int.reduceLE,hi,↓Bt (AM hg2) (Bg _ _ _),↓Cd,↓AdU,List.cons_append,List.nil_append,↓Ag hs];exact An _ _
  ·rw [Bool.true_and] at hr;have h9:=h9 hr;obtain ⟨o,p,l⟩:=x;rw [Am] at hs;simp only [KK,Lk,Np,Ww,↓XX,XY,↓reduceIte,Nat.reduceBEq,Nat.reduceAdd,Int.reduceEq,Int.reduceLT,Int.reduceLE,hi,↓Bt (AM hg2) (Bg _ _ _),↓Cd,↓AdU,List.cons_append,List.nil_append,↓Ag hs,hwi];exact h9
theorem ArI:∀(n:Nat) (t:Tm),4 * t.wt+4<n->t.wt<=900000->AZ (SS dt n 42 [.fv pF,.fv t.enc] ⟨[],[]⟩) (.bool t.plainP):=by
 intro n
 induction n using Nat.strongRecOn with
 | ind n ih =>
  intro t hn hw;obtain ⟨op,m,ks⟩:=t;simp only [Tm.wt] at hn hw;obtain ⟨n,rfl⟩:∃k,n=k+1+1+1+1:=⟨n - 4,by omega⟩;have hlen:=Fj ks;rw [c42,Am,Tm.plainP];obtain ⟨j,hj,hjb⟩:=Ah2 (n:=n+1) ks (by omega) (by omega) (fun t ht=>ApD t _ (ih n (by omega) t (by have:=CZ ht;omega) (by have:=CZ ht;omega)));have hc:AZ (SS dt (n+1+1+1) 73 [.fv (.sl (ks.map Tm.enc)),.fv Qo] ⟨[],[]⟩) (.bool (!Tm.plainPL ks)):=by
   rw [c73,<- hjb];simp only [S73,↓XX,XY,↓reduceIte,Nat.reduceBEq,Nat.reduceAdd,Int.reduceEq,Int.reduceLT,Int.reduceLE,↓Ag hj];exact An _ _
  have hcf:Ai8 (SS dt (n+1+1+1) 73 [.fv (.sl (ks.map Tm.enc)),.fv Qo] ⟨[],[]⟩) (.bool (!Tm.plainPL ks)):=by
   rw [c73,<- hjb];simp only [S73,↓XX,XY,↓reduceIte,Nat.reduceBEq,Nat.reduceAdd,Int.reduceEq,Int.reduceLT,Int.reduceLE,↓Ag hj];exact Aoj _ _
  cases ho:okP op
  ·rw [Bool.false_and];simp only [okP,Bool.or_eq_false_iff,Bool.and_eq_false_iff,decide_eq_false_iff_not] at ho;obtain ⟨⟨h1,h2,h3,h4⟩,h5⟩:=ho;by_cases h6:op<20
   ·simp only [OE,Oo,O9,OO,OV,OC,O6,S42,↓XX,XY,↓reduceIte,Nat.reduceBEq,Nat.reduceAdd,Int.reduceEq,Int.reduceLT,Int.reduceLE,h1,h2,h3,h4,h6];exact An _ _
   ·have h7:29<op:=by omega
    simp only [OE,Oo,O9,OO,OV,OC,O6,S42,↓XX,XY,↓reduceIte,Nat.reduceBEq,Nat.reduceAdd,Int.reduceEq,Int.reduceLT,Int.reduceLE,h1,h2,h3,h4,h6,h7];exact An _ _
  ·rw [Bool.true_and];simp only [okP,Bool.or_eq_true,Bool.and_eq_true,decide_eq_true_eq] at ho;have hrest:AZ (Oo ⟨[(44040192,.row [iv 20,iv 29] false),(44040193,.row [iv op,iv m,.fv (.sl (ks.map Tm.enc))] false)],[]⟩ (.ptr (.own 44040192) 0) (.ptr (.own 44040193) 0) (SS dt (n+1+1+1))) (.bool (Tm.plainPL ks)):=by
    simp only [OE,Oo,O9,OO,OV,OC,O6,S42,↓XX,XY,↓reduceIte,Nat.reduceBEq,Nat.reduceAdd,Int.reduceEq,Int.reduceLT,Int.reduceLE,AvV,AtA]
    (try unfold is0);rw [ArD hcf rfl (by rfl) (by simp) rfl]
    simp only [↓XX,XY,↓reduceIte,Nat.reduceBEq,Nat.reduceAdd,Int.reduceEq,Int.reduceLT,Int.reduceLE,Bool.not_not];exact An _ _
   by_cases h1:op=1
   ·simp only [↓UU2,↓XX,XY,↓reduceIte,Nat.reduceBEq,Nat.reduceAdd,Int.reduceEq,Int.reduceLT,Int.reduceLE,h1];rw [h1] at hrest;exact hrest
   by_cases h2:op=15
   ·simp only [↓UU2,↓XX,XY,↓reduceIte,Nat.reduceBEq,Nat.reduceAdd,Int.reduceEq,Int.reduceLT,Int.reduceLE,h2];rw [h2] at hrest;exact hrest
   by_cases h3:op=16
   ·simp only [↓UU2,↓XX,XY,↓reduceIte,Nat.reduceBEq,Nat.reduceAdd,Int.reduceEq,Int.reduceLT,Int.reduceLE,h3];rw [h3] at hrest;exact hrest
   by_cases h4:op=17
   ·simp only [↓UU2,↓XX,XY,↓reduceIte,Nat.reduceBEq,Nat.reduceAdd,Int.reduceEq,Int.reduceLT,Int.reduceLE,h4];rw [h4] at hrest;exact hrest
   have h5:¬ op<20:=by omega
   have h6:¬ 29<op:=by omega
   simp only [↓UU2,↓XX,XY,↓reduceIte,Nat.reduceBEq,Nat.reduceAdd,Int.reduceEq,Int.reduceLT,Int.reduceLE,h1,h2,h3,h4,h5,h6];exact hrest
theorem QC {n:Nat} (t:Tm) (hn:4 * t.wt+5<n) (hw:t.wt<=900000):AZ (SS dt n 18 [.fv t.enc] ⟨[],[]⟩) (.bool t.plainP):=by
 obtain ⟨n,rfl⟩:∃k,n=k+1:=⟨n - 1,by omega⟩;rw [c18];have h:=ArI n t (by omega) hw;obtain ⟨o,p,l⟩:=t;rw [Am] at h ⊢;simp only [S18,↓XX,XY,↓reduceIte,Nat.reduceBEq,Nat.reduceAdd,Int.reduceEq,Int.reduceLT,Int.reduceLE,↓Ag h];exact An _ _
inductive RV where
 | mk (op n:Int) (k env:List RV) (b:Tm)
def Tm.z:Tm:=.mk 0 0 []
def RV.enc:RV->FV
 | .mk op n k env (.mk bo bn bk)=>.fp [.int .i64 op,.int .i64 n,.sl (encL k),.sl (encL env),.int .i64 bo,.int .i64 bn,.sl (bk.map Tm.enc)] 0
where
 encL:List RV->List FV
  | []=>[]
  | v::l=>v.enc::encL l
theorem AlR (l:List RV):RV.enc.encL l=l.map RV.enc:=by
 induction l with
 | nil=>rfl
 | cons t l ih=>simp [RV.enc.encL,ih]
theorem I3 (op n:Int) (k env:List RV) (bo bn:Int) (bk:List Tm):(RV.mk op n k env (.mk bo bn bk)).enc =
  .fp [.int .i64 op,.int .i64 n,.sl (k.map RV.enc),.sl (env.map RV.enc),.int .i64 bo,.int .i64 bn,.sl (bk.map Tm.enc)] 0:=by simp only [RV.enc,AlR]
def RV.op:RV->Int
 | .mk op _ _ _ _=>op
def RV.n:RV->Int
 | .mk _ n _ _ _=>n
def RV.k:RV->List RV
 | .mk _ _ k _ _=>k
def RV.env:RV->List RV
 | .mk _ _ _ env _=>env
def RV.b:RV->Tm
 | .mk _ _ _ _ b=>b
def RV.var (n:Int):RV:=.mk 1 n [] [] .z
def RV.clo (env:List RV) (b:Tm):RV:=.mk 0 0 [] env b
def RV.zero:RV:=.mk 11 0 [] [] .z
def RV.node (op n:Int) (k:List RV):RV:=.mk op n k [] .z
theorem Ng (v:RV):v.enc=.fp [.int .i64 v.op,.int .i64 v.n,.sl (v.k.map RV.enc),.sl (v.env.map RV.enc),.int .i64 v.b.op,.int .i64 v.b.n,.sl (v.b.kids.map Tm.enc)] 0:=by
 obtain ⟨op,n,k,env,⟨bo,bn,bk⟩⟩:=v;exact I3 ..
theorem W8 (t:Tm):Tm.enc t=.agg [.int .i64 t.op,.int .i64 t.n,.sl (t.kids.map Tm.enc)]:=by cases t;exact Am ..
theorem OR (v:RV):v.enc.cells.length=1:=by obtain ⟨op,n,k,env,⟨bo,bn,bk⟩⟩:=v;rfl
theorem UT (v:RV):v.enc.cells.all FV.one=true:=by obtain ⟨op,n,k,env,⟨bo,bn,bk⟩⟩:=v;rfl
theorem AhO (v:RV):v.enc.cells=[v.enc]:=by obtain ⟨op,n,k,env,⟨bo,bn,bk⟩⟩:=v;rfl
theorem tVs:EE.T 114=some ⟨1,24,.slice 84,[.nils]⟩:=by kernel_rfl
theorem tVp:EE.T 84=some ⟨1,8,.ptr,[.fv .nilp]⟩:=by kernel_rfl
theorem sV:SliceT EE 114 1:=⟨_,_,_,_,_,tVs,tVp,rfl,by decide,by decide⟩
theorem JY (l:List RV):BG 1 (l.map RV.enc)=true:=by
 cases l with
 | nil=>rfl
 | cons a l=>simp only [AB5,BG,OR,beq_self_eq_true]
theorem AqY (s:Nat) (h:Hp) (k:IV->Hp->List Ref->List Ref->Option (IV×Hp)):Ay (Ak EE 114 0 []) s h k=k (.clip []) h [] [] :=
 Cv tVs tVp (by decide) (cells:=[]) rfl k
theorem VQ (a:RV) (s:Nat) (h:Hp) (k:IV->Hp->List Ref->List Ref->Option (IV×Hp)):Ay (Ak EE 114 1 [(0,.fv a.enc)]) s h k=k (.clip [a.enc]) h [] []:=by
 obtain ⟨op,n,kk,env,⟨bo,bn,bk⟩⟩:=a;rw [I3];exact Cv tVs tVp (by decide) (cells:=[.fp [.int .i64 op,.int .i64 n,.sl (kk.map RV.enc),.sl (env.map RV.enc),.int .i64 bo,.int .i64 bn,.sl (bk.map Tm.enc)] 0]) rfl k
theorem AvS (a b:RV) (s:Nat) (h:Hp) (k:IV->Hp->List Ref->List Ref->Option (IV×Hp)):Ay (Ak EE 114 2 [(0,.fv a.enc),(1,.fv b.enc)]) s h k=k (.clip [a.enc,b.enc]) h [] []:=by
 obtain ⟨op,n,kk,env,⟨bo,bn,bk⟩⟩:=a;obtain ⟨op',n',kk',env',⟨bo',bn',bk'⟩⟩:=b;rw [I3,I3];exact Cv tVs tVp (by decide) (cells:=[.fp [.int .i64 op,.int .i64 n,.sl (kk.map RV.enc),.sl (env.map RV.enc),.int .i64 bo,.int .i64 bn,.sl (bk.map Tm.enc)] 0,.fp [.int .i64 op',.int .i64 n',.sl (kk'.map RV.enc),.sl (env'.map RV.enc),.int .i64 bo',.int .i64 bn',.sl (bk'.map Tm.enc)] 0]) rfl k
theorem Axp (a b c d:RV) (s:Nat) (h:Hp) (k:IV->Hp->List Ref->List Ref->Option (IV×Hp)):Ay (Ak EE 114 4 [(0,.fv a.enc),(1,.fv b.enc),(2,.fv c.enc),(3,.fv d.enc)]) s h k =
  k (.clip [a.enc,b.enc,c.enc,d.enc]) h [] []:=by
 have key:∀x:RV,∃l,x.enc=.fp l 0:=fun x=>⟨_,Ng x⟩;obtain ⟨la,ha⟩:=key a;obtain ⟨lb,hb⟩:=key b;obtain ⟨lc,hc⟩:=key c;obtain ⟨ld,hd⟩:=key d;rw [ha,hb,hc,hd];exact Cv tVs tVp (by decide) (cells:=[.fp la 0,.fp lb 0,.fp lc 0,.fp ld 0]) rfl k
theorem Amq (e:RV) (s:Nat) (own:List (Nat×Blk)) (ext:List Blk) (k:IV->Hp->List Ref->List Ref->Option (IV×Hp)) :
  Ay (AO EE s false .append [114,114] [.nils,.clip [e.enc]]) s ⟨own,ext⟩ k=C0 own s (A4 own s (.tok 1 1) fun own=>k (.app (.own s) [e.enc]) ⟨own,ext⟩ [] [.own s]) :=
 HS sV (.clip _) (JY [e]) rfl (by simp) (.inl rfl) s own ext k
theorem Wm {es:List RV} (hb:es.length+1<=1000000) (e:RV) (r s:Nat) (own:List (Nat×Blk)) (ext:List Blk) (k:IV->Hp->List Ref->List Ref->Option (IV×Hp)) :
  Ay (AO EE s false .append [114,114] [.app (.own r) (es.map RV.enc),.clip [e.enc]]) s ⟨own,ext⟩ k =
   G6 own r fun b=>Akr b es.length 1 (A4 own r (.tok (es.length+1) 1) fun own=>k (.app (.own r) ((es++[e]).map RV.enc)) ⟨own,ext⟩ [.own r] [.own r]):=by
 rw [Qu sV (.clip [e.enc]) (JY [e]) (JY es) (by simp [UT]) (by simpa using hb) r s own ext k];simp only [List.length_map,List.map_append,AB5,AB4,AB3,List.length_nil,Nat.zero_add]
theorem RN {n:Nat} (hn:0<n) (env vs:List RV) (hv:vs≠[]) (hb:env.length+vs.length<=1000000):AZ (SS dt n 87 [.fv (.sl (env.map RV.enc)),.fv (.sl (vs.map RV.enc))] ⟨[],[]⟩) (.sl ((env++vs).map RV.enc)):=by
 obtain ⟨n,rfl⟩:∃k,n=k+1:=⟨n - 1,by omega⟩;rw [c87];have hvs:(vs.map RV.enc).isEmpty=false:=by cases vs with
  | nil=>exact absurd rfl hv
  | cons _ _=>rfl
 cases env with
 | nil =>
  simp only [S87,↓XX,XY,↓reduceIte,Nat.reduceBEq,Nat.reduceAdd,Int.reduceEq,Int.reduceLT,Int.reduceLE,↓AqY,↓YF sV (.sl []) (.inr rfl),↓HS sV (.sl (vs.map RV.enc)) (JY vs) hvs (by simp;simp at hb;omega) (.inr rfl),List.nil_append];exact Bb rfl _
 | cons a env =>
  simp only [S87,↓XX,XY,↓reduceIte,Nat.reduceBEq,Nat.reduceAdd,Int.reduceEq,Int.reduceLT,Int.reduceLE,↓AqY];have h1:((a::env).map RV.enc).isEmpty=false:=rfl;have h0:=fun {β:Type}=>HS (β:=β) sV (.sl ((a::env).map RV.enc)) (JY (a::env)) h1 (by simp only [List.length_map];omega) (.inr rfl:IV.clip []=.nils\/IV.clip []=.clip []);have h2:=fun {β:Type}=>Qu (β:=β) sV (.sl (vs.map RV.enc)) (JY vs) (JY (a::env)) (by simp [UT]) (by simp only [List.length_map];omega);simp only [AB5] at h0 h2;simp only [↓XX,XY,↓reduceIte,Nat.reduceBEq,Nat.reduceAdd,Int.reduceEq,Int.reduceLT,Int.reduceLE,↓h0,↓h2,↓Hl,List.map_append,List.cons_append];exact Bb rfl _
theorem Ajv {n:Nat} (hn:0<n) (s nd:Int) (h1:s<=1000000) (h0:0<=s):Bm (SS dt n 108 [.ptr (.ext 0) 0] ⟨[],[.row [iv s,iv nd,iv 0] false]⟩) (.bool (decide (s+1<=1000)))
  [.row [iv (s+1),iv nd,iv (if s+1<=1000 then 0 else 17)] false]:=by
 obtain ⟨n,rfl⟩:∃k,n=k+1:=⟨n - 1,by omega⟩;rw [Ay1];have hw:BK (s+1)=s+1:=by rw [Av]<;>omega
 by_cases h:s+1<=1000
 ·have h':¬ 1000<s+1:=by omega
  simp only [Uc,Q5,TN,Sj,AiL,↓XX,XY,↓reduceIte,Nat.reduceBEq,Nat.reduceAdd,Int.reduceEq,Int.reduceLT,Int.reduceLE,hw,h,h'];exact AG _ _ _
 ·have h':1000<s+1:=by omega
  simp only [Uc,Q5,TN,Sj,AiL,↓XX,XY,↓reduceIte,Nat.reduceBEq,Nat.reduceAdd,Int.reduceEq,Int.reduceLT,Int.reduceLE,hw,h,h'];exact AG _ _ _
inductive PV where
 | nil
 | mk (op n:Int) (k:List PV) (t:Tm) (e:List PV)
def PV.enc:PV->FV
 | .nil=>.nilp
 | .mk op n k (.mk to tn tk) e=>.fp [.int .i64 op,.int .i64 n,.sl (encL k),.int .i64 to,.int .i64 tn,.sl (tk.map Tm.enc),encE e] 0
where
 encL:List PV->List FV
  | []=>[]
  | v::l=>v.enc::encL l
 encE:List PV->FV
  | []=>.nilp
  | v::l=>.fp [v.enc,encE l] 0
def PV.encEnv:List PV->FV
 | []=>.nilp
 | v::l=>.fp [v.enc,encEnv l] 0
theorem Ajh (l:List PV):PV.enc.encL l=l.map PV.enc:=by
 induction l with
 | nil=>rfl
 | cons t l ih=>simp [PV.enc.encL,ih]
theorem AkT (l:List PV):PV.enc.encE l=PV.encEnv l:=by
 induction l with
 | nil=>rfl
 | cons t l ih=>simp [PV.enc.encE,PV.encEnv,ih]
theorem Hj:PV.nil.enc=.nilp:=rfl
theorem AV (op n:Int) (k:List PV) (bo bn:Int) (bk:List Tm) (e:List PV):(PV.mk op n k (.mk bo bn bk) e).enc =
  .fp [.int .i64 op,.int .i64 n,.sl (k.map PV.enc),.int .i64 bo,.int .i64 bn,.sl (bk.map Tm.enc),PV.encEnv e] 0:=by simp only [PV.enc,Ajh,AkT]
theorem Up:PV.encEnv []=.nilp:=rfl
theorem P9 (v:PV) (l:List PV):PV.encEnv (v::l)=.fp [v.enc,PV.encEnv l] 0:=rfl
def PV.var (n:Int):PV:=.mk 1 n [] .z []
theorem VP (n:Int):(PV.var n).enc=.fp [.int .i64 1,.int .i64 n,.sl [],.int .i64 0,.int .i64 0,.sl [],.nilp] 0:=by rw [PV.var,Tm.z,AV];rfl
theorem Ov (v:PV):∀l,v.enc≠.agg l:=by
 intro l h;cases v with
 | nil=>cases h
 | mk op n k t e=>obtain ⟨bo,bn,bk⟩:=t;rw [AV] at h;cases h
theorem AmE (v:PV):H6 v.enc=true:=by
 cases v with
 | nil=>rfl
 | mk op n k t e=>obtain ⟨bo,bn,bk⟩:=t;rw [AV];rfl
theorem Ew (v:PV):v.enc.cells=[v.enc]:=by
 cases v with
 | nil=>rfl
 | mk op n k t e=>obtain ⟨bo,bn,bk⟩:=t;rw [AV];rfl
theorem ArK {β:Type} {l:List PV} {i:Nat} {v:PV} (h:l[i]?=some v) (k:IV->Option β):AN 1 (.fv (.sl (l.map PV.enc))) (iv i) k=k (.fv (.fp [v.enc] 0)):=by
 have h1:(l.map PV.enc)[i]?=some v.enc:=by rw [List.getElem?_map,h];rfl
 rw [Bt h1 (by rw [Ew];rfl),Ew]
theorem tPs:EE.T 127=some ⟨1,24,.slice 96,[.nils]⟩:=by kernel_rfl
theorem tPp:EE.T 96=some ⟨1,8,.ptr,[.fv .nilp]⟩:=by kernel_rfl
theorem Awz (a:PV) (s:Nat) (h:Hp) (k:IV->Hp->List Ref->List Ref->Option (IV×Hp)):Ay (Ak EE 127 1 [(0,.fv a.enc)]) s h k=k (.clip [a.enc]) h [] []:=by
 cases a with
 | nil=>exact Cv tPs tPp (by decide) (cells:=[.nilp]) rfl k
 | mk op n kk t e =>
  obtain ⟨bo,bn,bk⟩:=t;rw [AV];exact Cv tPs tPp (by decide) (cells:=[.fp [.int .i64 op,.int .i64 n,.sl (kk.map PV.enc),.int .i64 bo,.int .i64 bn,.sl (bk.map Tm.enc),PV.encEnv e] 0]) rfl k
theorem Nk (a:PV):a.enc=.nilp\/∃l,a.enc=.fp l 0:=by
 cases a with
 | nil=>exact .inl rfl
 | mk op n kk t e=>obtain ⟨bo,bn,bk⟩:=t;exact .inr ⟨_,AV ..⟩
theorem Avy (a b:PV) (s:Nat) (h:Hp) (k:IV->Hp->List Ref->List Ref->Option (IV×Hp)):Ay (Ak EE 127 2 [(0,.fv a.enc),(1,.fv b.enc)]) s h k=k (.clip [a.enc,b.enc]) h [] []:=by
 have key:∀x y:FV,(x=.nilp\/∃l,x=.fp l 0)->(y=.nilp\/∃l,y=.fp l 0)->Ay (Ak EE 127 2 [(0,.fv x),(1,.fv y)]) s h k=k (.clip [x,y]) h [] []:=by
  rintro x y (rfl | ⟨la,rfl⟩) (rfl | ⟨lb,rfl⟩)
  ·exact Cv (len:=2) tPs tPp (by decide) (cells:=[.nilp,.nilp]) rfl k
  ·exact Cv (len:=2) tPs tPp (by decide) (cells:=[.nilp,.fp lb 0]) rfl k
  ·exact Cv (len:=2) tPs tPp (by decide) (cells:=[.fp la 0,.nilp]) rfl k
  ·exact Cv (len:=2) tPs tPp (by decide) (cells:=[.fp la 0,.fp lb 0]) rfl k
 exact key _ _ (Nk a) (Nk b)
theorem Axw (b d:PV) (s:Nat) (h:Hp) (k:IV->Hp->List Ref->List Ref->Option (IV×Hp)):Ay (Ak EE 127 4 [(0,.fv .nilp),(1,.fv b.enc),(2,.fv .nilp),(3,.fv d.enc)]) s h k=k (.clip [.nilp,b.enc,.nilp,d.enc]) h [] []:=by
 have key:∀x y:FV,(x=.nilp\/∃l,x=.fp l 0)->(y=.nilp\/∃l,y=.fp l 0)->Ay (Ak EE 127 4 [(0,.fv .nilp),(1,.fv x),(2,.fv .nilp),(3,.fv y)]) s h k=k (.clip [.nilp,x,.nilp,y]) h [] []:=by
  rintro x y (rfl | ⟨la,rfl⟩) (rfl | ⟨lb,rfl⟩)
  ·exact Cv (len:=4) tPs tPp (by decide) (cells:=[.nilp,.nilp,.nilp,.nilp]) rfl k
  ·exact Cv (len:=4) tPs tPp (by decide) (cells:=[.nilp,.nilp,.nilp,.fp lb 0]) rfl k
  ·exact Cv (len:=4) tPs tPp (by decide) (cells:=[.nilp,.fp la 0,.nilp,.nilp]) rfl k
  ·exact Cv (len:=4) tPs tPp (by decide) (cells:=[.nilp,.fp la 0,.nilp,.fp lb 0]) rfl k
 exact key _ _ (Nk b) (Nk d)
theorem Aws {β:Type} (v:PV) (z:List IV) (o:Nat) (k:List IV->Option β):HU z o 1 (.fv v.enc) k=Hn z o (.fv v.enc) k:=by
 unfold HU;rw [AkB,AmE];rfl
theorem Ak1 {β:Type} (l:List PV) (z:List IV) (o:Nat) (k:List IV->Option β):HU z o 1 (.fv (PV.encEnv l)) k=Hn z o (.fv (PV.encEnv l)) k:=by
 unfold HU;rw [AkB,show H6 (PV.encEnv l)=true by cases l<;>rfl]
 rfl
abbrev Da (f:FuncId):IV:=.agg [.func (.func f) [.ptr (.ext 0) 0] []]
abbrev ArF:Blk:=.map [(5,Da 94),(8,Da 95),(9,Da 95),(13,Da 96),(30,Da 97),(19,Da 98)]
abbrev MX (s w r e:Int):List Blk:=[.row [iv s,iv w,iv r,iv e,.mapr (.ext 1)] false,ArF]
theorem An0 (s w r e:Int):∀j,Ref.own j ∉ (MX s w r e).flatMap Blk.refs:=by
 intro j h;simp only [MX,List.flatMap_cons,List.flatMap_nil,Blk.refs,IV.refs.refsL,IV.refs,AB5,AB4,List.append_nil,List.nil_append,List.cons_append,List.mem_cons,List.not_mem_nil,or_false,reduceCtorEq] at h
theorem Aqh (s w r e s' w' r' e':Int):ExtX (MX s w r e) (MX s' w' r' e'):=⟨rfl,rfl,rfl⟩
section
variable {ih:Aj} {f:FuncId} {w:FV} {s u r e s' u' r' e':Int} (own:List (Nat×Blk)) (k:IV->Hp->List Ref->List Ref->Option (IV×Hp))
theorem Y1 (args:List IV) (ks:List Bool) (hks:∀b∈ks,b=false) {vs:List FV} (hz:BL args=some vs) (hr:Bm (ih f (.ptr (.ext 0) 0::vs.map .fv) ⟨[],MX s u r e⟩) w (MX s' u' r' e')) :
  A0 (true::ks) false false ih f (.ptr (.ext 0) 0::args) ⟨own,MX s u r e⟩ k=k (.fv w) ⟨own,MX s' u' r' e'⟩ [.ext 1,.ext 0] [.ext 0,.ext 1] :=
 Afw (fun e k=>O2 0 args _ _ e k ks hks hz) (Aqh ..) hr (fun _=>rfl) k
theorem FI (hr:Bm (ih f [.ptr (.ext 0) 0] ⟨[],MX s u r e⟩) w (MX s' u' r' e')):A0 [true] false false ih f [.ptr (.ext 0) 0] ⟨own,MX s u r e⟩ k=k (.fv w) ⟨own,MX s' u' r' e'⟩ [.ext 1,.ext 0] [.ext 0,.ext 1]:=Y1 own k [] [] (by simp) rfl hr
theorem TQ {a:IV} {x:FV} (hr:Bm (ih f [.ptr (.ext 0) 0,.fv x] ⟨[],MX s u r e⟩) w (MX s' u' r' e')) (ha:Ba a=some x):A0 [true,false] false false ih f [.ptr (.ext 0) 0,a] ⟨own,MX s u r e⟩ k=k (.fv w) ⟨own,MX s' u' r' e'⟩ [.ext 1,.ext 0] [.ext 0,.ext 1] :=
 Y1 own k [a] [false] (by simp) (Amv ha) hr
theorem All {a b:IV} {x y:FV} (hr:Bm (ih f [.ptr (.ext 0) 0,.fv x,.fv y] ⟨[],MX s u r e⟩) w (MX s' u' r' e')) (ha:Ba a=some x) (hb:Ba b=some y):A0 [true,false,false] false false ih f [.ptr (.ext 0) 0,a,b] ⟨own,MX s u r e⟩ k=k (.fv w) ⟨own,MX s' u' r' e'⟩ [.ext 1,.ext 0] [.ext 0,.ext 1] :=
 Y1 own k [a,b] [false,false] (by simp) (WJ ha hb) hr
theorem TS {a b c:IV} {x y z:FV} (hr:Bm (ih f [.ptr (.ext 0) 0,.fv x,.fv y,.fv z] ⟨[],MX s u r e⟩) w (MX s' u' r' e')) (ha:Ba a=some x) (hb:Ba b=some y) (hc:Ba c=some z) :
  A0 [true,false,false,false] false false ih f [.ptr (.ext 0) 0,a,b,c] ⟨own,MX s u r e⟩ k=k (.fv w) ⟨own,MX s' u' r' e'⟩ [.ext 1,.ext 0] [.ext 0,.ext 1] :=
 Y1 own k [a,b,c] [false,false,false] (by simp) (Ahq ha hb hc) hr
end
theorem Ap2 {ih:Aj} {f:FuncId} {w:FV} {s0:Nat} {s u r e s' u' r' e':Int} {own:List (Nat×Blk)} {cells:List IV} {ro:Bool} {fc:List FV} (hr:Bm (ih f [.ptr (.ext 0) 0,.fv (.fp fc 0)] ⟨[],MX s u r e⟩) w (MX s' u' r' e'))
  (hl:Ao s0 own=some (.row cells ro)) (hz:Do cells=some fc) (hn:cells.length<=300) (k:IV->Hp->List Ref->List Ref->Option (IV×Hp)) :
  A0 [true,false] false false ih f [.ptr (.ext 0) 0,.ptr (.own s0) 0] ⟨own,MX s u r e⟩ k=k (.fv w) ⟨AP s0 (.row cells true) own,MX s' u' r' e'⟩ [.ext 1,.ext 0,.own s0] [.own s0,.ext 0,.ext 1]:=by
 refine Afw (ks:=[false]) (vs:=[.fp fc 0]) (u:=[(.own s0,.row cells true)]) (lg:=[.own s0]) ?_ (Aqh ..) hr ?_ k
 ·intro e k;rw [TD,WQ,Mw,BC,hl];simp only [Option.bind_some,JZ];rw [Bl,decide_eq_true hn,c_t,Ag5 10 _ _ _ cells _ hz,fz0];rfl
 ·intro k
  show (G6 own s0 fun _=>A4 own s0 (.row cells true) fun own=>k ⟨own,_⟩)=_
  rw [BC,hl,Option.bind_some,BZ]
theorem Anm {ih:Aj} {f:FuncId} {w:FV} {s0 s2 len:Nat} {s u r e s' u' r' e':Int} {own own':List (Nat×Blk)} {es:List FV} {ro ro2:Bool} {a b c d t x:FV} (hr:Bm (ih f [.ptr (.ext 0) 0,.fv (.fp [a,b,.sl es,c,d,t,x] 0)] ⟨[],MX s u r e⟩) w (MX s' u' r' e'))
  (hl:Ao s0 own=some (.row [.fv a,.fv b,.slc (.own s2) 1 len,.fv c,.fv d,.fv t,.fv x] ro)) (hl2:Ao s2 own=some (.row (es.map .fv) ro2)) (hlen:es.length=len) (hne:s2≠s0) (hn:es.length<=300) (ha:∀x∈es,∀l,x≠.agg l)
  (ho:AP s2 (.row (es.map .fv) true) (AP s0 (.row [.fv a,.fv b,.slc (.own s2) 1 len,.fv c,.fv d,.fv t,.fv x] true) own)=own') (k:IV->Hp->List Ref->List Ref->Option (IV×Hp)) :
  A0 [true,false] false false ih f [.ptr (.ext 0) 0,.ptr (.own s0) 0] ⟨own,MX s u r e⟩ k=k (.fv w) ⟨own',MX s' u' r' e'⟩ [.ext 1,.ext 0,.own s2,.own s0] [.own s0,.own s2,.ext 0,.ext 1]:=by
 subst ho hlen;refine Afw (ks:=[false]) (vs:=[.fp [a,b,.sl es,c,d,t,x] 0]) (u:=[(.own s0,.row [.fv a,.fv b,.slc (.own s2) 1 es.length,.fv c,.fv d,.fv t,.fv x] true),(.own s2,.row (es.map .fv) true)]) (lg:=[.own s2,.own s0]) ?_ (Aqh ..) hr ?_ k
 ·intro e k;rw [TD,Aw8 hl hl2 hn ha,fz0];rfl
 ·intro k;have h2:∀(own:List (Nat×Blk)) (b:Blk),Ao s2 (AP s0 b own)=Ao s2 own:=by
   intro own b
   induction own with
   | nil=>simp only [AP,Ao,if_neg hne]
   | cons p l ih =>
    obtain ⟨j,c⟩:=p;simp only [AP];split
    ·rename_i h;subst h;simp only [Ao,if_neg hne]
    ·simp only [Ao,ih]
  show (G6 own s0 fun _=>A4 own s0 _ fun own=>G6 own s2 fun _=>A4 own s2 _ fun own=>k ⟨own,_⟩)=_
  rw [BC,hl,Option.bind_some,BZ,BC,h2,hl2,Option.bind_some,BZ]
theorem Avo (e:List PV) (l:List FV):DA (PV.encEnv e::l)=DA l:=VI (by cases e<;>rfl) l
structure M3 where
 s:Int
 w:Int
 e:Int
def HY (m:M3):Option M3:=if m.w < -1000000000\/1000000000<m.w then none else some ⟨m.s,m.w - 1,if m.w - 1<0/\m.e=0 then 17 else m.e⟩
theorem Sg {m m':M3} (h:HY m=some m') (r:Int) {n:Nat} (hn:0<n):Bm (SS dt n 99 [.ptr (.ext 0) 0] ⟨[],MX m.s m.w r m.e⟩) (.tuple []) (MX m'.s m'.w r m'.e):=by
 obtain ⟨n,rfl⟩:∃k,n=k+1:=⟨n - 1,by omega⟩;rw [c99];unfold HY at h;split at h
 ·cases h
 ·cases h;have hw:BK (m.w - 1)=m.w - 1:=by rw [Av]<;>omega
  by_cases h1:m.w - 1<0
  ·by_cases h2:m.e=0
   ·simp only [Sr,Rz,T4,TM,S99,↓XX,XY,↓reduceIte,Nat.reduceBEq,Nat.reduceAdd,Int.reduceEq,Int.reduceLT,Int.reduceLE,hw,h1,h2,true_and,and_true,if_true];exact AG _ _ _
   ·simp only [Sr,Rz,T4,TM,S99,↓XX,XY,↓reduceIte,Nat.reduceBEq,Nat.reduceAdd,Int.reduceEq,Int.reduceLT,Int.reduceLE,hw,h1,h2,and_false,if_false];exact AG _ _ _
  ·simp only [Sr,Rz,T4,TM,S99,↓XX,XY,↓reduceIte,Nat.reduceBEq,Nat.reduceAdd,Int.reduceEq,Int.reduceLT,Int.reduceLE,hw,h1,false_and,if_false];exact AG _ _ _
def Gp (env:List PV) (m:Int):PV:=if m<env.length then env.getD m.toNat .nil else .var (env.length - 1 - m)
theorem Vc:∀(env:List PV) (m:Int),0<=m->m<=2305843009213693952->∀n,env.length<n->AZ (BH n (fun q3 l4 h5=>K9 l4 h5 q3) [.fv (PV.encEnv env),iv m] ⟨[],[]⟩) (Gp env m).enc:=by
 intro env m h0 h1 n hn;refine Bc (Q:=fun r=>AZ r _) (fun k V H=>∃(rest:List PV) (j:Int),rest.length=k/\0<=j+env.length/\j<=m/\V=[.fv (PV.encEnv rest),iv j]/\H=⟨[],[]⟩/\Gp rest j=Gp env m/\0<=j) ?_ n env.length _ _ hn ⟨env,m,rfl,by omega,Int.le_refl _,rfl,rfl,rfl,h0⟩;rintro k V H rec ⟨rest,j,hl,hj,hjm,rfl,rfl,hlk,hj0⟩ hrec;have hw:BK (-1 - j)=-1 - j:=by rw [Av]<;>omega
 have hw2:BK (j - 1)=j - 1:=by rw [Av]<;>omega
 cases rest with
 | nil =>
  have:Gp ([]:List PV) j=.var (-1 - j):=by
   unfold Gp;rw [if_neg (by simp<;>omega)];rfl
  rw [<- hlk,this,VP];simp only [Nv,M8,MY,M5,K9,Ahv,Up,↓XX,XY,↓reduceIte,Nat.reduceBEq,Nat.reduceAdd,Int.reduceEq,Int.reduceLT,Int.reduceLE,hw];exact ⟨_,_,rfl,.inl ⟨_,_,fun _ _=>rfl⟩⟩
 | cons v rest =>
  by_cases hz:j=0
  ·subst hz
   have:Gp (v::rest) 0=v:=by
    unfold Gp;rw [if_pos (by simp<;>omega)];rfl
   rw [<- hlk,this];simp only [Nv,M8,MY,M5,K9,Ahv,P9,↓XX,XY,↓reduceIte,Nat.reduceBEq,Nat.reduceAdd,Int.reduceEq,Int.reduceLT,Int.reduceLE];exact An _ _
  ·simp only [Nv,M8,MY,M5,K9,Ahv,P9,↓XX,XY,↓reduceIte,Nat.reduceBEq,Nat.reduceAdd,Int.reduceEq,Int.reduceLT,Int.reduceLE,hz,hw2];simp only [AB3] at hl;refine hrec rest.length _ _ (by omega) ⟨rest,j - 1,rfl,by omega,by omega,rfl,rfl,?_,by omega⟩;rw [<- hlk];unfold Gp;simp only [AB3,Int.natCast_add,Int.natCast_one];by_cases h:j<rest.length+1
   ·rw [if_pos h,if_pos (by omega)];obtain ⟨i,rfl⟩:∃i:Nat,j=i+1:=⟨(j - 1).toNat,by omega⟩;rw [show ((i:Int)+1 - 1).toNat=i by omega,show ((i:Int)+1).toNat=i+1 by omega]
    rfl
   ·rw [if_neg h,if_neg (by omega)];congr 1;omega
theorem Wq {n:Nat} (env:List PV) (m:Int) (h0:0<=m) (h1:m<=2305843009213693952) (hn:env.length+1<n):AZ (SS dt n 100 [.fv (PV.encEnv env),iv m] ⟨[],[]⟩) (Gp env m).enc:=by
 obtain ⟨n,rfl⟩:∃k,n=k+1:=⟨n - 1,by omega⟩;rw [AyG];exact Vc env m h0 h1 n (by omega)
theorem Ask {n:Nat} (env l:List PV) (hl:l.length<=10) (hn:l.length+1<n):AZ (SS dt n 111 [.fv (PV.encEnv env),.fv (.sl (l.map PV.enc))] ⟨[],[]⟩) (PV.encEnv (l.reverse++env)):=by
 obtain ⟨n,rfl⟩:∃k,n=k+1:=⟨n - 1,by omega⟩;rw [AyR];simp only [Nw,NB,Ait,↓XX,XY,↓reduceIte,Nat.reduceBEq,Nat.reduceAdd,Int.reduceEq,Int.reduceLT,Int.reduceLE,↓AI,XD,heldB,AR,XE];refine Bc (Q:=fun r=>AZ r _) (fun k V H=>∃(pre rest:List PV),l=pre++rest/\rest.length=k/\V=[.fv (PV.encEnv (pre.reverse++env)),.fv (.sl (l.map PV.enc)),iv l.length,iv pre.length]/\H=⟨[],[]⟩) ?_ n l.length _ _ (by omega) ⟨[],l,rfl,rfl,rfl,rfl⟩;rintro k V H rec ⟨pre,rest,hk,hl2,rfl,rfl⟩ hrec;have hkl:l.length=pre.length+rest.length:=by rw [hk];simp
 cases rest with
 | nil =>
  have hno:¬ ((pre.length:Int)<l.length):=by rw [hkl];simp
  rw [List.append_nil] at hk;subst hk;simp only [Nw,NB,Tl,Ait,↓XX,XY,↓reduceIte,Nat.reduceBEq,Nat.reduceAdd,Int.reduceEq,Int.reduceLT,Int.reduceLE,hno];exact An _ _
 | cons x rest =>
  have hi:(pre.length:Int)<l.length:=by rw [hkl];simp;omega
  have hg:=CC hk;have hwi:BK ((pre.length:Int)+1)=((pre++[x]).length:Int):=(Av (by omega) (by omega)).trans (by simp);simp only [AB3] at hl2;simp only [Nw,NB,Tl,Ait,↓XX,XY,↓reduceIte,Nat.reduceBEq,Nat.reduceAdd,Int.reduceEq,Int.reduceLT,Int.reduceLE,hi,↓ArK hg,↓Aws,↓Ak1,hwi,↓AI,XD,heldB,AR,XE];refine hrec rest.length _ _ (by omega) ⟨pre++[x],rest,by rw [hk];simp,rfl,?_,rfl⟩;simp [PV.encEnv]
end Idl
end Go.Proofs.Ytkfecngimlcfoaa
namespace Go.Proofs.Ytkfecngimlcfoaa
namespace Idl
def PV.op:PV->Int
 | .nil=>0
 | .mk op _ _ _ _=>op
def R2 (ev:Tm->M3->Option (PV×M3)) (op:Int):Nat->List Tm->M3->Option (List PV×M3)
 | _,[],m=>some ([],m)
 | i,t::l,m=>if 0<Af op i then (R2 ev op (i+1) l m).map fun (vs,m)=>(.nil::vs,m) else
  match ev t m with
  | none=>none
  | some (v,m)=>(R2 ev op (i+1) l m).map fun (vs,m)=>(v::vs,m)
def CW (op:Int):Bool:=op == 5 || (op == 8 || (op == 9 || (op == 13 || (op == 30 || op == 19))))
mutual
def RU:Nat->List PV->Tm->M3->Option (PV×M3)
 | 0,_,_,_=>none
 | f+1,env,.mk op n ks,m=>match HY m with
  | none=>none
  | some m=>if op=1 then (if 0<=n/\n<=2305843009213693952/\env.length+1<f then some (Gp env n,m) else none)
   else if f<=ks.length\/300<ks.length\/f=0 then none
   else if m.e≠0 then some (.mk op n (List.replicate ks.length .nil) (.mk op n ks) env,m)
   else match R2 (fun t m=>RU f env t m) op 0 ks m with
    | none=>none
    | some (vs,m)=>if m.e≠0 then some (.mk op n vs (.mk op n ks) env,m) else ctP f (.mk op n vs (.mk op n ks) env) m
def ctP:Nat->PV->M3->Option (PV×M3)
 | 0,_,_=>none
 | f+1,v,m=>match v with
  | .nil=>none
  | .mk op n k t e=>if CW op then (if m.e≠0 then some (.mk op n k t e,m) else if f=0 then none else match HY m with
    | none=>none
    | some m=>if m.e≠0 then some (.mk op n k t e,m) else match stP f (.mk op n k t e) m with
     | none=>none
     | some (.nil,m)=>some (.mk op n k t e,m)
     | some (u,m)=>if m.e≠0 then some (.mk op n k t e,m) else if m.s < -1000000000\/1000000000<m.s then none else
      some (u,⟨m.s - 1,m.w,if m.s - 1<0 then 17 else 0⟩))
   else some (.mk op n k t e,m)
def stP:Nat->PV->M3->Option (PV×M3)
 | 0,_,_=>none
 | f+1,v,m=>match v with
  | .nil=>none
  | .mk op n k t e=>if op=5 then (match k with
    | [.mk o0 n0 k0 t0 e0,x]=>if o0=4 then opP f (.mk o0 n0 k0 t0 e0) 1 [x] m else some (.nil,m)
    | _=>none)
   else if op=8\/op=9 then (match k with
    | [.mk o0 n0 k0 t0 e0]=>if o0=7 then (match k0 with
      | [_,x,y]=>some (if op=8 then x else y,m)
      | _=>none) else some (.nil,m)
    | _=>none)
   else if op=13 then (match k with
    | [_,z,_,.mk o3 n3 k3 t3 e3]=>if o3=11 then some (z,m) else if o3=12 then (match k3 with
      | [x]=>(match ctP f (.mk op n [.nil,z,.nil,x] t e) m with
       | none=>none
       | some (h,m)=>opP f (.mk op n k t e) 2 [x,h] m)
      | _=>none) else some (.nil,m)
    | _=>none)
   else (
      match k with
    | [.mk o0 n0 k0 t0 e0]=>if o0=(if op=30 then 19 else 30) then (match k0 with
      | [x]=>some (x,m)
      | _=>none) else some (.nil,m)
    | _=>none)
def opP:Nat->PV->Nat->List PV->M3->Option (PV×M3)
 | 0,_,_,_,_=>none
 | f+1,v,i,l,m=>match v with
  | .nil=>none
  | .mk _ _ _ (.mk _ _ tk) e=>if f<=l.length+1\/10<l.length then none else match tk[i]? with
   | none=>none
   | some b=>RU f (l.reverse++e) b m
end
theorem tMk:(EE.T 98).map (·.kind)=some (.map 3 124):=by kernel_rfl
theorem tIk:(EE.T 3).map (·.kind)=some (.int .i64):=by kernel_rfl
theorem tRz:(EE.T 124).bind R9=some (.fv (.agg [.nilf])):=by kernel_rfl
def Lt:List (Int×IV):=[(5,Da 94),(8,Da 95),(9,Da 95),(13,Da 96),(30,Da 97),(19,Da 98)]
theorem AwH (op:Int) (own:List (Nat×Blk)) (s w r e:Int):(Hr EE 98 (.mapr (.ext 1)) (iv op) true).runLog ⟨own,MX s w r e⟩ [] =
  some ((match Dh op Lt with
   | some v=>({ eff:={ val:=CE [v,.fv (.bool true)] } }:Made)
   | none=>{ eff:={ val:=CE [.fv (.agg [.nilf]),.fv (.bool false)] } }),[.ext 1]):=by
 have h1:=tMk;have h2:=tIk;have h3:=tRz;cases hm:EE.T 98 with
 | none=>rw [hm] at h1;cases h1
 | some ti =>
  cases hi:EE.T 3 with
  | none=>rw [hi] at h2;cases h2
  | some ii =>
   cases hr:EE.T 124 with
   | none=>rw [hr] at h3;cases h3
   | some ri =>
    rw [hm] at h1;rw [hi] at h2;rw [hr] at h3;obtain ⟨a,b,kd,z⟩:=ti;obtain ⟨a2,b2,kd2,z2⟩:=ii;simp only [AB2,ABZ] at h1 h2;simp only [Option.bind_some] at h3;subst h1 h2;simp only [Hr,hm,hi,hr,W7,Rd.runLog,Hp.get,MX,List.getElem?_cons_succ,List.getElem?_cons_zero]
    show (match Dh op Lt with | some v=>val (CE [v,.fv (.bool true)]) | none=>_).runLog _ _=_
    cases Dh op Lt with
    | some v=>rfl
    | none=>simp only [h3];rfl
theorem Mf {op:Int} {g:FuncId} (hg:Dh op Lt=some (Da g)) (s0:Nat) (own:List (Nat×Blk)) (s w r e:Int) (k:IV->Hp->List Ref->List Ref->Option (IV×Hp)) :
  Ay (Hr EE 98 (.mapr (.ext 1)) (iv op) true) s0 ⟨own,MX s w r e⟩ k=k (.tuple [Da g,.fv (.bool true)]) ⟨own,MX s w r e⟩ [.ext 1] []:=by
 unfold Ay;rw [AwH,hg];simp only [J8,Cy];rfl
theorem ApH {op:Int} (hg:Dh op Lt=none) (s0:Nat) (own:List (Nat×Blk)) (s w r e:Int) (k:IV->Hp->List Ref->List Ref->Option (IV×Hp)) :
  Ay (Hr EE 98 (.mapr (.ext 1)) (iv op) true) s0 ⟨own,MX s w r e⟩ k=k (.fv (.tuple [.agg [.nilf],.bool false])) ⟨own,MX s w r e⟩ [.ext 1] []:=by
 unfold Ay;rw [AwH,hg];simp only [J8,Cy];rfl
theorem YG (op:Int):Dh op Lt=if op=5 then some (Da 94) else if op=8\/op=9 then some (Da 95) else if op=13 then some (Da 96) else
  if op=30 then some (Da 97) else if op=19 then some (Da 98) else none:=by
 simp only [Lt,Dh];split
 ·rfl
 ·split
  ·rename_i h;rw [if_pos (.inl h)]
  ·split
   ·rename_i h;rw [if_pos (.inr h)]
   ·rename_i h1 h2;simp only [h1,h2,or_self,if_false]
theorem Us {g:FuncId} (h:EE.pol.inl g=false) (h1:EE.pol.keep g=[true,false]) (h2:EE.pol.split g=false) (h3:EE.pol.raw g=false) (ih:Aj) (x:IV) (h0:Hp) (k:IV->Hp->List Ref->List Ref->Option (IV×Hp)) :
  FN EE ih (.func (.func g) [.ptr (.ext 0) 0] []) [x] h0 k=A0 [true,false] false false ih g [.ptr (.ext 0) 0,x] h0 k:=by
 unfold FN;simp only [callee,h,cond_false,Ajk,h1,h2,h3];rfl
theorem Atu (ih:Aj) (x:IV) (h0:Hp) (k:IV->Hp->List Ref->List Ref->Option (IV×Hp)):FN EE ih (.func (.func 94) [.ptr (.ext 0) 0] []) [x] h0 k=A0 [true,false] false false ih 94 [.ptr (.ext 0) 0,x] h0 k :=
 Us (by kernel_rfl) (by kernel_rfl) (by kernel_rfl) (by kernel_rfl) ..
theorem AbX (ih:Aj) (x:IV) (h0:Hp) (k:IV->Hp->List Ref->List Ref->Option (IV×Hp)):FN EE ih (.func (.func 95) [.ptr (.ext 0) 0] []) [x] h0 k=A0 [true,false] false false ih 95 [.ptr (.ext 0) 0,x] h0 k :=
 Us (by kernel_rfl) (by kernel_rfl) (by kernel_rfl) (by kernel_rfl) ..
theorem Auf (ih:Aj) (x:IV) (h0:Hp) (k:IV->Hp->List Ref->List Ref->Option (IV×Hp)):FN EE ih (.func (.func 96) [.ptr (.ext 0) 0] []) [x] h0 k=A0 [true,false] false false ih 96 [.ptr (.ext 0) 0,x] h0 k :=
 Us (by kernel_rfl) (by kernel_rfl) (by kernel_rfl) (by kernel_rfl) ..
theorem Arn (ih:Aj) (x:IV) (h0:Hp) (k:IV->Hp->List Ref->List Ref->Option (IV×Hp)):FN EE ih (.func (.func 97) [.ptr (.ext 0) 0] []) [x] h0 k=A0 [true,false] false false ih 97 [.ptr (.ext 0) 0,x] h0 k :=
 Us (by kernel_rfl) (by kernel_rfl) (by kernel_rfl) (by kernel_rfl) ..
theorem Atp (ih:Aj) (x:IV) (h0:Hp) (k:IV->Hp->List Ref->List Ref->Option (IV×Hp)):FN EE ih (.func (.func 98) [.ptr (.ext 0) 0] []) [x] h0 k=A0 [true,false] false false ih 98 [.ptr (.ext 0) 0,x] h0 k :=
 Us (by kernel_rfl) (by kernel_rfl) (by kernel_rfl) (by kernel_rfl) ..
theorem Ac2 (cs:List FV) (o:Nat) (k:IV->Option (IV×Hp)):AK EE 96 (.fv (.fp cs o)) (.fv .nilp) k=k (.fv (.bool false)):=by
 have:FY EE .eql 96 (.fv (.fp cs o)) (.fv .nilp)=some (.fv (.bool false)):=by
  simp only [FY,tPp];rfl
 show CF (FY EE .eql 96 (.fv (.fp cs o)) (.fv .nilp)) k=_
 rw [this];rfl
theorem ZY (k:IV->Option (IV×Hp)):AK EE 96 (.fv .nilp) (.fv .nilp) k=k (.fv (.bool true)):=by
 have:FY EE .eql 96 (.fv .nilp) (.fv .nilp)=some (.fv (.bool true)):=by
  simp only [FY,tPp];rfl
 show CF (FY EE .eql 96 (.fv .nilp) (.fv .nilp)) k=_
 rw [this];rfl
theorem IL (g:FuncId) (s0:Nat) (ext:List Blk) (k:Hp->List Ref->List Ref->Option (IV×Hp)):Ae 1 (.ptr (.own s0) 0) (Da g) ⟨[(s0,.row [.fv .nilf] false)],ext⟩ k=k ⟨[(s0,.row [.func (.func g) [.ptr (.ext 0) 0] []] false)],ext⟩ [.own s0] [.own s0]:=by
 simp only [Ae,XQ,TY,Mw,Aq1,YU];rw [if_pos ⟨rfl,rfl,by simp,rfl,rfl⟩,Ajk]
 show Gg (.own s0) (.row [.func (.func g) [.ptr (.ext 0) 0] []] false) _ _=_
 rw [Agh,Arg]
def Aot (f:Nat):Prop:=∀(env:List PV) (t:Tm) (m m':M3) (v:PV),RU f env t m=some (v,m')->∀(r:Int) (n:Nat),f+1<=n ->
 Bm (SS dt n 71 [.ptr (.ext 0) 0,.fv (PV.encEnv env),.fv t.enc] ⟨[],MX m.s m.w r m.e⟩) v.enc (MX m'.s m'.w r m'.e)
def Aob (f:Nat):Prop:=∀(v u:PV) (m m':M3),ctP f v m=some (u,m')->∀(r:Int) (n:Nat),f+1<=n ->
 Bm (SS dt n 102 [.ptr (.ext 0) 0,.fv v.enc] ⟨[],MX m.s m.w r m.e⟩) u.enc (MX m'.s m'.w r m'.e)
def JJ (op:Int):FuncId:=if op=5 then 94 else if op=8\/op=9 then 95 else if op=13 then 96 else if op=30 then 97 else 98
def Auz (f:Nat):Prop:=∀(v u:PV) (m m':M3),CW v.op=true->stP f v m=some (u,m')->∀(r:Int) (n:Nat),f+1<=n ->
 Bm (SS dt n (JJ v.op) [.ptr (.ext 0) 0,.fv v.enc] ⟨[],MX m.s m.w r m.e⟩) u.enc (MX m'.s m'.w r m'.e)
def Alw (f:Nat):Prop:=∀(v u:PV) (i:Nat) (l:List PV) (m m':M3),opP f v i l m=some (u,m')->∀(r:Int) (n:Nat),f+1<=n ->
 Bm (SS dt n 103 [.ptr (.ext 0) 0,.fv v.enc,iv i,.fv (.sl (l.map PV.enc))] ⟨[],MX m.s m.w r m.e⟩) u.enc (MX m'.s m'.w r m'.e)
theorem Hc {op:Int} (h:CW op=true):Dh op Lt=some (Da (JJ op)):=by
 rw [YG];unfold JJ;simp only [CW,Bool.or_eq_true,beq_iff_eq] at h;rcases h with h | h | h | h | h | h<;>subst h<;>rfl
theorem AhD {op:Int} (h:CW op=false):Dh op Lt=none:=by
 rw [YG];simp only [CW,Bool.or_eq_false_iff,beq_eq_false_iff_ne,ne_eq] at h;obtain ⟨h1,h2,h3,h4,h5,h6⟩:=h;simp only [h1,h2,h3,h4,h5,h6,or_self,if_false]
theorem Nb {op:Int} (h:CW op=true) (ih:Aj) (x:IV) (h0:Hp) (k:IV->Hp->List Ref->List Ref->Option (IV×Hp)) :
  FN EE ih (.func (.func (JJ op)) [.ptr (.ext 0) 0] []) [x] h0 k=A0 [true,false] false false ih (JJ op) [.ptr (.ext 0) 0,x] h0 k:=by
 simp only [CW,Bool.or_eq_true,beq_iff_eq] at h;rcases h with h | h | h | h | h | h<;>subst h
 ·exact Atu ..
 ·exact AbX ..
 ·exact AbX ..
 ·exact Auf ..
 ·exact Arn ..
 ·exact Atp ..
theorem Ap4 {f:Nat} (hs:Auz f):Aob (f+1):=by
 intro v u m m' hev r n hn;obtain ⟨n,rfl⟩:∃k,n=k+1:=⟨n - 1,by omega⟩;rw [Ay5];cases v with
 | nil=>rw [ctP] at hev;cases hev
 | mk op nn k t e =>
 rw [ctP] at hev;have hs:=hs (.mk op nn k t e);obtain ⟨bo,bn,bk⟩:=t;rw [AV] at hs ⊢;cases hr:CW op with
 | false =>
  simp only [hr,Bool.false_eq_true,if_false,ABZ,AB0] at hev;obtain ⟨rfl,rfl⟩:=hev;rw [AV];simp only [↓W2,↓XX,XY,↓reduceIte,Nat.reduceBEq,Nat.reduceAdd,Int.reduceEq,Int.reduceLT,Int.reduceLE,↓ApH (AhD hr)];exact AG _ _ _
 | true =>
  simp only [hr,if_true] at hev;by_cases h0:m.e≠0
  ·rw [if_pos h0] at hev;simp only [ABZ,AB0] at hev;obtain ⟨rfl,rfl⟩:=hev;rw [AV];simp only [↓W2,↓XX,XY,↓reduceIte,Nat.reduceBEq,Nat.reduceAdd,Int.reduceEq,Int.reduceLT,Int.reduceLE,↓Mf (Hc hr),↓IL,h0];exact AG _ _ _
  ·rw [if_neg h0] at hev;have h0:m.e=0:=by simpa using h0
   split at hev
   ·cases hev
   ·rename_i hf0;cases ht:HY m with
    | none=>rw [ht] at hev;cases hev
    | some m1 =>
     rw [ht] at hev;simp only at hev;have hc1:=Sg ht r (n:=n) (by omega);by_cases h1:m1.e≠0
     ·rw [if_pos h1] at hev;simp only [ABZ,AB0] at hev;obtain ⟨rfl,rfl⟩:=hev;rw [AV];simp only [h0] at hc1;simp only [↓W2,↓XX,XY,↓reduceIte,Nat.reduceBEq,Nat.reduceAdd,Int.reduceEq,Int.reduceLT,Int.reduceLE,↓Mf (Hc hr),↓IL,h0,↓FI _ _ hc1,h1];exact AG _ _ _
     ·rw [if_neg h1] at hev;have h1:m1.e=0:=by simpa using h1
      cases hst:stP f (.mk op nn k (.mk bo bn bk) e) m1 with
      | none=>rw [hst] at hev;cases hev
      | some q =>
       obtain ⟨x,m2⟩:=q;rw [hst] at hev;have hc2:=hs x m1 m2 hr hst r n (by omega);simp only [PV.op] at hc2;simp only [h0] at hc1;simp only [h1] at hc1 hc2;cases x with
       | nil =>
        simp only [ABZ,AB0] at hev;obtain ⟨rfl,rfl⟩:=hev;rw [AV];rw [Hj] at hc2;simp only [↓W2,↓XX,XY,↓reduceIte,Nat.reduceBEq,Nat.reduceAdd,Int.reduceEq,Int.reduceLT,Int.reduceLE,↓Mf (Hc hr),↓IL,h0,↓FI _ _ hc1,h1,↓Nb hr,↓TQ _ _ hc2,↓Ac2,↓ZY];exact AG _ _ _
       | mk op2 nn2 k2 t2 e2 =>
        simp only at hev;obtain ⟨bo2,bn2,bk2⟩:=t2;by_cases h2:m2.e≠0
        ·rw [if_pos h2] at hev;simp only [ABZ,AB0] at hev;obtain ⟨rfl,rfl⟩:=hev;rw [AV] at hc2 ⊢;simp only [↓W2,↓XX,XY,↓reduceIte,Nat.reduceBEq,Nat.reduceAdd,Int.reduceEq,Int.reduceLT,Int.reduceLE,↓Mf (Hc hr),↓IL,h0,↓FI _ _ hc1,h1,↓Nb hr,↓TQ _ _ hc2,↓Ac2,↓ZY,h2];exact AG _ _ _
        ·rw [if_neg h2] at hev;have h2:m2.e=0:=by simpa using h2
         split at hev
         ·cases hev
         ·simp only [ABZ,AB0] at hev;obtain ⟨rfl,rfl⟩:=hev;have hw:BK (m2.s - 1)=m2.s - 1:=by rw [Av]<;>omega
          rw [AV] at hc2 ⊢;simp only [h2] at hc2;by_cases h3:m2.s - 1<0
          ·simp only [↓W2,↓XX,XY,↓reduceIte,Nat.reduceBEq,Nat.reduceAdd,Int.reduceEq,Int.reduceLT,Int.reduceLE,↓Mf (Hc hr),↓IL,h0,↓FI _ _ hc1,h1,↓Nb hr,↓TQ _ _ hc2,↓Ac2,↓ZY,h2,hw,h3];exact AG _ _ _
          ·simp only [↓W2,↓XX,XY,↓reduceIte,Nat.reduceBEq,Nat.reduceAdd,Int.reduceEq,Int.reduceLT,Int.reduceLE,↓Mf (Hc hr),↓IL,h0,↓FI _ _ hc1,h1,↓Nb hr,↓TQ _ _ hc2,↓Ac2,↓ZY,h2,hw,h3];exact AG _ _ _
end Idl
end Go.Proofs.Ytkfecngimlcfoaa

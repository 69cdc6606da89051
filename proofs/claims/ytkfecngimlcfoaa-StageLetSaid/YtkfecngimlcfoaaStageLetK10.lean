/-
  Texts of a proof, part 10: an ideal semantics of the program, its functions in shallow form, contracts of them. No statement of the seat is proved here.
-/
import Derived.KernelRfl
import Derived.Test.YtkfecngimlcfoaaStageLetK9
set_option linter.all false
set_option maxRecDepth 20000
set_option maxHeartbeats 16000000
noncomputable section
namespace Go.Proofs.Ytkfecngimlcfoaa
namespace Idl
theorem Anj {f:Nat} {G:Al->Nat->Hp->Option (IV×Hp)} (e:dt.call f=fun ih n=>QA (G ih n)) (n:Nat) (h:Hp):SS dt (n+1) f [] h=G (SS dt n) n  h:=by
 show dt.call f (SS dt n) n _ h=_
 rw [e];rfl
theorem Cd {f:Nat} {G:Al->Nat->IV->Hp->Option (IV×Hp)} (e:dt.call f=fun ih n=>Nc (G ih n)) (n:Nat) (a0:IV) (h:Hp):SS dt (n+1) f [a0] h=G (SS dt n) n a0 h:=by
 show dt.call f (SS dt n) n _ h=_
 rw [e];rfl
theorem Bf {f:Nat} {G:Al->Nat->IV->IV->Hp->Option (IV×Hp)} (e:dt.call f=fun ih n=>HP (G ih n)) (n:Nat) (a0 a1:IV) (h:Hp):SS dt (n+1) f [a0,a1] h=G (SS dt n) n a0 a1 h:=by
 show dt.call f (SS dt n) n _ h=_
 rw [e];rfl
theorem Gd {f:Nat} {G:Al->Nat->IV->IV->IV->Hp->Option (IV×Hp)} (e:dt.call f=fun ih n=>ar3 (G ih n)) (n:Nat) (a0 a1 a2:IV) (h:Hp):SS dt (n+1) f [a0,a1,a2] h=G (SS dt n) n a0 a1 a2 h:=by
 show dt.call f (SS dt n) n _ h=_
 rw [e];rfl
theorem EA {f:Nat} {G:Al->Nat->IV->IV->IV->IV->Hp->Option (IV×Hp)} (e:dt.call f=fun ih n=>XT (G ih n)) (n:Nat) (a0 a1 a2 a3:IV) (h:Hp):SS dt (n+1) f [a0,a1,a2,a3] h=G (SS dt n) n a0 a1 a2 a3 h:=by
 show dt.call f (SS dt n) n _ h=_
 rw [e];rfl
def c10:=@Bf 10 S10 (by kernel_rfl)
def c12:=@Cd 12 S12 (by kernel_rfl)
def c15:=@Cd 15 S15 (by kernel_rfl)
def c16:=@Cd 16 S16 (by kernel_rfl)
def c17:=@Bf 17 S17 (by kernel_rfl)
def c18:=@Cd 18 S18 (by kernel_rfl)
def Vn:=@Gd 20 S20 (by kernel_rfl)
def c23:=@Bf 23 S23 (by kernel_rfl)
def c24:=@Bf 24 S24 (by kernel_rfl)
def c25:=@Cd 25 S25 (by kernel_rfl)
def c26:=@Cd 26 S26 (by kernel_rfl)
def c27:=@Cd 27 S27 (by kernel_rfl)
def c28:=@Bf 28 S28 (by kernel_rfl)
def c31:=@Cd 31 S31 (by kernel_rfl)
def c33:=@EA 33 S33 (by kernel_rfl)
def c34:=@Cd 34 S34 (by kernel_rfl)
def c35:=@Cd 35 S35 (by kernel_rfl)
def c36:=@Bf 36 S36 (by kernel_rfl)
def c38:=@Gd 38 S38 (by kernel_rfl)
def c39:=@EA 39 S39 (by kernel_rfl)
def c40:=@Cd 40 S40 (by kernel_rfl)
def c41:=@Cd 41 S41 (by kernel_rfl)
def c42:=@Bf 42 S42 (by kernel_rfl)
def c44:=@Cd 44 S44 (by kernel_rfl)
def c45:=@Gd 45 S45 (by kernel_rfl)
def c46:=@Bf 46 S46 (by kernel_rfl)
def c47:=@Cd 47 S47 (by kernel_rfl)
def c48:=@EA 48 S48 (by kernel_rfl)
def c49:=@EA 49 S49 (by kernel_rfl)
def Xb:=@Bf 50 S50 (by kernel_rfl)
def c52:=@Cd 52 S52 (by kernel_rfl)
def c54:=@Bf 54 S54 (by kernel_rfl)
def c55:=@Bf 55 S55 (by kernel_rfl)
def c56:=@Bf 56 S56 (by kernel_rfl)
def c58:=@EA 58 S58 (by kernel_rfl)
def c59:=@EA 59 S59 (by kernel_rfl)
def c60:=@Gd 60 S60 (by kernel_rfl)
def c61:=@EA 61 S61 (by kernel_rfl)
def c62:=@Gd 62 S62 (by kernel_rfl)
def c63:=@Gd 63 S63 (by kernel_rfl)
def c64:=@Anj 64 S64 (by kernel_rfl)
def c65:=@EA 65 S65 (by kernel_rfl)
def c66:=@EA 66 S66 (by kernel_rfl)
def c67:=@Gd 67 S67 (by kernel_rfl)
def c68:=@Gd 68 S68 (by kernel_rfl)
def c69:=@Cd 69 S69 (by kernel_rfl)
def c70:=@Anj 70 S70 (by kernel_rfl)
def c71:=@Gd 71 S71 (by kernel_rfl)
def c72:=@EA 72 S72 (by kernel_rfl)
def c73:=@Bf 73 S73 (by kernel_rfl)
def c74:=@Bf 74 S74 (by kernel_rfl)
def c78:=@Gd 78 S78 (by kernel_rfl)
def c79:=@Gd 79 S79 (by kernel_rfl)
def c80:=@EA 80 S80 (by kernel_rfl)
def c81:=@Bf 81 S81 (by kernel_rfl)
def c82:=@Bf 82 S82 (by kernel_rfl)
def c83:=@Bf 83 S83 (by kernel_rfl)
def c84:=@Bf 84 S84 (by kernel_rfl)
def c85:=@Bf 85 S85 (by kernel_rfl)
def c86:=@Cd 86 S86 (by kernel_rfl)
def c87:=@Bf 87 S87 (by kernel_rfl)
def c88:=@Bf 88 S88 (by kernel_rfl)
def c89:=@Bf 89 S89 (by kernel_rfl)
def c90:=@EA 90 S90 (by kernel_rfl)
def c91:=@Cd 91 S91 (by kernel_rfl)
def c92:=@Bf 92 S92 (by kernel_rfl)
def c93:=@Cd 93 S93 (by kernel_rfl)
def c94:=@Bf 94 S94 (by kernel_rfl)
def c95:=@Bf 95 S95 (by kernel_rfl)
def c96:=@Bf 96 S96 (by kernel_rfl)
def c97:=@Bf 97 S97 (by kernel_rfl)
def c98:=@Bf 98 S98 (by kernel_rfl)
def c99:=@Cd 99 S99 (by kernel_rfl)
def Azi:=@Bf 100 AiP (by kernel_rfl)
def AzH:=@Bf 101 Ao2 (by kernel_rfl)
def Azp:=@Bf 102 S102 (by kernel_rfl)
def AzQ:=@EA 103 Apt (by kernel_rfl)
def Azj:=@Bf 104 YJ (by kernel_rfl)
def AyC:=@Cd 105 Aqb (by kernel_rfl)
def AyB:=@Cd 106 Aor (by kernel_rfl)
def Ayw:=@Bf 107 Vv (by kernel_rfl)
def Ay4:=@Cd 108 Aj6 (by kernel_rfl)
def AyY:=@Bf 109 AlD (by kernel_rfl)
def AyW:=@Bf 110 S110 (by kernel_rfl)
def Ayj:=@Bf 111 AjB (by kernel_rfl)
theorem and8 {a b c d e f g h i:Prop}(p:a)(q:b)(r:c)(s:d)(t:e)(u:f)(v:g)(w:h)(x:i):a/\b/\c/\d/\e/\f/\g/\h/\i:=⟨p,q,r,s,t,u,v,w,x⟩
def UU1:=and8 @NF.eq_1 @ND.eq_1 @OA.eq_1 @On.eq_1 @NM.eq_1 @NW.eq_1 @NY.eq_1 @NA.eq_1<|and8 @Nx.eq_1 @NO.eq_1 @NB.eq_1 @Og.eq_1 @Oi.eq_1 @Nv.eq_1 @NV.eq_1 @Ox.eq_1<|and8 @Ny.eq_1 @Nf.eq_1 @Ol.eq_1 @NJ.eq_1 @NP.eq_1 @Oo.eq_1 @Sw.eq_1 @NK.eq_1<|AB4 @Oc.eq_1<|AB4 @Oh.eq_1<|AB4 @OB.eq_1<|AB4 @Oz.eq_1<|@S10.eq_1
def UU2:=and8 @Iw.eq_1 @Ix.eq_1 @I9.eq_1 @Jt.eq_1 @Jp.eq_1 @Jx.eq_1 @Js.eq_1 @Jn.eq_1<|and8 @IC.eq_1 @IS.eq_1 @Jq.eq_1 @IG.eq_1 @Jk.eq_1 @Jh.eq_1 @Jv.eq_1 @I7.eq_1<| @S90.eq_1
def UU3:=AB4 @AmJ.eq_1<|AB4 @Ang.eq_1<|AB4 @Aj2.eq_1<|AB4 @AkG.eq_1<|AB4 @Alq.eq_1<|@S54.eq_1
def UU4:=AB4 @P7.eq_1<|AB4 @Pb.eq_1<|AB4 @OL.eq_1<|AB4 @Pi.eq_1<|AB4 @Pk.eq_1<|AB4 @OQ.eq_1<|@S42.eq_1
def X5:=and8 @RO.eq_1 @T9.eq_1 @So.eq_1 @TF.eq_1 @Sg.eq_1 @ST.eq_1 @Us.eq_1 @Tu.eq_1<|and8 @U3.eq_1 @UX.eq_1 @SY.eq_1 @Vd.eq_1 @Ua.eq_1 @TU.eq_1 @US.eq_1 @R7.eq_1<|and8 @Ub.eq_1 @Sz.eq_1 @Tf.eq_1 @SR.eq_1 @U9.eq_1 @RR.eq_1 @Tc.eq_1 @R3.eq_1<|and8 @Tj.eq_1 @UW.eq_1 @Vj.eq_1 @TA.eq_1 @Ux.eq_1 @R5.eq_1 @RS.eq_1 @Ut.eq_1<|AB4 @IL.eq_1<|AB4 @UY.eq_1<|@S86.eq_1
def UU6:=and8 @E6.eq_1 @EZ.eq_1 @EP.eq_1 @E1.eq_1 @EV.eq_1 @E3.eq_1 @Hx.eq_1 @EQ.eq_1<|and8 @EH.eq_1 @EM.eq_1 @E8.eq_1 @EG.eq_1 @ES.eq_1 @E7.eq_1 @EK.eq_1 @E5.eq_1<|and8 @ER.eq_1 @EI.eq_1 @ED.eq_1 @E9.eq_1 @E4.eq_1 @EN.eq_1 @EY.eq_1 @ET.eq_1<|AB4 @EW.eq_1<|AB4 @E0.eq_1<|AB4 @EF.eq_1<|AB4 @EL.eq_1<|AB4 @EU.eq_1<|@S61.eq_1
def Qy:=and8 @Zq.eq_1 @AaE.eq_1 @Afj.eq_1 @Agu.eq_1 @AgE.eq_1 @AaH.eq_1 @AfO.eq_1 @AdO.eq_1<|and8 @AfH.eq_1 @Adn.eq_1 @ZZ.eq_1 @Afq.eq_1 @AbX.eq_1 @AgT.eq_1 @AdV.eq_1 @Aif.eq_1<|and8 @Afm.eq_1 @Ab2.eq_1 @Aba.eq_1 @Aff.eq_1 @AgR.eq_1 @ZI.eq_1 @Aa9.eq_1 @AgH.eq_1<|and8 @AhX.eq_1 @AaT.eq_1 @ZH.eq_1 @Ag8.eq_1 @AcI.eq_1 @Ahy.eq_1 @Zz.eq_1 @Adj.eq_1<|and8 @Aa5.eq_1 @ZN.eq_1 @ZM.eq_1 @Acn.eq_1 @Aag.eq_1 @AhM.eq_1 @AcU.eq_1 @ZV.eq_1<|and8 @AaF.eq_1 @Ael.eq_1 @AfQ.eq_1 @Adz.eq_1 @Aet.eq_1 @AhV.eq_1 @Aaq.eq_1 @Afz.eq_1<|AB4 @Agw.eq_1<|AB4 @Ah7.eq_1<|@S88.eq_1
def UU8:=and8 @Jr.eq_1 @IX.eq_1 @IY.eq_1 @IU.eq_1 @I0.eq_1 @I6.eq_1 @Je.eq_1 @Jy.eq_1<|and8 @Ja.eq_1 @Jw.eq_1 @IH.eq_1 @Jc.eq_1 @Iu.eq_1 @Iv.eq_1 @Jl.eq_1 @IA.eq_1<|AB4 @I1.eq_1<|AB4 @IM.eq_1<|AB4 @IW.eq_1<|AB4 @Acm.eq_1<|AB4 @Jb.eq_1<|AB4 @Jj.eq_1<|AB4 @Jz.eq_1<|@S62.eq_1
def UU9:=AB4 @Ali.eq_1<|AB4 @Aks.eq_1<|AB4 @Aln.eq_1<|AB4 @Akt.eq_1<|AB4 @AjR.eq_1<|AB4 @Ann.eq_1<|@S93.eq_1
def Alg:=AB4 @KF.eq_1<|AB4 @L8.eq_1<|AB4 @K7.eq_1<|AB4 @Ky.eq_1<|AB4 @Lb.eq_1<|AB4 @L4.eq_1<|AB4 @K4.eq_1<|@S69.eq_1
def Yt:=and8 @Eb.eq_1 @Ee.eq_1 @DL.eq_1 @DV.eq_1 @Ef.eq_1 @Ec.eq_1 @CO.eq_1 @D5.eq_1<|and8 @D3.eq_1 @DW.eq_1 @D8.eq_1 @DM.eq_1 @Dp.eq_1 @Ed.eq_1 @DS.eq_1 @Dn.eq_1<|and8 @Ds.eq_1 @Ea.eq_1 @DQ.eq_1 @DF.eq_1 @Dv.eq_1 @Dz.eq_1 @DX.eq_1 @Dw.eq_1<|AB4 @DG.eq_1<|AB4 @Fu.eq_1<|AB4 @DR.eq_1<|AB4 @DY.eq_1<|AB4 @D6.eq_1<|AB4 @D7.eq_1<|AB4 @Dr.eq_1<|@S72.eq_1
def AjC:=AB4 @Abn.eq_1<|AB4 @Zv.eq_1<|AB4 @AhO.eq_1<|AB4 @Aed.eq_1<|AB4 @Af4.eq_1<|@S110.eq_1
def Akh:=and8 @Nh.eq_1 @Od.eq_1 @Oa.eq_1 @Nz.eq_1 @Om.eq_1 @Ni.eq_1 @Nq.eq_1 @NC.eq_1<|AB4 @AbQ.eq_1<|AB4 @Nk.eq_1<|AB4 @NU.eq_1<|AB4 @Nn.eq_1<|AB4 @NS.eq_1<|AB4 @Ot.eq_1<|AB4 @NZ.eq_1<|@S71.eq_1
def X9:=and8 @W4.eq_1 @Ww.eq_1 @WA.eq_1 @Wb.eq_1 @Vx.eq_1 @WQ.eq_1 @VS.eq_1 @Wj.eq_1<|AB4 @WG.eq_1<|AB4 @WR.eq_1<|AB4 @Wx.eq_1<|AB4 @WP.eq_1<|@S102.eq_1
def Aj3:=and8 @L0.eq_1 @Kw.eq_1 @Ku.eq_1 @LW.eq_1 @Lj.eq_1 @KA.eq_1 @LR.eq_1 @Lw.eq_1<|AB4 @K8.eq_1<|AB4 @Ld.eq_1<|AB4 @LV.eq_1<|AB4 @Lh.eq_1<|AB4 @LX.eq_1<|AB4 @Lp.eq_1<|@S63.eq_1
def XH:=and8 @Sy.eq_1 @RI.eq_1 @S9.eq_1 @Abx.eq_1 @SU.eq_1 @Su.eq_1 @Vb.eq_1 @SQ.eq_1<|AB4 @T5.eq_1<|AB4 @TW.eq_1<|AB4 @Ty.eq_1<|@S68.eq_1
def Aml:=AB4 @Amb.eq_1<|AB4 @Amf.eq_1<|AB4 @Ak2.eq_1<|AB4 @AmW.eq_1<|AB4 @Ala.eq_1<|@S89.eq_1
def AkT:=AB4 @AkB.eq_1<|AB4 @Ak8.eq_1<|AB4 @AlQ.eq_1<|AB4 @AmH.eq_1<|AB4 @Ak6.eq_1<|@S92.eq_1
def LL:=and8 @AfC.eq_1 @Abb.eq_1 @Y2.eq_1 @ZW.eq_1 @Aaz.eq_1 @ZK.eq_1 @AhW.eq_1 @AfS.eq_1<|and8 @Zr.eq_1 @AcT.eq_1 @Afi.eq_1 @Z5.eq_1 @AbC.eq_1 @Zi.eq_1 @Afy.eq_1 @Aah.eq_1<|and8 @AaW.eq_1 @AaG.eq_1 @AfF.eq_1 @AdR.eq_1 @Aab.eq_1 @AcW.eq_1 @AcK.eq_1 @Ad4.eq_1<|and8 @AhT.eq_1 @Zx.eq_1 @Aa2.eq_1 @Acl.eq_1 @AbV.eq_1 @AhG.eq_1 @Af2.eq_1 @Agf.eq_1<|and8 @Aeg.eq_1 @Aft.eq_1 @Adt.eq_1 @Aao.eq_1 @Ahl.eq_1 @Zm.eq_1 @Agh.eq_1 @Aal.eq_1<|AB4 @Ab5.eq_1<|@S39.eq_1
def Qe:=and8 @Ag1.eq_1 @Af8.eq_1 @AdE.eq_1 @Z2.eq_1 @Zj.eq_1 @ZS.eq_1 @Afo.eq_1 @Abp.eq_1<|and8 @AgS.eq_1 @Aav.eq_1 @ZC.eq_1 @Ab6.eq_1 @Ac5.eq_1 @Af9.eq_1 @AdU.eq_1 @ZL.eq_1<|and8 @Aib.eq_1 @Aa3.eq_1 @Aio.eq_1 @Acv.eq_1 @Zs.eq_1 @AaP.eq_1 @Ahn.eq_1 @AbL.eq_1<|and8 @Ad7.eq_1 @AgZ.eq_1 @Aev.eq_1 @AhQ.eq_1 @AgI.eq_1 @AdZ.eq_1 @Abk.eq_1 @AaS.eq_1<|and8 @Aea.eq_1 @AaJ.eq_1 @AbZ.eq_1 @Ail.eq_1 @Aik.eq_1 @AhI.eq_1 @Agg.eq_1 @AdD.eq_1<|AB4 @AeF.eq_1<|AB4 @Y9.eq_1<|AB4 @AhR.eq_1<|AB4 @AbB.eq_1<|@S33.eq_1
def VH:=and8 @Adq.eq_1 @Aas.eq_1 @Afu.eq_1 @Abt.eq_1 @AdL.eq_1 @Ahi.eq_1 @Abi.eq_1 @AbF.eq_1<|and8 @Aar.eq_1 @AaC.eq_1 @Aez.eq_1 @AaU.eq_1 @Ah1.eq_1 @Aa1.eq_1 @Adm.eq_1 @Aay.eq_1<|and8 @ZP.eq_1 @Aeq.eq_1 @AeP.eq_1 @Z1.eq_1 @Aco.eq_1 @AeK.eq_1 @ZO.eq_1 @AhK.eq_1<|and8 @AgO.eq_1 @AcR.eq_1 @Y0.eq_1 @AgV.eq_1 @Ac4.eq_1 @Adv.eq_1 @Ag2.eq_1 @Aej.eq_1<|and8 @Afx.eq_1 @Ac7.eq_1 @AfW.eq_1 @Adr.eq_1 @Y1.eq_1 @Zh.eq_1 @Aa7.eq_1 @Adw.eq_1<|and8 @ZU.eq_1 @AcH.eq_1 @Ag4.eq_1 @Abh.eq_1 @Abq.eq_1 @Adl.eq_1 @Acf.eq_1 @AbI.eq_1<|and8 @Y4.eq_1 @Aij.eq_1 @Aca.eq_1 @AdF.eq_1 @AeG.eq_1 @Abd.eq_1 @AgX.eq_1 @Aee.eq_1<| @S59.eq_1
def J8:=and8 @Age.eq_1 @AdG.eq_1 @AaZ.eq_1 @Zy.eq_1 @AeX.eq_1 @AfU.eq_1 @Afa.eq_1 @Ac9.eq_1<|and8 @Zd.eq_1 @AdJ.eq_1 @ZX.eq_1 @Adb.eq_1 @Ab3.eq_1 @Y7.eq_1 @Y5.eq_1 @Afw.eq_1<|and8 @AeD.eq_1 @Afr.eq_1 @AhU.eq_1 @AbK.eq_1 @ZE.eq_1 @Ahq.eq_1 @Ais.eq_1 @Ah5.eq_1<|and8 @Afe.eq_1 @Agp.eq_1 @Z4.eq_1 @Acy.eq_1 @AdI.eq_1 @Af3.eq_1 @Ab0.eq_1 @AhJ.eq_1<|and8 @AbW.eq_1 @Adg.eq_1 @Y3.eq_1 @AfY.eq_1 @Adh.eq_1 @Zg.eq_1 @Ahz.eq_1 @Aen.eq_1<|and8 @Ag9.eq_1 @AeS.eq_1 @Ahr.eq_1 @Acz.eq_1 @Aeu.eq_1 @Agx.eq_1 @Ab8.eq_1 @Abw.eq_1<|and8 @Abz.eq_1 @AcL.eq_1 @AfL.eq_1 @Ae4.eq_1 @AdP.eq_1 @Af1.eq_1 @Abm.eq_1 @AgU.eq_1<|AB4 @Ahb.eq_1<|AB4 @Acq.eq_1<|AB4 @Acd.eq_1<|@S66.eq_1
def KW:=and8 @Abe.eq_1 @Ag6.eq_1 @AeY.eq_1 @AbU.eq_1 @AaL.eq_1 @Ahc.eq_1 @Acj.eq_1 @Abf.eq_1<|and8 @Ain.eq_1 @AgG.eq_1 @AgP.eq_1 @AgM.eq_1 @AeU.eq_1 @Ahe.eq_1 @Afp.eq_1 @Y8.eq_1<|and8 @Agv.eq_1 @ZA.eq_1 @AfT.eq_1 @Agj.eq_1 @Z3.eq_1 @Aeb.eq_1 @Adu.eq_1 @Agr.eq_1<|AB4 @AcP.eq_1<|AB4 @Aew.eq_1<|AB4 @Ab9.eq_1<|AB4 @AfI.eq_1<|@S38.eq_1
def QF:=and8 @Vl.eq_1 @TR.eq_1 @R1.eq_1 @U4.eq_1 @R9.eq_1 @SI.eq_1 @SA.eq_1 @U0.eq_1<|AB4 @T7.eq_1<|AB4 @Ur.eq_1<|AB4 @Ui.eq_1<|AB4 @TE.eq_1<|AB4 @T8.eq_1<|AB4 @SH.eq_1<|AB4 @Adp.eq_1<|@S58.eq_1
def HS:=and8 @Aam.eq_1 @AcS.eq_1 @Ahw.eq_1 @Ahx.eq_1 @Ah0.eq_1 @Afh.eq_1 @Zo.eq_1 @Ahf.eq_1<|and8 @AaO.eq_1 @ZD.eq_1 @Adk.eq_1 @AdA.eq_1 @AaI.eq_1 @Ah8.eq_1 @Ado.eq_1 @AfM.eq_1<|and8 @AbP.eq_1 @Agc.eq_1 @Ait.eq_1 @AgA.eq_1 @AgF.eq_1 @Aef.eq_1 @Ahh.eq_1 @AfK.eq_1<|and8 @Zp.eq_1 @AhD.eq_1 @Afb.eq_1 @Ah9.eq_1 @AeT.eq_1 @Ad5.eq_1 @Ag5.eq_1 @Ae6.eq_1<|and8 @Aax.eq_1 @Abr.eq_1 @Agt.eq_1 @AaQ.eq_1 @Ae5.eq_1 @AgW.eq_1 @Ahk.eq_1 @AfN.eq_1<|AB4 @AfA.eq_1<|AB4 @Air.eq_1<|AB4 @Aan.eq_1<|AB4 @Ab1.eq_1<|@S20.eq_1
def LK:=and8 @Afs.eq_1 @Zw.eq_1 @Ad6.eq_1 @AbS.eq_1 @Z8.eq_1 @Aei.eq_1 @Ah6.eq_1 @Adx.eq_1<|and8 @Afn.eq_1 @AeJ.eq_1 @AcB.eq_1 @Ahj.eq_1 @Abs.eq_1 @Aaj.eq_1 @Ac8.eq_1 @AdX.eq_1<|and8 @Adf.eq_1 @AcZ.eq_1 @AcA.eq_1 @AfZ.eq_1 @AaB.eq_1 @AaX.eq_1 @Aad.eq_1 @AhL.eq_1<|and8 @Aai.eq_1 @Acg.eq_1 @AhP.eq_1 @AfV.eq_1 @AbH.eq_1 @Aau.eq_1 @Ac3.eq_1 @Aim.eq_1<|AB4 @AgY.eq_1<|AB4 @AcO.eq_1<|AB4 @Ags.eq_1<|AB4 @AdS.eq_1<|AB4 @Aaw.eq_1<|AB4 @Zk.eq_1<|AB4 @AfG.eq_1<|@S46.eq_1
def M8:=and8 @ZF.eq_1 @ZJ.eq_1 @Agz.eq_1 @AaV.eq_1 @AcX.eq_1 @Aer.eq_1 @Zn.eq_1 @AhZ.eq_1<|and8 @Aeo.eq_1 @Aep.eq_1 @AeN.eq_1 @Agn.eq_1 @AcF.eq_1 @AeA.eq_1 @AeZ.eq_1 @Ahp.eq_1<|and8 @AeQ.eq_1 @Aap.eq_1 @AaD.eq_1 @Ah4.eq_1 @AcC.eq_1 @Ze.eq_1 @AeL.eq_1 @Aby.eq_1<|and8 @AdW.eq_1 @AcM.eq_1 @Ady.eq_1 @AeB.eq_1 @AeC.eq_1 @AdQ.eq_1 @AcN.eq_1 @AeH.eq_1<| @S81.eq_1
def JA:=and8 @Abl.eq_1 @Agb.eq_1 @Ab4.eq_1 @Ae0.eq_1 @AhB.eq_1 @AgN.eq_1 @Ad0.eq_1 @AhN.eq_1<|and8 @AgD.eq_1 @Aig.eq_1 @Aac.eq_1 @Acp.eq_1 @AaR.eq_1 @Af5.eq_1 @Ae2.eq_1 @Y6.eq_1<|and8 @Ago.eq_1 @AgL.eq_1 @Za.eq_1 @Aey.eq_1 @AaN.eq_1 @Ahu.eq_1 @AaY.eq_1 @AfR.eq_1<|and8 @AbA.eq_1 @AdT.eq_1 @Ag3.eq_1 @Aih.eq_1 @Af7.eq_1 @Aie.eq_1 @AhY.eq_1 @Abc.eq_1<|and8 @ZR.eq_1 @Af0.eq_1 @Agi.eq_1 @Zl.eq_1 @Ac0.eq_1 @Acw.eq_1 @AaA.eq_1 @Ada.eq_1<|AB4 @AbN.eq_1<|AB4 @Adi.eq_1<|AB4 @AfD.eq_1<|AB4 @AbE.eq_1<|AB4 @Ahv.eq_1<|AB4 @AbG.eq_1<|AB4 @Acb.eq_1<|@S50.eq_1
def Al4:=and8 @AbJ.eq_1 @Aa0.eq_1 @Ac2.eq_1 @Aii.eq_1 @Ad8.eq_1 @AeV.eq_1 @AeM.eq_1 @AaK.eq_1<|and8 @Aa8.eq_1 @Ace.eq_1 @Acr.eq_1 @Agl.eq_1 @AbM.eq_1 @Aa4.eq_1 @Ahm.eq_1 @Aek.eq_1<|AB4 @AbY.eq_1<|AB4 @AgK.eq_1<|AB4 @AaM.eq_1<|@S84.eq_1
def AmN:=and8 @AcD.eq_1 @Aaf.eq_1 @Af6.eq_1 @Aia.eq_1 @AbT.eq_1 @Aec.eq_1 @ZQ.eq_1 @Acc.eq_1<|and8 @Aes.eq_1 @Abj.eq_1 @AcV.eq_1 @AhE.eq_1 @ZB.eq_1 @Zt.eq_1 @Afg.eq_1 @AdC.eq_1<|AB4 @ZT.eq_1<|AB4 @Aic.eq_1<|AB4 @AbO.eq_1<|AB4 @Zf.eq_1<|@S85.eq_1
section
variable {β:Type} {E:Env} {t:TypeId}
abbrev iv (n:Int):IV:=.fv (.int .i64 n)
theorem Aug (c:Prop) [Decidable c] (a b:Option β):Ak (.fv (.bool (decide c))) a b=if c then a else b:=by
 by_cases h:c
 ·rw [decide_eq_true h,if_pos h];rfl
 ·rw [decide_eq_false h,if_neg h];rfl
theorem AoK (o:Nat) (r:Ref) (off:Nat) (k:IV->Option β):Ab o (.ptr r off) k=k (.ptr r (off+o)):=by
 show (Ej (off+o) fun o=>k (.ptr r o))=_
 rw [B4]
theorem QY (o:Nat) (cs:List FV) (off:Nat) (k:IV->Option β):Ab o (.fv (.fp cs off)) k=k (.fv (.fp cs (off+o))):=by
 show (Ej (off+o) fun o=>k (.fv (.fp cs o)))=_
 rw [B4]
theorem Asq {size:Nat} {es:List FV} {n:Nat} {el:FV} (he:es[n]?=some el) (hl:el.cells.length=size) (k:IV->Option β):AU size (.fv (.sl es)) (iv n) k=k (.fv (.fp el.cells 0)):=by
 show (DH es n fun el=>elK size el k)=_
 rw [C8,he]
 show elK size el k=_
 rw [AlY,if_pos hl]
theorem Ms {op:BinOp} {g:Nat->Nat->Bool} (hg:∀a b:Nat,FP E op t (iv a) (iv b)=some (.fv (.bool (g a b)))) (a b:Int) (k:IV->Option β) :
  U2 E t op g (iv a) (iv b) k=(FP E op t (iv a) (iv b)).bind k:=by
 cases a with
 | ofNat a =>
  cases b with
  | ofNat b =>
   show AkP (g a b) k=_
   rw [VY,show FP E op t (iv (Int.ofNat a)) (iv (Int.ofNat b))=some (.fv (.bool (g a b))) from hg a b]
   rfl
  | negSucc b =>
   show CK E t op _ _ k=_
   rw [CK,CL]
 | negSucc a =>
  show CK E t op _ _ k=_
  rw [CK,CL]
theorem AxA (a b:Int) (k:IV->Option β):AS E t (iv a) (iv b) k=k (.fv (.bool (decide (a=b)))):=by
 rw [AS,Ms (fun a b=>by
  show some (IV.fv (.bool ((a:Int) == (b:Int))))=_
  rw [ID];congr 3;exact decide_eq_decide.2 Int.ofNat_inj)]
 rfl
theorem AvT (a b:Int) (k:IV->Option β):CE E t (iv a) (iv b) k=k (.fv (.bool (!decide (a=b)))):=by
 rw [CE,Ms (fun a b=>by
  show some (IV.fv (.bool ((a:Int) != (b:Int))))=_
  rw [ID];congr 3
  show (!decide ((a:Int)=(b:Int)))=!decide (a=b)
  congr 1;exact decide_eq_decide.2 Int.ofNat_inj)]
 rfl
theorem Axg (a b:Int) (k:IV->Option β):Hm E t (iv a) (iv b) k=k (.fv (.bool (decide (a<b)))):=by
 rw [Hm,Ms (fun a b=>by
  show some (IV.fv (.bool (decide ((a:Int)<(b:Int)))))=_
  rw [Br];congr 3;exact decide_eq_decide.2 (by omega))]
 rfl
theorem Axr (a b:Int) (k:IV->Option β):leS E t (iv a) (iv b) k=k (.fv (.bool (decide (a<=b)))):=by
 rw [leS,Ms (fun a b=>by
  show some (IV.fv (.bool (decide ((a:Int)<=(b:Int)))))=_
  rw [Br];congr 3;exact decide_eq_decide.2 (by omega))]
 rfl
theorem Axa (b:Bool) (k:IV->Option β):Eh (Qw .not (.fv (.bool b))) k=k (.fv (.bool !b)):=by
 rw [CL];rfl
end
section
variable {β:Type} {α:Type}
theorem n0 (a:α) (l:List α) (k:α->Option β):DH (a::l) 0 k=k a:=rfl
theorem n1 (a b:α) (l:List α) (k:α->Option β):DH (a::b::l) 1 k=k b:=rfl
theorem n2 (a b c:α) (l:List α) (k:α->Option β):DH (a::b::c::l) 2 k=k c:=rfl
theorem n3 (a b c d:α) (l:List α) (k:α->Option β):DH (a::b::c::d::l) 3 k=k d:=rfl
theorem n4 (a b c d e:α) (l:List α) (k:α->Option β):DH (a::b::c::d::e::l) 4 k=k e:=rfl
theorem n5 (a b c d e f:α) (l:List α) (k:α->Option β):DH (a::b::c::d::e::f::l) 5 k=k f:=rfl
theorem n6 (a b c d e f g:α) (l:List α) (k:α->Option β):DH (a::b::c::d::e::f::g::l) 6 k=k g:=rfl
theorem d0 (l:List α) (k:List α->Option β):FM l 0 k=k l:=by cases l<;>rfl
theorem d1 (a:α) (l:List α) (k:List α->Option β):FM (a::l) 1 k=k l:=by cases l<;>rfl
theorem d2 (a b:α) (l:List α) (k:List α->Option β):FM (a::b::l) 2 k=k l:=by cases l<;>rfl
theorem d3 (a b c:α) (l:List α) (k:List α->Option β):FM (a::b::c::l) 3 k=k l:=by cases l<;>rfl
theorem d4 (a b c d:α) (l:List α) (k:List α->Option β):FM (a::b::c::d::l) 4 k=k l:=by cases l<;>rfl
theorem t1 (a:α) (l:List α) (k:List α->Option β):Gh (a::l) 1 k=k [a]:=by cases l<;>rfl
theorem t2 (a b:α) (l:List α) (k:List α->Option β):Gh (a::b::l) 2 k=k [a,b]:=by cases l<;>rfl
theorem t3 (a b c:α) (l:List α) (k:List α->Option β):Gh (a::b::c::l) 3 k=k [a,b,c]:=by cases l<;>rfl
theorem t4 (a b c d:α) (l:List α) (k:List α->Option β):Gh (a::b::c::d::l) 4 k=k [a,b,c,d]:=by cases l<;>rfl
theorem t7 (a b c d e f g:α) (l:List α) (k:List α->Option β):Gh (a::b::c::d::e::f::g::l) 7 k=k [a,b,c,d,e,f,g]:=by cases l<;>rfl
theorem Ama (l:List α) (k:List α->Option β):spK l k=k l:=Ie l k
theorem ap0 (us:List α) (k:List α->Option β):QE [] us k=k us:=rfl
theorem ap1 (u:α) (l us:List α) (k:List α->Option β):QE (u::l) us k=QE l us fun w=>k (u::w):=rfl
theorem AxG (a:α) (l:List α) (k:α->List α->Option β):AC (a::l) k=k a l:=rfl
theorem c_t {γ:Type} (a b:γ):cond true a b=a:=rfl
theorem c_f {γ:Type} (a b:γ):cond false a b=b:=rfl
end
section
variable {β:Type}
theorem Ap3 {s j:Nat} (h:(s == j)=false):Nat.beq s j=false:=by
 rw [ID];simpa using h
theorem MY (s:Nat) (own:List (Nat×Blk)) (ext:List Blk) (k:Blk->Option β):Dk (.own s) ⟨own,ext⟩ k=GV own s k:=rfl
theorem Av6 (j:Nat) (own:List (Nat×Blk)) (ext:List Blk) (k:Blk->Option β):Dk (.ext j) ⟨own,ext⟩ k=DH ext j k:=rfl
theorem AqJ (s:Nat) (b:Blk) (l:List (Nat×Blk)) (k:Blk->Option β):GV ((s,b)::l) s k=k b:=by
 show cond (Nat.beq s s) (k b) _=_
 rw [show Nat.beq s s=true from Nat.beq_refl s]
 rfl
theorem Atu {s j:Nat} (hne:(s == j)=false) (b:Blk) (l:List (Nat×Blk)) (k:Blk->Option β):GV ((j,b)::l) s k=GV l s k:=by
 show cond (Nat.beq s j) (k b) _=_
 rw [show Nat.beq s j=false from Ap3 hne]
 rfl
theorem Awi (s:Nat) (b:Blk) (k:List (Nat×Blk)->Option β):A9 [] s b k=k [(s,b)]:=rfl
theorem AqO (s:Nat) (b c:Blk) (l:List (Nat×Blk)) (k:List (Nat×Blk)->Option β):A9 ((s,c)::l) s b k=k ((s,b)::l):=by
 show cond (Nat.beq s s) _ _=_
 rw [show Nat.beq s s=true from Nat.beq_refl s]
 rfl
theorem AtD {s j:Nat} (hne:(s == j)=false) (b c:Blk) (l:List (Nat×Blk)) (k:List (Nat×Blk)->Option β):A9 ((j,c)::l) s b k=A9 l s b fun l=>k ((j,c)::l):=by
 show cond (Nat.beq s j) _ _=_
 rw [show Nat.beq s j=false from Ap3 hne]
 rfl
theorem AvL (s:Nat) (a:Option β):CW [] s a=a:=rfl
theorem AtW {s j:Nat} (hne:(s == j)=false) (b:Blk) (l:List (Nat×Blk)) (a:Option β):CW ((j,b)::l) s a=CW l s a:=by
 show cond (Nat.beq s j) none _=_
 rw [show Nat.beq s j=false from Ap3 hne]
 rfl
theorem AcJ (s:Nat) (b:Blk) (own:List (Nat×Blk)) (ext:List Blk) (k:Hp->Option β):Gi (.own s) b ⟨own,ext⟩ k=A9 own s b fun own=>k ⟨own,ext⟩:=rfl
theorem AnJ (j:Nat) (b:Blk) (own:List (Nat×Blk)) (ext:List Blk) (k:Hp->Option β):Gi (.ext j) b ⟨own,ext⟩ k=Rx ext j b fun ext=>k ⟨own,ext⟩:=rfl
theorem sn0 {α:Type} (a b:α) (l:List α) (k:List α->Option β):Rx (a::l) 0 b k=k (b::l):=rfl
theorem AxB (s:Nat) (b:Blk) (v:IV) (own:List (Nat×Blk)) (ext:List Blk) (k:KT β) :
  GX s b v ⟨own,ext⟩ k=CW own s (A9 own s b fun own=>k v ⟨own,ext⟩ [] [.own s]):=rfl
theorem NG (s:Nat) (cs:List FV) (h:Hp) (k:KT β):A7 s (.fv (.agg cs)) h k=GX s (.row (cs.map .fv) false) (.ptr (.own s) 0) h k:=by
 show spK (cs.map IV.fv) _=_
 rw [Ie]
theorem Awp (s:Nat) (a b:FV) (h:Hp) (k:KT β):A7 s (.fv (.agg [a,b])) h k=GX s (.row [.fv a,.fv b] false) (.ptr (.own s) 0) h k:=NG ..
theorem AwO (s:Nat) (a b c:FV) (h:Hp) (k:KT β):A7 s (.fv (.agg [a,b,c])) h k=GX s (.row [.fv a,.fv b,.fv c] false) (.ptr (.own s) 0) h k:=NG ..
theorem AvK (s:Nat) (a b c d:FV) (h:Hp) (k:KT β):A7 s (.fv (.agg [a,b,c,d])) h k=GX s (.row [.fv a,.fv b,.fv c,.fv d] false) (.ptr (.own s) 0) h k:=NG ..
theorem Aw0 (s:Nat) (a:FV) (h:Hp) (k:KT β):A7 s (.fv (.agg [a])) h k=GX s (.row [.fv a] false) (.ptr (.own s) 0) h k:=NG ..
theorem Wd (s:Nat) (cs:List IV) (h:Hp) (k:KT β):A7 s (.agg cs) h k=GX s (.row cs false) (.ptr (.own s) 0) h k:=by
 show spK cs _=_
 rw [Ie]
theorem An4 {x:IV} (hx:x.one=true) (s:Nat) (h:Hp) (k:KT β):A7 s x h k=GX s (.row [x] false) (.ptr (.own s) 0) h k:=by
 unfold A7;rw [hx];rfl
theorem Asg (k:IntKind) (n:Int):IV.one (.fv (.int k n))=true:=rfl
theorem Apc (b:Bool):IV.one (.fv (.bool b))=true:=rfl
theorem Avj (l:List FV):IV.one (.fv (.sl l))=true:=rfl
theorem Av4 (l:List FV) (o:Nat):IV.one (.fv (.fp l o))=true:=rfl
theorem Aqg (fn:Fn) (a b:List FV):IV.one (.fv (.func fn a b))=true:=rfl
theorem Apd:IV.one (.fv .nilp)=true:=rfl
theorem AnT:IV.one .nils=true:=rfl
theorem Asl (r:Ref) (o:Nat):IV.one (.ptr r o)=true:=rfl
theorem Arx (r:Ref) (a b:Nat):IV.one (.slc r a b)=true:=rfl
theorem Arq (r:Ref) (l:List FV):IV.one (.app r l)=true:=rfl
theorem App (l:List FV):IV.one (.clip l)=true:=rfl
theorem As8:IV.one .emp=true:=rfl
theorem Atn (l:List IV):IV.one (.agg l)=false:=rfl
theorem Apy (l:List FV):IV.one (.fv (.agg l))=false:=rfl
theorem Arm (k:IntKind) (n:Int):Il (.int k n)=true:=rfl
theorem Aog (b:Bool):Il (.bool b)=true:=rfl
theorem AvP (l:List FV):Il (.sl l)=true:=rfl
theorem AwM (l:List FV) (o:Nat):Il (.fp l o)=true:=rfl
theorem Aot:Il .nilp=true:=rfl
theorem Aul (l:List FV):Il (.agg l)=false:=rfl
theorem AoT:DI []=true:=rfl
theorem V8 {v:FV} (h:Il v=true) (l:List FV):DI (v::l)=DI l:=by
 show cond (Il v) (DI l) false=_
 rw [h];rfl
theorem SN (r:Ref) (o:Nat) (k:Ref->Nat->Option β) (kf:List FV->Nat->Option β):Fc (.ptr r o) k kf=k r o:=rfl
theorem AyN (cs:List FV) (o:Nat) (k:Ref->Nat->Option β) (kf:List FV->Nat->Option β):Fc (.fv (.fp cs o)) k kf=kf cs o:=rfl
theorem J2 (cs:List IV) (ro:Bool) (k:List IV->Option β):Ek (.row cs ro) k=k cs:=rfl
theorem Ahg (cs:List IV) (k:List IV->Option β):Hy (.row cs false) k=k cs:=rfl
theorem Ale (v:FV) (e:Option β) (k:FV->Option β):Qv (.fv v) e k=k v:=rfl
theorem Yr (l:List IV) (e:Option β) (k:FV->Option β):Qv (.agg l) e k=e:=rfl
theorem Asd (e:Option β) (k:FV->Option β):Qv .nils e k=e:=rfl
theorem Aum (r:Ref) (o:Nat) (e:Option β) (k:FV->Option β):Qv (.ptr r o) e k=e:=rfl
theorem Aue (r:Ref) (o:List FV) (e:Option β) (k:FV->Option β):Qv (.app r o) e k=e:=rfl
theorem AsM (o:List FV) (e:Option β) (k:FV->Option β):Qv (.clip o) e k=e:=rfl
theorem Asi (r:Ref) (a b:Nat) (e:Option β) (k:FV->Option β):Qv (.slc r a b) e k=e:=rfl
theorem ArD (e:Option β) (k:FV->Option β):Qv .emp e k=e:=rfl
theorem Ar9 (cs:List FV) (k:List FV->Option β):Hz (.agg cs) k=k cs:=rfl
theorem AwA (cs:List IV) (k:List IV->Option β) (kf:List FV->Option β):asAgg (.agg cs) k kf=k cs:=rfl
theorem ArZ (cs:List FV) (k:List IV->Option β) (kf:List FV->Option β):asAgg (.fv (.agg cs)) k kf=kf cs:=rfl
theorem Apn (e:Option β) (k:List FV->Option β):CA [] e k=k []:=rfl
theorem Atj (v:FV) (l:List IV) (e:Option β) (k:List FV->Option β):CA (.fv v::l) e k=CA l e fun vs=>k (v::vs):=rfl
theorem Anp (l:List IV) (e:Option β) (k:List FV->Option β):CA (.nils::l) e k=e:=rfl
theorem ApU (r:Ref) (es:List FV) (l:List IV) (e:Option β) (k:List FV->Option β):CA (.app r es::l) e k=e:=rfl
theorem Am7 (es:List FV) (l:List IV) (e:Option β) (k:List FV->Option β):CA (.clip es::l) e k=e:=rfl
theorem Aob (r:Ref) (o:Nat) (l:List IV) (e:Option β) (k:List FV->Option β):CA (.ptr r o::l) e k=e:=rfl
theorem AoD (r:Ref) (a b:Nat) (l:List IV) (e:Option β) (k:List FV->Option β):CA (.slc r a b::l) e k=e:=rfl
theorem AoW (es l:List IV) (e:Option β) (k:List FV->Option β):CA (.agg es::l) e k=e:=rfl
theorem Ald (r:Ref) (l:List IV) (e:Option β) (k:List FV->Option β):CA (.mapr r::l) e k=e:=rfl
theorem AwK (l:List IV) (k:IV->Option β):QP l k=CA l (k (.agg l)) fun vs=>k (.fv (.agg vs)):=rfl
theorem AvU (l:List IV) (k:IV->Option β):Xl l k=CA l (k (.tuple l)) fun vs=>k (.fv (.tuple vs)):=rfl
theorem Azt (a:IV) (h:Hp) (k:IV->List Ref->Option β):Af a h k=Fc a (fun r o=>Dk r h fun b=>Ek b fun cells=>DH cells o fun v=>k v [r]) fun cells o=>DH cells o fun v=>k (.fv v) []:=rfl
theorem Azy (size:Nat) (a:IV) (h:Hp) (k:IV->List Ref->Option β):Ai size a h k =
  Fc a (fun r o=>Dk r h fun b=>Ek b fun cells=>FM cells o fun cs=>Gh cs size fun cs=>QP cs fun v=>k v [r]) fun cells o=>FM cells o fun cs=>Gh cs size fun cs=>k (.fv (.agg cs)) []:=rfl
theorem Ar7 (size:Nat) (a:IV) (h:Hp) (k:IV->Option β):As true size a h k=Ai size a h fun v _=>k v:=rfl
theorem Atp (size:Nat) (a:IV) (h:Hp) (k:IV->Option β):As false size a h k=Af a h fun v _=>k v:=rfl
theorem wr0 (l:List IV) (k:List IV->Option β):wrK [] l k=k l:=rfl
theorem wr1 (c:FV) (cs:List FV) (x:IV) (l:List IV) (k:List IV->Option β):wrK (c::cs) (x::l) k=wrK cs l fun t=>k (.fv c::t):=rfl
theorem sf0 (x:IV) (l:List IV) (cs:List FV) (k:List IV->Option β):Em (x::l) 0 cs k=wrK cs (x::l) k:=rfl
theorem sf1 (x:IV) (l:List IV) (cs:List FV) (k:List IV->Option β):Em (x::l) 1 cs k=Em l 0 cs fun t=>k (x::t):=rfl
theorem sf2 (x y:IV) (l:List IV) (cs:List FV) (k:List IV->Option β):Em (x::y::l) 2 cs k=Em l 0 cs fun t=>k (x::y::t):=rfl
theorem sf3 (x y z:IV) (l:List IV) (cs:List FV) (k:List IV->Option β):Em (x::y::z::l) 3 cs k=Em l 0 cs fun t=>k (x::y::z::t):=rfl
theorem sf4 (x y z u:IV) (l:List IV) (cs:List FV) (k:List IV->Option β):Em (x::y::z::u::l) 4 cs k=Em l 0 cs fun t=>k (x::y::z::u::t):=rfl
theorem of0 (x b:IV) (l:List IV) (k:List IV->Option β):G9 (x::l) 0 b k=k (b::l):=rfl
theorem of1 (x y b:IV) (l:List IV) (k:List IV->Option β):G9 (x::y::l) 1 b k=k (x::b::l):=rfl
theorem of2 (x y z b:IV) (l:List IV) (k:List IV->Option β):G9 (x::y::z::l) 2 b k=k (x::y::b::l):=rfl
theorem of3 (x y z u b:IV) (l:List IV) (k:List IV->Option β):G9 (x::y::z::u::l) 3 b k=k (x::y::z::b::l):=rfl
theorem of6 (x y z u v w s b:IV) (l:List IV) (k:List IV->Option β):G9 (x::y::z::u::v::w::s::l) 6 b k=k (x::y::z::u::v::w::b::l):=rfl
theorem AyG (size:Nat) (a:IV) (cs:List FV) (h:Hp) (k:Hp->List Ref->List Ref->Option β):Ah size a (.fv (.agg cs)) h k =
  Fc a (fun r o=>Dk r h fun b=>Hy b fun cells=>cond (and (Nat.beq cs.length size) (DI cs)) (Em cells o cs fun cells=>Gi r (.row cells false) h fun h=>k h [r] [r]) none) fun _ _=>none:=rfl
theorem Ame (s:Nat) (x:IV):Gf (.own s) x=true:=rfl
theorem AyQ (s:Nat) (a b c:IV) (ha:a.one=true) (hb:b.one=true) (hc:c.one=true) (own:List (Nat×Blk)) (ext:List Blk) (k:Hp->List Ref->List Ref->Option β) :
  Ah 3 (.ptr (.own s) 0) (.agg [a,b,c]) ⟨own,ext⟩ k=GV own s fun bl=>Hy bl fun cells=>cond (Nat.ble 3 cells.length) (Gi (.own s) (.row (Bc cells 0 [a,b,c]) false) ⟨own,ext⟩ fun h=>k h [.own s] [.own s]) none:=by
 show GV own s (fun bl=>Hy bl fun cells=>if IV.alive (.agg [a,b,c])=true/\(IV.cells (.agg [a,b,c])).length=3/\0+3<=cells.length/\(IV.cells (.agg [a,b,c])).all IV.one=true/\Gf (.own s) (.agg [a,b,c])=true then
  spK (Bc cells 0 (IV.cells (.agg [a,b,c]))) fun cells=>Gi (.own s) (.row cells false) ⟨own,ext⟩ fun h=>k h [.own s] [.own s] else none)=_
 congr 1
 funext bl
 congr 1
 funext cells
 by_cases h3:3<=cells.length
 ·rw [if_pos ⟨rfl,rfl,by omega,by simp [IV.cells,ha,hb,hc],rfl⟩,Ie,Br,decide_eq_true h3];rfl
 ·rw [if_neg (fun h=>h3 (by omega)),Br,decide_eq_false h3];rfl
theorem sc3 (a b c x y z:IV):Bc [x,y,z] 0 [a,b,c]=[a,b,c]:=rfl
theorem Azg (a x:IV) (h:Hp) (k:Hp->List Ref->List Ref->Option β):Bv a x h k =
  cond x.one (Fc a (fun r o=>Dk r h fun b=>Hy b fun cells=>cond (Gf r x) (G9 cells o x fun cells=>Gi r (.row cells false) h fun h=>k h [r] [r]) none) fun _ _=>none) (Ah 1 a x h k):=rfl
theorem AzT (o:Nat) (r:Ref) (k:IV->Option β):Ab o (.ptr r 0) k=k (.ptr r o):=by rw [AoK,Nat.zero_add]
theorem Awy (o:Nat) (cs:List FV) (k:IV->Option β):Ab o (.fv (.fp cs 0)) k=k (.fv (.fp cs o)):=by rw [QY,Nat.zero_add]
theorem Aw3 (r:Ref) (o:Nat) (k:IV->Option β):AH (.ptr r o) k=k (.ptr r o):=rfl
theorem AwV (cs:List FV) (o:Nat) (k:IV->Option β):AH (.fv (.fp cs o)) k=k (.fv (.fp cs o)):=rfl
theorem AkA (g:FuncId) (a b:List FV) (k:IV->Option β):AH (.fv (.func (.func g) a b)) k=k (.fv (.func (.func g) a b)):=rfl
theorem Azc (ix:Nat) (vs:List IV) (k:IV->Option β):Aq ix (.tuple vs) k=DH vs ix k:=rfl
theorem AyE (ix:Nat) (vs:List FV) (k:IV->Option β):Aq ix (.fv (.tuple vs)) k=DH vs ix fun v=>k (.fv v):=rfl
theorem AyS (o:Nat) (x:IV) (k:IV->Option β):AsI o x k=asAgg x (fun cs=>DH cs o k) fun cs=>DH cs o fun v=>k (.fv v):=rfl
theorem Azu (size o:Nat) (x:IV) (k:IV->Option β):At1 size o x k=asAgg x (fun cs=>FM cs o fun cs=>Gh cs size fun cs=>QP cs k) fun cs=>FM cs o fun cs=>Gh cs size fun cs=>k (.fv (.agg cs)):=rfl
theorem Avw (z:List IV) (pl:List (Nat×Nat×IV)) (k:IV->Option β):BI z pl k=Pw z pl fun cells=>QP cells k:=rfl
theorem fk0 (z:List IV) (k:List IV->Option β):Pw z [] k=k z:=rfl
theorem fk1 (z:List IV) (o sz:Nat) (v:IV) (pl:List (Nat×Nat×IV)) (k:List IV->Option β):Pw z ((o,sz,v)::pl) k=HO z o sz v fun z=>Pw z pl k:=rfl
theorem Ato {v:IV} (hv:v.one=true) (z:List IV) (o:Nat) (k:List IV->Option β):HO z o 1 v k=G9 z o v k:=by
 unfold HO;cases v with
 | fv w =>
  show cond (Il w) _ _=_
  have:Il w=true:=by cases w<;>first | rfl | cases hv
  rw [this];rfl
 | _=>show Ad2 _ _ _ _ _=_;unfold Ad2;rw [hv];rfl
theorem Asr (z:List IV) (o sz:Nat) (cs:List FV) (k:List IV->Option β):HO z o sz (.fv (.agg cs)) k=cond (Nat.beq cs.length sz) (Em z o cs k) none:=rfl
theorem nb3 (a b c:FV):Nat.beq [a,b,c].length 3=true:=rfl
theorem nb4 (a b c d:FV):Nat.beq [a,b,c,d].length 4=true:=rfl
theorem nb7 (a b c d e f g:FV):Nat.beq [a,b,c,d,e,f,g].length 7=true:=rfl
theorem nl3 (a b c:IV):Nat.ble 3 [a,b,c].length=true:=rfl
theorem Auf:(and true true)=true:=rfl
end
section
variable {β:Type} {E:Env} {t:TypeId}
theorem YF (n:Int):IV.fv (.int .i64 n)=iv n:=rfl
def BM (n:Int):Int:=IntKind.i64.wrap n
theorem Av {n:Int} (h1:-9223372036854775808<=n) (h2:n<=9223372036854775807):BM n=n:=by
 show (if (true && decide ((n % (18446744073709551616:Int)) ≥ (9223372036854775808:Int)))=true then (n % (18446744073709551616:Int)) - (18446744073709551616:Int) else (n % (18446744073709551616:Int)))=n
 by_cases h:0<=n
 ·have e:n % (18446744073709551616:Int)=n:=by omega
  have e2:¬ n ≥ (9223372036854775808:Int):=by omega
  rw [e,decide_eq_false e2];rfl
 ·have e:n % (18446744073709551616:Int)=n+18446744073709551616:=by omega
  have e2:n+18446744073709551616 ≥ (9223372036854775808:Int):=by omega
  rw [e,decide_eq_true e2];simp
theorem AvD (a b:Int) (k:IV->Option β):BE E t (iv a) (iv b) k=k (iv (BM (a+b))):=by
 have hg:CK E t .add (iv a) (iv b) k=k (iv (BM (a+b))):=by
  rw [CK,CL];rfl
 cases a with
 | negSucc a=>exact hg
 | ofNat a=>cases b with
  | negSucc b=>exact hg
  | ofNat b =>
   show cond (Nat.ble (a+b) 9223372036854775807) (Pq (a+b) k) _=_
   rw [Br];by_cases h:a+b<=9223372036854775807
   ·rw [decide_eq_true h]
    show Pq (a+b) k=_
    rw [Dt]
    have:BM (Int.ofNat a+Int.ofNat b)=((a+b:Nat):Int):=by
     rw [Av (by simp only [Int.ofNat_eq_natCast];omega) (by simp only [Int.ofNat_eq_natCast];omega)];simp only [Int.ofNat_eq_natCast];omega
    rw [this]
   ·rw [decide_eq_false h];exact hg
theorem Av5 (a b:Int) (k:IV->Option β):Bj E t (iv a) (iv b) k=k (iv (BM (a - b))):=by
 have hg:CK E t .sub (iv a) (iv b) k=k (iv (BM (a - b))):=by
  rw [CK,CL];rfl
 cases a with
 | negSucc a=>exact hg
 | ofNat a=>cases b with
  | negSucc b=>exact hg
  | ofNat b =>
   show cond (and (Nat.ble b a) (Nat.ble a 9223372036854775807)) (Pq (a - b) k) _=_
   rw [Br,Br];by_cases h:b<=a/\a<=9223372036854775807
   ·rw [decide_eq_true h.1,decide_eq_true h.2]
    show Pq (a - b) k=_
    rw [Dt]
    have:BM (Int.ofNat a - Int.ofNat b)=((a - b:Nat):Int):=by
     rw [Av (by simp only [Int.ofNat_eq_natCast];omega) (by simp only [Int.ofNat_eq_natCast];omega)];simp only [Int.ofNat_eq_natCast];omega
    rw [this]
   ·have:(decide (b<=a) && decide (a<=9223372036854775807))=false:=by
     rw [<- Bool.decide_and];exact decide_eq_false h
    rw [show and (decide (b<=a)) (decide (a<=9223372036854775807))=false from this]
    exact hg
theorem Awv (a b:Int) (k:IV->Option β):CK E t .mul (iv a) (iv b) k=k (iv (BM (a * b))):=by
 rw [CK,CL];rfl
theorem Akw {b:Int} (hb:b≠0) (a:Int) (k:IV->Option β):CK E t .quo (iv a) (iv b) k=k (iv (BM (a.tdiv b))):=by
 rw [CK,CL]
 have:FP E .quo t (iv a) (iv b)=some (iv (BM (a.tdiv b))):=by
  show (Hq (Op.intDiv .quo .i64 a b)).bind J5=_
  simp only [Op.intDiv,hb,if_false];rfl
 rw [this];rfl
theorem PX {b:Int} (hb:b≠0) (a:Int) (k:IV->Option β):CK E t .rem (iv a) (iv b) k=k (iv (a.tmod b)):=by
 rw [CK,CL]
 have:FP E .rem t (iv a) (iv b)=some (iv (a.tmod b)):=by
  show (Hq (Op.intDiv .rem .i64 a b)).bind J5=_
  simp only [Op.intDiv,hb,if_false];rfl
 rw [this];rfl
theorem Azf (a b:Int) (k:IV->Option β):AS E t (iv a) (iv b) k=k (.fv (.bool (decide (a=b)))):=AxA a b k
theorem AyV (a b:Int) (k:IV->Option β):CE E t (iv a) (iv b) k=k (.fv (.bool (!decide (a=b)))):=AvT a b k
theorem Azb (a b:Int) (k:IV->Option β):Hm E t (iv a) (iv b) k=k (.fv (.bool (decide (a<b)))):=Axg a b k
theorem Azr (a b:Int) (k:IV->Option β):leS E t (iv a) (iv b) k=k (.fv (.bool (decide (a<=b)))):=Axr a b k
theorem AyR (a b:Int) (k:IV->Option β):KN E t (iv a) (iv b) k=k (.fv (.bool (decide (b<a)))):=by
 rw [KN,Ms (fun a b=>by
  show some (IV.fv (.bool (decide ((a:Int) > (b:Int)))))=_
  rw [Br];congr 3;exact decide_eq_decide.2 (by omega))]
 rfl
theorem Azq (a b:Int) (k:IV->Option β):Yf E t (iv a) (iv b) k=k (.fv (.bool (decide (b<=a)))):=by
 rw [Yf,Ms (fun a b=>by
  show some (IV.fv (.bool (decide ((a:Int) ≥ (b:Int)))))=_
  rw [Br];congr 3;exact decide_eq_decide.2 (by omega))]
 rfl
theorem Aw5 (a b:Bool) (hT:E.T t=some ⟨1,1,.bool,[.fv (.bool false)]⟩) (k:IV->Option β):AS E t (.fv (.bool a)) (.fv (.bool b)) k=k (.fv (.bool (a == b))):=by
 show CK E t .eql _ _ k=_
 rw [CK,CL]
 have:FP E .eql t (.fv (.bool a)) (.fv (.bool b))=some (.fv (.bool (a == b))):=by
  simp only [FP,hT,WX]
 rw [this];rfl
theorem AvE (b:Bool) (k:IV->Option β):Eh (Qw .not (.fv (.bool b))) k=k (.fv (.bool !b)):=Axa b k
theorem Ay3 (a b:Option β):Ak (.fv (.bool true)) a b=a:=rfl
theorem Ays (a b:Option β):Ak (.fv (.bool false)) a b=b:=rfl
theorem AzE (c:Prop) [Decidable c] (a b:Option β):Ak (.fv (.bool (decide c))) a b=if c then a else b:=Aug c a b
theorem Ayo (c:Prop) [Decidable c] (a b:Option β):Ak (.fv (.bool (!decide c))) a b=if c then b else a:=by
 by_cases h:c
 ·rw [decide_eq_true h,if_pos h];rfl
 ·rw [decide_eq_false h,if_neg h];rfl
theorem Azh (c:Bool) (a b:Option β):Ak (.fv (.bool c)) a b=if c=true then a else b:=by
 cases c<;>rfl
theorem Azn (c a b:IV) (k:IV->Option β):AJ c a b k=Ak c (k a) (k b):=rfl
theorem Axo {b:Bool} (hb:b=true) (h:Hp) (m:(KT β)->Option β) (k:KT β):Aa (.fv (.bool b)) true h m k=m k:=by rw [hb];rfl
theorem AwI {b:Bool} (hb:b=false) (h:Hp) (m:(KT β)->Option β) (k:KT β):Aa (.fv (.bool b)) false h m k=m k:=by rw [hb];rfl
theorem AwN {b:Bool} (hb:b=true) (h:Hp) (m:(KT β)->Option β) (k:KT β):Aa (.fv (.bool b)) false h m k=k FQ h [] []:=by rw [hb];rfl
theorem Awk {b:Bool} (hb:b=false) (h:Hp) (m:(KT β)->Option β) (k:KT β):Aa (.fv (.bool b)) true h m k=k FQ h [] []:=by rw [hb];rfl
theorem AzN (w:Bool) (h:Hp) (m:(KT β)->Option β) (k:KT β):Aa FQ w h m k=k FQ h [] []:=rfl
theorem ch0 (rd wr:List Ref) (a:Option β):Ac [] rd wr a=a:=rfl
theorem ch1 (q1 q2:List Ref) (l:List (List Ref×List Ref)) (rd wr:List Ref) (a:Option β):Ac ((q1,q2)::l) rd wr a=cond (Xa q2 rd) (cond (Xa q2 wr) (cond (Xa wr q1) (Ac l rd wr a) none) none) none:=rfl
theorem dj0 (b:List Ref):Xa [] b=true:=rfl
theorem djn:∀(a:List Ref),Xa a []=true
 | []=>rfl
 | _::a=>djn a
theorem dj1 (r:Ref) (a b:List Ref):Xa (r::a) b=cond (L5 r b) (Xa a b) false:=rfl
theorem an0 (r:Ref):L5 r []=true:=rfl
theorem an1 (r s:Ref) (l:List Ref):L5 r (s::l)=cond (MS r s) (L5 r l) false:=rfl
theorem Ay7 {i j:Nat} (h:(i == j)=false):MS (.own i) (.own j)=true:=by
 show not (Nat.beq i j)=true
 rw [show Nat.beq i j=false from Ap3 h];rfl
theorem AvB (i j:Nat):MS (.own i) (.ext j)=true:=rfl
theorem Aw7 (i j:Nat):MS (.ext i) (.own j)=true:=rfl
theorem AzL (v:IV) (h:Hp):Am [v] h=some (v,h):=rfl
theorem Ayv (h:Hp):Am [] h=some (.fv (.tuple []),h):=rfl
theorem Aza (a b:IV) (h:Hp):Am [a,b] h=Xl [a,b] fun v=>some (v,h):=rfl
theorem Ayl (a b c:IV) (h:Hp):Am [a,b,c] h=Xl [a,b,c] fun v=>some (v,h):=rfl
theorem AyP (a b c d:IV) (h:Hp):Am [a,b,c,d] h=Xl [a,b,c,d] fun v=>some (v,h):=rfl
theorem AxD (es:List FV) (k:IV->Option β):Ci (.fv (.sl es)) k=k (iv es.length):=Dt ..
theorem AwS (k:IV->Option β):Ci .nils k=k (iv 0):=rfl
theorem Axb (es:List FV) (k:IV->Option β):Ci (.clip es) k=k (iv es.length):=Dt ..
theorem Awe (r:Ref) (es:List FV) (k:IV->Option β):Ci (.app r es) k=k (iv es.length):=Dt ..
theorem Av3 (r:Ref) (sz n:Nat) (k:IV->Option β):Ci (.slc r sz n) k=k (iv n):=Dt ..
theorem BS {size:Nat} {es:List FV} {n:Nat} {el:FV} (he:es[n]?=some el) (hl:el.cells.length=size) (k:IV->Option β):AU size (.fv (.sl es)) (iv n) k=k (.fv (.fp el.cells 0)):=Asq he hl k
theorem AzM {size:Nat} {r:Ref} {es:List FV} {n:Nat} {el:FV} (he:es[n]?=some el) (hl:el.cells.length=size) (k:IV->Option β):AU size (.app r es) (iv n) k=k (.fv (.fp el.cells 0)):=Asq he hl k
theorem AyH {size:Nat} {es:List FV} {n:Nat} {el:FV} (he:es[n]?=some el) (hl:el.cells.length=size) (k:IV->Option β):AU size (.clip es) (iv n) k=k (.fv (.fp el.cells 0)):=Asq he hl k
theorem AyD {size sz len:Nat} {r:Ref} {n:Nat} (hn:n<len) (hs:sz=size) (k:IV->Option β):AU size (.slc r sz len) (iv n) k=k (.ptr r (n * sz)):=by
 show cond (and (Nat.ble (Nat.succ n) len) (Nat.beq sz size)) (Ej (n * sz) fun o=>k (.ptr r o)) none=_
 rw [Br,decide_eq_true (show Nat.succ n<=len from hn),hs,show Nat.beq size size=true from Nat.beq_refl size]
 simp only [Bool.and_self,cond_true];rw [B4]
theorem Ap6 (size:Nat) (cs:List FV) (es:List FV) (hl:cs.length=size) (k:IV->Option β):AU size (.fv (.sl (.agg cs::es))) (iv 0) k=k (.fv (.fp cs 0)):=BS (el:=.agg cs) (n:=0) rfl hl k
theorem ApH (size:Nat) (cs:List FV) (e:FV) (es:List FV) (hl:cs.length=size) (k:IV->Option β):AU size (.fv (.sl (e :: .agg cs::es))) (iv 1) k=k (.fv (.fp cs 0)):=BS (el:=.agg cs) (n:=1) rfl hl k
theorem AoP (size:Nat) (cs:List FV) (e e':FV) (es:List FV) (hl:cs.length=size) (k:IV->Option β):AU size (.fv (.sl (e::e' :: .agg cs::es))) (iv 2) k=k (.fv (.fp cs 0)):=BS (el:=.agg cs) (n:=2) rfl hl k
theorem Aos (size:Nat) (cs:List FV) (e e' e'':FV) (es:List FV) (hl:cs.length=size) (k:IV->Option β):AU size (.fv (.sl (e::e'::e'' :: .agg cs::es))) (iv 3) k=k (.fv (.fp cs 0)):=BS (el:=.agg cs) (n:=3) rfl hl k
def Fz (v:IV) (own:List (Nat×Blk)) (w:FV):Prop:=∃u lg,∀(e:Option (IV×Hp)) (K:FV->List (Ref×Blk)->List Ref->Option (IV×Hp)),Fh 12 v ⟨own,[]⟩ [] e K=K w u lg
def BW (r:Option (IV×Hp)) (w:FV):Prop:=∃v own,r=some (v,⟨own,[]⟩) /\
 (Fz v own w\/((∀(e:Option (IV×Hp)) (K:FV->List (Ref×Blk)->List Ref->Option (IV×Hp)),Fh 12 v ⟨own,[]⟩ [] e K=e)/\∃u,(C6 4096 v).run ⟨own,[]⟩=some (w,u)))
def AmV (r:Option (IV×Hp)) (w:FV):Prop:=∃v own,r=some (v,⟨own,[]⟩)/\Fz v own w
theorem AqQ (w:FV) (own:List (Nat×Blk)):Fz (.fv w) own w:=⟨[],[],fun _ _=>rfl⟩
theorem Aw (w:FV) (own:List (Nat×Blk)):BW (some (.fv w,⟨own,[]⟩)) w:=⟨_,own,rfl,.inl (AqQ w own)⟩
def HQ:IV->Option FV
 | .fv v=>some v
 | .nils=>some (.sl [])
 | .emp=>some (.sl [])
 | .clip es=>some (.sl es)
 | .app _ es=>some (.sl es)
 | _=>none
def Di:List IV->Option (List FV)
 | []=>some []
 | v::l=>(HQ v).bind fun x=>(Di l).map fun xs=>x::xs
def Bg (v:IV):Option FV:=match v with
 | .agg cs=>if cs.length<=8 then (Di cs).map .agg else none
 | v=>HQ v
def BK:List IV->Option (List FV)
 | []=>some []
 | v::l=>(Bg v).bind fun x=>(BK l).map fun xs=>x::xs
theorem Avl (v:FV):Bg (.fv v)=some v:=rfl
theorem Ap1:Bg .nils=some (.sl []):=rfl
theorem At6:Bg .emp=some (.sl []):=rfl
theorem ApB (es:List FV):Bg (.clip es)=some (.sl es):=rfl
theorem Atw (r:Ref) (es:List FV):Bg (.app r es)=some (.sl es):=rfl
theorem Awf (v:FV):HQ (.fv v)=some v:=rfl
theorem Aov:HQ .nils=some (.sl []):=rfl
theorem ArO:HQ .emp=some (.sl []):=rfl
theorem Aqd (es:List FV):HQ (.clip es)=some (.sl es):=rfl
theorem Arl (r:Ref) (es:List FV):HQ (.app r es)=some (.sl es):=rfl
theorem AyO {a b c:IV} {x y z:FV} (ha:HQ a=some x) (hb:HQ b=some y) (hc:HQ c=some z):Bg (.agg [a,b,c])=some (.agg [x,y,z]):=by
 show (if 3<=8 then (Di [a,b,c]).map FV.agg else none)=_
 simp [Di,ha,hb,hc]
theorem AyX {a b c d:IV} {x y z u:FV} (ha:HQ a=some x) (hb:HQ b=some y) (hc:HQ c=some z) (hd:HQ d=some u):Bg (.agg [a,b,c,d])=some (.agg [x,y,z,u]):=by
 show (if 4<=8 then (Di [a,b,c,d]).map FV.agg else none)=_
 simp [Di,ha,hb,hc,hd]
theorem AqX {v:IV} {x:FV} (d:Nat) (h:Hp) (lg:List Ref) (e:Option β) (k:FV->List (Ref×Blk)->List Ref->Option β) (hz:HQ v=some x):Fh (d+1) v h lg e k=k x [] lg:=by
 cases v<;>first | (cases hz;rfl) | (cases hz)
theorem Aid (d:Nat) (h:Hp) (lg:List Ref) (e:Option β):∀(cs:List IV) (k:List FV->List (Ref×Blk)->List Ref->Option β) {xs:List FV},Di cs=some xs->Dl (Fh (d+1)) cs h lg e k=k xs [] lg
 | [],k,xs,hz=>by cases hz;rfl
 | v::cs,k,xs,hz=>by
  simp only [Di] at hz;cases h1:HQ v with
  | none=>rw [h1] at hz;cases hz
  | some x =>
   rw [h1] at hz;cases h2:Di cs with
   | none=>rw [h2] at hz;cases hz
   | some ys =>
    rw [h2] at hz;cases hz
    show Fh (d+1) v h lg e (fun y u lg=>Dl (Fh (d+1)) cs h lg e fun ys us lg=>QE u us fun w=>k (y::ys) w lg)=_
    rw [AqX d h lg e _ h1,Aid d h lg e cs _ h2];rfl
theorem KO {v:IV} {x:FV} (h:Hp) (lg:List Ref) (e:Option β) (k:FV->List (Ref×Blk)->List Ref->Option β) (hz:Bg v=some x):Fh 12 v h lg e k=k x [] lg:=by
 cases v with
 | agg cs =>
  simp only [Bg] at hz;split at hz
  ·rename_i hl;cases h2:Di cs with
   | none=>rw [h2] at hz;cases hz
   | some ys =>
    rw [h2] at hz;cases hz
    show cond (Nat.ble cs.length 300) (Dl (Fh 11) cs h lg e fun cs u lg=>k (.agg cs) u lg) e=_
    rw [Br,decide_eq_true (show cs.length<=300 by omega)]
    exact Aid 10 h lg e cs _ h2
  ·cases hz
 | _=>exact AqX 11 h lg e k hz
theorem Azv {v:IV} {x:FV} (hz:Bg v=some x) (own:List (Nat×Blk)):Fz v own x:=⟨[],[],fun e K=>KO _ _ e K hz⟩
theorem Bl {v:IV} {x:FV} (hz:Bg v=some x) (own:List (Nat×Blk)):BW (some (v,⟨own,[]⟩)) x:=⟨v,own,rfl,.inl (Azv hz own)⟩
theorem fr1 {v:IV} {x:FV} (n:Nat) (hz:HQ v=some x):C6 (n+1) v=.ret (x,[]):=by
 cases v<;>first | (cases hz;rfl) | (cases hz)
theorem Acu:∀(cs:List IV) (n:Nat) {xs:List FV},cs.length+1<n->Di cs=some xs->frzL n cs=.ret (xs,[])
 | [],n+1,xs,_,hz=>by cases hz;rfl
 | v::cs,n+2,xs,hn,hz=>by
  simp only [Di] at hz;cases h1:HQ v with
  | none=>rw [h1] at hz;cases hz
  | some x =>
   rw [h1] at hz;cases h2:Di cs with
   | none=>rw [h2] at hz;cases hz
   | some ys =>
    rw [h2] at hz;cases hz;simp only [AB9] at hn;simp only [frzL,fr1 n h1,Rd.bind,Acu cs (n+1) (by omega) h2];rfl
theorem frp {v:IV} {x:FV} (n:Nat) (hn:20<n) (hz:Bg v=some x):C6 n v=.ret (x,[]):=by
 cases n with
 | zero=>omega
 | succ n =>
  cases v with
  | agg cs =>
   simp only [Bg] at hz;split at hz
   ·rename_i hl;cases h2:Di cs with
    | none=>rw [h2] at hz;cases hz
    | some ys =>
     rw [h2] at hz;cases hz;simp only [C6,Acu cs n (by omega) h2,Rd.bind]
   ·cases hz
  | _=>exact fr1 n hz
theorem Aqx:∀(cs:List IV) (n:Nat) {xs:List FV},cs.length+30<n->BK cs=some xs->frzL n cs=.ret (xs,[])
 | [],n+1,xs,_,hz=>by cases hz;rfl
 | v::cs,n+1,xs,hn,hz=>by
  simp only [BK] at hz;cases h1:Bg v with
  | none=>rw [h1] at hz;cases hz
  | some x =>
   rw [h1] at hz;cases h2:BK cs with
   | none=>rw [h2] at hz;cases hz
   | some ys =>
    rw [h2] at hz;cases hz;simp only [AB9] at hn;simp only [frzL,frp n (by omega) h1,Rd.bind,Aqx cs n (by omega) h2];rfl
theorem V4 {vs:List IV} {xs:List FV} (hz:BK vs=some xs) (hl:vs.length<=100) (own:List (Nat×Blk)):BW (some (.tuple vs,⟨own,[]⟩)) (.tuple xs) :=
 ⟨_,own,rfl,.inr ⟨fun _ _=>rfl,[],by
  show (C6 (4095+1) (.tuple vs)).run _=_
  simp only [C6,Aqx vs 4095 (by omega) hz,Rd.bind];rfl⟩⟩
theorem AtS:BK []=some []:=rfl
theorem Xo {a b:IV} {x y:FV} (ha:Bg a=some x) (hb:Bg b=some y):BK [a,b]=some [x,y]:=by simp [BK,ha,hb]
theorem Ai6 {a b c:IV} {x y z:FV} (ha:Bg a=some x) (hb:Bg b=some y) (hc:Bg c=some z):BK [a,b,c]=some [x,y,z]:=by simp [BK,ha,hb,hc]
theorem Aw8 {a b c d:IV} {x y z u:FV} (ha:Bg a=some x) (hb:Bg b=some y) (hc:Bg c=some z) (hd:Bg d=some u):BK [a,b,c,d]=some [x,y,z,u]:=by simp [BK,ha,hb,hc,hd]
theorem AjX {a:IV} {x:FV} (ha:Bg a=some x):BK [a]=some [x]:=by simp [BK,ha]
theorem PU:∀(args:List IV) {vs:List FV},BK args=some vs->Bs [] args=.ret (vs.map .fv,[],[])
 | [],vs,hz=>by cases hz;rfl
 | v::l,vs,hz=>by
  simp only [BK] at hz;cases h1:Bg v with
  | none=>rw [h1] at hz;cases hz
  | some x =>
   rw [h1] at hz;cases h2:BK l with
   | none=>rw [h2] at hz;cases hz
   | some ys =>
    rw [h2] at hz;cases hz;simp only [Bs,frp 4096 (by omega) h1,Rd.bind,PU l h2];rfl
theorem fz0 (keep:List Bool) (h:Hp) (lg:List Ref) (e:Option β) (k:List IV->List Ref->List (Ref×Blk)->List Ref->Option β):W5 [] keep h lg e k=k [] [] [] lg:=rfl
theorem fz1 (x:IV) (l:List IV) (h:Hp) (lg:List Ref) (e:Option β) (k:List IV->List Ref->List (Ref×Blk)->List Ref->Option β) :
  W5 (x::l) [] h lg e k=Fh 12 x h lg e fun y u lg=>W5 l [] h lg e fun vs rs us lg=>QE u us fun w=>k (.fv y::vs) rs w lg:=rfl
theorem XC (x:IV) (l:List IV) (ks:List Bool) (h:Hp) (lg:List Ref) (e:Option β) (k:List IV->List Ref->List (Ref×Blk)->List Ref->Option β) :
  W5 (x::l) (true::ks) h lg e k=Fc x (fun r o=>W5 l ks h lg e fun vs rs us lg=>k (.ptr r o::vs) (r::rs) us lg) fun _ _=>e:=rfl
theorem Vh (x:IV) (l:List IV) (ks:List Bool) (h:Hp) (lg:List Ref) (e:Option β) (k:List IV->List Ref->List (Ref×Blk)->List Ref->Option β) :
  W5 (x::l) (false::ks) h lg e k=Fh 12 x h lg e fun y u lg=>W5 l ks h lg e fun vs rs us lg=>QE u us fun w=>k (.fv y::vs) rs w lg:=rfl
section
variable (d:Nat) (h:Hp) (lg:List Ref) (e:Option β) (k:FV->List (Ref×Blk)->List Ref->Option β)
theorem Asm (cs:List IV):Fh 12 (.agg cs) h lg e k=cond (Nat.ble cs.length 300) (Dl (Fh 11) cs h lg e fun cs u lg=>k (.agg cs) u lg) e:=rfl
theorem YB (s:Nat) (off:Nat):Fh 12 (.ptr (.own s) off) h lg e k=Dk (.own s) h fun b=>Ek b fun cells=>cond (Nat.ble cells.length 300) (Dl (Fh 11) cells h (.own s::lg) e fun cs u lg=>k (.fp cs off) ((.own s,.row cells true)::u) lg) e:=rfl
theorem MR (v:FV):Fh 11 (.fv v) h lg e k=k v [] lg:=rfl
theorem fl0 (g:FzK β) (k:List FV->List (Ref×Blk)->List Ref->Option β):Dl g [] h lg e k=k [] [] lg:=rfl
theorem fl1 (g:FzK β) (x:IV) (l:List IV) (k:List FV->List (Ref×Blk)->List Ref->Option β):Dl g (x::l) h lg e k=g x h lg e fun y u lg=>Dl g l h lg e fun ys us lg=>QE u us fun w=>k (y::ys) w lg:=rfl
end
def TD (rs:List Ref) (r:Option (IV×Hp)) (h:Hp) (u:List (Ref×Blk)) (lg:List Ref) (e:Option (IV×Hp)) (g:List Ref->Option (IV×Hp)) (k:KT (IV×Hp)):Option (IV×Hp):=match rs with
 | []=>(match r with
  | none=>none
  | some p=>match p with
   | (v,h')=>match h' with
    | ⟨own,ext⟩=>List.casesOn (motive:=fun _=>Option (IV×Hp)) ext (Fh 12 v ⟨own,[]⟩ [] e fun w _ _=>Mt u h fun h2=>k (.fv w) h2 lg (Bx u)) fun _ _=>none)
 | r::rs=>g (r::rs)
theorem Kx (keep:List Bool) (ih:Al) (f:FuncId) (args:List IV) (h:Hp) (k:KT (IV×Hp)):A4 keep false false ih f args h k =
  W5 args keep h [] (Fx keep false false ih f args h k) fun vs rs u lg=>TD rs (ih f vs ⟨[],[]⟩) h u lg (Fx keep false false ih f args h k) (fun rs=>match rs with
   | []=>none
   | r::rs=>(match h with
    | ⟨own,ext⟩=>cond (Qz 400 (r::rs) 0 ext) (match ih f vs ⟨[],ext⟩ with
     | none=>none
     | some p=>match p with
      | (v,h')=>match h' with
       | ⟨own',ext'⟩=>cond (and (Nat.beq ext'.length ext.length) (okB ext.length ext'))
        (Fh 12 v ⟨own',ext'⟩ [] (Fx keep false false ih f args h k) fun w _ _=>Mt u ⟨own,ext'⟩ fun h2=>k (.fv w) h2 ((CU ext.length).reverse++lg) (Bx u++CU ext.length)) none)
     (Fx keep false false ih f args h k))) k:=by
 unfold A4;simp only [cond_false];congr 1
theorem AxK {r:Option (IV×Hp)} {w:FV} (hr:AmV r w) (h:Hp) (u:List (Ref×Blk)) (lg:List Ref) (e:Option (IV×Hp)) (g:List Ref->Option (IV×Hp)) (k:KT (IV×Hp)) :
  TD [] r h u lg e g k=Mt u h fun h2=>k (.fv w) h2 lg (Bx u):=by
 obtain ⟨v,own,rfl,u',lg',hz⟩:=hr;simp only [TD];rw [hz]
theorem Amu:∀(args:List IV) {vs:List FV} (h:Hp) (lg:List Ref) (e:Option β) (k:List IV->List Ref->List (Ref×Blk)->List Ref->Option β),BK args=some vs->W5 args [] h lg e k=k (vs.map .fv) [] [] lg
 | [],vs,h,lg,e,k,hz=>by cases hz;rfl
 | v::l,vs,h,lg,e,k,hz=>by
  simp only [BK] at hz;cases h1:Bg v with
  | none=>rw [h1] at hz;cases hz
  | some x =>
   rw [h1] at hz;cases h2:BK l with
   | none=>rw [h2] at hz;cases hz
   | some ys =>
    rw [h2] at hz;cases hz
    show Fh 12 v h lg e (fun y u lg=>W5 l [] h lg e fun vs rs us lg=>QE u us fun w=>k (.fv y::vs) rs w lg)=_
    rw [KO h lg e _ h1,Amu l h lg e _ h2];rfl
theorem FD (f:Ref->Option Ref):∀l:List FV,IV.ren.renL f (l.map .fv)=some (l.map .fv)
 | []=>rfl
 | v::l=>by
  simp only [ACb,IV.ren.renL,IV.ren,FD f l];rfl
theorem VD {ih:Al} {f:FuncId} {args:List IV} {vs:List FV} {w:FV} (hz:BK args=some vs) (hr:BW (ih f (vs.map .fv) ⟨[],[]⟩) w) (h:Hp) (k:KT (IV×Hp)) :
  A4 [] false false ih f args h k=k (.fv w) h [] []:=by
 obtain ⟨v,own,e,hv⟩:=hr;have hD:(∃u,(C6 4096 v).run ⟨own,[]⟩=some (w,u))->Fx [] false false ih f args h k=k (.fv w) h [] []:=by
  rintro ⟨u,hu⟩;unfold Fx;simp only [PU args hz,Rd.runLog,Cb,FD,ACa,A8,DD (Cw 3),DD CY,Kn,Bool.false_eq_true,if_false,e,hu,AB8,IV.ren]
  show (match laid h ([]++(Bx []).zip []) with | none=>none | some h'=>fH h' fun h'=>fV 3 (.fv w) fun res=>k res h' [] _)=_
  simp only [Bx,ACa,List.zip_nil_left,List.append_nil,laid,M0,Cw]
 rw [Kx,Amu args h [] _ _ hz,e];simp only [TD];rcases hv with ⟨u',lg',hf⟩ | ⟨hf,hu⟩
 ·rw [hf];rfl
 ·rw [hf];exact hD hu
theorem Ir {ih:Al} {f:FuncId} {w:FV} (hr:BW (ih f [] ⟨[],[]⟩) w) (h:Hp) (k:KT (IV×Hp)) :
  A4 [] false false ih f [] h k=k (.fv w) h [] []:=VD (vs:=[]) rfl hr h k
theorem Ap {ih:Al} {f:FuncId} {a:IV} {x w:FV} (hr:BW (ih f [.fv x] ⟨[],[]⟩) w) (ha:Bg a=some x) (h:Hp) (k:KT (IV×Hp)) :
  A4 [] false false ih f [a] h k=k (.fv w) h [] []:=VD (AjX ha) hr h k
theorem Ad {ih:Al} {f:FuncId} {a b:IV} {x y w:FV} (hr:BW (ih f [.fv x,.fv y] ⟨[],[]⟩) w) (ha:Bg a=some x) (hb:Bg b=some y) (h:Hp) (k:KT (IV×Hp)) :
  A4 [] false false ih f [a,b] h k=k (.fv w) h [] []:=VD (Xo ha hb) hr h k
theorem AA {ih:Al} {f:FuncId} {a b c:IV} {x y z w:FV} (hr:BW (ih f [.fv x,.fv y,.fv z] ⟨[],[]⟩) w) (ha:Bg a=some x) (hb:Bg b=some y) (hc:Bg c=some z) (h:Hp) (k:KT (IV×Hp)) :
  A4 [] false false ih f [a,b,c] h k=k (.fv w) h [] []:=VD (Ai6 ha hb hc) hr h k
theorem Au {ih:Al} {f:FuncId} {a b c d:IV} {x y z u w:FV} (hr:BW (ih f [.fv x,.fv y,.fv z,.fv u] ⟨[],[]⟩) w) (ha:Bg a=some x) (hb:Bg b=some y) (hc:Bg c=some z) (hd:Bg d=some u) (h:Hp)
  (k:KT (IV×Hp)):A4 [] false false ih f [a,b,c,d] h k=k (.fv w) h [] []:=VD (Aw8 ha hb hc hd) hr h k
theorem HF (v:IV) (s:Nat) (h:Hp) (k:KT β):Ay (.ret { eff:={ val:=v } }) s h k=k v h [] []:=by
 unfold Ay;simp only [Rd.runLog,IJ,Cw];rfl
theorem gen_val' (v:IV) (s:Nat) (h:Hp) (k:KT β):Ay (Idl.val v) s h k=k v h [] []:=HF v s h k
theorem CD {e:TypeId} {a b:Nat} {ei:TI} {z:List IV} (hT:E.T t=some ⟨a,b,.slice e,z⟩) (he:E.T e=some ei) {len:Nat} (hs:¬ (ei.size=0\/len * ei.size > 65536)) {parts:List (Nat×IV)} {cells:List FV}
  (hf:CH (fun j=>some (j * ei.size,ei.size)) (QN len ei.zero) parts=some (cells.map .fv)) {s:Nat} {h:Hp} (k:KT β) (hc:cells.length<65000:=by simp) :
  Ay (Aj E t len parts) s h k=k (.clip (B3 ei.size len cells)) h [] []:=by
 have key:∀(l:List FV) (n:Nat),l.length<n->frzL n (l.map .fv)=.ret (l,[]):=by
  intro l
  induction l with
  | nil=>intro n hn;cases n with
   | zero=>simp at hn
   | succ n=>rfl
  | cons x l ih=>intro n hn;cases n with
   | zero=>simp at hn
   | succ n =>
    simp only [AB9] at hn;cases n with
    | zero=>omega
    | succ n =>
     simp only [ACb,frzL,C6,Rd.bind];rw [ih (n+1) (by omega)];rfl
 have:Aj E t len parts=.ret { eff:={ val:=.clip (B3 ei.size len cells),upd:=[] } }:=by
  simp only [Aj,hT,he,if_neg hs,hf];rw [key _ _ (by omega)];rfl
 rw [this,HF]
end
def Awr:IV->Option FV
 | .fv w=>some w
 | .tuple vs=>if vs.length<=100 then (BK vs).map .tuple else none
 | _=>none
theorem Bi {x:IV} {w:FV} {own:List (Nat×Blk)} (h:Awr x=some w):BW (some (x,⟨own,[]⟩)) w:=by
 cases x with
 | fv v=>rw [Option.some.inj h];exact Aw _ _
 | tuple vs =>
  simp only [Awr] at h;split at h
  ·rename_i hl;cases hz:BK vs with
   | none=>rw [hz] at h;cases h
   | some xs=>rw [hz] at h;rw [<- Option.some.inj h];exact V4 hz hl _
  ·cases h
 | _=>cases h
end Idl
end Go.Proofs.Ytkfecngimlcfoaa
namespace Go.Proofs.Ytkfecngimlcfoaa
namespace Idl
def XY:=AB4 @decide_true<|AB4 @decide_false<|AB4 @Bool.not_true<|AB4 @Bool.not_false<|AB4 @List.map_cons.{0,0}<|AB4 @List.map_nil.{0,0}<|AB4 @List.length_map.{0,0}<|AB4 @List.length_cons.{0}<|AB4 @List.length_nil.{0}<|AB4 @Int.natCast_zero<|AB4 @Int.natCast_one<|AB4 @Bool.false_eq_true<|AB4 @Bool.true_eq_false<|AB4 @decide_eq_true_eq<|AB4 @eq_self.{1}<|AB4 @Bool.and_true<|AB4 @Bool.true_and<|AB4 @Bool.and_false<|AB4 @Bool.false_and<|AB4 @Nat.zero_add<|@Int.cast_ofNat_Int
def XE:=AB4 @List.any_cons.{0}<|AB4 @List.any_nil.{0}<|AB4 @List.all_cons.{0}<|AB4 @List.all_nil.{0}<|AB4 @List.filter_cons.{0}<|AB4 @List.filter_nil.{0}<|AB4 @List.contains_cons.{0}<|AB4 @List.contains_nil.{0}<|AB4 @Bool.or_false<|AB4 @Bool.or_true<|AB4 @Bool.false_or<|AB4 @Bool.true_or<|AB4 @Bool.and_self<|AB4 @Bool.not_eq_true<|AB4 @BEq.rfl.{0}<|@beq_self_eq_true.{0}
def XX:=AB4 @n0<|AB4 @n1<|AB4 @n2<|AB4 @n3<|AB4 @n4<|AB4 @n5<|AB4 @n6<|AB4 @d0<|AB4 @d1<|AB4 @d2<|AB4 @d3<|AB4 @d4<|AB4 @t1<|AB4 @t2<|AB4 @t3<|AB4 @t4<|AB4 @t7<|AB4 @ap0<|AB4 @ap1<|AB4 @AxG<|AB4 @c_t<|AB4 @c_f<|AB4 @MY<|AB4 @Av6<|AB4 @AqJ<|AB4 @Atu<|AB4 @Awi<|AB4 @AqO<|AB4 @AtD<|AB4 @AvL<|AB4 @AtW<|AB4 @AcJ<|AB4 @AnJ<|AB4 @sn0<|AB4 @AxB<|AB4 @Awp<|AB4 @AwO<|AB4 @AvK<|AB4 @Aw0<|AB4 @Wd<|AB4 @An4<|AB4 @Asg<|AB4 @Apc<|AB4 @Avj<|AB4 @Av4<|AB4 @Aqg<|AB4 @Apd<|AB4 @AnT<|AB4 @Asl<|AB4 @Arx<|AB4 @Arq<|AB4 @App<|AB4 @As8<|AB4 @Atn<|AB4 @Apy<|AB4 @Arm<|AB4 @Aog<|AB4 @AvP<|AB4 @AwM<|AB4 @Aot<|AB4 @Aul<|AB4 @AoT<|AB4 @V8<|AB4 @SN<|AB4 @AyN<|AB4 @J2<|AB4 @Ahg<|AB4 @Ale<|AB4 @Yr<|AB4 @Asd<|AB4 @Aum<|AB4 @Aue<|AB4 @AsM<|AB4 @Asi<|AB4 @ArD<|AB4 @Ar9<|AB4 @AwA<|AB4 @ArZ<|AB4 @Apn<|AB4 @Atj<|AB4 @Anp<|AB4 @ApU<|AB4 @Am7<|AB4 @Aob<|AB4 @AoD<|AB4 @AoW<|AB4 @Ald<|AB4 @AwK<|AB4 @AvU<|AB4 @Azt<|AB4 @Azy<|AB4 @Ar7<|AB4 @Atp<|AB4 @wr0<|AB4 @wr1<|AB4 @sf0<|AB4 @sf1<|AB4 @sf2<|AB4 @sf3<|AB4 @sf4<|AB4 @of0<|AB4 @of1<|AB4 @of2<|AB4 @of3<|AB4 @of6<|AB4 @AyG<|AB4 @Ame<|AB4 @AyQ<|AB4 @sc3<|AB4 @Azg<|AB4 @AzT<|AB4 @Awy<|AB4 @Aw3<|AB4 @AwV<|AB4 @AkA<|AB4 @Azc<|AB4 @AyE<|AB4 @AyS<|AB4 @Azu<|AB4 @Avw<|AB4 @fk0<|AB4 @fk1<|AB4 @Ato<|AB4 @Asr<|AB4 @nb3<|AB4 @nb4<|AB4 @nb7<|AB4 @nl3<|AB4 @Auf<|AB4 @AvD<|AB4 @Av5<|AB4 @Awv<|AB4 @Akw<|AB4 @PX<|AB4 @Azf<|AB4 @AyV<|AB4 @Azb<|AB4 @Azr<|AB4 @AyR<|AB4 @Azq<|AB4 @Aw5<|AB4 @AvE<|AB4 @Ay3<|AB4 @Ays<|AB4 @AzE<|AB4 @Ayo<|AB4 @Azh<|AB4 @Azn<|AB4 @Axo<|AB4 @AwI<|AB4 @AwN<|AB4 @Awk<|AB4 @AzN<|AB4 @ch0<|AB4 @ch1<|AB4 @dj0<|AB4 @djn<|AB4 @dj1<|AB4 @an0<|AB4 @an1<|AB4 @Ay7<|AB4 @AvB<|AB4 @Aw7<|AB4 @AzL<|AB4 @Ayv<|AB4 @Aza<|AB4 @Ayl<|AB4 @AyP<|AB4 @AxD<|AB4 @AwS<|AB4 @Axb<|AB4 @Awe<|AB4 @Av3<|AB4 @BS<|AB4 @AzM<|AB4 @AyH<|AB4 @AyD<|AB4 @Ap6<|AB4 @ApH<|AB4 @AoP<|AB4 @Aos<|AB4 @Avl<|AB4 @Ap1<|AB4 @At6<|AB4 @ApB<|AB4 @Atw<|AB4 @Awf<|AB4 @Aov<|AB4 @ArO<|AB4 @Aqd<|AB4 @Arl<|AB4 @AyO<|AB4 @AyX<|AB4 @AtS<|AB4 @Xo<|AB4 @Ai6<|AB4 @Aw8<|AB4 @AjX<|AB4 @HF<|@gen_val'
def Ev (f:FuncId) (args:List IV) (w:FV):Prop:=∃N,∀n,N<=n->BW (SS dt n f args ⟨[],[]⟩) w
theorem Bd {F:(List IV->Hp->Option (IV×Hp))->List IV->Hp->Option (IV×Hp)} {Q:Option (IV×Hp)->Prop} (P:Nat->List IV->Hp->Prop)
  (step:∀k V H rec,P k V H->(∀k' V' H',k' < k->P k' V' H'->Q (rec V' H'))->Q (F rec V H)):∀m k V H,k<m->P k V H->Q (BQ m F V H):=by
 intro m
 induction m with
 | zero=>intro k V H h;omega
 | succ m ih=>intro k V H hk hP;exact step k V H (BQ m F) hP fun k' V' H' h1 h2=>ih k' V' H' (by omega) h2
mutual
def Tm.wt:Tm->Nat
 | .mk _ _ l=>1+Tm.wtL l
def Tm.wtL:List Tm->Nat
 | []=>0
 | t::l=>t.wt+Tm.wtL l
end
theorem CT {t:Tm}:∀{l:List Tm},t∈l->t.wt<=Tm.wtL l
 | a::l,h=>by
  rcases List.mem_cons.1 h with rfl | h
  ·simp only [Tm.wtL];omega
  ·have:=CT h;simp only [Tm.wtL];omega
theorem Fj:∀(l:List Tm),l.length<=Tm.wtL l
 | []=>Nat.zero_le _
 | (.mk _ _ k)::l=>by have:=Fj l;simp only [Tm.wtL,Tm.wt,AB9];omega
theorem Ez (t:Tm):0<t.wt:=by cases t;simp only [Tm.wt];omega
theorem Ag (op n:Int) (l:List Tm):(Tm.mk op n l).enc=.agg [.int .i64 op,.int .i64 n,.sl (l.map Tm.enc)]:=by simp only [Tm.enc,Aaa]
theorem AY {l:List Tm} {i:Nat} {op n:Int} {k:List Tm} (h:l[i]?=some (.mk op n k)):(l.map Tm.enc)[i]?=some (.agg [.int .i64 op,.int .i64 n,.sl (k.map Tm.enc)]):=by
 rw [List.getElem?_map,h,AB8,Ag]
theorem Cr {α:Type} {l pre rest:List α} {a:α} (h:l=pre++a::rest):l[pre.length]?=some a:=by
 rw [h,List.getElem?_append_right (Nat.le_refl _),Nat.sub_self];rfl
theorem CB (a b c:FV):(FV.agg [a,b,c]).cells=[a,b,c]:=rfl
theorem BA (a b c:FV):(FV.agg [a,b,c]).cells.length=3:=rfl
section
variable {β:Type} {E:Env}
def Aly (b:Blk) (n sz:Nat) (x:Option β):Option β:=match b with
 | .tok a s=>if a=n/\s=sz then x else none
 | _=>none
theorem HN (n sz:Nat) (x:Option β):Aly (.tok n sz) n sz x=x:=by
 show (if n=n/\sz=sz then x else none)=x
 rw [if_pos ⟨rfl,rfl⟩]
inductive Plain2:IV->List FV->Prop
 | clip (es:List FV):Plain2 (.clip es) es
 | sl (es:List FV):Plain2 (.fv (.sl es)) es
 | app (r:Ref) (es:List FV):Plain2 (.app r es) es
theorem YI {x:IV} {es:List FV} (h:Plain2 x es):C6 4096 x=.ret (.sl es,[]):=by cases h<;>rfl
structure SliceT (E:Env) (t:TypeId) (size:Nat):Prop where
 h:∃a b e z ei,E.T t=some ⟨a,b,.slice e,z⟩/\E.T e=some ei/\ei.size=size/\size≠0/\ei.bytes<=100000
theorem JT {t:TypeId} {size:Nat} (T:SliceT E t size) {x:IV} {es2:List FV} (hx:Plain2 x es2) (h1:BN size es2=true) (hne:es2.isEmpty=false) (hb:es2.length<=1000000) {s0:IV} (hs:s0=.nils\/s0=.clip []) (s:Nat) (own:List (Nat×Blk)) (ext:List Blk)
  (k:KT β):Ay (AT E s false .append [t,t] [s0,x]) s ⟨own,ext⟩ k=CW own s (A9 own s (.tok es2.length size) fun own=>k (.app (.own s) es2) ⟨own,ext⟩ [] [.own s]):=by
 obtain ⟨a,b,e,z,ei,hT,he,rfl,h0,hby⟩:=T.h;have hlen:¬ (BN ei.size []=false\/(([]:List FV).length+es2.length) * ei.bytes > 140737488355328\/([]:List FV).length+es2.length > 1073741824):=by
  have:es2.length * ei.bytes<=1000000 * 100000:=Nat.mul_le_mul hb hby
  rintro (h | h | h)
  ·cases h
  ·simp only [List.length_nil,Nat.zero_add] at h;omega
  ·simp only [List.length_nil,Nat.zero_add] at h;omega
 have key:AT E s false .append [t,t] [s0,x]=.ret { eff:={ val:=.app (.own s) es2,upd:=[] },new:=some (.tok es2.length ei.size) }:=by
  show Fr E s t (some t) false s0 x=_
  simp only [Fr,hT,Option.bind_some,he,YI hx,Rd.bind,h0,h1,false_or,Bool.true_eq_false,if_false];rcases hs with rfl | rfl<;>simp only [Co,if_neg hlen,hne,List.nil_append,Bool.false_eq_true,if_false]
 rw [key];unfold Ay;simp only [Rd.runLog]
 show (J1 (some (.tok es2.length ei.size)) s ⟨own,ext⟩ fun h=>fV 3 (.app (.own s) es2) fun v=>k v h [] ([]++[.own s]))=_
 simp only [J1,CY,Cw];rfl
theorem AjK {t:TypeId} {size:Nat} (T:SliceT E t size) {x:IV} (hx:Plain2 x []) {s0:IV} (hs:s0=.nils\/s0=.clip []) (s:Nat) (h:Hp) (k:KT β) :
  Ay (AT E s false .append [t,t] [s0,x]) s h k=k s0 h [] []:=by
 obtain ⟨a,b,e,z,ei,hT,he,rfl,h0,hby⟩:=T.h;have hlen:¬ (BN ei.size []=false\/(([]:List FV).length+([]:List FV).length) * ei.bytes > 140737488355328\/([]:List FV).length+([]:List FV).length > 1073741824):=by
  rintro (h | h | h)
  ·cases h
  ·simp at h
  ·simp at h
 have key:AT E s false .append [t,t] [s0,x]=.ret { eff:={ val:=s0,upd:=[] } }:=by
  show Fr E s t (some t) false s0 x=_
  have h1:BN ei.size []=true:=rfl;simp only [Fr,hT,Option.bind_some,he,YI hx,Rd.bind,h0,h1,false_or,Bool.true_eq_false,if_false];rcases hs with rfl | rfl
  ·simp only [Co];rw [if_neg hlen];simp
  ·simp only [Co];rw [if_neg hlen];simp
 rw [key];exact HF s0 s h k
theorem Re {t:TypeId} {size:Nat} (T:SliceT E t size) {x:IV} {es es2:List FV} (hx:Plain2 x es2) (h1:BN size es2=true) (h2:BN size es=true) (ho:(es2.all fun e=>e.cells.all FV.one)=true) (hb:es.length+es2.length<=1000000) (r s:Nat)
  (own:List (Nat×Blk)) (ext:List Blk) (k:KT β):Ay (AT E s false .append [t,t] [.app (.own r) es,x]) s ⟨own,ext⟩ k =
   GV own r fun b=>Aly b es.length size (A9 own r (.tok (es.length+es2.length) size) fun own=>k (.app (.own r) (es++es2)) ⟨own,ext⟩ [.own r] [.own r]):=by
 obtain ⟨a,b,e,z,ei,hT,he,rfl,h0,hby⟩:=T.h;have hlen:¬ (BN ei.size es=false\/(es.length+es2.length) * ei.bytes > 140737488355328\/es.length+es2.length > 1073741824):=by
  have:(es.length+es2.length) * ei.bytes<=1000000 * 100000:=Nat.mul_le_mul hb hby
  rintro (h | h | h)
  ·rw [h2] at h;cases h
  ·omega
  ·omega
 have key:(AT E s false .append [t,t] [.app (.own r) es,x]).runLog ⟨own,ext⟩ []=(An r own).bind fun b=>match b with
   | .tok n sz=>if n=es.length/\sz=ei.size then some ({ eff:={ val:=.app (.own r) (es++es2),upd:=[(.own r,.tok (n+es2.length) sz)] } },[.own r]) else none
   | _=>none:=by
  show (Fr E s t (some t) false (.app (.own r) es) x).runLog _ _=_
  simp only [Fr,hT,Option.bind_some,he,YI hx,Rd.bind,h0,h1,false_or,Bool.true_eq_false,if_false,Co,if_neg hlen,Rd.runLog,ho,and_true]
  show (match An r own with | some b=>_ | none=>none)=_
  cases An r own with
  | none=>rfl
  | some b =>
   cases b with
   | tok n sz =>
    simp only [Option.bind_some];by_cases hc:n=es.length/\sz=ei.size
    ·rw [if_pos hc,if_pos hc];rfl
    ·rw [if_neg hc,if_neg hc];rfl
   | _=>rfl
 unfold Ay;rw [key,BL];cases hl:An r own with
 | none=>simp
 | some b =>
  simp only [Option.bind_some];cases b with
  | tok n sz =>
   simp only [Aly];by_cases hc:n=es.length/\sz=ei.size
   ·rw [if_pos hc,if_pos hc];obtain ⟨rfl,rfl⟩:=hc
    show (fRf (.own r) fun q=>Dk q ⟨own,ext⟩ fun _=>fBk (.tok (es.length+es2.length) ei.size) fun b=>Gi q b ⟨own,ext⟩ fun h=>J1 none s h fun h=>fV 3 (.app (.own r) (es++es2)) fun v=>k v h [.own r] ([.own r]++[]))=_
    simp only [Qb,CY,Cw,J1,Gi,Dk];rw [BL,hl];rfl
   ·rw [if_neg hc,if_neg hc]
  | row _ _=>rfl
  | map _=>rfl
end
def QS:EE.T 28=some ⟨1,24,.slice 30,[.nils]⟩:=by kernel_rfl
def tTm:EE.T 30=some ⟨3,40,.struct [(0,3),(1,3),(2,28)],[.fv (.int .i64 0),.fv (.int .i64 0),.nils]⟩:=by kernel_rfl
def sTm:SliceT EE 28 3:=⟨_,_,_,_,_,QS,tTm,rfl,by decide,by decide⟩
def Ko (a:Tm) (s:Nat) (h:Hp) (k:KT (IV×Hp)):Ay (Aj EE 28 1 [(0,.fv a.enc)]) s h k=k (.clip [a.enc]) h [] []:=by
 obtain ⟨o1,n1,k1⟩:=a;exact CD QS tTm (by decide) (cells:=[.int .i64 o1,.int .i64 n1,.sl (Tm.enc.encL k1)]) rfl k
def AtB (a b:Tm) (s:Nat) (h:Hp) (k:KT (IV×Hp)):Ay (Aj EE 28 2 [(0,.fv a.enc),(1,.fv b.enc)]) s h k=k (.clip [a.enc,b.enc]) h [] []:=by
 obtain ⟨o1,n1,k1⟩:=a;obtain ⟨o2,n2,k2⟩:=b;exact CD QS tTm (by decide) (cells:=[.int .i64 o1,.int .i64 n1,.sl (Tm.enc.encL k1),.int .i64 o2,.int .i64 n2,.sl (Tm.enc.encL k2)]) rfl k
def Aoa (a:Tm):a.enc.cells.length=3:=by cases a;rfl
def Ap2 (a:Tm):a.enc.cells.all FV.one=true:=by cases a;rfl
theorem RQ (l:List Tm):BN 3 (l.map Tm.enc)=true:=by
 cases l with
 | nil=>rfl
 | cons a l=>simp only [ACb,BN,Aoa,beq_self_eq_true]
def UQ (e:Tm) (s:Nat) (own:List (Nat×Blk)) (ext:List Blk) (k:KT (IV×Hp)) :
  Ay (AT EE s false .append [28,28] [.nils,.clip [e.enc]]) s ⟨own,ext⟩ k=CW own s (A9 own s (.tok 1 3) fun own=>k (.app (.own s) [e.enc]) ⟨own,ext⟩ [] [.own s]) :=
 JT sTm (.clip _) (RQ [e]) rfl (by simp) (.inl rfl) s own ext k
def Of {es:List Tm} (hb:es.length+1<=1000000) (e:Tm) (r s:Nat) (own:List (Nat×Blk)) (ext:List Blk) (k:KT (IV×Hp)) :
  Ay (AT EE s false .append [28,28] [.app (.own r) (es.map Tm.enc),.clip [e.enc]]) s ⟨own,ext⟩ k =
   GV own r fun b=>Aly b es.length 3 (A9 own r (.tok (es.length+1) 3) fun own=>k (.app (.own r) ((es++[e]).map Tm.enc)) ⟨own,ext⟩ [.own r] [.own r]):=by
 rw [Re sTm (.clip [e.enc]) (RQ [e]) (RQ es) (by simp [Ap2]) (by simpa using hb) r s own ext k];simp only [List.length_map,List.map_append,ACb,ACa,AB9,List.length_nil,Nat.zero_add]
def AlO {x m:Int} (h1:0<m) (h2:m<=4611686018427387904):(if x.tmod m<0 then BM (x.tmod m+m) else x.tmod m)=x % m:=by
 have a1:=Int.emod_nonneg x (show m≠0 by omega)
 have a2:=Int.emod_lt_of_pos x h1;have e1:x.tmod m=x - m * x.tdiv m:=by have:=Int.mul_tdiv_add_tmod x m;omega
 have e2:x % m=x - m * (x / m):=by have:=Int.mul_ediv_add_emod x m;omega
 have b1:-m<x.tmod m:=Int.lt_tmod_of_pos x h1;have b2:x.tmod m<m:=Int.tmod_lt_of_pos x h1;have key:∃q,x.tmod m=x % m+m * q:=⟨x / m - x.tdiv m,by rw [e1,e2,Int.mul_sub];omega⟩;obtain ⟨q,hq⟩:=key;have hq2:q=0\/q=-1:=by
  rcases Int.lt_trichotomy q 0 with h | h | h
  ·right;rcases Int.lt_trichotomy q (-1) with h' | h' | h'
   ·have:m * q<=m * (-2):=Int.mul_le_mul_of_nonneg_left (by omega) (by omega)
    omega
   ·exact h'
   ·omega
  ·exact .inl h
  ·have:m * 1<=m * q:=Int.mul_le_mul_of_nonneg_left (by omega) (by omega)
   omega
 rcases hq2 with rfl | rfl
 ·rw [if_neg (by omega)];omega
 ·rw [if_pos (by omega),Av (by omega) (by omega)];omega
def Ar {n:Nat} (hn:0<n) (x:Int) {m:Int} (h1:0<m) (h2:m<=4611686018427387904):BW (SS dt n 55 [iv x,iv m] ⟨[],[]⟩) (.int .i64 (x % m)):=by
 obtain ⟨n,rfl⟩:=Nat.exists_eq_add_of_lt hn;rw [Nat.zero_add,c55];simp only [S55,↓XX,XY,↓reduceIte,seval,↓PX (show m≠0 by omega)]
 rw [<- AlO h1 h2];by_cases hc:x.tmod m<0<;>simp only [hc,if_true,if_false]<;>exact Aw _ _
def AO {n:Nat} (hn:0<n) (op:Int):BW (SS dt n 24 [iv op,.fv (.sl [])] ⟨[],[]⟩) (Tm.mk op 0 []).enc:=by
 obtain ⟨n,rfl⟩:=Nat.exists_eq_add_of_lt hn;rw [Nat.zero_add,c24];simp only [S24,↓XX,XY,↓reduceIte,seval];exact Aw _ _
def Cx {n:Nat} (hn:0<n) (op:Int) (l:List Tm):BW (SS dt n 24 [iv op,.fv (.sl (l.map Tm.enc))] ⟨[],[]⟩) (Tm.mk op 0 l).enc:=by
 obtain ⟨n,rfl⟩:=Nat.exists_eq_add_of_lt hn;rw [Nat.zero_add,c24];simp only [S24,↓XX,XY,↓reduceIte,seval,Ag];exact Aw _ _
def Tm.kids:Tm->List Tm
 | .mk _ _ l=>l
def Tm.op:Tm->Int
 | .mk o _ _=>o
def Tm.n:Tm->Int
 | .mk _ n _=>n
def Tm.pick (r:Tm) (i:Nat):Tm:=match r.kids[i]? with
 | some k=>k
 | none=>.mk (BM (BM (r.op.tdiv 3)+i)) (BM (BM (r.n.tdiv 5)+BM (7 * i))) []
theorem AK {n:Nat} (hn:0<n) (r:Tm) (i:Nat):BW (SS dt n 56 [.fv r.enc,iv i] ⟨[],[]⟩) (r.pick i).enc:=by
 obtain ⟨n,rfl⟩:=Nat.exists_eq_add_of_lt hn;rw [Nat.zero_add,c56];obtain ⟨op,m,ks⟩:=r;rw [Ag];simp only [Tm.pick,Tm.kids,Tm.op,Tm.n];cases hk:ks[i]? with
 | some k =>
  have hi:(i:Int)<ks.length:=by have:=(List.getElem?_eq_some_iff.1 hk).1;omega
  obtain ⟨o,p,l⟩:=k;simp only [YK,YR,YM,Xf,S56,↓XX,XY,↓reduceIte,seval,hi,↓BS (AY hk) (BA _ _ _),↓CB,Ag];exact Aw _ _
 | none =>
  have hi:¬ (i:Int)<ks.length:=by have:=List.getElem?_eq_none_iff.1 hk;omega
  simp only [YK,YR,YM,Xf,S56,↓XX,XY,↓reduceIte,seval,hi,↓Akw (show (3:Int)≠0 by decide),↓Akw (show (5:Int)≠0 by decide)]
  exact Bl rfl _
section
variable {β:Type}
def Cq (s:Nat):IV->Bool
 | .ptr (.own j) _=>s == j
 | .slc (.own j) _ _=>s == j
 | .app (.own j) _=>s == j
 | .mapr (.own j)=>s == j
 | _=>false
def Gb:IV->Bool
 | .agg _ | .tuple _ | .func ..=>false
 | _=>true
def F8 (s:Nat):Blk->Bool
 | .row cells _=>cells.any (Cq s)
 | _=>false
def VN:Blk->Bool
 | .row cells _=>cells.all Gb
 | .tok ..=>true
 | .map _=>false
theorem Ai4 {v:IV} (h:Gb v=true) (s:Nat):(Ref.own s∈v.refs) ↔ Cq s v=true:=by
 cases v with
 | ptr r o=>cases r<;>simp [IV.refs,Cq]
 | slc r a b=>cases r<;>simp [IV.refs,Cq]
 | app r es=>cases r<;>simp [IV.refs,Cq]
 | mapr r=>cases r<;>simp [IV.refs,Cq]
 | agg _=>cases h
 | tuple _=>cases h
 | func _ _ _=>cases h
 | _=>simp [IV.refs,Cq]
theorem Ki:∀{l:List IV},l.all Gb=true->∀s,(Ref.own s∈IV.refs.refsL l) ↔ l.any (Cq s)=true
 | [],_,s=>by simp [IV.refs.refsL]
 | v::l,h,s=>by
  rw [List.all_cons,Bool.and_eq_true] at h;rw [IV.refs.refsL,List.mem_append,List.any_cons,Bool.or_eq_true,Ai4 h.1,Ki h.2]
theorem Ep {b:Blk} (h:VN b=true) (s:Nat):(Ref.own s∈b.refs) ↔ F8 s b=true:=by
 cases b with
 | row cells ro=>exact Ki h s
 | tok n sz=>simp [Blk.refs,F8]
 | map es=>cases h
theorem Ji (s:Nat):∀l:List Ref,anyIn [s] l=true ↔ Ref.own s∈l
 | []=>by simp [anyIn]
 | .own k::l=>by
  rw [anyIn,Bool.or_eq_true,Ji s l,List.mem_cons];simp [eq_comm]
 | .ext k::l=>by
  rw [anyIn,Ji s l,List.mem_cons];simp
def heldB (rm:List Nat) (vals:List IV) (own:List (Nat×Blk)) (ext:List Blk) (s:Nat):Bool :=
 vals.any (Cq s) || (own.any (fun p=>!rm.contains p.1 && F8 s p.2) || ext.any (F8 s))
def HY (rm:List Nat) (vals:List IV) (own:List (Nat×Blk)) (ext:List Blk):List (Nat×Blk):=own.filter fun p=>!rm.contains p.1 || heldB rm vals own ext p.1
def AV (rm:List Nat) (vals:List IV) (own:List (Nat×Blk)) (ext:List Blk):Bool :=
 vals.all Gb && (own.all (fun p=>VN p.2) && (ext.all VN && own.all fun p=>!rm.contains p.1 || rm.all fun s=>!F8 s p.2))
theorem W2 {rm:List Nat} {vals:List IV} {own:List (Nat×Blk)} {ext:List Blk} (hf:AV rm vals own ext=true) (s:Nat) :
  Ref.own s∈IV.refs.refsL vals++(own.filter fun p=>!rm.contains p.1).flatMap (fun p=>p.2.refs)++ext.flatMap Blk.refs ↔ heldB rm vals own ext s=true:=by
 simp only [AV,Bool.and_eq_true] at hf;obtain ⟨h1,h2,h3,_⟩:=hf;have e1:Ref.own s∈(own.filter fun p=>!rm.contains p.1).flatMap (fun p=>p.2.refs) ↔ (own.any fun p=>!rm.contains p.1 && F8 s p.2)=true:=by
  rw [List.mem_flatMap,List.any_eq_true];constructor
  ·rintro ⟨p,hp,hr⟩;obtain ⟨hp1,hp2⟩:=List.mem_filter.1 hp;exact ⟨p,hp1,by rw [hp2,(Ep (List.all_eq_true.1 h2 p hp1) s).1 hr];rfl⟩
  ·rintro ⟨p,hp,hr⟩;rw [Bool.and_eq_true] at hr;exact ⟨p,List.mem_filter.2 ⟨hp,hr.1⟩,(Ep (List.all_eq_true.1 h2 p hp) s).2 hr.2⟩
 have e2:Ref.own s∈ext.flatMap Blk.refs ↔ ext.any (F8 s)=true:=by
  rw [List.mem_flatMap,List.any_eq_true];constructor
  ·rintro ⟨p,hp,hr⟩;exact ⟨p,hp,(Ep (List.all_eq_true.1 h3 p hp) s).1 hr⟩
  ·rintro ⟨p,hp,hr⟩;exact ⟨p,hp,(Ep (List.all_eq_true.1 h3 p hp) s).2 hr⟩
 rw [List.mem_append,List.mem_append,Ki h1,e1,e2,heldB,Bool.or_eq_true,Bool.or_eq_true,or_assoc]
theorem AM {base rm:List Nat} {vals:List IV} {own:List (Nat×Blk)} {ext:List Blk} (hb:rm.any base.contains=false) (hf:AV rm vals own ext=true) (k:Hp->Option β) :
  BO base rm vals ⟨own,ext⟩ k=k ⟨HY rm vals own ext,ext⟩:=by
 have hm:=W2 hf;have hf0:=hf;simp only [AV,Bool.and_eq_true] at hf0;obtain ⟨g1,g2,g3,g4⟩:=hf0;unfold BO;rw [hb];simp only [cond_false];rw [Ng];cases ha:(own.all fun p=>!rm.contains p.1) with
 | true =>
  simp only [Bool.not_true,cond_false];congr 2
  symm
  apply List.filter_eq_self.2;intro p hp;rw [List.all_eq_true.1 ha p hp];rfl
 | false =>
  simp only [Bool.not_false,cond_true];have slow:(match CI base [] rm ⟨vals,⟨own,ext⟩⟩ with | none=>none | some S=>fH S.hp k)=k ⟨HY rm vals own ext,ext⟩:=by
   have hgone:(rm.filter fun k=>!anyIn [k] (IV.refs.refsL vals++(own.filter fun p=>!rm.contains p.1).flatMap (fun p=>p.2.refs)++ext.flatMap Blk.refs))=rm.filter fun s=>!heldB rm vals own ext s:=by
    apply List.filter_congr;intro s _;congr 1;exact Bool.eq_iff_iff.2 ((Ji s _).trans (hm s))
   have hown:(own.filter fun p=>!(rm.filter fun s=>!heldB rm vals own ext s).contains p.1)=HY rm vals own ext:=by
    apply List.filter_congr;intro p _;rw [Bool.eq_iff_iff];simp only [Bool.not_eq_true',Bool.or_eq_true,List.contains_eq_mem,decide_eq_false_iff_not,List.mem_filter];constructor
    ·intro h;by_cases h1:p.1∈rm
     ·right;cases hh:heldB rm vals own ext p.1 with
      | true=>rfl
      | false=>exact absurd ⟨h1,hh⟩ h
     ·exact .inl h1
    ·rintro (h | h) ⟨h1,h2⟩
     ·exact h h1
     ·rw [h] at h2;exact absurd h2 (by simp)
   simp only [CI,hb,Bool.false_eq_true,if_false,AZ,ha,hgone,hown];have hnone:anyIn (rm.filter fun s=>!heldB rm vals own ext s) (C1 ⟨vals,⟨HY rm vals own ext,ext⟩⟩)=false:=by
    apply Eu;intro s hs hmem;obtain ⟨hs1,hs2⟩:=List.mem_filter.1 hs;have hs2:heldB rm vals own ext s=false:=by simpa using hs2
    simp only [C1,List.mem_append] at hmem;rcases hmem with (hmem | hmem) | hmem
    ·have:=(hm s).1 (List.mem_append_left _ (List.mem_append_left _ hmem))
     rw [this] at hs2;cases hs2
    ·obtain ⟨p,hp,hr⟩:=List.mem_flatMap.1 hmem;have hp1:=(List.mem_filter.1 hp).1;have hn:=(Ep (List.all_eq_true.1 g2 p hp1) s).1 hr;have h4:=List.all_eq_true.1 g4 p hp1;cases hc:rm.contains p.1 with
     | true =>
      rw [hc] at h4;have h4:(rm.all fun s=>!F8 s p.2)=true:=h4;have h5:=List.all_eq_true.1 h4 s hs1;rw [hn] at h5;cases h5
     | false =>
      have:=(hm s).1 (List.mem_append_left _ (List.mem_append_right _ (List.mem_flatMap.2 ⟨p,List.mem_filter.2 ⟨hp1,by rw [hc];rfl⟩,hr⟩)))
      rw [this] at hs2;cases hs2
    ·have:=(hm s).1 (List.mem_append_right _ hmem)
     rw [this] at hs2;cases hs2
   simp only [hnone,Bool.false_eq_true,if_false,M0]
  cases hff:(and (FR rm (CF vals [])) (and (Ib rm own) (JJ rm ext))) with
  | false=>exact slow
  | true =>
   have hff:(FR rm (CF vals []) && (Ib rm own && JJ rm ext))=true:=hff;simp only [Bool.and_eq_true] at hff;simp only [Ij,cond_true];congr 2;apply List.filter_congr;intro p hp;cases hc:rm.contains p.1 with
   | false=>rfl
   | true =>
    have h1:=F7 hff.1;rw [refsDL_eq,List.append_nil] at h1;have h2:=Im hff.2.1;have h3:=PA hff.2.2
    have:heldB rm vals own ext p.1=false:=by
     cases hh:heldB rm vals own ext p.1 with
     | false=>rfl
     | true =>
      have:=(hm p.1).2 hh
      have hpm:p.1∈rm:=List.contains_iff_mem.1 hc;rcases List.mem_append.1 this with h | h
      ·rcases List.mem_append.1 h with h | h
       ·exact absurd h (h1 _ hpm)
       ·exact absurd h (h2 _ hpm)
      ·exact absurd h (h3 _ hpm)
    rw [this];rfl
end
section
variable (s j:Nat)
theorem AzG (rm:List Nat) (vals:List IV) (own:List (Nat×Blk)) (ext:List Blk):HY rm vals own ext=own.filter fun p=>!rm.contains p.1 || heldB rm vals own ext p.1:=rfl
theorem nv1 (o:Nat):Cq s (.ptr (.own j) o)=(s == j):=rfl
theorem nv2 (a b:Nat):Cq s (.slc (.own j) a b)=(s == j):=rfl
theorem nv3 (es:List FV):Cq s (.app (.own j) es)=(s == j):=rfl
theorem nv4 (v:FV):Cq s (.fv v)=false:=rfl
theorem nv5:Cq s .nils=false:=rfl
theorem nv6 (es:List FV):Cq s (.clip es)=false:=rfl
theorem nv7 (o:Nat):Cq s (.ptr (.ext j) o)=false:=rfl
theorem nv8:Cq s .dead=false:=rfl
theorem nb1 (cs:List IV) (ro:Bool):F8 s (.row cs ro)=cs.any (Cq s):=rfl
theorem nb2 (a b:Nat):F8 s (.tok a b)=false:=rfl
theorem AzU (r:Ref) (o:Nat):Gb (.ptr r o)=true:=rfl
theorem AzB (r:Ref) (a b:Nat):Gb (.slc r a b)=true:=rfl
theorem AzF (r:Ref) (es:List FV):Gb (.app r es)=true:=rfl
theorem Ay8 (v:FV):Gb (.fv v)=true:=rfl
theorem Aym:Gb .nils=true:=rfl
theorem AzS (es:List FV):Gb (.clip es)=true:=rfl
theorem AzO:Gb .dead=true:=rfl
theorem Ayy (cs:List IV) (ro:Bool):VN (.row cs ro)=cs.all Gb:=rfl
theorem fb_2 (a b:Nat):VN (.tok a b)=true:=rfl
end
def XD:=AB4 @AzG<|AB4 @nv1<|AB4 @nv2<|AB4 @nv3<|AB4 @nv4<|AB4 @nv5<|AB4 @nv6<|AB4 @nv7<|AB4 @nv8<|AB4 @nb1<|AB4 @nb2<|AB4 @AzU<|AB4 @AzB<|AB4 @AzF<|AB4 @Ay8<|AB4 @Aym<|AB4 @AzS<|AB4 @AzO<|AB4 @Ayy<|@fb_2
def Ae (op:Int) (i:Nat):Nat :=
 if op=3\/op=4\/op=6\/op=20\/op=28\/op=29 then (if i=1 then 1 else 0) else if op=13 then (if i=0 then 1 else if i=2 then 2 else 0) else 0
theorem Bo (op:Int) (i:Nat):Ae op i<=2:=by
 unfold Ae
 repeat' split
 all_goals omega
theorem F4 {n:Nat} (hn:0<n) (op:Int) (i:Nat):BW (SS dt n 54 [iv op,iv i] ⟨[],[]⟩) (.int .i64 (Ae op i)):=by
 obtain ⟨n,rfl⟩:=psc n (by omega);rw [c54];unfold Ae;by_cases h:op=3\/op=4\/op=6\/op=20\/op=28\/op=29
 ·rw [if_pos h];by_cases hi:i=1
  ·subst hi;rcases h with rfl | rfl | rfl | rfl | rfl | rfl<;>(simp only [↓UU3,↓XX,XY,↓reduceIte,seval];exact Aw _ _)
  ·have hi':¬ (i:Int)=1:=by omega
   rcases h with rfl | rfl | rfl | rfl | rfl | rfl<;>(simp only [↓UU3,↓XX,XY,↓reduceIte,seval,hi',hi];exact Aw _ _)
 ·rw [if_neg h];have h3:¬ op=3:=fun e=>h (by simp [e]);have h4:¬ op=4:=fun e=>h (by simp [e]);have h6:¬ op=6:=fun e=>h (by simp [e]);have h20:¬ op=20:=fun e=>h (by simp [e]);have h28:¬ op=28:=fun e=>h (by simp [e]);have h29:¬ op=29:=fun e=>h (by simp [e]);by_cases h13:op=13
  ·subst h13;by_cases hi:i=0
   ·subst hi;simp only [↓UU3,↓XX,XY,↓reduceIte,seval];exact Aw _ _
   ·have hi':¬ (i:Int)=0:=by omega
    by_cases hj:i=2
    ·subst hj;simp only [↓UU3,↓XX,XY,↓reduceIte,seval];exact Aw _ _
    ·have hj':¬ (i:Int)=2:=by omega
     simp only [↓UU3,↓XX,XY,↓reduceIte,seval,hi,hi',hj,hj'];exact Aw _ _
  ·simp only [↓UU3,↓XX,XY,↓reduceIte,seval,h3,h4,h6,h20,h28,h29,h13];exact Aw _ _
theorem Al8 {n:Nat} (hn:0<n) (x:Int):BW (SS dt n 25 [iv x] ⟨[],[]⟩) (Tm.mk 1 x []).enc:=by
 obtain ⟨n,rfl⟩:=psc n (by omega);rw [c25];simp only [S25,↓XX,XY,↓reduceIte,seval];exact Bl rfl _
theorem HX {n:Nat} (hn:0<n) (x:Int):BW (SS dt n 47 [iv x] ⟨[],[]⟩) (Tm.mk 2 x []).enc:=by
 obtain ⟨n,rfl⟩:=psc n (by omega);rw [c47];simp only [S47,↓XX,XY,↓reduceIte,seval];exact Bl rfl _
theorem Auj {n:Nat} (hn:0<n) (x:Int):BW (SS dt n 26 [iv x] ⟨[],[]⟩) (Tm.mk 25 x []).enc:=by
 obtain ⟨n,rfl⟩:=psc n (by omega);rw [c26];simp only [S26,↓XX,XY,↓reduceIte,seval];exact Bl rfl _
mutual
/-- No more than four kids anywhere. -/
def Tm.wk:Tm->Prop
 | .mk _ _ ks=>ks.length<=4/\Tm.wkL ks
def Tm.wkL:List Tm->Prop
 | []=>True
 | t::l=>t.wk/\Tm.wkL l
end
theorem Td {t:Tm}:∀{l:List Tm},Tm.wkL l->t∈l->t.wk
 | a::l,h,hm=>by
  rw [Tm.wkL] at h;rcases List.mem_cons.1 hm with rfl | hm
  ·exact h.1
  ·exact Td h.2 hm
mutual
def Tm.shift:Tm->Int->Int->Tm
 | .mk op n ks,d,c=>.mk op (if op=1/\c<=n then BM (n+d) else n) (Tm.shiftL op 0 ks d c)
def Tm.shiftL:Int->Nat->List Tm->Int->Int->List Tm
 | _,_,[],_,_=>[]
 | op,i,t::l,d,c=>t.shift d (c+Ae op i)::Tm.shiftL op (i+1) l d c
end
theorem Ew (op:Int) (d c:Int):∀(l:List Tm) (i:Nat),(Tm.shiftL op i l d c).length=l.length
 | [],_=>rfl
 | _::l,i=>by simp only [Tm.shiftL,AB9,Ew op d c l]
theorem P9 (op d c:Int):∀(l l':List Tm) (i:Nat),Tm.shiftL op i (l++l') d c=Tm.shiftL op i l d c++Tm.shiftL op (i+l.length) l' d c
 | [],l',i=>by simp [Tm.shiftL]
 | t::l,l',i=>by simp only [List.cons_append,Tm.shiftL,P9 op d c l l',AB9];congr 3;omega
theorem C0:∀(n:Nat) (t:Tm) (d c:Int),t.wt+1<n->t.wk->0<=c->c+2 * t.wt<=4611686018427387904->BW (SS dt n 45 [.fv t.enc,iv d,iv c] ⟨[],[]⟩) (t.shift d c).enc:=by
 intro n
 induction n with
 | zero=>intro t d c h;omega
 | succ n ih =>
  intro t d c h hw hc0 hc;obtain ⟨op,m,ks⟩:=t;simp only [Tm.wt] at h hc;rw [Tm.wk] at hw;rw [c45,Ag];have hlen:=Fj ks;have main:∀m',m'=(if op=1/\c<=m then BM (m+d) else m) ->
    BW (BQ n (fun q28 l29 h30=>IQ l29 h30 (SS dt n) ⟨[],[]⟩ q28) [iv d,iv c,.ptr (.own 47185920) 0,.ptr (.own 47185921) 0,.ptr (.own 47186949) 0,iv 0]
     ⟨[(47185920,.row [iv op,iv m,.fv (.sl (ks.map Tm.enc))] false),(47185921,.row [iv 0,iv 0,.nils] false),(47186949,.row [iv op,iv m',.nils] false)],[]⟩) ((Tm.mk op m ks).shift d c).enc:=by
   intro m' hm';refine Bd (Q:=fun r=>BW r _) (fun k V H=>∃pre rest,ks=pre++rest/\rest.length=k/\V=[iv d,iv c,.ptr (.own 47185920) 0,.ptr (.own 47185921) 0,.ptr (.own 47186949) 0,iv pre.length] /\
    (
     (pre=[]/\H=⟨[(47185920,.row [iv op,iv m,.fv (.sl (ks.map Tm.enc))] false),(47185921,.row [iv 0,iv 0,.nils] false),(47186949,.row [iv op,iv m',.nils] false)],[]⟩) \/
     (pre≠[]/\H=⟨[(47185920,.row [iv op,iv m,.fv (.sl (ks.map Tm.enc))] false),(47185921,.row [iv 0,iv 0,.nils] false),(47186949,.row [iv op,iv m',.app (.own 47193104) ((Tm.shiftL op 0 pre d c).map Tm.enc)] false),(47193104,.tok (Tm.shiftL op 0 pre d c).length 3)],[]⟩)))
    ?_ n ks.length _ _ (by omega) ⟨[],ks,rfl,rfl,rfl,.inl ⟨rfl,rfl⟩⟩
   rintro k V H rec ⟨pre,rest,hk,hl,rfl,hH⟩ hrec;have hkl:ks.length=pre.length+rest.length:=by rw [hk];simp
   cases rest with
   | nil =>
    have hno:¬ ((pre.length:Int)<ks.length):=by rw [hkl];simp
    have hpre:ks=pre:=by simpa using hk
    rcases hH with ⟨rfl,rfl⟩ | ⟨_,rfl⟩
    ·subst hpre;simp only [Gj,GJ,Gm,GD,GC,GO,GM,GR,IQ,GI,GQ,Gq,Gu,Gn,S45,↓XX,XY,↓reduceIte,seval,Int.lt_irrefl,Tm.shift,Tm.shiftL,<- hm',Ag];exact Bl rfl _
    ·subst hpre;simp only [Gj,GJ,Gm,GD,GC,GO,GM,GR,IQ,GI,GQ,Gq,Gu,Gn,S45,↓XX,XY,↓reduceIte,seval,Int.lt_irrefl,Tm.shift,<- hm',Ag];exact Bl rfl _
   | cons t rest =>
    have hi:(pre.length:Int)<ks.length:=by rw [hkl];simp;omega
    have hg:=Cr hk;have htw:=CT (t:=t) (l:=ks) (by rw [hk];simp);have hb:=F4 (n:=n) (by omega) op pre.length;have hble:=Bo op pre.length;have hs:=ih t d (c+Ae op pre.length) (by omega) (Td hw.2 (by rw [hk];simp)) (by omega) (by omega);have hx:Tm.shiftL op 0 (pre++[t]) d c=Tm.shiftL op 0 pre d c++[t.shift d (c+Ae op pre.length)]:=by
     rw [P9];simp [Tm.shiftL]
    have hwc:BM (c+Ae op pre.length)=c+Ae op pre.length:=by rw [Av]<;>omega
    have hwi:BM ((pre.length:Int)+1)=((pre++[t]).length:Int):=(Av (by omega) (by omega)).trans (by simp);generalize hu:t.shift d (c+Ae op pre.length)=u at hs hx;obtain ⟨o,p,l⟩:=t;simp only [AB9] at hl;rw [Ag] at hs;rcases hH with ⟨hp0,rfl⟩ | ⟨hne,rfl⟩
    ·simp only [Gj,GJ,Gm,GD,GC,GO,GM,GR,IQ,GI,GQ,Gq,Gu,Gn,S45,↓XX,XY,↓reduceIte,seval,hi,↓BS (AY hg) (BA _ _ _),↓CB,↓Ad hb,hwc,hwi,↓AA hs,↓Ko,↓UQ,↓AM,XD,heldB,AV,XE];refine hrec rest.length _ _ (by omega) ?_;refine ⟨pre++[.mk o p l],rest,by rw [hk];simp,rfl,rfl,.inr ⟨by simp,?_⟩⟩;rw [hx,hp0];rfl
    ·have hle:(Tm.shiftL op 0 pre d c).length+1<=1000000:=by rw [Ew];omega
     have hq:(Tm.shiftL op 0 pre d c).length=pre.length:=Ew ..;simp only [Gj,GJ,Gm,GD,GC,GO,GM,GR,IQ,GI,GQ,Gq,Gu,Gn,S45,↓XX,XY,↓reduceIte,seval,hi,↓BS (AY hg) (BA _ _ _),↓CB,↓Ad hb,hwc,hwi,↓AA hs,↓Ko,↓Of hle,↓HN,↓AM,XD,heldB,AV,XE];refine hrec rest.length _ _ (by omega) ?_;refine ⟨pre++[.mk o p l],rest,by rw [hk];simp,rfl,rfl,.inr ⟨by simp,?_⟩⟩;rw [hx];simp only [List.length_append,AB9,List.length_nil]
  by_cases h1:op=1
  ·by_cases h2:c<=m
   ·subst h1;simp only [Gj,GJ,Gm,GD,GC,GO,GM,GR,GI,GQ,Gq,Gu,Gn,S45,↓XX,XY,↓reduceIte,seval,h2,↓AM,XD,heldB,AV,XE];exact main _ (by simp [h2])
   ·subst h1;simp only [Gj,GJ,Gm,GD,GC,GO,GM,GR,GI,GQ,Gq,Gu,Gn,S45,↓XX,XY,↓reduceIte,seval,h2,↓AM,XD,heldB,AV,XE];exact main _ (by simp [h2])
  ·simp only [Gj,GJ,Gm,GD,GC,GO,GM,GR,GI,GQ,Gq,Gu,Gn,S45,↓XX,XY,↓reduceIte,seval,h1,↓AM,XD,heldB,AV,XE];exact main _ (by simp [h1])
mutual
def Tm.subst:Tm->Int->Int->Tm->Tm
 | .mk op m ks,n,d,u=>if op=1 then (if m=n then u.shift d 0 else if n<m then .mk 1 (BM (m - 1)) [] else .mk op m ks) else .mk op m (Tm.substL op 0 ks n d u)
def Tm.substL:Int->Nat->List Tm->Int->Int->Tm->List Tm
 | _,_,[],_,_,_=>[]
 | op,i,t::l,n,d,u=>t.subst (n+Ae op i) (d+Ae op i) u::Tm.substL op (i+1) l n d u
end
theorem Ht (op n d:Int) (u:Tm):∀(l:List Tm) (i:Nat),(Tm.substL op i l n d u).length=l.length
 | [],_=>rfl
 | _::l,i=>by simp only [Tm.substL,AB9,Ht op n d u l]
theorem PY (op n d:Int) (u:Tm):∀(l l':List Tm) (i:Nat),Tm.substL op i (l++l') n d u=Tm.substL op i l n d u++Tm.substL op (i+l.length) l' n d u
 | [],l',i=>by simp [Tm.substL]
 | t::l,l',i=>by simp only [List.cons_append,Tm.substL,PY op n d u l l',AB9];congr 3;omega
theorem Akz (u:Tm) (hu:u.wk) (huw:u.wt<=1152921504606846976):∀(n:Nat) (t:Tm) (c d:Int),t.wt+u.wt+3<n->t.wk->-1000000000<=c->c+2 * t.wt<=4611686018427387904->0<=d->d+2 * t.wt<=4611686018427387904 ->
  BW (SS dt n 90 [.fv t.enc,iv c,iv d,.fv u.enc] ⟨[],[]⟩) (t.subst c d u).enc:=by
 intro n
 induction n with
 | zero=>intro t c d h;omega
 | succ n ih =>
  intro t c d h hw hc0 hc hd0 hd;obtain ⟨op,m,ks⟩:=t;simp only [Tm.wt] at h hc hd;rw [Tm.wk] at hw;rw [c90,Ag];have hlen:=Fj ks;by_cases h1:op=1
  ·subst h1;have hsh:=C0 n u d 0 (by omega) hu (by omega) (by omega);rw [Tm.subst,if_pos rfl];generalize u.shift d 0=z at hsh ⊢;obtain ⟨uo,un,uk⟩:=u;obtain ⟨zo,zn,zk⟩:=z;rw [Ag] at hsh ⊢;by_cases h2:m=c
   ·subst h2;simp only [↓UU2,↓XX,XY,↓reduceIte,seval,↓AA hsh];simp only [↓UU2,↓XX,XY,↓reduceIte,seval,Ag];exact Bl rfl _
   ·by_cases h3:c<m
    ·simp only [↓UU2,↓XX,XY,↓reduceIte,seval,h2,h3,Ag];exact Bl rfl _
    ·simp only [↓UU2,↓XX,XY,↓reduceIte,seval,h2,h3,Ag];exact Bl rfl _
  ·have main :
    BW (BQ n (fun q l h=>Ju l h (SS dt n) ⟨[],[]⟩ q) [iv c,iv d,.ptr (.own 94371840) 0,.ptr (.own 94371841) 0,.ptr (.own 94371842) 0,.ptr (.own 94379013) 0,iv 0]
     ⟨[(94371840,.row [iv op,iv m,.fv (.sl (ks.map Tm.enc))] false),(94371841,.row [iv u.op,iv u.n,.fv (.sl (u.kids.map Tm.enc))] false),(94371842,.row [iv 0,iv 0,.nils] false),(94379013,.row [iv op,iv m,.nils] false)],[]⟩)
      (Tm.mk op m (Tm.substL op 0 ks c d u)).enc:=by
    refine Bd (Q:=fun r=>BW r _) (fun k V H=>∃pre rest,ks=pre++rest/\rest.length=k/\V=[iv c,iv d,.ptr (.own 94371840) 0,.ptr (.own 94371841) 0,.ptr (.own 94371842) 0,.ptr (.own 94379013) 0,iv pre.length] /\
     (
      (pre=[]/\H=⟨[(94371840,.row [iv op,iv m,.fv (.sl (ks.map Tm.enc))] false),(94371841,.row [iv u.op,iv u.n,.fv (.sl (u.kids.map Tm.enc))] false),(94371842,.row [iv 0,iv 0,.nils] false),(94379013,.row [iv op,iv m,.nils] false)],[]⟩) \/
      (
      pre≠[]/\H=⟨[(94371840,.row [iv op,iv m,.fv (.sl (ks.map Tm.enc))] false),(94371841,.row [iv u.op,iv u.n,.fv (.sl (u.kids.map Tm.enc))] false),(94371842,.row [iv 0,iv 0,.nils] false),
      (94379013,.row [iv op,iv m,.app (.own 94384144) ((Tm.substL op 0 pre c d u).map Tm.enc)] false),(94384144,.tok (Tm.substL op 0 pre c d u).length 3)],[]⟩)))
     ?_ n ks.length _ _ (by omega) ⟨[],ks,rfl,rfl,rfl,.inl ⟨rfl,rfl⟩⟩
    rintro k V H rec ⟨pre,rest,hk,hl,rfl,hH⟩ hrec;have hkl:ks.length=pre.length+rest.length:=by rw [hk];simp
    cases rest with
    | nil =>
     have hno:¬ ((pre.length:Int)<ks.length):=by rw [hkl];simp
     have hpre:ks=pre:=by simpa using hk
     rcases hH with ⟨rfl,rfl⟩ | ⟨_,rfl⟩
     ·subst hpre;simp only [Iw,Ix,I9,Jt,Jp,Jx,Js,Jn,IC,IS,Jq,IG,Jk,Ju,Jh,Jv,I7,S90,↓XX,XY,↓reduceIte,seval,Int.lt_irrefl,Tm.substL,Ag];exact Bl rfl _
     ·subst hpre;simp only [Iw,Ix,I9,Jt,Jp,Jx,Js,Jn,IC,IS,Jq,IG,Jk,Ju,Jh,Jv,I7,S90,↓XX,XY,↓reduceIte,seval,Int.lt_irrefl,Ag];exact Bl rfl _
    | cons t rest =>
     have hi:(pre.length:Int)<ks.length:=by rw [hkl];simp;omega
     have hg:=Cr hk;have htw:=CT (t:=t) (l:=ks) (by rw [hk];simp);have hb:=F4 (n:=n) (by omega) op pre.length;have hble:=Bo op pre.length;have hs:=ih t (c+Ae op pre.length) (d+Ae op pre.length) (by omega) (Td hw.2 (by rw [hk];simp)) (by omega) (by omega) (by omega) (by omega);have hx:Tm.substL op 0 (pre++[t]) c d u=Tm.substL op 0 pre c d u++[t.subst (c+Ae op pre.length) (d+Ae op pre.length) u]:=by
      rw [PY];simp [Tm.substL]
     have hwc:BM (c+Ae op pre.length)=c+Ae op pre.length:=by rw [Av]<;>omega
     have hwd:BM (d+Ae op pre.length)=d+Ae op pre.length:=by rw [Av]<;>omega
     have hwi:BM ((pre.length:Int)+1)=((pre++[t]).length:Int):=(Av (by omega) (by omega)).trans (by simp);generalize hv:t.subst (c+Ae op pre.length) (d+Ae op pre.length) u=v at hs hx;obtain ⟨o,p,l⟩:=t;simp only [AB9] at hl;have hue:u.enc=.agg [.int .i64 u.op,.int .i64 u.n,.sl (u.kids.map Tm.enc)]:=by cases u;exact Ag ..
     rw [Ag,hue] at hs;rcases hH with ⟨hp0,rfl⟩ | ⟨hne,rfl⟩
     ·simp only [Iw,Ix,I9,Jt,Jp,Jx,Js,Jn,IC,IS,Jq,IG,Jk,Ju,Jh,Jv,I7,S90,↓XX,XY,↓reduceIte,seval,hi,↓BS (AY hg) (BA _ _ _),↓CB,↓Ad hb,hwc,hwd,hwi,↓Au hs,↓Ko,↓UQ,↓AM,XD,heldB,AV,XE];refine hrec rest.length _ _ (by omega) ?_;refine ⟨pre++[.mk o p l],rest,by rw [hk];simp,rfl,rfl,.inr ⟨by simp,?_⟩⟩;rw [hx,hp0];rfl
     ·have hle:(Tm.substL op 0 pre c d u).length+1<=1000000:=by rw [Ht];omega
      simp only [Iw,Ix,I9,Jt,Jp,Jx,Js,Jn,IC,IS,Jq,IG,Jk,Ju,Jh,Jv,I7,S90,↓XX,XY,↓reduceIte,seval,hi,↓BS (AY hg) (BA _ _ _),↓CB,↓Ad hb,hwc,hwd,hwi,↓Au hs,↓Ko,↓Of hle,↓HN,↓AM,XD,heldB,AV,XE];refine hrec rest.length _ _ (by omega) ?_;refine ⟨pre++[.mk o p l],rest,by rw [hk];simp,rfl,rfl,.inr ⟨by simp,?_⟩⟩;rw [hx];simp only [List.length_append,AB9,List.length_nil]
   rw [Tm.subst,if_neg h1];obtain ⟨uo,un,uk⟩:=u;rw [Ag (op:=uo)];simp only [↓UU2,↓XX,XY,↓reduceIte,seval,h1,↓AM,XD,heldB,AV,XE];exact main
theorem PJ {n:Nat} (t u:Tm) (c:Int) (hu:u.wk) (huw:u.wt<=1152921504606846976) (h:t.wt+u.wt+4<n) (hw:t.wk) (hww:t.wt<=2305843009213693951) (h0:-1000000000<=c) (hc:c+2 * t.wt<=4611686018427387904) :
  BW (SS dt n 67 [.fv t.enc,iv c,.fv u.enc] ⟨[],[]⟩) (t.subst c 0 u).enc:=by
 obtain ⟨n,rfl⟩:=psc n (by omega);rw [c67];have hs:=Akz u hu huw n t c 0 (by omega) hw h0 hc (by omega) (by omega);generalize t.subst c 0 u=v at hs ⊢;obtain ⟨o1,n1,k1⟩:=t;obtain ⟨o2,n2,k2⟩:=u;obtain ⟨o3,n3,k3⟩:=v;simp only [Ag] at hs ⊢;simp only [AmR,S67,↓XX,XY,↓reduceIte,seval,↓Au hs];exact Bl rfl _
mutual
def Tm.free:Tm->Int->Bool
 | .mk op m ks,c=>if op=1 then decide (m=c) else Tm.freeL op 0 ks c
def Tm.freeL:Int->Nat->List Tm->Int->Bool
 | _,_,[],_=>false
 | op,i,t::l,c=>t.free (c+Ae op i) || Tm.freeL op (i+1) l c
end
theorem Aa6:∀(n:Nat) (t:Tm) (c:Int),t.wt+1<n->t.wt<=1152921504606846976->-1000000000<=c->c+2 * t.wt<=461168601842738->BW (SS dt n 107 [.fv t.enc,iv c] ⟨[],[]⟩) (.bool (t.free c)):=by
 intro n
 induction n with
 | zero=>intro t c h;omega
 | succ n ih =>
  intro t c h hw hc0 hc;obtain ⟨op,m,ks⟩:=t;simp only [Tm.wt] at h hw hc;rw [Ayw,Ag];have hlen:=Fj ks;by_cases h1:op=1
  ·subst h1;rw [Tm.free,if_pos rfl];simp only [Iz,IB,Jg,Jm,IZ,Vv,↓XX,XY,↓reduceIte,seval];exact Aw _ _
  ·rw [Tm.free,if_neg h1];simp only [Iz,IB,Jg,Jm,IZ,Vv,↓XX,XY,↓reduceIte,seval,h1];refine Bd (Q:=fun r=>BW r _) (fun k V H=>∃pre rest,ks=pre++rest/\rest.length=k/\V=[iv c,.ptr (.own 112197632) 0,iv pre.length]/\H=⟨[(112197632,.row [iv op,iv m,.fv (.sl (ks.map Tm.enc))] false)],[]⟩/\Tm.freeL op pre.length rest c=Tm.freeL op 0 ks c)
    ?_ n ks.length _ _ (by omega) ⟨[],ks,rfl,rfl,rfl,rfl,rfl⟩
   rintro k V H rec ⟨pre,rest,hk,hl,rfl,rfl,ht⟩ hrec;have hkl:ks.length=pre.length+rest.length:=by rw [hk];simp
   cases rest with
   | nil =>
    have hno:¬ ((pre.length:Int)<ks.length):=by rw [hkl];simp
    rw [<- ht];simp only [Iz,IB,Jg,Jm,IZ,NH,Vv,↓XX,XY,↓reduceIte,seval,hno,Tm.freeL];exact Aw _ _
   | cons t rest =>
    have hi:(pre.length:Int)<ks.length:=by rw [hkl];simp;omega
    have hg:=Cr hk;have htw:=CT (t:=t) (l:=ks) (by rw [hk];simp);have hb:=F4 (n:=n) (by omega) op pre.length;have hble:=Bo op pre.length;have hs:=ih t (c+Ae op pre.length) (by omega) (by omega) (by omega) (by omega);have hwc:BM (c+Ae op pre.length)=c+Ae op pre.length:=by rw [Av]<;>omega
    have hwi:BM ((pre.length:Int)+1)=((pre++[t]).length:Int):=(Av (by omega) (by omega)).trans (by simp);simp only [Tm.freeL] at ht;generalize t.free (c+Ae op pre.length)=v at hs ht;obtain ⟨o,p,l⟩:=t;simp only [AB9] at hl;rw [Ag] at hs;cases v
    ·simp only [Iz,IB,Jg,Jm,IZ,NH,Vv,↓XX,XY,↓reduceIte,seval,hi,↓BS (AY hg) (BA _ _ _),↓CB,↓Ad hb,hwc,hwi,↓Ad hs];refine hrec rest.length _ _ (by omega) ?_;exact ⟨pre++[.mk o p l],rest,by rw [hk];simp,rfl,rfl,rfl,by simpa using ht⟩
    ·rw [<- ht];simp only [Iz,IB,Jg,Jm,IZ,NH,Vv,↓XX,XY,↓reduceIte,seval,hi,↓BS (AY hg) (BA _ _ _),↓CB,↓Ad hb,hwc,hwi,↓Ad hs,Bool.true_or];exact Aw _ _
mutual
def Tm.same:Tm->Tm->Bool
 | .mk o n l,.mk o' n' l'=>decide (o=o') && (decide (n=n') && (decide (l.length=l'.length) && Tm.sameL l l'))
def Tm.sameL:List Tm->List Tm->Bool
 | a::l,b::l'=>a.same b && Tm.sameL l l'
 | _,_=>true
end
mutual
theorem Kt:∀a b:Tm,a.same b=true ↔ a=b
 | .mk o n l,.mk o' n' l'=>by
  simp only [Tm.same,Bool.and_eq_true,decide_eq_true_eq,Tm.mk.injEq];constructor
  ·rintro ⟨rfl,rfl,h1,h2⟩;exact ⟨rfl,rfl,(sameL_eq l l' h1).1 h2⟩
  ·rintro ⟨rfl,rfl,rfl⟩;exact ⟨rfl,rfl,rfl,(sameL_eq l l rfl).2 rfl⟩
theorem sameL_eq:∀l l':List Tm,l.length=l'.length->(Tm.sameL l l'=true ↔ l=l')
 | [],[],_=>by simp [Tm.sameL]
 | a::l,b::l',h=>by
  simp only [Tm.sameL,Bool.and_eq_true,List.cons.injEq,Kt a b,sameL_eq l l' (by simpa using h)]
end
theorem I8:∀(n:Nat) (a b:Tm),a.wt+1<n->a.wt<=1152921504606846976->BW (SS dt n 17 [.fv a.enc,.fv b.enc] ⟨[],[]⟩) (.bool (a.same b)):=by
 intro n
 induction n with
 | zero=>intro a b h;omega
 | succ n ih =>
  intro a b h hw;obtain ⟨op,m,ks⟩:=a;obtain ⟨op',m',ks'⟩:=b;simp only [Tm.wt] at h hw;rw [c17,Ag,Ag];have hlen:=Fj ks;rw [Tm.same];by_cases h1:op=op'
  ·by_cases h2:m=m'
   ·by_cases h3:ks.length=ks'.length
    ·have h3':(ks.length:Int)=ks'.length:=by omega
     subst h1 h2;simp only [Gp,Gz,Gw,Gk,GP,GL,Gl,Gs,Gv,S17,↓XX,XY,↓reduceIte,seval,h3,h3',Tm.same];refine Bd (Q:=fun r=>BW r _) (fun k V H=>∃pre rest pre' rest',ks=pre++rest/\ks'=pre'++rest'/\pre.length=pre'.length/\rest.length=k/\V=[.ptr (.own 17825792) 0,.ptr (.own 17825793) 0,iv pre.length] /\
      H=⟨[(17825792,.row [iv op,iv m,.fv (.sl (ks.map Tm.enc))] false),(17825793,.row [iv op,iv m,.fv (.sl (ks'.map Tm.enc))] false)],[]⟩/\Tm.sameL rest rest'=Tm.sameL ks ks')
      ?_ n ks.length _ _ (by omega) ⟨[],ks,[],ks',rfl,rfl,rfl,rfl,rfl,rfl,rfl⟩
     rintro k V H rec ⟨pre,rest,pre',rest',hk,hk',hpl,hl,rfl,rfl,ht⟩ hrec;have hkl:ks.length=pre.length+rest.length:=by rw [hk];simp
     have hkl':ks'.length=pre'.length+rest'.length:=by rw [hk'];simp
     cases rest with
     | nil =>
      have hno:¬ ((pre.length:Int)<ks.length):=by rw [hkl];simp
      rw [<- ht];simp only [Gp,Gz,Gw,Gk,GP,Oe,GL,Gl,Gs,Gv,S17,↓XX,XY,↓reduceIte,seval,hno,Tm.sameL];exact Aw _ _
     | cons t rest =>
      cases rest' with
      | nil=>simp at hkl hkl';omega
      | cons t' rest' =>
       have hi:(pre.length:Int)<ks.length:=by rw [hkl];simp;omega
       have hg:=Cr hk;have hg':=Cr hk';rw [<- hpl] at hg';have htw:=CT (t:=t) (l:=ks) (by rw [hk];simp);have hs:=ih t t' (by omega) (by omega);have hwi:BM ((pre.length:Int)+1)=((pre++[t]).length:Int):=(Av (by omega) (by omega)).trans (by simp);simp only [Tm.sameL] at ht;generalize t.same t'=v at hs ht;obtain ⟨o,p,l⟩:=t;obtain ⟨o',p',l'⟩:=t';simp only [AB9] at hl;rw [Ag,Ag] at hs;cases v
       ·rw [<- ht];simp only [Gp,Gz,Gw,Gk,GP,Oe,GL,Gl,Gs,Gv,S17,↓XX,XY,↓reduceIte,seval,hi,↓BS (AY hg) (BA _ _ _),↓BS (AY hg') (BA _ _ _),↓CB,↓Ad hs,Bool.false_and];exact Aw _ _
       ·simp only [Gp,Gz,Gw,Gk,GP,Oe,GL,Gl,Gs,Gv,S17,↓XX,XY,↓reduceIte,seval,hi,↓BS (AY hg) (BA _ _ _),↓BS (AY hg') (BA _ _ _),↓CB,hwi,↓Ad hs];refine hrec rest.length _ _ (by omega) ?_;exact ⟨pre++[.mk o p l],rest,pre'++[.mk o' p' l'],rest',by rw [hk];simp,by rw [hk'];simp,by simp [hpl],rfl,rfl,rfl,by simpa using ht⟩
    ·have h3':¬ (ks.length:Int)=ks'.length:=by omega
     simp only [Gp,Gz,Gw,Gk,GP,GL,Gl,Gs,Gv,S17,↓XX,XY,↓reduceIte,seval,h1,h2,h3,h3'];exact Aw _ _
   ·simp only [Gp,Gz,Gw,Gk,GP,GL,Gl,Gs,Gv,S17,↓XX,XY,↓reduceIte,seval,h1,h2];exact Aw _ _
  ·simp only [Gp,Gz,Gw,Gk,GP,GL,Gl,Gs,Gv,S17,↓XX,XY,↓reduceIte,seval,h1];exact Aw _ _
def ApW (o p:Int) (l:List Tm) (s:Nat) (h:Hp) (k:KT (IV×Hp)):Ay (Aj EE 28 1 [(0,.fv (.agg [.int .i64 o,.int .i64 p,.sl (l.map Tm.enc)]))]) s h k=k (.clip [.agg [.int .i64 o,.int .i64 p,.sl (l.map Tm.enc)]]) h [] []:=by
 have:=Ko (.mk o p l) s h k
 rw [Ag] at this;exact this
def TB (o:Option (IV×Hp)):Bool:=match o with
 | some (.fv (.bool b),⟨_,[]⟩)=>b
 | _=>false
def Aji {o:Option (IV×Hp)} (h:TB o=true):BW o (.bool true):=by
 unfold TB at h;split at h
 ·subst h;exact Aw _ _
 ·cases h
def Cc (o1 n1 o2 n2:Int) (k1 k2:List FV) (s:Nat) (h:Hp) (k:KT (IV×Hp)):Ay (Aj EE 28 2 [(0,.fv (.agg [.int .i64 o1,.int .i64 n1,.sl k1])),(1,.fv (.agg [.int .i64 o2,.int .i64 n2,.sl k2]))]) s h k =
  k (.clip [.agg [.int .i64 o1,.int .i64 n1,.sl k1],.agg [.int .i64 o2,.int .i64 n2,.sl k2]]) h [] []:=CD QS tTm (by decide) (cells:=[.int .i64 o1,.int .i64 n1,.sl k1,.int .i64 o2,.int .i64 n2,.sl k2]) rfl k
def LA (o1 n1 o2 n2 o3 n3:Int) (k1 k2 k3:List FV) (s:Nat) (h:Hp) (k:KT (IV×Hp)):Ay (Aj EE 28 3 [(0,.fv (.agg [.int .i64 o1,.int .i64 n1,.sl k1])),(1,.fv (.agg [.int .i64 o2,.int .i64 n2,.sl k2])),(2,.fv (.agg [.int .i64 o3,.int .i64 n3,.sl k3]))]) s h k =
  k (.clip [.agg [.int .i64 o1,.int .i64 n1,.sl k1],.agg [.int .i64 o2,.int .i64 n2,.sl k2],.agg [.int .i64 o3,.int .i64 n3,.sl k3]]) h [] []:=CD QS tTm (by decide) (cells:=[.int .i64 o1,.int .i64 n1,.sl k1,.int .i64 o2,.int .i64 n2,.sl k2,.int .i64 o3,.int .i64 n3,.sl k3]) rfl k
def AwL (o1 n1 o2 n2 o3 n3 o4 n4:Int) (k1 k2 k3 k4:List FV) (s:Nat) (h:Hp) (k:KT (IV×Hp)):Ay (Aj EE 28 4 [(0,.fv (.agg [.int .i64 o1,.int .i64 n1,.sl k1])),(1,.fv (.agg [.int .i64 o2,.int .i64 n2,.sl k2])),(2,.fv (.agg [.int .i64 o3,.int .i64 n3,.sl k3])),(3,.fv (.agg [.int .i64 o4,.int .i64 n4,.sl k4]))]) s h k =
  k (.clip [.agg [.int .i64 o1,.int .i64 n1,.sl k1],.agg [.int .i64 o2,.int .i64 n2,.sl k2],.agg [.int .i64 o3,.int .i64 n3,.sl k3],.agg [.int .i64 o4,.int .i64 n4,.sl k4]]) h [] []:=CD QS tTm (by decide) (cells:=[.int .i64 o1,.int .i64 n1,.sl k1,.int .i64 o2,.int .i64 n2,.sl k2,.int .i64 o3,.int .i64 n3,.sl k3,.int .i64 o4,.int .i64 n4,.sl k4]) rfl k
def De (o1 n1:Int) (k1:List FV) (s:Nat) (h:Hp) (k:KT (IV×Hp)):Ay (Aj EE 28 1 [(0,.fv (.agg [.int .i64 o1,.int .i64 n1,.sl k1]))]) s h k =
  k (.clip [.agg [.int .i64 o1,.int .i64 n1,.sl k1]]) h [] []:=CD QS tTm (by decide) (cells:=[.int .i64 o1,.int .i64 n1,.sl k1]) rfl k
def An1 (r:Option (IV×Hp)) (v:FV):Prop:=∃own,r=some (.fv v,⟨own,[]⟩)
def QJ {v:FV} {own:List (Nat×Blk)}:An1 (some (.fv v,⟨own,[]⟩)) v:=⟨own,rfl⟩
def HH:Nat->Tm
 | 0=>.mk 11 0 []
 | n+1=>.mk 12 0 [HH n]
def Aw9 {g:FuncId} (h:EE.pol.inl g=false) (h1:EE.pol.keep g=[]) (h2:EE.pol.split g=false) (h3:EE.pol.raw g=false) (ih:Al) (xs:List IV) (h0:Hp) (k:KT (IV×Hp)) :
  FW EE ih (.fv (.func (.func g) [] [])) xs h0 k=A4 [] false false ih g xs h0 k:=by
 unfold FW;simp only [callee,h,cond_false,Ama,h1,h2,h3,ACa,List.nil_append,List.append_nil]
theorem ArS {n:Nat} (k:Nat) (hn:k+3<n) (hk:k<=1000000):BW (SS dt n 27 [iv k] ⟨[],[]⟩) (HH k).enc:=by
 obtain ⟨n,rfl⟩:∃j,n=j+1:=⟨n - 1,by omega⟩;rw [c27];have h0:=AO (n:=n) (by omega) 11;rw [Ag] at h0;simp only [S5,Vg,UV,S27,↓XX,XY,↓reduceIte,seval,↓Ad h0];refine Bd (Q:=fun r=>BW r _) (fun j V H=>∃(i:Nat),i+j=k/\V=[iv k,.ptr (.own 28311552) 0,.ptr (.own 28312577) 0,iv i] /\
   H=⟨[(28311552,.row [iv 0,iv 0,.nils] false),(28312577,.row [iv (HH i).op,iv (HH i).n,.fv (.sl ((HH i).kids.map Tm.enc))] false)],[]⟩) ?_ n k _ _ (by omega) ⟨0,by omega,rfl,rfl⟩
 rintro j V H rec ⟨i,hi,rfl,rfl⟩ hrec;cases j with
 | zero =>
  have:i=k:=by omega
  subst this;have hno:¬ ((i:Int)<i):=by omega
  generalize HH i=t;obtain ⟨o,p,l⟩:=t;rw [Ag];simp only [S5,Vg,UV,YS,S27,↓XX,XY,↓reduceIte,seval,hno,Tm.op,Tm.n,Tm.kids];exact Aw _ _
 | succ j =>
  have hlt:(i:Int)<k:=by omega
  have hw:BM ((i:Int)+1)=((i+1:Nat):Int):=(Av (by omega) (by omega)).trans (by simp);have ht:=Cx (n:=n) (by omega) 12 [HH i];have h9:=hrec j ([iv k,.ptr (.own 28311552) 0,.ptr (.own 28312577) 0,iv (i+1:Nat)]) (⟨[(28311552,.row [iv 0,iv 0,.nils] false),(28312577,.row [iv 12,iv 0,.fv (.sl ([HH i].map Tm.enc))] false)],[]⟩) (by omega) ⟨i+1,by omega,rfl,rfl⟩;generalize HH i=t at *;obtain ⟨o,p,l⟩:=t;simp only [ACb,ACa,Ag] at ht h9;simp only [S5,Vg,UV,YS,S27,↓XX,XY,↓reduceIte,seval,hlt,Tm.op,Tm.n,Tm.kids,↓ApW,↓Ad ht,hw];exact h9
theorem Wt:∀(n:Nat) (t:Tm),t.wt<n->t.wt<=1152921504606846976->BW (SS dt n 31 [.fv t.enc] ⟨[],[]⟩) (.int .i64 t.wt):=by
 intro n
 induction n with
 | zero=>intro t h;omega
 | succ n ih =>
  intro t h hw;obtain ⟨op,m,ks⟩:=t;simp only [Tm.wt] at h hw ⊢;rw [c31,Ag];have hlen:=Fj ks;simp only [Ue,Up,RN,S31,↓XX,XY,↓reduceIte,seval];refine Bd (Q:=fun r=>BW r _) (fun k V H=>∃(pre rest:List Tm) (acc:Nat),ks=pre++rest/\rest.length=k/\V=[.ptr (.own 32505856) 0,iv acc,iv pre.length]/\H=⟨[(32505856,.row [iv op,iv m,.fv (.sl (ks.map Tm.enc))] false)],[]⟩/\acc+Tm.wtL rest=1+Tm.wtL ks)
   ?_ n ks.length _ _ (by omega) ⟨[],ks,1,rfl,rfl,rfl,rfl,rfl⟩
  rintro k V H rec ⟨pre,rest,acc,hk,hl,rfl,rfl,ht⟩ hrec;have hkl:ks.length=pre.length+rest.length:=by rw [hk];simp
  cases rest with
  | nil =>
   have hno:¬ ((pre.length:Int)<ks.length):=by rw [hkl];simp
   simp only [Tm.wtL] at ht;rw [<- ht];simp only [Ue,Up,RN,XO,S31,↓XX,XY,↓reduceIte,seval,hno];exact Aw _ _
  | cons t rest =>
   have hi:(pre.length:Int)<ks.length:=by rw [hkl];simp;omega
   have hg:=Cr hk;have htw:=CT (t:=t) (l:=ks) (by rw [hk];simp);have hs:=ih t (by omega) (by omega);simp only [Tm.wtL] at ht;have hwi:BM ((pre.length:Int)+1)=((pre++[t]).length:Int):=(Av (by omega) (by omega)).trans (by simp);have hwa:BM ((acc:Int)+(t.wt:Int))=((acc+t.wt:Nat):Int):=(Av (by omega) (by omega)).trans (by simp);have h9:=hrec rest.length ([.ptr (.own 32505856) 0,iv (acc+t.wt:Nat),iv (pre++[t]).length]) _ (by simp only [AB9] at hl;omega) ⟨pre++[t],rest,acc+t.wt,by rw [hk];simp,rfl,rfl,rfl,by omega⟩;generalize t.wt=v at hs hwa h9;obtain ⟨o,p,l⟩:=t;rw [Ag] at hs;simp only [Ue,Up,RN,XO,S31,↓XX,XY,↓reduceIte,seval,hi,↓BS (AY hg) (BA _ _ _),↓CB,↓Ap hs,hwi,hwa];exact h9
def U7 (n:Nat):TB (SS dt (n+60) 11 [] ⟨[],[]⟩)=true:=by kernel_rfl
def V3 {n:Nat} (h:60<=n):BW (SS dt n 11 [] ⟨[],[]⟩) (.bool true):=by
 obtain ⟨k,rfl⟩:∃k,n=k+60:=⟨n - 60,by omega⟩;exact Aji (U7 k)
section
variable {β:Type} {E:Env}
def ArG (cs:List IV) (k:List FV->Option β):Option β:=(Di cs).bind k
theorem AnN {t e:TypeId} {a b:Nat} {ei:TI} {z:List IV} (hT:E.T t=some ⟨a,b,.slice e,z⟩) (he:E.T e=some ei) (hs:ei.size=1) (hz:∃x,ei.zero=[x]) (r s:Nat) (own:List (Nat×Blk)) (ext:List Blk)
  (hc:∀cells ro,An r own=some (.row cells ro)->cells.length<=100) (hk:∀cells ro,An r own=some (.row cells ro)->∃fc,Di cells=some fc) (k:KT β) :
  Ay (Aj E t 1 [(0,.ptr (.own r) 0)]) s ⟨own,ext⟩ k=GV own r fun bl=>Ek bl fun cells=>ArG cells fun fc=>A9 own r (.row cells true) fun own=>k (.clip [.fp fc 0]) ⟨own,ext⟩ [.own r] [.own r]:=by
 obtain ⟨x,hx⟩:=hz;have hm:Aj E t 1 [(0,.ptr (.own r) 0)]=(frzL (65534+1+1) [.ptr (.own r) 0]).bind fun (vs,u)=>.ret { eff:={ val:=.clip (B3 ei.size 1 vs),upd:=u } }:=by
  have h1:¬ (ei.size=0\/1 * ei.size > 65536):=by rw [hs];omega
  have h2:CH (fun j=>some (j * ei.size,ei.size)) (QN 1 ei.zero) [(0,.ptr (.own r) 0)]=some [.ptr (.own r) 0]:=by
   rw [hx,hs];rfl
  simp only [Aj,hT,he,if_neg h1,h2]
 rw [hm,BL];unfold Ay;cases hl:An r own with
 | none =>
  have:((frzL (65534+1+1) [.ptr (.own r) 0]).bind fun (vs,u)=>Rd.ret ({ eff:={ val:=.clip (B3 ei.size 1 vs),upd:=u } }:Made)).runLog ⟨own,ext⟩ []=none:=by
   simp only [frzL,C6,Rd.bind,Rd.runLog,Hp.get,hl]
  rw [this];rfl
 | some bl =>
  cases bl with
  | row cells ro =>
   obtain ⟨fc,hfc⟩:=hk cells ro hl;have hlen:=hc cells ro hl;have h3:frzL 65534 cells=.ret (fc,[]):=Acu cells 65534 (by omega) hfc
   have:((frzL (65534+1+1) [.ptr (.own r) 0]).bind fun (vs,u)=>Rd.ret ({ eff:={ val:=.clip (B3 ei.size 1 vs),upd:=u } }:Made)).runLog ⟨own,ext⟩ [] =
     some ({ eff:={ val:=.clip (B3 ei.size 1 [.fp fc 0]),upd:=[(.own r,.row cells true)] } },[.own r]):=by
    simp only [frzL,C6,Rd.bind,Rd.runLog,Hp.get,hl,h3,List.append_nil]
   rw [this];simp only [Option.bind_some,Ek,ArG,hfc,hs]
   show (fRf (.own r) fun q=>Dk q ⟨own,ext⟩ fun _=>fBk (.row cells true) fun b=>Gi q b ⟨own,ext⟩ fun h=>J1 none s h fun h=>fV 3 (.clip [.fp fc 0]) fun v=>k v h [.own r] ([.own r]++[]))=_
   simp only [Qb,CY,Cw,J1,Gi,Dk];rw [BL,hl];rfl
  | tok n sz =>
   have:((frzL (65534+1+1) [.ptr (.own r) 0]).bind fun (vs,u)=>Rd.ret ({ eff:={ val:=.clip (B3 ei.size 1 vs),upd:=u } }:Made)).runLog ⟨own,ext⟩ []=none:=by
    simp only [frzL,C6,Rd.bind,Rd.runLog,Hp.get,hl]
   rw [this];rfl
  | map es =>
   have:((frzL (65534+1+1) [.ptr (.own r) 0]).bind fun (vs,u)=>Rd.ret ({ eff:={ val:=.clip (B3 ei.size 1 vs),upd:=u } }:Made)).runLog ⟨own,ext⟩ []=none:=by
    simp only [frzL,C6,Rd.bind,Rd.runLog,Hp.get,hl]
   rw [this];rfl
theorem Avk {t e:TypeId} {a b:Nat} {ei:TI} {z:List IV} (hT:E.T t=some ⟨a,b,.slice e,z⟩) (he:E.T e=some ei) (hs:ei.size=1) (hz:∃x,ei.zero=[x]) {r:Nat} {own own':List (Nat×Blk)} {cells:List IV} {ro:Bool} {fc:List FV}
  (hl:An r own=some (.row cells ro)) (hf:Di cells=some fc) (hn:cells.length<=100) (ho:AP r (.row cells true) own=own') (s:Nat) (ext:List Blk) (k:KT β) :
  Ay (Aj E t 1 [(0,.ptr (.own r) 0)]) s ⟨own,ext⟩ k=k (.clip [.fp fc 0]) ⟨own',ext⟩ [.own r] [.own r]:=by
 have h1:∀cells' ro',An r own=some (.row cells' ro')->cells'=cells:=fun c r h=>by rw [hl] at h;cases h;rfl
 rw [AnN hT he hs hz r s own ext (fun c r h=>by rw [h1 c r h];exact hn) (fun c r h=>by rw [h1 c r h];exact ⟨fc,hf⟩),BL,hl];simp only [Option.bind_some,Ek,ArG,hf,Ce,ho]
def Bq (r:Option (IV×Hp)) (w:FV) (ext:List Blk):Prop:=∃v own,r=some (v,⟨own,ext⟩) /\
 ∃u lg,∀(e:Option (IV×Hp)) (K:FV->List (Ref×Blk)->List Ref->Option (IV×Hp)),Fh 12 v ⟨own,ext⟩ [] e K=K w u lg
theorem AG (w:FV) (own:List (Nat×Blk)) (ext:List Blk):Bq (some (.fv w,⟨own,ext⟩)) w ext:=⟨_,own,rfl,[],[],fun _ _=>rfl⟩
theorem Ff {v:IV} {w:FV} (hz:Bg v=some w) (own:List (Nat×Blk)) (ext:List Blk):Bq (some (v,⟨own,ext⟩)) w ext:=⟨_,own,rfl,[],[],fun e K=>KO _ _ e K hz⟩
theorem Mc:∀l:List FV,CF (l.map .fv) []=[]
 | []=>rfl
 | v::l=>by
  show Wu (.fv v) (CF (l.map .fv) [])=[]
  rw [Mc l];rfl
theorem Axc (n j:Nat) (t:List Ref) (s:Nat) (rest:List Blk):Qz (n+1) (.ext j::t) s rest=cond (Nat.ble (Nat.succ j) s) (Qz n t s rest) (cond (Nat.beq j s) (goR (Qz n) t s rest) false):=rfl
theorem AvZ (n s:Nat):Qz (n+1) [] s []=true:=rfl
theorem Si (st:List FV):Qz 400 [.ext 0] 0 [.row (st.map .fv) false]=true:=by
 rw [show (400:Nat)=398+1+1 from rfl,Axc]
 show goR (Qz (398+1)) [] 0 [.row (st.map .fv) false]=true
 show Qz (398+1) ([]++Fm (.row (st.map .fv) false)) 1 []=true
 rw [show Fm (.row (st.map .fv) false)=CF (st.map .fv) [] from rfl,Mc]
 exact AvZ 398 1
theorem UI (st:List FV):okB 1 [.row (st.map .fv) false]=true:=by
 show cond (okR 1 (Fm (.row (st.map .fv) false))) true false=true
 rw [show Fm (.row (st.map .fv) false)=CF (st.map .fv) [] from rfl,Mc]
 rfl
theorem gb3 (a b c:FV):Qz 400 [.ext 0] 0 [.row [.fv a,.fv b,.fv c] false]=true:=Si [a,b,c]
theorem ob3 (a b c:FV):okB 1 [.row [.fv a,.fv b,.fv c] false]=true:=UI [a,b,c]
theorem gb2 (a b:FV):Qz 400 [.ext 0] 0 [.row [.fv a,.fv b] false]=true:=Si [a,b]
theorem ob2 (a b:FV):okB 1 [.row [.fv a,.fv b] false]=true:=UI [a,b]
theorem Ud {r1:Ref} {rs1:List Ref} {ih:Al} {f:FuncId} {vs:List IV} {w:FV} {ext ext':List Blk} (hr:Bq (ih f vs ⟨[],ext⟩) w ext') (hg:Qz 400 (r1::rs1) 0 ext=true) (hl:ext'.length=ext.length) (ho:okB ext.length ext'=true)
  (own:List (Nat×Blk)) (r0:Option (IV×Hp)) (u:List (Ref×Blk)) (lg:List Ref) (e:Option (IV×Hp)) (k:KT (IV×Hp)) :
  TD (
     r1::rs1) r0 ⟨own,ext⟩ u lg e (fun rs=>match rs with
   | []=>none
   | r::rs=>(match (⟨own,ext⟩:Hp) with
    | ⟨own,ext⟩=>cond (Qz 400 (r::rs) 0 ext) (match ih f vs ⟨[],ext⟩ with
     | none=>none
     | some p=>match p with
      | (v,h')=>match h' with
       | ⟨own',ext'⟩=>cond (and (Nat.beq ext'.length ext.length) (okB ext.length ext'))
        (Fh 12 v ⟨own',ext'⟩ [] e fun w _ _=>Mt u ⟨own,ext'⟩ fun h2=>k (.fv w) h2 ((CU ext.length).reverse++lg) (Bx u++CU ext.length)) none)
     e)) k=Mt u ⟨own,ext'⟩ fun h2=>k (.fv w) h2 ((CU ext.length).reverse++lg) (Bx u++CU ext.length):=by
 obtain ⟨v,own',e1,u',lg',hz⟩:=hr;simp only [TD,hg,e1,hl,ho];rw [show (Nat.beq ext.length ext.length && true)=true by rw [Bool.and_true];exact Nat.beq_refl _,cond_true,hz]
 rfl
structure OneX (ext ext':List Blk):Prop where
 g:Qz 400 [.ext 0] 0 ext=true
 l:ext.length=1
 l':ext'.length=1
 o:okB 1 ext'=true
theorem Cu (a b c a' b' c':FV):OneX [.row [.fv a,.fv b,.fv c] false] [.row [.fv a',.fv b',.fv c'] false]:=⟨gb3 ..,rfl,rfl,ob3 ..⟩
theorem AwG (a b a' b':FV):OneX [.row [.fv a,.fv b] false] [.row [.fv a',.fv b'] false]:=⟨gb2 ..,rfl,rfl,ob2 ..⟩
theorem O8 (x:Nat):∀(args:List IV) {vs:List FV} (h:Hp) (lg:List Ref) (e:Option β) (k:List IV->List Ref->List (Ref×Blk)->List Ref->Option β) (ks:List Bool),(∀b∈ks,b=false)->BK args=some vs ->
  W5 args ks h lg e k=k (vs.map .fv) [] [] lg
 | [],vs,h,lg,e,k,ks,_,hz=>by cases hz;rfl
 | v::l,vs,h,lg,e,k,[],_,hz=>Amu (v::l) h lg e k hz
 | v::l,vs,h,lg,e,k,b::ks,hk,hz=>by
  have hb:=hk b List.mem_cons_self;subst hb;simp only [BK] at hz;cases h1:Bg v with
  | none=>rw [h1] at hz;cases hz
  | some x' =>
   rw [h1] at hz;cases h2:BK l with
   | none=>rw [h2] at hz;cases hz
   | some ys =>
    rw [h2] at hz;cases hz;rw [Vh,KO h lg e _ h1,O8 x l h lg e _ ks (fun c hc=>hk c (List.mem_cons_of_mem _ hc)) h2];rfl
theorem AmP {ks:List Bool} (hks:∀b∈ks,b=false) {ih:Al} {f:FuncId} {args:List IV} {vs:List FV} {w:FV} {ext ext':List Blk} (hz:BK args=some vs) (X:OneX ext ext') (hr:Bq (ih f (.ptr (.ext 0) 0::vs.map .fv) ⟨[],ext⟩) w ext')
  (own:List (Nat×Blk)) (k:KT (IV×Hp)):A4 (true::ks) false false ih f (.ptr (.ext 0) 0::args) ⟨own,ext⟩ k=k (.fv w) ⟨own,ext'⟩ [.ext 0] [.ext 0]:=by
 rw [Kx,XC,SN,O8 0 args _ _ _ _ ks hks hz]
 have:=Ud (r1:=.ext 0) (rs1:=[]) hr X.g (by rw [X.l,X.l']) (by rw [X.l];exact X.o) own (ih f (.ptr (.ext 0) 0::vs.map .fv) ⟨[],[]⟩) [] [] (Fx (true::ks) false false ih f (.ptr (.ext 0) 0::args) ⟨own,ext⟩ k) k
 refine this.trans ?_;rw [X.l];rfl
theorem D9 {ih:Al} {f:FuncId} {w:FV} {ext ext':List Blk} (hr:Bq (ih f [.ptr (.ext 0) 0] ⟨[],ext⟩) w ext') (X:OneX ext ext') (own:List (Nat×Blk)) (k:KT (IV×Hp)) :
  A4 [true] false false ih f [.ptr (.ext 0) 0] ⟨own,ext⟩ k=k (.fv w) ⟨own,ext'⟩ [.ext 0] [.ext 0]:=AmP (ks:=[]) (by simp) (vs:=[]) rfl X hr own k
theorem Kc {ih:Al} {f:FuncId} {a b:IV} {x y w:FV} {ext ext':List Blk} (hr:Bq (ih f [.ptr (.ext 0) 0,.fv x,.fv y] ⟨[],ext⟩) w ext') (X:OneX ext ext') (ha:Bg a=some x) (hb:Bg b=some y) (own:List (Nat×Blk))
  (k:KT (IV×Hp)):A4 [true,false,false] false false ih f [.ptr (.ext 0) 0,a,b] ⟨own,ext⟩ k=k (.fv w) ⟨own,ext'⟩ [.ext 0] [.ext 0]:=AmP (ks:=[false,false]) (by simp) (Xo ha hb) X hr own k
theorem Aku {ih:Al} {f:FuncId} {a b c:IV} {x y z w:FV} {ext ext':List Blk} (hr:Bq (ih f [.ptr (.ext 0) 0,.fv x,.fv y,.fv z] ⟨[],ext⟩) w ext') (X:OneX ext ext') (ha:Bg a=some x) (hb:Bg b=some y) (hc:Bg c=some z)
  (own:List (Nat×Blk)) (k:KT (IV×Hp)):A4 [true,false,false,false] false false ih f [.ptr (.ext 0) 0,a,b,c] ⟨own,ext⟩ k=k (.fv w) ⟨own,ext'⟩ [.ext 0] [.ext 0] :=
 AmP (ks:=[false,false,false]) (by simp) (Ai6 ha hb hc) X hr own k
theorem SB {ih:Al} {f:FuncId} {s:Nat} {own:List (Nat×Blk)} {cells:List IV} {ro:Bool} {fc:List FV} {w:FV} {ext ext':List Blk} (hr:Bq (ih f [.ptr (.ext 0) 0,.fv (.fp fc 0)] ⟨[],ext⟩) w ext') (X:OneX ext ext')
  (hl:An s own=some (.row cells ro)) (hz:Di cells=some fc) (hn:cells.length<=300) (k:KT (IV×Hp)) :
  A4 [true,false] false false ih f [.ptr (.ext 0) 0,.ptr (.own s) 0] ⟨own,ext⟩ k=k (.fv w) ⟨AP s (.row cells true) own,ext'⟩ [.ext 0,.own s] [.own s,.ext 0]:=by
 rw [Kx,XC,SN,Vh,YB,MY,BL,hl];simp only [Option.bind_some,J2];rw [Br,decide_eq_true hn,c_t,Aid 10 _ _ _ cells _ hz,fz0]
 have:=Ud (r1:=.ext 0) (rs1:=[]) hr X.g (by rw [X.l,X.l']) (by rw [X.l];exact X.o) own (ih f [.ptr (.ext 0) 0,.fv (.fp fc 0)] ⟨[],[]⟩) [(.own s,.row cells true)] [.own s] (Fx [true,false] false false ih f [.ptr (.ext 0) 0,.ptr (.own s) 0] ⟨own,ext⟩ k) k
 refine this.trans ?_;rw [X.l]
 show (GV own s fun _=>A9 own s (.row cells true) fun own=>k (.fv w) ⟨own,ext'⟩ [.ext 0,.own s] [.own s,.ext 0])=_
 rw [BL,hl,Option.bind_some,Ce]
end
theorem Ac1 {α:Type}:∀(r:Rd α) (h:Hp) (l:List Ref) {x:α} {l':List Ref},r.runLog h l=some (x,l')->r.run h=some x
 | .ret a,h,l,x,l',e=>by simp only [Rd.runLog,AB5,AB6] at e;rw [e.1];rfl
 | .fail,_,_,_,_,e=>by cases e
 | .get r k,h,l,x,l',e=>by
  simp only [Rd.runLog] at e;simp only [Rd.run];cases hg:h.get r with
  | none=>rw [hg] at e;cases e
  | some b=>rw [hg] at e;exact Ac1 (k b) h _ e
def Px {v:IV} {own:List (Nat×Blk)} {ext:List Blk} {w:FV} (h:∃u lg,∀(e:Option (IV×Hp)) (K:FV->List (Ref×Blk)->List Ref->Option (IV×Hp)),Fh 12 v ⟨own,ext⟩ [] e K=K w u lg):∃u,(C6 4096 v).run ⟨own,ext⟩=some (w,u):=by
 obtain ⟨u,lg,hz⟩:=h;rcases OX 12 v ⟨own,ext⟩ [] none (fun w _ _=>some (IV.fv w,(⟨[],[]⟩:Hp))) (.fv w,⟨[],[]⟩) (hz ..) with h | ⟨x,u',lg',h1,_,h2⟩
 ·cases h
 ·simp only [AB5,AB6,IV.fv.injEq,and_true] at h2;subst h2;exact ⟨u',Ac1 _ _ _ (h1 4096 (by decide))⟩
theorem Pg:∀l:List FV,IV.refs.refsL (l.map .fv)=[]
 | []=>rfl
 | v::l=>by
  simp only [ACb,IV.refs.refsL,IV.refs,Pg l,List.append_nil]
theorem II:∀(args:List IV) (ks:List Bool) {vs:List FV},(∀b∈ks,b=false)->BK args=some vs->Bs ks args=.ret (vs.map .fv,[],[])
 | [],ks,vs,_,hz=>by cases hz;cases ks<;>rfl
 | v::l,[],vs,_,hz=>PU (v::l) hz
 | v::l,b::ks,vs,hk,hz=>by
  have hb:=hk b List.mem_cons_self;subst hb;simp only [BK] at hz;cases h1:Bg v with
  | none=>rw [h1] at hz;cases hz
  | some x =>
   rw [h1] at hz;cases h2:BK l with
   | none=>rw [h2] at hz;cases hz
   | some ys =>
    rw [h2] at hz;cases hz;simp only [Bs,frp 4096 (by omega) h1,Rd.bind,II l ks (fun c hc=>hk c (List.mem_cons_of_mem _ hc)) h2];rfl
def Uj (s:Nat) (ext:List Blk):Qz 400 [.own s] 0 ext=false:=rfl
def Anh {ks:List Bool} (hks:∀b∈ks,b=false) {ih:Al} {f:FuncId} {args:List IV} {vs:List FV} {w:FV} {s:Nat} {st st':List FV} {own:List (Nat×Blk)} (hz:BK args=some vs) (hl:An s own=some (.row (st.map .fv) false))
  (hr:Bq (ih f (.ptr (.ext 0) 0::vs.map .fv) ⟨[],[.row (st.map .fv) false]⟩) w [.row (st'.map .fv) false]) (k:KT (IV×Hp)) :
  A4 (true::ks) false false ih f (.ptr (.own s) 0::args) ⟨own,[]⟩ k=k (.fv w) ⟨AP s (.row (st'.map .fv) false) own,[]⟩ [.own s] [.own s]:=by
 obtain ⟨v,own',e1,hfz⟩:=hr;obtain ⟨u,hu⟩:=Px hfz;have hD:Fx (true::ks) false false ih f (.ptr (.own s) 0::args) ⟨own,[]⟩ k=k (.fv w) ⟨AP s (.row (st'.map .fv) false) own,[]⟩ [.own s] [.own s]:=by
  have h1:Bs (true::ks) (.ptr (.own s) 0::args)=.ret (.ptr (.own s) 0::vs.map .fv,[.own s],[]):=by
   simp only [Bs,II args ks hks hz,Rd.bind,IV.refs];rfl
  have h2:(Cb 4096 [.own s] []).runLog ⟨own,[]⟩ []=some ([(.own s,.row (st.map .fv) false)],[.own s]):=by
   show (Cb (4094+1+1) [.own s] []).runLog ⟨own,[]⟩ []=_
   simp only [Cb,hasRef,Bool.false_eq_true,if_false,Rd.runLog,Hp.get,hl,Blk.refs,Pg,List.append_nil,List.nil_append]
  have h3:IV.ren.renL (DK [(.own s,.row (st.map .fv) false)]) (.ptr (.own s) 0::vs.map .fv)=some (.ptr (.ext 0) 0::vs.map .fv):=by
   simp only [IV.ren.renL,IV.ren,DK,Cn,if_true,AB8,Option.bind_some,FD]
  have h4:A8 (DK [(.own s,.row (st.map .fv) false)]) [.row (st.map .fv) false]=some [.row (st.map .fv) false]:=by
   simp only [A8,Blk.ren,FD,AB8,Option.bind_some]
  have h5:A8 (Cv [(.own s,.row (st.map .fv) false)]) [.row (st'.map .fv) false]=some [.row (st'.map .fv) false]:=by
   simp only [A8,Blk.ren,FD,AB8,Option.bind_some]
  unfold Fx;simp only [h1,Rd.runLog,h2,h3,ACb,ACa,h4,DD (Cw 3),DD CY,Kn,Bool.false_eq_true,if_false,e1,hu,AB8,IV.ren,h5,AB9,List.length_nil,Bx,List.all_nil,and_self,if_true,List.nil_append,List.zip_cons_cons,List.zip_nil_left];have h6:laid ⟨own,[]⟩ [(.own s,.row (st'.map .fv) false)]=some ⟨AP s (.row (st'.map .fv) false) own,[]⟩:=by
   simp only [laid,Hp.get,hl,Hp.set]
  simp only [h6,M0,Cw]
 rw [Kx,XC,SN,O8 0 args _ _ _ _ ks hks hz];simp only [TD,Uj,cond_false];exact hD
def Asx {ih:Al} {f:FuncId} {x y:IV} {vx vy w:FV} {s:Nat} {a b c a' b' c':FV} {own own':List (Nat×Blk)} (hr:Bq (ih f [.ptr (.ext 0) 0,.fv vx,.fv vy] ⟨[],[.row [.fv a,.fv b,.fv c] false]⟩) w [.row [.fv a',.fv b',.fv c'] false])
  (hx:Bg x=some vx) (hy:Bg y=some vy) (hl:An s own=some (.row [.fv a,.fv b,.fv c] false)) (ho:AP s (.row [.fv a',.fv b',.fv c'] false) own=own') (k:KT (IV×Hp)) :
  A4 [true,false,false] false false ih f [.ptr (.own s) 0,x,y] ⟨own,[]⟩ k=k (.fv w) ⟨own',[]⟩ [.own s] [.own s]:=by
 subst ho;exact Anh (ks:=[false,false]) (by simp) (st:=[a,b,c]) (st':=[a',b',c']) (Xo hx hy) hl hr k
def Atz {ih:Al} {f:FuncId} {x y z:IV} {vx vy vz w:FV} {s:Nat} {a b c a' b' c':FV} {own own':List (Nat×Blk)} (hr:Bq (ih f [.ptr (.ext 0) 0,.fv vx,.fv vy,.fv vz] ⟨[],[.row [.fv a,.fv b,.fv c] false]⟩) w [.row [.fv a',.fv b',.fv c'] false])
  (hx:Bg x=some vx) (hy:Bg y=some vy) (hz:Bg z=some vz) (hl:An s own=some (.row [.fv a,.fv b,.fv c] false)) (ho:AP s (.row [.fv a',.fv b',.fv c'] false) own=own') (k:KT (IV×Hp)) :
  A4 [true,false,false,false] false false ih f [.ptr (.own s) 0,x,y,z] ⟨own,[]⟩ k=k (.fv w) ⟨own',[]⟩ [.own s] [.own s]:=by
 subst ho;exact Anh (ks:=[false,false,false]) (by simp) (st:=[a,b,c]) (st':=[a',b',c']) (Ai6 hx hy hz) hl hr k
def Aoy {ih:Al} {f:FuncId} {x y:IV} {vx vy w:FV} {s:Nat} {a b a' b':FV} {own own':List (Nat×Blk)} (hr:Bq (ih f [.ptr (.ext 0) 0,.fv vx,.fv vy] ⟨[],[.row [.fv a,.fv b] false]⟩) w [.row [.fv a',.fv b'] false])
  (hx:Bg x=some vx) (hy:Bg y=some vy) (hl:An s own=some (.row [.fv a,.fv b] false)) (ho:AP s (.row [.fv a',.fv b'] false) own=own') (k:KT (IV×Hp)) :
  A4 [true,false,false] false false ih f [.ptr (.own s) 0,x,y] ⟨own,[]⟩ k=k (.fv w) ⟨own',[]⟩ [.own s] [.own s]:=by
 subst ho;exact Anh (ks:=[false,false]) (by simp) (st:=[a,b]) (st':=[a',b']) (Xo hx hy) hl hr k
section
variable {β:Type}
theorem AiF {rm:List Nat} {vals:List IV} {own:List (Nat×Blk)} {ext:List Blk} (hf:AV rm vals own []=true) (hx:∀s,Ref.own s ∉ ext.flatMap Blk.refs) (s:Nat) :
  Ref.own s∈IV.refs.refsL vals++(own.filter fun p=>!rm.contains p.1).flatMap (fun p=>p.2.refs)++ext.flatMap Blk.refs ↔ heldB rm vals own [] s=true:=by
 rw [<- W2 hf s,List.mem_append];constructor
 ·rintro (h | h)
  ·exact List.mem_append_left _ h
  ·exact absurd h (hx s)
 ·intro h;rcases List.mem_append.1 h with h | h
  ·exact .inl h
  ·cases h
theorem Alp {base rm:List Nat} {vals:List IV} {own:List (Nat×Blk)} {ext:List Blk} (hx:∀s,Ref.own s ∉ ext.flatMap Blk.refs) (hb:rm.any base.contains=false) (hf:AV rm vals own []=true) (k:Hp->Option β) :
  BO base rm vals ⟨own,ext⟩ k=k ⟨HY rm vals own [],ext⟩:=by
 have hm:=AiF hf hx;have hf0:=hf;simp only [AV,Bool.and_eq_true] at hf0;obtain ⟨g1,g2,g3,g4⟩:=hf0;unfold BO;rw [hb];simp only [cond_false];rw [Ng];cases ha:(own.all fun p=>!rm.contains p.1) with
 | true =>
  simp only [Bool.not_true,cond_false];congr 2
  symm
  apply List.filter_eq_self.2;intro p hp;rw [List.all_eq_true.1 ha p hp];rfl
 | false =>
  simp only [Bool.not_false,cond_true];have slow:(match CI base [] rm ⟨vals,⟨own,ext⟩⟩ with | none=>none | some S=>fH S.hp k)=k ⟨HY rm vals own [],ext⟩:=by
   have hgone:(rm.filter fun k=>!anyIn [k] (IV.refs.refsL vals++(own.filter fun p=>!rm.contains p.1).flatMap (fun p=>p.2.refs)++ext.flatMap Blk.refs))=rm.filter fun s=>!heldB rm vals own [] s:=by
    apply List.filter_congr;intro s _;congr 1;exact Bool.eq_iff_iff.2 ((Ji s _).trans (hm s))
   have hown:(own.filter fun p=>!(rm.filter fun s=>!heldB rm vals own [] s).contains p.1)=HY rm vals own []:=by
    apply List.filter_congr;intro p _;rw [Bool.eq_iff_iff];simp only [Bool.not_eq_true',Bool.or_eq_true,List.contains_eq_mem,decide_eq_false_iff_not,List.mem_filter];constructor
    ·intro h;by_cases h1:p.1∈rm
     ·right;cases hh:heldB rm vals own [] p.1 with
      | true=>rfl
      | false=>exact absurd ⟨h1,hh⟩ h
     ·exact .inl h1
    ·rintro (h | h) ⟨h1,h2⟩
     ·exact h h1
     ·rw [h] at h2;exact absurd h2 (by simp)
   simp only [CI,hb,Bool.false_eq_true,if_false,AZ,ha,hgone,hown];have hnone:anyIn (rm.filter fun s=>!heldB rm vals own [] s) (C1 ⟨vals,⟨HY rm vals own [],ext⟩⟩)=false:=by
    apply Eu;intro s hs hmem;obtain ⟨hs1,hs2⟩:=List.mem_filter.1 hs;have hs2:heldB rm vals own [] s=false:=by simpa using hs2
    simp only [C1,List.mem_append] at hmem;rcases hmem with (hmem | hmem) | hmem
    ·have:=(hm s).1 (List.mem_append_left _ (List.mem_append_left _ hmem))
     rw [this] at hs2;cases hs2
    ·obtain ⟨p,hp,hr⟩:=List.mem_flatMap.1 hmem;have hp1:=(List.mem_filter.1 hp).1;have hn:=(Ep (List.all_eq_true.1 g2 p hp1) s).1 hr;have h4:=List.all_eq_true.1 g4 p hp1;cases hc:rm.contains p.1 with
     | true =>
      rw [hc] at h4;have h4:(rm.all fun s=>!F8 s p.2)=true:=h4;have h5:=List.all_eq_true.1 h4 s hs1;rw [hn] at h5;cases h5
     | false =>
      have:=(hm s).1 (List.mem_append_left _ (List.mem_append_right _ (List.mem_flatMap.2 ⟨p,List.mem_filter.2 ⟨hp1,by rw [hc];rfl⟩,hr⟩)))
      rw [this] at hs2;cases hs2
    ·exact hx s hmem
   simp only [hnone,Bool.false_eq_true,if_false,M0]
  cases hff:(and (FR rm (CF vals [])) (and (Ib rm own) (JJ rm ext))) with
  | false=>exact slow
  | true =>
   have hff:(FR rm (CF vals []) && (Ib rm own && JJ rm ext))=true:=hff;simp only [Bool.and_eq_true] at hff;simp only [Ij,cond_true];congr 2;apply List.filter_congr;intro p hp;cases hc:rm.contains p.1 with
   | false=>rfl
   | true =>
    have h1:=F7 hff.1;rw [refsDL_eq,List.append_nil] at h1;have h2:=Im hff.2.1
    have:heldB rm vals own [] p.1=false:=by
     cases hh:heldB rm vals own [] p.1 with
     | false=>rfl
     | true =>
      have:=(hm p.1).2 hh
      have hpm:p.1∈rm:=List.contains_iff_mem.1 hc;rcases List.mem_append.1 this with h | h
      ·rcases List.mem_append.1 h with h | h
       ·exact absurd h (h1 _ hpm)
       ·exact absurd h (h2 _ hpm)
      ·exact absurd h (hx _)
    rw [this];rfl
structure ExtX (ext ext':List Blk):Prop where
 g:Qz 400 [.ext 0] 0 ext=true
 l:ext'.length=ext.length
 o:okB ext.length ext'=true
theorem AdH {ks:List Bool} {ih:Al} {f:FuncId} {args:List IV} {vs:List FV} {w:FV} {u:List (Ref×Blk)} {lg:List Ref} {own own':List (Nat×Blk)} {ext ext':List Blk}
  (hz:∀(e:Option (IV×Hp)) (k:List IV->List Ref->List (Ref×Blk)->List Ref->Option (IV×Hp)),W5 args ks ⟨own,ext⟩ [] e k=k (vs.map .fv) [] u lg) (X:ExtX ext ext')
  (hr:Bq (ih f (.ptr (.ext 0) 0::vs.map .fv) ⟨[],ext⟩) w ext') (hlay:∀k:Hp->Option (IV×Hp),Mt u ⟨own,ext'⟩ k=k ⟨own',ext'⟩) (k:KT (IV×Hp)) :
  A4 (true::ks) false false ih f (.ptr (.ext 0) 0::args) ⟨own,ext⟩ k=k (.fv w) ⟨own',ext'⟩ ((CU ext.length).reverse++lg) (Bx u++CU ext.length):=by
 rw [Kx,XC,SN,hz]
 have:=Ud (r1:=.ext 0) (rs1:=[]) hr X.g X.l X.o own (ih f (.ptr (.ext 0) 0::vs.map .fv) ⟨[],[]⟩) u lg (Fx (true::ks) false false ih f (.ptr (.ext 0) 0::args) ⟨own,ext⟩ k) k
 exact this.trans (hlay _)
theorem AvJ:∀(cs:List FV),(∀x∈cs,∀l,x≠.agg l)->∀k:List FV->Option β,chK 1 cs.length cs k=k cs
 | [],_,k=>rfl
 | c::cs,h,k=>by
  show (Gh (c::cs) 1 fun a=>FM (c::cs) 1 fun b=>Aiw a fun x=>chK 1 cs.length b fun xs=>k (x::xs))=_
  rw [t1,d1]
  have:∀k:FV->Option β,Aiw [c] k=k c:=by
   intro k;cases c with
   | agg l=>exact absurd rfl (h _ List.mem_cons_self l)
   | _=>rfl
  rw [this,AvJ cs (fun x hx=>h x (List.mem_cons_of_mem _ hx))]
theorem TV (d:Nat) (h:Hp) (lg:List Ref) (e:Option β):∀(l:List FV) (k:List FV->List (Ref×Blk)->List Ref->Option β),Dl (Fh (d+1)) (l.map .fv) h lg e k=k l [] lg
 | [],k=>rfl
 | v::l,k=>by
  show (Fh (d+1) (.fv v) h lg e fun y u lg=>Dl (Fh (d+1)) (l.map .fv) h lg e fun ys us lg=>QE u us fun w=>k (y::ys) w lg)=_
  show (Dl (Fh (d+1)) (l.map .fv) h lg e fun ys us lg=>QE [] us fun w=>k (v::ys) w lg)=_
  rw [TV d h lg e l];rfl
theorem AkN {d:Nat} {s:Nat} {es:List FV} {ro:Bool} {own:List (Nat×Blk)} {ext:List Blk} (hl:An s own=some (.row (es.map .fv) ro)) (hn:es.length<=300) (ha:∀x∈es,∀l,x≠.agg l) (lg:List Ref) (e:Option β)
  (k:FV->List (Ref×Blk)->List Ref->Option β):Fh (d+2) (.slc (.own s) 1 es.length) ⟨own,ext⟩ lg e k=k (.sl es) [(.own s,.row (es.map .fv) true)] (.own s::lg):=by
 show (Dk (.own s) ⟨own,ext⟩ fun b=>Ek b fun cells=>cond (Nat.ble cells.length 300) (cond (or (Nat.beq 1 0) (not (Nat.ble (es.length * 1) cells.length))) none
  (Dl (Fh (d+1)) cells ⟨own,ext⟩ (.own s::lg) e fun cs u lg=>chK 1 es.length cs fun els=>k (.sl els) ((.own s,.row cells true)::u) lg)) e)=_
 rw [MY,BL,hl];simp only [Option.bind_some,J2,List.length_map,Nat.mul_one];rw [Br,decide_eq_true hn,c_t,show Nat.ble es.length es.length=true by rw [Br];exact decide_eq_true (Nat.le_refl _)]
 simp only [Bool.not_true]
 show (Dl (Fh (d+1)) (es.map .fv) ⟨own,ext⟩ (.own s::lg) e fun cs u lg=>chK 1 es.length cs fun els=>k (.sl els) ((.own s,.row (es.map .fv) true)::u) lg)=_
 rw [TV,AvJ es ha]
theorem Avh {s s2:Nat} {es:List FV} {ro ro2:Bool} {a b c d t x:FV} {own:List (Nat×Blk)} {ext:List Blk} (hl:An s own=some (.row [.fv a,.fv b,.slc (.own s2) 1 es.length,.fv c,.fv d,.fv t,.fv x] ro)) (hl2:An s2 own=some (.row (es.map .fv) ro2))
  (hn:es.length<=300) (ha:∀x∈es,∀l,x≠.agg l) (lg:List Ref) (e:Option β) (k:FV->List (Ref×Blk)->List Ref->Option β):Fh 12 (.ptr (.own s) 0) ⟨own,ext⟩ lg e k =
   k (.fp [a,b,.sl es,c,d,t,x] 0) [(.own s,.row [.fv a,.fv b,.slc (.own s2) 1 es.length,.fv c,.fv d,.fv t,.fv x] true),(.own s2,.row (es.map .fv) true)] (.own s2 :: .own s::lg):=by
 rw [YB,MY,BL,hl];simp only [Option.bind_some,J2];rw [Br,decide_eq_true (by simp),c_t];rw [fl1,MR,fl1,MR,fl1,AkN (d:=9) hl2 hn ha,fl1,MR,fl1,MR,fl1,MR,fl1,MR,fl0];rfl
end
theorem Fv (l:List FV):(l.map IV.fv).all Gb=true:=by induction l with
 | nil=>rfl
 | cons a l ih=>rw [ACb,List.all_cons,ih];rfl
theorem D4 (s:Nat) (l:List FV):(l.map IV.fv).any (Cq s)=false:=by induction l with
 | nil=>rfl
 | cons a l ih=>rw [ACb,List.any_cons,ih];rfl
def DJ:List Tm->List FV
 | []=>[]
 | .mk o n k::l=>.int .i64 o :: .int .i64 n :: .sl (k.map Tm.enc)::DJ l
def OV:Nat->List IV
 | 0=>[]
 | n+1=>iv 0::iv 0 :: .nils::OV n
def Cl (ts:List Tm) (r:Nat):List IV:=(DJ ts).map .fv++OV r
theorem P8 (ts:List Tm):(DJ ts).length=3 * ts.length:=by
 induction ts with
 | nil=>rfl
 | cons t l ih=>obtain ⟨o,n,k⟩:=t;simp only [DJ,AB9,ih];omega
theorem Xn (ts:List Tm) (t:Tm):DJ (ts++[t])=DJ ts++[.int .i64 t.op,.int .i64 t.n,.sl (t.kids.map Tm.enc)]:=by
 induction ts with
 | nil=>obtain ⟨o,n,k⟩:=t;rfl
 | cons a l ih=>obtain ⟨o,n,k⟩:=a;simp only [List.cons_append,DJ,ih]
theorem Rf {β:Type}:∀(A:List IV) (x y z:IV) (B:List IV) (a b c:FV) (k:List IV->Option β),Em (A++x::y::z::B) A.length [a,b,c] k=k (A++.fv a :: .fv b :: .fv c::B)
 | [],x,y,z,B,a,b,c,k=>rfl
 | w::A,x,y,z,B,a,b,c,k=>by
  show Em (A++x::y::z::B) A.length [a,b,c] (fun t=>k (w::t))=_
  rw [Rf A];rfl
def Aq0 {β:Type} (done:List Tm) (r:Nat) (o n:Int) (ks:List Tm) (k:List IV->Option β):Em (Cl done (r+1)) (done.length * 3) [.int .i64 o,.int .i64 n,.sl (ks.map Tm.enc)] k=k (Cl (done++[.mk o n ks]) r):=by
 have h:=Rf (β:=β) ((DJ done).map .fv) (iv 0) (iv 0) .nils (OV r) (.int .i64 o) (.int .i64 n) (.sl (ks.map Tm.enc)) k;rw [List.length_map,P8,Nat.mul_comm] at h;refine h.trans ?_;congr 1;unfold Cl;rw [Xn];simp [Tm.op,Tm.n,Tm.kids,iv]
theorem AvV {β:Type}:∀(ts:List Tm) (k:List FV->Option β),chK 3 ts.length (DJ ts) k=k (ts.map Tm.enc)
 | [],k=>rfl
 | .mk o n ks::l,k=>by
  show (Gh (DJ (.mk o n ks::l)) 3 fun a=>FM (DJ (.mk o n ks::l)) 3 fun b=>Aiw a fun x=>chK 3 l.length b fun xs=>k (x::xs))=_
  rw [DJ,t3,d3]
  show (chK 3 l.length (DJ l) fun xs=>k (.agg [.int .i64 o,.int .i64 n,.sl (ks.map Tm.enc)]::xs))=_
  rw [AvV l,ACb,Ag]
theorem AvF (n:Nat):QN n [iv 0,iv 0,.nils]=Cl [] n:=by
 induction n with
 | zero=>rfl
 | succ n ih=>rw [QN,ih];rfl
def AyA {n:Nat} (hn:n<=1000) (s:Nat) (own:List (Nat×Blk)) (ext:List Blk) (k:KT (IV×Hp)) :
  Ay (B6 EE s 28 (iv n) (iv n)) s ⟨own,ext⟩ k=CW own s (A9 own s (.row (Cl [] n) false) fun own=>k (.slc (.own s) 3 n) ⟨own,ext⟩ [] [.own s]):=by
 have:B6 EE s 28 (iv n) (iv n)=.ret { eff:={ val:=.slc (.own s) 3 n },new:=some (.row (Cl [] n) false) }:=by
  simp only [B6,QS,tTm,YF];rw [if_pos ⟨by omega,by omega,by omega,by decide,by decide⟩,Int.toNat_natCast,AvF]
 rw [this];unfold Ay;simp only [Rd.runLog,J1,CY,Cw];rfl
def Any {β:Type} {n i:Nat} (h:i<n) (r:Ref) (k:IV->Option β):AU 3 (.slc r 3 n) (iv i) k=k (.ptr r (i * 3)):=by
 have e1:Nat.ble (Nat.succ i) n=true:=by rw [Br];exact decide_eq_true h
 show (cond (and (Nat.ble (Nat.succ i) n) (Nat.beq 3 3)) (Ej (i * 3) fun o=>k (.ptr r o)) none)=_
 rw [e1];simp only [B4];rfl
theorem OJ (ts:List Tm) (r:Nat):(Cl ts r).all Gb=true:=by
 unfold Cl;rw [List.all_append,Fv,Bool.true_and]
 induction r with
 | zero=>rfl
 | succ r ih=>rw [OV,List.all_cons,List.all_cons,List.all_cons,ih];rfl
theorem K3 (s:Nat) (ts:List Tm) (r:Nat):(Cl ts r).any (Cq s)=false:=by
 unfold Cl;rw [List.any_append,D4,Bool.false_or]
 induction r with
 | zero=>rfl
 | succ r ih=>rw [OV,List.any_cons,List.any_cons,List.any_cons,ih];rfl
def AoN {s d:Nat} {ts:List Tm} {ro:Bool} {own:List (Nat×Blk)} {ext:List Blk} (hl:An s own=some (.row (Cl ts 0) ro)) (hn:ts.length<=100) (lg:List Ref) (e:Option (IV×Hp))
  (k:FV->List (Ref×Blk)->List Ref->Option (IV×Hp)):Fh (d+2) (.slc (.own s) 3 ts.length) ⟨own,ext⟩ lg e k=k (.sl (ts.map Tm.enc)) [(.own s,.row (Cl ts 0) true)] (.own s::lg):=by
 have hlen:(Cl ts 0).length=3 * ts.length:=by simp [Cl,OV,P8]
 show (Dk (.own s) ⟨own,ext⟩ fun b=>Ek b fun cells=>cond (Nat.ble cells.length 300) (cond (or (Nat.beq 3 0) (not (Nat.ble (ts.length * 3) cells.length))) none
  (Dl (Fh (d+1)) cells ⟨own,ext⟩ (.own s::lg) e fun cs u lg=>chK 3 ts.length cs fun els=>k (.sl els) ((.own s,.row cells true)::u) lg)) e)=_
 rw [MY,BL,hl];simp only [Option.bind_some,J2];rw [hlen,Br,decide_eq_true (by omega),c_t,Br,decide_eq_true (by omega)];simp only [Bool.not_true]
 show (Dl (Fh (d+1)) (Cl ts 0) ⟨own,ext⟩ (.own s::lg) e fun cs u lg=>chK 3 ts.length cs fun els=>k (.sl els) ((.own s,.row (Cl ts 0) true)::u) lg)=_
 rw [show Cl ts 0=(DJ ts).map .fv by simp [Cl,OV],TV,AvV]
def Avt {s:Nat} {ts:List Tm} {ro:Bool} {a b:FV} {own:List (Nat×Blk)} {ext:List Blk} (hl:An s own=some (.row (Cl ts 0) ro)) (hn:ts.length<=100) (lg:List Ref) (e:Option (IV×Hp))
  (k:FV->List (Ref×Blk)->List Ref->Option (IV×Hp)):Fh 12 (.agg [.fv a,.fv b,.slc (.own s) 3 ts.length]) ⟨own,ext⟩ lg e k=k (.agg [a,b,.sl (ts.map Tm.enc)]) [(.own s,.row (Cl ts 0) true)] (.own s::lg):=by
 rw [Asm,show Nat.ble [IV.fv a,.fv b,.slc (.own s) 3 ts.length].length 300=true from rfl,c_t,fl1,MR,fl1,MR,fl1,AoN (d:=9) hl hn,fl0]
 rfl
def HT {β:Type} (o p:Int) (l:List FV) (r:List FV) (k:IV->Option β):AU 3 (.fv (.sl (.agg [.int .i64 o,.int .i64 p,.sl l]::r))) (iv 0) k=k (.fv (.fp [.int .i64 o,.int .i64 p,.sl l] 0)):=by
 have h:(.agg [.int .i64 o,.int .i64 p,.sl l]::r:List FV)[0]?=some (.agg [.int .i64 o,.int .i64 p,.sl l]):=rfl
 have:=BS (β:=β) h (BA _ _ _) k
 rw [CB] at this;exact this
def If {β:Type} (a:FV) (o p:Int) (l:List FV) (r:List FV) (k:IV->Option β):AU 3 (.fv (.sl (a :: .agg [.int .i64 o,.int .i64 p,.sl l]::r))) (iv 1) k=k (.fv (.fp [.int .i64 o,.int .i64 p,.sl l] 0)):=by
 have h:(a :: .agg [.int .i64 o,.int .i64 p,.sl l]::r:List FV)[1]?=some (.agg [.int .i64 o,.int .i64 p,.sl l]):=rfl
 have:=BS (β:=β) h (BA _ _ _) k
 rw [CB] at this;exact this
def M9 {β:Type} (a b:FV) (o p:Int) (l:List FV) (r:List FV) (k:IV->Option β):AU 3 (.fv (.sl (a::b :: .agg [.int .i64 o,.int .i64 p,.sl l]::r))) (iv 2) k=k (.fv (.fp [.int .i64 o,.int .i64 p,.sl l] 0)):=by
 have h:(a::b :: .agg [.int .i64 o,.int .i64 p,.sl l]::r:List FV)[2]?=some (.agg [.int .i64 o,.int .i64 p,.sl l]):=rfl
 have:=BS (β:=β) h (BA _ _ _) k
 rw [CB] at this;exact this
def Aod (w:FV) (own:List (Nat×Blk)):AmV (some (.fv w,⟨own,[]⟩)) w:=⟨_,own,rfl,AqQ w own⟩
def AtA {ks:List Bool} {ih:Al} {f:FuncId} {args:List IV} {vs:List FV} {w:FV} {u:List (Ref×Blk)} {lg:List Ref} {own own':List (Nat×Blk)}
  (hz:∀(e:Option (IV×Hp)) (k:List IV->List Ref->List (Ref×Blk)->List Ref->Option (IV×Hp)),W5 args ks ⟨own,[]⟩ [] e k=k (vs.map .fv) [] u lg)
  (hr:AmV (ih f (vs.map .fv) ⟨[],[]⟩) w) (hlay:∀k:Hp->Option (IV×Hp),Mt u ⟨own,[]⟩ k=k ⟨own',[]⟩) (k:KT (IV×Hp)) :
  A4 ks false false ih f args ⟨own,[]⟩ k=k (.fv w) ⟨own',[]⟩ lg (Bx u):=by
 rw [Kx,hz,AxK hr,hlay]
def Awq {g:FuncId} (h:EE.pol.inl g=false) (h1:EE.pol.keep g=[]) (h2:EE.pol.split g=false) (h3:EE.pol.raw g=false) (caps:List FV) (ih:Al) (xs:List IV) (h0:Hp) (k:KT (IV×Hp)) :
  FW EE ih (.fv (.func (.func g) [] caps)) xs h0 k=A4 [] false false ih g (xs++caps.map .fv) h0 k:=by
 unfold FW;simp only [callee,h,cond_false,Ama,h1,h2,h3,ACa,List.nil_append]
def Asf (fn:Fn) (r:Ref) (o:Nat):Db fn [] [.ptr r o]=.func fn [] [.ptr r o]:=rfl
def Av8 {d s:Nat} {cs:List FV} {ro:Bool} {own:List (Nat×Blk)} {ext:List Blk} (hl:An s own=some (.row (cs.map .fv) ro)) (hn:cs.length<=300) (lg:List Ref) (e:Option (IV×Hp)) (k:FV->List (Ref×Blk)->List Ref->Option (IV×Hp)) :
  Fh (d+2) (.ptr (.own s) 0) ⟨own,ext⟩ lg e k=k (.fp cs 0) [(.own s,.row (cs.map .fv) true)] (.own s::lg):=by
 show (Dk (.own s) ⟨own,ext⟩ fun b=>Ek b fun cells=>cond (Nat.ble cells.length 300) (Dl (Fh (d+1)) cells ⟨own,ext⟩ (.own s::lg) e fun cs u lg=>k (.fp cs 0) ((.own s,.row cells true)::u) lg) e)=_
 rw [MY,BL,hl];simp only [Option.bind_some,J2,List.length_map];rw [Br,decide_eq_true hn,c_t,TV]
def Asb {s1:Nat} {c1:List FV} {r1:Bool} {fn:Fn} {own:List (Nat×Blk)} {ext:List Blk} (h1:An s1 own=some (.row (c1.map .fv) r1)) (n1:c1.length<=300)
  (lg:List Ref) (e:Option (IV×Hp)) (k:FV->List (Ref×Blk)->List Ref->Option (IV×Hp)) :
  Fh 12 (.func fn [] [.ptr (.own s1) 0]) ⟨own,ext⟩ lg e k=k (.func fn [] [.fp c1 0]) [(.own s1,.row (c1.map .fv) true)] (.own s1::lg):=by
 show (Dl (Fh 11) [] ⟨own,ext⟩ lg e fun x u lg=>Dl (Fh 11) [.ptr (.own s1) 0] ⟨own,ext⟩ lg e fun y v lg=>QE u v fun w=>k (.func fn x y) w lg)=_
 rw [fl0,fl1,Av8 (d:=9) h1 n1,fl0];rfl
theorem Aty {ih:Al} {f:FuncId} {x w:FV} {a:IV} {fn:Fn} {s1:Nat} {c1:List FV} {r1:Bool} {own own':List (Nat×Blk)} (hr:AmV (ih f [.fv x,.fv (.func fn [] [.fp c1 0])] ⟨[],[]⟩) w) (ha:Bg a=some x)
  (h1:An s1 own=some (.row (c1.map .fv) r1)) (n1:c1.length<=300) (ho:AP s1 (.row (c1.map .fv) true) own=own') (k:KT (IV×Hp)) :
  A4 [] false false ih f [a,.func fn [] [.ptr (.own s1) 0]] ⟨own,[]⟩ k=k (.fv w) ⟨own',[]⟩ [.own s1] [.own s1]:=by
 subst ho;refine AtA (vs:=[x,.func fn [] [.fp c1 0]]) (u:=[(.own s1,.row (c1.map .fv) true)]) (lg:=[.own s1]) ?_ hr ?_ k
 ·intro e k;rw [fz1,KO _ _ e _ ha,fz1,Asb h1 n1,fz0];rfl
 ·intro k
  show (GV own s1 fun _=>A9 own s1 (.row (c1.map .fv) true) fun own=>k ⟨own,_⟩)=_
  rw [BL,h1,Option.bind_some,Ce]
theorem AwQ {g:FuncId} (h:EE.pol.inl g=false) (h1:EE.pol.keep g=[]) (h2:EE.pol.split g=false) (h3:EE.pol.raw g=false) (p:FV) (ih:Al) (xs:List IV) (h0:Hp) (k:KT (IV×Hp)) :
  FW EE ih (.fv (.func (.func g) [p] [])) xs h0 k=A4 [] false false ih g (.fv p::xs) h0 k:=by
 unfold FW;simp only [callee,h,cond_false,Ama,h1,h2,h3,ACa,ACb,List.append_nil,List.cons_append,List.nil_append]
theorem Av0 (fn:Fn) (p:FV):Db fn [.fv p] []=.fv (.func fn [p] []):=rfl
def okP (op:Int):Bool:=(decide (op=1) || (decide (op=15) || (decide (op=16) || decide (op=17)))) || (decide (20<=op) && decide (op<=29))
mutual
def Tm.plainP:Tm->Bool
 | .mk op _ l=>okP op && Tm.plainPL l
def Tm.plainPL:List Tm->Bool
 | []=>true
 | t::l=>t.plainP && Tm.plainPL l
end
abbrev pF:FV:=.agg [.int .i64 20,.int .i64 29]
abbrev Sl:FV:=.func (.func 42) [pF] []
abbrev Rp:FV:=.func (.func 74) [] [.fp [Sl] 0]
theorem As3 (ih:Al) (xs:List IV) (h0:Hp) (k:KT (IV×Hp)):FW EE ih (.fv (.func (.func 42) [.agg [.int .i64 20,.int .i64 29]] [])) xs h0 k=A4 [] false false ih 42 (.fv pF::xs) h0 k :=
 AwQ (by kernel_rfl) (by kernel_rfl) (by kernel_rfl) (by kernel_rfl) ..
theorem Zc (ih:Al) (xs:List IV) (h0:Hp) (k:KT (IV×Hp)):FW EE ih (.fv Rp) xs h0 k=A4 [] false false ih 74 (xs++[.fv (.fp [Sl] 0)]) h0 k :=
 Awq (by kernel_rfl) (by kernel_rfl) (by kernel_rfl) (by kernel_rfl) _ ..
theorem Apk {n:Nat} (t:Tm) (b:Bool) (h:BW (SS dt n 42 [.fv pF,.fv t.enc] ⟨[],[]⟩) (.bool b)):BW (SS dt (n+1) 74 [.fv t.enc,.fv (.fp [Sl] 0)] ⟨[],[]⟩) (.bool (!b)):=by
 rw [c74];obtain ⟨o,p,l⟩:=t;rw [Ag] at h ⊢;simp only [S74,↓XX,XY,↓reduceIte,seval,↓As3,↓Ad h];exact Aw _ _
theorem Ajz {n:Nat} (ks:List Tm) (hl:ks.length<=900000) (hn:ks.length<n) (h:∀t∈ks,BW (SS dt n 74 [.fv t.enc,.fv (.fp [Sl] 0)] ⟨[],[]⟩) (.bool (!t.plainP))) :
  ∃j:Int,BW (SS dt (n+1) 104 [.fv (.sl (ks.map Tm.enc)),.fv Rp] ⟨[],[]⟩) (.int .i64 j)/\(decide (0<=j)=!Tm.plainPL ks):=by
 rw [Azj];simp only [LH,Li,YJ,↓XX,XY,↓reduceIte,seval];refine Bd (Q:=fun r=>∃j:Int,BW r (.int .i64 j)/\(decide (0<=j)=!Tm.plainPL ks)) (fun k V H=>∃(pre rest:List Tm),ks=pre++rest/\rest.length=k/\Tm.plainPL rest=Tm.plainPL ks /\
   V=[.fv (.sl (ks.map Tm.enc)),.fv Rp,iv ks.length,iv pre.length]/\H=⟨[],[]⟩)
  ?_ n ks.length _ _ (by omega) ⟨[],ks,rfl,rfl,rfl,rfl,rfl⟩
 rintro k V H rec ⟨pre,rest,hks,hkl,hr,rfl,rfl⟩ hrec;have hkk:ks.length=pre.length+rest.length:=by rw [hks];simp
 cases rest with
 | nil =>
  have hno:¬ ((pre.length:Int)<ks.length):=by rw [hkk];simp
  refine ⟨-1,?_,by rw [<- hr];rfl⟩;simp only [LH,Li,Ov,YJ,↓XX,XY,↓reduceIte,seval,hno];exact Aw _ _
 | cons x rest =>
  have hi:(pre.length:Int)<ks.length:=by rw [hkk];simp;omega
  have hg2:=Cr hks;have hs:=h x (by rw [hks];simp);have hwi:BM ((pre.length:Int)+1)=((pre++[x]).length:Int):=(Av (by omega) (by omega)).trans (by simp);rw [Tm.plainPL] at hr;have h9:=fun e=>hrec rest.length [.fv (.sl (ks.map Tm.enc)),.fv Rp,iv ks.length,iv (pre++[x]).length] _ (by simp only [AB9] at hkl;omega) ⟨pre++[x],rest,by rw [hks];simp,rfl,e,rfl,rfl⟩;generalize x.plainP=b at hs hr;cases b
  ·rw [Bool.false_and] at hr;refine ⟨pre.length,?_,by rw [<- hr];simp⟩;obtain ⟨o,p,l⟩:=x;rw [Ag] at hs;simp only [LH,Li,Ov,YJ,↓XX,XY,↓reduceIte,seval,hi,↓BS (AY hg2) (BA _ _ _),↓CB,↓Zc,List.cons_append,List.nil_append,↓Ad hs];exact Aw _ _
  ·rw [Bool.true_and] at hr;have h9:=h9 hr;obtain ⟨o,p,l⟩:=x;rw [Ag] at hs;simp only [LH,Li,Ov,YJ,↓XX,XY,↓reduceIte,seval,hi,↓BS (AY hg2) (BA _ _ _),↓CB,↓Zc,List.cons_append,List.nil_append,↓Ad hs,hwi];exact h9
theorem Atf:∀(n:Nat) (t:Tm),4 * t.wt+4<n->t.wt<=900000->BW (SS dt n 42 [.fv pF,.fv t.enc] ⟨[],[]⟩) (.bool t.plainP):=by
 intro n
 induction n using Nat.strongRecOn with
 | ind n ih =>
  intro t hn hw;obtain ⟨op,m,ks⟩:=t;simp only [Tm.wt] at hn hw;obtain ⟨n,rfl⟩:∃k,n=k+1+1+1+1:=⟨n - 4,by omega⟩;have hlen:=Fj ks;rw [c42,Ag,Tm.plainP];obtain ⟨j,hj,hjb⟩:=Ajz (n:=n+1) ks (by omega) (by omega) (fun t ht=>Apk t _ (ih n (by omega) t (by have:=CT ht;omega) (by have:=CT ht;omega)));have hc:BW (SS dt (n+1+1+1) 73 [.fv (.sl (ks.map Tm.enc)),.fv Rp] ⟨[],[]⟩) (.bool (!Tm.plainPL ks)):=by
   rw [c73,<- hjb];simp only [S73,↓XX,XY,↓reduceIte,seval,↓Ad hj];exact Aw _ _
  have hcf:AmV (SS dt (n+1+1+1) 73 [.fv (.sl (ks.map Tm.enc)),.fv Rp] ⟨[],[]⟩) (.bool (!Tm.plainPL ks)):=by
   rw [c73,<- hjb];simp only [S73,↓XX,XY,↓reduceIte,seval,↓Ad hj];exact Aod _ _
  cases ho:okP op
  ·rw [Bool.false_and];simp only [okP,Bool.or_eq_false_iff,Bool.and_eq_false_iff,decide_eq_false_iff_not] at ho;obtain ⟨⟨h1,h2,h3,h4⟩,h5⟩:=ho;by_cases h6:op<20
   ·simp only [P7,O6,Pb,OL,Pi,Pk,OQ,S42,↓XX,XY,↓reduceIte,seval,h1,h2,h3,h4,h6];exact Aw _ _
   ·have h7:29<op:=by omega
    simp only [P7,O6,Pb,OL,Pi,Pk,OQ,S42,↓XX,XY,↓reduceIte,seval,h1,h2,h3,h4,h6,h7];exact Aw _ _
  ·rw [Bool.true_and];simp only [okP,Bool.or_eq_true,Bool.and_eq_true,decide_eq_true_eq] at ho;have hrest:BW (O6 ⟨[(44040192,.row [iv 20,iv 29] false),(44040193,.row [iv op,iv m,.fv (.sl (ks.map Tm.enc))] false)],[]⟩ (.ptr (.own 44040192) 0) (.ptr (.own 44040193) 0) (SS dt (n+1+1+1))) (.bool (Tm.plainPL ks)):=by
    simp only [P7,O6,Pb,OL,Pi,Pk,OQ,S42,↓XX,XY,↓reduceIte,seval,Av0,Asf]
    (try unfold is0);rw [Aty hcf rfl (by rfl) (by simp) rfl]
    simp only [↓XX,XY,↓reduceIte,seval,Bool.not_not];exact Aw _ _
   by_cases h1:op=1
   ·simp only [↓UU4,↓XX,XY,↓reduceIte,seval,h1];rw [h1] at hrest;exact hrest
   by_cases h2:op=15
   ·simp only [↓UU4,↓XX,XY,↓reduceIte,seval,h2];rw [h2] at hrest;exact hrest
   by_cases h3:op=16
   ·simp only [↓UU4,↓XX,XY,↓reduceIte,seval,h3];rw [h3] at hrest;exact hrest
   by_cases h4:op=17
   ·simp only [↓UU4,↓XX,XY,↓reduceIte,seval,h4];rw [h4] at hrest;exact hrest
   have h5:¬ op<20:=by omega
   have h6:¬ 29<op:=by omega
   simp only [↓UU4,↓XX,XY,↓reduceIte,seval,h1,h2,h3,h4,h5,h6];exact hrest
theorem AiG {n:Nat} (t:Tm) (hn:4 * t.wt+5<n) (hw:t.wt<=900000):BW (SS dt n 18 [.fv t.enc] ⟨[],[]⟩) (.bool t.plainP):=by
 obtain ⟨n,rfl⟩:=psc n (by omega);rw [c18];have h:=Atf n t (by omega) hw;obtain ⟨o,p,l⟩:=t;rw [Ag] at h ⊢;simp only [S18,↓XX,XY,↓reduceIte,seval,↓Ad h];exact Aw _ _
inductive RV where
 | mk (op n:Int) (k env:List RV) (b:Tm)
def Tm.z:Tm:=.mk 0 0 []
def RV.enc:RV->FV
 | .mk op n k env (.mk bo bn bk)=>.fp [.int .i64 op,.int .i64 n,.sl (encL k),.sl (encL env),.int .i64 bo,.int .i64 bn,.sl (bk.map Tm.enc)] 0
where
 encL:List RV->List FV
  | []=>[]
  | v::l=>v.enc::encL l
theorem AlU (l:List RV):RV.enc.encL l=l.map RV.enc:=by
 induction l with
 | nil=>rfl
 | cons t l ih=>simp [RV.enc.encL,ih]
def Jo (op n:Int) (k env:List RV) (bo bn:Int) (bk:List Tm):(RV.mk op n k env (.mk bo bn bk)).enc =
  .fp [.int .i64 op,.int .i64 n,.sl (k.map RV.enc),.sl (env.map RV.enc),.int .i64 bo,.int .i64 bn,.sl (bk.map Tm.enc)] 0:=by simp only [RV.enc,AlU]
def RV.op:RV->Int
 | .mk op _ _ _ _=>op
def RV.n:RV->Int
 | .mk _ n _ _ _=>n
def RV.k:RV->List RV
 | .mk _ _ k _ _=>k
def RV.env:RV->List RV
 | .mk _ _ _ env _=>env
def RV.b:RV->Tm
 | .mk _ _ _ _ b=>b
def RV.var (n:Int):RV:=.mk 1 n [] [] .z
def RV.clo (env:List RV) (b:Tm):RV:=.mk 0 0 [] env b
def RV.zero:RV:=.mk 11 0 [] [] .z
def RV.node (op n:Int) (k:List RV):RV:=.mk op n k [] .z
def Nt (v:RV):v.enc=.fp [.int .i64 v.op,.int .i64 v.n,.sl (v.k.map RV.enc),.sl (v.env.map RV.enc),.int .i64 v.b.op,.int .i64 v.b.n,.sl (v.b.kids.map Tm.enc)] 0:=by
 obtain ⟨op,n,k,env,⟨bo,bn,bk⟩⟩:=v;exact Jo ..
def X1 (t:Tm):Tm.enc t=.agg [.int .i64 t.op,.int .i64 t.n,.sl (t.kids.map Tm.enc)]:=by cases t;exact Ag ..
def O5 (v:RV):v.enc.cells.length=1:=by obtain ⟨op,n,k,env,⟨bo,bn,bk⟩⟩:=v;rfl
def VR (v:RV):v.enc.cells.all FV.one=true:=by obtain ⟨op,n,k,env,⟨bo,bn,bk⟩⟩:=v;rfl
def AiQ (v:RV):v.enc.cells=[v.enc]:=by obtain ⟨op,n,k,env,⟨bo,bn,bk⟩⟩:=v;rfl
def tVs:EE.T 114=some ⟨1,24,.slice 84,[.nils]⟩:=by kernel_rfl
def tVp:EE.T 84=some ⟨1,8,.ptr,[.fv .nilp]⟩:=by kernel_rfl
def sV:SliceT EE 114 1:=⟨_,_,_,_,_,tVs,tVp,rfl,by decide,by decide⟩
theorem Kh (l:List RV):BN 1 (l.map RV.enc)=true:=by
 cases l with
 | nil=>rfl
 | cons a l=>simp only [ACb,BN,O5,beq_self_eq_true]
def AqY (s:Nat) (h:Hp) (k:KT (IV×Hp)):Ay (Aj EE 114 0 []) s h k=k (.clip []) h [] [] :=
 CD tVs tVp (by decide) (cells:=[]) rfl k
def Vw (a:RV) (s:Nat) (h:Hp) (k:KT (IV×Hp)):Ay (Aj EE 114 1 [(0,.fv a.enc)]) s h k=k (.clip [a.enc]) h [] []:=by
 obtain ⟨op,n,kk,env,⟨bo,bn,bk⟩⟩:=a;rw [Jo];exact CD tVs tVp (by decide) (cells:=[.fp [.int .i64 op,.int .i64 n,.sl (kk.map RV.enc),.sl (env.map RV.enc),.int .i64 bo,.int .i64 bn,.sl (bk.map Tm.enc)] 0]) rfl k
def Avr (a b:RV) (s:Nat) (h:Hp) (k:KT (IV×Hp)):Ay (Aj EE 114 2 [(0,.fv a.enc),(1,.fv b.enc)]) s h k=k (.clip [a.enc,b.enc]) h [] []:=by
 obtain ⟨op,n,kk,env,⟨bo,bn,bk⟩⟩:=a;obtain ⟨op',n',kk',env',⟨bo',bn',bk'⟩⟩:=b;rw [Jo,Jo];exact CD tVs tVp (by decide) (cells:=[.fp [.int .i64 op,.int .i64 n,.sl (kk.map RV.enc),.sl (env.map RV.enc),.int .i64 bo,.int .i64 bn,.sl (bk.map Tm.enc)] 0,.fp [.int .i64 op',.int .i64 n',.sl (kk'.map RV.enc),.sl (env'.map RV.enc),.int .i64 bo',.int .i64 bn',.sl (bk'.map Tm.enc)] 0]) rfl k
def Av7 (a b c d:RV) (s:Nat) (h:Hp) (k:KT (IV×Hp)):Ay (Aj EE 114 4 [(0,.fv a.enc),(1,.fv b.enc),(2,.fv c.enc),(3,.fv d.enc)]) s h k =
  k (.clip [a.enc,b.enc,c.enc,d.enc]) h [] []:=by
 have key:∀x:RV,∃l,x.enc=.fp l 0:=fun x=>⟨_,Nt x⟩;obtain ⟨la,ha⟩:=key a;obtain ⟨lb,hb⟩:=key b;obtain ⟨lc,hc⟩:=key c;obtain ⟨ld,hd⟩:=key d;rw [ha,hb,hc,hd];exact CD tVs tVp (by decide) (cells:=[.fp la 0,.fp lb 0,.fp lc 0,.fp ld 0]) rfl k
def Akl (e:RV) (s:Nat) (own:List (Nat×Blk)) (ext:List Blk) (k:KT (IV×Hp)) :
  Ay (AT EE s false .append [114,114] [.nils,.clip [e.enc]]) s ⟨own,ext⟩ k=CW own s (A9 own s (.tok 1 1) fun own=>k (.app (.own s) [e.enc]) ⟨own,ext⟩ [] [.own s]) :=
 JT sV (.clip _) (Kh [e]) rfl (by simp) (.inl rfl) s own ext k
def XK {es:List RV} (hb:es.length+1<=1000000) (e:RV) (r s:Nat) (own:List (Nat×Blk)) (ext:List Blk) (k:KT (IV×Hp)) :
  Ay (AT EE s false .append [114,114] [.app (.own r) (es.map RV.enc),.clip [e.enc]]) s ⟨own,ext⟩ k =
   GV own r fun b=>Aly b es.length 1 (A9 own r (.tok (es.length+1) 1) fun own=>k (.app (.own r) ((es++[e]).map RV.enc)) ⟨own,ext⟩ [.own r] [.own r]):=by
 rw [Re sV (.clip [e.enc]) (Kh [e]) (Kh es) (by simp [VR]) (by simpa using hb) r s own ext k];simp only [List.length_map,List.map_append,ACb,ACa,AB9,List.length_nil,Nat.zero_add]
theorem Ug {n:Nat} (hn:0<n) (env vs:List RV) (hv:vs≠[]) (hb:env.length+vs.length<=1000000):BW (SS dt n 87 [.fv (.sl (env.map RV.enc)),.fv (.sl (vs.map RV.enc))] ⟨[],[]⟩) (.sl ((env++vs).map RV.enc)):=by
 obtain ⟨n,rfl⟩:=psc n (by omega);rw [c87];have hvs:(vs.map RV.enc).isEmpty=false:=by cases vs with
  | nil=>exact absurd rfl hv
  | cons _ _=>rfl
 cases env with
 | nil =>
  simp only [S87,↓XX,XY,↓reduceIte,seval,↓AqY,↓AjK sV (.sl []) (.inr rfl),↓JT sV (.sl (vs.map RV.enc)) (Kh vs) hvs (by simp;simp at hb;omega) (.inr rfl),List.nil_append];exact Bl rfl _
 | cons a env =>
  simp only [S87,↓XX,XY,↓reduceIte,seval,↓AqY];have h1:((a::env).map RV.enc).isEmpty=false:=rfl;have h0:=fun {β:Type}=>JT (β:=β) sV (.sl ((a::env).map RV.enc)) (Kh (a::env)) h1 (by simp only [List.length_map];omega) (.inr rfl:IV.clip []=.nils\/IV.clip []=.clip []);have h2:=fun {β:Type}=>Re (β:=β) sV (.sl (vs.map RV.enc)) (Kh vs) (Kh (a::env)) (by simp [VR]) (by simp only [List.length_map];omega);simp only [ACb] at h0 h2;simp only [↓XX,XY,↓reduceIte,seval,↓h0,↓h2,↓HN,List.map_append,List.cons_append];exact Bl rfl _
def Anm {n:Nat} (hn:0<n) (s nd:Int) (h1:s<=1000000) (h0:0<=s):Bq (SS dt n 108 [.ptr (.ext 0) 0] ⟨[],[.row [iv s,iv nd,iv 0] false]⟩) (.bool (decide (s+1<=1000)))
  [.row [iv (s+1),iv nd,iv (if s+1<=1000 then 0 else 17)] false]:=by
 obtain ⟨n,rfl⟩:=psc n (by omega);rw [Ay4];have hw:BM (s+1)=s+1:=by rw [Av]<;>omega
 by_cases h:s+1<=1000
 ·have h':¬ 1000<s+1:=by omega
  simp only [S6,U6,RT,UC,Aj6,↓XX,XY,↓reduceIte,seval,hw,h,h'];exact AG _ _ _
 ·have h':1000<s+1:=by omega
  simp only [S6,U6,RT,UC,Aj6,↓XX,XY,↓reduceIte,seval,hw,h,h'];exact AG _ _ _
def AW (ev:Int->Int->Tm->Option (RV×Int×Int)) (op:Int) (env:List RV):Nat->List Tm->Int->Int->Option (List RV×Int×Int)
 | _,[],s,e=>some ([],s,e)
 | i,t::l,s,e=>if 0<Ae op i then (AW ev op env (i+1) l s e).map fun (vs,s,e)=>(.clo env t::vs,s,e) else
  match ev s e t with
  | none=>none
  | some (v,s,e)=>(AW ev op env (i+1) l s e).map fun (vs,s,e)=>(v::vs,s,e)
mutual
def AB:Nat->Int->Int->Tm->List RV->Option (RV×Int×Int)
 | 0,_,_,_,_=>none
 | f+1,s,e,.mk op m ks,env =>
  if e≠0 then some (.zero,s,e) else if 900000<env.length then none else
  if op=1 then
   if m<env.length then (if 0<=m then (env[(env.length - 1 - m).toNat]?).map fun v=>(v,s,e) else none)
   else if m<=4611686018427387904 then some (.var (env.length - 1 - m),s,e) else none
  else if f<=ks.length then none else if 900000<ks.length then none else
  match AW (fun s e t=>AB f s e t env) op env 0 ks s e with
  | none=>none
  | some (vs,s,e)=>headR f s e (.node op m vs)
def headR:Nat->Int->Int->RV->Option (RV×Int×Int)
 | 0,_,_,_=>none
 | f+1,s,e,v =>
  if e≠0 then some (v,s,e) else if s<0\/1000000<s then none else
  if v.op=5 then (match v.k[0]? with
   | none=>none
   | some k0=>if k0.op=4 then
     (if s+1<=1000 then (match k0.k[1]?,v.k[1]? with
      | some c,some x=>if 900000<c.env.length then none else AB f (s+1) 0 c.b (c.env++[x])
      | _,_=>none) else some (v,s+1,17))
    else some (v,s,e))
  else if v.op=8\/v.op=9 then (match v.k[0]? with
   | none=>none
   | some k0=>if k0.op=7 then
     (if s+1<=1000 then (k0.k[(1+v.op - 8).toNat]?).map fun x=>(x,s+1,0) else some (v,s+1,17))
    else some (v,s,e))
  else if v.op=30 then (match v.k[0]? with
   | none=>none
   | some k0=>if k0.op=19 then
     (if s+1<=1000 then (k0.k[0]?).map fun x=>(x,s+1,0) else some (v,s+1,17))
    else some (v,s,e))
  else if v.op=19 then (match v.k[0]? with
   | none=>none
   | some k0=>if k0.op=30 then
     (if s+1<=1000 then (k0.k[0]?).map fun x=>(x,s+1,0) else some (v,s+1,17))
    else some (v,s,e))
  else if v.op=13 then (match v.k[0]?,v.k[1]?,v.k[2]?,v.k[3]? with
   | some k0,some k1,some k2,some k3 =>
    if k3.op=11 then (if s+1<=1000 then some (k1,s+1,0) else some (v,s+1,17))
    else if k3.op=12 then
     (if s+1<=1000 then (match k3.k[0]? with
      | none=>none
      | some x=>(match headR f (s+1) 0 (.node 13 0 [k0,k1,k2,x]) with
       | none=>none
       | some (h,s,e)=>if 900000<k2.env.length then none else AB f s e k2.b (k2.env++[x,h])))
     else some (v,s+1,17))
    else some (v,s,e)
   | _,_,_,_=>none)
  else some (v,s,e)
end
theorem XJ {β:Type} {l:List RV} {i:Nat} {v:RV} (h:l[i]?=some v) (k:IV->Option β):AU 1 (.fv (.sl (l.map RV.enc))) (iv i) k=k (.fv (.fp [v.enc] 0)):=by
 have h1:(l.map RV.enc)[i]?=some v.enc:=by rw [List.getElem?_map,h];rfl
 rw [BS h1 (O5 v),AiQ]
def Tk (f:Nat):Prop:=∀(s e:Int) (t:Tm) (env:List RV) (v:RV) (s' e' nd:Int),AB f s e t env=some (v,s',e')->∀n,f+1<=n ->
 Bq (SS dt n 62 [.ptr (.ext 0) 0,.fv t.enc,.fv (.sl (env.map RV.enc))] ⟨[],[.row [iv s,iv nd,iv e] false]⟩) v.enc [.row [iv s',iv nd,iv e'] false]
def R6 (f:Nat):Prop:=∀(s e:Int) (v w:RV) (s' e' nd:Int),headR f s e v=some (w,s',e')->∀n,f+1<=n ->
 Bq (SS dt n 88 [.ptr (.ext 0) 0,.fv v.enc] ⟨[],[.row [iv s,iv nd,iv e] false]⟩) w.enc [.row [iv s',iv nd,iv e'] false]
abbrev AdN (op m:Int) (ks:List Tm) (K:IV) (tok:List (Nat×Blk)) (s nd e:Int):Hp :=
 ⟨(65011712,.row [iv op,iv m,.fv (.sl (ks.map Tm.enc))] false)::(65018885,.row [iv op,iv m,K,.nils,iv 0,iv 0,.nils] false)::tok,[.row [iv s,iv nd,iv e] false]⟩
theorem AxJ {op m:Int} (l:List RV):(RV.node op m l).enc=.fp [.int .i64 op,.int .i64 m,.sl (l.map RV.enc),.sl [],.int .i64 0,.int .i64 0,.sl []] 0:=by rw [RV.node,Tm.z,Jo];rfl
theorem Ajx {f:Nat} (he:Tk f) (hh:R6 f):Tk (f+1):=by
 intro s e t env v s' e' nd hev n hn;obtain ⟨n,rfl⟩:=psc n (by omega);rw [c62];obtain ⟨op,m,ks⟩:=t;rw [Ag];rw [AB] at hev;by_cases h0:e≠0
 ·rw [if_pos h0] at hev;simp only [AB5,AB6] at hev;obtain ⟨rfl,rfl,rfl⟩:=hev;simp only [Jr,IX,IY,IU,I0,I6,Je,Jy,Ja,Jw,IH,Jc,Iu,Iv,Jl,IA,I1,IM,IW,Jb,Jj,Jz,S62,↓XX,XY,↓reduceIte,seval,h0];exact ⟨_,_,rfl,_,_,fun _ _=>rfl⟩
 ·have h0':e=0:=by omega
  subst h0';rw [if_neg h0] at hev;by_cases hlen:900000<env.length
  ·rw [if_pos hlen] at hev;cases hev
  ·rw [if_neg hlen] at hev;by_cases h1:op=1
   ·rw [if_pos h1] at hev;subst h1;by_cases h2:m<env.length
    ·rw [if_pos h2] at hev;by_cases h3:0<=m
     ·rw [if_pos h3] at hev;cases hg:env[(env.length - 1 - m).toNat]? with
      | none=>rw [hg] at hev;cases hev
      | some u =>
       rw [hg] at hev;simp only [AB8,AB5,AB6] at hev;obtain ⟨rfl,rfl,rfl⟩:=hev;have e1:BM ((env.length:Int) - 1)=env.length - 1:=by rw [Av]<;>omega
       have e2:BM ((env.length:Int) - 1 - m)=(((env.length:Int) - 1 - m).toNat:Int):=by rw [Av]<;>omega
       simp only [Jr,IX,IY,IU,I0,I6,Je,Jy,Ja,Jw,IH,Jc,Iu,Iv,Jl,IA,I1,IM,IW,Jb,Jj,Jz,S62,↓XX,XY,↓reduceIte,seval,h2,e1,e2,↓XJ hg];exact AG _ _ _
     ·rw [if_neg h3] at hev;cases hev
    ·rw [if_neg h2] at hev;by_cases h3:m<=4611686018427387904
     ·rw [if_pos h3] at hev;simp only [AB5,AB6] at hev;obtain ⟨rfl,rfl,rfl⟩:=hev;have e1:BM ((env.length:Int) - 1)=env.length - 1:=by rw [Av]<;>omega
      have e2:BM ((env.length:Int) - 1 - m)=(env.length:Int) - 1 - m:=by rw [Av]<;>omega
      simp only [Jr,IX,IY,IU,I0,I6,Je,Jy,Ja,Jw,IH,Jc,Iu,Iv,Jl,IA,I1,IM,IW,Jb,Jj,Jz,S62,↓XX,XY,↓reduceIte,seval,h2,e1,e2];exact ⟨_,_,rfl,_,_,fun _ _=>rfl⟩
     ·rw [if_neg h3] at hev;cases hev
   ·rw [if_neg h1] at hev;by_cases hf:f<=ks.length
    ·rw [if_pos hf] at hev;cases hev
    ·rw [if_neg hf] at hev;by_cases hk9:900000<ks.length
     ·rw [if_pos hk9] at hev;cases hev
     ·rw [if_neg hk9] at hev;cases hkg:AW (fun s e t=>AB f s e t env) op env 0 ks s 0 with
      | none=>rw [hkg] at hev;cases hev
      | some q =>
      obtain ⟨vs,s1,e1⟩:=q;rw [hkg] at hev;simp only at hev;simp only [Jr,IX,IY,IU,I0,I6,Je,Jy,Ja,Jw,IH,Jc,Iu,Iv,Jl,IA,I1,IM,IW,Jb,Jj,Jz,S62,↓XX,XY,↓reduceIte,seval,h1,↓AM,XD,heldB,AV,XE];refine Bd (Q:=fun r=>Bq r _ _) (fun k V H=>∃pre rest done s2 e2 us s3 e3,ks=pre++rest/\rest.length=k/\done.length=pre.length/\V=[.ptr (.ext 0) 0,.fv (.sl (env.map RV.enc)),.ptr (.own 65011712) 0,.ptr (.own 65018885) 0,iv pre.length] /\
       (
        (pre=[]/\H=AdN op m ks .nils [] s2 nd e2) \/
        (∃r,(r=65024014\/r=65025038)/\pre≠[]/\H=AdN op m ks (.app (.own r) (done.map RV.enc)) [(r,.tok done.length 1)] s2 nd e2)) /\
       AW (fun s e t=>AB f s e t env) op env pre.length rest s2 e2=some (us,s3,e3)/\headR f s3 e3 (.node op m (done++us))=some (v,s',e'))
       ?_ n ks.length _ _ (by omega) ⟨[],ks,[],s,0,vs,s1,e1,rfl,rfl,rfl,rfl,.inl ⟨rfl,rfl⟩,hkg,hev⟩
      rintro k V H rec ⟨pre,rest,done,s2,e2,us,s3,e3,hk,hl,hdl,rfl,hH,hkids,hhead⟩ hrec;have hkl:ks.length=pre.length+rest.length:=by rw [hk];simp
      have zenc:∀l:List RV,(RV.node op m l).enc=.fp [.int .i64 op,.int .i64 m,.sl (l.map RV.enc),.sl [],.int .i64 0,.int .i64 0,.sl []] 0:=fun l=>AxJ l;cases rest with
      | nil =>
       simp only [AW,AB5,AB6] at hkids;obtain ⟨rfl,rfl,rfl⟩:=hkids;rw [List.append_nil] at hhead;have hc:=hh s2 e2 _ v s' e' nd hhead n (by omega);rw [zenc] at hc;have hpre:ks=pre:=by simpa using hk
       subst hpre;rcases hH with ⟨rfl,rfl⟩ | ⟨r,hr,hne,rfl⟩
       ·have hd:done=[]:=List.length_eq_zero_iff.1 hdl;subst hd;have hcall:=fun k=>SB (k:=k) (own:=[(65011712,.row [iv op,iv m,.fv (.sl (([]:List Tm).map Tm.enc))] false),(65018885,.row [iv op,iv m,.nils,.nils,iv 0,iv 0,.nils] false)])
         (cells:=[iv op,iv m,.nils,.nils,iv 0,iv 0,.nils]) (ro:=false) (s:=65018885) hc (Cu ..) (by simp [An]) rfl (by simp)
        simp only [↓UU8,↓XX,XY,↓reduceIte,seval,Int.lt_irrefl,↓hcall];exact AG _ _ _
       ·have hcall:=fun k=>SB (k:=k) (own:=[(65011712,.row [iv op,iv m,.fv (.sl (ks.map Tm.enc))] false),(65018885,.row [iv op,iv m,.app (.own r) (done.map RV.enc),.nils,iv 0,iv 0,.nils] false),(r,.tok done.length 1)])
         (cells:=[iv op,iv m,.app (.own r) (done.map RV.enc),.nils,iv 0,iv 0,.nils]) (ro:=false) (s:=65018885) hc (Cu ..) (by simp [An]) rfl (by simp)
        simp only [↓UU8,↓XX,XY,↓reduceIte,seval,Int.lt_irrefl,↓hcall];exact AG _ _ _
      | cons t rest =>
       have hi:(pre.length:Int)<ks.length:=by rw [hkl];simp;omega
       have hg:=Cr hk;have hb:=F4 (n:=n) (by omega) op pre.length;have hwi:BM ((pre.length:Int)+1)=((pre++[t]).length:Int):=(Av (by omega) (by omega)).trans (by simp);have hbi:(0<(Ae op pre.length:Int)) ↔ 0<Ae op pre.length:=by omega
       have hd9:done.length+1<=1000000:=by omega
       simp only [AW] at hkids;simp only [AB9] at hl;by_cases hbp:0<Ae op pre.length
       ·rw [if_pos hbp] at hkids;cases hkk:AW (fun s e t=>AB f s e t env) op env (pre.length+1) rest s2 e2 with
        | none=>rw [hkk] at hkids;cases hkids
        | some q =>
        obtain ⟨us',s4,e4⟩:=q;rw [hkk] at hkids;simp only [AB8,AB5,AB6] at hkids;obtain ⟨rfl,rfl,rfl⟩:=hkids;have hbp':0<(Ae op pre.length:Int):=by omega
        have hce:(RV.clo env t).enc=.fp [.int .i64 0,.int .i64 0,.sl [],.sl (env.map RV.enc),.int .i64 t.op,.int .i64 t.n,.sl (t.kids.map Tm.enc)] 0:=by rw [Nt];rfl
        have hnext:∀tk,(tk=65024014\/tk=65025038)->Bq (rec [.ptr (.ext 0) 0,.fv (.sl (env.map RV.enc)),.ptr (.own 65011712) 0,.ptr (.own 65018885) 0,iv (pre++[t]).length]
          (AdN op m ks (.app (.own tk) ((done++[RV.clo env t]).map RV.enc)) [(tk,.tok (done++[RV.clo env t]).length 1)] s2 nd e2)) v.enc [.row [iv s',iv nd,iv e'] false]:=fun tk htk =>
         hrec rest.length _ _ (by omega) ⟨pre++[t],rest,done++[.clo env t],s2,e2,us',s4,e4,by rw [hk];simp,rfl,by simp [hdl],rfl,.inr ⟨tk,htk,by simp,rfl⟩,by simpa using hkk,by simpa using hhead⟩
        obtain ⟨o,p,l⟩:=t;simp only [Tm.op,Tm.n,Tm.kids] at hce;have ha0:=fun {s own ext k}=>Akl (RV.clo env (.mk o p l)) s own ext k;have ha1:=fun {r s own ext k}=>XK hd9 (RV.clo env (.mk o p l)) r s own ext k;rw [hce] at ha0 ha1;have hbs:=fun (tl:List (Nat×Blk)) (K:IV) (own:List (Nat×Blk)) (hown:own=(65011712,.row [iv op,iv m,.fv (.sl (ks.map Tm.enc))] false)::(65018885,.row [iv op,iv m,K,.nils,iv 0,iv 0,.nils] false)::tl) (hl:An 65024012 own=some (.row [iv 0,iv 0,.nils,.fv (.sl (env.map RV.enc)),iv o,iv p,.fv (.sl (l.map Tm.enc))] false)) (own':List (Nat×Blk)) (ho) s ext (k:KT (IV×Hp)) =>
         Avk (E:=EE) (own:=own) (own':=own') tVs tVp rfl ⟨_,rfl⟩ hl (fc:=[.int .i64 0,.int .i64 0,.sl [],.sl (env.map RV.enc),.int .i64 o,.int .i64 p,.sl (l.map Tm.enc)]) rfl (by simp) ho s ext k
        rcases hH with ⟨hp0,rfl⟩ | ⟨r,hr,hne,rfl⟩
        ·have hd0:done=[]:=List.length_eq_zero_iff.1 (by rw [hdl,hp0];rfl);subst hd0;have h9:=hnext _ (.inl rfl);simp only [List.nil_append,ACb,ACa,AB9,List.length_nil] at h9;rw [hce] at h9;have hb0:=fun s ext k=>hbs [(65024012,.row [iv 0,iv 0,.nils,.fv (.sl (env.map RV.enc)),iv o,iv p,.fv (.sl (l.map Tm.enc))] false)] .nils _ rfl (by simp [An])
          [(65011712,.row [iv op,iv m,.fv (.sl (ks.map Tm.enc))] false),(65018885,.row [iv op,iv m,.nils,.nils,iv 0,iv 0,.nils] false),(65024012,.row [iv 0,iv 0,.nils,.fv (.sl (env.map RV.enc)),iv o,iv p,.fv (.sl (l.map Tm.enc))] true)] (by simp [AP]) s ext k
         simp only [↓UU8,↓XX,XY,↓reduceIte,seval,hi,↓BS (AY hg) (BA _ _ _),↓CB,↓Ad hb,hbp',hwi,↓hb0,↓ha0,↓AM,XD,heldB,AV,XE];exact h9
        ·have h9:=hnext r hr;rw [show (done++[RV.clo env (Tm.mk o p l)]).length=done.length+1 by simp] at h9
         simp only [List.map_append,ACb,ACa] at h9;rw [hce] at h9;simp only [List.map_append,ACb,ACa] at ha1;rw [hce] at ha1;have hb0:=fun s ext k=>hbs [(r,.tok done.length 1),(65024012,.row [iv 0,iv 0,.nils,.fv (.sl (env.map RV.enc)),iv o,iv p,.fv (.sl (l.map Tm.enc))] false)] (.app (.own r) (done.map RV.enc)) _ rfl (by rcases hr with rfl | rfl<;>simp [An])
          [(65011712,.row [iv op,iv m,.fv (.sl (ks.map Tm.enc))] false),(65018885,.row [iv op,iv m,.app (.own r) (done.map RV.enc),.nils,iv 0,iv 0,.nils] false),(r,.tok done.length 1),(65024012,.row [iv 0,iv 0,.nils,.fv (.sl (env.map RV.enc)),iv o,iv p,.fv (.sl (l.map Tm.enc))] true)]
          (by rcases hr with rfl | rfl<;>simp [AP]) s ext k
         rcases hr with rfl | rfl
         ·simp only [↓UU8,↓XX,XY,↓reduceIte,seval,hi,↓BS (AY hg) (BA _ _ _),↓CB,↓Ad hb,hbp',hwi,↓hb0,↓ha1,↓HN,↓AM,XD,heldB,AV,XE];exact h9
         ·simp only [↓UU8,↓XX,XY,↓reduceIte,seval,hi,↓BS (AY hg) (BA _ _ _),↓CB,↓Ad hb,hbp',hwi,↓hb0,↓ha1,↓HN,↓AM,XD,heldB,AV,XE];exact h9
       ·rw [if_neg hbp] at hkids;have hbp':¬ 0<(Ae op pre.length:Int):=by omega
        cases hev1:AB f s2 e2 t env with
        | none=>rw [hev1] at hkids;cases hkids
        | some q =>
        obtain ⟨v1,s4,e4⟩:=q;rw [hev1] at hkids;simp only at hkids;cases hkk:AW (fun s e t=>AB f s e t env) op env (pre.length+1) rest s4 e4 with
        | none=>rw [hkk] at hkids;cases hkids
        | some q =>
        obtain ⟨us',s5,e5⟩:=q;rw [hkk] at hkids;simp only [AB8,AB5,AB6] at hkids;obtain ⟨rfl,rfl,rfl⟩:=hkids;have hc:=he s2 e2 t env v1 s4 e4 nd hev1 n (by omega);have hnext:∀tk,(tk=65024014\/tk=65025038)->Bq (rec [.ptr (.ext 0) 0,.fv (.sl (env.map RV.enc)),.ptr (.own 65011712) 0,.ptr (.own 65018885) 0,iv (pre++[t]).length]
          (AdN op m ks (.app (.own tk) ((done++[v1]).map RV.enc)) [(tk,.tok (done++[v1]).length 1)] s4 nd e4)) v.enc [.row [iv s',iv nd,iv e'] false]:=fun tk htk =>
         hrec rest.length _ _ (by omega) ⟨pre++[t],rest,done++[v1],s4,e4,us',s5,e5,by rw [hk];simp,rfl,by simp [hdl],rfl,.inr ⟨tk,htk,by simp,rfl⟩,by simpa using hkk,by simpa using hhead⟩
        obtain ⟨o,p,l⟩:=t;rw [Ag] at hc;rcases hH with ⟨hp0,rfl⟩ | ⟨r,hr,hne,rfl⟩
        ·have hd0:done=[]:=List.length_eq_zero_iff.1 (by rw [hdl,hp0];rfl);subst hd0;have h9:=hnext _ (.inr rfl);simp only [List.nil_append,ACb,ACa,AB9,List.length_nil] at h9;simp only [↓UU8,↓XX,XY,↓reduceIte,seval,hi,↓BS (AY hg) (BA _ _ _),↓CB,↓Ad hb,hbp',hwi,↓Kc hc (Cu _ _ _ _ _ _),↓Vw,↓Akl,↓AM,XD,heldB,AV,XE];exact h9
        ·have h9:=hnext r hr;rw [show (done++[v1]).length=done.length+1 by simp] at h9
         rcases hr with rfl | rfl
         ·simp only [↓UU8,↓XX,XY,↓reduceIte,seval,hi,↓BS (AY hg) (BA _ _ _),↓CB,↓Ad hb,hbp',hwi,↓Kc hc (Cu _ _ _ _ _ _),↓Vw,↓XK hd9,↓HN,↓AM,XD,heldB,AV,XE];exact h9
         ·simp only [↓UU8,↓XX,XY,↓reduceIte,seval,hi,↓BS (AY hg) (BA _ _ _),↓CB,↓Ad hb,hbp',hwi,↓Kc hc (Cu _ _ _ _ _ _),↓Vw,↓XK hd9,↓HN,↓AM,XD,heldB,AV,XE];exact h9
def RV.cl (v:RV):List FV:=[.int .i64 v.op,.int .i64 v.n,.sl (v.k.map RV.enc),.sl (v.env.map RV.enc),.int .i64 v.b.op,.int .i64 v.b.n,.sl (v.b.kids.map Tm.enc)]
section
variable {β:Type} (v:RV)
theorem AwU (k:IV->Option β):AH (.fv v.enc) k=k (.fv v.enc):=by rw [Nt];rfl
theorem Aze (o:Nat) (k:IV->Option β):Ab o (.fv v.enc) k=k (.fv (.fp v.cl o)):=by rw [Nt,Awy];rfl
theorem nc0 (k:FV->Option β):DH v.cl 0 k=k (.int .i64 v.op):=rfl
theorem nc1 (k:FV->Option β):DH v.cl 1 k=k (.int .i64 v.n):=rfl
theorem nc2 (k:FV->Option β):DH v.cl 2 k=k (.sl (v.k.map RV.enc)):=rfl
theorem nc3 (k:FV->Option β):DH v.cl 3 k=k (.sl (v.env.map RV.enc)):=rfl
theorem dc4 (k:List FV->Option β):FM v.cl 4 k=k [.int .i64 v.b.op,.int .i64 v.b.n,.sl (v.b.kids.map Tm.enc)]:=rfl
end
theorem Hn {β:Type} {l:List RV} {v:RV} (h:l[0]?=some v) (k:IV->Option β):AU 1 (.fv (.sl (l.map RV.enc))) (iv 0) k=k (.fv (.fp [v.enc] 0)):=XJ (i:=0) h k
theorem AmE {β:Type} {l:List RV} {v:RV} (h:l[1]?=some v) (k:IV->Option β):AU 1 (.fv (.sl (l.map RV.enc))) (iv 1) k=k (.fv (.fp [v.enc] 0)):=XJ (i:=1) h k
theorem Awm {β:Type} {l:List RV} {v:RV} (h:l[2]?=some v) (k:IV->Option β):AU 1 (.fv (.sl (l.map RV.enc))) (iv 2) k=k (.fv (.fp [v.enc] 0)):=XJ (i:=2) h k
theorem AlS {β:Type} {l:List RV} {v:RV} (h:l[3]?=some v) (k:IV->Option β):AU 1 (.fv (.sl (l.map RV.enc))) (iv 3) k=k (.fv (.fp [v.enc] 0)):=XJ (i:=3) h k
def XV:=AB4 @AwU<|AB4 @Aze<|AB4 @nc0<|AB4 @nc1<|AB4 @nc2<|AB4 @nc3 @dc4
theorem Ajy {f:Nat} (he:Tk f) (hh:R6 f):R6 (f+1):=by
 intro s e v w s' e' nd hev n hn;obtain ⟨n,rfl⟩:=psc n (by omega);rw [c88];rw [headR] at hev;by_cases h0:e≠0
 ·rw [if_pos h0] at hev;simp only [AB5,AB6] at hev;obtain ⟨rfl,rfl,rfl⟩:=hev;simp only [↓Qy,↓XX,XY,↓reduceIte,Nat.reduceBEq,Nat.reduceAdd,Int.reduceEq,Int.reduceLT,Int.reduceLE,h0];exact AG _ _ _
 ·have h0':e=0:=by omega
  subst h0';rw [if_neg h0] at hev;by_cases hs:s<0\/1000000<s
  ·rw [if_pos hs] at hev;cases hev
  ·rw [if_neg hs] at hev;have hst:=Anm (n:=n) (by omega) s nd (by omega) (by omega);have Cv:∀{x:RV} {a b:Int},some (x,a,b)=some (w,s',e')->x=w/\a=s'/\b=e':=by
    intro x a b h;simp only [AB5,AB6] at h;exact h
   by_cases h5:v.op=5
   ·rw [if_pos h5] at hev;cases hk0:v.k[0]? with
    | none=>rw [hk0] at hev;cases hev
    | some k0 =>
     rw [hk0] at hev;simp only at hev;by_cases h4:k0.op=4
     ·rw [if_pos h4] at hev;by_cases hq:s+1<=1000
      ·rw [if_pos hq] at hev;simp only [hq,decide_true,if_true] at hst;cases hc:k0.k[1]? with
       | none=>rw [hc] at hev;cases hev
       | some c =>
        cases hx:v.k[1]? with
        | none=>rw [hc,hx] at hev;cases hev
        | some x =>
         rw [hc,hx] at hev;simp only at hev;by_cases hl:900000<c.env.length
         ·rw [if_pos hl] at hev;cases hev
         ·rw [if_neg hl] at hev;have hcall:=he (s+1) 0 c.b (c.env++[x]) w s' e' nd hev n (by omega);rw [X1] at hcall;have hp:=Ug (n:=n) (by omega) c.env [x] (by simp) (by simp;omega);simp only [ACb,ACa] at hp;simp only [↓Qy,↓XX,XY,↓reduceIte,Nat.reduceBEq,Nat.reduceAdd,Int.reduceEq,Int.reduceLT,Int.reduceLE,↓XV,h5,↓Hn hk0,h4,↓D9 hst (Cu _ _ _ _ _ _),↓AmE hc,↓AmE hx,↓Vw,↓Ad hp,↓Kc hcall (Cu _ _ _ _ _ _)];exact AG _ _ _
      ·rw [if_neg hq] at hev;obtain ⟨rfl,rfl,rfl⟩:=Cv hev;simp only [hq,decide_false,if_false] at hst;simp only [↓Qy,↓XX,XY,↓reduceIte,Nat.reduceBEq,Nat.reduceAdd,Int.reduceEq,Int.reduceLT,Int.reduceLE,↓XV,h5,↓Hn hk0,h4,↓D9 hst (Cu _ _ _ _ _ _)];exact AG _ _ _
     ·rw [if_neg h4] at hev;obtain ⟨rfl,rfl,rfl⟩:=Cv hev;simp only [↓Qy,↓XX,XY,↓reduceIte,Nat.reduceBEq,Nat.reduceAdd,Int.reduceEq,Int.reduceLT,Int.reduceLE,↓XV,h5,↓Hn hk0,h4];exact AG _ _ _
   ·rw [if_neg h5] at hev;by_cases h89:v.op=8\/v.op=9
    ·rw [if_pos h89] at hev;cases hk0:v.k[0]? with
     | none=>rw [hk0] at hev;cases hev
     | some k0 =>
      rw [hk0] at hev;simp only at hev;by_cases h7:k0.op=7
      ·rw [if_pos h7] at hev;by_cases hq:s+1<=1000
       ·rw [if_pos hq] at hev;simp only [hq,decide_true,if_true] at hst;cases hx:k0.k[(1+v.op - 8).toNat]? with
        | none=>rw [hx] at hev;cases hev
        | some x =>
         rw [hx] at hev;obtain ⟨rfl,rfl,rfl⟩:=Cv hev;rcases h89 with h8 | h9
         ·rw [h8] at hx;have hw1:BM (1+8)=9:=by decide
          have hw2:BM (9 - 8)=1:=by decide
          simp only [↓Qy,↓XX,XY,↓reduceIte,Nat.reduceBEq,Nat.reduceAdd,Int.reduceEq,Int.reduceLT,Int.reduceLE,↓XV,h8,↓Hn hk0,h7,↓D9 hst (Cu _ _ _ _ _ _),hw1,hw2,↓AmE (l:=k0.k) (v:=x) hx];exact AG _ _ _
         ·rw [h9] at hx;have hw1:BM (1+9)=10:=by decide
          have hw2:BM (10 - 8)=2:=by decide
          simp only [↓Qy,↓XX,XY,↓reduceIte,Nat.reduceBEq,Nat.reduceAdd,Int.reduceEq,Int.reduceLT,Int.reduceLE,↓XV,h9,↓Hn hk0,h7,↓D9 hst (Cu _ _ _ _ _ _),hw1,hw2,↓Awm (l:=k0.k) (v:=x) hx];exact AG _ _ _
       ·rw [if_neg hq] at hev;obtain ⟨rfl,rfl,rfl⟩:=Cv hev;simp only [hq,decide_false,if_false] at hst;rcases h89 with h8 | h9
        ·simp only [↓Qy,↓XX,XY,↓reduceIte,Nat.reduceBEq,Nat.reduceAdd,Int.reduceEq,Int.reduceLT,Int.reduceLE,↓XV,h8,↓Hn hk0,h7,↓D9 hst (Cu _ _ _ _ _ _)];exact AG _ _ _
        ·simp only [↓Qy,↓XX,XY,↓reduceIte,Nat.reduceBEq,Nat.reduceAdd,Int.reduceEq,Int.reduceLT,Int.reduceLE,↓XV,h9,↓Hn hk0,h7,↓D9 hst (Cu _ _ _ _ _ _)];exact AG _ _ _
      ·rw [if_neg h7] at hev;obtain ⟨rfl,rfl,rfl⟩:=Cv hev;rcases h89 with h8 | h9
       ·simp only [↓Qy,↓XX,XY,↓reduceIte,Nat.reduceBEq,Nat.reduceAdd,Int.reduceEq,Int.reduceLT,Int.reduceLE,↓XV,h8,↓Hn hk0,h7];exact AG _ _ _
       ·simp only [↓Qy,↓XX,XY,↓reduceIte,Nat.reduceBEq,Nat.reduceAdd,Int.reduceEq,Int.reduceLT,Int.reduceLE,↓XV,h9,↓Hn hk0,h7];exact AG _ _ _
    ·rw [if_neg h89] at hev;have h8:¬ v.op=8:=fun e=>h89 (.inl e);have h9:¬ v.op=9:=fun e=>h89 (.inr e);by_cases h30:v.op=30
     ·rw [if_pos h30] at hev;cases hk0:v.k[0]? with
      | none=>rw [hk0] at hev;cases hev
      | some k0 =>
       rw [hk0] at hev;simp only at hev;by_cases h7:k0.op=19
       ·rw [if_pos h7] at hev;by_cases hq:s+1<=1000
        ·rw [if_pos hq] at hev;simp only [hq,decide_true,if_true] at hst;cases hx:k0.k[0]? with
         | none=>rw [hx] at hev;cases hev
         | some x =>
          rw [hx] at hev;obtain ⟨rfl,rfl,rfl⟩:=Cv hev;simp only [↓Qy,↓XX,XY,↓reduceIte,Nat.reduceBEq,Nat.reduceAdd,Int.reduceEq,Int.reduceLT,Int.reduceLE,↓XV,h30,↓Hn hk0,h7,↓D9 hst (Cu _ _ _ _ _ _),↓Hn hx];exact AG _ _ _
        ·rw [if_neg hq] at hev;obtain ⟨rfl,rfl,rfl⟩:=Cv hev;simp only [hq,decide_false,if_false] at hst;simp only [↓Qy,↓XX,XY,↓reduceIte,Nat.reduceBEq,Nat.reduceAdd,Int.reduceEq,Int.reduceLT,Int.reduceLE,↓XV,h30,↓Hn hk0,h7,↓D9 hst (Cu _ _ _ _ _ _)];exact AG _ _ _
       ·rw [if_neg h7] at hev;obtain ⟨rfl,rfl,rfl⟩:=Cv hev;simp only [↓Qy,↓XX,XY,↓reduceIte,Nat.reduceBEq,Nat.reduceAdd,Int.reduceEq,Int.reduceLT,Int.reduceLE,↓XV,h30,↓Hn hk0,h7];exact AG _ _ _
     ·rw [if_neg h30] at hev;by_cases h19:v.op=19
      ·rw [if_pos h19] at hev;cases hk0:v.k[0]? with
       | none=>rw [hk0] at hev;cases hev
       | some k0 =>
        rw [hk0] at hev;simp only at hev;by_cases h7:k0.op=30
        ·rw [if_pos h7] at hev;by_cases hq:s+1<=1000
         ·rw [if_pos hq] at hev;simp only [hq,decide_true,if_true] at hst;cases hx:k0.k[0]? with
          | none=>rw [hx] at hev;cases hev
          | some x =>
           rw [hx] at hev;obtain ⟨rfl,rfl,rfl⟩:=Cv hev;simp only [↓Qy,↓XX,XY,↓reduceIte,Nat.reduceBEq,Nat.reduceAdd,Int.reduceEq,Int.reduceLT,Int.reduceLE,↓XV,h19,↓Hn hk0,h7,↓D9 hst (Cu _ _ _ _ _ _),↓Hn hx];exact AG _ _ _
         ·rw [if_neg hq] at hev;obtain ⟨rfl,rfl,rfl⟩:=Cv hev;simp only [hq,decide_false,if_false] at hst;simp only [↓Qy,↓XX,XY,↓reduceIte,Nat.reduceBEq,Nat.reduceAdd,Int.reduceEq,Int.reduceLT,Int.reduceLE,↓XV,h19,↓Hn hk0,h7,↓D9 hst (Cu _ _ _ _ _ _)];exact AG _ _ _
        ·rw [if_neg h7] at hev;obtain ⟨rfl,rfl,rfl⟩:=Cv hev;simp only [↓Qy,↓XX,XY,↓reduceIte,Nat.reduceBEq,Nat.reduceAdd,Int.reduceEq,Int.reduceLT,Int.reduceLE,↓XV,h19,↓Hn hk0,h7];exact AG _ _ _
      ·rw [if_neg h19] at hev;by_cases h13:v.op=13
       ·rw [if_pos h13] at hev;cases hk0:v.k[0]? with
        | none=>rw [hk0] at hev;cases hev
        | some k0 =>
        cases hk1:v.k[1]? with
        | none=>rw [hk0,hk1] at hev;cases hev
        | some k1 =>
        cases hk2:v.k[2]? with
        | none=>rw [hk0,hk1,hk2] at hev;cases hev
        | some k2 =>
        cases hk3:v.k[3]? with
        | none=>rw [hk0,hk1,hk2,hk3] at hev;cases hev
        | some k3 =>
        rw [hk0,hk1,hk2,hk3] at hev;simp only at hev;by_cases h11:k3.op=11
        ·rw [if_pos h11] at hev;by_cases hq:s+1<=1000
         ·rw [if_pos hq] at hev;obtain ⟨rfl,rfl,rfl⟩:=Cv hev;simp only [hq,decide_true,if_true] at hst;simp only [↓Qy,↓XX,XY,↓reduceIte,Nat.reduceBEq,Nat.reduceAdd,Int.reduceEq,Int.reduceLT,Int.reduceLE,↓XV,h13,↓AlS hk3,h11,↓D9 hst (Cu _ _ _ _ _ _),↓AmE hk1];exact AG _ _ _
         ·rw [if_neg hq] at hev;obtain ⟨rfl,rfl,rfl⟩:=Cv hev;simp only [hq,decide_false,if_false] at hst;simp only [↓Qy,↓XX,XY,↓reduceIte,Nat.reduceBEq,Nat.reduceAdd,Int.reduceEq,Int.reduceLT,Int.reduceLE,↓XV,h13,↓AlS hk3,h11,↓D9 hst (Cu _ _ _ _ _ _)];exact AG _ _ _
        ·rw [if_neg h11] at hev;by_cases h12:k3.op=12
         ·rw [if_pos h12] at hev;by_cases hq:s+1<=1000
          ·rw [if_pos hq] at hev;simp only [hq,decide_true,if_true] at hst;cases hx:k3.k[0]? with
           | none=>rw [hx] at hev;cases hev
           | some x =>
           rw [hx] at hev;simp only at hev;cases hd:headR f (s+1) 0 (.node 13 0 [k0,k1,k2,x]) with
           | none=>rw [hd] at hev;cases hev
           | some q =>
           obtain ⟨h,s2,e2⟩:=q;rw [hd] at hev;simp only at hev;by_cases hl:900000<k2.env.length
           ·rw [if_pos hl] at hev;cases hev
           ·rw [if_neg hl] at hev;have hcall:=he s2 e2 k2.b (k2.env++[x,h]) w s' e' nd hev n (by omega);rw [X1] at hcall;have hcall2:=hh (s+1) 0 _ h s2 e2 nd hd n (by omega);rw [AxJ] at hcall2;simp only [ACb,ACa] at hcall2;have hp:=Ug (n:=n) (by omega) k2.env [x,h] (by simp) (by simp;omega);simp only [ACb,ACa] at hp;have hcall3:=fun k=>SB (k:=k) (own:=[(92295190,.row [iv 13,iv 0,.clip [k0.enc,k1.enc,k2.enc,x.enc],.nils,iv 0,iv 0,.nils] false)])
             (cells:=[iv 13,iv 0,.clip [k0.enc,k1.enc,k2.enc,x.enc],.nils,iv 0,iv 0,.nils]) (ro:=false) (s:=92295190) hcall2 (Cu ..) (by simp [An]) rfl (by simp)
            simp only [↓Qy,↓XX,XY,↓reduceIte,Nat.reduceBEq,Nat.reduceAdd,Int.reduceEq,Int.reduceLT,Int.reduceLE,↓XV,h13,↓AlS hk3,h11,h12,↓D9 hst (Cu _ _ _ _ _ _),↓Hn hx,↓Hn hk0,↓AmE hk1,↓Awm hk2,↓Av7,↓hcall3,↓Avr,↓Ad hp,↓Kc hcall (Cu _ _ _ _ _ _)];exact AG _ _ _
          ·rw [if_neg hq] at hev;obtain ⟨rfl,rfl,rfl⟩:=Cv hev;simp only [hq,decide_false,if_false] at hst;simp only [↓Qy,↓XX,XY,↓reduceIte,Nat.reduceBEq,Nat.reduceAdd,Int.reduceEq,Int.reduceLT,Int.reduceLE,↓XV,h13,↓AlS hk3,h11,h12,↓D9 hst (Cu _ _ _ _ _ _)];exact AG _ _ _
         ·rw [if_neg h12] at hev;obtain ⟨rfl,rfl,rfl⟩:=Cv hev;simp only [↓Qy,↓XX,XY,↓reduceIte,Nat.reduceBEq,Nat.reduceAdd,Int.reduceEq,Int.reduceLT,Int.reduceLE,↓XV,h13,↓AlS hk3,h11,h12];exact AG _ _ _
       ·rw [if_neg h13] at hev;obtain ⟨rfl,rfl,rfl⟩:=Cv hev;simp only [↓Qy,↓XX,XY,↓reduceIte,Nat.reduceBEq,Nat.reduceAdd,Int.reduceEq,Int.reduceLT,Int.reduceLE,↓XV,h5,h8,h9,h30,h19,h13];exact AG _ _ _
theorem AhF:∀f,Tk f/\R6 f:=by
 intro f
 induction f with
 | zero=>exact ⟨(by intro s e t env v s' e' nd h;rw [AB] at h;cases h),(by intro s e v w s' e' nd h;rw [headR] at h;cases h)⟩
 | succ f ih=>exact ⟨Ajx ih.1 ih.2,Ajy ih.1 ih.2⟩
end Idl
end Go.Proofs.Ytkfecngimlcfoaa

/- Part 10 of a proof. No statement is proved here. -/
import Derived.KernelRfl
import Derived.Test.YtnenpcghegcnhaaGreatKernelShiftK9
set_option linter.all false
set_option maxRecDepth 20000
set_option maxHeartbeats 16000000
noncomputable section
namespace Go.Proofs.YtnenpcghegcnhaaGreat
namespace Idl
theorem ZD (f:Nat) (G:Ah->Nat->Hp->Option (IV×Hp)) (e:dt.call f=fun ih n=>ar0 (G ih n):=by kernel_rfl) (n:Nat) (h:Hp):SS dt (n+1) f [] h=G (SS dt n) n  h:=by
 show dt.call f (SS dt n) n _ h=_
 rw [e];rfl
theorem BK (f:Nat) (G:Ah->Nat->IV->Hp->Option (IV×Hp)) (e:dt.call f=fun ih n=>ar1 (G ih n):=by kernel_rfl) (n:Nat) (a0:IV) (h:Hp):SS dt (n+1) f [a0] h=G (SS dt n) n a0 h:=by
 show dt.call f (SS dt n) n _ h=_
 rw [e];rfl
theorem A8 (f:Nat) (G:Ah->Nat->IV->IV->Hp->Option (IV×Hp)) (e:dt.call f=fun ih n=>ar2 (G ih n):=by kernel_rfl) (n:Nat) (a0 a1:IV) (h:Hp):SS dt (n+1) f [a0,a1] h=G (SS dt n) n a0 a1 h:=by
 show dt.call f (SS dt n) n _ h=_
 rw [e];rfl
theorem BU (f:Nat) (G:Ah->Nat->IV->IV->IV->Hp->Option (IV×Hp)) (e:dt.call f=fun ih n=>ar3 (G ih n):=by kernel_rfl) (n:Nat) (a0 a1 a2:IV) (h:Hp):SS dt (n+1) f [a0,a1,a2] h=G (SS dt n) n a0 a1 a2 h:=by
 show dt.call f (SS dt n) n _ h=_
 rw [e];rfl
theorem Cr (f:Nat) (G:Ah->Nat->IV->IV->IV->IV->Hp->Option (IV×Hp)) (e:dt.call f=fun ih n=>ar4 (G ih n):=by kernel_rfl) (n:Nat) (a0 a1 a2 a3:IV) (h:Hp):SS dt (n+1) f [a0,a1,a2,a3] h=G (SS dt n) n a0 a1 a2 a3 h:=by
 show dt.call f (SS dt n) n _ h=_
 rw [e];rfl
theorem cH (f:Nat) (G:Ah->Nat->IV->IV->IV->IV->IV->Hp->Option (IV×Hp)) (e:dt.call f=fun ih n=>ar5 (G ih n):=by kernel_rfl) (n:Nat) (a0 a1 a2 a3 a4:IV) (h:Hp):SS dt (n+1) f [a0,a1,a2,a3,a4] h=G (SS dt n) n a0 a1 a2 a3 a4 h:=by
 show dt.call f (SS dt n) n _ h=_
 rw [e];rfl
theorem AeA (f:Nat) (G:Ah->Nat->IV->IV->IV->IV->IV->IV->Hp->Option (IV×Hp)) (e:dt.call f=fun ih n=>ar6 (G ih n):=by kernel_rfl) (n:Nat) (a0 a1 a2 a3 a4 a5:IV) (h:Hp):SS dt (n+1) f [a0,a1,a2,a3,a4,a5] h=G (SS dt n) n a0 a1 a2 a3 a4 a5 h:=by
 show dt.call f (SS dt n) n _ h=_
 rw [e];rfl
def c7:=cH 7 S7
def t9:=BK 12 uL
def c13:=BK 13 S13
def c14:=Cr 14 S14
def QR:=BU 19 S19
def c20:=BK 20 S20
def c21:=BK 21 S21
def c22:=BU 22 S22
def c23:=A8 23 kZ
def c24:=BK 24 S24
def c26:=A8 26 S26
def c28:=BK 28 S28
def zS:=BU 29 S29
def kV:=Cr 30 S30
def c31:=BU 31 S31
def c32:=BU 32 S32
def c33:=Cr 33 S33
def c34:=A8 34 S34
def c35:=BU 35 mR
def c38:=A8 38 S38
def c39:=BK 39 S39
def c40:=A8 40 zL
def c41:=A8 41 S41
def qA:=Cr 42 S42
def c43:=BK 43 S43
def c45:=BK 45 zN
def c47:=A8 47 qN
def c48:=BK 48 S48
def VA:=A8 49 S49
def c50:=BK 50 S50
def c51:=Cr 51 pR
def Sz:=A8 52 S52
def c53:=BU 53 S53
def c54:=BK 54 S54
def c55:=A8 55 S55
def c56:=BK 56 S56
def c57:=A8 57 S57
def c58:=BU 58 S58
def c59:=Cr 59 S59
def c60:=BU 60 S60
def c61:=BK 61 S61
def c62:=A8 62 S62
def c63:=A8 63 S63
def c64:=ZD 64 S64
def c65:=A8 65 S65
def c66:=Cr 66 S66
def c67:=Cr 67 zQ
def qH:=Cr 68 S68
def c69:=Cr 69 S69
def c70:=A8 70 S70
def c71:=A8 71 S71
def c72:=Cr 72 S72
def c73:=BU 73 S73
def c74:=BU 74 S74
def c75:=Cr 75 S75
def Y5:=A8 76 S76
def c77:=A8 77 S77
def c78:=A8 78 S78
def c79:=A8 79 tO
def c80:=BU 80 S80
def c81:=A8 81 S81
def c82:=BK 82 zI
def c83:=BU 83 S83
def iF:=A8 84 S84
def iX:=A8 85 S85
def c86:=A8 86 S86
def c87:=A8 87 S87
def c88:=A8 88 vP
def c89:=A8 89 S89
def c90:=BK 90 S90
def c91:=BK 91 S91
def c92:=BK 92 S92
def c93:=BK 93 S93
def c94:=A8 94 xR
def c95:=BK 95 S95
def c96:=ZD 96 S96
def c97:=BU 97 S97
def c98:=Cr 98 S98
def c99:=BU 99 S99
def Agp:=BU 100 w6
def Ady:=Cr 101 wA
def AfP:=Cr 102 uH
def tE:=A8 103 gB
def Adv:=BU 104 yN
def AeY:=Cr 105 bU
def AeH:=Cr 106 sL
def Adh:=BU 107 tY
def Ad4:=BU 108 vE
def AdL:=BU 109 rH
def AdR:=BU 110 sI
def Aem:=BU 111 yT
def Aei:=Cr 112 v8
def Ad1:=A8 113 v6
def Afv:=cH 114 tL
def PW:=A8 115 S115
def Agx:=BK 116 lM
def Adg:=BK 117 vV
def Agb:=A8 118 vU
def AeU:=BK 119 Tl
def Ad5:=A8 120 oH
def AeV:=A8 121 bK
def Adr:=A8 122 cW
def AdA:=A8 123 uB
def Ago:=A8 124 vI
def AfS:=BK 125 dI
def AdT:=A8 126 hZ
def AdC:=A8 127 zE
def Af5:=A8 128 Pi
def Aez:=Cr 129 sG
def AeF:=BU 130 YU
def AeI:=Cr 131 i5
def AeO:=A8 132 tZ
def Adj:=BU 133 vK
def Aea:=A8 134 xX
def AdP:=BU 135 wO
def Afo:=A8 136 sQ
def Agd:=A8 137 tJ
def AfV:=BK 138 rT
def Afx:=A8 139 ZT
def Ae7:=A8 140 lZ
def Aeu:=A8 141 RO
def Agh:=A8 142 d7
def Ade:=BK 143 v5
def Af3:=BK 144 rX
def Afc:=BU 145 SX
def Adt:=BU 146 Z2
def Aff:=Cr 147 gN
def AfE:=BK 149 Ta
def Aeb:=BU 150 Tg
def Aek:=BK 151 S151
def Ad0:=BK 152 Yk
theorem Rh {a b c d e f g h i:Prop}(p:a)(q:b)(r:c)(s:d)(t:e)(u:f)(v:g)(w:h)(x:i):a/\b/\c/\d/\e/\f/\g/\h/\i:=⟨p,q,r,s,t,u,v,w,x⟩
def iO:=AiY @Uo.eq_1<|AiY @SN.eq_1<|AiY @dB.eq_1<|AiY @TH.eq_1<|AiY @TC.eq_1<|@S7.eq_1
def nU:=AiY @Rm.eq_1<|AiY @Ss.eq_1<|AiY @Sr.eq_1<|@S115.eq_1
def iS:=AiY @UE.eq_1<|AiY @Ve.eq_1<|AiY @WL.eq_1<|@S85.eq_1
def iH:=AiY @VV.eq_1<|AiY @VQ.eq_1<|AiY @VW.eq_1<|AiY @Xs.eq_1<|AiY @Xh.eq_1<|AiY @UI.eq_1<|@S84.eq_1
def QT:=AiY @W6.eq_1<|AiY @Xq.eq_1<|AiY @Xl.eq_1<|AiY @XC.eq_1<|AiY @WY.eq_1<|AiY @Wy.eq_1<|AiY @W4.eq_1<|@S19.eq_1
def W8:=AiY @W7.eq_1<|AiY @VU.eq_1<|AiY @W0.eq_1<|AiY @Wi.eq_1<|AiY @Wd.eq_1<|AiY @W3.eq_1<|@S49.eq_1
def Y7:=AiY @Vn.eq_1<|AiY @Ut.eq_1<|AiY @WD.eq_1<|AiY @Wh.eq_1<|AiY @UG.eq_1<|@S76.eq_1
def TO:=Rh @O8.eq_1 @PO.eq_1 @QF.eq_1 @Px.eq_1 @O2.eq_1 @Pr.eq_1 @Qm.eq_1 @Qu.eq_1<|AiY @Qb.eq_1<|AiY @OP.eq_1<|AiY @H8.eq_1<|@S61.eq_1
def UU9:=AiY @Ey.eq_1<|AiY @GN.eq_1<|AiY @ED.eq_1<|AiY @Ez.eq_1<|AiY @Ew.eq_1<|AiY @EA.eq_1<|@S59.eq_1
def FL:=Rh @Xe.eq_1 @VB.eq_1 @Vu.eq_1 @UX.eq_1 @Xz.eq_1 @UO.eq_1 @V9.eq_1 @UL.eq_1<|AiY @VS.eq_1<|AiY @WJ.eq_1<|AiY @UR.eq_1<|@S87.eq_1
def Rb:=AiY @Ii.eq_1<|AiY @H5.eq_1<|AiY @H1.eq_1<|AiY @UF.eq_1<|AiY @HU.eq_1<|@S60.eq_1
def eH:=AiY @HZ.eq_1<|AiY @HS.eq_1<|AiY @H6.eq_1<|@S69.eq_1
def gR:=AiY @I6.eq_1<|AiY @J8.eq_1<|@S53.eq_1
def S0:=AiY @Py.eq_1<|AiY @VP.eq_1<|AiY @Qd.eq_1<|@S80.eq_1
def Il:=Rh @W1.eq_1 @VZ.eq_1 @V4.eq_1 @WV.eq_1 @WB.eq_1 @WN.eq_1 @We.eq_1 @V7.eq_1<|AiY @UT.eq_1<|@S52.eq_1
def fJ:=AiY @Us.eq_1<|AiY @U1.eq_1<|AiY @WM.eq_1<|@S77.eq_1
def cV:=AiY @Wa.eq_1<|AiY @Wo.eq_1<|AiY @Vo.eq_1<|@S78.eq_1
def aI:=AiY @JQ.eq_1<|AiY @Kc.eq_1<|@S95.eq_1
def T5:=Rh @D5.eq_1 @DV.eq_1 @CY.eq_1 @DW.eq_1 @DH.eq_1 @DP.eq_1 @DC.eq_1 @E1.eq_1<|AiY @DI.eq_1<|@S98.eq_1
def dN:=AiY @LG.eq_1<|AiY @Vg.eq_1<|AiY @Ly.eq_1<|@S97.eq_1
def eV:=AiY @Sc.eq_1<|AiY @Sj.eq_1<|@S151.eq_1
def Yc:=AiY @XA.eq_1<|AiY @Va.eq_1<|AiY @Wt.eq_1<|@S14.eq_1
def QX:=AiY @Tc.eq_1<|AiY @SL.eq_1<|AiY @dX.eq_1<|@S28.eq_1
def Jg:=Rh @UC.eq_1 @VR.eq_1 @WH.eq_1 @Xj.eq_1 @Wp.eq_1 @UM.eq_1 @Vp.eq_1 @Xa.eq_1<| @S30.eq_1
def Mz:=Rh @Xd.eq_1 @Uy.eq_1 @Vf.eq_1 @V6.eq_1 @Vl.eq_1 @Vh.eq_1 @WR.eq_1 @Vv.eq_1<|AiY @W5.eq_1<|AiY @Vx.eq_1<|@S42.eq_1
def R0:=Rh @Vc.eq_1 @WA.eq_1 @UB.eq_1 @Vb.eq_1 @Vd.eq_1 @XM.eq_1 @UY.eq_1 @XL.eq_1<|AiY @UU.eq_1<|AiY @Xg.eq_1<|AiY @XJ.eq_1<|@S72.eq_1
def IA:=Rh @Vt.eq_1 @Vw.eq_1 @Xr.eq_1 @Vi.eq_1 @Wl.eq_1 @Xv.eq_1 @W2.eq_1 @VL.eq_1<|AiY @VM.eq_1<|AiY @XF.eq_1<|AiY @Vj.eq_1<|AiY @Wr.eq_1<|AiY @Wf.eq_1<|@S68.eq_1
def Jh:=AiY @Wn.eq_1<|AiY @Wc.eq_1<|AiY @WI.eq_1<|AiY @WP.eq_1<|@S29.eq_1
def Nw:=AiY @Qo.eq_1<|AiY @QK.eq_1<|AiY @XK.eq_1<|@S66.eq_1
section
variable {β:Type} {E:Env} {t:TypeId}
abbrev iv (n:Int):IV:=.fv (.int .i64 n)
theorem tI (c:Prop) [Decidable c] (a b:Option β):Ai (.fv (.bool (decide c))) a b=if c then a else b:=by
 by_cases h:c
 ·rw [decide_eq_true h,if_pos h];rfl
 ·rw [decide_eq_false h,if_neg h];rfl
theorem kH (o:Nat) (r:Ref) (off:Nat) (k:IV->Option β):Ab o (.ptr r off) k=k (.ptr r (off+o)):=by
 show (Ec (off+o) fun o=>k (.ptr r o))=_
 rw [Ca]
theorem OM (o:Nat) (cs:List FV) (off:Nat) (k:IV->Option β):Ab o (.fv (.fp cs off)) k=k (.fv (.fp cs (off+o))):=by
 show (Ec (off+o) fun o=>k (.fv (.fp cs o)))=_
 rw [Ca]
theorem u9 {size:Nat} {es:List FV} {n:Nat} {el:FV} (he:es[n]?=some el) (hl:el.cells.length=size) (k:IV->Option β):AQ size (.fv (.sl es)) (iv n) k=k (.fv (.fp el.cells 0)):=by
 show (DD es n fun el=>elK size el k)=_
 rw [Dk,he]
 show elK size el k=_
 rw [gY,if_pos hl]
theorem KG {op:BinOp} {g:Nat->Nat->Bool} (hg:∀a b:Nat,EL E op t (iv a) (iv b)=some (.fv (.bool (g a b)))) (a b:Int) (k:IV->Option β) :
  QA E t op g (iv a) (iv b) k=(EL E op t (iv a) (iv b)).bind k:=by
 cases a with
 | ofNat a =>
  cases b with
  | ofNat b =>
   show Z9 (g a b) k=_
   rw [Rs,show EL E op t (iv (Int.ofNat a)) (iv (Int.ofNat b))=some (.fv (.bool (g a b))) from hg a b]
   rfl
  | negSucc b =>
   show CZ E t op _ _ k=_
   rw [CZ,CJ]
 | negSucc a =>
  show CZ E t op _ _ k=_
  rw [CZ,CJ]
theorem AbG (a b:Int) (k:IV->Option β):AP E t (iv a) (iv b) k=k (.fv (.bool (decide (a=b)))):=by
 rw [AP,KG (fun a b=>by
  show some (IV.fv (.bool ((a:Int) == (b:Int))))=_
  rw [HP];congr 3;exact decide_eq_decide.2 Int.ofNat_inj)]
 rfl
theorem AbB (a b:Int) (k:IV->Option β):BL E t (iv a) (iv b) k=k (.fv (.bool (!decide (a=b)))):=by
 rw [BL,KG (fun a b=>by
  show some (IV.fv (.bool ((a:Int) != (b:Int))))=_
  rw [HP];congr 3
  show (!decide ((a:Int)=(b:Int)))=!decide (a=b)
  congr 1;exact decide_eq_decide.2 Int.ofNat_inj)]
 rfl
theorem AcC (a b:Int) (k:IV->Option β):Fk E t (iv a) (iv b) k=k (.fv (.bool (decide (a<b)))):=by
 rw [Fk,KG (fun a b=>by
  show some (IV.fv (.bool (decide ((a:Int)<(b:Int)))))=_
  rw [Bp];congr 3;exact decide_eq_decide.2 (by omega))]
 rfl
theorem AaB (a b:Int) (k:IV->Option β):Xm E t (iv a) (iv b) k=k (.fv (.bool (decide (a<=b)))):=by
 rw [Xm,KG (fun a b=>by
  show some (IV.fv (.bool (decide ((a:Int)<=(b:Int)))))=_
  rw [Bp];congr 3;exact decide_eq_decide.2 (by omega))]
 rfl
theorem Aco (b:Bool) (k:IV->Option β):C5 (KE .not (.fv (.bool b))) k=k (.fv (.bool !b)):=by rw [CJ];rfl
end
section
variable {β:Type} {α:Type}
theorem n0 (a:α) (l:List α) (k:α->Option β):DD (a::l) 0 k=k a:=rfl
theorem n1 (a b:α) (l:List α) (k:α->Option β):DD (a::b::l) 1 k=k b:=rfl
theorem n2 (a b c:α) (l:List α) (k:α->Option β):DD (a::b::c::l) 2 k=k c:=rfl
theorem n3 (a b c d:α) (l:List α) (k:α->Option β):DD (a::b::c::d::l) 3 k=k d:=rfl
theorem n4 (a b c d e:α) (l:List α) (k:α->Option β):DD (a::b::c::d::e::l) 4 k=k e:=rfl
theorem n5 (a b c d e f:α) (l:List α) (k:α->Option β):DD (a::b::c::d::e::f::l) 5 k=k f:=rfl
theorem n6 (a b c d e f g:α) (l:List α) (k:α->Option β):DD (a::b::c::d::e::f::g::l) 6 k=k g:=rfl
theorem d0 (l:List α) (k:List α->Option β):Fw l 0 k=k l:=by cases l<;>rfl
theorem d1 (a:α) (l:List α) (k:List α->Option β):Fw (a::l) 1 k=k l:=by cases l<;>rfl
theorem d2 (a b:α) (l:List α) (k:List α->Option β):Fw (a::b::l) 2 k=k l:=by cases l<;>rfl
theorem d3 (a b c:α) (l:List α) (k:List α->Option β):Fw (a::b::c::l) 3 k=k l:=by cases l<;>rfl
theorem d4 (a b c d:α) (l:List α) (k:List α->Option β):Fw (a::b::c::d::l) 4 k=k l:=by cases l<;>rfl
theorem t1 (a:α) (l:List α) (k:List α->Option β):FK (a::l) 1 k=k [a]:=by cases l<;>rfl
theorem t2 (a b:α) (l:List α) (k:List α->Option β):FK (a::b::l) 2 k=k [a,b]:=by cases l<;>rfl
theorem t3 (a b c:α) (l:List α) (k:List α->Option β):FK (a::b::c::l) 3 k=k [a,b,c]:=by cases l<;>rfl
theorem t4 (a b c d:α) (l:List α) (k:List α->Option β):FK (a::b::c::d::l) 4 k=k [a,b,c,d]:=by cases l<;>rfl
theorem t7 (a b c d e f g:α) (l:List α) (k:List α->Option β):FK (a::b::c::d::e::f::g::l) 7 k=k [a,b,c,d,e,f,g]:=by cases l<;>rfl
theorem bE (l:List α) (k:List α->Option β):dU l k=k l:=HA l k
theorem ap0 (us:List α) (k:List α->Option β):Lf [] us k=k us:=rfl
theorem ap1 (u:α) (l us:List α) (k:List α->Option β):Lf (u::l) us k=Lf l us fun w=>k (u::w):=rfl
theorem Abv (a:α) (l:List α) (k:α->List α->Option β):Ay (a::l) k=k a l:=rfl
theorem iI {γ:Type} (a b:γ):cond true a b=a:=rfl
theorem c_f {γ:Type} (a b:γ):cond false a b=b:=rfl
end
section
variable {β:Type}
theorem pL {s j:Nat} (h:(s == j)=false):Nat.beq s j=false:=by rw [HP];simpa using h
theorem Jn (s:Nat) (own:List (Nat×Blk)) (ext:List Blk) (k:Blk->Option β):Dq (.own s) ⟨own,ext⟩ k=E3 own s k:=rfl
theorem AaI (j:Nat) (own:List (Nat×Blk)) (ext:List Blk) (k:Blk->Option β):Dq (.ext j) ⟨own,ext⟩ k=DD ext j k:=rfl
theorem qZ (s:Nat) (b:Blk) (l:List (Nat×Blk)) (k:Blk->Option β):E3 ((s,b)::l) s k=k b:=by
 show cond (Nat.beq s s) (k b) _=_
 rw [show Nat.beq s s=true from Nat.beq_refl s]
 rfl
theorem sX {s j:Nat} (hne:(s == j)=false) (b:Blk) (l:List (Nat×Blk)) (k:Blk->Option β):E3 ((j,b)::l) s k=E3 l s k:=by
 show cond (Nat.beq s j) (k b) _=_
 rw [show Nat.beq s j=false from pL hne]
 rfl
theorem Aac (s:Nat) (b:Blk) (k:List (Nat×Blk)->Option β):Bc [] s b k=k [(s,b)]:=rfl
theorem pX (s:Nat) (b c:Blk) (l:List (Nat×Blk)) (k:List (Nat×Blk)->Option β):Bc ((s,c)::l) s b k=k ((s,b)::l):=by
 show cond (Nat.beq s s) _ _=_
 rw [show Nat.beq s s=true from Nat.beq_refl s]
 rfl
theorem wS {s j:Nat} (hne:(s == j)=false) (b c:Blk) (l:List (Nat×Blk)) (k:List (Nat×Blk)->Option β):Bc ((j,c)::l) s b k=Bc l s b fun l=>k ((j,c)::l):=by
 show cond (Nat.beq s j) _ _=_
 rw [show Nat.beq s j=false from pL hne]
 rfl
theorem Abd (s:Nat) (a:Option β):CS [] s a=a:=rfl
theorem rI {s j:Nat} (hne:(s == j)=false) (b:Blk) (l:List (Nat×Blk)) (a:Option β):CS ((j,b)::l) s a=CS l s a:=by
 show cond (Nat.beq s j) none _=_
 rw [show Nat.beq s j=false from pL hne]
 rfl
theorem V8 (s:Nat) (b:Blk) (own:List (Nat×Blk)) (ext:List Blk) (k:Hp->Option β):FH (.own s) b ⟨own,ext⟩ k=Bc own s b fun own=>k ⟨own,ext⟩:=rfl
theorem kO (j:Nat) (b:Blk) (own:List (Nat×Blk)) (ext:List Blk) (k:Hp->Option β):FH (.ext j) b ⟨own,ext⟩ k=Oe ext j b fun ext=>k ⟨own,ext⟩:=rfl
theorem sn0 {α:Type} (a b:α) (l:List α) (k:List α->Option β):Oe (a::l) 0 b k=k (b::l):=rfl
theorem AaP (s:Nat) (b:Blk) (v:IV) (own:List (Nat×Blk)) (ext:List Blk) (k:KT β) :
  EU s b v ⟨own,ext⟩ k=CS own s (Bc own s b fun own=>k v ⟨own,ext⟩ [] [.own s]):=rfl
theorem LL (s:Nat) (cs:List FV) (h:Hp) (k:KT β):AE s (.fv (.agg cs)) h k=EU s (.row (cs.map .fv) false) (.ptr (.own s) 0) h k:=by
 show dU (cs.map IV.fv) _=_
 rw [HA]
theorem Abn (s:Nat) (a b:FV) (h:Hp) (k:KT β):AE s (.fv (.agg [a,b])) h k=EU s (.row [.fv a,.fv b] false) (.ptr (.own s) 0) h k:=LL ..
theorem zW (s:Nat) (a b c:FV) (h:Hp) (k:KT β):AE s (.fv (.agg [a,b,c])) h k=EU s (.row [.fv a,.fv b,.fv c] false) (.ptr (.own s) 0) h k:=LL ..
theorem AcN (s:Nat) (a b c d:FV) (h:Hp) (k:KT β):AE s (.fv (.agg [a,b,c,d])) h k=EU s (.row [.fv a,.fv b,.fv c,.fv d] false) (.ptr (.own s) 0) h k:=LL ..
theorem AcI (s:Nat) (a:FV) (h:Hp) (k:KT β):AE s (.fv (.agg [a])) h k=EU s (.row [.fv a] false) (.ptr (.own s) 0) h k:=LL ..
theorem RM (s:Nat) (cs:List IV) (h:Hp) (k:KT β):AE s (.agg cs) h k=EU s (.row cs false) (.ptr (.own s) 0) h k:=by
 show dU cs _=_
 rw [HA]
theorem mN {x:IV} (hx:x.one=true) (s:Nat) (h:Hp) (k:KT β):AE s x h k=EU s (.row [x] false) (.ptr (.own s) 0) h k:=by unfold AE;rw [hx];rfl
theorem yY (k:IntKind) (n:Int):IV.one (.fv (.int k n))=true:=rfl
theorem kS (b:Bool):IV.one (.fv (.bool b))=true:=rfl
theorem AbC (l:List FV):IV.one (.fv (.sl l))=true:=rfl
theorem AbF (l:List FV) (o:Nat):IV.one (.fv (.fp l o))=true:=rfl
theorem mW (fn:Fn) (a b:List FV):IV.one (.fv (.func fn a b))=true:=rfl
theorem j5:IV.one (.fv .nilp)=true:=rfl
theorem l7:IV.one .nils=true:=rfl
theorem uS (r:Ref) (o:Nat):IV.one (.ptr r o)=true:=rfl
theorem tU (r:Ref) (a b:Nat):IV.one (.slc r a b)=true:=rfl
theorem yQ (r:Ref) (l:List FV):IV.one (.app r l)=true:=rfl
theorem iK (l:List FV):IV.one (.clip l)=true:=rfl
theorem vS:IV.one .emp=true:=rfl
theorem sE (l:List IV):IV.one (.agg l)=false:=rfl
theorem mH (l:List FV):IV.one (.fv (.agg l))=false:=rfl
theorem yP (k:IntKind) (n:Int):G9 (.int k n)=true:=rfl
theorem lT (b:Bool):G9 (.bool b)=true:=rfl
theorem AcM (l:List FV):G9 (.sl l)=true:=rfl
theorem AaV (l:List FV) (o:Nat):G9 (.fp l o)=true:=rfl
theorem i7:G9 .nilp=true:=rfl
theorem zA (l:List FV):G9 (.agg l)=false:=rfl
theorem iL:DU []=true:=rfl
theorem QZ {v:FV} (h:G9 v=true) (l:List FV):DU (v::l)=DU l:=by
 show cond (G9 v) (DU l) false=_
 rw [h];rfl
theorem Pj (r:Ref) (o:Nat) (k:Ref->Nat->Option β) (kf:List FV->Nat->Option β):EF (.ptr r o) k kf=k r o:=rfl
theorem AfO (cs:List FV) (o:Nat) (k:Ref->Nat->Option β) (kf:List FV->Nat->Option β):EF (.fv (.fp cs o)) k kf=kf cs o:=rfl
theorem HL (cs:List IV) (ro:Bool) (k:List IV->Option β):DY (.row cs ro) k=k cs:=rfl
theorem UK (cs:List IV) (k:List IV->Option β):GM (.row cs false) k=k cs:=rfl
theorem fX (v:FV) (e:Option β) (k:FV->Option β):Nq (.fv v) e k=k v:=rfl
theorem TN (l:List IV) (e:Option β) (k:FV->Option β):Nq (.agg l) e k=e:=rfl
theorem uZ (e:Option β) (k:FV->Option β):Nq .nils e k=e:=rfl
theorem vH (r:Ref) (o:Nat) (e:Option β) (k:FV->Option β):Nq (.ptr r o) e k=e:=rfl
theorem uQ (r:Ref) (o:List FV) (e:Option β) (k:FV->Option β):Nq (.app r o) e k=e:=rfl
theorem xP (o:List FV) (e:Option β) (k:FV->Option β):Nq (.clip o) e k=e:=rfl
theorem vR (r:Ref) (a b:Nat) (e:Option β) (k:FV->Option β):Nq (.slc r a b) e k=e:=rfl
theorem rL (e:Option β) (k:FV->Option β):Nq .emp e k=e:=rfl
theorem v9 (cs:List FV) (k:List FV->Option β):GP (.agg cs) k=k cs:=rfl
theorem AaL (cs:List IV) (k:List IV->Option β) (kf:List FV->Option β):asAgg (.agg cs) k kf=k cs:=rfl
theorem yF (cs:List FV) (k:List IV->Option β) (kf:List FV->Option β):asAgg (.fv (.agg cs)) k kf=kf cs:=rfl
theorem jM (e:Option β) (k:List FV->Option β):CH [] e k=k []:=rfl
theorem vN (v:FV) (l:List IV) (e:Option β) (k:List FV->Option β):CH (.fv v::l) e k=CH l e fun vs=>k (v::vs):=rfl
theorem Zz (l:List IV) (e:Option β) (k:List FV->Option β):CH (.nils::l) e k=e:=rfl
theorem jA (r:Ref) (es:List FV) (l:List IV) (e:Option β) (k:List FV->Option β):CH (.app r es::l) e k=e:=rfl
theorem dG (es:List FV) (l:List IV) (e:Option β) (k:List FV->Option β):CH (.clip es::l) e k=e:=rfl
theorem lC (r:Ref) (o:Nat) (l:List IV) (e:Option β) (k:List FV->Option β):CH (.ptr r o::l) e k=e:=rfl
theorem oG (r:Ref) (a b:Nat) (l:List IV) (e:Option β) (k:List FV->Option β):CH (.slc r a b::l) e k=e:=rfl
theorem nY (es l:List IV) (e:Option β) (k:List FV->Option β):CH (.agg es::l) e k=e:=rfl
theorem bH (r:Ref) (l:List IV) (e:Option β) (k:List FV->Option β):CH (.mapr r::l) e k=e:=rfl
theorem Aa9 (l:List IV) (k:IV->Option β):NC l k=CH l (k (.agg l)) fun vs=>k (.fv (.agg vs)):=rfl
theorem AaZ (l:List IV) (k:IV->Option β):T7 l k=CH l (k (.tuple l)) fun vs=>k (.fv (.tuple vs)):=rfl
theorem Aga (a:IV) (h:Hp) (k:IV->List Ref->Option β):Ag a h k=EF a (fun r o=>Dq r h fun b=>DY b fun cells=>DD cells o fun v=>k v [r]) fun cells o=>DD cells o fun v=>k (.fv v) []:=rfl
theorem AfL (size:Nat) (a:IV) (h:Hp) (k:IV->List Ref->Option β):Ae size a h k =
  EF a (fun r o=>Dq r h fun b=>DY b fun cells=>Fw cells o fun cs=>FK cs size fun cs=>NC cs fun v=>k v [r]) fun cells o=>Fw cells o fun cs=>FK cs size fun cs=>k (.fv (.agg cs)) []:=rfl
theorem sB (size:Nat) (a:IV) (h:Hp) (k:IV->Option β):An true size a h k=Ae size a h fun v _=>k v:=rfl
theorem tP (size:Nat) (a:IV) (h:Hp) (k:IV->Option β):An false size a h k=Ag a h fun v _=>k v:=rfl
theorem wr0 (l:List IV) (k:List IV->Option β):nQ [] l k=k l:=rfl
theorem wr1 (c:FV) (cs:List FV) (x:IV) (l:List IV) (k:List IV->Option β):nQ (c::cs) (x::l) k=nQ cs l fun t=>k (.fv c::t):=rfl
theorem sf0 (x:IV) (l:List IV) (cs:List FV) (k:List IV->Option β):Ef (x::l) 0 cs k=nQ cs (x::l) k:=rfl
theorem sf1 (x:IV) (l:List IV) (cs:List FV) (k:List IV->Option β):Ef (x::l) 1 cs k=Ef l 0 cs fun t=>k (x::t):=rfl
theorem sf2 (x y:IV) (l:List IV) (cs:List FV) (k:List IV->Option β):Ef (x::y::l) 2 cs k=Ef l 0 cs fun t=>k (x::y::t):=rfl
theorem sf3 (x y z:IV) (l:List IV) (cs:List FV) (k:List IV->Option β):Ef (x::y::z::l) 3 cs k=Ef l 0 cs fun t=>k (x::y::z::t):=rfl
theorem sf4 (x y z u:IV) (l:List IV) (cs:List FV) (k:List IV->Option β):Ef (x::y::z::u::l) 4 cs k=Ef l 0 cs fun t=>k (x::y::z::u::t):=rfl
theorem of0 (x b:IV) (l:List IV) (k:List IV->Option β):Gi (x::l) 0 b k=k (b::l):=rfl
theorem of1 (x y b:IV) (l:List IV) (k:List IV->Option β):Gi (x::y::l) 1 b k=k (x::b::l):=rfl
theorem of2 (x y z b:IV) (l:List IV) (k:List IV->Option β):Gi (x::y::z::l) 2 b k=k (x::y::b::l):=rfl
theorem of3 (x y z u b:IV) (l:List IV) (k:List IV->Option β):Gi (x::y::z::u::l) 3 b k=k (x::y::z::b::l):=rfl
theorem of6 (x y z u v w s b:IV) (l:List IV) (k:List IV->Option β):Gi (x::y::z::u::v::w::s::l) 6 b k=k (x::y::z::u::v::w::b::l):=rfl
theorem AfT (size:Nat) (a:IV) (cs:List FV) (h:Hp) (k:Hp->List Ref->List Ref->Option β):Ac size a (.fv (.agg cs)) h k =
  EF a (fun r o=>Dq r h fun b=>GM b fun cells=>cond (and (Nat.beq cs.length size) (DU cs)) (Ef cells o cs fun cells=>FH r (.row cells false) h fun h=>k h [r] [r]) none) fun _ _=>none:=rfl
theorem eZ (s:Nat) (x:IV):Fm (.own s) x=true:=rfl
theorem AeS (s:Nat) (a b c:IV) (ha:a.one=true) (hb:b.one=true) (hc:c.one=true) (own:List (Nat×Blk)) (ext:List Blk) (k:Hp->List Ref->List Ref->Option β) :
  Ac 3 (.ptr (.own s) 0) (.agg [a,b,c]) ⟨own,ext⟩ k=E3 own s fun bl=>GM bl fun cells=>cond (Nat.ble 3 cells.length) (FH (.own s) (.row (Bh cells 0 [a,b,c]) false) ⟨own,ext⟩ fun h=>k h [.own s] [.own s]) none:=by
 show E3 own s (fun bl=>GM bl fun cells=>if IV.alive (.agg [a,b,c])=true/\(IV.cells (.agg [a,b,c])).length=3/\0+3<=cells.length/\(IV.cells (.agg [a,b,c])).all IV.one=true/\Fm (.own s) (.agg [a,b,c])=true then
  dU (Bh cells 0 (IV.cells (.agg [a,b,c]))) fun cells=>FH (.own s) (.row cells false) ⟨own,ext⟩ fun h=>k h [.own s] [.own s] else none)=_
 congr 1
 funext bl
 congr 1
 funext cells
 by_cases h3:3<=cells.length
 ·rw [if_pos ⟨rfl,rfl,by omega,by simp [IV.cells,ha,hb,hc],rfl⟩,HA,Bp,decide_eq_true h3];rfl
 ·rw [if_neg (fun h=>h3 (by omega)),Bp,decide_eq_false h3];rfl
theorem sc3 (a b c x y z:IV):Bh [x,y,z] 0 [a,b,c]=[a,b,c]:=rfl
theorem Aeo (a x:IV) (h:Hp) (k:Hp->List Ref->List Ref->Option β):BM a x h k =
  cond x.one (EF a (fun r o=>Dq r h fun b=>GM b fun cells=>cond (Fm r x) (Gi cells o x fun cells=>FH r (.row cells false) h fun h=>k h [r] [r]) none) fun _ _=>none) (Ac 1 a x h k):=rfl
theorem Aer (o:Nat) (r:Ref) (k:IV->Option β):Ab o (.ptr r 0) k=k (.ptr r o):=by rw [kH,Ajy]
theorem zT (o:Nat) (cs:List FV) (k:IV->Option β):Ab o (.fv (.fp cs 0)) k=k (.fv (.fp cs o)):=by rw [OM,Ajy]
theorem Abl (r:Ref) (o:Nat) (k:IV->Option β):AK (.ptr r o) k=k (.ptr r o):=rfl
theorem Abx (cs:List FV) (o:Nat) (k:IV->Option β):AK (.fv (.fp cs o)) k=k (.fv (.fp cs o)):=rfl
theorem Z4 (g:FuncId) (a b:List FV) (k:IV->Option β):AK (.fv (.func (.func g) a b)) k=k (.fv (.func (.func g) a b)):=rfl
theorem Adu (ix:Nat) (vs:List IV) (k:IV->Option β):Ao ix (.tuple vs) k=DD vs ix k:=rfl
theorem Agf (ix:Nat) (vs:List FV) (k:IV->Option β):Ao ix (.fv (.tuple vs)) k=DD vs ix fun v=>k (.fv v):=rfl
theorem Agm (o:Nat) (x:IV) (k:IV->Option β):yO o x k=asAgg x (fun cs=>DD cs o k) fun cs=>DD cs o fun v=>k (.fv v):=rfl
theorem Aew (size o:Nat) (x:IV) (k:IV->Option β):xH size o x k=asAgg x (fun cs=>Fw cs o fun cs=>FK cs size fun cs=>NC cs k) fun cs=>Fw cs o fun cs=>FK cs size fun cs=>k (.fv (.agg cs)):=rfl
theorem Abo (z:List IV) (pl:List (Nat×Nat×IV)) (k:IV->Option β):A7 z pl k=MF z pl fun cells=>NC cells k:=rfl
theorem fk0 (z:List IV) (k:List IV->Option β):MF z [] k=k z:=rfl
theorem fk1 (z:List IV) (o sz:Nat) (v:IV) (pl:List (Nat×Nat×IV)) (k:List IV->Option β):MF z ((o,sz,v)::pl) k=G5 z o sz v fun z=>MF z pl k:=rfl
theorem uX {v:IV} (hv:v.one=true) (z:List IV) (o:Nat) (k:List IV->Option β):G5 z o 1 v k=Gi z o v k:=by
 unfold G5;cases v with
 | fv w =>
  show cond (G9 w) _ _=_
  have:G9 w=true:=by cases w<;>first | rfl | cases hv
  rw [this];rfl
 | _=>show VC _ _ _ _ _=_;unfold VC;rw [hv];rfl
theorem sJ (z:List IV) (o sz:Nat) (cs:List FV) (k:List IV->Option β):G5 z o sz (.fv (.agg cs)) k=cond (Nat.beq cs.length sz) (Ef z o cs k) none:=rfl
theorem nb3 (a b c:FV):Nat.beq [a,b,c].length 3=true:=rfl
theorem nb4 (a b c d:FV):Nat.beq [a,b,c,d].length 4=true:=rfl
theorem nb7 (a b c d e f g:FV):Nat.beq [a,b,c,d,e,f,g].length 7=true:=rfl
theorem nl3 (a b c:IV):Nat.ble 3 [a,b,c].length=true:=rfl
theorem uK:(and true true)=true:=rfl
end
section
variable {β:Type} {E:Env} {t:TypeId}
theorem TS (n:Int):IV.fv (.int .i64 n)=iv n:=rfl
def BC (n:Int):Int:=IntKind.i64.wrap n
theorem Ax {n:Int} (h1:-9223372036854775808<=n) (h2:n<=9223372036854775807):BC n=n:=by
 show (if (true && decide ((n % (18446744073709551616:Int)) ≥ (9223372036854775808:Int)))=true then (n % (18446744073709551616:Int)) - (18446744073709551616:Int) else (n % (18446744073709551616:Int)))=n
 by_cases h:0<=n
 ·have e:n % (18446744073709551616:Int)=n:=by omega
  have e2:¬ n ≥ (9223372036854775808:Int):=by omega
  rw [e,decide_eq_false e2];rfl
 ·have e:n % (18446744073709551616:Int)=n+18446744073709551616:=by omega
  have e2:n+18446744073709551616 ≥ (9223372036854775808:Int):=by omega
  rw [e,decide_eq_true e2];simp
theorem Abk (a b:Int) (k:IV->Option β):Bs E t (iv a) (iv b) k=k (iv (BC (a+b))):=by
 have hg:CZ E t .add (iv a) (iv b) k=k (iv (BC (a+b))):=by rw [CZ,CJ];rfl
 cases a with
 | negSucc a=>exact hg
 | ofNat a=>cases b with
  | negSucc b=>exact hg
  | ofNat b =>
   show cond (Nat.ble (a+b) 9223372036854775807) (LQ (a+b) k) _=_
   rw [Bp];by_cases h:a+b<=9223372036854775807
   ·rw [decide_eq_true h]
    show LQ (a+b) k=_
    rw [D9]
    have:BC (Int.ofNat a+Int.ofNat b)=((a+b:Nat):Int):=by rw [Ax (by simp only [Int.ofNat_eq_natCast];omega) (by simp only [Int.ofNat_eq_natCast];omega)];simp only [Int.ofNat_eq_natCast];omega
    rw [this]
   ·rw [decide_eq_false h];exact hg
theorem Aak (a b:Int) (k:IV->Option β):Bn E t (iv a) (iv b) k=k (iv (BC (a - b))):=by
 have hg:CZ E t .sub (iv a) (iv b) k=k (iv (BC (a - b))):=by rw [CZ,CJ];rfl
 cases a with
 | negSucc a=>exact hg
 | ofNat a=>cases b with
  | negSucc b=>exact hg
  | ofNat b =>
   show cond (and (Nat.ble b a) (Nat.ble a 9223372036854775807)) (LQ (a - b) k) _=_
   rw [Bp,Bp];by_cases h:b<=a/\a<=9223372036854775807
   ·rw [decide_eq_true h.1,decide_eq_true h.2]
    show LQ (a - b) k=_
    rw [D9]
    have:BC (Int.ofNat a - Int.ofNat b)=((a - b:Nat):Int):=by rw [Ax (by simp only [Int.ofNat_eq_natCast];omega) (by simp only [Int.ofNat_eq_natCast];omega)];simp only [Int.ofNat_eq_natCast];omega
    rw [this]
   ·have:(decide (b<=a) && decide (a<=9223372036854775807))=false:=by
     rw [<- Bool.decide_and];exact decide_eq_false h
    rw [show and (decide (b<=a)) (decide (a<=9223372036854775807))=false from this]
    exact hg
theorem Aau (a b:Int) (k:IV->Option β):CZ E t .mul (iv a) (iv b) k=k (iv (BC (a * b))):=by rw [CZ,CJ];rfl
theorem cA {b:Int} (hb:b≠0) (a:Int) (k:IV->Option β):CZ E t .quo (iv a) (iv b) k=k (iv (BC (a.tdiv b))):=by
 rw [CZ,CJ]
 have:EL E .quo t (iv a) (iv b)=some (iv (BC (a.tdiv b))):=by
  show (GQ (Op.intDiv .quo .i64 a b)).bind IY=_
  simp only [Op.intDiv,hb,if_false];rfl
 rw [this];rfl
theorem Od {b:Int} (hb:b≠0) (a:Int) (k:IV->Option β):CZ E t .rem (iv a) (iv b) k=k (iv (a.tmod b)):=by
 rw [CZ,CJ]
 have:EL E .rem t (iv a) (iv b)=some (iv (a.tmod b)):=by
  show (GQ (Op.intDiv .rem .i64 a b)).bind IY=_
  simp only [Op.intDiv,hb,if_false];rfl
 rw [this];rfl
theorem AfH (a b:Int) (k:IV->Option β):AP E t (iv a) (iv b) k=k (.fv (.bool (decide (a=b)))):=AbG a b k
theorem AfX (a b:Int) (k:IV->Option β):BL E t (iv a) (iv b) k=k (.fv (.bool (!decide (a=b)))):=AbB a b k
theorem Af4 (a b:Int) (k:IV->Option β):Fk E t (iv a) (iv b) k=k (.fv (.bool (decide (a<b)))):=AcC a b k
theorem Adq (a b:Int) (k:IV->Option β):Xm E t (iv a) (iv b) k=k (.fv (.bool (decide (a<=b)))):=AaB a b k
theorem Ae3 (a b:Int) (k:IV->Option β):Kd E t (iv a) (iv b) k=k (.fv (.bool (decide (b<a)))):=by
 rw [Kd,KG (fun a b=>by
  show some (IV.fv (.bool (decide ((a:Int) > (b:Int)))))=_
  rw [Bp];congr 3;exact decide_eq_decide.2 (by omega))]
 rfl
theorem AfQ (a b:Int) (k:IV->Option β):O6 E t (iv a) (iv b) k=k (.fv (.bool (decide (b<=a)))):=by
 rw [O6,KG (fun a b=>by
  show some (IV.fv (.bool (decide ((a:Int) ≥ (b:Int)))))=_
  rw [Bp];congr 3;exact decide_eq_decide.2 (by omega))]
 rfl
theorem Aa6 (a b:Bool) (hT:E.T t=some ⟨1,1,.bool,[.fv (.bool false)]⟩) (k:IV->Option β):AP E t (.fv (.bool a)) (.fv (.bool b)) k=k (.fv (.bool (a == b))):=by
 show CZ E t .eql _ _ k=_
 rw [CZ,CJ]
 have:EL E .eql t (.fv (.bool a)) (.fv (.bool b))=some (.fv (.bool (a == b))):=by simp only [EL,hT,PX]
 rw [this];rfl
theorem AcK (b:Bool) (k:IV->Option β):C5 (KE .not (.fv (.bool b))) k=k (.fv (.bool !b)):=Aco b k
theorem AdI (a b:Option β):Ai (.fv (.bool true)) a b=a:=rfl
theorem AeJ (a b:Option β):Ai (.fv (.bool false)) a b=b:=rfl
theorem Ado (c:Prop) [Decidable c] (a b:Option β):Ai (.fv (.bool (decide c))) a b=if c then a else b:=tI c a b
theorem Aev (c:Prop) [Decidable c] (a b:Option β):Ai (.fv (.bool (!decide c))) a b=if c then b else a:=by
 by_cases h:c
 ·rw [decide_eq_true h,if_pos h];rfl
 ·rw [decide_eq_false h,if_neg h];rfl
theorem Aes (c:Bool) (a b:Option β):Ai (.fv (.bool c)) a b=if c=true then a else b:=by cases c<;>rfl
theorem Agy (c a b:IV) (k:IV->Option β):AC c a b k=Ai c (k a) (k b):=rfl
theorem Abc {b:Bool} (hb:b=true) (h:Hp) (m:(KT β)->Option β) (k:KT β):Ad (.fv (.bool b)) true h m k=m k:=by rw [hb];rfl
theorem AcO {b:Bool} (hb:b=false) (h:Hp) (m:(KT β)->Option β) (k:KT β):Ad (.fv (.bool b)) false h m k=m k:=by rw [hb];rfl
theorem Aav {b:Bool} (hb:b=true) (h:Hp) (m:(KT β)->Option β) (k:KT β):Ad (.fv (.bool b)) false h m k=k FC h [] []:=by rw [hb];rfl
theorem Ab6 {b:Bool} (hb:b=false) (h:Hp) (m:(KT β)->Option β) (k:KT β):Ad (.fv (.bool b)) true h m k=k FC h [] []:=by rw [hb];rfl
theorem AeM (w:Bool) (h:Hp) (m:(KT β)->Option β) (k:KT β):Ad FC w h m k=k FC h [] []:=rfl
theorem ch0 (rd wr:List Ref) (a:Option β):Aa [] rd wr a=a:=rfl
theorem ch1 (q1 q2:List Ref) (l:List (List Ref×List Ref)) (rd wr:List Ref) (a:Option β):Aa ((q1,q2)::l) rd wr a=cond (SB q2 rd) (cond (SB q2 wr) (cond (SB wr q1) (Aa l rd wr a) none) none) none:=rfl
theorem dj0 (b:List Ref):SB [] b=true:=rfl
theorem djn:∀(a:List Ref),SB a []=true
 | []=>rfl
 | _::a=>djn a
theorem dj1 (r:Ref) (a b:List Ref):SB (r::a) b=cond (Jq r b) (SB a b) false:=rfl
theorem an0 (r:Ref):Jq r []=true:=rfl
theorem an1 (r s:Ref) (l:List Ref):Jq r (s::l)=cond (Lc r s) (Jq r l) false:=rfl
theorem Agq {i j:Nat} (h:(i == j)=false):Lc (.own i) (.own j)=true:=by
 show not (Nat.beq i j)=true
 rw [show Nat.beq i j=false from pL h];rfl
theorem Ab9 (i j:Nat):Lc (.own i) (.ext j)=true:=rfl
theorem Acb (i j:Nat):Lc (.ext i) (.own j)=true:=rfl
theorem AdU (v:IV) (h:Hp):Aj [v] h=some (v,h):=rfl
theorem Adf (h:Hp):Aj [] h=some (.fv (.tuple []),h):=rfl
theorem AfW (a b:IV) (h:Hp):Aj [a,b] h=T7 [a,b] fun v=>some (v,h):=rfl
theorem Af7 (a b c:IV) (h:Hp):Aj [a,b,c] h=T7 [a,b,c] fun v=>some (v,h):=rfl
theorem Aeh (a b c d:IV) (h:Hp):Aj [a,b,c,d] h=T7 [a,b,c,d] fun v=>some (v,h):=rfl
theorem Aaq (es:List FV) (k:IV->Option β):Bv (.fv (.sl es)) k=k (iv es.length):=D9 ..
theorem AbQ (k:IV->Option β):Bv .nils k=k (iv 0):=rfl
theorem AaR (es:List FV) (k:IV->Option β):Bv (.clip es) k=k (iv es.length):=D9 ..
theorem Aaw (r:Ref) (es:List FV) (k:IV->Option β):Bv (.app r es) k=k (iv es.length):=D9 ..
theorem AaJ (r:Ref) (sz n:Nat) (k:IV->Option β):Bv (.slc r sz n) k=k (iv n):=D9 ..
theorem Bq {size:Nat} {es:List FV} {n:Nat} {el:FV} (he:es[n]?=some el) (hl:el.cells.length=size) (k:IV->Option β):AQ size (.fv (.sl es)) (iv n) k=k (.fv (.fp el.cells 0)):=u9 he hl k
theorem AdQ {size:Nat} {r:Ref} {es:List FV} {n:Nat} {el:FV} (he:es[n]?=some el) (hl:el.cells.length=size) (k:IV->Option β):AQ size (.app r es) (iv n) k=k (.fv (.fp el.cells 0)):=u9 he hl k
theorem AeC {size:Nat} {es:List FV} {n:Nat} {el:FV} (he:es[n]?=some el) (hl:el.cells.length=size) (k:IV->Option β):AQ size (.clip es) (iv n) k=k (.fv (.fp el.cells 0)):=u9 he hl k
theorem Ad3 {size sz len:Nat} {r:Ref} {n:Nat} (hn:n<len) (hs:sz=size) (k:IV->Option β):AQ size (.slc r sz len) (iv n) k=k (.ptr r (n * sz)):=by
 show cond (and (Nat.ble (Nat.succ n) len) (Nat.beq sz size)) (Ec (n * sz) fun o=>k (.ptr r o)) none=_
 rw [Bp,decide_eq_true (show Nat.succ n<=len from hn),hs,show Nat.beq size size=true from Nat.beq_refl size]
 simp only [Bool.and_self,cond_true];rw [Ca]
theorem oX (size:Nat) (cs:List FV) (es:List FV) (hl:cs.length=size) (k:IV->Option β):AQ size (.fv (.sl (.agg cs::es))) (iv 0) k=k (.fv (.fp cs 0)):=Bq (el:=.agg cs) (n:=0) rfl hl k
theorem pH (size:Nat) (cs:List FV) (e:FV) (es:List FV) (hl:cs.length=size) (k:IV->Option β):AQ size (.fv (.sl (e :: .agg cs::es))) (iv 1) k=k (.fv (.fp cs 0)):=Bq (el:=.agg cs) (n:=1) rfl hl k
theorem oU (size:Nat) (cs:List FV) (e e':FV) (es:List FV) (hl:cs.length=size) (k:IV->Option β):AQ size (.fv (.sl (e::e' :: .agg cs::es))) (iv 2) k=k (.fv (.fp cs 0)):=Bq (el:=.agg cs) (n:=2) rfl hl k
theorem nN (size:Nat) (cs:List FV) (e e' e'':FV) (es:List FV) (hl:cs.length=size) (k:IV->Option β):AQ size (.fv (.sl (e::e'::e'' :: .agg cs::es))) (iv 3) k=k (.fv (.fp cs 0)):=Bq (el:=.agg cs) (n:=3) rfl hl k
def Fz (v:IV) (own:List (Nat×Blk)) (w:FV):Prop:=∃u lg,∀(e:Option (IV×Hp)) (K:FV->List (Ref×Blk)->List Ref->Option (IV×Hp)),DB 12 v ⟨own,[]⟩ [] e K=K w u lg
def BE (r:Option (IV×Hp)) (w:FV):Prop:=∃v own,r=some (v,⟨own,[]⟩) /\
 (Fz v own w\/((∀(e:Option (IV×Hp)) (K:FV->List (Ref×Blk)->List Ref->Option (IV×Hp)),DB 12 v ⟨own,[]⟩ [] e K=e)/\∃u,(C8 4096 v).run ⟨own,[]⟩=some (w,u)))
def IN (r:Option (IV×Hp)) (w:FV):Prop:=∃v own,r=some (v,⟨own,[]⟩)/\Fz v own w
theorem qP (w:FV) (own:List (Nat×Blk)):Fz (.fv w) own w:=⟨[],[],fun _ _=>rfl⟩
theorem Aw (w:FV) (own:List (Nat×Blk)):BE (some (.fv w,⟨own,[]⟩)) w:=⟨_,own,rfl,.inl (qP w own)⟩
def FJ:IV->Option FV
 | .fv v=>some v
 | .nils=>some (.sl [])
 | .emp=>some (.sl [])
 | .clip es=>some (.sl es)
 | .app _ es=>some (.sl es)
 | _=>none
def Dy:List IV->Option (List FV)
 | []=>some []
 | v::l=>(FJ v).bind fun x=>(Dy l).map fun xs=>x::xs
def Bd (v:IV):Option FV:=match v with
 | .agg cs=>if cs.length<=8 then (Dy cs).map .agg else none
 | v=>FJ v
def Bu:List IV->Option (List FV)
 | []=>some []
 | v::l=>(Bd v).bind fun x=>(Bu l).map fun xs=>x::xs
theorem Acy (v:FV):Bd (.fv v)=some v:=rfl
theorem lW:Bd .nils=some (.sl []):=rfl
theorem yA:Bd .emp=some (.sl []):=rfl
theorem jW (es:List FV):Bd (.clip es)=some (.sl es):=rfl
theorem uA (r:Ref) (es:List FV):Bd (.app r es)=some (.sl es):=rfl
theorem Abw (v:FV):FJ (.fv v)=some v:=rfl
theorem iR:FJ .nils=some (.sl []):=rfl
theorem uO:FJ .emp=some (.sl []):=rfl
theorem kG (es:List FV):FJ (.clip es)=some (.sl es):=rfl
theorem tD (r:Ref) (es:List FV):FJ (.app r es)=some (.sl es):=rfl
theorem AfJ {a b c:IV} {x y z:FV} (ha:FJ a=some x) (hb:FJ b=some y) (hc:FJ c=some z):Bd (.agg [a,b,c])=some (.agg [x,y,z]):=by
 show (if 3<=8 then (Dy [a,b,c]).map FV.agg else none)=_
 simp [Dy,ha,hb,hc]
theorem Afj {a b c d:IV} {x y z u:FV} (ha:FJ a=some x) (hb:FJ b=some y) (hc:FJ c=some z) (hd:FJ d=some u):Bd (.agg [a,b,c,d])=some (.agg [x,y,z,u]):=by
 show (if 4<=8 then (Dy [a,b,c,d]).map FV.agg else none)=_
 simp [Dy,ha,hb,hc,hd]
theorem rD {v:IV} {x:FV} (d:Nat) (h:Hp) (lg:List Ref) (e:Option β) (k:FV->List (Ref×Blk)->List Ref->Option β) (hz:FJ v=some x):DB (d+1) v h lg e k=k x [] lg:=by cases v<;>first | (cases hz;rfl) | (cases hz)
theorem UV (d:Nat) (h:Hp) (lg:List Ref) (e:Option β):∀(cs:List IV) (k:List FV->List (Ref×Blk)->List Ref->Option β) {xs:List FV},Dy cs=some xs->CO (DB (d+1)) cs h lg e k=k xs [] lg
 | [],k,xs,hz=>by cases hz;rfl
 | v::cs,k,xs,hz=>by
  simp only [Dy] at hz;cases h1:FJ v with
  | none=>rw [h1] at hz;cases hz
  | some x =>
   rw [h1] at hz;cases h2:Dy cs with
   | none=>rw [h2] at hz;cases hz
   | some ys =>
    rw [h2] at hz;cases hz
    show DB (d+1) v h lg e (fun y u lg=>CO (DB (d+1)) cs h lg e fun ys us lg=>Lf u us fun w=>k (y::ys) w lg)=_
    rw [rD d h lg e _ h1,UV d h lg e cs _ h2];rfl
theorem GZ {v:IV} {x:FV} (h:Hp) (lg:List Ref) (e:Option β) (k:FV->List (Ref×Blk)->List Ref->Option β) (hz:Bd v=some x):DB 12 v h lg e k=k x [] lg:=by
 cases v with
 | agg cs =>
  simp only [Bd] at hz;split at hz
  ·rename_i hl;cases h2:Dy cs with
   | none=>rw [h2] at hz;cases hz
   | some ys =>
    rw [h2] at hz;cases hz
    show cond (Nat.ble cs.length 300) (CO (DB 11) cs h lg e fun cs u lg=>k (.agg cs) u lg) e=_
    rw [Bp,decide_eq_true (show cs.length<=300 by omega)]
    exact UV 10 h lg e cs _ h2
  ·cases hz
 | _=>exact rD 11 h lg e k hz
theorem Agv {v:IV} {x:FV} (hz:Bd v=some x) (own:List (Nat×Blk)):Fz v own x:=⟨[],[],fun e K=>GZ _ _ e K hz⟩
theorem Bo {v:IV} {x:FV} (hz:Bd v=some x) (own:List (Nat×Blk)):BE (some (v,⟨own,[]⟩)) x:=⟨v,own,rfl,.inl (Agv hz own)⟩
theorem fr1 {v:IV} {x:FV} (n:Nat) (hz:FJ v=some x):C8 (n+1) v=.ret (x,[]):=by cases v<;>first | (cases hz;rfl) | (cases hz)
theorem VK:∀(cs:List IV) (n:Nat) {xs:List FV},cs.length+1<n->Dy cs=some xs->frzL n cs=.ret (xs,[])
 | [],n+1,xs,_,hz=>by cases hz;rfl
 | v::cs,n+2,xs,hn,hz=>by
  simp only [Dy] at hz;cases h1:FJ v with
  | none=>rw [h1] at hz;cases hz
  | some x =>
   rw [h1] at hz;cases h2:Dy cs with
   | none=>rw [h2] at hz;cases hz
   | some ys =>rw [h2] at hz;cases hz;simp only [Ai3] at hn;simp only [frzL,fr1 n h1,Rd.bind,VK cs (n+1) (by omega) h2];rfl
theorem frp {v:IV} {x:FV} (n:Nat) (hn:20<n) (hz:Bd v=some x):C8 n v=.ret (x,[]):=by
 cases n with
 | zero=>omega
 | succ n =>
  cases v with
  | agg cs =>
   simp only [Bd] at hz;split at hz
   ·rename_i hl;cases h2:Dy cs with
    | none=>rw [h2] at hz;cases hz
    | some ys =>rw [h2] at hz;cases hz;simp only [C8,VK cs n (by omega) h2,Rd.bind]
   ·cases hz
  | _=>exact fr1 n hz
theorem pW:∀(cs:List IV) (n:Nat) {xs:List FV},cs.length+30<n->Bu cs=some xs->frzL n cs=.ret (xs,[])
 | [],n+1,xs,_,hz=>by cases hz;rfl
 | v::cs,n+1,xs,hn,hz=>by
  simp only [Bu] at hz;cases h1:Bd v with
  | none=>rw [h1] at hz;cases hz
  | some x =>
   rw [h1] at hz;cases h2:Bu cs with
   | none=>rw [h2] at hz;cases hz
   | some ys =>rw [h2] at hz;cases hz;simp only [Ai3] at hn;simp only [frzL,frp n (by omega) h1,Rd.bind,pW cs n (by omega) h2];rfl
theorem Sv {vs:List IV} {xs:List FV} (hz:Bu vs=some xs) (hl:vs.length<=100) (own:List (Nat×Blk)):BE (some (.tuple vs,⟨own,[]⟩)) (.tuple xs) :=
 ⟨_,own,rfl,.inr ⟨fun _ _=>rfl,[],by
  show (C8 (4095+1) (.tuple vs)).run _=_
  simp only [C8,pW vs 4095 (by omega) hz,Rd.bind];rfl⟩⟩
theorem wJ:Bu []=some []:=rfl
theorem SY {a b:IV} {x y:FV} (ha:Bd a=some x) (hb:Bd b=some y):Bu [a,b]=some [x,y]:=by simp [Bu,ha,hb]
theorem YZ {a b c:IV} {x y z:FV} (ha:Bd a=some x) (hb:Bd b=some y) (hc:Bd c=some z):Bu [a,b,c]=some [x,y,z]:=by simp [Bu,ha,hb,hc]
theorem Abp {a b c d:IV} {x y z u:FV} (ha:Bd a=some x) (hb:Bd b=some y) (hc:Bd c=some z) (hd:Bd d=some u):Bu [a,b,c,d]=some [x,y,z,u]:=by simp [Bu,ha,hb,hc,hd]
theorem T8 {a:IV} {x:FV} (ha:Bd a=some x):Bu [a]=some [x]:=by simp [Bu,ha]
theorem Hd:∀(args:List IV) {vs:List FV},Bu args=some vs->By [] args=.ret (vs.map .fv,[],[])
 | [],vs,hz=>by cases hz;rfl
 | v::l,vs,hz=>by
  simp only [Bu] at hz;cases h1:Bd v with
  | none=>rw [h1] at hz;cases hz
  | some x =>
   rw [h1] at hz;cases h2:Bu l with
   | none=>rw [h2] at hz;cases hz
   | some ys =>rw [h2] at hz;cases hz;simp only [By,frp 4096 (by omega) h1,Rd.bind,Hd l h2];rfl
theorem xY (keep:List Bool) (h:Hp) (lg:List Ref) (e:Option β) (k:List IV->List Ref->List (Ref×Blk)->List Ref->Option β):Rc [] keep h lg e k=k [] [] [] lg:=rfl
theorem xT (x:IV) (l:List IV) (h:Hp) (lg:List Ref) (e:Option β) (k:List IV->List Ref->List (Ref×Blk)->List Ref->Option β) :
  Rc (x::l) [] h lg e k=DB 12 x h lg e fun y u lg=>Rc l [] h lg e fun vs rs us lg=>Lf u us fun w=>k (.fv y::vs) rs w lg:=rfl
theorem T9 (x:IV) (l:List IV) (ks:List Bool) (h:Hp) (lg:List Ref) (e:Option β) (k:List IV->List Ref->List (Ref×Blk)->List Ref->Option β) :
  Rc (x::l) (true::ks) h lg e k=EF x (fun r o=>Rc l ks h lg e fun vs rs us lg=>k (.ptr r o::vs) (r::rs) us lg) fun _ _=>e:=rfl
theorem Qh (x:IV) (l:List IV) (ks:List Bool) (h:Hp) (lg:List Ref) (e:Option β) (k:List IV->List Ref->List (Ref×Blk)->List Ref->Option β) :
  Rc (x::l) (false::ks) h lg e k=DB 12 x h lg e fun y u lg=>Rc l ks h lg e fun vs rs us lg=>Lf u us fun w=>k (.fv y::vs) rs w lg:=rfl
section
variable (d:Nat) (h:Hp) (lg:List Ref) (e:Option β) (k:FV->List (Ref×Blk)->List Ref->Option β)
theorem aF (cs:List IV):DB 12 (.agg cs) h lg e k=cond (Nat.ble cs.length 300) (CO (DB 11) cs h lg e fun cs u lg=>k (.agg cs) u lg) e:=rfl
theorem Uf (s:Nat) (off:Nat):DB 12 (.ptr (.own s) off) h lg e k=Dq (.own s) h fun b=>DY b fun cells=>cond (Nat.ble cells.length 300) (CO (DB 11) cells h (.own s::lg) e fun cs u lg=>k (.fp cs off) ((.own s,.row cells true)::u) lg) e:=rfl
theorem Iw (v:FV):DB 11 (.fv v) h lg e k=k v [] lg:=rfl
theorem xV (g:xM β) (k:List FV->List (Ref×Blk)->List Ref->Option β):CO g [] h lg e k=k [] [] lg:=rfl
theorem SC (g:xM β) (x:IV) (l:List IV) (k:List FV->List (Ref×Blk)->List Ref->Option β):CO g (x::l) h lg e k=g x h lg e fun y u lg=>CO g l h lg e fun ys us lg=>Lf u us fun w=>k (y::ys) w lg:=rfl
end
def Pl (rs:List Ref) (r:Option (IV×Hp)) (h:Hp) (u:List (Ref×Blk)) (lg:List Ref) (e:Option (IV×Hp)) (g:List Ref->Option (IV×Hp)) (k:KT (IV×Hp)):Option (IV×Hp):=match rs with
 | []=>(match r with
  | none=>none
  | some p=>match p with
   | (v,h')=>match h' with
    | ⟨own,ext⟩=>List.casesOn (motive:=fun _=>Option (IV×Hp)) ext (DB 12 v ⟨own,[]⟩ [] e fun w _ _=>Kt u h fun h2=>k (.fv w) h2 lg (BB u)) fun _ _=>none)
 | r::rs=>g (r::rs)
theorem Jb (keep:List Bool) (ih:Ah) (f:FuncId) (args:List IV) (h:Hp) (k:KT (IV×Hp)):A5 keep false false ih f args h k =
  Rc args keep h [] (Ea keep false false ih f args h k) fun vs rs u lg=>Pl rs (ih f vs ⟨[],[]⟩) h u lg (Ea keep false false ih f args h k) (fun rs=>match rs with
   | []=>none
   | r::rs=>(match h with
    | ⟨own,ext⟩=>cond (Nt 400 (r::rs) 0 ext) (match ih f vs ⟨[],ext⟩ with
     | none=>none
     | some p=>match p with
      | (v,h')=>match h' with
       | ⟨own',ext'⟩=>cond (and (Nat.beq ext'.length ext.length) (Yl ext.length ext'))
        (DB 12 v ⟨own',ext'⟩ [] (Ea keep false false ih f args h k) fun w _ _=>Kt u ⟨own,ext'⟩ fun h2=>k (.fv w) h2 ((C3 ext.length).reverse++lg) (BB u++C3 ext.length)) none)
     (Ea keep false false ih f args h k))) k:=by
 unfold A5;simp only [cond_false];congr 1
theorem Ab0 {r:Option (IV×Hp)} {w:FV} (hr:IN r w) (h:Hp) (u:List (Ref×Blk)) (lg:List Ref) (e:Option (IV×Hp)) (g:List Ref->Option (IV×Hp)) (k:KT (IV×Hp)) :
  Pl [] r h u lg e g k=Kt u h fun h2=>k (.fv w) h2 lg (BB u):=by
 obtain ⟨v,own,rfl,u',lg',hz⟩:=hr;simp only [Pl];rw [hz]
theorem aD:∀(args:List IV) {vs:List FV} (h:Hp) (lg:List Ref) (e:Option β) (k:List IV->List Ref->List (Ref×Blk)->List Ref->Option β),Bu args=some vs->Rc args [] h lg e k=k (vs.map .fv) [] [] lg
 | [],vs,h,lg,e,k,hz=>by cases hz;rfl
 | v::l,vs,h,lg,e,k,hz=>by
  simp only [Bu] at hz;cases h1:Bd v with
  | none=>rw [h1] at hz;cases hz
  | some x =>
   rw [h1] at hz;cases h2:Bu l with
   | none=>rw [h2] at hz;cases hz
   | some ys =>
    rw [h2] at hz;cases hz
    show DB 12 v h lg e (fun y u lg=>Rc l [] h lg e fun vs rs us lg=>Lf u us fun w=>k (.fv y::vs) rs w lg)=_
    rw [GZ h lg e _ h1,aD l h lg e _ h2];rfl
theorem DS (f:Ref->Option Ref):∀l:List FV,IV.ren.renL f (l.map .fv)=some (l.map .fv)
 | []=>rfl
 | v::l=>by
  simp only [Ai5,IV.ren.renL,IV.ren,DS f l];rfl
theorem K1 {ih:Ah} {f:FuncId} {args:List IV} {vs:List FV} {w:FV} (hz:Bu args=some vs) (hr:BE (ih f (vs.map .fv) ⟨[],[]⟩) w) (h:Hp) (k:KT (IV×Hp)) :
  A5 [] false false ih f args h k=k (.fv w) h [] []:=by
 obtain ⟨v,own,e,hv⟩:=hr;have hD:(∃u,(C8 4096 v).run ⟨own,[]⟩=some (w,u))->Ea [] false false ih f args h k=k (.fv w) h [] []:=by
  rintro ⟨u,hu⟩;unfold Ea;simp only [Hd args hz,Rd.runLog,B4,DS,Ai4,Bg,CX (Cj 3),CX Cz,Ei,Ajx,if_false,e,hu,Ai2,IV.ren]
  show (match laid h ([]++(BB []).zip []) with | none=>none | some h'=>fH h' fun h'=>fV 3 (.fv w) fun res=>k res h' [] _)=_
  simp only [BB,Ai4,List.zip_nil_left,Ajm,laid,In,Cj]
 rw [Jb,aD args h [] _ _ hz,e];simp only [Pl];rcases hv with ⟨u',lg',hf⟩ | ⟨hf,hu⟩
 ·rw [hf];rfl
 ·rw [hf];exact hD hu
theorem EO {ih:Ah} {f:FuncId} {w:FV} (hr:BE (ih f [] ⟨[],[]⟩) w) (h:Hp) (k:KT (IV×Hp)) :
  A5 [] false false ih f [] h k=k (.fv w) h [] []:=K1 (vs:=[]) rfl hr h k
theorem Aq {ih:Ah} {f:FuncId} {a:IV} {x w:FV} (hr:BE (ih f [.fv x] ⟨[],[]⟩) w) (ha:Bd a=some x) (h:Hp) (k:KT (IV×Hp)) :
  A5 [] false false ih f [a] h k=k (.fv w) h [] []:=K1 (T8 ha) hr h k
theorem Af {ih:Ah} {f:FuncId} {a b:IV} {x y w:FV} (hr:BE (ih f [.fv x,.fv y] ⟨[],[]⟩) w) (ha:Bd a=some x) (hb:Bd b=some y) (h:Hp) (k:KT (IV×Hp)) :
  A5 [] false false ih f [a,b] h k=k (.fv w) h [] []:=K1 (SY ha hb) hr h k
theorem Av {ih:Ah} {f:FuncId} {a b c:IV} {x y z w:FV} (hr:BE (ih f [.fv x,.fv y,.fv z] ⟨[],[]⟩) w) (ha:Bd a=some x) (hb:Bd b=some y) (hc:Bd c=some z) (h:Hp) (k:KT (IV×Hp)) :
  A5 [] false false ih f [a,b,c] h k=k (.fv w) h [] []:=K1 (YZ ha hb hc) hr h k
theorem As {ih:Ah} {f:FuncId} {a b c d:IV} {x y z u w:FV} (hr:BE (ih f [.fv x,.fv y,.fv z,.fv u] ⟨[],[]⟩) w) (ha:Bd a=some x) (hb:Bd b=some y) (hc:Bd c=some z) (hd:Bd d=some u) (h:Hp)
  (k:KT (IV×Hp)):A5 [] false false ih f [a,b,c,d] h k=k (.fv w) h [] []:=K1 (Abp ha hb hc hd) hr h k
theorem FO (v:IV) (s:Nat) (h:Hp) (k:KT β):Az (.ret { eff:={ val:=v } }) s h k=k v h [] []:=by unfold Az;simp only [Rd.runLog,H9,Cj];rfl
theorem gen_val' (v:IV) (s:Nat) (h:Hp) (k:KT β):Az (Idl.val v) s h k=k v h [] []:=FO v s h k
theorem Cx {e:TypeId} {a b:Nat} {ei:TI} {z:List IV} (hT:E.T t=some ⟨a,b,.slice e,z⟩) (he:E.T e=some ei) {len:Nat} (hs:¬ (ei.size=0\/len * ei.size > 65536)) {parts:List (Nat×IV)} {cells:List FV}
  (hf:CU (fun j=>some (j * ei.size,ei.size)) (NB len ei.zero) parts=some (cells.map .fv)) {s:Nat} {h:Hp} (k:KT β) (hc:cells.length<65000:=by simp) :
  Az (Al E t len parts) s h k=k (.clip (B7 ei.size len cells)) h [] []:=by
 have key:∀(l:List FV) (n:Nat),l.length<n->frzL n (l.map .fv)=.ret (l,[]):=by
  intro l
  induction l with
  | nil=>intro n hn;cases n with
   | zero=>simp at hn
   | succ n=>rfl
  | cons x l ih=>intro n hn;cases n with
   | zero=>simp at hn
   | succ n =>
    simp only [Ai3] at hn;cases n with
    | zero=>omega
    | succ n =>simp only [Ai5,frzL,C8,Rd.bind];rw [ih (n+1) (by omega)];rfl
 have:Al E t len parts=.ret { eff:={ val:=.clip (B7 ei.size len cells),upd:=[] } }:=by simp only [Al,hT,he,if_neg hs,hf];rw [key _ _ (by omega)];rfl
 rw [this,FO]
end
def AaF:IV->Option FV
 | .fv w=>some w
 | .tuple vs=>if vs.length<=100 then (Bu vs).map .tuple else none
 | _=>none
theorem A6 {x:IV} {w:FV} {own:List (Nat×Blk)} (h:AaF x=some w):BE (some (x,⟨own,[]⟩)) w:=by
 cases x with
 | fv v=>rw [Ajn h];exact Aw _ _
 | tuple vs =>
  simp only [AaF] at h;split at h
  ·rename_i hl;cases hz:Bu vs with
   | none=>rw [hz] at h;cases h
   | some xs=>rw [hz] at h;rw [<- Ajn h];exact Sv hz hl _
  ·cases h
 | _=>cases h
end Idl
end Go.Proofs.YtnenpcghegcnhaaGreat
namespace Go.Proofs.YtnenpcghegcnhaaGreat
namespace Idl
def XY:=AiY @decide_true<|AiY @decide_false<|AiY @Bool.not_true<|AiY @Bool.not_false<|AiY @Ai5<|AiY @Ai4<|AiY @Ajw<|AiY @Ai3<|AiY @Ajh<|AiY @Int.natCast_zero<|AiY @Int.natCast_one<|AiY @Ajx<|AiY @Bool.true_eq_false<|AiY @decide_eq_true_eq<|AiY @eq_self.{1}<|AiY @Bool.and_true<|AiY @Bool.true_and<|AiY @Bool.and_false<|AiY @Bool.false_and<|AiY @Ajy<|@Int.cast_ofNat_Int
def XE:=AiY @List.any_cons.{0}<|AiY @List.any_nil.{0}<|AiY @List.all_cons.{0}<|AiY @List.all_nil.{0}<|AiY @List.filter_cons.{0}<|AiY @List.filter_nil.{0}<|AiY @List.contains_cons.{0}<|AiY @List.contains_nil.{0}<|AiY @Bool.or_false<|AiY @Bool.or_true<|AiY @Bool.false_or<|AiY @Bool.true_or<|AiY @Bool.and_self<|AiY @Bool.not_eq_true<|AiY @BEq.rfl.{0}<|@beq_self_eq_true.{0}
def XX:=AiY @n0<|AiY @n1<|AiY @n2<|AiY @n3<|AiY @n4<|AiY @n5<|AiY @n6<|AiY @d0<|AiY @d1<|AiY @d2<|AiY @d3<|AiY @d4<|AiY @t1<|AiY @t2<|AiY @t3<|AiY @t4<|AiY @t7<|AiY @ap0<|AiY @ap1<|AiY @Abv<|AiY @iI<|AiY @c_f<|AiY @Jn<|AiY @AaI<|AiY @qZ<|AiY @sX<|AiY @Aac<|AiY @pX<|AiY @wS<|AiY @Abd<|AiY @rI<|AiY @V8<|AiY @kO<|AiY @sn0<|AiY @AaP<|AiY @Abn<|AiY @zW<|AiY @AcN<|AiY @AcI<|AiY @RM<|AiY @mN<|AiY @yY<|AiY @kS<|AiY @AbC<|AiY @AbF<|AiY @mW<|AiY @j5<|AiY @l7<|AiY @uS<|AiY @tU<|AiY @yQ<|AiY @iK<|AiY @vS<|AiY @sE<|AiY @mH<|AiY @yP<|AiY @lT<|AiY @AcM<|AiY @AaV<|AiY @i7<|AiY @zA<|AiY @iL<|AiY @QZ<|AiY @Pj<|AiY @AfO<|AiY @HL<|AiY @UK<|AiY @fX<|AiY @TN<|AiY @uZ<|AiY @vH<|AiY @uQ<|AiY @xP<|AiY @vR<|AiY @rL<|AiY @v9<|AiY @AaL<|AiY @yF<|AiY @jM<|AiY @vN<|AiY @Zz<|AiY @jA<|AiY @dG<|AiY @lC<|AiY @oG<|AiY @nY<|AiY @bH<|AiY @Aa9<|AiY @AaZ<|AiY @Aga<|AiY @AfL<|AiY @sB<|AiY @tP<|AiY @wr0<|AiY @wr1<|AiY @sf0<|AiY @sf1<|AiY @sf2<|AiY @sf3<|AiY @sf4<|AiY @of0<|AiY @of1<|AiY @of2<|AiY @of3<|AiY @of6<|AiY @AfT<|AiY @eZ<|AiY @AeS<|AiY @sc3<|AiY @Aeo<|AiY @Aer<|AiY @zT<|AiY @Abl<|AiY @Abx<|AiY @Z4<|AiY @Adu<|AiY @Agf<|AiY @Agm<|AiY @Aew<|AiY @Abo<|AiY @fk0<|AiY @fk1<|AiY @uX<|AiY @sJ<|AiY @nb3<|AiY @nb4<|AiY @nb7<|AiY @nl3<|AiY @uK<|AiY @Abk<|AiY @Aak<|AiY @Aau<|AiY @cA<|AiY @Od<|AiY @AfH<|AiY @AfX<|AiY @Af4<|AiY @Adq<|AiY @Ae3<|AiY @AfQ<|AiY @Aa6<|AiY @AcK<|AiY @AdI<|AiY @AeJ<|AiY @Ado<|AiY @Aev<|AiY @Aes<|AiY @Agy<|AiY @Abc<|AiY @AcO<|AiY @Aav<|AiY @Ab6<|AiY @AeM<|AiY @ch0<|AiY @ch1<|AiY @dj0<|AiY @djn<|AiY @dj1<|AiY @an0<|AiY @an1<|AiY @Agq<|AiY @Ab9<|AiY @Acb<|AiY @AdU<|AiY @Adf<|AiY @AfW<|AiY @Af7<|AiY @Aeh<|AiY @Aaq<|AiY @AbQ<|AiY @AaR<|AiY @Aaw<|AiY @AaJ<|AiY @Bq<|AiY @AdQ<|AiY @AeC<|AiY @Ad3<|AiY @oX<|AiY @pH<|AiY @oU<|AiY @nN<|AiY @Acy<|AiY @lW<|AiY @yA<|AiY @jW<|AiY @uA<|AiY @Abw<|AiY @iR<|AiY @uO<|AiY @kG<|AiY @tD<|AiY @AfJ<|AiY @Afj<|AiY @wJ<|AiY @SY<|AiY @YZ<|AiY @Abp<|AiY @T8<|AiY @FO<|@gen_val'
def Ev (f:FuncId) (args:List IV) (w:FV):Prop:=∃N,∀n,N<=n->BE (SS dt n f args ⟨[],[]⟩) w
theorem Ba {F:(List IV->Hp->Option (IV×Hp))->List IV->Hp->Option (IV×Hp)} {Q:Option (IV×Hp)->Prop} (P:Nat->List IV->Hp->Prop)
  (step:∀k V H rec,P k V H->(∀k' V' H',k' < k->P k' V' H'->Q (rec V' H'))->Q (F rec V H)):∀m k V H,k<m->P k V H->Q (BG m F V H):=by
 intro m
 induction m with
 | zero=>intro k V H h;omega
 | succ m ih=>intro k V H hk hP;exact step k V H (BG m F) hP fun k' V' H' h1 h2=>ih k' V' H' (by omega) h2
mutual
def Tm.wt:Tm->Nat
 | .mk _ _ l=>1+Tm.wtL l
def Tm.wtL:List Tm->Nat
 | []=>0
 | t::l=>t.wt+Tm.wtL l
end
theorem Cb {t:Tm}:∀{l:List Tm},t∈l->t.wt<=Tm.wtL l
 | a::l,h=>by
  rcases Ajp.1 h with rfl | h
  ·simp only [Tm.wtL];omega
  ·have:=Cb h;simp only [Tm.wtL];omega
theorem Dp:∀(l:List Tm),l.length<=Tm.wtL l
 | []=>Nat.zero_le _
 | (.mk _ _ k)::l=>by have:=Dp l;simp only [Tm.wtL,Tm.wt,Ai3];omega
theorem Ep (t:Tm):0<t.wt:=by cases t;simp only [Tm.wt];omega
theorem Am (op n:Int) (l:List Tm):(Tm.mk op n l).enc=.agg [.int .i64 op,.int .i64 n,.sl (l.map Tm.enc)]:=by simp only [Tm.enc,Uw]
theorem AN {l:List Tm} {i:Nat} {op n:Int} {k:List Tm} (h:l[i]?=some (.mk op n k)):(l.map Tm.enc)[i]?=some (.agg [.int .i64 op,.int .i64 n,.sl (k.map Tm.enc)]):=by rw [Ajv,h,Ai2,Am]
theorem BY {α:Type} {l pre rest:List α} {a:α} (h:l=pre++a::rest):l[pre.length]?=some a:=by rw [h,Ai8 (AjA _),Nat.sub_self];rfl
theorem B8 (a b c:FV):(FV.agg [a,b,c]).cells=[a,b,c]:=rfl
theorem Bk (a b c:FV):(FV.agg [a,b,c]).cells.length=3:=rfl
section
variable {β:Type} {E:Env}
def cG (b:Blk) (n sz:Nat) (x:Option β):Option β:=match b with
 | .tok a s=>if a=n/\s=sz then x else none
 | _=>none
theorem G4 (n sz:Nat) (x:Option β):cG (.tok n sz) n sz x=x:=by
 show (if n=n/\sz=sz then x else none)=x
 rw [if_pos ⟨rfl,rfl⟩]
inductive Plain2:IV->List FV->Prop
 | clip (es:List FV):Plain2 (.clip es) es
 | sl (es:List FV):Plain2 (.fv (.sl es)) es
 | app (r:Ref) (es:List FV):Plain2 (.app r es) es
theorem Pm {x:IV} {es:List FV} (h:Plain2 x es):C8 4096 x=.ret (.sl es,[]):=by cases h<;>rfl
structure SliceT (E:Env) (t:TypeId) (size:Nat):Prop where
 h:∃a b e z ei,E.T t=some ⟨a,b,.slice e,z⟩/\E.T e=some ei/\ei.size=size/\size≠0/\ei.bytes<=100000
theorem HM {t:TypeId} {size:Nat} (T:SliceT E t size) {x:IV} {es2:List FV} (hx:Plain2 x es2) (h1:BI size es2=true) (hne:es2.isEmpty=false) (hb:es2.length<=1000000) {s0:IV} (hs:s0=.nils\/s0=.clip []) (s:Nat) (own:List (Nat×Blk)) (ext:List Blk)
  (k:KT β):Az (AT E s false .append [t,t] [s0,x]) s ⟨own,ext⟩ k=CS own s (Bc own s (.tok es2.length size) fun own=>k (.app (.own s) es2) ⟨own,ext⟩ [] [.own s]):=by
 obtain ⟨a,b,e,z,ei,hT,he,rfl,h0,hby⟩:=T.h;have hlen:¬ (BI ei.size []=false\/(([]:List FV).length+es2.length) * ei.bytes > 140737488355328\/([]:List FV).length+es2.length > 1073741824):=by
  have:es2.length * ei.bytes<=1000000 * 100000:=Nat.mul_le_mul hb hby
  rintro (h | h | h)
  ·cases h
  ·simp only [Ajh,Ajy] at h;omega
  ·simp only [Ajh,Ajy] at h;omega
 have key:AT E s false .append [t,t] [s0,x]=.ret { eff:={ val:=.app (.own s) es2,upd:=[] },new:=some (.tok es2.length ei.size) }:=by
  show DK E s t (some t) false s0 x=_
  simp only [DK,hT,Ajt,he,Pm hx,Rd.bind,h0,h1,false_or,Bool.true_eq_false,if_false];rcases hs with rfl | rfl<;>simp only [Cm,if_neg hlen,hne,Ajo,Ajx,if_false]
 rw [key];unfold Az;simp only [Rd.runLog]
 show (Hf (some (.tok es2.length ei.size)) s ⟨own,ext⟩ fun h=>fV 3 (.app (.own s) es2) fun v=>k v h [] ([]++[.own s]))=_
 simp only [Hf,Cz,Cj];rfl
theorem aL {t:TypeId} {size:Nat} (T:SliceT E t size) {x:IV} (hx:Plain2 x []) {s0:IV} (hs:s0=.nils\/s0=.clip []) (s:Nat) (h:Hp) (k:KT β) :
  Az (AT E s false .append [t,t] [s0,x]) s h k=k s0 h [] []:=by
 obtain ⟨a,b,e,z,ei,hT,he,rfl,h0,hby⟩:=T.h;have hlen:¬ (BI ei.size []=false\/(([]:List FV).length+([]:List FV).length) * ei.bytes > 140737488355328\/([]:List FV).length+([]:List FV).length > 1073741824):=by
  rintro (h | h | h)
  ·cases h
  ·simp at h
  ·simp at h
 have key:AT E s false .append [t,t] [s0,x]=.ret { eff:={ val:=s0,upd:=[] } }:=by
  show DK E s t (some t) false s0 x=_
  have h1:BI ei.size []=true:=rfl;simp only [DK,hT,Ajt,he,Pm hx,Rd.bind,h0,h1,false_or,Bool.true_eq_false,if_false];rcases hs with rfl | rfl
  ·simp only [Cm];rw [if_neg hlen];simp
  ·simp only [Cm];rw [if_neg hlen];simp
 rw [key];exact FO s0 s h k
theorem NI {t:TypeId} {size:Nat} (T:SliceT E t size) {x:IV} {es es2:List FV} (hx:Plain2 x es2) (h1:BI size es2=true) (h2:BI size es=true) (ho:(es2.all fun e=>e.cells.all FV.one)=true) (hb:es.length+es2.length<=1000000) (r s:Nat)
  (own:List (Nat×Blk)) (ext:List Blk) (k:KT β):Az (AT E s false .append [t,t] [.app (.own r) es,x]) s ⟨own,ext⟩ k =
   E3 own r fun b=>cG b es.length size (Bc own r (.tok (es.length+es2.length) size) fun own=>k (.app (.own r) (es++es2)) ⟨own,ext⟩ [.own r] [.own r]):=by
 obtain ⟨a,b,e,z,ei,hT,he,rfl,h0,hby⟩:=T.h;have hlen:¬ (BI ei.size es=false\/(es.length+es2.length) * ei.bytes > 140737488355328\/es.length+es2.length > 1073741824):=by
  have:(es.length+es2.length) * ei.bytes<=1000000 * 100000:=Nat.mul_le_mul hb hby
  rintro (h | h | h)
  ·rw [h2] at h;cases h
  ·omega
  ·omega
 have key:(AT E s false .append [t,t] [.app (.own r) es,x]).runLog ⟨own,ext⟩ []=(Ap r own).bind fun b=>match b with
   | .tok n sz=>if n=es.length/\sz=ei.size then some ({ eff:={ val:=.app (.own r) (es++es2),upd:=[(.own r,.tok (n+es2.length) sz)] } },[.own r]) else none
   | _=>none:=by
  show (DK E s t (some t) false (.app (.own r) es) x).runLog _ _=_
  simp only [DK,hT,Ajt,he,Pm hx,Rd.bind,h0,h1,false_or,Bool.true_eq_false,if_false,Cm,if_neg hlen,Rd.runLog,ho,and_true]
  show (match Ap r own with | some b=>_ | none=>none)=_
  cases Ap r own with
  | none=>rfl
  | some b =>
   cases b with
   | tok n sz =>
    simp only [Ajt];by_cases hc:n=es.length/\sz=ei.size
    ·rw [if_pos hc,if_pos hc];rfl
    ·rw [if_neg hc,if_neg hc];rfl
   | _=>rfl
 unfold Az;rw [key,BA];cases hl:Ap r own with
 | none=>simp
 | some b =>
  simp only [Ajt];cases b with
  | tok n sz =>
   simp only [cG];by_cases hc:n=es.length/\sz=ei.size
   ·rw [if_pos hc,if_pos hc];obtain ⟨rfl,rfl⟩:=hc
    show (eW (.own r) fun q=>Dq q ⟨own,ext⟩ fun _=>YL (.tok (es.length+es2.length) ei.size) fun b=>FH q b ⟨own,ext⟩ fun h=>Hf none s h fun h=>fV 3 (.app (.own r) (es++es2)) fun v=>k v h [.own r] ([.own r]++[]))=_
    simp only [M9,Cz,Cj,Hf,FH,Dq];rw [BA,hl];rfl
   ·rw [if_neg hc,if_neg hc]
  | row _ _=>rfl
  | map _=>rfl
end
def PH:EE.T 29=some ⟨1,24,.slice 31,[.nils]⟩:=by kernel_rfl
def kK:EE.T 31=some ⟨3,40,.struct [(0,3),(1,3),(2,29)],[.fv (.int .i64 0),.fv (.int .i64 0),.nils]⟩:=by kernel_rfl
def sTm:SliceT EE 29 3:=⟨_,_,_,_,_,PH,kK,rfl,by decide,by decide⟩
def Iy (a:Tm) (s:Nat) (h:Hp) (k:KT (IV×Hp)):Az (Al EE 29 1 [(0,.fv a.enc)]) s h k=k (.clip [a.enc]) h [] []:=by obtain ⟨o1,n1,k1⟩:=a;exact Cx PH kK (by decide) (cells:=[.int .i64 o1,.int .i64 n1,.sl (Tm.enc.encL k1)]) rfl k
def vJ (a b:Tm) (s:Nat) (h:Hp) (k:KT (IV×Hp)):Az (Al EE 29 2 [(0,.fv a.enc),(1,.fv b.enc)]) s h k=k (.clip [a.enc,b.enc]) h [] []:=by obtain ⟨o1,n1,k1⟩:=a;obtain ⟨o2,n2,k2⟩:=b;exact Cx PH kK (by decide) (cells:=[.int .i64 o1,.int .i64 n1,.sl (Tm.enc.encL k1),.int .i64 o2,.int .i64 n2,.sl (Tm.enc.encL k2)]) rfl k
def oM (a:Tm):a.enc.cells.length=3:=by cases a;rfl
def oL (a:Tm):a.enc.cells.all FV.one=true:=by cases a;rfl
theorem OR (l:List Tm):BI 3 (l.map Tm.enc)=true:=by
 cases l with
 | nil=>rfl
 | cons a l=>simp only [Ai5,BI,oM,beq_self_eq_true]
def PF (e:Tm) (s:Nat) (own:List (Nat×Blk)) (ext:List Blk) (k:KT (IV×Hp)) :
  Az (AT EE s false .append [29,29] [.nils,.clip [e.enc]]) s ⟨own,ext⟩ k=CS own s (Bc own s (.tok 1 3) fun own=>k (.app (.own s) [e.enc]) ⟨own,ext⟩ [] [.own s]) :=
 HM sTm (.clip _) (OR [e]) rfl (by simp) (.inl rfl) s own ext k
def Lu {es:List Tm} (hb:es.length+1<=1000000) (e:Tm) (r s:Nat) (own:List (Nat×Blk)) (ext:List Blk) (k:KT (IV×Hp)) :
  Az (AT EE s false .append [29,29] [.app (.own r) (es.map Tm.enc),.clip [e.enc]]) s ⟨own,ext⟩ k =
   E3 own r fun b=>cG b es.length 3 (Bc own r (.tok (es.length+1) 3) fun own=>k (.app (.own r) ((es++[e]).map Tm.enc)) ⟨own,ext⟩ [.own r] [.own r]):=by
 rw [NI sTm (.clip [e.enc]) (OR [e]) (OR es) (by simp [oL]) (by simpa using hb) r s own ext k];simp only [Ajw,List.map_append,Ai5,Ai4,Ai3,Ajh,Ajy]
def tQ {x m:Int} (h1:0<m) (h2:m<=4611686018427387904):(if x.tmod m<0 then BC (x.tmod m+m) else x.tmod m)=x % m:=by
 have a1:=Int.emod_nonneg x (show m≠0 by omega)
 have a2:=Int.emod_lt_of_pos x h1;have e1:x.tmod m=x - m * x.tdiv m:=by have:=Int.mul_tdiv_add_tmod x m;omega
 have e2:x % m=x - m * (x / m):=by have:=Int.mul_ediv_add_emod x m;omega
 have b1:-m<x.tmod m:=Int.lt_tmod_of_pos x h1;have b2:x.tmod m<m:=Int.tmod_lt_of_pos x h1;have key:∃q,x.tmod m=x % m+m * q:=⟨x / m - x.tdiv m,by rw [e1,e2,Int.mul_sub];omega⟩;obtain ⟨q,hq⟩:=key;have hq2:q=0\/q=-1:=by
  rcases Int.lt_trichotomy q 0 with h | h | h
  ·right;rcases Int.lt_trichotomy q (-1) with h' | h' | h'
   ·have:m * q<=m * (-2):=Int.mul_le_mul_of_nonneg_left (by omega) (by omega)
    omega
   ·exact h'
   ·omega
  ·exact .inl h
  ·have:m * 1<=m * q:=Int.mul_le_mul_of_nonneg_left (by omega) (by omega)
   omega
 rcases hq2 with rfl | rfl
 ·rw [if_neg (by omega)];omega
 ·rw [if_pos (by omega),Ax (by omega) (by omega)];omega
def Au {n:Nat} (hn:0<n) (x:Int) {m:Int} (h1:0<m) (h2:m<=4611686018427387904):BE (SS dt n 63 [iv x,iv m] ⟨[],[]⟩) (.int .i64 (x % m)):=by
 obtain ⟨n,rfl⟩:=Nat.exists_eq_add_of_lt hn;rw [Ajy,c63];simp only [S63,↓XX,XY,↓reduceIte,seval,↓Od (show m≠0 by omega)]
 rw [<- tQ h1 h2];by_cases hc:x.tmod m<0<;>simp only [hc,if_true,if_false]<;>exact Aw _ _
def AZ {n:Nat} (hn:0<n) (op:Int):BE (SS dt n 38 [iv op,.fv (.sl [])] ⟨[],[]⟩) (Tm.mk op 0 []).enc:=by obtain ⟨n,rfl⟩:=Nat.exists_eq_add_of_lt hn;rw [Ajy,c38];simp only [S38,↓XX,XY,↓reduceIte,seval];exact Aw _ _
def CM {n:Nat} (hn:0<n) (op:Int) (l:List Tm):BE (SS dt n 38 [iv op,.fv (.sl (l.map Tm.enc))] ⟨[],[]⟩) (Tm.mk op 0 l).enc:=by obtain ⟨n,rfl⟩:=Nat.exists_eq_add_of_lt hn;rw [Ajy,c38];simp only [S38,↓XX,XY,↓reduceIte,seval,Am];exact Aw _ _
def Tm.kids:Tm->List Tm
 | .mk _ _ l=>l
def Tm.op:Tm->Int
 | .mk o _ _=>o
def Tm.n:Tm->Int
 | .mk _ n _=>n
def oI (t:Tm):t.enc=.agg [.int .i64 t.op,.int .i64 t.n,.sl (t.kids.map Tm.enc)]:=by cases t;rw [Am];rfl
def Tm.pick (r:Tm) (i:Nat):Tm:=match r.kids[i]? with
 | some k=>k
 | none=>.mk (BC (BC (r.op.tdiv 3)+i)) (BC (BC (r.n.tdiv 5)+BC (7 * i))) []
theorem AU {n:Nat} (hn:0<n) (r:Tm) (i:Nat):BE (SS dt n 65 [.fv r.enc,iv i] ⟨[],[]⟩) (r.pick i).enc:=by
 obtain ⟨n,rfl⟩:=Nat.exists_eq_add_of_lt hn;rw [Ajy,c65];obtain ⟨op,m,ks⟩:=r;rw [Am];simp only [Tm.pick,Tm.kids,Tm.op,Tm.n];cases hk:ks[i]? with
 | some k =>
  have hi:(i:Int)<ks.length:=by have:=(Ai7.1 hk).1;omega
  obtain ⟨o,p,l⟩:=k;simp only [S65,↓XX,XY,↓reduceIte,seval,hi,↓Bq (AN hk) (Bk _ _ _),↓B8,Am];exact Aw _ _
 | none =>
  have hi:¬ (i:Int)<ks.length:=by have:=List.getElem?_eq_none_iff.1 hk;omega
  simp only [S65,↓XX,XY,↓reduceIte,seval,hi,↓cA (show (3:Int)≠0 by decide),↓cA (show (5:Int)≠0 by decide)]
  exact Bo rfl _
section
variable {β:Type}
def Cw (s:Nat):IV->Bool
 | .ptr (.own j) _=>s == j
 | .slc (.own j) _ _=>s == j
 | .app (.own j) _=>s == j
 | .mapr (.own j)=>s == j
 | _=>false
def FB:IV->Bool
 | .agg _ | .tuple _ | .func ..=>false
 | _=>true
def Fj (s:Nat):Blk->Bool
 | .row cells _=>cells.any (Cw s)
 | _=>false
def R1:Blk->Bool
 | .row cells _=>cells.all FB
 | .tok ..=>true
 | .map _=>false
theorem Yh {v:IV} (h:FB v=true) (s:Nat):(Ref.own s∈v.refs) ↔ Cw s v=true:=by
 cases v with
 | ptr r o=>cases r<;>simp [IV.refs,Cw]
 | slc r a b=>cases r<;>simp [IV.refs,Cw]
 | app r es=>cases r<;>simp [IV.refs,Cw]
 | mapr r=>cases r<;>simp [IV.refs,Cw]
 | agg _=>cases h
 | tuple _=>cases h
 | func _ _ _=>cases h
 | _=>simp [IV.refs,Cw]
theorem IM:∀{l:List IV},l.all FB=true->∀s,(Ref.own s∈IV.refs.refsL l) ↔ l.any (Cw s)=true
 | [],_,s=>by simp [IV.refs.refsL]
 | v::l,h,s=>by
  rw [List.all_cons,Ajz] at h;rw [IV.refs.refsL,Ajk,List.any_cons,Bool.or_eq_true,Yh h.1,IM h.2]
theorem En {b:Blk} (h:R1 b=true) (s:Nat):(Ref.own s∈b.refs) ↔ Fj s b=true:=by
 cases b with
 | row cells ro=>exact IM h s
 | tok n sz=>simp [Blk.refs,Fj]
 | map es=>cases h
theorem Ia (s:Nat):∀l:List Ref,anyIn [s] l=true ↔ Ref.own s∈l
 | []=>by simp [anyIn]
 | .own k::l=>by
  rw [anyIn,Bool.or_eq_true,Ia s l,Ajp];simp [eq_comm]
 | .ext k::l=>by
  rw [anyIn,Ia s l,Ajp];simp
def heldB (rm:List Nat) (vals:List IV) (own:List (Nat×Blk)) (ext:List Blk) (s:Nat):Bool :=vals.any (Cw s) || (own.any (fun p=>!rm.contains p.1 && Fj s p.2) || ext.any (Fj s))
def Ho (rm:List Nat) (vals:List IV) (own:List (Nat×Blk)) (ext:List Blk):List (Nat×Blk):=own.filter fun p=>!rm.contains p.1 || heldB rm vals own ext p.1
def AS (rm:List Nat) (vals:List IV) (own:List (Nat×Blk)) (ext:List Blk):Bool :=vals.all FB && (own.all (fun p=>R1 p.2) && (ext.all R1 && own.all fun p=>!rm.contains p.1 || rm.all fun s=>!Fj s p.2))
theorem Ry {rm:List Nat} {vals:List IV} {own:List (Nat×Blk)} {ext:List Blk} (hf:AS rm vals own ext=true) (s:Nat) :
  Ref.own s∈IV.refs.refsL vals++(own.filter fun p=>!rm.contains p.1).flatMap (fun p=>p.2.refs)++ext.flatMap Blk.refs ↔ heldB rm vals own ext s=true:=by
 simp only [AS,Ajz] at hf;obtain ⟨h1,h2,h3,_⟩:=hf;have e1:Ref.own s∈(own.filter fun p=>!rm.contains p.1).flatMap (fun p=>p.2.refs) ↔ (own.any fun p=>!rm.contains p.1 && Fj s p.2)=true:=by
  rw [List.mem_flatMap,List.any_eq_true];constructor
  ·rintro ⟨p,hp,hr⟩;obtain ⟨hp1,hp2⟩:=List.mem_filter.1 hp;exact ⟨p,hp1,by rw [hp2,(En (Ajl.1 h2 p hp1) s).1 hr];rfl⟩
  ·rintro ⟨p,hp,hr⟩;rw [Ajz] at hr;exact ⟨p,List.mem_filter.2 ⟨hp,hr.1⟩,(En (Ajl.1 h2 p hp) s).2 hr.2⟩
 have e2:Ref.own s∈ext.flatMap Blk.refs ↔ ext.any (Fj s)=true:=by
  rw [List.mem_flatMap,List.any_eq_true];constructor
  ·rintro ⟨p,hp,hr⟩;exact ⟨p,hp,(En (Ajl.1 h3 p hp) s).1 hr⟩
  ·rintro ⟨p,hp,hr⟩;exact ⟨p,hp,(En (Ajl.1 h3 p hp) s).2 hr⟩
 rw [Ajk,Ajk,IM h1,e1,e2,heldB,Bool.or_eq_true,Bool.or_eq_true,or_assoc]
theorem AI {base rm:List Nat} {vals:List IV} {own:List (Nat×Blk)} {ext:List Blk} (hb:rm.any base.contains=false) (hf:AS rm vals own ext=true) (k:Hp->Option β) :
  Bm base rm vals ⟨own,ext⟩ k=k ⟨Ho rm vals own ext,ext⟩:=by
 have hm:=Ry hf;have hf0:=hf;simp only [AS,Ajz] at hf0;obtain ⟨g1,g2,g3,g4⟩:=hf0;unfold Bm;rw [hb];simp only [cond_false];rw [Ls];cases ha:(own.all fun p=>!rm.contains p.1) with
 | true =>
  simp only [Bool.not_true,cond_false];congr 2
  symm
  apply List.filter_eq_self.2;intro p hp;rw [Ajl.1 ha p hp];rfl
 | false =>
  simp only [Bool.not_false,cond_true];have slow:(match CR base [] rm ⟨vals,⟨own,ext⟩⟩ with | none=>none | some S=>fH S.hp k)=k ⟨Ho rm vals own ext,ext⟩:=by
   have hgone:(rm.filter fun k=>!anyIn [k] (IV.refs.refsL vals++(own.filter fun p=>!rm.contains p.1).flatMap (fun p=>p.2.refs)++ext.flatMap Blk.refs))=rm.filter fun s=>!heldB rm vals own ext s:=by apply List.filter_congr;intro s _;congr 1;exact Bool.eq_iff_iff.2 ((Ia s _).trans (hm s))
   have hown:(own.filter fun p=>!(rm.filter fun s=>!heldB rm vals own ext s).contains p.1)=Ho rm vals own ext:=by
    apply List.filter_congr;intro p _;rw [Bool.eq_iff_iff];simp only [Bool.not_eq_true',Bool.or_eq_true,List.contains_eq_mem,decide_eq_false_iff_not,List.mem_filter];constructor
    ·intro h;by_cases h1:p.1∈rm
     ·right;cases hh:heldB rm vals own ext p.1 with
      | true=>rfl
      | false=>exact absurd ⟨h1,hh⟩ h
     ·exact .inl h1
    ·rintro (h | h) ⟨h1,h2⟩
     ·exact h h1
     ·rw [h] at h2;exact absurd h2 (by simp)
   simp only [CR,hb,Ajx,if_false,Be,ha,hgone,hown];have hnone:anyIn (rm.filter fun s=>!heldB rm vals own ext s) (De ⟨vals,⟨Ho rm vals own ext,ext⟩⟩)=false:=by
    apply El;intro s hs hmem;obtain ⟨hs1,hs2⟩:=List.mem_filter.1 hs;have hs2:heldB rm vals own ext s=false:=by simpa using hs2
    simp only [De,Ajk] at hmem;rcases hmem with (hmem | hmem) | hmem
    ·have:=(hm s).1 (List.mem_append_left _ (List.mem_append_left _ hmem))
     rw [this] at hs2;cases hs2
    ·obtain ⟨p,hp,hr⟩:=List.mem_flatMap.1 hmem;have hp1:=(List.mem_filter.1 hp).1;have hn:=(En (Ajl.1 g2 p hp1) s).1 hr;have h4:=Ajl.1 g4 p hp1;cases hc:rm.contains p.1 with
     | true =>rw [hc] at h4;have h4:(rm.all fun s=>!Fj s p.2)=true:=h4;have h5:=Ajl.1 h4 s hs1;rw [hn] at h5;cases h5
     | false =>
      have:=(hm s).1 (List.mem_append_left _ (List.mem_append_right _ (List.mem_flatMap.2 ⟨p,List.mem_filter.2 ⟨hp1,by rw [hc];rfl⟩,hr⟩)))
      rw [this] at hs2;cases hs2
    ·have:=(hm s).1 (List.mem_append_right _ hmem)
     rw [this] at hs2;cases hs2
   simp only [hnone,Ajx,if_false,In]
  cases hff:(and (Fr rm (CP vals [])) (and (Hv rm own) (Iu rm ext))) with
  | false=>exact slow
  | true =>
   have hff:(Fr rm (CP vals []) && (Hv rm own && Iu rm ext))=true:=hff;simp only [Ajz] at hff;simp only [Hh,cond_true];congr 2;apply List.filter_congr;intro p hp;cases hc:rm.contains p.1 with
   | false=>rfl
   | true =>
    have h1:=Ft hff.1;rw [refsDL_eq,Ajm] at h1;have h2:=Hz hff.2.1;have h3:=Nn hff.2.2
    have:heldB rm vals own ext p.1=false:=by
     cases hh:heldB rm vals own ext p.1 with
     | false=>rfl
     | true =>
      have:=(hm p.1).2 hh
      have hpm:p.1∈rm:=List.contains_iff_mem.1 hc;rcases Ajk.1 this with h | h
      ·rcases Ajk.1 h with h | h
       ·exact absurd h (h1 _ hpm)
       ·exact absurd h (h2 _ hpm)
      ·exact absurd h (h3 _ hpm)
    rw [this];rfl
end
section
variable (s j:Nat)
theorem Agg (rm:List Nat) (vals:List IV) (own:List (Nat×Blk)) (ext:List Blk):Ho rm vals own ext=own.filter fun p=>!rm.contains p.1 || heldB rm vals own ext p.1:=rfl
theorem nv1 (o:Nat):Cw s (.ptr (.own j) o)=(s == j):=rfl
theorem nv2 (a b:Nat):Cw s (.slc (.own j) a b)=(s == j):=rfl
theorem nv3 (es:List FV):Cw s (.app (.own j) es)=(s == j):=rfl
theorem nv4 (v:FV):Cw s (.fv v)=false:=rfl
theorem nv5:Cw s .nils=false:=rfl
theorem nv6 (es:List FV):Cw s (.clip es)=false:=rfl
theorem nv7 (o:Nat):Cw s (.ptr (.ext j) o)=false:=rfl
theorem nv8:Cw s .dead=false:=rfl
theorem nb1 (cs:List IV) (ro:Bool):Fj s (.row cs ro)=cs.any (Cw s):=rfl
theorem nb2 (a b:Nat):Fj s (.tok a b)=false:=rfl
theorem AfU (r:Ref) (o:Nat):FB (.ptr r o)=true:=rfl
theorem AfB (r:Ref) (a b:Nat):FB (.slc r a b)=true:=rfl
theorem AeQ (r:Ref) (es:List FV):FB (.app r es)=true:=rfl
theorem Adk (v:FV):FB (.fv v)=true:=rfl
theorem Aef:FB .nils=true:=rfl
theorem AeD (es:List FV):FB (.clip es)=true:=rfl
theorem AdS:FB .dead=true:=rfl
theorem AdZ (cs:List IV) (ro:Bool):R1 (.row cs ro)=cs.all FB:=rfl
theorem fb_2 (a b:Nat):R1 (.tok a b)=true:=rfl
end
def XD:=AiY @Agg<|AiY @nv1<|AiY @nv2<|AiY @nv3<|AiY @nv4<|AiY @nv5<|AiY @nv6<|AiY @nv7<|AiY @nv8<|AiY @nb1<|AiY @nb2<|AiY @AfU<|AiY @AfB<|AiY @AeQ<|AiY @Adk<|AiY @Aef<|AiY @AeD<|AiY @AdS<|AiY @AdZ<|@fb_2
def Ak (op:Int) (i:Nat):Nat :=if op=3\/op=4\/op=6\/op=20\/op=28\/op=29 then (if i=1 then 1 else 0) else if op=13 then (if i=0 then 1 else if i=2 then 2 else 0) else 0
theorem AW (op:Int) (i:Nat):Ak op i<=2:=by
 unfold Ak
 repeat' split
 all_goals omega
theorem Fy {n:Nat} (hn:0<n) (op:Int) (i:Nat):BE (SS dt n 47 [iv op,iv i] ⟨[],[]⟩) (.int .i64 (Ak op i)):=by
 obtain ⟨n,rfl⟩:=psc n (by omega);rw [c47];unfold Ak;by_cases h:op=3\/op=4\/op=6\/op=20\/op=28\/op=29
 ·rw [if_pos h];by_cases hi:i=1
  ·subst hi;rcases h with rfl | rfl | rfl | rfl | rfl | rfl<;>(simp only [qN,↓XX,XY,↓reduceIte,seval];exact Aw _ _)
  ·have hi':¬ (i:Int)=1:=by omega
   rcases h with rfl | rfl | rfl | rfl | rfl | rfl<;>(simp only [qN,↓XX,XY,↓reduceIte,seval,hi',hi];exact Aw _ _)
 ·rw [if_neg h];have h3:¬ op=3:=fun e=>h (by simp [e]);have h4:¬ op=4:=fun e=>h (by simp [e]);have h6:¬ op=6:=fun e=>h (by simp [e]);have h20:¬ op=20:=fun e=>h (by simp [e]);have h28:¬ op=28:=fun e=>h (by simp [e]);have h29:¬ op=29:=fun e=>h (by simp [e]);by_cases h13:op=13
  ·subst h13;by_cases hi:i=0
   ·subst hi;simp only [qN,↓XX,XY,↓reduceIte,seval];exact Aw _ _
   ·have hi':¬ (i:Int)=0:=by omega
    by_cases hj:i=2
    ·subst hj;simp only [qN,↓XX,XY,↓reduceIte,seval];exact Aw _ _
    ·have hj':¬ (i:Int)=2:=by omega
     simp only [qN,↓XX,XY,↓reduceIte,seval,hi,hi',hj,hj'];exact Aw _ _
  ·simp only [qN,↓XX,XY,↓reduceIte,seval,h3,h4,h6,h20,h28,h29,h13];exact Aw _ _
theorem pP {n:Nat} (hn:0<n) (x:Int):BE (SS dt n 39 [iv x] ⟨[],[]⟩) (Tm.mk 1 x []).enc:=by obtain ⟨n,rfl⟩:=psc n (by omega);rw [c39];simp only [S39,↓XX,XY,↓reduceIte,seval];exact Bo rfl _
theorem G8 {n:Nat} (hn:0<n) (x:Int):BE (SS dt n 50 [iv x] ⟨[],[]⟩) (Tm.mk 2 x []).enc:=by obtain ⟨n,rfl⟩:=psc n (by omega);rw [c50];simp only [S50,↓XX,XY,↓reduceIte,seval];exact Bo rfl _
theorem cQ {n:Nat} (hn:0<n) (x:Int):BE (SS dt n 43 [iv x] ⟨[],[]⟩) (Tm.mk 25 x []).enc:=by obtain ⟨n,rfl⟩:=psc n (by omega);rw [c43];simp only [S43,↓XX,XY,↓reduceIte,seval];exact Bo rfl _
mutual
/-- No more than four kids anywhere. -/
def Tm.wk:Tm->Prop
 | .mk _ _ ks=>ks.length<=4/\Tm.wkL ks
def Tm.wkL:List Tm->Prop
 | []=>True
 | t::l=>t.wk/\Tm.wkL l
end
theorem KY {t:Tm}:∀{l:List Tm},Tm.wkL l->t∈l->t.wk
 | a::l,h,hm=>by
  rw [Tm.wkL] at h;rcases Ajp.1 hm with rfl | hm
  ·exact h.1
  ·exact KY h.2 hm
mutual
def Tm.shift:Tm->Int->Int->Tm
 | .mk op n ks,d,c=>.mk op (if op=1/\c<=n then BC (n+d) else n) (Tm.shiftL op 0 ks d c)
def Tm.shiftL:Int->Nat->List Tm->Int->Int->List Tm
 | _,_,[],_,_=>[]
 | op,i,t::l,d,c=>t.shift d (c+Ak op i)::Tm.shiftL op (i+1) l d c
end
theorem Er (op:Int) (d c:Int):∀(l:List Tm) (i:Nat),(Tm.shiftL op i l d c).length=l.length
 | [],_=>rfl
 | _::l,i=>by simp only [Tm.shiftL,Ai3,Er op d c l]
theorem MN (op d c:Int):∀(l l':List Tm) (i:Nat),Tm.shiftL op i (l++l') d c=Tm.shiftL op i l d c++Tm.shiftL op (i+l.length) l' d c
 | [],l',i=>by simp [Tm.shiftL]
 | t::l,l',i=>by simp only [Ajq,Tm.shiftL,MN op d c l l',Ai3];congr 3;omega
theorem CE:∀(n:Nat) (t:Tm) (d c:Int),t.wt+1<n->t.wk->0<=c->c+2 * t.wt<=4611686018427387904->BE (SS dt n 35 [.fv t.enc,iv d,iv c] ⟨[],[]⟩) (t.shift d c).enc:=by
 intro n
 induction n with
 | zero=>intro t d c h;omega
 | succ n ih =>
  intro t d c h hw hc0 hc;obtain ⟨op,m,ks⟩:=t;simp only [Tm.wt] at h hc;rw [Tm.wk] at hw;rw [c35,Am];have hlen:=Dp ks;have main:∀m',m'=(if op=1/\c<=m then BC (m+d) else m) ->
    BE (BG n (fun q28 l29 h30=>Ie l29 h30 (SS dt n) ⟨[],[]⟩ q28) [iv d,iv c,.ptr (.own 36700160) 0,.ptr (.own 36700161) 0,.ptr (.own 36701189) 0,iv 0]
     ⟨[(36700160,.row [iv op,iv m,.fv (.sl (ks.map Tm.enc))] false),(36700161,.row [iv 0,iv 0,.nils] false),(36701189,.row [iv op,iv m',.nils] false)],[]⟩) ((Tm.mk op m ks).shift d c).enc:=by
   intro m' hm';refine Ba (Q:=fun r=>BE r _) (fun k V H=>∃pre rest,ks=pre++rest/\rest.length=k/\V=[iv d,iv c,.ptr (.own 36700160) 0,.ptr (.own 36700161) 0,.ptr (.own 36701189) 0,iv pre.length] /\
    (
     (pre=[]/\H=⟨[(36700160,.row [iv op,iv m,.fv (.sl (ks.map Tm.enc))] false),(36700161,.row [iv 0,iv 0,.nils] false),(36701189,.row [iv op,iv m',.nils] false)],[]⟩) \/
     (pre≠[]/\H=⟨[(36700160,.row [iv op,iv m,.fv (.sl (ks.map Tm.enc))] false),(36700161,.row [iv 0,iv 0,.nils] false),(36701189,.row [iv op,iv m',.app (.own 36707344) ((Tm.shiftL op 0 pre d c).map Tm.enc)] false),(36707344,.tok (Tm.shiftL op 0 pre d c).length 3)],[]⟩)))
    ?_ n ks.length _ _ (by omega) ⟨[],ks,rfl,rfl,rfl,.inl ⟨rfl,rfl⟩⟩
   rintro k V H rec ⟨pre,rest,hk,hl,rfl,hH⟩ hrec;have hkl:ks.length=pre.length+rest.length:=by rw [hk];simp
   cases rest with
   | nil =>
    have hno:¬ ((pre.length:Int)<ks.length):=by rw [hkl];simp
    have hpre:ks=pre:=by simpa using hk
    rcases hH with ⟨rfl,rfl⟩ | ⟨_,rfl⟩
    ·subst hpre;simp only [FM,Ie,F6,mR,↓XX,XY,↓reduceIte,seval,Int.lt_irrefl,Tm.shift,Tm.shiftL,<- hm',Am];exact Bo rfl _
    ·subst hpre;simp only [FM,Ie,F6,mR,↓XX,XY,↓reduceIte,seval,Int.lt_irrefl,Tm.shift,<- hm',Am];exact Bo rfl _
   | cons t rest =>
    have hi:(pre.length:Int)<ks.length:=by rw [hkl];simp;omega
    have hg:=BY hk;have htw:=Cb (t:=t) (l:=ks) (by rw [hk];simp);have hb:=Fy (n:=n) (by omega) op pre.length;have hble:=AW op pre.length;have hs:=ih t d (c+Ak op pre.length) (by omega) (KY hw.2 (by rw [hk];simp)) (by omega) (by omega);have hx:Tm.shiftL op 0 (pre++[t]) d c=Tm.shiftL op 0 pre d c++[t.shift d (c+Ak op pre.length)]:=by rw [MN];simp [Tm.shiftL]
    have hwc:BC (c+Ak op pre.length)=c+Ak op pre.length:=by rw [Ax]<;>omega
    have hwi:BC ((pre.length:Int)+1)=((pre++[t]).length:Int):=(Ax (by omega) (by omega)).trans (by simp);generalize hu:t.shift d (c+Ak op pre.length)=u at hs hx;obtain ⟨o,p,l⟩:=t;simp only [Ai3] at hl;rw [Am] at hs;rcases hH with ⟨hp0,rfl⟩ | ⟨hne,rfl⟩
    ·simp only [FM,Ie,F6,mR,↓XX,XY,↓reduceIte,seval,hi,↓Bq (AN hg) (Bk _ _ _),↓B8,↓Af hb,hwc,hwi,↓Av hs,↓Iy,↓PF,↓AI,XD,heldB,AS,XE];refine hrec rest.length _ _ (by omega) ?_;refine ⟨pre++[.mk o p l],rest,by rw [hk];simp,rfl,rfl,.inr ⟨by simp,?_⟩⟩;rw [hx,hp0];rfl
    ·have hle:(Tm.shiftL op 0 pre d c).length+1<=1000000:=by rw [Er];omega
     have hq:(Tm.shiftL op 0 pre d c).length=pre.length:=Er ..;simp only [FM,Ie,F6,mR,↓XX,XY,↓reduceIte,seval,hi,↓Bq (AN hg) (Bk _ _ _),↓B8,↓Af hb,hwc,hwi,↓Av hs,↓Iy,↓Lu hle,↓G4,↓AI,XD,heldB,AS,XE];refine hrec rest.length _ _ (by omega) ?_;refine ⟨pre++[.mk o p l],rest,by rw [hk];simp,rfl,rfl,.inr ⟨by simp,?_⟩⟩;rw [hx];simp only [Ajg,Ai3,Ajh]
  by_cases h1:op=1
  ·by_cases h2:c<=m
   ·subst h1;simp only [FM,F6,mR,↓XX,XY,↓reduceIte,seval,h2,↓AI,XD,heldB,AS,XE];exact main _ (by simp [h2])
   ·subst h1;simp only [FM,F6,mR,↓XX,XY,↓reduceIte,seval,h2,↓AI,XD,heldB,AS,XE];exact main _ (by simp [h2])
  ·simp only [FM,F6,mR,↓XX,XY,↓reduceIte,seval,h1,↓AI,XD,heldB,AS,XE];exact main _ (by simp [h1])
mutual
def Tm.subst:Tm->Int->Int->Tm->Tm
 | .mk op m ks,n,d,u=>if op=1 then (if m=n then u.shift d 0 else if n<m then .mk 1 (BC (m - 1)) [] else .mk op m ks) else .mk op m (Tm.substL op 0 ks n d u)
def Tm.substL:Int->Nat->List Tm->Int->Int->Tm->List Tm
 | _,_,[],_,_,_=>[]
 | op,i,t::l,n,d,u=>t.subst (n+Ak op i) (d+Ak op i) u::Tm.substL op (i+1) l n d u
end
theorem GH (op n d:Int) (u:Tm):∀(l:List Tm) (i:Nat),(Tm.substL op i l n d u).length=l.length
 | [],_=>rfl
 | _::l,i=>by simp only [Tm.substL,Ai3,GH op n d u l]
theorem MC (op n d:Int) (u:Tm):∀(l l':List Tm) (i:Nat),Tm.substL op i (l++l') n d u=Tm.substL op i l n d u++Tm.substL op (i+l.length) l' n d u
 | [],l',i=>by simp [Tm.substL]
 | t::l,l',i=>by simp only [Ajq,Tm.substL,MC op n d u l l',Ai3];congr 3;omega
theorem fQ (u:Tm) (hu:u.wk) (huw:u.wt<=1152921504606846976):∀(n:Nat) (t:Tm) (c d:Int),t.wt+u.wt+3<n->t.wk->-1000000000<=c->c+2 * t.wt<=4611686018427387904->0<=d->d+2 * t.wt<=4611686018427387904 ->
  BE (SS dt n 69 [.fv t.enc,iv c,iv d,.fv u.enc] ⟨[],[]⟩) (t.subst c d u).enc:=by
 intro n
 induction n with
 | zero=>intro t c d h;omega
 | succ n ih =>
  intro t c d h hw hc0 hc hd0 hd;obtain ⟨op,m,ks⟩:=t;simp only [Tm.wt] at h hc hd;rw [Tm.wk] at hw;rw [c69,Am];have hlen:=Dp ks;by_cases h1:op=1
  ·subst h1;have hsh:=CE n u d 0 (by omega) hu (by omega) (by omega);rw [Tm.subst,if_pos rfl];generalize u.shift d 0=z at hsh ⊢;obtain ⟨uo,un,uk⟩:=u;obtain ⟨zo,zn,zk⟩:=z;rw [Am] at hsh ⊢;by_cases h2:m=c
   ·subst h2;simp only [↓eH,↓XX,XY,↓reduceIte,seval,↓Av hsh];simp only [↓eH,↓XX,XY,↓reduceIte,seval,Am];exact Bo rfl _
   ·by_cases h3:c<m
    ·simp only [↓eH,↓XX,XY,↓reduceIte,seval,h2,h3,Am];exact Bo rfl _
    ·simp only [↓eH,↓XX,XY,↓reduceIte,seval,h2,h3,Am];exact Bo rfl _
  ·have main :
    BE (BG n (fun q l h=>HQ l h (SS dt n) ⟨[],[]⟩ q) [iv c,iv d,.ptr (.own 72351744) 0,.ptr (.own 72351745) 0,.ptr (.own 72351746) 0,.ptr (.own 72358917) 0,iv 0]
     ⟨[(72351744,.row [iv op,iv m,.fv (.sl (ks.map Tm.enc))] false),(72351745,.row [iv u.op,iv u.n,.fv (.sl (u.kids.map Tm.enc))] false),(72351746,.row [iv 0,iv 0,.nils] false),(72358917,.row [iv op,iv m,.nils] false)],[]⟩)
      (Tm.mk op m (Tm.substL op 0 ks c d u)).enc:=by
    refine Ba (Q:=fun r=>BE r _) (fun k V H=>∃pre rest,ks=pre++rest/\rest.length=k/\V=[iv c,iv d,.ptr (.own 72351744) 0,.ptr (.own 72351745) 0,.ptr (.own 72351746) 0,.ptr (.own 72358917) 0,iv pre.length] /\
     (
      (pre=[]/\H=⟨[(72351744,.row [iv op,iv m,.fv (.sl (ks.map Tm.enc))] false),(72351745,.row [iv u.op,iv u.n,.fv (.sl (u.kids.map Tm.enc))] false),(72351746,.row [iv 0,iv 0,.nils] false),(72358917,.row [iv op,iv m,.nils] false)],[]⟩) \/
      (
      pre≠[]/\H=⟨[(72351744,.row [iv op,iv m,.fv (.sl (ks.map Tm.enc))] false),(72351745,.row [iv u.op,iv u.n,.fv (.sl (u.kids.map Tm.enc))] false),(72351746,.row [iv 0,iv 0,.nils] false),
      (72358917,.row [iv op,iv m,.app (.own 72364048) ((Tm.substL op 0 pre c d u).map Tm.enc)] false),(72364048,.tok (Tm.substL op 0 pre c d u).length 3)],[]⟩)))
     ?_ n ks.length _ _ (by omega) ⟨[],ks,rfl,rfl,rfl,.inl ⟨rfl,rfl⟩⟩
    rintro k V H rec ⟨pre,rest,hk,hl,rfl,hH⟩ hrec;have hkl:ks.length=pre.length+rest.length:=by rw [hk];simp
    cases rest with
    | nil =>
     have hno:¬ ((pre.length:Int)<ks.length):=by rw [hkl];simp
     have hpre:ks=pre:=by simpa using hk
     rcases hH with ⟨rfl,rfl⟩ | ⟨_,rfl⟩
     ·subst hpre;simp only [HZ,HS,HQ,H6,S69,↓XX,XY,↓reduceIte,seval,Int.lt_irrefl,Tm.substL,Am];exact Bo rfl _
     ·subst hpre;simp only [HZ,HS,HQ,H6,S69,↓XX,XY,↓reduceIte,seval,Int.lt_irrefl,Am];exact Bo rfl _
    | cons t rest =>
     have hi:(pre.length:Int)<ks.length:=by rw [hkl];simp;omega
     have hg:=BY hk;have htw:=Cb (t:=t) (l:=ks) (by rw [hk];simp);have hb:=Fy (n:=n) (by omega) op pre.length;have hble:=AW op pre.length;have hs:=ih t (c+Ak op pre.length) (d+Ak op pre.length) (by omega) (KY hw.2 (by rw [hk];simp)) (by omega) (by omega) (by omega) (by omega);have hx:Tm.substL op 0 (pre++[t]) c d u=Tm.substL op 0 pre c d u++[t.subst (c+Ak op pre.length) (d+Ak op pre.length) u]:=by rw [MC];simp [Tm.substL]
     have hwc:BC (c+Ak op pre.length)=c+Ak op pre.length:=by rw [Ax]<;>omega
     have hwd:BC (d+Ak op pre.length)=d+Ak op pre.length:=by rw [Ax]<;>omega
     have hwi:BC ((pre.length:Int)+1)=((pre++[t]).length:Int):=(Ax (by omega) (by omega)).trans (by simp);generalize hv:t.subst (c+Ak op pre.length) (d+Ak op pre.length) u=v at hs hx;obtain ⟨o,p,l⟩:=t;simp only [Ai3] at hl;have hue:u.enc=.agg [.int .i64 u.op,.int .i64 u.n,.sl (u.kids.map Tm.enc)]:=by cases u;exact Am ..
     rw [Am,hue] at hs;rcases hH with ⟨hp0,rfl⟩ | ⟨hne,rfl⟩
     ·simp only [HZ,HS,HQ,H6,S69,↓XX,XY,↓reduceIte,seval,hi,↓Bq (AN hg) (Bk _ _ _),↓B8,↓Af hb,hwc,hwd,hwi,↓As hs,↓Iy,↓PF,↓AI,XD,heldB,AS,XE];refine hrec rest.length _ _ (by omega) ?_;refine ⟨pre++[.mk o p l],rest,by rw [hk];simp,rfl,rfl,.inr ⟨by simp,?_⟩⟩;rw [hx,hp0];rfl
     ·have hle:(Tm.substL op 0 pre c d u).length+1<=1000000:=by rw [GH];omega
      simp only [HZ,HS,HQ,H6,S69,↓XX,XY,↓reduceIte,seval,hi,↓Bq (AN hg) (Bk _ _ _),↓B8,↓Af hb,hwc,hwd,hwi,↓As hs,↓Iy,↓Lu hle,↓G4,↓AI,XD,heldB,AS,XE];refine hrec rest.length _ _ (by omega) ?_;refine ⟨pre++[.mk o p l],rest,by rw [hk];simp,rfl,rfl,.inr ⟨by simp,?_⟩⟩;rw [hx];simp only [Ajg,Ai3,Ajh]
   rw [Tm.subst,if_neg h1];obtain ⟨uo,un,uk⟩:=u;rw [Am (op:=uo)];simp only [↓eH,↓XX,XY,↓reduceIte,seval,h1,↓AI,XD,heldB,AS,XE];exact main
theorem L8 {n:Nat} (t u:Tm) (c:Int) (hu:u.wk) (huw:u.wt<=1152921504606846976) (h:t.wt+u.wt+4<n) (hw:t.wk) (hww:t.wt<=2305843009213693951) (h0:-1000000000<=c) (hc:c+2 * t.wt<=4611686018427387904) :
  BE (SS dt n 32 [.fv t.enc,iv c,.fv u.enc] ⟨[],[]⟩) (t.subst c 0 u).enc:=by
 obtain ⟨n,rfl⟩:=psc n (by omega);rw [c32];have hs:=fQ u hu huw n t c 0 (by omega) hw h0 hc (by omega) (by omega);generalize t.subst c 0 u=v at hs ⊢;obtain ⟨o1,n1,k1⟩:=t;obtain ⟨o2,n2,k2⟩:=u;obtain ⟨o3,n3,k3⟩:=v;simp only [Am] at hs ⊢;simp only [S32,↓XX,XY,↓reduceIte,seval,↓As hs];exact Bo rfl _
mutual
def Tm.free:Tm->Int->Bool
 | .mk op m ks,c=>if op=1 then decide (m=c) else Tm.freeL op 0 ks c
def Tm.freeL:Int->Nat->List Tm->Int->Bool
 | _,_,[],_=>false
 | op,i,t::l,c=>t.free (c+Ak op i) || Tm.freeL op (i+1) l c
end
theorem VD:∀(n:Nat) (t:Tm) (c:Int),t.wt+1<n->t.wt<=1152921504606846976->-1000000000<=c->c+2 * t.wt<=461168601842738->BE (SS dt n 88 [.fv t.enc,iv c] ⟨[],[]⟩) (.bool (t.free c)):=by
 intro n
 induction n with
 | zero=>intro t c h;omega
 | succ n ih =>
  intro t c h hw hc0 hc;obtain ⟨op,m,ks⟩:=t;simp only [Tm.wt] at h hw hc;rw [c88,Am];have hlen:=Dp ks;by_cases h1:op=1
  ·subst h1;rw [Tm.free,if_pos rfl];simp only [Kz,vP,↓XX,XY,↓reduceIte,seval];exact Aw _ _
  ·rw [Tm.free,if_neg h1];simp only [Kz,vP,↓XX,XY,↓reduceIte,seval,h1];refine Ba (Q:=fun r=>BE r _) (fun k V H=>∃pre rest,ks=pre++rest/\rest.length=k/\V=[iv c,.ptr (.own 92274688) 0,iv pre.length]/\H=⟨[(92274688,.row [iv op,iv m,.fv (.sl (ks.map Tm.enc))] false)],[]⟩/\Tm.freeL op pre.length rest c=Tm.freeL op 0 ks c)
    ?_ n ks.length _ _ (by omega) ⟨[],ks,rfl,rfl,rfl,rfl,rfl⟩
   rintro k V H rec ⟨pre,rest,hk,hl,rfl,rfl,ht⟩ hrec;have hkl:ks.length=pre.length+rest.length:=by rw [hk];simp
   cases rest with
   | nil =>
    have hno:¬ ((pre.length:Int)<ks.length):=by rw [hkl];simp
    rw [<- ht];simp only [Kz,QB,vP,↓XX,XY,↓reduceIte,seval,hno,Tm.freeL];exact Aw _ _
   | cons t rest =>
    have hi:(pre.length:Int)<ks.length:=by rw [hkl];simp;omega
    have hg:=BY hk;have htw:=Cb (t:=t) (l:=ks) (by rw [hk];simp);have hb:=Fy (n:=n) (by omega) op pre.length;have hble:=AW op pre.length;have hs:=ih t (c+Ak op pre.length) (by omega) (by omega) (by omega) (by omega);have hwc:BC (c+Ak op pre.length)=c+Ak op pre.length:=by rw [Ax]<;>omega
    have hwi:BC ((pre.length:Int)+1)=((pre++[t]).length:Int):=(Ax (by omega) (by omega)).trans (by simp);simp only [Tm.freeL] at ht;generalize t.free (c+Ak op pre.length)=v at hs ht;obtain ⟨o,p,l⟩:=t;simp only [Ai3] at hl;rw [Am] at hs;cases v
    ·simp only [Kz,QB,vP,↓XX,XY,↓reduceIte,seval,hi,↓Bq (AN hg) (Bk _ _ _),↓B8,↓Af hb,hwc,hwi,↓Af hs];refine hrec rest.length _ _ (by omega) ?_;exact ⟨pre++[.mk o p l],rest,by rw [hk];simp,rfl,rfl,rfl,by simpa using ht⟩
    ·rw [<- ht];simp only [Kz,QB,vP,↓XX,XY,↓reduceIte,seval,hi,↓Bq (AN hg) (Bk _ _ _),↓B8,↓Af hb,hwc,hwi,↓Af hs,Bool.true_or];exact Aw _ _
mutual
def Tm.same:Tm->Tm->Bool
 | .mk o n l,.mk o' n' l'=>decide (o=o') && (decide (n=n') && (decide (l.length=l'.length) && Tm.sameL l l'))
def Tm.sameL:List Tm->List Tm->Bool
 | a::l,b::l'=>a.same b && Tm.sameL l l'
 | _,_=>true
end
mutual
theorem JK:∀a b:Tm,a.same b=true ↔ a=b
 | .mk o n l,.mk o' n' l'=>by
  simp only [Tm.same,Ajz,decide_eq_true_eq,Tm.mk.injEq];constructor
  ·rintro ⟨rfl,rfl,h1,h2⟩;exact ⟨rfl,rfl,(sameL_eq l l' h1).1 h2⟩
  ·rintro ⟨rfl,rfl,rfl⟩;exact ⟨rfl,rfl,rfl,(sameL_eq l l rfl).2 rfl⟩
theorem sameL_eq:∀l l':List Tm,l.length=l'.length->(Tm.sameL l l'=true ↔ l=l')
 | [],[],_=>by simp [Tm.sameL]
 | a::l,b::l',h=>by
  simp only [Tm.sameL,Ajz,List.cons.injEq,JK a b,sameL_eq l l' (by simpa using h)]
end
theorem JW:∀(n:Nat) (a b:Tm),a.wt+1<n->a.wt<=1152921504606846976->BE (SS dt n 23 [.fv a.enc,.fv b.enc] ⟨[],[]⟩) (.bool (a.same b)):=by
 intro n
 induction n with
 | zero=>intro a b h;omega
 | succ n ih =>
  intro a b h hw;obtain ⟨op,m,ks⟩:=a;obtain ⟨op',m',ks'⟩:=b;simp only [Tm.wt] at h hw;rw [c23,Am,Am];have hlen:=Dp ks;rw [Tm.same];by_cases h1:op=op'
  ·by_cases h2:m=m'
   ·by_cases h3:ks.length=ks'.length
    ·have h3':(ks.length:Int)=ks'.length:=by omega
     subst h1 h2;simp only [FW,F5,kZ,↓XX,XY,↓reduceIte,seval,h3,h3',Tm.same];refine Ba (Q:=fun r=>BE r _) (fun k V H=>∃pre rest pre' rest',ks=pre++rest/\ks'=pre'++rest'/\pre.length=pre'.length/\rest.length=k/\V=[.ptr (.own 24117248) 0,.ptr (.own 24117249) 0,iv pre.length] /\
      H=⟨[(24117248,.row [iv op,iv m,.fv (.sl (ks.map Tm.enc))] false),(24117249,.row [iv op,iv m,.fv (.sl (ks'.map Tm.enc))] false)],[]⟩/\Tm.sameL rest rest'=Tm.sameL ks ks')
      ?_ n ks.length _ _ (by omega) ⟨[],ks,[],ks',rfl,rfl,rfl,rfl,rfl,rfl,rfl⟩
     rintro k V H rec ⟨pre,rest,pre',rest',hk,hk',hpl,hl,rfl,rfl,ht⟩ hrec;have hkl:ks.length=pre.length+rest.length:=by rw [hk];simp
     have hkl':ks'.length=pre'.length+rest'.length:=by rw [hk'];simp
     cases rest with
     | nil =>
      have hno:¬ ((pre.length:Int)<ks.length):=by rw [hkl];simp
      rw [<- ht];simp only [FW,Lw,F5,kZ,↓XX,XY,↓reduceIte,seval,hno,Tm.sameL];exact Aw _ _
     | cons t rest =>
      cases rest' with
      | nil=>simp at hkl hkl';omega
      | cons t' rest' =>
       have hi:(pre.length:Int)<ks.length:=by rw [hkl];simp;omega
       have hg:=BY hk;have hg':=BY hk';rw [<- hpl] at hg';have htw:=Cb (t:=t) (l:=ks) (by rw [hk];simp);have hs:=ih t t' (by omega) (by omega);have hwi:BC ((pre.length:Int)+1)=((pre++[t]).length:Int):=(Ax (by omega) (by omega)).trans (by simp);simp only [Tm.sameL] at ht;generalize t.same t'=v at hs ht;obtain ⟨o,p,l⟩:=t;obtain ⟨o',p',l'⟩:=t';simp only [Ai3] at hl;rw [Am,Am] at hs;cases v
       ·rw [<- ht];simp only [FW,Lw,F5,kZ,↓XX,XY,↓reduceIte,seval,hi,↓Bq (AN hg) (Bk _ _ _),↓Bq (AN hg') (Bk _ _ _),↓B8,↓Af hs,Bool.false_and];exact Aw _ _
       ·simp only [FW,Lw,F5,kZ,↓XX,XY,↓reduceIte,seval,hi,↓Bq (AN hg) (Bk _ _ _),↓Bq (AN hg') (Bk _ _ _),↓B8,hwi,↓Af hs];refine hrec rest.length _ _ (by omega) ?_;exact ⟨pre++[.mk o p l],rest,pre'++[.mk o' p' l'],rest',by rw [hk];simp,by rw [hk'];simp,by simp [hpl],rfl,rfl,rfl,by simpa using ht⟩
    ·have h3':¬ (ks.length:Int)=ks'.length:=by omega
     simp only [FW,F5,kZ,↓XX,XY,↓reduceIte,seval,h1,h2,h3,h3'];exact Aw _ _
   ·simp only [FW,F5,kZ,↓XX,XY,↓reduceIte,seval,h1,h2];exact Aw _ _
  ·simp only [FW,F5,kZ,↓XX,XY,↓reduceIte,seval,h1];exact Aw _ _
section
variable {β:Type} {E:Env}
def vD (cs:List IV) (k:List FV->Option β):Option β:=(Dy cs).bind k
theorem lI {t e:TypeId} {a b:Nat} {ei:TI} {z:List IV} (hT:E.T t=some ⟨a,b,.slice e,z⟩) (he:E.T e=some ei) (hs:ei.size=1) (hz:∃x,ei.zero=[x]) (r s:Nat) (own:List (Nat×Blk)) (ext:List Blk)
  (hc:∀cells ro,Ap r own=some (.row cells ro)->cells.length<=100) (hk:∀cells ro,Ap r own=some (.row cells ro)->∃fc,Dy cells=some fc) (k:KT β) :
  Az (Al E t 1 [(0,.ptr (.own r) 0)]) s ⟨own,ext⟩ k=E3 own r fun bl=>DY bl fun cells=>vD cells fun fc=>Bc own r (.row cells true) fun own=>k (.clip [.fp fc 0]) ⟨own,ext⟩ [.own r] [.own r]:=by
 obtain ⟨x,hx⟩:=hz;have hm:Al E t 1 [(0,.ptr (.own r) 0)]=(frzL (65534+1+1) [.ptr (.own r) 0]).bind fun (vs,u)=>.ret { eff:={ val:=.clip (B7 ei.size 1 vs),upd:=u } }:=by
  have h1:¬ (ei.size=0\/1 * ei.size > 65536):=by rw [hs];omega
  have h2:CU (fun j=>some (j * ei.size,ei.size)) (NB 1 ei.zero) [(0,.ptr (.own r) 0)]=some [.ptr (.own r) 0]:=by rw [hx,hs];rfl
  simp only [Al,hT,he,if_neg h1,h2]
 rw [hm,BA];unfold Az;cases hl:Ap r own with
 | none =>
  have:((frzL (65534+1+1) [.ptr (.own r) 0]).bind fun (vs,u)=>Rd.ret ({ eff:={ val:=.clip (B7 ei.size 1 vs),upd:=u } }:Made)).runLog ⟨own,ext⟩ []=none:=by simp only [frzL,C8,Rd.bind,Rd.runLog,Hp.get,hl]
  rw [this];rfl
 | some bl =>
  cases bl with
  | row cells ro =>
   obtain ⟨fc,hfc⟩:=hk cells ro hl;have hlen:=hc cells ro hl;have h3:frzL 65534 cells=.ret (fc,[]):=VK cells 65534 (by omega) hfc
   have:((frzL (65534+1+1) [.ptr (.own r) 0]).bind fun (vs,u)=>Rd.ret ({ eff:={ val:=.clip (B7 ei.size 1 vs),upd:=u } }:Made)).runLog ⟨own,ext⟩ [] =
     some ({ eff:={ val:=.clip (B7 ei.size 1 [.fp fc 0]),upd:=[(.own r,.row cells true)] } },[.own r]):=by
    simp only [frzL,C8,Rd.bind,Rd.runLog,Hp.get,hl,h3,Ajm]
   rw [this];simp only [Ajt,DY,vD,hfc,hs]
   show (eW (.own r) fun q=>Dq q ⟨own,ext⟩ fun _=>YL (.row cells true) fun b=>FH q b ⟨own,ext⟩ fun h=>Hf none s h fun h=>fV 3 (.clip [.fp fc 0]) fun v=>k v h [.own r] ([.own r]++[]))=_
   simp only [M9,Cz,Cj,Hf,FH,Dq];rw [BA,hl];rfl
  | tok n sz =>
   have:((frzL (65534+1+1) [.ptr (.own r) 0]).bind fun (vs,u)=>Rd.ret ({ eff:={ val:=.clip (B7 ei.size 1 vs),upd:=u } }:Made)).runLog ⟨own,ext⟩ []=none:=by simp only [frzL,C8,Rd.bind,Rd.runLog,Hp.get,hl]
   rw [this];rfl
  | map es =>
   have:((frzL (65534+1+1) [.ptr (.own r) 0]).bind fun (vs,u)=>Rd.ret ({ eff:={ val:=.clip (B7 ei.size 1 vs),upd:=u } }:Made)).runLog ⟨own,ext⟩ []=none:=by simp only [frzL,C8,Rd.bind,Rd.runLog,Hp.get,hl]
   rw [this];rfl
theorem AbM {t e:TypeId} {a b:Nat} {ei:TI} {z:List IV} (hT:E.T t=some ⟨a,b,.slice e,z⟩) (he:E.T e=some ei) (hs:ei.size=1) (hz:∃x,ei.zero=[x]) {r:Nat} {own own':List (Nat×Blk)} {cells:List IV} {ro:Bool} {fc:List FV}
  (hl:Ap r own=some (.row cells ro)) (hf:Dy cells=some fc) (hn:cells.length<=100) (ho:AO r (.row cells true) own=own') (s:Nat) (ext:List Blk) (k:KT β) :
  Az (Al E t 1 [(0,.ptr (.own r) 0)]) s ⟨own,ext⟩ k=k (.clip [.fp fc 0]) ⟨own',ext⟩ [.own r] [.own r]:=by
 have h1:∀cells' ro',Ap r own=some (.row cells' ro')->cells'=cells:=fun c r h=>by rw [hl] at h;cases h;rfl
 rw [lI hT he hs hz r s own ext (fun c r h=>by rw [h1 c r h];exact hn) (fun c r h=>by rw [h1 c r h];exact ⟨fc,hf⟩),BA,hl];simp only [Ajt,DY,vD,hf,BS,ho]
def Bz (r:Option (IV×Hp)) (w:FV) (ext:List Blk):Prop:=∃v own,r=some (v,⟨own,ext⟩) /\
 ∃u lg,∀(e:Option (IV×Hp)) (K:FV->List (Ref×Blk)->List Ref->Option (IV×Hp)),DB 12 v ⟨own,ext⟩ [] e K=K w u lg
theorem AJ (w:FV) (own:List (Nat×Blk)) (ext:List Blk):Bz (some (.fv w,⟨own,ext⟩)) w ext:=⟨_,own,rfl,[],[],fun _ _=>rfl⟩
theorem EK {v:IV} {w:FV} (hz:Bd v=some w) (own:List (Nat×Blk)) (ext:List Blk):Bz (some (v,⟨own,ext⟩)) w ext:=⟨_,own,rfl,[],[],fun e K=>GZ _ _ e K hz⟩
theorem KN:∀l:List FV,CP (l.map .fv) []=[]
 | []=>rfl
 | v::l=>by
  show RK (.fv v) (CP (l.map .fv) [])=[]
  rw [KN l];rfl
theorem AbH (n j:Nat) (t:List Ref) (s:Nat) (rest:List Blk):Nt (n+1) (.ext j::t) s rest=cond (Nat.ble (Nat.succ j) s) (Nt n t s rest) (cond (Nat.beq j s) (goR (Nt n) t s rest) false):=rfl
theorem AaT (n s:Nat):Nt (n+1) [] s []=true:=rfl
theorem Qv (st:List FV):Nt 400 [.ext 0] 0 [.row (st.map .fv) false]=true:=by
 rw [show (400:Nat)=398+1+1 from rfl,AbH]
 show goR (Nt (398+1)) [] 0 [.row (st.map .fv) false]=true
 show Nt (398+1) ([]++EP (.row (st.map .fv) false)) 1 []=true
 rw [show EP (.row (st.map .fv) false)=CP (st.map .fv) [] from rfl,KN]
 exact AaT 398 1
theorem Po (st:List FV):Yl 1 [.row (st.map .fv) false]=true:=by
 show cond (zM 1 (EP (.row (st.map .fv) false))) true false=true
 rw [show EP (.row (st.map .fv) false)=CP (st.map .fv) [] from rfl,KN]
 rfl
theorem gb3 (a b c:FV):Nt 400 [.ext 0] 0 [.row [.fv a,.fv b,.fv c] false]=true:=Qv [a,b,c]
theorem ob3 (a b c:FV):Yl 1 [.row [.fv a,.fv b,.fv c] false]=true:=Po [a,b,c]
theorem gb2 (a b:FV):Nt 400 [.ext 0] 0 [.row [.fv a,.fv b] false]=true:=Qv [a,b]
theorem ob2 (a b:FV):Yl 1 [.row [.fv a,.fv b] false]=true:=Po [a,b]
theorem Pn {r1:Ref} {rs1:List Ref} {ih:Ah} {f:FuncId} {vs:List IV} {w:FV} {ext ext':List Blk} (hr:Bz (ih f vs ⟨[],ext⟩) w ext') (hg:Nt 400 (r1::rs1) 0 ext=true) (hl:ext'.length=ext.length) (ho:Yl ext.length ext'=true)
  (own:List (Nat×Blk)) (r0:Option (IV×Hp)) (u:List (Ref×Blk)) (lg:List Ref) (e:Option (IV×Hp)) (k:KT (IV×Hp)) :
  Pl (
     r1::rs1) r0 ⟨own,ext⟩ u lg e (fun rs=>match rs with
   | []=>none
   | r::rs=>(match (⟨own,ext⟩:Hp) with
    | ⟨own,ext⟩=>cond (Nt 400 (r::rs) 0 ext) (match ih f vs ⟨[],ext⟩ with
     | none=>none
     | some p=>match p with
      | (v,h')=>match h' with
       | ⟨own',ext'⟩=>cond (and (Nat.beq ext'.length ext.length) (Yl ext.length ext'))
        (DB 12 v ⟨own',ext'⟩ [] e fun w _ _=>Kt u ⟨own,ext'⟩ fun h2=>k (.fv w) h2 ((C3 ext.length).reverse++lg) (BB u++C3 ext.length)) none)
     e)) k=Kt u ⟨own,ext'⟩ fun h2=>k (.fv w) h2 ((C3 ext.length).reverse++lg) (BB u++C3 ext.length):=by
 obtain ⟨v,own',e1,u',lg',hz⟩:=hr;simp only [Pl,hg,e1,hl,ho];rw [show (Nat.beq ext.length ext.length && true)=true by rw [Bool.and_true];exact Nat.beq_refl _,cond_true,hz]
 rfl
structure OneX (ext ext':List Blk):Prop where
 g:Nt 400 [.ext 0] 0 ext=true
 l:ext.length=1
 l':ext'.length=1
 o:Yl 1 ext'=true
theorem CD (a b c a' b' c':FV):OneX [.row [.fv a,.fv b,.fv c] false] [.row [.fv a',.fv b',.fv c'] false]:=⟨gb3 ..,rfl,rfl,ob3 ..⟩
theorem Aan (a b a' b':FV):OneX [.row [.fv a,.fv b] false] [.row [.fv a',.fv b'] false]:=⟨gb2 ..,rfl,rfl,ob2 ..⟩
theorem L2 (x:Nat):∀(args:List IV) {vs:List FV} (h:Hp) (lg:List Ref) (e:Option β) (k:List IV->List Ref->List (Ref×Blk)->List Ref->Option β) (ks:List Bool),(∀b∈ks,b=false)->Bu args=some vs ->
  Rc args ks h lg e k=k (vs.map .fv) [] [] lg
 | [],vs,h,lg,e,k,ks,_,hz=>by cases hz;rfl
 | v::l,vs,h,lg,e,k,[],_,hz=>aD (v::l) h lg e k hz
 | v::l,vs,h,lg,e,k,b::ks,hk,hz=>by
  have hb:=hk b Aji;subst hb;simp only [Bu] at hz;cases h1:Bd v with
  | none=>rw [h1] at hz;cases hz
  | some x' =>
   rw [h1] at hz;cases h2:Bu l with
   | none=>rw [h2] at hz;cases hz
   | some ys =>rw [h2] at hz;cases hz;rw [Qh,GZ h lg e _ h1,L2 x l h lg e _ ks (fun c hc=>hk c (Ajj _ hc)) h2];rfl
theorem bO {ks:List Bool} (hks:∀b∈ks,b=false) {ih:Ah} {f:FuncId} {args:List IV} {vs:List FV} {w:FV} {ext ext':List Blk} (hz:Bu args=some vs) (X:OneX ext ext') (hr:Bz (ih f (.ptr (.ext 0) 0::vs.map .fv) ⟨[],ext⟩) w ext')
  (own:List (Nat×Blk)) (k:KT (IV×Hp)):A5 (true::ks) false false ih f (.ptr (.ext 0) 0::args) ⟨own,ext⟩ k=k (.fv w) ⟨own,ext'⟩ [.ext 0] [.ext 0]:=by
 rw [Jb,T9,Pj,L2 0 args _ _ _ _ ks hks hz]
 have:=Pn (r1:=.ext 0) (rs1:=[]) hr X.g (by rw [X.l,X.l']) (by rw [X.l];exact X.o) own (ih f (.ptr (.ext 0) 0::vs.map .fv) ⟨[],[]⟩) [] [] (Ea (true::ks) false false ih f (.ptr (.ext 0) 0::args) ⟨own,ext⟩ k) k
 refine this.trans ?_;rw [X.l];rfl
theorem D1 {ih:Ah} {f:FuncId} {w:FV} {ext ext':List Blk} (hr:Bz (ih f [.ptr (.ext 0) 0] ⟨[],ext⟩) w ext') (X:OneX ext ext') (own:List (Nat×Blk)) (k:KT (IV×Hp)) :
  A5 [true] false false ih f [.ptr (.ext 0) 0] ⟨own,ext⟩ k=k (.fv w) ⟨own,ext'⟩ [.ext 0] [.ext 0]:=bO (ks:=[]) (by simp) (vs:=[]) rfl X hr own k
theorem IU {ih:Ah} {f:FuncId} {a b:IV} {x y w:FV} {ext ext':List Blk} (hr:Bz (ih f [.ptr (.ext 0) 0,.fv x,.fv y] ⟨[],ext⟩) w ext') (X:OneX ext ext') (ha:Bd a=some x) (hb:Bd b=some y) (own:List (Nat×Blk))
  (k:KT (IV×Hp)):A5 [true,false,false] false false ih f [.ptr (.ext 0) 0,a,b] ⟨own,ext⟩ k=k (.fv w) ⟨own,ext'⟩ [.ext 0] [.ext 0]:=bO (ks:=[false,false]) (by simp) (SY ha hb) X hr own k
theorem fK {ih:Ah} {f:FuncId} {a b c:IV} {x y z w:FV} {ext ext':List Blk} (hr:Bz (ih f [.ptr (.ext 0) 0,.fv x,.fv y,.fv z] ⟨[],ext⟩) w ext') (X:OneX ext ext') (ha:Bd a=some x) (hb:Bd b=some y) (hc:Bd c=some z)
  (own:List (Nat×Blk)) (k:KT (IV×Hp)):A5 [true,false,false,false] false false ih f [.ptr (.ext 0) 0,a,b,c] ⟨own,ext⟩ k=k (.fv w) ⟨own,ext'⟩ [.ext 0] [.ext 0] :=
 bO (ks:=[false,false,false]) (by simp) (YZ ha hb hc) X hr own k
theorem Pw {ih:Ah} {f:FuncId} {s:Nat} {own:List (Nat×Blk)} {cells:List IV} {ro:Bool} {fc:List FV} {w:FV} {ext ext':List Blk} (hr:Bz (ih f [.ptr (.ext 0) 0,.fv (.fp fc 0)] ⟨[],ext⟩) w ext') (X:OneX ext ext')
  (hl:Ap s own=some (.row cells ro)) (hz:Dy cells=some fc) (hn:cells.length<=300) (k:KT (IV×Hp)) :
  A5 [true,false] false false ih f [.ptr (.ext 0) 0,.ptr (.own s) 0] ⟨own,ext⟩ k=k (.fv w) ⟨AO s (.row cells true) own,ext'⟩ [.ext 0,.own s] [.own s,.ext 0]:=by
 rw [Jb,T9,Pj,Qh,Uf,Jn,BA,hl];simp only [Ajt,HL];rw [Bp,decide_eq_true hn,iI,UV 10 _ _ _ cells _ hz,xY]
 have:=Pn (r1:=.ext 0) (rs1:=[]) hr X.g (by rw [X.l,X.l']) (by rw [X.l];exact X.o) own (ih f [.ptr (.ext 0) 0,.fv (.fp fc 0)] ⟨[],[]⟩) [(.own s,.row cells true)] [.own s] (Ea [true,false] false false ih f [.ptr (.ext 0) 0,.ptr (.own s) 0] ⟨own,ext⟩ k) k
 refine this.trans ?_;rw [X.l]
 show (E3 own s fun _=>Bc own s (.row cells true) fun own=>k (.fv w) ⟨own,ext'⟩ [.ext 0,.own s] [.own s,.ext 0])=_
 rw [BA,hl,Ajt,BS]
end
inductive RV where
 | mk (op n:Int) (k env:List RV) (b:Tm)
def Tm.z:Tm:=.mk 0 0 []
def RV.enc:RV->FV
 | .mk op n k env (.mk bo bn bk)=>.fp [.int .i64 op,.int .i64 n,.sl (encL k),.sl (encL env),.int .i64 bo,.int .i64 bn,.sl (bk.map Tm.enc)] 0
where
 encL:List RV->List FV
  | []=>[]
  | v::l=>v.enc::encL l
theorem eD (l:List RV):RV.enc.encL l=l.map RV.enc:=by
 induction l with
 | nil=>rfl
 | cons t l ih=>simp [RV.enc.encL,ih]
def HX (op n:Int) (k env:List RV) (bo bn:Int) (bk:List Tm):(RV.mk op n k env (.mk bo bn bk)).enc =
  .fp [.int .i64 op,.int .i64 n,.sl (k.map RV.enc),.sl (env.map RV.enc),.int .i64 bo,.int .i64 bn,.sl (bk.map Tm.enc)] 0:=by simp only [RV.enc,eD]
def RV.op:RV->Int
 | .mk op _ _ _ _=>op
def RV.n:RV->Int
 | .mk _ n _ _ _=>n
def RV.k:RV->List RV
 | .mk _ _ k _ _=>k
def RV.env:RV->List RV
 | .mk _ _ _ env _=>env
def RV.b:RV->Tm
 | .mk _ _ _ _ b=>b
def RV.var (n:Int):RV:=.mk 1 n [] [] .z
def RV.clo (env:List RV) (b:Tm):RV:=.mk 0 0 [] env b
def RV.zero:RV:=.mk 11 0 [] [] .z
def RV.node (op n:Int) (k:List RV):RV:=.mk op n k [] .z
def Lp (v:RV):v.enc=.fp [.int .i64 v.op,.int .i64 v.n,.sl (v.k.map RV.enc),.sl (v.env.map RV.enc),.int .i64 v.b.op,.int .i64 v.b.n,.sl (v.b.kids.map Tm.enc)] 0:=by obtain ⟨op,n,k,env,⟨bo,bn,bk⟩⟩:=v;exact HX ..
def SP (t:Tm):Tm.enc t=.agg [.int .i64 t.op,.int .i64 t.n,.sl (t.kids.map Tm.enc)]:=by cases t;exact Am ..
def Mj (v:RV):v.enc.cells.length=1:=by obtain ⟨op,n,k,env,⟨bo,bn,bk⟩⟩:=v;rfl
def Sf (v:RV):v.enc.cells.all FV.one=true:=by obtain ⟨op,n,k,env,⟨bo,bn,bk⟩⟩:=v;rfl
def Yx (v:RV):v.enc.cells=[v.enc]:=by obtain ⟨op,n,k,env,⟨bo,bn,bk⟩⟩:=v;rfl
def zG:EE.T 110=some ⟨1,24,.slice 91,[.nils]⟩:=by kernel_rfl
def zO:EE.T 91=some ⟨1,8,.ptr,[.fv .nilp]⟩:=by kernel_rfl
def sV:SliceT EE 110 1:=⟨_,_,_,_,_,zG,zO,rfl,by decide,by decide⟩
theorem II (l:List RV):BI 1 (l.map RV.enc)=true:=by
 cases l with
 | nil=>rfl
 | cons a l=>simp only [Ai5,BI,Mj,beq_self_eq_true]
def qJ (s:Nat) (h:Hp) (k:KT (IV×Hp)):Az (Al EE 110 0 []) s h k=k (.clip []) h [] [] :=Cx zG zO (by decide) (cells:=[]) rfl k
def R6 (a:RV) (s:Nat) (h:Hp) (k:KT (IV×Hp)):Az (Al EE 110 1 [(0,.fv a.enc)]) s h k=k (.clip [a.enc]) h [] []:=by obtain ⟨op,n,kk,env,⟨bo,bn,bk⟩⟩:=a;rw [HX];exact Cx zG zO (by decide) (cells:=[.fp [.int .i64 op,.int .i64 n,.sl (kk.map RV.enc),.sl (env.map RV.enc),.int .i64 bo,.int .i64 bn,.sl (bk.map Tm.enc)] 0]) rfl k
def AcD (a b:RV) (s:Nat) (h:Hp) (k:KT (IV×Hp)):Az (Al EE 110 2 [(0,.fv a.enc),(1,.fv b.enc)]) s h k=k (.clip [a.enc,b.enc]) h [] []:=by obtain ⟨op,n,kk,env,⟨bo,bn,bk⟩⟩:=a;obtain ⟨op',n',kk',env',⟨bo',bn',bk'⟩⟩:=b;rw [HX,HX];exact Cx zG zO (by decide) (cells:=[.fp [.int .i64 op,.int .i64 n,.sl (kk.map RV.enc),.sl (env.map RV.enc),.int .i64 bo,.int .i64 bn,.sl (bk.map Tm.enc)] 0,.fp [.int .i64 op',.int .i64 n',.sl (kk'.map RV.enc),.sl (env'.map RV.enc),.int .i64 bo',.int .i64 bn',.sl (bk'.map Tm.enc)] 0]) rfl k
def Aag (a b c d:RV) (s:Nat) (h:Hp) (k:KT (IV×Hp)):Az (Al EE 110 4 [(0,.fv a.enc),(1,.fv b.enc),(2,.fv c.enc),(3,.fv d.enc)]) s h k =
  k (.clip [a.enc,b.enc,c.enc,d.enc]) h [] []:=by
 have key:∀x:RV,∃l,x.enc=.fp l 0:=fun x=>⟨_,Lp x⟩;obtain ⟨la,ha⟩:=key a;obtain ⟨lb,hb⟩:=key b;obtain ⟨lc,hc⟩:=key c;obtain ⟨ld,hd⟩:=key d;rw [ha,hb,hc,hd];exact Cx zG zO (by decide) (cells:=[.fp la 0,.fp lb 0,.fp lc 0,.fp ld 0]) rfl k
def ZH (e:RV) (s:Nat) (own:List (Nat×Blk)) (ext:List Blk) (k:KT (IV×Hp)) :
  Az (AT EE s false .append [110,110] [.nils,.clip [e.enc]]) s ⟨own,ext⟩ k=CS own s (Bc own s (.tok 1 1) fun own=>k (.app (.own s) [e.enc]) ⟨own,ext⟩ [] [.own s]) :=
 HM sV (.clip _) (II [e]) rfl (by simp) (.inl rfl) s own ext k
def TV {es:List RV} (hb:es.length+1<=1000000) (e:RV) (r s:Nat) (own:List (Nat×Blk)) (ext:List Blk) (k:KT (IV×Hp)) :
  Az (AT EE s false .append [110,110] [.app (.own r) (es.map RV.enc),.clip [e.enc]]) s ⟨own,ext⟩ k =
   E3 own r fun b=>cG b es.length 1 (Bc own r (.tok (es.length+1) 1) fun own=>k (.app (.own r) ((es++[e]).map RV.enc)) ⟨own,ext⟩ [.own r] [.own r]):=by
 rw [NI sV (.clip [e.enc]) (II [e]) (II es) (by simp [Sf]) (by simpa using hb) r s own ext k];simp only [Ajw,List.map_append,Ai5,Ai4,Ai3,Ajh,Ajy]
theorem PY {n:Nat} (hn:0<n) (env vs:List RV) (hv:vs≠[]) (hb:env.length+vs.length<=1000000):BE (SS dt n 86 [.fv (.sl (env.map RV.enc)),.fv (.sl (vs.map RV.enc))] ⟨[],[]⟩) (.sl ((env++vs).map RV.enc)):=by
 obtain ⟨n,rfl⟩:=psc n (by omega);rw [c86];have hvs:(vs.map RV.enc).isEmpty=false:=by cases vs with
  | nil=>exact absurd rfl hv
  | cons _ _=>rfl
 cases env with
 | nil =>simp only [S86,↓XX,XY,↓reduceIte,seval,↓qJ,↓aL sV (.sl []) (.inr rfl),↓HM sV (.sl (vs.map RV.enc)) (II vs) hvs (by simp;simp at hb;omega) (.inr rfl),Ajo];exact Bo rfl _
 | cons a env =>simp only [S86,↓XX,XY,↓reduceIte,seval,↓qJ];have h1:((a::env).map RV.enc).isEmpty=false:=rfl;have h0:=fun {β:Type}=>HM (β:=β) sV (.sl ((a::env).map RV.enc)) (II (a::env)) h1 (by simp only [Ajw];omega) (.inr rfl:IV.clip []=.nils\/IV.clip []=.clip []);have h2:=fun {β:Type}=>NI (β:=β) sV (.sl (vs.map RV.enc)) (II vs) (II (a::env)) (by simp [Sf]) (by simp only [Ajw];omega);simp only [Ai5] at h0 h2;simp only [↓XX,XY,↓reduceIte,seval,↓h0,↓h2,↓G4,List.map_append,Ajq];exact Bo rfl _
def fA {n:Nat} (hn:0<n) (s nd:Int) (h1:s<=1000000) (h0:0<=s):Bz (SS dt n 116 [.ptr (.ext 0) 0] ⟨[],[.row [iv s,iv nd,iv 0] false]⟩) (.bool (decide (s+1<=1000)))
  [.row [iv (s+1),iv nd,iv (if s+1<=1000 then 0 else 17)] false]:=by
 obtain ⟨n,rfl⟩:=psc n (by omega);rw [Agx];have hw:BC (s+1)=s+1:=by rw [Ax]<;>omega
 by_cases h:s+1<=1000
 ·have h':¬ 1000<s+1:=by omega
  simp only [lM,↓XX,XY,↓reduceIte,seval,hw,h,h'];exact AJ _ _ _
 ·have h':1000<s+1:=by omega
  simp only [lM,↓XX,XY,↓reduceIte,seval,hw,h,h'];exact AJ _ _ _
def Bf (ev:Int->Int->Tm->Option (RV×Int×Int)) (op:Int) (env:List RV):Nat->List Tm->Int->Int->Option (List RV×Int×Int)
 | _,[],s,e=>some ([],s,e)
 | i,t::l,s,e=>if 0<Ak op i then (Bf ev op env (i+1) l s e).map fun (vs,s,e)=>(.clo env t::vs,s,e) else
  match ev s e t with
  | none=>none
  | some (v,s,e)=>(Bf ev op env (i+1) l s e).map fun (vs,s,e)=>(v::vs,s,e)
mutual
def AD:Nat->Int->Int->Tm->List RV->Option (RV×Int×Int)
 | 0,_,_,_,_=>none
 | f+1,s,e,.mk op m ks,env =>
  if e≠0 then some (.zero,s,e) else if 900000<env.length then none else
  if op=1 then
   if m<env.length then (if 0<=m then (env[(env.length - 1 - m).toNat]?).map fun v=>(v,s,e) else none)
   else if m<=4611686018427387904 then some (.var (env.length - 1 - m),s,e) else none
  else if f<=ks.length then none else if 900000<ks.length then none else
  match Bf (fun s e t=>AD f s e t env) op env 0 ks s e with
  | none=>none
  | some (vs,s,e)=>headR f s e (.node op m vs)
def headR:Nat->Int->Int->RV->Option (RV×Int×Int)
 | 0,_,_,_=>none
 | f+1,s,e,v =>
  if e≠0 then some (v,s,e) else if s<0\/1000000<s then none else
  if v.op=5 then (match v.k[0]? with
   | none=>none
   | some k0=>if k0.op=4 then
     (if s+1<=1000 then (match k0.k[1]?,v.k[1]? with
      | some c,some x=>if 900000<c.env.length then none else AD f (s+1) 0 c.b (c.env++[x])
      | _,_=>none) else some (v,s+1,17))
    else some (v,s,e))
  else if v.op=8\/v.op=9 then (match v.k[0]? with
   | none=>none
   | some k0=>if k0.op=7 then
     (if s+1<=1000 then (k0.k[(1+v.op - 8).toNat]?).map fun x=>(x,s+1,0) else some (v,s+1,17))
    else some (v,s,e))
  else if v.op=30 then (match v.k[0]? with
   | none=>none
   | some k0=>if k0.op=19 then
     (if s+1<=1000 then (k0.k[0]?).map fun x=>(x,s+1,0) else some (v,s+1,17))
    else some (v,s,e))
  else if v.op=19 then (match v.k[0]? with
   | none=>none
   | some k0=>if k0.op=30 then
     (if s+1<=1000 then (k0.k[0]?).map fun x=>(x,s+1,0) else some (v,s+1,17))
    else some (v,s,e))
  else if v.op=13 then (match v.k[0]?,v.k[1]?,v.k[2]?,v.k[3]? with
   | some k0,some k1,some k2,some k3 =>
    if k3.op=11 then (if s+1<=1000 then some (k1,s+1,0) else some (v,s+1,17))
    else if k3.op=12 then
     (if s+1<=1000 then (match k3.k[0]? with
      | none=>none
      | some x=>(match headR f (s+1) 0 (.node 13 0 [k0,k1,k2,x]) with
       | none=>none
       | some (h,s,e)=>if 900000<k2.env.length then none else AD f s e k2.b (k2.env++[x,h])))
     else some (v,s+1,17))
    else some (v,s,e)
   | _,_,_,_=>none)
  else some (v,s,e)
end
theorem Ua {β:Type} {l:List RV} {i:Nat} {v:RV} (h:l[i]?=some v) (k:IV->Option β):AQ 1 (.fv (.sl (l.map RV.enc))) (iv i) k=k (.fv (.fp [v.enc] 0)):=by
 have h1:(l.map RV.enc)[i]?=some v.enc:=by rw [Ajv,h];rfl
 rw [Bq h1 (Mj v),Yx]
def OS (f:Nat):Prop:=∀(s e:Int) (t:Tm) (env:List RV) (v:RV) (s' e' nd:Int),AD f s e t env=some (v,s',e')->∀n,f+1<=n ->
 Bz (SS dt n 60 [.ptr (.ext 0) 0,.fv t.enc,.fv (.sl (env.map RV.enc))] ⟨[],[.row [iv s,iv nd,iv e] false]⟩) v.enc [.row [iv s',iv nd,iv e'] false]
def Qe (f:Nat):Prop:=∀(s e:Int) (v w:RV) (s' e' nd:Int),headR f s e v=some (w,s',e')->∀n,f+1<=n ->
 Bz (SS dt n 87 [.ptr (.ext 0) 0,.fv v.enc] ⟨[],[.row [iv s,iv nd,iv e] false]⟩) w.enc [.row [iv s',iv nd,iv e'] false]
abbrev U9 (op m:Int) (ks:List Tm) (K:IV) (tok:List (Nat×Blk)) (s nd e:Int):Hp :=⟨(62914560,.row [iv op,iv m,.fv (.sl (ks.map Tm.enc))] false)::(62921733,.row [iv op,iv m,K,.nils,iv 0,iv 0,.nils] false)::tok,[.row [iv s,iv nd,iv e] false]⟩
theorem Abg {op m:Int} (l:List RV):(RV.node op m l).enc=.fp [.int .i64 op,.int .i64 m,.sl (l.map RV.enc),.sl [],.int .i64 0,.int .i64 0,.sl []] 0:=by rw [RV.node,Tm.z,HX];rfl
theorem Yy {f:Nat} (he:OS f) (hh:Qe f):OS (f+1):=by
 intro s e t env v s' e' nd hev n hn;obtain ⟨n,rfl⟩:=psc n (by omega);rw [c60];obtain ⟨op,m,ks⟩:=t;rw [Am];rw [AD] at hev;by_cases h0:e≠0
 ·rw [if_pos h0] at hev;simp only [AiZ,Ai0] at hev;obtain ⟨rfl,rfl,rfl⟩:=hev;simp only [Ii,H5,H1,HU,S60,↓XX,XY,↓reduceIte,seval,h0];exact ⟨_,_,rfl,_,_,fun _ _=>rfl⟩
 ·have h0':e=0:=by omega
  subst h0';rw [if_neg h0] at hev;by_cases hlen:900000<env.length
  ·rw [if_pos hlen] at hev;cases hev
  ·rw [if_neg hlen] at hev;by_cases h1:op=1
   ·rw [if_pos h1] at hev;subst h1;by_cases h2:m<env.length
    ·rw [if_pos h2] at hev;by_cases h3:0<=m
     ·rw [if_pos h3] at hev;cases hg:env[(env.length - 1 - m).toNat]? with
      | none=>rw [hg] at hev;cases hev
      | some u =>
       rw [hg] at hev;simp only [Ai2,AiZ,Ai0] at hev;obtain ⟨rfl,rfl,rfl⟩:=hev;have e1:BC ((env.length:Int) - 1)=env.length - 1:=by rw [Ax]<;>omega
       have e2:BC ((env.length:Int) - 1 - m)=(((env.length:Int) - 1 - m).toNat:Int):=by rw [Ax]<;>omega
       simp only [Ii,H5,H1,HU,S60,↓XX,XY,↓reduceIte,seval,h2,e1,e2,↓Ua hg];exact AJ _ _ _
     ·rw [if_neg h3] at hev;cases hev
    ·rw [if_neg h2] at hev;by_cases h3:m<=4611686018427387904
     ·rw [if_pos h3] at hev;simp only [AiZ,Ai0] at hev;obtain ⟨rfl,rfl,rfl⟩:=hev;have e1:BC ((env.length:Int) - 1)=env.length - 1:=by rw [Ax]<;>omega
      have e2:BC ((env.length:Int) - 1 - m)=(env.length:Int) - 1 - m:=by rw [Ax]<;>omega
      simp only [Ii,H5,H1,HU,S60,↓XX,XY,↓reduceIte,seval,h2,e1,e2];exact ⟨_,_,rfl,_,_,fun _ _=>rfl⟩
     ·rw [if_neg h3] at hev;cases hev
   ·rw [if_neg h1] at hev;by_cases hf:f<=ks.length
    ·rw [if_pos hf] at hev;cases hev
    ·rw [if_neg hf] at hev;by_cases hk9:900000<ks.length
     ·rw [if_pos hk9] at hev;cases hev
     ·rw [if_neg hk9] at hev;cases hkg:Bf (fun s e t=>AD f s e t env) op env 0 ks s 0 with
      | none=>rw [hkg] at hev;cases hev
      | some q =>
      obtain ⟨vs,s1,e1⟩:=q;rw [hkg] at hev;simp only at hev;simp only [Ii,H5,H1,HU,S60,↓XX,XY,↓reduceIte,seval,h1,↓AI,XD,heldB,AS,XE];refine Ba (Q:=fun r=>Bz r _ _) (fun k V H=>∃pre rest done s2 e2 us s3 e3,ks=pre++rest/\rest.length=k/\done.length=pre.length/\V=[.ptr (.ext 0) 0,.fv (.sl (env.map RV.enc)),.ptr (.own 62914560) 0,.ptr (.own 62921733) 0,iv pre.length] /\
       (
        (pre=[]/\H=U9 op m ks .nils [] s2 nd e2) \/
        (∃r,(r=62926862\/r=62927886)/\pre≠[]/\H=U9 op m ks (.app (.own r) (done.map RV.enc)) [(r,.tok done.length 1)] s2 nd e2)) /\
       Bf (fun s e t=>AD f s e t env) op env pre.length rest s2 e2=some (us,s3,e3)/\headR f s3 e3 (.node op m (done++us))=some (v,s',e'))
       ?_ n ks.length _ _ (by omega) ⟨[],ks,[],s,0,vs,s1,e1,rfl,rfl,rfl,rfl,.inl ⟨rfl,rfl⟩,hkg,hev⟩
      rintro k V H rec ⟨pre,rest,done,s2,e2,us,s3,e3,hk,hl,hdl,rfl,hH,hkids,hhead⟩ hrec;have hkl:ks.length=pre.length+rest.length:=by rw [hk];simp
      have zenc:∀l:List RV,(RV.node op m l).enc=.fp [.int .i64 op,.int .i64 m,.sl (l.map RV.enc),.sl [],.int .i64 0,.int .i64 0,.sl []] 0:=fun l=>Abg l;cases rest with
      | nil =>
       simp only [Bf,AiZ,Ai0] at hkids;obtain ⟨rfl,rfl,rfl⟩:=hkids;rw [Ajm] at hhead;have hc:=hh s2 e2 _ v s' e' nd hhead n (by omega);rw [zenc] at hc;have hpre:ks=pre:=by simpa using hk
       subst hpre;rcases hH with ⟨rfl,rfl⟩ | ⟨r,hr,hne,rfl⟩
       ·have hd:done=[]:=Ajr.1 hdl;subst hd;have hcall:=fun k=>Pw (k:=k) (own:=[(62914560,.row [iv op,iv m,.fv (.sl (([]:List Tm).map Tm.enc))] false),(62921733,.row [iv op,iv m,.nils,.nils,iv 0,iv 0,.nils] false)])
         (cells:=[iv op,iv m,.nils,.nils,iv 0,iv 0,.nils]) (ro:=false) (s:=62921733) hc (CD ..) (by simp [Ap]) rfl (by simp)
        simp only [↓Rb,↓XX,XY,↓reduceIte,seval,Int.lt_irrefl,↓hcall];exact AJ _ _ _
       ·have hcall:=fun k=>Pw (k:=k) (own:=[(62914560,.row [iv op,iv m,.fv (.sl (ks.map Tm.enc))] false),(62921733,.row [iv op,iv m,.app (.own r) (done.map RV.enc),.nils,iv 0,iv 0,.nils] false),(r,.tok done.length 1)])
         (cells:=[iv op,iv m,.app (.own r) (done.map RV.enc),.nils,iv 0,iv 0,.nils]) (ro:=false) (s:=62921733) hc (CD ..) (by simp [Ap]) rfl (by simp)
        simp only [↓Rb,↓XX,XY,↓reduceIte,seval,Int.lt_irrefl,↓hcall];exact AJ _ _ _
      | cons t rest =>
       have hi:(pre.length:Int)<ks.length:=by rw [hkl];simp;omega
       have hg:=BY hk;have hb:=Fy (n:=n) (by omega) op pre.length;have hwi:BC ((pre.length:Int)+1)=((pre++[t]).length:Int):=(Ax (by omega) (by omega)).trans (by simp);have hbi:(0<(Ak op pre.length:Int)) ↔ 0<Ak op pre.length:=by omega
       have hd9:done.length+1<=1000000:=by omega
       simp only [Bf] at hkids;simp only [Ai3] at hl;by_cases hbp:0<Ak op pre.length
       ·rw [if_pos hbp] at hkids;cases hkk:Bf (fun s e t=>AD f s e t env) op env (pre.length+1) rest s2 e2 with
        | none=>rw [hkk] at hkids;cases hkids
        | some q =>
        obtain ⟨us',s4,e4⟩:=q;rw [hkk] at hkids;simp only [Ai2,AiZ,Ai0] at hkids;obtain ⟨rfl,rfl,rfl⟩:=hkids;have hbp':0<(Ak op pre.length:Int):=by omega
        have hce:(RV.clo env t).enc=.fp [.int .i64 0,.int .i64 0,.sl [],.sl (env.map RV.enc),.int .i64 t.op,.int .i64 t.n,.sl (t.kids.map Tm.enc)] 0:=by rw [Lp];rfl
        have hnext:∀tk,(tk=62926862\/tk=62927886)->Bz (rec [.ptr (.ext 0) 0,.fv (.sl (env.map RV.enc)),.ptr (.own 62914560) 0,.ptr (.own 62921733) 0,iv (pre++[t]).length]
          (U9 op m ks (.app (.own tk) ((done++[RV.clo env t]).map RV.enc)) [(tk,.tok (done++[RV.clo env t]).length 1)] s2 nd e2)) v.enc [.row [iv s',iv nd,iv e'] false]:=fun tk htk =>
         hrec rest.length _ _ (by omega) ⟨pre++[t],rest,done++[.clo env t],s2,e2,us',s4,e4,by rw [hk];simp,rfl,by simp [hdl],rfl,.inr ⟨tk,htk,by simp,rfl⟩,by simpa using hkk,by simpa using hhead⟩
        obtain ⟨o,p,l⟩:=t;simp only [Tm.op,Tm.n,Tm.kids] at hce;have ha0:=fun {s own ext k}=>ZH (RV.clo env (.mk o p l)) s own ext k;have ha1:=fun {r s own ext k}=>TV hd9 (RV.clo env (.mk o p l)) r s own ext k;rw [hce] at ha0 ha1;have hbs:=fun (tl:List (Nat×Blk)) (K:IV) (own:List (Nat×Blk)) (hown:own=(62914560,.row [iv op,iv m,.fv (.sl (ks.map Tm.enc))] false)::(62921733,.row [iv op,iv m,K,.nils,iv 0,iv 0,.nils] false)::tl) (hl:Ap 62926860 own=some (.row [iv 0,iv 0,.nils,.fv (.sl (env.map RV.enc)),iv o,iv p,.fv (.sl (l.map Tm.enc))] false)) (own':List (Nat×Blk)) (ho) s ext (k:KT (IV×Hp)) =>AbM (E:=EE) (own:=own) (own':=own') zG zO rfl ⟨_,rfl⟩ hl (fc:=[.int .i64 0,.int .i64 0,.sl [],.sl (env.map RV.enc),.int .i64 o,.int .i64 p,.sl (l.map Tm.enc)]) rfl (by simp) ho s ext k
        rcases hH with ⟨hp0,rfl⟩ | ⟨r,hr,hne,rfl⟩
        ·have hd0:done=[]:=Ajr.1 (by rw [hdl,hp0];rfl);subst hd0;have h9:=hnext _ (.inl rfl);simp only [Ajo,Ai5,Ai4,Ai3,Ajh] at h9;rw [hce] at h9;have hb0:=fun s ext k=>hbs [(62926860,.row [iv 0,iv 0,.nils,.fv (.sl (env.map RV.enc)),iv o,iv p,.fv (.sl (l.map Tm.enc))] false)] .nils _ rfl (by simp [Ap])
          [(62914560,.row [iv op,iv m,.fv (.sl (ks.map Tm.enc))] false),(62921733,.row [iv op,iv m,.nils,.nils,iv 0,iv 0,.nils] false),(62926860,.row [iv 0,iv 0,.nils,.fv (.sl (env.map RV.enc)),iv o,iv p,.fv (.sl (l.map Tm.enc))] true)] (by simp [AO]) s ext k
         simp only [↓Rb,↓XX,XY,↓reduceIte,seval,hi,↓Bq (AN hg) (Bk _ _ _),↓B8,↓Af hb,hbp',hwi,↓hb0,↓ha0,↓AI,XD,heldB,AS,XE];exact h9
        ·have h9:=hnext r hr;rw [show (done++[RV.clo env (Tm.mk o p l)]).length=done.length+1 by simp] at h9
         simp only [List.map_append,Ai5,Ai4] at h9;rw [hce] at h9;simp only [List.map_append,Ai5,Ai4] at ha1;rw [hce] at ha1;have hb0:=fun s ext k=>hbs [(r,.tok done.length 1),(62926860,.row [iv 0,iv 0,.nils,.fv (.sl (env.map RV.enc)),iv o,iv p,.fv (.sl (l.map Tm.enc))] false)] (.app (.own r) (done.map RV.enc)) _ rfl (by rcases hr with rfl | rfl<;>simp [Ap])
          [(62914560,.row [iv op,iv m,.fv (.sl (ks.map Tm.enc))] false),(62921733,.row [iv op,iv m,.app (.own r) (done.map RV.enc),.nils,iv 0,iv 0,.nils] false),(r,.tok done.length 1),(62926860,.row [iv 0,iv 0,.nils,.fv (.sl (env.map RV.enc)),iv o,iv p,.fv (.sl (l.map Tm.enc))] true)]
          (by rcases hr with rfl | rfl<;>simp [AO]) s ext k
         rcases hr with rfl | rfl
         ·simp only [↓Rb,↓XX,XY,↓reduceIte,seval,hi,↓Bq (AN hg) (Bk _ _ _),↓B8,↓Af hb,hbp',hwi,↓hb0,↓ha1,↓G4,↓AI,XD,heldB,AS,XE];exact h9
         ·simp only [↓Rb,↓XX,XY,↓reduceIte,seval,hi,↓Bq (AN hg) (Bk _ _ _),↓B8,↓Af hb,hbp',hwi,↓hb0,↓ha1,↓G4,↓AI,XD,heldB,AS,XE];exact h9
       ·rw [if_neg hbp] at hkids;have hbp':¬ 0<(Ak op pre.length:Int):=by omega
        cases hev1:AD f s2 e2 t env with
        | none=>rw [hev1] at hkids;cases hkids
        | some q =>
        obtain ⟨v1,s4,e4⟩:=q;rw [hev1] at hkids;simp only at hkids;cases hkk:Bf (fun s e t=>AD f s e t env) op env (pre.length+1) rest s4 e4 with
        | none=>rw [hkk] at hkids;cases hkids
        | some q =>
        obtain ⟨us',s5,e5⟩:=q;rw [hkk] at hkids;simp only [Ai2,AiZ,Ai0] at hkids;obtain ⟨rfl,rfl,rfl⟩:=hkids;have hc:=he s2 e2 t env v1 s4 e4 nd hev1 n (by omega);have hnext:∀tk,(tk=62926862\/tk=62927886)->Bz (rec [.ptr (.ext 0) 0,.fv (.sl (env.map RV.enc)),.ptr (.own 62914560) 0,.ptr (.own 62921733) 0,iv (pre++[t]).length]
          (U9 op m ks (.app (.own tk) ((done++[v1]).map RV.enc)) [(tk,.tok (done++[v1]).length 1)] s4 nd e4)) v.enc [.row [iv s',iv nd,iv e'] false]:=fun tk htk =>
         hrec rest.length _ _ (by omega) ⟨pre++[t],rest,done++[v1],s4,e4,us',s5,e5,by rw [hk];simp,rfl,by simp [hdl],rfl,.inr ⟨tk,htk,by simp,rfl⟩,by simpa using hkk,by simpa using hhead⟩
        obtain ⟨o,p,l⟩:=t;rw [Am] at hc;rcases hH with ⟨hp0,rfl⟩ | ⟨r,hr,hne,rfl⟩
        ·have hd0:done=[]:=Ajr.1 (by rw [hdl,hp0];rfl);subst hd0;have h9:=hnext _ (.inr rfl);simp only [Ajo,Ai5,Ai4,Ai3,Ajh] at h9;simp only [↓Rb,↓XX,XY,↓reduceIte,seval,hi,↓Bq (AN hg) (Bk _ _ _),↓B8,↓Af hb,hbp',hwi,↓IU hc (CD _ _ _ _ _ _),↓R6,↓ZH,↓AI,XD,heldB,AS,XE];exact h9
        ·have h9:=hnext r hr;rw [show (done++[v1]).length=done.length+1 by simp] at h9
         rcases hr with rfl | rfl
         ·simp only [↓Rb,↓XX,XY,↓reduceIte,seval,hi,↓Bq (AN hg) (Bk _ _ _),↓B8,↓Af hb,hbp',hwi,↓IU hc (CD _ _ _ _ _ _),↓R6,↓TV hd9,↓G4,↓AI,XD,heldB,AS,XE];exact h9
         ·simp only [↓Rb,↓XX,XY,↓reduceIte,seval,hi,↓Bq (AN hg) (Bk _ _ _),↓B8,↓Af hb,hbp',hwi,↓IU hc (CD _ _ _ _ _ _),↓R6,↓TV hd9,↓G4,↓AI,XD,heldB,AS,XE];exact h9
def RV.cl (v:RV):List FV:=[.int .i64 v.op,.int .i64 v.n,.sl (v.k.map RV.enc),.sl (v.env.map RV.enc),.int .i64 v.b.op,.int .i64 v.b.n,.sl (v.b.kids.map Tm.enc)]
section
variable {β:Type} (v:RV)
theorem Acc (k:IV->Option β):AK (.fv v.enc) k=k (.fv v.enc):=by rw [Lp];rfl
theorem Afm (o:Nat) (k:IV->Option β):Ab o (.fv v.enc) k=k (.fv (.fp v.cl o)):=by rw [Lp,zT];rfl
theorem nc0 (k:FV->Option β):DD v.cl 0 k=k (.int .i64 v.op):=rfl
theorem nc1 (k:FV->Option β):DD v.cl 1 k=k (.int .i64 v.n):=rfl
theorem nc2 (k:FV->Option β):DD v.cl 2 k=k (.sl (v.k.map RV.enc)):=rfl
theorem nc3 (k:FV->Option β):DD v.cl 3 k=k (.sl (v.env.map RV.enc)):=rfl
theorem dc4 (k:List FV->Option β):Fw v.cl 4 k=k [.int .i64 v.b.op,.int .i64 v.b.n,.sl (v.b.kids.map Tm.enc)]:=rfl
end
theorem GY {β:Type} {l:List RV} {v:RV} (h:l[0]?=some v) (k:IV->Option β):AQ 1 (.fv (.sl (l.map RV.enc))) (iv 0) k=k (.fv (.fp [v.enc] 0)):=Ua (i:=0) h k
theorem Zh {β:Type} {l:List RV} {v:RV} (h:l[1]?=some v) (k:IV->Option β):AQ 1 (.fv (.sl (l.map RV.enc))) (iv 1) k=k (.fv (.fp [v.enc] 0)):=Ua (i:=1) h k
theorem Acm {β:Type} {l:List RV} {v:RV} (h:l[2]?=some v) (k:IV->Option β):AQ 1 (.fv (.sl (l.map RV.enc))) (iv 2) k=k (.fv (.fp [v.enc] 0)):=Ua (i:=2) h k
theorem aM {β:Type} {l:List RV} {v:RV} (h:l[3]?=some v) (k:IV->Option β):AQ 1 (.fv (.sl (l.map RV.enc))) (iv 3) k=k (.fv (.fp [v.enc] 0)):=Ua (i:=3) h k
def XV:=AiY @Acc<|AiY @Afm<|AiY @nc0<|AiY @nc1<|AiY @nc2<|AiY @nc3 @dc4
theorem Yi {f:Nat} (he:OS f) (hh:Qe f):Qe (f+1):=by
 intro s e v w s' e' nd hev n hn;obtain ⟨n,rfl⟩:=psc n (by omega);rw [c87];rw [headR] at hev;by_cases h0:e≠0
 ·rw [if_pos h0] at hev;simp only [AiZ,Ai0] at hev;obtain ⟨rfl,rfl,rfl⟩:=hev;simp only [↓FL,↓XX,XY,↓reduceIte,Nat.reduceBEq,Nat.reduceAdd,Int.reduceEq,Int.reduceLT,Int.reduceLE,h0];exact AJ _ _ _
 ·have h0':e=0:=by omega
  subst h0';rw [if_neg h0] at hev;by_cases hs:s<0\/1000000<s
  ·rw [if_pos hs] at hev;cases hev
  ·rw [if_neg hs] at hev;have hst:=fA (n:=n) (by omega) s nd (by omega) (by omega);have CF:∀{x:RV} {a b:Int},some (x,a,b)=some (w,s',e')->x=w/\a=s'/\b=e':=by
    intro x a b h;simp only [AiZ,Ai0] at h;exact h
   by_cases h5:v.op=5
   ·rw [if_pos h5] at hev;cases hk0:v.k[0]? with
    | none=>rw [hk0] at hev;cases hev
    | some k0 =>
     rw [hk0] at hev;simp only at hev;by_cases h4:k0.op=4
     ·rw [if_pos h4] at hev;by_cases hq:s+1<=1000
      ·rw [if_pos hq] at hev;simp only [hq,decide_true,if_true] at hst;cases hc:k0.k[1]? with
       | none=>rw [hc] at hev;cases hev
       | some c =>
        cases hx:v.k[1]? with
        | none=>rw [hc,hx] at hev;cases hev
        | some x =>
         rw [hc,hx] at hev;simp only at hev;by_cases hl:900000<c.env.length
         ·rw [if_pos hl] at hev;cases hev
         ·rw [if_neg hl] at hev;have hcall:=he (s+1) 0 c.b (c.env++[x]) w s' e' nd hev n (by omega);rw [SP] at hcall;have hp:=PY (n:=n) (by omega) c.env [x] (by simp) (by simp;omega);simp only [Ai5,Ai4] at hp;simp only [↓FL,↓XX,XY,↓reduceIte,Nat.reduceBEq,Nat.reduceAdd,Int.reduceEq,Int.reduceLT,Int.reduceLE,↓XV,h5,↓GY hk0,h4,↓D1 hst (CD _ _ _ _ _ _),↓Zh hc,↓Zh hx,↓R6,↓Af hp,↓IU hcall (CD _ _ _ _ _ _)];exact AJ _ _ _
      ·rw [if_neg hq] at hev;obtain ⟨rfl,rfl,rfl⟩:=CF hev;simp only [hq,decide_false,if_false] at hst;simp only [↓FL,↓XX,XY,↓reduceIte,Nat.reduceBEq,Nat.reduceAdd,Int.reduceEq,Int.reduceLT,Int.reduceLE,↓XV,h5,↓GY hk0,h4,↓D1 hst (CD _ _ _ _ _ _)];exact AJ _ _ _
     ·rw [if_neg h4] at hev;obtain ⟨rfl,rfl,rfl⟩:=CF hev;simp only [↓FL,↓XX,XY,↓reduceIte,Nat.reduceBEq,Nat.reduceAdd,Int.reduceEq,Int.reduceLT,Int.reduceLE,↓XV,h5,↓GY hk0,h4];exact AJ _ _ _
   ·rw [if_neg h5] at hev;by_cases h89:v.op=8\/v.op=9
    ·rw [if_pos h89] at hev;cases hk0:v.k[0]? with
     | none=>rw [hk0] at hev;cases hev
     | some k0 =>
      rw [hk0] at hev;simp only at hev;by_cases h7:k0.op=7
      ·rw [if_pos h7] at hev;by_cases hq:s+1<=1000
       ·rw [if_pos hq] at hev;simp only [hq,decide_true,if_true] at hst;cases hx:k0.k[(1+v.op - 8).toNat]? with
        | none=>rw [hx] at hev;cases hev
        | some x =>
         rw [hx] at hev;obtain ⟨rfl,rfl,rfl⟩:=CF hev;rcases h89 with h8 | h9
         ·rw [h8] at hx;have hw1:BC (1+8)=9:=by decide
          have hw2:BC (9 - 8)=1:=by decide
          simp only [↓FL,↓XX,XY,↓reduceIte,Nat.reduceBEq,Nat.reduceAdd,Int.reduceEq,Int.reduceLT,Int.reduceLE,↓XV,h8,↓GY hk0,h7,↓D1 hst (CD _ _ _ _ _ _),hw1,hw2,↓Zh (l:=k0.k) (v:=x) hx];exact AJ _ _ _
         ·rw [h9] at hx;have hw1:BC (1+9)=10:=by decide
          have hw2:BC (10 - 8)=2:=by decide
          simp only [↓FL,↓XX,XY,↓reduceIte,Nat.reduceBEq,Nat.reduceAdd,Int.reduceEq,Int.reduceLT,Int.reduceLE,↓XV,h9,↓GY hk0,h7,↓D1 hst (CD _ _ _ _ _ _),hw1,hw2,↓Acm (l:=k0.k) (v:=x) hx];exact AJ _ _ _
       ·rw [if_neg hq] at hev;obtain ⟨rfl,rfl,rfl⟩:=CF hev;simp only [hq,decide_false,if_false] at hst;rcases h89 with h8 | h9
        ·simp only [↓FL,↓XX,XY,↓reduceIte,Nat.reduceBEq,Nat.reduceAdd,Int.reduceEq,Int.reduceLT,Int.reduceLE,↓XV,h8,↓GY hk0,h7,↓D1 hst (CD _ _ _ _ _ _)];exact AJ _ _ _
        ·simp only [↓FL,↓XX,XY,↓reduceIte,Nat.reduceBEq,Nat.reduceAdd,Int.reduceEq,Int.reduceLT,Int.reduceLE,↓XV,h9,↓GY hk0,h7,↓D1 hst (CD _ _ _ _ _ _)];exact AJ _ _ _
      ·rw [if_neg h7] at hev;obtain ⟨rfl,rfl,rfl⟩:=CF hev;rcases h89 with h8 | h9
       ·simp only [↓FL,↓XX,XY,↓reduceIte,Nat.reduceBEq,Nat.reduceAdd,Int.reduceEq,Int.reduceLT,Int.reduceLE,↓XV,h8,↓GY hk0,h7];exact AJ _ _ _
       ·simp only [↓FL,↓XX,XY,↓reduceIte,Nat.reduceBEq,Nat.reduceAdd,Int.reduceEq,Int.reduceLT,Int.reduceLE,↓XV,h9,↓GY hk0,h7];exact AJ _ _ _
    ·rw [if_neg h89] at hev;have h8:¬ v.op=8:=fun e=>h89 (.inl e);have h9:¬ v.op=9:=fun e=>h89 (.inr e);by_cases h30:v.op=30
     ·rw [if_pos h30] at hev;cases hk0:v.k[0]? with
      | none=>rw [hk0] at hev;cases hev
      | some k0 =>
       rw [hk0] at hev;simp only at hev;by_cases h7:k0.op=19
       ·rw [if_pos h7] at hev;by_cases hq:s+1<=1000
        ·rw [if_pos hq] at hev;simp only [hq,decide_true,if_true] at hst;cases hx:k0.k[0]? with
         | none=>rw [hx] at hev;cases hev
         | some x =>rw [hx] at hev;obtain ⟨rfl,rfl,rfl⟩:=CF hev;simp only [↓FL,↓XX,XY,↓reduceIte,Nat.reduceBEq,Nat.reduceAdd,Int.reduceEq,Int.reduceLT,Int.reduceLE,↓XV,h30,↓GY hk0,h7,↓D1 hst (CD _ _ _ _ _ _),↓GY hx];exact AJ _ _ _
        ·rw [if_neg hq] at hev;obtain ⟨rfl,rfl,rfl⟩:=CF hev;simp only [hq,decide_false,if_false] at hst;simp only [↓FL,↓XX,XY,↓reduceIte,Nat.reduceBEq,Nat.reduceAdd,Int.reduceEq,Int.reduceLT,Int.reduceLE,↓XV,h30,↓GY hk0,h7,↓D1 hst (CD _ _ _ _ _ _)];exact AJ _ _ _
       ·rw [if_neg h7] at hev;obtain ⟨rfl,rfl,rfl⟩:=CF hev;simp only [↓FL,↓XX,XY,↓reduceIte,Nat.reduceBEq,Nat.reduceAdd,Int.reduceEq,Int.reduceLT,Int.reduceLE,↓XV,h30,↓GY hk0,h7];exact AJ _ _ _
     ·rw [if_neg h30] at hev;by_cases h19:v.op=19
      ·rw [if_pos h19] at hev;cases hk0:v.k[0]? with
       | none=>rw [hk0] at hev;cases hev
       | some k0 =>
        rw [hk0] at hev;simp only at hev;by_cases h7:k0.op=30
        ·rw [if_pos h7] at hev;by_cases hq:s+1<=1000
         ·rw [if_pos hq] at hev;simp only [hq,decide_true,if_true] at hst;cases hx:k0.k[0]? with
          | none=>rw [hx] at hev;cases hev
          | some x =>rw [hx] at hev;obtain ⟨rfl,rfl,rfl⟩:=CF hev;simp only [↓FL,↓XX,XY,↓reduceIte,Nat.reduceBEq,Nat.reduceAdd,Int.reduceEq,Int.reduceLT,Int.reduceLE,↓XV,h19,↓GY hk0,h7,↓D1 hst (CD _ _ _ _ _ _),↓GY hx];exact AJ _ _ _
         ·rw [if_neg hq] at hev;obtain ⟨rfl,rfl,rfl⟩:=CF hev;simp only [hq,decide_false,if_false] at hst;simp only [↓FL,↓XX,XY,↓reduceIte,Nat.reduceBEq,Nat.reduceAdd,Int.reduceEq,Int.reduceLT,Int.reduceLE,↓XV,h19,↓GY hk0,h7,↓D1 hst (CD _ _ _ _ _ _)];exact AJ _ _ _
        ·rw [if_neg h7] at hev;obtain ⟨rfl,rfl,rfl⟩:=CF hev;simp only [↓FL,↓XX,XY,↓reduceIte,Nat.reduceBEq,Nat.reduceAdd,Int.reduceEq,Int.reduceLT,Int.reduceLE,↓XV,h19,↓GY hk0,h7];exact AJ _ _ _
      ·rw [if_neg h19] at hev;by_cases h13:v.op=13
       ·rw [if_pos h13] at hev;cases hk0:v.k[0]? with
        | none=>rw [hk0] at hev;cases hev
        | some k0 =>
        cases hk1:v.k[1]? with
        | none=>rw [hk0,hk1] at hev;cases hev
        | some k1 =>
        cases hk2:v.k[2]? with
        | none=>rw [hk0,hk1,hk2] at hev;cases hev
        | some k2 =>
        cases hk3:v.k[3]? with
        | none=>rw [hk0,hk1,hk2,hk3] at hev;cases hev
        | some k3 =>
        rw [hk0,hk1,hk2,hk3] at hev;simp only at hev;by_cases h11:k3.op=11
        ·rw [if_pos h11] at hev;by_cases hq:s+1<=1000
         ·rw [if_pos hq] at hev;obtain ⟨rfl,rfl,rfl⟩:=CF hev;simp only [hq,decide_true,if_true] at hst;simp only [↓FL,↓XX,XY,↓reduceIte,Nat.reduceBEq,Nat.reduceAdd,Int.reduceEq,Int.reduceLT,Int.reduceLE,↓XV,h13,↓aM hk3,h11,↓D1 hst (CD _ _ _ _ _ _),↓Zh hk1];exact AJ _ _ _
         ·rw [if_neg hq] at hev;obtain ⟨rfl,rfl,rfl⟩:=CF hev;simp only [hq,decide_false,if_false] at hst;simp only [↓FL,↓XX,XY,↓reduceIte,Nat.reduceBEq,Nat.reduceAdd,Int.reduceEq,Int.reduceLT,Int.reduceLE,↓XV,h13,↓aM hk3,h11,↓D1 hst (CD _ _ _ _ _ _)];exact AJ _ _ _
        ·rw [if_neg h11] at hev;by_cases h12:k3.op=12
         ·rw [if_pos h12] at hev;by_cases hq:s+1<=1000
          ·rw [if_pos hq] at hev;simp only [hq,decide_true,if_true] at hst;cases hx:k3.k[0]? with
           | none=>rw [hx] at hev;cases hev
           | some x =>
           rw [hx] at hev;simp only at hev;cases hd:headR f (s+1) 0 (.node 13 0 [k0,k1,k2,x]) with
           | none=>rw [hd] at hev;cases hev
           | some q =>
           obtain ⟨h,s2,e2⟩:=q;rw [hd] at hev;simp only at hev;by_cases hl:900000<k2.env.length
           ·rw [if_pos hl] at hev;cases hev
           ·rw [if_neg hl] at hev;have hcall:=he s2 e2 k2.b (k2.env++[x,h]) w s' e' nd hev n (by omega);rw [SP] at hcall;have hcall2:=hh (s+1) 0 _ h s2 e2 nd hd n (by omega);rw [Abg] at hcall2;simp only [Ai5,Ai4] at hcall2;have hp:=PY (n:=n) (by omega) k2.env [x,h] (by simp) (by simp;omega);simp only [Ai5,Ai4] at hp;have hcall3:=fun k=>Pw (k:=k) (own:=[(91246614,.row [iv 13,iv 0,.clip [k0.enc,k1.enc,k2.enc,x.enc],.nils,iv 0,iv 0,.nils] false)])
             (cells:=[iv 13,iv 0,.clip [k0.enc,k1.enc,k2.enc,x.enc],.nils,iv 0,iv 0,.nils]) (ro:=false) (s:=91246614) hcall2 (CD ..) (by simp [Ap]) rfl (by simp)
            simp only [↓FL,↓XX,XY,↓reduceIte,Nat.reduceBEq,Nat.reduceAdd,Int.reduceEq,Int.reduceLT,Int.reduceLE,↓XV,h13,↓aM hk3,h11,h12,↓D1 hst (CD _ _ _ _ _ _),↓GY hx,↓GY hk0,↓Zh hk1,↓Acm hk2,↓Aag,↓hcall3,↓AcD,↓Af hp,↓IU hcall (CD _ _ _ _ _ _)];exact AJ _ _ _
          ·rw [if_neg hq] at hev;obtain ⟨rfl,rfl,rfl⟩:=CF hev;simp only [hq,decide_false,if_false] at hst;simp only [↓FL,↓XX,XY,↓reduceIte,Nat.reduceBEq,Nat.reduceAdd,Int.reduceEq,Int.reduceLT,Int.reduceLE,↓XV,h13,↓aM hk3,h11,h12,↓D1 hst (CD _ _ _ _ _ _)];exact AJ _ _ _
         ·rw [if_neg h12] at hev;obtain ⟨rfl,rfl,rfl⟩:=CF hev;simp only [↓FL,↓XX,XY,↓reduceIte,Nat.reduceBEq,Nat.reduceAdd,Int.reduceEq,Int.reduceLT,Int.reduceLE,↓XV,h13,↓aM hk3,h11,h12];exact AJ _ _ _
       ·rw [if_neg h13] at hev;obtain ⟨rfl,rfl,rfl⟩:=CF hev;simp only [↓FL,↓XX,XY,↓reduceIte,Nat.reduceBEq,Nat.reduceAdd,Int.reduceEq,Int.reduceLT,Int.reduceLE,↓XV,h5,h8,h9,h30,h19,h13];exact AJ _ _ _
theorem UJ:∀f,OS f/\Qe f:=by
 intro f
 induction f with
 | zero=>exact ⟨(by intro s e t env v s' e' nd h;rw [AD] at h;cases h),(by intro s e v w s' e' nd h;rw [headR] at h;cases h)⟩
 | succ f ih=>exact ⟨Yy ih.1 ih.2,Yi ih.1 ih.2⟩
def E6 (u:Int) (b:Nat):List RV:=(List.range b).map fun (j:Nat)=>RV.var (u+(j:Int))
def J0 (u:Int) (b:Nat):E6 u (b+1)=E6 u b++[RV.var (u+b)]:=by simp [E6,List.range_succ]
def CC (u:Int) (b:Nat):(E6 u b).length=b:=by simp [E6]
def Bl (rd:Int->Int->Int->RV->Int->Option (Tm×Int×Int×Int)) (f:Nat) (op u:Int):Nat->List RV->Int->Int->Int->Option (List Tm×Int×Int×Int)
 | _,[],s,nd,e=>some ([],s,nd,e)
 | i,k::l,s,nd,e =>
  match (if 0<Ak op i then (if 900000<k.env.length then none else AD f s e k.b (k.env++E6 u (Ak op i))) else some (k,s,e)) with
  | none=>none
  | some (k',s1,e1)=>match rd s1 nd e1 k' (u+Ak op i) with
   | none=>none
   | some (t,s2,nd2,e2)=>(Bl rd f op u (i+1) l s2 nd2 e2).map fun (ts,s,nd,e)=>(t::ts,s,nd,e)
def AV:Nat->Int->Int->Int->RV->Int->Int->Option (Tm×Int×Int×Int)
 | 0,_,_,_,_,_,_=>none
 | f+1,s,nd,e,v,u,d =>
  if nd<0\/1000000<nd\/u<0\/1000000<u\/d<0\/1000000<d\/v.n < -2305843009213693952\/2305843009213693952<v.n\/f<=v.k.length\/900000<v.k.length\/f<=3 then none else
  if (if e=0/\(3000<nd+1\/120<d) then 5 else e)≠0 then some (.z,s,nd+1,(if e=0/\(3000<nd+1\/120<d) then 5 else e))
  else if v.op=1 then some (.mk 1 (u - 1 - v.n) [],s,nd+1,0)
  else (Bl (fun s nd e k u=>AV f s nd e k u (d+1)) f v.op u 0 v.k s (nd+1) 0).map fun (ts,s,nd,e)=>(.mk v.op v.n ts,s,nd,e)
def SJ (f:Nat):Prop:=∀(s nd e:Int) (v:RV) (u d:Int) (t:Tm) (s' nd' e':Int),AV f s nd e v u d=some (t,s',nd',e')->∀n,f+1<=n ->
 Bz (SS dt n 59 [.ptr (.ext 0) 0,.fv v.enc,iv u,iv d] ⟨[],[.row [iv s,iv nd,iv e] false]⟩) t.enc [.row [iv s',iv nd',iv e'] false]
abbrev K8 (op m:Int) (K:IV) (tok:List (Nat×Blk)) (s nd e:Int):Hp :=⟨(61865984,.row [iv 0,iv 0,.nils] false)::(61874185,.row [iv op,iv m,K] false)::tok,[.row [iv s,iv nd,iv e] false]⟩
def Wb {cells:List IV} {fc:List FV} (hz:Dy cells=some fc) (hn:cells.length<=100) (s:Nat) (h:Hp) (k:KT (IV×Hp)):sP (Jv true s (.agg cells)) s (.agg cells) h k=k (.fv (.fp fc 0)) h [] []:=by
 have:Jv true s (.agg cells)=.ret { eff:={ val:=.fv (.fp fc 0),upd:=[] } }:=by simp only [Jv,IV.alive,Bool.true_eq_false,if_false,if_true,IV.cells,VK cells 4096 (by omega) hz,Rd.bind]
 unfold sP;rw [this,TN];exact FO _ s h k
def U7 (n:Int):(RV.var n).enc=.fp [.int .i64 1,.int .i64 n,.sl [],.sl [],.int .i64 0,.int .i64 0,.sl []] 0:=by rw [RV.var,Tm.z,HX];rfl
def X9 {f:Nat} (hr:SJ f):SJ (f+1):=by
 intro s nd e v u d t s' nd' e' hev n hn;obtain ⟨n,rfl⟩:=psc n (by omega);rw [c59];rw [AV] at hev;by_cases hbad:nd<0\/1000000<nd\/u<0\/1000000<u\/d<0\/1000000<d\/v.n < -2305843009213693952\/2305843009213693952<v.n\/f<=v.k.length\/900000<v.k.length\/f<=3
 ·rw [if_pos hbad] at hev;cases hev
 ·rw [if_neg hbad] at hev;have wnd:BC (nd+1)=nd+1:=by rw [Ax]<;>omega
  have wd:BC (d+1)=d+1:=by rw [Ax]<;>omega
  have wu:BC (u - 1)=u - 1:=by rw [Ax]<;>omega
  have wv:BC (u - 1 - v.n)=u - 1 - v.n:=by rw [Ax]<;>omega
  by_cases he:e=0
  ·subst he;by_cases h3:3000<nd+1
   ·have e5:(if (0:Int)=0/\(3000<nd+1\/120<d) then (5:Int) else 0)=5:=if_pos ⟨rfl,.inl h3⟩;rw [e5,if_pos (by decide)] at hev;simp only [AiZ,Ai0] at hev;obtain ⟨rfl,rfl,rfl,rfl⟩:=hev;simp only [↓UU9,↓XX,XY,↓reduceIte,seval,wnd,h3];exact EK rfl _ _
   ·by_cases h4:120<d
    ·have e5:(if (0:Int)=0/\(3000<nd+1\/120<d) then (5:Int) else 0)=5:=if_pos ⟨rfl,.inr h4⟩;rw [e5,if_pos (by decide)] at hev;simp only [AiZ,Ai0] at hev;obtain ⟨rfl,rfl,rfl,rfl⟩:=hev;simp only [↓UU9,↓XX,XY,↓reduceIte,seval,wnd,h3,h4];exact EK rfl _ _
    ·have e5:(if (0:Int)=0/\(3000<nd+1\/120<d) then (5:Int) else 0)=0:=if_neg (by omega);rw [e5,if_neg (by decide)] at hev;by_cases h1:v.op=1
     ·rw [if_pos h1] at hev;simp only [AiZ,Ai0] at hev;obtain ⟨rfl,rfl,rfl,rfl⟩:=hev;have hv:=pP (n:=n) (by omega) (u - 1 - v.n);rw [Am] at hv ⊢;simp only [↓UU9,↓XX,XY,↓reduceIte,seval,↓XV,wnd,h3,h4,h1,wu,wv,↓Aq hv];exact EK rfl _ _
     ·rw [if_neg h1] at hev;cases hrk:Bl (fun s nd e k u=>AV f s nd e k u (d+1)) f v.op u 0 v.k s (nd+1) 0 with
      | none=>rw [hrk] at hev;cases hev
      | some q =>
      obtain ⟨ts,s1,nd1,e1⟩:=q;rw [hrk] at hev;simp only [Ai2,AiZ,Ai0] at hev;obtain ⟨rfl,rfl,rfl,rfl⟩:=hev;simp only [↓UU9,↓XX,XY,↓reduceIte,seval,↓XV,wnd,h3,h4,h1,↓AI,XD,heldB,AS,XE];refine Ba (Q:=fun r=>Bz r _ _) (fun k V H=>∃(pre rest:List RV) (done:List Tm) (s2 nd2 e2:Int) (us:List Tm),v.k=pre++rest/\rest.length=k/\done.length=pre.length/\V=[.ptr (.ext 0) 0,.fv v.enc,iv u,iv d,.ptr (.own 61865984) 0,.ptr (.own 61874185) 0,iv pre.length] /\
       (
        (pre=[]/\H=K8 v.op v.n .nils [] s2 nd2 e2) \/
        (pre≠[]/\H=K8 v.op v.n (.app (.own 61887499) (done.map Tm.enc)) [(61887499,.tok done.length 3)] s2 nd2 e2)) /\
       Bl (fun s nd e k u=>AV f s nd e k u (d+1)) f v.op u pre.length rest s2 nd2 e2=some (us,s1,nd1,e1)/\done++us=ts)
       ?_ n v.k.length _ _ (by omega) ⟨[],v.k,[],s,nd+1,0,ts,rfl,rfl,rfl,rfl,.inl ⟨rfl,rfl⟩,hrk,rfl⟩
      rintro k V H rec ⟨pre,rest,done,s2,nd2,e2,us,hk,hl,hdl,rfl,hH,hkids,hts⟩ hrec;have hkl:v.k.length=pre.length+rest.length:=by rw [hk];simp
      cases rest with
      | nil =>
       simp only [Bl,AiZ,Ai0] at hkids;obtain ⟨rfl,rfl,rfl,rfl⟩:=hkids;rw [Ajm] at hts;subst hts;have hno:¬ ((pre.length:Int)<v.k.length):=by rw [hkl];simp
       rcases hH with ⟨hp0,rfl⟩ | ⟨hne,rfl⟩
       ·have hd0:done=[]:=Ajr.1 (by rw [hdl,hp0];rfl);subst hd0;simp only [Ey,GN,ED,GD,Ez,E0,Ew,EA,S59,↓XX,XY,↓reduceIte,seval,↓XV,hno,Am];exact EK rfl _ _
       ·simp only [Ey,GN,ED,GD,Ez,E0,Ew,EA,S59,↓XX,XY,↓reduceIte,seval,↓XV,hno,Am];exact EK rfl _ _
      | cons x rest =>
       have hi:(pre.length:Int)<v.k.length:=by rw [hkl];simp;omega
       have hg:=BY hk;have hb:=Fy (n:=n) (by omega) v.op pre.length;have hble:=AW v.op pre.length;have hwi:BC ((pre.length:Int)+1)=((pre++[x]).length:Int):=(Ax (by omega) (by omega)).trans (by simp);have hwb:BC (u+(Ak v.op pre.length:Int))=u+Ak v.op pre.length:=by rw [Ax]<;>omega
       have hd9:done.length+1<=1000000:=by omega
       simp only [Bl] at hkids;simp only [Ai3] at hl;have behind:∀(y:RV) (s3 e3:Int),(match AV f s3 nd2 e3 y (u+Ak v.op pre.length) (d+1) with
          | none=>none
          | some (t,s2,nd2,e2)=>(Bl (fun s nd e k u=>AV f s nd e k u (d+1)) f v.op u (pre.length+1) rest s2 nd2 e2).map fun (ts,s,nd,e)=>(t::ts,s,nd,e))=some (us,s1,nd1,e1) ->
         ∀K tk,((pre=[]/\K=.nils/\tk=[])\/(pre≠[]/\K=.app (.own 61887499) (done.map Tm.enc)/\tk=[(61887499,.tok done.length 3)])) ->
         Bz (GN (.ptr (.own 61874185) 0) (K8 v.op v.n K tk s3 nd2 e3) (iv u) (iv (Ak v.op pre.length)) (iv d) (SS dt n) (.ptr (.ext 0) 0) (.fv y.enc) (iv pre.length) ⟨[],[.row [iv s,iv nd,iv 0] false]⟩ (.fv v.enc) (.ptr (.own 61865984) 0) rec)
          (Tm.mk v.op v.n ts).enc [.row [iv s1,iv nd1,iv e1] false]:=by
        intro y s3 e3 hy K tk hK;cases hrd:AV f s3 nd2 e3 y (u+Ak v.op pre.length) (d+1) with
        | none=>rw [hrd] at hy;cases hy
        | some q =>
        obtain ⟨t4,s4,nd4,e4⟩:=q;rw [hrd] at hy;simp only at hy;cases hkk:Bl (fun s nd e k u=>AV f s nd e k u (d+1)) f v.op u (pre.length+1) rest s4 nd4 e4 with
        | none=>rw [hkk] at hy;cases hy
        | some q =>
        obtain ⟨us',s5,nd5,e5'⟩:=q;rw [hkk] at hy;simp only [Ai2,AiZ,Ai0] at hy;obtain ⟨rfl,rfl,rfl,rfl⟩:=hy;have hc:=hr s3 nd2 e3 y (u+Ak v.op pre.length) (d+1) t4 s4 nd4 e4 hrd n (by omega);have h9:Bz (rec [.ptr (.ext 0) 0,.fv v.enc,iv u,iv d,.ptr (.own 61865984) 0,.ptr (.own 61874185) 0,iv (pre++[x]).length]
          (K8 v.op v.n (.app (.own 61887499) ((done++[t4]).map Tm.enc)) [(61887499,.tok (done.length+1) 3)] s4 nd4 e4)) (Tm.mk v.op v.n ts).enc [.row [iv s5,iv nd5,iv e5'] false] :=
         hrec rest.length _ _ (by omega) ⟨pre++[x],rest,done++[t4],s4,nd4,e4,us',by rw [hk];simp,rfl,by simp [hdl],rfl,.inr ⟨by simp,by simp⟩,by simpa using hkk,by rw [<- hts];simp⟩
        rcases hK with ⟨hp0,rfl,rfl⟩ | ⟨hne,rfl,rfl⟩
        ·have hd0:done=[]:=Ajr.1 (by rw [hdl,hp0];rfl);subst hd0;simp only [Ajo,Ai5,Ai4,Ajh] at h9;simp only [Ey,GN,ED,GD,Ez,E0,Ew,EA,S59,↓XX,XY,↓reduceIte,seval,↓XV,hwb,wd,hwi,↓fK hc (CD _ _ _ _ _ _),↓Iy,↓PF,↓AI,XD,heldB,AS,XE];exact h9
        ·simp only [Ey,GN,ED,GD,Ez,E0,Ew,EA,S59,↓XX,XY,↓reduceIte,seval,↓XV,hwb,wd,hwi,↓fK hc (CD _ _ _ _ _ _),↓Iy,↓Lu hd9,↓G4,↓AI,XD,heldB,AS,XE];exact h9
       have heads:∃K tk,((pre=[]/\K=.nils/\tk=[])\/(pre≠[]/\K=.app (.own 61887499) (done.map Tm.enc)/\tk=[(61887499,.tok done.length 3)]))/\H=K8 v.op v.n K tk s2 nd2 e2:=by
        rcases hH with ⟨a,b⟩ | ⟨a,b⟩
        ·exact ⟨_,_,.inl ⟨a,rfl,rfl⟩,b⟩
        ·exact ⟨_,_,.inr ⟨a,rfl,rfl⟩,b⟩
       obtain ⟨K,tk,hK,rfl⟩:=heads;by_cases hbp:0<Ak v.op pre.length
       ·rw [if_pos hbp] at hkids;by_cases hxe:900000<x.env.length
        ·rw [if_pos hxe] at hkids;cases hkids
        ·rw [if_neg hxe] at hkids;have hbp':0<(Ak v.op pre.length:Int):=by omega
         cases hev1:AD f s2 e2 x.b (x.env++E6 u (Ak v.op pre.length)) with
         | none=>rw [hev1] at hkids;cases hkids
         | some q =>
         obtain ⟨y,s3,e3⟩:=q;rw [hev1] at hkids;have hB:=behind y s3 e3 hkids K tk hK;have hc:=(UJ f).1 s2 e2 x.b _ y s3 e3 nd2 hev1 n (by omega);rw [SP] at hc;have hdrop:∀(vals:List IV),vals.all FB=true->∀k:Hp->Option (IV×Hp),Bm [] [61885445] vals (K8 v.op v.n K tk s2 nd2 e2) k=k (K8 v.op v.n K tk s2 nd2 e2):=by intro vals hv k;rcases hK with ⟨_,rfl,rfl⟩ | ⟨_,rfl,rfl⟩<;>simp only [↓XX,XY,↓reduceIte,seval,↓AI,XD,heldB,AS,XE,hv]
         simp only [Ey,ED,Ez,E0,Ew,EA,S59,↓XX,XY,↓reduceIte,seval,↓XV,hi,↓Ua hg,↓Af hb,hbp',↓hdrop,↓AI,XD,heldB,AS,XE];refine Ba (Q:=fun r=>Bz r _ _) (fun k V H=>∃j,j+k=Ak v.op pre.length/\V=[.ptr (.ext 0) 0,.fv v.enc,iv u,iv d,.ptr (.own 61865984) 0,.ptr (.own 61874185) 0,iv pre.length,iv (Ak v.op pre.length),.fv x.enc,.fv (.sl ((x.env++E6 u j).map RV.enc)),iv j] /\
          H=K8 v.op v.n K tk s2 nd2 e2) ?_ n (Ak v.op pre.length) _ _ (by omega) ?_
         rotate_left
         ·exact ⟨0,by omega,by simp [E6],rfl⟩
         rintro k2 V2 H2 rec2 ⟨j,hj,rfl,rfl⟩ hrec2;cases k2 with
         | zero =>
          have hjb:j=Ak v.op pre.length:=by omega
          subst hjb;simp only [Ey,ED,GD,Ez,E0,Ew,EA,S59,↓XX,XY,↓reduceIte,seval,↓XV,Int.lt_irrefl,↓IU hc (CD _ _ _ _ _ _)];exact hB
         | succ k2 =>
          have hjb:(j:Int)<Ak v.op pre.length:=by omega
          have hwj:BC (u+(j:Int))=u+j:=by rw [Ax]<;>omega
          have hwj1:BC ((j:Int)+1)=((j+1:Nat):Int):=by rw [Ax]<;>omega
          have hp:=PY (n:=n) (by omega) (x.env++E6 u j) [RV.var (u+j)] (by simp) (by simp [CC];omega);simp only [Ai5,Ai4,U7] at hp;rw [Ajs,<- J0] at hp;have hbv:=fun s h k=>R6 (RV.var (u+j)) s h k;simp only [U7] at hbv;have hfz:=fun s h (k:KT (IV×Hp))=>Wb (cells:=[.fv (.int .i64 1),iv (u+j),.nils,.nils,.fv (.int .i64 0),.fv (.int .i64 0),.nils]) (fc:=[.int .i64 1,.int .i64 (u+j),.sl [],.sl [],.int .i64 0,.int .i64 0,.sl []]) rfl (by simp) s h k;have h9:=hrec2 k2 _ _ (by omega) ⟨j+1,by omega,rfl,rfl⟩;simp only [Ey,ED,GD,Ez,E0,Ew,EA,S59,↓XX,XY,↓reduceIte,seval,↓XV,hjb,hwj,hwj1,↓hfz,↓hbv,↓Af hp,↓hdrop,↓AI,XD,heldB,AS,XE];exact h9
       ·rw [if_neg hbp] at hkids;have hbp':¬ 0<(Ak v.op pre.length:Int):=by omega
        have hB:=behind x s2 e2 hkids K tk hK;simp only [Ey,ED,Ez,E0,Ew,EA,S59,↓XX,XY,↓reduceIte,seval,↓XV,hi,↓Ua hg,↓Af hb,hbp',↓AI,XD,heldB,AS,XE];exact hB
  ·have e5:(if e=0/\(3000<nd+1\/120<d) then (5:Int) else e)=e:=if_neg (by omega);rw [e5,if_pos he] at hev;simp only [AiZ,Ai0] at hev;obtain ⟨rfl,rfl,rfl,rfl⟩:=hev;simp only [↓UU9,↓XX,XY,↓reduceIte,seval,wnd,he];exact EK rfl _ _
theorem kY:∀f,SJ f:=by
 intro f
 induction f with
 | zero=>intro s nd e v u d t s' nd' e' h;rw [AV] at h;cases h
 | succ f ih=>exact X9 ih
theorem UA {α:Type}:∀(r:Rd α) (h:Hp) (l:List Ref) {x:α} {l':List Ref},r.runLog h l=some (x,l')->r.run h=some x
 | .ret a,h,l,x,l',e=>by simp only [Rd.runLog,AiZ,Ai0] at e;rw [e.1];rfl
 | .fail,_,_,_,_,e=>by cases e
 | .get r k,h,l,x,l',e=>by
  simp only [Rd.runLog] at e;simp only [Rd.run];cases hg:h.get r with
  | none=>rw [hg] at e;cases e
  | some b=>rw [hg] at e;exact UA (k b) h _ e
def Jw {v:IV} {own:List (Nat×Blk)} {ext:List Blk} {w:FV} (h:∃u lg,∀(e:Option (IV×Hp)) (K:FV->List (Ref×Blk)->List Ref->Option (IV×Hp)),DB 12 v ⟨own,ext⟩ [] e K=K w u lg):∃u,(C8 4096 v).run ⟨own,ext⟩=some (w,u):=by
 obtain ⟨u,lg,hz⟩:=h;rcases MG 12 v ⟨own,ext⟩ [] none (fun w _ _=>some (IV.fv w,(⟨[],[]⟩:Hp))) (.fv w,⟨[],[]⟩) (hz ..) with h | ⟨x,u',lg',h1,_,h2⟩
 ·cases h
 ·simp only [AiZ,Ai0,IV.fv.injEq,and_true] at h2;subst h2;exact ⟨u',UA _ _ _ (h1 4096 (by decide))⟩
theorem MQ:∀l:List FV,IV.refs.refsL (l.map .fv)=[]
 | []=>rfl
 | v::l=>by
  simp only [Ai5,IV.refs.refsL,IV.refs,MQ l,Ajm]
theorem Ic:∀(args:List IV) (ks:List Bool) {vs:List FV},(∀b∈ks,b=false)->Bu args=some vs->By ks args=.ret (vs.map .fv,[],[])
 | [],ks,vs,_,hz=>by cases hz;cases ks<;>rfl
 | v::l,[],vs,_,hz=>Hd (v::l) hz
 | v::l,b::ks,vs,hk,hz=>by
  have hb:=hk b Aji;subst hb;simp only [Bu] at hz;cases h1:Bd v with
  | none=>rw [h1] at hz;cases hz
  | some x =>
   rw [h1] at hz;cases h2:Bu l with
   | none=>rw [h2] at hz;cases hz
   | some ys =>rw [h2] at hz;cases hz;simp only [By,frp 4096 (by omega) h1,Rd.bind,Ic l ks (fun c hc=>hk c (Ajj _ hc)) h2];rfl
def Pk (s:Nat) (ext:List Blk):Nt 400 [.own s] 0 ext=false:=rfl
def bX {ks:List Bool} (hks:∀b∈ks,b=false) {ih:Ah} {f:FuncId} {args:List IV} {vs:List FV} {w:FV} {s:Nat} {st st':List FV} {own:List (Nat×Blk)} (hz:Bu args=some vs) (hl:Ap s own=some (.row (st.map .fv) false))
  (hr:Bz (ih f (.ptr (.ext 0) 0::vs.map .fv) ⟨[],[.row (st.map .fv) false]⟩) w [.row (st'.map .fv) false]) (k:KT (IV×Hp)) :
  A5 (true::ks) false false ih f (.ptr (.own s) 0::args) ⟨own,[]⟩ k=k (.fv w) ⟨AO s (.row (st'.map .fv) false) own,[]⟩ [.own s] [.own s]:=by
 obtain ⟨v,own',e1,hfz⟩:=hr;obtain ⟨u,hu⟩:=Jw hfz;have hD:Ea (true::ks) false false ih f (.ptr (.own s) 0::args) ⟨own,[]⟩ k=k (.fv w) ⟨AO s (.row (st'.map .fv) false) own,[]⟩ [.own s] [.own s]:=by
  have h1:By (true::ks) (.ptr (.own s) 0::args)=.ret (.ptr (.own s) 0::vs.map .fv,[.own s],[]):=by simp only [By,Ic args ks hks hz,Rd.bind,IV.refs];rfl
  have h2:(B4 4096 [.own s] []).runLog ⟨own,[]⟩ []=some ([(.own s,.row (st.map .fv) false)],[.own s]):=by
   show (B4 (4094+1+1) [.own s] []).runLog ⟨own,[]⟩ []=_
   simp only [B4,hasRef,Ajx,if_false,Rd.runLog,Hp.get,hl,Blk.refs,MQ,Ajm,Ajo]
  have h3:IV.ren.renL (D6 [(.own s,.row (st.map .fv) false)]) (.ptr (.own s) 0::vs.map .fv)=some (.ptr (.ext 0) 0::vs.map .fv):=by simp only [IV.ren.renL,IV.ren,D6,Cs,if_true,Ai2,Ajt,DS]
  have h4:Bg (D6 [(.own s,.row (st.map .fv) false)]) [.row (st.map .fv) false]=some [.row (st.map .fv) false]:=by simp only [Bg,Blk.ren,DS,Ai2,Ajt]
  have h5:Bg (CF [(.own s,.row (st.map .fv) false)]) [.row (st'.map .fv) false]=some [.row (st'.map .fv) false]:=by simp only [Bg,Blk.ren,DS,Ai2,Ajt]
  unfold Ea;simp only [h1,Rd.runLog,h2,h3,Ai5,Ai4,h4,CX (Cj 3),CX Cz,Ei,Ajx,if_false,e1,hu,Ai2,IV.ren,h5,Ai3,Ajh,BB,List.all_nil,and_self,if_true,Ajo,List.zip_cons_cons,List.zip_nil_left];have h6:laid ⟨own,[]⟩ [(.own s,.row (st'.map .fv) false)]=some ⟨AO s (.row (st'.map .fv) false) own,[]⟩:=by simp only [laid,Hp.get,hl,Hp.set]
  simp only [h6,In,Cj]
 rw [Jb,T9,Pj,L2 0 args _ _ _ _ ks hks hz];simp only [Pl,Pk,cond_false];exact hD
def tC {ih:Ah} {f:FuncId} {x y:IV} {vx vy w:FV} {s:Nat} {a b c a' b' c':FV} {own own':List (Nat×Blk)} (hr:Bz (ih f [.ptr (.ext 0) 0,.fv vx,.fv vy] ⟨[],[.row [.fv a,.fv b,.fv c] false]⟩) w [.row [.fv a',.fv b',.fv c'] false])
  (hx:Bd x=some vx) (hy:Bd y=some vy) (hl:Ap s own=some (.row [.fv a,.fv b,.fv c] false)) (ho:AO s (.row [.fv a',.fv b',.fv c'] false) own=own') (k:KT (IV×Hp)) :
  A5 [true,false,false] false false ih f [.ptr (.own s) 0,x,y] ⟨own,[]⟩ k=k (.fv w) ⟨own',[]⟩ [.own s] [.own s]:=by
 subst ho;exact bX (ks:=[false,false]) (by simp) (st:=[a,b,c]) (st':=[a',b',c']) (SY hx hy) hl hr k
def wN {ih:Ah} {f:FuncId} {x y z:IV} {vx vy vz w:FV} {s:Nat} {a b c a' b' c':FV} {own own':List (Nat×Blk)} (hr:Bz (ih f [.ptr (.ext 0) 0,.fv vx,.fv vy,.fv vz] ⟨[],[.row [.fv a,.fv b,.fv c] false]⟩) w [.row [.fv a',.fv b',.fv c'] false])
  (hx:Bd x=some vx) (hy:Bd y=some vy) (hz:Bd z=some vz) (hl:Ap s own=some (.row [.fv a,.fv b,.fv c] false)) (ho:AO s (.row [.fv a',.fv b',.fv c'] false) own=own') (k:KT (IV×Hp)) :
  A5 [true,false,false,false] false false ih f [.ptr (.own s) 0,x,y,z] ⟨own,[]⟩ k=k (.fv w) ⟨own',[]⟩ [.own s] [.own s]:=by
 subst ho;exact bX (ks:=[false,false,false]) (by simp) (st:=[a,b,c]) (st':=[a',b',c']) (YZ hx hy hz) hl hr k
def jY {ih:Ah} {f:FuncId} {x y:IV} {vx vy w:FV} {s:Nat} {a b a' b':FV} {own own':List (Nat×Blk)} (hr:Bz (ih f [.ptr (.ext 0) 0,.fv vx,.fv vy] ⟨[],[.row [.fv a,.fv b] false]⟩) w [.row [.fv a',.fv b'] false])
  (hx:Bd x=some vx) (hy:Bd y=some vy) (hl:Ap s own=some (.row [.fv a,.fv b] false)) (ho:AO s (.row [.fv a',.fv b'] false) own=own') (k:KT (IV×Hp)) :
  A5 [true,false,false] false false ih f [.ptr (.own s) 0,x,y] ⟨own,[]⟩ k=k (.fv w) ⟨own',[]⟩ [.own s] [.own s]:=by
 subst ho;exact bX (ks:=[false,false]) (by simp) (st:=[a,b]) (st':=[a',b']) (SY hx hy) hl hr k
def AF (f:Nat) (t:Tm):Option (Tm×Int):=match AD f 0 0 t [] with
 | none=>none
 | some (v,s,e)=>match AV f s 0 e v 0 1 with
  | none=>none
  | some (u,_,_,e)=>some (if e≠0 then (.z,e) else (u,0))
def cJ {n:Nat} (hn:0<n) (e:Int):BE (SS dt n 20 [iv e] ⟨[],[]⟩) (.bool (decide (e=17) || decide (e=5))):=by
 obtain ⟨n,rfl⟩:=psc n (by omega);rw [c20];by_cases h1:e=17
 ·simp only [S20,↓XX,XY,↓reduceIte,seval,h1,Bool.true_or];exact Aw _ _
 ·simp only [S20,↓XX,XY,↓reduceIte,seval,h1,Bool.false_or];exact Aw _ _
theorem YB (f:Nat) (t u:Tm) (e:Int) (h:AF f t=some (u,e)) (n:Nat) (hn:f+2<=n):BE (SS dt n 24 [.fv t.enc] ⟨[],[]⟩) (.tuple [u.enc,.int .i64 e]):=by
 obtain ⟨n,rfl⟩:=psc n (by omega);rw [c24];unfold AF at h;cases he:AD f 0 0 t [] with
 | none=>rw [he] at h;cases h
 | some q =>
 obtain ⟨v,s1,e1⟩:=q;rw [he] at h;simp only at h;cases hr:AV f s1 0 e1 v 0 1 with
 | none=>rw [hr] at h;cases h
 | some q =>
 obtain ⟨w,s2,nd2,e2⟩:=q;rw [hr] at h;simp only [AiZ] at h;have h1:=(UJ f).1 0 0 t [] v s1 e1 0 he n (by omega);have h2:=kY f s1 0 e1 v 0 1 w s2 nd2 e2 hr n (by omega);obtain ⟨op,m,ks⟩:=t;rw [Am] at h1 ⊢;simp only [Ai4] at h1;have c1:=fun k=>tC (k:=k) h1 (x:=.fv (.agg [.int .i64 op,.int .i64 m,.sl (ks.map Tm.enc)])) (y:=.nils) (s:=25166849) rfl rfl
  (own:=[(25165824,.row [iv op,iv m,.fv (.sl (ks.map Tm.enc))] false),(25165825,.row [iv 0,iv 0,.nils] false),(25166849,.row [iv 0,iv 0,iv 0] false)])
  (own':=[(25165824,.row [iv op,iv m,.fv (.sl (ks.map Tm.enc))] false),(25165825,.row [iv 0,iv 0,.nils] false),(25166849,.row [iv s1,iv 0,iv e1] false)]) (by simp [Ap]) (by simp [AO])
 have c2:=fun k=>wN (k:=k) h2 (x:=.fv v.enc) (y:=iv 0) (z:=iv 1) (s:=25166849) rfl rfl rfl
  (own:=[(25165824,.row [iv op,iv m,.fv (.sl (ks.map Tm.enc))] false),(25165825,.row [iv 0,iv 0,.nils] false),(25166849,.row [iv s1,iv 0,iv e1] false)])
  (own':=[(25165824,.row [iv op,iv m,.fv (.sl (ks.map Tm.enc))] false),(25165825,.row [iv 0,iv 0,.nils] false),(25166849,.row [iv s2,iv nd2,iv e2] false)]) (by simp [Ap]) (by simp [AO])
 obtain ⟨wo,wn,wk⟩:=w;rw [Am] at c2;by_cases hz:e2=0
 ·rw [if_neg (by simp [hz])] at h;simp only [Ai0] at h;obtain ⟨rfl,rfl⟩:=h;subst hz;simp only [S24,↓XX,XY,↓reduceIte,seval,↓c1,↓c2,Am];exact Aw _ _
 ·rw [if_pos hz] at h;simp only [Ai0] at h;obtain ⟨rfl,rfl⟩:=h;simp only [S24,↓XX,XY,↓reduceIte,seval,↓c1,↓c2,hz,Tm.z,Am];exact Sv rfl (by simp) _
theorem Du {ev ev':Int->Int->Tm->Option (RV×Int×Int)} (h:∀s e t r,ev s e t=some r->ev' s e t=some r) (op:Int) (env:List RV):∀(l:List Tm) (i:Nat) (s e:Int) (r:List RV×Int×Int),Bf ev op env i l s e=some r->Bf ev' op env i l s e=some r
 | [],i,s,e,r,hr=>hr
 | t::l,i,s,e,r,hr=>by
  simp only [Bf] at hr ⊢;by_cases hb:0<Ak op i
  ·rw [if_pos hb] at hr ⊢;cases hk:Bf ev op env (i+1) l s e with
   | none=>rw [hk] at hr;cases hr
   | some q=>rw [hk] at hr;rw [Du h op env l (i+1) s e q hk];exact hr
  ·rw [if_neg hb] at hr ⊢;cases he:ev s e t with
   | none=>rw [he] at hr;cases hr
   | some q =>
    obtain ⟨v,s1,e1⟩:=q;rw [he] at hr;rw [h _ _ _ _ he];simp only at hr ⊢;cases hk:Bf ev op env (i+1) l s1 e1 with
    | none=>rw [hk] at hr;cases hr
    | some q=>rw [hk] at hr;rw [Du h op env l (i+1) s1 e1 q hk];exact hr
theorem NR:∀f,(∀s e t env r,AD f s e t env=some r->AD (f+1) s e t env=some r)/\(∀s e v r,headR f s e v=some r->headR (f+1) s e v=some r):=by
 intro f
 induction f with
 | zero=>exact ⟨(by intro s e t env r h;rw [AD] at h;cases h),(by intro s e v r h;rw [headR] at h;cases h)⟩
 | succ f ih =>
  refine ⟨?_,?_⟩
  ·intro s e t env r h;obtain ⟨op,m,ks⟩:=t;rw [AD] at h ⊢;split at h
   ·rename_i h0;rw [if_pos h0];exact h
   ·rename_i h0;rw [if_neg h0];split at h
    ·cases h
    ·rename_i h1;rw [if_neg h1];split at h
     ·rename_i h2;rw [if_pos h2];exact h
     ·rename_i h2;rw [if_neg h2];split at h
      ·cases h
      ·rename_i h3;rw [if_neg (by omega)];split at h
       ·cases h
       ·rename_i h4;rw [if_neg h4];split at h
        ·cases h
        ·rename_i vs s1 e1 hk;rw [Du (ev':=fun s e t=>AD (f+1) s e t env) (fun s e t r=>ih.1 s e t env r) op env ks 0 s e _ hk];exact ih.2 _ _ _ _ h
  ·intro s e v r h;rw [headR] at h ⊢;by_cases h0:e≠0
   ·rw [if_pos h0] at h ⊢;exact h
   rw [if_neg h0] at h ⊢;by_cases h1:s<0\/1000000<s
   ·rw [if_pos h1] at h;cases h
   rw [if_neg h1] at h ⊢;by_cases h5:v.op=5
   ·rw [if_pos h5] at h ⊢;cases hk:v.k[0]? with
    | none=>rw [hk] at h;cases h
    | some k0 =>
     rw [hk] at h;simp only at h ⊢;by_cases h4:k0.op=4
     ·rw [if_pos h4] at h ⊢;by_cases hq:s+1<=1000
      ·rw [if_pos hq] at h ⊢;cases hc:k0.k[1]? with
       | none=>rw [hc] at h;cases h
       | some c =>
        cases hx:v.k[1]? with
        | none=>rw [hc,hx] at h;cases h
        | some x =>
         rw [hc,hx] at h;simp only at h ⊢;by_cases hl:900000<c.env.length
         ·rw [if_pos hl] at h;cases h
         ·rw [if_neg hl] at h ⊢;exact ih.1 _ _ _ _ _ h
      ·rw [if_neg hq] at h ⊢;exact h
     ·rw [if_neg h4] at h ⊢;exact h
   rw [if_neg h5] at h ⊢;by_cases h89:v.op=8\/v.op=9
   ·rw [if_pos h89] at h ⊢;exact h
   rw [if_neg h89] at h ⊢;by_cases h30:v.op=30
   ·rw [if_pos h30] at h ⊢;exact h
   rw [if_neg h30] at h ⊢;by_cases h19:v.op=19
   ·rw [if_pos h19] at h ⊢;exact h
   rw [if_neg h19] at h ⊢;by_cases h13:v.op=13
   ·rw [if_pos h13] at h ⊢;cases hk0:v.k[0]? with
    | none=>rw [hk0] at h;cases h
    | some k0 =>
    cases hk1:v.k[1]? with
    | none=>rw [hk0,hk1] at h;cases h
    | some k1 =>
    cases hk2:v.k[2]? with
    | none=>rw [hk0,hk1,hk2] at h;cases h
    | some k2 =>
    cases hk3:v.k[3]? with
    | none=>rw [hk0,hk1,hk2,hk3] at h;cases h
    | some k3 =>
    rw [hk0,hk1,hk2,hk3] at h;simp only at h ⊢;by_cases h11:k3.op=11
    ·rw [if_pos h11] at h ⊢;exact h
    rw [if_neg h11] at h ⊢;by_cases h12:k3.op=12
    ·rw [if_pos h12] at h ⊢;by_cases hq:s+1<=1000
     ·rw [if_pos hq] at h ⊢;cases hx:k3.k[0]? with
      | none=>rw [hx] at h;cases h
      | some x =>
       rw [hx] at h;simp only at h ⊢;cases hd:headR f (s+1) 0 (.node 13 0 [k0,k1,k2,x]) with
       | none=>rw [hd] at h;cases h
       | some q =>
        obtain ⟨w,s2,e2⟩:=q;rw [hd] at h;rw [ih.2 _ _ _ _ hd];simp only at h ⊢;by_cases hl:900000<k2.env.length
        ·rw [if_pos hl] at h;cases h
        ·rw [if_neg hl] at h ⊢;exact ih.1 _ _ _ _ _ h
     ·rw [if_neg hq] at h ⊢;exact h
    ·rw [if_neg h12] at h ⊢;exact h
   rw [if_neg h13] at h ⊢;exact h
theorem Cc {f g:Nat} (hfg:f<=g) {s e:Int} {t:Tm} {env:List RV} {r:RV×Int×Int} (h:AD f s e t env=some r):AD g s e t env=some r:=by
 induction hfg with
 | refl=>exact h
 | step _ ih=>exact (NR _).1 _ _ _ _ _ ih
theorem OW {f g:Nat} (hfg:f<=g) {s e:Int} {v:RV} {r:RV×Int×Int} (h:headR f s e v=some r):headR g s e v=some r:=by
 induction hfg with
 | refl=>exact h
 | step _ ih=>exact (NR _).2 _ _ _ _ ih
def ar (op:Int):Option Nat :=
 if op=0\/op=1\/op=2\/op=10\/op=11\/op=14\/op=15\/op=25 then some 0
 else if op=8\/op=9\/op=12\/op=18\/op=19\/op=23\/op=24\/op=30 then some 1
 else if op=3\/op=4\/op=5\/op=6\/op=16\/op=17\/op=20\/op=21\/op=22\/op=26\/op=28\/op=29 then some 2
 else if op=7\/op=27 then some 3 else if op=13 then some 4 else none
def BX (op n:Int):Prop:=if op=2 then 0<=n/\n<=2 else if op=26 then 0<=n/\n<=4 else if op=25 then -2305843009213693952<=n/\n<=2305843009213693952 else n=0
mutual
def Tm.sc:Tm->Nat->Prop
 | .mk op n ks,k=>ar op=some ks.length/\(if op=1 then 0<=n/\n<k else BX op n)/\Tm.scL op 0 ks k
def Tm.scL:Int->Nat->List Tm->Nat->Prop
 | _,_,[],_=>True
 | op,i,t::l,k=>t.sc (k+Ak op i)/\Tm.scL op (i+1) l k
end
mutual
def Tm.bd:Tm->Nat
 | .mk op _ ks=>Tm.bdL op 0 ks
def Tm.bdL:Int->Nat->List Tm->Nat
 | _,_,[]=>0
 | op,i,t::l=>max (Ak op i+t.bd) (Tm.bdL op (i+1) l)
end
section
variable (k0 D:Nat) (L:Int)
mutual
def RV.ok:RV->Prop
 | .mk op n k _ _=>if op=1 then -(k0:Int)<=n/\n<L/\k=[] else ar op=some k.length/\BX op n/\RV.okL op 0 k
def RV.okL:Int->Nat->List RV->Prop
 | _,_,[]=>True
 | op,i,v::l=>(if 0<Ak op i then RV.okC (Ak op i) v else RV.ok v)/\RV.okL op (i+1) l
def RV.okC:Nat->RV->Prop
 | b,.mk _ _ _ env bd=>RV.okE env/\bd.sc (k0+env.length+b)/\env.length+b+bd.bd<=D
def RV.okE:List RV->Prop
 | []=>True
 | v::l=>RV.ok v/\RV.okE l
end
end
end Idl
end Go.Proofs.YtnenpcghegcnhaaGreat
namespace Go.Proofs.YtnenpcghegcnhaaGreat
namespace Idl
theorem RA {op:Int} {n:Nat} (h:ar op=some n):n<=4:=by
 unfold ar at h
 repeat' split at h
 all_goals first | (simp only [AiZ] at h;omega) | cases h
section
variable {k0 D:Nat} {L:Int}
theorem Vz:∀{l:List RV},RV.okE k0 D L l->∀{i:Nat} {v:RV},l[i]?=some v->RV.ok k0 D L v
 | [],_,i,v,h=>by simp at h
 | a::l,ho,i,v,h=>by
  rw [RV.okE] at ho;cases i with
  | zero=>simp at h;subst h;exact ho.1
  | succ i=>simp at h;exact Vz ho.2 h
theorem Js:∀{l l':List RV},RV.okE k0 D L l->RV.okE k0 D L l'->RV.okE k0 D L (l++l')
 | [],l',_,h=>h
 | a::l,l',h,h'=>by
  rw [RV.okE] at h;rw [Ajq,RV.okE];exact ⟨h.1,Js h.2 h'⟩
theorem Qa {v:RV} (h:RV.ok k0 D L v):RV.okE k0 D L [v]:=by rw [RV.okE,RV.okE];exact ⟨h,trivial⟩
theorem mP {v w:RV} (h:RV.ok k0 D L v) (h':RV.ok k0 D L w):RV.okE k0 D L [v,w]:=by rw [RV.okE];exact ⟨h,Qa h'⟩
theorem JG:∀{l:List RV} {op:Int} {i:Nat},RV.okL k0 D L op i l->∀{j:Nat} {v:RV},l[j]?=some v->(if 0<Ak op (i+j) then RV.okC k0 D L (Ak op (i+j)) v else RV.ok k0 D L v)
 | [],op,i,_,j,v,h=>by simp at h
 | a::l,op,i,ho,j,v,h=>by
  rw [RV.okL] at ho;cases j with
  | zero=>simp at h;subst h;exact ho.1
  | succ j =>
   simp at h
   have:=JG ho.2 h
   rw [show i+1+j=i+(j+1) by omega] at this
   exact this
theorem XQ {op n:Int} {k:List RV} (h1:op≠1) (ha:ar op=some k.length) (hn:BX op n) (hk:RV.okL k0 D L op 0 k):RV.ok k0 D L (.node op n k):=by rw [RV.node,RV.ok,if_neg h1];exact ⟨ha,hn,hk⟩
theorem EW {v:RV} (h:RV.ok k0 D L v) (h1:v.op≠1):ar v.op=some v.k.length/\BX v.op v.n/\RV.okL k0 D L v.op 0 v.k:=by obtain ⟨op,n,k,env,b⟩:=v;rw [RV.ok] at h;have h1:op≠1:=h1;rw [if_neg h1] at h;exact h
theorem PI:RV.ok k0 D L .zero:=by rw [RV.zero,RV.ok,if_neg (by decide)];exact ⟨by decide,by simp [BX],by rw [RV.okL];trivial⟩
theorem Fv {v:RV} (h:RV.ok k0 D L v) (h1:v.op≠1) {j:Nat} (hj:j<v.k.length) (hb:Ak v.op j=0):∃w,v.k[j]?=some w/\RV.ok k0 D L w:=by
 obtain ⟨_,_,hl⟩:=EW h h1;refine ⟨v.k[j],Ai6 hj,?_⟩
 have:=JG hl (Ai6 hj)
 rw [Ajy,if_neg (by omega)] at this;exact this
theorem SQ {v:RV} (h:RV.ok k0 D L v) (h1:v.op≠1) {j:Nat} (hj:j<v.k.length) (hb:0<Ak v.op j):∃w,v.k[j]?=some w/\RV.okE k0 D L w.env/\w.b.sc (k0+w.env.length+Ak v.op j)/\w.env.length+Ak v.op j+w.b.bd<=D:=by
 obtain ⟨_,_,hl⟩:=EW h h1;refine ⟨v.k[j],Ai6 hj,?_⟩
 have:=JG hl (Ai6 hj)
 rw [Ajy,if_pos hb] at this;generalize v.k[j]=w at this ⊢;obtain ⟨op,n,k,env,b⟩:=w;rw [RV.okC] at this;exact this
def Qx (s s' e':Int):Prop:=s<=s'/\(e'=0/\s'<=1000\/e'=17/\s'=1001)
def YG (k0 D:Nat) (L:Int) (c:Nat):Prop:=∀(v:RV) (s:Int),v.op≠1->RV.ok k0 D L v->0<=s->s<=1000->1000<=s+c->∃f w s' e',headR f s 0 v=some (w,s',e')/\RV.ok k0 D L w/\Qx s s' e'
def yD (k0 D:Nat) (L:Int) (c:Nat):Prop:=∀(t:Tm) (env:List RV) (s:Int),RV.okE k0 D L env->t.sc (k0+env.length)->env.length+t.bd<=D->0<=s->s<=1000->1000<=s+c->∃f v s' e',AD f s 0 t env=some (v,s',e')/\RV.ok k0 D L v/\Qx s s' e'
theorem Mf (s e:Int) (h:e≠0) (t:Tm) (env:List RV):AD 1 s e t env=some (.zero,s,e):=by obtain ⟨op,m,ks⟩:=t;rw [AD,if_pos h]
theorem aA {c:Nat} (h:yD k0 D L c) {t:Tm} {env:List RV} {s e:Int} (h1:RV.okE k0 D L env) (h2:t.sc (k0+env.length)) (h3:env.length+t.bd<=D) (h0:0<=s) (he:e=0/\s<=1000\/e=17/\s=1001) (hc:1000<=s+c) :
  ∃f v s' e',AD f s e t env=some (v,s',e')/\RV.ok k0 D L v/\Qx s s' e':=by
 rcases he with ⟨rfl,hs⟩ | ⟨rfl,hs⟩
 ·exact h t env s h1 h2 h3 h0 hs hc
 ·exact ⟨1,_,_,_,Mf s 17 (by decide) t env,PI,by omega,.inr ⟨rfl,hs⟩⟩
theorem Of (hD:D<=900000) (c:Nat) (he:∀c',c=c'+1->yD k0 D L c') (hh:∀c',c=c'+1->YG k0 D L c'):YG k0 D L c:=by
 intro v s h1 ho hs0 hs1 hsc;obtain ⟨ha,hn,hl⟩:=EW ho h1;have stop:Qx s s 0:=⟨by omega,.inl ⟨rfl,hs1⟩⟩;by_cases h5:v.op=5
 ·have hlen:v.k.length=2:=by rw [h5] at ha;simpa [ar] using ha.symm
  obtain ⟨k0',hk0,ok0⟩:=Fv ho h1 (j:=0) (by omega) (by rw [h5];rfl);obtain ⟨k1,hk1,ok1⟩:=Fv ho h1 (j:=1) (by omega) (by rw [h5];rfl);by_cases h4:k0'.op=4
  ·by_cases hq:s+1<=1000
   ·obtain ⟨c',rfl⟩:∃c',c=c'+1:=⟨c - 1,by omega⟩;obtain ⟨ha4,_,_⟩:=EW ok0 (by omega);have hlen4:k0'.k.length=2:=by rw [h4] at ha4;simpa [ar] using ha4.symm
    obtain ⟨w,hw,w1,w2,w3⟩:=SQ ok0 (by omega) (j:=1) (by omega) (by rw [h4];decide);have hb1:Ak k0'.op 1=1:=by rw [h4];rfl
    rw [hb1] at w2 w3;obtain ⟨f,x,s',e',hx,hxo,hxe⟩:=he c' rfl w.b (w.env++[k1]) (s+1) (Js w1 (Qa ok1)) (by simpa [Nat.add_assoc] using w2) (by simp;omega) (by omega) hq (by omega);refine ⟨f+1,x,s',e',?_,hxo,?_⟩
    ·rw [headR,if_neg (by decide),if_neg (by omega),if_pos h5,hk0];simp only [h4,hq,hw,hk1,if_true];rw [if_neg (by omega)];exact hx
    ·exact ⟨by have:=hxe.1;omega,hxe.2⟩
   ·refine ⟨1,v,s+1,17,?_,ho,by omega,.inr ⟨rfl,by omega⟩⟩;rw [headR,if_neg (by decide),if_neg (by omega),if_pos h5,hk0];simp only [h4,hq,if_true,if_false]
  ·refine ⟨1,v,s,0,?_,ho,stop⟩;rw [headR,if_neg (by decide),if_neg (by omega),if_pos h5,hk0];simp only [h4,if_false]
 by_cases h89:v.op=8\/v.op=9
 ·have hlen:v.k.length=1:=by rcases h89 with h | h<;>(rw [h] at ha;simpa [ar] using ha.symm)
  obtain ⟨k0',hk0,ok0⟩:=Fv ho h1 (j:=0) (by omega) (by rcases h89 with h | h<;>(rw [h];rfl));by_cases h7:k0'.op=7
  ·by_cases hq:s+1<=1000
   ·obtain ⟨ha7,_,_⟩:=EW ok0 (by omega);have hlen7:k0'.k.length=3:=by rw [h7] at ha7;simpa [ar] using ha7.symm
    obtain ⟨x,hx,okx⟩:=Fv ok0 (by omega) (j:=(1+v.op - 8).toNat) (by omega) (by rw [h7];rcases h89 with h | h<;>(rw [h];rfl));refine ⟨1,x,s+1,0,?_,okx,by omega,.inl ⟨rfl,hq⟩⟩;rw [headR,if_neg (by decide),if_neg (by omega),if_neg h5,if_pos h89,hk0];simp only [h7,hq,if_true,hx,Ai2]
   ·refine ⟨1,v,s+1,17,?_,ho,by omega,.inr ⟨rfl,by omega⟩⟩;rw [headR,if_neg (by decide),if_neg (by omega),if_neg h5,if_pos h89,hk0];simp only [h7,hq,if_true,if_false]
  ·refine ⟨1,v,s,0,?_,ho,stop⟩;rw [headR,if_neg (by decide),if_neg (by omega),if_neg h5,if_pos h89,hk0];simp only [h7,if_false]
 by_cases h30:v.op=30
 ·have hlen:v.k.length=1:=by rw [h30] at ha;simpa [ar] using ha.symm
  obtain ⟨k0',hk0,ok0⟩:=Fv ho h1 (j:=0) (by omega) (by rw [h30];rfl);by_cases h7:k0'.op=19
  ·by_cases hq:s+1<=1000
   ·obtain ⟨ha7,_,_⟩:=EW ok0 (by omega);have hlen7:k0'.k.length=1:=by rw [h7] at ha7;simpa [ar] using ha7.symm
    obtain ⟨x,hx,okx⟩:=Fv ok0 (by omega) (j:=0) (by omega) (by rw [h7];rfl);refine ⟨1,x,s+1,0,?_,okx,by omega,.inl ⟨rfl,hq⟩⟩;rw [headR,if_neg (by decide),if_neg (by omega),if_neg h5,if_neg h89,if_pos h30,hk0];simp only [h7,hq,if_true,hx,Ai2]
   ·refine ⟨1,v,s+1,17,?_,ho,by omega,.inr ⟨rfl,by omega⟩⟩;rw [headR,if_neg (by decide),if_neg (by omega),if_neg h5,if_neg h89,if_pos h30,hk0];simp only [h7,hq,if_true,if_false]
  ·refine ⟨1,v,s,0,?_,ho,stop⟩;rw [headR,if_neg (by decide),if_neg (by omega),if_neg h5,if_neg h89,if_pos h30,hk0];simp only [h7,if_false]
 by_cases h19:v.op=19
 ·have hlen:v.k.length=1:=by rw [h19] at ha;simpa [ar] using ha.symm
  obtain ⟨k0',hk0,ok0⟩:=Fv ho h1 (j:=0) (by omega) (by rw [h19];rfl);by_cases h7:k0'.op=30
  ·by_cases hq:s+1<=1000
   ·obtain ⟨ha7,_,_⟩:=EW ok0 (by omega);have hlen7:k0'.k.length=1:=by rw [h7] at ha7;simpa [ar] using ha7.symm
    obtain ⟨x,hx,okx⟩:=Fv ok0 (by omega) (j:=0) (by omega) (by rw [h7];rfl);refine ⟨1,x,s+1,0,?_,okx,by omega,.inl ⟨rfl,hq⟩⟩;rw [headR,if_neg (by decide),if_neg (by omega),if_neg h5,if_neg h89,if_neg h30,if_pos h19,hk0];simp only [h7,hq,if_true,hx,Ai2]
   ·refine ⟨1,v,s+1,17,?_,ho,by omega,.inr ⟨rfl,by omega⟩⟩;rw [headR,if_neg (by decide),if_neg (by omega),if_neg h5,if_neg h89,if_neg h30,if_pos h19,hk0];simp only [h7,hq,if_true,if_false]
  ·refine ⟨1,v,s,0,?_,ho,stop⟩;rw [headR,if_neg (by decide),if_neg (by omega),if_neg h5,if_neg h89,if_neg h30,if_pos h19,hk0];simp only [h7,if_false]
 by_cases h13:v.op=13
 ·have hlen:v.k.length=4:=by rw [h13] at ha;simpa [ar] using ha.symm
  obtain ⟨a0,hk0,c0⟩:=SQ ho h1 (j:=0) (by omega) (by rw [h13];decide);obtain ⟨a1,hk1,ok1⟩:=Fv ho h1 (j:=1) (by omega) (by rw [h13];rfl);obtain ⟨a2,hk2,w1,w2,w3⟩:=SQ ho h1 (j:=2) (by omega) (by rw [h13];decide);obtain ⟨a3,hk3,ok3⟩:=Fv ho h1 (j:=3) (by omega) (by rw [h13];rfl);have hb2:Ak v.op 2=2:=by rw [h13];rfl
  rw [hb2] at w2 w3;by_cases h11:a3.op=11
  ·by_cases hq:s+1<=1000
   ·refine ⟨1,a1,s+1,0,?_,ok1,by omega,.inl ⟨rfl,hq⟩⟩;rw [headR,if_neg (by decide),if_neg (by omega),if_neg h5,if_neg h89,if_neg h30,if_neg h19,if_pos h13,hk0,hk1,hk2,hk3];simp only [h11,hq,if_true]
   ·refine ⟨1,v,s+1,17,?_,ho,by omega,.inr ⟨rfl,by omega⟩⟩;rw [headR,if_neg (by decide),if_neg (by omega),if_neg h5,if_neg h89,if_neg h30,if_neg h19,if_pos h13,hk0,hk1,hk2,hk3];simp only [h11,hq,if_true,if_false]
  by_cases h12:a3.op=12
  ·by_cases hq:s+1<=1000
   ·obtain ⟨c',rfl⟩:∃c',c=c'+1:=⟨c - 1,by omega⟩;obtain ⟨ha12,_,_⟩:=EW ok3 (by omega);have hlen12:a3.k.length=1:=by rw [h12] at ha12;simpa [ar] using ha12.symm
    obtain ⟨x,hx,okx⟩:=Fv ok3 (by omega) (j:=0) (by omega) (by rw [h12];rfl);have hrec:RV.ok k0 D L (.node 13 0 [a0,a1,a2,x]):=by refine XQ (by decide) rfl (by simp [BX]) ?_;have e0:=JG hl hk0;have e2:=JG hl hk2;rw [h13] at e0 e2;simp only [RV.okL];exact ⟨e0,ok1,e2,okx,trivial⟩
    obtain ⟨f,h,s2,e2,hd,hdo,hde⟩:=hh c' rfl _ (s+1) (by simp [RV.node,RV.op]) hrec (by omega) hq (by omega);obtain ⟨g,y,s3,e3,hy,hyo,hye⟩:=aA (he c' rfl) (t:=a2.b) (env:=a2.env++[x,h]) (s:=s2) (e:=e2) (Js w1 (mP okx hdo)) (by simpa [Nat.add_assoc] using w2) (by simp;omega) (by have:=hde.1;omega) hde.2 (by have:=hde.1;omega);refine ⟨f+g+1,y,s3,e3,?_,hyo,by have:=hde.1;have:=hye.1;omega,hye.2⟩;rw [headR,if_neg (by decide),if_neg (by omega),if_neg h5,if_neg h89,if_neg h30,if_neg h19,if_pos h13,hk0,hk1,hk2,hk3];simp only [h12,hq,if_true,hx,OW (show f<=f+g by omega) hd]
    rw [if_neg (by decide),if_neg (by omega)];exact Cc (by omega) hy
   ·refine ⟨1,v,s+1,17,?_,ho,by omega,.inr ⟨rfl,by omega⟩⟩;rw [headR,if_neg (by decide),if_neg (by omega),if_neg h5,if_neg h89,if_neg h30,if_neg h19,if_pos h13,hk0,hk1,hk2,hk3];simp only [h12,hq,if_true,if_false];rw [if_neg (by decide)]
  ·refine ⟨1,v,s,0,?_,ho,stop⟩;rw [headR,if_neg (by decide),if_neg (by omega),if_neg h5,if_neg h89,if_neg h30,if_neg h19,if_pos h13,hk0,hk1,hk2,hk3];simp only [h11,h12,if_false]
 ·refine ⟨1,v,s,0,?_,ho,stop⟩;rw [headR,if_neg (by decide),if_neg (by omega),if_neg h5,if_neg h89,if_neg h30,if_neg h19,if_neg h13]
end
section
variable {k0 D:Nat} {L:Int}
theorem MZ {c:Nat} {env:List RV} (henv:RV.okE k0 D L env) (op:Int):∀(l:List Tm) (i:Nat) (s e:Int),
  (∀t∈l,∀s:Int,t.sc (k0+env.length)->env.length+t.bd<=D->0<=s->s<=1000->1000<=s+c->∃f v s' e',AD f s 0 t env=some (v,s',e')/\RV.ok k0 D L v/\Qx s s' e') ->
  Tm.scL op i l (k0+env.length)->env.length+Tm.bdL op i l<=D->0<=s->(e=0/\s<=1000\/e=17/\s=1001)->1000<=s+c ->
  ∃f vs s' e',Bf (fun s e t=>AD f s e t env) op env i l s e=some (vs,s',e')/\RV.okL k0 D L op i vs/\vs.length=l.length/\Qx s s' e'
 | [],i,s,e,_,_,_,h0,he,_=>⟨0,[],s,e,rfl,by rw [RV.okL];trivial,rfl,by omega,he⟩
 | t::l,i,s,e,hev,hsc,hbd,h0,he,hc=>by
  rw [Tm.scL] at hsc;rw [Tm.bdL] at hbd;by_cases hb:0<Ak op i
  ·obtain ⟨f,vs,s',e',hk,hok,hlen,hend⟩:=MZ henv op l (i+1) s e (fun u hu=>hev u (Ajj _ hu)) hsc.2 (by omega) h0 he hc;refine ⟨f,.clo env t::vs,s',e',?_,?_,by simp [hlen],hend⟩
   ·rw [Bf,if_pos hb,hk];rfl
   ·rw [RV.okL,if_pos hb,RV.clo,RV.okC];exact ⟨⟨henv,hsc.1,by omega⟩,hok⟩
  ·have hb0:Ak op i=0:=by omega
   rw [hb0] at hsc hbd;have h1:∃f v s' e',AD f s e t env=some (v,s',e')/\RV.ok k0 D L v/\Qx s s' e':=by
    rcases he with ⟨rfl,hs⟩ | ⟨rfl,hs⟩
    ·exact hev t Aji s (by simpa using hsc.1) (by omega) h0 hs hc
    ·exact ⟨1,_,_,_,Mf s 17 (by decide) t env,PI,by omega,.inr ⟨rfl,hs⟩⟩
   obtain ⟨f,v,s1,e1,hv,hvo,hve⟩:=h1;obtain ⟨g,vs,s',e',hk,hok,hlen,hend⟩:=MZ henv op l (i+1) s1 e1 (fun u hu=>hev u (Ajj _ hu)) hsc.2 (by omega) (by have:=hve.1;omega) hve.2 (by have:=hve.1;omega);refine ⟨f+g,v::vs,s',e',?_,?_,by simp [hlen],by have:=hve.1;have:=hend.1;omega,hend.2⟩
   ·rw [Bf,if_neg hb];simp only [Cc (show f<=f+g by omega) hv]
    rw [Du (ev:=fun s e t=>AD g s e t env) (fun s e t r h=>Cc (by omega) h) op env l (i+1) s1 e1 _ hk];rfl
   ·rw [RV.okL,if_neg hb];exact ⟨hvo,hok⟩
theorem OF (hD:D<=900000) (hL:0<=L) (hk0:k0<=900000) {c:Nat} (hh:YG k0 D L c):∀(m:Nat) (t:Tm) (env:List RV) (s:Int),t.wt<m->RV.okE k0 D L env->t.sc (k0+env.length)->env.length+t.bd<=D->0<=s->s<=1000->1000<=s+c ->
  ∃f v s' e',AD f s 0 t env=some (v,s',e')/\RV.ok k0 D L v/\Qx s s' e':=by
 intro m
 induction m with
 | zero=>intro t env s h;omega
 | succ m ih =>
  intro t env s hw henv hsc hbd h0 h1 hc;obtain ⟨op,n,ks⟩:=t;rw [Tm.sc] at hsc;rw [Tm.bd] at hbd;simp only [Tm.wt] at hw;by_cases hop:op=1
  ·subst hop;rw [if_pos rfl] at hsc;have hkl:ks=[]:=by
    have:=hsc.1
    simp [ar] at this;exact Ajr.1 this.symm
   by_cases hm:n<env.length
   ·have hlt:((env.length:Int) - 1 - n).toNat<env.length:=by omega
    refine ⟨1,env[((env.length:Int) - 1 - n).toNat],s,0,?_,Vz henv (Ai6 hlt),by omega,.inl ⟨rfl,h1⟩⟩;rw [AD,if_neg (by decide),if_neg (by omega),if_pos rfl,if_pos hm,if_pos hsc.2.1.1,Ai6 hlt];rfl
   ·refine ⟨1,.var (env.length - 1 - n),s,0,?_,?_,by omega,.inl ⟨rfl,h1⟩⟩
    ·rw [AD,if_neg (by decide),if_neg (by omega),if_pos rfl,if_neg hm,if_pos (by have:=hsc.2.1.2;omega)]
    ·rw [RV.var,RV.ok,if_pos rfl]
     have:=hsc.2.1.2
     exact ⟨by omega,by omega,rfl⟩
  ·rw [if_neg hop] at hsc;obtain ⟨f,vs,s1,e1,hk,hok,hlen,hend⟩:=MZ (c:=c) henv op ks 0 s 0 (fun t ht s=>fun a b c' d e=>ih t env s (by have:=Cb ht;omega) henv a b c' d e) hsc.2.2 hbd h0 (.inl ⟨rfl,h1⟩) hc;have hnode:RV.ok k0 D L (.node op n vs):=XQ hop (by rw [hlen];exact hsc.1) hsc.2.1 hok;have har:=RA hsc.1;have h2:∃g w s' e',headR g s1 e1 (.node op n vs)=some (w,s',e')/\RV.ok k0 D L w/\Qx s1 s' e':=by
    rcases hend.2 with ⟨he,hs⟩ | ⟨he,hs⟩
    ·subst he;exact hh _ s1 (by simpa [RV.node,RV.op] using hop) hnode (by have:=hend.1;omega) hs (by have:=hend.1;omega)
    ·subst he;refine ⟨1,_,s1,17,by rw [headR,if_pos (by decide)],hnode,by omega,.inr ⟨rfl,hs⟩⟩
   obtain ⟨g,w,s',e',hw2,hwo,hwe⟩:=h2;refine ⟨f+g+5+1,w,s',e',?_,hwo,by have:=hend.1;have:=hwe.1;omega,hwe.2⟩;rw [AD,if_neg (by decide),if_neg (by omega),if_neg hop,if_neg (by omega),if_neg (by omega)];rw [Du (ev:=fun s e t=>AD f s e t env) (fun s e t r h=>Cc (by omega) h) op env ks 0 s 0 _ hk];exact OW (by omega) hw2
theorem tot (hD:D<=900000) (hL:0<=L) (hk0:k0<=900000):∀c,YG k0 D L c/\yD k0 D L c:=by
 intro c
 induction c with
 | zero =>have hH:YG k0 D L 0:=Of hD 0 (fun c' h=>by omega) (fun c' h=>by omega);exact ⟨hH,fun t env s a b c d e f=>OF hD hL hk0 hH (t.wt+1) t env s (by omega) a b c d e f⟩
 | succ c ih =>have hH:YG k0 D L (c+1):=Of hD (c+1) (fun c' h=>by cases h;exact ih.2) (fun c' h=>by cases h;exact ih.1);exact ⟨hH,fun t env s a b c d e f=>OF hD hL hk0 hH (t.wt+1) t env s (by omega) a b c d e f⟩
end
end Idl
end Go.Proofs.YtnenpcghegcnhaaGreat

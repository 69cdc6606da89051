/- Part 10 of a proof. No statement is proved here. -/
import Derived.KernelRfl
import Derived.Test.YtnenpcghegcnhaaGreatKernelChecksK9
set_option linter.all false
set_option maxRecDepth 20000
set_option maxHeartbeats 16000000
noncomputable section
namespace Go.Proofs.YtnenpcghegcnhaaGreat
namespace Idl
theorem dF (f:Nat) (G:Ai->Nat->Hp->Option (IV×Hp)) (e:dt.call f=fun ih n=>ar0 (G ih n):=by kernel_rfl) (n:Nat) (h:Hp):SS dt (n+1) f [] h=G (SS dt n) n  h:=by
 show dt.call f (SS dt n) n _ h=_
 rw [e];rfl
theorem BJ (f:Nat) (G:Ai->Nat->IV->Hp->Option (IV×Hp)) (e:dt.call f=fun ih n=>ar1 (G ih n):=by kernel_rfl) (n:Nat) (a0:IV) (h:Hp):SS dt (n+1) f [a0] h=G (SS dt n) n a0 h:=by
 show dt.call f (SS dt n) n _ h=_
 rw [e];rfl
theorem Bb (f:Nat) (G:Ai->Nat->IV->IV->Hp->Option (IV×Hp)) (e:dt.call f=fun ih n=>ar2 (G ih n):=by kernel_rfl) (n:Nat) (a0 a1:IV) (h:Hp):SS dt (n+1) f [a0,a1] h=G (SS dt n) n a0 a1 h:=by
 show dt.call f (SS dt n) n _ h=_
 rw [e];rfl
theorem BU (f:Nat) (G:Ai->Nat->IV->IV->IV->Hp->Option (IV×Hp)) (e:dt.call f=fun ih n=>ar3 (G ih n):=by kernel_rfl) (n:Nat) (a0 a1 a2:IV) (h:Hp):SS dt (n+1) f [a0,a1,a2] h=G (SS dt n) n a0 a1 a2 h:=by
 show dt.call f (SS dt n) n _ h=_
 rw [e];rfl
theorem Ci (f:Nat) (G:Ai->Nat->IV->IV->IV->IV->Hp->Option (IV×Hp)) (e:dt.call f=fun ih n=>ar4 (G ih n):=by kernel_rfl) (n:Nat) (a0 a1 a2 a3:IV) (h:Hp):SS dt (n+1) f [a0,a1,a2,a3] h=G (SS dt n) n a0 a1 a2 a3 h:=by
 show dt.call f (SS dt n) n _ h=_
 rw [e];rfl
theorem rG (f:Nat) (G:Ai->Nat->IV->IV->IV->IV->IV->Hp->Option (IV×Hp)) (e:dt.call f=fun ih n=>ar5 (G ih n):=by kernel_rfl) (n:Nat) (a0 a1 a2 a3 a4:IV) (h:Hp):SS dt (n+1) f [a0,a1,a2,a3,a4] h=G (SS dt n) n a0 a1 a2 a3 a4 h:=by
 show dt.call f (SS dt n) n _ h=_
 rw [e];rfl
theorem Aci (f:Nat) (G:Ai->Nat->IV->IV->IV->IV->IV->IV->Hp->Option (IV×Hp)) (e:dt.call f=fun ih n=>ar6 (G ih n):=by kernel_rfl) (n:Nat) (a0 a1 a2 a3 a4 a5:IV) (h:Hp):SS dt (n+1) f [a0,a1,a2,a3,a4,a5] h=G (SS dt n) n a0 a1 a2 a3 a4 a5 h:=by
 show dt.call f (SS dt n) n _ h=_
 rw [e];rfl
def c8:=Ci 8 S8
def qX:=BJ 12 tL
def c13:=BJ 13 S13
def c14:=Ci 14 S14
def QJ:=BU 19 S19
def c20:=BJ 20 S20
def c21:=BJ 21 S21
def c22:=BU 22 S22
def c23:=Bb 23 jX
def c24:=BJ 24 S24
def c26:=Bb 26 S26
def c27:=Ci 27 S27
def c28:=BJ 28 S28
def xR:=BU 29 S29
def gH:=Ci 30 S30
def c31:=BU 31 S31
def c32:=BU 32 S32
def c33:=Ci 33 xX
def c34:=Bb 34 S34
def c35:=BU 35 jI
def c38:=Bb 38 S38
def c39:=BJ 39 S39
def c40:=Bb 40 xL
def c41:=Bb 41 S41
def oQ:=Ci 42 S42
def c43:=BJ 43 S43
def c45:=BJ 45 xO
def c47:=Bb 47 oF
def c48:=BJ 48 S48
def Xt:=Bb 49 S49
def c50:=BJ 50 S50
def c51:=Ci 51 oI
def Sr:=Bb 52 S52
def c53:=BU 53 S53
def c54:=BJ 54 S54
def c55:=Bb 55 S55
def c56:=BJ 56 S56
def c57:=Bb 57 S57
def c58:=BU 58 S58
def c59:=Ci 59 S59
def c60:=BU 60 S60
def c61:=BJ 61 S61
def c62:=Bb 62 S62
def c63:=Bb 63 S63
def c64:=dF 64 S64
def c65:=Bb 65 S65
def c66:=Ci 66 S66
def c67:=Ci 67 xS
def pE:=Ci 68 S68
def c69:=Ci 69 S69
def c70:=Bb 70 S70
def c71:=Bb 71 S71
def zF:=Ci 72 S72
def c73:=BU 73 S73
def c74:=BU 74 S74
def c75:=Ci 75 S75
def YV:=Bb 76 S76
def c77:=Bb 77 S77
def c78:=Bb 78 S78
def c79:=Bb 79 pX
def c80:=BU 80 S80
def c81:=Bb 81 S81
def c82:=BJ 82 xV
def c83:=BU 83 S83
def fY:=Bb 84 S84
def i5:=Bb 85 S85
def c86:=Bb 86 S86
def c87:=Bb 87 S87
def c88:=Bb 88 tC
def c89:=Bb 89 S89
def c90:=BJ 90 S90
def c91:=BJ 91 S91
def c92:=BJ 92 S92
def c93:=BJ 93 S93
def c94:=Bb 94 sA
def c95:=BJ 95 S95
def c96:=dF 96 S96
def c97:=BU 97 S97
def c98:=Ci 98 S98
def c99:=BU 99 S99
def AdN:=BU 100 pZ
def Adj:=Ci 101 wC
def Ae1:=Ci 102 vW
def v9:=Bb 103 Zj
def Adu:=BU 104 tP
def AeC:=Ci 105 ZS
def Ady:=Ci 106 qT
def AcI:=BU 107 t9
def Aez:=BU 108 rC
def Ack:=BU 109 vQ
def Acn:=BU 110 sQ
def Aes:=BU 111 uA
def AeE:=Ci 112 vL
def AdY:=Bb 113 vH
def AeM:=rG 114 tN
def Po:=Bb 115 S115
def Ads:=BJ 116 gN
def Acr:=BJ 117 uM
def Adg:=Bb 118 vB
def Acs:=BJ 119 S5
def Adb:=Bb 120 lZ
def Aeq:=Bb 121 aW
def AcY:=Bb 122 Y9
def AcC:=Bb 123 sC
def Afe:=Bb 124 uY
def AcV:=BJ 125 ZJ
def AdF:=Bb 126 eJ
def Ae5:=Bb 127 qI
def Aee:=Bb 128 Pu
def AeV:=Ci 129 vN
def Acf:=BU 130 Ys
def Acq:=Ci 131 jS
def AcQ:=Bb 132 uF
def Adl:=BU 133 rZ
def Ac5:=Bb 134 uC
def Ac0:=BU 135 qW
def AcO:=Bb 136 pV
def Aex:=Bb 137 sG
def Afk:=BJ 138 tQ
def Aek:=Bb 139 cC
def Aed:=Bb 140 iU
def Ac9:=Bb 141 QW
def AcT:=Bb 142 cN
def Afm:=BJ 143 rQ
def Ad4:=BJ 144 tS
def Adz:=BU 145 T5
def Afn:=BU 146 Zd
def AcX:=Ci 147 aY
def AeT:=BJ 149 SX
def Acg:=BU 150 Tk
def Afw:=BJ 151 S151
def AeU:=BJ 152 Yq
theorem RU {a b c d e f g h i:Prop}(p:a)(q:b)(r:c)(s:d)(t:e)(u:f)(v:g)(w:h)(x:i):a/\b/\c/\d/\e/\f/\g/\h/\i:=⟨p,q,r,s,t,u,v,w,x⟩
def oU:=AhY @aG.eq_1<|AhY @d9.eq_1<|AhY @Y6.eq_1<|AhY @eT.eq_1<|@S8.eq_1
def iN:=AhY @Sa.eq_1<|AhY @RM.eq_1<|AhY @Rs.eq_1<|@S115.eq_1
def mQ:=AhY @U5.eq_1<|AhY @Wr.eq_1<|AhY @U4.eq_1<|@S85.eq_1
def fW:=AhY @Xk.eq_1<|AhY @Vs.eq_1<|AhY @W2.eq_1<|AhY @VU.eq_1<|AhY @Wu.eq_1<|AhY @Xe.eq_1<|@S84.eq_1
def QK:=AhY @VA.eq_1<|AhY @XB.eq_1<|AhY @Wb.eq_1<|AhY @Wd.eq_1<|AhY @UU.eq_1<|AhY @Vo.eq_1<|AhY @UY.eq_1<|@S19.eq_1
def VM:=AhY @WW.eq_1<|AhY @WO.eq_1<|AhY @Uq.eq_1<|AhY @Uo.eq_1<|AhY @U0.eq_1<|AhY @WN.eq_1<|@S49.eq_1
def YW:=AhY @UF.eq_1<|AhY @Va.eq_1<|AhY @UK.eq_1<|AhY @Vh.eq_1<|AhY @Vd.eq_1<|@S76.eq_1
def Ub:=RU @Qt.eq_1 @OM.eq_1 @Ph.eq_1 @OK.eq_1 @OC.eq_1 @Qk.eq_1 @Ql.eq_1 @O9.eq_1<|AhY @PH.eq_1<|AhY @OQ.eq_1<|AhY @Ia.eq_1<|@S61.eq_1
def y5:=AhY @EB.eq_1<|AhY @GT.eq_1<|AhY @Ez.eq_1<|AhY @EC.eq_1<|AhY @EA.eq_1<|AhY @Ey.eq_1<|@S59.eq_1
def FK:=RU @W6.eq_1 @Xl.eq_1 @Xa.eq_1 @U1.eq_1 @UZ.eq_1 @WA.eq_1 @Vx.eq_1 @UJ.eq_1<|AhY @VS.eq_1<|AhY @Wl.eq_1<|AhY @Vg.eq_1<|@S87.eq_1
def Sp:=AhY @HL.eq_1<|AhY @H9.eq_1<|AhY @Ic.eq_1<|AhY @UN.eq_1<|AhY @HU.eq_1<|@S60.eq_1
def bX:=AhY @H5.eq_1<|AhY @Ib.eq_1<|AhY @H1.eq_1<|@S69.eq_1
def cV:=AhY @JZ.eq_1<|AhY @Jo.eq_1<|@S53.eq_1
def Uf:=AhY @QF.eq_1<|AhY @UI.eq_1<|AhY @Qr.eq_1<|@S80.eq_1
def Ie:=RU @W0.eq_1 @Vp.eq_1 @Xp.eq_1 @W7.eq_1 @XA.eq_1 @Us.eq_1 @Uj.eq_1 @WD.eq_1<|AhY @Vu.eq_1<|@S52.eq_1
def dN:=AhY @We.eq_1<|AhY @US.eq_1<|AhY @VV.eq_1<|@S77.eq_1
def eS:=AhY @VC.eq_1<|AhY @WK.eq_1<|AhY @Ww.eq_1<|@S78.eq_1
def bK:=AhY @Jc.eq_1<|AhY @JK.eq_1<|@S95.eq_1
def SB:=RU @D0.eq_1 @D3.eq_1 @C1.eq_1 @D7.eq_1 @DR.eq_1 @Ea.eq_1 @DK.eq_1 @E3.eq_1<|AhY @DZ.eq_1<|@S98.eq_1
def cA:=AhY @Lp.eq_1<|AhY @VH.eq_1<|AhY @LF.eq_1<|@S97.eq_1
def YZ:=AhY @Rh.eq_1<|AhY @Rj.eq_1<|@S151.eq_1
def YP:=AhY @Xn.eq_1<|AhY @Ut.eq_1<|AhY @Wz.eq_1<|@S14.eq_1
def R4:=AhY @SY.eq_1<|AhY @Ud.eq_1<|AhY @aU.eq_1<|@S28.eq_1
def Jg:=RU @VY.eq_1 @W5.eq_1 @UE.eq_1 @Wv.eq_1 @Ur.eq_1 @Vr.eq_1 @Vk.eq_1 @Xg.eq_1<| @S30.eq_1
def M5:=RU @V0.eq_1 @WE.eq_1 @UW.eq_1 @Vb.eq_1 @Ws.eq_1 @Xj.eq_1 @W3.eq_1 @Wi.eq_1<|AhY @Xu.eq_1<|AhY @Uk.eq_1<|@S42.eq_1
def RO:=RU @WJ.eq_1 @Vt.eq_1 @WT.eq_1 @Xr.eq_1 @WU.eq_1 @VI.eq_1 @XG.eq_1 @Xx.eq_1<|AhY @WZ.eq_1<|AhY @U8.eq_1<|AhY @Vj.eq_1<|@S72.eq_1
def IJ:=RU @WY.eq_1 @Xm.eq_1 @WV.eq_1 @VB.eq_1 @U2.eq_1 @UB.eq_1 @Xv.eq_1 @WL.eq_1<|AhY @Xq.eq_1<|AhY @UC.eq_1<|AhY @VK.eq_1<|AhY @Up.eq_1<|AhY @VR.eq_1<|@S68.eq_1
def Jt:=AhY @Vi.eq_1<|AhY @WH.eq_1<|AhY @VO.eq_1<|AhY @Wa.eq_1<|@S29.eq_1
def Nv:=AhY @Qs.eq_1<|AhY @Qa.eq_1<|AhY @VQ.eq_1<|@S66.eq_1
section
variable {β:Type} {E:Env} {t:TypeId}
abbrev iv (n:Int):IV:=.fv (.int .i64 n)
theorem xC (c:Prop) [Decidable c] (a b:Option β):Aj (.fv (.bool (decide c))) a b=if c then a else b:=by
 by_cases h:c
 ·rw [decide_eq_true h,if_pos h];rfl
 ·rw [decide_eq_false h,if_neg h];rfl
theorem mT (o:Nat) (r:Ref) (off:Nat) (k:IV->Option β):Ab o (.ptr r off) k=k (.ptr r (off+o)):=by
 show (Eb (off+o) fun o=>k (.ptr r o))=_
 rw [Ca]
theorem Ov (o:Nat) (cs:List FV) (off:Nat) (k:IV->Option β):Ab o (.fv (.fp cs off)) k=k (.fv (.fp cs (off+o))):=by
 show (Eb (off+o) fun o=>k (.fv (.fp cs o)))=_
 rw [Ca]
theorem rT {size:Nat} {es:List FV} {n:Nat} {el:FV} (he:es[n]?=some el) (hl:el.cells.length=size) (k:IV->Option β):AR size (.fv (.sl es)) (iv n) k=k (.fv (.fp el.cells 0)):=by
 show (DV es n fun el=>elK size el k)=_
 rw [Dk,he]
 show elK size el k=_
 rw [dO,if_pos hl]
theorem KJ {op:BinOp} {g:Nat->Nat->Bool} (hg:∀a b:Nat,EQ E op t (iv a) (iv b)=some (.fv (.bool (g a b)))) (a b:Int) (k:IV->Option β) :
  Pk E t op g (iv a) (iv b) k=(EQ E op t (iv a) (iv b)).bind k:=by
 cases a with
 | ofNat a =>
  cases b with
  | ofNat b =>
   show eZ (g a b) k=_
   rw [Sd,show EQ E op t (iv (Int.ofNat a)) (iv (Int.ofNat b))=some (.fv (.bool (g a b))) from hg a b]
   rfl
  | negSucc b =>
   show CZ E t op _ _ k=_
   rw [CZ,CM]
 | negSucc a =>
  show CZ E t op _ _ k=_
  rw [CZ,CM]
theorem AaW (a b:Int) (k:IV->Option β):AP E t (iv a) (iv b) k=k (.fv (.bool (decide (a=b)))):=by
 rw [AP,KJ (fun a b=>by
  show some (IV.fv (.bool ((a:Int) == (b:Int))))=_
  rw [HP];congr 3;exact decide_eq_decide.2 Int.ofNat_inj)]
 rfl
theorem AbE (a b:Int) (k:IV->Option β):BM E t (iv a) (iv b) k=k (.fv (.bool (!decide (a=b)))):=by
 rw [BM,KJ (fun a b=>by
  show some (IV.fv (.bool ((a:Int) != (b:Int))))=_
  rw [HP];congr 3
  show (!decide ((a:Int)=(b:Int)))=!decide (a=b)
  congr 1;exact decide_eq_decide.2 Int.ofNat_inj)]
 rfl
theorem yL (a b:Int) (k:IV->Option β):FG E t (iv a) (iv b) k=k (.fv (.bool (decide (a<b)))):=by
 rw [FG,KJ (fun a b=>by
  show some (IV.fv (.bool (decide ((a:Int)<(b:Int)))))=_
  rw [Bq];congr 3;exact decide_eq_decide.2 (by omega))]
 rfl
theorem Aa6 (a b:Int) (k:IV->Option β):Xc E t (iv a) (iv b) k=k (.fv (.bool (decide (a<=b)))):=by
 rw [Xc,KJ (fun a b=>by
  show some (IV.fv (.bool (decide ((a:Int)<=(b:Int)))))=_
  rw [Bq];congr 3;exact decide_eq_decide.2 (by omega))]
 rfl
theorem AaY (b:Bool) (k:IV->Option β):CY (Kb .not (.fv (.bool b))) k=k (.fv (.bool !b)):=by rw [CM];rfl
end
section
variable {β:Type} {α:Type}
theorem n0 (a:α) (l:List α) (k:α->Option β):DV (a::l) 0 k=k a:=rfl
theorem n1 (a b:α) (l:List α) (k:α->Option β):DV (a::b::l) 1 k=k b:=rfl
theorem n2 (a b c:α) (l:List α) (k:α->Option β):DV (a::b::c::l) 2 k=k c:=rfl
theorem n3 (a b c d:α) (l:List α) (k:α->Option β):DV (a::b::c::d::l) 3 k=k d:=rfl
theorem n4 (a b c d e:α) (l:List α) (k:α->Option β):DV (a::b::c::d::e::l) 4 k=k e:=rfl
theorem n5 (a b c d e f:α) (l:List α) (k:α->Option β):DV (a::b::c::d::e::f::l) 5 k=k f:=rfl
theorem n6 (a b c d e f g:α) (l:List α) (k:α->Option β):DV (a::b::c::d::e::f::g::l) 6 k=k g:=rfl
theorem d0 (l:List α) (k:List α->Option β):Fj l 0 k=k l:=by cases l<;>rfl
theorem d1 (a:α) (l:List α) (k:List α->Option β):Fj (a::l) 1 k=k l:=by cases l<;>rfl
theorem d2 (a b:α) (l:List α) (k:List α->Option β):Fj (a::b::l) 2 k=k l:=by cases l<;>rfl
theorem d3 (a b c:α) (l:List α) (k:List α->Option β):Fj (a::b::c::l) 3 k=k l:=by cases l<;>rfl
theorem d4 (a b c d:α) (l:List α) (k:List α->Option β):Fj (a::b::c::d::l) 4 k=k l:=by cases l<;>rfl
theorem t1 (a:α) (l:List α) (k:List α->Option β):FH (a::l) 1 k=k [a]:=by cases l<;>rfl
theorem t2 (a b:α) (l:List α) (k:List α->Option β):FH (a::b::l) 2 k=k [a,b]:=by cases l<;>rfl
theorem t3 (a b c:α) (l:List α) (k:List α->Option β):FH (a::b::c::l) 3 k=k [a,b,c]:=by cases l<;>rfl
theorem t4 (a b c d:α) (l:List α) (k:List α->Option β):FH (a::b::c::d::l) 4 k=k [a,b,c,d]:=by cases l<;>rfl
theorem t7 (a b c d e f g:α) (l:List α) (k:List α->Option β):FH (a::b::c::d::e::f::g::l) 7 k=k [a,b,c,d,e,f,g]:=by cases l<;>rfl
theorem ZF (l:List α) (k:List α->Option β):Zl l k=k l:=Ha l k
theorem ap0 (us:List α) (k:List α->Option β):K8 [] us k=k us:=rfl
theorem ap1 (u:α) (l us:List α) (k:List α->Option β):K8 (u::l) us k=K8 l us fun w=>k (u::w):=rfl
theorem Aaz (a:α) (l:List α) (k:α->List α->Option β):AB (a::l) k=k a l:=rfl
theorem fX {γ:Type} (a b:γ):cond true a b=a:=rfl
theorem c_f {γ:Type} (a b:γ):cond false a b=b:=rfl
end
section
variable {β:Type}
theorem nL {s j:Nat} (h:(s == j)=false):Nat.beq s j=false:=by rw [HP];simpa using h
theorem J7 (s:Nat) (own:List (Nat×Blk)) (ext:List Blk) (k:Blk->Option β):Dr (.own s) ⟨own,ext⟩ k=EW own s k:=rfl
theorem zU (j:Nat) (own:List (Nat×Blk)) (ext:List Blk) (k:Blk->Option β):Dr (.ext j) ⟨own,ext⟩ k=DV ext j k:=rfl
theorem pK (s:Nat) (b:Blk) (l:List (Nat×Blk)) (k:Blk->Option β):EW ((s,b)::l) s k=k b:=by
 show cond (Nat.beq s s) (k b) _=_
 rw [show Nat.beq s s=true from Nat.beq_refl s]
 rfl
theorem rY {s j:Nat} (hne:(s == j)=false) (b:Blk) (l:List (Nat×Blk)) (k:Blk->Option β):EW ((j,b)::l) s k=EW l s k:=by
 show cond (Nat.beq s j) (k b) _=_
 rw [show Nat.beq s j=false from nL hne]
 rfl
theorem AaT (s:Nat) (b:Blk) (k:List (Nat×Blk)->Option β):Bf [] s b k=k [(s,b)]:=rfl
theorem oC (s:Nat) (b c:Blk) (l:List (Nat×Blk)) (k:List (Nat×Blk)->Option β):Bf ((s,c)::l) s b k=k ((s,b)::l):=by
 show cond (Nat.beq s s) _ _=_
 rw [show Nat.beq s s=true from Nat.beq_refl s]
 rfl
theorem wQ {s j:Nat} (hne:(s == j)=false) (b c:Blk) (l:List (Nat×Blk)) (k:List (Nat×Blk)->Option β):Bf ((j,c)::l) s b k=Bf l s b fun l=>k ((j,c)::l):=by
 show cond (Nat.beq s j) _ _=_
 rw [show Nat.beq s j=false from nL hne]
 rfl
theorem Abk (s:Nat) (a:Option β):CV [] s a=a:=rfl
theorem xI {s j:Nat} (hne:(s == j)=false) (b:Blk) (l:List (Nat×Blk)) (a:Option β):CV ((j,b)::l) s a=CV l s a:=by
 show cond (Nat.beq s j) none _=_
 rw [show Nat.beq s j=false from nL hne]
 rfl
theorem VW (s:Nat) (b:Blk) (own:List (Nat×Blk)) (ext:List Blk) (k:Hp->Option β):FJ (.own s) b ⟨own,ext⟩ k=Bf own s b fun own=>k ⟨own,ext⟩:=rfl
theorem kC (j:Nat) (b:Blk) (own:List (Nat×Blk)) (ext:List Blk) (k:Hp->Option β):FJ (.ext j) b ⟨own,ext⟩ k=Ob ext j b fun ext=>k ⟨own,ext⟩:=rfl
theorem sn0 {α:Type} (a b:α) (l:List α) (k:List α->Option β):Ob (a::l) 0 b k=k (b::l):=rfl
theorem yH (s:Nat) (b:Blk) (v:IV) (own:List (Nat×Blk)) (ext:List Blk) (k:KT β) :
  E1 s b v ⟨own,ext⟩ k=CV own s (Bf own s b fun own=>k v ⟨own,ext⟩ [] [.own s]):=rfl
theorem Ls (s:Nat) (cs:List FV) (h:Hp) (k:KT β):AH s (.fv (.agg cs)) h k=E1 s (.row (cs.map .fv) false) (.ptr (.own s) 0) h k:=by
 show Zl (cs.map IV.fv) _=_
 rw [Ha]
theorem yD (s:Nat) (a b:FV) (h:Hp) (k:KT β):AH s (.fv (.agg [a,b])) h k=E1 s (.row [.fv a,.fv b] false) (.ptr (.own s) 0) h k:=Ls ..
theorem AaR (s:Nat) (a b c:FV) (h:Hp) (k:KT β):AH s (.fv (.agg [a,b,c])) h k=E1 s (.row [.fv a,.fv b,.fv c] false) (.ptr (.own s) 0) h k:=Ls ..
theorem Abu (s:Nat) (a b c d:FV) (h:Hp) (k:KT β):AH s (.fv (.agg [a,b,c,d])) h k=E1 s (.row [.fv a,.fv b,.fv c,.fv d] false) (.ptr (.own s) 0) h k:=Ls ..
theorem Abf (s:Nat) (a:FV) (h:Hp) (k:KT β):AH s (.fv (.agg [a])) h k=E1 s (.row [.fv a] false) (.ptr (.own s) 0) h k:=Ls ..
theorem RR (s:Nat) (cs:List IV) (h:Hp) (k:KT β):AH s (.agg cs) h k=E1 s (.row cs false) (.ptr (.own s) 0) h k:=by
 show Zl cs _=_
 rw [Ha]
theorem hZ {x:IV} (hx:x.one=true) (s:Nat) (h:Hp) (k:KT β):AH s x h k=E1 s (.row [x] false) (.ptr (.own s) 0) h k:=by unfold AH;rw [hx];rfl
theorem wS (k:IntKind) (n:Int):IV.one (.fv (.int k n))=true:=rfl
theorem j0 (b:Bool):IV.one (.fv (.bool b))=true:=rfl
theorem AbJ (l:List FV):IV.one (.fv (.sl l))=true:=rfl
theorem z7 (l:List FV) (o:Nat):IV.one (.fv (.fp l o))=true:=rfl
theorem gR (fn:Fn) (a b:List FV):IV.one (.fv (.func fn a b))=true:=rfl
theorem mD:IV.one (.fv .nilp)=true:=rfl
theorem gY:IV.one .nils=true:=rfl
theorem pW (r:Ref) (o:Nat):IV.one (.ptr r o)=true:=rfl
theorem u4 (r:Ref) (a b:Nat):IV.one (.slc r a b)=true:=rfl
theorem wU (r:Ref) (l:List FV):IV.one (.app r l)=true:=rfl
theorem kG (l:List FV):IV.one (.clip l)=true:=rfl
theorem sW:IV.one .emp=true:=rfl
theorem tM (l:List IV):IV.one (.agg l)=false:=rfl
theorem jJ (l:List FV):IV.one (.fv (.agg l))=false:=rfl
theorem qV (k:IntKind) (n:Int):Hb (.int k n)=true:=rfl
theorem lK (b:Bool):Hb (.bool b)=true:=rfl
theorem yF (l:List FV):Hb (.sl l)=true:=rfl
theorem AaQ (l:List FV) (o:Nat):Hb (.fp l o)=true:=rfl
theorem kB:Hb .nilp=true:=rfl
theorem qU (l:List FV):Hb (.agg l)=false:=rfl
theorem kV:D5 []=true:=rfl
theorem Q0 {v:FV} (h:Hb v=true) (l:List FV):D5 (v::l)=D5 l:=by
 show cond (Hb v) (D5 l) false=_
 rw [h];rfl
theorem Pg (r:Ref) (o:Nat) (k:Ref->Nat->Option β) (kf:List FV->Nat->Option β):EL (.ptr r o) k kf=k r o:=rfl
theorem Aem (cs:List FV) (o:Nat) (k:Ref->Nat->Option β) (kf:List FV->Nat->Option β):EL (.fv (.fp cs o)) k kf=kf cs o:=rfl
theorem Hn (cs:List IV) (ro:Bool) (k:List IV->Option β):D4 (.row cs ro) k=k cs:=rfl
theorem W4 (cs:List IV) (k:List IV->Option β):GH (.row cs false) k=k cs:=rfl
theorem cO (v:FV) (e:Option β) (k:FV->Option β):Nj (.fv v) e k=k v:=rfl
theorem S6 (l:List IV) (e:Option β) (k:FV->Option β):Nj (.agg l) e k=e:=rfl
theorem vV (e:Option β) (k:FV->Option β):Nj .nils e k=e:=rfl
theorem qM (r:Ref) (o:Nat) (e:Option β) (k:FV->Option β):Nj (.ptr r o) e k=e:=rfl
theorem pY (r:Ref) (o:List FV) (e:Option β) (k:FV->Option β):Nj (.app r o) e k=e:=rfl
theorem uH (o:List FV) (e:Option β) (k:FV->Option β):Nj (.clip o) e k=e:=rfl
theorem tX (r:Ref) (a b:Nat) (e:Option β) (k:FV->Option β):Nj (.slc r a b) e k=e:=rfl
theorem rL (e:Option β) (k:FV->Option β):Nj .emp e k=e:=rfl
theorem uD (cs:List FV) (k:List FV->Option β):GV (.agg cs) k=k cs:=rfl
theorem zP (cs:List IV) (k:List IV->Option β) (kf:List FV->Option β):asAgg (.agg cs) k kf=k cs:=rfl
theorem p7 (cs:List FV) (k:List IV->Option β) (kf:List FV->Option β):asAgg (.fv (.agg cs)) k kf=kf cs:=rfl
theorem iB (e:Option β) (k:List FV->Option β):CI [] e k=k []:=rfl
theorem vC (v:FV) (l:List IV) (e:Option β) (k:List FV->Option β):CI (.fv v::l) e k=CI l e fun vs=>k (v::vs):=rfl
theorem fQ (l:List IV) (e:Option β) (k:List FV->Option β):CI (.nils::l) e k=e:=rfl
theorem mF (r:Ref) (es:List FV) (l:List IV) (e:Option β) (k:List FV->Option β):CI (.app r es::l) e k=e:=rfl
theorem dU (es:List FV) (l:List IV) (e:Option β) (k:List FV->Option β):CI (.clip es::l) e k=e:=rfl
theorem lI (r:Ref) (o:Nat) (l:List IV) (e:Option β) (k:List FV->Option β):CI (.ptr r o::l) e k=e:=rfl
theorem mO (r:Ref) (a b:Nat) (l:List IV) (e:Option β) (k:List FV->Option β):CI (.slc r a b::l) e k=e:=rfl
theorem jV (es l:List IV) (e:Option β) (k:List FV->Option β):CI (.agg es::l) e k=e:=rfl
theorem Zm (r:Ref) (l:List IV) (e:Option β) (k:List FV->Option β):CI (.mapr r::l) e k=e:=rfl
theorem Aax (l:List IV) (k:IV->Option β):Nt l k=CI l (k (.agg l)) fun vs=>k (.fv (.agg vs)):=rfl
theorem Aao (l:List IV) (k:IV->Option β):TB l k=CI l (k (.tuple l)) fun vs=>k (.fv (.tuple vs)):=rfl
theorem AdA (a:IV) (h:Hp) (k:IV->List Ref->Option β):Ah a h k=EL a (fun r o=>Dr r h fun b=>D4 b fun cells=>DV cells o fun v=>k v [r]) fun cells o=>DV cells o fun v=>k (.fv v) []:=rfl
theorem Ael (size:Nat) (a:IV) (h:Hp) (k:IV->List Ref->Option β):Af size a h k =
  EL a (fun r o=>Dr r h fun b=>D4 b fun cells=>Fj cells o fun cs=>FH cs size fun cs=>Nt cs fun v=>k v [r]) fun cells o=>Fj cells o fun cs=>FH cs size fun cs=>k (.fv (.agg cs)) []:=rfl
theorem qH (size:Nat) (a:IV) (h:Hp) (k:IV->Option β):Ao true size a h k=Af size a h fun v _=>k v:=rfl
theorem qN (size:Nat) (a:IV) (h:Hp) (k:IV->Option β):Ao false size a h k=Ah a h fun v _=>k v:=rfl
theorem wr0 (l:List IV) (k:List IV->Option β):kO [] l k=k l:=rfl
theorem wr1 (c:FV) (cs:List FV) (x:IV) (l:List IV) (k:List IV->Option β):kO (c::cs) (x::l) k=kO cs l fun t=>k (.fv c::t):=rfl
theorem sf0 (x:IV) (l:List IV) (cs:List FV) (k:List IV->Option β):Ef (x::l) 0 cs k=kO cs (x::l) k:=rfl
theorem sf1 (x:IV) (l:List IV) (cs:List FV) (k:List IV->Option β):Ef (x::l) 1 cs k=Ef l 0 cs fun t=>k (x::t):=rfl
theorem sf2 (x y:IV) (l:List IV) (cs:List FV) (k:List IV->Option β):Ef (x::y::l) 2 cs k=Ef l 0 cs fun t=>k (x::y::t):=rfl
theorem sf3 (x y z:IV) (l:List IV) (cs:List FV) (k:List IV->Option β):Ef (x::y::z::l) 3 cs k=Ef l 0 cs fun t=>k (x::y::z::t):=rfl
theorem sf4 (x y z u:IV) (l:List IV) (cs:List FV) (k:List IV->Option β):Ef (x::y::z::u::l) 4 cs k=Ef l 0 cs fun t=>k (x::y::z::u::t):=rfl
theorem of0 (x b:IV) (l:List IV) (k:List IV->Option β):GA (x::l) 0 b k=k (b::l):=rfl
theorem of1 (x y b:IV) (l:List IV) (k:List IV->Option β):GA (x::y::l) 1 b k=k (x::b::l):=rfl
theorem of2 (x y z b:IV) (l:List IV) (k:List IV->Option β):GA (x::y::z::l) 2 b k=k (x::y::b::l):=rfl
theorem of3 (x y z u b:IV) (l:List IV) (k:List IV->Option β):GA (x::y::z::u::l) 3 b k=k (x::y::z::b::l):=rfl
theorem of6 (x y z u v w s b:IV) (l:List IV) (k:List IV->Option β):GA (x::y::z::u::v::w::s::l) 6 b k=k (x::y::z::u::v::w::b::l):=rfl
theorem Aeb (size:Nat) (a:IV) (cs:List FV) (h:Hp) (k:Hp->List Ref->List Ref->Option β):Ac size a (.fv (.agg cs)) h k =
  EL a (fun r o=>Dr r h fun b=>GH b fun cells=>cond (and (Nat.beq cs.length size) (D5 cs)) (Ef cells o cs fun cells=>FJ r (.row cells false) h fun h=>k h [r] [r]) none) fun _ _=>none:=rfl
theorem dW (s:Nat) (x:IV):Fp (.own s) x=true:=rfl
theorem AdP (s:Nat) (a b c:IV) (ha:a.one=true) (hb:b.one=true) (hc:c.one=true) (own:List (Nat×Blk)) (ext:List Blk) (k:Hp->List Ref->List Ref->Option β) :
  Ac 3 (.ptr (.own s) 0) (.agg [a,b,c]) ⟨own,ext⟩ k=EW own s fun bl=>GH bl fun cells=>cond (Nat.ble 3 cells.length) (FJ (.own s) (.row (Bk cells 0 [a,b,c]) false) ⟨own,ext⟩ fun h=>k h [.own s] [.own s]) none:=by
 show EW own s (fun bl=>GH bl fun cells=>if IV.alive (.agg [a,b,c])=true/\(IV.cells (.agg [a,b,c])).length=3/\0+3<=cells.length/\(IV.cells (.agg [a,b,c])).all IV.one=true/\Fp (.own s) (.agg [a,b,c])=true then
  Zl (Bk cells 0 (IV.cells (.agg [a,b,c]))) fun cells=>FJ (.own s) (.row cells false) ⟨own,ext⟩ fun h=>k h [.own s] [.own s] else none)=_
 congr 1
 funext bl
 congr 1
 funext cells
 by_cases h3:3<=cells.length
 ·rw [if_pos ⟨rfl,rfl,by omega,by simp [IV.cells,ha,hb,hc],rfl⟩,Ha,Bq,decide_eq_true h3];rfl
 ·rw [if_neg (fun h=>h3 (by omega)),Bq,decide_eq_false h3];rfl
theorem sc3 (a b c x y z:IV):Bk [x,y,z] 0 [a,b,c]=[a,b,c]:=rfl
theorem Aec (a x:IV) (h:Hp) (k:Hp->List Ref->List Ref->Option β):BN a x h k =
  cond x.one (EL a (fun r o=>Dr r h fun b=>GH b fun cells=>cond (Fp r x) (GA cells o x fun cells=>FJ r (.row cells false) h fun h=>k h [r] [r]) none) fun _ _=>none) (Ac 1 a x h k):=rfl
theorem Ad9 (o:Nat) (r:Ref) (k:IV->Option β):Ab o (.ptr r 0) k=k (.ptr r o):=by rw [mT,Nat.zero_add]
theorem Aby (o:Nat) (cs:List FV) (k:IV->Option β):Ab o (.fv (.fp cs 0)) k=k (.fv (.fp cs o)):=by rw [Ov,Nat.zero_add]
theorem yP (r:Ref) (o:Nat) (k:IV->Option β):AL (.ptr r o) k=k (.ptr r o):=rfl
theorem AaF (cs:List FV) (o:Nat) (k:IV->Option β):AL (.fv (.fp cs o)) k=k (.fv (.fp cs o)):=rfl
theorem aM (g:FuncId) (a b:List FV) (k:IV->Option β):AL (.fv (.func (.func g) a b)) k=k (.fv (.func (.func g) a b)):=rfl
theorem Aeg (ix:Nat) (vs:List IV) (k:IV->Option β):Ap ix (.tuple vs) k=DV vs ix k:=rfl
theorem AdX (ix:Nat) (vs:List FV) (k:IV->Option β):Ap ix (.fv (.tuple vs)) k=DV vs ix fun v=>k (.fv v):=rfl
theorem Acw (o:Nat) (x:IV) (k:IV->Option β):rE o x k=asAgg x (fun cs=>DV cs o k) fun cs=>DV cs o fun v=>k (.fv v):=rfl
theorem AeQ (size o:Nat) (x:IV) (k:IV->Option β):sN size o x k=asAgg x (fun cs=>Fj cs o fun cs=>FH cs size fun cs=>Nt cs k) fun cs=>Fj cs o fun cs=>FH cs size fun cs=>k (.fv (.agg cs)):=rfl
theorem zS (z:List IV) (pl:List (Nat×Nat×IV)) (k:IV->Option β):A9 z pl k=MA z pl fun cells=>Nt cells k:=rfl
theorem fk0 (z:List IV) (k:List IV->Option β):MA z [] k=k z:=rfl
theorem fk1 (z:List IV) (o sz:Nat) (v:IV) (pl:List (Nat×Nat×IV)) (k:List IV->Option β):MA z ((o,sz,v)::pl) k=G4 z o sz v fun z=>MA z pl k:=rfl
theorem wL {v:IV} (hv:v.one=true) (z:List IV) (o:Nat) (k:List IV->Option β):G4 z o 1 v k=GA z o v k:=by
 unfold G4;cases v with
 | fv w =>
  show cond (Hb w) _ _=_
  have:Hb w=true:=by cases w<;>first | rfl | cases hv
  rw [this];rfl
 | _=>show VX _ _ _ _ _=_;unfold VX;rw [hv];rfl
theorem sS (z:List IV) (o sz:Nat) (cs:List FV) (k:List IV->Option β):G4 z o sz (.fv (.agg cs)) k=cond (Nat.beq cs.length sz) (Ef z o cs k) none:=rfl
theorem nb3 (a b c:FV):Nat.beq [a,b,c].length 3=true:=rfl
theorem nb4 (a b c d:FV):Nat.beq [a,b,c,d].length 4=true:=rfl
theorem nb7 (a b c d e f g:FV):Nat.beq [a,b,c,d,e,f,g].length 7=true:=rfl
theorem nl3 (a b c:IV):Nat.ble 3 [a,b,c].length=true:=rfl
theorem w8:(and true true)=true:=rfl
end
section
variable {β:Type} {E:Env} {t:TypeId}
theorem TV (n:Int):IV.fv (.int .i64 n)=iv n:=rfl
def BF (n:Int):Int:=IntKind.i64.wrap n
theorem Az {n:Int} (h1:-9223372036854775808<=n) (h2:n<=9223372036854775807):BF n=n:=by
 show (if (true && decide ((n % (18446744073709551616:Int)) ≥ (9223372036854775808:Int)))=true then (n % (18446744073709551616:Int)) - (18446744073709551616:Int) else (n % (18446744073709551616:Int)))=n
 by_cases h:0<=n
 ·have e:n % (18446744073709551616:Int)=n:=by omega
  have e2:¬ n ≥ (9223372036854775808:Int):=by omega
  rw [e,decide_eq_false e2];rfl
 ·have e:n % (18446744073709551616:Int)=n+18446744073709551616:=by omega
  have e2:n+18446744073709551616 ≥ (9223372036854775808:Int):=by omega
  rw [e,decide_eq_true e2];simp
theorem AaE (a b:Int) (k:IV->Option β):Bv E t (iv a) (iv b) k=k (iv (BF (a+b))):=by
 have hg:CZ E t .add (iv a) (iv b) k=k (iv (BF (a+b))):=by rw [CZ,CM];rfl
 cases a with
 | negSucc a=>exact hg
 | ofNat a=>cases b with
  | negSucc b=>exact hg
  | ofNat b =>
   show cond (Nat.ble (a+b) 9223372036854775807) (Mo (a+b) k) _=_
   rw [Bq];by_cases h:a+b<=9223372036854775807
   ·rw [decide_eq_true h]
    show Mo (a+b) k=_
    rw [DP]
    have:BF (Int.ofNat a+Int.ofNat b)=((a+b:Nat):Int):=by rw [Az (by simp only [Int.ofNat_eq_natCast];omega) (by simp only [Int.ofNat_eq_natCast];omega)];simp only [Int.ofNat_eq_natCast];omega
    rw [this]
   ·rw [decide_eq_false h];exact hg
theorem Abe (a b:Int) (k:IV->Option β):Bn E t (iv a) (iv b) k=k (iv (BF (a - b))):=by
 have hg:CZ E t .sub (iv a) (iv b) k=k (iv (BF (a - b))):=by rw [CZ,CM];rfl
 cases a with
 | negSucc a=>exact hg
 | ofNat a=>cases b with
  | negSucc b=>exact hg
  | ofNat b =>
   show cond (and (Nat.ble b a) (Nat.ble a 9223372036854775807)) (Mo (a - b) k) _=_
   rw [Bq,Bq];by_cases h:b<=a/\a<=9223372036854775807
   ·rw [decide_eq_true h.1,decide_eq_true h.2]
    show Mo (a - b) k=_
    rw [DP]
    have:BF (Int.ofNat a - Int.ofNat b)=((a - b:Nat):Int):=by rw [Az (by simp only [Int.ofNat_eq_natCast];omega) (by simp only [Int.ofNat_eq_natCast];omega)];simp only [Int.ofNat_eq_natCast];omega
    rw [this]
   ·have:(decide (b<=a) && decide (a<=9223372036854775807))=false:=by
     rw [<- Bool.decide_and];exact decide_eq_false h
    rw [show and (decide (b<=a)) (decide (a<=9223372036854775807))=false from this]
    exact hg
theorem zT (a b:Int) (k:IV->Option β):CZ E t .mul (iv a) (iv b) k=k (iv (BF (a * b))):=by rw [CZ,CM];rfl
theorem cY {b:Int} (hb:b≠0) (a:Int) (k:IV->Option β):CZ E t .quo (iv a) (iv b) k=k (iv (BF (a.tdiv b))):=by
 rw [CZ,CM]
 have:EQ E .quo t (iv a) (iv b)=some (iv (BF (a.tdiv b))):=by
  show (GO (Op.intDiv .quo .i64 a b)).bind IN=_
  simp only [Op.intDiv,hb,if_false];rfl
 rw [this];rfl
theorem NW {b:Int} (hb:b≠0) (a:Int) (k:IV->Option β):CZ E t .rem (iv a) (iv b) k=k (iv (a.tmod b)):=by
 rw [CZ,CM]
 have:EQ E .rem t (iv a) (iv b)=some (iv (a.tmod b)):=by
  show (GO (Op.intDiv .rem .i64 a b)).bind IN=_
  simp only [Op.intDiv,hb,if_false];rfl
 rw [this];rfl
theorem Aep (a b:Int) (k:IV->Option β):AP E t (iv a) (iv b) k=k (.fv (.bool (decide (a=b)))):=AaW a b k
theorem Aer (a b:Int) (k:IV->Option β):BM E t (iv a) (iv b) k=k (.fv (.bool (!decide (a=b)))):=AbE a b k
theorem AcH (a b:Int) (k:IV->Option β):FG E t (iv a) (iv b) k=k (.fv (.bool (decide (a<b)))):=yL a b k
theorem Ado (a b:Int) (k:IV->Option β):Xc E t (iv a) (iv b) k=k (.fv (.bool (decide (a<=b)))):=Aa6 a b k
theorem Afo (a b:Int) (k:IV->Option β):Ka E t (iv a) (iv b) k=k (.fv (.bool (decide (b<a)))):=by
 rw [Ka,KJ (fun a b=>by
  show some (IV.fv (.bool (decide ((a:Int) > (b:Int)))))=_
  rw [Bq];congr 3;exact decide_eq_decide.2 (by omega))]
 rfl
theorem Aej (a b:Int) (k:IV->Option β):PY E t (iv a) (iv b) k=k (.fv (.bool (decide (b<=a)))):=by
 rw [PY,KJ (fun a b=>by
  show some (IV.fv (.bool (decide ((a:Int) ≥ (b:Int)))))=_
  rw [Bq];congr 3;exact decide_eq_decide.2 (by omega))]
 rfl
theorem Aab (a b:Bool) (hT:E.T t=some ⟨1,1,.bool,[.fv (.bool false)]⟩) (k:IV->Option β):AP E t (.fv (.bool a)) (.fv (.bool b)) k=k (.fv (.bool (a == b))):=by
 show CZ E t .eql _ _ k=_
 rw [CZ,CM]
 have:EQ E .eql t (.fv (.bool a)) (.fv (.bool b))=some (.fv (.bool (a == b))):=by simp only [EQ,hT,OB]
 rw [this];rfl
theorem y6 (b:Bool) (k:IV->Option β):CY (Kb .not (.fv (.bool b))) k=k (.fv (.bool !b)):=AaY b k
theorem AeS (a b:Option β):Aj (.fv (.bool true)) a b=a:=rfl
theorem AeK (a b:Option β):Aj (.fv (.bool false)) a b=b:=rfl
theorem Afi (c:Prop) [Decidable c] (a b:Option β):Aj (.fv (.bool (decide c))) a b=if c then a else b:=xC c a b
theorem Afp (c:Prop) [Decidable c] (a b:Option β):Aj (.fv (.bool (!decide c))) a b=if c then b else a:=by
 by_cases h:c
 ·rw [decide_eq_true h,if_pos h];rfl
 ·rw [decide_eq_false h,if_neg h];rfl
theorem AeF (c:Bool) (a b:Option β):Aj (.fv (.bool c)) a b=if c=true then a else b:=by cases c<;>rfl
theorem Acu (c a b:IV) (k:IV->Option β):AG c a b k=Aj c (k a) (k b):=rfl
theorem Abl {b:Bool} (hb:b=true) (h:Hp) (m:(KT β)->Option β) (k:KT β):Ae (.fv (.bool b)) true h m k=m k:=by rw [hb];rfl
theorem AaJ {b:Bool} (hb:b=false) (h:Hp) (m:(KT β)->Option β) (k:KT β):Ae (.fv (.bool b)) false h m k=m k:=by rw [hb];rfl
theorem xY {b:Bool} (hb:b=true) (h:Hp) (m:(KT β)->Option β) (k:KT β):Ae (.fv (.bool b)) false h m k=k Fw h [] []:=by rw [hb];rfl
theorem AbH {b:Bool} (hb:b=false) (h:Hp) (m:(KT β)->Option β) (k:KT β):Ae (.fv (.bool b)) true h m k=k Fw h [] []:=by rw [hb];rfl
theorem Acj (w:Bool) (h:Hp) (m:(KT β)->Option β) (k:KT β):Ae Fw w h m k=k Fw h [] []:=rfl
theorem ch0 (rd wr:List Ref) (a:Option β):Aa [] rd wr a=a:=rfl
theorem ch1 (q1 q2:List Ref) (l:List (List Ref×List Ref)) (rd wr:List Ref) (a:Option β):Aa ((q1,q2)::l) rd wr a=cond (Sv q2 rd) (cond (Sv q2 wr) (cond (Sv wr q1) (Aa l rd wr a) none) none) none:=rfl
theorem dj0 (b:List Ref):Sv [] b=true:=rfl
theorem djn:∀(a:List Ref),Sv a []=true
 | []=>rfl
 | _::a=>djn a
theorem dj1 (r:Ref) (a b:List Ref):Sv (r::a) b=cond (JA r b) (Sv a b) false:=rfl
theorem an0 (r:Ref):JA r []=true:=rfl
theorem an1 (r s:Ref) (l:List Ref):JA r (s::l)=cond (K5 r s) (JA r l) false:=rfl
theorem Aco {i j:Nat} (h:(i == j)=false):K5 (.own i) (.own j)=true:=by
 show not (Nat.beq i j)=true
 rw [show Nat.beq i j=false from nL h];rfl
theorem AaM (i j:Nat):K5 (.own i) (.ext j)=true:=rfl
theorem AaP (i j:Nat):K5 (.ext i) (.own j)=true:=rfl
theorem Aei (v:IV) (h:Hp):Ak [v] h=some (v,h):=rfl
theorem Aeo (h:Hp):Ak [] h=some (.fv (.tuple []),h):=rfl
theorem Aey (a b:IV) (h:Hp):Ak [a,b] h=TB [a,b] fun v=>some (v,h):=rfl
theorem Aef (a b c:IV) (h:Hp):Ak [a,b,c] h=TB [a,b,c] fun v=>some (v,h):=rfl
theorem Acx (a b c d:IV) (h:Hp):Ak [a,b,c,d] h=TB [a,b,c,d] fun v=>some (v,h):=rfl
theorem zR (es:List FV) (k:IV->Option β):BH (.fv (.sl es)) k=k (iv es.length):=DP ..
theorem Aar (k:IV->Option β):BH .nils k=k (iv 0):=rfl
theorem Aa5 (es:List FV) (k:IV->Option β):BH (.clip es) k=k (iv es.length):=DP ..
theorem y9 (r:Ref) (es:List FV) (k:IV->Option β):BH (.app r es) k=k (iv es.length):=DP ..
theorem zW (r:Ref) (sz n:Nat) (k:IV->Option β):BH (.slc r sz n) k=k (iv n):=DP ..
theorem Br {size:Nat} {es:List FV} {n:Nat} {el:FV} (he:es[n]?=some el) (hl:el.cells.length=size) (k:IV->Option β):AR size (.fv (.sl es)) (iv n) k=k (.fv (.fp el.cells 0)):=rT he hl k
theorem Ae8 {size:Nat} {r:Ref} {es:List FV} {n:Nat} {el:FV} (he:es[n]?=some el) (hl:el.cells.length=size) (k:IV->Option β):AR size (.app r es) (iv n) k=k (.fv (.fp el.cells 0)):=rT he hl k
theorem Ae3 {size:Nat} {es:List FV} {n:Nat} {el:FV} (he:es[n]?=some el) (hl:el.cells.length=size) (k:IV->Option β):AR size (.clip es) (iv n) k=k (.fv (.fp el.cells 0)):=rT he hl k
theorem Ac4 {size sz len:Nat} {r:Ref} {n:Nat} (hn:n<len) (hs:sz=size) (k:IV->Option β):AR size (.slc r sz len) (iv n) k=k (.ptr r (n * sz)):=by
 show cond (and (Nat.ble (Nat.succ n) len) (Nat.beq sz size)) (Eb (n * sz) fun o=>k (.ptr r o)) none=_
 rw [Bq,decide_eq_true (show Nat.succ n<=len from hn),hs,show Nat.beq size size=true from Nat.beq_refl size]
 simp only [Bool.and_self,cond_true];rw [Ca]
theorem kZ (size:Nat) (cs:List FV) (es:List FV) (hl:cs.length=size) (k:IV->Option β):AR size (.fv (.sl (.agg cs::es))) (iv 0) k=k (.fv (.fp cs 0)):=Br (el:=.agg cs) (n:=0) rfl hl k
theorem kM (size:Nat) (cs:List FV) (e:FV) (es:List FV) (hl:cs.length=size) (k:IV->Option β):AR size (.fv (.sl (e :: .agg cs::es))) (iv 1) k=k (.fv (.fp cs 0)):=Br (el:=.agg cs) (n:=1) rfl hl k
theorem kL (size:Nat) (cs:List FV) (e e':FV) (es:List FV) (hl:cs.length=size) (k:IV->Option β):AR size (.fv (.sl (e::e' :: .agg cs::es))) (iv 2) k=k (.fv (.fp cs 0)):=Br (el:=.agg cs) (n:=2) rfl hl k
theorem i2 (size:Nat) (cs:List FV) (e e' e'':FV) (es:List FV) (hl:cs.length=size) (k:IV->Option β):AR size (.fv (.sl (e::e'::e'' :: .agg cs::es))) (iv 3) k=k (.fv (.fp cs 0)):=Br (el:=.agg cs) (n:=3) rfl hl k
def Fz (v:IV) (own:List (Nat×Blk)) (w:FV):Prop:=∃u lg,∀(e:Option (IV×Hp)) (K:FV->List (Ref×Blk)->List Ref->Option (IV×Hp)),DB 12 v ⟨own,[]⟩ [] e K=K w u lg
def BC (r:Option (IV×Hp)) (w:FV):Prop:=∃v own,r=some (v,⟨own,[]⟩) /\
 (Fz v own w\/((∀(e:Option (IV×Hp)) (K:FV->List (Ref×Blk)->List Ref->Option (IV×Hp)),DB 12 v ⟨own,[]⟩ [] e K=e)/\∃u,(Db 4096 v).run ⟨own,[]⟩=some (w,u)))
def Iy (r:Option (IV×Hp)) (w:FV):Prop:=∃v own,r=some (v,⟨own,[]⟩)/\Fz v own w
theorem pD (w:FV) (own:List (Nat×Blk)):Fz (.fv w) own w:=⟨[],[],fun _ _=>rfl⟩
theorem Ay (w:FV) (own:List (Nat×Blk)):BC (some (.fv w,⟨own,[]⟩)) w:=⟨_,own,rfl,.inl (pD w own)⟩
def FI:IV->Option FV
 | .fv v=>some v
 | .nils=>some (.sl [])
 | .emp=>some (.sl [])
 | .clip es=>some (.sl es)
 | .app _ es=>some (.sl es)
 | _=>none
def Du:List IV->Option (List FV)
 | []=>some []
 | v::l=>(FI v).bind fun x=>(Du l).map fun xs=>x::xs
def Bg (v:IV):Option FV:=match v with
 | .agg cs=>if cs.length<=8 then (Du cs).map .agg else none
 | v=>FI v
def Bx:List IV->Option (List FV)
 | []=>some []
 | v::l=>(Bg v).bind fun x=>(Bx l).map fun xs=>x::xs
theorem AaB (v:FV):Bg (.fv v)=some v:=rfl
theorem iQ:Bg .nils=some (.sl []):=rfl
theorem qO:Bg .emp=some (.sl []):=rfl
theorem lE (es:List FV):Bg (.clip es)=some (.sl es):=rfl
theorem w9 (r:Ref) (es:List FV):Bg (.app r es)=some (.sl es):=rfl
theorem z5 (v:FV):FI (.fv v)=some v:=rfl
theorem gZ:FI .nils=some (.sl []):=rfl
theorem sU:FI .emp=some (.sl []):=rfl
theorem kI (es:List FV):FI (.clip es)=some (.sl es):=rfl
theorem vZ (r:Ref) (es:List FV):FI (.app r es)=some (.sl es):=rfl
theorem AcB {a b c:IV} {x y z:FV} (ha:FI a=some x) (hb:FI b=some y) (hc:FI c=some z):Bg (.agg [a,b,c])=some (.agg [x,y,z]):=by
 show (if 3<=8 then (Du [a,b,c]).map FV.agg else none)=_
 simp [Du,ha,hb,hc]
theorem Ae0 {a b c d:IV} {x y z u:FV} (ha:FI a=some x) (hb:FI b=some y) (hc:FI c=some z) (hd:FI d=some u):Bg (.agg [a,b,c,d])=some (.agg [x,y,z,u]):=by
 show (if 4<=8 then (Du [a,b,c,d]).map FV.agg else none)=_
 simp [Du,ha,hb,hc,hd]
theorem oO {v:IV} {x:FV} (d:Nat) (h:Hp) (lg:List Ref) (e:Option β) (k:FV->List (Ref×Blk)->List Ref->Option β) (hz:FI v=some x):DB (d+1) v h lg e k=k x [] lg:=by cases v<;>first | (cases hz;rfl) | (cases hz)
theorem Vn (d:Nat) (h:Hp) (lg:List Ref) (e:Option β):∀(cs:List IV) (k:List FV->List (Ref×Blk)->List Ref->Option β) {xs:List FV},Du cs=some xs->CP (DB (d+1)) cs h lg e k=k xs [] lg
 | [],k,xs,hz=>by cases hz;rfl
 | v::cs,k,xs,hz=>by
  simp only [Du] at hz;cases h1:FI v with
  | none=>rw [h1] at hz;cases hz
  | some x =>
   rw [h1] at hz;cases h2:Du cs with
   | none=>rw [h2] at hz;cases hz
   | some ys =>
    rw [h2] at hz;cases hz
    show DB (d+1) v h lg e (fun y u lg=>CP (DB (d+1)) cs h lg e fun ys us lg=>K8 u us fun w=>k (y::ys) w lg)=_
    rw [oO d h lg e _ h1,Vn d h lg e cs _ h2];rfl
theorem G6 {v:IV} {x:FV} (h:Hp) (lg:List Ref) (e:Option β) (k:FV->List (Ref×Blk)->List Ref->Option β) (hz:Bg v=some x):DB 12 v h lg e k=k x [] lg:=by
 cases v with
 | agg cs =>
  simp only [Bg] at hz;split at hz
  ·rename_i hl;cases h2:Du cs with
   | none=>rw [h2] at hz;cases hz
   | some ys =>
    rw [h2] at hz;cases hz
    show cond (Nat.ble cs.length 300) (CP (DB 11) cs h lg e fun cs u lg=>k (.agg cs) u lg) e=_
    rw [Bq,decide_eq_true (show cs.length<=300 by omega)]
    exact Vn 10 h lg e cs _ h2
  ·cases hz
 | _=>exact oO 11 h lg e k hz
theorem Afr {v:IV} {x:FV} (hz:Bg v=some x) (own:List (Nat×Blk)):Fz v own x:=⟨[],[],fun e K=>G6 _ _ e K hz⟩
theorem Bp {v:IV} {x:FV} (hz:Bg v=some x) (own:List (Nat×Blk)):BC (some (v,⟨own,[]⟩)) x:=⟨v,own,rfl,.inl (Afr hz own)⟩
theorem fr1 {v:IV} {x:FV} (n:Nat) (hz:FI v=some x):Db (n+1) v=.ret (x,[]):=by cases v<;>first | (cases hz;rfl) | (cases hz)
theorem Uz:∀(cs:List IV) (n:Nat) {xs:List FV},cs.length+1<n->Du cs=some xs->frzL n cs=.ret (xs,[])
 | [],n+1,xs,_,hz=>by cases hz;rfl
 | v::cs,n+2,xs,hn,hz=>by
  simp only [Du] at hz;cases h1:FI v with
  | none=>rw [h1] at hz;cases hz
  | some x =>
   rw [h1] at hz;cases h2:Du cs with
   | none=>rw [h2] at hz;cases hz
   | some ys =>rw [h2] at hz;cases hz;simp only [Ah3] at hn;simp only [frzL,fr1 n h1,Rd.bind,Uz cs (n+1) (by omega) h2];rfl
theorem frp {v:IV} {x:FV} (n:Nat) (hn:20<n) (hz:Bg v=some x):Db n v=.ret (x,[]):=by
 cases n with
 | zero=>omega
 | succ n =>
  cases v with
  | agg cs =>
   simp only [Bg] at hz;split at hz
   ·rename_i hl;cases h2:Du cs with
    | none=>rw [h2] at hz;cases hz
    | some ys =>rw [h2] at hz;cases hz;simp only [Db,Uz cs n (by omega) h2,Rd.bind]
   ·cases hz
  | _=>exact fr1 n hz
theorem pJ:∀(cs:List IV) (n:Nat) {xs:List FV},cs.length+30<n->Bx cs=some xs->frzL n cs=.ret (xs,[])
 | [],n+1,xs,_,hz=>by cases hz;rfl
 | v::cs,n+1,xs,hn,hz=>by
  simp only [Bx] at hz;cases h1:Bg v with
  | none=>rw [h1] at hz;cases hz
  | some x =>
   rw [h1] at hz;cases h2:Bx cs with
   | none=>rw [h2] at hz;cases hz
   | some ys =>rw [h2] at hz;cases hz;simp only [Ah3] at hn;simp only [frzL,frp n (by omega) h1,Rd.bind,pJ cs n (by omega) h2];rfl
theorem QS {vs:List IV} {xs:List FV} (hz:Bx vs=some xs) (hl:vs.length<=100) (own:List (Nat×Blk)):BC (some (.tuple vs,⟨own,[]⟩)) (.tuple xs) :=
 ⟨_,own,rfl,.inr ⟨fun _ _=>rfl,[],by
  show (Db (4095+1) (.tuple vs)).run _=_
  simp only [Db,pJ vs 4095 (by omega) hz,Rd.bind];rfl⟩⟩
theorem v6:Bx []=some []:=rfl
theorem SW {a b:IV} {x y:FV} (ha:Bg a=some x) (hb:Bg b=some y):Bx [a,b]=some [x,y]:=by simp [Bx,ha,hb]
theorem YN {a b c:IV} {x y z:FV} (ha:Bg a=some x) (hb:Bg b=some y) (hc:Bg c=some z):Bx [a,b,c]=some [x,y,z]:=by simp [Bx,ha,hb,hc]
theorem y8 {a b c d:IV} {x y z u:FV} (ha:Bg a=some x) (hb:Bg b=some y) (hc:Bg c=some z) (hd:Bg d=some u):Bx [a,b,c,d]=some [x,y,z,u]:=by simp [Bx,ha,hb,hc,hd]
theorem Tn {a:IV} {x:FV} (ha:Bg a=some x):Bx [a]=some [x]:=by simp [Bx,ha]
theorem Hm:∀(args:List IV) {vs:List FV},Bx args=some vs->BA [] args=.ret (vs.map .fv,[],[])
 | [],vs,hz=>by cases hz;rfl
 | v::l,vs,hz=>by
  simp only [Bx] at hz;cases h1:Bg v with
  | none=>rw [h1] at hz;cases hz
  | some x =>
   rw [h1] at hz;cases h2:Bx l with
   | none=>rw [h2] at hz;cases hz
   | some ys =>rw [h2] at hz;cases hz;simp only [BA,frp 4096 (by omega) h1,Rd.bind,Hm l h2];rfl
theorem rJ (keep:List Bool) (h:Hp) (lg:List Ref) (e:Option β) (k:List IV->List Ref->List (Ref×Blk)->List Ref->Option β):So [] keep h lg e k=k [] [] [] lg:=rfl
theorem rX (x:IV) (l:List IV) (h:Hp) (lg:List Ref) (e:Option β) (k:List IV->List Ref->List (Ref×Blk)->List Ref->Option β) :
  So (x::l) [] h lg e k=DB 12 x h lg e fun y u lg=>So l [] h lg e fun vs rs us lg=>K8 u us fun w=>k (.fv y::vs) rs w lg:=rfl
theorem TN (x:IV) (l:List IV) (ks:List Bool) (h:Hp) (lg:List Ref) (e:Option β) (k:List IV->List Ref->List (Ref×Blk)->List Ref->Option β) :
  So (x::l) (true::ks) h lg e k=EL x (fun r o=>So l ks h lg e fun vs rs us lg=>k (.ptr r o::vs) (r::rs) us lg) fun _ _=>e:=rfl
theorem PL (x:IV) (l:List IV) (ks:List Bool) (h:Hp) (lg:List Ref) (e:Option β) (k:List IV->List Ref->List (Ref×Blk)->List Ref->Option β) :
  So (x::l) (false::ks) h lg e k=DB 12 x h lg e fun y u lg=>So l ks h lg e fun vs rs us lg=>K8 u us fun w=>k (.fv y::vs) rs w lg:=rfl
section
variable (d:Nat) (h:Hp) (lg:List Ref) (e:Option β) (k:FV->List (Ref×Blk)->List Ref->Option β)
theorem ZT (cs:List IV):DB 12 (.agg cs) h lg e k=cond (Nat.ble cs.length 300) (CP (DB 11) cs h lg e fun cs u lg=>k (.agg cs) u lg) e:=rfl
theorem SE (s:Nat) (off:Nat):DB 12 (.ptr (.own s) off) h lg e k=Dr (.own s) h fun b=>D4 b fun cells=>cond (Nat.ble cells.length 300) (CP (DB 11) cells h (.own s::lg) e fun cs u lg=>k (.fp cs off) ((.own s,.row cells true)::u) lg) e:=rfl
theorem Ir (v:FV):DB 11 (.fv v) h lg e k=k v [] lg:=rfl
theorem v8 (g:qP β) (k:List FV->List (Ref×Blk)->List Ref->Option β):CP g [] h lg e k=k [] [] lg:=rfl
theorem Su (g:qP β) (x:IV) (l:List IV) (k:List FV->List (Ref×Blk)->List Ref->Option β):CP g (x::l) h lg e k=g x h lg e fun y u lg=>CP g l h lg e fun ys us lg=>K8 u us fun w=>k (y::ys) w lg:=rfl
end
def Qj (rs:List Ref) (r:Option (IV×Hp)) (h:Hp) (u:List (Ref×Blk)) (lg:List Ref) (e:Option (IV×Hp)) (g:List Ref->Option (IV×Hp)) (k:KT (IV×Hp)):Option (IV×Hp):=match rs with
 | []=>(match r with
  | none=>none
  | some p=>match p with
   | (v,h')=>match h' with
    | ⟨own,ext⟩=>List.casesOn (motive:=fun _=>Option (IV×Hp)) ext (DB 12 v ⟨own,[]⟩ [] e fun w _ _=>Kq u h fun h2=>k (.fv w) h2 lg (Bz u)) fun _ _=>none)
 | r::rs=>g (r::rs)
theorem JJ (keep:List Bool) (ih:Ai) (f:FuncId) (args:List IV) (h:Hp) (k:KT (IV×Hp)):A5 keep false false ih f args h k =
  So args keep h [] (Ec keep false false ih f args h k) fun vs rs u lg=>Qj rs (ih f vs ⟨[],[]⟩) h u lg (Ec keep false false ih f args h k) (fun rs=>match rs with
   | []=>none
   | r::rs=>(match h with
    | ⟨own,ext⟩=>cond (Nh 400 (r::rs) 0 ext) (match ih f vs ⟨[],ext⟩ with
     | none=>none
     | some p=>match p with
      | (v,h')=>match h' with
       | ⟨own',ext'⟩=>cond (and (Nat.beq ext'.length ext.length) (Yn ext.length ext'))
        (DB 12 v ⟨own',ext'⟩ [] (Ec keep false false ih f args h k) fun w _ _=>Kq u ⟨own,ext'⟩ fun h2=>k (.fv w) h2 ((C6 ext.length).reverse++lg) (Bz u++C6 ext.length)) none)
     (Ec keep false false ih f args h k))) k:=by
 unfold A5;simp only [cond_false];congr 1
theorem y4 {r:Option (IV×Hp)} {w:FV} (hr:Iy r w) (h:Hp) (u:List (Ref×Blk)) (lg:List Ref) (e:Option (IV×Hp)) (g:List Ref->Option (IV×Hp)) (k:KT (IV×Hp)) :
  Qj [] r h u lg e g k=Kq u h fun h2=>k (.fv w) h2 lg (Bz u):=by
 obtain ⟨v,own,rfl,u',lg',hz⟩:=hr;simp only [Qj];rw [hz]
theorem eI:∀(args:List IV) {vs:List FV} (h:Hp) (lg:List Ref) (e:Option β) (k:List IV->List Ref->List (Ref×Blk)->List Ref->Option β),Bx args=some vs->So args [] h lg e k=k (vs.map .fv) [] [] lg
 | [],vs,h,lg,e,k,hz=>by cases hz;rfl
 | v::l,vs,h,lg,e,k,hz=>by
  simp only [Bx] at hz;cases h1:Bg v with
  | none=>rw [h1] at hz;cases hz
  | some x =>
   rw [h1] at hz;cases h2:Bx l with
   | none=>rw [h2] at hz;cases hz
   | some ys =>
    rw [h2] at hz;cases hz
    show DB 12 v h lg e (fun y u lg=>So l [] h lg e fun vs rs us lg=>K8 u us fun w=>k (.fv y::vs) rs w lg)=_
    rw [G6 h lg e _ h1,eI l h lg e _ h2];rfl
theorem DJ (f:Ref->Option Ref):∀l:List FV,IV.ren.renL f (l.map .fv)=some (l.map .fv)
 | []=>rfl
 | v::l=>by
  simp only [Ah5,IV.ren.renL,IV.ren,DJ f l];rfl
theorem K2 {ih:Ai} {f:FuncId} {args:List IV} {vs:List FV} {w:FV} (hz:Bx args=some vs) (hr:BC (ih f (vs.map .fv) ⟨[],[]⟩) w) (h:Hp) (k:KT (IV×Hp)) :
  A5 [] false false ih f args h k=k (.fv w) h [] []:=by
 obtain ⟨v,own,e,hv⟩:=hr;have hD:(∃u,(Db 4096 v).run ⟨own,[]⟩=some (w,u))->Ec [] false false ih f args h k=k (.fv w) h [] []:=by
  rintro ⟨u,hu⟩;unfold Ec;simp only [Hm args hz,Rd.runLog,B6,DJ,Ah4,Bi,CX (Cm 3),CX CB,Ep,Bool.false_eq_true,if_false,e,hu,Ah2,IV.ren]
  show (match laid h ([]++(Bz []).zip []) with | none=>none | some h'=>fH h' fun h'=>fV 3 (.fv w) fun res=>k res h' [] _)=_
  simp only [Bz,Ah4,List.zip_nil_left,List.append_nil,laid,Il,Cm]
 rw [JJ,eI args h [] _ _ hz,e];simp only [Qj];rcases hv with ⟨u',lg',hf⟩ | ⟨hf,hu⟩
 ·rw [hf];rfl
 ·rw [hf];exact hD hu
theorem EN {ih:Ai} {f:FuncId} {w:FV} (hr:BC (ih f [] ⟨[],[]⟩) w) (h:Hp) (k:KT (IV×Hp)) :
  A5 [] false false ih f [] h k=k (.fv w) h [] []:=K2 (vs:=[]) rfl hr h k
theorem Ar {ih:Ai} {f:FuncId} {a:IV} {x w:FV} (hr:BC (ih f [.fv x] ⟨[],[]⟩) w) (ha:Bg a=some x) (h:Hp) (k:KT (IV×Hp)) :
  A5 [] false false ih f [a] h k=k (.fv w) h [] []:=K2 (Tn ha) hr h k
theorem Ag {ih:Ai} {f:FuncId} {a b:IV} {x y w:FV} (hr:BC (ih f [.fv x,.fv y] ⟨[],[]⟩) w) (ha:Bg a=some x) (hb:Bg b=some y) (h:Hp) (k:KT (IV×Hp)) :
  A5 [] false false ih f [a,b] h k=k (.fv w) h [] []:=K2 (SW ha hb) hr h k
theorem Av {ih:Ai} {f:FuncId} {a b c:IV} {x y z w:FV} (hr:BC (ih f [.fv x,.fv y,.fv z] ⟨[],[]⟩) w) (ha:Bg a=some x) (hb:Bg b=some y) (hc:Bg c=some z) (h:Hp) (k:KT (IV×Hp)) :
  A5 [] false false ih f [a,b,c] h k=k (.fv w) h [] []:=K2 (YN ha hb hc) hr h k
theorem Au {ih:Ai} {f:FuncId} {a b c d:IV} {x y z u w:FV} (hr:BC (ih f [.fv x,.fv y,.fv z,.fv u] ⟨[],[]⟩) w) (ha:Bg a=some x) (hb:Bg b=some y) (hc:Bg c=some z) (hd:Bg d=some u) (h:Hp)
  (k:KT (IV×Hp)):A5 [] false false ih f [a,b,c,d] h k=k (.fv w) h [] []:=K2 (y8 ha hb hc hd) hr h k
theorem FZ (v:IV) (s:Nat) (h:Hp) (k:KT β):AA (.ret { eff:={ val:=v } }) s h k=k v h [] []:=by unfold AA;simp only [Rd.runLog,HI,Cm];rfl
theorem gen_val' (v:IV) (s:Nat) (h:Hp) (k:KT β):AA (Idl.val v) s h k=k v h [] []:=FZ v s h k
theorem Cx {e:TypeId} {a b:Nat} {ei:TI} {z:List IV} (hT:E.T t=some ⟨a,b,.slice e,z⟩) (he:E.T e=some ei) {len:Nat} (hs:¬ (ei.size=0\/len * ei.size > 65536)) {parts:List (Nat×IV)} {cells:List FV}
  (hf:CQ (fun j=>some (j * ei.size,ei.size)) (Nz len ei.zero) parts=some (cells.map .fv)) {s:Nat} {h:Hp} (k:KT β) (hc:cells.length<65000:=by simp) :
  AA (Am E t len parts) s h k=k (.clip (Ce ei.size len cells)) h [] []:=by
 have key:∀(l:List FV) (n:Nat),l.length<n->frzL n (l.map .fv)=.ret (l,[]):=by
  intro l
  induction l with
  | nil=>intro n hn;cases n with
   | zero=>simp at hn
   | succ n=>rfl
  | cons x l ih=>intro n hn;cases n with
   | zero=>simp at hn
   | succ n =>
    simp only [Ah3] at hn;cases n with
    | zero=>omega
    | succ n =>simp only [Ah5,frzL,Db,Rd.bind];rw [ih (n+1) (by omega)];rfl
 have:Am E t len parts=.ret { eff:={ val:=.clip (Ce ei.size len cells),upd:=[] } }:=by simp only [Am,hT,he,if_neg hs,hf];rw [key _ _ (by omega)];rfl
 rw [this,FZ]
end
def yY:IV->Option FV
 | .fv w=>some w
 | .tuple vs=>if vs.length<=100 then (Bx vs).map .tuple else none
 | _=>none
theorem A6 {x:IV} {w:FV} {own:List (Nat×Blk)} (h:yY x=some w):BC (some (x,⟨own,[]⟩)) w:=by
 cases x with
 | fv v=>rw [Option.some.inj h];exact Ay _ _
 | tuple vs =>
  simp only [yY] at h;split at h
  ·rename_i hl;cases hz:Bx vs with
   | none=>rw [hz] at h;cases h
   | some xs=>rw [hz] at h;rw [<- Option.some.inj h];exact QS hz hl _
  ·cases h
 | _=>cases h
end Idl
end Go.Proofs.YtnenpcghegcnhaaGreat
namespace Go.Proofs.YtnenpcghegcnhaaGreat
namespace Idl
def XY:=AhY @decide_true<|AhY @decide_false<|AhY @Bool.not_true<|AhY @Bool.not_false<|AhY @Ah5<|AhY @Ah4<|AhY @List.length_map.{0,0}<|AhY @Ah3<|AhY @List.length_nil.{0}<|AhY @Int.natCast_zero<|AhY @Int.natCast_one<|AhY @Bool.false_eq_true<|AhY @Bool.true_eq_false<|AhY @decide_eq_true_eq<|AhY @eq_self.{1}<|AhY @Bool.and_true<|AhY @Bool.true_and<|AhY @Bool.and_false<|AhY @Bool.false_and<|AhY @Nat.zero_add<|@Int.cast_ofNat_Int
def XE:=AhY @List.any_cons.{0}<|AhY @List.any_nil.{0}<|AhY @List.all_cons.{0}<|AhY @List.all_nil.{0}<|AhY @List.filter_cons.{0}<|AhY @List.filter_nil.{0}<|AhY @List.contains_cons.{0}<|AhY @List.contains_nil.{0}<|AhY @Bool.or_false<|AhY @Bool.or_true<|AhY @Bool.false_or<|AhY @Bool.true_or<|AhY @Bool.and_self<|AhY @Bool.not_eq_true<|AhY @BEq.rfl.{0}<|@beq_self_eq_true.{0}
def XX:=AhY @n0<|AhY @n1<|AhY @n2<|AhY @n3<|AhY @n4<|AhY @n5<|AhY @n6<|AhY @d0<|AhY @d1<|AhY @d2<|AhY @d3<|AhY @d4<|AhY @t1<|AhY @t2<|AhY @t3<|AhY @t4<|AhY @t7<|AhY @ap0<|AhY @ap1<|AhY @Aaz<|AhY @fX<|AhY @c_f<|AhY @J7<|AhY @zU<|AhY @pK<|AhY @rY<|AhY @AaT<|AhY @oC<|AhY @wQ<|AhY @Abk<|AhY @xI<|AhY @VW<|AhY @kC<|AhY @sn0<|AhY @yH<|AhY @yD<|AhY @AaR<|AhY @Abu<|AhY @Abf<|AhY @RR<|AhY @hZ<|AhY @wS<|AhY @j0<|AhY @AbJ<|AhY @z7<|AhY @gR<|AhY @mD<|AhY @gY<|AhY @pW<|AhY @u4<|AhY @wU<|AhY @kG<|AhY @sW<|AhY @tM<|AhY @jJ<|AhY @qV<|AhY @lK<|AhY @yF<|AhY @AaQ<|AhY @kB<|AhY @qU<|AhY @kV<|AhY @Q0<|AhY @Pg<|AhY @Aem<|AhY @Hn<|AhY @W4<|AhY @cO<|AhY @S6<|AhY @vV<|AhY @qM<|AhY @pY<|AhY @uH<|AhY @tX<|AhY @rL<|AhY @uD<|AhY @zP<|AhY @p7<|AhY @iB<|AhY @vC<|AhY @fQ<|AhY @mF<|AhY @dU<|AhY @lI<|AhY @mO<|AhY @jV<|AhY @Zm<|AhY @Aax<|AhY @Aao<|AhY @AdA<|AhY @Ael<|AhY @qH<|AhY @qN<|AhY @wr0<|AhY @wr1<|AhY @sf0<|AhY @sf1<|AhY @sf2<|AhY @sf3<|AhY @sf4<|AhY @of0<|AhY @of1<|AhY @of2<|AhY @of3<|AhY @of6<|AhY @Aeb<|AhY @dW<|AhY @AdP<|AhY @sc3<|AhY @Aec<|AhY @Ad9<|AhY @Aby<|AhY @yP<|AhY @AaF<|AhY @aM<|AhY @Aeg<|AhY @AdX<|AhY @Acw<|AhY @AeQ<|AhY @zS<|AhY @fk0<|AhY @fk1<|AhY @wL<|AhY @sS<|AhY @nb3<|AhY @nb4<|AhY @nb7<|AhY @nl3<|AhY @w8<|AhY @AaE<|AhY @Abe<|AhY @zT<|AhY @cY<|AhY @NW<|AhY @Aep<|AhY @Aer<|AhY @AcH<|AhY @Ado<|AhY @Afo<|AhY @Aej<|AhY @Aab<|AhY @y6<|AhY @AeS<|AhY @AeK<|AhY @Afi<|AhY @Afp<|AhY @AeF<|AhY @Acu<|AhY @Abl<|AhY @AaJ<|AhY @xY<|AhY @AbH<|AhY @Acj<|AhY @ch0<|AhY @ch1<|AhY @dj0<|AhY @djn<|AhY @dj1<|AhY @an0<|AhY @an1<|AhY @Aco<|AhY @AaM<|AhY @AaP<|AhY @Aei<|AhY @Aeo<|AhY @Aey<|AhY @Aef<|AhY @Acx<|AhY @zR<|AhY @Aar<|AhY @Aa5<|AhY @y9<|AhY @zW<|AhY @Br<|AhY @Ae8<|AhY @Ae3<|AhY @Ac4<|AhY @kZ<|AhY @kM<|AhY @kL<|AhY @i2<|AhY @AaB<|AhY @iQ<|AhY @qO<|AhY @lE<|AhY @w9<|AhY @z5<|AhY @gZ<|AhY @sU<|AhY @kI<|AhY @vZ<|AhY @AcB<|AhY @Ae0<|AhY @v6<|AhY @SW<|AhY @YN<|AhY @y8<|AhY @Tn<|AhY @FZ<|@gen_val'
def Ev (f:FuncId) (args:List IV) (w:FV):Prop:=∃N,∀n,N<=n->BC (SS dt n f args ⟨[],[]⟩) w
theorem Be {F:(List IV->Hp->Option (IV×Hp))->List IV->Hp->Option (IV×Hp)} {Q:Option (IV×Hp)->Prop} (P:Nat->List IV->Hp->Prop)
  (step:∀k V H rec,P k V H->(∀k' V' H',k' < k->P k' V' H'->Q (rec V' H'))->Q (F rec V H)):∀m k V H,k<m->P k V H->Q (BK m F V H):=by
 intro m
 induction m with
 | zero=>intro k V H h;omega
 | succ m ih=>intro k V H hk hP;exact step k V H (BK m F) hP fun k' V' H' h1 h2=>ih k' V' H' (by omega) h2
mutual
def Tm.wt:Tm->Nat
 | .mk _ _ l=>1+Tm.wtL l
def Tm.wtL:List Tm->Nat
 | []=>0
 | t::l=>t.wt+Tm.wtL l
end
theorem Cb {t:Tm}:∀{l:List Tm},t∈l->t.wt<=Tm.wtL l
 | a::l,h=>by
  rcases List.mem_cons.1 h with rfl | h
  ·simp only [Tm.wtL];omega
  ·have:=Cb h;simp only [Tm.wtL];omega
theorem Dq:∀(l:List Tm),l.length<=Tm.wtL l
 | []=>Nat.zero_le _
 | (.mk _ _ k)::l=>by have:=Dq l;simp only [Tm.wtL,Tm.wt,Ah3];omega
theorem Et (t:Tm):0<t.wt:=by cases t;simp only [Tm.wt];omega
theorem An (op n:Int) (l:List Tm):(Tm.mk op n l).enc=.agg [.int .i64 op,.int .i64 n,.sl (l.map Tm.enc)]:=by simp only [Tm.enc,V6]
theorem AO {l:List Tm} {i:Nat} {op n:Int} {k:List Tm} (h:l[i]?=some (.mk op n k)):(l.map Tm.enc)[i]?=some (.agg [.int .i64 op,.int .i64 n,.sl (k.map Tm.enc)]):=by rw [List.getElem?_map,h,Ah2,An]
theorem B2 {α:Type} {l pre rest:List α} {a:α} (h:l=pre++a::rest):l[pre.length]?=some a:=by rw [h,Ah8 (Nat.le_refl _),Nat.sub_self];rfl
theorem Cd (a b c:FV):(FV.agg [a,b,c]).cells=[a,b,c]:=rfl
theorem Bm (a b c:FV):(FV.agg [a,b,c]).cells.length=3:=rfl
section
variable {β:Type} {E:Env}
def ZX (b:Blk) (n sz:Nat) (x:Option β):Option β:=match b with
 | .tok a s=>if a=n/\s=sz then x else none
 | _=>none
theorem GZ (n sz:Nat) (x:Option β):ZX (.tok n sz) n sz x=x:=by
 show (if n=n/\sz=sz then x else none)=x
 rw [if_pos ⟨rfl,rfl⟩]
inductive Plain2:IV->List FV->Prop
 | clip (es:List FV):Plain2 (.clip es) es
 | sl (es:List FV):Plain2 (.fv (.sl es)) es
 | app (r:Ref) (es:List FV):Plain2 (.app r es) es
theorem O7 {x:IV} {es:List FV} (h:Plain2 x es):Db 4096 x=.ret (.sl es,[]):=by cases h<;>rfl
structure SliceT (E:Env) (t:TypeId) (size:Nat):Prop where
 h:∃a b e z ei,E.T t=some ⟨a,b,.slice e,z⟩/\E.T e=some ei/\ei.size=size/\size≠0/\ei.bytes<=100000
theorem HA {t:TypeId} {size:Nat} (T:SliceT E t size) {x:IV} {es2:List FV} (hx:Plain2 x es2) (h1:BG size es2=true) (hne:es2.isEmpty=false) (hb:es2.length<=1000000) {s0:IV} (hs:s0=.nils\/s0=.clip []) (s:Nat) (own:List (Nat×Blk)) (ext:List Blk)
  (k:KT β):AA (AU E s false .append [t,t] [s0,x]) s ⟨own,ext⟩ k=CV own s (Bf own s (.tok es2.length size) fun own=>k (.app (.own s) es2) ⟨own,ext⟩ [] [.own s]):=by
 obtain ⟨a,b,e,z,ei,hT,he,rfl,h0,hby⟩:=T.h;have hlen:¬ (BG ei.size []=false\/(([]:List FV).length+es2.length) * ei.bytes > 140737488355328\/([]:List FV).length+es2.length > 1073741824):=by
  have:es2.length * ei.bytes<=1000000 * 100000:=Nat.mul_le_mul hb hby
  rintro (h | h | h)
  ·cases h
  ·simp only [List.length_nil,Nat.zero_add] at h;omega
  ·simp only [List.length_nil,Nat.zero_add] at h;omega
 have key:AU E s false .append [t,t] [s0,x]=.ret { eff:={ val:=.app (.own s) es2,upd:=[] },new:=some (.tok es2.length ei.size) }:=by
  show DE E s t (some t) false s0 x=_
  simp only [DE,hT,Option.bind_some,he,O7 hx,Rd.bind,h0,h1,false_or,Bool.true_eq_false,if_false];rcases hs with rfl | rfl<;>simp only [Co,if_neg hlen,hne,List.nil_append,Bool.false_eq_true,if_false]
 rw [key];unfold AA;simp only [Rd.runLog]
 show (Hy (some (.tok es2.length ei.size)) s ⟨own,ext⟩ fun h=>fV 3 (.app (.own s) es2) fun v=>k v h [] ([]++[.own s]))=_
 simp only [Hy,CB,Cm];rfl
theorem dZ {t:TypeId} {size:Nat} (T:SliceT E t size) {x:IV} (hx:Plain2 x []) {s0:IV} (hs:s0=.nils\/s0=.clip []) (s:Nat) (h:Hp) (k:KT β) :
  AA (AU E s false .append [t,t] [s0,x]) s h k=k s0 h [] []:=by
 obtain ⟨a,b,e,z,ei,hT,he,rfl,h0,hby⟩:=T.h;have hlen:¬ (BG ei.size []=false\/(([]:List FV).length+([]:List FV).length) * ei.bytes > 140737488355328\/([]:List FV).length+([]:List FV).length > 1073741824):=by
  rintro (h | h | h)
  ·cases h
  ·simp at h
  ·simp at h
 have key:AU E s false .append [t,t] [s0,x]=.ret { eff:={ val:=s0,upd:=[] } }:=by
  show DE E s t (some t) false s0 x=_
  have h1:BG ei.size []=true:=rfl;simp only [DE,hT,Option.bind_some,he,O7 hx,Rd.bind,h0,h1,false_or,Bool.true_eq_false,if_false];rcases hs with rfl | rfl
  ·simp only [Co];rw [if_neg hlen];simp
  ·simp only [Co];rw [if_neg hlen];simp
 rw [key];exact FZ s0 s h k
theorem NQ {t:TypeId} {size:Nat} (T:SliceT E t size) {x:IV} {es es2:List FV} (hx:Plain2 x es2) (h1:BG size es2=true) (h2:BG size es=true) (ho:(es2.all fun e=>e.cells.all FV.one)=true) (hb:es.length+es2.length<=1000000) (r s:Nat)
  (own:List (Nat×Blk)) (ext:List Blk) (k:KT β):AA (AU E s false .append [t,t] [.app (.own r) es,x]) s ⟨own,ext⟩ k =
   EW own r fun b=>ZX b es.length size (Bf own r (.tok (es.length+es2.length) size) fun own=>k (.app (.own r) (es++es2)) ⟨own,ext⟩ [.own r] [.own r]):=by
 obtain ⟨a,b,e,z,ei,hT,he,rfl,h0,hby⟩:=T.h;have hlen:¬ (BG ei.size es=false\/(es.length+es2.length) * ei.bytes > 140737488355328\/es.length+es2.length > 1073741824):=by
  have:(es.length+es2.length) * ei.bytes<=1000000 * 100000:=Nat.mul_le_mul hb hby
  rintro (h | h | h)
  ·rw [h2] at h;cases h
  ·omega
  ·omega
 have key:(AU E s false .append [t,t] [.app (.own r) es,x]).runLog ⟨own,ext⟩ []=(Aq r own).bind fun b=>match b with
   | .tok n sz=>if n=es.length/\sz=ei.size then some ({ eff:={ val:=.app (.own r) (es++es2),upd:=[(.own r,.tok (n+es2.length) sz)] } },[.own r]) else none
   | _=>none:=by
  show (DE E s t (some t) false (.app (.own r) es) x).runLog _ _=_
  simp only [DE,hT,Option.bind_some,he,O7 hx,Rd.bind,h0,h1,false_or,Bool.true_eq_false,if_false,Co,if_neg hlen,Rd.runLog,ho,and_true]
  show (match Aq r own with | some b=>_ | none=>none)=_
  cases Aq r own with
  | none=>rfl
  | some b =>
   cases b with
   | tok n sz =>
    simp only [Option.bind_some];by_cases hc:n=es.length/\sz=ei.size
    ·rw [if_pos hc,if_pos hc];rfl
    ·rw [if_neg hc,if_neg hc];rfl
   | _=>rfl
 unfold AA;rw [key,BB];cases hl:Aq r own with
 | none=>simp
 | some b =>
  simp only [Option.bind_some];cases b with
  | tok n sz =>
   simp only [ZX];by_cases hc:n=es.length/\sz=ei.size
   ·rw [if_pos hc,if_pos hc];obtain ⟨rfl,rfl⟩:=hc
    show (dG (.own r) fun q=>Dr q ⟨own,ext⟩ fun _=>XL (.tok (es.length+es2.length) ei.size) fun b=>FJ q b ⟨own,ext⟩ fun h=>Hy none s h fun h=>fV 3 (.app (.own r) (es++es2)) fun v=>k v h [.own r] ([.own r]++[]))=_
    simp only [MQ,CB,Cm,Hy,FJ,Dr];rw [BB,hl];rfl
   ·rw [if_neg hc,if_neg hc]
  | row _ _=>rfl
  | map _=>rfl
end
def Pl:EE.T 29=some ⟨1,24,.slice 31,[.nils]⟩:=by kernel_rfl
def gK:EE.T 31=some ⟨3,40,.struct [(0,3),(1,3),(2,29)],[.fv (.int .i64 0),.fv (.int .i64 0),.nils]⟩:=by kernel_rfl
def sTm:SliceT EE 29 3:=⟨_,_,_,_,_,Pl,gK,rfl,by decide,by decide⟩
def IL (a:Tm) (s:Nat) (h:Hp) (k:KT (IV×Hp)):AA (Am EE 29 1 [(0,.fv a.enc)]) s h k=k (.clip [a.enc]) h [] []:=by obtain ⟨o1,n1,k1⟩:=a;exact Cx Pl gK (by decide) (cells:=[.int .i64 o1,.int .i64 n1,.sl (Tm.enc.encL k1)]) rfl k
def xF (a b:Tm) (s:Nat) (h:Hp) (k:KT (IV×Hp)):AA (Am EE 29 2 [(0,.fv a.enc),(1,.fv b.enc)]) s h k=k (.clip [a.enc,b.enc]) h [] []:=by obtain ⟨o1,n1,k1⟩:=a;obtain ⟨o2,n2,k2⟩:=b;exact Cx Pl gK (by decide) (cells:=[.int .i64 o1,.int .i64 n1,.sl (Tm.enc.encL k1),.int .i64 o2,.int .i64 n2,.sl (Tm.enc.encL k2)]) rfl k
def lF (a:Tm):a.enc.cells.length=3:=by cases a;rfl
def iS (a:Tm):a.enc.cells.all FV.one=true:=by cases a;rfl
theorem OD (l:List Tm):BG 3 (l.map Tm.enc)=true:=by
 cases l with
 | nil=>rfl
 | cons a l=>simp only [Ah5,BG,lF,beq_self_eq_true]
def QD (e:Tm) (s:Nat) (own:List (Nat×Blk)) (ext:List Blk) (k:KT (IV×Hp)) :
  AA (AU EE s false .append [29,29] [.nils,.clip [e.enc]]) s ⟨own,ext⟩ k=CV own s (Bf own s (.tok 1 3) fun own=>k (.app (.own s) [e.enc]) ⟨own,ext⟩ [] [.own s]) :=
 HA sTm (.clip _) (OD [e]) rfl (by simp) (.inl rfl) s own ext k
def Ln {es:List Tm} (hb:es.length+1<=1000000) (e:Tm) (r s:Nat) (own:List (Nat×Blk)) (ext:List Blk) (k:KT (IV×Hp)) :
  AA (AU EE s false .append [29,29] [.app (.own r) (es.map Tm.enc),.clip [e.enc]]) s ⟨own,ext⟩ k =
   EW own r fun b=>ZX b es.length 3 (Bf own r (.tok (es.length+1) 3) fun own=>k (.app (.own r) ((es++[e]).map Tm.enc)) ⟨own,ext⟩ [.own r] [.own r]):=by
 rw [NQ sTm (.clip [e.enc]) (OD [e]) (OD es) (by simp [iS]) (by simpa using hb) r s own ext k];simp only [List.length_map,List.map_append,Ah5,Ah4,Ah3,List.length_nil,Nat.zero_add]
def sD {x m:Int} (h1:0<m) (h2:m<=4611686018427387904):(if x.tmod m<0 then BF (x.tmod m+m) else x.tmod m)=x % m:=by
 have a1:=Int.emod_nonneg x (show m≠0 by omega)
 have a2:=Int.emod_lt_of_pos x h1;have e1:x.tmod m=x - m * x.tdiv m:=by have:=Int.mul_tdiv_add_tmod x m;omega
 have e2:x % m=x - m * (x / m):=by have:=Int.mul_ediv_add_emod x m;omega
 have b1:-m<x.tmod m:=Int.lt_tmod_of_pos x h1;have b2:x.tmod m<m:=Int.tmod_lt_of_pos x h1;have key:∃q,x.tmod m=x % m+m * q:=⟨x / m - x.tdiv m,by rw [e1,e2,Int.mul_sub];omega⟩;obtain ⟨q,hq⟩:=key;have hq2:q=0\/q=-1:=by
  rcases Int.lt_trichotomy q 0 with h | h | h
  ·right;rcases Int.lt_trichotomy q (-1) with h' | h' | h'
   ·have:m * q<=m * (-2):=Int.mul_le_mul_of_nonneg_left (by omega) (by omega)
    omega
   ·exact h'
   ·omega
  ·exact .inl h
  ·have:m * 1<=m * q:=Int.mul_le_mul_of_nonneg_left (by omega) (by omega)
   omega
 rcases hq2 with rfl | rfl
 ·rw [if_neg (by omega)];omega
 ·rw [if_pos (by omega),Az (by omega) (by omega)];omega
def Ax {n:Nat} (hn:0<n) (x:Int) {m:Int} (h1:0<m) (h2:m<=4611686018427387904):BC (SS dt n 63 [iv x,iv m] ⟨[],[]⟩) (.int .i64 (x % m)):=by
 obtain ⟨n,rfl⟩:=Nat.exists_eq_add_of_lt hn;rw [Nat.zero_add,c63];simp only [S63,↓XX,XY,↓reduceIte,seval,↓NW (show m≠0 by omega)]
 rw [<- sD h1 h2];by_cases hc:x.tmod m<0<;>simp only [hc,if_true,if_false]<;>exact Ay _ _
def AY {n:Nat} (hn:0<n) (op:Int):BC (SS dt n 38 [iv op,.fv (.sl [])] ⟨[],[]⟩) (Tm.mk op 0 []).enc:=by obtain ⟨n,rfl⟩:=Nat.exists_eq_add_of_lt hn;rw [Nat.zero_add,c38];simp only [S38,↓XX,XY,↓reduceIte,seval];exact Ay _ _
def CO {n:Nat} (hn:0<n) (op:Int) (l:List Tm):BC (SS dt n 38 [iv op,.fv (.sl (l.map Tm.enc))] ⟨[],[]⟩) (Tm.mk op 0 l).enc:=by obtain ⟨n,rfl⟩:=Nat.exists_eq_add_of_lt hn;rw [Nat.zero_add,c38];simp only [S38,↓XX,XY,↓reduceIte,seval,An];exact Ay _ _
def Tm.kids:Tm->List Tm
 | .mk _ _ l=>l
def Tm.op:Tm->Int
 | .mk o _ _=>o
def Tm.n:Tm->Int
 | .mk _ n _=>n
def hI (t:Tm):t.enc=.agg [.int .i64 t.op,.int .i64 t.n,.sl (t.kids.map Tm.enc)]:=by cases t;rw [An];rfl
def Tm.pick (r:Tm) (i:Nat):Tm:=match r.kids[i]? with
 | some k=>k
 | none=>.mk (BF (BF (r.op.tdiv 3)+i)) (BF (BF (r.n.tdiv 5)+BF (7 * i))) []
theorem AV {n:Nat} (hn:0<n) (r:Tm) (i:Nat):BC (SS dt n 65 [.fv r.enc,iv i] ⟨[],[]⟩) (r.pick i).enc:=by
 obtain ⟨n,rfl⟩:=Nat.exists_eq_add_of_lt hn;rw [Nat.zero_add,c65];obtain ⟨op,m,ks⟩:=r;rw [An];simp only [Tm.pick,Tm.kids,Tm.op,Tm.n];cases hk:ks[i]? with
 | some k =>
  have hi:(i:Int)<ks.length:=by have:=(Ah7.1 hk).1;omega
  obtain ⟨o,p,l⟩:=k;simp only [S65,↓XX,XY,↓reduceIte,seval,hi,↓Br (AO hk) (Bm _ _ _),↓Cd,An];exact Ay _ _
 | none =>
  have hi:¬ (i:Int)<ks.length:=by have:=List.getElem?_eq_none_iff.1 hk;omega
  simp only [S65,↓XX,XY,↓reduceIte,seval,hi,↓cY (show (3:Int)≠0 by decide),↓cY (show (5:Int)≠0 by decide)]
  exact Bp rfl _
section
variable {β:Type}
def Cy (s:Nat):IV->Bool
 | .ptr (.own j) _=>s == j
 | .slc (.own j) _ _=>s == j
 | .app (.own j) _=>s == j
 | .mapr (.own j)=>s == j
 | _=>false
def FB:IV->Bool
 | .agg _ | .tuple _ | .func ..=>false
 | _=>true
def Fs (s:Nat):Blk->Bool
 | .row cells _=>cells.any (Cy s)
 | _=>false
def Sf:Blk->Bool
 | .row cells _=>cells.all FB
 | .tok ..=>true
 | .map _=>false
theorem Yw {v:IV} (h:FB v=true) (s:Nat):(Ref.own s∈v.refs) ↔ Cy s v=true:=by
 cases v with
 | ptr r o=>cases r<;>simp [IV.refs,Cy]
 | slc r a b=>cases r<;>simp [IV.refs,Cy]
 | app r es=>cases r<;>simp [IV.refs,Cy]
 | mapr r=>cases r<;>simp [IV.refs,Cy]
 | agg _=>cases h
 | tuple _=>cases h
 | func _ _ _=>cases h
 | _=>simp [IV.refs,Cy]
theorem IK:∀{l:List IV},l.all FB=true->∀s,(Ref.own s∈IV.refs.refsL l) ↔ l.any (Cy s)=true
 | [],_,s=>by simp [IV.refs.refsL]
 | v::l,h,s=>by
  rw [List.all_cons,Bool.and_eq_true] at h;rw [IV.refs.refsL,List.mem_append,List.any_cons,Bool.or_eq_true,Yw h.1,IK h.2]
theorem Ei {b:Blk} (h:Sf b=true) (s:Nat):(Ref.own s∈b.refs) ↔ Fs s b=true:=by
 cases b with
 | row cells ro=>exact IK h s
 | tok n sz=>simp [Blk.refs,Fs]
 | map es=>cases h
theorem HV (s:Nat):∀l:List Ref,anyIn [s] l=true ↔ Ref.own s∈l
 | []=>by simp [anyIn]
 | .own k::l=>by
  rw [anyIn,Bool.or_eq_true,HV s l,List.mem_cons];simp [eq_comm]
 | .ext k::l=>by
  rw [anyIn,HV s l,List.mem_cons];simp
def heldB (rm:List Nat) (vals:List IV) (own:List (Nat×Blk)) (ext:List Blk) (s:Nat):Bool :=vals.any (Cy s) || (own.any (fun p=>!rm.contains p.1 && Fs s p.2) || ext.any (Fs s))
def Hf (rm:List Nat) (vals:List IV) (own:List (Nat×Blk)) (ext:List Blk):List (Nat×Blk):=own.filter fun p=>!rm.contains p.1 || heldB rm vals own ext p.1
def AS (rm:List Nat) (vals:List IV) (own:List (Nat×Blk)) (ext:List Blk):Bool :=vals.all FB && (own.all (fun p=>Sf p.2) && (ext.all Sf && own.all fun p=>!rm.contains p.1 || rm.all fun s=>!Fs s p.2))
theorem QZ {rm:List Nat} {vals:List IV} {own:List (Nat×Blk)} {ext:List Blk} (hf:AS rm vals own ext=true) (s:Nat) :
  Ref.own s∈IV.refs.refsL vals++(own.filter fun p=>!rm.contains p.1).flatMap (fun p=>p.2.refs)++ext.flatMap Blk.refs ↔ heldB rm vals own ext s=true:=by
 simp only [AS,Bool.and_eq_true] at hf;obtain ⟨h1,h2,h3,_⟩:=hf;have e1:Ref.own s∈(own.filter fun p=>!rm.contains p.1).flatMap (fun p=>p.2.refs) ↔ (own.any fun p=>!rm.contains p.1 && Fs s p.2)=true:=by
  rw [List.mem_flatMap,List.any_eq_true];constructor
  ·rintro ⟨p,hp,hr⟩;obtain ⟨hp1,hp2⟩:=List.mem_filter.1 hp;exact ⟨p,hp1,by rw [hp2,(Ei (List.all_eq_true.1 h2 p hp1) s).1 hr];rfl⟩
  ·rintro ⟨p,hp,hr⟩;rw [Bool.and_eq_true] at hr;exact ⟨p,List.mem_filter.2 ⟨hp,hr.1⟩,(Ei (List.all_eq_true.1 h2 p hp) s).2 hr.2⟩
 have e2:Ref.own s∈ext.flatMap Blk.refs ↔ ext.any (Fs s)=true:=by
  rw [List.mem_flatMap,List.any_eq_true];constructor
  ·rintro ⟨p,hp,hr⟩;exact ⟨p,hp,(Ei (List.all_eq_true.1 h3 p hp) s).1 hr⟩
  ·rintro ⟨p,hp,hr⟩;exact ⟨p,hp,(Ei (List.all_eq_true.1 h3 p hp) s).2 hr⟩
 rw [List.mem_append,List.mem_append,IK h1,e1,e2,heldB,Bool.or_eq_true,Bool.or_eq_true,or_assoc]
theorem AJ {base rm:List Nat} {vals:List IV} {own:List (Nat×Blk)} {ext:List Blk} (hb:rm.any base.contains=false) (hf:AS rm vals own ext=true) (k:Hp->Option β) :
  Bo base rm vals ⟨own,ext⟩ k=k ⟨Hf rm vals own ext,ext⟩:=by
 have hm:=QZ hf;have hf0:=hf;simp only [AS,Bool.and_eq_true] at hf0;obtain ⟨g1,g2,g3,g4⟩:=hf0;unfold Bo;rw [hb];simp only [cond_false];rw [Lt];cases ha:(own.all fun p=>!rm.contains p.1) with
 | true =>
  simp only [Bool.not_true,cond_false];congr 2
  symm
  apply List.filter_eq_self.2;intro p hp;rw [List.all_eq_true.1 ha p hp];rfl
 | false =>
  simp only [Bool.not_false,cond_true];have slow:(match CT base [] rm ⟨vals,⟨own,ext⟩⟩ with | none=>none | some S=>fH S.hp k)=k ⟨Hf rm vals own ext,ext⟩:=by
   have hgone:(rm.filter fun k=>!anyIn [k] (IV.refs.refsL vals++(own.filter fun p=>!rm.contains p.1).flatMap (fun p=>p.2.refs)++ext.flatMap Blk.refs))=rm.filter fun s=>!heldB rm vals own ext s:=by apply List.filter_congr;intro s _;congr 1;exact Bool.eq_iff_iff.2 ((HV s _).trans (hm s))
   have hown:(own.filter fun p=>!(rm.filter fun s=>!heldB rm vals own ext s).contains p.1)=Hf rm vals own ext:=by
    apply List.filter_congr;intro p _;rw [Bool.eq_iff_iff];simp only [Bool.not_eq_true',Bool.or_eq_true,List.contains_eq_mem,decide_eq_false_iff_not,List.mem_filter];constructor
    ·intro h;by_cases h1:p.1∈rm
     ·right;cases hh:heldB rm vals own ext p.1 with
      | true=>rfl
      | false=>exact absurd ⟨h1,hh⟩ h
     ·exact .inl h1
    ·rintro (h | h) ⟨h1,h2⟩
     ·exact h h1
     ·rw [h] at h2;exact absurd h2 (by simp)
   simp only [CT,hb,Bool.false_eq_true,if_false,Bh,ha,hgone,hown];have hnone:anyIn (rm.filter fun s=>!heldB rm vals own ext s) (Dc ⟨vals,⟨Hf rm vals own ext,ext⟩⟩)=false:=by
    apply Em;intro s hs hmem;obtain ⟨hs1,hs2⟩:=List.mem_filter.1 hs;have hs2:heldB rm vals own ext s=false:=by simpa using hs2
    simp only [Dc,List.mem_append] at hmem;rcases hmem with (hmem | hmem) | hmem
    ·have:=(hm s).1 (List.mem_append_left _ (List.mem_append_left _ hmem))
     rw [this] at hs2;cases hs2
    ·obtain ⟨p,hp,hr⟩:=List.mem_flatMap.1 hmem;have hp1:=(List.mem_filter.1 hp).1;have hn:=(Ei (List.all_eq_true.1 g2 p hp1) s).1 hr;have h4:=List.all_eq_true.1 g4 p hp1;cases hc:rm.contains p.1 with
     | true =>rw [hc] at h4;have h4:(rm.all fun s=>!Fs s p.2)=true:=h4;have h5:=List.all_eq_true.1 h4 s hs1;rw [hn] at h5;cases h5
     | false =>
      have:=(hm s).1 (List.mem_append_left _ (List.mem_append_right _ (List.mem_flatMap.2 ⟨p,List.mem_filter.2 ⟨hp1,by rw [hc];rfl⟩,hr⟩)))
      rw [this] at hs2;cases hs2
    ·have:=(hm s).1 (List.mem_append_right _ hmem)
     rw [this] at hs2;cases hs2
   simp only [hnone,Bool.false_eq_true,if_false,Il]
  cases hff:(and (FF rm (CW vals [])) (and (HH rm own) (Ik rm ext))) with
  | false=>exact slow
  | true =>
   have hff:(FF rm (CW vals []) && (HH rm own && Ik rm ext))=true:=hff;simp only [Bool.and_eq_true] at hff;simp only [Hc,cond_true];congr 2;apply List.filter_congr;intro p hp;cases hc:rm.contains p.1 with
   | false=>rfl
   | true =>
    have h1:=Fy hff.1;rw [refsDL_eq,List.append_nil] at h1;have h2:=Hl hff.2.1;have h3:=L8 hff.2.2
    have:heldB rm vals own ext p.1=false:=by
     cases hh:heldB rm vals own ext p.1 with
     | false=>rfl
     | true =>
      have:=(hm p.1).2 hh
      have hpm:p.1∈rm:=List.contains_iff_mem.1 hc;rcases List.mem_append.1 this with h | h
      ·rcases List.mem_append.1 h with h | h
       ·exact absurd h (h1 _ hpm)
       ·exact absurd h (h2 _ hpm)
      ·exact absurd h (h3 _ hpm)
    rw [this];rfl
end
section
variable (s j:Nat)
theorem AdH (rm:List Nat) (vals:List IV) (own:List (Nat×Blk)) (ext:List Blk):Hf rm vals own ext=own.filter fun p=>!rm.contains p.1 || heldB rm vals own ext p.1:=rfl
theorem nv1 (o:Nat):Cy s (.ptr (.own j) o)=(s == j):=rfl
theorem nv2 (a b:Nat):Cy s (.slc (.own j) a b)=(s == j):=rfl
theorem nv3 (es:List FV):Cy s (.app (.own j) es)=(s == j):=rfl
theorem nv4 (v:FV):Cy s (.fv v)=false:=rfl
theorem nv5:Cy s .nils=false:=rfl
theorem nv6 (es:List FV):Cy s (.clip es)=false:=rfl
theorem nv7 (o:Nat):Cy s (.ptr (.ext j) o)=false:=rfl
theorem nv8:Cy s .dead=false:=rfl
theorem nb1 (cs:List IV) (ro:Bool):Fs s (.row cs ro)=cs.any (Cy s):=rfl
theorem nb2 (a b:Nat):Fs s (.tok a b)=false:=rfl
theorem Aen (r:Ref) (o:Nat):FB (.ptr r o)=true:=rfl
theorem Afs (r:Ref) (a b:Nat):FB (.slc r a b)=true:=rfl
theorem Afu (r:Ref) (es:List FV):FB (.app r es)=true:=rfl
theorem AcG (v:FV):FB (.fv v)=true:=rfl
theorem Ad3:FB .nils=true:=rfl
theorem Acy (es:List FV):FB (.clip es)=true:=rfl
theorem Adv:FB .dead=true:=rfl
theorem AcM (cs:List IV) (ro:Bool):Sf (.row cs ro)=cs.all FB:=rfl
theorem fb_2 (a b:Nat):Sf (.tok a b)=true:=rfl
end
def XD:=AhY @AdH<|AhY @nv1<|AhY @nv2<|AhY @nv3<|AhY @nv4<|AhY @nv5<|AhY @nv6<|AhY @nv7<|AhY @nv8<|AhY @nb1<|AhY @nb2<|AhY @Aen<|AhY @Afs<|AhY @Afu<|AhY @AcG<|AhY @Ad3<|AhY @Acy<|AhY @Adv<|AhY @AcM<|@fb_2
def Al (op:Int) (i:Nat):Nat :=if op=3\/op=4\/op=6\/op=20\/op=28\/op=29 then (if i=1 then 1 else 0) else if op=13 then (if i=0 then 1 else if i=2 then 2 else 0) else 0
theorem A0 (op:Int) (i:Nat):Al op i<=2:=by
 unfold Al
 repeat' split
 all_goals omega
theorem Fl {n:Nat} (hn:0<n) (op:Int) (i:Nat):BC (SS dt n 47 [iv op,iv i] ⟨[],[]⟩) (.int .i64 (Al op i)):=by
 obtain ⟨n,rfl⟩:=psc n (by omega);rw [c47];unfold Al;by_cases h:op=3\/op=4\/op=6\/op=20\/op=28\/op=29
 ·rw [if_pos h];by_cases hi:i=1
  ·subst hi;rcases h with rfl | rfl | rfl | rfl | rfl | rfl<;>(simp only [oF,↓XX,XY,↓reduceIte,seval];exact Ay _ _)
  ·have hi':¬ (i:Int)=1:=by omega
   rcases h with rfl | rfl | rfl | rfl | rfl | rfl<;>(simp only [oF,↓XX,XY,↓reduceIte,seval,hi',hi];exact Ay _ _)
 ·rw [if_neg h];have h3:¬ op=3:=fun e=>h (by simp [e]);have h4:¬ op=4:=fun e=>h (by simp [e]);have h6:¬ op=6:=fun e=>h (by simp [e]);have h20:¬ op=20:=fun e=>h (by simp [e]);have h28:¬ op=28:=fun e=>h (by simp [e]);have h29:¬ op=29:=fun e=>h (by simp [e]);by_cases h13:op=13
  ·subst h13;by_cases hi:i=0
   ·subst hi;simp only [oF,↓XX,XY,↓reduceIte,seval];exact Ay _ _
   ·have hi':¬ (i:Int)=0:=by omega
    by_cases hj:i=2
    ·subst hj;simp only [oF,↓XX,XY,↓reduceIte,seval];exact Ay _ _
    ·have hj':¬ (i:Int)=2:=by omega
     simp only [oF,↓XX,XY,↓reduceIte,seval,hi,hi',hj,hj'];exact Ay _ _
  ·simp only [oF,↓XX,XY,↓reduceIte,seval,h3,h4,h6,h20,h28,h29,h13];exact Ay _ _
theorem jG {n:Nat} (hn:0<n) (x:Int):BC (SS dt n 39 [iv x] ⟨[],[]⟩) (Tm.mk 1 x []).enc:=by obtain ⟨n,rfl⟩:=psc n (by omega);rw [c39];simp only [S39,↓XX,XY,↓reduceIte,seval];exact Bp rfl _
theorem Hd {n:Nat} (hn:0<n) (x:Int):BC (SS dt n 50 [iv x] ⟨[],[]⟩) (Tm.mk 2 x []).enc:=by obtain ⟨n,rfl⟩:=psc n (by omega);rw [c50];simp only [S50,↓XX,XY,↓reduceIte,seval];exact Bp rfl _
theorem dH {n:Nat} (hn:0<n) (x:Int):BC (SS dt n 43 [iv x] ⟨[],[]⟩) (Tm.mk 25 x []).enc:=by obtain ⟨n,rfl⟩:=psc n (by omega);rw [c43];simp only [S43,↓XX,XY,↓reduceIte,seval];exact Bp rfl _
mutual
/-- No more than four kids anywhere. -/
def Tm.wk:Tm->Prop
 | .mk _ _ ks=>ks.length<=4/\Tm.wkL ks
def Tm.wkL:List Tm->Prop
 | []=>True
 | t::l=>t.wk/\Tm.wkL l
end
theorem Kc {t:Tm}:∀{l:List Tm},Tm.wkL l->t∈l->t.wk
 | a::l,h,hm=>by
  rw [Tm.wkL] at h;rcases List.mem_cons.1 hm with rfl | hm
  ·exact h.1
  ·exact Kc h.2 hm
mutual
def Tm.shift:Tm->Int->Int->Tm
 | .mk op n ks,d,c=>.mk op (if op=1/\c<=n then BF (n+d) else n) (Tm.shiftL op 0 ks d c)
def Tm.shiftL:Int->Nat->List Tm->Int->Int->List Tm
 | _,_,[],_,_=>[]
 | op,i,t::l,d,c=>t.shift d (c+Al op i)::Tm.shiftL op (i+1) l d c
end
theorem Eh (op:Int) (d c:Int):∀(l:List Tm) (i:Nat),(Tm.shiftL op i l d c).length=l.length
 | [],_=>rfl
 | _::l,i=>by simp only [Tm.shiftL,Ah3,Eh op d c l]
theorem Mu (op d c:Int):∀(l l':List Tm) (i:Nat),Tm.shiftL op i (l++l') d c=Tm.shiftL op i l d c++Tm.shiftL op (i+l.length) l' d c
 | [],l',i=>by simp [Tm.shiftL]
 | t::l,l',i=>by simp only [List.cons_append,Tm.shiftL,Mu op d c l l',Ah3];congr 3;omega
theorem CS:∀(n:Nat) (t:Tm) (d c:Int),t.wt+1<n->t.wk->0<=c->c+2 * t.wt<=4611686018427387904->BC (SS dt n 35 [.fv t.enc,iv d,iv c] ⟨[],[]⟩) (t.shift d c).enc:=by
 intro n
 induction n with
 | zero=>intro t d c h;omega
 | succ n ih =>
  intro t d c h hw hc0 hc;obtain ⟨op,m,ks⟩:=t;simp only [Tm.wt] at h hc;rw [Tm.wk] at hw;rw [c35,An];have hlen:=Dq ks;have main:∀m',m'=(if op=1/\c<=m then BF (m+d) else m) ->
    BC (BK n (fun q28 l29 h30=>H6 l29 h30 (SS dt n) ⟨[],[]⟩ q28) [iv d,iv c,.ptr (.own 36700160) 0,.ptr (.own 36700161) 0,.ptr (.own 36701189) 0,iv 0]
     ⟨[(36700160,.row [iv op,iv m,.fv (.sl (ks.map Tm.enc))] false),(36700161,.row [iv 0,iv 0,.nils] false),(36701189,.row [iv op,iv m',.nils] false)],[]⟩) ((Tm.mk op m ks).shift d c).enc:=by
   intro m' hm';refine Be (Q:=fun r=>BC r _) (fun k V H=>∃pre rest,ks=pre++rest/\rest.length=k/\V=[iv d,iv c,.ptr (.own 36700160) 0,.ptr (.own 36700161) 0,.ptr (.own 36701189) 0,iv pre.length] /\
    (
     (pre=[]/\H=⟨[(36700160,.row [iv op,iv m,.fv (.sl (ks.map Tm.enc))] false),(36700161,.row [iv 0,iv 0,.nils] false),(36701189,.row [iv op,iv m',.nils] false)],[]⟩) \/
     (pre≠[]/\H=⟨[(36700160,.row [iv op,iv m,.fv (.sl (ks.map Tm.enc))] false),(36700161,.row [iv 0,iv 0,.nils] false),(36701189,.row [iv op,iv m',.app (.own 36707344) ((Tm.shiftL op 0 pre d c).map Tm.enc)] false),(36707344,.tok (Tm.shiftL op 0 pre d c).length 3)],[]⟩)))
    ?_ n ks.length _ _ (by omega) ⟨[],ks,rfl,rfl,rfl,.inl ⟨rfl,rfl⟩⟩
   rintro k V H rec ⟨pre,rest,hk,hl,rfl,hH⟩ hrec;have hkl:ks.length=pre.length+rest.length:=by rw [hk];simp
   cases rest with
   | nil =>
    have hno:¬ ((pre.length:Int)<ks.length):=by rw [hkl];simp
    have hpre:ks=pre:=by simpa using hk
    rcases hH with ⟨rfl,rfl⟩ | ⟨_,rfl⟩
    ·subst hpre;simp only [F8,H6,F4,jI,↓XX,XY,↓reduceIte,seval,Int.lt_irrefl,Tm.shift,Tm.shiftL,<- hm',An];exact Bp rfl _
    ·subst hpre;simp only [F8,H6,F4,jI,↓XX,XY,↓reduceIte,seval,Int.lt_irrefl,Tm.shift,<- hm',An];exact Bp rfl _
   | cons t rest =>
    have hi:(pre.length:Int)<ks.length:=by rw [hkl];simp;omega
    have hg:=B2 hk;have htw:=Cb (t:=t) (l:=ks) (by rw [hk];simp);have hb:=Fl (n:=n) (by omega) op pre.length;have hble:=A0 op pre.length;have hs:=ih t d (c+Al op pre.length) (by omega) (Kc hw.2 (by rw [hk];simp)) (by omega) (by omega);have hx:Tm.shiftL op 0 (pre++[t]) d c=Tm.shiftL op 0 pre d c++[t.shift d (c+Al op pre.length)]:=by rw [Mu];simp [Tm.shiftL]
    have hwc:BF (c+Al op pre.length)=c+Al op pre.length:=by rw [Az]<;>omega
    have hwi:BF ((pre.length:Int)+1)=((pre++[t]).length:Int):=(Az (by omega) (by omega)).trans (by simp);generalize hu:t.shift d (c+Al op pre.length)=u at hs hx;obtain ⟨o,p,l⟩:=t;simp only [Ah3] at hl;rw [An] at hs;rcases hH with ⟨hp0,rfl⟩ | ⟨hne,rfl⟩
    ·simp only [F8,H6,F4,jI,↓XX,XY,↓reduceIte,seval,hi,↓Br (AO hg) (Bm _ _ _),↓Cd,↓Ag hb,hwc,hwi,↓Av hs,↓IL,↓QD,↓AJ,XD,heldB,AS,XE];refine hrec rest.length _ _ (by omega) ?_;refine ⟨pre++[.mk o p l],rest,by rw [hk];simp,rfl,rfl,.inr ⟨by simp,?_⟩⟩;rw [hx,hp0];rfl
    ·have hle:(Tm.shiftL op 0 pre d c).length+1<=1000000:=by rw [Eh];omega
     have hq:(Tm.shiftL op 0 pre d c).length=pre.length:=Eh ..;simp only [F8,H6,F4,jI,↓XX,XY,↓reduceIte,seval,hi,↓Br (AO hg) (Bm _ _ _),↓Cd,↓Ag hb,hwc,hwi,↓Av hs,↓IL,↓Ln hle,↓GZ,↓AJ,XD,heldB,AS,XE];refine hrec rest.length _ _ (by omega) ?_;refine ⟨pre++[.mk o p l],rest,by rw [hk];simp,rfl,rfl,.inr ⟨by simp,?_⟩⟩;rw [hx];simp only [List.length_append,Ah3,List.length_nil]
  by_cases h1:op=1
  ·by_cases h2:c<=m
   ·subst h1;simp only [F8,F4,jI,↓XX,XY,↓reduceIte,seval,h2,↓AJ,XD,heldB,AS,XE];exact main _ (by simp [h2])
   ·subst h1;simp only [F8,F4,jI,↓XX,XY,↓reduceIte,seval,h2,↓AJ,XD,heldB,AS,XE];exact main _ (by simp [h2])
  ·simp only [F8,F4,jI,↓XX,XY,↓reduceIte,seval,h1,↓AJ,XD,heldB,AS,XE];exact main _ (by simp [h1])
mutual
def Tm.subst:Tm->Int->Int->Tm->Tm
 | .mk op m ks,n,d,u=>if op=1 then (if m=n then u.shift d 0 else if n<m then .mk 1 (BF (m - 1)) [] else .mk op m ks) else .mk op m (Tm.substL op 0 ks n d u)
def Tm.substL:Int->Nat->List Tm->Int->Int->Tm->List Tm
 | _,_,[],_,_,_=>[]
 | op,i,t::l,n,d,u=>t.subst (n+Al op i) (d+Al op i) u::Tm.substL op (i+1) l n d u
end
theorem GE (op n d:Int) (u:Tm):∀(l:List Tm) (i:Nat),(Tm.substL op i l n d u).length=l.length
 | [],_=>rfl
 | _::l,i=>by simp only [Tm.substL,Ah3,GE op n d u l]
theorem MW (op n d:Int) (u:Tm):∀(l l':List Tm) (i:Nat),Tm.substL op i (l++l') n d u=Tm.substL op i l n d u++Tm.substL op (i+l.length) l' n d u
 | [],l',i=>by simp [Tm.substL]
 | t::l,l',i=>by simp only [List.cons_append,Tm.substL,MW op n d u l l',Ah3];congr 3;omega
theorem Z9 (u:Tm) (hu:u.wk) (huw:u.wt<=1152921504606846976):∀(n:Nat) (t:Tm) (c d:Int),t.wt+u.wt+3<n->t.wk->-1000000000<=c->c+2 * t.wt<=4611686018427387904->0<=d->d+2 * t.wt<=4611686018427387904 ->
  BC (SS dt n 69 [.fv t.enc,iv c,iv d,.fv u.enc] ⟨[],[]⟩) (t.subst c d u).enc:=by
 intro n
 induction n with
 | zero=>intro t c d h;omega
 | succ n ih =>
  intro t c d h hw hc0 hc hd0 hd;obtain ⟨op,m,ks⟩:=t;simp only [Tm.wt] at h hc hd;rw [Tm.wk] at hw;rw [c69,An];have hlen:=Dq ks;by_cases h1:op=1
  ·subst h1;have hsh:=CS n u d 0 (by omega) hu (by omega) (by omega);rw [Tm.subst,if_pos rfl];generalize u.shift d 0=z at hsh ⊢;obtain ⟨uo,un,uk⟩:=u;obtain ⟨zo,zn,zk⟩:=z;rw [An] at hsh ⊢;by_cases h2:m=c
   ·subst h2;simp only [↓bX,↓XX,XY,↓reduceIte,seval,↓Av hsh];simp only [↓bX,↓XX,XY,↓reduceIte,seval,An];exact Bp rfl _
   ·by_cases h3:c<m
    ·simp only [↓bX,↓XX,XY,↓reduceIte,seval,h2,h3,An];exact Bp rfl _
    ·simp only [↓bX,↓XX,XY,↓reduceIte,seval,h2,h3,An];exact Bp rfl _
  ·have main :
    BC (BK n (fun q l h=>HS l h (SS dt n) ⟨[],[]⟩ q) [iv c,iv d,.ptr (.own 72351744) 0,.ptr (.own 72351745) 0,.ptr (.own 72351746) 0,.ptr (.own 72358917) 0,iv 0]
     ⟨[(72351744,.row [iv op,iv m,.fv (.sl (ks.map Tm.enc))] false),(72351745,.row [iv u.op,iv u.n,.fv (.sl (u.kids.map Tm.enc))] false),(72351746,.row [iv 0,iv 0,.nils] false),(72358917,.row [iv op,iv m,.nils] false)],[]⟩)
      (Tm.mk op m (Tm.substL op 0 ks c d u)).enc:=by
    refine Be (Q:=fun r=>BC r _) (fun k V H=>∃pre rest,ks=pre++rest/\rest.length=k/\V=[iv c,iv d,.ptr (.own 72351744) 0,.ptr (.own 72351745) 0,.ptr (.own 72351746) 0,.ptr (.own 72358917) 0,iv pre.length] /\
     (
      (pre=[]/\H=⟨[(72351744,.row [iv op,iv m,.fv (.sl (ks.map Tm.enc))] false),(72351745,.row [iv u.op,iv u.n,.fv (.sl (u.kids.map Tm.enc))] false),(72351746,.row [iv 0,iv 0,.nils] false),(72358917,.row [iv op,iv m,.nils] false)],[]⟩) \/
      (
      pre≠[]/\H=⟨[(72351744,.row [iv op,iv m,.fv (.sl (ks.map Tm.enc))] false),(72351745,.row [iv u.op,iv u.n,.fv (.sl (u.kids.map Tm.enc))] false),(72351746,.row [iv 0,iv 0,.nils] false),
      (72358917,.row [iv op,iv m,.app (.own 72364048) ((Tm.substL op 0 pre c d u).map Tm.enc)] false),(72364048,.tok (Tm.substL op 0 pre c d u).length 3)],[]⟩)))
     ?_ n ks.length _ _ (by omega) ⟨[],ks,rfl,rfl,rfl,.inl ⟨rfl,rfl⟩⟩
    rintro k V H rec ⟨pre,rest,hk,hl,rfl,hH⟩ hrec;have hkl:ks.length=pre.length+rest.length:=by rw [hk];simp
    cases rest with
    | nil =>
     have hno:¬ ((pre.length:Int)<ks.length):=by rw [hkl];simp
     have hpre:ks=pre:=by simpa using hk
     rcases hH with ⟨rfl,rfl⟩ | ⟨_,rfl⟩
     ·subst hpre;simp only [H5,Ib,HS,H1,S69,↓XX,XY,↓reduceIte,seval,Int.lt_irrefl,Tm.substL,An];exact Bp rfl _
     ·subst hpre;simp only [H5,Ib,HS,H1,S69,↓XX,XY,↓reduceIte,seval,Int.lt_irrefl,An];exact Bp rfl _
    | cons t rest =>
     have hi:(pre.length:Int)<ks.length:=by rw [hkl];simp;omega
     have hg:=B2 hk;have htw:=Cb (t:=t) (l:=ks) (by rw [hk];simp);have hb:=Fl (n:=n) (by omega) op pre.length;have hble:=A0 op pre.length;have hs:=ih t (c+Al op pre.length) (d+Al op pre.length) (by omega) (Kc hw.2 (by rw [hk];simp)) (by omega) (by omega) (by omega) (by omega);have hx:Tm.substL op 0 (pre++[t]) c d u=Tm.substL op 0 pre c d u++[t.subst (c+Al op pre.length) (d+Al op pre.length) u]:=by rw [MW];simp [Tm.substL]
     have hwc:BF (c+Al op pre.length)=c+Al op pre.length:=by rw [Az]<;>omega
     have hwd:BF (d+Al op pre.length)=d+Al op pre.length:=by rw [Az]<;>omega
     have hwi:BF ((pre.length:Int)+1)=((pre++[t]).length:Int):=(Az (by omega) (by omega)).trans (by simp);generalize hv:t.subst (c+Al op pre.length) (d+Al op pre.length) u=v at hs hx;obtain ⟨o,p,l⟩:=t;simp only [Ah3] at hl;have hue:u.enc=.agg [.int .i64 u.op,.int .i64 u.n,.sl (u.kids.map Tm.enc)]:=by cases u;exact An ..
     rw [An,hue] at hs;rcases hH with ⟨hp0,rfl⟩ | ⟨hne,rfl⟩
     ·simp only [H5,Ib,HS,H1,S69,↓XX,XY,↓reduceIte,seval,hi,↓Br (AO hg) (Bm _ _ _),↓Cd,↓Ag hb,hwc,hwd,hwi,↓Au hs,↓IL,↓QD,↓AJ,XD,heldB,AS,XE];refine hrec rest.length _ _ (by omega) ?_;refine ⟨pre++[.mk o p l],rest,by rw [hk];simp,rfl,rfl,.inr ⟨by simp,?_⟩⟩;rw [hx,hp0];rfl
     ·have hle:(Tm.substL op 0 pre c d u).length+1<=1000000:=by rw [GE];omega
      simp only [H5,Ib,HS,H1,S69,↓XX,XY,↓reduceIte,seval,hi,↓Br (AO hg) (Bm _ _ _),↓Cd,↓Ag hb,hwc,hwd,hwi,↓Au hs,↓IL,↓Ln hle,↓GZ,↓AJ,XD,heldB,AS,XE];refine hrec rest.length _ _ (by omega) ?_;refine ⟨pre++[.mk o p l],rest,by rw [hk];simp,rfl,rfl,.inr ⟨by simp,?_⟩⟩;rw [hx];simp only [List.length_append,Ah3,List.length_nil]
   rw [Tm.subst,if_neg h1];obtain ⟨uo,un,uk⟩:=u;rw [An (op:=uo)];simp only [↓bX,↓XX,XY,↓reduceIte,seval,h1,↓AJ,XD,heldB,AS,XE];exact main
theorem L6 {n:Nat} (t u:Tm) (c:Int) (hu:u.wk) (huw:u.wt<=1152921504606846976) (h:t.wt+u.wt+4<n) (hw:t.wk) (hww:t.wt<=2305843009213693951) (h0:-1000000000<=c) (hc:c+2 * t.wt<=4611686018427387904) :
  BC (SS dt n 32 [.fv t.enc,iv c,.fv u.enc] ⟨[],[]⟩) (t.subst c 0 u).enc:=by
 obtain ⟨n,rfl⟩:=psc n (by omega);rw [c32];have hs:=Z9 u hu huw n t c 0 (by omega) hw h0 hc (by omega) (by omega);generalize t.subst c 0 u=v at hs ⊢;obtain ⟨o1,n1,k1⟩:=t;obtain ⟨o2,n2,k2⟩:=u;obtain ⟨o3,n3,k3⟩:=v;simp only [An] at hs ⊢;simp only [S32,↓XX,XY,↓reduceIte,seval,↓Au hs];exact Bp rfl _
mutual
def Tm.free:Tm->Int->Bool
 | .mk op m ks,c=>if op=1 then decide (m=c) else Tm.freeL op 0 ks c
def Tm.freeL:Int->Nat->List Tm->Int->Bool
 | _,_,[],_=>false
 | op,i,t::l,c=>t.free (c+Al op i) || Tm.freeL op (i+1) l c
end
theorem XF:∀(n:Nat) (t:Tm) (c:Int),t.wt+1<n->t.wt<=1152921504606846976->-1000000000<=c->c+2 * t.wt<=461168601842738->BC (SS dt n 88 [.fv t.enc,iv c] ⟨[],[]⟩) (.bool (t.free c)):=by
 intro n
 induction n with
 | zero=>intro t c h;omega
 | succ n ih =>
  intro t c h hw hc0 hc;obtain ⟨op,m,ks⟩:=t;simp only [Tm.wt] at h hw hc;rw [c88,An];have hlen:=Dq ks;by_cases h1:op=1
  ·subst h1;rw [Tm.free,if_pos rfl];simp only [KN,tC,↓XX,XY,↓reduceIte,seval];exact Ay _ _
  ·rw [Tm.free,if_neg h1];simp only [KN,tC,↓XX,XY,↓reduceIte,seval,h1];refine Be (Q:=fun r=>BC r _) (fun k V H=>∃pre rest,ks=pre++rest/\rest.length=k/\V=[iv c,.ptr (.own 92274688) 0,iv pre.length]/\H=⟨[(92274688,.row [iv op,iv m,.fv (.sl (ks.map Tm.enc))] false)],[]⟩/\Tm.freeL op pre.length rest c=Tm.freeL op 0 ks c)
    ?_ n ks.length _ _ (by omega) ⟨[],ks,rfl,rfl,rfl,rfl,rfl⟩
   rintro k V H rec ⟨pre,rest,hk,hl,rfl,rfl,ht⟩ hrec;have hkl:ks.length=pre.length+rest.length:=by rw [hk];simp
   cases rest with
   | nil =>
    have hno:¬ ((pre.length:Int)<ks.length):=by rw [hkl];simp
    rw [<- ht];simp only [KN,OV,tC,↓XX,XY,↓reduceIte,seval,hno,Tm.freeL];exact Ay _ _
   | cons t rest =>
    have hi:(pre.length:Int)<ks.length:=by rw [hkl];simp;omega
    have hg:=B2 hk;have htw:=Cb (t:=t) (l:=ks) (by rw [hk];simp);have hb:=Fl (n:=n) (by omega) op pre.length;have hble:=A0 op pre.length;have hs:=ih t (c+Al op pre.length) (by omega) (by omega) (by omega) (by omega);have hwc:BF (c+Al op pre.length)=c+Al op pre.length:=by rw [Az]<;>omega
    have hwi:BF ((pre.length:Int)+1)=((pre++[t]).length:Int):=(Az (by omega) (by omega)).trans (by simp);simp only [Tm.freeL] at ht;generalize t.free (c+Al op pre.length)=v at hs ht;obtain ⟨o,p,l⟩:=t;simp only [Ah3] at hl;rw [An] at hs;cases v
    ·simp only [KN,OV,tC,↓XX,XY,↓reduceIte,seval,hi,↓Br (AO hg) (Bm _ _ _),↓Cd,↓Ag hb,hwc,hwi,↓Ag hs];refine hrec rest.length _ _ (by omega) ?_;exact ⟨pre++[.mk o p l],rest,by rw [hk];simp,rfl,rfl,rfl,by simpa using ht⟩
    ·rw [<- ht];simp only [KN,OV,tC,↓XX,XY,↓reduceIte,seval,hi,↓Br (AO hg) (Bm _ _ _),↓Cd,↓Ag hb,hwc,hwi,↓Ag hs,Bool.true_or];exact Ay _ _
mutual
def Tm.same:Tm->Tm->Bool
 | .mk o n l,.mk o' n' l'=>decide (o=o') && (decide (n=n') && (decide (l.length=l'.length) && Tm.sameL l l'))
def Tm.sameL:List Tm->List Tm->Bool
 | a::l,b::l'=>a.same b && Tm.sameL l l'
 | _,_=>true
end
mutual
theorem J3:∀a b:Tm,a.same b=true ↔ a=b
 | .mk o n l,.mk o' n' l'=>by
  simp only [Tm.same,Bool.and_eq_true,decide_eq_true_eq,Tm.mk.injEq];constructor
  ·rintro ⟨rfl,rfl,h1,h2⟩;exact ⟨rfl,rfl,(sameL_eq l l' h1).1 h2⟩
  ·rintro ⟨rfl,rfl,rfl⟩;exact ⟨rfl,rfl,rfl,(sameL_eq l l rfl).2 rfl⟩
theorem sameL_eq:∀l l':List Tm,l.length=l'.length->(Tm.sameL l l'=true ↔ l=l')
 | [],[],_=>by simp [Tm.sameL]
 | a::l,b::l',h=>by
  simp only [Tm.sameL,Bool.and_eq_true,List.cons.injEq,J3 a b,sameL_eq l l' (by simpa using h)]
end
theorem Lz:∀(n:Nat) (a b:Tm),a.wt+1<n->a.wt<=1152921504606846976->BC (SS dt n 23 [.fv a.enc,.fv b.enc] ⟨[],[]⟩) (.bool (a.same b)):=by
 intro n
 induction n with
 | zero=>intro a b h;omega
 | succ n ih =>
  intro a b h hw;obtain ⟨op,m,ks⟩:=a;obtain ⟨op',m',ks'⟩:=b;simp only [Tm.wt] at h hw;rw [c23,An,An];have hlen:=Dq ks;rw [Tm.same];by_cases h1:op=op'
  ·by_cases h2:m=m'
   ·by_cases h3:ks.length=ks'.length
    ·have h3':(ks.length:Int)=ks'.length:=by omega
     subst h1 h2;simp only [FQ,F6,jX,↓XX,XY,↓reduceIte,seval,h3,h3',Tm.same];refine Be (Q:=fun r=>BC r _) (fun k V H=>∃pre rest pre' rest',ks=pre++rest/\ks'=pre'++rest'/\pre.length=pre'.length/\rest.length=k/\V=[.ptr (.own 24117248) 0,.ptr (.own 24117249) 0,iv pre.length] /\
      H=⟨[(24117248,.row [iv op,iv m,.fv (.sl (ks.map Tm.enc))] false),(24117249,.row [iv op,iv m,.fv (.sl (ks'.map Tm.enc))] false)],[]⟩/\Tm.sameL rest rest'=Tm.sameL ks ks')
      ?_ n ks.length _ _ (by omega) ⟨[],ks,[],ks',rfl,rfl,rfl,rfl,rfl,rfl,rfl⟩
     rintro k V H rec ⟨pre,rest,pre',rest',hk,hk',hpl,hl,rfl,rfl,ht⟩ hrec;have hkl:ks.length=pre.length+rest.length:=by rw [hk];simp
     have hkl':ks'.length=pre'.length+rest'.length:=by rw [hk'];simp
     cases rest with
     | nil =>
      have hno:¬ ((pre.length:Int)<ks.length):=by rw [hkl];simp
      rw [<- ht];simp only [FQ,Lr,F6,jX,↓XX,XY,↓reduceIte,seval,hno,Tm.sameL];exact Ay _ _
     | cons t rest =>
      cases rest' with
      | nil=>simp at hkl hkl';omega
      | cons t' rest' =>
       have hi:(pre.length:Int)<ks.length:=by rw [hkl];simp;omega
       have hg:=B2 hk;have hg':=B2 hk';rw [<- hpl] at hg';have htw:=Cb (t:=t) (l:=ks) (by rw [hk];simp);have hs:=ih t t' (by omega) (by omega);have hwi:BF ((pre.length:Int)+1)=((pre++[t]).length:Int):=(Az (by omega) (by omega)).trans (by simp);simp only [Tm.sameL] at ht;generalize t.same t'=v at hs ht;obtain ⟨o,p,l⟩:=t;obtain ⟨o',p',l'⟩:=t';simp only [Ah3] at hl;rw [An,An] at hs;cases v
       ·rw [<- ht];simp only [FQ,Lr,F6,jX,↓XX,XY,↓reduceIte,seval,hi,↓Br (AO hg) (Bm _ _ _),↓Br (AO hg') (Bm _ _ _),↓Cd,↓Ag hs,Bool.false_and];exact Ay _ _
       ·simp only [FQ,Lr,F6,jX,↓XX,XY,↓reduceIte,seval,hi,↓Br (AO hg) (Bm _ _ _),↓Br (AO hg') (Bm _ _ _),↓Cd,hwi,↓Ag hs];refine hrec rest.length _ _ (by omega) ?_;exact ⟨pre++[.mk o p l],rest,pre'++[.mk o' p' l'],rest',by rw [hk];simp,by rw [hk'];simp,by simp [hpl],rfl,rfl,rfl,by simpa using ht⟩
    ·have h3':¬ (ks.length:Int)=ks'.length:=by omega
     simp only [FQ,F6,jX,↓XX,XY,↓reduceIte,seval,h1,h2,h3,h3'];exact Ay _ _
   ·simp only [FQ,F6,jX,↓XX,XY,↓reduceIte,seval,h1,h2];exact Ay _ _
  ·simp only [FQ,F6,jX,↓XX,XY,↓reduceIte,seval,h1];exact Ay _ _
section
variable {β:Type} {E:Env}
def qB (cs:List IV) (k:List FV->Option β):Option β:=(Du cs).bind k
theorem mL {t e:TypeId} {a b:Nat} {ei:TI} {z:List IV} (hT:E.T t=some ⟨a,b,.slice e,z⟩) (he:E.T e=some ei) (hs:ei.size=1) (hz:∃x,ei.zero=[x]) (r s:Nat) (own:List (Nat×Blk)) (ext:List Blk)
  (hc:∀cells ro,Aq r own=some (.row cells ro)->cells.length<=100) (hk:∀cells ro,Aq r own=some (.row cells ro)->∃fc,Du cells=some fc) (k:KT β) :
  AA (Am E t 1 [(0,.ptr (.own r) 0)]) s ⟨own,ext⟩ k=EW own r fun bl=>D4 bl fun cells=>qB cells fun fc=>Bf own r (.row cells true) fun own=>k (.clip [.fp fc 0]) ⟨own,ext⟩ [.own r] [.own r]:=by
 obtain ⟨x,hx⟩:=hz;have hm:Am E t 1 [(0,.ptr (.own r) 0)]=(frzL (65534+1+1) [.ptr (.own r) 0]).bind fun (vs,u)=>.ret { eff:={ val:=.clip (Ce ei.size 1 vs),upd:=u } }:=by
  have h1:¬ (ei.size=0\/1 * ei.size > 65536):=by rw [hs];omega
  have h2:CQ (fun j=>some (j * ei.size,ei.size)) (Nz 1 ei.zero) [(0,.ptr (.own r) 0)]=some [.ptr (.own r) 0]:=by rw [hx,hs];rfl
  simp only [Am,hT,he,if_neg h1,h2]
 rw [hm,BB];unfold AA;cases hl:Aq r own with
 | none =>
  have:((frzL (65534+1+1) [.ptr (.own r) 0]).bind fun (vs,u)=>Rd.ret ({ eff:={ val:=.clip (Ce ei.size 1 vs),upd:=u } }:Made)).runLog ⟨own,ext⟩ []=none:=by simp only [frzL,Db,Rd.bind,Rd.runLog,Hp.get,hl]
  rw [this];rfl
 | some bl =>
  cases bl with
  | row cells ro =>
   obtain ⟨fc,hfc⟩:=hk cells ro hl;have hlen:=hc cells ro hl;have h3:frzL 65534 cells=.ret (fc,[]):=Uz cells 65534 (by omega) hfc
   have:((frzL (65534+1+1) [.ptr (.own r) 0]).bind fun (vs,u)=>Rd.ret ({ eff:={ val:=.clip (Ce ei.size 1 vs),upd:=u } }:Made)).runLog ⟨own,ext⟩ [] =
     some ({ eff:={ val:=.clip (Ce ei.size 1 [.fp fc 0]),upd:=[(.own r,.row cells true)] } },[.own r]):=by
    simp only [frzL,Db,Rd.bind,Rd.runLog,Hp.get,hl,h3,List.append_nil]
   rw [this];simp only [Option.bind_some,D4,qB,hfc,hs]
   show (dG (.own r) fun q=>Dr q ⟨own,ext⟩ fun _=>XL (.row cells true) fun b=>FJ q b ⟨own,ext⟩ fun h=>Hy none s h fun h=>fV 3 (.clip [.fp fc 0]) fun v=>k v h [.own r] ([.own r]++[]))=_
   simp only [MQ,CB,Cm,Hy,FJ,Dr];rw [BB,hl];rfl
  | tok n sz =>
   have:((frzL (65534+1+1) [.ptr (.own r) 0]).bind fun (vs,u)=>Rd.ret ({ eff:={ val:=.clip (Ce ei.size 1 vs),upd:=u } }:Made)).runLog ⟨own,ext⟩ []=none:=by simp only [frzL,Db,Rd.bind,Rd.runLog,Hp.get,hl]
   rw [this];rfl
  | map es =>
   have:((frzL (65534+1+1) [.ptr (.own r) 0]).bind fun (vs,u)=>Rd.ret ({ eff:={ val:=.clip (Ce ei.size 1 vs),upd:=u } }:Made)).runLog ⟨own,ext⟩ []=none:=by simp only [frzL,Db,Rd.bind,Rd.runLog,Hp.get,hl]
   rw [this];rfl
theorem Abv {t e:TypeId} {a b:Nat} {ei:TI} {z:List IV} (hT:E.T t=some ⟨a,b,.slice e,z⟩) (he:E.T e=some ei) (hs:ei.size=1) (hz:∃x,ei.zero=[x]) {r:Nat} {own own':List (Nat×Blk)} {cells:List IV} {ro:Bool} {fc:List FV}
  (hl:Aq r own=some (.row cells ro)) (hf:Du cells=some fc) (hn:cells.length<=100) (ho:AQ r (.row cells true) own=own') (s:Nat) (ext:List Blk) (k:KT β) :
  AA (Am E t 1 [(0,.ptr (.own r) 0)]) s ⟨own,ext⟩ k=k (.clip [.fp fc 0]) ⟨own',ext⟩ [.own r] [.own r]:=by
 have h1:∀cells' ro',Aq r own=some (.row cells' ro')->cells'=cells:=fun c r h=>by rw [hl] at h;cases h;rfl
 rw [mL hT he hs hz r s own ext (fun c r h=>by rw [h1 c r h];exact hn) (fun c r h=>by rw [h1 c r h];exact ⟨fc,hf⟩),BB,hl];simp only [Option.bind_some,D4,qB,hf,BO,ho]
def By (r:Option (IV×Hp)) (w:FV) (ext:List Blk):Prop:=∃v own,r=some (v,⟨own,ext⟩) /\
 ∃u lg,∀(e:Option (IV×Hp)) (K:FV->List (Ref×Blk)->List Ref->Option (IV×Hp)),DB 12 v ⟨own,ext⟩ [] e K=K w u lg
theorem AK (w:FV) (own:List (Nat×Blk)) (ext:List Blk):By (some (.fv w,⟨own,ext⟩)) w ext:=⟨_,own,rfl,[],[],fun _ _=>rfl⟩
theorem EO {v:IV} {w:FV} (hz:Bg v=some w) (own:List (Nat×Blk)) (ext:List Blk):By (some (v,⟨own,ext⟩)) w ext:=⟨_,own,rfl,[],[],fun e K=>G6 _ _ e K hz⟩
theorem Kh:∀l:List FV,CW (l.map .fv) []=[]
 | []=>rfl
 | v::l=>by
  show RL (.fv v) (CW (l.map .fv) [])=[]
  rw [Kh l];rfl
theorem Aaf (n j:Nat) (t:List Ref) (s:Nat) (rest:List Blk):Nh (n+1) (.ext j::t) s rest=cond (Nat.ble (Nat.succ j) s) (Nh n t s rest) (cond (Nat.beq j s) (goR (Nh n) t s rest) false):=rfl
theorem yX (n s:Nat):Nh (n+1) [] s []=true:=rfl
theorem Qp (st:List FV):Nh 400 [.ext 0] 0 [.row (st.map .fv) false]=true:=by
 rw [show (400:Nat)=398+1+1 from rfl,Aaf]
 show goR (Nh (398+1)) [] 0 [.row (st.map .fv) false]=true
 show Nh (398+1) ([]++ES (.row (st.map .fv) false)) 1 []=true
 rw [show ES (.row (st.map .fv) false)=CW (st.map .fv) [] from rfl,Kh]
 exact yX 398 1
theorem QB (st:List FV):Yn 1 [.row (st.map .fv) false]=true:=by
 show cond (xN 1 (ES (.row (st.map .fv) false))) true false=true
 rw [show ES (.row (st.map .fv) false)=CW (st.map .fv) [] from rfl,Kh]
 rfl
theorem gb3 (a b c:FV):Nh 400 [.ext 0] 0 [.row [.fv a,.fv b,.fv c] false]=true:=Qp [a,b,c]
theorem ob3 (a b c:FV):Yn 1 [.row [.fv a,.fv b,.fv c] false]=true:=QB [a,b,c]
theorem gb2 (a b:FV):Nh 400 [.ext 0] 0 [.row [.fv a,.fv b] false]=true:=Qp [a,b]
theorem ob2 (a b:FV):Yn 1 [.row [.fv a,.fv b] false]=true:=QB [a,b]
theorem PS {r1:Ref} {rs1:List Ref} {ih:Ai} {f:FuncId} {vs:List IV} {w:FV} {ext ext':List Blk} (hr:By (ih f vs ⟨[],ext⟩) w ext') (hg:Nh 400 (r1::rs1) 0 ext=true) (hl:ext'.length=ext.length) (ho:Yn ext.length ext'=true)
  (own:List (Nat×Blk)) (r0:Option (IV×Hp)) (u:List (Ref×Blk)) (lg:List Ref) (e:Option (IV×Hp)) (k:KT (IV×Hp)) :
  Qj (
     r1::rs1) r0 ⟨own,ext⟩ u lg e (fun rs=>match rs with
   | []=>none
   | r::rs=>(match (⟨own,ext⟩:Hp) with
    | ⟨own,ext⟩=>cond (Nh 400 (r::rs) 0 ext) (match ih f vs ⟨[],ext⟩ with
     | none=>none
     | some p=>match p with
      | (v,h')=>match h' with
       | ⟨own',ext'⟩=>cond (and (Nat.beq ext'.length ext.length) (Yn ext.length ext'))
        (DB 12 v ⟨own',ext'⟩ [] e fun w _ _=>Kq u ⟨own,ext'⟩ fun h2=>k (.fv w) h2 ((C6 ext.length).reverse++lg) (Bz u++C6 ext.length)) none)
     e)) k=Kq u ⟨own,ext'⟩ fun h2=>k (.fv w) h2 ((C6 ext.length).reverse++lg) (Bz u++C6 ext.length):=by
 obtain ⟨v,own',e1,u',lg',hz⟩:=hr;simp only [Qj,hg,e1,hl,ho];rw [show (Nat.beq ext.length ext.length && true)=true by rw [Bool.and_true];exact Nat.beq_refl _,cond_true,hz]
 rfl
structure OneX (ext ext':List Blk):Prop where
 g:Nh 400 [.ext 0] 0 ext=true
 l:ext.length=1
 l':ext'.length=1
 o:Yn 1 ext'=true
theorem CH (a b c a' b' c':FV):OneX [.row [.fv a,.fv b,.fv c] false] [.row [.fv a',.fv b',.fv c'] false]:=⟨gb3 ..,rfl,rfl,ob3 ..⟩
theorem yK (a b a' b':FV):OneX [.row [.fv a,.fv b] false] [.row [.fv a',.fv b'] false]:=⟨gb2 ..,rfl,rfl,ob2 ..⟩
theorem LW (x:Nat):∀(args:List IV) {vs:List FV} (h:Hp) (lg:List Ref) (e:Option β) (k:List IV->List Ref->List (Ref×Blk)->List Ref->Option β) (ks:List Bool),(∀b∈ks,b=false)->Bx args=some vs ->
  So args ks h lg e k=k (vs.map .fv) [] [] lg
 | [],vs,h,lg,e,k,ks,_,hz=>by cases hz;rfl
 | v::l,vs,h,lg,e,k,[],_,hz=>eI (v::l) h lg e k hz
 | v::l,vs,h,lg,e,k,b::ks,hk,hz=>by
  have hb:=hk b List.mem_cons_self;subst hb;simp only [Bx] at hz;cases h1:Bg v with
  | none=>rw [h1] at hz;cases hz
  | some x' =>
   rw [h1] at hz;cases h2:Bx l with
   | none=>rw [h2] at hz;cases hz
   | some ys =>rw [h2] at hz;cases hz;rw [PL,G6 h lg e _ h1,LW x l h lg e _ ks (fun c hc=>hk c (List.mem_cons_of_mem _ hc)) h2];rfl
theorem Zn {ks:List Bool} (hks:∀b∈ks,b=false) {ih:Ai} {f:FuncId} {args:List IV} {vs:List FV} {w:FV} {ext ext':List Blk} (hz:Bx args=some vs) (X:OneX ext ext') (hr:By (ih f (.ptr (.ext 0) 0::vs.map .fv) ⟨[],ext⟩) w ext')
  (own:List (Nat×Blk)) (k:KT (IV×Hp)):A5 (true::ks) false false ih f (.ptr (.ext 0) 0::args) ⟨own,ext⟩ k=k (.fv w) ⟨own,ext'⟩ [.ext 0] [.ext 0]:=by
 rw [JJ,TN,Pg,LW 0 args _ _ _ _ ks hks hz]
 have:=PS (r1:=.ext 0) (rs1:=[]) hr X.g (by rw [X.l,X.l']) (by rw [X.l];exact X.o) own (ih f (.ptr (.ext 0) 0::vs.map .fv) ⟨[],[]⟩) [] [] (Ec (true::ks) false false ih f (.ptr (.ext 0) 0::args) ⟨own,ext⟩ k) k
 refine this.trans ?_;rw [X.l];rfl
theorem DQ {ih:Ai} {f:FuncId} {w:FV} {ext ext':List Blk} (hr:By (ih f [.ptr (.ext 0) 0] ⟨[],ext⟩) w ext') (X:OneX ext ext') (own:List (Nat×Blk)) (k:KT (IV×Hp)) :
  A5 [true] false false ih f [.ptr (.ext 0) 0] ⟨own,ext⟩ k=k (.fv w) ⟨own,ext'⟩ [.ext 0] [.ext 0]:=Zn (ks:=[]) (by simp) (vs:=[]) rfl X hr own k
theorem IM {ih:Ai} {f:FuncId} {a b:IV} {x y w:FV} {ext ext':List Blk} (hr:By (ih f [.ptr (.ext 0) 0,.fv x,.fv y] ⟨[],ext⟩) w ext') (X:OneX ext ext') (ha:Bg a=some x) (hb:Bg b=some y) (own:List (Nat×Blk))
  (k:KT (IV×Hp)):A5 [true,false,false] false false ih f [.ptr (.ext 0) 0,a,b] ⟨own,ext⟩ k=k (.fv w) ⟨own,ext'⟩ [.ext 0] [.ext 0]:=Zn (ks:=[false,false]) (by simp) (SW ha hb) X hr own k
theorem Zk {ih:Ai} {f:FuncId} {a b c:IV} {x y z w:FV} {ext ext':List Blk} (hr:By (ih f [.ptr (.ext 0) 0,.fv x,.fv y,.fv z] ⟨[],ext⟩) w ext') (X:OneX ext ext') (ha:Bg a=some x) (hb:Bg b=some y) (hc:Bg c=some z)
  (own:List (Nat×Blk)) (k:KT (IV×Hp)):A5 [true,false,false,false] false false ih f [.ptr (.ext 0) 0,a,b,c] ⟨own,ext⟩ k=k (.fv w) ⟨own,ext'⟩ [.ext 0] [.ext 0] :=
 Zn (ks:=[false,false,false]) (by simp) (YN ha hb hc) X hr own k
theorem O4 {ih:Ai} {f:FuncId} {s:Nat} {own:List (Nat×Blk)} {cells:List IV} {ro:Bool} {fc:List FV} {w:FV} {ext ext':List Blk} (hr:By (ih f [.ptr (.ext 0) 0,.fv (.fp fc 0)] ⟨[],ext⟩) w ext') (X:OneX ext ext')
  (hl:Aq s own=some (.row cells ro)) (hz:Du cells=some fc) (hn:cells.length<=300) (k:KT (IV×Hp)) :
  A5 [true,false] false false ih f [.ptr (.ext 0) 0,.ptr (.own s) 0] ⟨own,ext⟩ k=k (.fv w) ⟨AQ s (.row cells true) own,ext'⟩ [.ext 0,.own s] [.own s,.ext 0]:=by
 rw [JJ,TN,Pg,PL,SE,J7,BB,hl];simp only [Option.bind_some,Hn];rw [Bq,decide_eq_true hn,fX,Vn 10 _ _ _ cells _ hz,rJ]
 have:=PS (r1:=.ext 0) (rs1:=[]) hr X.g (by rw [X.l,X.l']) (by rw [X.l];exact X.o) own (ih f [.ptr (.ext 0) 0,.fv (.fp fc 0)] ⟨[],[]⟩) [(.own s,.row cells true)] [.own s] (Ec [true,false] false false ih f [.ptr (.ext 0) 0,.ptr (.own s) 0] ⟨own,ext⟩ k) k
 refine this.trans ?_;rw [X.l]
 show (EW own s fun _=>Bf own s (.row cells true) fun own=>k (.fv w) ⟨own,ext'⟩ [.ext 0,.own s] [.own s,.ext 0])=_
 rw [BB,hl,Option.bind_some,BO]
end
inductive RV where
 | mk (op n:Int) (k env:List RV) (b:Tm)
def Tm.z:Tm:=.mk 0 0 []
def RV.enc:RV->FV
 | .mk op n k env (.mk bo bn bk)=>.fp [.int .i64 op,.int .i64 n,.sl (encL k),.sl (encL env),.int .i64 bo,.int .i64 bn,.sl (bk.map Tm.enc)] 0
where
 encL:List RV->List FV
  | []=>[]
  | v::l=>v.enc::encL l
theorem ZL (l:List RV):RV.enc.encL l=l.map RV.enc:=by
 induction l with
 | nil=>rfl
 | cons t l ih=>simp [RV.enc.encL,ih]
def HZ (op n:Int) (k env:List RV) (bo bn:Int) (bk:List Tm):(RV.mk op n k env (.mk bo bn bk)).enc =
  .fp [.int .i64 op,.int .i64 n,.sl (k.map RV.enc),.sl (env.map RV.enc),.int .i64 bo,.int .i64 bn,.sl (bk.map Tm.enc)] 0:=by simp only [RV.enc,ZL]
def RV.op:RV->Int
 | .mk op _ _ _ _=>op
def RV.n:RV->Int
 | .mk _ n _ _ _=>n
def RV.k:RV->List RV
 | .mk _ _ k _ _=>k
def RV.env:RV->List RV
 | .mk _ _ _ env _=>env
def RV.b:RV->Tm
 | .mk _ _ _ _ b=>b
def RV.var (n:Int):RV:=.mk 1 n [] [] .z
def RV.clo (env:List RV) (b:Tm):RV:=.mk 0 0 [] env b
def RV.zero:RV:=.mk 11 0 [] [] .z
def RV.node (op n:Int) (k:List RV):RV:=.mk op n k [] .z
def Lv (v:RV):v.enc=.fp [.int .i64 v.op,.int .i64 v.n,.sl (v.k.map RV.enc),.sl (v.env.map RV.enc),.int .i64 v.b.op,.int .i64 v.b.n,.sl (v.b.kids.map Tm.enc)] 0:=by obtain ⟨op,n,k,env,⟨bo,bn,bk⟩⟩:=v;exact HZ ..
def Sx (t:Tm):Tm.enc t=.agg [.int .i64 t.op,.int .i64 t.n,.sl (t.kids.map Tm.enc)]:=by cases t;exact An ..
def Mk (v:RV):v.enc.cells.length=1:=by obtain ⟨op,n,k,env,⟨bo,bn,bk⟩⟩:=v;rfl
def R6 (v:RV):v.enc.cells.all FV.one=true:=by obtain ⟨op,n,k,env,⟨bo,bn,bk⟩⟩:=v;rfl
def Yd (v:RV):v.enc.cells=[v.enc]:=by obtain ⟨op,n,k,env,⟨bo,bn,bk⟩⟩:=v;rfl
def xQ:EE.T 110=some ⟨1,24,.slice 91,[.nils]⟩:=by kernel_rfl
def xU:EE.T 91=some ⟨1,8,.ptr,[.fv .nilp]⟩:=by kernel_rfl
def sV:SliceT EE 110 1:=⟨_,_,_,_,_,xQ,xU,rfl,by decide,by decide⟩
theorem Is (l:List RV):BG 1 (l.map RV.enc)=true:=by
 cases l with
 | nil=>rfl
 | cons a l=>simp only [Ah5,BG,Mk,beq_self_eq_true]
def oN (s:Nat) (h:Hp) (k:KT (IV×Hp)):AA (Am EE 110 0 []) s h k=k (.clip []) h [] [] :=Cx xQ xU (by decide) (cells:=[]) rfl k
def Ra (a:RV) (s:Nat) (h:Hp) (k:KT (IV×Hp)):AA (Am EE 110 1 [(0,.fv a.enc)]) s h k=k (.clip [a.enc]) h [] []:=by obtain ⟨op,n,kk,env,⟨bo,bn,bk⟩⟩:=a;rw [HZ];exact Cx xQ xU (by decide) (cells:=[.fp [.int .i64 op,.int .i64 n,.sl (kk.map RV.enc),.sl (env.map RV.enc),.int .i64 bo,.int .i64 bn,.sl (bk.map Tm.enc)] 0]) rfl k
def Aal (a b:RV) (s:Nat) (h:Hp) (k:KT (IV×Hp)):AA (Am EE 110 2 [(0,.fv a.enc),(1,.fv b.enc)]) s h k=k (.clip [a.enc,b.enc]) h [] []:=by obtain ⟨op,n,kk,env,⟨bo,bn,bk⟩⟩:=a;obtain ⟨op',n',kk',env',⟨bo',bn',bk'⟩⟩:=b;rw [HZ,HZ];exact Cx xQ xU (by decide) (cells:=[.fp [.int .i64 op,.int .i64 n,.sl (kk.map RV.enc),.sl (env.map RV.enc),.int .i64 bo,.int .i64 bn,.sl (bk.map Tm.enc)] 0,.fp [.int .i64 op',.int .i64 n',.sl (kk'.map RV.enc),.sl (env'.map RV.enc),.int .i64 bo',.int .i64 bn',.sl (bk'.map Tm.enc)] 0]) rfl k
def Abw (a b c d:RV) (s:Nat) (h:Hp) (k:KT (IV×Hp)):AA (Am EE 110 4 [(0,.fv a.enc),(1,.fv b.enc),(2,.fv c.enc),(3,.fv d.enc)]) s h k =
  k (.clip [a.enc,b.enc,c.enc,d.enc]) h [] []:=by
 have key:∀x:RV,∃l,x.enc=.fp l 0:=fun x=>⟨_,Lv x⟩;obtain ⟨la,ha⟩:=key a;obtain ⟨lb,hb⟩:=key b;obtain ⟨lc,hc⟩:=key c;obtain ⟨ld,hd⟩:=key d;rw [ha,hb,hc,hd];exact Cx xQ xU (by decide) (cells:=[.fp la 0,.fp lb 0,.fp lc 0,.fp ld 0]) rfl k
def Za (e:RV) (s:Nat) (own:List (Nat×Blk)) (ext:List Blk) (k:KT (IV×Hp)) :
  AA (AU EE s false .append [110,110] [.nils,.clip [e.enc]]) s ⟨own,ext⟩ k=CV own s (Bf own s (.tok 1 1) fun own=>k (.app (.own s) [e.enc]) ⟨own,ext⟩ [] [.own s]) :=
 HA sV (.clip _) (Is [e]) rfl (by simp) (.inl rfl) s own ext k
def SV {es:List RV} (hb:es.length+1<=1000000) (e:RV) (r s:Nat) (own:List (Nat×Blk)) (ext:List Blk) (k:KT (IV×Hp)) :
  AA (AU EE s false .append [110,110] [.app (.own r) (es.map RV.enc),.clip [e.enc]]) s ⟨own,ext⟩ k =
   EW own r fun b=>ZX b es.length 1 (Bf own r (.tok (es.length+1) 1) fun own=>k (.app (.own r) ((es++[e]).map RV.enc)) ⟨own,ext⟩ [.own r] [.own r]):=by
 rw [NQ sV (.clip [e.enc]) (Is [e]) (Is es) (by simp [R6]) (by simpa using hb) r s own ext k];simp only [List.length_map,List.map_append,Ah5,Ah4,Ah3,List.length_nil,Nat.zero_add]
theorem Pz {n:Nat} (hn:0<n) (env vs:List RV) (hv:vs≠[]) (hb:env.length+vs.length<=1000000):BC (SS dt n 86 [.fv (.sl (env.map RV.enc)),.fv (.sl (vs.map RV.enc))] ⟨[],[]⟩) (.sl ((env++vs).map RV.enc)):=by
 obtain ⟨n,rfl⟩:=psc n (by omega);rw [c86];have hvs:(vs.map RV.enc).isEmpty=false:=by cases vs with
  | nil=>exact absurd rfl hv
  | cons _ _=>rfl
 cases env with
 | nil =>simp only [S86,↓XX,XY,↓reduceIte,seval,↓oN,↓dZ sV (.sl []) (.inr rfl),↓HA sV (.sl (vs.map RV.enc)) (Is vs) hvs (by simp;simp at hb;omega) (.inr rfl),List.nil_append];exact Bp rfl _
 | cons a env =>simp only [S86,↓XX,XY,↓reduceIte,seval,↓oN];have h1:((a::env).map RV.enc).isEmpty=false:=rfl;have h0:=fun {β:Type}=>HA (β:=β) sV (.sl ((a::env).map RV.enc)) (Is (a::env)) h1 (by simp only [List.length_map];omega) (.inr rfl:IV.clip []=.nils\/IV.clip []=.clip []);have h2:=fun {β:Type}=>NQ (β:=β) sV (.sl (vs.map RV.enc)) (Is vs) (Is (a::env)) (by simp [R6]) (by simp only [List.length_map];omega);simp only [Ah5] at h0 h2;simp only [↓XX,XY,↓reduceIte,seval,↓h0,↓h2,↓GZ,List.map_append,List.cons_append];exact Bp rfl _
def ZH {n:Nat} (hn:0<n) (s nd:Int) (h1:s<=1000000) (h0:0<=s):By (SS dt n 116 [.ptr (.ext 0) 0] ⟨[],[.row [iv s,iv nd,iv 0] false]⟩) (.bool (decide (s+1<=1000)))
  [.row [iv (s+1),iv nd,iv (if s+1<=1000 then 0 else 17)] false]:=by
 obtain ⟨n,rfl⟩:=psc n (by omega);rw [Ads];have hw:BF (s+1)=s+1:=by rw [Az]<;>omega
 by_cases h:s+1<=1000
 ·have h':¬ 1000<s+1:=by omega
  simp only [gN,↓XX,XY,↓reduceIte,seval,hw,h,h'];exact AK _ _ _
 ·have h':1000<s+1:=by omega
  simp only [gN,↓XX,XY,↓reduceIte,seval,hw,h,h'];exact AK _ _ _
def A7 (ev:Int->Int->Tm->Option (RV×Int×Int)) (op:Int) (env:List RV):Nat->List Tm->Int->Int->Option (List RV×Int×Int)
 | _,[],s,e=>some ([],s,e)
 | i,t::l,s,e=>if 0<Al op i then (A7 ev op env (i+1) l s e).map fun (vs,s,e)=>(.clo env t::vs,s,e) else
  match ev s e t with
  | none=>none
  | some (v,s,e)=>(A7 ev op env (i+1) l s e).map fun (vs,s,e)=>(v::vs,s,e)
mutual
def AC:Nat->Int->Int->Tm->List RV->Option (RV×Int×Int)
 | 0,_,_,_,_=>none
 | f+1,s,e,.mk op m ks,env =>
  if e≠0 then some (.zero,s,e) else if 900000<env.length then none else
  if op=1 then
   if m<env.length then (if 0<=m then (env[(env.length - 1 - m).toNat]?).map fun v=>(v,s,e) else none)
   else if m<=4611686018427387904 then some (.var (env.length - 1 - m),s,e) else none
  else if f<=ks.length then none else if 900000<ks.length then none else
  match A7 (fun s e t=>AC f s e t env) op env 0 ks s e with
  | none=>none
  | some (vs,s,e)=>headR f s e (.node op m vs)
def headR:Nat->Int->Int->RV->Option (RV×Int×Int)
 | 0,_,_,_=>none
 | f+1,s,e,v =>
  if e≠0 then some (v,s,e) else if s<0\/1000000<s then none else
  if v.op=5 then (match v.k[0]? with
   | none=>none
   | some k0=>if k0.op=4 then
     (if s+1<=1000 then (match k0.k[1]?,v.k[1]? with
      | some c,some x=>if 900000<c.env.length then none else AC f (s+1) 0 c.b (c.env++[x])
      | _,_=>none) else some (v,s+1,17))
    else some (v,s,e))
  else if v.op=8\/v.op=9 then (match v.k[0]? with
   | none=>none
   | some k0=>if k0.op=7 then
     (if s+1<=1000 then (k0.k[(1+v.op - 8).toNat]?).map fun x=>(x,s+1,0) else some (v,s+1,17))
    else some (v,s,e))
  else if v.op=30 then (match v.k[0]? with
   | none=>none
   | some k0=>if k0.op=19 then
     (if s+1<=1000 then (k0.k[0]?).map fun x=>(x,s+1,0) else some (v,s+1,17))
    else some (v,s,e))
  else if v.op=19 then (match v.k[0]? with
   | none=>none
   | some k0=>if k0.op=30 then
     (if s+1<=1000 then (k0.k[0]?).map fun x=>(x,s+1,0) else some (v,s+1,17))
    else some (v,s,e))
  else if v.op=13 then (match v.k[0]?,v.k[1]?,v.k[2]?,v.k[3]? with
   | some k0,some k1,some k2,some k3 =>
    if k3.op=11 then (if s+1<=1000 then some (k1,s+1,0) else some (v,s+1,17))
    else if k3.op=12 then
     (if s+1<=1000 then (match k3.k[0]? with
      | none=>none
      | some x=>(match headR f (s+1) 0 (.node 13 0 [k0,k1,k2,x]) with
       | none=>none
       | some (h,s,e)=>if 900000<k2.env.length then none else AC f s e k2.b (k2.env++[x,h])))
     else some (v,s+1,17))
    else some (v,s,e)
   | _,_,_,_=>none)
  else some (v,s,e)
end
theorem T6 {β:Type} {l:List RV} {i:Nat} {v:RV} (h:l[i]?=some v) (k:IV->Option β):AR 1 (.fv (.sl (l.map RV.enc))) (iv i) k=k (.fv (.fp [v.enc] 0)):=by
 have h1:(l.map RV.enc)[i]?=some v.enc:=by rw [List.getElem?_map,h];rfl
 rw [Br h1 (Mk v),Yd]
def Pp (f:Nat):Prop:=∀(s e:Int) (t:Tm) (env:List RV) (v:RV) (s' e' nd:Int),AC f s e t env=some (v,s',e')->∀n,f+1<=n ->
 By (SS dt n 60 [.ptr (.ext 0) 0,.fv t.enc,.fv (.sl (env.map RV.enc))] ⟨[],[.row [iv s,iv nd,iv e] false]⟩) v.enc [.row [iv s',iv nd,iv e'] false]
def Qu (f:Nat):Prop:=∀(s e:Int) (v w:RV) (s' e' nd:Int),headR f s e v=some (w,s',e')->∀n,f+1<=n ->
 By (SS dt n 87 [.ptr (.ext 0) 0,.fv v.enc] ⟨[],[.row [iv s,iv nd,iv e] false]⟩) w.enc [.row [iv s',iv nd,iv e'] false]
abbrev UX (op m:Int) (ks:List Tm) (K:IV) (tok:List (Nat×Blk)) (s nd e:Int):Hp :=⟨(62914560,.row [iv op,iv m,.fv (.sl (ks.map Tm.enc))] false)::(62921733,.row [iv op,iv m,K,.nils,iv 0,iv 0,.nils] false)::tok,[.row [iv s,iv nd,iv e] false]⟩
theorem AaS {op m:Int} (l:List RV):(RV.node op m l).enc=.fp [.int .i64 op,.int .i64 m,.sl (l.map RV.enc),.sl [],.int .i64 0,.int .i64 0,.sl []] 0:=by rw [RV.node,Tm.z,HZ];rfl
theorem Yj {f:Nat} (he:Pp f) (hh:Qu f):Pp (f+1):=by
 intro s e t env v s' e' nd hev n hn;obtain ⟨n,rfl⟩:=psc n (by omega);rw [c60];obtain ⟨op,m,ks⟩:=t;rw [An];rw [AC] at hev;by_cases h0:e≠0
 ·rw [if_pos h0] at hev;simp only [AhZ,Ah0] at hev;obtain ⟨rfl,rfl,rfl⟩:=hev;simp only [HL,H9,Ic,HU,S60,↓XX,XY,↓reduceIte,seval,h0];exact ⟨_,_,rfl,_,_,fun _ _=>rfl⟩
 ·have h0':e=0:=by omega
  subst h0';rw [if_neg h0] at hev;by_cases hlen:900000<env.length
  ·rw [if_pos hlen] at hev;cases hev
  ·rw [if_neg hlen] at hev;by_cases h1:op=1
   ·rw [if_pos h1] at hev;subst h1;by_cases h2:m<env.length
    ·rw [if_pos h2] at hev;by_cases h3:0<=m
     ·rw [if_pos h3] at hev;cases hg:env[(env.length - 1 - m).toNat]? with
      | none=>rw [hg] at hev;cases hev
      | some u =>
       rw [hg] at hev;simp only [Ah2,AhZ,Ah0] at hev;obtain ⟨rfl,rfl,rfl⟩:=hev;have e1:BF ((env.length:Int) - 1)=env.length - 1:=by rw [Az]<;>omega
       have e2:BF ((env.length:Int) - 1 - m)=(((env.length:Int) - 1 - m).toNat:Int):=by rw [Az]<;>omega
       simp only [HL,H9,Ic,HU,S60,↓XX,XY,↓reduceIte,seval,h2,e1,e2,↓T6 hg];exact AK _ _ _
     ·rw [if_neg h3] at hev;cases hev
    ·rw [if_neg h2] at hev;by_cases h3:m<=4611686018427387904
     ·rw [if_pos h3] at hev;simp only [AhZ,Ah0] at hev;obtain ⟨rfl,rfl,rfl⟩:=hev;have e1:BF ((env.length:Int) - 1)=env.length - 1:=by rw [Az]<;>omega
      have e2:BF ((env.length:Int) - 1 - m)=(env.length:Int) - 1 - m:=by rw [Az]<;>omega
      simp only [HL,H9,Ic,HU,S60,↓XX,XY,↓reduceIte,seval,h2,e1,e2];exact ⟨_,_,rfl,_,_,fun _ _=>rfl⟩
     ·rw [if_neg h3] at hev;cases hev
   ·rw [if_neg h1] at hev;by_cases hf:f<=ks.length
    ·rw [if_pos hf] at hev;cases hev
    ·rw [if_neg hf] at hev;by_cases hk9:900000<ks.length
     ·rw [if_pos hk9] at hev;cases hev
     ·rw [if_neg hk9] at hev;cases hkg:A7 (fun s e t=>AC f s e t env) op env 0 ks s 0 with
      | none=>rw [hkg] at hev;cases hev
      | some q =>
      obtain ⟨vs,s1,e1⟩:=q;rw [hkg] at hev;simp only at hev;simp only [HL,H9,Ic,HU,S60,↓XX,XY,↓reduceIte,seval,h1,↓AJ,XD,heldB,AS,XE];refine Be (Q:=fun r=>By r _ _) (fun k V H=>∃pre rest done s2 e2 us s3 e3,ks=pre++rest/\rest.length=k/\done.length=pre.length/\V=[.ptr (.ext 0) 0,.fv (.sl (env.map RV.enc)),.ptr (.own 62914560) 0,.ptr (.own 62921733) 0,iv pre.length] /\
       (
        (pre=[]/\H=UX op m ks .nils [] s2 nd e2) \/
        (∃r,(r=62926862\/r=62927886)/\pre≠[]/\H=UX op m ks (.app (.own r) (done.map RV.enc)) [(r,.tok done.length 1)] s2 nd e2)) /\
       A7 (fun s e t=>AC f s e t env) op env pre.length rest s2 e2=some (us,s3,e3)/\headR f s3 e3 (.node op m (done++us))=some (v,s',e'))
       ?_ n ks.length _ _ (by omega) ⟨[],ks,[],s,0,vs,s1,e1,rfl,rfl,rfl,rfl,.inl ⟨rfl,rfl⟩,hkg,hev⟩
      rintro k V H rec ⟨pre,rest,done,s2,e2,us,s3,e3,hk,hl,hdl,rfl,hH,hkids,hhead⟩ hrec;have hkl:ks.length=pre.length+rest.length:=by rw [hk];simp
      have zenc:∀l:List RV,(RV.node op m l).enc=.fp [.int .i64 op,.int .i64 m,.sl (l.map RV.enc),.sl [],.int .i64 0,.int .i64 0,.sl []] 0:=fun l=>AaS l;cases rest with
      | nil =>
       simp only [A7,AhZ,Ah0] at hkids;obtain ⟨rfl,rfl,rfl⟩:=hkids;rw [List.append_nil] at hhead;have hc:=hh s2 e2 _ v s' e' nd hhead n (by omega);rw [zenc] at hc;have hpre:ks=pre:=by simpa using hk
       subst hpre;rcases hH with ⟨rfl,rfl⟩ | ⟨r,hr,hne,rfl⟩
       ·have hd:done=[]:=List.length_eq_zero_iff.1 hdl;subst hd;have hcall:=fun k=>O4 (k:=k) (own:=[(62914560,.row [iv op,iv m,.fv (.sl (([]:List Tm).map Tm.enc))] false),(62921733,.row [iv op,iv m,.nils,.nils,iv 0,iv 0,.nils] false)])
         (cells:=[iv op,iv m,.nils,.nils,iv 0,iv 0,.nils]) (ro:=false) (s:=62921733) hc (CH ..) (by simp [Aq]) rfl (by simp)
        simp only [↓Sp,↓XX,XY,↓reduceIte,seval,Int.lt_irrefl,↓hcall];exact AK _ _ _
       ·have hcall:=fun k=>O4 (k:=k) (own:=[(62914560,.row [iv op,iv m,.fv (.sl (ks.map Tm.enc))] false),(62921733,.row [iv op,iv m,.app (.own r) (done.map RV.enc),.nils,iv 0,iv 0,.nils] false),(r,.tok done.length 1)])
         (cells:=[iv op,iv m,.app (.own r) (done.map RV.enc),.nils,iv 0,iv 0,.nils]) (ro:=false) (s:=62921733) hc (CH ..) (by simp [Aq]) rfl (by simp)
        simp only [↓Sp,↓XX,XY,↓reduceIte,seval,Int.lt_irrefl,↓hcall];exact AK _ _ _
      | cons t rest =>
       have hi:(pre.length:Int)<ks.length:=by rw [hkl];simp;omega
       have hg:=B2 hk;have hb:=Fl (n:=n) (by omega) op pre.length;have hwi:BF ((pre.length:Int)+1)=((pre++[t]).length:Int):=(Az (by omega) (by omega)).trans (by simp);have hbi:(0<(Al op pre.length:Int)) ↔ 0<Al op pre.length:=by omega
       have hd9:done.length+1<=1000000:=by omega
       simp only [A7] at hkids;simp only [Ah3] at hl;by_cases hbp:0<Al op pre.length
       ·rw [if_pos hbp] at hkids;cases hkk:A7 (fun s e t=>AC f s e t env) op env (pre.length+1) rest s2 e2 with
        | none=>rw [hkk] at hkids;cases hkids
        | some q =>
        obtain ⟨us',s4,e4⟩:=q;rw [hkk] at hkids;simp only [Ah2,AhZ,Ah0] at hkids;obtain ⟨rfl,rfl,rfl⟩:=hkids;have hbp':0<(Al op pre.length:Int):=by omega
        have hce:(RV.clo env t).enc=.fp [.int .i64 0,.int .i64 0,.sl [],.sl (env.map RV.enc),.int .i64 t.op,.int .i64 t.n,.sl (t.kids.map Tm.enc)] 0:=by rw [Lv];rfl
        have hnext:∀tk,(tk=62926862\/tk=62927886)->By (rec [.ptr (.ext 0) 0,.fv (.sl (env.map RV.enc)),.ptr (.own 62914560) 0,.ptr (.own 62921733) 0,iv (pre++[t]).length]
          (UX op m ks (.app (.own tk) ((done++[RV.clo env t]).map RV.enc)) [(tk,.tok (done++[RV.clo env t]).length 1)] s2 nd e2)) v.enc [.row [iv s',iv nd,iv e'] false]:=fun tk htk =>
         hrec rest.length _ _ (by omega) ⟨pre++[t],rest,done++[.clo env t],s2,e2,us',s4,e4,by rw [hk];simp,rfl,by simp [hdl],rfl,.inr ⟨tk,htk,by simp,rfl⟩,by simpa using hkk,by simpa using hhead⟩
        obtain ⟨o,p,l⟩:=t;simp only [Tm.op,Tm.n,Tm.kids] at hce;have ha0:=fun {s own ext k}=>Za (RV.clo env (.mk o p l)) s own ext k;have ha1:=fun {r s own ext k}=>SV hd9 (RV.clo env (.mk o p l)) r s own ext k;rw [hce] at ha0 ha1;have hbs:=fun (tl:List (Nat×Blk)) (K:IV) (own:List (Nat×Blk)) (hown:own=(62914560,.row [iv op,iv m,.fv (.sl (ks.map Tm.enc))] false)::(62921733,.row [iv op,iv m,K,.nils,iv 0,iv 0,.nils] false)::tl) (hl:Aq 62926860 own=some (.row [iv 0,iv 0,.nils,.fv (.sl (env.map RV.enc)),iv o,iv p,.fv (.sl (l.map Tm.enc))] false)) (own':List (Nat×Blk)) (ho) s ext (k:KT (IV×Hp)) =>Abv (E:=EE) (own:=own) (own':=own') xQ xU rfl ⟨_,rfl⟩ hl (fc:=[.int .i64 0,.int .i64 0,.sl [],.sl (env.map RV.enc),.int .i64 o,.int .i64 p,.sl (l.map Tm.enc)]) rfl (by simp) ho s ext k
        rcases hH with ⟨hp0,rfl⟩ | ⟨r,hr,hne,rfl⟩
        ·have hd0:done=[]:=List.length_eq_zero_iff.1 (by rw [hdl,hp0];rfl);subst hd0;have h9:=hnext _ (.inl rfl);simp only [List.nil_append,Ah5,Ah4,Ah3,List.length_nil] at h9;rw [hce] at h9;have hb0:=fun s ext k=>hbs [(62926860,.row [iv 0,iv 0,.nils,.fv (.sl (env.map RV.enc)),iv o,iv p,.fv (.sl (l.map Tm.enc))] false)] .nils _ rfl (by simp [Aq])
          [(62914560,.row [iv op,iv m,.fv (.sl (ks.map Tm.enc))] false),(62921733,.row [iv op,iv m,.nils,.nils,iv 0,iv 0,.nils] false),(62926860,.row [iv 0,iv 0,.nils,.fv (.sl (env.map RV.enc)),iv o,iv p,.fv (.sl (l.map Tm.enc))] true)] (by simp [AQ]) s ext k
         simp only [↓Sp,↓XX,XY,↓reduceIte,seval,hi,↓Br (AO hg) (Bm _ _ _),↓Cd,↓Ag hb,hbp',hwi,↓hb0,↓ha0,↓AJ,XD,heldB,AS,XE];exact h9
        ·have h9:=hnext r hr;rw [show (done++[RV.clo env (Tm.mk o p l)]).length=done.length+1 by simp] at h9
         simp only [List.map_append,Ah5,Ah4] at h9;rw [hce] at h9;simp only [List.map_append,Ah5,Ah4] at ha1;rw [hce] at ha1;have hb0:=fun s ext k=>hbs [(r,.tok done.length 1),(62926860,.row [iv 0,iv 0,.nils,.fv (.sl (env.map RV.enc)),iv o,iv p,.fv (.sl (l.map Tm.enc))] false)] (.app (.own r) (done.map RV.enc)) _ rfl (by rcases hr with rfl | rfl<;>simp [Aq])
          [(62914560,.row [iv op,iv m,.fv (.sl (ks.map Tm.enc))] false),(62921733,.row [iv op,iv m,.app (.own r) (done.map RV.enc),.nils,iv 0,iv 0,.nils] false),(r,.tok done.length 1),(62926860,.row [iv 0,iv 0,.nils,.fv (.sl (env.map RV.enc)),iv o,iv p,.fv (.sl (l.map Tm.enc))] true)]
          (by rcases hr with rfl | rfl<;>simp [AQ]) s ext k
         rcases hr with rfl | rfl
         ·simp only [↓Sp,↓XX,XY,↓reduceIte,seval,hi,↓Br (AO hg) (Bm _ _ _),↓Cd,↓Ag hb,hbp',hwi,↓hb0,↓ha1,↓GZ,↓AJ,XD,heldB,AS,XE];exact h9
         ·simp only [↓Sp,↓XX,XY,↓reduceIte,seval,hi,↓Br (AO hg) (Bm _ _ _),↓Cd,↓Ag hb,hbp',hwi,↓hb0,↓ha1,↓GZ,↓AJ,XD,heldB,AS,XE];exact h9
       ·rw [if_neg hbp] at hkids;have hbp':¬ 0<(Al op pre.length:Int):=by omega
        cases hev1:AC f s2 e2 t env with
        | none=>rw [hev1] at hkids;cases hkids
        | some q =>
        obtain ⟨v1,s4,e4⟩:=q;rw [hev1] at hkids;simp only at hkids;cases hkk:A7 (fun s e t=>AC f s e t env) op env (pre.length+1) rest s4 e4 with
        | none=>rw [hkk] at hkids;cases hkids
        | some q =>
        obtain ⟨us',s5,e5⟩:=q;rw [hkk] at hkids;simp only [Ah2,AhZ,Ah0] at hkids;obtain ⟨rfl,rfl,rfl⟩:=hkids;have hc:=he s2 e2 t env v1 s4 e4 nd hev1 n (by omega);have hnext:∀tk,(tk=62926862\/tk=62927886)->By (rec [.ptr (.ext 0) 0,.fv (.sl (env.map RV.enc)),.ptr (.own 62914560) 0,.ptr (.own 62921733) 0,iv (pre++[t]).length]
          (UX op m ks (.app (.own tk) ((done++[v1]).map RV.enc)) [(tk,.tok (done++[v1]).length 1)] s4 nd e4)) v.enc [.row [iv s',iv nd,iv e'] false]:=fun tk htk =>
         hrec rest.length _ _ (by omega) ⟨pre++[t],rest,done++[v1],s4,e4,us',s5,e5,by rw [hk];simp,rfl,by simp [hdl],rfl,.inr ⟨tk,htk,by simp,rfl⟩,by simpa using hkk,by simpa using hhead⟩
        obtain ⟨o,p,l⟩:=t;rw [An] at hc;rcases hH with ⟨hp0,rfl⟩ | ⟨r,hr,hne,rfl⟩
        ·have hd0:done=[]:=List.length_eq_zero_iff.1 (by rw [hdl,hp0];rfl);subst hd0;have h9:=hnext _ (.inr rfl);simp only [List.nil_append,Ah5,Ah4,Ah3,List.length_nil] at h9;simp only [↓Sp,↓XX,XY,↓reduceIte,seval,hi,↓Br (AO hg) (Bm _ _ _),↓Cd,↓Ag hb,hbp',hwi,↓IM hc (CH _ _ _ _ _ _),↓Ra,↓Za,↓AJ,XD,heldB,AS,XE];exact h9
        ·have h9:=hnext r hr;rw [show (done++[v1]).length=done.length+1 by simp] at h9
         rcases hr with rfl | rfl
         ·simp only [↓Sp,↓XX,XY,↓reduceIte,seval,hi,↓Br (AO hg) (Bm _ _ _),↓Cd,↓Ag hb,hbp',hwi,↓IM hc (CH _ _ _ _ _ _),↓Ra,↓SV hd9,↓GZ,↓AJ,XD,heldB,AS,XE];exact h9
         ·simp only [↓Sp,↓XX,XY,↓reduceIte,seval,hi,↓Br (AO hg) (Bm _ _ _),↓Cd,↓Ag hb,hbp',hwi,↓IM hc (CH _ _ _ _ _ _),↓Ra,↓SV hd9,↓GZ,↓AJ,XD,heldB,AS,XE];exact h9
def RV.cl (v:RV):List FV:=[.int .i64 v.op,.int .i64 v.n,.sl (v.k.map RV.enc),.sl (v.env.map RV.enc),.int .i64 v.b.op,.int .i64 v.b.n,.sl (v.b.kids.map Tm.enc)]
section
variable {β:Type} (v:RV)
theorem Aan (k:IV->Option β):AL (.fv v.enc) k=k (.fv v.enc):=by rw [Lv];rfl
theorem Ade (o:Nat) (k:IV->Option β):Ab o (.fv v.enc) k=k (.fv (.fp v.cl o)):=by rw [Lv,Aby];rfl
theorem nc0 (k:FV->Option β):DV v.cl 0 k=k (.int .i64 v.op):=rfl
theorem nc1 (k:FV->Option β):DV v.cl 1 k=k (.int .i64 v.n):=rfl
theorem nc2 (k:FV->Option β):DV v.cl 2 k=k (.sl (v.k.map RV.enc)):=rfl
theorem nc3 (k:FV->Option β):DV v.cl 3 k=k (.sl (v.env.map RV.enc)):=rfl
theorem dc4 (k:List FV->Option β):Fj v.cl 4 k=k [.int .i64 v.b.op,.int .i64 v.b.n,.sl (v.b.kids.map Tm.enc)]:=rfl
end
theorem GS {β:Type} {l:List RV} {v:RV} (h:l[0]?=some v) (k:IV->Option β):AR 1 (.fv (.sl (l.map RV.enc))) (iv 0) k=k (.fv (.fp [v.enc] 0)):=T6 (i:=0) h k
theorem dD {β:Type} {l:List RV} {v:RV} (h:l[1]?=some v) (k:IV->Option β):AR 1 (.fv (.sl (l.map RV.enc))) (iv 1) k=k (.fv (.fp [v.enc] 0)):=T6 (i:=1) h k
theorem Aak {β:Type} {l:List RV} {v:RV} (h:l[2]?=some v) (k:IV->Option β):AR 1 (.fv (.sl (l.map RV.enc))) (iv 2) k=k (.fv (.fp [v.enc] 0)):=T6 (i:=2) h k
theorem dB {β:Type} {l:List RV} {v:RV} (h:l[3]?=some v) (k:IV->Option β):AR 1 (.fv (.sl (l.map RV.enc))) (iv 3) k=k (.fv (.fp [v.enc] 0)):=T6 (i:=3) h k
def XV:=AhY @Aan<|AhY @Ade<|AhY @nc0<|AhY @nc1<|AhY @nc2<|AhY @nc3 @dc4
theorem XN {f:Nat} (he:Pp f) (hh:Qu f):Qu (f+1):=by
 intro s e v w s' e' nd hev n hn;obtain ⟨n,rfl⟩:=psc n (by omega);rw [c87];rw [headR] at hev;by_cases h0:e≠0
 ·rw [if_pos h0] at hev;simp only [AhZ,Ah0] at hev;obtain ⟨rfl,rfl,rfl⟩:=hev;simp only [↓FK,↓XX,XY,↓reduceIte,Nat.reduceBEq,Nat.reduceAdd,Int.reduceEq,Int.reduceLT,Int.reduceLE,h0];exact AK _ _ _
 ·have h0':e=0:=by omega
  subst h0';rw [if_neg h0] at hev;by_cases hs:s<0\/1000000<s
  ·rw [if_pos hs] at hev;cases hev
  ·rw [if_neg hs] at hev;have hst:=ZH (n:=n) (by omega) s nd (by omega) (by omega);have CF:∀{x:RV} {a b:Int},some (x,a,b)=some (w,s',e')->x=w/\a=s'/\b=e':=by
    intro x a b h;simp only [AhZ,Ah0] at h;exact h
   by_cases h5:v.op=5
   ·rw [if_pos h5] at hev;cases hk0:v.k[0]? with
    | none=>rw [hk0] at hev;cases hev
    | some k0 =>
     rw [hk0] at hev;simp only at hev;by_cases h4:k0.op=4
     ·rw [if_pos h4] at hev;by_cases hq:s+1<=1000
      ·rw [if_pos hq] at hev;simp only [hq,decide_true,if_true] at hst;cases hc:k0.k[1]? with
       | none=>rw [hc] at hev;cases hev
       | some c =>
        cases hx:v.k[1]? with
        | none=>rw [hc,hx] at hev;cases hev
        | some x =>
         rw [hc,hx] at hev;simp only at hev;by_cases hl:900000<c.env.length
         ·rw [if_pos hl] at hev;cases hev
         ·rw [if_neg hl] at hev;have hcall:=he (s+1) 0 c.b (c.env++[x]) w s' e' nd hev n (by omega);rw [Sx] at hcall;have hp:=Pz (n:=n) (by omega) c.env [x] (by simp) (by simp;omega);simp only [Ah5,Ah4] at hp;simp only [↓FK,↓XX,XY,↓reduceIte,Nat.reduceBEq,Nat.reduceAdd,Int.reduceEq,Int.reduceLT,Int.reduceLE,↓XV,h5,↓GS hk0,h4,↓DQ hst (CH _ _ _ _ _ _),↓dD hc,↓dD hx,↓Ra,↓Ag hp,↓IM hcall (CH _ _ _ _ _ _)];exact AK _ _ _
      ·rw [if_neg hq] at hev;obtain ⟨rfl,rfl,rfl⟩:=CF hev;simp only [hq,decide_false,if_false] at hst;simp only [↓FK,↓XX,XY,↓reduceIte,Nat.reduceBEq,Nat.reduceAdd,Int.reduceEq,Int.reduceLT,Int.reduceLE,↓XV,h5,↓GS hk0,h4,↓DQ hst (CH _ _ _ _ _ _)];exact AK _ _ _
     ·rw [if_neg h4] at hev;obtain ⟨rfl,rfl,rfl⟩:=CF hev;simp only [↓FK,↓XX,XY,↓reduceIte,Nat.reduceBEq,Nat.reduceAdd,Int.reduceEq,Int.reduceLT,Int.reduceLE,↓XV,h5,↓GS hk0,h4];exact AK _ _ _
   ·rw [if_neg h5] at hev;by_cases h89:v.op=8\/v.op=9
    ·rw [if_pos h89] at hev;cases hk0:v.k[0]? with
     | none=>rw [hk0] at hev;cases hev
     | some k0 =>
      rw [hk0] at hev;simp only at hev;by_cases h7:k0.op=7
      ·rw [if_pos h7] at hev;by_cases hq:s+1<=1000
       ·rw [if_pos hq] at hev;simp only [hq,decide_true,if_true] at hst;cases hx:k0.k[(1+v.op - 8).toNat]? with
        | none=>rw [hx] at hev;cases hev
        | some x =>
         rw [hx] at hev;obtain ⟨rfl,rfl,rfl⟩:=CF hev;rcases h89 with h8 | h9
         ·rw [h8] at hx;have hw1:BF (1+8)=9:=by decide
          have hw2:BF (9 - 8)=1:=by decide
          simp only [↓FK,↓XX,XY,↓reduceIte,Nat.reduceBEq,Nat.reduceAdd,Int.reduceEq,Int.reduceLT,Int.reduceLE,↓XV,h8,↓GS hk0,h7,↓DQ hst (CH _ _ _ _ _ _),hw1,hw2,↓dD (l:=k0.k) (v:=x) hx];exact AK _ _ _
         ·rw [h9] at hx;have hw1:BF (1+9)=10:=by decide
          have hw2:BF (10 - 8)=2:=by decide
          simp only [↓FK,↓XX,XY,↓reduceIte,Nat.reduceBEq,Nat.reduceAdd,Int.reduceEq,Int.reduceLT,Int.reduceLE,↓XV,h9,↓GS hk0,h7,↓DQ hst (CH _ _ _ _ _ _),hw1,hw2,↓Aak (l:=k0.k) (v:=x) hx];exact AK _ _ _
       ·rw [if_neg hq] at hev;obtain ⟨rfl,rfl,rfl⟩:=CF hev;simp only [hq,decide_false,if_false] at hst;rcases h89 with h8 | h9
        ·simp only [↓FK,↓XX,XY,↓reduceIte,Nat.reduceBEq,Nat.reduceAdd,Int.reduceEq,Int.reduceLT,Int.reduceLE,↓XV,h8,↓GS hk0,h7,↓DQ hst (CH _ _ _ _ _ _)];exact AK _ _ _
        ·simp only [↓FK,↓XX,XY,↓reduceIte,Nat.reduceBEq,Nat.reduceAdd,Int.reduceEq,Int.reduceLT,Int.reduceLE,↓XV,h9,↓GS hk0,h7,↓DQ hst (CH _ _ _ _ _ _)];exact AK _ _ _
      ·rw [if_neg h7] at hev;obtain ⟨rfl,rfl,rfl⟩:=CF hev;rcases h89 with h8 | h9
       ·simp only [↓FK,↓XX,XY,↓reduceIte,Nat.reduceBEq,Nat.reduceAdd,Int.reduceEq,Int.reduceLT,Int.reduceLE,↓XV,h8,↓GS hk0,h7];exact AK _ _ _
       ·simp only [↓FK,↓XX,XY,↓reduceIte,Nat.reduceBEq,Nat.reduceAdd,Int.reduceEq,Int.reduceLT,Int.reduceLE,↓XV,h9,↓GS hk0,h7];exact AK _ _ _
    ·rw [if_neg h89] at hev;have h8:¬ v.op=8:=fun e=>h89 (.inl e);have h9:¬ v.op=9:=fun e=>h89 (.inr e);by_cases h30:v.op=30
     ·rw [if_pos h30] at hev;cases hk0:v.k[0]? with
      | none=>rw [hk0] at hev;cases hev
      | some k0 =>
       rw [hk0] at hev;simp only at hev;by_cases h7:k0.op=19
       ·rw [if_pos h7] at hev;by_cases hq:s+1<=1000
        ·rw [if_pos hq] at hev;simp only [hq,decide_true,if_true] at hst;cases hx:k0.k[0]? with
         | none=>rw [hx] at hev;cases hev
         | some x =>rw [hx] at hev;obtain ⟨rfl,rfl,rfl⟩:=CF hev;simp only [↓FK,↓XX,XY,↓reduceIte,Nat.reduceBEq,Nat.reduceAdd,Int.reduceEq,Int.reduceLT,Int.reduceLE,↓XV,h30,↓GS hk0,h7,↓DQ hst (CH _ _ _ _ _ _),↓GS hx];exact AK _ _ _
        ·rw [if_neg hq] at hev;obtain ⟨rfl,rfl,rfl⟩:=CF hev;simp only [hq,decide_false,if_false] at hst;simp only [↓FK,↓XX,XY,↓reduceIte,Nat.reduceBEq,Nat.reduceAdd,Int.reduceEq,Int.reduceLT,Int.reduceLE,↓XV,h30,↓GS hk0,h7,↓DQ hst (CH _ _ _ _ _ _)];exact AK _ _ _
       ·rw [if_neg h7] at hev;obtain ⟨rfl,rfl,rfl⟩:=CF hev;simp only [↓FK,↓XX,XY,↓reduceIte,Nat.reduceBEq,Nat.reduceAdd,Int.reduceEq,Int.reduceLT,Int.reduceLE,↓XV,h30,↓GS hk0,h7];exact AK _ _ _
     ·rw [if_neg h30] at hev;by_cases h19:v.op=19
      ·rw [if_pos h19] at hev;cases hk0:v.k[0]? with
       | none=>rw [hk0] at hev;cases hev
       | some k0 =>
        rw [hk0] at hev;simp only at hev;by_cases h7:k0.op=30
        ·rw [if_pos h7] at hev;by_cases hq:s+1<=1000
         ·rw [if_pos hq] at hev;simp only [hq,decide_true,if_true] at hst;cases hx:k0.k[0]? with
          | none=>rw [hx] at hev;cases hev
          | some x =>rw [hx] at hev;obtain ⟨rfl,rfl,rfl⟩:=CF hev;simp only [↓FK,↓XX,XY,↓reduceIte,Nat.reduceBEq,Nat.reduceAdd,Int.reduceEq,Int.reduceLT,Int.reduceLE,↓XV,h19,↓GS hk0,h7,↓DQ hst (CH _ _ _ _ _ _),↓GS hx];exact AK _ _ _
         ·rw [if_neg hq] at hev;obtain ⟨rfl,rfl,rfl⟩:=CF hev;simp only [hq,decide_false,if_false] at hst;simp only [↓FK,↓XX,XY,↓reduceIte,Nat.reduceBEq,Nat.reduceAdd,Int.reduceEq,Int.reduceLT,Int.reduceLE,↓XV,h19,↓GS hk0,h7,↓DQ hst (CH _ _ _ _ _ _)];exact AK _ _ _
        ·rw [if_neg h7] at hev;obtain ⟨rfl,rfl,rfl⟩:=CF hev;simp only [↓FK,↓XX,XY,↓reduceIte,Nat.reduceBEq,Nat.reduceAdd,Int.reduceEq,Int.reduceLT,Int.reduceLE,↓XV,h19,↓GS hk0,h7];exact AK _ _ _
      ·rw [if_neg h19] at hev;by_cases h13:v.op=13
       ·rw [if_pos h13] at hev;cases hk0:v.k[0]? with
        | none=>rw [hk0] at hev;cases hev
        | some k0 =>
        cases hk1:v.k[1]? with
        | none=>rw [hk0,hk1] at hev;cases hev
        | some k1 =>
        cases hk2:v.k[2]? with
        | none=>rw [hk0,hk1,hk2] at hev;cases hev
        | some k2 =>
        cases hk3:v.k[3]? with
        | none=>rw [hk0,hk1,hk2,hk3] at hev;cases hev
        | some k3 =>
        rw [hk0,hk1,hk2,hk3] at hev;simp only at hev;by_cases h11:k3.op=11
        ·rw [if_pos h11] at hev;by_cases hq:s+1<=1000
         ·rw [if_pos hq] at hev;obtain ⟨rfl,rfl,rfl⟩:=CF hev;simp only [hq,decide_true,if_true] at hst;simp only [↓FK,↓XX,XY,↓reduceIte,Nat.reduceBEq,Nat.reduceAdd,Int.reduceEq,Int.reduceLT,Int.reduceLE,↓XV,h13,↓dB hk3,h11,↓DQ hst (CH _ _ _ _ _ _),↓dD hk1];exact AK _ _ _
         ·rw [if_neg hq] at hev;obtain ⟨rfl,rfl,rfl⟩:=CF hev;simp only [hq,decide_false,if_false] at hst;simp only [↓FK,↓XX,XY,↓reduceIte,Nat.reduceBEq,Nat.reduceAdd,Int.reduceEq,Int.reduceLT,Int.reduceLE,↓XV,h13,↓dB hk3,h11,↓DQ hst (CH _ _ _ _ _ _)];exact AK _ _ _
        ·rw [if_neg h11] at hev;by_cases h12:k3.op=12
         ·rw [if_pos h12] at hev;by_cases hq:s+1<=1000
          ·rw [if_pos hq] at hev;simp only [hq,decide_true,if_true] at hst;cases hx:k3.k[0]? with
           | none=>rw [hx] at hev;cases hev
           | some x =>
           rw [hx] at hev;simp only at hev;cases hd:headR f (s+1) 0 (.node 13 0 [k0,k1,k2,x]) with
           | none=>rw [hd] at hev;cases hev
           | some q =>
           obtain ⟨h,s2,e2⟩:=q;rw [hd] at hev;simp only at hev;by_cases hl:900000<k2.env.length
           ·rw [if_pos hl] at hev;cases hev
           ·rw [if_neg hl] at hev;have hcall:=he s2 e2 k2.b (k2.env++[x,h]) w s' e' nd hev n (by omega);rw [Sx] at hcall;have hcall2:=hh (s+1) 0 _ h s2 e2 nd hd n (by omega);rw [AaS] at hcall2;simp only [Ah5,Ah4] at hcall2;have hp:=Pz (n:=n) (by omega) k2.env [x,h] (by simp) (by simp;omega);simp only [Ah5,Ah4] at hp;have hcall3:=fun k=>O4 (k:=k) (own:=[(91246614,.row [iv 13,iv 0,.clip [k0.enc,k1.enc,k2.enc,x.enc],.nils,iv 0,iv 0,.nils] false)])
             (cells:=[iv 13,iv 0,.clip [k0.enc,k1.enc,k2.enc,x.enc],.nils,iv 0,iv 0,.nils]) (ro:=false) (s:=91246614) hcall2 (CH ..) (by simp [Aq]) rfl (by simp)
            simp only [↓FK,↓XX,XY,↓reduceIte,Nat.reduceBEq,Nat.reduceAdd,Int.reduceEq,Int.reduceLT,Int.reduceLE,↓XV,h13,↓dB hk3,h11,h12,↓DQ hst (CH _ _ _ _ _ _),↓GS hx,↓GS hk0,↓dD hk1,↓Aak hk2,↓Abw,↓hcall3,↓Aal,↓Ag hp,↓IM hcall (CH _ _ _ _ _ _)];exact AK _ _ _
          ·rw [if_neg hq] at hev;obtain ⟨rfl,rfl,rfl⟩:=CF hev;simp only [hq,decide_false,if_false] at hst;simp only [↓FK,↓XX,XY,↓reduceIte,Nat.reduceBEq,Nat.reduceAdd,Int.reduceEq,Int.reduceLT,Int.reduceLE,↓XV,h13,↓dB hk3,h11,h12,↓DQ hst (CH _ _ _ _ _ _)];exact AK _ _ _
         ·rw [if_neg h12] at hev;obtain ⟨rfl,rfl,rfl⟩:=CF hev;simp only [↓FK,↓XX,XY,↓reduceIte,Nat.reduceBEq,Nat.reduceAdd,Int.reduceEq,Int.reduceLT,Int.reduceLE,↓XV,h13,↓dB hk3,h11,h12];exact AK _ _ _
       ·rw [if_neg h13] at hev;obtain ⟨rfl,rfl,rfl⟩:=CF hev;simp only [↓FK,↓XX,XY,↓reduceIte,Nat.reduceBEq,Nat.reduceAdd,Int.reduceEq,Int.reduceLT,Int.reduceLE,↓XV,h5,h8,h9,h30,h19,h13];exact AK _ _ _
theorem Xb:∀f,Pp f/\Qu f:=by
 intro f
 induction f with
 | zero=>exact ⟨(by intro s e t env v s' e' nd h;rw [AC] at h;cases h),(by intro s e v w s' e' nd h;rw [headR] at h;cases h)⟩
 | succ f ih=>exact ⟨Yj ih.1 ih.2,XN ih.1 ih.2⟩
def ER (u:Int) (b:Nat):List RV:=(List.range b).map fun (j:Nat)=>RV.var (u+(j:Int))
def J6 (u:Int) (b:Nat):ER u (b+1)=ER u b++[RV.var (u+b)]:=by simp [ER,List.range_succ]
def CC (u:Int) (b:Nat):(ER u b).length=b:=by simp [ER]
def Bd (rd:Int->Int->Int->RV->Int->Option (Tm×Int×Int×Int)) (f:Nat) (op u:Int):Nat->List RV->Int->Int->Int->Option (List Tm×Int×Int×Int)
 | _,[],s,nd,e=>some ([],s,nd,e)
 | i,k::l,s,nd,e =>
  match (if 0<Al op i then (if 900000<k.env.length then none else AC f s e k.b (k.env++ER u (Al op i))) else some (k,s,e)) with
  | none=>none
  | some (k',s1,e1)=>match rd s1 nd e1 k' (u+Al op i) with
   | none=>none
   | some (t,s2,nd2,e2)=>(Bd rd f op u (i+1) l s2 nd2 e2).map fun (ts,s,nd,e)=>(t::ts,s,nd,e)
def AT:Nat->Int->Int->Int->RV->Int->Int->Option (Tm×Int×Int×Int)
 | 0,_,_,_,_,_,_=>none
 | f+1,s,nd,e,v,u,d =>
  if nd<0\/1000000<nd\/u<0\/1000000<u\/d<0\/1000000<d\/v.n < -2305843009213693952\/2305843009213693952<v.n\/f<=v.k.length\/900000<v.k.length\/f<=3 then none else
  if (if e=0/\(3000<nd+1\/120<d) then 5 else e)≠0 then some (.z,s,nd+1,(if e=0/\(3000<nd+1\/120<d) then 5 else e))
  else if v.op=1 then some (.mk 1 (u - 1 - v.n) [],s,nd+1,0)
  else (Bd (fun s nd e k u=>AT f s nd e k u (d+1)) f v.op u 0 v.k s (nd+1) 0).map fun (ts,s,nd,e)=>(.mk v.op v.n ts,s,nd,e)
def Td (f:Nat):Prop:=∀(s nd e:Int) (v:RV) (u d:Int) (t:Tm) (s' nd' e':Int),AT f s nd e v u d=some (t,s',nd',e')->∀n,f+1<=n ->
 By (SS dt n 59 [.ptr (.ext 0) 0,.fv v.enc,iv u,iv d] ⟨[],[.row [iv s,iv nd,iv e] false]⟩) t.enc [.row [iv s',iv nd',iv e'] false]
abbrev K7 (op m:Int) (K:IV) (tok:List (Nat×Blk)) (s nd e:Int):Hp :=⟨(61865984,.row [iv 0,iv 0,.nils] false)::(61874185,.row [iv op,iv m,K] false)::tok,[.row [iv s,iv nd,iv e] false]⟩
def VZ {cells:List IV} {fc:List FV} (hz:Du cells=some fc) (hn:cells.length<=100) (s:Nat) (h:Hp) (k:KT (IV×Hp)):xJ (Jv true s (.agg cells)) s (.agg cells) h k=k (.fv (.fp fc 0)) h [] []:=by
 have:Jv true s (.agg cells)=.ret { eff:={ val:=.fv (.fp fc 0),upd:=[] } }:=by simp only [Jv,IV.alive,Bool.true_eq_false,if_false,if_true,IV.cells,Uz cells 4096 (by omega) hz,Rd.bind]
 unfold xJ;rw [this,S6];exact FZ _ s h k
def VD (n:Int):(RV.var n).enc=.fp [.int .i64 1,.int .i64 n,.sl [],.sl [],.int .i64 0,.int .i64 0,.sl []] 0:=by rw [RV.var,Tm.z,HZ];rfl
def YF {f:Nat} (hr:Td f):Td (f+1):=by
 intro s nd e v u d t s' nd' e' hev n hn;obtain ⟨n,rfl⟩:=psc n (by omega);rw [c59];rw [AT] at hev;by_cases hbad:nd<0\/1000000<nd\/u<0\/1000000<u\/d<0\/1000000<d\/v.n < -2305843009213693952\/2305843009213693952<v.n\/f<=v.k.length\/900000<v.k.length\/f<=3
 ·rw [if_pos hbad] at hev;cases hev
 ·rw [if_neg hbad] at hev;have wnd:BF (nd+1)=nd+1:=by rw [Az]<;>omega
  have wd:BF (d+1)=d+1:=by rw [Az]<;>omega
  have wu:BF (u - 1)=u - 1:=by rw [Az]<;>omega
  have wv:BF (u - 1 - v.n)=u - 1 - v.n:=by rw [Az]<;>omega
  by_cases he:e=0
  ·subst he;by_cases h3:3000<nd+1
   ·have e5:(if (0:Int)=0/\(3000<nd+1\/120<d) then (5:Int) else 0)=5:=if_pos ⟨rfl,.inl h3⟩;rw [e5,if_pos (by decide)] at hev;simp only [AhZ,Ah0] at hev;obtain ⟨rfl,rfl,rfl,rfl⟩:=hev;simp only [↓y5,↓XX,XY,↓reduceIte,seval,wnd,h3];exact EO rfl _ _
   ·by_cases h4:120<d
    ·have e5:(if (0:Int)=0/\(3000<nd+1\/120<d) then (5:Int) else 0)=5:=if_pos ⟨rfl,.inr h4⟩;rw [e5,if_pos (by decide)] at hev;simp only [AhZ,Ah0] at hev;obtain ⟨rfl,rfl,rfl,rfl⟩:=hev;simp only [↓y5,↓XX,XY,↓reduceIte,seval,wnd,h3,h4];exact EO rfl _ _
    ·have e5:(if (0:Int)=0/\(3000<nd+1\/120<d) then (5:Int) else 0)=0:=if_neg (by omega);rw [e5,if_neg (by decide)] at hev;by_cases h1:v.op=1
     ·rw [if_pos h1] at hev;simp only [AhZ,Ah0] at hev;obtain ⟨rfl,rfl,rfl,rfl⟩:=hev;have hv:=jG (n:=n) (by omega) (u - 1 - v.n);rw [An] at hv ⊢;simp only [↓y5,↓XX,XY,↓reduceIte,seval,↓XV,wnd,h3,h4,h1,wu,wv,↓Ar hv];exact EO rfl _ _
     ·rw [if_neg h1] at hev;cases hrk:Bd (fun s nd e k u=>AT f s nd e k u (d+1)) f v.op u 0 v.k s (nd+1) 0 with
      | none=>rw [hrk] at hev;cases hev
      | some q =>
      obtain ⟨ts,s1,nd1,e1⟩:=q;rw [hrk] at hev;simp only [Ah2,AhZ,Ah0] at hev;obtain ⟨rfl,rfl,rfl,rfl⟩:=hev;simp only [↓y5,↓XX,XY,↓reduceIte,seval,↓XV,wnd,h3,h4,h1,↓AJ,XD,heldB,AS,XE];refine Be (Q:=fun r=>By r _ _) (fun k V H=>∃(pre rest:List RV) (done:List Tm) (s2 nd2 e2:Int) (us:List Tm),v.k=pre++rest/\rest.length=k/\done.length=pre.length/\V=[.ptr (.ext 0) 0,.fv v.enc,iv u,iv d,.ptr (.own 61865984) 0,.ptr (.own 61874185) 0,iv pre.length] /\
       (
        (pre=[]/\H=K7 v.op v.n .nils [] s2 nd2 e2) \/
        (pre≠[]/\H=K7 v.op v.n (.app (.own 61887499) (done.map Tm.enc)) [(61887499,.tok done.length 3)] s2 nd2 e2)) /\
       Bd (fun s nd e k u=>AT f s nd e k u (d+1)) f v.op u pre.length rest s2 nd2 e2=some (us,s1,nd1,e1)/\done++us=ts)
       ?_ n v.k.length _ _ (by omega) ⟨[],v.k,[],s,nd+1,0,ts,rfl,rfl,rfl,rfl,.inl ⟨rfl,rfl⟩,hrk,rfl⟩
      rintro k V H rec ⟨pre,rest,done,s2,nd2,e2,us,hk,hl,hdl,rfl,hH,hkids,hts⟩ hrec;have hkl:v.k.length=pre.length+rest.length:=by rw [hk];simp
      cases rest with
      | nil =>
       simp only [Bd,AhZ,Ah0] at hkids;obtain ⟨rfl,rfl,rfl,rfl⟩:=hkids;rw [List.append_nil] at hts;subst hts;have hno:¬ ((pre.length:Int)<v.k.length):=by rw [hkl];simp
       rcases hH with ⟨hp0,rfl⟩ | ⟨hne,rfl⟩
       ·have hd0:done=[]:=List.length_eq_zero_iff.1 (by rw [hdl,hp0];rfl);subst hd0;simp only [EB,GT,Ez,GW,EC,Fb,EA,Ey,S59,↓XX,XY,↓reduceIte,seval,↓XV,hno,An];exact EO rfl _ _
       ·simp only [EB,GT,Ez,GW,EC,Fb,EA,Ey,S59,↓XX,XY,↓reduceIte,seval,↓XV,hno,An];exact EO rfl _ _
      | cons x rest =>
       have hi:(pre.length:Int)<v.k.length:=by rw [hkl];simp;omega
       have hg:=B2 hk;have hb:=Fl (n:=n) (by omega) v.op pre.length;have hble:=A0 v.op pre.length;have hwi:BF ((pre.length:Int)+1)=((pre++[x]).length:Int):=(Az (by omega) (by omega)).trans (by simp);have hwb:BF (u+(Al v.op pre.length:Int))=u+Al v.op pre.length:=by rw [Az]<;>omega
       have hd9:done.length+1<=1000000:=by omega
       simp only [Bd] at hkids;simp only [Ah3] at hl;have behind:∀(y:RV) (s3 e3:Int),(match AT f s3 nd2 e3 y (u+Al v.op pre.length) (d+1) with
          | none=>none
          | some (t,s2,nd2,e2)=>(Bd (fun s nd e k u=>AT f s nd e k u (d+1)) f v.op u (pre.length+1) rest s2 nd2 e2).map fun (ts,s,nd,e)=>(t::ts,s,nd,e))=some (us,s1,nd1,e1) ->
         ∀K tk,((pre=[]/\K=.nils/\tk=[])\/(pre≠[]/\K=.app (.own 61887499) (done.map Tm.enc)/\tk=[(61887499,.tok done.length 3)])) ->
         By (GT (.ptr (.own 61874185) 0) (K7 v.op v.n K tk s3 nd2 e3) (iv u) (iv (Al v.op pre.length)) (iv d) (SS dt n) (.ptr (.ext 0) 0) (.fv y.enc) (iv pre.length) ⟨[],[.row [iv s,iv nd,iv 0] false]⟩ (.fv v.enc) (.ptr (.own 61865984) 0) rec)
          (Tm.mk v.op v.n ts).enc [.row [iv s1,iv nd1,iv e1] false]:=by
        intro y s3 e3 hy K tk hK;cases hrd:AT f s3 nd2 e3 y (u+Al v.op pre.length) (d+1) with
        | none=>rw [hrd] at hy;cases hy
        | some q =>
        obtain ⟨t4,s4,nd4,e4⟩:=q;rw [hrd] at hy;simp only at hy;cases hkk:Bd (fun s nd e k u=>AT f s nd e k u (d+1)) f v.op u (pre.length+1) rest s4 nd4 e4 with
        | none=>rw [hkk] at hy;cases hy
        | some q =>
        obtain ⟨us',s5,nd5,e5'⟩:=q;rw [hkk] at hy;simp only [Ah2,AhZ,Ah0] at hy;obtain ⟨rfl,rfl,rfl,rfl⟩:=hy;have hc:=hr s3 nd2 e3 y (u+Al v.op pre.length) (d+1) t4 s4 nd4 e4 hrd n (by omega);have h9:By (rec [.ptr (.ext 0) 0,.fv v.enc,iv u,iv d,.ptr (.own 61865984) 0,.ptr (.own 61874185) 0,iv (pre++[x]).length]
          (K7 v.op v.n (.app (.own 61887499) ((done++[t4]).map Tm.enc)) [(61887499,.tok (done.length+1) 3)] s4 nd4 e4)) (Tm.mk v.op v.n ts).enc [.row [iv s5,iv nd5,iv e5'] false] :=
         hrec rest.length _ _ (by omega) ⟨pre++[x],rest,done++[t4],s4,nd4,e4,us',by rw [hk];simp,rfl,by simp [hdl],rfl,.inr ⟨by simp,by simp⟩,by simpa using hkk,by rw [<- hts];simp⟩
        rcases hK with ⟨hp0,rfl,rfl⟩ | ⟨hne,rfl,rfl⟩
        ·have hd0:done=[]:=List.length_eq_zero_iff.1 (by rw [hdl,hp0];rfl);subst hd0;simp only [List.nil_append,Ah5,Ah4,List.length_nil] at h9;simp only [EB,GT,Ez,GW,EC,Fb,EA,Ey,S59,↓XX,XY,↓reduceIte,seval,↓XV,hwb,wd,hwi,↓Zk hc (CH _ _ _ _ _ _),↓IL,↓QD,↓AJ,XD,heldB,AS,XE];exact h9
        ·simp only [EB,GT,Ez,GW,EC,Fb,EA,Ey,S59,↓XX,XY,↓reduceIte,seval,↓XV,hwb,wd,hwi,↓Zk hc (CH _ _ _ _ _ _),↓IL,↓Ln hd9,↓GZ,↓AJ,XD,heldB,AS,XE];exact h9
       have heads:∃K tk,((pre=[]/\K=.nils/\tk=[])\/(pre≠[]/\K=.app (.own 61887499) (done.map Tm.enc)/\tk=[(61887499,.tok done.length 3)]))/\H=K7 v.op v.n K tk s2 nd2 e2:=by
        rcases hH with ⟨a,b⟩ | ⟨a,b⟩
        ·exact ⟨_,_,.inl ⟨a,rfl,rfl⟩,b⟩
        ·exact ⟨_,_,.inr ⟨a,rfl,rfl⟩,b⟩
       obtain ⟨K,tk,hK,rfl⟩:=heads;by_cases hbp:0<Al v.op pre.length
       ·rw [if_pos hbp] at hkids;by_cases hxe:900000<x.env.length
        ·rw [if_pos hxe] at hkids;cases hkids
        ·rw [if_neg hxe] at hkids;have hbp':0<(Al v.op pre.length:Int):=by omega
         cases hev1:AC f s2 e2 x.b (x.env++ER u (Al v.op pre.length)) with
         | none=>rw [hev1] at hkids;cases hkids
         | some q =>
         obtain ⟨y,s3,e3⟩:=q;rw [hev1] at hkids;have hB:=behind y s3 e3 hkids K tk hK;have hc:=(Xb f).1 s2 e2 x.b _ y s3 e3 nd2 hev1 n (by omega);rw [Sx] at hc;have hdrop:∀(vals:List IV),vals.all FB=true->∀k:Hp->Option (IV×Hp),Bo [] [61885445] vals (K7 v.op v.n K tk s2 nd2 e2) k=k (K7 v.op v.n K tk s2 nd2 e2):=by intro vals hv k;rcases hK with ⟨_,rfl,rfl⟩ | ⟨_,rfl,rfl⟩<;>simp only [↓XX,XY,↓reduceIte,seval,↓AJ,XD,heldB,AS,XE,hv]
         simp only [EB,Ez,EC,Fb,EA,Ey,S59,↓XX,XY,↓reduceIte,seval,↓XV,hi,↓T6 hg,↓Ag hb,hbp',↓hdrop,↓AJ,XD,heldB,AS,XE];refine Be (Q:=fun r=>By r _ _) (fun k V H=>∃j,j+k=Al v.op pre.length/\V=[.ptr (.ext 0) 0,.fv v.enc,iv u,iv d,.ptr (.own 61865984) 0,.ptr (.own 61874185) 0,iv pre.length,iv (Al v.op pre.length),.fv x.enc,.fv (.sl ((x.env++ER u j).map RV.enc)),iv j] /\
          H=K7 v.op v.n K tk s2 nd2 e2) ?_ n (Al v.op pre.length) _ _ (by omega) ?_
         rotate_left
         ·exact ⟨0,by omega,by simp [ER],rfl⟩
         rintro k2 V2 H2 rec2 ⟨j,hj,rfl,rfl⟩ hrec2;cases k2 with
         | zero =>
          have hjb:j=Al v.op pre.length:=by omega
          subst hjb;simp only [EB,Ez,GW,EC,Fb,EA,Ey,S59,↓XX,XY,↓reduceIte,seval,↓XV,Int.lt_irrefl,↓IM hc (CH _ _ _ _ _ _)];exact hB
         | succ k2 =>
          have hjb:(j:Int)<Al v.op pre.length:=by omega
          have hwj:BF (u+(j:Int))=u+j:=by rw [Az]<;>omega
          have hwj1:BF ((j:Int)+1)=((j+1:Nat):Int):=by rw [Az]<;>omega
          have hp:=Pz (n:=n) (by omega) (x.env++ER u j) [RV.var (u+j)] (by simp) (by simp [CC];omega);simp only [Ah5,Ah4,VD] at hp;rw [List.append_assoc,<- J6] at hp;have hbv:=fun s h k=>Ra (RV.var (u+j)) s h k;simp only [VD] at hbv;have hfz:=fun s h (k:KT (IV×Hp))=>VZ (cells:=[.fv (.int .i64 1),iv (u+j),.nils,.nils,.fv (.int .i64 0),.fv (.int .i64 0),.nils]) (fc:=[.int .i64 1,.int .i64 (u+j),.sl [],.sl [],.int .i64 0,.int .i64 0,.sl []]) rfl (by simp) s h k;have h9:=hrec2 k2 _ _ (by omega) ⟨j+1,by omega,rfl,rfl⟩;simp only [EB,Ez,GW,EC,Fb,EA,Ey,S59,↓XX,XY,↓reduceIte,seval,↓XV,hjb,hwj,hwj1,↓hfz,↓hbv,↓Ag hp,↓hdrop,↓AJ,XD,heldB,AS,XE];exact h9
       ·rw [if_neg hbp] at hkids;have hbp':¬ 0<(Al v.op pre.length:Int):=by omega
        have hB:=behind x s2 e2 hkids K tk hK;simp only [EB,Ez,EC,Fb,EA,Ey,S59,↓XX,XY,↓reduceIte,seval,↓XV,hi,↓T6 hg,↓Ag hb,hbp',↓AJ,XD,heldB,AS,XE];exact hB
  ·have e5:(if e=0/\(3000<nd+1\/120<d) then (5:Int) else e)=e:=if_neg (by omega);rw [e5,if_pos he] at hev;simp only [AhZ,Ah0] at hev;obtain ⟨rfl,rfl,rfl,rfl⟩:=hev;simp only [↓y5,↓XX,XY,↓reduceIte,seval,wnd,he];exact EO rfl _ _
theorem nD:∀f,Td f:=by
 intro f
 induction f with
 | zero=>intro s nd e v u d t s' nd' e' h;rw [AT] at h;cases h
 | succ f ih=>exact YF ih
theorem UV {α:Type}:∀(r:Rd α) (h:Hp) (l:List Ref) {x:α} {l':List Ref},r.runLog h l=some (x,l')->r.run h=some x
 | .ret a,h,l,x,l',e=>by simp only [Rd.runLog,AhZ,Ah0] at e;rw [e.1];rfl
 | .fail,_,_,_,_,e=>by cases e
 | .get r k,h,l,x,l',e=>by
  simp only [Rd.runLog] at e;simp only [Rd.run];cases hg:h.get r with
  | none=>rw [hg] at e;cases e
  | some b=>rw [hg] at e;exact UV (k b) h _ e
def I9 {v:IV} {own:List (Nat×Blk)} {ext:List Blk} {w:FV} (h:∃u lg,∀(e:Option (IV×Hp)) (K:FV->List (Ref×Blk)->List Ref->Option (IV×Hp)),DB 12 v ⟨own,ext⟩ [] e K=K w u lg):∃u,(Db 4096 v).run ⟨own,ext⟩=some (w,u):=by
 obtain ⟨u,lg,hz⟩:=h;rcases MY 12 v ⟨own,ext⟩ [] none (fun w _ _=>some (IV.fv w,(⟨[],[]⟩:Hp))) (.fv w,⟨[],[]⟩) (hz ..) with h | ⟨x,u',lg',h1,_,h2⟩
 ·cases h
 ·simp only [AhZ,Ah0,IV.fv.injEq,and_true] at h2;subst h2;exact ⟨u',UV _ _ _ (h1 4096 (by decide))⟩
theorem M7:∀l:List FV,IV.refs.refsL (l.map .fv)=[]
 | []=>rfl
 | v::l=>by
  simp only [Ah5,IV.refs.refsL,IV.refs,M7 l,List.append_nil]
theorem H8:∀(args:List IV) (ks:List Bool) {vs:List FV},(∀b∈ks,b=false)->Bx args=some vs->BA ks args=.ret (vs.map .fv,[],[])
 | [],ks,vs,_,hz=>by cases hz;cases ks<;>rfl
 | v::l,[],vs,_,hz=>Hm (v::l) hz
 | v::l,b::ks,vs,hk,hz=>by
  have hb:=hk b List.mem_cons_self;subst hb;simp only [Bx] at hz;cases h1:Bg v with
  | none=>rw [h1] at hz;cases hz
  | some x =>
   rw [h1] at hz;cases h2:Bx l with
   | none=>rw [h2] at hz;cases hz
   | some ys =>rw [h2] at hz;cases hz;simp only [BA,frp 4096 (by omega) h1,Rd.bind,H8 l ks (fun c hc=>hk c (List.mem_cons_of_mem _ hc)) h2];rfl
def Ps (s:Nat) (ext:List Blk):Nh 400 [.own s] 0 ext=false:=rfl
def aJ {ks:List Bool} (hks:∀b∈ks,b=false) {ih:Ai} {f:FuncId} {args:List IV} {vs:List FV} {w:FV} {s:Nat} {st st':List FV} {own:List (Nat×Blk)} (hz:Bx args=some vs) (hl:Aq s own=some (.row (st.map .fv) false))
  (hr:By (ih f (.ptr (.ext 0) 0::vs.map .fv) ⟨[],[.row (st.map .fv) false]⟩) w [.row (st'.map .fv) false]) (k:KT (IV×Hp)) :
  A5 (true::ks) false false ih f (.ptr (.own s) 0::args) ⟨own,[]⟩ k=k (.fv w) ⟨AQ s (.row (st'.map .fv) false) own,[]⟩ [.own s] [.own s]:=by
 obtain ⟨v,own',e1,hfz⟩:=hr;obtain ⟨u,hu⟩:=I9 hfz;have hD:Ec (true::ks) false false ih f (.ptr (.own s) 0::args) ⟨own,[]⟩ k=k (.fv w) ⟨AQ s (.row (st'.map .fv) false) own,[]⟩ [.own s] [.own s]:=by
  have h1:BA (true::ks) (.ptr (.own s) 0::args)=.ret (.ptr (.own s) 0::vs.map .fv,[.own s],[]):=by simp only [BA,H8 args ks hks hz,Rd.bind,IV.refs];rfl
  have h2:(B6 4096 [.own s] []).runLog ⟨own,[]⟩ []=some ([(.own s,.row (st.map .fv) false)],[.own s]):=by
   show (B6 (4094+1+1) [.own s] []).runLog ⟨own,[]⟩ []=_
   simp only [B6,hasRef,Bool.false_eq_true,if_false,Rd.runLog,Hp.get,hl,Blk.refs,M7,List.append_nil,List.nil_append]
  have h3:IV.ren.renL (DO [(.own s,.row (st.map .fv) false)]) (.ptr (.own s) 0::vs.map .fv)=some (.ptr (.ext 0) 0::vs.map .fv):=by simp only [IV.ren.renL,IV.ren,DO,Cu,if_true,Ah2,Option.bind_some,DJ]
  have h4:Bi (DO [(.own s,.row (st.map .fv) false)]) [.row (st.map .fv) false]=some [.row (st.map .fv) false]:=by simp only [Bi,Blk.ren,DJ,Ah2,Option.bind_some]
  have h5:Bi (CF [(.own s,.row (st.map .fv) false)]) [.row (st'.map .fv) false]=some [.row (st'.map .fv) false]:=by simp only [Bi,Blk.ren,DJ,Ah2,Option.bind_some]
  unfold Ec;simp only [h1,Rd.runLog,h2,h3,Ah5,Ah4,h4,CX (Cm 3),CX CB,Ep,Bool.false_eq_true,if_false,e1,hu,Ah2,IV.ren,h5,Ah3,List.length_nil,Bz,List.all_nil,and_self,if_true,List.nil_append,List.zip_cons_cons,List.zip_nil_left];have h6:laid ⟨own,[]⟩ [(.own s,.row (st'.map .fv) false)]=some ⟨AQ s (.row (st'.map .fv) false) own,[]⟩:=by simp only [laid,Hp.get,hl,Hp.set]
  simp only [h6,Il,Cm]
 rw [JJ,TN,Pg,LW 0 args _ _ _ _ ks hks hz];simp only [Qj,Ps,cond_false];exact hD
def uK {ih:Ai} {f:FuncId} {x y:IV} {vx vy w:FV} {s:Nat} {a b c a' b' c':FV} {own own':List (Nat×Blk)} (hr:By (ih f [.ptr (.ext 0) 0,.fv vx,.fv vy] ⟨[],[.row [.fv a,.fv b,.fv c] false]⟩) w [.row [.fv a',.fv b',.fv c'] false])
  (hx:Bg x=some vx) (hy:Bg y=some vy) (hl:Aq s own=some (.row [.fv a,.fv b,.fv c] false)) (ho:AQ s (.row [.fv a',.fv b',.fv c'] false) own=own') (k:KT (IV×Hp)) :
  A5 [true,false,false] false false ih f [.ptr (.own s) 0,x,y] ⟨own,[]⟩ k=k (.fv w) ⟨own',[]⟩ [.own s] [.own s]:=by
 subst ho;exact aJ (ks:=[false,false]) (by simp) (st:=[a,b,c]) (st':=[a',b',c']) (SW hx hy) hl hr k
def rD {ih:Ai} {f:FuncId} {x y z:IV} {vx vy vz w:FV} {s:Nat} {a b c a' b' c':FV} {own own':List (Nat×Blk)} (hr:By (ih f [.ptr (.ext 0) 0,.fv vx,.fv vy,.fv vz] ⟨[],[.row [.fv a,.fv b,.fv c] false]⟩) w [.row [.fv a',.fv b',.fv c'] false])
  (hx:Bg x=some vx) (hy:Bg y=some vy) (hz:Bg z=some vz) (hl:Aq s own=some (.row [.fv a,.fv b,.fv c] false)) (ho:AQ s (.row [.fv a',.fv b',.fv c'] false) own=own') (k:KT (IV×Hp)) :
  A5 [true,false,false,false] false false ih f [.ptr (.own s) 0,x,y,z] ⟨own,[]⟩ k=k (.fv w) ⟨own',[]⟩ [.own s] [.own s]:=by
 subst ho;exact aJ (ks:=[false,false,false]) (by simp) (st:=[a,b,c]) (st':=[a',b',c']) (YN hx hy hz) hl hr k
def lR {ih:Ai} {f:FuncId} {x y:IV} {vx vy w:FV} {s:Nat} {a b a' b':FV} {own own':List (Nat×Blk)} (hr:By (ih f [.ptr (.ext 0) 0,.fv vx,.fv vy] ⟨[],[.row [.fv a,.fv b] false]⟩) w [.row [.fv a',.fv b'] false])
  (hx:Bg x=some vx) (hy:Bg y=some vy) (hl:Aq s own=some (.row [.fv a,.fv b] false)) (ho:AQ s (.row [.fv a',.fv b'] false) own=own') (k:KT (IV×Hp)) :
  A5 [true,false,false] false false ih f [.ptr (.own s) 0,x,y] ⟨own,[]⟩ k=k (.fv w) ⟨own',[]⟩ [.own s] [.own s]:=by
 subst ho;exact aJ (ks:=[false,false]) (by simp) (st:=[a,b]) (st':=[a',b']) (SW hx hy) hl hr k
def AE (f:Nat) (t:Tm):Option (Tm×Int):=match AC f 0 0 t [] with
 | none=>none
 | some (v,s,e)=>match AT f s 0 e v 0 1 with
  | none=>none
  | some (u,_,_,e)=>some (if e≠0 then (.z,e) else (u,0))
def RK {n:Nat} (hn:0<n) (e:Int):BC (SS dt n 20 [iv e] ⟨[],[]⟩) (.bool (decide (e=17) || decide (e=5))):=by
 obtain ⟨n,rfl⟩:=psc n (by omega);rw [c20];by_cases h1:e=17
 ·simp only [S20,↓XX,XY,↓reduceIte,seval,h1,Bool.true_or];exact Ay _ _
 ·simp only [S20,↓XX,XY,↓reduceIte,seval,h1,Bool.false_or];exact Ay _ _
theorem XT (f:Nat) (t u:Tm) (e:Int) (h:AE f t=some (u,e)) (n:Nat) (hn:f+2<=n):BC (SS dt n 24 [.fv t.enc] ⟨[],[]⟩) (.tuple [u.enc,.int .i64 e]):=by
 obtain ⟨n,rfl⟩:=psc n (by omega);rw [c24];unfold AE at h;cases he:AC f 0 0 t [] with
 | none=>rw [he] at h;cases h
 | some q =>
 obtain ⟨v,s1,e1⟩:=q;rw [he] at h;simp only at h;cases hr:AT f s1 0 e1 v 0 1 with
 | none=>rw [hr] at h;cases h
 | some q =>
 obtain ⟨w,s2,nd2,e2⟩:=q;rw [hr] at h;simp only [AhZ] at h;have h1:=(Xb f).1 0 0 t [] v s1 e1 0 he n (by omega);have h2:=nD f s1 0 e1 v 0 1 w s2 nd2 e2 hr n (by omega);obtain ⟨op,m,ks⟩:=t;rw [An] at h1 ⊢;simp only [Ah4] at h1;have c1:=fun k=>uK (k:=k) h1 (x:=.fv (.agg [.int .i64 op,.int .i64 m,.sl (ks.map Tm.enc)])) (y:=.nils) (s:=25166849) rfl rfl
  (own:=[(25165824,.row [iv op,iv m,.fv (.sl (ks.map Tm.enc))] false),(25165825,.row [iv 0,iv 0,.nils] false),(25166849,.row [iv 0,iv 0,iv 0] false)])
  (own':=[(25165824,.row [iv op,iv m,.fv (.sl (ks.map Tm.enc))] false),(25165825,.row [iv 0,iv 0,.nils] false),(25166849,.row [iv s1,iv 0,iv e1] false)]) (by simp [Aq]) (by simp [AQ])
 have c2:=fun k=>rD (k:=k) h2 (x:=.fv v.enc) (y:=iv 0) (z:=iv 1) (s:=25166849) rfl rfl rfl
  (own:=[(25165824,.row [iv op,iv m,.fv (.sl (ks.map Tm.enc))] false),(25165825,.row [iv 0,iv 0,.nils] false),(25166849,.row [iv s1,iv 0,iv e1] false)])
  (own':=[(25165824,.row [iv op,iv m,.fv (.sl (ks.map Tm.enc))] false),(25165825,.row [iv 0,iv 0,.nils] false),(25166849,.row [iv s2,iv nd2,iv e2] false)]) (by simp [Aq]) (by simp [AQ])
 obtain ⟨wo,wn,wk⟩:=w;rw [An] at c2;by_cases hz:e2=0
 ·rw [if_neg (by simp [hz])] at h;simp only [Ah0] at h;obtain ⟨rfl,rfl⟩:=h;subst hz;simp only [S24,↓XX,XY,↓reduceIte,seval,↓c1,↓c2,An];exact Ay _ _
 ·rw [if_pos hz] at h;simp only [Ah0] at h;obtain ⟨rfl,rfl⟩:=h;simp only [S24,↓XX,XY,↓reduceIte,seval,↓c1,↓c2,hz,Tm.z,An];exact QS rfl (by simp) _
theorem Dt {ev ev':Int->Int->Tm->Option (RV×Int×Int)} (h:∀s e t r,ev s e t=some r->ev' s e t=some r) (op:Int) (env:List RV):∀(l:List Tm) (i:Nat) (s e:Int) (r:List RV×Int×Int),A7 ev op env i l s e=some r->A7 ev' op env i l s e=some r
 | [],i,s,e,r,hr=>hr
 | t::l,i,s,e,r,hr=>by
  simp only [A7] at hr ⊢;by_cases hb:0<Al op i
  ·rw [if_pos hb] at hr ⊢;cases hk:A7 ev op env (i+1) l s e with
   | none=>rw [hk] at hr;cases hr
   | some q=>rw [hk] at hr;rw [Dt h op env l (i+1) s e q hk];exact hr
  ·rw [if_neg hb] at hr ⊢;cases he:ev s e t with
   | none=>rw [he] at hr;cases hr
   | some q =>
    obtain ⟨v,s1,e1⟩:=q;rw [he] at hr;rw [h _ _ _ _ he];simp only at hr ⊢;cases hk:A7 ev op env (i+1) l s1 e1 with
    | none=>rw [hk] at hr;cases hr
    | some q=>rw [hk] at hr;rw [Dt h op env l (i+1) s1 e1 q hk];exact hr
theorem Oe:∀f,(∀s e t env r,AC f s e t env=some r->AC (f+1) s e t env=some r)/\(∀s e v r,headR f s e v=some r->headR (f+1) s e v=some r):=by
 intro f
 induction f with
 | zero=>exact ⟨(by intro s e t env r h;rw [AC] at h;cases h),(by intro s e v r h;rw [headR] at h;cases h)⟩
 | succ f ih =>
  refine ⟨?_,?_⟩
  ·intro s e t env r h;obtain ⟨op,m,ks⟩:=t;rw [AC] at h ⊢;split at h
   ·rename_i h0;rw [if_pos h0];exact h
   ·rename_i h0;rw [if_neg h0];split at h
    ·cases h
    ·rename_i h1;rw [if_neg h1];split at h
     ·rename_i h2;rw [if_pos h2];exact h
     ·rename_i h2;rw [if_neg h2];split at h
      ·cases h
      ·rename_i h3;rw [if_neg (by omega)];split at h
       ·cases h
       ·rename_i h4;rw [if_neg h4];split at h
        ·cases h
        ·rename_i vs s1 e1 hk;rw [Dt (ev':=fun s e t=>AC (f+1) s e t env) (fun s e t r=>ih.1 s e t env r) op env ks 0 s e _ hk];exact ih.2 _ _ _ _ h
  ·intro s e v r h;rw [headR] at h ⊢;by_cases h0:e≠0
   ·rw [if_pos h0] at h ⊢;exact h
   rw [if_neg h0] at h ⊢;by_cases h1:s<0\/1000000<s
   ·rw [if_pos h1] at h;cases h
   rw [if_neg h1] at h ⊢;by_cases h5:v.op=5
   ·rw [if_pos h5] at h ⊢;cases hk:v.k[0]? with
    | none=>rw [hk] at h;cases h
    | some k0 =>
     rw [hk] at h;simp only at h ⊢;by_cases h4:k0.op=4
     ·rw [if_pos h4] at h ⊢;by_cases hq:s+1<=1000
      ·rw [if_pos hq] at h ⊢;cases hc:k0.k[1]? with
       | none=>rw [hc] at h;cases h
       | some c =>
        cases hx:v.k[1]? with
        | none=>rw [hc,hx] at h;cases h
        | some x =>
         rw [hc,hx] at h;simp only at h ⊢;by_cases hl:900000<c.env.length
         ·rw [if_pos hl] at h;cases h
         ·rw [if_neg hl] at h ⊢;exact ih.1 _ _ _ _ _ h
      ·rw [if_neg hq] at h ⊢;exact h
     ·rw [if_neg h4] at h ⊢;exact h
   rw [if_neg h5] at h ⊢;by_cases h89:v.op=8\/v.op=9
   ·rw [if_pos h89] at h ⊢;exact h
   rw [if_neg h89] at h ⊢;by_cases h30:v.op=30
   ·rw [if_pos h30] at h ⊢;exact h
   rw [if_neg h30] at h ⊢;by_cases h19:v.op=19
   ·rw [if_pos h19] at h ⊢;exact h
   rw [if_neg h19] at h ⊢;by_cases h13:v.op=13
   ·rw [if_pos h13] at h ⊢;cases hk0:v.k[0]? with
    | none=>rw [hk0] at h;cases h
    | some k0 =>
    cases hk1:v.k[1]? with
    | none=>rw [hk0,hk1] at h;cases h
    | some k1 =>
    cases hk2:v.k[2]? with
    | none=>rw [hk0,hk1,hk2] at h;cases h
    | some k2 =>
    cases hk3:v.k[3]? with
    | none=>rw [hk0,hk1,hk2,hk3] at h;cases h
    | some k3 =>
    rw [hk0,hk1,hk2,hk3] at h;simp only at h ⊢;by_cases h11:k3.op=11
    ·rw [if_pos h11] at h ⊢;exact h
    rw [if_neg h11] at h ⊢;by_cases h12:k3.op=12
    ·rw [if_pos h12] at h ⊢;by_cases hq:s+1<=1000
     ·rw [if_pos hq] at h ⊢;cases hx:k3.k[0]? with
      | none=>rw [hx] at h;cases h
      | some x =>
       rw [hx] at h;simp only at h ⊢;cases hd:headR f (s+1) 0 (.node 13 0 [k0,k1,k2,x]) with
       | none=>rw [hd] at h;cases h
       | some q =>
        obtain ⟨w,s2,e2⟩:=q;rw [hd] at h;rw [ih.2 _ _ _ _ hd];simp only at h ⊢;by_cases hl:900000<k2.env.length
        ·rw [if_pos hl] at h;cases h
        ·rw [if_neg hl] at h ⊢;exact ih.1 _ _ _ _ _ h
     ·rw [if_neg hq] at h ⊢;exact h
    ·rw [if_neg h12] at h ⊢;exact h
   rw [if_neg h13] at h ⊢;exact h
theorem B4 {f g:Nat} (hfg:f<=g) {s e:Int} {t:Tm} {env:List RV} {r:RV×Int×Int} (h:AC f s e t env=some r):AC g s e t env=some r:=by
 induction hfg with
 | refl=>exact h
 | step _ ih=>exact (Oe _).1 _ _ _ _ _ ih
theorem Qd {f g:Nat} (hfg:f<=g) {s e:Int} {v:RV} {r:RV×Int×Int} (h:headR f s e v=some r):headR g s e v=some r:=by
 induction hfg with
 | refl=>exact h
 | step _ ih=>exact (Oe _).2 _ _ _ _ ih
def ar (op:Int):Option Nat :=
 if op=0\/op=1\/op=2\/op=10\/op=11\/op=14\/op=15\/op=25 then some 0
 else if op=8\/op=9\/op=12\/op=18\/op=19\/op=23\/op=24\/op=30 then some 1
 else if op=3\/op=4\/op=5\/op=6\/op=16\/op=17\/op=20\/op=21\/op=22\/op=26\/op=28\/op=29 then some 2
 else if op=7\/op=27 then some 3 else if op=13 then some 4 else none
def BY (op n:Int):Prop:=if op=2 then 0<=n/\n<=2 else if op=26 then 0<=n/\n<=4 else if op=25 then -2305843009213693952<=n/\n<=2305843009213693952 else n=0
mutual
def Tm.sc:Tm->Nat->Prop
 | .mk op n ks,k=>ar op=some ks.length/\(if op=1 then 0<=n/\n<k else BY op n)/\Tm.scL op 0 ks k
def Tm.scL:Int->Nat->List Tm->Nat->Prop
 | _,_,[],_=>True
 | op,i,t::l,k=>t.sc (k+Al op i)/\Tm.scL op (i+1) l k
end
mutual
def Tm.bd:Tm->Nat
 | .mk op _ ks=>Tm.bdL op 0 ks
def Tm.bdL:Int->Nat->List Tm->Nat
 | _,_,[]=>0
 | op,i,t::l=>max (Al op i+t.bd) (Tm.bdL op (i+1) l)
end
section
variable (k0 D:Nat) (L:Int)
mutual
def RV.ok:RV->Prop
 | .mk op n k _ _=>if op=1 then -(k0:Int)<=n/\n<L/\k=[] else ar op=some k.length/\BY op n/\RV.okL op 0 k
def RV.okL:Int->Nat->List RV->Prop
 | _,_,[]=>True
 | op,i,v::l=>(if 0<Al op i then RV.okC (Al op i) v else RV.ok v)/\RV.okL op (i+1) l
def RV.okC:Nat->RV->Prop
 | b,.mk _ _ _ env bd=>RV.okE env/\bd.sc (k0+env.length+b)/\env.length+b+bd.bd<=D
def RV.okE:List RV->Prop
 | []=>True
 | v::l=>RV.ok v/\RV.okE l
end
end
end Idl
end Go.Proofs.YtnenpcghegcnhaaGreat
namespace Go.Proofs.YtnenpcghegcnhaaGreat
namespace Idl
theorem QX {op:Int} {n:Nat} (h:ar op=some n):n<=4:=by
 unfold ar at h
 repeat' split at h
 all_goals first | (simp only [AhZ] at h;omega) | cases h
section
variable {k0 D:Nat} {L:Int}
theorem Um:∀{l:List RV},RV.okE k0 D L l->∀{i:Nat} {v:RV},l[i]?=some v->RV.ok k0 D L v
 | [],_,i,v,h=>by simp at h
 | a::l,ho,i,v,h=>by
  rw [RV.okE] at ho;cases i with
  | zero=>simp at h;subst h;exact ho.1
  | succ i=>simp at h;exact Um ho.2 h
theorem Je:∀{l l':List RV},RV.okE k0 D L l->RV.okE k0 D L l'->RV.okE k0 D L (l++l')
 | [],l',_,h=>h
 | a::l,l',h,h'=>by
  rw [RV.okE] at h;rw [List.cons_append,RV.okE];exact ⟨h.1,Je h.2 h'⟩
theorem Pn {v:RV} (h:RV.ok k0 D L v):RV.okE k0 D L [v]:=by rw [RV.okE,RV.okE];exact ⟨h,trivial⟩
theorem mV {v w:RV} (h:RV.ok k0 D L v) (h':RV.ok k0 D L w):RV.okE k0 D L [v,w]:=by rw [RV.okE];exact ⟨h,Pn h'⟩
theorem Jx:∀{l:List RV} {op:Int} {i:Nat},RV.okL k0 D L op i l->∀{j:Nat} {v:RV},l[j]?=some v->(if 0<Al op (i+j) then RV.okC k0 D L (Al op (i+j)) v else RV.ok k0 D L v)
 | [],op,i,_,j,v,h=>by simp at h
 | a::l,op,i,ho,j,v,h=>by
  rw [RV.okL] at ho;cases j with
  | zero=>simp at h;subst h;exact ho.1
  | succ j =>
   simp at h
   have:=Jx ho.2 h
   rw [show i+1+j=i+(j+1) by omega] at this
   exact this
theorem UR {op n:Int} {k:List RV} (h1:op≠1) (ha:ar op=some k.length) (hn:BY op n) (hk:RV.okL k0 D L op 0 k):RV.ok k0 D L (.node op n k):=by rw [RV.node,RV.ok,if_neg h1];exact ⟨ha,hn,hk⟩
theorem E0 {v:RV} (h:RV.ok k0 D L v) (h1:v.op≠1):ar v.op=some v.k.length/\BY v.op v.n/\RV.okL k0 D L v.op 0 v.k:=by obtain ⟨op,n,k,env,b⟩:=v;rw [RV.ok] at h;have h1:op≠1:=h1;rw [if_neg h1] at h;exact h
theorem OZ:RV.ok k0 D L .zero:=by rw [RV.zero,RV.ok,if_neg (by decide)];exact ⟨by decide,by simp [BY],by rw [RV.okL];trivial⟩
theorem Fi {v:RV} (h:RV.ok k0 D L v) (h1:v.op≠1) {j:Nat} (hj:j<v.k.length) (hb:Al v.op j=0):∃w,v.k[j]?=some w/\RV.ok k0 D L w:=by
 obtain ⟨_,_,hl⟩:=E0 h h1;refine ⟨v.k[j],Ah6 hj,?_⟩
 have:=Jx hl (Ah6 hj)
 rw [Nat.zero_add,if_neg (by omega)] at this;exact this
theorem SZ {v:RV} (h:RV.ok k0 D L v) (h1:v.op≠1) {j:Nat} (hj:j<v.k.length) (hb:0<Al v.op j):∃w,v.k[j]?=some w/\RV.okE k0 D L w.env/\w.b.sc (k0+w.env.length+Al v.op j)/\w.env.length+Al v.op j+w.b.bd<=D:=by
 obtain ⟨_,_,hl⟩:=E0 h h1;refine ⟨v.k[j],Ah6 hj,?_⟩
 have:=Jx hl (Ah6 hj)
 rw [Nat.zero_add,if_pos hb] at this;generalize v.k[j]=w at this ⊢;obtain ⟨op,n,k,env,b⟩:=w;rw [RV.okC] at this;exact this
def Qo (s s' e':Int):Prop:=s<=s'/\(e'=0/\s'<=1000\/e'=17/\s'=1001)
def Ya (k0 D:Nat) (L:Int) (c:Nat):Prop:=∀(v:RV) (s:Int),v.op≠1->RV.ok k0 D L v->0<=s->s<=1000->1000<=s+c->∃f w s' e',headR f s 0 v=some (w,s',e')/\RV.ok k0 D L w/\Qo s s' e'
def qY (k0 D:Nat) (L:Int) (c:Nat):Prop:=∀(t:Tm) (env:List RV) (s:Int),RV.okE k0 D L env->t.sc (k0+env.length)->env.length+t.bd<=D->0<=s->s<=1000->1000<=s+c->∃f v s' e',AC f s 0 t env=some (v,s',e')/\RV.ok k0 D L v/\Qo s s' e'
theorem Mm (s e:Int) (h:e≠0) (t:Tm) (env:List RV):AC 1 s e t env=some (.zero,s,e):=by obtain ⟨op,m,ks⟩:=t;rw [AC,if_pos h]
theorem aS {c:Nat} (h:qY k0 D L c) {t:Tm} {env:List RV} {s e:Int} (h1:RV.okE k0 D L env) (h2:t.sc (k0+env.length)) (h3:env.length+t.bd<=D) (h0:0<=s) (he:e=0/\s<=1000\/e=17/\s=1001) (hc:1000<=s+c) :
  ∃f v s' e',AC f s e t env=some (v,s',e')/\RV.ok k0 D L v/\Qo s s' e':=by
 rcases he with ⟨rfl,hs⟩ | ⟨rfl,hs⟩
 ·exact h t env s h1 h2 h3 h0 hs hc
 ·exact ⟨1,_,_,_,Mm s 17 (by decide) t env,OZ,by omega,.inr ⟨rfl,hs⟩⟩
theorem NK (hD:D<=900000) (c:Nat) (he:∀c',c=c'+1->qY k0 D L c') (hh:∀c',c=c'+1->Ya k0 D L c'):Ya k0 D L c:=by
 intro v s h1 ho hs0 hs1 hsc;obtain ⟨ha,hn,hl⟩:=E0 ho h1;have stop:Qo s s 0:=⟨by omega,.inl ⟨rfl,hs1⟩⟩;by_cases h5:v.op=5
 ·have hlen:v.k.length=2:=by rw [h5] at ha;simpa [ar] using ha.symm
  obtain ⟨k0',hk0,ok0⟩:=Fi ho h1 (j:=0) (by omega) (by rw [h5];rfl);obtain ⟨k1,hk1,ok1⟩:=Fi ho h1 (j:=1) (by omega) (by rw [h5];rfl);by_cases h4:k0'.op=4
  ·by_cases hq:s+1<=1000
   ·obtain ⟨c',rfl⟩:∃c',c=c'+1:=⟨c - 1,by omega⟩;obtain ⟨ha4,_,_⟩:=E0 ok0 (by omega);have hlen4:k0'.k.length=2:=by rw [h4] at ha4;simpa [ar] using ha4.symm
    obtain ⟨w,hw,w1,w2,w3⟩:=SZ ok0 (by omega) (j:=1) (by omega) (by rw [h4];decide);have hb1:Al k0'.op 1=1:=by rw [h4];rfl
    rw [hb1] at w2 w3;obtain ⟨f,x,s',e',hx,hxo,hxe⟩:=he c' rfl w.b (w.env++[k1]) (s+1) (Je w1 (Pn ok1)) (by simpa [Nat.add_assoc] using w2) (by simp;omega) (by omega) hq (by omega);refine ⟨f+1,x,s',e',?_,hxo,?_⟩
    ·rw [headR,if_neg (by decide),if_neg (by omega),if_pos h5,hk0];simp only [h4,hq,hw,hk1,if_true];rw [if_neg (by omega)];exact hx
    ·exact ⟨by have:=hxe.1;omega,hxe.2⟩
   ·refine ⟨1,v,s+1,17,?_,ho,by omega,.inr ⟨rfl,by omega⟩⟩;rw [headR,if_neg (by decide),if_neg (by omega),if_pos h5,hk0];simp only [h4,hq,if_true,if_false]
  ·refine ⟨1,v,s,0,?_,ho,stop⟩;rw [headR,if_neg (by decide),if_neg (by omega),if_pos h5,hk0];simp only [h4,if_false]
 by_cases h89:v.op=8\/v.op=9
 ·have hlen:v.k.length=1:=by rcases h89 with h | h<;>(rw [h] at ha;simpa [ar] using ha.symm)
  obtain ⟨k0',hk0,ok0⟩:=Fi ho h1 (j:=0) (by omega) (by rcases h89 with h | h<;>(rw [h];rfl));by_cases h7:k0'.op=7
  ·by_cases hq:s+1<=1000
   ·obtain ⟨ha7,_,_⟩:=E0 ok0 (by omega);have hlen7:k0'.k.length=3:=by rw [h7] at ha7;simpa [ar] using ha7.symm
    obtain ⟨x,hx,okx⟩:=Fi ok0 (by omega) (j:=(1+v.op - 8).toNat) (by omega) (by rw [h7];rcases h89 with h | h<;>(rw [h];rfl));refine ⟨1,x,s+1,0,?_,okx,by omega,.inl ⟨rfl,hq⟩⟩;rw [headR,if_neg (by decide),if_neg (by omega),if_neg h5,if_pos h89,hk0];simp only [h7,hq,if_true,hx,Ah2]
   ·refine ⟨1,v,s+1,17,?_,ho,by omega,.inr ⟨rfl,by omega⟩⟩;rw [headR,if_neg (by decide),if_neg (by omega),if_neg h5,if_pos h89,hk0];simp only [h7,hq,if_true,if_false]
  ·refine ⟨1,v,s,0,?_,ho,stop⟩;rw [headR,if_neg (by decide),if_neg (by omega),if_neg h5,if_pos h89,hk0];simp only [h7,if_false]
 by_cases h30:v.op=30
 ·have hlen:v.k.length=1:=by rw [h30] at ha;simpa [ar] using ha.symm
  obtain ⟨k0',hk0,ok0⟩:=Fi ho h1 (j:=0) (by omega) (by rw [h30];rfl);by_cases h7:k0'.op=19
  ·by_cases hq:s+1<=1000
   ·obtain ⟨ha7,_,_⟩:=E0 ok0 (by omega);have hlen7:k0'.k.length=1:=by rw [h7] at ha7;simpa [ar] using ha7.symm
    obtain ⟨x,hx,okx⟩:=Fi ok0 (by omega) (j:=0) (by omega) (by rw [h7];rfl);refine ⟨1,x,s+1,0,?_,okx,by omega,.inl ⟨rfl,hq⟩⟩;rw [headR,if_neg (by decide),if_neg (by omega),if_neg h5,if_neg h89,if_pos h30,hk0];simp only [h7,hq,if_true,hx,Ah2]
   ·refine ⟨1,v,s+1,17,?_,ho,by omega,.inr ⟨rfl,by omega⟩⟩;rw [headR,if_neg (by decide),if_neg (by omega),if_neg h5,if_neg h89,if_pos h30,hk0];simp only [h7,hq,if_true,if_false]
  ·refine ⟨1,v,s,0,?_,ho,stop⟩;rw [headR,if_neg (by decide),if_neg (by omega),if_neg h5,if_neg h89,if_pos h30,hk0];simp only [h7,if_false]
 by_cases h19:v.op=19
 ·have hlen:v.k.length=1:=by rw [h19] at ha;simpa [ar] using ha.symm
  obtain ⟨k0',hk0,ok0⟩:=Fi ho h1 (j:=0) (by omega) (by rw [h19];rfl);by_cases h7:k0'.op=30
  ·by_cases hq:s+1<=1000
   ·obtain ⟨ha7,_,_⟩:=E0 ok0 (by omega);have hlen7:k0'.k.length=1:=by rw [h7] at ha7;simpa [ar] using ha7.symm
    obtain ⟨x,hx,okx⟩:=Fi ok0 (by omega) (j:=0) (by omega) (by rw [h7];rfl);refine ⟨1,x,s+1,0,?_,okx,by omega,.inl ⟨rfl,hq⟩⟩;rw [headR,if_neg (by decide),if_neg (by omega),if_neg h5,if_neg h89,if_neg h30,if_pos h19,hk0];simp only [h7,hq,if_true,hx,Ah2]
   ·refine ⟨1,v,s+1,17,?_,ho,by omega,.inr ⟨rfl,by omega⟩⟩;rw [headR,if_neg (by decide),if_neg (by omega),if_neg h5,if_neg h89,if_neg h30,if_pos h19,hk0];simp only [h7,hq,if_true,if_false]
  ·refine ⟨1,v,s,0,?_,ho,stop⟩;rw [headR,if_neg (by decide),if_neg (by omega),if_neg h5,if_neg h89,if_neg h30,if_pos h19,hk0];simp only [h7,if_false]
 by_cases h13:v.op=13
 ·have hlen:v.k.length=4:=by rw [h13] at ha;simpa [ar] using ha.symm
  obtain ⟨a0,hk0,c0⟩:=SZ ho h1 (j:=0) (by omega) (by rw [h13];decide);obtain ⟨a1,hk1,ok1⟩:=Fi ho h1 (j:=1) (by omega) (by rw [h13];rfl);obtain ⟨a2,hk2,w1,w2,w3⟩:=SZ ho h1 (j:=2) (by omega) (by rw [h13];decide);obtain ⟨a3,hk3,ok3⟩:=Fi ho h1 (j:=3) (by omega) (by rw [h13];rfl);have hb2:Al v.op 2=2:=by rw [h13];rfl
  rw [hb2] at w2 w3;by_cases h11:a3.op=11
  ·by_cases hq:s+1<=1000
   ·refine ⟨1,a1,s+1,0,?_,ok1,by omega,.inl ⟨rfl,hq⟩⟩;rw [headR,if_neg (by decide),if_neg (by omega),if_neg h5,if_neg h89,if_neg h30,if_neg h19,if_pos h13,hk0,hk1,hk2,hk3];simp only [h11,hq,if_true]
   ·refine ⟨1,v,s+1,17,?_,ho,by omega,.inr ⟨rfl,by omega⟩⟩;rw [headR,if_neg (by decide),if_neg (by omega),if_neg h5,if_neg h89,if_neg h30,if_neg h19,if_pos h13,hk0,hk1,hk2,hk3];simp only [h11,hq,if_true,if_false]
  by_cases h12:a3.op=12
  ·by_cases hq:s+1<=1000
   ·obtain ⟨c',rfl⟩:∃c',c=c'+1:=⟨c - 1,by omega⟩;obtain ⟨ha12,_,_⟩:=E0 ok3 (by omega);have hlen12:a3.k.length=1:=by rw [h12] at ha12;simpa [ar] using ha12.symm
    obtain ⟨x,hx,okx⟩:=Fi ok3 (by omega) (j:=0) (by omega) (by rw [h12];rfl);have hrec:RV.ok k0 D L (.node 13 0 [a0,a1,a2,x]):=by refine UR (by decide) rfl (by simp [BY]) ?_;have e0:=Jx hl hk0;have e2:=Jx hl hk2;rw [h13] at e0 e2;simp only [RV.okL];exact ⟨e0,ok1,e2,okx,trivial⟩
    obtain ⟨f,h,s2,e2,hd,hdo,hde⟩:=hh c' rfl _ (s+1) (by simp [RV.node,RV.op]) hrec (by omega) hq (by omega);obtain ⟨g,y,s3,e3,hy,hyo,hye⟩:=aS (he c' rfl) (t:=a2.b) (env:=a2.env++[x,h]) (s:=s2) (e:=e2) (Je w1 (mV okx hdo)) (by simpa [Nat.add_assoc] using w2) (by simp;omega) (by have:=hde.1;omega) hde.2 (by have:=hde.1;omega);refine ⟨f+g+1,y,s3,e3,?_,hyo,by have:=hde.1;have:=hye.1;omega,hye.2⟩;rw [headR,if_neg (by decide),if_neg (by omega),if_neg h5,if_neg h89,if_neg h30,if_neg h19,if_pos h13,hk0,hk1,hk2,hk3];simp only [h12,hq,if_true,hx,Qd (show f<=f+g by omega) hd]
    rw [if_neg (by decide),if_neg (by omega)];exact B4 (by omega) hy
   ·refine ⟨1,v,s+1,17,?_,ho,by omega,.inr ⟨rfl,by omega⟩⟩;rw [headR,if_neg (by decide),if_neg (by omega),if_neg h5,if_neg h89,if_neg h30,if_neg h19,if_pos h13,hk0,hk1,hk2,hk3];simp only [h12,hq,if_true,if_false];rw [if_neg (by decide)]
  ·refine ⟨1,v,s,0,?_,ho,stop⟩;rw [headR,if_neg (by decide),if_neg (by omega),if_neg h5,if_neg h89,if_neg h30,if_neg h19,if_pos h13,hk0,hk1,hk2,hk3];simp only [h11,h12,if_false]
 ·refine ⟨1,v,s,0,?_,ho,stop⟩;rw [headR,if_neg (by decide),if_neg (by omega),if_neg h5,if_neg h89,if_neg h30,if_neg h19,if_neg h13]
end
section
variable {k0 D:Nat} {L:Int}
theorem LS {c:Nat} {env:List RV} (henv:RV.okE k0 D L env) (op:Int):∀(l:List Tm) (i:Nat) (s e:Int),
  (∀t∈l,∀s:Int,t.sc (k0+env.length)->env.length+t.bd<=D->0<=s->s<=1000->1000<=s+c->∃f v s' e',AC f s 0 t env=some (v,s',e')/\RV.ok k0 D L v/\Qo s s' e') ->
  Tm.scL op i l (k0+env.length)->env.length+Tm.bdL op i l<=D->0<=s->(e=0/\s<=1000\/e=17/\s=1001)->1000<=s+c ->
  ∃f vs s' e',A7 (fun s e t=>AC f s e t env) op env i l s e=some (vs,s',e')/\RV.okL k0 D L op i vs/\vs.length=l.length/\Qo s s' e'
 | [],i,s,e,_,_,_,h0,he,_=>⟨0,[],s,e,rfl,by rw [RV.okL];trivial,rfl,by omega,he⟩
 | t::l,i,s,e,hev,hsc,hbd,h0,he,hc=>by
  rw [Tm.scL] at hsc;rw [Tm.bdL] at hbd;by_cases hb:0<Al op i
  ·obtain ⟨f,vs,s',e',hk,hok,hlen,hend⟩:=LS henv op l (i+1) s e (fun u hu=>hev u (List.mem_cons_of_mem _ hu)) hsc.2 (by omega) h0 he hc;refine ⟨f,.clo env t::vs,s',e',?_,?_,by simp [hlen],hend⟩
   ·rw [A7,if_pos hb,hk];rfl
   ·rw [RV.okL,if_pos hb,RV.clo,RV.okC];exact ⟨⟨henv,hsc.1,by omega⟩,hok⟩
  ·have hb0:Al op i=0:=by omega
   rw [hb0] at hsc hbd;have h1:∃f v s' e',AC f s e t env=some (v,s',e')/\RV.ok k0 D L v/\Qo s s' e':=by
    rcases he with ⟨rfl,hs⟩ | ⟨rfl,hs⟩
    ·exact hev t List.mem_cons_self s (by simpa using hsc.1) (by omega) h0 hs hc
    ·exact ⟨1,_,_,_,Mm s 17 (by decide) t env,OZ,by omega,.inr ⟨rfl,hs⟩⟩
   obtain ⟨f,v,s1,e1,hv,hvo,hve⟩:=h1;obtain ⟨g,vs,s',e',hk,hok,hlen,hend⟩:=LS henv op l (i+1) s1 e1 (fun u hu=>hev u (List.mem_cons_of_mem _ hu)) hsc.2 (by omega) (by have:=hve.1;omega) hve.2 (by have:=hve.1;omega);refine ⟨f+g,v::vs,s',e',?_,?_,by simp [hlen],by have:=hve.1;have:=hend.1;omega,hend.2⟩
   ·rw [A7,if_neg hb];simp only [B4 (show f<=f+g by omega) hv]
    rw [Dt (ev:=fun s e t=>AC g s e t env) (fun s e t r h=>B4 (by omega) h) op env l (i+1) s1 e1 _ hk];rfl
   ·rw [RV.okL,if_neg hb];exact ⟨hvo,hok⟩
theorem NP (hD:D<=900000) (hL:0<=L) (hk0:k0<=900000) {c:Nat} (hh:Ya k0 D L c):∀(m:Nat) (t:Tm) (env:List RV) (s:Int),t.wt<m->RV.okE k0 D L env->t.sc (k0+env.length)->env.length+t.bd<=D->0<=s->s<=1000->1000<=s+c ->
  ∃f v s' e',AC f s 0 t env=some (v,s',e')/\RV.ok k0 D L v/\Qo s s' e':=by
 intro m
 induction m with
 | zero=>intro t env s h;omega
 | succ m ih =>
  intro t env s hw henv hsc hbd h0 h1 hc;obtain ⟨op,n,ks⟩:=t;rw [Tm.sc] at hsc;rw [Tm.bd] at hbd;simp only [Tm.wt] at hw;by_cases hop:op=1
  ·subst hop;rw [if_pos rfl] at hsc;have hkl:ks=[]:=by
    have:=hsc.1
    simp [ar] at this;exact List.length_eq_zero_iff.1 this.symm
   by_cases hm:n<env.length
   ·have hlt:((env.length:Int) - 1 - n).toNat<env.length:=by omega
    refine ⟨1,env[((env.length:Int) - 1 - n).toNat],s,0,?_,Um henv (Ah6 hlt),by omega,.inl ⟨rfl,h1⟩⟩;rw [AC,if_neg (by decide),if_neg (by omega),if_pos rfl,if_pos hm,if_pos hsc.2.1.1,Ah6 hlt];rfl
   ·refine ⟨1,.var (env.length - 1 - n),s,0,?_,?_,by omega,.inl ⟨rfl,h1⟩⟩
    ·rw [AC,if_neg (by decide),if_neg (by omega),if_pos rfl,if_neg hm,if_pos (by have:=hsc.2.1.2;omega)]
    ·rw [RV.var,RV.ok,if_pos rfl]
     have:=hsc.2.1.2
     exact ⟨by omega,by omega,rfl⟩
  ·rw [if_neg hop] at hsc;obtain ⟨f,vs,s1,e1,hk,hok,hlen,hend⟩:=LS (c:=c) henv op ks 0 s 0 (fun t ht s=>fun a b c' d e=>ih t env s (by have:=Cb ht;omega) henv a b c' d e) hsc.2.2 hbd h0 (.inl ⟨rfl,h1⟩) hc;have hnode:RV.ok k0 D L (.node op n vs):=UR hop (by rw [hlen];exact hsc.1) hsc.2.1 hok;have har:=QX hsc.1;have h2:∃g w s' e',headR g s1 e1 (.node op n vs)=some (w,s',e')/\RV.ok k0 D L w/\Qo s1 s' e':=by
    rcases hend.2 with ⟨he,hs⟩ | ⟨he,hs⟩
    ·subst he;exact hh _ s1 (by simpa [RV.node,RV.op] using hop) hnode (by have:=hend.1;omega) hs (by have:=hend.1;omega)
    ·subst he;refine ⟨1,_,s1,17,by rw [headR,if_pos (by decide)],hnode,by omega,.inr ⟨rfl,hs⟩⟩
   obtain ⟨g,w,s',e',hw2,hwo,hwe⟩:=h2;refine ⟨f+g+5+1,w,s',e',?_,hwo,by have:=hend.1;have:=hwe.1;omega,hwe.2⟩;rw [AC,if_neg (by decide),if_neg (by omega),if_neg hop,if_neg (by omega),if_neg (by omega)];rw [Dt (ev:=fun s e t=>AC f s e t env) (fun s e t r h=>B4 (by omega) h) op env ks 0 s 0 _ hk];exact Qd (by omega) hw2
theorem tot (hD:D<=900000) (hL:0<=L) (hk0:k0<=900000):∀c,Ya k0 D L c/\qY k0 D L c:=by
 intro c
 induction c with
 | zero =>have hH:Ya k0 D L 0:=NK hD 0 (fun c' h=>by omega) (fun c' h=>by omega);exact ⟨hH,fun t env s a b c d e f=>NP hD hL hk0 hH (t.wt+1) t env s (by omega) a b c d e f⟩
 | succ c ih =>have hH:Ya k0 D L (c+1):=NK hD (c+1) (fun c' h=>by cases h;exact ih.2) (fun c' h=>by cases h;exact ih.1);exact ⟨hH,fun t env s a b c d e f=>NP hD hL hk0 hH (t.wt+1) t env s (by omega) a b c d e f⟩
end
end Idl
end Go.Proofs.YtnenpcghegcnhaaGreat

/-
  Texts of a proof, part 10: an ideal semantics of the program, its functions in shallow form, contracts of them. No statement of the seat is proved here.
-/
import Derived.KernelRfl
import Derived.Test.YtnenpcghegcnhaaGreatKernelGrownK9
set_option linter.all false
set_option maxRecDepth 20000
set_option maxHeartbeats 16000000
noncomputable section
namespace Go.Proofs.YtnenpcghegcnhaaGreat
namespace Idl
theorem d5 (f:Nat) (G:Ah->Nat->Hp->Option (IV×Hp)) (e:dt.call f=fun ih n=>ar0 (G ih n):=by kernel_rfl) (n:Nat) (h:Hp):SS dt (n+1) f [] h=G (SS dt n) n  h:=by
 show dt.call f (SS dt n) n _ h=_
 rw [e];rfl
theorem Bt (f:Nat) (G:Ah->Nat->IV->Hp->Option (IV×Hp)) (e:dt.call f=fun ih n=>ar1 (G ih n):=by kernel_rfl) (n:Nat) (a0:IV) (h:Hp):SS dt (n+1) f [a0] h=G (SS dt n) n a0 h:=by
 show dt.call f (SS dt n) n _ h=_
 rw [e];rfl
theorem A9 (f:Nat) (G:Ah->Nat->IV->IV->Hp->Option (IV×Hp)) (e:dt.call f=fun ih n=>ar2 (G ih n):=by kernel_rfl) (n:Nat) (a0 a1:IV) (h:Hp):SS dt (n+1) f [a0,a1] h=G (SS dt n) n a0 a1 h:=by
 show dt.call f (SS dt n) n _ h=_
 rw [e];rfl
theorem BS (f:Nat) (G:Ah->Nat->IV->IV->IV->Hp->Option (IV×Hp)) (e:dt.call f=fun ih n=>ar3 (G ih n):=by kernel_rfl) (n:Nat) (a0 a1 a2:IV) (h:Hp):SS dt (n+1) f [a0,a1,a2] h=G (SS dt n) n a0 a1 a2 h:=by
 show dt.call f (SS dt n) n _ h=_
 rw [e];rfl
theorem Ce (f:Nat) (G:Ah->Nat->IV->IV->IV->IV->Hp->Option (IV×Hp)) (e:dt.call f=fun ih n=>ar4 (G ih n):=by kernel_rfl) (n:Nat) (a0 a1 a2 a3:IV) (h:Hp):SS dt (n+1) f [a0,a1,a2,a3] h=G (SS dt n) n a0 a1 a2 a3 h:=by
 show dt.call f (SS dt n) n _ h=_
 rw [e];rfl
theorem rB (f:Nat) (G:Ah->Nat->IV->IV->IV->IV->IV->Hp->Option (IV×Hp)) (e:dt.call f=fun ih n=>ar5 (G ih n):=by kernel_rfl) (n:Nat) (a0 a1 a2 a3 a4:IV) (h:Hp):SS dt (n+1) f [a0,a1,a2,a3,a4] h=G (SS dt n) n a0 a1 a2 a3 a4 h:=by
 show dt.call f (SS dt n) n _ h=_
 rw [e];rfl
theorem Afe (f:Nat) (G:Ah->Nat->IV->IV->IV->IV->IV->IV->Hp->Option (IV×Hp)) (e:dt.call f=fun ih n=>ar6 (G ih n):=by kernel_rfl) (n:Nat) (a0 a1 a2 a3 a4 a5:IV) (h:Hp):SS dt (n+1) f [a0,a1,a2,a3,a4,a5] h=G (SS dt n) n a0 a1 a2 a3 a4 a5 h:=by
 show dt.call f (SS dt n) n _ h=_
 rw [e];rfl
def c9:=Ce 9 S9
def tK:=Bt 12 tT
def c13:=Bt 13 S13
def c14:=Ce 14 S14
def QD:=BS 19 S19
def c20:=Bt 20 S20
def c21:=Bt 21 S21
def c22:=BS 22 S22
def c23:=A9 23 lR
def c24:=Bt 24 S24
def c26:=A9 26 S26
def c27:=Ce 27 S27
def c28:=Bt 28 S28
def xO:=BS 29 S29
def nH:=Ce 30 S30
def c31:=BS 31 S31
def c32:=BS 32 S32
def c33:=Ce 33 xL
def c35:=BS 35 iI
def c36:=Bt 36 S36
def c37:=Bt 37 xD
def c38:=A9 38 S38
def c39:=Bt 39 S39
def c40:=A9 40 xE
def c41:=A9 41 yC
def oN:=Ce 42 S42
def c43:=Bt 43 S43
def c45:=Bt 45 xQ
def c47:=A9 47 pJ
def c48:=Bt 48 S48
def UP:=A9 49 S49
def c50:=Bt 50 S50
def c51:=Ce 51 nZ
def Si:=A9 52 S52
def c53:=BS 53 S53
def c54:=Bt 54 S54
def c55:=A9 55 S55
def c56:=Bt 56 S56
def c57:=A9 57 S57
def c58:=BS 58 xX
def c59:=Ce 59 S59
def c60:=BS 60 S60
def c61:=Bt 61 S61
def c62:=A9 62 S62
def c63:=A9 63 S63
def c64:=d5 64 S64
def c65:=A9 65 S65
def c66:=Ce 66 S66
def c67:=Ce 67 xK
def pH:=Ce 68 S68
def c69:=Ce 69 S69
def c70:=A9 70 S70
def c71:=A9 71 S71
def yD:=Ce 72 S72
def c73:=BS 73 S73
def c74:=BS 74 S74
def c75:=Ce 75 S75
def YI:=A9 76 S76
def zR:=A9 77 S77
def c78:=A9 78 S78
def c79:=A9 79 u6
def c80:=BS 80 S80
def c81:=A9 81 yW
def c82:=Bt 82 xJ
def c83:=BS 83 S83
def fU:=A9 84 S84
def kX:=A9 85 S85
def c86:=A9 86 S86
def c87:=A9 87 S87
def c88:=A9 88 sR
def c89:=A9 89 S89
def c90:=Bt 90 zP
def c91:=Bt 91 S91
def c92:=Bt 92 S92
def c93:=Bt 93 S93
def c94:=A9 94 rZ
def c95:=Bt 95 S95
def c96:=d5 96 S96
def c97:=BS 97 S97
def c98:=Ce 98 S98
def c99:=BS 99 S99
def AeE:=BS 100 sX
def Ae8:=Ce 101 rF
def Ae6:=Ce 102 p9
def qC:=A9 103 ZE
def AeR:=BS 104 pR
def AeX:=Ce 105 dY
def Ad3:=Ce 106 uR
def Adz:=BS 107 uO
def Aey:=BS 108 qG
def Acm:=BS 109 qK
def AcH:=BS 110 rA
def AeV:=BS 111 tC
def AdK:=Ce 112 tX
def Ack:=A9 113 rJ
def AeI:=rB 114 vY
def PH:=A9 115 S115
def AcJ:=Bt 116 jE
def Ada:=Bt 117 rN
def Ady:=A9 118 wY
def AdB:=Bt 119 Tp
def AeM:=A9 120 lK
def AdX:=A9 121 Zn
def Adj:=A9 122 cA
def Aej:=A9 123 tH
def Adr:=A9 124 sJ
def Adb:=Bt 125 aJ
def Aem:=A9 126 Zv
def Ac8:=A9 127 s8
def Aeb:=A9 128 Pg
def Adg:=Ce 129 tR
def AeP:=BS 130 Xz
def Acw:=Ce 131 hI
def Adk:=A9 132 wL
def Ac4:=BS 133 qW
def Ad4:=A9 134 pO
def Ad0:=BS 135 wR
def Afn:=A9 136 sC
def AdV:=A9 137 sL
def Aep:=Bt 138 pY
def AcN:=A9 139 Zl
def Ab5:=A9 140 f0
def Ade:=A9 141 QJ
def AeJ:=A9 142 aL
def Aew:=Bt 143 uF
def Aee:=Bt 144 tL
def Ae0:=BS 145 Sw
def Aff:=BS 146 aY
def Aef:=Ce 147 eJ
def Adc:=Bt 149 Ta
def Adf:=BS 150 Tw
def Ae3:=Bt 151 S151
def Ach:=Bt 152 X4
theorem R7 {a b c d e f g h i:Prop}(p:a)(q:b)(r:c)(s:d)(t:e)(u:f)(v:g)(w:h)(x:i):a/\b/\c/\d/\e/\f/\g/\h/\i:=⟨p,q,r,s,t,u,v,w,x⟩
def oK:=AhP @eH.eq_1<|AhP @eG.eq_1<|AhP @eW.eq_1<|AhP @fI.eq_1<|@S9.eq_1
def UU2:=AhP @Qu.eq_1<|AhP @Pd.eq_1<|AhP @UW.eq_1<|@S36.eq_1
def nC:=AhP @Q5.eq_1<|AhP @R2.eq_1<|AhP @Sc.eq_1<|@S115.eq_1
def kW:=AhP @Wi.eq_1<|AhP @WB.eq_1<|AhP @U5.eq_1<|@S85.eq_1
def fR:=AhP @VS.eq_1<|AhP @Xh.eq_1<|AhP @VZ.eq_1<|AhP @W7.eq_1<|AhP @Ug.eq_1<|AhP @U9.eq_1<|@S84.eq_1
def QE:=AhP @Wz.eq_1<|AhP @Wq.eq_1<|AhP @UR.eq_1<|AhP @Ux.eq_1<|AhP @Up.eq_1<|AhP @T5.eq_1<|AhP @VK.eq_1<|@S19.eq_1
def Vm:=AhP @VX.eq_1<|AhP @UD.eq_1<|AhP @UA.eq_1<|AhP @WV.eq_1<|AhP @Va.eq_1<|AhP @Uy.eq_1<|@S49.eq_1
def YK:=AhP @Ws.eq_1<|AhP @Vb.eq_1<|AhP @Vf.eq_1<|AhP @WK.eq_1<|AhP @WD.eq_1<|@S76.eq_1
def TW:=R7 @PA.eq_1 @Pj.eq_1 @Qh.eq_1 @Pc.eq_1 @OD.eq_1 @PR.eq_1 @OK.eq_1 @Ph.eq_1<|AhP @OQ.eq_1<|AhP @PO.eq_1<|AhP @HY.eq_1<|@S61.eq_1
def bU:=AhP @EA.eq_1<|AhP @GL.eq_1<|AhP @EB.eq_1<|AhP @Er.eq_1<|AhP @Et.eq_1<|AhP @Ez.eq_1<|@S59.eq_1
def FL:=R7 @W4.eq_1 @UG.eq_1 @Ur.eq_1 @Uk.eq_1 @UV.eq_1 @Wh.eq_1 @WN.eq_1 @WZ.eq_1<|AhP @Vx.eq_1<|AhP @Wx.eq_1<|AhP @U8.eq_1<|@S87.eq_1
def RD:=AhP @HX.eq_1<|AhP @H6.eq_1<|AhP @HH.eq_1<|AhP @Wf.eq_1<|AhP @HK.eq_1<|@S60.eq_1
def Y3:=AhP @H4.eq_1<|AhP @H5.eq_1<|AhP @HU.eq_1<|@S69.eq_1
def cC:=AhP @JT.eq_1<|AhP @IT.eq_1<|@S53.eq_1
def S7:=AhP @PU.eq_1<|AhP @Vw.eq_1<|AhP @Pz.eq_1<|@S80.eq_1
def Ib:=R7 @W0.eq_1 @VM.eq_1 @V4.eq_1 @W3.eq_1 @V9.eq_1 @VA.eq_1 @WJ.eq_1 @WT.eq_1<|AhP @VE.eq_1<|@S52.eq_1
def eB:=AhP @Ue.eq_1<|AhP @VV.eq_1<|AhP @UY.eq_1<|@S77.eq_1
def aG:=AhP @U1.eq_1<|AhP @Uo.eq_1<|AhP @WP.eq_1<|@S78.eq_1
def cD:=AhP @Jj.eq_1<|AhP @J4.eq_1<|@S95.eq_1
def Ty:=R7 @DE.eq_1 @DU.eq_1 @CU.eq_1 @DN.eq_1 @DY.eq_1 @DB.eq_1 @DS.eq_1 @EX.eq_1<|AhP @DG.eq_1<|@S98.eq_1
def dQ:=AhP @Ll.eq_1<|AhP @VW.eq_1<|AhP @Lu.eq_1<|@S97.eq_1
def ZM:=AhP @Q8.eq_1<|AhP @QG.eq_1<|@S151.eq_1
def Xu:=AhP @U2.eq_1<|AhP @WF.eq_1<|AhP @WU.eq_1<|@S14.eq_1
def Re:=AhP @SW.eq_1<|AhP @Td.eq_1<|AhP @Zd.eq_1<|@S28.eq_1
def I0:=R7 @Uz.eq_1 @VH.eq_1 @Uc.eq_1 @VQ.eq_1 @Uh.eq_1 @UC.eq_1 @Vu.eq_1 @V0.eq_1<| @S30.eq_1
def LI:=R7 @Vg.eq_1 @Wk.eq_1 @Wl.eq_1 @Xe.eq_1 @UH.eq_1 @WG.eq_1 @Xp.eq_1 @Vt.eq_1<|AhP @V3.eq_1<|AhP @Us.eq_1<|@S42.eq_1
def QQ:=R7 @Xn.eq_1 @V7.eq_1 @Vr.eq_1 @We.eq_1 @WA.eq_1 @Ve.eq_1 @WH.eq_1 @W2.eq_1<|AhP @Uq.eq_1<|AhP @VL.eq_1<|AhP @UE.eq_1<|@S72.eq_1
def IH:=R7 @Wy.eq_1 @Xg.eq_1 @UQ.eq_1 @Wo.eq_1 @WL.eq_1 @Xo.eq_1 @Wu.eq_1 @VU.eq_1<|AhP @V6.eq_1<|AhP @Vh.eq_1<|AhP @VY.eq_1<|AhP @UI.eq_1<|AhP @UX.eq_1<|@S68.eq_1
def Jq:=AhP @Uw.eq_1<|AhP @WE.eq_1<|AhP @W1.eq_1<|AhP @Ut.eq_1<|@S29.eq_1
def Nt:=AhP @Qe.eq_1<|AhP @Qf.eq_1<|AhP @Ww.eq_1<|@S66.eq_1
section
variable {β:Type} {E:Env} {t:TypeId}
abbrev iv (n:Int):IV:=.fv (.int .i64 n)
theorem vN (c:Prop) [Decidable c] (a b:Option β):Ai (.fv (.bool (decide c))) a b=if c then a else b:=by
 by_cases h:c
 ·rw [decide_eq_true h,if_pos h];rfl
 ·rw [decide_eq_false h,if_neg h];rfl
theorem l8 (o:Nat) (r:Ref) (off:Nat) (k:IV->Option β):Ab o (.ptr r off) k=k (.ptr r (off+o)):=by
 show (Ea (off+o) fun o=>k (.ptr r o))=_
 rw [Ca]
theorem NP (o:Nat) (cs:List FV) (off:Nat) (k:IV->Option β):Ab o (.fv (.fp cs off)) k=k (.fv (.fp cs (off+o))):=by
 show (Ea (off+o) fun o=>k (.fv (.fp cs o)))=_
 rw [Ca]
theorem qU {size:Nat} {es:List FV} {n:Nat} {el:FV} (he:es[n]?=some el) (hl:el.cells.length=size) (k:IV->Option β):AQ size (.fv (.sl es)) (iv n) k=k (.fv (.fp el.cells 0)):=by
 show (DQ es n fun el=>elK size el k)=_
 rw [Di,he]
 show elK size el k=_
 rw [dC,if_pos hl]
theorem Kx {op:BinOp} {g:Nat->Nat->Bool} (hg:∀a b:Nat,EP E op t (iv a) (iv b)=some (.fv (.bool (g a b)))) (a b:Int) (k:IV->Option β) :
  Pu E t op g (iv a) (iv b) k=(EP E op t (iv a) (iv b)).bind k:=by
 cases a with
 | ofNat a =>
  cases b with
  | ofNat b =>
   show ZP (g a b) k=_
   rw [RT,show EP E op t (iv (Int.ofNat a)) (iv (Int.ofNat b))=some (.fv (.bool (g a b))) from hg a b]
   rfl
  | negSucc b =>
   show CX E t op _ _ k=_
   rw [CX,CI]
 | negSucc a =>
  show CX E t op _ _ k=_
  rw [CX,CI]
theorem Aaw (a b:Int) (k:IV->Option β):AN E t (iv a) (iv b) k=k (.fv (.bool (decide (a=b)))):=by
 rw [AN,Kx (fun a b=>by
  show some (IV.fv (.bool ((a:Int) == (b:Int))))=_
  rw [H3];congr 3;exact decide_eq_decide.2 Int.ofNat_inj)]
 rfl
theorem AbG (a b:Int) (k:IV->Option β):BD E t (iv a) (iv b) k=k (.fv (.bool (!decide (a=b)))):=by
 rw [BD,Kx (fun a b=>by
  show some (IV.fv (.bool ((a:Int) != (b:Int))))=_
  rw [H3];congr 3
  show (!decide ((a:Int)=(b:Int)))=!decide (a=b)
  congr 1;exact decide_eq_decide.2 Int.ofNat_inj)]
 rfl
theorem AaT (a b:Int) (k:IV->Option β):Fe E t (iv a) (iv b) k=k (.fv (.bool (decide (a<b)))):=by
 rw [Fe,Kx (fun a b=>by
  show some (IV.fv (.bool (decide ((a:Int)<(b:Int)))))=_
  rw [Bo];congr 3;exact decide_eq_decide.2 (by omega))]
 rfl
theorem yI (a b:Int) (k:IV->Option β):Vp E t (iv a) (iv b) k=k (.fv (.bool (decide (a<=b)))):=by
 rw [Vp,Kx (fun a b=>by
  show some (IV.fv (.bool (decide ((a:Int)<=(b:Int)))))=_
  rw [Bo];congr 3;exact decide_eq_decide.2 (by omega))]
 rfl
theorem z6 (b:Bool) (k:IV->Option β):C3 (KA .not (.fv (.bool b))) k=k (.fv (.bool !b)):=by rw [CI];rfl
end
section
variable {β:Type} {α:Type}
theorem n0 (a:α) (l:List α) (k:α->Option β):DQ (a::l) 0 k=k a:=rfl
theorem n1 (a b:α) (l:List α) (k:α->Option β):DQ (a::b::l) 1 k=k b:=rfl
theorem n2 (a b c:α) (l:List α) (k:α->Option β):DQ (a::b::c::l) 2 k=k c:=rfl
theorem n3 (a b c d:α) (l:List α) (k:α->Option β):DQ (a::b::c::d::l) 3 k=k d:=rfl
theorem n4 (a b c d e:α) (l:List α) (k:α->Option β):DQ (a::b::c::d::e::l) 4 k=k e:=rfl
theorem n5 (a b c d e f:α) (l:List α) (k:α->Option β):DQ (a::b::c::d::e::f::l) 5 k=k f:=rfl
theorem n6 (a b c d e f g:α) (l:List α) (k:α->Option β):DQ (a::b::c::d::e::f::g::l) 6 k=k g:=rfl
theorem d0 (l:List α) (k:List α->Option β):Fj l 0 k=k l:=by cases l<;>rfl
theorem d1 (a:α) (l:List α) (k:List α->Option β):Fj (a::l) 1 k=k l:=by cases l<;>rfl
theorem d2 (a b:α) (l:List α) (k:List α->Option β):Fj (a::b::l) 2 k=k l:=by cases l<;>rfl
theorem d3 (a b c:α) (l:List α) (k:List α->Option β):Fj (a::b::c::l) 3 k=k l:=by cases l<;>rfl
theorem d4 (a b c d:α) (l:List α) (k:List α->Option β):Fj (a::b::c::d::l) 4 k=k l:=by cases l<;>rfl
theorem t1 (a:α) (l:List α) (k:List α->Option β):FI (a::l) 1 k=k [a]:=by cases l<;>rfl
theorem t2 (a b:α) (l:List α) (k:List α->Option β):FI (a::b::l) 2 k=k [a,b]:=by cases l<;>rfl
theorem t3 (a b c:α) (l:List α) (k:List α->Option β):FI (a::b::c::l) 3 k=k [a,b,c]:=by cases l<;>rfl
theorem t4 (a b c d:α) (l:List α) (k:List α->Option β):FI (a::b::c::d::l) 4 k=k [a,b,c,d]:=by cases l<;>rfl
theorem t7 (a b c d e f g:α) (l:List α) (k:List α->Option β):FI (a::b::c::d::e::f::g::l) 7 k=k [a,b,c,d,e,f,g]:=by cases l<;>rfl
theorem dU (l:List α) (k:List α->Option β):bH l k=k l:=G6 l k
theorem ap0 (us:List α) (k:List α->Option β):Lc [] us k=k us:=rfl
theorem ap1 (u:α) (l us:List α) (k:List α->Option β):Lc (u::l) us k=Lc l us fun w=>k (u::w):=rfl
theorem yL (a:α) (l:List α) (k:α->List α->Option β):Az (a::l) k=k a l:=rfl
theorem fY {γ:Type} (a b:γ):cond true a b=a:=rfl
theorem c_f {γ:Type} (a b:γ):cond false a b=b:=rfl
end
section
variable {β:Type}
theorem lT {s j:Nat} (h:(s == j)=false):Nat.beq s j=false:=by rw [H3];simpa using h
theorem Jh (s:Nat) (own:List (Nat×Blk)) (ext:List Blk) (k:Blk->Option β):Do (.own s) ⟨own,ext⟩ k=E9 own s k:=rfl
theorem Abe (j:Nat) (own:List (Nat×Blk)) (ext:List Blk) (k:Blk->Option β):Do (.ext j) ⟨own,ext⟩ k=DQ ext j k:=rfl
theorem nS (s:Nat) (b:Blk) (l:List (Nat×Blk)) (k:Blk->Option β):E9 ((s,b)::l) s k=k b:=by
 show cond (Nat.beq s s) (k b) _=_
 rw [show Nat.beq s s=true from Nat.beq_refl s]
 rfl
theorem tF {s j:Nat} (hne:(s == j)=false) (b:Blk) (l:List (Nat×Blk)) (k:Blk->Option β):E9 ((j,b)::l) s k=E9 l s k:=by
 show cond (Nat.beq s j) (k b) _=_
 rw [show Nat.beq s j=false from lT hne]
 rfl
theorem AaD (s:Nat) (b:Blk) (k:List (Nat×Blk)->Option β):Bb [] s b k=k [(s,b)]:=rfl
theorem oB (s:Nat) (b c:Blk) (l:List (Nat×Blk)) (k:List (Nat×Blk)->Option β):Bb ((s,c)::l) s b k=k ((s,b)::l):=by
 show cond (Nat.beq s s) _ _=_
 rw [show Nat.beq s s=true from Nat.beq_refl s]
 rfl
theorem uL {s j:Nat} (hne:(s == j)=false) (b c:Blk) (l:List (Nat×Blk)) (k:List (Nat×Blk)->Option β):Bb ((j,c)::l) s b k=Bb l s b fun l=>k ((j,c)::l):=by
 show cond (Nat.beq s j) _ _=_
 rw [show Nat.beq s j=false from lT hne]
 rfl
theorem zD (s:Nat) (a:Option β):CO [] s a=a:=rfl
theorem wK {s j:Nat} (hne:(s == j)=false) (b:Blk) (l:List (Nat×Blk)) (a:Option β):CO ((j,b)::l) s a=CO l s a:=by
 show cond (Nat.beq s j) none _=_
 rw [show Nat.beq s j=false from lT hne]
 rfl
theorem Xk (s:Nat) (b:Blk) (own:List (Nat×Blk)) (ext:List Blk) (k:Hp->Option β):FK (.own s) b ⟨own,ext⟩ k=Bb own s b fun own=>k ⟨own,ext⟩:=rfl
theorem jD (j:Nat) (b:Blk) (own:List (Nat×Blk)) (ext:List Blk) (k:Hp->Option β):FK (.ext j) b ⟨own,ext⟩ k=Od ext j b fun ext=>k ⟨own,ext⟩:=rfl
theorem sn0 {α:Type} (a b:α) (l:List α) (k:List α->Option β):Od (a::l) 0 b k=k (b::l):=rfl
theorem AaS (s:Nat) (b:Blk) (v:IV) (own:List (Nat×Blk)) (ext:List Blk) (k:KT β) :
  EK s b v ⟨own,ext⟩ k=CO own s (Bb own s b fun own=>k v ⟨own,ext⟩ [] [.own s]):=rfl
theorem Le (s:Nat) (cs:List FV) (h:Hp) (k:KT β):AF s (.fv (.agg cs)) h k=EK s (.row (cs.map .fv) false) (.ptr (.own s) 0) h k:=by
 show bH (cs.map IV.fv) _=_
 rw [G6]
theorem Aaz (s:Nat) (a b:FV) (h:Hp) (k:KT β):AF s (.fv (.agg [a,b])) h k=EK s (.row [.fv a,.fv b] false) (.ptr (.own s) 0) h k:=Le ..
theorem AaY (s:Nat) (a b c:FV) (h:Hp) (k:KT β):AF s (.fv (.agg [a,b,c])) h k=EK s (.row [.fv a,.fv b,.fv c] false) (.ptr (.own s) 0) h k:=Le ..
theorem AbC (s:Nat) (a b c d:FV) (h:Hp) (k:KT β):AF s (.fv (.agg [a,b,c,d])) h k=EK s (.row [.fv a,.fv b,.fv c,.fv d] false) (.ptr (.own s) 0) h k:=Le ..
theorem AaH (s:Nat) (a:FV) (h:Hp) (k:KT β):AF s (.fv (.agg [a])) h k=EK s (.row [.fv a] false) (.ptr (.own s) 0) h k:=Le ..
theorem Rj (s:Nat) (cs:List IV) (h:Hp) (k:KT β):AF s (.agg cs) h k=EK s (.row cs false) (.ptr (.own s) 0) h k:=by
 show bH cs _=_
 rw [G6]
theorem jQ {x:IV} (hx:x.one=true) (s:Nat) (h:Hp) (k:KT β):AF s x h k=EK s (.row [x] false) (.ptr (.own s) 0) h k:=by unfold AF;rw [hx];rfl
theorem wZ (k:IntKind) (n:Int):IV.one (.fv (.int k n))=true:=rfl
theorem lX (b:Bool):IV.one (.fv (.bool b))=true:=rfl
theorem z5 (l:List FV):IV.one (.fv (.sl l))=true:=rfl
theorem zK (l:List FV) (o:Nat):IV.one (.fv (.fp l o))=true:=rfl
theorem gZ (fn:Fn) (a b:List FV):IV.one (.fv (.func fn a b))=true:=rfl
theorem jN:IV.one (.fv .nilp)=true:=rfl
theorem iR:IV.one .nils=true:=rfl
theorem vR (r:Ref) (o:Nat):IV.one (.ptr r o)=true:=rfl
theorem uA (r:Ref) (a b:Nat):IV.one (.slc r a b)=true:=rfl
theorem tN (r:Ref) (l:List FV):IV.one (.app r l)=true:=rfl
theorem nN (l:List FV):IV.one (.clip l)=true:=rfl
theorem xB:IV.one .emp=true:=rfl
theorem uN (l:List IV):IV.one (.agg l)=false:=rfl
theorem jS (l:List FV):IV.one (.fv (.agg l))=false:=rfl
theorem vC (k:IntKind) (n:Int):Hy (.int k n)=true:=rfl
theorem jT (b:Bool):Hy (.bool b)=true:=rfl
theorem Abj (l:List FV):Hy (.sl l)=true:=rfl
theorem yS (l:List FV) (o:Nat):Hy (.fp l o)=true:=rfl
theorem jA:Hy .nilp=true:=rfl
theorem s9 (l:List FV):Hy (.agg l)=false:=rfl
theorem kV:DK []=true:=rfl
theorem QM {v:FV} (h:Hy v=true) (l:List FV):DK (v::l)=DK l:=by
 show cond (Hy v) (DK l) false=_
 rw [h];rfl
theorem Pr (r:Ref) (o:Nat) (k:Ref->Nat->Option β) (kf:List FV->Nat->Option β):EJ (.ptr r o) k kf=k r o:=rfl
theorem Afh (cs:List FV) (o:Nat) (k:Ref->Nat->Option β) (kf:List FV->Nat->Option β):EJ (.fv (.fp cs o)) k kf=kf cs o:=rfl
theorem G3 (cs:List IV) (ro:Bool) (k:List IV->Option β):DP (.row cs ro) k=k cs:=rfl
theorem Vj (cs:List IV) (k:List IV->Option β):GC (.row cs false) k=k cs:=rfl
theorem dG (v:FV) (e:Option β) (k:FV->Option β):Nj (.fv v) e k=k v:=rfl
theorem TQ (l:List IV) (e:Option β) (k:FV->Option β):Nj (.agg l) e k=e:=rfl
theorem p7 (e:Option β) (k:FV->Option β):Nj .nils e k=e:=rfl
theorem v5 (r:Ref) (o:Nat) (e:Option β) (k:FV->Option β):Nj (.ptr r o) e k=e:=rfl
theorem qA (r:Ref) (o:List FV) (e:Option β) (k:FV->Option β):Nj (.app r o) e k=e:=rfl
theorem vD (o:List FV) (e:Option β) (k:FV->Option β):Nj (.clip o) e k=e:=rfl
theorem pX (r:Ref) (a b:Nat) (e:Option β) (k:FV->Option β):Nj (.slc r a b) e k=e:=rfl
theorem pS (e:Option β) (k:FV->Option β):Nj .emp e k=e:=rfl
theorem pP (cs:List FV) (k:List FV->Option β):GA (.agg cs) k=k cs:=rfl
theorem Abt (cs:List IV) (k:List IV->Option β) (kf:List FV->Option β):asAgg (.agg cs) k kf=k cs:=rfl
theorem vH (cs:List FV) (k:List IV->Option β) (kf:List FV->Option β):asAgg (.fv (.agg cs)) k kf=kf cs:=rfl
theorem kB (e:Option β) (k:List FV->Option β):CD [] e k=k []:=rfl
theorem vO (v:FV) (l:List IV) (e:Option β) (k:List FV->Option β):CD (.fv v::l) e k=CD l e fun vs=>k (v::vs):=rfl
theorem YQ (l:List IV) (e:Option β) (k:List FV->Option β):CD (.nils::l) e k=e:=rfl
theorem mF (r:Ref) (es:List FV) (l:List IV) (e:Option β) (k:List FV->Option β):CD (.app r es::l) e k=e:=rfl
theorem ZK (es:List FV) (l:List IV) (e:Option β) (k:List FV->Option β):CD (.clip es::l) e k=e:=rfl
theorem mG (r:Ref) (o:Nat) (l:List IV) (e:Option β) (k:List FV->Option β):CD (.ptr r o::l) e k=e:=rfl
theorem i1 (r:Ref) (a b:Nat) (l:List IV) (e:Option β) (k:List FV->Option β):CD (.slc r a b::l) e k=e:=rfl
theorem mL (es l:List IV) (e:Option β) (k:List FV->Option β):CD (.agg es::l) e k=e:=rfl
theorem aH (r:Ref) (l:List IV) (e:Option β) (k:List FV->Option β):CD (.mapr r::l) e k=e:=rfl
theorem Aa7 (l:List IV) (k:IV->Option β):Np l k=CD l (k (.agg l)) fun vs=>k (.fv (.agg vs)):=rfl
theorem yK (l:List IV) (k:IV->Option β):TR l k=CD l (k (.tuple l)) fun vs=>k (.fv (.tuple vs)):=rfl
theorem AeL (a:IV) (h:Hp) (k:IV->List Ref->Option β):Ag a h k=EJ a (fun r o=>Do r h fun b=>DP b fun cells=>DQ cells o fun v=>k v [r]) fun cells o=>DQ cells o fun v=>k (.fv v) []:=rfl
theorem Afi (size:Nat) (a:IV) (h:Hp) (k:IV->List Ref->Option β):Ae size a h k =
  EJ a (fun r o=>Do r h fun b=>DP b fun cells=>Fj cells o fun cs=>FI cs size fun cs=>Np cs fun v=>k v [r]) fun cells o=>Fj cells o fun cs=>FI cs size fun cs=>k (.fv (.agg cs)) []:=rfl
theorem qV (size:Nat) (a:IV) (h:Hp) (k:IV->Option β):An true size a h k=Ae size a h fun v _=>k v:=rfl
theorem u9 (size:Nat) (a:IV) (h:Hp) (k:IV->Option β):An false size a h k=Ag a h fun v _=>k v:=rfl
theorem wr0 (l:List IV) (k:List IV->Option β):iU [] l k=k l:=rfl
theorem wr1 (c:FV) (cs:List FV) (x:IV) (l:List IV) (k:List IV->Option β):iU (c::cs) (x::l) k=iU cs l fun t=>k (.fv c::t):=rfl
theorem sf0 (x:IV) (l:List IV) (cs:List FV) (k:List IV->Option β):Eb (x::l) 0 cs k=iU cs (x::l) k:=rfl
theorem sf1 (x:IV) (l:List IV) (cs:List FV) (k:List IV->Option β):Eb (x::l) 1 cs k=Eb l 0 cs fun t=>k (x::t):=rfl
theorem sf2 (x y:IV) (l:List IV) (cs:List FV) (k:List IV->Option β):Eb (x::y::l) 2 cs k=Eb l 0 cs fun t=>k (x::y::t):=rfl
theorem sf3 (x y z:IV) (l:List IV) (cs:List FV) (k:List IV->Option β):Eb (x::y::z::l) 3 cs k=Eb l 0 cs fun t=>k (x::y::z::t):=rfl
theorem sf4 (x y z u:IV) (l:List IV) (cs:List FV) (k:List IV->Option β):Eb (x::y::z::u::l) 4 cs k=Eb l 0 cs fun t=>k (x::y::z::u::t):=rfl
theorem of0 (x b:IV) (l:List IV) (k:List IV->Option β):Gq (x::l) 0 b k=k (b::l):=rfl
theorem of1 (x y b:IV) (l:List IV) (k:List IV->Option β):Gq (x::y::l) 1 b k=k (x::b::l):=rfl
theorem of2 (x y z b:IV) (l:List IV) (k:List IV->Option β):Gq (x::y::z::l) 2 b k=k (x::y::b::l):=rfl
theorem of3 (x y z u b:IV) (l:List IV) (k:List IV->Option β):Gq (x::y::z::u::l) 3 b k=k (x::y::z::b::l):=rfl
theorem of6 (x y z u v w s b:IV) (l:List IV) (k:List IV->Option β):Gq (x::y::z::u::v::w::s::l) 6 b k=k (x::y::z::u::v::w::b::l):=rfl
theorem Afb (size:Nat) (a:IV) (cs:List FV) (h:Hp) (k:Hp->List Ref->List Ref->Option β):Ad size a (.fv (.agg cs)) h k =
  EJ a (fun r o=>Do r h fun b=>GC b fun cells=>cond (and (Nat.beq cs.length size) (DK cs)) (Eb cells o cs fun cells=>FK r (.row cells false) h fun h=>k h [r] [r]) none) fun _ _=>none:=rfl
theorem Z0 (s:Nat) (x:IV):FA (.own s) x=true:=rfl
theorem Ae1 (s:Nat) (a b c:IV) (ha:a.one=true) (hb:b.one=true) (hc:c.one=true) (own:List (Nat×Blk)) (ext:List Blk) (k:Hp->List Ref->List Ref->Option β) :
  Ad 3 (.ptr (.own s) 0) (.agg [a,b,c]) ⟨own,ext⟩ k=E9 own s fun bl=>GC bl fun cells=>cond (Nat.ble 3 cells.length) (FK (.own s) (.row (Bh cells 0 [a,b,c]) false) ⟨own,ext⟩ fun h=>k h [.own s] [.own s]) none:=by
 show E9 own s (fun bl=>GC bl fun cells=>if IV.alive (.agg [a,b,c])=true/\(IV.cells (.agg [a,b,c])).length=3/\0+3<=cells.length/\(IV.cells (.agg [a,b,c])).all IV.one=true/\FA (.own s) (.agg [a,b,c])=true then
  bH (Bh cells 0 (IV.cells (.agg [a,b,c]))) fun cells=>FK (.own s) (.row cells false) ⟨own,ext⟩ fun h=>k h [.own s] [.own s] else none)=_
 congr 1
 funext bl
 congr 1
 funext cells
 by_cases h3:3<=cells.length
 ·rw [if_pos ⟨rfl,rfl,by omega,by simp [IV.cells,ha,hb,hc],rfl⟩,G6,Bo,decide_eq_true h3];rfl
 ·rw [if_neg (fun h=>h3 (by omega)),Bo,decide_eq_false h3];rfl
theorem sc3 (a b c x y z:IV):Bh [x,y,z] 0 [a,b,c]=[a,b,c]:=rfl
theorem Aca (a x:IV) (h:Hp) (k:Hp->List Ref->List Ref->Option β):BL a x h k =
  cond x.one (EJ a (fun r o=>Do r h fun b=>GC b fun cells=>cond (FA r x) (Gq cells o x fun cells=>FK r (.row cells false) h fun h=>k h [r] [r]) none) fun _ _=>none) (Ad 1 a x h k):=rfl
theorem Ae4 (o:Nat) (r:Ref) (k:IV->Option β):Ab o (.ptr r 0) k=k (.ptr r o):=by rw [l8,Nat.zero_add]
theorem yH (o:Nat) (cs:List FV) (k:IV->Option β):Ab o (.fv (.fp cs 0)) k=k (.fv (.fp cs o)):=by rw [NP,Nat.zero_add]
theorem Aao (r:Ref) (o:Nat) (k:IV->Option β):AK (.ptr r o) k=k (.ptr r o):=rfl
theorem Aaa (cs:List FV) (o:Nat) (k:IV->Option β):AK (.fv (.fp cs o)) k=k (.fv (.fp cs o)):=rfl
theorem b9 (g:FuncId) (a b:List FV) (k:IV->Option β):AK (.fv (.func (.func g) a b)) k=k (.fv (.func (.func g) a b)):=rfl
theorem Adq (ix:Nat) (vs:List IV) (k:IV->Option β):Ao ix (.tuple vs) k=DQ vs ix k:=rfl
theorem Ae2 (ix:Nat) (vs:List FV) (k:IV->Option β):Ao ix (.fv (.tuple vs)) k=DQ vs ix fun v=>k (.fv v):=rfl
theorem AeH (o:Nat) (x:IV) (k:IV->Option β):vG o x k=asAgg x (fun cs=>DQ cs o k) fun cs=>DQ cs o fun v=>k (.fv v):=rfl
theorem AcO (size o:Nat) (x:IV) (k:IV->Option β):tO size o x k=asAgg x (fun cs=>Fj cs o fun cs=>FI cs size fun cs=>Np cs k) fun cs=>Fj cs o fun cs=>FI cs size fun cs=>k (.fv (.agg cs)):=rfl
theorem Aav (z:List IV) (pl:List (Nat×Nat×IV)) (k:IV->Option β):A6 z pl k=MG z pl fun cells=>Np cells k:=rfl
theorem fk0 (z:List IV) (k:List IV->Option β):MG z [] k=k z:=rfl
theorem fk1 (z:List IV) (o sz:Nat) (v:IV) (pl:List (Nat×Nat×IV)) (k:List IV->Option β):MG z ((o,sz,v)::pl) k=GX z o sz v fun z=>MG z pl k:=rfl
theorem tE {v:IV} (hv:v.one=true) (z:List IV) (o:Nat) (k:List IV->Option β):GX z o 1 v k=Gq z o v k:=by
 unfold GX;cases v with
 | fv w =>
  show cond (Hy w) _ _=_
  have:Hy w=true:=by cases w<;>first | rfl | cases hv
  rw [this];rfl
 | _=>show Ui _ _ _ _ _=_;unfold Ui;rw [hv];rfl
theorem qZ (z:List IV) (o sz:Nat) (cs:List FV) (k:List IV->Option β):GX z o sz (.fv (.agg cs)) k=cond (Nat.beq cs.length sz) (Eb z o cs k) none:=rfl
theorem nb3 (a b c:FV):Nat.beq [a,b,c].length 3=true:=rfl
theorem nb4 (a b c d:FV):Nat.beq [a,b,c,d].length 4=true:=rfl
theorem nb7 (a b c d e f g:FV):Nat.beq [a,b,c,d,e,f,g].length 7=true:=rfl
theorem nl3 (a b c:IV):Nat.ble 3 [a,b,c].length=true:=rfl
theorem wI:(and true true)=true:=rfl
end
section
variable {β:Type} {E:Env} {t:TypeId}
theorem Tf (n:Int):IV.fv (.int .i64 n)=iv n:=rfl
def BF (n:Int):Int:=IntKind.i64.wrap n
theorem Ax {n:Int} (h1:-9223372036854775808<=n) (h2:n<=9223372036854775807):BF n=n:=by
 show (if (true && decide ((n % (18446744073709551616:Int)) ≥ (9223372036854775808:Int)))=true then (n % (18446744073709551616:Int)) - (18446744073709551616:Int) else (n % (18446744073709551616:Int)))=n
 by_cases h:0<=n
 ·have e:n % (18446744073709551616:Int)=n:=by omega
  have e2:¬ n ≥ (9223372036854775808:Int):=by omega
  rw [e,decide_eq_false e2];rfl
 ·have e:n % (18446744073709551616:Int)=n+18446744073709551616:=by omega
  have e2:n+18446744073709551616 ≥ (9223372036854775808:Int):=by omega
  rw [e,decide_eq_true e2];simp
theorem AaU (a b:Int) (k:IV->Option β):Br E t (iv a) (iv b) k=k (iv (BF (a+b))):=by
 have hg:CX E t .add (iv a) (iv b) k=k (iv (BF (a+b))):=by rw [CX,CI];rfl
 cases a with
 | negSucc a=>exact hg
 | ofNat a=>cases b with
  | negSucc b=>exact hg
  | ofNat b =>
   show cond (Nat.ble (a+b) 9223372036854775807) (Mx (a+b) k) _=_
   rw [Bo];by_cases h:a+b<=9223372036854775807
   ·rw [decide_eq_true h]
    show Mx (a+b) k=_
    rw [DD]
    have:BF (Int.ofNat a+Int.ofNat b)=((a+b:Nat):Int):=by rw [Ax (by simp only [Int.ofNat_eq_natCast];omega) (by simp only [Int.ofNat_eq_natCast];omega)];simp only [Int.ofNat_eq_natCast];omega
    rw [this]
   ·rw [decide_eq_false h];exact hg
theorem zZ (a b:Int) (k:IV->Option β):Bm E t (iv a) (iv b) k=k (iv (BF (a - b))):=by
 have hg:CX E t .sub (iv a) (iv b) k=k (iv (BF (a - b))):=by rw [CX,CI];rfl
 cases a with
 | negSucc a=>exact hg
 | ofNat a=>cases b with
  | negSucc b=>exact hg
  | ofNat b =>
   show cond (and (Nat.ble b a) (Nat.ble a 9223372036854775807)) (Mx (a - b) k) _=_
   rw [Bo,Bo];by_cases h:b<=a/\a<=9223372036854775807
   ·rw [decide_eq_true h.1,decide_eq_true h.2]
    show Mx (a - b) k=_
    rw [DD]
    have:BF (Int.ofNat a - Int.ofNat b)=((a - b:Nat):Int):=by rw [Ax (by simp only [Int.ofNat_eq_natCast];omega) (by simp only [Int.ofNat_eq_natCast];omega)];simp only [Int.ofNat_eq_natCast];omega
    rw [this]
   ·have:(decide (b<=a) && decide (a<=9223372036854775807))=false:=by
     rw [<- Bool.decide_and];exact decide_eq_false h
    rw [show and (decide (b<=a)) (decide (a<=9223372036854775807))=false from this]
    exact hg
theorem y5 (a b:Int) (k:IV->Option β):CX E t .mul (iv a) (iv b) k=k (iv (BF (a * b))):=by rw [CX,CI];rfl
theorem Z5 {b:Int} (hb:b≠0) (a:Int) (k:IV->Option β):CX E t .quo (iv a) (iv b) k=k (iv (BF (a.tdiv b))):=by
 rw [CX,CI]
 have:EP E .quo t (iv a) (iv b)=some (iv (BF (a.tdiv b))):=by
  show (GR (Op.intDiv .quo .i64 a b)).bind It=_
  simp only [Op.intDiv,hb,if_false];rfl
 rw [this];rfl
theorem Om {b:Int} (hb:b≠0) (a:Int) (k:IV->Option β):CX E t .rem (iv a) (iv b) k=k (iv (a.tmod b)):=by
 rw [CX,CI]
 have:EP E .rem t (iv a) (iv b)=some (iv (a.tmod b)):=by
  show (GR (Op.intDiv .rem .i64 a b)).bind It=_
  simp only [Op.intDiv,hb,if_false];rfl
 rw [this];rfl
theorem AcG (a b:Int) (k:IV->Option β):AN E t (iv a) (iv b) k=k (.fv (.bool (decide (a=b)))):=Aaw a b k
theorem Ads (a b:Int) (k:IV->Option β):BD E t (iv a) (iv b) k=k (.fv (.bool (!decide (a=b)))):=AbG a b k
theorem Aet (a b:Int) (k:IV->Option β):Fe E t (iv a) (iv b) k=k (.fv (.bool (decide (a<b)))):=AaT a b k
theorem AeN (a b:Int) (k:IV->Option β):Vp E t (iv a) (iv b) k=k (.fv (.bool (decide (a<=b)))):=yI a b k
theorem AcU (a b:Int) (k:IV->Option β):J6 E t (iv a) (iv b) k=k (.fv (.bool (decide (b<a)))):=by
 rw [J6,Kx (fun a b=>by
  show some (IV.fv (.bool (decide ((a:Int) > (b:Int)))))=_
  rw [Bo];congr 3;exact decide_eq_decide.2 (by omega))]
 rfl
theorem AcA (a b:Int) (k:IV->Option β):Qz E t (iv a) (iv b) k=k (.fv (.bool (decide (b<=a)))):=by
 rw [Qz,Kx (fun a b=>by
  show some (IV.fv (.bool (decide ((a:Int) ≥ (b:Int)))))=_
  rw [Bo];congr 3;exact decide_eq_decide.2 (by omega))]
 rfl
theorem Abk (a b:Bool) (hT:E.T t=some ⟨1,1,.bool,[.fv (.bool false)]⟩) (k:IV->Option β):AN E t (.fv (.bool a)) (.fv (.bool b)) k=k (.fv (.bool (a == b))):=by
 show CX E t .eql _ _ k=_
 rw [CX,CI]
 have:EP E .eql t (.fv (.bool a)) (.fv (.bool b))=some (.fv (.bool (a == b))):=by simp only [EP,hT,Pl]
 rw [this];rfl
theorem yP (b:Bool) (k:IV->Option β):C3 (KA .not (.fv (.bool b))) k=k (.fv (.bool !b)):=z6 b k
theorem Acl (a b:Option β):Ai (.fv (.bool true)) a b=a:=rfl
theorem Adh (a b:Option β):Ai (.fv (.bool false)) a b=b:=rfl
theorem Ael (c:Prop) [Decidable c] (a b:Option β):Ai (.fv (.bool (decide c))) a b=if c then a else b:=vN c a b
theorem Aeh (c:Prop) [Decidable c] (a b:Option β):Ai (.fv (.bool (!decide c))) a b=if c then b else a:=by
 by_cases h:c
 ·rw [decide_eq_true h,if_pos h];rfl
 ·rw [decide_eq_false h,if_neg h];rfl
theorem AcQ (c:Bool) (a b:Option β):Ai (.fv (.bool c)) a b=if c=true then a else b:=by cases c<;>rfl
theorem AeC (c a b:IV) (k:IV->Option β):AC c a b k=Ai c (k a) (k b):=rfl
theorem Abu {b:Bool} (hb:b=true) (h:Hp) (m:(KT β)->Option β) (k:KT β):Ac (.fv (.bool b)) true h m k=m k:=by rw [hb];rfl
theorem zE {b:Bool} (hb:b=false) (h:Hp) (m:(KT β)->Option β) (k:KT β):Ac (.fv (.bool b)) false h m k=m k:=by rw [hb];rfl
theorem AaX {b:Bool} (hb:b=true) (h:Hp) (m:(KT β)->Option β) (k:KT β):Ac (.fv (.bool b)) false h m k=k Fh h [] []:=by rw [hb];rfl
theorem yT {b:Bool} (hb:b=false) (h:Hp) (m:(KT β)->Option β) (k:KT β):Ac (.fv (.bool b)) true h m k=k Fh h [] []:=by rw [hb];rfl
theorem Acq (w:Bool) (h:Hp) (m:(KT β)->Option β) (k:KT β):Ac Fh w h m k=k Fh h [] []:=rfl
theorem ch0 (rd wr:List Ref) (a:Option β):Aa [] rd wr a=a:=rfl
theorem ch1 (q1 q2:List Ref) (l:List (List Ref×List Ref)) (rd wr:List Ref) (a:Option β):Aa ((q1,q2)::l) rd wr a=cond (Sj q2 rd) (cond (Sj q2 wr) (cond (Sj wr q1) (Aa l rd wr a) none) none) none:=rfl
theorem dj0 (b:List Ref):Sj [] b=true:=rfl
theorem djn:∀(a:List Ref),Sj a []=true
 | []=>rfl
 | _::a=>djn a
theorem dj1 (r:Ref) (a b:List Ref):Sj (r::a) b=cond (IW r b) (Sj a b) false:=rfl
theorem an0 (r:Ref):IW r []=true:=rfl
theorem an1 (r s:Ref) (l:List Ref):IW r (s::l)=cond (KQ r s) (IW r l) false:=rfl
theorem Afm {i j:Nat} (h:(i == j)=false):KQ (.own i) (.own j)=true:=by
 show not (Nat.beq i j)=true
 rw [show Nat.beq i j=false from lT h];rfl
theorem xY (i j:Nat):KQ (.own i) (.ext j)=true:=rfl
theorem Aak (i j:Nat):KQ (.ext i) (.own j)=true:=rfl
theorem AdY (v:IV) (h:Hp):Aj [v] h=some (v,h):=rfl
theorem Afg (h:Hp):Aj [] h=some (.fv (.tuple []),h):=rfl
theorem Ac1 (a b:IV) (h:Hp):Aj [a,b] h=TR [a,b] fun v=>some (v,h):=rfl
theorem AcT (a b c:IV) (h:Hp):Aj [a,b,c] h=TR [a,b,c] fun v=>some (v,h):=rfl
theorem Acf (a b c d:IV) (h:Hp):Aj [a,b,c,d] h=TR [a,b,c,d] fun v=>some (v,h):=rfl
theorem zF (es:List FV) (k:IV->Option β):BE (.fv (.sl es)) k=k (iv es.length):=DD ..
theorem AaN (k:IV->Option β):BE .nils k=k (iv 0):=rfl
theorem yV (es:List FV) (k:IV->Option β):BE (.clip es) k=k (iv es.length):=DD ..
theorem zA (r:Ref) (es:List FV) (k:IV->Option β):BE (.app r es) k=k (iv es.length):=DD ..
theorem y3 (r:Ref) (sz n:Nat) (k:IV->Option β):BE (.slc r sz n) k=k (iv n):=DD ..
theorem Bp {size:Nat} {es:List FV} {n:Nat} {el:FV} (he:es[n]?=some el) (hl:el.cells.length=size) (k:IV->Option β):AQ size (.fv (.sl es)) (iv n) k=k (.fv (.fp el.cells 0)):=qU he hl k
theorem Adw {size:Nat} {r:Ref} {es:List FV} {n:Nat} {el:FV} (he:es[n]?=some el) (hl:el.cells.length=size) (k:IV->Option β):AQ size (.app r es) (iv n) k=k (.fv (.fp el.cells 0)):=qU he hl k
theorem AeZ {size:Nat} {es:List FV} {n:Nat} {el:FV} (he:es[n]?=some el) (hl:el.cells.length=size) (k:IV->Option β):AQ size (.clip es) (iv n) k=k (.fv (.fp el.cells 0)):=qU he hl k
theorem Aer {size sz len:Nat} {r:Ref} {n:Nat} (hn:n<len) (hs:sz=size) (k:IV->Option β):AQ size (.slc r sz len) (iv n) k=k (.ptr r (n * sz)):=by
 show cond (and (Nat.ble (Nat.succ n) len) (Nat.beq sz size)) (Ea (n * sz) fun o=>k (.ptr r o)) none=_
 rw [Bo,decide_eq_true (show Nat.succ n<=len from hn),hs,show Nat.beq size size=true from Nat.beq_refl size]
 simp only [Bool.and_self,cond_true];rw [Ca]
theorem mY (size:Nat) (cs:List FV) (es:List FV) (hl:cs.length=size) (k:IV->Option β):AQ size (.fv (.sl (.agg cs::es))) (iv 0) k=k (.fv (.fp cs 0)):=Bp (el:=.agg cs) (n:=0) rfl hl k
theorem mN (size:Nat) (cs:List FV) (e:FV) (es:List FV) (hl:cs.length=size) (k:IV->Option β):AQ size (.fv (.sl (e :: .agg cs::es))) (iv 1) k=k (.fv (.fp cs 0)):=Bp (el:=.agg cs) (n:=1) rfl hl k
theorem kO (size:Nat) (cs:List FV) (e e':FV) (es:List FV) (hl:cs.length=size) (k:IV->Option β):AQ size (.fv (.sl (e::e' :: .agg cs::es))) (iv 2) k=k (.fv (.fp cs 0)):=Bp (el:=.agg cs) (n:=2) rfl hl k
theorem lN (size:Nat) (cs:List FV) (e e' e'':FV) (es:List FV) (hl:cs.length=size) (k:IV->Option β):AQ size (.fv (.sl (e::e'::e'' :: .agg cs::es))) (iv 3) k=k (.fv (.fp cs 0)):=Bp (el:=.agg cs) (n:=3) rfl hl k
def Fz (v:IV) (own:List (Nat×Blk)) (w:FV):Prop:=∃u lg,∀(e:Option (IV×Hp)) (K:FV->List (Ref×Blk)->List Ref->Option (IV×Hp)),Dx 12 v ⟨own,[]⟩ [] e K=K w u lg
def Bq (r:Option (IV×Hp)) (w:FV):Prop:=∃v own,r=some (v,⟨own,[]⟩) /\
 (Fz v own w\/((∀(e:Option (IV×Hp)) (K:FV->List (Ref×Blk)->List Ref->Option (IV×Hp)),Dx 12 v ⟨own,[]⟩ [] e K=e)/\∃u,(C2 4096 v).run ⟨own,[]⟩=some (w,u)))
def Iq (r:Option (IV×Hp)) (w:FV):Prop:=∃v own,r=some (v,⟨own,[]⟩)/\Fz v own w
theorem oW (w:FV) (own:List (Nat×Blk)):Fz (.fv w) own w:=⟨[],[],fun _ _=>rfl⟩
theorem Au (w:FV) (own:List (Nat×Blk)):Bq (some (.fv w,⟨own,[]⟩)) w:=⟨_,own,rfl,.inl (oW w own)⟩
def FJ:IV->Option FV
 | .fv v=>some v
 | .nils=>some (.sl [])
 | .emp=>some (.sl [])
 | .clip es=>some (.sl es)
 | .app _ es=>some (.sl es)
 | _=>none
def Ds:List IV->Option (List FV)
 | []=>some []
 | v::l=>(FJ v).bind fun x=>(Ds l).map fun xs=>x::xs
def Bc (v:IV):Option FV:=match v with
 | .agg cs=>if cs.length<=8 then (Ds cs).map .agg else none
 | v=>FJ v
def Bv:List IV->Option (List FV)
 | []=>some []
 | v::l=>(Bc v).bind fun x=>(Bv l).map fun xs=>x::xs
theorem xZ (v:FV):Bc (.fv v)=some v:=rfl
theorem lY:Bc .nils=some (.sl []):=rfl
theorem vP:Bc .emp=some (.sl []):=rfl
theorem kE (es:List FV):Bc (.clip es)=some (.sl es):=rfl
theorem tS (r:Ref) (es:List FV):Bc (.app r es)=some (.sl es):=rfl
theorem yQ (v:FV):FJ (.fv v)=some v:=rfl
theorem gX:FJ .nils=some (.sl []):=rfl
theorem tP:FJ .emp=some (.sl []):=rfl
theorem mB (es:List FV):FJ (.clip es)=some (.sl es):=rfl
theorem qY (r:Ref) (es:List FV):FJ (.app r es)=some (.sl es):=rfl
theorem Aeq {a b c:IV} {x y z:FV} (ha:FJ a=some x) (hb:FJ b=some y) (hc:FJ c=some z):Bc (.agg [a,b,c])=some (.agg [x,y,z]):=by
 show (if 3<=8 then (Ds [a,b,c]).map FV.agg else none)=_
 simp [Ds,ha,hb,hc]
theorem Ab6 {a b c d:IV} {x y z u:FV} (ha:FJ a=some x) (hb:FJ b=some y) (hc:FJ c=some z) (hd:FJ d=some u):Bc (.agg [a,b,c,d])=some (.agg [x,y,z,u]):=by
 show (if 4<=8 then (Ds [a,b,c,d]).map FV.agg else none)=_
 simp [Ds,ha,hb,hc,hd]
theorem oL {v:IV} {x:FV} (d:Nat) (h:Hp) (lg:List Ref) (e:Option β) (k:FV->List (Ref×Blk)->List Ref->Option β) (hz:FJ v=some x):Dx (d+1) v h lg e k=k x [] lg:=by cases v<;>first | (cases hz;rfl) | (cases hz)
theorem Xa (d:Nat) (h:Hp) (lg:List Ref) (e:Option β):∀(cs:List IV) (k:List FV->List (Ref×Blk)->List Ref->Option β) {xs:List FV},Ds cs=some xs->CJ (Dx (d+1)) cs h lg e k=k xs [] lg
 | [],k,xs,hz=>by cases hz;rfl
 | v::cs,k,xs,hz=>by
  simp only [Ds] at hz;cases h1:FJ v with
  | none=>rw [h1] at hz;cases hz
  | some x =>
   rw [h1] at hz;cases h2:Ds cs with
   | none=>rw [h2] at hz;cases hz
   | some ys =>
    rw [h2] at hz;cases hz
    show Dx (d+1) v h lg e (fun y u lg=>CJ (Dx (d+1)) cs h lg e fun ys us lg=>Lc u us fun w=>k (y::ys) w lg)=_
    rw [oL d h lg e _ h1,Xa d h lg e cs _ h2];rfl
theorem GY {v:IV} {x:FV} (h:Hp) (lg:List Ref) (e:Option β) (k:FV->List (Ref×Blk)->List Ref->Option β) (hz:Bc v=some x):Dx 12 v h lg e k=k x [] lg:=by
 cases v with
 | agg cs =>
  simp only [Bc] at hz;split at hz
  ·rename_i hl;cases h2:Ds cs with
   | none=>rw [h2] at hz;cases hz
   | some ys =>
    rw [h2] at hz;cases hz
    show cond (Nat.ble cs.length 300) (CJ (Dx 11) cs h lg e fun cs u lg=>k (.agg cs) u lg) e=_
    rw [Bo,decide_eq_true (show cs.length<=300 by omega)]
    exact Xa 10 h lg e cs _ h2
  ·cases hz
 | _=>exact oL 11 h lg e k hz
theorem AdW {v:IV} {x:FV} (hz:Bc v=some x) (own:List (Nat×Blk)):Fz v own x:=⟨[],[],fun e K=>GY _ _ e K hz⟩
theorem Bn {v:IV} {x:FV} (hz:Bc v=some x) (own:List (Nat×Blk)):Bq (some (v,⟨own,[]⟩)) x:=⟨v,own,rfl,.inl (AdW hz own)⟩
theorem fr1 {v:IV} {x:FV} (n:Nat) (hz:FJ v=some x):C2 (n+1) v=.ret (x,[]):=by cases v<;>first | (cases hz;rfl) | (cases hz)
theorem VC:∀(cs:List IV) (n:Nat) {xs:List FV},cs.length+1<n->Ds cs=some xs->frzL n cs=.ret (xs,[])
 | [],n+1,xs,_,hz=>by cases hz;rfl
 | v::cs,n+2,xs,hn,hz=>by
  simp only [Ds] at hz;cases h1:FJ v with
  | none=>rw [h1] at hz;cases hz
  | some x =>
   rw [h1] at hz;cases h2:Ds cs with
   | none=>rw [h2] at hz;cases hz
   | some ys =>rw [h2] at hz;cases hz;simp only [AhU] at hn;simp only [frzL,fr1 n h1,Rd.bind,VC cs (n+1) (by omega) h2];rfl
theorem frp {v:IV} {x:FV} (n:Nat) (hn:20<n) (hz:Bc v=some x):C2 n v=.ret (x,[]):=by
 cases n with
 | zero=>omega
 | succ n =>
  cases v with
  | agg cs =>
   simp only [Bc] at hz;split at hz
   ·rename_i hl;cases h2:Ds cs with
    | none=>rw [h2] at hz;cases hz
    | some ys =>rw [h2] at hz;cases hz;simp only [C2,VC cs n (by omega) h2,Rd.bind]
   ·cases hz
  | _=>exact fr1 n hz
theorem oE:∀(cs:List IV) (n:Nat) {xs:List FV},cs.length+30<n->Bv cs=some xs->frzL n cs=.ret (xs,[])
 | [],n+1,xs,_,hz=>by cases hz;rfl
 | v::cs,n+1,xs,hn,hz=>by
  simp only [Bv] at hz;cases h1:Bc v with
  | none=>rw [h1] at hz;cases hz
  | some x =>
   rw [h1] at hz;cases h2:Bv cs with
   | none=>rw [h2] at hz;cases hz
   | some ys =>rw [h2] at hz;cases hz;simp only [AhU] at hn;simp only [frzL,frp n (by omega) h1,Rd.bind,oE cs n (by omega) h2];rfl
theorem QY {vs:List IV} {xs:List FV} (hz:Bv vs=some xs) (hl:vs.length<=100) (own:List (Nat×Blk)):Bq (some (.tuple vs,⟨own,[]⟩)) (.tuple xs) :=
 ⟨_,own,rfl,.inr ⟨fun _ _=>rfl,[],by
  show (C2 (4095+1) (.tuple vs)).run _=_
  simp only [C2,oE vs 4095 (by omega) hz,Rd.bind];rfl⟩⟩
theorem tI:Bv []=some []:=rfl
theorem SZ {a b:IV} {x y:FV} (ha:Bc a=some x) (hb:Bc b=some y):Bv [a,b]=some [x,y]:=by simp [Bv,ha,hb]
theorem Ye {a b c:IV} {x y z:FV} (ha:Bc a=some x) (hb:Bc b=some y) (hc:Bc c=some z):Bv [a,b,c]=some [x,y,z]:=by simp [Bv,ha,hb,hc]
theorem Aa2 {a b c d:IV} {x y z u:FV} (ha:Bc a=some x) (hb:Bc b=some y) (hc:Bc c=some z) (hd:Bc d=some u):Bv [a,b,c,d]=some [x,y,z,u]:=by simp [Bv,ha,hb,hc,hd]
theorem SO {a:IV} {x:FV} (ha:Bc a=some x):Bv [a]=some [x]:=by simp [Bv,ha]
theorem G4:∀(args:List IV) {vs:List FV},Bv args=some vs->Bz [] args=.ret (vs.map .fv,[],[])
 | [],vs,hz=>by cases hz;rfl
 | v::l,vs,hz=>by
  simp only [Bv] at hz;cases h1:Bc v with
  | none=>rw [h1] at hz;cases hz
  | some x =>
   rw [h1] at hz;cases h2:Bv l with
   | none=>rw [h2] at hz;cases hz
   | some ys =>rw [h2] at hz;cases hz;simp only [Bz,frp 4096 (by omega) h1,Rd.bind,G4 l h2];rfl
theorem wV (keep:List Bool) (h:Hp) (lg:List Ref) (e:Option β) (k:List IV->List Ref->List (Ref×Blk)->List Ref->Option β):Ra [] keep h lg e k=k [] [] [] lg:=rfl
theorem uK (x:IV) (l:List IV) (h:Hp) (lg:List Ref) (e:Option β) (k:List IV->List Ref->List (Ref×Blk)->List Ref->Option β) :
  Ra (x::l) [] h lg e k=Dx 12 x h lg e fun y u lg=>Ra l [] h lg e fun vs rs us lg=>Lc u us fun w=>k (.fv y::vs) rs w lg:=rfl
theorem Su (x:IV) (l:List IV) (ks:List Bool) (h:Hp) (lg:List Ref) (e:Option β) (k:List IV->List Ref->List (Ref×Blk)->List Ref->Option β) :
  Ra (x::l) (true::ks) h lg e k=EJ x (fun r o=>Ra l ks h lg e fun vs rs us lg=>k (.ptr r o::vs) (r::rs) us lg) fun _ _=>e:=rfl
theorem PC (x:IV) (l:List IV) (ks:List Bool) (h:Hp) (lg:List Ref) (e:Option β) (k:List IV->List Ref->List (Ref×Blk)->List Ref->Option β) :
  Ra (x::l) (false::ks) h lg e k=Dx 12 x h lg e fun y u lg=>Ra l ks h lg e fun vs rs us lg=>Lc u us fun w=>k (.fv y::vs) rs w lg:=rfl
section
variable (d:Nat) (h:Hp) (lg:List Ref) (e:Option β) (k:FV->List (Ref×Blk)->List Ref->Option β)
theorem Zg (cs:List IV):Dx 12 (.agg cs) h lg e k=cond (Nat.ble cs.length 300) (CJ (Dx 11) cs h lg e fun cs u lg=>k (.agg cs) u lg) e:=rfl
theorem TS (s:Nat) (off:Nat):Dx 12 (.ptr (.own s) off) h lg e k=Do (.own s) h fun b=>DP b fun cells=>cond (Nat.ble cells.length 300) (CJ (Dx 11) cells h (.own s::lg) e fun cs u lg=>k (.fp cs off) ((.own s,.row cells true)::u) lg) e:=rfl
theorem Ij (v:FV):Dx 11 (.fv v) h lg e k=k v [] lg:=rfl
theorem qF (g:uV β) (k:List FV->List (Ref×Blk)->List Ref->Option β):CJ g [] h lg e k=k [] [] lg:=rfl
theorem Sl (g:uV β) (x:IV) (l:List IV) (k:List FV->List (Ref×Blk)->List Ref->Option β):CJ g (x::l) h lg e k=g x h lg e fun y u lg=>CJ g l h lg e fun ys us lg=>Lc u us fun w=>k (y::ys) w lg:=rfl
end
def QA (rs:List Ref) (r:Option (IV×Hp)) (h:Hp) (u:List (Ref×Blk)) (lg:List Ref) (e:Option (IV×Hp)) (g:List Ref->Option (IV×Hp)) (k:KT (IV×Hp)):Option (IV×Hp):=match rs with
 | []=>(match r with
  | none=>none
  | some p=>match p with
   | (v,h')=>match h' with
    | ⟨own,ext⟩=>List.casesOn (motive:=fun _=>Option (IV×Hp)) ext (Dx 12 v ⟨own,[]⟩ [] e fun w _ _=>KD u h fun h2=>k (.fv w) h2 lg (BA u)) fun _ _=>none)
 | r::rs=>g (r::rs)
theorem J2 (keep:List Bool) (ih:Ah) (f:FuncId) (args:List IV) (h:Hp) (k:KT (IV×Hp)):AY keep false false ih f args h k =
  Ra args keep h [] (D9 keep false false ih f args h k) fun vs rs u lg=>QA rs (ih f vs ⟨[],[]⟩) h u lg (D9 keep false false ih f args h k) (fun rs=>match rs with
   | []=>none
   | r::rs=>(match h with
    | ⟨own,ext⟩=>cond (Ni 400 (r::rs) 0 ext) (match ih f vs ⟨[],ext⟩ with
     | none=>none
     | some p=>match p with
      | (v,h')=>match h' with
       | ⟨own',ext'⟩=>cond (and (Nat.beq ext'.length ext.length) (X6 ext.length ext'))
        (Dx 12 v ⟨own',ext'⟩ [] (D9 keep false false ih f args h k) fun w _ _=>KD u ⟨own,ext'⟩ fun h2=>k (.fv w) h2 ((C1 ext.length).reverse++lg) (BA u++C1 ext.length)) none)
     (D9 keep false false ih f args h k))) k:=by
 unfold AY;simp only [cond_false];congr 1
theorem xT {r:Option (IV×Hp)} {w:FV} (hr:Iq r w) (h:Hp) (u:List (Ref×Blk)) (lg:List Ref) (e:Option (IV×Hp)) (g:List Ref->Option (IV×Hp)) (k:KT (IV×Hp)) :
  QA [] r h u lg e g k=KD u h fun h2=>k (.fv w) h2 lg (BA u):=by
 obtain ⟨v,own,rfl,u',lg',hz⟩:=hr;simp only [QA];rw [hz]
theorem bJ:∀(args:List IV) {vs:List FV} (h:Hp) (lg:List Ref) (e:Option β) (k:List IV->List Ref->List (Ref×Blk)->List Ref->Option β),Bv args=some vs->Ra args [] h lg e k=k (vs.map .fv) [] [] lg
 | [],vs,h,lg,e,k,hz=>by cases hz;rfl
 | v::l,vs,h,lg,e,k,hz=>by
  simp only [Bv] at hz;cases h1:Bc v with
  | none=>rw [h1] at hz;cases hz
  | some x =>
   rw [h1] at hz;cases h2:Bv l with
   | none=>rw [h2] at hz;cases hz
   | some ys =>
    rw [h2] at hz;cases hz
    show Dx 12 v h lg e (fun y u lg=>Ra l [] h lg e fun vs rs us lg=>Lc u us fun w=>k (.fv y::vs) rs w lg)=_
    rw [GY h lg e _ h1,bJ l h lg e _ h2];rfl
theorem DM (f:Ref->Option Ref):∀l:List FV,IV.ren.renL f (l.map .fv)=some (l.map .fv)
 | []=>rfl
 | v::l=>by
  simp only [AhW,IV.ren.renL,IV.ren,DM f l];rfl
theorem K4 {ih:Ah} {f:FuncId} {args:List IV} {vs:List FV} {w:FV} (hz:Bv args=some vs) (hr:Bq (ih f (vs.map .fv) ⟨[],[]⟩) w) (h:Hp) (k:KT (IV×Hp)) :
  AY [] false false ih f args h k=k (.fv w) h [] []:=by
 obtain ⟨v,own,e,hv⟩:=hr;have hD:(∃u,(C2 4096 v).run ⟨own,[]⟩=some (w,u))->D9 [] false false ih f args h k=k (.fv w) h [] []:=by
  rintro ⟨u,hu⟩;unfold D9;simp only [G4 args hz,Rd.runLog,B3,DM,AhV,Bf,CR (Ck 3),CR Cw,Em,Bool.false_eq_true,if_false,e,hu,AhT,IV.ren]
  show (match laid h ([]++(BA []).zip []) with | none=>none | some h'=>fH h' fun h'=>fV 3 (.fv w) fun res=>k res h' [] _)=_
  simp only [BA,AhV,List.zip_nil_left,List.append_nil,laid,Ie,Ck]
 rw [J2,bJ args h [] _ _ hz,e];simp only [QA];rcases hv with ⟨u',lg',hf⟩ | ⟨hf,hu⟩
 ·rw [hf];rfl
 ·rw [hf];exact hD hu
theorem EF {ih:Ah} {f:FuncId} {w:FV} (hr:Bq (ih f [] ⟨[],[]⟩) w) (h:Hp) (k:KT (IV×Hp)) :
  AY [] false false ih f [] h k=k (.fv w) h [] []:=K4 (vs:=[]) rfl hr h k
theorem Aq {ih:Ah} {f:FuncId} {a:IV} {x w:FV} (hr:Bq (ih f [.fv x] ⟨[],[]⟩) w) (ha:Bc a=some x) (h:Hp) (k:KT (IV×Hp)) :
  AY [] false false ih f [a] h k=k (.fv w) h [] []:=K4 (SO ha) hr h k
theorem Af {ih:Ah} {f:FuncId} {a b:IV} {x y w:FV} (hr:Bq (ih f [.fv x,.fv y] ⟨[],[]⟩) w) (ha:Bc a=some x) (hb:Bc b=some y) (h:Hp) (k:KT (IV×Hp)) :
  AY [] false false ih f [a,b] h k=k (.fv w) h [] []:=K4 (SZ ha hb) hr h k
theorem Av {ih:Ah} {f:FuncId} {a b c:IV} {x y z w:FV} (hr:Bq (ih f [.fv x,.fv y,.fv z] ⟨[],[]⟩) w) (ha:Bc a=some x) (hb:Bc b=some y) (hc:Bc c=some z) (h:Hp) (k:KT (IV×Hp)) :
  AY [] false false ih f [a,b,c] h k=k (.fv w) h [] []:=K4 (Ye ha hb hc) hr h k
theorem As {ih:Ah} {f:FuncId} {a b c d:IV} {x y z u w:FV} (hr:Bq (ih f [.fv x,.fv y,.fv z,.fv u] ⟨[],[]⟩) w) (ha:Bc a=some x) (hb:Bc b=some y) (hc:Bc c=some z) (hd:Bc d=some u) (h:Hp)
  (k:KT (IV×Hp)):AY [] false false ih f [a,b,c,d] h k=k (.fv w) h [] []:=K4 (Aa2 ha hb hc hd) hr h k
theorem E8 (v:IV) (s:Nat) (h:Hp) (k:KT β):Ay (.ret { eff:={ val:=v } }) s h k=k v h [] []:=by unfold Ay;simp only [Rd.runLog,HJ,Ck];rfl
theorem gen_val' (v:IV) (s:Nat) (h:Hp) (k:KT β):Ay (Idl.val v) s h k=k v h [] []:=E8 v s h k
theorem Cv {e:TypeId} {a b:Nat} {ei:TI} {z:List IV} (hT:E.T t=some ⟨a,b,.slice e,z⟩) (he:E.T e=some ei) {len:Nat} (hs:¬ (ei.size=0\/len * ei.size > 65536)) {parts:List (Nat×IV)} {cells:List FV}
  (hf:CN (fun j=>some (j * ei.size,ei.size)) (Nw len ei.zero) parts=some (cells.map .fv)) {s:Nat} {h:Hp} (k:KT β) (hc:cells.length<65000:=by simp) :
  Ay (Al E t len parts) s h k=k (.clip (B8 ei.size len cells)) h [] []:=by
 have key:∀(l:List FV) (n:Nat),l.length<n->frzL n (l.map .fv)=.ret (l,[]):=by
  intro l
  induction l with
  | nil=>intro n hn;cases n with
   | zero=>simp at hn
   | succ n=>rfl
  | cons x l ih=>intro n hn;cases n with
   | zero=>simp at hn
   | succ n =>
    simp only [AhU] at hn;cases n with
    | zero=>omega
    | succ n =>simp only [AhW,frzL,C2,Rd.bind];rw [ih (n+1) (by omega)];rfl
 have:Al E t len parts=.ret { eff:={ val:=.clip (B8 ei.size len cells),upd:=[] } }:=by simp only [Al,hT,he,if_neg hs,hf];rw [key _ _ (by omega)];rfl
 rw [this,E8]
end
def zC:IV->Option FV
 | .fv w=>some w
 | .tuple vs=>if vs.length<=100 then (Bv vs).map .tuple else none
 | _=>none
theorem A4 {x:IV} {w:FV} {own:List (Nat×Blk)} (h:zC x=some w):Bq (some (x,⟨own,[]⟩)) w:=by
 cases x with
 | fv v=>rw [Option.some.inj h];exact Au _ _
 | tuple vs =>
  simp only [zC] at h;split at h
  ·rename_i hl;cases hz:Bv vs with
   | none=>rw [hz] at h;cases h
   | some xs=>rw [hz] at h;rw [<- Option.some.inj h];exact QY hz hl _
  ·cases h
 | _=>cases h
end Idl
end Go.Proofs.YtnenpcghegcnhaaGreat
namespace Go.Proofs.YtnenpcghegcnhaaGreat
namespace Idl
def XY:=AhP @decide_true<|AhP @decide_false<|AhP @Bool.not_true<|AhP @Bool.not_false<|AhP @List.map_cons.{0,0}<|AhP @List.map_nil.{0,0}<|AhP @List.length_map.{0,0}<|AhP @List.length_cons.{0}<|AhP @List.length_nil.{0}<|AhP @Int.natCast_zero<|AhP @Int.natCast_one<|AhP @Bool.false_eq_true<|AhP @Bool.true_eq_false<|AhP @decide_eq_true_eq<|AhP @eq_self.{1}<|AhP @Bool.and_true<|AhP @Bool.true_and<|AhP @Bool.and_false<|AhP @Bool.false_and<|AhP @Nat.zero_add<|@Int.cast_ofNat_Int
def XE:=AhP @List.any_cons.{0}<|AhP @List.any_nil.{0}<|AhP @List.all_cons.{0}<|AhP @List.all_nil.{0}<|AhP @List.filter_cons.{0}<|AhP @List.filter_nil.{0}<|AhP @List.contains_cons.{0}<|AhP @List.contains_nil.{0}<|AhP @Bool.or_false<|AhP @Bool.or_true<|AhP @Bool.false_or<|AhP @Bool.true_or<|AhP @Bool.and_self<|AhP @Bool.not_eq_true<|AhP @BEq.rfl.{0}<|@beq_self_eq_true.{0}
def XX:=AhP @n0<|AhP @n1<|AhP @n2<|AhP @n3<|AhP @n4<|AhP @n5<|AhP @n6<|AhP @d0<|AhP @d1<|AhP @d2<|AhP @d3<|AhP @d4<|AhP @t1<|AhP @t2<|AhP @t3<|AhP @t4<|AhP @t7<|AhP @ap0<|AhP @ap1<|AhP @yL<|AhP @fY<|AhP @c_f<|AhP @Jh<|AhP @Abe<|AhP @nS<|AhP @tF<|AhP @AaD<|AhP @oB<|AhP @uL<|AhP @zD<|AhP @wK<|AhP @Xk<|AhP @jD<|AhP @sn0<|AhP @AaS<|AhP @Aaz<|AhP @AaY<|AhP @AbC<|AhP @AaH<|AhP @Rj<|AhP @jQ<|AhP @wZ<|AhP @lX<|AhP @z5<|AhP @zK<|AhP @gZ<|AhP @jN<|AhP @iR<|AhP @vR<|AhP @uA<|AhP @tN<|AhP @nN<|AhP @xB<|AhP @uN<|AhP @jS<|AhP @vC<|AhP @jT<|AhP @Abj<|AhP @yS<|AhP @jA<|AhP @s9<|AhP @kV<|AhP @QM<|AhP @Pr<|AhP @Afh<|AhP @G3<|AhP @Vj<|AhP @dG<|AhP @TQ<|AhP @p7<|AhP @v5<|AhP @qA<|AhP @vD<|AhP @pX<|AhP @pS<|AhP @pP<|AhP @Abt<|AhP @vH<|AhP @kB<|AhP @vO<|AhP @YQ<|AhP @mF<|AhP @ZK<|AhP @mG<|AhP @i1<|AhP @mL<|AhP @aH<|AhP @Aa7<|AhP @yK<|AhP @AeL<|AhP @Afi<|AhP @qV<|AhP @u9<|AhP @wr0<|AhP @wr1<|AhP @sf0<|AhP @sf1<|AhP @sf2<|AhP @sf3<|AhP @sf4<|AhP @of0<|AhP @of1<|AhP @of2<|AhP @of3<|AhP @of6<|AhP @Afb<|AhP @Z0<|AhP @Ae1<|AhP @sc3<|AhP @Aca<|AhP @Ae4<|AhP @yH<|AhP @Aao<|AhP @Aaa<|AhP @b9<|AhP @Adq<|AhP @Ae2<|AhP @AeH<|AhP @AcO<|AhP @Aav<|AhP @fk0<|AhP @fk1<|AhP @tE<|AhP @qZ<|AhP @nb3<|AhP @nb4<|AhP @nb7<|AhP @nl3<|AhP @wI<|AhP @AaU<|AhP @zZ<|AhP @y5<|AhP @Z5<|AhP @Om<|AhP @AcG<|AhP @Ads<|AhP @Aet<|AhP @AeN<|AhP @AcU<|AhP @AcA<|AhP @Abk<|AhP @yP<|AhP @Acl<|AhP @Adh<|AhP @Ael<|AhP @Aeh<|AhP @AcQ<|AhP @AeC<|AhP @Abu<|AhP @zE<|AhP @AaX<|AhP @yT<|AhP @Acq<|AhP @ch0<|AhP @ch1<|AhP @dj0<|AhP @djn<|AhP @dj1<|AhP @an0<|AhP @an1<|AhP @Afm<|AhP @xY<|AhP @Aak<|AhP @AdY<|AhP @Afg<|AhP @Ac1<|AhP @AcT<|AhP @Acf<|AhP @zF<|AhP @AaN<|AhP @yV<|AhP @zA<|AhP @y3<|AhP @Bp<|AhP @Adw<|AhP @AeZ<|AhP @Aer<|AhP @mY<|AhP @mN<|AhP @kO<|AhP @lN<|AhP @xZ<|AhP @lY<|AhP @vP<|AhP @kE<|AhP @tS<|AhP @yQ<|AhP @gX<|AhP @tP<|AhP @mB<|AhP @qY<|AhP @Aeq<|AhP @Ab6<|AhP @tI<|AhP @SZ<|AhP @Ye<|AhP @Aa2<|AhP @SO<|AhP @E8<|@gen_val'
def Ev (f:FuncId) (args:List IV) (w:FV):Prop:=∃N,∀n,N<=n->Bq (SS dt n f args ⟨[],[]⟩) w
theorem A7 {F:(List IV->Hp->Option (IV×Hp))->List IV->Hp->Option (IV×Hp)} {Q:Option (IV×Hp)->Prop} (P:Nat->List IV->Hp->Prop)
  (step:∀k V H rec,P k V H->(∀k' V' H',k' < k->P k' V' H'->Q (rec V' H'))->Q (F rec V H)):∀m k V H,k<m->P k V H->Q (BC m F V H):=by
 intro m
 induction m with
 | zero=>intro k V H h;omega
 | succ m ih=>intro k V H hk hP;exact step k V H (BC m F) hP fun k' V' H' h1 h2=>ih k' V' H' (by omega) h2
mutual
def Tm.wt:Tm->Nat
 | .mk _ _ l=>1+Tm.wtL l
def Tm.wtL:List Tm->Nat
 | []=>0
 | t::l=>t.wt+Tm.wtL l
end
theorem B9 {t:Tm}:∀{l:List Tm},t∈l->t.wt<=Tm.wtL l
 | a::l,h=>by
  rcases List.mem_cons.1 h with rfl | h
  ·simp only [Tm.wtL];omega
  ·have:=B9 h;simp only [Tm.wtL];omega
theorem Dl:∀(l:List Tm),l.length<=Tm.wtL l
 | []=>Nat.zero_le _
 | (.mk _ _ k)::l=>by have:=Dl l;simp only [Tm.wtL,Tm.wt,AhU];omega
theorem Eg (t:Tm):0<t.wt:=by cases t;simp only [Tm.wt];omega
theorem Am (op n:Int) (l:List Tm):(Tm.mk op n l).enc=.agg [.int .i64 op,.int .i64 n,.sl (l.map Tm.enc)]:=by simp only [Tm.enc,Vi]
theorem AO {l:List Tm} {i:Nat} {op n:Int} {k:List Tm} (h:l[i]?=some (.mk op n k)):(l.map Tm.enc)[i]?=some (.agg [.int .i64 op,.int .i64 n,.sl (k.map Tm.enc)]):=by rw [List.getElem?_map,h,AhT,Am]
theorem BZ {α:Type} {l pre rest:List α} {a:α} (h:l=pre++a::rest):l[pre.length]?=some a:=by rw [h,List.getElem?_append_right (Nat.le_refl _),Nat.sub_self];rfl
theorem B7 (a b c:FV):(FV.agg [a,b,c]).cells=[a,b,c]:=rfl
theorem Bi (a b c:FV):(FV.agg [a,b,c]).cells.length=3:=rfl
section
variable {β:Type} {E:Env}
def ZS (b:Blk) (n sz:Nat) (x:Option β):Option β:=match b with
 | .tok a s=>if a=n/\s=sz then x else none
 | _=>none
theorem GZ (n sz:Nat) (x:Option β):ZS (.tok n sz) n sz x=x:=by
 show (if n=n/\sz=sz then x else none)=x
 rw [if_pos ⟨rfl,rfl⟩]
inductive Plain2:IV->List FV->Prop
 | clip (es:List FV):Plain2 (.clip es) es
 | sl (es:List FV):Plain2 (.fv (.sl es)) es
 | app (r:Ref) (es:List FV):Plain2 (.app r es) es
theorem OJ {x:IV} {es:List FV} (h:Plain2 x es):C2 4096 x=.ret (.sl es,[]):=by cases h<;>rfl
structure SliceT (E:Env) (t:TypeId) (size:Nat):Prop where
 h:∃a b e z ei,E.T t=some ⟨a,b,.slice e,z⟩/\E.T e=some ei/\ei.size=size/\size≠0/\ei.bytes<=100000
theorem Ha {t:TypeId} {size:Nat} (T:SliceT E t size) {x:IV} {es2:List FV} (hx:Plain2 x es2) (h1:BJ size es2=true) (hne:es2.isEmpty=false) (hb:es2.length<=1000000) {s0:IV} (hs:s0=.nils\/s0=.clip []) (s:Nat) (own:List (Nat×Blk)) (ext:List Blk)
  (k:KT β):Ay (AS E s false .append [t,t] [s0,x]) s ⟨own,ext⟩ k=CO own s (Bb own s (.tok es2.length size) fun own=>k (.app (.own s) es2) ⟨own,ext⟩ [] [.own s]):=by
 obtain ⟨a,b,e,z,ei,hT,he,rfl,h0,hby⟩:=T.h;have hlen:¬ (BJ ei.size []=false\/(([]:List FV).length+es2.length) * ei.bytes > 140737488355328\/([]:List FV).length+es2.length > 1073741824):=by
  have:es2.length * ei.bytes<=1000000 * 100000:=Nat.mul_le_mul hb hby
  rintro (h | h | h)
  ·cases h
  ·simp only [List.length_nil,Nat.zero_add] at h;omega
  ·simp only [List.length_nil,Nat.zero_add] at h;omega
 have key:AS E s false .append [t,t] [s0,x]=.ret { eff:={ val:=.app (.own s) es2,upd:=[] },new:=some (.tok es2.length ei.size) }:=by
  show DC E s t (some t) false s0 x=_
  simp only [DC,hT,Option.bind_some,he,OJ hx,Rd.bind,h0,h1,false_or,Bool.true_eq_false,if_false];rcases hs with rfl | rfl<;>simp only [Cm,if_neg hlen,hne,List.nil_append,Bool.false_eq_true,if_false]
 rw [key];unfold Ay;simp only [Rd.runLog]
 show (Hi (some (.tok es2.length ei.size)) s ⟨own,ext⟩ fun h=>fV 3 (.app (.own s) es2) fun v=>k v h [] ([]++[.own s]))=_
 simp only [Hi,Cw,Ck];rfl
theorem dJ {t:TypeId} {size:Nat} (T:SliceT E t size) {x:IV} (hx:Plain2 x []) {s0:IV} (hs:s0=.nils\/s0=.clip []) (s:Nat) (h:Hp) (k:KT β) :
  Ay (AS E s false .append [t,t] [s0,x]) s h k=k s0 h [] []:=by
 obtain ⟨a,b,e,z,ei,hT,he,rfl,h0,hby⟩:=T.h;have hlen:¬ (BJ ei.size []=false\/(([]:List FV).length+([]:List FV).length) * ei.bytes > 140737488355328\/([]:List FV).length+([]:List FV).length > 1073741824):=by
  rintro (h | h | h)
  ·cases h
  ·simp at h
  ·simp at h
 have key:AS E s false .append [t,t] [s0,x]=.ret { eff:={ val:=s0,upd:=[] } }:=by
  show DC E s t (some t) false s0 x=_
  have h1:BJ ei.size []=true:=rfl;simp only [DC,hT,Option.bind_some,he,OJ hx,Rd.bind,h0,h1,false_or,Bool.true_eq_false,if_false];rcases hs with rfl | rfl
  ·simp only [Cm];rw [if_neg hlen];simp
  ·simp only [Cm];rw [if_neg hlen];simp
 rw [key];exact E8 s0 s h k
theorem NQ {t:TypeId} {size:Nat} (T:SliceT E t size) {x:IV} {es es2:List FV} (hx:Plain2 x es2) (h1:BJ size es2=true) (h2:BJ size es=true) (ho:(es2.all fun e=>e.cells.all FV.one)=true) (hb:es.length+es2.length<=1000000) (r s:Nat)
  (own:List (Nat×Blk)) (ext:List Blk) (k:KT β):Ay (AS E s false .append [t,t] [.app (.own r) es,x]) s ⟨own,ext⟩ k =
   E9 own r fun b=>ZS b es.length size (Bb own r (.tok (es.length+es2.length) size) fun own=>k (.app (.own r) (es++es2)) ⟨own,ext⟩ [.own r] [.own r]):=by
 obtain ⟨a,b,e,z,ei,hT,he,rfl,h0,hby⟩:=T.h;have hlen:¬ (BJ ei.size es=false\/(es.length+es2.length) * ei.bytes > 140737488355328\/es.length+es2.length > 1073741824):=by
  have:(es.length+es2.length) * ei.bytes<=1000000 * 100000:=Nat.mul_le_mul hb hby
  rintro (h | h | h)
  ·rw [h2] at h;cases h
  ·omega
  ·omega
 have key:(AS E s false .append [t,t] [.app (.own r) es,x]).runLog ⟨own,ext⟩ []=(Ap r own).bind fun b=>match b with
   | .tok n sz=>if n=es.length/\sz=ei.size then some ({ eff:={ val:=.app (.own r) (es++es2),upd:=[(.own r,.tok (n+es2.length) sz)] } },[.own r]) else none
   | _=>none:=by
  show (DC E s t (some t) false (.app (.own r) es) x).runLog _ _=_
  simp only [DC,hT,Option.bind_some,he,OJ hx,Rd.bind,h0,h1,false_or,Bool.true_eq_false,if_false,Cm,if_neg hlen,Rd.runLog,ho,and_true]
  show (match Ap r own with | some b=>_ | none=>none)=_
  cases Ap r own with
  | none=>rfl
  | some b =>
   cases b with
   | tok n sz =>
    simp only [Option.bind_some];by_cases hc:n=es.length/\sz=ei.size
    ·rw [if_pos hc,if_pos hc];rfl
    ·rw [if_neg hc,if_neg hc];rfl
   | _=>rfl
 unfold Ay;rw [key,BB];cases hl:Ap r own with
 | none=>simp
 | some b =>
  simp only [Option.bind_some];cases b with
  | tok n sz =>
   simp only [ZS];by_cases hc:n=es.length/\sz=ei.size
   ·rw [if_pos hc,if_pos hc];obtain ⟨rfl,rfl⟩:=hc
    show (YZ (.own r) fun q=>Do q ⟨own,ext⟩ fun _=>Yf (.tok (es.length+es2.length) ei.size) fun b=>FK q b ⟨own,ext⟩ fun h=>Hi none s h fun h=>fV 3 (.app (.own r) (es++es2)) fun v=>k v h [.own r] ([.own r]++[]))=_
    simp only [ML,Cw,Ck,Hi,FK,Do];rw [BB,hl];rfl
   ·rw [if_neg hc,if_neg hc]
  | row _ _=>rfl
  | map _=>rfl
end
def PS:EE.T 29=some ⟨1,24,.slice 31,[.nils]⟩:=by kernel_rfl
def mV:EE.T 31=some ⟨3,40,.struct [(0,3),(1,3),(2,29)],[.fv (.int .i64 0),.fv (.int .i64 0),.nils]⟩:=by kernel_rfl
def sTm:SliceT EE 29 3:=⟨_,_,_,_,_,PS,mV,rfl,by decide,by decide⟩
def In (a:Tm) (s:Nat) (h:Hp) (k:KT (IV×Hp)):Ay (Al EE 29 1 [(0,.fv a.enc)]) s h k=k (.clip [a.enc]) h [] []:=by obtain ⟨o1,n1,k1⟩:=a;exact Cv PS mV (by decide) (cells:=[.int .i64 o1,.int .i64 n1,.sl (Tm.enc.encL k1)]) rfl k
def qN (a b:Tm) (s:Nat) (h:Hp) (k:KT (IV×Hp)):Ay (Al EE 29 2 [(0,.fv a.enc),(1,.fv b.enc)]) s h k=k (.clip [a.enc,b.enc]) h [] []:=by obtain ⟨o1,n1,k1⟩:=a;obtain ⟨o2,n2,k2⟩:=b;exact Cv PS mV (by decide) (cells:=[.int .i64 o1,.int .i64 n1,.sl (Tm.enc.encL k1),.int .i64 o2,.int .i64 n2,.sl (Tm.enc.encL k2)]) rfl k
def j8 (a:Tm):a.enc.cells.length=3:=by cases a;rfl
def jO (a:Tm):a.enc.cells.all FV.one=true:=by cases a;rfl
theorem O5 (l:List Tm):BJ 3 (l.map Tm.enc)=true:=by
 cases l with
 | nil=>rfl
 | cons a l=>simp only [AhW,BJ,j8,beq_self_eq_true]
def PP (e:Tm) (s:Nat) (own:List (Nat×Blk)) (ext:List Blk) (k:KT (IV×Hp)) :
  Ay (AS EE s false .append [29,29] [.nils,.clip [e.enc]]) s ⟨own,ext⟩ k=CO own s (Bb own s (.tok 1 3) fun own=>k (.app (.own s) [e.enc]) ⟨own,ext⟩ [] [.own s]) :=
 Ha sTm (.clip _) (O5 [e]) rfl (by simp) (.inl rfl) s own ext k
def Lq {es:List Tm} (hb:es.length+1<=1000000) (e:Tm) (r s:Nat) (own:List (Nat×Blk)) (ext:List Blk) (k:KT (IV×Hp)) :
  Ay (AS EE s false .append [29,29] [.app (.own r) (es.map Tm.enc),.clip [e.enc]]) s ⟨own,ext⟩ k =
   E9 own r fun b=>ZS b es.length 3 (Bb own r (.tok (es.length+1) 3) fun own=>k (.app (.own r) ((es++[e]).map Tm.enc)) ⟨own,ext⟩ [.own r] [.own r]):=by
 rw [NQ sTm (.clip [e.enc]) (O5 [e]) (O5 es) (by simp [jO]) (by simpa using hb) r s own ext k];simp only [List.length_map,List.map_append,AhW,AhV,AhU,List.length_nil,Nat.zero_add]
def qS {x m:Int} (h1:0<m) (h2:m<=4611686018427387904):(if x.tmod m<0 then BF (x.tmod m+m) else x.tmod m)=x % m:=by
 have a1:=Int.emod_nonneg x (show m≠0 by omega)
 have a2:=Int.emod_lt_of_pos x h1;have e1:x.tmod m=x - m * x.tdiv m:=by have:=Int.mul_tdiv_add_tmod x m;omega
 have e2:x % m=x - m * (x / m):=by have:=Int.mul_ediv_add_emod x m;omega
 have b1:-m<x.tmod m:=Int.lt_tmod_of_pos x h1;have b2:x.tmod m<m:=Int.tmod_lt_of_pos x h1;have key:∃q,x.tmod m=x % m+m * q:=⟨x / m - x.tdiv m,by rw [e1,e2,Int.mul_sub];omega⟩;obtain ⟨q,hq⟩:=key;have hq2:q=0\/q=-1:=by
  rcases Int.lt_trichotomy q 0 with h | h | h
  ·right;rcases Int.lt_trichotomy q (-1) with h' | h' | h'
   ·have:m * q<=m * (-2):=Int.mul_le_mul_of_nonneg_left (by omega) (by omega)
    omega
   ·exact h'
   ·omega
  ·exact .inl h
  ·have:m * 1<=m * q:=Int.mul_le_mul_of_nonneg_left (by omega) (by omega)
   omega
 rcases hq2 with rfl | rfl
 ·rw [if_neg (by omega)];omega
 ·rw [if_pos (by omega),Ax (by omega) (by omega)];omega
def Aw {n:Nat} (hn:0<n) (x:Int) {m:Int} (h1:0<m) (h2:m<=4611686018427387904):Bq (SS dt n 63 [iv x,iv m] ⟨[],[]⟩) (.int .i64 (x % m)):=by
 obtain ⟨n,rfl⟩:=Nat.exists_eq_add_of_lt hn;rw [Nat.zero_add,c63];simp only [S63,↓XX,XY,↓reduceIte,seval,↓Om (show m≠0 by omega)]
 rw [<- qS h1 h2];by_cases hc:x.tmod m<0<;>simp only [hc,if_true,if_false]<;>exact Au _ _
def AU {n:Nat} (hn:0<n) (op:Int):Bq (SS dt n 38 [iv op,.fv (.sl [])] ⟨[],[]⟩) (Tm.mk op 0 []).enc:=by obtain ⟨n,rfl⟩:=Nat.exists_eq_add_of_lt hn;rw [Nat.zero_add,c38];simp only [S38,↓XX,XY,↓reduceIte,seval];exact Au _ _
def CQ {n:Nat} (hn:0<n) (op:Int) (l:List Tm):Bq (SS dt n 38 [iv op,.fv (.sl (l.map Tm.enc))] ⟨[],[]⟩) (Tm.mk op 0 l).enc:=by obtain ⟨n,rfl⟩:=Nat.exists_eq_add_of_lt hn;rw [Nat.zero_add,c38];simp only [S38,↓XX,XY,↓reduceIte,seval,Am];exact Au _ _
def Tm.kids:Tm->List Tm
 | .mk _ _ l=>l
def Tm.op:Tm->Int
 | .mk o _ _=>o
def Tm.n:Tm->Int
 | .mk _ n _=>n
def Tm.pick (r:Tm) (i:Nat):Tm:=match r.kids[i]? with
 | some k=>k
 | none=>.mk (BF (BF (r.op.tdiv 3)+i)) (BF (BF (r.n.tdiv 5)+BF (7 * i))) []
theorem AT {n:Nat} (hn:0<n) (r:Tm) (i:Nat):Bq (SS dt n 65 [.fv r.enc,iv i] ⟨[],[]⟩) (r.pick i).enc:=by
 obtain ⟨n,rfl⟩:=Nat.exists_eq_add_of_lt hn;rw [Nat.zero_add,c65];obtain ⟨op,m,ks⟩:=r;rw [Am];simp only [Tm.pick,Tm.kids,Tm.op,Tm.n];cases hk:ks[i]? with
 | some k =>
  have hi:(i:Int)<ks.length:=by have:=(List.getElem?_eq_some_iff.1 hk).1;omega
  obtain ⟨o,p,l⟩:=k;simp only [S65,↓XX,XY,↓reduceIte,seval,hi,↓Bp (AO hk) (Bi _ _ _),↓B7,Am];exact Au _ _
 | none =>
  have hi:¬ (i:Int)<ks.length:=by have:=List.getElem?_eq_none_iff.1 hk;omega
  simp only [S65,↓XX,XY,↓reduceIte,seval,hi,↓Z5 (show (3:Int)≠0 by decide),↓Z5 (show (5:Int)≠0 by decide)]
  exact Bn rfl _
section
variable {β:Type}
def Ct (s:Nat):IV->Bool
 | .ptr (.own j) _=>s == j
 | .slc (.own j) _ _=>s == j
 | .app (.own j) _=>s == j
 | .mapr (.own j)=>s == j
 | _=>false
def Fg:IV->Bool
 | .agg _ | .tuple _ | .func ..=>false
 | _=>true
def Fw (s:Nat):Blk->Bool
 | .row cells _=>cells.any (Ct s)
 | _=>false
def Rx:Blk->Bool
 | .row cells _=>cells.all Fg
 | .tok ..=>true
 | .map _=>false
theorem Ym {v:IV} (h:Fg v=true) (s:Nat):(Ref.own s∈v.refs) ↔ Ct s v=true:=by
 cases v with
 | ptr r o=>cases r<;>simp [IV.refs,Ct]
 | slc r a b=>cases r<;>simp [IV.refs,Ct]
 | app r es=>cases r<;>simp [IV.refs,Ct]
 | mapr r=>cases r<;>simp [IV.refs,Ct]
 | agg _=>cases h
 | tuple _=>cases h
 | func _ _ _=>cases h
 | _=>simp [IV.refs,Ct]
theorem IF:∀{l:List IV},l.all Fg=true->∀s,(Ref.own s∈IV.refs.refsL l) ↔ l.any (Ct s)=true
 | [],_,s=>by simp [IV.refs.refsL]
 | v::l,h,s=>by
  rw [List.all_cons,Bool.and_eq_true] at h;rw [IV.refs.refsL,List.mem_append,List.any_cons,Bool.or_eq_true,Ym h.1,IF h.2]
theorem Ek {b:Blk} (h:Rx b=true) (s:Nat):(Ref.own s∈b.refs) ↔ Fw s b=true:=by
 cases b with
 | row cells ro=>exact IF h s
 | tok n sz=>simp [Blk.refs,Fw]
 | map es=>cases h
theorem HZ (s:Nat):∀l:List Ref,anyIn [s] l=true ↔ Ref.own s∈l
 | []=>by simp [anyIn]
 | .own k::l=>by
  rw [anyIn,Bool.or_eq_true,HZ s l,List.mem_cons];simp [eq_comm]
 | .ext k::l=>by
  rw [anyIn,HZ s l,List.mem_cons];simp
def heldB (rm:List Nat) (vals:List IV) (own:List (Nat×Blk)) (ext:List Blk) (s:Nat):Bool :=vals.any (Ct s) || (own.any (fun p=>!rm.contains p.1 && Fw s p.2) || ext.any (Fw s))
def Hh (rm:List Nat) (vals:List IV) (own:List (Nat×Blk)) (ext:List Blk):List (Nat×Blk):=own.filter fun p=>!rm.contains p.1 || heldB rm vals own ext p.1
def AL (rm:List Nat) (vals:List IV) (own:List (Nat×Blk)) (ext:List Blk):Bool :=vals.all Fg && (own.all (fun p=>Rx p.2) && (ext.all Rx && own.all fun p=>!rm.contains p.1 || rm.all fun s=>!Fw s p.2))
theorem RK {rm:List Nat} {vals:List IV} {own:List (Nat×Blk)} {ext:List Blk} (hf:AL rm vals own ext=true) (s:Nat) :
  Ref.own s∈IV.refs.refsL vals++(own.filter fun p=>!rm.contains p.1).flatMap (fun p=>p.2.refs)++ext.flatMap Blk.refs ↔ heldB rm vals own ext s=true:=by
 simp only [AL,Bool.and_eq_true] at hf;obtain ⟨h1,h2,h3,_⟩:=hf;have e1:Ref.own s∈(own.filter fun p=>!rm.contains p.1).flatMap (fun p=>p.2.refs) ↔ (own.any fun p=>!rm.contains p.1 && Fw s p.2)=true:=by
  rw [List.mem_flatMap,List.any_eq_true];constructor
  ·rintro ⟨p,hp,hr⟩;obtain ⟨hp1,hp2⟩:=List.mem_filter.1 hp;exact ⟨p,hp1,by rw [hp2,(Ek (List.all_eq_true.1 h2 p hp1) s).1 hr];rfl⟩
  ·rintro ⟨p,hp,hr⟩;rw [Bool.and_eq_true] at hr;exact ⟨p,List.mem_filter.2 ⟨hp,hr.1⟩,(Ek (List.all_eq_true.1 h2 p hp) s).2 hr.2⟩
 have e2:Ref.own s∈ext.flatMap Blk.refs ↔ ext.any (Fw s)=true:=by
  rw [List.mem_flatMap,List.any_eq_true];constructor
  ·rintro ⟨p,hp,hr⟩;exact ⟨p,hp,(Ek (List.all_eq_true.1 h3 p hp) s).1 hr⟩
  ·rintro ⟨p,hp,hr⟩;exact ⟨p,hp,(Ek (List.all_eq_true.1 h3 p hp) s).2 hr⟩
 rw [List.mem_append,List.mem_append,IF h1,e1,e2,heldB,Bool.or_eq_true,Bool.or_eq_true,or_assoc]
theorem AB {base rm:List Nat} {vals:List IV} {own:List (Nat×Blk)} {ext:List Blk} (hb:rm.any base.contains=false) (hf:AL rm vals own ext=true) (k:Hp->Option β) :
  Bk base rm vals ⟨own,ext⟩ k=k ⟨Hh rm vals own ext,ext⟩:=by
 have hm:=RK hf;have hf0:=hf;simp only [AL,Bool.and_eq_true] at hf0;obtain ⟨g1,g2,g3,g4⟩:=hf0;unfold Bk;rw [hb];simp only [cond_false];rw [Lo];cases ha:(own.all fun p=>!rm.contains p.1) with
 | true =>
  simp only [Bool.not_true,cond_false];congr 2
  symm
  apply List.filter_eq_self.2;intro p hp;rw [List.all_eq_true.1 ha p hp];rfl
 | false =>
  simp only [Bool.not_false,cond_true];have slow:(match CM base [] rm ⟨vals,⟨own,ext⟩⟩ with | none=>none | some S=>fH S.hp k)=k ⟨Hh rm vals own ext,ext⟩:=by
   have hgone:(rm.filter fun k=>!anyIn [k] (IV.refs.refsL vals++(own.filter fun p=>!rm.contains p.1).flatMap (fun p=>p.2.refs)++ext.flatMap Blk.refs))=rm.filter fun s=>!heldB rm vals own ext s:=by apply List.filter_congr;intro s _;congr 1;exact Bool.eq_iff_iff.2 ((HZ s _).trans (hm s))
   have hown:(own.filter fun p=>!(rm.filter fun s=>!heldB rm vals own ext s).contains p.1)=Hh rm vals own ext:=by
    apply List.filter_congr;intro p _;rw [Bool.eq_iff_iff];simp only [Bool.not_eq_true',Bool.or_eq_true,List.contains_eq_mem,decide_eq_false_iff_not,List.mem_filter];constructor
    ·intro h;by_cases h1:p.1∈rm
     ·right;cases hh:heldB rm vals own ext p.1 with
      | true=>rfl
      | false=>exact absurd ⟨h1,hh⟩ h
     ·exact .inl h1
    ·rintro (h | h) ⟨h1,h2⟩
     ·exact h h1
     ·rw [h] at h2;exact absurd h2 (by simp)
   simp only [CM,hb,Bool.false_eq_true,if_false,Bd,ha,hgone,hown];have hnone:anyIn (rm.filter fun s=>!heldB rm vals own ext s) (C7 ⟨vals,⟨Hh rm vals own ext,ext⟩⟩)=false:=by
    apply Ei;intro s hs hmem;obtain ⟨hs1,hs2⟩:=List.mem_filter.1 hs;have hs2:heldB rm vals own ext s=false:=by simpa using hs2
    simp only [C7,List.mem_append] at hmem;rcases hmem with (hmem | hmem) | hmem
    ·have:=(hm s).1 (List.mem_append_left _ (List.mem_append_left _ hmem))
     rw [this] at hs2;cases hs2
    ·obtain ⟨p,hp,hr⟩:=List.mem_flatMap.1 hmem;have hp1:=(List.mem_filter.1 hp).1;have hn:=(Ek (List.all_eq_true.1 g2 p hp1) s).1 hr;have h4:=List.all_eq_true.1 g4 p hp1;cases hc:rm.contains p.1 with
     | true =>rw [hc] at h4;have h4:(rm.all fun s=>!Fw s p.2)=true:=h4;have h5:=List.all_eq_true.1 h4 s hs1;rw [hn] at h5;cases h5
     | false =>
      have:=(hm s).1 (List.mem_append_left _ (List.mem_append_right _ (List.mem_flatMap.2 ⟨p,List.mem_filter.2 ⟨hp1,by rw [hc];rfl⟩,hr⟩)))
      rw [this] at hs2;cases hs2
    ·have:=(hm s).1 (List.mem_append_right _ hmem)
     rw [this] at hs2;cases hs2
   simp only [hnone,Bool.false_eq_true,if_false,Ie]
  cases hff:(and (Fl rm (CT vals [])) (and (Hw rm own) (Im rm ext))) with
  | false=>exact slow
  | true =>
   have hff:(Fl rm (CT vals []) && (Hw rm own && Im rm ext))=true:=hff;simp only [Bool.and_eq_true] at hff;simp only [Hn,cond_true];congr 2;apply List.filter_congr;intro p hp;cases hc:rm.contains p.1 with
   | false=>rfl
   | true =>
    have h1:=Fq hff.1;rw [refsDL_eq,List.append_nil] at h1;have h2:=Hz hff.2.1;have h3:=MO hff.2.2
    have:heldB rm vals own ext p.1=false:=by
     cases hh:heldB rm vals own ext p.1 with
     | false=>rfl
     | true =>
      have:=(hm p.1).2 hh
      have hpm:p.1∈rm:=List.contains_iff_mem.1 hc;rcases List.mem_append.1 this with h | h
      ·rcases List.mem_append.1 h with h | h
       ·exact absurd h (h1 _ hpm)
       ·exact absurd h (h2 _ hpm)
      ·exact absurd h (h3 _ hpm)
    rw [this];rfl
end
section
variable (s j:Nat)
theorem Acn (rm:List Nat) (vals:List IV) (own:List (Nat×Blk)) (ext:List Blk):Hh rm vals own ext=own.filter fun p=>!rm.contains p.1 || heldB rm vals own ext p.1:=rfl
theorem nv1 (o:Nat):Ct s (.ptr (.own j) o)=(s == j):=rfl
theorem nv2 (a b:Nat):Ct s (.slc (.own j) a b)=(s == j):=rfl
theorem nv3 (es:List FV):Ct s (.app (.own j) es)=(s == j):=rfl
theorem nv4 (v:FV):Ct s (.fv v)=false:=rfl
theorem nv5:Ct s .nils=false:=rfl
theorem nv6 (es:List FV):Ct s (.clip es)=false:=rfl
theorem nv7 (o:Nat):Ct s (.ptr (.ext j) o)=false:=rfl
theorem nv8:Ct s .dead=false:=rfl
theorem nb1 (cs:List IV) (ro:Bool):Fw s (.row cs ro)=cs.any (Ct s):=rfl
theorem nb2 (a b:Nat):Fw s (.tok a b)=false:=rfl
theorem AdG (r:Ref) (o:Nat):Fg (.ptr r o)=true:=rfl
theorem AcZ (r:Ref) (a b:Nat):Fg (.slc r a b)=true:=rfl
theorem Afa (r:Ref) (es:List FV):Fg (.app r es)=true:=rfl
theorem AdQ (v:FV):Fg (.fv v)=true:=rfl
theorem Aeu:Fg .nils=true:=rfl
theorem Afc (es:List FV):Fg (.clip es)=true:=rfl
theorem Ado:Fg .dead=true:=rfl
theorem Ad6 (cs:List IV) (ro:Bool):Rx (.row cs ro)=cs.all Fg:=rfl
theorem fb_2 (a b:Nat):Rx (.tok a b)=true:=rfl
end
def XD:=AhP @Acn<|AhP @nv1<|AhP @nv2<|AhP @nv3<|AhP @nv4<|AhP @nv5<|AhP @nv6<|AhP @nv7<|AhP @nv8<|AhP @nb1<|AhP @nb2<|AhP @AdG<|AhP @AcZ<|AhP @Afa<|AhP @AdQ<|AhP @Aeu<|AhP @Afc<|AhP @Ado<|AhP @Ad6<|@fb_2
def Ak (op:Int) (i:Nat):Nat :=if op=3\/op=4\/op=6\/op=20\/op=28\/op=29 then (if i=1 then 1 else 0) else if op=13 then (if i=0 then 1 else if i=2 then 2 else 0) else 0
theorem A0 (op:Int) (i:Nat):Ak op i<=2:=by
 unfold Ak
 repeat' split
 all_goals omega
theorem Ft {n:Nat} (hn:0<n) (op:Int) (i:Nat):Bq (SS dt n 47 [iv op,iv i] ⟨[],[]⟩) (.int .i64 (Ak op i)):=by
 obtain ⟨n,rfl⟩:=psc n (by omega);rw [c47];unfold Ak;by_cases h:op=3\/op=4\/op=6\/op=20\/op=28\/op=29
 ·rw [if_pos h];by_cases hi:i=1
  ·subst hi;rcases h with rfl | rfl | rfl | rfl | rfl | rfl<;>(simp only [pJ,↓XX,XY,↓reduceIte,seval];exact Au _ _)
  ·have hi':¬ (i:Int)=1:=by omega
   rcases h with rfl | rfl | rfl | rfl | rfl | rfl<;>(simp only [pJ,↓XX,XY,↓reduceIte,seval,hi',hi];exact Au _ _)
 ·rw [if_neg h];have h3:¬ op=3:=fun e=>h (by simp [e]);have h4:¬ op=4:=fun e=>h (by simp [e]);have h6:¬ op=6:=fun e=>h (by simp [e]);have h20:¬ op=20:=fun e=>h (by simp [e]);have h28:¬ op=28:=fun e=>h (by simp [e]);have h29:¬ op=29:=fun e=>h (by simp [e]);by_cases h13:op=13
  ·subst h13;by_cases hi:i=0
   ·subst hi;simp only [pJ,↓XX,XY,↓reduceIte,seval];exact Au _ _
   ·have hi':¬ (i:Int)=0:=by omega
    by_cases hj:i=2
    ·subst hj;simp only [pJ,↓XX,XY,↓reduceIte,seval];exact Au _ _
    ·have hj':¬ (i:Int)=2:=by omega
     simp only [pJ,↓XX,XY,↓reduceIte,seval,hi,hi',hj,hj'];exact Au _ _
  ·simp only [pJ,↓XX,XY,↓reduceIte,seval,h3,h4,h6,h20,h28,h29,h13];exact Au _ _
theorem iL {n:Nat} (hn:0<n) (x:Int):Bq (SS dt n 39 [iv x] ⟨[],[]⟩) (Tm.mk 1 x []).enc:=by obtain ⟨n,rfl⟩:=psc n (by omega);rw [c39];simp only [S39,↓XX,XY,↓reduceIte,seval];exact Bn rfl _
theorem G5 {n:Nat} (hn:0<n) (x:Int):Bq (SS dt n 50 [iv x] ⟨[],[]⟩) (Tm.mk 2 x []).enc:=by obtain ⟨n,rfl⟩:=psc n (by omega);rw [c50];simp only [S50,↓XX,XY,↓reduceIte,seval];exact Bn rfl _
theorem Y6 {n:Nat} (hn:0<n) (x:Int):Bq (SS dt n 43 [iv x] ⟨[],[]⟩) (Tm.mk 25 x []).enc:=by obtain ⟨n,rfl⟩:=psc n (by omega);rw [c43];simp only [S43,↓XX,XY,↓reduceIte,seval];exact Bn rfl _
mutual
/-- No more than four kids anywhere. -/
def Tm.wk:Tm->Prop
 | .mk _ _ ks=>ks.length<=4/\Tm.wkL ks
def Tm.wkL:List Tm->Prop
 | []=>True
 | t::l=>t.wk/\Tm.wkL l
end
theorem Kn {t:Tm}:∀{l:List Tm},Tm.wkL l->t∈l->t.wk
 | a::l,h,hm=>by
  rw [Tm.wkL] at h;rcases List.mem_cons.1 hm with rfl | hm
  ·exact h.1
  ·exact Kn h.2 hm
mutual
def Tm.shift:Tm->Int->Int->Tm
 | .mk op n ks,d,c=>.mk op (if op=1/\c<=n then BF (n+d) else n) (Tm.shiftL op 0 ks d c)
def Tm.shiftL:Int->Nat->List Tm->Int->Int->List Tm
 | _,_,[],_,_=>[]
 | op,i,t::l,d,c=>t.shift d (c+Ak op i)::Tm.shiftL op (i+1) l d c
end
theorem Ef (op:Int) (d c:Int):∀(l:List Tm) (i:Nat),(Tm.shiftL op i l d c).length=l.length
 | [],_=>rfl
 | _::l,i=>by simp only [Tm.shiftL,AhU,Ef op d c l]
theorem L7 (op d c:Int):∀(l l':List Tm) (i:Nat),Tm.shiftL op i (l++l') d c=Tm.shiftL op i l d c++Tm.shiftL op (i+l.length) l' d c
 | [],l',i=>by simp [Tm.shiftL]
 | t::l,l',i=>by simp only [List.cons_append,Tm.shiftL,L7 op d c l l',AhU];congr 3;omega
theorem Da:∀(n:Nat) (t:Tm) (d c:Int),t.wt+1<n->t.wk->0<=c->c+2 * t.wt<=4611686018427387904->Bq (SS dt n 35 [.fv t.enc,iv d,iv c] ⟨[],[]⟩) (t.shift d c).enc:=by
 intro n
 induction n with
 | zero=>intro t d c h;omega
 | succ n ih =>
  intro t d c h hw hc0 hc;obtain ⟨op,m,ks⟩:=t;simp only [Tm.wt] at h hc;rw [Tm.wk] at hw;rw [c35,Am];have hlen:=Dl ks;have main:∀m',m'=(if op=1/\c<=m then BF (m+d) else m) ->
    Bq (BC n (fun q28 l29 h30=>H8 l29 h30 (SS dt n) ⟨[],[]⟩ q28) [iv d,iv c,.ptr (.own 36700160) 0,.ptr (.own 36700161) 0,.ptr (.own 36701189) 0,iv 0]
     ⟨[(36700160,.row [iv op,iv m,.fv (.sl (ks.map Tm.enc))] false),(36700161,.row [iv 0,iv 0,.nils] false),(36701189,.row [iv op,iv m',.nils] false)],[]⟩) ((Tm.mk op m ks).shift d c).enc:=by
   intro m' hm';refine A7 (Q:=fun r=>Bq r _) (fun k V H=>∃pre rest,ks=pre++rest/\rest.length=k/\V=[iv d,iv c,.ptr (.own 36700160) 0,.ptr (.own 36700161) 0,.ptr (.own 36701189) 0,iv pre.length] /\
    (
     (pre=[]/\H=⟨[(36700160,.row [iv op,iv m,.fv (.sl (ks.map Tm.enc))] false),(36700161,.row [iv 0,iv 0,.nils] false),(36701189,.row [iv op,iv m',.nils] false)],[]⟩) \/
     (pre≠[]/\H=⟨[(36700160,.row [iv op,iv m,.fv (.sl (ks.map Tm.enc))] false),(36700161,.row [iv 0,iv 0,.nils] false),(36701189,.row [iv op,iv m',.app (.own 36707344) ((Tm.shiftL op 0 pre d c).map Tm.enc)] false),(36707344,.tok (Tm.shiftL op 0 pre d c).length 3)],[]⟩)))
    ?_ n ks.length _ _ (by omega) ⟨[],ks,rfl,rfl,rfl,.inl ⟨rfl,rfl⟩⟩
   rintro k V H rec ⟨pre,rest,hk,hl,rfl,hH⟩ hrec;have hkl:ks.length=pre.length+rest.length:=by rw [hk];simp
   cases rest with
   | nil =>
    have hno:¬ ((pre.length:Int)<ks.length):=by rw [hkl];simp
    have hpre:ks=pre:=by simpa using hk
    rcases hH with ⟨rfl,rfl⟩ | ⟨_,rfl⟩
    ·subst hpre;simp only [FQ,H8,FO,iI,↓XX,XY,↓reduceIte,seval,Int.lt_irrefl,Tm.shift,Tm.shiftL,<- hm',Am];exact Bn rfl _
    ·subst hpre;simp only [FQ,H8,FO,iI,↓XX,XY,↓reduceIte,seval,Int.lt_irrefl,Tm.shift,<- hm',Am];exact Bn rfl _
   | cons t rest =>
    have hi:(pre.length:Int)<ks.length:=by rw [hkl];simp;omega
    have hg:=BZ hk;have htw:=B9 (t:=t) (l:=ks) (by rw [hk];simp);have hb:=Ft (n:=n) (by omega) op pre.length;have hble:=A0 op pre.length;have hs:=ih t d (c+Ak op pre.length) (by omega) (Kn hw.2 (by rw [hk];simp)) (by omega) (by omega);have hx:Tm.shiftL op 0 (pre++[t]) d c=Tm.shiftL op 0 pre d c++[t.shift d (c+Ak op pre.length)]:=by rw [L7];simp [Tm.shiftL]
    have hwc:BF (c+Ak op pre.length)=c+Ak op pre.length:=by rw [Ax]<;>omega
    have hwi:BF ((pre.length:Int)+1)=((pre++[t]).length:Int):=(Ax (by omega) (by omega)).trans (by simp);generalize hu:t.shift d (c+Ak op pre.length)=u at hs hx;obtain ⟨o,p,l⟩:=t;simp only [AhU] at hl;rw [Am] at hs;rcases hH with ⟨hp0,rfl⟩ | ⟨hne,rfl⟩
    ·simp only [FQ,H8,FO,iI,↓XX,XY,↓reduceIte,seval,hi,↓Bp (AO hg) (Bi _ _ _),↓B7,↓Af hb,hwc,hwi,↓Av hs,↓In,↓PP,↓AB,XD,heldB,AL,XE];refine hrec rest.length _ _ (by omega) ?_;refine ⟨pre++[.mk o p l],rest,by rw [hk];simp,rfl,rfl,.inr ⟨by simp,?_⟩⟩;rw [hx,hp0];rfl
    ·have hle:(Tm.shiftL op 0 pre d c).length+1<=1000000:=by rw [Ef];omega
     have hq:(Tm.shiftL op 0 pre d c).length=pre.length:=Ef ..;simp only [FQ,H8,FO,iI,↓XX,XY,↓reduceIte,seval,hi,↓Bp (AO hg) (Bi _ _ _),↓B7,↓Af hb,hwc,hwi,↓Av hs,↓In,↓Lq hle,↓GZ,↓AB,XD,heldB,AL,XE];refine hrec rest.length _ _ (by omega) ?_;refine ⟨pre++[.mk o p l],rest,by rw [hk];simp,rfl,rfl,.inr ⟨by simp,?_⟩⟩;rw [hx];simp only [List.length_append,AhU,List.length_nil]
  by_cases h1:op=1
  ·by_cases h2:c<=m
   ·subst h1;simp only [FQ,FO,iI,↓XX,XY,↓reduceIte,seval,h2,↓AB,XD,heldB,AL,XE];exact main _ (by simp [h2])
   ·subst h1;simp only [FQ,FO,iI,↓XX,XY,↓reduceIte,seval,h2,↓AB,XD,heldB,AL,XE];exact main _ (by simp [h2])
  ·simp only [FQ,FO,iI,↓XX,XY,↓reduceIte,seval,h1,↓AB,XD,heldB,AL,XE];exact main _ (by simp [h1])
mutual
def Tm.subst:Tm->Int->Int->Tm->Tm
 | .mk op m ks,n,d,u=>if op=1 then (if m=n then u.shift d 0 else if n<m then .mk 1 (BF (m - 1)) [] else .mk op m ks) else .mk op m (Tm.substL op 0 ks n d u)
def Tm.substL:Int->Nat->List Tm->Int->Int->Tm->List Tm
 | _,_,[],_,_,_=>[]
 | op,i,t::l,n,d,u=>t.subst (n+Ak op i) (d+Ak op i) u::Tm.substL op (i+1) l n d u
end
theorem GN (op n d:Int) (u:Tm):∀(l:List Tm) (i:Nat),(Tm.substL op i l n d u).length=l.length
 | [],_=>rfl
 | _::l,i=>by simp only [Tm.substL,AhU,GN op n d u l]
theorem LM (op n d:Int) (u:Tm):∀(l l':List Tm) (i:Nat),Tm.substL op i (l++l') n d u=Tm.substL op i l n d u++Tm.substL op (i+l.length) l' n d u
 | [],l',i=>by simp [Tm.substL]
 | t::l,l',i=>by simp only [List.cons_append,Tm.substL,LM op n d u l l',AhU];congr 3;omega
theorem aV (u:Tm) (hu:u.wk) (huw:u.wt<=1152921504606846976):∀(n:Nat) (t:Tm) (c d:Int),t.wt+u.wt+3<n->t.wk->-1000000000<=c->c+2 * t.wt<=4611686018427387904->0<=d->d+2 * t.wt<=4611686018427387904 ->
  Bq (SS dt n 69 [.fv t.enc,iv c,iv d,.fv u.enc] ⟨[],[]⟩) (t.subst c d u).enc:=by
 intro n
 induction n with
 | zero=>intro t c d h;omega
 | succ n ih =>
  intro t c d h hw hc0 hc hd0 hd;obtain ⟨op,m,ks⟩:=t;simp only [Tm.wt] at h hc hd;rw [Tm.wk] at hw;rw [c69,Am];have hlen:=Dl ks;by_cases h1:op=1
  ·subst h1;have hsh:=Da n u d 0 (by omega) hu (by omega) (by omega);rw [Tm.subst,if_pos rfl];generalize u.shift d 0=z at hsh ⊢;obtain ⟨uo,un,uk⟩:=u;obtain ⟨zo,zn,zk⟩:=z;rw [Am] at hsh ⊢;by_cases h2:m=c
   ·subst h2;simp only [↓Y3,↓XX,XY,↓reduceIte,seval,↓Av hsh];simp only [↓Y3,↓XX,XY,↓reduceIte,seval,Am];exact Bn rfl _
   ·by_cases h3:c<m
    ·simp only [↓Y3,↓XX,XY,↓reduceIte,seval,h2,h3,Am];exact Bn rfl _
    ·simp only [↓Y3,↓XX,XY,↓reduceIte,seval,h2,h3,Am];exact Bn rfl _
  ·have main :
    Bq (BC n (fun q l h=>HI l h (SS dt n) ⟨[],[]⟩ q) [iv c,iv d,.ptr (.own 72351744) 0,.ptr (.own 72351745) 0,.ptr (.own 72351746) 0,.ptr (.own 72358917) 0,iv 0]
     ⟨[(72351744,.row [iv op,iv m,.fv (.sl (ks.map Tm.enc))] false),(72351745,.row [iv u.op,iv u.n,.fv (.sl (u.kids.map Tm.enc))] false),(72351746,.row [iv 0,iv 0,.nils] false),(72358917,.row [iv op,iv m,.nils] false)],[]⟩)
      (Tm.mk op m (Tm.substL op 0 ks c d u)).enc:=by
    refine A7 (Q:=fun r=>Bq r _) (fun k V H=>∃pre rest,ks=pre++rest/\rest.length=k/\V=[iv c,iv d,.ptr (.own 72351744) 0,.ptr (.own 72351745) 0,.ptr (.own 72351746) 0,.ptr (.own 72358917) 0,iv pre.length] /\
     (
      (pre=[]/\H=⟨[(72351744,.row [iv op,iv m,.fv (.sl (ks.map Tm.enc))] false),(72351745,.row [iv u.op,iv u.n,.fv (.sl (u.kids.map Tm.enc))] false),(72351746,.row [iv 0,iv 0,.nils] false),(72358917,.row [iv op,iv m,.nils] false)],[]⟩) \/
      (
      pre≠[]/\H=⟨[(72351744,.row [iv op,iv m,.fv (.sl (ks.map Tm.enc))] false),(72351745,.row [iv u.op,iv u.n,.fv (.sl (u.kids.map Tm.enc))] false),(72351746,.row [iv 0,iv 0,.nils] false),
      (72358917,.row [iv op,iv m,.app (.own 72364048) ((Tm.substL op 0 pre c d u).map Tm.enc)] false),(72364048,.tok (Tm.substL op 0 pre c d u).length 3)],[]⟩)))
     ?_ n ks.length _ _ (by omega) ⟨[],ks,rfl,rfl,rfl,.inl ⟨rfl,rfl⟩⟩
    rintro k V H rec ⟨pre,rest,hk,hl,rfl,hH⟩ hrec;have hkl:ks.length=pre.length+rest.length:=by rw [hk];simp
    cases rest with
    | nil =>
     have hno:¬ ((pre.length:Int)<ks.length):=by rw [hkl];simp
     have hpre:ks=pre:=by simpa using hk
     rcases hH with ⟨rfl,rfl⟩ | ⟨_,rfl⟩
     ·subst hpre;simp only [H4,H5,HI,HU,S69,↓XX,XY,↓reduceIte,seval,Int.lt_irrefl,Tm.substL,Am];exact Bn rfl _
     ·subst hpre;simp only [H4,H5,HI,HU,S69,↓XX,XY,↓reduceIte,seval,Int.lt_irrefl,Am];exact Bn rfl _
    | cons t rest =>
     have hi:(pre.length:Int)<ks.length:=by rw [hkl];simp;omega
     have hg:=BZ hk;have htw:=B9 (t:=t) (l:=ks) (by rw [hk];simp);have hb:=Ft (n:=n) (by omega) op pre.length;have hble:=A0 op pre.length;have hs:=ih t (c+Ak op pre.length) (d+Ak op pre.length) (by omega) (Kn hw.2 (by rw [hk];simp)) (by omega) (by omega) (by omega) (by omega);have hx:Tm.substL op 0 (pre++[t]) c d u=Tm.substL op 0 pre c d u++[t.subst (c+Ak op pre.length) (d+Ak op pre.length) u]:=by rw [LM];simp [Tm.substL]
     have hwc:BF (c+Ak op pre.length)=c+Ak op pre.length:=by rw [Ax]<;>omega
     have hwd:BF (d+Ak op pre.length)=d+Ak op pre.length:=by rw [Ax]<;>omega
     have hwi:BF ((pre.length:Int)+1)=((pre++[t]).length:Int):=(Ax (by omega) (by omega)).trans (by simp);generalize hv:t.subst (c+Ak op pre.length) (d+Ak op pre.length) u=v at hs hx;obtain ⟨o,p,l⟩:=t;simp only [AhU] at hl;have hue:u.enc=.agg [.int .i64 u.op,.int .i64 u.n,.sl (u.kids.map Tm.enc)]:=by cases u;exact Am ..
     rw [Am,hue] at hs;rcases hH with ⟨hp0,rfl⟩ | ⟨hne,rfl⟩
     ·simp only [H4,H5,HI,HU,S69,↓XX,XY,↓reduceIte,seval,hi,↓Bp (AO hg) (Bi _ _ _),↓B7,↓Af hb,hwc,hwd,hwi,↓As hs,↓In,↓PP,↓AB,XD,heldB,AL,XE];refine hrec rest.length _ _ (by omega) ?_;refine ⟨pre++[.mk o p l],rest,by rw [hk];simp,rfl,rfl,.inr ⟨by simp,?_⟩⟩;rw [hx,hp0];rfl
     ·have hle:(Tm.substL op 0 pre c d u).length+1<=1000000:=by rw [GN];omega
      simp only [H4,H5,HI,HU,S69,↓XX,XY,↓reduceIte,seval,hi,↓Bp (AO hg) (Bi _ _ _),↓B7,↓Af hb,hwc,hwd,hwi,↓As hs,↓In,↓Lq hle,↓GZ,↓AB,XD,heldB,AL,XE];refine hrec rest.length _ _ (by omega) ?_;refine ⟨pre++[.mk o p l],rest,by rw [hk];simp,rfl,rfl,.inr ⟨by simp,?_⟩⟩;rw [hx];simp only [List.length_append,AhU,List.length_nil]
   rw [Tm.subst,if_neg h1];obtain ⟨uo,un,uk⟩:=u;rw [Am (op:=uo)];simp only [↓Y3,↓XX,XY,↓reduceIte,seval,h1,↓AB,XD,heldB,AL,XE];exact main
theorem Mg {n:Nat} (t u:Tm) (c:Int) (hu:u.wk) (huw:u.wt<=1152921504606846976) (h:t.wt+u.wt+4<n) (hw:t.wk) (hww:t.wt<=2305843009213693951) (h0:-1000000000<=c) (hc:c+2 * t.wt<=4611686018427387904) :
  Bq (SS dt n 32 [.fv t.enc,iv c,.fv u.enc] ⟨[],[]⟩) (t.subst c 0 u).enc:=by
 obtain ⟨n,rfl⟩:=psc n (by omega);rw [c32];have hs:=aV u hu huw n t c 0 (by omega) hw h0 hc (by omega) (by omega);generalize t.subst c 0 u=v at hs ⊢;obtain ⟨o1,n1,k1⟩:=t;obtain ⟨o2,n2,k2⟩:=u;obtain ⟨o3,n3,k3⟩:=v;simp only [Am] at hs ⊢;simp only [S32,↓XX,XY,↓reduceIte,seval,↓As hs];exact Bn rfl _
mutual
def Tm.free:Tm->Int->Bool
 | .mk op m ks,c=>if op=1 then decide (m=c) else Tm.freeL op 0 ks c
def Tm.freeL:Int->Nat->List Tm->Int->Bool
 | _,_,[],_=>false
 | op,i,t::l,c=>t.free (c+Ak op i) || Tm.freeL op (i+1) l c
end
theorem UF:∀(n:Nat) (t:Tm) (c:Int),t.wt+1<n->t.wt<=1152921504606846976->-1000000000<=c->c+2 * t.wt<=461168601842738->Bq (SS dt n 88 [.fv t.enc,iv c] ⟨[],[]⟩) (.bool (t.free c)):=by
 intro n
 induction n with
 | zero=>intro t c h;omega
 | succ n ih =>
  intro t c h hw hc0 hc;obtain ⟨op,m,ks⟩:=t;simp only [Tm.wt] at h hw hc;rw [c88,Am];have hlen:=Dl ks;by_cases h1:op=1
  ·subst h1;rw [Tm.free,if_pos rfl];simp only [Kj,sR,↓XX,XY,↓reduceIte,seval];exact Au _ _
  ·rw [Tm.free,if_neg h1];simp only [Kj,sR,↓XX,XY,↓reduceIte,seval,h1];refine A7 (Q:=fun r=>Bq r _) (fun k V H=>∃pre rest,ks=pre++rest/\rest.length=k/\V=[iv c,.ptr (.own 92274688) 0,iv pre.length]/\H=⟨[(92274688,.row [iv op,iv m,.fv (.sl (ks.map Tm.enc))] false)],[]⟩/\Tm.freeL op pre.length rest c=Tm.freeL op 0 ks c)
    ?_ n ks.length _ _ (by omega) ⟨[],ks,rfl,rfl,rfl,rfl,rfl⟩
   rintro k V H rec ⟨pre,rest,hk,hl,rfl,rfl,ht⟩ hrec;have hkl:ks.length=pre.length+rest.length:=by rw [hk];simp
   cases rest with
   | nil =>
    have hno:¬ ((pre.length:Int)<ks.length):=by rw [hkl];simp
    rw [<- ht];simp only [Kj,Ps,sR,↓XX,XY,↓reduceIte,seval,hno,Tm.freeL];exact Au _ _
   | cons t rest =>
    have hi:(pre.length:Int)<ks.length:=by rw [hkl];simp;omega
    have hg:=BZ hk;have htw:=B9 (t:=t) (l:=ks) (by rw [hk];simp);have hb:=Ft (n:=n) (by omega) op pre.length;have hble:=A0 op pre.length;have hs:=ih t (c+Ak op pre.length) (by omega) (by omega) (by omega) (by omega);have hwc:BF (c+Ak op pre.length)=c+Ak op pre.length:=by rw [Ax]<;>omega
    have hwi:BF ((pre.length:Int)+1)=((pre++[t]).length:Int):=(Ax (by omega) (by omega)).trans (by simp);simp only [Tm.freeL] at ht;generalize t.free (c+Ak op pre.length)=v at hs ht;obtain ⟨o,p,l⟩:=t;simp only [AhU] at hl;rw [Am] at hs;cases v
    ·simp only [Kj,Ps,sR,↓XX,XY,↓reduceIte,seval,hi,↓Bp (AO hg) (Bi _ _ _),↓B7,↓Af hb,hwc,hwi,↓Af hs];refine hrec rest.length _ _ (by omega) ?_;exact ⟨pre++[.mk o p l],rest,by rw [hk];simp,rfl,rfl,rfl,by simpa using ht⟩
    ·rw [<- ht];simp only [Kj,Ps,sR,↓XX,XY,↓reduceIte,seval,hi,↓Bp (AO hg) (Bi _ _ _),↓B7,↓Af hb,hwc,hwi,↓Af hs,Bool.true_or];exact Au _ _
mutual
def Tm.same:Tm->Tm->Bool
 | .mk o n l,.mk o' n' l'=>decide (o=o') && (decide (n=n') && (decide (l.length=l'.length) && Tm.sameL l l'))
def Tm.sameL:List Tm->List Tm->Bool
 | a::l,b::l'=>a.same b && Tm.sameL l l'
 | _,_=>true
end
mutual
theorem IY:∀a b:Tm,a.same b=true ↔ a=b
 | .mk o n l,.mk o' n' l'=>by
  simp only [Tm.same,Bool.and_eq_true,decide_eq_true_eq,Tm.mk.injEq];constructor
  ·rintro ⟨rfl,rfl,h1,h2⟩;exact ⟨rfl,rfl,(sameL_eq l l' h1).1 h2⟩
  ·rintro ⟨rfl,rfl,rfl⟩;exact ⟨rfl,rfl,rfl,(sameL_eq l l rfl).2 rfl⟩
theorem sameL_eq:∀l l':List Tm,l.length=l'.length->(Tm.sameL l l'=true ↔ l=l')
 | [],[],_=>by simp [Tm.sameL]
 | a::l,b::l',h=>by
  simp only [Tm.sameL,Bool.and_eq_true,List.cons.injEq,IY a b,sameL_eq l l' (by simpa using h)]
end
theorem Jf:∀(n:Nat) (a b:Tm),a.wt+1<n->a.wt<=1152921504606846976->Bq (SS dt n 23 [.fv a.enc,.fv b.enc] ⟨[],[]⟩) (.bool (a.same b)):=by
 intro n
 induction n with
 | zero=>intro a b h;omega
 | succ n ih =>
  intro a b h hw;obtain ⟨op,m,ks⟩:=a;obtain ⟨op',m',ks'⟩:=b;simp only [Tm.wt] at h hw;rw [c23,Am,Am];have hlen:=Dl ks;rw [Tm.same];by_cases h1:op=op'
  ·by_cases h2:m=m'
   ·by_cases h3:ks.length=ks'.length
    ·have h3':(ks.length:Int)=ks'.length:=by omega
     subst h1 h2;simp only [FY,FX,lR,↓XX,XY,↓reduceIte,seval,h3,h3',Tm.same];refine A7 (Q:=fun r=>Bq r _) (fun k V H=>∃pre rest pre' rest',ks=pre++rest/\ks'=pre'++rest'/\pre.length=pre'.length/\rest.length=k/\V=[.ptr (.own 24117248) 0,.ptr (.own 24117249) 0,iv pre.length] /\
      H=⟨[(24117248,.row [iv op,iv m,.fv (.sl (ks.map Tm.enc))] false),(24117249,.row [iv op,iv m,.fv (.sl (ks'.map Tm.enc))] false)],[]⟩/\Tm.sameL rest rest'=Tm.sameL ks ks')
      ?_ n ks.length _ _ (by omega) ⟨[],ks,[],ks',rfl,rfl,rfl,rfl,rfl,rfl,rfl⟩
     rintro k V H rec ⟨pre,rest,pre',rest',hk,hk',hpl,hl,rfl,rfl,ht⟩ hrec;have hkl:ks.length=pre.length+rest.length:=by rw [hk];simp
     have hkl':ks'.length=pre'.length+rest'.length:=by rw [hk'];simp
     cases rest with
     | nil =>
      have hno:¬ ((pre.length:Int)<ks.length):=by rw [hkl];simp
      rw [<- ht];simp only [FY,Lx,FX,lR,↓XX,XY,↓reduceIte,seval,hno,Tm.sameL];exact Au _ _
     | cons t rest =>
      cases rest' with
      | nil=>simp at hkl hkl';omega
      | cons t' rest' =>
       have hi:(pre.length:Int)<ks.length:=by rw [hkl];simp;omega
       have hg:=BZ hk;have hg':=BZ hk';rw [<- hpl] at hg';have htw:=B9 (t:=t) (l:=ks) (by rw [hk];simp);have hs:=ih t t' (by omega) (by omega);have hwi:BF ((pre.length:Int)+1)=((pre++[t]).length:Int):=(Ax (by omega) (by omega)).trans (by simp);simp only [Tm.sameL] at ht;generalize t.same t'=v at hs ht;obtain ⟨o,p,l⟩:=t;obtain ⟨o',p',l'⟩:=t';simp only [AhU] at hl;rw [Am,Am] at hs;cases v
       ·rw [<- ht];simp only [FY,Lx,FX,lR,↓XX,XY,↓reduceIte,seval,hi,↓Bp (AO hg) (Bi _ _ _),↓Bp (AO hg') (Bi _ _ _),↓B7,↓Af hs,Bool.false_and];exact Au _ _
       ·simp only [FY,Lx,FX,lR,↓XX,XY,↓reduceIte,seval,hi,↓Bp (AO hg) (Bi _ _ _),↓Bp (AO hg') (Bi _ _ _),↓B7,hwi,↓Af hs];refine hrec rest.length _ _ (by omega) ?_;exact ⟨pre++[.mk o p l],rest,pre'++[.mk o' p' l'],rest',by rw [hk];simp,by rw [hk'];simp,by simp [hpl],rfl,rfl,rfl,by simpa using ht⟩
    ·have h3':¬ (ks.length:Int)=ks'.length:=by omega
     simp only [FY,FX,lR,↓XX,XY,↓reduceIte,seval,h1,h2,h3,h3'];exact Au _ _
   ·simp only [FY,FX,lR,↓XX,XY,↓reduceIte,seval,h1,h2];exact Au _ _
  ·simp only [FY,FX,lR,↓XX,XY,↓reduceIte,seval,h1];exact Au _ _
section
variable {β:Type} {E:Env}
def vL (cs:List IV) (k:List FV->Option β):Option β:=(Ds cs).bind k
theorem jJ {t e:TypeId} {a b:Nat} {ei:TI} {z:List IV} (hT:E.T t=some ⟨a,b,.slice e,z⟩) (he:E.T e=some ei) (hs:ei.size=1) (hz:∃x,ei.zero=[x]) (r s:Nat) (own:List (Nat×Blk)) (ext:List Blk)
  (hc:∀cells ro,Ap r own=some (.row cells ro)->cells.length<=100) (hk:∀cells ro,Ap r own=some (.row cells ro)->∃fc,Ds cells=some fc) (k:KT β) :
  Ay (Al E t 1 [(0,.ptr (.own r) 0)]) s ⟨own,ext⟩ k=E9 own r fun bl=>DP bl fun cells=>vL cells fun fc=>Bb own r (.row cells true) fun own=>k (.clip [.fp fc 0]) ⟨own,ext⟩ [.own r] [.own r]:=by
 obtain ⟨x,hx⟩:=hz;have hm:Al E t 1 [(0,.ptr (.own r) 0)]=(frzL (65534+1+1) [.ptr (.own r) 0]).bind fun (vs,u)=>.ret { eff:={ val:=.clip (B8 ei.size 1 vs),upd:=u } }:=by
  have h1:¬ (ei.size=0\/1 * ei.size > 65536):=by rw [hs];omega
  have h2:CN (fun j=>some (j * ei.size,ei.size)) (Nw 1 ei.zero) [(0,.ptr (.own r) 0)]=some [.ptr (.own r) 0]:=by rw [hx,hs];rfl
  simp only [Al,hT,he,if_neg h1,h2]
 rw [hm,BB];unfold Ay;cases hl:Ap r own with
 | none =>
  have:((frzL (65534+1+1) [.ptr (.own r) 0]).bind fun (vs,u)=>Rd.ret ({ eff:={ val:=.clip (B8 ei.size 1 vs),upd:=u } }:Made)).runLog ⟨own,ext⟩ []=none:=by simp only [frzL,C2,Rd.bind,Rd.runLog,Hp.get,hl]
  rw [this];rfl
 | some bl =>
  cases bl with
  | row cells ro =>
   obtain ⟨fc,hfc⟩:=hk cells ro hl;have hlen:=hc cells ro hl;have h3:frzL 65534 cells=.ret (fc,[]):=VC cells 65534 (by omega) hfc
   have:((frzL (65534+1+1) [.ptr (.own r) 0]).bind fun (vs,u)=>Rd.ret ({ eff:={ val:=.clip (B8 ei.size 1 vs),upd:=u } }:Made)).runLog ⟨own,ext⟩ [] =
     some ({ eff:={ val:=.clip (B8 ei.size 1 [.fp fc 0]),upd:=[(.own r,.row cells true)] } },[.own r]):=by
    simp only [frzL,C2,Rd.bind,Rd.runLog,Hp.get,hl,h3,List.append_nil]
   rw [this];simp only [Option.bind_some,DP,vL,hfc,hs]
   show (YZ (.own r) fun q=>Do q ⟨own,ext⟩ fun _=>Yf (.row cells true) fun b=>FK q b ⟨own,ext⟩ fun h=>Hi none s h fun h=>fV 3 (.clip [.fp fc 0]) fun v=>k v h [.own r] ([.own r]++[]))=_
   simp only [ML,Cw,Ck,Hi,FK,Do];rw [BB,hl];rfl
  | tok n sz =>
   have:((frzL (65534+1+1) [.ptr (.own r) 0]).bind fun (vs,u)=>Rd.ret ({ eff:={ val:=.clip (B8 ei.size 1 vs),upd:=u } }:Made)).runLog ⟨own,ext⟩ []=none:=by simp only [frzL,C2,Rd.bind,Rd.runLog,Hp.get,hl]
   rw [this];rfl
  | map es =>
   have:((frzL (65534+1+1) [.ptr (.own r) 0]).bind fun (vs,u)=>Rd.ret ({ eff:={ val:=.clip (B8 ei.size 1 vs),upd:=u } }:Made)).runLog ⟨own,ext⟩ []=none:=by simp only [frzL,C2,Rd.bind,Rd.runLog,Hp.get,hl]
   rw [this];rfl
theorem zL {t e:TypeId} {a b:Nat} {ei:TI} {z:List IV} (hT:E.T t=some ⟨a,b,.slice e,z⟩) (he:E.T e=some ei) (hs:ei.size=1) (hz:∃x,ei.zero=[x]) {r:Nat} {own own':List (Nat×Blk)} {cells:List IV} {ro:Bool} {fc:List FV}
  (hl:Ap r own=some (.row cells ro)) (hf:Ds cells=some fc) (hn:cells.length<=100) (ho:AP r (.row cells true) own=own') (s:Nat) (ext:List Blk) (k:KT β) :
  Ay (Al E t 1 [(0,.ptr (.own r) 0)]) s ⟨own,ext⟩ k=k (.clip [.fp fc 0]) ⟨own',ext⟩ [.own r] [.own r]:=by
 have h1:∀cells' ro',Ap r own=some (.row cells' ro')->cells'=cells:=fun c r h=>by rw [hl] at h;cases h;rfl
 rw [jJ hT he hs hz r s own ext (fun c r h=>by rw [h1 c r h];exact hn) (fun c r h=>by rw [h1 c r h];exact ⟨fc,hf⟩),BB,hl];simp only [Option.bind_some,DP,vL,hf,BM,ho]
def By (r:Option (IV×Hp)) (w:FV) (ext:List Blk):Prop:=∃v own,r=some (v,⟨own,ext⟩) /\
 ∃u lg,∀(e:Option (IV×Hp)) (K:FV->List (Ref×Blk)->List Ref->Option (IV×Hp)),Dx 12 v ⟨own,ext⟩ [] e K=K w u lg
theorem AJ (w:FV) (own:List (Nat×Blk)) (ext:List Blk):By (some (.fv w,⟨own,ext⟩)) w ext:=⟨_,own,rfl,[],[],fun _ _=>rfl⟩
theorem EN {v:IV} {w:FV} (hz:Bc v=some w) (own:List (Nat×Blk)) (ext:List Blk):By (some (v,⟨own,ext⟩)) w ext:=⟨_,own,rfl,[],[],fun e K=>GY _ _ e K hz⟩
theorem Ke:∀l:List FV,CT (l.map .fv) []=[]
 | []=>rfl
 | v::l=>by
  show Ri (.fv v) (CT (l.map .fv) [])=[]
  rw [Ke l];rfl
theorem Aab (n j:Nat) (t:List Ref) (s:Nat) (rest:List Blk):Ni (n+1) (.ext j::t) s rest=cond (Nat.ble (Nat.succ j) s) (Ni n t s rest) (cond (Nat.beq j s) (goR (Ni n) t s rest) false):=rfl
theorem AaV (n s:Nat):Ni (n+1) [] s []=true:=rfl
theorem OP (st:List FV):Ni 400 [.ext 0] 0 [.row (st.map .fv) false]=true:=by
 rw [show (400:Nat)=398+1+1 from rfl,Aab]
 show goR (Ni (398+1)) [] 0 [.row (st.map .fv) false]=true
 show Ni (398+1) ([]++ET (.row (st.map .fv) false)) 1 []=true
 rw [show ET (.row (st.map .fv) false)=CT (st.map .fv) [] from rfl,Ke]
 exact AaV 398 1
theorem Pp (st:List FV):X6 1 [.row (st.map .fv) false]=true:=by
 show cond (xM 1 (ET (.row (st.map .fv) false))) true false=true
 rw [show ET (.row (st.map .fv) false)=CT (st.map .fv) [] from rfl,Ke]
 rfl
theorem gb3 (a b c:FV):Ni 400 [.ext 0] 0 [.row [.fv a,.fv b,.fv c] false]=true:=OP [a,b,c]
theorem ob3 (a b c:FV):X6 1 [.row [.fv a,.fv b,.fv c] false]=true:=Pp [a,b,c]
theorem gb2 (a b:FV):Ni 400 [.ext 0] 0 [.row [.fv a,.fv b] false]=true:=OP [a,b]
theorem ob2 (a b:FV):X6 1 [.row [.fv a,.fv b] false]=true:=Pp [a,b]
theorem OW {r1:Ref} {rs1:List Ref} {ih:Ah} {f:FuncId} {vs:List IV} {w:FV} {ext ext':List Blk} (hr:By (ih f vs ⟨[],ext⟩) w ext') (hg:Ni 400 (r1::rs1) 0 ext=true) (hl:ext'.length=ext.length) (ho:X6 ext.length ext'=true)
  (own:List (Nat×Blk)) (r0:Option (IV×Hp)) (u:List (Ref×Blk)) (lg:List Ref) (e:Option (IV×Hp)) (k:KT (IV×Hp)) :
  QA (
     r1::rs1) r0 ⟨own,ext⟩ u lg e (fun rs=>match rs with
   | []=>none
   | r::rs=>(match (⟨own,ext⟩:Hp) with
    | ⟨own,ext⟩=>cond (Ni 400 (r::rs) 0 ext) (match ih f vs ⟨[],ext⟩ with
     | none=>none
     | some p=>match p with
      | (v,h')=>match h' with
       | ⟨own',ext'⟩=>cond (and (Nat.beq ext'.length ext.length) (X6 ext.length ext'))
        (Dx 12 v ⟨own',ext'⟩ [] e fun w _ _=>KD u ⟨own,ext'⟩ fun h2=>k (.fv w) h2 ((C1 ext.length).reverse++lg) (BA u++C1 ext.length)) none)
     e)) k=KD u ⟨own,ext'⟩ fun h2=>k (.fv w) h2 ((C1 ext.length).reverse++lg) (BA u++C1 ext.length):=by
 obtain ⟨v,own',e1,u',lg',hz⟩:=hr;simp only [QA,hg,e1,hl,ho];rw [show (Nat.beq ext.length ext.length && true)=true by rw [Bool.and_true];exact Nat.beq_refl _,cond_true,hz]
 rfl
structure OneX (ext ext':List Blk):Prop where
 g:Ni 400 [.ext 0] 0 ext=true
 l:ext.length=1
 l':ext'.length=1
 o:X6 1 ext'=true
theorem CB (a b c a' b' c':FV):OneX [.row [.fv a,.fv b,.fv c] false] [.row [.fv a',.fv b',.fv c'] false]:=⟨gb3 ..,rfl,rfl,ob3 ..⟩
theorem Abz (a b a' b':FV):OneX [.row [.fv a,.fv b] false] [.row [.fv a',.fv b'] false]:=⟨gb2 ..,rfl,rfl,ob2 ..⟩
theorem L9 (x:Nat):∀(args:List IV) {vs:List FV} (h:Hp) (lg:List Ref) (e:Option β) (k:List IV->List Ref->List (Ref×Blk)->List Ref->Option β) (ks:List Bool),(∀b∈ks,b=false)->Bv args=some vs ->
  Ra args ks h lg e k=k (vs.map .fv) [] [] lg
 | [],vs,h,lg,e,k,ks,_,hz=>by cases hz;rfl
 | v::l,vs,h,lg,e,k,[],_,hz=>bJ (v::l) h lg e k hz
 | v::l,vs,h,lg,e,k,b::ks,hk,hz=>by
  have hb:=hk b List.mem_cons_self;subst hb;simp only [Bv] at hz;cases h1:Bc v with
  | none=>rw [h1] at hz;cases hz
  | some x' =>
   rw [h1] at hz;cases h2:Bv l with
   | none=>rw [h2] at hz;cases hz
   | some ys =>rw [h2] at hz;cases hz;rw [PC,GY h lg e _ h1,L9 x l h lg e _ ks (fun c hc=>hk c (List.mem_cons_of_mem _ hc)) h2];rfl
theorem Zw {ks:List Bool} (hks:∀b∈ks,b=false) {ih:Ah} {f:FuncId} {args:List IV} {vs:List FV} {w:FV} {ext ext':List Blk} (hz:Bv args=some vs) (X:OneX ext ext') (hr:By (ih f (.ptr (.ext 0) 0::vs.map .fv) ⟨[],ext⟩) w ext')
  (own:List (Nat×Blk)) (k:KT (IV×Hp)):AY (true::ks) false false ih f (.ptr (.ext 0) 0::args) ⟨own,ext⟩ k=k (.fv w) ⟨own,ext'⟩ [.ext 0] [.ext 0]:=by
 rw [J2,Su,Pr,L9 0 args _ _ _ _ ks hks hz]
 have:=OW (r1:=.ext 0) (rs1:=[]) hr X.g (by rw [X.l,X.l']) (by rw [X.l];exact X.o) own (ih f (.ptr (.ext 0) 0::vs.map .fv) ⟨[],[]⟩) [] [] (D9 (true::ks) false false ih f (.ptr (.ext 0) 0::args) ⟨own,ext⟩ k) k
 refine this.trans ?_;rw [X.l];rfl
theorem DW {ih:Ah} {f:FuncId} {w:FV} {ext ext':List Blk} (hr:By (ih f [.ptr (.ext 0) 0] ⟨[],ext⟩) w ext') (X:OneX ext ext') (own:List (Nat×Blk)) (k:KT (IV×Hp)) :
  AY [true] false false ih f [.ptr (.ext 0) 0] ⟨own,ext⟩ k=k (.fv w) ⟨own,ext'⟩ [.ext 0] [.ext 0]:=Zw (ks:=[]) (by simp) (vs:=[]) rfl X hr own k
theorem IL {ih:Ah} {f:FuncId} {a b:IV} {x y w:FV} {ext ext':List Blk} (hr:By (ih f [.ptr (.ext 0) 0,.fv x,.fv y] ⟨[],ext⟩) w ext') (X:OneX ext ext') (ha:Bc a=some x) (hb:Bc b=some y) (own:List (Nat×Blk))
  (k:KT (IV×Hp)):AY [true,false,false] false false ih f [.ptr (.ext 0) 0,a,b] ⟨own,ext⟩ k=k (.fv w) ⟨own,ext'⟩ [.ext 0] [.ext 0]:=Zw (ks:=[false,false]) (by simp) (SZ ha hb) X hr own k
theorem bV {ih:Ah} {f:FuncId} {a b c:IV} {x y z w:FV} {ext ext':List Blk} (hr:By (ih f [.ptr (.ext 0) 0,.fv x,.fv y,.fv z] ⟨[],ext⟩) w ext') (X:OneX ext ext') (ha:Bc a=some x) (hb:Bc b=some y) (hc:Bc c=some z)
  (own:List (Nat×Blk)) (k:KT (IV×Hp)):AY [true,false,false,false] false false ih f [.ptr (.ext 0) 0,a,b,c] ⟨own,ext⟩ k=k (.fv w) ⟨own,ext'⟩ [.ext 0] [.ext 0] :=
 Zw (ks:=[false,false,false]) (by simp) (Ye ha hb hc) X hr own k
theorem OY {ih:Ah} {f:FuncId} {s:Nat} {own:List (Nat×Blk)} {cells:List IV} {ro:Bool} {fc:List FV} {w:FV} {ext ext':List Blk} (hr:By (ih f [.ptr (.ext 0) 0,.fv (.fp fc 0)] ⟨[],ext⟩) w ext') (X:OneX ext ext')
  (hl:Ap s own=some (.row cells ro)) (hz:Ds cells=some fc) (hn:cells.length<=300) (k:KT (IV×Hp)) :
  AY [true,false] false false ih f [.ptr (.ext 0) 0,.ptr (.own s) 0] ⟨own,ext⟩ k=k (.fv w) ⟨AP s (.row cells true) own,ext'⟩ [.ext 0,.own s] [.own s,.ext 0]:=by
 rw [J2,Su,Pr,PC,TS,Jh,BB,hl];simp only [Option.bind_some,G3];rw [Bo,decide_eq_true hn,fY,Xa 10 _ _ _ cells _ hz,wV]
 have:=OW (r1:=.ext 0) (rs1:=[]) hr X.g (by rw [X.l,X.l']) (by rw [X.l];exact X.o) own (ih f [.ptr (.ext 0) 0,.fv (.fp fc 0)] ⟨[],[]⟩) [(.own s,.row cells true)] [.own s] (D9 [true,false] false false ih f [.ptr (.ext 0) 0,.ptr (.own s) 0] ⟨own,ext⟩ k) k
 refine this.trans ?_;rw [X.l]
 show (E9 own s fun _=>Bb own s (.row cells true) fun own=>k (.fv w) ⟨own,ext'⟩ [.ext 0,.own s] [.own s,.ext 0])=_
 rw [BB,hl,Option.bind_some,BM]
end
inductive RV where
 | mk (op n:Int) (k env:List RV) (b:Tm)
def Tm.z:Tm:=.mk 0 0 []
def RV.enc:RV->FV
 | .mk op n k env (.mk bo bn bk)=>.fp [.int .i64 op,.int .i64 n,.sl (encL k),.sl (encL env),.int .i64 bo,.int .i64 bn,.sl (bk.map Tm.enc)] 0
where
 encL:List RV->List FV
  | []=>[]
  | v::l=>v.enc::encL l
theorem eZ (l:List RV):RV.enc.encL l=l.map RV.enc:=by
 induction l with
 | nil=>rfl
 | cons t l ih=>simp [RV.enc.encL,ih]
def HQ (op n:Int) (k env:List RV) (bo bn:Int) (bk:List Tm):(RV.mk op n k env (.mk bo bn bk)).enc =
  .fp [.int .i64 op,.int .i64 n,.sl (k.map RV.enc),.sl (env.map RV.enc),.int .i64 bo,.int .i64 bn,.sl (bk.map Tm.enc)] 0:=by simp only [RV.enc,eZ]
def RV.op:RV->Int
 | .mk op _ _ _ _=>op
def RV.n:RV->Int
 | .mk _ n _ _ _=>n
def RV.k:RV->List RV
 | .mk _ _ k _ _=>k
def RV.env:RV->List RV
 | .mk _ _ _ env _=>env
def RV.b:RV->Tm
 | .mk _ _ _ _ b=>b
def RV.var (n:Int):RV:=.mk 1 n [] [] .z
def RV.clo (env:List RV) (b:Tm):RV:=.mk 0 0 [] env b
def RV.zero:RV:=.mk 11 0 [] [] .z
def RV.node (op n:Int) (k:List RV):RV:=.mk op n k [] .z
def Lv (v:RV):v.enc=.fp [.int .i64 v.op,.int .i64 v.n,.sl (v.k.map RV.enc),.sl (v.env.map RV.enc),.int .i64 v.b.op,.int .i64 v.b.n,.sl (v.b.kids.map Tm.enc)] 0:=by obtain ⟨op,n,k,env,⟨bo,bn,bk⟩⟩:=v;exact HQ ..
def Tv (t:Tm):Tm.enc t=.agg [.int .i64 t.op,.int .i64 t.n,.sl (t.kids.map Tm.enc)]:=by cases t;exact Am ..
def LP (v:RV):v.enc.cells.length=1:=by obtain ⟨op,n,k,env,⟨bo,bn,bk⟩⟩:=v;rfl
def RH (v:RV):v.enc.cells.all FV.one=true:=by obtain ⟨op,n,k,env,⟨bo,bn,bk⟩⟩:=v;rfl
def XB (v:RV):v.enc.cells=[v.enc]:=by obtain ⟨op,n,k,env,⟨bo,bn,bk⟩⟩:=v;rfl
def xI:EE.T 110=some ⟨1,24,.slice 91,[.nils]⟩:=by kernel_rfl
def xH:EE.T 91=some ⟨1,8,.ptr,[.fv .nilp]⟩:=by kernel_rfl
def sV:SliceT EE 110 1:=⟨_,_,_,_,_,xI,xH,rfl,by decide,by decide⟩
theorem Iu (l:List RV):BJ 1 (l.map RV.enc)=true:=by
 cases l with
 | nil=>rfl
 | cons a l=>simp only [AhW,BJ,LP,beq_self_eq_true]
def oS (s:Nat) (h:Hp) (k:KT (IV×Hp)):Ay (Al EE 110 0 []) s h k=k (.clip []) h [] [] :=Cv xI xH (by decide) (cells:=[]) rfl k
def Q4 (a:RV) (s:Nat) (h:Hp) (k:KT (IV×Hp)):Ay (Al EE 110 1 [(0,.fv a.enc)]) s h k=k (.clip [a.enc]) h [] []:=by obtain ⟨op,n,kk,env,⟨bo,bn,bk⟩⟩:=a;rw [HQ];exact Cv xI xH (by decide) (cells:=[.fp [.int .i64 op,.int .i64 n,.sl (kk.map RV.enc),.sl (env.map RV.enc),.int .i64 bo,.int .i64 bn,.sl (bk.map Tm.enc)] 0]) rfl k
def yE (a b:RV) (s:Nat) (h:Hp) (k:KT (IV×Hp)):Ay (Al EE 110 2 [(0,.fv a.enc),(1,.fv b.enc)]) s h k=k (.clip [a.enc,b.enc]) h [] []:=by obtain ⟨op,n,kk,env,⟨bo,bn,bk⟩⟩:=a;obtain ⟨op',n',kk',env',⟨bo',bn',bk'⟩⟩:=b;rw [HQ,HQ];exact Cv xI xH (by decide) (cells:=[.fp [.int .i64 op,.int .i64 n,.sl (kk.map RV.enc),.sl (env.map RV.enc),.int .i64 bo,.int .i64 bn,.sl (bk.map Tm.enc)] 0,.fp [.int .i64 op',.int .i64 n',.sl (kk'.map RV.enc),.sl (env'.map RV.enc),.int .i64 bo',.int .i64 bn',.sl (bk'.map Tm.enc)] 0]) rfl k
def yU (a b c d:RV) (s:Nat) (h:Hp) (k:KT (IV×Hp)):Ay (Al EE 110 4 [(0,.fv a.enc),(1,.fv b.enc),(2,.fv c.enc),(3,.fv d.enc)]) s h k =
  k (.clip [a.enc,b.enc,c.enc,d.enc]) h [] []:=by
 have key:∀x:RV,∃l,x.enc=.fp l 0:=fun x=>⟨_,Lv x⟩;obtain ⟨la,ha⟩:=key a;obtain ⟨lb,hb⟩:=key b;obtain ⟨lc,hc⟩:=key c;obtain ⟨ld,hd⟩:=key d;rw [ha,hb,hc,hd];exact Cv xI xH (by decide) (cells:=[.fp la 0,.fp lb 0,.fp lc 0,.fp ld 0]) rfl k
def fF (e:RV) (s:Nat) (own:List (Nat×Blk)) (ext:List Blk) (k:KT (IV×Hp)) :
  Ay (AS EE s false .append [110,110] [.nils,.clip [e.enc]]) s ⟨own,ext⟩ k=CO own s (Bb own s (.tok 1 1) fun own=>k (.app (.own s) [e.enc]) ⟨own,ext⟩ [] [.own s]) :=
 Ha sV (.clip _) (Iu [e]) rfl (by simp) (.inl rfl) s own ext k
def SM {es:List RV} (hb:es.length+1<=1000000) (e:RV) (r s:Nat) (own:List (Nat×Blk)) (ext:List Blk) (k:KT (IV×Hp)) :
  Ay (AS EE s false .append [110,110] [.app (.own r) (es.map RV.enc),.clip [e.enc]]) s ⟨own,ext⟩ k =
   E9 own r fun b=>ZS b es.length 1 (Bb own r (.tok (es.length+1) 1) fun own=>k (.app (.own r) ((es++[e]).map RV.enc)) ⟨own,ext⟩ [.own r] [.own r]):=by
 rw [NQ sV (.clip [e.enc]) (Iu [e]) (Iu es) (by simp [RH]) (by simpa using hb) r s own ext k];simp only [List.length_map,List.map_append,AhW,AhV,AhU,List.length_nil,Nat.zero_add]
theorem O6 {n:Nat} (hn:0<n) (env vs:List RV) (hv:vs≠[]) (hb:env.length+vs.length<=1000000):Bq (SS dt n 86 [.fv (.sl (env.map RV.enc)),.fv (.sl (vs.map RV.enc))] ⟨[],[]⟩) (.sl ((env++vs).map RV.enc)):=by
 obtain ⟨n,rfl⟩:=psc n (by omega);rw [c86];have hvs:(vs.map RV.enc).isEmpty=false:=by cases vs with
  | nil=>exact absurd rfl hv
  | cons _ _=>rfl
 cases env with
 | nil =>simp only [S86,↓XX,XY,↓reduceIte,seval,↓oS,↓dJ sV (.sl []) (.inr rfl),↓Ha sV (.sl (vs.map RV.enc)) (Iu vs) hvs (by simp;simp at hb;omega) (.inr rfl),List.nil_append];exact Bn rfl _
 | cons a env =>simp only [S86,↓XX,XY,↓reduceIte,seval,↓oS];have h1:((a::env).map RV.enc).isEmpty=false:=rfl;have h0:=fun {β:Type}=>Ha (β:=β) sV (.sl ((a::env).map RV.enc)) (Iu (a::env)) h1 (by simp only [List.length_map];omega) (.inr rfl:IV.clip []=.nils\/IV.clip []=.clip []);have h2:=fun {β:Type}=>NQ (β:=β) sV (.sl (vs.map RV.enc)) (Iu vs) (Iu (a::env)) (by simp [RH]) (by simp only [List.length_map];omega);simp only [AhW] at h0 h2;simp only [↓XX,XY,↓reduceIte,seval,↓h0,↓h2,↓GZ,List.map_append,List.cons_append];exact Bn rfl _
def fK {n:Nat} (hn:0<n) (s nd:Int) (h1:s<=1000000) (h0:0<=s):By (SS dt n 116 [.ptr (.ext 0) 0] ⟨[],[.row [iv s,iv nd,iv 0] false]⟩) (.bool (decide (s+1<=1000)))
  [.row [iv (s+1),iv nd,iv (if s+1<=1000 then 0 else 17)] false]:=by
 obtain ⟨n,rfl⟩:=psc n (by omega);rw [AcJ];have hw:BF (s+1)=s+1:=by rw [Ax]<;>omega
 by_cases h:s+1<=1000
 ·have h':¬ 1000<s+1:=by omega
  simp only [jE,↓XX,XY,↓reduceIte,seval,hw,h,h'];exact AJ _ _ _
 ·have h':1000<s+1:=by omega
  simp only [jE,↓XX,XY,↓reduceIte,seval,hw,h,h'];exact AJ _ _ _
def Be (ev:Int->Int->Tm->Option (RV×Int×Int)) (op:Int) (env:List RV):Nat->List Tm->Int->Int->Option (List RV×Int×Int)
 | _,[],s,e=>some ([],s,e)
 | i,t::l,s,e=>if 0<Ak op i then (Be ev op env (i+1) l s e).map fun (vs,s,e)=>(.clo env t::vs,s,e) else
  match ev s e t with
  | none=>none
  | some (v,s,e)=>(Be ev op env (i+1) l s e).map fun (vs,s,e)=>(v::vs,s,e)
mutual
def AE:Nat->Int->Int->Tm->List RV->Option (RV×Int×Int)
 | 0,_,_,_,_=>none
 | f+1,s,e,.mk op m ks,env =>
  if e≠0 then some (.zero,s,e) else if 900000<env.length then none else
  if op=1 then
   if m<env.length then (if 0<=m then (env[(env.length - 1 - m).toNat]?).map fun v=>(v,s,e) else none)
   else if m<=4611686018427387904 then some (.var (env.length - 1 - m),s,e) else none
  else if f<=ks.length then none else if 900000<ks.length then none else
  match Be (fun s e t=>AE f s e t env) op env 0 ks s e with
  | none=>none
  | some (vs,s,e)=>headR f s e (.node op m vs)
def headR:Nat->Int->Int->RV->Option (RV×Int×Int)
 | 0,_,_,_=>none
 | f+1,s,e,v =>
  if e≠0 then some (v,s,e) else if s<0\/1000000<s then none else
  if v.op=5 then (match v.k[0]? with
   | none=>none
   | some k0=>if k0.op=4 then
     (if s+1<=1000 then (match k0.k[1]?,v.k[1]? with
      | some c,some x=>if 900000<c.env.length then none else AE f (s+1) 0 c.b (c.env++[x])
      | _,_=>none) else some (v,s+1,17))
    else some (v,s,e))
  else if v.op=8\/v.op=9 then (match v.k[0]? with
   | none=>none
   | some k0=>if k0.op=7 then
     (if s+1<=1000 then (k0.k[(1+v.op - 8).toNat]?).map fun x=>(x,s+1,0) else some (v,s+1,17))
    else some (v,s,e))
  else if v.op=30 then (match v.k[0]? with
   | none=>none
   | some k0=>if k0.op=19 then
     (if s+1<=1000 then (k0.k[0]?).map fun x=>(x,s+1,0) else some (v,s+1,17))
    else some (v,s,e))
  else if v.op=19 then (match v.k[0]? with
   | none=>none
   | some k0=>if k0.op=30 then
     (if s+1<=1000 then (k0.k[0]?).map fun x=>(x,s+1,0) else some (v,s+1,17))
    else some (v,s,e))
  else if v.op=13 then (match v.k[0]?,v.k[1]?,v.k[2]?,v.k[3]? with
   | some k0,some k1,some k2,some k3 =>
    if k3.op=11 then (if s+1<=1000 then some (k1,s+1,0) else some (v,s+1,17))
    else if k3.op=12 then
     (if s+1<=1000 then (match k3.k[0]? with
      | none=>none
      | some x=>(match headR f (s+1) 0 (.node 13 0 [k0,k1,k2,x]) with
       | none=>none
       | some (h,s,e)=>if 900000<k2.env.length then none else AE f s e k2.b (k2.env++[x,h])))
     else some (v,s+1,17))
    else some (v,s,e)
   | _,_,_,_=>none)
  else some (v,s,e)
end
theorem TU {β:Type} {l:List RV} {i:Nat} {v:RV} (h:l[i]?=some v) (k:IV->Option β):AQ 1 (.fv (.sl (l.map RV.enc))) (iv i) k=k (.fv (.fp [v.enc] 0)):=by
 have h1:(l.map RV.enc)[i]?=some v.enc:=by rw [List.getElem?_map,h];rfl
 rw [Bp h1 (LP v),XB]
def O7 (f:Nat):Prop:=∀(s e:Int) (t:Tm) (env:List RV) (v:RV) (s' e' nd:Int),AE f s e t env=some (v,s',e')->∀n,f+1<=n ->
 By (SS dt n 60 [.ptr (.ext 0) 0,.fv t.enc,.fv (.sl (env.map RV.enc))] ⟨[],[.row [iv s,iv nd,iv e] false]⟩) v.enc [.row [iv s',iv nd,iv e'] false]
def PI (f:Nat):Prop:=∀(s e:Int) (v w:RV) (s' e' nd:Int),headR f s e v=some (w,s',e')->∀n,f+1<=n ->
 By (SS dt n 87 [.ptr (.ext 0) 0,.fv v.enc] ⟨[],[.row [iv s,iv nd,iv e] false]⟩) w.enc [.row [iv s',iv nd,iv e'] false]
abbrev UO (op m:Int) (ks:List Tm) (K:IV) (tok:List (Nat×Blk)) (s nd e:Int):Hp :=⟨(62914560,.row [iv op,iv m,.fv (.sl (ks.map Tm.enc))] false)::(62921733,.row [iv op,iv m,K,.nils,iv 0,iv 0,.nils] false)::tok,[.row [iv s,iv nd,iv e] false]⟩
theorem AaC {op m:Int} (l:List RV):(RV.node op m l).enc=.fp [.int .i64 op,.int .i64 m,.sl (l.map RV.enc),.sl [],.int .i64 0,.int .i64 0,.sl []] 0:=by rw [RV.node,Tm.z,HQ];rfl
theorem XK {f:Nat} (he:O7 f) (hh:PI f):O7 (f+1):=by
 intro s e t env v s' e' nd hev n hn;obtain ⟨n,rfl⟩:=psc n (by omega);rw [c60];obtain ⟨op,m,ks⟩:=t;rw [Am];rw [AE] at hev;by_cases h0:e≠0
 ·rw [if_pos h0] at hev;simp only [AhQ,AhR] at hev;obtain ⟨rfl,rfl,rfl⟩:=hev;simp only [HX,H6,HH,HK,S60,↓XX,XY,↓reduceIte,seval,h0];exact ⟨_,_,rfl,_,_,fun _ _=>rfl⟩
 ·have h0':e=0:=by omega
  subst h0';rw [if_neg h0] at hev;by_cases hlen:900000<env.length
  ·rw [if_pos hlen] at hev;cases hev
  ·rw [if_neg hlen] at hev;by_cases h1:op=1
   ·rw [if_pos h1] at hev;subst h1;by_cases h2:m<env.length
    ·rw [if_pos h2] at hev;by_cases h3:0<=m
     ·rw [if_pos h3] at hev;cases hg:env[(env.length - 1 - m).toNat]? with
      | none=>rw [hg] at hev;cases hev
      | some u =>
       rw [hg] at hev;simp only [AhT,AhQ,AhR] at hev;obtain ⟨rfl,rfl,rfl⟩:=hev;have e1:BF ((env.length:Int) - 1)=env.length - 1:=by rw [Ax]<;>omega
       have e2:BF ((env.length:Int) - 1 - m)=(((env.length:Int) - 1 - m).toNat:Int):=by rw [Ax]<;>omega
       simp only [HX,H6,HH,HK,S60,↓XX,XY,↓reduceIte,seval,h2,e1,e2,↓TU hg];exact AJ _ _ _
     ·rw [if_neg h3] at hev;cases hev
    ·rw [if_neg h2] at hev;by_cases h3:m<=4611686018427387904
     ·rw [if_pos h3] at hev;simp only [AhQ,AhR] at hev;obtain ⟨rfl,rfl,rfl⟩:=hev;have e1:BF ((env.length:Int) - 1)=env.length - 1:=by rw [Ax]<;>omega
      have e2:BF ((env.length:Int) - 1 - m)=(env.length:Int) - 1 - m:=by rw [Ax]<;>omega
      simp only [HX,H6,HH,HK,S60,↓XX,XY,↓reduceIte,seval,h2,e1,e2];exact ⟨_,_,rfl,_,_,fun _ _=>rfl⟩
     ·rw [if_neg h3] at hev;cases hev
   ·rw [if_neg h1] at hev;by_cases hf:f<=ks.length
    ·rw [if_pos hf] at hev;cases hev
    ·rw [if_neg hf] at hev;by_cases hk9:900000<ks.length
     ·rw [if_pos hk9] at hev;cases hev
     ·rw [if_neg hk9] at hev;cases hkg:Be (fun s e t=>AE f s e t env) op env 0 ks s 0 with
      | none=>rw [hkg] at hev;cases hev
      | some q =>
      obtain ⟨vs,s1,e1⟩:=q;rw [hkg] at hev;simp only at hev;simp only [HX,H6,HH,HK,S60,↓XX,XY,↓reduceIte,seval,h1,↓AB,XD,heldB,AL,XE];refine A7 (Q:=fun r=>By r _ _) (fun k V H=>∃pre rest done s2 e2 us s3 e3,ks=pre++rest/\rest.length=k/\done.length=pre.length/\V=[.ptr (.ext 0) 0,.fv (.sl (env.map RV.enc)),.ptr (.own 62914560) 0,.ptr (.own 62921733) 0,iv pre.length] /\
       (
        (pre=[]/\H=UO op m ks .nils [] s2 nd e2) \/
        (∃r,(r=62926862\/r=62927886)/\pre≠[]/\H=UO op m ks (.app (.own r) (done.map RV.enc)) [(r,.tok done.length 1)] s2 nd e2)) /\
       Be (fun s e t=>AE f s e t env) op env pre.length rest s2 e2=some (us,s3,e3)/\headR f s3 e3 (.node op m (done++us))=some (v,s',e'))
       ?_ n ks.length _ _ (by omega) ⟨[],ks,[],s,0,vs,s1,e1,rfl,rfl,rfl,rfl,.inl ⟨rfl,rfl⟩,hkg,hev⟩
      rintro k V H rec ⟨pre,rest,done,s2,e2,us,s3,e3,hk,hl,hdl,rfl,hH,hkids,hhead⟩ hrec;have hkl:ks.length=pre.length+rest.length:=by rw [hk];simp
      have zenc:∀l:List RV,(RV.node op m l).enc=.fp [.int .i64 op,.int .i64 m,.sl (l.map RV.enc),.sl [],.int .i64 0,.int .i64 0,.sl []] 0:=fun l=>AaC l;cases rest with
      | nil =>
       simp only [Be,AhQ,AhR] at hkids;obtain ⟨rfl,rfl,rfl⟩:=hkids;rw [List.append_nil] at hhead;have hc:=hh s2 e2 _ v s' e' nd hhead n (by omega);rw [zenc] at hc;have hpre:ks=pre:=by simpa using hk
       subst hpre;rcases hH with ⟨rfl,rfl⟩ | ⟨r,hr,hne,rfl⟩
       ·have hd:done=[]:=List.length_eq_zero_iff.1 hdl;subst hd;have hcall:=fun k=>OY (k:=k) (own:=[(62914560,.row [iv op,iv m,.fv (.sl (([]:List Tm).map Tm.enc))] false),(62921733,.row [iv op,iv m,.nils,.nils,iv 0,iv 0,.nils] false)])
         (cells:=[iv op,iv m,.nils,.nils,iv 0,iv 0,.nils]) (ro:=false) (s:=62921733) hc (CB ..) (by simp [Ap]) rfl (by simp)
        simp only [↓RD,↓XX,XY,↓reduceIte,seval,Int.lt_irrefl,↓hcall];exact AJ _ _ _
       ·have hcall:=fun k=>OY (k:=k) (own:=[(62914560,.row [iv op,iv m,.fv (.sl (ks.map Tm.enc))] false),(62921733,.row [iv op,iv m,.app (.own r) (done.map RV.enc),.nils,iv 0,iv 0,.nils] false),(r,.tok done.length 1)])
         (cells:=[iv op,iv m,.app (.own r) (done.map RV.enc),.nils,iv 0,iv 0,.nils]) (ro:=false) (s:=62921733) hc (CB ..) (by simp [Ap]) rfl (by simp)
        simp only [↓RD,↓XX,XY,↓reduceIte,seval,Int.lt_irrefl,↓hcall];exact AJ _ _ _
      | cons t rest =>
       have hi:(pre.length:Int)<ks.length:=by rw [hkl];simp;omega
       have hg:=BZ hk;have hb:=Ft (n:=n) (by omega) op pre.length;have hwi:BF ((pre.length:Int)+1)=((pre++[t]).length:Int):=(Ax (by omega) (by omega)).trans (by simp);have hbi:(0<(Ak op pre.length:Int)) ↔ 0<Ak op pre.length:=by omega
       have hd9:done.length+1<=1000000:=by omega
       simp only [Be] at hkids;simp only [AhU] at hl;by_cases hbp:0<Ak op pre.length
       ·rw [if_pos hbp] at hkids;cases hkk:Be (fun s e t=>AE f s e t env) op env (pre.length+1) rest s2 e2 with
        | none=>rw [hkk] at hkids;cases hkids
        | some q =>
        obtain ⟨us',s4,e4⟩:=q;rw [hkk] at hkids;simp only [AhT,AhQ,AhR] at hkids;obtain ⟨rfl,rfl,rfl⟩:=hkids;have hbp':0<(Ak op pre.length:Int):=by omega
        have hce:(RV.clo env t).enc=.fp [.int .i64 0,.int .i64 0,.sl [],.sl (env.map RV.enc),.int .i64 t.op,.int .i64 t.n,.sl (t.kids.map Tm.enc)] 0:=by rw [Lv];rfl
        have hnext:∀tk,(tk=62926862\/tk=62927886)->By (rec [.ptr (.ext 0) 0,.fv (.sl (env.map RV.enc)),.ptr (.own 62914560) 0,.ptr (.own 62921733) 0,iv (pre++[t]).length]
          (UO op m ks (.app (.own tk) ((done++[RV.clo env t]).map RV.enc)) [(tk,.tok (done++[RV.clo env t]).length 1)] s2 nd e2)) v.enc [.row [iv s',iv nd,iv e'] false]:=fun tk htk =>
         hrec rest.length _ _ (by omega) ⟨pre++[t],rest,done++[.clo env t],s2,e2,us',s4,e4,by rw [hk];simp,rfl,by simp [hdl],rfl,.inr ⟨tk,htk,by simp,rfl⟩,by simpa using hkk,by simpa using hhead⟩
        obtain ⟨o,p,l⟩:=t;simp only [Tm.op,Tm.n,Tm.kids] at hce;have ha0:=fun {s own ext k}=>fF (RV.clo env (.mk o p l)) s own ext k;have ha1:=fun {r s own ext k}=>SM hd9 (RV.clo env (.mk o p l)) r s own ext k;rw [hce] at ha0 ha1;have hbs:=fun (tl:List (Nat×Blk)) (K:IV) (own:List (Nat×Blk)) (hown:own=(62914560,.row [iv op,iv m,.fv (.sl (ks.map Tm.enc))] false)::(62921733,.row [iv op,iv m,K,.nils,iv 0,iv 0,.nils] false)::tl) (hl:Ap 62926860 own=some (.row [iv 0,iv 0,.nils,.fv (.sl (env.map RV.enc)),iv o,iv p,.fv (.sl (l.map Tm.enc))] false)) (own':List (Nat×Blk)) (ho) s ext (k:KT (IV×Hp)) =>zL (E:=EE) (own:=own) (own':=own') xI xH rfl ⟨_,rfl⟩ hl (fc:=[.int .i64 0,.int .i64 0,.sl [],.sl (env.map RV.enc),.int .i64 o,.int .i64 p,.sl (l.map Tm.enc)]) rfl (by simp) ho s ext k
        rcases hH with ⟨hp0,rfl⟩ | ⟨r,hr,hne,rfl⟩
        ·have hd0:done=[]:=List.length_eq_zero_iff.1 (by rw [hdl,hp0];rfl);subst hd0;have h9:=hnext _ (.inl rfl);simp only [List.nil_append,AhW,AhV,AhU,List.length_nil] at h9;rw [hce] at h9;have hb0:=fun s ext k=>hbs [(62926860,.row [iv 0,iv 0,.nils,.fv (.sl (env.map RV.enc)),iv o,iv p,.fv (.sl (l.map Tm.enc))] false)] .nils _ rfl (by simp [Ap])
          [(62914560,.row [iv op,iv m,.fv (.sl (ks.map Tm.enc))] false),(62921733,.row [iv op,iv m,.nils,.nils,iv 0,iv 0,.nils] false),(62926860,.row [iv 0,iv 0,.nils,.fv (.sl (env.map RV.enc)),iv o,iv p,.fv (.sl (l.map Tm.enc))] true)] (by simp [AP]) s ext k
         simp only [↓RD,↓XX,XY,↓reduceIte,seval,hi,↓Bp (AO hg) (Bi _ _ _),↓B7,↓Af hb,hbp',hwi,↓hb0,↓ha0,↓AB,XD,heldB,AL,XE];exact h9
        ·have h9:=hnext r hr;rw [show (done++[RV.clo env (Tm.mk o p l)]).length=done.length+1 by simp] at h9
         simp only [List.map_append,AhW,AhV] at h9;rw [hce] at h9;simp only [List.map_append,AhW,AhV] at ha1;rw [hce] at ha1;have hb0:=fun s ext k=>hbs [(r,.tok done.length 1),(62926860,.row [iv 0,iv 0,.nils,.fv (.sl (env.map RV.enc)),iv o,iv p,.fv (.sl (l.map Tm.enc))] false)] (.app (.own r) (done.map RV.enc)) _ rfl (by rcases hr with rfl | rfl<;>simp [Ap])
          [(62914560,.row [iv op,iv m,.fv (.sl (ks.map Tm.enc))] false),(62921733,.row [iv op,iv m,.app (.own r) (done.map RV.enc),.nils,iv 0,iv 0,.nils] false),(r,.tok done.length 1),(62926860,.row [iv 0,iv 0,.nils,.fv (.sl (env.map RV.enc)),iv o,iv p,.fv (.sl (l.map Tm.enc))] true)]
          (by rcases hr with rfl | rfl<;>simp [AP]) s ext k
         rcases hr with rfl | rfl
         ·simp only [↓RD,↓XX,XY,↓reduceIte,seval,hi,↓Bp (AO hg) (Bi _ _ _),↓B7,↓Af hb,hbp',hwi,↓hb0,↓ha1,↓GZ,↓AB,XD,heldB,AL,XE];exact h9
         ·simp only [↓RD,↓XX,XY,↓reduceIte,seval,hi,↓Bp (AO hg) (Bi _ _ _),↓B7,↓Af hb,hbp',hwi,↓hb0,↓ha1,↓GZ,↓AB,XD,heldB,AL,XE];exact h9
       ·rw [if_neg hbp] at hkids;have hbp':¬ 0<(Ak op pre.length:Int):=by omega
        cases hev1:AE f s2 e2 t env with
        | none=>rw [hev1] at hkids;cases hkids
        | some q =>
        obtain ⟨v1,s4,e4⟩:=q;rw [hev1] at hkids;simp only at hkids;cases hkk:Be (fun s e t=>AE f s e t env) op env (pre.length+1) rest s4 e4 with
        | none=>rw [hkk] at hkids;cases hkids
        | some q =>
        obtain ⟨us',s5,e5⟩:=q;rw [hkk] at hkids;simp only [AhT,AhQ,AhR] at hkids;obtain ⟨rfl,rfl,rfl⟩:=hkids;have hc:=he s2 e2 t env v1 s4 e4 nd hev1 n (by omega);have hnext:∀tk,(tk=62926862\/tk=62927886)->By (rec [.ptr (.ext 0) 0,.fv (.sl (env.map RV.enc)),.ptr (.own 62914560) 0,.ptr (.own 62921733) 0,iv (pre++[t]).length]
          (UO op m ks (.app (.own tk) ((done++[v1]).map RV.enc)) [(tk,.tok (done++[v1]).length 1)] s4 nd e4)) v.enc [.row [iv s',iv nd,iv e'] false]:=fun tk htk =>
         hrec rest.length _ _ (by omega) ⟨pre++[t],rest,done++[v1],s4,e4,us',s5,e5,by rw [hk];simp,rfl,by simp [hdl],rfl,.inr ⟨tk,htk,by simp,rfl⟩,by simpa using hkk,by simpa using hhead⟩
        obtain ⟨o,p,l⟩:=t;rw [Am] at hc;rcases hH with ⟨hp0,rfl⟩ | ⟨r,hr,hne,rfl⟩
        ·have hd0:done=[]:=List.length_eq_zero_iff.1 (by rw [hdl,hp0];rfl);subst hd0;have h9:=hnext _ (.inr rfl);simp only [List.nil_append,AhW,AhV,AhU,List.length_nil] at h9;simp only [↓RD,↓XX,XY,↓reduceIte,seval,hi,↓Bp (AO hg) (Bi _ _ _),↓B7,↓Af hb,hbp',hwi,↓IL hc (CB _ _ _ _ _ _),↓Q4,↓fF,↓AB,XD,heldB,AL,XE];exact h9
        ·have h9:=hnext r hr;rw [show (done++[v1]).length=done.length+1 by simp] at h9
         rcases hr with rfl | rfl
         ·simp only [↓RD,↓XX,XY,↓reduceIte,seval,hi,↓Bp (AO hg) (Bi _ _ _),↓B7,↓Af hb,hbp',hwi,↓IL hc (CB _ _ _ _ _ _),↓Q4,↓SM hd9,↓GZ,↓AB,XD,heldB,AL,XE];exact h9
         ·simp only [↓RD,↓XX,XY,↓reduceIte,seval,hi,↓Bp (AO hg) (Bi _ _ _),↓B7,↓Af hb,hbp',hwi,↓IL hc (CB _ _ _ _ _ _),↓Q4,↓SM hd9,↓GZ,↓AB,XD,heldB,AL,XE];exact h9
def RV.cl (v:RV):List FV:=[.int .i64 v.op,.int .i64 v.n,.sl (v.k.map RV.enc),.sl (v.env.map RV.enc),.int .i64 v.b.op,.int .i64 v.b.n,.sl (v.b.kids.map Tm.enc)]
section
variable {β:Type} (v:RV)
theorem yN (k:IV->Option β):AK (.fv v.enc) k=k (.fv v.enc):=by rw [Lv];rfl
theorem Aed (o:Nat) (k:IV->Option β):Ab o (.fv v.enc) k=k (.fv (.fp v.cl o)):=by rw [Lv,yH];rfl
theorem nc0 (k:FV->Option β):DQ v.cl 0 k=k (.int .i64 v.op):=rfl
theorem nc1 (k:FV->Option β):DQ v.cl 1 k=k (.int .i64 v.n):=rfl
theorem nc2 (k:FV->Option β):DQ v.cl 2 k=k (.sl (v.k.map RV.enc)):=rfl
theorem nc3 (k:FV->Option β):DQ v.cl 3 k=k (.sl (v.env.map RV.enc)):=rfl
theorem dc4 (k:List FV->Option β):Fj v.cl 4 k=k [.int .i64 v.b.op,.int .i64 v.b.n,.sl (v.b.kids.map Tm.enc)]:=rfl
end
theorem GO {β:Type} {l:List RV} {v:RV} (h:l[0]?=some v) (k:IV->Option β):AQ 1 (.fv (.sl (l.map RV.enc))) (iv 0) k=k (.fv (.fp [v.enc] 0)):=TU (i:=0) h k
theorem aR {β:Type} {l:List RV} {v:RV} (h:l[1]?=some v) (k:IV->Option β):AQ 1 (.fv (.sl (l.map RV.enc))) (iv 1) k=k (.fv (.fp [v.enc] 0)):=TU (i:=1) h k
theorem Aax {β:Type} {l:List RV} {v:RV} (h:l[2]?=some v) (k:IV->Option β):AQ 1 (.fv (.sl (l.map RV.enc))) (iv 2) k=k (.fv (.fp [v.enc] 0)):=TU (i:=2) h k
theorem YS {β:Type} {l:List RV} {v:RV} (h:l[3]?=some v) (k:IV->Option β):AQ 1 (.fv (.sl (l.map RV.enc))) (iv 3) k=k (.fv (.fp [v.enc] 0)):=TU (i:=3) h k
def XV:=AhP @yN<|AhP @Aed<|AhP @nc0<|AhP @nc1<|AhP @nc2<|AhP @nc3 @dc4
theorem Yi {f:Nat} (he:O7 f) (hh:PI f):PI (f+1):=by
 intro s e v w s' e' nd hev n hn;obtain ⟨n,rfl⟩:=psc n (by omega);rw [c87];rw [headR] at hev;by_cases h0:e≠0
 ·rw [if_pos h0] at hev;simp only [AhQ,AhR] at hev;obtain ⟨rfl,rfl,rfl⟩:=hev;simp only [↓FL,↓XX,XY,↓reduceIte,Nat.reduceBEq,Nat.reduceAdd,Int.reduceEq,Int.reduceLT,Int.reduceLE,h0];exact AJ _ _ _
 ·have h0':e=0:=by omega
  subst h0';rw [if_neg h0] at hev;by_cases hs:s<0\/1000000<s
  ·rw [if_pos hs] at hev;cases hev
  ·rw [if_neg hs] at hev;have hst:=fK (n:=n) (by omega) s nd (by omega) (by omega);have CC:∀{x:RV} {a b:Int},some (x,a,b)=some (w,s',e')->x=w/\a=s'/\b=e':=by
    intro x a b h;simp only [AhQ,AhR] at h;exact h
   by_cases h5:v.op=5
   ·rw [if_pos h5] at hev;cases hk0:v.k[0]? with
    | none=>rw [hk0] at hev;cases hev
    | some k0 =>
     rw [hk0] at hev;simp only at hev;by_cases h4:k0.op=4
     ·rw [if_pos h4] at hev;by_cases hq:s+1<=1000
      ·rw [if_pos hq] at hev;simp only [hq,decide_true,if_true] at hst;cases hc:k0.k[1]? with
       | none=>rw [hc] at hev;cases hev
       | some c =>
        cases hx:v.k[1]? with
        | none=>rw [hc,hx] at hev;cases hev
        | some x =>
         rw [hc,hx] at hev;simp only at hev;by_cases hl:900000<c.env.length
         ·rw [if_pos hl] at hev;cases hev
         ·rw [if_neg hl] at hev;have hcall:=he (s+1) 0 c.b (c.env++[x]) w s' e' nd hev n (by omega);rw [Tv] at hcall;have hp:=O6 (n:=n) (by omega) c.env [x] (by simp) (by simp;omega);simp only [AhW,AhV] at hp;simp only [↓FL,↓XX,XY,↓reduceIte,Nat.reduceBEq,Nat.reduceAdd,Int.reduceEq,Int.reduceLT,Int.reduceLE,↓XV,h5,↓GO hk0,h4,↓DW hst (CB _ _ _ _ _ _),↓aR hc,↓aR hx,↓Q4,↓Af hp,↓IL hcall (CB _ _ _ _ _ _)];exact AJ _ _ _
      ·rw [if_neg hq] at hev;obtain ⟨rfl,rfl,rfl⟩:=CC hev;simp only [hq,decide_false,if_false] at hst;simp only [↓FL,↓XX,XY,↓reduceIte,Nat.reduceBEq,Nat.reduceAdd,Int.reduceEq,Int.reduceLT,Int.reduceLE,↓XV,h5,↓GO hk0,h4,↓DW hst (CB _ _ _ _ _ _)];exact AJ _ _ _
     ·rw [if_neg h4] at hev;obtain ⟨rfl,rfl,rfl⟩:=CC hev;simp only [↓FL,↓XX,XY,↓reduceIte,Nat.reduceBEq,Nat.reduceAdd,Int.reduceEq,Int.reduceLT,Int.reduceLE,↓XV,h5,↓GO hk0,h4];exact AJ _ _ _
   ·rw [if_neg h5] at hev;by_cases h89:v.op=8\/v.op=9
    ·rw [if_pos h89] at hev;cases hk0:v.k[0]? with
     | none=>rw [hk0] at hev;cases hev
     | some k0 =>
      rw [hk0] at hev;simp only at hev;by_cases h7:k0.op=7
      ·rw [if_pos h7] at hev;by_cases hq:s+1<=1000
       ·rw [if_pos hq] at hev;simp only [hq,decide_true,if_true] at hst;cases hx:k0.k[(1+v.op - 8).toNat]? with
        | none=>rw [hx] at hev;cases hev
        | some x =>
         rw [hx] at hev;obtain ⟨rfl,rfl,rfl⟩:=CC hev;rcases h89 with h8 | h9
         ·rw [h8] at hx;have hw1:BF (1+8)=9:=by decide
          have hw2:BF (9 - 8)=1:=by decide
          simp only [↓FL,↓XX,XY,↓reduceIte,Nat.reduceBEq,Nat.reduceAdd,Int.reduceEq,Int.reduceLT,Int.reduceLE,↓XV,h8,↓GO hk0,h7,↓DW hst (CB _ _ _ _ _ _),hw1,hw2,↓aR (l:=k0.k) (v:=x) hx];exact AJ _ _ _
         ·rw [h9] at hx;have hw1:BF (1+9)=10:=by decide
          have hw2:BF (10 - 8)=2:=by decide
          simp only [↓FL,↓XX,XY,↓reduceIte,Nat.reduceBEq,Nat.reduceAdd,Int.reduceEq,Int.reduceLT,Int.reduceLE,↓XV,h9,↓GO hk0,h7,↓DW hst (CB _ _ _ _ _ _),hw1,hw2,↓Aax (l:=k0.k) (v:=x) hx];exact AJ _ _ _
       ·rw [if_neg hq] at hev;obtain ⟨rfl,rfl,rfl⟩:=CC hev;simp only [hq,decide_false,if_false] at hst;rcases h89 with h8 | h9
        ·simp only [↓FL,↓XX,XY,↓reduceIte,Nat.reduceBEq,Nat.reduceAdd,Int.reduceEq,Int.reduceLT,Int.reduceLE,↓XV,h8,↓GO hk0,h7,↓DW hst (CB _ _ _ _ _ _)];exact AJ _ _ _
        ·simp only [↓FL,↓XX,XY,↓reduceIte,Nat.reduceBEq,Nat.reduceAdd,Int.reduceEq,Int.reduceLT,Int.reduceLE,↓XV,h9,↓GO hk0,h7,↓DW hst (CB _ _ _ _ _ _)];exact AJ _ _ _
      ·rw [if_neg h7] at hev;obtain ⟨rfl,rfl,rfl⟩:=CC hev;rcases h89 with h8 | h9
       ·simp only [↓FL,↓XX,XY,↓reduceIte,Nat.reduceBEq,Nat.reduceAdd,Int.reduceEq,Int.reduceLT,Int.reduceLE,↓XV,h8,↓GO hk0,h7];exact AJ _ _ _
       ·simp only [↓FL,↓XX,XY,↓reduceIte,Nat.reduceBEq,Nat.reduceAdd,Int.reduceEq,Int.reduceLT,Int.reduceLE,↓XV,h9,↓GO hk0,h7];exact AJ _ _ _
    ·rw [if_neg h89] at hev;have h8:¬ v.op=8:=fun e=>h89 (.inl e);have h9:¬ v.op=9:=fun e=>h89 (.inr e);by_cases h30:v.op=30
     ·rw [if_pos h30] at hev;cases hk0:v.k[0]? with
      | none=>rw [hk0] at hev;cases hev
      | some k0 =>
       rw [hk0] at hev;simp only at hev;by_cases h7:k0.op=19
       ·rw [if_pos h7] at hev;by_cases hq:s+1<=1000
        ·rw [if_pos hq] at hev;simp only [hq,decide_true,if_true] at hst;cases hx:k0.k[0]? with
         | none=>rw [hx] at hev;cases hev
         | some x =>rw [hx] at hev;obtain ⟨rfl,rfl,rfl⟩:=CC hev;simp only [↓FL,↓XX,XY,↓reduceIte,Nat.reduceBEq,Nat.reduceAdd,Int.reduceEq,Int.reduceLT,Int.reduceLE,↓XV,h30,↓GO hk0,h7,↓DW hst (CB _ _ _ _ _ _),↓GO hx];exact AJ _ _ _
        ·rw [if_neg hq] at hev;obtain ⟨rfl,rfl,rfl⟩:=CC hev;simp only [hq,decide_false,if_false] at hst;simp only [↓FL,↓XX,XY,↓reduceIte,Nat.reduceBEq,Nat.reduceAdd,Int.reduceEq,Int.reduceLT,Int.reduceLE,↓XV,h30,↓GO hk0,h7,↓DW hst (CB _ _ _ _ _ _)];exact AJ _ _ _
       ·rw [if_neg h7] at hev;obtain ⟨rfl,rfl,rfl⟩:=CC hev;simp only [↓FL,↓XX,XY,↓reduceIte,Nat.reduceBEq,Nat.reduceAdd,Int.reduceEq,Int.reduceLT,Int.reduceLE,↓XV,h30,↓GO hk0,h7];exact AJ _ _ _
     ·rw [if_neg h30] at hev;by_cases h19:v.op=19
      ·rw [if_pos h19] at hev;cases hk0:v.k[0]? with
       | none=>rw [hk0] at hev;cases hev
       | some k0 =>
        rw [hk0] at hev;simp only at hev;by_cases h7:k0.op=30
        ·rw [if_pos h7] at hev;by_cases hq:s+1<=1000
         ·rw [if_pos hq] at hev;simp only [hq,decide_true,if_true] at hst;cases hx:k0.k[0]? with
          | none=>rw [hx] at hev;cases hev
          | some x =>rw [hx] at hev;obtain ⟨rfl,rfl,rfl⟩:=CC hev;simp only [↓FL,↓XX,XY,↓reduceIte,Nat.reduceBEq,Nat.reduceAdd,Int.reduceEq,Int.reduceLT,Int.reduceLE,↓XV,h19,↓GO hk0,h7,↓DW hst (CB _ _ _ _ _ _),↓GO hx];exact AJ _ _ _
         ·rw [if_neg hq] at hev;obtain ⟨rfl,rfl,rfl⟩:=CC hev;simp only [hq,decide_false,if_false] at hst;simp only [↓FL,↓XX,XY,↓reduceIte,Nat.reduceBEq,Nat.reduceAdd,Int.reduceEq,Int.reduceLT,Int.reduceLE,↓XV,h19,↓GO hk0,h7,↓DW hst (CB _ _ _ _ _ _)];exact AJ _ _ _
        ·rw [if_neg h7] at hev;obtain ⟨rfl,rfl,rfl⟩:=CC hev;simp only [↓FL,↓XX,XY,↓reduceIte,Nat.reduceBEq,Nat.reduceAdd,Int.reduceEq,Int.reduceLT,Int.reduceLE,↓XV,h19,↓GO hk0,h7];exact AJ _ _ _
      ·rw [if_neg h19] at hev;by_cases h13:v.op=13
       ·rw [if_pos h13] at hev;cases hk0:v.k[0]? with
        | none=>rw [hk0] at hev;cases hev
        | some k0 =>
        cases hk1:v.k[1]? with
        | none=>rw [hk0,hk1] at hev;cases hev
        | some k1 =>
        cases hk2:v.k[2]? with
        | none=>rw [hk0,hk1,hk2] at hev;cases hev
        | some k2 =>
        cases hk3:v.k[3]? with
        | none=>rw [hk0,hk1,hk2,hk3] at hev;cases hev
        | some k3 =>
        rw [hk0,hk1,hk2,hk3] at hev;simp only at hev;by_cases h11:k3.op=11
        ·rw [if_pos h11] at hev;by_cases hq:s+1<=1000
         ·rw [if_pos hq] at hev;obtain ⟨rfl,rfl,rfl⟩:=CC hev;simp only [hq,decide_true,if_true] at hst;simp only [↓FL,↓XX,XY,↓reduceIte,Nat.reduceBEq,Nat.reduceAdd,Int.reduceEq,Int.reduceLT,Int.reduceLE,↓XV,h13,↓YS hk3,h11,↓DW hst (CB _ _ _ _ _ _),↓aR hk1];exact AJ _ _ _
         ·rw [if_neg hq] at hev;obtain ⟨rfl,rfl,rfl⟩:=CC hev;simp only [hq,decide_false,if_false] at hst;simp only [↓FL,↓XX,XY,↓reduceIte,Nat.reduceBEq,Nat.reduceAdd,Int.reduceEq,Int.reduceLT,Int.reduceLE,↓XV,h13,↓YS hk3,h11,↓DW hst (CB _ _ _ _ _ _)];exact AJ _ _ _
        ·rw [if_neg h11] at hev;by_cases h12:k3.op=12
         ·rw [if_pos h12] at hev;by_cases hq:s+1<=1000
          ·rw [if_pos hq] at hev;simp only [hq,decide_true,if_true] at hst;cases hx:k3.k[0]? with
           | none=>rw [hx] at hev;cases hev
           | some x =>
           rw [hx] at hev;simp only at hev;cases hd:headR f (s+1) 0 (.node 13 0 [k0,k1,k2,x]) with
           | none=>rw [hd] at hev;cases hev
           | some q =>
           obtain ⟨h,s2,e2⟩:=q;rw [hd] at hev;simp only at hev;by_cases hl:900000<k2.env.length
           ·rw [if_pos hl] at hev;cases hev
           ·rw [if_neg hl] at hev;have hcall:=he s2 e2 k2.b (k2.env++[x,h]) w s' e' nd hev n (by omega);rw [Tv] at hcall;have hcall2:=hh (s+1) 0 _ h s2 e2 nd hd n (by omega);rw [AaC] at hcall2;simp only [AhW,AhV] at hcall2;have hp:=O6 (n:=n) (by omega) k2.env [x,h] (by simp) (by simp;omega);simp only [AhW,AhV] at hp;have hcall3:=fun k=>OY (k:=k) (own:=[(91246614,.row [iv 13,iv 0,.clip [k0.enc,k1.enc,k2.enc,x.enc],.nils,iv 0,iv 0,.nils] false)])
             (cells:=[iv 13,iv 0,.clip [k0.enc,k1.enc,k2.enc,x.enc],.nils,iv 0,iv 0,.nils]) (ro:=false) (s:=91246614) hcall2 (CB ..) (by simp [Ap]) rfl (by simp)
            simp only [↓FL,↓XX,XY,↓reduceIte,Nat.reduceBEq,Nat.reduceAdd,Int.reduceEq,Int.reduceLT,Int.reduceLE,↓XV,h13,↓YS hk3,h11,h12,↓DW hst (CB _ _ _ _ _ _),↓GO hx,↓GO hk0,↓aR hk1,↓Aax hk2,↓yU,↓hcall3,↓yE,↓Af hp,↓IL hcall (CB _ _ _ _ _ _)];exact AJ _ _ _
          ·rw [if_neg hq] at hev;obtain ⟨rfl,rfl,rfl⟩:=CC hev;simp only [hq,decide_false,if_false] at hst;simp only [↓FL,↓XX,XY,↓reduceIte,Nat.reduceBEq,Nat.reduceAdd,Int.reduceEq,Int.reduceLT,Int.reduceLE,↓XV,h13,↓YS hk3,h11,h12,↓DW hst (CB _ _ _ _ _ _)];exact AJ _ _ _
         ·rw [if_neg h12] at hev;obtain ⟨rfl,rfl,rfl⟩:=CC hev;simp only [↓FL,↓XX,XY,↓reduceIte,Nat.reduceBEq,Nat.reduceAdd,Int.reduceEq,Int.reduceLT,Int.reduceLE,↓XV,h13,↓YS hk3,h11,h12];exact AJ _ _ _
       ·rw [if_neg h13] at hev;obtain ⟨rfl,rfl,rfl⟩:=CC hev;simp only [↓FL,↓XX,XY,↓reduceIte,Nat.reduceBEq,Nat.reduceAdd,Int.reduceEq,Int.reduceLT,Int.reduceLE,↓XV,h5,h8,h9,h30,h19,h13];exact AJ _ _ _
theorem VF:∀f,O7 f/\PI f:=by
 intro f
 induction f with
 | zero=>exact ⟨(by intro s e t env v s' e' nd h;rw [AE] at h;cases h),(by intro s e v w s' e' nd h;rw [headR] at h;cases h)⟩
 | succ f ih=>exact ⟨XK ih.1 ih.2,Yi ih.1 ih.2⟩
def EZ (u:Int) (b:Nat):List RV:=(List.range b).map fun (j:Nat)=>RV.var (u+(j:Int))
def Jp (u:Int) (b:Nat):EZ u (b+1)=EZ u b++[RV.var (u+b)]:=by simp [EZ,List.range_succ]
def Cx (u:Int) (b:Nat):(EZ u b).length=b:=by simp [EZ]
def Bl (rd:Int->Int->Int->RV->Int->Option (Tm×Int×Int×Int)) (f:Nat) (op u:Int):Nat->List RV->Int->Int->Int->Option (List Tm×Int×Int×Int)
 | _,[],s,nd,e=>some ([],s,nd,e)
 | i,k::l,s,nd,e =>
  match (if 0<Ak op i then (if 900000<k.env.length then none else AE f s e k.b (k.env++EZ u (Ak op i))) else some (k,s,e)) with
  | none=>none
  | some (k',s1,e1)=>match rd s1 nd e1 k' (u+Ak op i) with
   | none=>none
   | some (t,s2,nd2,e2)=>(Bl rd f op u (i+1) l s2 nd2 e2).map fun (ts,s,nd,e)=>(t::ts,s,nd,e)
def AW:Nat->Int->Int->Int->RV->Int->Int->Option (Tm×Int×Int×Int)
 | 0,_,_,_,_,_,_=>none
 | f+1,s,nd,e,v,u,d =>
  if nd<0\/1000000<nd\/u<0\/1000000<u\/d<0\/1000000<d\/v.n < -2305843009213693952\/2305843009213693952<v.n\/f<=v.k.length\/900000<v.k.length\/f<=3 then none else
  if (if e=0/\(3000<nd+1\/120<d) then 5 else e)≠0 then some (.z,s,nd+1,(if e=0/\(3000<nd+1\/120<d) then 5 else e))
  else if v.op=1 then some (.mk 1 (u - 1 - v.n) [],s,nd+1,0)
  else (Bl (fun s nd e k u=>AW f s nd e k u (d+1)) f v.op u 0 v.k s (nd+1) 0).map fun (ts,s,nd,e)=>(.mk v.op v.n ts,s,nd,e)
def TB (f:Nat):Prop:=∀(s nd e:Int) (v:RV) (u d:Int) (t:Tm) (s' nd' e':Int),AW f s nd e v u d=some (t,s',nd',e')->∀n,f+1<=n ->
 By (SS dt n 59 [.ptr (.ext 0) 0,.fv v.enc,iv u,iv d] ⟨[],[.row [iv s,iv nd,iv e] false]⟩) t.enc [.row [iv s',iv nd',iv e'] false]
abbrev K0 (op m:Int) (K:IV) (tok:List (Nat×Blk)) (s nd e:Int):Hp :=⟨(61865984,.row [iv 0,iv 0,.nils] false)::(61874185,.row [iv op,iv m,K] false)::tok,[.row [iv s,iv nd,iv e] false]⟩
def Uj {cells:List IV} {fc:List FV} (hz:Ds cells=some fc) (hn:cells.length<=100) (s:Nat) (h:Hp) (k:KT (IV×Hp)):sY (J1 true s (.agg cells)) s (.agg cells) h k=k (.fv (.fp fc 0)) h [] []:=by
 have:J1 true s (.agg cells)=.ret { eff:={ val:=.fv (.fp fc 0),upd:=[] } }:=by simp only [J1,IV.alive,Bool.true_eq_false,if_false,if_true,IV.cells,VC cells 4096 (by omega) hz,Rd.bind]
 unfold sY;rw [this,TQ];exact E8 _ s h k
def Vk (n:Int):(RV.var n).enc=.fp [.int .i64 1,.int .i64 n,.sl [],.sl [],.int .i64 0,.int .i64 0,.sl []] 0:=by rw [RV.var,Tm.z,HQ];rfl
def Xs {f:Nat} (hr:TB f):TB (f+1):=by
 intro s nd e v u d t s' nd' e' hev n hn;obtain ⟨n,rfl⟩:=psc n (by omega);rw [c59];rw [AW] at hev;by_cases hbad:nd<0\/1000000<nd\/u<0\/1000000<u\/d<0\/1000000<d\/v.n < -2305843009213693952\/2305843009213693952<v.n\/f<=v.k.length\/900000<v.k.length\/f<=3
 ·rw [if_pos hbad] at hev;cases hev
 ·rw [if_neg hbad] at hev;have wnd:BF (nd+1)=nd+1:=by rw [Ax]<;>omega
  have wd:BF (d+1)=d+1:=by rw [Ax]<;>omega
  have wu:BF (u - 1)=u - 1:=by rw [Ax]<;>omega
  have wv:BF (u - 1 - v.n)=u - 1 - v.n:=by rw [Ax]<;>omega
  by_cases he:e=0
  ·subst he;by_cases h3:3000<nd+1
   ·have e5:(if (0:Int)=0/\(3000<nd+1\/120<d) then (5:Int) else 0)=5:=if_pos ⟨rfl,.inl h3⟩;rw [e5,if_pos (by decide)] at hev;simp only [AhQ,AhR] at hev;obtain ⟨rfl,rfl,rfl,rfl⟩:=hev;simp only [↓bU,↓XX,XY,↓reduceIte,seval,wnd,h3];exact EN rfl _ _
   ·by_cases h4:120<d
    ·have e5:(if (0:Int)=0/\(3000<nd+1\/120<d) then (5:Int) else 0)=5:=if_pos ⟨rfl,.inr h4⟩;rw [e5,if_pos (by decide)] at hev;simp only [AhQ,AhR] at hev;obtain ⟨rfl,rfl,rfl,rfl⟩:=hev;simp only [↓bU,↓XX,XY,↓reduceIte,seval,wnd,h3,h4];exact EN rfl _ _
    ·have e5:(if (0:Int)=0/\(3000<nd+1\/120<d) then (5:Int) else 0)=0:=if_neg (by omega);rw [e5,if_neg (by decide)] at hev;by_cases h1:v.op=1
     ·rw [if_pos h1] at hev;simp only [AhQ,AhR] at hev;obtain ⟨rfl,rfl,rfl,rfl⟩:=hev;have hv:=iL (n:=n) (by omega) (u - 1 - v.n);rw [Am] at hv ⊢;simp only [↓bU,↓XX,XY,↓reduceIte,seval,↓XV,wnd,h3,h4,h1,wu,wv,↓Aq hv];exact EN rfl _ _
     ·rw [if_neg h1] at hev;cases hrk:Bl (fun s nd e k u=>AW f s nd e k u (d+1)) f v.op u 0 v.k s (nd+1) 0 with
      | none=>rw [hrk] at hev;cases hev
      | some q =>
      obtain ⟨ts,s1,nd1,e1⟩:=q;rw [hrk] at hev;simp only [AhT,AhQ,AhR] at hev;obtain ⟨rfl,rfl,rfl,rfl⟩:=hev;simp only [↓bU,↓XX,XY,↓reduceIte,seval,↓XV,wnd,h3,h4,h1,↓AB,XD,heldB,AL,XE];refine A7 (Q:=fun r=>By r _ _) (fun k V H=>∃(pre rest:List RV) (done:List Tm) (s2 nd2 e2:Int) (us:List Tm),v.k=pre++rest/\rest.length=k/\done.length=pre.length/\V=[.ptr (.ext 0) 0,.fv v.enc,iv u,iv d,.ptr (.own 61865984) 0,.ptr (.own 61874185) 0,iv pre.length] /\
       (
        (pre=[]/\H=K0 v.op v.n .nils [] s2 nd2 e2) \/
        (pre≠[]/\H=K0 v.op v.n (.app (.own 61887499) (done.map Tm.enc)) [(61887499,.tok done.length 3)] s2 nd2 e2)) /\
       Bl (fun s nd e k u=>AW f s nd e k u (d+1)) f v.op u pre.length rest s2 nd2 e2=some (us,s1,nd1,e1)/\done++us=ts)
       ?_ n v.k.length _ _ (by omega) ⟨[],v.k,[],s,nd+1,0,ts,rfl,rfl,rfl,rfl,.inl ⟨rfl,rfl⟩,hrk,rfl⟩
      rintro k V H rec ⟨pre,rest,done,s2,nd2,e2,us,hk,hl,hdl,rfl,hH,hkids,hts⟩ hrec;have hkl:v.k.length=pre.length+rest.length:=by rw [hk];simp
      cases rest with
      | nil =>
       simp only [Bl,AhQ,AhR] at hkids;obtain ⟨rfl,rfl,rfl,rfl⟩:=hkids;rw [List.append_nil] at hts;subst hts;have hno:¬ ((pre.length:Int)<v.k.length):=by rw [hkl];simp
       rcases hH with ⟨hp0,rfl⟩ | ⟨hne,rfl⟩
       ·have hd0:done=[]:=List.length_eq_zero_iff.1 (by rw [hdl,hp0];rfl);subst hd0;simp only [EA,GL,EB,GH,Er,E5,Et,Ez,S59,↓XX,XY,↓reduceIte,seval,↓XV,hno,Am];exact EN rfl _ _
       ·simp only [EA,GL,EB,GH,Er,E5,Et,Ez,S59,↓XX,XY,↓reduceIte,seval,↓XV,hno,Am];exact EN rfl _ _
      | cons x rest =>
       have hi:(pre.length:Int)<v.k.length:=by rw [hkl];simp;omega
       have hg:=BZ hk;have hb:=Ft (n:=n) (by omega) v.op pre.length;have hble:=A0 v.op pre.length;have hwi:BF ((pre.length:Int)+1)=((pre++[x]).length:Int):=(Ax (by omega) (by omega)).trans (by simp);have hwb:BF (u+(Ak v.op pre.length:Int))=u+Ak v.op pre.length:=by rw [Ax]<;>omega
       have hd9:done.length+1<=1000000:=by omega
       simp only [Bl] at hkids;simp only [AhU] at hl;have behind:∀(y:RV) (s3 e3:Int),(match AW f s3 nd2 e3 y (u+Ak v.op pre.length) (d+1) with
          | none=>none
          | some (t,s2,nd2,e2)=>(Bl (fun s nd e k u=>AW f s nd e k u (d+1)) f v.op u (pre.length+1) rest s2 nd2 e2).map fun (ts,s,nd,e)=>(t::ts,s,nd,e))=some (us,s1,nd1,e1) ->
         ∀K tk,((pre=[]/\K=.nils/\tk=[])\/(pre≠[]/\K=.app (.own 61887499) (done.map Tm.enc)/\tk=[(61887499,.tok done.length 3)])) ->
         By (GL (.ptr (.own 61874185) 0) (K0 v.op v.n K tk s3 nd2 e3) (iv u) (iv (Ak v.op pre.length)) (iv d) (SS dt n) (.ptr (.ext 0) 0) (.fv y.enc) (iv pre.length) ⟨[],[.row [iv s,iv nd,iv 0] false]⟩ (.fv v.enc) (.ptr (.own 61865984) 0) rec)
          (Tm.mk v.op v.n ts).enc [.row [iv s1,iv nd1,iv e1] false]:=by
        intro y s3 e3 hy K tk hK;cases hrd:AW f s3 nd2 e3 y (u+Ak v.op pre.length) (d+1) with
        | none=>rw [hrd] at hy;cases hy
        | some q =>
        obtain ⟨t4,s4,nd4,e4⟩:=q;rw [hrd] at hy;simp only at hy;cases hkk:Bl (fun s nd e k u=>AW f s nd e k u (d+1)) f v.op u (pre.length+1) rest s4 nd4 e4 with
        | none=>rw [hkk] at hy;cases hy
        | some q =>
        obtain ⟨us',s5,nd5,e5'⟩:=q;rw [hkk] at hy;simp only [AhT,AhQ,AhR] at hy;obtain ⟨rfl,rfl,rfl,rfl⟩:=hy;have hc:=hr s3 nd2 e3 y (u+Ak v.op pre.length) (d+1) t4 s4 nd4 e4 hrd n (by omega);have h9:By (rec [.ptr (.ext 0) 0,.fv v.enc,iv u,iv d,.ptr (.own 61865984) 0,.ptr (.own 61874185) 0,iv (pre++[x]).length]
          (K0 v.op v.n (.app (.own 61887499) ((done++[t4]).map Tm.enc)) [(61887499,.tok (done.length+1) 3)] s4 nd4 e4)) (Tm.mk v.op v.n ts).enc [.row [iv s5,iv nd5,iv e5'] false] :=
         hrec rest.length _ _ (by omega) ⟨pre++[x],rest,done++[t4],s4,nd4,e4,us',by rw [hk];simp,rfl,by simp [hdl],rfl,.inr ⟨by simp,by simp⟩,by simpa using hkk,by rw [<- hts];simp⟩
        rcases hK with ⟨hp0,rfl,rfl⟩ | ⟨hne,rfl,rfl⟩
        ·have hd0:done=[]:=List.length_eq_zero_iff.1 (by rw [hdl,hp0];rfl);subst hd0;simp only [List.nil_append,AhW,AhV,List.length_nil] at h9;simp only [EA,GL,EB,GH,Er,E5,Et,Ez,S59,↓XX,XY,↓reduceIte,seval,↓XV,hwb,wd,hwi,↓bV hc (CB _ _ _ _ _ _),↓In,↓PP,↓AB,XD,heldB,AL,XE];exact h9
        ·simp only [EA,GL,EB,GH,Er,E5,Et,Ez,S59,↓XX,XY,↓reduceIte,seval,↓XV,hwb,wd,hwi,↓bV hc (CB _ _ _ _ _ _),↓In,↓Lq hd9,↓GZ,↓AB,XD,heldB,AL,XE];exact h9
       have heads:∃K tk,((pre=[]/\K=.nils/\tk=[])\/(pre≠[]/\K=.app (.own 61887499) (done.map Tm.enc)/\tk=[(61887499,.tok done.length 3)]))/\H=K0 v.op v.n K tk s2 nd2 e2:=by
        rcases hH with ⟨a,b⟩ | ⟨a,b⟩
        ·exact ⟨_,_,.inl ⟨a,rfl,rfl⟩,b⟩
        ·exact ⟨_,_,.inr ⟨a,rfl,rfl⟩,b⟩
       obtain ⟨K,tk,hK,rfl⟩:=heads;by_cases hbp:0<Ak v.op pre.length
       ·rw [if_pos hbp] at hkids;by_cases hxe:900000<x.env.length
        ·rw [if_pos hxe] at hkids;cases hkids
        ·rw [if_neg hxe] at hkids;have hbp':0<(Ak v.op pre.length:Int):=by omega
         cases hev1:AE f s2 e2 x.b (x.env++EZ u (Ak v.op pre.length)) with
         | none=>rw [hev1] at hkids;cases hkids
         | some q =>
         obtain ⟨y,s3,e3⟩:=q;rw [hev1] at hkids;have hB:=behind y s3 e3 hkids K tk hK;have hc:=(VF f).1 s2 e2 x.b _ y s3 e3 nd2 hev1 n (by omega);rw [Tv] at hc;have hdrop:∀(vals:List IV),vals.all Fg=true->∀k:Hp->Option (IV×Hp),Bk [] [61885445] vals (K0 v.op v.n K tk s2 nd2 e2) k=k (K0 v.op v.n K tk s2 nd2 e2):=by intro vals hv k;rcases hK with ⟨_,rfl,rfl⟩ | ⟨_,rfl,rfl⟩<;>simp only [↓XX,XY,↓reduceIte,seval,↓AB,XD,heldB,AL,XE,hv]
         simp only [EA,EB,Er,E5,Et,Ez,S59,↓XX,XY,↓reduceIte,seval,↓XV,hi,↓TU hg,↓Af hb,hbp',↓hdrop,↓AB,XD,heldB,AL,XE];refine A7 (Q:=fun r=>By r _ _) (fun k V H=>∃j,j+k=Ak v.op pre.length/\V=[.ptr (.ext 0) 0,.fv v.enc,iv u,iv d,.ptr (.own 61865984) 0,.ptr (.own 61874185) 0,iv pre.length,iv (Ak v.op pre.length),.fv x.enc,.fv (.sl ((x.env++EZ u j).map RV.enc)),iv j] /\
          H=K0 v.op v.n K tk s2 nd2 e2) ?_ n (Ak v.op pre.length) _ _ (by omega) ?_
         rotate_left
         ·exact ⟨0,by omega,by simp [EZ],rfl⟩
         rintro k2 V2 H2 rec2 ⟨j,hj,rfl,rfl⟩ hrec2;cases k2 with
         | zero =>
          have hjb:j=Ak v.op pre.length:=by omega
          subst hjb;simp only [EA,EB,GH,Er,E5,Et,Ez,S59,↓XX,XY,↓reduceIte,seval,↓XV,Int.lt_irrefl,↓IL hc (CB _ _ _ _ _ _)];exact hB
         | succ k2 =>
          have hjb:(j:Int)<Ak v.op pre.length:=by omega
          have hwj:BF (u+(j:Int))=u+j:=by rw [Ax]<;>omega
          have hwj1:BF ((j:Int)+1)=((j+1:Nat):Int):=by rw [Ax]<;>omega
          have hp:=O6 (n:=n) (by omega) (x.env++EZ u j) [RV.var (u+j)] (by simp) (by simp [Cx];omega);simp only [AhW,AhV,Vk] at hp;rw [List.append_assoc,<- Jp] at hp;have hbv:=fun s h k=>Q4 (RV.var (u+j)) s h k;simp only [Vk] at hbv;have hfz:=fun s h (k:KT (IV×Hp))=>Uj (cells:=[.fv (.int .i64 1),iv (u+j),.nils,.nils,.fv (.int .i64 0),.fv (.int .i64 0),.nils]) (fc:=[.int .i64 1,.int .i64 (u+j),.sl [],.sl [],.int .i64 0,.int .i64 0,.sl []]) rfl (by simp) s h k;have h9:=hrec2 k2 _ _ (by omega) ⟨j+1,by omega,rfl,rfl⟩;simp only [EA,EB,GH,Er,E5,Et,Ez,S59,↓XX,XY,↓reduceIte,seval,↓XV,hjb,hwj,hwj1,↓hfz,↓hbv,↓Af hp,↓hdrop,↓AB,XD,heldB,AL,XE];exact h9
       ·rw [if_neg hbp] at hkids;have hbp':¬ 0<(Ak v.op pre.length:Int):=by omega
        have hB:=behind x s2 e2 hkids K tk hK;simp only [EA,EB,Er,E5,Et,Ez,S59,↓XX,XY,↓reduceIte,seval,↓XV,hi,↓TU hg,↓Af hb,hbp',↓AB,XD,heldB,AL,XE];exact hB
  ·have e5:(if e=0/\(3000<nd+1\/120<d) then (5:Int) else e)=e:=if_neg (by omega);rw [e5,if_pos he] at hev;simp only [AhQ,AhR] at hev;obtain ⟨rfl,rfl,rfl,rfl⟩:=hev;simp only [↓bU,↓XX,XY,↓reduceIte,seval,wnd,he];exact EN rfl _ _
theorem lA:∀f,TB f:=by
 intro f
 induction f with
 | zero=>intro s nd e v u d t s' nd' e' h;rw [AW] at h;cases h
 | succ f ih=>exact Xs ih
theorem Wt {α:Type}:∀(r:Rd α) (h:Hp) (l:List Ref) {x:α} {l':List Ref},r.runLog h l=some (x,l')->r.run h=some x
 | .ret a,h,l,x,l',e=>by simp only [Rd.runLog,AhQ,AhR] at e;rw [e.1];rfl
 | .fail,_,_,_,_,e=>by cases e
 | .get r k,h,l,x,l',e=>by
  simp only [Rd.runLog] at e;simp only [Rd.run];cases hg:h.get r with
  | none=>rw [hg] at e;cases e
  | some b=>rw [hg] at e;exact Wt (k b) h _ e
def Jw {v:IV} {own:List (Nat×Blk)} {ext:List Blk} {w:FV} (h:∃u lg,∀(e:Option (IV×Hp)) (K:FV->List (Ref×Blk)->List Ref->Option (IV×Hp)),Dx 12 v ⟨own,ext⟩ [] e K=K w u lg):∃u,(C2 4096 v).run ⟨own,ext⟩=some (w,u):=by
 obtain ⟨u,lg,hz⟩:=h;rcases LW 12 v ⟨own,ext⟩ [] none (fun w _ _=>some (IV.fv w,(⟨[],[]⟩:Hp))) (.fv w,⟨[],[]⟩) (hz ..) with h | ⟨x,u',lg',h1,_,h2⟩
 ·cases h
 ·simp only [AhQ,AhR,IV.fv.injEq,and_true] at h2;subst h2;exact ⟨u',Wt _ _ _ (h1 4096 (by decide))⟩
theorem LS:∀l:List FV,IV.refs.refsL (l.map .fv)=[]
 | []=>rfl
 | v::l=>by
  simp only [AhW,IV.refs.refsL,IV.refs,LS l,List.append_nil]
theorem H7:∀(args:List IV) (ks:List Bool) {vs:List FV},(∀b∈ks,b=false)->Bv args=some vs->Bz ks args=.ret (vs.map .fv,[],[])
 | [],ks,vs,_,hz=>by cases hz;cases ks<;>rfl
 | v::l,[],vs,_,hz=>G4 (v::l) hz
 | v::l,b::ks,vs,hk,hz=>by
  have hb:=hk b List.mem_cons_self;subst hb;simp only [Bv] at hz;cases h1:Bc v with
  | none=>rw [h1] at hz;cases hz
  | some x =>
   rw [h1] at hz;cases h2:Bv l with
   | none=>rw [h2] at hz;cases hz
   | some ys =>rw [h2] at hz;cases hz;simp only [Bz,frp 4096 (by omega) h1,Rd.bind,H7 l ks (fun c hc=>hk c (List.mem_cons_of_mem _ hc)) h2];rfl
def PM (s:Nat) (ext:List Blk):Ni 400 [.own s] 0 ext=false:=rfl
def ZA {ks:List Bool} (hks:∀b∈ks,b=false) {ih:Ah} {f:FuncId} {args:List IV} {vs:List FV} {w:FV} {s:Nat} {st st':List FV} {own:List (Nat×Blk)} (hz:Bv args=some vs) (hl:Ap s own=some (.row (st.map .fv) false))
  (hr:By (ih f (.ptr (.ext 0) 0::vs.map .fv) ⟨[],[.row (st.map .fv) false]⟩) w [.row (st'.map .fv) false]) (k:KT (IV×Hp)) :
  AY (true::ks) false false ih f (.ptr (.own s) 0::args) ⟨own,[]⟩ k=k (.fv w) ⟨AP s (.row (st'.map .fv) false) own,[]⟩ [.own s] [.own s]:=by
 obtain ⟨v,own',e1,hfz⟩:=hr;obtain ⟨u,hu⟩:=Jw hfz;have hD:D9 (true::ks) false false ih f (.ptr (.own s) 0::args) ⟨own,[]⟩ k=k (.fv w) ⟨AP s (.row (st'.map .fv) false) own,[]⟩ [.own s] [.own s]:=by
  have h1:Bz (true::ks) (.ptr (.own s) 0::args)=.ret (.ptr (.own s) 0::vs.map .fv,[.own s],[]):=by simp only [Bz,H7 args ks hks hz,Rd.bind,IV.refs];rfl
  have h2:(B3 4096 [.own s] []).runLog ⟨own,[]⟩ []=some ([(.own s,.row (st.map .fv) false)],[.own s]):=by
   show (B3 (4094+1+1) [.own s] []).runLog ⟨own,[]⟩ []=_
   simp only [B3,hasRef,Bool.false_eq_true,if_false,Rd.runLog,Hp.get,hl,Blk.refs,LS,List.append_nil,List.nil_append]
  have h3:IV.ren.renL (Dz [(.own s,.row (st.map .fv) false)]) (.ptr (.own s) 0::vs.map .fv)=some (.ptr (.ext 0) 0::vs.map .fv):=by simp only [IV.ren.renL,IV.ren,Dz,Cr,if_true,AhT,Option.bind_some,DM]
  have h4:Bf (Dz [(.own s,.row (st.map .fv) false)]) [.row (st.map .fv) false]=some [.row (st.map .fv) false]:=by simp only [Bf,Blk.ren,DM,AhT,Option.bind_some]
  have h5:Bf (CC [(.own s,.row (st.map .fv) false)]) [.row (st'.map .fv) false]=some [.row (st'.map .fv) false]:=by simp only [Bf,Blk.ren,DM,AhT,Option.bind_some]
  unfold D9;simp only [h1,Rd.runLog,h2,h3,AhW,AhV,h4,CR (Ck 3),CR Cw,Em,Bool.false_eq_true,if_false,e1,hu,AhT,IV.ren,h5,AhU,List.length_nil,BA,List.all_nil,and_self,if_true,List.nil_append,List.zip_cons_cons,List.zip_nil_left];have h6:laid ⟨own,[]⟩ [(.own s,.row (st'.map .fv) false)]=some ⟨AP s (.row (st'.map .fv) false) own,[]⟩:=by simp only [laid,Hp.get,hl,Hp.set]
  simp only [h6,Ie,Ck]
 rw [J2,Su,Pr,L9 0 args _ _ _ _ ks hks hz];simp only [QA,PM,cond_false];exact hD
def wQ {ih:Ah} {f:FuncId} {x y:IV} {vx vy w:FV} {s:Nat} {a b c a' b' c':FV} {own own':List (Nat×Blk)} (hr:By (ih f [.ptr (.ext 0) 0,.fv vx,.fv vy] ⟨[],[.row [.fv a,.fv b,.fv c] false]⟩) w [.row [.fv a',.fv b',.fv c'] false])
  (hx:Bc x=some vx) (hy:Bc y=some vy) (hl:Ap s own=some (.row [.fv a,.fv b,.fv c] false)) (ho:AP s (.row [.fv a',.fv b',.fv c'] false) own=own') (k:KT (IV×Hp)) :
  AY [true,false,false] false false ih f [.ptr (.own s) 0,x,y] ⟨own,[]⟩ k=k (.fv w) ⟨own',[]⟩ [.own s] [.own s]:=by
 subst ho;exact ZA (ks:=[false,false]) (by simp) (st:=[a,b,c]) (st':=[a',b',c']) (SZ hx hy) hl hr k
def uG {ih:Ah} {f:FuncId} {x y z:IV} {vx vy vz w:FV} {s:Nat} {a b c a' b' c':FV} {own own':List (Nat×Blk)} (hr:By (ih f [.ptr (.ext 0) 0,.fv vx,.fv vy,.fv vz] ⟨[],[.row [.fv a,.fv b,.fv c] false]⟩) w [.row [.fv a',.fv b',.fv c'] false])
  (hx:Bc x=some vx) (hy:Bc y=some vy) (hz:Bc z=some vz) (hl:Ap s own=some (.row [.fv a,.fv b,.fv c] false)) (ho:AP s (.row [.fv a',.fv b',.fv c'] false) own=own') (k:KT (IV×Hp)) :
  AY [true,false,false,false] false false ih f [.ptr (.own s) 0,x,y,z] ⟨own,[]⟩ k=k (.fv w) ⟨own',[]⟩ [.own s] [.own s]:=by
 subst ho;exact ZA (ks:=[false,false,false]) (by simp) (st:=[a,b,c]) (st':=[a',b',c']) (Ye hx hy hz) hl hr k
def iV {ih:Ah} {f:FuncId} {x y:IV} {vx vy w:FV} {s:Nat} {a b a' b':FV} {own own':List (Nat×Blk)} (hr:By (ih f [.ptr (.ext 0) 0,.fv vx,.fv vy] ⟨[],[.row [.fv a,.fv b] false]⟩) w [.row [.fv a',.fv b'] false])
  (hx:Bc x=some vx) (hy:Bc y=some vy) (hl:Ap s own=some (.row [.fv a,.fv b] false)) (ho:AP s (.row [.fv a',.fv b'] false) own=own') (k:KT (IV×Hp)) :
  AY [true,false,false] false false ih f [.ptr (.own s) 0,x,y] ⟨own,[]⟩ k=k (.fv w) ⟨own',[]⟩ [.own s] [.own s]:=by
 subst ho;exact ZA (ks:=[false,false]) (by simp) (st:=[a,b]) (st':=[a',b']) (SZ hx hy) hl hr k
def AI (f:Nat) (t:Tm):Option (Tm×Int):=match AE f 0 0 t [] with
 | none=>none
 | some (v,s,e)=>match AW f s 0 e v 0 1 with
  | none=>none
  | some (u,_,_,e)=>some (if e≠0 then (.z,e) else (u,0))
def Nf {n:Nat} (hn:0<n) (e:Int):Bq (SS dt n 20 [iv e] ⟨[],[]⟩) (.bool (decide (e=17) || decide (e=5))):=by
 obtain ⟨n,rfl⟩:=psc n (by omega);rw [c20];by_cases h1:e=17
 ·simp only [S20,↓XX,XY,↓reduceIte,seval,h1,Bool.true_or];exact Au _ _
 ·simp only [S20,↓XX,XY,↓reduceIte,seval,h1,Bool.false_or];exact Au _ _
theorem Yd (f:Nat) (t u:Tm) (e:Int) (h:AI f t=some (u,e)) (n:Nat) (hn:f+2<=n):Bq (SS dt n 24 [.fv t.enc] ⟨[],[]⟩) (.tuple [u.enc,.int .i64 e]):=by
 obtain ⟨n,rfl⟩:=psc n (by omega);rw [c24];unfold AI at h;cases he:AE f 0 0 t [] with
 | none=>rw [he] at h;cases h
 | some q =>
 obtain ⟨v,s1,e1⟩:=q;rw [he] at h;simp only at h;cases hr:AW f s1 0 e1 v 0 1 with
 | none=>rw [hr] at h;cases h
 | some q =>
 obtain ⟨w,s2,nd2,e2⟩:=q;rw [hr] at h;simp only [AhQ] at h;have h1:=(VF f).1 0 0 t [] v s1 e1 0 he n (by omega);have h2:=lA f s1 0 e1 v 0 1 w s2 nd2 e2 hr n (by omega);obtain ⟨op,m,ks⟩:=t;rw [Am] at h1 ⊢;simp only [AhV] at h1;have c1:=fun k=>wQ (k:=k) h1 (x:=.fv (.agg [.int .i64 op,.int .i64 m,.sl (ks.map Tm.enc)])) (y:=.nils) (s:=25166849) rfl rfl
  (own:=[(25165824,.row [iv op,iv m,.fv (.sl (ks.map Tm.enc))] false),(25165825,.row [iv 0,iv 0,.nils] false),(25166849,.row [iv 0,iv 0,iv 0] false)])
  (own':=[(25165824,.row [iv op,iv m,.fv (.sl (ks.map Tm.enc))] false),(25165825,.row [iv 0,iv 0,.nils] false),(25166849,.row [iv s1,iv 0,iv e1] false)]) (by simp [Ap]) (by simp [AP])
 have c2:=fun k=>uG (k:=k) h2 (x:=.fv v.enc) (y:=iv 0) (z:=iv 1) (s:=25166849) rfl rfl rfl
  (own:=[(25165824,.row [iv op,iv m,.fv (.sl (ks.map Tm.enc))] false),(25165825,.row [iv 0,iv 0,.nils] false),(25166849,.row [iv s1,iv 0,iv e1] false)])
  (own':=[(25165824,.row [iv op,iv m,.fv (.sl (ks.map Tm.enc))] false),(25165825,.row [iv 0,iv 0,.nils] false),(25166849,.row [iv s2,iv nd2,iv e2] false)]) (by simp [Ap]) (by simp [AP])
 obtain ⟨wo,wn,wk⟩:=w;rw [Am] at c2;by_cases hz:e2=0
 ·rw [if_neg (by simp [hz])] at h;simp only [AhR] at h;obtain ⟨rfl,rfl⟩:=h;subst hz;simp only [S24,↓XX,XY,↓reduceIte,seval,↓c1,↓c2,Am];exact Au _ _
 ·rw [if_pos hz] at h;simp only [AhR] at h;obtain ⟨rfl,rfl⟩:=h;simp only [S24,↓XX,XY,↓reduceIte,seval,↓c1,↓c2,hz,Tm.z,Am];exact QY rfl (by simp) _
theorem Dk {ev ev':Int->Int->Tm->Option (RV×Int×Int)} (h:∀s e t r,ev s e t=some r->ev' s e t=some r) (op:Int) (env:List RV):∀(l:List Tm) (i:Nat) (s e:Int) (r:List RV×Int×Int),Be ev op env i l s e=some r->Be ev' op env i l s e=some r
 | [],i,s,e,r,hr=>hr
 | t::l,i,s,e,r,hr=>by
  simp only [Be] at hr ⊢;by_cases hb:0<Ak op i
  ·rw [if_pos hb] at hr ⊢;cases hk:Be ev op env (i+1) l s e with
   | none=>rw [hk] at hr;cases hr
   | some q=>rw [hk] at hr;rw [Dk h op env l (i+1) s e q hk];exact hr
  ·rw [if_neg hb] at hr ⊢;cases he:ev s e t with
   | none=>rw [he] at hr;cases hr
   | some q =>
    obtain ⟨v,s1,e1⟩:=q;rw [he] at hr;rw [h _ _ _ _ he];simp only at hr ⊢;cases hk:Be ev op env (i+1) l s1 e1 with
    | none=>rw [hk] at hr;cases hr
    | some q=>rw [hk] at hr;rw [Dk h op env l (i+1) s1 e1 q hk];exact hr
theorem ND:∀f,(∀s e t env r,AE f s e t env=some r->AE (f+1) s e t env=some r)/\(∀s e v r,headR f s e v=some r->headR (f+1) s e v=some r):=by
 intro f
 induction f with
 | zero=>exact ⟨(by intro s e t env r h;rw [AE] at h;cases h),(by intro s e v r h;rw [headR] at h;cases h)⟩
 | succ f ih =>
  refine ⟨?_,?_⟩
  ·intro s e t env r h;obtain ⟨op,m,ks⟩:=t;rw [AE] at h ⊢;split at h
   ·rename_i h0;rw [if_pos h0];exact h
   ·rename_i h0;rw [if_neg h0];split at h
    ·cases h
    ·rename_i h1;rw [if_neg h1];split at h
     ·rename_i h2;rw [if_pos h2];exact h
     ·rename_i h2;rw [if_neg h2];split at h
      ·cases h
      ·rename_i h3;rw [if_neg (by omega)];split at h
       ·cases h
       ·rename_i h4;rw [if_neg h4];split at h
        ·cases h
        ·rename_i vs s1 e1 hk;rw [Dk (ev':=fun s e t=>AE (f+1) s e t env) (fun s e t r=>ih.1 s e t env r) op env ks 0 s e _ hk];exact ih.2 _ _ _ _ h
  ·intro s e v r h;rw [headR] at h ⊢;by_cases h0:e≠0
   ·rw [if_pos h0] at h ⊢;exact h
   rw [if_neg h0] at h ⊢;by_cases h1:s<0\/1000000<s
   ·rw [if_pos h1] at h;cases h
   rw [if_neg h1] at h ⊢;by_cases h5:v.op=5
   ·rw [if_pos h5] at h ⊢;cases hk:v.k[0]? with
    | none=>rw [hk] at h;cases h
    | some k0 =>
     rw [hk] at h;simp only at h ⊢;by_cases h4:k0.op=4
     ·rw [if_pos h4] at h ⊢;by_cases hq:s+1<=1000
      ·rw [if_pos hq] at h ⊢;cases hc:k0.k[1]? with
       | none=>rw [hc] at h;cases h
       | some c =>
        cases hx:v.k[1]? with
        | none=>rw [hc,hx] at h;cases h
        | some x =>
         rw [hc,hx] at h;simp only at h ⊢;by_cases hl:900000<c.env.length
         ·rw [if_pos hl] at h;cases h
         ·rw [if_neg hl] at h ⊢;exact ih.1 _ _ _ _ _ h
      ·rw [if_neg hq] at h ⊢;exact h
     ·rw [if_neg h4] at h ⊢;exact h
   rw [if_neg h5] at h ⊢;by_cases h89:v.op=8\/v.op=9
   ·rw [if_pos h89] at h ⊢;exact h
   rw [if_neg h89] at h ⊢;by_cases h30:v.op=30
   ·rw [if_pos h30] at h ⊢;exact h
   rw [if_neg h30] at h ⊢;by_cases h19:v.op=19
   ·rw [if_pos h19] at h ⊢;exact h
   rw [if_neg h19] at h ⊢;by_cases h13:v.op=13
   ·rw [if_pos h13] at h ⊢;cases hk0:v.k[0]? with
    | none=>rw [hk0] at h;cases h
    | some k0 =>
    cases hk1:v.k[1]? with
    | none=>rw [hk0,hk1] at h;cases h
    | some k1 =>
    cases hk2:v.k[2]? with
    | none=>rw [hk0,hk1,hk2] at h;cases h
    | some k2 =>
    cases hk3:v.k[3]? with
    | none=>rw [hk0,hk1,hk2,hk3] at h;cases h
    | some k3 =>
    rw [hk0,hk1,hk2,hk3] at h;simp only at h ⊢;by_cases h11:k3.op=11
    ·rw [if_pos h11] at h ⊢;exact h
    rw [if_neg h11] at h ⊢;by_cases h12:k3.op=12
    ·rw [if_pos h12] at h ⊢;by_cases hq:s+1<=1000
     ·rw [if_pos hq] at h ⊢;cases hx:k3.k[0]? with
      | none=>rw [hx] at h;cases h
      | some x =>
       rw [hx] at h;simp only at h ⊢;cases hd:headR f (s+1) 0 (.node 13 0 [k0,k1,k2,x]) with
       | none=>rw [hd] at h;cases h
       | some q =>
        obtain ⟨w,s2,e2⟩:=q;rw [hd] at h;rw [ih.2 _ _ _ _ hd];simp only at h ⊢;by_cases hl:900000<k2.env.length
        ·rw [if_pos hl] at h;cases h
        ·rw [if_neg hl] at h ⊢;exact ih.1 _ _ _ _ _ h
     ·rw [if_neg hq] at h ⊢;exact h
    ·rw [if_neg h12] at h ⊢;exact h
   rw [if_neg h13] at h ⊢;exact h
theorem B6 {f g:Nat} (hfg:f<=g) {s e:Int} {t:Tm} {env:List RV} {r:RV×Int×Int} (h:AE f s e t env=some r):AE g s e t env=some r:=by
 induction hfg with
 | refl=>exact h
 | step _ ih=>exact (ND _).1 _ _ _ _ _ ih
theorem Qg {f g:Nat} (hfg:f<=g) {s e:Int} {v:RV} {r:RV×Int×Int} (h:headR f s e v=some r):headR g s e v=some r:=by
 induction hfg with
 | refl=>exact h
 | step _ ih=>exact (ND _).2 _ _ _ _ ih
def ar (op:Int):Option Nat :=
 if op=0\/op=1\/op=2\/op=10\/op=11\/op=14\/op=15\/op=25 then some 0
 else if op=8\/op=9\/op=12\/op=18\/op=19\/op=23\/op=24\/op=30 then some 1
 else if op=3\/op=4\/op=5\/op=6\/op=16\/op=17\/op=20\/op=21\/op=22\/op=26\/op=28\/op=29 then some 2
 else if op=7\/op=27 then some 3 else if op=13 then some 4 else none
def BW (op n:Int):Prop:=if op=2 then 0<=n/\n<=2 else if op=26 then 0<=n/\n<=4 else if op=25 then -2305843009213693952<=n/\n<=2305843009213693952 else n=0
mutual
def Tm.sc:Tm->Nat->Prop
 | .mk op n ks,k=>ar op=some ks.length/\(if op=1 then 0<=n/\n<k else BW op n)/\Tm.scL op 0 ks k
def Tm.scL:Int->Nat->List Tm->Nat->Prop
 | _,_,[],_=>True
 | op,i,t::l,k=>t.sc (k+Ak op i)/\Tm.scL op (i+1) l k
end
mutual
def Tm.bd:Tm->Nat
 | .mk op _ ks=>Tm.bdL op 0 ks
def Tm.bdL:Int->Nat->List Tm->Nat
 | _,_,[]=>0
 | op,i,t::l=>max (Ak op i+t.bd) (Tm.bdL op (i+1) l)
end
section
variable (k0 D:Nat) (L:Int)
mutual
def RV.ok:RV->Prop
 | .mk op n k _ _=>if op=1 then -(k0:Int)<=n/\n<L/\k=[] else ar op=some k.length/\BW op n/\RV.okL op 0 k
def RV.okL:Int->Nat->List RV->Prop
 | _,_,[]=>True
 | op,i,v::l=>(if 0<Ak op i then RV.okC (Ak op i) v else RV.ok v)/\RV.okL op (i+1) l
def RV.okC:Nat->RV->Prop
 | b,.mk _ _ _ env bd=>RV.okE env/\bd.sc (k0+env.length+b)/\env.length+b+bd.bd<=D
def RV.okE:List RV->Prop
 | []=>True
 | v::l=>RV.ok v/\RV.okE l
end
end
end Idl
end Go.Proofs.YtnenpcghegcnhaaGreat
namespace Go.Proofs.YtnenpcghegcnhaaGreat
namespace Idl
theorem QV {op:Int} {n:Nat} (h:ar op=some n):n<=4:=by
 unfold ar at h
 repeat' split at h
 all_goals first | (simp only [AhQ] at h;omega) | cases h
section
variable {k0 D:Nat} {L:Int}
theorem V8:∀{l:List RV},RV.okE k0 D L l->∀{i:Nat} {v:RV},l[i]?=some v->RV.ok k0 D L v
 | [],_,i,v,h=>by simp at h
 | a::l,ho,i,v,h=>by
  rw [RV.okE] at ho;cases i with
  | zero=>simp at h;subst h;exact ho.1
  | succ i=>simp at h;exact V8 ho.2 h
theorem Jd:∀{l l':List RV},RV.okE k0 D L l->RV.okE k0 D L l'->RV.okE k0 D L (l++l')
 | [],l',_,h=>h
 | a::l,l',h,h'=>by
  rw [RV.okE] at h;rw [List.cons_append,RV.okE];exact ⟨h.1,Jd h.2 h'⟩
theorem ON {v:RV} (h:RV.ok k0 D L v):RV.okE k0 D L [v]:=by rw [RV.okE,RV.okE];exact ⟨h,trivial⟩
theorem lE {v w:RV} (h:RV.ok k0 D L v) (h':RV.ok k0 D L w):RV.okE k0 D L [v,w]:=by rw [RV.okE];exact ⟨h,ON h'⟩
theorem Jv:∀{l:List RV} {op:Int} {i:Nat},RV.okL k0 D L op i l->∀{j:Nat} {v:RV},l[j]?=some v->(if 0<Ak op (i+j) then RV.okC k0 D L (Ak op (i+j)) v else RV.ok k0 D L v)
 | [],op,i,_,j,v,h=>by simp at h
 | a::l,op,i,ho,j,v,h=>by
  rw [RV.okL] at ho;cases j with
  | zero=>simp at h;subst h;exact ho.1
  | succ j =>
   simp at h
   have:=Jv ho.2 h
   rw [show i+1+j=i+(j+1) by omega] at this
   exact this
theorem VJ {op n:Int} {k:List RV} (h1:op≠1) (ha:ar op=some k.length) (hn:BW op n) (hk:RV.okL k0 D L op 0 k):RV.ok k0 D L (.node op n k):=by rw [RV.node,RV.ok,if_neg h1];exact ⟨ha,hn,hk⟩
theorem E6 {v:RV} (h:RV.ok k0 D L v) (h1:v.op≠1):ar v.op=some v.k.length/\BW v.op v.n/\RV.okL k0 D L v.op 0 v.k:=by obtain ⟨op,n,k,env,b⟩:=v;rw [RV.ok] at h;have h1:op≠1:=h1;rw [if_neg h1] at h;exact h
theorem PD:RV.ok k0 D L .zero:=by rw [RV.zero,RV.ok,if_neg (by decide)];exact ⟨by decide,by simp [BW],by rw [RV.okL];trivial⟩
theorem Fx {v:RV} (h:RV.ok k0 D L v) (h1:v.op≠1) {j:Nat} (hj:j<v.k.length) (hb:Ak v.op j=0):∃w,v.k[j]?=some w/\RV.ok k0 D L w:=by
 obtain ⟨_,_,hl⟩:=E6 h h1;refine ⟨v.k[j],List.getElem?_eq_getElem hj,?_⟩
 have:=Jv hl (List.getElem?_eq_getElem hj)
 rw [Nat.zero_add,if_neg (by omega)] at this;exact this
theorem Tx {v:RV} (h:RV.ok k0 D L v) (h1:v.op≠1) {j:Nat} (hj:j<v.k.length) (hb:0<Ak v.op j):∃w,v.k[j]?=some w/\RV.okE k0 D L w.env/\w.b.sc (k0+w.env.length+Ak v.op j)/\w.env.length+Ak v.op j+w.b.bd<=D:=by
 obtain ⟨_,_,hl⟩:=E6 h h1;refine ⟨v.k[j],List.getElem?_eq_getElem hj,?_⟩
 have:=Jv hl (List.getElem?_eq_getElem hj)
 rw [Nat.zero_add,if_pos hb] at this;generalize v.k[j]=w at this ⊢;obtain ⟨op,n,k,env,b⟩:=w;rw [RV.okC] at this;exact this
def Qi (s s' e':Int):Prop:=s<=s'/\(e'=0/\s'<=1000\/e'=17/\s'=1001)
def YC (k0 D:Nat) (L:Int) (c:Nat):Prop:=∀(v:RV) (s:Int),v.op≠1->RV.ok k0 D L v->0<=s->s<=1000->1000<=s+c->∃f w s' e',headR f s 0 v=some (w,s',e')/\RV.ok k0 D L w/\Qi s s' e'
def vQ (k0 D:Nat) (L:Int) (c:Nat):Prop:=∀(t:Tm) (env:List RV) (s:Int),RV.okE k0 D L env->t.sc (k0+env.length)->env.length+t.bd<=D->0<=s->s<=1000->1000<=s+c->∃f v s' e',AE f s 0 t env=some (v,s',e')/\RV.ok k0 D L v/\Qi s s' e'
theorem MU (s e:Int) (h:e≠0) (t:Tm) (env:List RV):AE 1 s e t env=some (.zero,s,e):=by obtain ⟨op,m,ks⟩:=t;rw [AE,if_pos h]
theorem bB {c:Nat} (h:vQ k0 D L c) {t:Tm} {env:List RV} {s e:Int} (h1:RV.okE k0 D L env) (h2:t.sc (k0+env.length)) (h3:env.length+t.bd<=D) (h0:0<=s) (he:e=0/\s<=1000\/e=17/\s=1001) (hc:1000<=s+c) :
  ∃f v s' e',AE f s e t env=some (v,s',e')/\RV.ok k0 D L v/\Qi s s' e':=by
 rcases he with ⟨rfl,hs⟩ | ⟨rfl,hs⟩
 ·exact h t env s h1 h2 h3 h0 hs hc
 ·exact ⟨1,_,_,_,MU s 17 (by decide) t env,PD,by omega,.inr ⟨rfl,hs⟩⟩
theorem NT (hD:D<=900000) (c:Nat) (he:∀c',c=c'+1->vQ k0 D L c') (hh:∀c',c=c'+1->YC k0 D L c'):YC k0 D L c:=by
 intro v s h1 ho hs0 hs1 hsc;obtain ⟨ha,hn,hl⟩:=E6 ho h1;have stop:Qi s s 0:=⟨by omega,.inl ⟨rfl,hs1⟩⟩;by_cases h5:v.op=5
 ·have hlen:v.k.length=2:=by rw [h5] at ha;simpa [ar] using ha.symm
  obtain ⟨k0',hk0,ok0⟩:=Fx ho h1 (j:=0) (by omega) (by rw [h5];rfl);obtain ⟨k1,hk1,ok1⟩:=Fx ho h1 (j:=1) (by omega) (by rw [h5];rfl);by_cases h4:k0'.op=4
  ·by_cases hq:s+1<=1000
   ·obtain ⟨c',rfl⟩:∃c',c=c'+1:=⟨c - 1,by omega⟩;obtain ⟨ha4,_,_⟩:=E6 ok0 (by omega);have hlen4:k0'.k.length=2:=by rw [h4] at ha4;simpa [ar] using ha4.symm
    obtain ⟨w,hw,w1,w2,w3⟩:=Tx ok0 (by omega) (j:=1) (by omega) (by rw [h4];decide);have hb1:Ak k0'.op 1=1:=by rw [h4];rfl
    rw [hb1] at w2 w3;obtain ⟨f,x,s',e',hx,hxo,hxe⟩:=he c' rfl w.b (w.env++[k1]) (s+1) (Jd w1 (ON ok1)) (by simpa [Nat.add_assoc] using w2) (by simp;omega) (by omega) hq (by omega);refine ⟨f+1,x,s',e',?_,hxo,?_⟩
    ·rw [headR,if_neg (by decide),if_neg (by omega),if_pos h5,hk0];simp only [h4,hq,hw,hk1,if_true];rw [if_neg (by omega)];exact hx
    ·exact ⟨by have:=hxe.1;omega,hxe.2⟩
   ·refine ⟨1,v,s+1,17,?_,ho,by omega,.inr ⟨rfl,by omega⟩⟩;rw [headR,if_neg (by decide),if_neg (by omega),if_pos h5,hk0];simp only [h4,hq,if_true,if_false]
  ·refine ⟨1,v,s,0,?_,ho,stop⟩;rw [headR,if_neg (by decide),if_neg (by omega),if_pos h5,hk0];simp only [h4,if_false]
 by_cases h89:v.op=8\/v.op=9
 ·have hlen:v.k.length=1:=by rcases h89 with h | h<;>(rw [h] at ha;simpa [ar] using ha.symm)
  obtain ⟨k0',hk0,ok0⟩:=Fx ho h1 (j:=0) (by omega) (by rcases h89 with h | h<;>(rw [h];rfl));by_cases h7:k0'.op=7
  ·by_cases hq:s+1<=1000
   ·obtain ⟨ha7,_,_⟩:=E6 ok0 (by omega);have hlen7:k0'.k.length=3:=by rw [h7] at ha7;simpa [ar] using ha7.symm
    obtain ⟨x,hx,okx⟩:=Fx ok0 (by omega) (j:=(1+v.op - 8).toNat) (by omega) (by rw [h7];rcases h89 with h | h<;>(rw [h];rfl));refine ⟨1,x,s+1,0,?_,okx,by omega,.inl ⟨rfl,hq⟩⟩;rw [headR,if_neg (by decide),if_neg (by omega),if_neg h5,if_pos h89,hk0];simp only [h7,hq,if_true,hx,AhT]
   ·refine ⟨1,v,s+1,17,?_,ho,by omega,.inr ⟨rfl,by omega⟩⟩;rw [headR,if_neg (by decide),if_neg (by omega),if_neg h5,if_pos h89,hk0];simp only [h7,hq,if_true,if_false]
  ·refine ⟨1,v,s,0,?_,ho,stop⟩;rw [headR,if_neg (by decide),if_neg (by omega),if_neg h5,if_pos h89,hk0];simp only [h7,if_false]
 by_cases h30:v.op=30
 ·have hlen:v.k.length=1:=by rw [h30] at ha;simpa [ar] using ha.symm
  obtain ⟨k0',hk0,ok0⟩:=Fx ho h1 (j:=0) (by omega) (by rw [h30];rfl);by_cases h7:k0'.op=19
  ·by_cases hq:s+1<=1000
   ·obtain ⟨ha7,_,_⟩:=E6 ok0 (by omega);have hlen7:k0'.k.length=1:=by rw [h7] at ha7;simpa [ar] using ha7.symm
    obtain ⟨x,hx,okx⟩:=Fx ok0 (by omega) (j:=0) (by omega) (by rw [h7];rfl);refine ⟨1,x,s+1,0,?_,okx,by omega,.inl ⟨rfl,hq⟩⟩;rw [headR,if_neg (by decide),if_neg (by omega),if_neg h5,if_neg h89,if_pos h30,hk0];simp only [h7,hq,if_true,hx,AhT]
   ·refine ⟨1,v,s+1,17,?_,ho,by omega,.inr ⟨rfl,by omega⟩⟩;rw [headR,if_neg (by decide),if_neg (by omega),if_neg h5,if_neg h89,if_pos h30,hk0];simp only [h7,hq,if_true,if_false]
  ·refine ⟨1,v,s,0,?_,ho,stop⟩;rw [headR,if_neg (by decide),if_neg (by omega),if_neg h5,if_neg h89,if_pos h30,hk0];simp only [h7,if_false]
 by_cases h19:v.op=19
 ·have hlen:v.k.length=1:=by rw [h19] at ha;simpa [ar] using ha.symm
  obtain ⟨k0',hk0,ok0⟩:=Fx ho h1 (j:=0) (by omega) (by rw [h19];rfl);by_cases h7:k0'.op=30
  ·by_cases hq:s+1<=1000
   ·obtain ⟨ha7,_,_⟩:=E6 ok0 (by omega);have hlen7:k0'.k.length=1:=by rw [h7] at ha7;simpa [ar] using ha7.symm
    obtain ⟨x,hx,okx⟩:=Fx ok0 (by omega) (j:=0) (by omega) (by rw [h7];rfl);refine ⟨1,x,s+1,0,?_,okx,by omega,.inl ⟨rfl,hq⟩⟩;rw [headR,if_neg (by decide),if_neg (by omega),if_neg h5,if_neg h89,if_neg h30,if_pos h19,hk0];simp only [h7,hq,if_true,hx,AhT]
   ·refine ⟨1,v,s+1,17,?_,ho,by omega,.inr ⟨rfl,by omega⟩⟩;rw [headR,if_neg (by decide),if_neg (by omega),if_neg h5,if_neg h89,if_neg h30,if_pos h19,hk0];simp only [h7,hq,if_true,if_false]
  ·refine ⟨1,v,s,0,?_,ho,stop⟩;rw [headR,if_neg (by decide),if_neg (by omega),if_neg h5,if_neg h89,if_neg h30,if_pos h19,hk0];simp only [h7,if_false]
 by_cases h13:v.op=13
 ·have hlen:v.k.length=4:=by rw [h13] at ha;simpa [ar] using ha.symm
  obtain ⟨a0,hk0,c0⟩:=Tx ho h1 (j:=0) (by omega) (by rw [h13];decide);obtain ⟨a1,hk1,ok1⟩:=Fx ho h1 (j:=1) (by omega) (by rw [h13];rfl);obtain ⟨a2,hk2,w1,w2,w3⟩:=Tx ho h1 (j:=2) (by omega) (by rw [h13];decide);obtain ⟨a3,hk3,ok3⟩:=Fx ho h1 (j:=3) (by omega) (by rw [h13];rfl);have hb2:Ak v.op 2=2:=by rw [h13];rfl
  rw [hb2] at w2 w3;by_cases h11:a3.op=11
  ·by_cases hq:s+1<=1000
   ·refine ⟨1,a1,s+1,0,?_,ok1,by omega,.inl ⟨rfl,hq⟩⟩;rw [headR,if_neg (by decide),if_neg (by omega),if_neg h5,if_neg h89,if_neg h30,if_neg h19,if_pos h13,hk0,hk1,hk2,hk3];simp only [h11,hq,if_true]
   ·refine ⟨1,v,s+1,17,?_,ho,by omega,.inr ⟨rfl,by omega⟩⟩;rw [headR,if_neg (by decide),if_neg (by omega),if_neg h5,if_neg h89,if_neg h30,if_neg h19,if_pos h13,hk0,hk1,hk2,hk3];simp only [h11,hq,if_true,if_false]
  by_cases h12:a3.op=12
  ·by_cases hq:s+1<=1000
   ·obtain ⟨c',rfl⟩:∃c',c=c'+1:=⟨c - 1,by omega⟩;obtain ⟨ha12,_,_⟩:=E6 ok3 (by omega);have hlen12:a3.k.length=1:=by rw [h12] at ha12;simpa [ar] using ha12.symm
    obtain ⟨x,hx,okx⟩:=Fx ok3 (by omega) (j:=0) (by omega) (by rw [h12];rfl);have hrec:RV.ok k0 D L (.node 13 0 [a0,a1,a2,x]):=by refine VJ (by decide) rfl (by simp [BW]) ?_;have e0:=Jv hl hk0;have e2:=Jv hl hk2;rw [h13] at e0 e2;simp only [RV.okL];exact ⟨e0,ok1,e2,okx,trivial⟩
    obtain ⟨f,h,s2,e2,hd,hdo,hde⟩:=hh c' rfl _ (s+1) (by simp [RV.node,RV.op]) hrec (by omega) hq (by omega);obtain ⟨g,y,s3,e3,hy,hyo,hye⟩:=bB (he c' rfl) (t:=a2.b) (env:=a2.env++[x,h]) (s:=s2) (e:=e2) (Jd w1 (lE okx hdo)) (by simpa [Nat.add_assoc] using w2) (by simp;omega) (by have:=hde.1;omega) hde.2 (by have:=hde.1;omega);refine ⟨f+g+1,y,s3,e3,?_,hyo,by have:=hde.1;have:=hye.1;omega,hye.2⟩;rw [headR,if_neg (by decide),if_neg (by omega),if_neg h5,if_neg h89,if_neg h30,if_neg h19,if_pos h13,hk0,hk1,hk2,hk3];simp only [h12,hq,if_true,hx,Qg (show f<=f+g by omega) hd]
    rw [if_neg (by decide),if_neg (by omega)];exact B6 (by omega) hy
   ·refine ⟨1,v,s+1,17,?_,ho,by omega,.inr ⟨rfl,by omega⟩⟩;rw [headR,if_neg (by decide),if_neg (by omega),if_neg h5,if_neg h89,if_neg h30,if_neg h19,if_pos h13,hk0,hk1,hk2,hk3];simp only [h12,hq,if_true,if_false];rw [if_neg (by decide)]
  ·refine ⟨1,v,s,0,?_,ho,stop⟩;rw [headR,if_neg (by decide),if_neg (by omega),if_neg h5,if_neg h89,if_neg h30,if_neg h19,if_pos h13,hk0,hk1,hk2,hk3];simp only [h11,h12,if_false]
 ·refine ⟨1,v,s,0,?_,ho,stop⟩;rw [headR,if_neg (by decide),if_neg (by omega),if_neg h5,if_neg h89,if_neg h30,if_neg h19,if_neg h13]
end
section
variable {k0 D:Nat} {L:Int}
theorem LO {c:Nat} {env:List RV} (henv:RV.okE k0 D L env) (op:Int):∀(l:List Tm) (i:Nat) (s e:Int),
  (∀t∈l,∀s:Int,t.sc (k0+env.length)->env.length+t.bd<=D->0<=s->s<=1000->1000<=s+c->∃f v s' e',AE f s 0 t env=some (v,s',e')/\RV.ok k0 D L v/\Qi s s' e') ->
  Tm.scL op i l (k0+env.length)->env.length+Tm.bdL op i l<=D->0<=s->(e=0/\s<=1000\/e=17/\s=1001)->1000<=s+c ->
  ∃f vs s' e',Be (fun s e t=>AE f s e t env) op env i l s e=some (vs,s',e')/\RV.okL k0 D L op i vs/\vs.length=l.length/\Qi s s' e'
 | [],i,s,e,_,_,_,h0,he,_=>⟨0,[],s,e,rfl,by rw [RV.okL];trivial,rfl,by omega,he⟩
 | t::l,i,s,e,hev,hsc,hbd,h0,he,hc=>by
  rw [Tm.scL] at hsc;rw [Tm.bdL] at hbd;by_cases hb:0<Ak op i
  ·obtain ⟨f,vs,s',e',hk,hok,hlen,hend⟩:=LO henv op l (i+1) s e (fun u hu=>hev u (List.mem_cons_of_mem _ hu)) hsc.2 (by omega) h0 he hc;refine ⟨f,.clo env t::vs,s',e',?_,?_,by simp [hlen],hend⟩
   ·rw [Be,if_pos hb,hk];rfl
   ·rw [RV.okL,if_pos hb,RV.clo,RV.okC];exact ⟨⟨henv,hsc.1,by omega⟩,hok⟩
  ·have hb0:Ak op i=0:=by omega
   rw [hb0] at hsc hbd;have h1:∃f v s' e',AE f s e t env=some (v,s',e')/\RV.ok k0 D L v/\Qi s s' e':=by
    rcases he with ⟨rfl,hs⟩ | ⟨rfl,hs⟩
    ·exact hev t List.mem_cons_self s (by simpa using hsc.1) (by omega) h0 hs hc
    ·exact ⟨1,_,_,_,MU s 17 (by decide) t env,PD,by omega,.inr ⟨rfl,hs⟩⟩
   obtain ⟨f,v,s1,e1,hv,hvo,hve⟩:=h1;obtain ⟨g,vs,s',e',hk,hok,hlen,hend⟩:=LO henv op l (i+1) s1 e1 (fun u hu=>hev u (List.mem_cons_of_mem _ hu)) hsc.2 (by omega) (by have:=hve.1;omega) hve.2 (by have:=hve.1;omega);refine ⟨f+g,v::vs,s',e',?_,?_,by simp [hlen],by have:=hve.1;have:=hend.1;omega,hend.2⟩
   ·rw [Be,if_neg hb];simp only [B6 (show f<=f+g by omega) hv]
    rw [Dk (ev:=fun s e t=>AE g s e t env) (fun s e t r h=>B6 (by omega) h) op env l (i+1) s1 e1 _ hk];rfl
   ·rw [RV.okL,if_neg hb];exact ⟨hvo,hok⟩
theorem Oe (hD:D<=900000) (hL:0<=L) (hk0:k0<=900000) {c:Nat} (hh:YC k0 D L c):∀(m:Nat) (t:Tm) (env:List RV) (s:Int),t.wt<m->RV.okE k0 D L env->t.sc (k0+env.length)->env.length+t.bd<=D->0<=s->s<=1000->1000<=s+c ->
  ∃f v s' e',AE f s 0 t env=some (v,s',e')/\RV.ok k0 D L v/\Qi s s' e':=by
 intro m
 induction m with
 | zero=>intro t env s h;omega
 | succ m ih =>
  intro t env s hw henv hsc hbd h0 h1 hc;obtain ⟨op,n,ks⟩:=t;rw [Tm.sc] at hsc;rw [Tm.bd] at hbd;simp only [Tm.wt] at hw;by_cases hop:op=1
  ·subst hop;rw [if_pos rfl] at hsc;have hkl:ks=[]:=by
    have:=hsc.1
    simp [ar] at this;exact List.length_eq_zero_iff.1 this.symm
   by_cases hm:n<env.length
   ·have hlt:((env.length:Int) - 1 - n).toNat<env.length:=by omega
    refine ⟨1,env[((env.length:Int) - 1 - n).toNat],s,0,?_,V8 henv (List.getElem?_eq_getElem hlt),by omega,.inl ⟨rfl,h1⟩⟩;rw [AE,if_neg (by decide),if_neg (by omega),if_pos rfl,if_pos hm,if_pos hsc.2.1.1,List.getElem?_eq_getElem hlt];rfl
   ·refine ⟨1,.var (env.length - 1 - n),s,0,?_,?_,by omega,.inl ⟨rfl,h1⟩⟩
    ·rw [AE,if_neg (by decide),if_neg (by omega),if_pos rfl,if_neg hm,if_pos (by have:=hsc.2.1.2;omega)]
    ·rw [RV.var,RV.ok,if_pos rfl]
     have:=hsc.2.1.2
     exact ⟨by omega,by omega,rfl⟩
  ·rw [if_neg hop] at hsc;obtain ⟨f,vs,s1,e1,hk,hok,hlen,hend⟩:=LO (c:=c) henv op ks 0 s 0 (fun t ht s=>fun a b c' d e=>ih t env s (by have:=B9 ht;omega) henv a b c' d e) hsc.2.2 hbd h0 (.inl ⟨rfl,h1⟩) hc;have hnode:RV.ok k0 D L (.node op n vs):=VJ hop (by rw [hlen];exact hsc.1) hsc.2.1 hok;have har:=QV hsc.1;have h2:∃g w s' e',headR g s1 e1 (.node op n vs)=some (w,s',e')/\RV.ok k0 D L w/\Qi s1 s' e':=by
    rcases hend.2 with ⟨he,hs⟩ | ⟨he,hs⟩
    ·subst he;exact hh _ s1 (by simpa [RV.node,RV.op] using hop) hnode (by have:=hend.1;omega) hs (by have:=hend.1;omega)
    ·subst he;refine ⟨1,_,s1,17,by rw [headR,if_pos (by decide)],hnode,by omega,.inr ⟨rfl,hs⟩⟩
   obtain ⟨g,w,s',e',hw2,hwo,hwe⟩:=h2;refine ⟨f+g+5+1,w,s',e',?_,hwo,by have:=hend.1;have:=hwe.1;omega,hwe.2⟩;rw [AE,if_neg (by decide),if_neg (by omega),if_neg hop,if_neg (by omega),if_neg (by omega)];rw [Dk (ev:=fun s e t=>AE f s e t env) (fun s e t r h=>B6 (by omega) h) op env ks 0 s 0 _ hk];exact Qg (by omega) hw2
theorem tot (hD:D<=900000) (hL:0<=L) (hk0:k0<=900000):∀c,YC k0 D L c/\vQ k0 D L c:=by
 intro c
 induction c with
 | zero =>have hH:YC k0 D L 0:=NT hD 0 (fun c' h=>by omega) (fun c' h=>by omega);exact ⟨hH,fun t env s a b c d e f=>Oe hD hL hk0 hH (t.wt+1) t env s (by omega) a b c d e f⟩
 | succ c ih =>have hH:YC k0 D L (c+1):=NT hD (c+1) (fun c' h=>by cases h;exact ih.2) (fun c' h=>by cases h;exact ih.1);exact ⟨hH,fun t env s a b c d e f=>Oe hD hL hk0 hH (t.wt+1) t env s (by omega) a b c d e f⟩
end
end Idl
end Go.Proofs.YtnenpcghegcnhaaGreat

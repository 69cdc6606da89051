/-
  Texts of a proof, part 10: an ideal semantics of the program, its functions in shallow form, contracts of them. No statement of the seat is proved here.
-/
import Derived.KernelRfl
import Derived.Test.YtbkdidonegggdaaNormShiftK9
set_option linter.all false
namespace Go.Proofs.Ytbkdidonegggdaa
namespace Idl
theorem call_0 {f:Nat} {G:Handler→Nat→Hp→Option (IV×Hp)} (e:dt.call f=fun ih n=>ar0 (G ih n)) (n:Nat) (h:Hp):SS dt (n+1) f [] h=G (SS dt n) n  h:=by
 show dt.call f (SS dt n) n _ h=_
 rw [e];rfl
theorem call_1 {f:Nat} {G:Handler→Nat→IV→Hp→Option (IV×Hp)} (e:dt.call f=fun ih n=>ar1 (G ih n)) (n:Nat) (a0:IV) (h:Hp):SS dt (n+1) f [a0] h=G (SS dt n) n a0 h:=by
 show dt.call f (SS dt n) n _ h=_
 rw [e];rfl
theorem call_2 {f:Nat} {G:Handler→Nat→IV→IV→Hp→Option (IV×Hp)} (e:dt.call f=fun ih n=>ar2 (G ih n)) (n:Nat) (a0 a1:IV) (h:Hp):SS dt (n+1) f [a0,a1] h=G (SS dt n) n a0 a1 h:=by
 show dt.call f (SS dt n) n _ h=_
 rw [e];rfl
theorem call_3 {f:Nat} {G:Handler→Nat→IV→IV→IV→Hp→Option (IV×Hp)} (e:dt.call f=fun ih n=>ar3 (G ih n)) (n:Nat) (a0 a1 a2:IV) (h:Hp):SS dt (n+1) f [a0,a1,a2] h=G (SS dt n) n a0 a1 a2 h:=by
 show dt.call f (SS dt n) n _ h=_
 rw [e];rfl
theorem call_4 {f:Nat} {G:Handler→Nat→IV→IV→IV→IV→Hp→Option (IV×Hp)} (e:dt.call f=fun ih n=>ar4 (G ih n)) (n:Nat) (a0 a1 a2 a3:IV) (h:Hp):SS dt (n+1) f [a0,a1,a2,a3] h=G (SS dt n) n a0 a1 a2 a3 h:=by
 show dt.call f (SS dt n) n _ h=_
 rw [e];rfl
theorem call_5 {f:Nat} {G:Handler→Nat→IV→IV→IV→IV→IV→Hp→Option (IV×Hp)} (e:dt.call f=fun ih n=>ar5 (G ih n)) (n:Nat) (a0 a1 a2 a3 a4:IV) (h:Hp):SS dt (n+1) f [a0,a1,a2,a3,a4] h=G (SS dt n) n a0 a1 a2 a3 a4 h:=by
 show dt.call f (SS dt n) n _ h=_
 rw [e];rfl
theorem c11 (n:Nat) (a0 a1 a2 a3 a4:IV) (h:Hp):SS dt (n+1) 11 [a0,a1,a2,a3,a4] h=S11 (SS dt n) n a0 a1 a2 a3 a4 h:=call_5 (show dt.call 11=fun ih n=>ar5 (S11 ih n) by kernel_rfl) ..
theorem c12 (n:Nat) (a0 a1 a2 a3:IV) (h:Hp):SS dt (n+1) 12 [a0,a1,a2,a3] h=S12 (SS dt n) n a0 a1 a2 a3 h:=call_4 (show dt.call 12=fun ih n=>ar4 (S12 ih n) by kernel_rfl) ..
theorem c15 (n:Nat) (a0:IV) (h:Hp):SS dt (n+1) 15 [a0] h=S15 (SS dt n) n a0 h:=call_1 (show dt.call 15=fun ih n=>ar1 (S15 ih n) by kernel_rfl) ..
theorem c16 (n:Nat) (a0:IV) (h:Hp):SS dt (n+1) 16 [a0] h=S16 (SS dt n) n a0 h:=call_1 (show dt.call 16=fun ih n=>ar1 (S16 ih n) by kernel_rfl) ..
theorem c17 (n:Nat) (a0 a1 a2 a3:IV) (h:Hp):SS dt (n+1) 17 [a0,a1,a2,a3] h=S17 (SS dt n) n a0 a1 a2 a3 h:=call_4 (show dt.call 17=fun ih n=>ar4 (S17 ih n) by kernel_rfl) ..
theorem c18 (n:Nat) (a0:IV) (h:Hp):SS dt (n+1) 18 [a0] h=S18 (SS dt n) n a0 h:=call_1 (show dt.call 18=fun ih n=>ar1 (S18 ih n) by kernel_rfl) ..
theorem c19 (n:Nat) (a0:IV) (h:Hp):SS dt (n+1) 19 [a0] h=S19 (SS dt n) n a0 h:=call_1 (show dt.call 19=fun ih n=>ar1 (S19 ih n) by kernel_rfl) ..
theorem c20 (n:Nat) (a0:IV) (h:Hp):SS dt (n+1) 20 [a0] h=S20 (SS dt n) n a0 h:=call_1 (show dt.call 20=fun ih n=>ar1 (S20 ih n) by kernel_rfl) ..
theorem c21 (n:Nat) (a0 a1:IV) (h:Hp):SS dt (n+1) 21 [a0,a1] h=S21 (SS dt n) n a0 a1 h:=call_2 (show dt.call 21=fun ih n=>ar2 (S21 ih n) by kernel_rfl) ..
theorem c22 (n:Nat) (a0:IV) (h:Hp):SS dt (n+1) 22 [a0] h=S22 (SS dt n) n a0 h:=call_1 (show dt.call 22=fun ih n=>ar1 (S22 ih n) by kernel_rfl) ..
theorem c24 (n:Nat) (a0:IV) (h:Hp):SS dt (n+1) 24 [a0] h=S24 (SS dt n) n a0 h:=call_1 (show dt.call 24=fun ih n=>ar1 (S24 ih n) by kernel_rfl) ..
theorem c25 (n:Nat) (a0 a1 a2:IV) (h:Hp):SS dt (n+1) 25 [a0,a1,a2] h=S25 (SS dt n) n a0 a1 a2 h:=call_3 (show dt.call 25=fun ih n=>ar3 (S25 ih n) by kernel_rfl) ..
theorem c26 (n:Nat) (a0 a1 a2 a3:IV) (h:Hp):SS dt (n+1) 26 [a0,a1,a2,a3] h=S26 (SS dt n) n a0 a1 a2 a3 h:=call_4 (show dt.call 26=fun ih n=>ar4 (S26 ih n) by kernel_rfl) ..
theorem c27 (n:Nat) (a0 a1:IV) (h:Hp):SS dt (n+1) 27 [a0,a1] h=S27 (SS dt n) n a0 a1 h:=call_2 (show dt.call 27=fun ih n=>ar2 (S27 ih n) by kernel_rfl) ..
theorem c28 (n:Nat) (a0 a1:IV) (h:Hp):SS dt (n+1) 28 [a0,a1] h=S28 (SS dt n) n a0 a1 h:=call_2 (show dt.call 28=fun ih n=>ar2 (S28 ih n) by kernel_rfl) ..
theorem c29 (n:Nat) (a0 a1 a2:IV) (h:Hp):SS dt (n+1) 29 [a0,a1,a2] h=S29 (SS dt n) n a0 a1 a2 h:=call_3 (show dt.call 29=fun ih n=>ar3 (S29 ih n) by kernel_rfl) ..
theorem c30 (n:Nat) (a0 a1 a2:IV) (h:Hp):SS dt (n+1) 30 [a0,a1,a2] h=S30 (SS dt n) n a0 a1 a2 h:=call_3 (show dt.call 30=fun ih n=>ar3 (S30 ih n) by kernel_rfl) ..
theorem c31 (n:Nat) (a0 a1 a2:IV) (h:Hp):SS dt (n+1) 31 [a0,a1,a2] h=S31 (SS dt n) n a0 a1 a2 h:=call_3 (show dt.call 31=fun ih n=>ar3 (S31 ih n) by kernel_rfl) ..
theorem c32 (n:Nat) (a0 a1 a2 a3:IV) (h:Hp):SS dt (n+1) 32 [a0,a1,a2,a3] h=S32 (SS dt n) n a0 a1 a2 a3 h:=call_4 (show dt.call 32=fun ih n=>ar4 (S32 ih n) by kernel_rfl) ..
theorem c33 (n:Nat) (a0 a1:IV) (h:Hp):SS dt (n+1) 33 [a0,a1] h=S33 (SS dt n) n a0 a1 h:=call_2 (show dt.call 33=fun ih n=>ar2 (S33 ih n) by kernel_rfl) ..
theorem c34 (n:Nat) (a0:IV) (h:Hp):SS dt (n+1) 34 [a0] h=S34 (SS dt n) n a0 h:=call_1 (show dt.call 34=fun ih n=>ar1 (S34 ih n) by kernel_rfl) ..
theorem c35 (n:Nat) (a0:IV) (h:Hp):SS dt (n+1) 35 [a0] h=S35 (SS dt n) n a0 h:=call_1 (show dt.call 35=fun ih n=>ar1 (S35 ih n) by kernel_rfl) ..
theorem c37 (n:Nat) (a0 a1:IV) (h:Hp):SS dt (n+1) 37 [a0,a1] h=S37 (SS dt n) n a0 a1 h:=call_2 (show dt.call 37=fun ih n=>ar2 (S37 ih n) by kernel_rfl) ..
theorem c43 (n:Nat) (a0:IV) (h:Hp):SS dt (n+1) 43 [a0] h=S43 (SS dt n) n a0 h:=call_1 (show dt.call 43=fun ih n=>ar1 (S43 ih n) by kernel_rfl) ..
theorem c46 (n:Nat) (a0:IV) (h:Hp):SS dt (n+1) 46 [a0] h=S46 (SS dt n) n a0 h:=call_1 (show dt.call 46=fun ih n=>ar1 (S46 ih n) by kernel_rfl) ..
theorem c47 (n:Nat) (a0 a1:IV) (h:Hp):SS dt (n+1) 47 [a0,a1] h=S47 (SS dt n) n a0 a1 h:=call_2 (show dt.call 47=fun ih n=>ar2 (S47 ih n) by kernel_rfl) ..
theorem c48 (n:Nat) (a0 a1 a2 a3:IV) (h:Hp):SS dt (n+1) 48 [a0,a1,a2,a3] h=S48 (SS dt n) n a0 a1 a2 a3 h:=call_4 (show dt.call 48=fun ih n=>ar4 (S48 ih n) by kernel_rfl) ..
theorem c49 (n:Nat) (a0 a1 a2:IV) (h:Hp):SS dt (n+1) 49 [a0,a1,a2] h=S49 (SS dt n) n a0 a1 a2 h:=call_3 (show dt.call 49=fun ih n=>ar3 (S49 ih n) by kernel_rfl) ..
theorem c50 (n:Nat) (a0:IV) (h:Hp):SS dt (n+1) 50 [a0] h=S50 (SS dt n) n a0 h:=call_1 (show dt.call 50=fun ih n=>ar1 (S50 ih n) by kernel_rfl) ..
theorem c51 (n:Nat) (h:Hp):SS dt (n+1) 51 [] h=S51 (SS dt n) n  h:=call_0 (show dt.call 51=fun ih n=>ar0 (S51 ih n) by kernel_rfl) ..
theorem c52 (n:Nat) (a0 a1 a2:IV) (h:Hp):SS dt (n+1) 52 [a0,a1,a2] h=S52 (SS dt n) n a0 a1 a2 h:=call_3 (show dt.call 52=fun ih n=>ar3 (S52 ih n) by kernel_rfl) ..
theorem c53 (n:Nat) (a0 a1 a2 a3:IV) (h:Hp):SS dt (n+1) 53 [a0,a1,a2,a3] h=S53 (SS dt n) n a0 a1 a2 a3 h:=call_4 (show dt.call 53=fun ih n=>ar4 (S53 ih n) by kernel_rfl) ..
theorem c54 (n:Nat) (a0 a1 a2:IV) (h:Hp):SS dt (n+1) 54 [a0,a1,a2] h=S54 (SS dt n) n a0 a1 a2 h:=call_3 (show dt.call 54=fun ih n=>ar3 (S54 ih n) by kernel_rfl) ..
theorem c55 (n:Nat) (a0 a1:IV) (h:Hp):SS dt (n+1) 55 [a0,a1] h=S55 (SS dt n) n a0 a1 h:=call_2 (show dt.call 55=fun ih n=>ar2 (S55 ih n) by kernel_rfl) ..
theorem c56 (n:Nat) (h:Hp):SS dt (n+1) 56 [] h=S56 (SS dt n) n  h:=call_0 (show dt.call 56=fun ih n=>ar0 (S56 ih n) by kernel_rfl) ..
theorem c57 (n:Nat) (a0:IV) (h:Hp):SS dt (n+1) 57 [a0] h=S57 (SS dt n) n a0 h:=call_1 (show dt.call 57=fun ih n=>ar1 (S57 ih n) by kernel_rfl) ..
theorem c58 (n:Nat) (a0 a1:IV) (h:Hp):SS dt (n+1) 58 [a0,a1] h=S58 (SS dt n) n a0 a1 h:=call_2 (show dt.call 58=fun ih n=>ar2 (S58 ih n) by kernel_rfl) ..
theorem c59 (n:Nat) (a0 a1 a2 a3:IV) (h:Hp):SS dt (n+1) 59 [a0,a1,a2,a3] h=S59 (SS dt n) n a0 a1 a2 a3 h:=call_4 (show dt.call 59=fun ih n=>ar4 (S59 ih n) by kernel_rfl) ..
theorem c60 (n:Nat) (a0 a1 a2 a3:IV) (h:Hp):SS dt (n+1) 60 [a0,a1,a2,a3] h=S60 (SS dt n) n a0 a1 a2 a3 h:=call_4 (show dt.call 60=fun ih n=>ar4 (S60 ih n) by kernel_rfl) ..
theorem c61 (n:Nat) (a0 a1 a2 a3:IV) (h:Hp):SS dt (n+1) 61 [a0,a1,a2,a3] h=S61 (SS dt n) n a0 a1 a2 a3 h:=call_4 (show dt.call 61=fun ih n=>ar4 (S61 ih n) by kernel_rfl) ..
theorem c62 (n:Nat) (a0 a1 a2 a3:IV) (h:Hp):SS dt (n+1) 62 [a0,a1,a2,a3] h=S62 (SS dt n) n a0 a1 a2 a3 h:=call_4 (show dt.call 62=fun ih n=>ar4 (S62 ih n) by kernel_rfl) ..
theorem c63 (n:Nat) (a0 a1:IV) (h:Hp):SS dt (n+1) 63 [a0,a1] h=S63 (SS dt n) n a0 a1 h:=call_2 (show dt.call 63=fun ih n=>ar2 (S63 ih n) by kernel_rfl) ..
theorem c64 (n:Nat) (a0 a1 a2 a3:IV) (h:Hp):SS dt (n+1) 64 [a0,a1,a2,a3] h=S64 (SS dt n) n a0 a1 a2 a3 h:=call_4 (show dt.call 64=fun ih n=>ar4 (S64 ih n) by kernel_rfl) ..
theorem c68 (n:Nat) (a0 a1:IV) (h:Hp):SS dt (n+1) 68 [a0,a1] h=S68 (SS dt n) n a0 a1 h:=call_2 (show dt.call 68=fun ih n=>ar2 (S68 ih n) by kernel_rfl) ..
theorem c69 (n:Nat) (a0 a1:IV) (h:Hp):SS dt (n+1) 69 [a0,a1] h=S69 (SS dt n) n a0 a1 h:=call_2 (show dt.call 69=fun ih n=>ar2 (S69 ih n) by kernel_rfl) ..
theorem c70 (n:Nat) (a0 a1:IV) (h:Hp):SS dt (n+1) 70 [a0,a1] h=S70 (SS dt n) n a0 a1 h:=call_2 (show dt.call 70=fun ih n=>ar2 (S70 ih n) by kernel_rfl) ..
theorem c71 (n:Nat) (a0:IV) (h:Hp):SS dt (n+1) 71 [a0] h=S71 (SS dt n) n a0 h:=call_1 (show dt.call 71=fun ih n=>ar1 (S71 ih n) by kernel_rfl) ..
theorem c72 (n:Nat) (a0 a1:IV) (h:Hp):SS dt (n+1) 72 [a0,a1] h=S72 (SS dt n) n a0 a1 h:=call_2 (show dt.call 72=fun ih n=>ar2 (S72 ih n) by kernel_rfl) ..
theorem c73 (n:Nat) (a0 a1:IV) (h:Hp):SS dt (n+1) 73 [a0,a1] h=S73 (SS dt n) n a0 a1 h:=call_2 (show dt.call 73=fun ih n=>ar2 (S73 ih n) by kernel_rfl) ..
theorem c74 (n:Nat) (a0 a1:IV) (h:Hp):SS dt (n+1) 74 [a0,a1] h=S74 (SS dt n) n a0 a1 h:=call_2 (show dt.call 74=fun ih n=>ar2 (S74 ih n) by kernel_rfl) ..
theorem c75 (n:Nat) (a0 a1:IV) (h:Hp):SS dt (n+1) 75 [a0,a1] h=S75 (SS dt n) n a0 a1 h:=call_2 (show dt.call 75=fun ih n=>ar2 (S75 ih n) by kernel_rfl) ..
theorem c76 (n:Nat) (a0 a1:IV) (h:Hp):SS dt (n+1) 76 [a0,a1] h=S76 (SS dt n) n a0 a1 h:=call_2 (show dt.call 76=fun ih n=>ar2 (S76 ih n) by kernel_rfl) ..
theorem c77 (n:Nat) (a0:IV) (h:Hp):SS dt (n+1) 77 [a0] h=S77 (SS dt n) n a0 h:=call_1 (show dt.call 77=fun ih n=>ar1 (S77 ih n) by kernel_rfl) ..
theorem c78 (n:Nat) (a0 a1:IV) (h:Hp):SS dt (n+1) 78 [a0,a1] h=S78 (SS dt n) n a0 a1 h:=call_2 (show dt.call 78=fun ih n=>ar2 (S78 ih n) by kernel_rfl) ..
theorem c79 (n:Nat) (a0 a1:IV) (h:Hp):SS dt (n+1) 79 [a0,a1] h=S79 (SS dt n) n a0 a1 h:=call_2 (show dt.call 79=fun ih n=>ar2 (S79 ih n) by kernel_rfl) ..
theorem c80 (n:Nat) (a0 a1:IV) (h:Hp):SS dt (n+1) 80 [a0,a1] h=S80 (SS dt n) n a0 a1 h:=call_2 (show dt.call 80=fun ih n=>ar2 (S80 ih n) by kernel_rfl) ..
theorem c81 (n:Nat) (a0 a1 a2 a3:IV) (h:Hp):SS dt (n+1) 81 [a0,a1,a2,a3] h=S81 (SS dt n) n a0 a1 a2 a3 h:=call_4 (show dt.call 81=fun ih n=>ar4 (S81 ih n) by kernel_rfl) ..
theorem c82 (n:Nat) (a0:IV) (h:Hp):SS dt (n+1) 82 [a0] h=S82 (SS dt n) n a0 h:=call_1 (show dt.call 82=fun ih n=>ar1 (S82 ih n) by kernel_rfl) ..
theorem c83 (n:Nat) (a0 a1:IV) (h:Hp):SS dt (n+1) 83 [a0,a1] h=S83 (SS dt n) n a0 a1 h:=call_2 (show dt.call 83=fun ih n=>ar2 (S83 ih n) by kernel_rfl) ..
theorem c86 (n:Nat) (a0:IV) (h:Hp):SS dt (n+1) 86 [a0] h=S86 (SS dt n) n a0 h:=call_1 (show dt.call 86=fun ih n=>ar1 (S86 ih n) by kernel_rfl) ..
theorem c87 (n:Nat) (a0 a1:IV) (h:Hp):SS dt (n+1) 87 [a0,a1] h=S87 (SS dt n) n a0 a1 h:=call_2 (show dt.call 87=fun ih n=>ar2 (S87 ih n) by kernel_rfl) ..
theorem c88 (n:Nat) (a0 a1:IV) (h:Hp):SS dt (n+1) 88 [a0,a1] h=S88 (SS dt n) n a0 a1 h:=call_2 (show dt.call 88=fun ih n=>ar2 (S88 ih n) by kernel_rfl) ..
theorem c89 (n:Nat) (a0 a1:IV) (h:Hp):SS dt (n+1) 89 [a0,a1] h=S89 (SS dt n) n a0 a1 h:=call_2 (show dt.call 89=fun ih n=>ar2 (S89 ih n) by kernel_rfl) ..
def UU1:=And.intro @S11_135.eq_1<|And.intro @S11_136.eq_1<|And.intro @S11_137.eq_1<|And.intro @S11_138.eq_1<|And.intro @S11_139.eq_1<|And.intro @S11_140.eq_1<|And.intro @S11_141.eq_1<|And.intro @S11_142.eq_1<|And.intro @S11_143.eq_1<|@S11.eq_1
def UU2:=And.intro @S62_135.eq_1<|And.intro @S62_136.eq_1<|And.intro @S62_137.eq_1<|And.intro @S62_138.eq_1<|And.intro @S62_139.eq_1<|And.intro @S62_140.eq_1<|And.intro @S62_141.eq_1<|And.intro @S62_142.eq_1<|And.intro @S62_143.eq_1<|And.intro @S62_144.eq_1<|And.intro @S62_145.eq_1<|And.intro @S62_146.eq_1<|And.intro @S62_147.eq_1<|And.intro @S62_149.eq_1<|And.intro @S62_150.eq_1<|And.intro @S62_151.eq_1<|@S62.eq_1
def UU3:=And.intro @S63_18.eq_1<|And.intro @S63_19.eq_1<|And.intro @S63_20.eq_1<|And.intro @S63_21.eq_1<|And.intro @S63_22.eq_1<|@S63.eq_1
def UU4:=And.intro @S17_177.eq_1<|And.intro @S17_178.eq_1<|And.intro @S17_179.eq_1<|And.intro @S17_180.eq_1<|And.intro @S17_181.eq_1<|And.intro @S17_182.eq_1<|And.intro @S17_183.eq_1<|And.intro @S17_184.eq_1<|And.intro @S17_185.eq_1<|And.intro @S17_186.eq_1<|And.intro @S17_187.eq_1<|And.intro @S17_188.eq_1<|And.intro @S17_189.eq_1<|And.intro @S17_190.eq_1<|And.intro @S17_191.eq_1<|And.intro @S17_192.eq_1<|@S17.eq_1
def UU5:=And.intro @S24_80.eq_1<|And.intro @S24_81.eq_1<|And.intro @S24_82.eq_1<|And.intro @S24_83.eq_1<|And.intro @S24_84.eq_1<|And.intro @S24_85.eq_1<|And.intro @S24_86.eq_1<|And.intro @S24_87.eq_1<|And.intro @S24_88.eq_1<|And.intro @S24_89.eq_1<|@S24.eq_1
def UU6:=And.intro @S26_346.eq_1<|And.intro @S26_347.eq_1<|And.intro @S26_348.eq_1<|And.intro @S26_349.eq_1<|And.intro @S26_350.eq_1<|And.intro @S26_351.eq_1<|And.intro @S26_352.eq_1<|And.intro @S26_353.eq_1<|And.intro @S26_354.eq_1<|And.intro @S26_355.eq_1<|And.intro @S26_356.eq_1<|And.intro @S26_357.eq_1<|And.intro @S26_358.eq_1<|And.intro @S26_359.eq_1<|And.intro @S26_360.eq_1<|And.intro @S26_361.eq_1<|And.intro @S26_362.eq_1<|And.intro @S26_363.eq_1<|And.intro @S26_364.eq_1<|And.intro @S26_365.eq_1<|And.intro @S26_366.eq_1<|And.intro @S26_367.eq_1<|And.intro @S26_368.eq_1<|And.intro @S26_369.eq_1<|And.intro @S26_370.eq_1<|And.intro @S26_371.eq_1<|And.intro @S26_372.eq_1<|And.intro @S26_373.eq_1<|And.intro @S26_374.eq_1<|And.intro @S26_375.eq_1<|And.intro @S26_376.eq_1<|And.intro @S26_377.eq_1<|And.intro @S26_378.eq_1<|And.intro @S26_379.eq_1<|And.intro @S26_380.eq_1<|And.intro @S26_381.eq_1<|And.intro @S26_382.eq_1<|And.intro @S26_383.eq_1<|And.intro @S26_384.eq_1<|And.intro @S26_385.eq_1<|And.intro @S26_386.eq_1<|@S26.eq_1
def UU7:=And.intro @S32_393.eq_1<|And.intro @S32_394.eq_1<|And.intro @S32_395.eq_1<|And.intro @S32_396.eq_1<|And.intro @S32_397.eq_1<|And.intro @S32_398.eq_1<|And.intro @S32_399.eq_1<|And.intro @S32_400.eq_1<|And.intro @S32_401.eq_1<|And.intro @S32_402.eq_1<|And.intro @S32_403.eq_1<|And.intro @S32_404.eq_1<|And.intro @S32_405.eq_1<|And.intro @S32_406.eq_1<|And.intro @S32_407.eq_1<|And.intro @S32_408.eq_1<|And.intro @S32_409.eq_1<|And.intro @S32_410.eq_1<|And.intro @S32_411.eq_1<|And.intro @S32_412.eq_1<|And.intro @S32_413.eq_1<|And.intro @S32_414.eq_1<|And.intro @S32_415.eq_1<|And.intro @S32_416.eq_1<|And.intro @S32_417.eq_1<|And.intro @S32_418.eq_1<|And.intro @S32_419.eq_1<|And.intro @S32_420.eq_1<|And.intro @S32_421.eq_1<|And.intro @S32_422.eq_1<|And.intro @S32_423.eq_1<|And.intro @S32_424.eq_1<|And.intro @S32_425.eq_1<|And.intro @S32_426.eq_1<|And.intro @S32_427.eq_1<|And.intro @S32_428.eq_1<|And.intro @S32_429.eq_1<|And.intro @S32_430.eq_1<|And.intro @S32_431.eq_1<|And.intro @S32_432.eq_1<|And.intro @S32_433.eq_1<|And.intro @S32_434.eq_1<|And.intro @S32_435.eq_1<|And.intro @S32_436.eq_1<|@S32.eq_1
def UU8:=And.intro @S64_498.eq_1<|And.intro @S64_499.eq_1<|And.intro @S64_500.eq_1<|And.intro @S64_501.eq_1<|And.intro @S64_502.eq_1<|And.intro @S64_503.eq_1<|And.intro @S64_504.eq_1<|And.intro @S64_505.eq_1<|And.intro @S64_506.eq_1<|And.intro @S64_507.eq_1<|And.intro @S64_508.eq_1<|And.intro @S64_509.eq_1<|And.intro @S64_510.eq_1<|And.intro @S64_511.eq_1<|And.intro @S64_512.eq_1<|And.intro @S64_513.eq_1<|And.intro @S64_514.eq_1<|And.intro @S64_515.eq_1<|And.intro @S64_516.eq_1<|And.intro @S64_517.eq_1<|And.intro @S64_518.eq_1<|And.intro @S64_519.eq_1<|And.intro @S64_520.eq_1<|And.intro @S64_521.eq_1<|And.intro @S64_522.eq_1<|And.intro @S64_523.eq_1<|And.intro @S64_524.eq_1<|And.intro @S64_525.eq_1<|And.intro @S64_526.eq_1<|And.intro @S64_527.eq_1<|And.intro @S64_528.eq_1<|And.intro @S64_529.eq_1<|And.intro @S64_530.eq_1<|And.intro @S64_531.eq_1<|And.intro @S64_532.eq_1<|And.intro @S64_533.eq_1<|And.intro @S64_534.eq_1<|And.intro @S64_535.eq_1<|And.intro @S64_536.eq_1<|And.intro @S64_537.eq_1<|And.intro @S64_538.eq_1<|And.intro @S64_539.eq_1<|And.intro @S64_540.eq_1<|And.intro @S64_541.eq_1<|And.intro @S64_542.eq_1<|And.intro @S64_543.eq_1<|And.intro @S64_544.eq_1<|And.intro @S64_545.eq_1<|And.intro @S64_546.eq_1<|And.intro @S64_547.eq_1<|And.intro @S64_548.eq_1<|And.intro @S64_549.eq_1<|And.intro @S64_550.eq_1<|And.intro @S64_551.eq_1<|And.intro @S64_552.eq_1<|And.intro @S64_553.eq_1<|@S64.eq_1
def UU9:=And.intro @S61_533.eq_1<|And.intro @S61_534.eq_1<|And.intro @S61_535.eq_1<|And.intro @S61_536.eq_1<|And.intro @S61_537.eq_1<|And.intro @S61_538.eq_1<|And.intro @S61_539.eq_1<|And.intro @S61_540.eq_1<|And.intro @S61_541.eq_1<|And.intro @S61_542.eq_1<|And.intro @S61_543.eq_1<|And.intro @S61_544.eq_1<|And.intro @S61_545.eq_1<|And.intro @S61_546.eq_1<|And.intro @S61_547.eq_1<|And.intro @S61_548.eq_1<|And.intro @S61_549.eq_1<|And.intro @S61_550.eq_1<|And.intro @S61_551.eq_1<|And.intro @S61_552.eq_1<|And.intro @S61_553.eq_1<|And.intro @S61_554.eq_1<|And.intro @S61_555.eq_1<|And.intro @S61_556.eq_1<|And.intro @S61_557.eq_1<|And.intro @S61_558.eq_1<|And.intro @S61_559.eq_1<|And.intro @S61_560.eq_1<|And.intro @S61_561.eq_1<|And.intro @S61_562.eq_1<|And.intro @S61_563.eq_1<|And.intro @S61_564.eq_1<|And.intro @S61_565.eq_1<|And.intro @S61_566.eq_1<|And.intro @S61_567.eq_1<|And.intro @S61_568.eq_1<|And.intro @S61_569.eq_1<|And.intro @S61_570.eq_1<|And.intro @S61_571.eq_1<|And.intro @S61_572.eq_1<|And.intro @S61_573.eq_1<|And.intro @S61_574.eq_1<|And.intro @S61_575.eq_1<|And.intro @S61_576.eq_1<|And.intro @S61_577.eq_1<|And.intro @S61_578.eq_1<|And.intro @S61_579.eq_1<|And.intro @S61_580.eq_1<|And.intro @S61_581.eq_1<|And.intro @S61_582.eq_1<|And.intro @S61_583.eq_1<|And.intro @S61_584.eq_1<|And.intro @S61_585.eq_1<|And.intro @S61_586.eq_1<|And.intro @S61_587.eq_1<|And.intro @S61_588.eq_1<|And.intro @S61_589.eq_1<|And.intro @S61_590.eq_1<|And.intro @S61_591.eq_1<|@S61.eq_1
def UU10:=And.intro @S25_237.eq_1<|And.intro @S25_238.eq_1<|And.intro @S25_239.eq_1<|And.intro @S25_240.eq_1<|And.intro @S25_241.eq_1<|And.intro @S25_242.eq_1<|And.intro @S25_243.eq_1<|And.intro @S25_244.eq_1<|And.intro @S25_245.eq_1<|And.intro @S25_246.eq_1<|And.intro @S25_247.eq_1<|And.intro @S25_248.eq_1<|And.intro @S25_249.eq_1<|And.intro @S25_250.eq_1<|And.intro @S25_251.eq_1<|And.intro @S25_252.eq_1<|And.intro @S25_253.eq_1<|And.intro @S25_254.eq_1<|And.intro @S25_255.eq_1<|And.intro @S25_256.eq_1<|And.intro @S25_257.eq_1<|And.intro @S25_258.eq_1<|And.intro @S25_259.eq_1<|And.intro @S25_260.eq_1<|And.intro @S25_261.eq_1<|And.intro @S25_262.eq_1<|And.intro @S25_263.eq_1<|And.intro @S25_264.eq_1<|@S25.eq_1
def UU11:=And.intro @S59_133.eq_1<|And.intro @S59_134.eq_1<|And.intro @S59_135.eq_1<|And.intro @S59_136.eq_1<|And.intro @S59_137.eq_1<|And.intro @S59_138.eq_1<|And.intro @S59_139.eq_1<|And.intro @S59_140.eq_1<|And.intro @S59_141.eq_1<|And.intro @S59_142.eq_1<|And.intro @S59_143.eq_1<|And.intro @S59_144.eq_1<|And.intro @S59_145.eq_1<|And.intro @S59_146.eq_1<|And.intro @S59_147.eq_1<|@S59.eq_1
def UU12:=And.intro @S46_513.eq_1<|And.intro @S46_514.eq_1<|And.intro @S46_515.eq_1<|And.intro @S46_516.eq_1<|And.intro @S46_517.eq_1<|And.intro @S46_518.eq_1<|And.intro @S46_519.eq_1<|And.intro @S46_520.eq_1<|And.intro @S46_521.eq_1<|And.intro @S46_522.eq_1<|And.intro @S46_523.eq_1<|And.intro @S46_524.eq_1<|And.intro @S46_525.eq_1<|And.intro @S46_526.eq_1<|And.intro @S46_527.eq_1<|And.intro @S46_528.eq_1<|And.intro @S46_529.eq_1<|And.intro @S46_530.eq_1<|And.intro @S46_531.eq_1<|And.intro @S46_532.eq_1<|And.intro @S46_533.eq_1<|And.intro @S46_534.eq_1<|And.intro @S46_535.eq_1<|And.intro @S46_536.eq_1<|And.intro @S46_537.eq_1<|And.intro @S46_538.eq_1<|And.intro @S46_539.eq_1<|And.intro @S46_540.eq_1<|And.intro @S46_541.eq_1<|And.intro @S46_542.eq_1<|And.intro @S46_543.eq_1<|And.intro @S46_544.eq_1<|And.intro @S46_545.eq_1<|And.intro @S46_546.eq_1<|@S46.eq_1
def UU13:=And.intro @S48_264.eq_1<|And.intro @S48_265.eq_1<|And.intro @S48_266.eq_1<|And.intro @S48_267.eq_1<|And.intro @S48_268.eq_1<|And.intro @S48_269.eq_1<|And.intro @S48_270.eq_1<|And.intro @S48_271.eq_1<|And.intro @S48_272.eq_1<|And.intro @S48_273.eq_1<|And.intro @S48_274.eq_1<|And.intro @S48_275.eq_1<|And.intro @S48_277.eq_1<|And.intro @S48_278.eq_1<|And.intro @S48_279.eq_1<|And.intro @S48_280.eq_1<|And.intro @S48_281.eq_1<|And.intro @S48_282.eq_1<|And.intro @S48_283.eq_1<|And.intro @S48_285.eq_1<|And.intro @S48_286.eq_1<|And.intro @S48_287.eq_1<|And.intro @S48_288.eq_1<|And.intro @S48_289.eq_1<|And.intro @S48_290.eq_1<|And.intro @S48_291.eq_1<|And.intro @S48_292.eq_1<|And.intro @S48_293.eq_1<|And.intro @S48_294.eq_1<|@S48.eq_1
def UU14:=And.intro @S70_629.eq_1<|And.intro @S70_630.eq_1<|And.intro @S70_631.eq_1<|And.intro @S70_632.eq_1<|And.intro @S70_633.eq_1<|And.intro @S70_634.eq_1<|And.intro @S70_635.eq_1<|And.intro @S70_636.eq_1<|And.intro @S70_637.eq_1<|And.intro @S70_638.eq_1<|And.intro @S70_639.eq_1<|And.intro @S70_640.eq_1<|And.intro @S70_641.eq_1<|And.intro @S70_642.eq_1<|And.intro @S70_643.eq_1<|And.intro @S70_644.eq_1<|And.intro @S70_645.eq_1<|And.intro @S70_646.eq_1<|And.intro @S70_647.eq_1<|And.intro @S70_648.eq_1<|And.intro @S70_649.eq_1<|And.intro @S70_650.eq_1<|And.intro @S70_651.eq_1<|And.intro @S70_652.eq_1<|And.intro @S70_653.eq_1<|And.intro @S70_654.eq_1<|And.intro @S70_655.eq_1<|And.intro @S70_656.eq_1<|And.intro @S70_657.eq_1<|And.intro @S70_658.eq_1<|And.intro @S70_659.eq_1<|And.intro @S70_660.eq_1<|And.intro @S70_661.eq_1<|And.intro @S70_662.eq_1<|And.intro @S70_663.eq_1<|And.intro @S70_664.eq_1<|And.intro @S70_665.eq_1<|And.intro @S70_666.eq_1<|And.intro @S70_667.eq_1<|And.intro @S70_668.eq_1<|And.intro @S70_669.eq_1<|And.intro @S70_670.eq_1<|And.intro @S70_671.eq_1<|And.intro @S70_672.eq_1<|And.intro @S70_673.eq_1<|And.intro @S70_674.eq_1<|And.intro @S70_675.eq_1<|And.intro @S70_676.eq_1<|And.intro @S70_677.eq_1<|And.intro @S70_678.eq_1<|@S70.eq_1
def UU15:=And.intro @S49_148.eq_1<|And.intro @S49_149.eq_1<|And.intro @S49_150.eq_1<|And.intro @S49_151.eq_1<|And.intro @S49_152.eq_1<|And.intro @S49_153.eq_1<|And.intro @S49_154.eq_1<|And.intro @S49_155.eq_1<|And.intro @S49_156.eq_1<|And.intro @S49_157.eq_1<|And.intro @S49_158.eq_1<|And.intro @S49_159.eq_1<|And.intro @S49_160.eq_1<|And.intro @S49_161.eq_1<|And.intro @S49_162.eq_1<|And.intro @S49_163.eq_1<|And.intro @S49_164.eq_1<|And.intro @S49_165.eq_1<|And.intro @S49_166.eq_1<|And.intro @S49_167.eq_1<|And.intro @S49_168.eq_1<|And.intro @S49_169.eq_1<|And.intro @S49_170.eq_1<|@S49.eq_1
def UU16:=And.intro @S54_156.eq_1<|And.intro @S54_157.eq_1<|And.intro @S54_158.eq_1<|And.intro @S54_159.eq_1<|And.intro @S54_161.eq_1<|And.intro @S54_162.eq_1<|And.intro @S54_163.eq_1<|And.intro @S54_164.eq_1<|And.intro @S54_165.eq_1<|And.intro @S54_166.eq_1<|And.intro @S54_167.eq_1<|And.intro @S54_168.eq_1<|And.intro @S54_169.eq_1<|And.intro @S54_170.eq_1<|@S54.eq_1
def UU17:=And.intro @S83_47.eq_1<|And.intro @S83_48.eq_1<|And.intro @S83_49.eq_1<|And.intro @S83_50.eq_1<|And.intro @S83_51.eq_1<|@S83.eq_1
def UU18:=And.intro @S71_17.eq_1<|And.intro @S71_18.eq_1<|And.intro @S71_19.eq_1<|And.intro @S71_20.eq_1<|And.intro @S71_21.eq_1<|And.intro @S71_22.eq_1<|@S71.eq_1
def UU19:=And.intro @S50_129.eq_1<|And.intro @S50_130.eq_1<|And.intro @S50_131.eq_1<|And.intro @S50_133.eq_1<|And.intro @S50_134.eq_1<|And.intro @S50_135.eq_1<|And.intro @S50_136.eq_1<|@S50.eq_1
def UU20:=And.intro @S53_261.eq_1<|And.intro @S53_262.eq_1<|And.intro @S53_263.eq_1<|And.intro @S53_264.eq_1<|And.intro @S53_265.eq_1<|And.intro @S53_266.eq_1<|And.intro @S53_267.eq_1<|And.intro @S53_268.eq_1<|And.intro @S53_269.eq_1<|And.intro @S53_270.eq_1<|And.intro @S53_271.eq_1<|And.intro @S53_272.eq_1<|And.intro @S53_274.eq_1<|And.intro @S53_275.eq_1<|And.intro @S53_276.eq_1<|And.intro @S53_277.eq_1<|And.intro @S53_278.eq_1<|And.intro @S53_279.eq_1<|And.intro @S53_280.eq_1<|And.intro @S53_281.eq_1<|And.intro @S53_282.eq_1<|And.intro @S53_284.eq_1<|And.intro @S53_285.eq_1<|And.intro @S53_286.eq_1<|And.intro @S53_287.eq_1<|And.intro @S53_288.eq_1<|And.intro @S53_289.eq_1<|And.intro @S53_290.eq_1<|And.intro @S53_291.eq_1<|And.intro @S53_292.eq_1<|And.intro @S53_293.eq_1<|@S53.eq_1
def UU21:=And.intro @S88_18.eq_1<|And.intro @S88_19.eq_1<|And.intro @S88_20.eq_1<|And.intro @S88_21.eq_1<|And.intro @S88_22.eq_1<|@S88.eq_1
def UU22:=And.intro @S52_117.eq_1<|And.intro @S52_118.eq_1<|And.intro @S52_119.eq_1<|And.intro @S52_120.eq_1<|And.intro @S52_121.eq_1<|And.intro @S52_122.eq_1<|And.intro @S52_123.eq_1<|And.intro @S52_124.eq_1<|And.intro @S52_125.eq_1<|And.intro @S52_126.eq_1<|And.intro @S52_127.eq_1<|And.intro @S52_128.eq_1<|And.intro @S52_129.eq_1<|And.intro @S52_130.eq_1<|And.intro @S52_131.eq_1<|@S52.eq_1
def UU23:=And.intro @S80_126.eq_1<|And.intro @S80_127.eq_1<|And.intro @S80_128.eq_1<|And.intro @S80_129.eq_1<|And.intro @S80_130.eq_1<|And.intro @S80_131.eq_1<|And.intro @S80_132.eq_1<|And.intro @S80_133.eq_1<|And.intro @S80_134.eq_1<|And.intro @S80_135.eq_1<|And.intro @S80_136.eq_1<|And.intro @S80_137.eq_1<|@S80.eq_1
section
variable {β:Type} {E:Env} {t:TypeId}
abbrev iv (n:Int):IV:=.fv (.int .i64 n)
theorem x_cond (c:Prop) [Decidable c] (a b:Option β):condS (.fv (.bool (decide c))) a b=if c then a else b:=by
 by_cases h:c
 ·rw [decide_eq_true h,if_pos h];rfl
 ·rw [decide_eq_false h,if_neg h];rfl
theorem x_faddr (o:Nat) (r:Ref) (off:Nat) (k:IV→Option β):faddrS o (.ptr r off) k=k (.ptr r (off+o)):=by
 show (fNat (off+o) fun o=>k (.ptr r o))=_
 rw [fNat_eq]
theorem x_faddr_f (o:Nat) (cs:List FV) (off:Nat) (k:IV→Option β):faddrS o (.fv (.fp cs off)) k=k (.fv (.fp cs (off+o))):=by
 show (fNat (off+o) fun o=>k (.fv (.fp cs o)))=_
 rw [fNat_eq]
theorem x_ix {size:Nat} {es:List FV} {n:Nat} {el:FV} (he:es[n]?=some el) (hl:el.cells.length=size) (k:IV→Option β):ixS size (.fv (.sl es)) (iv n) k=k (.fv (.fp el.cells 0)):=by
 show (nthK es n fun el=>elK size el k)=_
 rw [nthK_eq,he]
 show elK size el k=_
 rw [elK_eq,if_pos hl]
theorem x_cmpI {op:BinOp} {g:Nat→Nat→Bool} (hg:∀a b:Nat,binR E op t (iv a) (iv b)=some (.fv (.bool (g a b)))) (a b:Int) (k:IV→Option β) :
  cmpS E t op g (iv a) (iv b) k=(binR E op t (iv a) (iv b)).bind k:=by
 cases a with
 | ofNat a =>
  cases b with
  | ofNat b =>
   show boolK (g a b) k=_
   rw [boolK_eq,show binR E op t (iv (Int.ofNat a)) (iv (Int.ofNat b))=some (.fv (.bool (g a b))) from hg a b]
   rfl
  | negSucc b =>
   show binS E t op _ _ k=_
   rw [binS,optS_eq]
 | negSucc a =>
  show binS E t op _ _ k=_
  rw [binS,optS_eq]
theorem x_eqI (a b:Int) (k:IV→Option β):eqS E t (iv a) (iv b) k=k (.fv (.bool (decide (a=b)))):=by
 rw [eqS,x_cmpI (fun a b=>by
  show some (IV.fv (.bool ((a:Int) == (b:Int))))=_
  rw [beq_dec];congr 3;exact decide_eq_decide.2 Int.ofNat_inj)]
 rfl
theorem x_neI (a b:Int) (k:IV→Option β):neS E t (iv a) (iv b) k=k (.fv (.bool (!decide (a=b)))):=by
 rw [neS,x_cmpI (fun a b=>by
  show some (IV.fv (.bool ((a:Int) != (b:Int))))=_
  rw [beq_dec];congr 3
  show (!decide ((a:Int)=(b:Int)))=!decide (a=b)
  congr 1;exact decide_eq_decide.2 Int.ofNat_inj)]
 rfl
theorem x_ltI (a b:Int) (k:IV→Option β):ltS E t (iv a) (iv b) k=k (.fv (.bool (decide (a<b)))):=by
 rw [ltS,x_cmpI (fun a b=>by
  show some (IV.fv (.bool (decide ((a:Int)<(b:Int)))))=_
  rw [ble_dec];congr 3;exact decide_eq_decide.2 (by omega))]
 rfl
theorem x_leI (a b:Int) (k:IV→Option β):leS E t (iv a) (iv b) k=k (.fv (.bool (decide (a≤b)))):=by
 rw [leS,x_cmpI (fun a b=>by
  show some (IV.fv (.bool (decide ((a:Int)≤(b:Int)))))=_
  rw [ble_dec];congr 3;exact decide_eq_decide.2 (by omega))]
 rfl
theorem x_not (b:Bool) (k:IV→Option β):optS (unR .not (.fv (.bool b))) k=k (.fv (.bool !b)):=by
 rw [optS_eq];rfl
end
end Idl
end Go.Proofs.Ytbkdidonegggdaa
namespace Go.Proofs.Ytbkdidonegggdaa
namespace Idl
section
variable {β:Type} {α:Type}
theorem n0 (a:α) (l:List α) (k:α→Option β):nthK (a::l) 0 k=k a:=rfl
theorem n1 (a b:α) (l:List α) (k:α→Option β):nthK (a::b::l) 1 k=k b:=rfl
theorem n2 (a b c:α) (l:List α) (k:α→Option β):nthK (a::b::c::l) 2 k=k c:=rfl
theorem n3 (a b c d:α) (l:List α) (k:α→Option β):nthK (a::b::c::d::l) 3 k=k d:=rfl
theorem n4 (a b c d e:α) (l:List α) (k:α→Option β):nthK (a::b::c::d::e::l) 4 k=k e:=rfl
theorem n5 (a b c d e f:α) (l:List α) (k:α→Option β):nthK (a::b::c::d::e::f::l) 5 k=k f:=rfl
theorem n6 (a b c d e f g:α) (l:List α) (k:α→Option β):nthK (a::b::c::d::e::f::g::l) 6 k=k g:=rfl
theorem d0 (l:List α) (k:List α→Option β):drpK l 0 k=k l:=by cases l<;>rfl
theorem d1 (a:α) (l:List α) (k:List α→Option β):drpK (a::l) 1 k=k l:=by cases l<;>rfl
theorem d2 (a b:α) (l:List α) (k:List α→Option β):drpK (a::b::l) 2 k=k l:=by cases l<;>rfl
theorem d3 (a b c:α) (l:List α) (k:List α→Option β):drpK (a::b::c::l) 3 k=k l:=by cases l<;>rfl
theorem d4 (a b c d:α) (l:List α) (k:List α→Option β):drpK (a::b::c::d::l) 4 k=k l:=by cases l<;>rfl
theorem t1 (a:α) (l:List α) (k:List α→Option β):takK (a::l) 1 k=k [a]:=by cases l<;>rfl
theorem t2 (a b:α) (l:List α) (k:List α→Option β):takK (a::b::l) 2 k=k [a,b]:=by cases l<;>rfl
theorem t3 (a b c:α) (l:List α) (k:List α→Option β):takK (a::b::c::l) 3 k=k [a,b,c]:=by cases l<;>rfl
theorem t4 (a b c d:α) (l:List α) (k:List α→Option β):takK (a::b::c::d::l) 4 k=k [a,b,c,d]:=by cases l<;>rfl
theorem t7 (a b c d e f g:α) (l:List α) (k:List α→Option β):takK (a::b::c::d::e::f::g::l) 7 k=k [a,b,c,d,e,f,g]:=by cases l<;>rfl
theorem sp_e (l:List α) (k:List α→Option β):spK l k=k l:=spK_eq l k
theorem ap0 (us:List α) (k:List α→Option β):apK [] us k=k us:=rfl
theorem ap1 (u:α) (l us:List α) (k:List α→Option β):apK (u::l) us k=apK l us fun w=>k (u::w):=rfl
theorem unc_c (a:α) (l:List α) (k:α→List α→Option β):uncS (a::l) k=k a l:=rfl
theorem c_t {γ:Type} (a b:γ):cond true a b=a:=rfl
theorem c_f {γ:Type} (a b:γ):cond false a b=b:=rfl
end
section
variable {β:Type}
theorem N_bf {s j:Nat} (h:(s == j)=false):Nat.beq s j=false:=by
 rw [beq_dec];simpa using h
theorem g_own (s:Nat) (own:List (Nat×Blk)) (ext:List Blk) (k:Blk→Option β):getK (.own s) ⟨own,ext⟩ k=ownK own s k:=rfl
theorem g_ext (j:Nat) (own:List (Nat×Blk)) (ext:List Blk) (k:Blk→Option β):getK (.ext j) ⟨own,ext⟩ k=nthK ext j k:=rfl
theorem o_hit (s:Nat) (b:Blk) (l:List (Nat×Blk)) (k:Blk→Option β):ownK ((s,b)::l) s k=k b:=by
 show cond (Nat.beq s s) (k b) _=_
 rw [show Nat.beq s s=true from Nat.beq_refl s]
 rfl
theorem o_miss {s j:Nat} (hne:(s == j)=false) (b:Blk) (l:List (Nat×Blk)) (k:Blk→Option β):ownK ((j,b)::l) s k=ownK l s k:=by
 show cond (Nat.beq s j) (k b) _=_
 rw [show Nat.beq s j=false from N_bf hne]
 rfl
theorem p_nil (s:Nat) (b:Blk) (k:List (Nat×Blk)→Option β):putOwnK [] s b k=k [(s,b)]:=rfl
theorem p_hit (s:Nat) (b c:Blk) (l:List (Nat×Blk)) (k:List (Nat×Blk)→Option β):putOwnK ((s,c)::l) s b k=k ((s,b)::l):=by
 show cond (Nat.beq s s) _ _=_
 rw [show Nat.beq s s=true from Nat.beq_refl s]
 rfl
theorem p_miss {s j:Nat} (hne:(s == j)=false) (b c:Blk) (l:List (Nat×Blk)) (k:List (Nat×Blk)→Option β):putOwnK ((j,c)::l) s b k=putOwnK l s b fun l=>k ((j,c)::l):=by
 show cond (Nat.beq s j) _ _=_
 rw [show Nat.beq s j=false from N_bf hne]
 rfl
theorem f_nil (s:Nat) (a:Option β):freshK [] s a=a:=rfl
theorem f_cons {s j:Nat} (hne:(s == j)=false) (b:Blk) (l:List (Nat×Blk)) (a:Option β):freshK ((j,b)::l) s a=freshK l s a:=by
 show cond (Nat.beq s j) none _=_
 rw [show Nat.beq s j=false from N_bf hne]
 rfl
theorem lay_own (s:Nat) (b:Blk) (own:List (Nat×Blk)) (ext:List Blk) (k:Hp→Option β):layK (.own s) b ⟨own,ext⟩ k=putOwnK own s b fun own=>k ⟨own,ext⟩:=rfl
theorem lay_ext (j:Nat) (b:Blk) (own:List (Nat×Blk)) (ext:List Blk) (k:Hp→Option β):layK (.ext j) b ⟨own,ext⟩ k=setNK ext j b fun ext=>k ⟨own,ext⟩:=rfl
theorem sn0 {α:Type} (a b:α) (l:List α) (k:List α→Option β):setNK (a::l) 0 b k=k (b::l):=rfl
theorem new_e (s:Nat) (b:Blk) (v:IV) (own:List (Nat×Blk)) (ext:List Blk) (k:IV→Hp→List Ref→List Ref→Option β) :
  newS s b v ⟨own,ext⟩ k=freshK own s (putOwnK own s b fun own=>k v ⟨own,ext⟩ [] [.own s]):=rfl
theorem box_agg (s:Nat) (cs:List FV) (h:Hp) (k:IV→Hp→List Ref→List Ref→Option β):boxS s (.fv (.agg cs)) h k=newS s (.row (cs.map .fv) false) (.ptr (.own s) 0) h k:=by
 show spK (cs.map IV.fv) _=_
 rw [spK_eq]
theorem box_2 (s:Nat) (a b:FV) (h:Hp) (k:IV→Hp→List Ref→List Ref→Option β):boxS s (.fv (.agg [a,b])) h k=newS s (.row [.fv a,.fv b] false) (.ptr (.own s) 0) h k:=box_agg ..
theorem box_3 (s:Nat) (a b c:FV) (h:Hp) (k:IV→Hp→List Ref→List Ref→Option β):boxS s (.fv (.agg [a,b,c])) h k=newS s (.row [.fv a,.fv b,.fv c] false) (.ptr (.own s) 0) h k:=box_agg ..
theorem box_4 (s:Nat) (a b c d:FV) (h:Hp) (k:IV→Hp→List Ref→List Ref→Option β):boxS s (.fv (.agg [a,b,c,d])) h k=newS s (.row [.fv a,.fv b,.fv c,.fv d] false) (.ptr (.own s) 0) h k:=box_agg ..
theorem box_1 (s:Nat) (a:FV) (h:Hp) (k:IV→Hp→List Ref→List Ref→Option β):boxS s (.fv (.agg [a])) h k=newS s (.row [.fv a] false) (.ptr (.own s) 0) h k:=box_agg ..
theorem box_agg' (s:Nat) (cs:List IV) (h:Hp) (k:IV→Hp→List Ref→List Ref→Option β):boxS s (.agg cs) h k=newS s (.row cs false) (.ptr (.own s) 0) h k:=by
 show spK cs _=_
 rw [spK_eq]
theorem box_one {x:IV} (hx:x.one=true) (s:Nat) (h:Hp) (k:IV→Hp→List Ref→List Ref→Option β):boxS s x h k=newS s (.row [x] false) (.ptr (.own s) 0) h k:=by
 unfold boxS;rw [hx];rfl
theorem on_int (k:IntKind) (n:Int):IV.one (.fv (.int k n))=true:=rfl
theorem on_bool (b:Bool):IV.one (.fv (.bool b))=true:=rfl
theorem on_sl (l:List FV):IV.one (.fv (.sl l))=true:=rfl
theorem on_fp (l:List FV) (o:Nat):IV.one (.fv (.fp l o))=true:=rfl
theorem on_func (fn:Fn) (a b:List FV):IV.one (.fv (.func fn a b))=true:=rfl
theorem on_nilp:IV.one (.fv .nilp)=true:=rfl
theorem on_nils:IV.one .nils=true:=rfl
theorem on_ptr (r:Ref) (o:Nat):IV.one (.ptr r o)=true:=rfl
theorem on_slc (r:Ref) (a b:Nat):IV.one (.slc r a b)=true:=rfl
theorem on_app (r:Ref) (l:List FV):IV.one (.app r l)=true:=rfl
theorem on_clip (l:List FV):IV.one (.clip l)=true:=rfl
theorem on_emp:IV.one .emp=true:=rfl
theorem on_agg (l:List IV):IV.one (.agg l)=false:=rfl
theorem on_fagg (l:List FV):IV.one (.fv (.agg l))=false:=rfl
theorem of_int (k:IntKind) (n:Int):oneF (.int k n)=true:=rfl
theorem of_bool (b:Bool):oneF (.bool b)=true:=rfl
theorem of_sl (l:List FV):oneF (.sl l)=true:=rfl
theorem of_fp (l:List FV) (o:Nat):oneF (.fp l o)=true:=rfl
theorem of_nilp:oneF .nilp=true:=rfl
theorem of_agg (l:List FV):oneF (.agg l)=false:=rfl
theorem aof_nil:allOneF []=true:=rfl
theorem aof_cons {v:FV} (h:oneF v=true) (l:List FV):allOneF (v::l)=allOneF l:=by
 show cond (oneF v) (allOneF l) false=_
 rw [h];rfl
theorem as_p (r:Ref) (o:Nat) (k:Ref→Nat→Option β) (kf:List FV→Nat→Option β):asPtr (.ptr r o) k kf=k r o:=rfl
theorem as_f (cs:List FV) (o:Nat) (k:Ref→Nat→Option β) (kf:List FV→Nat→Option β):asPtr (.fv (.fp cs o)) k kf=kf cs o:=rfl
theorem as_row (cs:List IV) (ro:Bool) (k:List IV→Option β):asRow (.row cs ro) k=k cs:=rfl
theorem as_free (cs:List IV) (k:List IV→Option β):asFree (.row cs false) k=k cs:=rfl
theorem as_fv (v:FV) (e:Option β) (k:FV→Option β):asF (.fv v) e k=k v:=rfl
theorem as_nf1 (l:List IV) (e:Option β) (k:FV→Option β):asF (.agg l) e k=e:=rfl
theorem as_nf2 (e:Option β) (k:FV→Option β):asF .nils e k=e:=rfl
theorem as_nf3 (r:Ref) (o:Nat) (e:Option β) (k:FV→Option β):asF (.ptr r o) e k=e:=rfl
theorem as_nf4 (r:Ref) (o:List FV) (e:Option β) (k:FV→Option β):asF (.app r o) e k=e:=rfl
theorem as_nf5 (o:List FV) (e:Option β) (k:FV→Option β):asF (.clip o) e k=e:=rfl
theorem as_nf6 (r:Ref) (a b:Nat) (e:Option β) (k:FV→Option β):asF (.slc r a b) e k=e:=rfl
theorem as_nf7 (e:Option β) (k:FV→Option β):asF .emp e k=e:=rfl
theorem as_agF (cs:List FV) (k:List FV→Option β):asAggF (.agg cs) k=k cs:=rfl
theorem as_ag (cs:List IV) (k:List IV→Option β) (kf:List FV→Option β):asAgg (.agg cs) k kf=k cs:=rfl
theorem as_ag' (cs:List FV) (k:List IV→Option β) (kf:List FV→Option β):asAgg (.fv (.agg cs)) k kf=kf cs:=rfl
theorem alv_nil (e:Option β) (k:List FV→Option β):allFvK [] e k=k []:=rfl
theorem alv_fv (v:FV) (l:List IV) (e:Option β) (k:List FV→Option β):allFvK (.fv v::l) e k=allFvK l e fun vs=>k (v::vs):=rfl
theorem alv_nils (l:List IV) (e:Option β) (k:List FV→Option β):allFvK (.nils::l) e k=e:=rfl
theorem alv_app (r:Ref) (es:List FV) (l:List IV) (e:Option β) (k:List FV→Option β):allFvK (.app r es::l) e k=e:=rfl
theorem alv_clip (es:List FV) (l:List IV) (e:Option β) (k:List FV→Option β):allFvK (.clip es::l) e k=e:=rfl
theorem alv_ptr (r:Ref) (o:Nat) (l:List IV) (e:Option β) (k:List FV→Option β):allFvK (.ptr r o::l) e k=e:=rfl
theorem alv_slc (r:Ref) (a b:Nat) (l:List IV) (e:Option β) (k:List FV→Option β):allFvK (.slc r a b::l) e k=e:=rfl
theorem alv_agg (es l:List IV) (e:Option β) (k:List FV→Option β):allFvK (.agg es::l) e k=e:=rfl
theorem alv_mapr (r:Ref) (l:List IV) (e:Option β) (k:List FV→Option β):allFvK (.mapr r::l) e k=e:=rfl
theorem agg_e (l:List IV) (k:IV→Option β):aggK l k=allFvK l (k (.agg l)) fun vs=>k (.fv (.agg vs)):=rfl
theorem tup_e (l:List IV) (k:IV→Option β):tupK l k=allFvK l (k (.tuple l)) fun vs=>k (.fv (.tuple vs)):=rfl
theorem l1_e (a:IV) (h:Hp) (k:IV→List Ref→Option β):load1 a h k=asPtr a (fun r o=>getK r h fun b=>asRow b fun cells=>nthK cells o fun v=>k v [r]) fun cells o=>nthK cells o fun v=>k (.fv v) []:=rfl
theorem lA_e (size:Nat) (a:IV) (h:Hp) (k:IV→List Ref→Option β):loadA size a h k =
  asPtr a (fun r o=>getK r h fun b=>asRow b fun cells=>drpK cells o fun cs=>takK cs size fun cs=>aggK cs fun v=>k v [r]) fun cells o=>drpK cells o fun cs=>takK cs size fun cs=>k (.fv (.agg cs)) []:=rfl
theorem cell_t (size:Nat) (a:IV) (h:Hp) (k:IV→Option β):cellS true size a h k=loadA size a h fun v _=>k v:=rfl
theorem cell_f (size:Nat) (a:IV) (h:Hp) (k:IV→Option β):cellS false size a h k=load1 a h fun v _=>k v:=rfl
theorem wr0 (l:List IV) (k:List IV→Option β):wrK [] l k=k l:=rfl
theorem wr1 (c:FV) (cs:List FV) (x:IV) (l:List IV) (k:List IV→Option β):wrK (c::cs) (x::l) k=wrK cs l fun t=>k (.fv c::t):=rfl
theorem sf0 (x:IV) (l:List IV) (cs:List FV) (k:List IV→Option β):setFK (x::l) 0 cs k=wrK cs (x::l) k:=rfl
theorem sf1 (x:IV) (l:List IV) (cs:List FV) (k:List IV→Option β):setFK (x::l) 1 cs k=setFK l 0 cs fun t=>k (x::t):=rfl
theorem sf2 (x y:IV) (l:List IV) (cs:List FV) (k:List IV→Option β):setFK (x::y::l) 2 cs k=setFK l 0 cs fun t=>k (x::y::t):=rfl
theorem sf3 (x y z:IV) (l:List IV) (cs:List FV) (k:List IV→Option β):setFK (x::y::z::l) 3 cs k=setFK l 0 cs fun t=>k (x::y::z::t):=rfl
theorem sf4 (x y z u:IV) (l:List IV) (cs:List FV) (k:List IV→Option β):setFK (x::y::z::u::l) 4 cs k=setFK l 0 cs fun t=>k (x::y::z::u::t):=rfl
theorem of0 (x b:IV) (l:List IV) (k:List IV→Option β):offK (x::l) 0 b k=k (b::l):=rfl
theorem of1 (x y b:IV) (l:List IV) (k:List IV→Option β):offK (x::y::l) 1 b k=k (x::b::l):=rfl
theorem of2 (x y z b:IV) (l:List IV) (k:List IV→Option β):offK (x::y::z::l) 2 b k=k (x::y::b::l):=rfl
theorem of3 (x y z u b:IV) (l:List IV) (k:List IV→Option β):offK (x::y::z::u::l) 3 b k=k (x::y::z::b::l):=rfl
theorem of6 (x y z u v w s b:IV) (l:List IV) (k:List IV→Option β):offK (x::y::z::u::v::w::s::l) 6 b k=k (x::y::z::u::v::w::b::l):=rfl
theorem sA_f (size:Nat) (a:IV) (cs:List FV) (h:Hp) (k:Hp→List Ref→List Ref→Option β):storeA size a (.fv (.agg cs)) h k =
  asPtr a (fun r o=>getK r h fun b=>asFree b fun cells=>cond (and (Nat.beq cs.length size) (allOneF cs)) (setFK cells o cs fun cells=>layK r (.row cells false) h fun h=>k h [r] [r]) none) fun _ _=>none:=rfl
theorem ml_own (s:Nat) (x:IV):mayLie (.own s) x=true:=rfl
theorem sA_3 (s:Nat) (a b c:IV) (ha:a.one=true) (hb:b.one=true) (hc:c.one=true) (own:List (Nat×Blk)) (ext:List Blk) (k:Hp→List Ref→List Ref→Option β) :
  storeA 3 (.ptr (.own s) 0) (.agg [a,b,c]) ⟨own,ext⟩ k=ownK own s fun bl=>asFree bl fun cells=>cond (Nat.ble 3 cells.length) (layK (.own s) (.row (setCells cells 0 [a,b,c]) false) ⟨own,ext⟩ fun h=>k h [.own s] [.own s]) none:=by
 show ownK own s (fun bl=>asFree bl fun cells=>if IV.alive (.agg [a,b,c])=true∧(IV.cells (.agg [a,b,c])).length=3∧0+3≤cells.length∧(IV.cells (.agg [a,b,c])).all IV.one=true∧mayLie (.own s) (.agg [a,b,c])=true then
  spK (setCells cells 0 (IV.cells (.agg [a,b,c]))) fun cells=>layK (.own s) (.row cells false) ⟨own,ext⟩ fun h=>k h [.own s] [.own s] else none)=_
 congr 1
 funext bl
 congr 1
 funext cells
 by_cases h3:3≤cells.length
 ·rw [if_pos ⟨rfl,rfl,by omega,by simp [IV.cells,ha,hb,hc],rfl⟩,spK_eq,ble_dec,decide_eq_true h3];rfl
 ·rw [if_neg (fun h=>h3 (by omega)),ble_dec,decide_eq_false h3];rfl
theorem sc3 (a b c x y z:IV):setCells [x,y,z] 0 [a,b,c]=[a,b,c]:=rfl
theorem s1_e (a x:IV) (h:Hp) (k:Hp→List Ref→List Ref→Option β):store1 a x h k =
  cond x.one (asPtr a (fun r o=>getK r h fun b=>asFree b fun cells=>cond (mayLie r x) (offK cells o x fun cells=>layK r (.row cells false) h fun h=>k h [r] [r]) none) fun _ _=>none) (storeA 1 a x h k):=rfl
theorem fa_p (o:Nat) (r:Ref) (k:IV→Option β):faddrS o (.ptr r 0) k=k (.ptr r o):=by rw [x_faddr,Nat.zero_add]
theorem fa_f (o:Nat) (cs:List FV) (k:IV→Option β):faddrS o (.fv (.fp cs 0)) k=k (.fv (.fp cs o)):=by rw [x_faddr_f,Nat.zero_add]
theorem nil_p (r:Ref) (o:Nat) (k:IV→Option β):nilS (.ptr r o) k=k (.ptr r o):=rfl
theorem nil_f (cs:List FV) (o:Nat) (k:IV→Option β):nilS (.fv (.fp cs o)) k=k (.fv (.fp cs o)):=rfl
theorem nil_func (g:FuncId) (a b:List FV) (k:IV→Option β):nilS (.fv (.func (.func g) a b)) k=k (.fv (.func (.func g) a b)):=rfl
theorem ex_t (ix:Nat) (vs:List IV) (k:IV→Option β):extS ix (.tuple vs) k=nthK vs ix k:=rfl
theorem ex_f (ix:Nat) (vs:List FV) (k:IV→Option β):extS ix (.fv (.tuple vs)) k=nthK vs ix fun v=>k (.fv v):=rfl
theorem f1_e (o:Nat) (x:IV) (k:IV→Option β):fld1 o x k=asAgg x (fun cs=>nthK cs o k) fun cs=>nthK cs o fun v=>k (.fv v):=rfl
theorem fA_e (size o:Nat) (x:IV) (k:IV→Option β):fldA size o x k=asAgg x (fun cs=>drpK cs o fun cs=>takK cs size fun cs=>aggK cs k) fun cs=>drpK cs o fun cs=>takK cs size fun cs=>k (.fv (.agg cs)):=rfl
theorem bld_e (z:List IV) (pl:List (Nat×Nat×IV)) (k:IV→Option β):bldS z pl k=fillK z pl fun cells=>aggK cells k:=rfl
theorem fk0 (z:List IV) (k:List IV→Option β):fillK z [] k=k z:=rfl
theorem fk1 (z:List IV) (o sz:Nat) (v:IV) (pl:List (Nat×Nat×IV)) (k:List IV→Option β):fillK z ((o,sz,v)::pl) k=fillP z o sz v fun z=>fillK z pl k:=rfl
theorem fp_one {v:IV} (hv:v.one=true) (z:List IV) (o:Nat) (k:List IV→Option β):fillP z o 1 v k=offK z o v k:=by
 unfold fillP;cases v with
 | fv w =>
  show cond (oneF w) _ _=_
  have:oneF w=true:=by cases w<;>first | rfl | cases hv
  rw [this];rfl
 | _=>show fillG _ _ _ _ _=_;unfold fillG;rw [hv];rfl
theorem fp_agg (z:List IV) (o sz:Nat) (cs:List FV) (k:List IV→Option β):fillP z o sz (.fv (.agg cs)) k=cond (Nat.beq cs.length sz) (setFK z o cs k) none:=rfl
theorem nb3 (a b c:FV):Nat.beq [a,b,c].length 3=true:=rfl
theorem nb4 (a b c d:FV):Nat.beq [a,b,c,d].length 4=true:=rfl
theorem nb7 (a b c d e f g:FV):Nat.beq [a,b,c,d,e,f,g].length 7=true:=rfl
theorem nl3 (a b c:IV):Nat.ble 3 [a,b,c].length=true:=rfl
theorem and_tt:(and true true)=true:=rfl
end
end Idl
end Go.Proofs.Ytbkdidonegggdaa
namespace Go.Proofs.Ytbkdidonegggdaa
namespace Idl
section
variable {β:Type} {E:Env} {t:TypeId}
theorem iv_e (n:Int):IV.fv (.int .i64 n)=iv n:=rfl
def w64 (n:Int):Int:=IntKind.i64.wrap n
theorem w64_id {n:Int} (h1:-9223372036854775808≤n) (h2:n≤9223372036854775807):w64 n=n:=by
 show (if (true && decide ((n % (18446744073709551616:Int)) ≥ (9223372036854775808:Int)))=true then (n % (18446744073709551616:Int)) - (18446744073709551616:Int) else (n % (18446744073709551616:Int)))=n
 by_cases h:0≤n
 ·have e:n % (18446744073709551616:Int)=n:=by omega
  have e2:¬ n ≥ (9223372036854775808:Int):=by omega
  rw [e,decide_eq_false e2];rfl
 ·have e:n % (18446744073709551616:Int)=n+18446744073709551616:=by omega
  have e2:n+18446744073709551616 ≥ (9223372036854775808:Int):=by omega
  rw [e,decide_eq_true e2];simp
theorem add_s (a b:Int) (k:IV→Option β):addS E t (iv a) (iv b) k=k (iv (w64 (a+b))):=by
 have hg:binS E t .add (iv a) (iv b) k=k (iv (w64 (a+b))):=by
  rw [binS,optS_eq];rfl
 cases a with
 | negSucc a=>exact hg
 | ofNat a=>cases b with
  | negSucc b=>exact hg
  | ofNat b =>
   show cond (Nat.ble (a+b) 9223372036854775807) (intK (a+b) k) _=_
   rw [ble_dec];by_cases h:a+b≤9223372036854775807
   ·rw [decide_eq_true h]
    show intK (a+b) k=_
    rw [intK_eq]
    have:w64 (Int.ofNat a+Int.ofNat b)=((a+b:Nat):Int):=by
     rw [w64_id (by simp only [Int.ofNat_eq_natCast];omega) (by simp only [Int.ofNat_eq_natCast];omega)];simp only [Int.ofNat_eq_natCast];omega
    rw [this]
   ·rw [decide_eq_false h];exact hg
theorem sub_s (a b:Int) (k:IV→Option β):subS E t (iv a) (iv b) k=k (iv (w64 (a - b))):=by
 have hg:binS E t .sub (iv a) (iv b) k=k (iv (w64 (a - b))):=by
  rw [binS,optS_eq];rfl
 cases a with
 | negSucc a=>exact hg
 | ofNat a=>cases b with
  | negSucc b=>exact hg
  | ofNat b =>
   show cond (and (Nat.ble b a) (Nat.ble a 9223372036854775807)) (intK (a - b) k) _=_
   rw [ble_dec,ble_dec];by_cases h:b≤a∧a≤9223372036854775807
   ·rw [decide_eq_true h.1,decide_eq_true h.2]
    show intK (a - b) k=_
    rw [intK_eq]
    have:w64 (Int.ofNat a - Int.ofNat b)=((a - b:Nat):Int):=by
     rw [w64_id (by simp only [Int.ofNat_eq_natCast];omega) (by simp only [Int.ofNat_eq_natCast];omega)];simp only [Int.ofNat_eq_natCast];omega
    rw [this]
   ·have:(decide (b≤a) && decide (a≤9223372036854775807))=false:=by
     rw [← Bool.decide_and];exact decide_eq_false h
    rw [show and (decide (b≤a)) (decide (a≤9223372036854775807))=false from this]
    exact hg
theorem mul_s (a b:Int) (k:IV→Option β):binS E t .mul (iv a) (iv b) k=k (iv (w64 (a * b))):=by
 rw [binS,optS_eq];rfl
theorem quo_s {b:Int} (hb:b≠0) (a:Int) (k:IV→Option β):binS E t .quo (iv a) (iv b) k=k (iv (w64 (a.tdiv b))):=by
 rw [binS,optS_eq]
 have:binR E .quo t (iv a) (iv b)=some (iv (w64 (a.tdiv b))):=by
  show (pureVal (Op.intDiv .quo .i64 a b)).bind ofScal=_
  simp only [Op.intDiv,hb,if_false];rfl
 rw [this];rfl
theorem rem_s {b:Int} (hb:b≠0) (a:Int) (k:IV→Option β):binS E t .rem (iv a) (iv b) k=k (iv (a.tmod b)):=by
 rw [binS,optS_eq]
 have:binR E .rem t (iv a) (iv b)=some (iv (a.tmod b)):=by
  show (pureVal (Op.intDiv .rem .i64 a b)).bind ofScal=_
  simp only [Op.intDiv,hb,if_false];rfl
 rw [this];rfl
theorem eq_s (a b:Int) (k:IV→Option β):eqS E t (iv a) (iv b) k=k (.fv (.bool (decide (a=b)))):=x_eqI a b k
theorem ne_s (a b:Int) (k:IV→Option β):neS E t (iv a) (iv b) k=k (.fv (.bool (!decide (a=b)))):=x_neI a b k
theorem lt_s (a b:Int) (k:IV→Option β):ltS E t (iv a) (iv b) k=k (.fv (.bool (decide (a<b)))):=x_ltI a b k
theorem le_s (a b:Int) (k:IV→Option β):leS E t (iv a) (iv b) k=k (.fv (.bool (decide (a≤b)))):=x_leI a b k
theorem gt_s (a b:Int) (k:IV→Option β):gtS E t (iv a) (iv b) k=k (.fv (.bool (decide (b<a)))):=by
 rw [gtS,x_cmpI (fun a b=>by
  show some (IV.fv (.bool (decide ((a:Int) > (b:Int)))))=_
  rw [ble_dec];congr 3;exact decide_eq_decide.2 (by omega))]
 rfl
theorem ge_s (a b:Int) (k:IV→Option β):geS E t (iv a) (iv b) k=k (.fv (.bool (decide (b≤a)))):=by
 rw [geS,x_cmpI (fun a b=>by
  show some (IV.fv (.bool (decide ((a:Int) ≥ (b:Int)))))=_
  rw [ble_dec];congr 3;exact decide_eq_decide.2 (by omega))]
 rfl
theorem eq_sb (a b:Bool) (hT:E.T t=some ⟨1,1,.bool,[.fv (.bool false)]⟩) (k:IV→Option β):eqS E t (.fv (.bool a)) (.fv (.bool b)) k=k (.fv (.bool (a == b))):=by
 show binS E t .eql _ _ k=_
 rw [binS,optS_eq]
 have:binR E .eql t (.fv (.bool a)) (.fv (.bool b))=some (.fv (.bool (a == b))):=by
  simp only [binR,hT,eqOp]
 rw [this];rfl
theorem not_s (b:Bool) (k:IV→Option β):optS (unR .not (.fv (.bool b))) k=k (.fv (.bool !b)):=x_not b k
theorem cd_t (a b:Option β):condS (.fv (.bool true)) a b=a:=rfl
theorem cd_f (a b:Option β):condS (.fv (.bool false)) a b=b:=rfl
theorem cd_d (c:Prop) [Decidable c] (a b:Option β):condS (.fv (.bool (decide c))) a b=if c then a else b:=x_cond c a b
theorem cd_n (c:Prop) [Decidable c] (a b:Option β):condS (.fv (.bool (!decide c))) a b=if c then b else a:=by
 by_cases h:c
 ·rw [decide_eq_true h,if_pos h];rfl
 ·rw [decide_eq_false h,if_neg h];rfl
theorem cd_b (c:Bool) (a b:Option β):condS (.fv (.bool c)) a b=if c=true then a else b:=by
 cases c<;>rfl
theorem pk_e (c a b:IV) (k:IV→Option β):pickS c a b k=condS c (k a) (k b):=rfl
theorem gd_mt {b:Bool} (hb:b=true) (h:Hp) (m:(IV→Hp→List Ref→List Ref→Option β)→Option β) (k:IV→Hp→List Ref→List Ref→Option β):guardS (.fv (.bool b)) true h m k=m k:=by rw [hb];rfl
theorem gd_mf {b:Bool} (hb:b=false) (h:Hp) (m:(IV→Hp→List Ref→List Ref→Option β)→Option β) (k:IV→Hp→List Ref→List Ref→Option β):guardS (.fv (.bool b)) false h m k=m k:=by rw [hb];rfl
theorem gd_sf {b:Bool} (hb:b=true) (h:Hp) (m:(IV→Hp→List Ref→List Ref→Option β)→Option β) (k:IV→Hp→List Ref→List Ref→Option β):guardS (.fv (.bool b)) false h m k=k undefV h [] []:=by rw [hb];rfl
theorem gd_st {b:Bool} (hb:b=false) (h:Hp) (m:(IV→Hp→List Ref→List Ref→Option β)→Option β) (k:IV→Hp→List Ref→List Ref→Option β):guardS (.fv (.bool b)) true h m k=k undefV h [] []:=by rw [hb];rfl
theorem gd_u (w:Bool) (h:Hp) (m:(IV→Hp→List Ref→List Ref→Option β)→Option β) (k:IV→Hp→List Ref→List Ref→Option β):guardS undefV w h m k=k undefV h [] []:=rfl
theorem ch0 (rd wr:List Ref) (a:Option β):chkS [] rd wr a=a:=rfl
theorem ch1 (q1 q2:List Ref) (l:List (List Ref×List Ref)) (rd wr:List Ref) (a:Option β):chkS ((q1,q2)::l) rd wr a=cond (djB q2 rd) (cond (djB q2 wr) (cond (djB wr q1) (chkS l rd wr a) none) none) none:=rfl
theorem dj0 (b:List Ref):djB [] b=true:=rfl
theorem djn:∀(a:List Ref),djB a []=true
 | []=>rfl
 | _::a=>djn a
theorem dj1 (r:Ref) (a b:List Ref):djB (r::a) b=cond (allNe r b) (djB a b) false:=rfl
theorem an0 (r:Ref):allNe r []=true:=rfl
theorem an1 (r s:Ref) (l:List Ref):allNe r (s::l)=cond (refNe r s) (allNe r l) false:=rfl
theorem rn_o {i j:Nat} (h:(i == j)=false):refNe (.own i) (.own j)=true:=by
 show not (Nat.beq i j)=true
 rw [show Nat.beq i j=false from N_bf h];rfl
theorem rn_oe (i j:Nat):refNe (.own i) (.ext j)=true:=rfl
theorem rn_eo (i j:Nat):refNe (.ext i) (.own j)=true:=rfl
theorem out1 (v:IV) (h:Hp):outS1 [v] h=some (v,h):=rfl
theorem out0 (h:Hp):outS1 [] h=some (.fv (.tuple []),h):=rfl
theorem out2 (a b:IV) (h:Hp):outS1 [a,b] h=tupK [a,b] fun v=>some (v,h):=rfl
theorem out3 (a b c:IV) (h:Hp):outS1 [a,b,c] h=tupK [a,b,c] fun v=>some (v,h):=rfl
theorem out4 (a b c d:IV) (h:Hp):outS1 [a,b,c,d] h=tupK [a,b,c,d] fun v=>some (v,h):=rfl
theorem len_f (es:List FV) (k:IV→Option β):lenS (.fv (.sl es)) k=k (iv es.length):=intK_eq ..
theorem len_0 (k:IV→Option β):lenS .nils k=k (iv 0):=rfl
theorem len_c (es:List FV) (k:IV→Option β):lenS (.clip es) k=k (iv es.length):=intK_eq ..
theorem len_a (r:Ref) (es:List FV) (k:IV→Option β):lenS (.app r es) k=k (iv es.length):=intK_eq ..
theorem len_s (r:Ref) (sz n:Nat) (k:IV→Option β):lenS (.slc r sz n) k=k (iv n):=intK_eq ..
theorem ix_f {size:Nat} {es:List FV} {n:Nat} {el:FV} (he:es[n]?=some el) (hl:el.cells.length=size) (k:IV→Option β):ixS size (.fv (.sl es)) (iv n) k=k (.fv (.fp el.cells 0)):=x_ix he hl k
theorem ix_a {size:Nat} {r:Ref} {es:List FV} {n:Nat} {el:FV} (he:es[n]?=some el) (hl:el.cells.length=size) (k:IV→Option β):ixS size (.app r es) (iv n) k=k (.fv (.fp el.cells 0)):=x_ix he hl k
theorem ix_c {size:Nat} {es:List FV} {n:Nat} {el:FV} (he:es[n]?=some el) (hl:el.cells.length=size) (k:IV→Option β):ixS size (.clip es) (iv n) k=k (.fv (.fp el.cells 0)):=x_ix he hl k
theorem ix_s {size sz len:Nat} {r:Ref} {n:Nat} (hn:n<len) (hs:sz=size) (k:IV→Option β):ixS size (.slc r sz len) (iv n) k=k (.ptr r (n * sz)):=by
 show cond (and (Nat.ble (Nat.succ n) len) (Nat.beq sz size)) (fNat (n * sz) fun o=>k (.ptr r o)) none=_
 rw [ble_dec,decide_eq_true (show Nat.succ n≤len from hn),hs,show Nat.beq size size=true from Nat.beq_refl size]
 simp only [Bool.and_self,cond_true];rw [fNat_eq]
theorem ix0_agg (size:Nat) (cs:List FV) (es:List FV) (hl:cs.length=size) (k:IV→Option β):ixS size (.fv (.sl (.agg cs::es))) (iv 0) k=k (.fv (.fp cs 0)):=ix_f (el:=.agg cs) (n:=0) rfl hl k
theorem ix1_agg (size:Nat) (cs:List FV) (e:FV) (es:List FV) (hl:cs.length=size) (k:IV→Option β):ixS size (.fv (.sl (e :: .agg cs::es))) (iv 1) k=k (.fv (.fp cs 0)):=ix_f (el:=.agg cs) (n:=1) rfl hl k
theorem ix2_agg (size:Nat) (cs:List FV) (e e':FV) (es:List FV) (hl:cs.length=size) (k:IV→Option β):ixS size (.fv (.sl (e::e' :: .agg cs::es))) (iv 2) k=k (.fv (.fp cs 0)):=ix_f (el:=.agg cs) (n:=2) rfl hl k
theorem ix3_agg (size:Nat) (cs:List FV) (e e' e'':FV) (es:List FV) (hl:cs.length=size) (k:IV→Option β):ixS size (.fv (.sl (e::e'::e'' :: .agg cs::es))) (iv 3) k=k (.fv (.fp cs 0)):=ix_f (el:=.agg cs) (n:=3) rfl hl k
def Fz (v:IV) (own:List (Nat×Blk)) (w:FV):Prop:=∃u lg,∀(e:Option (IV×Hp)) (K:FV→List (Ref×Blk)→List Ref→Option (IV×Hp)),fzU 12 v ⟨own,[]⟩ [] e K=K w u lg
def Ans (r:Option (IV×Hp)) (w:FV):Prop:=∃v own,r=some (v,⟨own,[]⟩) ∧
 (Fz v own w∨((∀(e:Option (IV×Hp)) (K:FV→List (Ref×Blk)→List Ref→Option (IV×Hp)),fzU 12 v ⟨own,[]⟩ [] e K=e)∧∃u,(frz 4096 v).run ⟨own,[]⟩=some (w,u)))
theorem fz_fv (w:FV) (own:List (Nat×Blk)):Fz (.fv w) own w:=⟨[],[],fun _ _=>rfl⟩
theorem ans_fv (w:FV) (own:List (Nat×Blk)):Ans (some (.fv w,⟨own,[]⟩)) w:=⟨_,own,rfl,.inl (fz_fv w own)⟩
def frz1:IV→Option FV
 | .fv v=>some v
 | .nils=>some (.sl [])
 | .emp=>some (.sl [])
 | .clip es=>some (.sl es)
 | .app _ es=>some (.sl es)
 | _=>none
def frz1L:List IV→Option (List FV)
 | []=>some []
 | v::l=>(frz1 v).bind fun x=>(frz1L l).map fun xs=>x::xs
def frzP (v:IV):Option FV:=match v with
 | .agg cs=>if cs.length≤8 then (frz1L cs).map .agg else none
 | v=>frz1 v
def frzPL:List IV→Option (List FV)
 | []=>some []
 | v::l=>(frzP v).bind fun x=>(frzPL l).map fun xs=>x::xs
theorem zp_fv (v:FV):frzP (.fv v)=some v:=rfl
theorem zp_nils:frzP .nils=some (.sl []):=rfl
theorem zp_emp:frzP .emp=some (.sl []):=rfl
theorem zp_clip (es:List FV):frzP (.clip es)=some (.sl es):=rfl
theorem zp_app (r:Ref) (es:List FV):frzP (.app r es)=some (.sl es):=rfl
theorem zq_fv (v:FV):frz1 (.fv v)=some v:=rfl
theorem zq_nils:frz1 .nils=some (.sl []):=rfl
theorem zq_emp:frz1 .emp=some (.sl []):=rfl
theorem zq_clip (es:List FV):frz1 (.clip es)=some (.sl es):=rfl
theorem zq_app (r:Ref) (es:List FV):frz1 (.app r es)=some (.sl es):=rfl
theorem zp_3 {a b c:IV} {x y z:FV} (ha:frz1 a=some x) (hb:frz1 b=some y) (hc:frz1 c=some z):frzP (.agg [a,b,c])=some (.agg [x,y,z]):=by
 show (if 3≤8 then (frz1L [a,b,c]).map FV.agg else none)=_
 simp [frz1L,ha,hb,hc]
theorem zp_4 {a b c d:IV} {x y z u:FV} (ha:frz1 a=some x) (hb:frz1 b=some y) (hc:frz1 c=some z) (hd:frz1 d=some u):frzP (.agg [a,b,c,d])=some (.agg [x,y,z,u]):=by
 show (if 4≤8 then (frz1L [a,b,c,d]).map FV.agg else none)=_
 simp [frz1L,ha,hb,hc,hd]
theorem fz1_u {v:IV} {x:FV} (d:Nat) (h:Hp) (lg:List Ref) (e:Option β) (k:FV→List (Ref×Blk)→List Ref→Option β) (hz:frz1 v=some x):fzU (d+1) v h lg e k=k x [] lg:=by
 cases v<;>first | (cases hz;rfl) | (cases hz)
theorem fz1_l (d:Nat) (h:Hp) (lg:List Ref) (e:Option β):∀(cs:List IV) (k:List FV→List (Ref×Blk)→List Ref→Option β) {xs:List FV},frz1L cs=some xs→fzLK (fzU (d+1)) cs h lg e k=k xs [] lg
 | [],k,xs,hz=>by cases hz;rfl
 | v::cs,k,xs,hz=>by
  simp only [frz1L] at hz;cases h1:frz1 v with
  | none=>rw [h1] at hz;cases hz
  | some x =>
   rw [h1] at hz;cases h2:frz1L cs with
   | none=>rw [h2] at hz;cases hz
   | some ys =>
    rw [h2] at hz;cases hz
    show fzU (d+1) v h lg e (fun y u lg=>fzLK (fzU (d+1)) cs h lg e fun ys us lg=>apK u us fun w=>k (y::ys) w lg)=_
    rw [fz1_u d h lg e _ h1,fz1_l d h lg e cs _ h2];rfl
theorem fzp_u {v:IV} {x:FV} (h:Hp) (lg:List Ref) (e:Option β) (k:FV→List (Ref×Blk)→List Ref→Option β) (hz:frzP v=some x):fzU 12 v h lg e k=k x [] lg:=by
 cases v with
 | agg cs =>
  simp only [frzP] at hz;split at hz
  ·rename_i hl;cases h2:frz1L cs with
   | none=>rw [h2] at hz;cases hz
   | some ys =>
    rw [h2] at hz;cases hz
    show cond (Nat.ble cs.length 300) (fzLK (fzU 11) cs h lg e fun cs u lg=>k (.agg cs) u lg) e=_
    rw [ble_dec,decide_eq_true (show cs.length≤300 by omega)]
    exact fz1_l 10 h lg e cs _ h2
  ·cases hz
 | _=>exact fz1_u 11 h lg e k hz
theorem fz_p {v:IV} {x:FV} (hz:frzP v=some x) (own:List (Nat×Blk)):Fz v own x:=⟨[],[],fun e K=>fzp_u _ _ e K hz⟩
theorem ans_p {v:IV} {x:FV} (hz:frzP v=some x) (own:List (Nat×Blk)):Ans (some (v,⟨own,[]⟩)) x:=⟨v,own,rfl,.inl (fz_p hz own)⟩
theorem fr1 {v:IV} {x:FV} (n:Nat) (hz:frz1 v=some x):frz (n+1) v=.ret (x,[]):=by
 cases v<;>first | (cases hz;rfl) | (cases hz)
theorem fr1_l:∀(cs:List IV) (n:Nat) {xs:List FV},cs.length+1<n→frz1L cs=some xs→frzL n cs=.ret (xs,[])
 | [],n+1,xs,_,hz=>by cases hz;rfl
 | v::cs,n+2,xs,hn,hz=>by
  simp only [frz1L] at hz;cases h1:frz1 v with
  | none=>rw [h1] at hz;cases hz
  | some x =>
   rw [h1] at hz;cases h2:frz1L cs with
   | none=>rw [h2] at hz;cases hz
   | some ys =>
    rw [h2] at hz;cases hz;simp only [List.length_cons] at hn;simp only [frzL,fr1 n h1,Rd.bind,fr1_l cs (n+1) (by omega) h2];rfl
theorem frp {v:IV} {x:FV} (n:Nat) (hn:20<n) (hz:frzP v=some x):frz n v=.ret (x,[]):=by
 cases n with
 | zero=>omega
 | succ n =>
  cases v with
  | agg cs =>
   simp only [frzP] at hz;split at hz
   ·rename_i hl;cases h2:frz1L cs with
    | none=>rw [h2] at hz;cases hz
    | some ys =>
     rw [h2] at hz;cases hz;simp only [frz,fr1_l cs n (by omega) h2,Rd.bind]
   ·cases hz
  | _=>exact fr1 n hz
theorem frp_l:∀(cs:List IV) (n:Nat) {xs:List FV},cs.length+30<n→frzPL cs=some xs→frzL n cs=.ret (xs,[])
 | [],n+1,xs,_,hz=>by cases hz;rfl
 | v::cs,n+1,xs,hn,hz=>by
  simp only [frzPL] at hz;cases h1:frzP v with
  | none=>rw [h1] at hz;cases hz
  | some x =>
   rw [h1] at hz;cases h2:frzPL cs with
   | none=>rw [h2] at hz;cases hz
   | some ys =>
    rw [h2] at hz;cases hz;simp only [List.length_cons] at hn;simp only [frzL,frp n (by omega) h1,Rd.bind,frp_l cs n (by omega) h2];rfl
theorem ans_t {vs:List IV} {xs:List FV} (hz:frzPL vs=some xs) (hl:vs.length≤100) (own:List (Nat×Blk)):Ans (some (.tuple vs,⟨own,[]⟩)) (.tuple xs) :=
 ⟨_,own,rfl,.inr ⟨fun _ _=>rfl,[],by
  show (frz (4095+1) (.tuple vs)).run _=_
  simp only [frz,frp_l vs 4095 (by omega) hz,Rd.bind];rfl⟩⟩
theorem zl_nil:frzPL []=some []:=rfl
theorem zl_2 {a b:IV} {x y:FV} (ha:frzP a=some x) (hb:frzP b=some y):frzPL [a,b]=some [x,y]:=by simp [frzPL,ha,hb]
theorem zl_3 {a b c:IV} {x y z:FV} (ha:frzP a=some x) (hb:frzP b=some y) (hc:frzP c=some z):frzPL [a,b,c]=some [x,y,z]:=by simp [frzPL,ha,hb,hc]
theorem zl_4 {a b c d:IV} {x y z u:FV} (ha:frzP a=some x) (hb:frzP b=some y) (hc:frzP c=some z) (hd:frzP d=some u):frzPL [a,b,c,d]=some [x,y,z,u]:=by simp [frzPL,ha,hb,hc,hd]
theorem zl_1 {a:IV} {x:FV} (ha:frzP a=some x):frzPL [a]=some [x]:=by simp [frzPL,ha]
theorem frz_args:∀(args:List IV) {vs:List FV},frzPL args=some vs→frzArgs [] args=.ret (vs.map .fv,[],[])
 | [],vs,hz=>by cases hz;rfl
 | v::l,vs,hz=>by
  simp only [frzPL] at hz;cases h1:frzP v with
  | none=>rw [h1] at hz;cases hz
  | some x =>
   rw [h1] at hz;cases h2:frzPL l with
   | none=>rw [h2] at hz;cases hz
   | some ys =>
    rw [h2] at hz;cases hz;simp only [frzArgs,frp 4096 (by omega) h1,Rd.bind,frz_args l h2];rfl
theorem fz0 (keep:List Bool) (h:Hp) (lg:List Ref) (e:Option β) (k:List IV→List Ref→List (Ref×Blk)→List Ref→Option β):fzA [] keep h lg e k=k [] [] [] lg:=rfl
theorem fz1k (x:IV) (l:List IV) (ks:List Bool) (h:Hp) (lg:List Ref) (e:Option β) (k:List IV→List Ref→List (Ref×Blk)→List Ref→Option β) :
  fzA (x::l) (true::ks) h lg e k=asPtr x (fun r o=>fzA l ks h lg e fun vs rs us lg=>k (.ptr r o::vs) (r::rs) us lg) fun _ _=>e:=rfl
theorem fz1f (x:IV) (l:List IV) (ks:List Bool) (h:Hp) (lg:List Ref) (e:Option β) (k:List IV→List Ref→List (Ref×Blk)→List Ref→Option β) :
  fzA (x::l) (false::ks) h lg e k=fzU 12 x h lg e fun y u lg=>fzA l ks h lg e fun vs rs us lg=>apK u us fun w=>k (.fv y::vs) rs w lg:=rfl
section
variable (d:Nat) (h:Hp) (lg:List Ref) (e:Option β) (k:FV→List (Ref×Blk)→List Ref→Option β)
theorem fu_agg (cs:List IV):fzU 12 (.agg cs) h lg e k=cond (Nat.ble cs.length 300) (fzLK (fzU 11) cs h lg e fun cs u lg=>k (.agg cs) u lg) e:=rfl
theorem fu_ptr (s:Nat) (off:Nat):fzU 12 (.ptr (.own s) off) h lg e k=getK (.own s) h fun b=>asRow b fun cells=>cond (Nat.ble cells.length 300) (fzLK (fzU 11) cells h (.own s::lg) e fun cs u lg=>k (.fp cs off) ((.own s,.row cells true)::u) lg) e:=rfl
theorem fv_fv (v:FV):fzU 11 (.fv v) h lg e k=k v [] lg:=rfl
theorem fl0 (g:FzK β) (k:List FV→List (Ref×Blk)→List Ref→Option β):fzLK g [] h lg e k=k [] [] lg:=rfl
theorem fl1 (g:FzK β) (x:IV) (l:List IV) (k:List FV→List (Ref×Blk)→List Ref→Option β):fzLK g (x::l) h lg e k=g x h lg e fun y u lg=>fzLK g l h lg e fun ys us lg=>apK u us fun w=>k (y::ys) w lg:=rfl
end
noncomputable def isoC (rs:List Ref) (r:Option (IV×Hp)) (h:Hp) (u:List (Ref×Blk)) (lg:List Ref) (e:Option (IV×Hp)) (g:List Ref→Option (IV×Hp)) (k:IV→Hp→List Ref→List Ref→Option (IV×Hp)):Option (IV×Hp):=match rs with
 | []=>(match r with
  | none=>none
  | some p=>match p with
   | (v,h')=>match h' with
    | ⟨own,ext⟩=>List.casesOn (motive:=fun _=>Option (IV×Hp)) ext (fzU 12 v ⟨own,[]⟩ [] e fun w _ _=>layU u h fun h2=>k (.fv w) h2 lg (keys u)) fun _ _=>none)
 | r::rs=>g (r::rs)
theorem iso_e (keep:List Bool) (ih:Handler) (f:FuncId) (args:List IV) (h:Hp) (k:IV→Hp→List Ref→List Ref→Option (IV×Hp)):isoS keep false false ih f args h k =
  fzA args keep h [] (isoD keep false false ih f args h k) fun vs rs u lg=>isoC rs (ih f vs ⟨[],[]⟩) h u lg (isoD keep false false ih f args h k) (fun rs=>match rs with
   | []=>none
   | r::rs=>(match h with
    | ⟨own,ext⟩=>cond (goB 400 (r::rs) 0 ext) (match ih f vs ⟨[],ext⟩ with
     | none=>none
     | some p=>match p with
      | (v,h')=>match h' with
       | ⟨own',ext'⟩=>cond (and (Nat.beq ext'.length ext.length) (okB ext.length ext'))
        (fzU 12 v ⟨own',ext'⟩ [] (isoD keep false false ih f args h k) fun w _ _=>layU u ⟨own,ext'⟩ fun h2=>k (.fv w) h2 ((extsUp ext.length).reverse++lg) (keys u++extsUp ext.length)) none)
     (isoD keep false false ih f args h k))) k:=by
 unfold isoS;simp only [cond_false];congr 1
theorem fza_p:∀(args:List IV) {vs:List FV} (h:Hp) (lg:List Ref) (e:Option β) (k:List IV→List Ref→List (Ref×Blk)→List Ref→Option β),frzPL args=some vs→fzA args [] h lg e k=k (vs.map .fv) [] [] lg
 | [],vs,h,lg,e,k,hz=>by cases hz;rfl
 | v::l,vs,h,lg,e,k,hz=>by
  simp only [frzPL] at hz;cases h1:frzP v with
  | none=>rw [h1] at hz;cases hz
  | some x =>
   rw [h1] at hz;cases h2:frzPL l with
   | none=>rw [h2] at hz;cases hz
   | some ys =>
    rw [h2] at hz;cases hz
    show fzU 12 v h lg e (fun y u lg=>fzA l [] h lg e fun vs rs us lg=>apK u us fun w=>k (.fv y::vs) rs w lg)=_
    rw [fzp_u h lg e _ h1,fza_p l h lg e _ h2];rfl
theorem renL_fv (f:Ref→Option Ref):∀l:List FV,IV.ren.renL f (l.map .fv)=some (l.map .fv)
 | []=>rfl
 | v::l=>by
  simp only [List.map_cons,IV.ren.renL,IV.ren,renL_fv f l];rfl
theorem iso_p {ih:Handler} {f:FuncId} {args:List IV} {vs:List FV} {w:FV} (hz:frzPL args=some vs) (hr:Ans (ih f (vs.map .fv) ⟨[],[]⟩) w) (h:Hp) (k:IV→Hp→List Ref→List Ref→Option (IV×Hp)) :
  isoS [] false false ih f args h k=k (.fv w) h [] []:=by
 obtain ⟨v,own,e,hv⟩:=hr;have hD:(∃u,(frz 4096 v).run ⟨own,[]⟩=some (w,u))→isoD [] false false ih f args h k=k (.fv w) h [] []:=by
  rintro ⟨u,hu⟩;unfold isoD;simp only [frz_args args hz,Rd.runLog,gather,renL_fv,List.map_nil,renBlks,fL_eq (fV_eq 3),fL_eq fBk_eq,askedD,Bool.false_eq_true,if_false,e,hu,Option.map_some,IV.ren]
  show (match laid h ([]++(keys []).zip []) with | none=>none | some h'=>fH h' fun h'=>fV 3 (.fv w) fun res=>k res h' [] _)=_
  simp only [keys,List.map_nil,List.zip_nil_left,List.append_nil,laid,fH_eq,fV_eq]
 rw [iso_e,fza_p args h [] _ _ hz,e];simp only [isoC];rcases hv with ⟨u',lg',hf⟩ | ⟨hf,hu⟩
 ·rw [hf];rfl
 ·rw [hf];exact hD hu
theorem iso_0 {ih:Handler} {f:FuncId} {w:FV} (hr:Ans (ih f [] ⟨[],[]⟩) w) (h:Hp) (k:IV→Hp→List Ref→List Ref→Option (IV×Hp)) :
  isoS [] false false ih f [] h k=k (.fv w) h [] []:=iso_p (vs:=[]) rfl hr h k
theorem iso_1 {ih:Handler} {f:FuncId} {a:IV} {x w:FV} (hr:Ans (ih f [.fv x] ⟨[],[]⟩) w) (ha:frzP a=some x) (h:Hp) (k:IV→Hp→List Ref→List Ref→Option (IV×Hp)) :
  isoS [] false false ih f [a] h k=k (.fv w) h [] []:=iso_p (zl_1 ha) hr h k
theorem iso_2 {ih:Handler} {f:FuncId} {a b:IV} {x y w:FV} (hr:Ans (ih f [.fv x,.fv y] ⟨[],[]⟩) w) (ha:frzP a=some x) (hb:frzP b=some y) (h:Hp) (k:IV→Hp→List Ref→List Ref→Option (IV×Hp)) :
  isoS [] false false ih f [a,b] h k=k (.fv w) h [] []:=iso_p (zl_2 ha hb) hr h k
theorem iso_3 {ih:Handler} {f:FuncId} {a b c:IV} {x y z w:FV} (hr:Ans (ih f [.fv x,.fv y,.fv z] ⟨[],[]⟩) w) (ha:frzP a=some x) (hb:frzP b=some y) (hc:frzP c=some z) (h:Hp) (k:IV→Hp→List Ref→List Ref→Option (IV×Hp)) :
  isoS [] false false ih f [a,b,c] h k=k (.fv w) h [] []:=iso_p (zl_3 ha hb hc) hr h k
theorem iso_4 {ih:Handler} {f:FuncId} {a b c d:IV} {x y z u w:FV} (hr:Ans (ih f [.fv x,.fv y,.fv z,.fv u] ⟨[],[]⟩) w) (ha:frzP a=some x) (hb:frzP b=some y) (hc:frzP c=some z) (hd:frzP d=some u) (h:Hp)
  (k:IV→Hp→List Ref→List Ref→Option (IV×Hp)):isoS [] false false ih f [a,b,c,d] h k=k (.fv w) h [] []:=iso_p (zl_4 ha hb hc hd) hr h k
theorem gen_val (v:IV) (s:Nat) (h:Hp) (k:IV→Hp→List Ref→List Ref→Option β):genS (.ret { eff:={ val:=v } }) s h k=k v h [] []:=by
 unfold genS;simp only [Rd.runLog,newRefs,fV_eq];rfl
theorem gen_val' (v:IV) (s:Nat) (h:Hp) (k:IV→Hp→List Ref→List Ref→Option β):genS (Idl.val v) s h k=k v h [] []:=gen_val v s h k
theorem bs_tm {e:TypeId} {a b:Nat} {ei:TI} {z:List IV} (hT:E.T t=some ⟨a,b,.slice e,z⟩) (he:E.T e=some ei) {len:Nat} (hs:¬ (ei.size=0∨len * ei.size > 65536)) {parts:List (Nat×IV)} {cells:List FV}
  (hf:fillIn (fun j=>some (j * ei.size,ei.size)) (rep len ei.zero) parts=some (cells.map .fv)) {s:Nat} {h:Hp} (k:IV→Hp→List Ref→List Ref→Option β) (hc:cells.length<65000:=by simp) :
  genS (pcBuildSlice E t len parts) s h k=k (.clip (chunks ei.size len cells)) h [] []:=by
 have key:∀(l:List FV) (n:Nat),l.length<n→frzL n (l.map .fv)=.ret (l,[]):=by
  intro l
  induction l with
  | nil=>intro n hn;cases n with
   | zero=>simp at hn
   | succ n=>rfl
  | cons x l ih=>intro n hn;cases n with
   | zero=>simp at hn
   | succ n =>
    simp only [List.length_cons] at hn;cases n with
    | zero=>omega
    | succ n =>
     simp only [List.map_cons,frzL,frz,Rd.bind];rw [ih (n+1) (by omega)];rfl
 have:pcBuildSlice E t len parts=.ret { eff:={ val:=.clip (chunks ei.size len cells),upd:=[] } }:=by
  simp only [pcBuildSlice,hT,he,if_neg hs,hf];rw [key _ _ (by omega)];rfl
 rw [this,gen_val]
end
end Idl
end Go.Proofs.Ytbkdidonegggdaa
namespace Go.Proofs.Ytbkdidonegggdaa
namespace Idl
def XY:=And.intro @decide_true<|And.intro @decide_false<|And.intro @Bool.not_true<|And.intro @Bool.not_false<|And.intro @List.map_cons.{0,0}<|And.intro @List.map_nil.{0,0}<|And.intro @List.length_map.{0,0}<|And.intro @List.length_cons.{0}<|And.intro @List.length_nil.{0}<|And.intro @Int.natCast_zero<|And.intro @Int.natCast_one<|And.intro @Bool.false_eq_true<|And.intro @Bool.true_eq_false<|And.intro @decide_eq_true_eq<|And.intro @eq_self.{1}<|And.intro @Bool.and_true<|And.intro @Bool.true_and<|And.intro @Bool.and_false<|And.intro @Bool.false_and<|@Nat.zero_add
def XE:=And.intro @List.any_cons.{0}<|And.intro @List.any_nil.{0}<|And.intro @List.all_cons.{0}<|And.intro @List.all_nil.{0}<|And.intro @List.filter_cons.{0}<|And.intro @List.filter_nil.{0}<|And.intro @List.contains_cons.{0}<|And.intro @List.contains_nil.{0}<|And.intro @Bool.or_false<|And.intro @Bool.or_true<|And.intro @Bool.false_or<|And.intro @Bool.true_or<|And.intro @Bool.and_self<|And.intro @Bool.not_eq_true<|And.intro @BEq.rfl.{0}<|@beq_self_eq_true.{0}
def XX:=And.intro @n0<|And.intro @n1<|And.intro @n2<|And.intro @n3<|And.intro @n4<|And.intro @n5<|And.intro @n6<|And.intro @d0<|And.intro @d1<|And.intro @d2<|And.intro @d3<|And.intro @d4<|And.intro @t1<|And.intro @t2<|And.intro @t3<|And.intro @t4<|And.intro @t7<|And.intro @ap0<|And.intro @ap1<|And.intro @unc_c<|And.intro @c_t<|And.intro @c_f<|And.intro @g_own<|And.intro @g_ext<|And.intro @o_hit<|And.intro @o_miss<|And.intro @p_nil<|And.intro @p_hit<|And.intro @p_miss<|And.intro @f_nil<|And.intro @f_cons<|And.intro @lay_own<|And.intro @lay_ext<|And.intro @sn0<|And.intro @new_e<|And.intro @box_2<|And.intro @box_3<|And.intro @box_4<|And.intro @box_1<|And.intro @box_agg'<|And.intro @box_one<|And.intro @on_int<|And.intro @on_bool<|And.intro @on_sl<|And.intro @on_fp<|And.intro @on_func<|And.intro @on_nilp<|And.intro @on_nils<|And.intro @on_ptr<|And.intro @on_slc<|And.intro @on_app<|And.intro @on_clip<|And.intro @on_emp<|And.intro @on_agg<|And.intro @on_fagg<|And.intro @of_int<|And.intro @of_bool<|And.intro @of_sl<|And.intro @of_fp<|And.intro @of_nilp<|And.intro @of_agg<|And.intro @aof_nil<|And.intro @aof_cons<|And.intro @as_p<|And.intro @as_f<|And.intro @as_row<|And.intro @as_free<|And.intro @as_fv<|And.intro @as_nf1<|And.intro @as_nf2<|And.intro @as_nf3<|And.intro @as_nf4<|And.intro @as_nf5<|And.intro @as_nf6<|And.intro @as_nf7<|And.intro @as_agF<|And.intro @as_ag<|And.intro @as_ag'<|And.intro @alv_nil<|And.intro @alv_fv<|And.intro @alv_nils<|And.intro @alv_app<|And.intro @alv_clip<|And.intro @alv_ptr<|And.intro @alv_slc<|And.intro @alv_agg<|And.intro @alv_mapr<|And.intro @agg_e<|And.intro @tup_e<|And.intro @l1_e<|And.intro @lA_e<|And.intro @cell_t<|And.intro @cell_f<|And.intro @wr0<|And.intro @wr1<|And.intro @sf0<|And.intro @sf1<|And.intro @sf2<|And.intro @sf3<|And.intro @sf4<|And.intro @of0<|And.intro @of1<|And.intro @of2<|And.intro @of3<|And.intro @of6<|And.intro @sA_f<|And.intro @ml_own<|And.intro @sA_3<|And.intro @sc3<|And.intro @s1_e<|And.intro @fa_p<|And.intro @fa_f<|And.intro @nil_p<|And.intro @nil_f<|And.intro @nil_func<|And.intro @ex_t<|And.intro @ex_f<|And.intro @f1_e<|And.intro @fA_e<|And.intro @bld_e<|And.intro @fk0<|And.intro @fk1<|And.intro @fp_one<|And.intro @fp_agg<|And.intro @nb3<|And.intro @nb4<|And.intro @nb7<|And.intro @nl3<|And.intro @and_tt<|And.intro @add_s<|And.intro @sub_s<|And.intro @mul_s<|And.intro @quo_s<|And.intro @rem_s<|And.intro @eq_s<|And.intro @ne_s<|And.intro @lt_s<|And.intro @le_s<|And.intro @gt_s<|And.intro @ge_s<|And.intro @eq_sb<|And.intro @not_s<|And.intro @cd_t<|And.intro @cd_f<|And.intro @cd_d<|And.intro @cd_n<|And.intro @cd_b<|And.intro @pk_e<|And.intro @gd_mt<|And.intro @gd_mf<|And.intro @gd_sf<|And.intro @gd_st<|And.intro @gd_u<|And.intro @ch0<|And.intro @ch1<|And.intro @dj0<|And.intro @djn<|And.intro @dj1<|And.intro @an0<|And.intro @an1<|And.intro @rn_o<|And.intro @rn_oe<|And.intro @rn_eo<|And.intro @out1<|And.intro @out0<|And.intro @out2<|And.intro @out3<|And.intro @out4<|And.intro @len_f<|And.intro @len_0<|And.intro @len_c<|And.intro @len_a<|And.intro @len_s<|And.intro @ix_f<|And.intro @ix_a<|And.intro @ix_c<|And.intro @ix_s<|And.intro @ix0_agg<|And.intro @ix1_agg<|And.intro @ix2_agg<|And.intro @ix3_agg<|And.intro @zp_fv<|And.intro @zp_nils<|And.intro @zp_emp<|And.intro @zp_clip<|And.intro @zp_app<|And.intro @zq_fv<|And.intro @zq_nils<|And.intro @zq_emp<|And.intro @zq_clip<|And.intro @zq_app<|And.intro @zp_3<|And.intro @zp_4<|And.intro @zl_nil<|And.intro @zl_2<|And.intro @zl_3<|And.intro @zl_4<|And.intro @zl_1<|And.intro @gen_val<|@gen_val'
def Ev (f:FuncId) (args:List IV) (w:FV):Prop:=∃N,∀n,N≤n→Ans (SS dt n f args ⟨[],[]⟩) w
theorem loop_run {F:(List IV→Hp→Option (IV×Hp))→List IV→Hp→Option (IV×Hp)} {Q:Option (IV×Hp)→Prop} (P:Nat→List IV→Hp→Prop)
  (step:∀k V H rec,P k V H→(∀k' V' H',k' < k→P k' V' H'→Q (rec V' H'))→Q (F rec V H)):∀m k V H,k<m→P k V H→Q (loopS m F V H):=by
 intro m
 induction m with
 | zero=>intro k V H h;omega
 | succ m ih=>intro k V H hk hP;exact step k V H (loopS m F) hP fun k' V' H' h1 h2=>ih k' V' H' (by omega) h2
mutual
def Tm.wt:Tm→Nat
 | .mk _ _ l=>1+Tm.wtL l
def Tm.wtL:List Tm→Nat
 | []=>0
 | t::l=>t.wt+Tm.wtL l
end
theorem wt_mem {t:Tm}:∀{l:List Tm},t∈l→t.wt≤Tm.wtL l
 | a::l,h=>by
  rcases List.mem_cons.1 h with rfl | h
  ·simp only [Tm.wtL];omega
  ·have:=wt_mem h;simp only [Tm.wtL];omega
theorem wt_len:∀(l:List Tm),l.length≤Tm.wtL l
 | []=>Nat.zero_le _
 | (.mk _ _ k)::l=>by have:=wt_len l;simp only [Tm.wtL,Tm.wt,List.length_cons];omega
theorem wt_pos (t:Tm):0<t.wt:=by cases t;simp only [Tm.wt];omega
theorem enc_mk (op n:Int) (l:List Tm):(Tm.mk op n l).enc=.agg [.int .i64 op,.int .i64 n,.sl (l.map Tm.enc)]:=by simp only [Tm.enc,encL_eq]
theorem map_get {l:List Tm} {i:Nat} {op n:Int} {k:List Tm} (h:l[i]?=some (.mk op n k)):(l.map Tm.enc)[i]?=some (.agg [.int .i64 op,.int .i64 n,.sl (k.map Tm.enc)]):=by
 rw [List.getElem?_map,h,Option.map_some,enc_mk]
theorem at_pre {α:Type} {l pre rest:List α} {a:α} (h:l=pre++a::rest):l[pre.length]?=some a:=by
 rw [h,List.getElem?_append_right (Nat.le_refl _),Nat.sub_self];rfl
theorem agg3 (a b c:FV):(FV.agg [a,b,c]).cells=[a,b,c]:=rfl
theorem agg3l (a b c:FV):(FV.agg [a,b,c]).cells.length=3:=rfl
section
variable {β:Type} {E:Env}
noncomputable def tokK (b:Blk) (n sz:Nat) (x:Option β):Option β:=match b with
 | .tok a s=>if a=n∧s=sz then x else none
 | _=>none
theorem tok_k (n sz:Nat) (x:Option β):tokK (.tok n sz) n sz x=x:=by
 show (if n=n∧sz=sz then x else none)=x
 rw [if_pos ⟨rfl,rfl⟩]
inductive Plain2:IV→List FV→Prop
 | clip (es:List FV):Plain2 (.clip es) es
 | sl (es:List FV):Plain2 (.fv (.sl es)) es
 | app (r:Ref) (es:List FV):Plain2 (.app r es) es
theorem p2_frz {x:IV} {es:List FV} (h:Plain2 x es):frz 4096 x=.ret (.sl es,[]):=by cases h<;>rfl
structure SliceT (E:Env) (t:TypeId) (size:Nat):Prop where
 h:∃a b e z ei,E.T t=some ⟨a,b,.slice e,z⟩∧E.T e=some ei∧ei.size=size∧size≠0∧ei.bytes≤100000
theorem app_0 {t:TypeId} {size:Nat} (T:SliceT E t size) {x:IV} {es2:List FV} (hx:Plain2 x es2) (h1:headOk size es2=true) (hne:es2.isEmpty=false) (hb:es2.length≤1000000) {s0:IV} (hs:s0=.nils∨s0=.clip []) (s:Nat) (own:List (Nat×Blk)) (ext:List Blk)
  (k:IV→Hp→List Ref→List Ref→Option β):genS (builtinR E s false .append [t,t] [s0,x]) s ⟨own,ext⟩ k=freshK own s (putOwnK own s (.tok es2.length size) fun own=>k (.app (.own s) es2) ⟨own,ext⟩ [] [.own s]):=by
 obtain ⟨a,b,e,z,ei,hT,he,rfl,h0,hby⟩:=T.h;have hlen:¬ (headOk ei.size []=false∨(([]:List FV).length+es2.length) * ei.bytes > 140737488355328∨([]:List FV).length+es2.length > 1073741824):=by
  have:es2.length * ei.bytes≤1000000 * 100000:=Nat.mul_le_mul hb hby
  rintro (h | h | h)
  ·cases h
  ·simp only [List.length_nil,Nat.zero_add] at h;omega
  ·simp only [List.length_nil,Nat.zero_add] at h;omega
 have key:builtinR E s false .append [t,t] [s0,x]=.ret { eff:={ val:=.app (.own s) es2,upd:=[] },new:=some (.tok es2.length ei.size) }:=by
  show appendR E s t (some t) false s0 x=_
  simp only [appendR,hT,Option.bind_some,he,p2_frz hx,Rd.bind,h0,h1,false_or,Bool.true_eq_false,if_false];rcases hs with rfl | rfl<;>simp only [elemsOf,if_neg hlen,hne,List.nil_append,Bool.false_eq_true,if_false]
 rw [key];unfold genS;simp only [Rd.runLog]
 show (newK (some (.tok es2.length ei.size)) s ⟨own,ext⟩ fun h=>fV 3 (.app (.own s) es2) fun v=>k v h [] ([]++[.own s]))=_
 simp only [newK,fBk_eq,fV_eq];rfl
theorem app_e {t:TypeId} {size:Nat} (T:SliceT E t size) {x:IV} (hx:Plain2 x []) {s0:IV} (hs:s0=.nils∨s0=.clip []) (s:Nat) (h:Hp) (k:IV→Hp→List Ref→List Ref→Option β) :
  genS (builtinR E s false .append [t,t] [s0,x]) s h k=k s0 h [] []:=by
 obtain ⟨a,b,e,z,ei,hT,he,rfl,h0,hby⟩:=T.h;have hlen:¬ (headOk ei.size []=false∨(([]:List FV).length+([]:List FV).length) * ei.bytes > 140737488355328∨([]:List FV).length+([]:List FV).length > 1073741824):=by
  rintro (h | h | h)
  ·cases h
  ·simp at h
  ·simp at h
 have key:builtinR E s false .append [t,t] [s0,x]=.ret { eff:={ val:=s0,upd:=[] } }:=by
  show appendR E s t (some t) false s0 x=_
  have h1:headOk ei.size []=true:=rfl;simp only [appendR,hT,Option.bind_some,he,p2_frz hx,Rd.bind,h0,h1,false_or,Bool.true_eq_false,if_false];rcases hs with rfl | rfl
  ·simp only [elemsOf];rw [if_neg hlen];simp
  ·simp only [elemsOf];rw [if_neg hlen];simp
 rw [key];exact gen_val s0 s h k
theorem app_1 {t:TypeId} {size:Nat} (T:SliceT E t size) {x:IV} {es es2:List FV} (hx:Plain2 x es2) (h1:headOk size es2=true) (h2:headOk size es=true) (ho:(es2.all fun e=>e.cells.all FV.one)=true) (hb:es.length+es2.length≤1000000) (r s:Nat)
  (own:List (Nat×Blk)) (ext:List Blk) (k:IV→Hp→List Ref→List Ref→Option β):genS (builtinR E s false .append [t,t] [.app (.own r) es,x]) s ⟨own,ext⟩ k =
   ownK own r fun b=>tokK b es.length size (putOwnK own r (.tok (es.length+es2.length) size) fun own=>k (.app (.own r) (es++es2)) ⟨own,ext⟩ [.own r] [.own r]):=by
 obtain ⟨a,b,e,z,ei,hT,he,rfl,h0,hby⟩:=T.h;have hlen:¬ (headOk ei.size es=false∨(es.length+es2.length) * ei.bytes > 140737488355328∨es.length+es2.length > 1073741824):=by
  have:(es.length+es2.length) * ei.bytes≤1000000 * 100000:=Nat.mul_le_mul hb hby
  rintro (h | h | h)
  ·rw [h2] at h;cases h
  ·omega
  ·omega
 have key:(builtinR E s false .append [t,t] [.app (.own r) es,x]).runLog ⟨own,ext⟩ []=(lookupOwn r own).bind fun b=>match b with
   | .tok n sz=>if n=es.length∧sz=ei.size then some ({ eff:={ val:=.app (.own r) (es++es2),upd:=[(.own r,.tok (n+es2.length) sz)] } },[.own r]) else none
   | _=>none:=by
  show (appendR E s t (some t) false (.app (.own r) es) x).runLog _ _=_
  simp only [appendR,hT,Option.bind_some,he,p2_frz hx,Rd.bind,h0,h1,false_or,Bool.true_eq_false,if_false,elemsOf,if_neg hlen,Rd.runLog,ho,and_true]
  show (match lookupOwn r own with | some b=>_ | none=>none)=_
  cases lookupOwn r own with
  | none=>rfl
  | some b =>
   cases b with
   | tok n sz =>
    simp only [Option.bind_some];by_cases hc:n=es.length∧sz=ei.size
    ·rw [if_pos hc,if_pos hc];rfl
    ·rw [if_neg hc,if_neg hc];rfl
   | _=>rfl
 unfold genS;rw [key,ownK_eq];cases hl:lookupOwn r own with
 | none=>simp
 | some b =>
  simp only [Option.bind_some];cases b with
  | tok n sz =>
   simp only [tokK];by_cases hc:n=es.length∧sz=ei.size
   ·rw [if_pos hc,if_pos hc];obtain ⟨rfl,rfl⟩:=hc
    show (fRf (.own r) fun q=>getK q ⟨own,ext⟩ fun _=>fBk (.tok (es.length+es2.length) ei.size) fun b=>layK q b ⟨own,ext⟩ fun h=>newK none s h fun h=>fV 3 (.app (.own r) (es++es2)) fun v=>k v h [.own r] ([.own r]++[]))=_
    simp only [fRf_eq,fBk_eq,fV_eq,newK,layK,getK];rw [ownK_eq,hl];rfl
   ·rw [if_neg hc,if_neg hc]
  | row _ _=>rfl
  | map _=>rfl
end
end Idl
end Go.Proofs.Ytbkdidonegggdaa
namespace Go.Proofs.Ytbkdidonegggdaa
namespace Idl
theorem tTms:EE.T 29=some ⟨1,24,.slice 31,[.nils]⟩:=by kernel_rfl
theorem tTm:EE.T 31=some ⟨3,40,.struct [(0,3),(1,3),(2,29)],[.fv (.int .i64 0),.fv (.int .i64 0),.nils]⟩:=by kernel_rfl
theorem sTm:SliceT EE 29 3:=⟨_,_,_,_,_,tTms,tTm,rfl,by decide,by decide⟩
theorem bs1_tm (a:Tm) (s:Nat) (h:Hp) (k:IV→Hp→List Ref→List Ref→Option (IV×Hp)):genS (pcBuildSlice EE 29 1 [(0,.fv a.enc)]) s h k=k (.clip [a.enc]) h [] []:=by
 obtain ⟨o1,n1,k1⟩:=a;exact bs_tm tTms tTm (by decide) (cells:=[.int .i64 o1,.int .i64 n1,.sl (Tm.enc.encL k1)]) rfl k
theorem bs2_tm (a b:Tm) (s:Nat) (h:Hp) (k:IV→Hp→List Ref→List Ref→Option (IV×Hp)):genS (pcBuildSlice EE 29 2 [(0,.fv a.enc),(1,.fv b.enc)]) s h k=k (.clip [a.enc,b.enc]) h [] []:=by
 obtain ⟨o1,n1,k1⟩:=a;obtain ⟨o2,n2,k2⟩:=b;exact bs_tm tTms tTm (by decide) (cells:=[.int .i64 o1,.int .i64 n1,.sl (Tm.enc.encL k1),.int .i64 o2,.int .i64 n2,.sl (Tm.enc.encL k2)]) rfl k
theorem enc_len (a:Tm):a.enc.cells.length=3:=by cases a;rfl
theorem enc_one (a:Tm):a.enc.cells.all FV.one=true:=by cases a;rfl
theorem head_tm (l:List Tm):headOk 3 (l.map Tm.enc)=true:=by
 cases l with
 | nil=>rfl
 | cons a l=>simp only [List.map_cons,headOk,enc_len,beq_self_eq_true]
theorem app0_tm (e:Tm) (s:Nat) (own:List (Nat×Blk)) (ext:List Blk) (k:IV→Hp→List Ref→List Ref→Option (IV×Hp)) :
  genS (builtinR EE s false .append [29,29] [.nils,.clip [e.enc]]) s ⟨own,ext⟩ k=freshK own s (putOwnK own s (.tok 1 3) fun own=>k (.app (.own s) [e.enc]) ⟨own,ext⟩ [] [.own s]) :=
 app_0 sTm (.clip _) (head_tm [e]) rfl (by simp) (.inl rfl) s own ext k
theorem app1_tm {es:List Tm} (hb:es.length+1≤1000000) (e:Tm) (r s:Nat) (own:List (Nat×Blk)) (ext:List Blk) (k:IV→Hp→List Ref→List Ref→Option (IV×Hp)) :
  genS (builtinR EE s false .append [29,29] [.app (.own r) (es.map Tm.enc),.clip [e.enc]]) s ⟨own,ext⟩ k =
   ownK own r fun b=>tokK b es.length 3 (putOwnK own r (.tok (es.length+1) 3) fun own=>k (.app (.own r) ((es++[e]).map Tm.enc)) ⟨own,ext⟩ [.own r] [.own r]):=by
 rw [app_1 sTm (.clip [e.enc]) (head_tm [e]) (head_tm es) (by simp [enc_one]) (by simpa using hb) r s own ext k];simp only [List.length_map,List.map_append,List.map_cons,List.map_nil,List.length_cons,List.length_nil,Nat.zero_add]
theorem emod_w {x m:Int} (h1:0<m) (h2:m≤4611686018427387904):(if x.tmod m<0 then w64 (x.tmod m+m) else x.tmod m)=x % m:=by
 have a1:=Int.emod_nonneg x (show m≠0 by omega)
 have a2:=Int.emod_lt_of_pos x h1;have e1:x.tmod m=x - m * x.tdiv m:=by have:=Int.mul_tdiv_add_tmod x m;omega
 have e2:x % m=x - m * (x / m):=by have:=Int.mul_ediv_add_emod x m;omega
 have b1:-m<x.tmod m:=Int.lt_tmod_of_pos x h1;have b2:x.tmod m<m:=Int.tmod_lt_of_pos x h1;have key:∃q,x.tmod m=x % m+m * q:=⟨x / m - x.tdiv m,by rw [e1,e2,Int.mul_sub];omega⟩;obtain ⟨q,hq⟩:=key;have hq2:q=0∨q=-1:=by
  rcases Int.lt_trichotomy q 0 with h | h | h
  ·right;rcases Int.lt_trichotomy q (-1) with h' | h' | h'
   ·have:m * q≤m * (-2):=Int.mul_le_mul_of_nonneg_left (by omega) (by omega)
    omega
   ·exact h'
   ·omega
  ·exact .inl h
  ·have:m * 1≤m * q:=Int.mul_le_mul_of_nonneg_left (by omega) (by omega)
   omega
 rcases hq2 with rfl | rfl
 ·rw [if_neg (by omega)];omega
 ·rw [if_pos (by omega),w64_id (by omega) (by omega)];omega
theorem within4_ok {n:Nat} (hn:0<n) (x:Int) {m:Int} (h1:0<m) (h2:m≤4611686018427387904):Ans (SS dt n 55 [iv x,iv m] ⟨[],[]⟩) (.int .i64 (x % m)):=by
 obtain ⟨n,rfl⟩:=Nat.exists_eq_add_of_lt hn;rw [Nat.zero_add,c55];simp only [S55,↓XX,XY,↓reduceIte,Nat.reduceBEq,Nat.reduceAdd,Int.cast_ofNat_Int,Int.reduceEq,Int.reduceLT,Int.reduceLE,↓rem_s (show m≠0 by omega)]
 rw [← emod_w h1 h2];by_cases hc:x.tmod m<0<;>simp only [hc,if_true,if_false]<;>exact ans_fv _ _
theorem t0_ok {n:Nat} (hn:0<n) (op:Int):Ans (SS dt n 27 [iv op,.fv (.sl [])] ⟨[],[]⟩) (Tm.mk op 0 []).enc:=by
 obtain ⟨n,rfl⟩:=Nat.exists_eq_add_of_lt hn;rw [Nat.zero_add,c27];simp only [S27,↓XX,XY,↓reduceIte,Nat.reduceBEq,Nat.reduceAdd,Int.cast_ofNat_Int,Int.reduceEq,Int.reduceLT,Int.reduceLE];exact ans_fv _ _
theorem t_ok {n:Nat} (hn:0<n) (op:Int) (l:List Tm):Ans (SS dt n 27 [iv op,.fv (.sl (l.map Tm.enc))] ⟨[],[]⟩) (Tm.mk op 0 l).enc:=by
 obtain ⟨n,rfl⟩:=Nat.exists_eq_add_of_lt hn;rw [Nat.zero_add,c27];simp only [S27,↓XX,XY,↓reduceIte,Nat.reduceBEq,Nat.reduceAdd,Int.cast_ofNat_Int,Int.reduceEq,Int.reduceLT,Int.reduceLE,enc_mk];exact ans_fv _ _
def Tm.kids:Tm→List Tm
 | .mk _ _ l=>l
def Tm.op:Tm→Int
 | .mk o _ _=>o
def Tm.n:Tm→Int
 | .mk _ n _=>n
def Tm.pick (r:Tm) (i:Nat):Tm:=match r.kids[i]? with
 | some k=>k
 | none=>.mk (w64 (w64 (r.op.tdiv 3)+i)) (w64 (w64 (r.n.tdiv 5)+w64 (7 * i))) []
theorem pick_ok {n:Nat} (hn:0<n) (r:Tm) (i:Nat):Ans (SS dt n 58 [.fv r.enc,iv i] ⟨[],[]⟩) (r.pick i).enc:=by
 obtain ⟨n,rfl⟩:=Nat.exists_eq_add_of_lt hn;rw [Nat.zero_add,c58];obtain ⟨op,m,ks⟩:=r;rw [enc_mk];simp only [Tm.pick,Tm.kids,Tm.op,Tm.n];cases hk:ks[i]? with
 | some k =>
  have hi:(i:Int)<ks.length:=by have:=(List.getElem?_eq_some_iff.1 hk).1;omega
  obtain ⟨o,p,l⟩:=k;simp only [S58_42,S58_43,S58_44,S58_45,S58,↓XX,XY,↓reduceIte,Nat.reduceBEq,Nat.reduceAdd,Int.cast_ofNat_Int,Int.reduceEq,Int.reduceLT,Int.reduceLE,hi,↓ix_f (map_get hk) (agg3l _ _ _),↓agg3,enc_mk];exact ans_fv _ _
 | none =>
  have hi:¬ (i:Int)<ks.length:=by have:=List.getElem?_eq_none_iff.1 hk;omega
  simp only [S58_42,S58_43,S58_44,S58_45,S58,↓XX,XY,↓reduceIte,Nat.reduceBEq,Nat.reduceAdd,Int.cast_ofNat_Int,Int.reduceEq,Int.reduceLT,Int.reduceLE,hi,↓quo_s (show (3:Int)≠0 by decide),↓quo_s (show (5:Int)≠0 by decide)]
  exact ans_p rfl _
section
variable {β:Type}
def namesV (s:Nat):IV→Bool
 | .ptr (.own j) _=>s == j
 | .slc (.own j) _ _=>s == j
 | .app (.own j) _=>s == j
 | .mapr (.own j)=>s == j
 | _=>false
def flatV:IV→Bool
 | .agg _ | .tuple _ | .func ..=>false
 | _=>true
def namesB (s:Nat):Blk→Bool
 | .row cells _=>cells.any (namesV s)
 | _=>false
def flatB:Blk→Bool
 | .row cells _=>cells.all flatV
 | .tok ..=>true
 | .map _=>false
theorem flat_refs {v:IV} (h:flatV v=true) (s:Nat):(Ref.own s∈v.refs) ↔ namesV s v=true:=by
 cases v with
 | ptr r o=>cases r<;>simp [IV.refs,namesV]
 | slc r a b=>cases r<;>simp [IV.refs,namesV]
 | app r es=>cases r<;>simp [IV.refs,namesV]
 | mapr r=>cases r<;>simp [IV.refs,namesV]
 | agg _=>cases h
 | tuple _=>cases h
 | func _ _ _=>cases h
 | _=>simp [IV.refs,namesV]
theorem flat_refsL:∀{l:List IV},l.all flatV=true→∀s,(Ref.own s∈IV.refs.refsL l) ↔ l.any (namesV s)=true
 | [],_,s=>by simp [IV.refs.refsL]
 | v::l,h,s=>by
  rw [List.all_cons,Bool.and_eq_true] at h;rw [IV.refs.refsL,List.mem_append,List.any_cons,Bool.or_eq_true,flat_refs h.1,flat_refsL h.2]
theorem flat_refsB {b:Blk} (h:flatB b=true) (s:Nat):(Ref.own s∈b.refs) ↔ namesB s b=true:=by
 cases b with
 | row cells ro=>exact flat_refsL h s
 | tok n sz=>simp [Blk.refs,namesB]
 | map es=>cases h
theorem anyIn_one (s:Nat):∀l:List Ref,anyIn [s] l=true ↔ Ref.own s∈l
 | []=>by simp [anyIn]
 | .own k::l=>by
  rw [anyIn,Bool.or_eq_true,anyIn_one s l,List.mem_cons];simp [eq_comm]
 | .ext k::l=>by
  rw [anyIn,anyIn_one s l,List.mem_cons];simp
def heldB (rm:List Nat) (vals:List IV) (own:List (Nat×Blk)) (ext:List Blk) (s:Nat):Bool :=
 vals.any (namesV s) || (own.any (fun p=>!rm.contains p.1 && namesB s p.2) || ext.any (namesB s))
def stays (rm:List Nat) (vals:List IV) (own:List (Nat×Blk)) (ext:List Blk):List (Nat×Blk):=own.filter fun p=>!rm.contains p.1 || heldB rm vals own ext p.1
def flatD (rm:List Nat) (vals:List IV) (own:List (Nat×Blk)) (ext:List Blk):Bool :=
 vals.all flatV && (own.all (fun p=>flatB p.2) && (ext.all flatB && own.all fun p=>!rm.contains p.1 || rm.all fun s=>!namesB s p.2))
theorem held_mem {rm:List Nat} {vals:List IV} {own:List (Nat×Blk)} {ext:List Blk} (hf:flatD rm vals own ext=true) (s:Nat) :
  Ref.own s∈IV.refs.refsL vals++(own.filter fun p=>!rm.contains p.1).flatMap (fun p=>p.2.refs)++ext.flatMap Blk.refs ↔ heldB rm vals own ext s=true:=by
 simp only [flatD,Bool.and_eq_true] at hf;obtain ⟨h1,h2,h3,_⟩:=hf;have e1:Ref.own s∈(own.filter fun p=>!rm.contains p.1).flatMap (fun p=>p.2.refs) ↔ (own.any fun p=>!rm.contains p.1 && namesB s p.2)=true:=by
  rw [List.mem_flatMap,List.any_eq_true];constructor
  ·rintro ⟨p,hp,hr⟩;obtain ⟨hp1,hp2⟩:=List.mem_filter.1 hp;exact ⟨p,hp1,by rw [hp2,(flat_refsB (List.all_eq_true.1 h2 p hp1) s).1 hr];rfl⟩
  ·rintro ⟨p,hp,hr⟩;rw [Bool.and_eq_true] at hr;exact ⟨p,List.mem_filter.2 ⟨hp,hr.1⟩,(flat_refsB (List.all_eq_true.1 h2 p hp) s).2 hr.2⟩
 have e2:Ref.own s∈ext.flatMap Blk.refs ↔ ext.any (namesB s)=true:=by
  rw [List.mem_flatMap,List.any_eq_true];constructor
  ·rintro ⟨p,hp,hr⟩;exact ⟨p,hp,(flat_refsB (List.all_eq_true.1 h3 p hp) s).1 hr⟩
  ·rintro ⟨p,hp,hr⟩;exact ⟨p,hp,(flat_refsB (List.all_eq_true.1 h3 p hp) s).2 hr⟩
 rw [List.mem_append,List.mem_append,flat_refsL h1,e1,e2,heldB,Bool.or_eq_true,Bool.or_eq_true,or_assoc]
theorem drop_e {base rm:List Nat} {vals:List IV} {own:List (Nat×Blk)} {ext:List Blk} (hb:rm.any base.contains=false) (hf:flatD rm vals own ext=true) (k:Hp→Option β) :
  dropS base rm vals ⟨own,ext⟩ k=k ⟨stays rm vals own ext,ext⟩:=by
 have hm:=held_mem hf;have hf0:=hf;simp only [flatD,Bool.and_eq_true] at hf0;obtain ⟨g1,g2,g3,g4⟩:=hf0;unfold dropS;rw [hb];simp only [cond_false];rw [anyO_eq];cases ha:(own.all fun p=>!rm.contains p.1) with
 | true =>
  simp only [Bool.not_true,cond_false];congr 2
  symm
  apply List.filter_eq_self.2;intro p hp;rw [List.all_eq_true.1 ha p hp];rfl
 | false =>
  simp only [Bool.not_false,cond_true];have slow:(match dropAt base [] rm ⟨vals,⟨own,ext⟩⟩ with | none=>none | some S=>fH S.hp k)=k ⟨stays rm vals own ext,ext⟩:=by
   have hgone:(rm.filter fun k=>!anyIn [k] (IV.refs.refsL vals++(own.filter fun p=>!rm.contains p.1).flatMap (fun p=>p.2.refs)++ext.flatMap Blk.refs))=rm.filter fun s=>!heldB rm vals own ext s:=by
    apply List.filter_congr;intro s _;congr 1;exact Bool.eq_iff_iff.2 ((anyIn_one s _).trans (hm s))
   have hown:(own.filter fun p=>!(rm.filter fun s=>!heldB rm vals own ext s).contains p.1)=stays rm vals own ext:=by
    apply List.filter_congr;intro p _;rw [Bool.eq_iff_iff];simp only [Bool.not_eq_true',Bool.or_eq_true,List.contains_eq_mem,decide_eq_false_iff_not,List.mem_filter];constructor
    ·intro h;by_cases h1:p.1∈rm
     ·right;cases hh:heldB rm vals own ext p.1 with
      | true=>rfl
      | false=>exact absurd ⟨h1,hh⟩ h
     ·exact .inl h1
    ·rintro (h | h) ⟨h1,h2⟩
     ·exact h h1
     ·rw [h] at h2;exact absurd h2 (by simp)
   simp only [dropAt,hb,Bool.false_eq_true,if_false,killSlots,ha,hgone,hown];have hnone:anyIn (rm.filter fun s=>!heldB rm vals own ext s) (refsOfSt ⟨vals,⟨stays rm vals own ext,ext⟩⟩)=false:=by
    apply anyIn_none;intro s hs hmem;obtain ⟨hs1,hs2⟩:=List.mem_filter.1 hs;have hs2:heldB rm vals own ext s=false:=by simpa using hs2
    simp only [refsOfSt,List.mem_append] at hmem;rcases hmem with (hmem | hmem) | hmem
    ·have:=(hm s).1 (List.mem_append_left _ (List.mem_append_left _ hmem))
     rw [this] at hs2;cases hs2
    ·obtain ⟨p,hp,hr⟩:=List.mem_flatMap.1 hmem;have hp1:=(List.mem_filter.1 hp).1;have hn:=(flat_refsB (List.all_eq_true.1 g2 p hp1) s).1 hr;have h4:=List.all_eq_true.1 g4 p hp1;cases hc:rm.contains p.1 with
     | true =>
      rw [hc] at h4;have h4:(rm.all fun s=>!namesB s p.2)=true:=h4;have h5:=List.all_eq_true.1 h4 s hs1;rw [hn] at h5;cases h5
     | false =>
      have:=(hm s).1 (List.mem_append_left _ (List.mem_append_right _ (List.mem_flatMap.2 ⟨p,List.mem_filter.2 ⟨hp1,by rw [hc];rfl⟩,hr⟩)))
      rw [this] at hs2;cases hs2
    ·have:=(hm s).1 (List.mem_append_right _ hmem)
     rw [this] at hs2;cases hs2
   simp only [hnone,Bool.false_eq_true,if_false,fH_eq]
  cases hff:(and (freeR rm (refsDL vals [])) (and (freeO rm own) (freeE rm ext))) with
  | false=>exact slow
  | true =>
   have hff:(freeR rm (refsDL vals []) && (freeO rm own && freeE rm ext))=true:=hff;simp only [Bool.and_eq_true] at hff;simp only [filtK_eq,cond_true];congr 2;apply List.filter_congr;intro p hp;cases hc:rm.contains p.1 with
   | false=>rfl
   | true =>
    have h1:=freeR_ok hff.1;rw [refsDL_eq,List.append_nil] at h1;have h2:=freeO_ok hff.2.1;have h3:=freeE_ok hff.2.2
    have:heldB rm vals own ext p.1=false:=by
     cases hh:heldB rm vals own ext p.1 with
     | false=>rfl
     | true =>
      have:=(hm p.1).2 hh
      have hpm:p.1∈rm:=List.contains_iff_mem.1 hc;rcases List.mem_append.1 this with h | h
      ·rcases List.mem_append.1 h with h | h
       ·exact absurd h (h1 _ hpm)
       ·exact absurd h (h2 _ hpm)
      ·exact absurd h (h3 _ hpm)
    rw [this];rfl
end
section
variable (s j:Nat)
theorem st_e (rm:List Nat) (vals:List IV) (own:List (Nat×Blk)) (ext:List Blk):stays rm vals own ext=own.filter fun p=>!rm.contains p.1 || heldB rm vals own ext p.1:=rfl
theorem nv1 (o:Nat):namesV s (.ptr (.own j) o)=(s == j):=rfl
theorem nv2 (a b:Nat):namesV s (.slc (.own j) a b)=(s == j):=rfl
theorem nv3 (es:List FV):namesV s (.app (.own j) es)=(s == j):=rfl
theorem nv4 (v:FV):namesV s (.fv v)=false:=rfl
theorem nv5:namesV s .nils=false:=rfl
theorem nv6 (es:List FV):namesV s (.clip es)=false:=rfl
theorem nv7 (o:Nat):namesV s (.ptr (.ext j) o)=false:=rfl
theorem nv8:namesV s .dead=false:=rfl
theorem nb1 (cs:List IV) (ro:Bool):namesB s (.row cs ro)=cs.any (namesV s):=rfl
theorem nb2 (a b:Nat):namesB s (.tok a b)=false:=rfl
theorem fl_1 (r:Ref) (o:Nat):flatV (.ptr r o)=true:=rfl
theorem fl_2 (r:Ref) (a b:Nat):flatV (.slc r a b)=true:=rfl
theorem fl_3 (r:Ref) (es:List FV):flatV (.app r es)=true:=rfl
theorem fl_4 (v:FV):flatV (.fv v)=true:=rfl
theorem fl_5:flatV .nils=true:=rfl
theorem fl_6 (es:List FV):flatV (.clip es)=true:=rfl
theorem fl_7:flatV .dead=true:=rfl
theorem fb_1 (cs:List IV) (ro:Bool):flatB (.row cs ro)=cs.all flatV:=rfl
theorem fb_2 (a b:Nat):flatB (.tok a b)=true:=rfl
end
def XD:=And.intro @st_e<|And.intro @nv1<|And.intro @nv2<|And.intro @nv3<|And.intro @nv4<|And.intro @nv5<|And.intro @nv6<|And.intro @nv7<|And.intro @nv8<|And.intro @nb1<|And.intro @nb2<|And.intro @fl_1<|And.intro @fl_2<|And.intro @fl_3<|And.intro @fl_4<|And.intro @fl_5<|And.intro @fl_6<|And.intro @fl_7<|And.intro @fb_1<|@fb_2
end Idl
end Go.Proofs.Ytbkdidonegggdaa
namespace Go.Proofs.Ytbkdidonegggdaa
namespace Idl
def bindN (op:Int) (i:Nat):Nat :=
 if op=3∨op=4∨op=6∨op=20∨op=28∨op=29 then (if i=1 then 1 else 0) else if op=13 then (if i=0 then 1 else if i=2 then 2 else 0) else 0
theorem bindN_le (op:Int) (i:Nat):bindN op i≤2:=by
 unfold bindN
 repeat' split
 all_goals omega
theorem binders_ok {n:Nat} (hn:0<n) (op:Int) (i:Nat):Ans (SS dt n 63 [iv op,iv i] ⟨[],[]⟩) (.int .i64 (bindN op i)):=by
 obtain ⟨n,rfl⟩:∃k,n=k+1:=⟨n - 1,by omega⟩;rw [c63];unfold bindN;by_cases h:op=3∨op=4∨op=6∨op=20∨op=28∨op=29
 ·rw [if_pos h];by_cases hi:i=1
  ·subst hi;rcases h with rfl | rfl | rfl | rfl | rfl | rfl<;>(simp only [↓UU3,↓XX,XY,↓reduceIte,Nat.reduceBEq,Nat.reduceAdd,Int.cast_ofNat_Int,Int.reduceEq,Int.reduceLT,Int.reduceLE];exact ans_fv _ _)
  ·have hi':¬ (i:Int)=1:=by omega
   rcases h with rfl | rfl | rfl | rfl | rfl | rfl<;>(simp only [↓UU3,↓XX,XY,↓reduceIte,Nat.reduceBEq,Nat.reduceAdd,Int.cast_ofNat_Int,Int.reduceEq,Int.reduceLT,Int.reduceLE,hi',hi];exact ans_fv _ _)
 ·rw [if_neg h];have h3:¬ op=3:=fun e=>h (by simp [e]);have h4:¬ op=4:=fun e=>h (by simp [e]);have h6:¬ op=6:=fun e=>h (by simp [e]);have h20:¬ op=20:=fun e=>h (by simp [e]);have h28:¬ op=28:=fun e=>h (by simp [e]);have h29:¬ op=29:=fun e=>h (by simp [e]);by_cases h13:op=13
  ·subst h13;by_cases hi:i=0
   ·subst hi;simp only [↓UU3,↓XX,XY,↓reduceIte,Nat.reduceBEq,Nat.reduceAdd,Int.cast_ofNat_Int,Int.reduceEq,Int.reduceLT,Int.reduceLE];exact ans_fv _ _
   ·have hi':¬ (i:Int)=0:=by omega
    by_cases hj:i=2
    ·subst hj;simp only [↓UU3,↓XX,XY,↓reduceIte,Nat.reduceBEq,Nat.reduceAdd,Int.cast_ofNat_Int,Int.reduceEq,Int.reduceLT,Int.reduceLE];exact ans_fv _ _
    ·have hj':¬ (i:Int)=2:=by omega
     simp only [↓UU3,↓XX,XY,↓reduceIte,Nat.reduceBEq,Nat.reduceAdd,Int.cast_ofNat_Int,Int.reduceEq,Int.reduceLT,Int.reduceLE,hi,hi',hj,hj'];exact ans_fv _ _
  ·simp only [↓UU3,↓XX,XY,↓reduceIte,Nat.reduceBEq,Nat.reduceAdd,Int.cast_ofNat_Int,Int.reduceEq,Int.reduceLT,Int.reduceLE,h3,h4,h6,h20,h28,h29,h13];exact ans_fv _ _
theorem v_ok {n:Nat} (hn:0<n) (x:Int):Ans (SS dt n 34 [iv x] ⟨[],[]⟩) (Tm.mk 1 x []).enc:=by
 obtain ⟨n,rfl⟩:∃k,n=k+1:=⟨n - 1,by omega⟩;rw [c34];simp only [S34,↓XX,XY,↓reduceIte,Nat.reduceBEq,Nat.reduceAdd,Int.cast_ofNat_Int,Int.reduceEq,Int.reduceLT,Int.reduceLE];exact ans_p rfl _
theorem uni_ok {n:Nat} (hn:0<n) (x:Int):Ans (SS dt n 57 [iv x] ⟨[],[]⟩) (Tm.mk 2 x []).enc:=by
 obtain ⟨n,rfl⟩:∃k,n=k+1:=⟨n - 1,by omega⟩;rw [c57];simp only [S57,↓XX,XY,↓reduceIte,Nat.reduceBEq,Nat.reduceAdd,Int.cast_ofNat_Int,Int.reduceEq,Int.reduceLT,Int.reduceLE];exact ans_p rfl _
theorem int_ok {n:Nat} (hn:0<n) (x:Int):Ans (SS dt n 43 [iv x] ⟨[],[]⟩) (Tm.mk 25 x []).enc:=by
 obtain ⟨n,rfl⟩:∃k,n=k+1:=⟨n - 1,by omega⟩;rw [c43];simp only [S43,↓XX,XY,↓reduceIte,Nat.reduceBEq,Nat.reduceAdd,Int.cast_ofNat_Int,Int.reduceEq,Int.reduceLT,Int.reduceLE];exact ans_p rfl _
mutual
/-- No more than four kids anywhere. -/
def Tm.wk:Tm→Prop
 | .mk _ _ ks=>ks.length≤4∧Tm.wkL ks
def Tm.wkL:List Tm→Prop
 | []=>True
 | t::l=>t.wk∧Tm.wkL l
end
theorem wk_mem {t:Tm}:∀{l:List Tm},Tm.wkL l→t∈l→t.wk
 | a::l,h,hm=>by
  rw [Tm.wkL] at h;rcases List.mem_cons.1 hm with rfl | hm
  ·exact h.1
  ·exact wk_mem h.2 hm
mutual
def Tm.shift:Tm→Int→Int→Tm
 | .mk op n ks,d,c=>.mk op (if op=1∧c≤n then w64 (n+d) else n) (Tm.shiftL op 0 ks d c)
def Tm.shiftL:Int→Nat→List Tm→Int→Int→List Tm
 | _,_,[],_,_=>[]
 | op,i,t::l,d,c=>t.shift d (c+bindN op i)::Tm.shiftL op (i+1) l d c
end
theorem shiftL_len (op:Int) (d c:Int):∀(l:List Tm) (i:Nat),(Tm.shiftL op i l d c).length=l.length
 | [],_=>rfl
 | _::l,i=>by simp only [Tm.shiftL,List.length_cons,shiftL_len op d c l]
theorem shiftL_app (op d c:Int):∀(l l':List Tm) (i:Nat),Tm.shiftL op i (l++l') d c=Tm.shiftL op i l d c++Tm.shiftL op (i+l.length) l' d c
 | [],l',i=>by simp [Tm.shiftL]
 | t::l,l',i=>by simp only [List.cons_append,Tm.shiftL,shiftL_app op d c l l',List.length_cons];congr 3;omega
theorem shift_ok:∀(n:Nat) (t:Tm) (d c:Int),t.wt+1<n→t.wk→0≤c→c+2 * t.wt≤4611686018427387904→Ans (SS dt n 31 [.fv t.enc,iv d,iv c] ⟨[],[]⟩) (t.shift d c).enc:=by
 intro n
 induction n with
 | zero=>intro t d c h;omega
 | succ n ih =>
  intro t d c h hw hc0 hc;obtain ⟨op,m,ks⟩:=t;simp only [Tm.wt] at h hc;rw [Tm.wk] at hw;rw [c31,enc_mk];have hlen:=wt_len ks;have main:∀m',m'=(if op=1∧c≤m then w64 (m+d) else m) →
    Ans (loopS n (fun q28 l29 h30=>S31_135 l29 h30 (SS dt n) ⟨[],[]⟩ q28) [iv d,iv c,.ptr (.own 32505856) 0,.ptr (.own 32505857) 0,.ptr (.own 32506885) 0,iv 0]
     ⟨[(32505856,.row [iv op,iv m,.fv (.sl (ks.map Tm.enc))] false),(32505857,.row [iv 0,iv 0,.nils] false),(32506885,.row [iv op,iv m',.nils] false)],[]⟩) ((Tm.mk op m ks).shift d c).enc:=by
   intro m' hm';refine loop_run (Q:=fun r=>Ans r _) (fun k V H=>∃pre rest,ks=pre++rest∧rest.length=k∧V=[iv d,iv c,.ptr (.own 32505856) 0,.ptr (.own 32505857) 0,.ptr (.own 32506885) 0,iv pre.length] ∧
    (
     (pre=[]∧H=⟨[(32505856,.row [iv op,iv m,.fv (.sl (ks.map Tm.enc))] false),(32505857,.row [iv 0,iv 0,.nils] false),(32506885,.row [iv op,iv m',.nils] false)],[]⟩) ∨
     (pre≠[]∧H=⟨[(32505856,.row [iv op,iv m,.fv (.sl (ks.map Tm.enc))] false),(32505857,.row [iv 0,iv 0,.nils] false),(32506885,.row [iv op,iv m',.app (.own 32513040) ((Tm.shiftL op 0 pre d c).map Tm.enc)] false),(32513040,.tok (Tm.shiftL op 0 pre d c).length 3)],[]⟩)))
    ?_ n ks.length _ _ (by omega) ⟨[],ks,rfl,rfl,rfl,.inl ⟨rfl,rfl⟩⟩
   rintro k V H rec ⟨pre,rest,hk,hl,rfl,hH⟩ hrec;have hkl:ks.length=pre.length+rest.length:=by rw [hk];simp
   cases rest with
   | nil =>
    have hno:¬ ((pre.length:Int)<ks.length):=by rw [hkl];simp
    have hpre:ks=pre:=by simpa using hk
    rcases hH with ⟨rfl,rfl⟩ | ⟨_,rfl⟩
    ·subst hpre;simp only [S31_127,S31_128,S31_129,S31_130,S31_131,S31_132,S31_133,S31_134,S31_135,S31_136,S31_137,S31_138,S31_139,S31_140,S31,↓XX,XY,↓reduceIte,Nat.reduceBEq,Nat.reduceAdd,Int.cast_ofNat_Int,Int.reduceEq,Int.reduceLT,Int.reduceLE,Int.lt_irrefl,Tm.shift,Tm.shiftL,← hm',enc_mk];exact ans_p rfl _
    ·subst hpre;simp only [S31_127,S31_128,S31_129,S31_130,S31_131,S31_132,S31_133,S31_134,S31_135,S31_136,S31_137,S31_138,S31_139,S31_140,S31,↓XX,XY,↓reduceIte,Nat.reduceBEq,Nat.reduceAdd,Int.cast_ofNat_Int,Int.reduceEq,Int.reduceLT,Int.reduceLE,Int.lt_irrefl,Tm.shift,← hm',enc_mk];exact ans_p rfl _
   | cons t rest =>
    have hi:(pre.length:Int)<ks.length:=by rw [hkl];simp;omega
    have hg:=at_pre hk;have htw:=wt_mem (t:=t) (l:=ks) (by rw [hk];simp);have hb:=binders_ok (n:=n) (by omega) op pre.length;have hble:=bindN_le op pre.length;have hs:=ih t d (c+bindN op pre.length) (by omega) (wk_mem hw.2 (by rw [hk];simp)) (by omega) (by omega);have hx:Tm.shiftL op 0 (pre++[t]) d c=Tm.shiftL op 0 pre d c++[t.shift d (c+bindN op pre.length)]:=by
     rw [shiftL_app];simp [Tm.shiftL]
    have hwc:w64 (c+bindN op pre.length)=c+bindN op pre.length:=by rw [w64_id]<;>omega
    have hwi:w64 ((pre.length:Int)+1)=((pre++[t]).length:Int):=(w64_id (by omega) (by omega)).trans (by simp);generalize hu:t.shift d (c+bindN op pre.length)=u at hs hx;obtain ⟨o,p,l⟩:=t;simp only [List.length_cons] at hl;rw [enc_mk] at hs;rcases hH with ⟨hp0,rfl⟩ | ⟨hne,rfl⟩
    ·simp only [S31_127,S31_128,S31_129,S31_130,S31_131,S31_132,S31_133,S31_134,S31_135,S31_136,S31_137,S31_138,S31_139,S31_140,S31,↓XX,XY,↓reduceIte,Nat.reduceBEq,Nat.reduceAdd,Int.cast_ofNat_Int,Int.reduceEq,Int.reduceLT,Int.reduceLE,hi,↓ix_f (map_get hg) (agg3l _ _ _),↓agg3,↓iso_2 hb,hwc,hwi,↓iso_3 hs,↓bs1_tm,↓app0_tm,↓drop_e,XD,heldB,flatD,XE];refine hrec rest.length _ _ (by omega) ?_;refine ⟨pre++[.mk o p l],rest,by rw [hk];simp,rfl,rfl,.inr ⟨by simp,?_⟩⟩;rw [hx,hp0];rfl
    ·have hle:(Tm.shiftL op 0 pre d c).length+1≤1000000:=by rw [shiftL_len];omega
     have hq:(Tm.shiftL op 0 pre d c).length=pre.length:=shiftL_len ..;simp only [S31_127,S31_128,S31_129,S31_130,S31_131,S31_132,S31_133,S31_134,S31_135,S31_136,S31_137,S31_138,S31_139,S31_140,S31,↓XX,XY,↓reduceIte,Nat.reduceBEq,Nat.reduceAdd,Int.cast_ofNat_Int,Int.reduceEq,Int.reduceLT,Int.reduceLE,hi,↓ix_f (map_get hg) (agg3l _ _ _),↓agg3,↓iso_2 hb,hwc,hwi,↓iso_3 hs,↓bs1_tm,↓app1_tm hle,↓tok_k,↓drop_e,XD,heldB,flatD,XE];refine hrec rest.length _ _ (by omega) ?_;refine ⟨pre++[.mk o p l],rest,by rw [hk];simp,rfl,rfl,.inr ⟨by simp,?_⟩⟩;rw [hx];simp only [List.length_append,List.length_cons,List.length_nil]
  by_cases h1:op=1
  ·by_cases h2:c≤m
   ·subst h1;simp only [S31_127,S31_128,S31_129,S31_130,S31_131,S31_132,S31_133,S31_134,S31_136,S31_137,S31_138,S31_139,S31_140,S31,↓XX,XY,↓reduceIte,Nat.reduceBEq,Nat.reduceAdd,Int.cast_ofNat_Int,Int.reduceEq,Int.reduceLT,Int.reduceLE,h2,↓drop_e,XD,heldB,flatD,XE];exact main _ (by simp [h2])
   ·subst h1;simp only [S31_127,S31_128,S31_129,S31_130,S31_131,S31_132,S31_133,S31_134,S31_136,S31_137,S31_138,S31_139,S31_140,S31,↓XX,XY,↓reduceIte,Nat.reduceBEq,Nat.reduceAdd,Int.cast_ofNat_Int,Int.reduceEq,Int.reduceLT,Int.reduceLE,h2,↓drop_e,XD,heldB,flatD,XE];exact main _ (by simp [h2])
  ·simp only [S31_127,S31_128,S31_129,S31_130,S31_131,S31_132,S31_133,S31_134,S31_136,S31_137,S31_138,S31_139,S31_140,S31,↓XX,XY,↓reduceIte,Nat.reduceBEq,Nat.reduceAdd,Int.cast_ofNat_Int,Int.reduceEq,Int.reduceLT,Int.reduceLE,h1,↓drop_e,XD,heldB,flatD,XE];exact main _ (by simp [h1])
mutual
def Tm.subst:Tm→Int→Int→Tm→Tm
 | .mk op m ks,n,d,u=>if op=1 then (if m=n then u.shift d 0 else if n<m then .mk 1 (w64 (m - 1)) [] else .mk op m ks) else .mk op m (Tm.substL op 0 ks n d u)
def Tm.substL:Int→Nat→List Tm→Int→Int→Tm→List Tm
 | _,_,[],_,_,_=>[]
 | op,i,t::l,n,d,u=>t.subst (n+bindN op i) (d+bindN op i) u::Tm.substL op (i+1) l n d u
end
theorem substL_len (op n d:Int) (u:Tm):∀(l:List Tm) (i:Nat),(Tm.substL op i l n d u).length=l.length
 | [],_=>rfl
 | _::l,i=>by simp only [Tm.substL,List.length_cons,substL_len op n d u l]
theorem substL_app (op n d:Int) (u:Tm):∀(l l':List Tm) (i:Nat),Tm.substL op i (l++l') n d u=Tm.substL op i l n d u++Tm.substL op (i+l.length) l' n d u
 | [],l',i=>by simp [Tm.substL]
 | t::l,l',i=>by simp only [List.cons_append,Tm.substL,substL_app op n d u l l',List.length_cons];congr 3;omega
theorem subst_ok (u:Tm) (hu:u.wk) (huw:u.wt≤1152921504606846976):∀(n:Nat) (t:Tm) (c d:Int),t.wt+u.wt+3<n→t.wk→-1000000000≤c→c+2 * t.wt≤461168601842738→0≤d→d+2 * t.wt≤461168601842738 →
  Ans (SS dt n 62 [.fv t.enc,iv c,iv d,.fv u.enc] ⟨[],[]⟩) (t.subst c d u).enc:=by
 intro n
 induction n with
 | zero=>intro t c d h;omega
 | succ n ih =>
  intro t c d h hw hc0 hc hd0 hd;obtain ⟨op,m,ks⟩:=t;simp only [Tm.wt] at h hc hd;rw [Tm.wk] at hw;rw [c62,enc_mk];have hlen:=wt_len ks;by_cases h1:op=1
  ·subst h1;have hsh:=shift_ok n u d 0 (by omega) hu (by omega) (by omega);rw [Tm.subst,if_pos rfl];generalize u.shift d 0=z at hsh ⊢;obtain ⟨uo,un,uk⟩:=u;obtain ⟨zo,zn,zk⟩:=z;rw [enc_mk] at hsh ⊢;by_cases h2:m=c
   ·subst h2;simp only [↓UU2,↓XX,XY,↓reduceIte,Nat.reduceBEq,Nat.reduceAdd,Int.cast_ofNat_Int,Int.reduceEq,Int.reduceLT,Int.reduceLE,↓iso_3 hsh];simp only [↓UU2,↓XX,XY,↓reduceIte,Nat.reduceBEq,Nat.reduceAdd,Int.cast_ofNat_Int,Int.reduceEq,Int.reduceLT,Int.reduceLE,enc_mk];exact ans_p rfl _
   ·by_cases h3:c<m
    ·simp only [↓UU2,↓XX,XY,↓reduceIte,Nat.reduceBEq,Nat.reduceAdd,Int.cast_ofNat_Int,Int.reduceEq,Int.reduceLT,Int.reduceLE,h2,h3,enc_mk];exact ans_p rfl _
    ·simp only [↓UU2,↓XX,XY,↓reduceIte,Nat.reduceBEq,Nat.reduceAdd,Int.cast_ofNat_Int,Int.reduceEq,Int.reduceLT,Int.reduceLE,h2,h3,enc_mk];exact ans_p rfl _
  ·have main :
    Ans (loopS n (fun q l h=>S62_148 l h (SS dt n) ⟨[],[]⟩ q) [iv c,iv d,.ptr (.own 65011712) 0,.ptr (.own 65011713) 0,.ptr (.own 65011714) 0,.ptr (.own 65018885) 0,iv 0]
     ⟨[(65011712,.row [iv op,iv m,.fv (.sl (ks.map Tm.enc))] false),(65011713,.row [iv u.op,iv u.n,.fv (.sl (u.kids.map Tm.enc))] false),(65011714,.row [iv 0,iv 0,.nils] false),(65018885,.row [iv op,iv m,.nils] false)],[]⟩)
      (Tm.mk op m (Tm.substL op 0 ks c d u)).enc:=by
    refine loop_run (Q:=fun r=>Ans r _) (fun k V H=>∃pre rest,ks=pre++rest∧rest.length=k∧V=[iv c,iv d,.ptr (.own 65011712) 0,.ptr (.own 65011713) 0,.ptr (.own 65011714) 0,.ptr (.own 65018885) 0,iv pre.length] ∧
     (
      (pre=[]∧H=⟨[(65011712,.row [iv op,iv m,.fv (.sl (ks.map Tm.enc))] false),(65011713,.row [iv u.op,iv u.n,.fv (.sl (u.kids.map Tm.enc))] false),(65011714,.row [iv 0,iv 0,.nils] false),(65018885,.row [iv op,iv m,.nils] false)],[]⟩) ∨
      (
      pre≠[]∧H=⟨[(65011712,.row [iv op,iv m,.fv (.sl (ks.map Tm.enc))] false),(65011713,.row [iv u.op,iv u.n,.fv (.sl (u.kids.map Tm.enc))] false),(65011714,.row [iv 0,iv 0,.nils] false),
      (65018885,.row [iv op,iv m,.app (.own 65024016) ((Tm.substL op 0 pre c d u).map Tm.enc)] false),(65024016,.tok (Tm.substL op 0 pre c d u).length 3)],[]⟩)))
     ?_ n ks.length _ _ (by omega) ⟨[],ks,rfl,rfl,rfl,.inl ⟨rfl,rfl⟩⟩
    rintro k V H rec ⟨pre,rest,hk,hl,rfl,hH⟩ hrec;have hkl:ks.length=pre.length+rest.length:=by rw [hk];simp
    cases rest with
    | nil =>
     have hno:¬ ((pre.length:Int)<ks.length):=by rw [hkl];simp
     have hpre:ks=pre:=by simpa using hk
     rcases hH with ⟨rfl,rfl⟩ | ⟨_,rfl⟩
     ·subst hpre;simp only [S62_135,S62_136,S62_137,S62_138,S62_139,S62_140,S62_141,S62_142,S62_143,S62_144,S62_145,S62_146,S62_147,S62_148,S62_149,S62_150,S62_151,S62,↓XX,XY,↓reduceIte,Nat.reduceBEq,Nat.reduceAdd,Int.cast_ofNat_Int,Int.reduceEq,Int.reduceLT,Int.reduceLE,Int.lt_irrefl,Tm.substL,enc_mk];exact ans_p rfl _
     ·subst hpre;simp only [S62_135,S62_136,S62_137,S62_138,S62_139,S62_140,S62_141,S62_142,S62_143,S62_144,S62_145,S62_146,S62_147,S62_148,S62_149,S62_150,S62_151,S62,↓XX,XY,↓reduceIte,Nat.reduceBEq,Nat.reduceAdd,Int.cast_ofNat_Int,Int.reduceEq,Int.reduceLT,Int.reduceLE,Int.lt_irrefl,enc_mk];exact ans_p rfl _
    | cons t rest =>
     have hi:(pre.length:Int)<ks.length:=by rw [hkl];simp;omega
     have hg:=at_pre hk;have htw:=wt_mem (t:=t) (l:=ks) (by rw [hk];simp);have hb:=binders_ok (n:=n) (by omega) op pre.length;have hble:=bindN_le op pre.length;have hs:=ih t (c+bindN op pre.length) (d+bindN op pre.length) (by omega) (wk_mem hw.2 (by rw [hk];simp)) (by omega) (by omega) (by omega) (by omega);have hx:Tm.substL op 0 (pre++[t]) c d u=Tm.substL op 0 pre c d u++[t.subst (c+bindN op pre.length) (d+bindN op pre.length) u]:=by
      rw [substL_app];simp [Tm.substL]
     have hwc:w64 (c+bindN op pre.length)=c+bindN op pre.length:=by rw [w64_id]<;>omega
     have hwd:w64 (d+bindN op pre.length)=d+bindN op pre.length:=by rw [w64_id]<;>omega
     have hwi:w64 ((pre.length:Int)+1)=((pre++[t]).length:Int):=(w64_id (by omega) (by omega)).trans (by simp);generalize hv:t.subst (c+bindN op pre.length) (d+bindN op pre.length) u=v at hs hx;obtain ⟨o,p,l⟩:=t;simp only [List.length_cons] at hl;have hue:u.enc=.agg [.int .i64 u.op,.int .i64 u.n,.sl (u.kids.map Tm.enc)]:=by cases u;exact enc_mk ..
     rw [enc_mk,hue] at hs;rcases hH with ⟨hp0,rfl⟩ | ⟨hne,rfl⟩
     ·simp only [S62_135,S62_136,S62_137,S62_138,S62_139,S62_140,S62_141,S62_142,S62_143,S62_144,S62_145,S62_146,S62_147,S62_148,S62_149,S62_150,S62_151,S62,↓XX,XY,↓reduceIte,Nat.reduceBEq,Nat.reduceAdd,Int.cast_ofNat_Int,Int.reduceEq,Int.reduceLT,Int.reduceLE,hi,↓ix_f (map_get hg) (agg3l _ _ _),↓agg3,↓iso_2 hb,hwc,hwd,hwi,↓iso_4 hs,↓bs1_tm,↓app0_tm,↓drop_e,XD,heldB,flatD,XE];refine hrec rest.length _ _ (by omega) ?_;refine ⟨pre++[.mk o p l],rest,by rw [hk];simp,rfl,rfl,.inr ⟨by simp,?_⟩⟩;rw [hx,hp0];rfl
     ·have hle:(Tm.substL op 0 pre c d u).length+1≤1000000:=by rw [substL_len];omega
      simp only [S62_135,S62_136,S62_137,S62_138,S62_139,S62_140,S62_141,S62_142,S62_143,S62_144,S62_145,S62_146,S62_147,S62_148,S62_149,S62_150,S62_151,S62,↓XX,XY,↓reduceIte,Nat.reduceBEq,Nat.reduceAdd,Int.cast_ofNat_Int,Int.reduceEq,Int.reduceLT,Int.reduceLE,hi,↓ix_f (map_get hg) (agg3l _ _ _),↓agg3,↓iso_2 hb,hwc,hwd,hwi,↓iso_4 hs,↓bs1_tm,↓app1_tm hle,↓tok_k,↓drop_e,XD,heldB,flatD,XE];refine hrec rest.length _ _ (by omega) ?_;refine ⟨pre++[.mk o p l],rest,by rw [hk];simp,rfl,rfl,.inr ⟨by simp,?_⟩⟩;rw [hx];simp only [List.length_append,List.length_cons,List.length_nil]
   rw [Tm.subst,if_neg h1];obtain ⟨uo,un,uk⟩:=u;rw [enc_mk (op:=uo)];simp only [↓UU2,↓XX,XY,↓reduceIte,Nat.reduceBEq,Nat.reduceAdd,Int.cast_ofNat_Int,Int.reduceEq,Int.reduceLT,Int.reduceLE,h1,↓drop_e,XD,heldB,flatD,XE];exact main
theorem Subst_ok {n:Nat} (t u:Tm) (c:Int) (hu:u.wk) (huw:u.wt≤1152921504606846976) (h:t.wt+u.wt+4<n) (hw:t.wk) (hww:t.wt≤100000000000000) (h0:-1000000000≤c) (hc:c+2 * t.wt≤461168601842738) :
  Ans (SS dt n 30 [.fv t.enc,iv c,.fv u.enc] ⟨[],[]⟩) (t.subst c 0 u).enc:=by
 obtain ⟨n,rfl⟩:∃k,n=k+1:=⟨n - 1,by omega⟩;rw [c30];have hs:=subst_ok u hu huw n t c 0 (by omega) hw h0 hc (by omega) (by omega);generalize t.subst c 0 u=v at hs ⊢;obtain ⟨o1,n1,k1⟩:=t;obtain ⟨o2,n2,k2⟩:=u;obtain ⟨o3,n3,k3⟩:=v;simp only [enc_mk] at hs ⊢;simp only [S30_28,S30,↓XX,XY,↓reduceIte,Nat.reduceBEq,Nat.reduceAdd,Int.cast_ofNat_Int,Int.reduceEq,Int.reduceLT,Int.reduceLE,↓iso_4 hs];exact ans_p rfl _
mutual
def Tm.free:Tm→Int→Bool
 | .mk op m ks,c=>if op=1 then decide (m=c) else Tm.freeL op 0 ks c
def Tm.freeL:Int→Nat→List Tm→Int→Bool
 | _,_,[],_=>false
 | op,i,t::l,c=>t.free (c+bindN op i) || Tm.freeL op (i+1) l c
end
theorem free_ok:∀(n:Nat) (t:Tm) (c:Int),t.wt+1<n→t.wt≤1152921504606846976→-1000000000≤c→c+2 * t.wt≤461168601842738→Ans (SS dt n 68 [.fv t.enc,iv c] ⟨[],[]⟩) (.bool (t.free c)):=by
 intro n
 induction n with
 | zero=>intro t c h;omega
 | succ n ih =>
  intro t c h hw hc0 hc;obtain ⟨op,m,ks⟩:=t;simp only [Tm.wt] at h hw hc;rw [c68,enc_mk];have hlen:=wt_len ks;by_cases h1:op=1
  ·subst h1;rw [Tm.free,if_pos rfl];simp only [S68_48,S68_49,S68_50,S68_51,S68_52,S68,↓XX,XY,↓reduceIte,Nat.reduceBEq,Nat.reduceAdd,Int.cast_ofNat_Int,Int.reduceEq,Int.reduceLT,Int.reduceLE];exact ans_fv _ _
  ·rw [Tm.free,if_neg h1];simp only [S68_48,S68_49,S68_50,S68_51,S68_52,S68,↓XX,XY,↓reduceIte,Nat.reduceBEq,Nat.reduceAdd,Int.cast_ofNat_Int,Int.reduceEq,Int.reduceLT,Int.reduceLE,h1];refine loop_run (Q:=fun r=>Ans r _) (fun k V H=>∃pre rest,ks=pre++rest∧rest.length=k∧V=[iv c,.ptr (.own 71303168) 0,iv pre.length]∧H=⟨[(71303168,.row [iv op,iv m,.fv (.sl (ks.map Tm.enc))] false)],[]⟩∧Tm.freeL op pre.length rest c=Tm.freeL op 0 ks c)
    ?_ n ks.length _ _ (by omega) ⟨[],ks,rfl,rfl,rfl,rfl,rfl⟩
   rintro k V H rec ⟨pre,rest,hk,hl,rfl,rfl,ht⟩ hrec;have hkl:ks.length=pre.length+rest.length:=by rw [hk];simp
   cases rest with
   | nil =>
    have hno:¬ ((pre.length:Int)<ks.length):=by rw [hkl];simp
    rw [← ht];simp only [S68_48,S68_49,S68_50,S68_51,S68_52,S68_53,S68,↓XX,XY,↓reduceIte,Nat.reduceBEq,Nat.reduceAdd,Int.cast_ofNat_Int,Int.reduceEq,Int.reduceLT,Int.reduceLE,hno,Tm.freeL];exact ans_fv _ _
   | cons t rest =>
    have hi:(pre.length:Int)<ks.length:=by rw [hkl];simp;omega
    have hg:=at_pre hk;have htw:=wt_mem (t:=t) (l:=ks) (by rw [hk];simp);have hb:=binders_ok (n:=n) (by omega) op pre.length;have hble:=bindN_le op pre.length;have hs:=ih t (c+bindN op pre.length) (by omega) (by omega) (by omega) (by omega);have hwc:w64 (c+bindN op pre.length)=c+bindN op pre.length:=by rw [w64_id]<;>omega
    have hwi:w64 ((pre.length:Int)+1)=((pre++[t]).length:Int):=(w64_id (by omega) (by omega)).trans (by simp);simp only [Tm.freeL] at ht;generalize t.free (c+bindN op pre.length)=v at hs ht;obtain ⟨o,p,l⟩:=t;simp only [List.length_cons] at hl;rw [enc_mk] at hs;cases v
    ·simp only [S68_48,S68_49,S68_50,S68_51,S68_52,S68_53,S68,↓XX,XY,↓reduceIte,Nat.reduceBEq,Nat.reduceAdd,Int.cast_ofNat_Int,Int.reduceEq,Int.reduceLT,Int.reduceLE,hi,↓ix_f (map_get hg) (agg3l _ _ _),↓agg3,↓iso_2 hb,hwc,hwi,↓iso_2 hs];refine hrec rest.length _ _ (by omega) ?_;exact ⟨pre++[.mk o p l],rest,by rw [hk];simp,rfl,rfl,rfl,by simpa using ht⟩
    ·rw [← ht];simp only [S68_48,S68_49,S68_50,S68_51,S68_52,S68_53,S68,↓XX,XY,↓reduceIte,Nat.reduceBEq,Nat.reduceAdd,Int.cast_ofNat_Int,Int.reduceEq,Int.reduceLT,Int.reduceLE,hi,↓ix_f (map_get hg) (agg3l _ _ _),↓agg3,↓iso_2 hb,hwc,hwi,↓iso_2 hs,Bool.true_or];exact ans_fv _ _
mutual
def Tm.same:Tm→Tm→Bool
 | .mk o n l,.mk o' n' l'=>decide (o=o') && (decide (n=n') && (decide (l.length=l'.length) && Tm.sameL l l'))
def Tm.sameL:List Tm→List Tm→Bool
 | a::l,b::l'=>a.same b && Tm.sameL l l'
 | _,_=>true
end
mutual
theorem same_eq:∀a b:Tm,a.same b=true ↔ a=b
 | .mk o n l,.mk o' n' l'=>by
  simp only [Tm.same,Bool.and_eq_true,decide_eq_true_eq,Tm.mk.injEq];constructor
  ·rintro ⟨rfl,rfl,h1,h2⟩;exact ⟨rfl,rfl,(sameL_eq l l' h1).1 h2⟩
  ·rintro ⟨rfl,rfl,rfl⟩;exact ⟨rfl,rfl,rfl,(sameL_eq l l rfl).2 rfl⟩
theorem sameL_eq:∀l l':List Tm,l.length=l'.length→(Tm.sameL l l'=true ↔ l=l')
 | [],[],_=>by simp [Tm.sameL]
 | a::l,b::l',h=>by
  simp only [Tm.sameL,Bool.and_eq_true,List.cons.injEq,same_eq a b,sameL_eq l l' (by simpa using h)]
end
theorem same_ok:∀(n:Nat) (a b:Tm),a.wt+1<n→a.wt≤1152921504606846976→Ans (SS dt n 21 [.fv a.enc,.fv b.enc] ⟨[],[]⟩) (.bool (a.same b)):=by
 intro n
 induction n with
 | zero=>intro a b h;omega
 | succ n ih =>
  intro a b h hw;obtain ⟨op,m,ks⟩:=a;obtain ⟨op',m',ks'⟩:=b;simp only [Tm.wt] at h hw;rw [c21,enc_mk,enc_mk];have hlen:=wt_len ks;rw [Tm.same];by_cases h1:op=op'
  ·by_cases h2:m=m'
   ·by_cases h3:ks.length=ks'.length
    ·have h3':(ks.length:Int)=ks'.length:=by omega
     subst h1 h2;simp only [S21_128,S21_129,S21_130,S21_131,S21_132,S21_134,S21_135,S21_136,S21_137,S21,↓XX,XY,↓reduceIte,Nat.reduceBEq,Nat.reduceAdd,Int.cast_ofNat_Int,Int.reduceEq,Int.reduceLT,Int.reduceLE,h3,h3',Tm.same];refine loop_run (Q:=fun r=>Ans r _) (fun k V H=>∃pre rest pre' rest',ks=pre++rest∧ks'=pre'++rest'∧pre.length=pre'.length∧rest.length=k∧V=[.ptr (.own 22020096) 0,.ptr (.own 22020097) 0,iv pre.length] ∧
      H=⟨[(22020096,.row [iv op,iv m,.fv (.sl (ks.map Tm.enc))] false),(22020097,.row [iv op,iv m,.fv (.sl (ks'.map Tm.enc))] false)],[]⟩∧Tm.sameL rest rest'=Tm.sameL ks ks')
      ?_ n ks.length _ _ (by omega) ⟨[],ks,[],ks',rfl,rfl,rfl,rfl,rfl,rfl,rfl⟩
     rintro k V H rec ⟨pre,rest,pre',rest',hk,hk',hpl,hl,rfl,rfl,ht⟩ hrec;have hkl:ks.length=pre.length+rest.length:=by rw [hk];simp
     have hkl':ks'.length=pre'.length+rest'.length:=by rw [hk'];simp
     cases rest with
     | nil =>
      have hno:¬ ((pre.length:Int)<ks.length):=by rw [hkl];simp
      rw [← ht];simp only [S21_128,S21_129,S21_130,S21_131,S21_132,S21_133,S21_134,S21_135,S21_136,S21_137,S21,↓XX,XY,↓reduceIte,Nat.reduceBEq,Nat.reduceAdd,Int.cast_ofNat_Int,Int.reduceEq,Int.reduceLT,Int.reduceLE,hno,Tm.sameL];exact ans_fv _ _
     | cons t rest =>
      cases rest' with
      | nil=>simp at hkl hkl';omega
      | cons t' rest' =>
       have hi:(pre.length:Int)<ks.length:=by rw [hkl];simp;omega
       have hg:=at_pre hk;have hg':=at_pre hk';rw [← hpl] at hg';have htw:=wt_mem (t:=t) (l:=ks) (by rw [hk];simp);have hs:=ih t t' (by omega) (by omega);have hwi:w64 ((pre.length:Int)+1)=((pre++[t]).length:Int):=(w64_id (by omega) (by omega)).trans (by simp);simp only [Tm.sameL] at ht;generalize t.same t'=v at hs ht;obtain ⟨o,p,l⟩:=t;obtain ⟨o',p',l'⟩:=t';simp only [List.length_cons] at hl;rw [enc_mk,enc_mk] at hs;cases v
       ·rw [← ht];simp only [S21_128,S21_129,S21_130,S21_131,S21_132,S21_133,S21_134,S21_135,S21_136,S21_137,S21,↓XX,XY,↓reduceIte,Nat.reduceBEq,Nat.reduceAdd,Int.cast_ofNat_Int,Int.reduceEq,Int.reduceLT,Int.reduceLE,hi,↓ix_f (map_get hg) (agg3l _ _ _),↓ix_f (map_get hg') (agg3l _ _ _),↓agg3,↓iso_2 hs,Bool.false_and];exact ans_fv _ _
       ·simp only [S21_128,S21_129,S21_130,S21_131,S21_132,S21_133,S21_134,S21_135,S21_136,S21_137,S21,↓XX,XY,↓reduceIte,Nat.reduceBEq,Nat.reduceAdd,Int.cast_ofNat_Int,Int.reduceEq,Int.reduceLT,Int.reduceLE,hi,↓ix_f (map_get hg) (agg3l _ _ _),↓ix_f (map_get hg') (agg3l _ _ _),↓agg3,hwi,↓iso_2 hs];refine hrec rest.length _ _ (by omega) ?_;exact ⟨pre++[.mk o p l],rest,pre'++[.mk o' p' l'],rest',by rw [hk];simp,by rw [hk'];simp,by simp [hpl],rfl,rfl,rfl,by simpa using ht⟩
    ·have h3':¬ (ks.length:Int)=ks'.length:=by omega
     simp only [S21_128,S21_129,S21_130,S21_131,S21_132,S21_134,S21_135,S21_136,S21_137,S21,↓XX,XY,↓reduceIte,Nat.reduceBEq,Nat.reduceAdd,Int.cast_ofNat_Int,Int.reduceEq,Int.reduceLT,Int.reduceLE,h1,h2,h3,h3'];exact ans_fv _ _
   ·simp only [S21_128,S21_129,S21_130,S21_131,S21_132,S21_134,S21_135,S21_136,S21_137,S21,↓XX,XY,↓reduceIte,Nat.reduceBEq,Nat.reduceAdd,Int.cast_ofNat_Int,Int.reduceEq,Int.reduceLT,Int.reduceLE,h1,h2];exact ans_fv _ _
  ·simp only [S21_128,S21_129,S21_130,S21_131,S21_132,S21_134,S21_135,S21_136,S21_137,S21,↓XX,XY,↓reduceIte,Nat.reduceBEq,Nat.reduceAdd,Int.cast_ofNat_Int,Int.reduceEq,Int.reduceLT,Int.reduceLE,h1];exact ans_fv _ _
theorem bs1_tm' (o p:Int) (l:List Tm) (s:Nat) (h:Hp) (k:IV→Hp→List Ref→List Ref→Option (IV×Hp)):genS (pcBuildSlice EE 29 1 [(0,.fv (.agg [.int .i64 o,.int .i64 p,.sl (l.map Tm.enc)]))]) s h k=k (.clip [.agg [.int .i64 o,.int .i64 p,.sl (l.map Tm.enc)]]) h [] []:=by
 have:=bs1_tm (.mk o p l) s h k
 rw [enc_mk] at this;exact this
def isTrueN (o:Option (IV×Hp)):Bool:=match o with
 | some (.fv (.bool b),⟨_,[]⟩)=>b
 | _=>false
theorem ans_trueN {o:Option (IV×Hp)} (h:isTrueN o=true):Ans o (.bool true):=by
 unfold isTrueN at h;split at h
 ·subst h;exact ans_fv _ _
 ·cases h
theorem bs2_g (o1 n1 o2 n2:Int) (k1 k2:List FV) (s:Nat) (h:Hp) (k:IV→Hp→List Ref→List Ref→Option (IV×Hp)):genS (pcBuildSlice EE 29 2 [(0,.fv (.agg [.int .i64 o1,.int .i64 n1,.sl k1])),(1,.fv (.agg [.int .i64 o2,.int .i64 n2,.sl k2]))]) s h k =
  k (.clip [.agg [.int .i64 o1,.int .i64 n1,.sl k1],.agg [.int .i64 o2,.int .i64 n2,.sl k2]]) h [] []:=bs_tm tTms tTm (by decide) (cells:=[.int .i64 o1,.int .i64 n1,.sl k1,.int .i64 o2,.int .i64 n2,.sl k2]) rfl k
theorem bs3_g (o1 n1 o2 n2 o3 n3:Int) (k1 k2 k3:List FV) (s:Nat) (h:Hp) (k:IV→Hp→List Ref→List Ref→Option (IV×Hp)):genS (pcBuildSlice EE 29 3 [(0,.fv (.agg [.int .i64 o1,.int .i64 n1,.sl k1])),(1,.fv (.agg [.int .i64 o2,.int .i64 n2,.sl k2])),(2,.fv (.agg [.int .i64 o3,.int .i64 n3,.sl k3]))]) s h k =
  k (.clip [.agg [.int .i64 o1,.int .i64 n1,.sl k1],.agg [.int .i64 o2,.int .i64 n2,.sl k2],.agg [.int .i64 o3,.int .i64 n3,.sl k3]]) h [] []:=bs_tm tTms tTm (by decide) (cells:=[.int .i64 o1,.int .i64 n1,.sl k1,.int .i64 o2,.int .i64 n2,.sl k2,.int .i64 o3,.int .i64 n3,.sl k3]) rfl k
theorem bs4_g (o1 n1 o2 n2 o3 n3 o4 n4:Int) (k1 k2 k3 k4:List FV) (s:Nat) (h:Hp) (k:IV→Hp→List Ref→List Ref→Option (IV×Hp)):genS (pcBuildSlice EE 29 4 [(0,.fv (.agg [.int .i64 o1,.int .i64 n1,.sl k1])),(1,.fv (.agg [.int .i64 o2,.int .i64 n2,.sl k2])),(2,.fv (.agg [.int .i64 o3,.int .i64 n3,.sl k3])),(3,.fv (.agg [.int .i64 o4,.int .i64 n4,.sl k4]))]) s h k =
  k (.clip [.agg [.int .i64 o1,.int .i64 n1,.sl k1],.agg [.int .i64 o2,.int .i64 n2,.sl k2],.agg [.int .i64 o3,.int .i64 n3,.sl k3],.agg [.int .i64 o4,.int .i64 n4,.sl k4]]) h [] []:=bs_tm tTms tTm (by decide) (cells:=[.int .i64 o1,.int .i64 n1,.sl k1,.int .i64 o2,.int .i64 n2,.sl k2,.int .i64 o3,.int .i64 n3,.sl k3,.int .i64 o4,.int .i64 n4,.sl k4]) rfl k
theorem bs1_g (o1 n1:Int) (k1:List FV) (s:Nat) (h:Hp) (k:IV→Hp→List Ref→List Ref→Option (IV×Hp)):genS (pcBuildSlice EE 29 1 [(0,.fv (.agg [.int .i64 o1,.int .i64 n1,.sl k1]))]) s h k =
  k (.clip [.agg [.int .i64 o1,.int .i64 n1,.sl k1]]) h [] []:=bs_tm tTms tTm (by decide) (cells:=[.int .i64 o1,.int .i64 n1,.sl k1]) rfl k
def AnsV (r:Option (IV×Hp)) (v:FV):Prop:=∃own,r=some (.fv v,⟨own,[]⟩)
theorem ansv {v:FV} {own:List (Nat×Blk)}:AnsV (some (.fv v,⟨own,[]⟩)) v:=⟨own,rfl⟩
def tnum:Nat→Tm
 | 0=>.mk 11 0 []
 | n+1=>.mk 12 0 [tnum n]
theorem keep0 {g:FuncId} (h:EE.pol.inl g=false) (h1:EE.pol.keep g=[]) (h2:EE.pol.split g=false) (h3:EE.pol.raw g=false) (ih:Handler) (xs:List IV) (h0:Hp) (k:IV→Hp→List Ref→List Ref→Option (IV×Hp)) :
  dynS EE ih (.fv (.func (.func g) [] [])) xs h0 k=isoS [] false false ih g xs h0 k:=by
 unfold dynS;simp only [callee,h,cond_false,sp_e,h1,h2,h3,List.map_nil,List.nil_append,List.append_nil]
theorem num_ok {n:Nat} (k:Nat) (hn:k+3<n) (hk:k≤1000000):Ans (SS dt n 35 [iv k] ⟨[],[]⟩) (tnum k).enc:=by
 obtain ⟨n,rfl⟩:∃j,n=j+1:=⟨n - 1,by omega⟩;rw [c35];have h0:=t0_ok (n:=n) (by omega) 11;rw [enc_mk] at h0;simp only [S35_49,S35_50,S35_51,S35,↓XX,XY,↓reduceIte,Nat.reduceBEq,Nat.reduceAdd,Int.cast_ofNat_Int,Int.reduceEq,Int.reduceLT,Int.reduceLE,↓iso_2 h0];refine loop_run (Q:=fun r=>Ans r _) (fun j V H=>∃(i:Nat),i+j=k∧V=[iv k,.ptr (.own 36700160) 0,.ptr (.own 36701185) 0,iv i] ∧
   H=⟨[(36700160,.row [iv 0,iv 0,.nils] false),(36701185,.row [iv (tnum i).op,iv (tnum i).n,.fv (.sl ((tnum i).kids.map Tm.enc))] false)],[]⟩) ?_ n k _ _ (by omega) ⟨0,by omega,rfl,rfl⟩
 rintro j V H rec ⟨i,hi,rfl,rfl⟩ hrec;cases j with
 | zero =>
  have:i=k:=by omega
  subst this;have hno:¬ ((i:Int)<i):=by omega
  generalize tnum i=t;obtain ⟨o,p,l⟩:=t;rw [enc_mk];simp only [S35_49,S35_50,S35_51,S35_52,S35,↓XX,XY,↓reduceIte,Nat.reduceBEq,Nat.reduceAdd,Int.cast_ofNat_Int,Int.reduceEq,Int.reduceLT,Int.reduceLE,hno,Tm.op,Tm.n,Tm.kids];exact ans_fv _ _
 | succ j =>
  have hlt:(i:Int)<k:=by omega
  have hw:w64 ((i:Int)+1)=((i+1:Nat):Int):=(w64_id (by omega) (by omega)).trans (by simp);have ht:=t_ok (n:=n) (by omega) 12 [tnum i];have h9:=hrec j ([iv k,.ptr (.own 36700160) 0,.ptr (.own 36701185) 0,iv (i+1:Nat)]) (⟨[(36700160,.row [iv 0,iv 0,.nils] false),(36701185,.row [iv 12,iv 0,.fv (.sl ([tnum i].map Tm.enc))] false)],[]⟩) (by omega) ⟨i+1,by omega,rfl,rfl⟩;generalize tnum i=t at *;obtain ⟨o,p,l⟩:=t;simp only [List.map_cons,List.map_nil,enc_mk] at ht h9;simp only [S35_49,S35_50,S35_51,S35_52,S35,↓XX,XY,↓reduceIte,Nat.reduceBEq,Nat.reduceAdd,Int.cast_ofNat_Int,Int.reduceEq,Int.reduceLT,Int.reduceLE,hlt,Tm.op,Tm.n,Tm.kids,↓bs1_tm',↓iso_2 ht,hw];exact h9
theorem known5_run (n:Nat):isTrueN (SS dt (n+60) 14 [] ⟨[],[]⟩)=true:=by kernel_rfl
theorem known5_ok {n:Nat} (h:60≤n):Ans (SS dt n 14 [] ⟨[],[]⟩) (.bool true):=by
 obtain ⟨k,rfl⟩:∃k,n=k+60:=⟨n - 60,by omega⟩;exact ans_trueN (known5_run k)
theorem within5_ok {n:Nat} (hn:0<n) (x:Int) {m:Int} (h1:0<m) (h2:m≤4611686018427387904):Ans (SS dt n 28 [iv x,iv m] ⟨[],[]⟩) (.int .i64 (x % m)):=by
 obtain ⟨n,rfl⟩:=Nat.exists_eq_add_of_lt hn;rw [Nat.zero_add,c28];simp only [S28,↓XX,XY,↓reduceIte,Nat.reduceBEq,Nat.reduceAdd,Int.cast_ofNat_Int,Int.reduceEq,Int.reduceLT,Int.reduceLE,↓rem_s (show m≠0 by omega)]
 rw [← emod_w h1 h2];by_cases hc:x.tmod m<0<;>simp only [hc,if_true,if_false]<;>exact ans_fv _ _
section
variable {β:Type} {E:Env}
noncomputable def frzK (cs:List IV) (k:List FV→Option β):Option β:=(frz1L cs).bind k
theorem bs1_ptr {t e:TypeId} {a b:Nat} {ei:TI} {z:List IV} (hT:E.T t=some ⟨a,b,.slice e,z⟩) (he:E.T e=some ei) (hs:ei.size=1) (hz:∃x,ei.zero=[x]) (r s:Nat) (own:List (Nat×Blk)) (ext:List Blk)
  (hc:∀cells ro,lookupOwn r own=some (.row cells ro)→cells.length≤100) (hk:∀cells ro,lookupOwn r own=some (.row cells ro)→∃fc,frz1L cells=some fc) (k:IV→Hp→List Ref→List Ref→Option β) :
  genS (pcBuildSlice E t 1 [(0,.ptr (.own r) 0)]) s ⟨own,ext⟩ k=ownK own r fun bl=>asRow bl fun cells=>frzK cells fun fc=>putOwnK own r (.row cells true) fun own=>k (.clip [.fp fc 0]) ⟨own,ext⟩ [.own r] [.own r]:=by
 obtain ⟨x,hx⟩:=hz;have hm:pcBuildSlice E t 1 [(0,.ptr (.own r) 0)]=(frzL (65534+1+1) [.ptr (.own r) 0]).bind fun (vs,u)=>.ret { eff:={ val:=.clip (chunks ei.size 1 vs),upd:=u } }:=by
  have h1:¬ (ei.size=0∨1 * ei.size > 65536):=by rw [hs];omega
  have h2:fillIn (fun j=>some (j * ei.size,ei.size)) (rep 1 ei.zero) [(0,.ptr (.own r) 0)]=some [.ptr (.own r) 0]:=by
   rw [hx,hs];rfl
  simp only [pcBuildSlice,hT,he,if_neg h1,h2]
 rw [hm,ownK_eq];unfold genS;cases hl:lookupOwn r own with
 | none =>
  have:((frzL (65534+1+1) [.ptr (.own r) 0]).bind fun (vs,u)=>Rd.ret ({ eff:={ val:=.clip (chunks ei.size 1 vs),upd:=u } }:Made)).runLog ⟨own,ext⟩ []=none:=by
   simp only [frzL,frz,Rd.bind,Rd.runLog,Hp.get,hl]
  rw [this];rfl
 | some bl =>
  cases bl with
  | row cells ro =>
   obtain ⟨fc,hfc⟩:=hk cells ro hl;have hlen:=hc cells ro hl;have h3:frzL 65534 cells=.ret (fc,[]):=fr1_l cells 65534 (by omega) hfc
   have:((frzL (65534+1+1) [.ptr (.own r) 0]).bind fun (vs,u)=>Rd.ret ({ eff:={ val:=.clip (chunks ei.size 1 vs),upd:=u } }:Made)).runLog ⟨own,ext⟩ [] =
     some ({ eff:={ val:=.clip (chunks ei.size 1 [.fp fc 0]),upd:=[(.own r,.row cells true)] } },[.own r]):=by
    simp only [frzL,frz,Rd.bind,Rd.runLog,Hp.get,hl,h3,List.append_nil]
   rw [this];simp only [Option.bind_some,asRow,frzK,hfc,hs]
   show (fRf (.own r) fun q=>getK q ⟨own,ext⟩ fun _=>fBk (.row cells true) fun b=>layK q b ⟨own,ext⟩ fun h=>newK none s h fun h=>fV 3 (.clip [.fp fc 0]) fun v=>k v h [.own r] ([.own r]++[]))=_
   simp only [fRf_eq,fBk_eq,fV_eq,newK,layK,getK];rw [ownK_eq,hl];rfl
  | tok n sz =>
   have:((frzL (65534+1+1) [.ptr (.own r) 0]).bind fun (vs,u)=>Rd.ret ({ eff:={ val:=.clip (chunks ei.size 1 vs),upd:=u } }:Made)).runLog ⟨own,ext⟩ []=none:=by
    simp only [frzL,frz,Rd.bind,Rd.runLog,Hp.get,hl]
   rw [this];rfl
  | map es =>
   have:((frzL (65534+1+1) [.ptr (.own r) 0]).bind fun (vs,u)=>Rd.ret ({ eff:={ val:=.clip (chunks ei.size 1 vs),upd:=u } }:Made)).runLog ⟨own,ext⟩ []=none:=by
    simp only [frzL,frz,Rd.bind,Rd.runLog,Hp.get,hl]
   rw [this];rfl
theorem bs1_q {t e:TypeId} {a b:Nat} {ei:TI} {z:List IV} (hT:E.T t=some ⟨a,b,.slice e,z⟩) (he:E.T e=some ei) (hs:ei.size=1) (hz:∃x,ei.zero=[x]) {r:Nat} {own own':List (Nat×Blk)} {cells:List IV} {ro:Bool} {fc:List FV}
  (hl:lookupOwn r own=some (.row cells ro)) (hf:frz1L cells=some fc) (hn:cells.length≤100) (ho:putOwn r (.row cells true) own=own') (s:Nat) (ext:List Blk) (k:IV→Hp→List Ref→List Ref→Option β) :
  genS (pcBuildSlice E t 1 [(0,.ptr (.own r) 0)]) s ⟨own,ext⟩ k=k (.clip [.fp fc 0]) ⟨own',ext⟩ [.own r] [.own r]:=by
 have h1:∀cells' ro',lookupOwn r own=some (.row cells' ro')→cells'=cells:=fun c r h=>by rw [hl] at h;cases h;rfl
 rw [bs1_ptr hT he hs hz r s own ext (fun c r h=>by rw [h1 c r h];exact hn) (fun c r h=>by rw [h1 c r h];exact ⟨fc,hf⟩),ownK_eq,hl];simp only [Option.bind_some,asRow,frzK,hf,putOwnK_eq,ho]
def AnsX (r:Option (IV×Hp)) (w:FV) (ext:List Blk):Prop:=∃v own,r=some (v,⟨own,ext⟩) ∧
 ∃u lg,∀(e:Option (IV×Hp)) (K:FV→List (Ref×Blk)→List Ref→Option (IV×Hp)),fzU 12 v ⟨own,ext⟩ [] e K=K w u lg
theorem ansx_fv (w:FV) (own:List (Nat×Blk)) (ext:List Blk):AnsX (some (.fv w,⟨own,ext⟩)) w ext:=⟨_,own,rfl,[],[],fun _ _=>rfl⟩
theorem ansx_p {v:IV} {w:FV} (hz:frzP v=some w) (own:List (Nat×Blk)) (ext:List Blk):AnsX (some (v,⟨own,ext⟩)) w ext:=⟨_,own,rfl,[],[],fun e K=>fzp_u _ _ e K hz⟩
theorem refsDL_fv:∀l:List FV,refsDL (l.map .fv) []=[]
 | []=>rfl
 | v::l=>by
  show refsD (.fv v) (refsDL (l.map .fv) [])=[]
  rw [refsDL_fv l];rfl
theorem goB_s (n j:Nat) (t:List Ref) (s:Nat) (rest:List Blk):goB (n+1) (.ext j::t) s rest=cond (Nat.ble (Nat.succ j) s) (goB n t s rest) (cond (Nat.beq j s) (goR (goB n) t s rest) false):=rfl
theorem goB_n (n s:Nat):goB (n+1) [] s []=true:=rfl
set_option maxRecDepth 20000 in
theorem goB_one (st:List FV):goB 400 [.ext 0] 0 [.row (st.map .fv) false]=true:=by
 rw [show (400:Nat)=398+1+1 from rfl,goB_s]
 show goR (goB (398+1)) [] 0 [.row (st.map .fv) false]=true
 show goB (398+1) ([]++refsB (.row (st.map .fv) false)) 1 []=true
 rw [show refsB (.row (st.map .fv) false)=refsDL (st.map .fv) [] from rfl,refsDL_fv]
 exact goB_n 398 1
theorem okB_one (st:List FV):okB 1 [.row (st.map .fv) false]=true:=by
 show cond (okR 1 (refsB (.row (st.map .fv) false))) true false=true
 rw [show refsB (.row (st.map .fv) false)=refsDL (st.map .fv) [] from rfl,refsDL_fv]
 rfl
theorem gb3 (a b c:FV):goB 400 [.ext 0] 0 [.row [.fv a,.fv b,.fv c] false]=true:=goB_one [a,b,c]
theorem ob3 (a b c:FV):okB 1 [.row [.fv a,.fv b,.fv c] false]=true:=okB_one [a,b,c]
theorem gb2 (a b:FV):goB 400 [.ext 0] 0 [.row [.fv a,.fv b] false]=true:=goB_one [a,b]
theorem ob2 (a b:FV):okB 1 [.row [.fv a,.fv b] false]=true:=okB_one [a,b]
theorem iso_cx {r1:Ref} {rs1:List Ref} {ih:Handler} {f:FuncId} {vs:List IV} {w:FV} {ext ext':List Blk} (hr:AnsX (ih f vs ⟨[],ext⟩) w ext') (hg:goB 400 (r1::rs1) 0 ext=true) (hl:ext'.length=ext.length) (ho:okB ext.length ext'=true)
  (own:List (Nat×Blk)) (r0:Option (IV×Hp)) (u:List (Ref×Blk)) (lg:List Ref) (e:Option (IV×Hp)) (k:IV→Hp→List Ref→List Ref→Option (IV×Hp)) :
  isoC (
     r1::rs1) r0 ⟨own,ext⟩ u lg e (fun rs=>match rs with
   | []=>none
   | r::rs=>(match (⟨own,ext⟩:Hp) with
    | ⟨own,ext⟩=>cond (goB 400 (r::rs) 0 ext) (match ih f vs ⟨[],ext⟩ with
     | none=>none
     | some p=>match p with
      | (v,h')=>match h' with
       | ⟨own',ext'⟩=>cond (and (Nat.beq ext'.length ext.length) (okB ext.length ext'))
        (fzU 12 v ⟨own',ext'⟩ [] e fun w _ _=>layU u ⟨own,ext'⟩ fun h2=>k (.fv w) h2 ((extsUp ext.length).reverse++lg) (keys u++extsUp ext.length)) none)
     e)) k=layU u ⟨own,ext'⟩ fun h2=>k (.fv w) h2 ((extsUp ext.length).reverse++lg) (keys u++extsUp ext.length):=by
 obtain ⟨v,own',e1,u',lg',hz⟩:=hr;simp only [isoC,hg,e1,hl,ho];rw [show (Nat.beq ext.length ext.length && true)=true by rw [Bool.and_true];exact Nat.beq_refl _,cond_true,hz]
 rfl
structure OneX (ext ext':List Blk):Prop where
 g:goB 400 [.ext 0] 0 ext=true
 l:ext.length=1
 l':ext'.length=1
 o:okB 1 ext'=true
theorem onex3 (a b c a' b' c':FV):OneX [.row [.fv a,.fv b,.fv c] false] [.row [.fv a',.fv b',.fv c'] false]:=⟨gb3 ..,rfl,rfl,ob3 ..⟩
theorem onex2 (a b a' b':FV):OneX [.row [.fv a,.fv b] false] [.row [.fv a',.fv b'] false]:=⟨gb2 ..,rfl,rfl,ob2 ..⟩
theorem fza_k (x:Nat):∀(args:List IV) {vs:List FV} (h:Hp) (lg:List Ref) (e:Option β) (k:List IV→List Ref→List (Ref×Blk)→List Ref→Option β) (ks:List Bool),(∀b∈ks,b=false)→frzPL args=some vs →
  fzA args ks h lg e k=k (vs.map .fv) [] [] lg
 | [],vs,h,lg,e,k,ks,_,hz=>by cases hz;rfl
 | v::l,vs,h,lg,e,k,[],_,hz=>fza_p (v::l) h lg e k hz
 | v::l,vs,h,lg,e,k,b::ks,hk,hz=>by
  have hb:=hk b List.mem_cons_self;subst hb;simp only [frzPL] at hz;cases h1:frzP v with
  | none=>rw [h1] at hz;cases hz
  | some x' =>
   rw [h1] at hz;cases h2:frzPL l with
   | none=>rw [h2] at hz;cases hz
   | some ys =>
    rw [h2] at hz;cases hz;rw [fz1f,fzp_u h lg e _ h1,fza_k x l h lg e _ ks (fun c hc=>hk c (List.mem_cons_of_mem _ hc)) h2];rfl
theorem iso_m {ks:List Bool} (hks:∀b∈ks,b=false) {ih:Handler} {f:FuncId} {args:List IV} {vs:List FV} {w:FV} {ext ext':List Blk} (hz:frzPL args=some vs) (X:OneX ext ext') (hr:AnsX (ih f (.ptr (.ext 0) 0::vs.map .fv) ⟨[],ext⟩) w ext')
  (own:List (Nat×Blk)) (k:IV→Hp→List Ref→List Ref→Option (IV×Hp)):isoS (true::ks) false false ih f (.ptr (.ext 0) 0::args) ⟨own,ext⟩ k=k (.fv w) ⟨own,ext'⟩ [.ext 0] [.ext 0]:=by
 rw [iso_e,fz1k,as_p,fza_k 0 args _ _ _ _ ks hks hz]
 have:=iso_cx (r1:=.ext 0) (rs1:=[]) hr X.g (by rw [X.l,X.l']) (by rw [X.l];exact X.o) own (ih f (.ptr (.ext 0) 0::vs.map .fv) ⟨[],[]⟩) [] [] (isoD (true::ks) false false ih f (.ptr (.ext 0) 0::args) ⟨own,ext⟩ k) k
 refine this.trans ?_;rw [X.l];rfl
theorem iso_m1 {ih:Handler} {f:FuncId} {w:FV} {ext ext':List Blk} (hr:AnsX (ih f [.ptr (.ext 0) 0] ⟨[],ext⟩) w ext') (X:OneX ext ext') (own:List (Nat×Blk)) (k:IV→Hp→List Ref→List Ref→Option (IV×Hp)) :
  isoS [true] false false ih f [.ptr (.ext 0) 0] ⟨own,ext⟩ k=k (.fv w) ⟨own,ext'⟩ [.ext 0] [.ext 0]:=iso_m (ks:=[]) (by simp) (vs:=[]) rfl X hr own k
theorem iso_m3 {ih:Handler} {f:FuncId} {a b:IV} {x y w:FV} {ext ext':List Blk} (hr:AnsX (ih f [.ptr (.ext 0) 0,.fv x,.fv y] ⟨[],ext⟩) w ext') (X:OneX ext ext') (ha:frzP a=some x) (hb:frzP b=some y) (own:List (Nat×Blk))
  (k:IV→Hp→List Ref→List Ref→Option (IV×Hp)):isoS [true,false,false] false false ih f [.ptr (.ext 0) 0,a,b] ⟨own,ext⟩ k=k (.fv w) ⟨own,ext'⟩ [.ext 0] [.ext 0]:=iso_m (ks:=[false,false]) (by simp) (zl_2 ha hb) X hr own k
theorem iso_m4 {ih:Handler} {f:FuncId} {a b c:IV} {x y z w:FV} {ext ext':List Blk} (hr:AnsX (ih f [.ptr (.ext 0) 0,.fv x,.fv y,.fv z] ⟨[],ext⟩) w ext') (X:OneX ext ext') (ha:frzP a=some x) (hb:frzP b=some y) (hc:frzP c=some z)
  (own:List (Nat×Blk)) (k:IV→Hp→List Ref→List Ref→Option (IV×Hp)):isoS [true,false,false,false] false false ih f [.ptr (.ext 0) 0,a,b,c] ⟨own,ext⟩ k=k (.fv w) ⟨own,ext'⟩ [.ext 0] [.ext 0] :=
 iso_m (ks:=[false,false,false]) (by simp) (zl_3 ha hb hc) X hr own k
theorem iso_m2p {ih:Handler} {f:FuncId} {s:Nat} {own:List (Nat×Blk)} {cells:List IV} {ro:Bool} {fc:List FV} {w:FV} {ext ext':List Blk} (hr:AnsX (ih f [.ptr (.ext 0) 0,.fv (.fp fc 0)] ⟨[],ext⟩) w ext') (X:OneX ext ext')
  (hl:lookupOwn s own=some (.row cells ro)) (hz:frz1L cells=some fc) (hn:cells.length≤300) (k:IV→Hp→List Ref→List Ref→Option (IV×Hp)) :
  isoS [true,false] false false ih f [.ptr (.ext 0) 0,.ptr (.own s) 0] ⟨own,ext⟩ k=k (.fv w) ⟨putOwn s (.row cells true) own,ext'⟩ [.ext 0,.own s] [.own s,.ext 0]:=by
 rw [iso_e,fz1k,as_p,fz1f,fu_ptr,g_own,ownK_eq,hl];simp only [Option.bind_some,as_row];rw [ble_dec,decide_eq_true hn,c_t,fz1_l 10 _ _ _ cells _ hz,fz0]
 have:=iso_cx (r1:=.ext 0) (rs1:=[]) hr X.g (by rw [X.l,X.l']) (by rw [X.l];exact X.o) own (ih f [.ptr (.ext 0) 0,.fv (.fp fc 0)] ⟨[],[]⟩) [(.own s,.row cells true)] [.own s] (isoD [true,false] false false ih f [.ptr (.ext 0) 0,.ptr (.own s) 0] ⟨own,ext⟩ k) k
 refine this.trans ?_;rw [X.l]
 show (ownK own s fun _=>putOwnK own s (.row cells true) fun own=>k (.fv w) ⟨own,ext'⟩ [.ext 0,.own s] [.own s,.ext 0])=_
 rw [ownK_eq,hl,Option.bind_some,putOwnK_eq]
end
end Idl
end Go.Proofs.Ytbkdidonegggdaa
namespace Go.Proofs.Ytbkdidonegggdaa
namespace Idl
inductive RV where
 | mk (op n:Int) (k env:List RV) (b:Tm)
def Tm.z:Tm:=.mk 0 0 []
def RV.enc:RV→FV
 | .mk op n k env (.mk bo bn bk)=>.fp [.int .i64 op,.int .i64 n,.sl (encL k),.sl (encL env),.int .i64 bo,.int .i64 bn,.sl (bk.map Tm.enc)] 0
where
 encL:List RV→List FV
  | []=>[]
  | v::l=>v.enc::encL l
theorem rencL_eq (l:List RV):RV.enc.encL l=l.map RV.enc:=by
 induction l with
 | nil=>rfl
 | cons t l ih=>simp [RV.enc.encL,ih]
theorem renc_mk (op n:Int) (k env:List RV) (bo bn:Int) (bk:List Tm):(RV.mk op n k env (.mk bo bn bk)).enc =
  .fp [.int .i64 op,.int .i64 n,.sl (k.map RV.enc),.sl (env.map RV.enc),.int .i64 bo,.int .i64 bn,.sl (bk.map Tm.enc)] 0:=by simp only [RV.enc,rencL_eq]
def RV.op:RV→Int
 | .mk op _ _ _ _=>op
def RV.n:RV→Int
 | .mk _ n _ _ _=>n
def RV.k:RV→List RV
 | .mk _ _ k _ _=>k
def RV.env:RV→List RV
 | .mk _ _ _ env _=>env
def RV.b:RV→Tm
 | .mk _ _ _ _ b=>b
def RV.var (n:Int):RV:=.mk 1 n [] [] .z
def RV.clo (env:List RV) (b:Tm):RV:=.mk 0 0 [] env b
def RV.zero:RV:=.mk 11 0 [] [] .z
def RV.node (op n:Int) (k:List RV):RV:=.mk op n k [] .z
theorem renc_eq (v:RV):v.enc=.fp [.int .i64 v.op,.int .i64 v.n,.sl (v.k.map RV.enc),.sl (v.env.map RV.enc),.int .i64 v.b.op,.int .i64 v.b.n,.sl (v.b.kids.map Tm.enc)] 0:=by
 obtain ⟨op,n,k,env,⟨bo,bn,bk⟩⟩:=v;exact renc_mk ..
theorem tm_eta (t:Tm):Tm.enc t=.agg [.int .i64 t.op,.int .i64 t.n,.sl (t.kids.map Tm.enc)]:=by cases t;exact enc_mk ..
theorem renc_cells (v:RV):v.enc.cells.length=1:=by obtain ⟨op,n,k,env,⟨bo,bn,bk⟩⟩:=v;rfl
theorem renc_one (v:RV):v.enc.cells.all FV.one=true:=by obtain ⟨op,n,k,env,⟨bo,bn,bk⟩⟩:=v;rfl
theorem renc_self (v:RV):v.enc.cells=[v.enc]:=by obtain ⟨op,n,k,env,⟨bo,bn,bk⟩⟩:=v;rfl
theorem tVs:EE.T 93=some ⟨1,24,.slice 72,[.nils]⟩:=by kernel_rfl
theorem tVp:EE.T 72=some ⟨1,8,.ptr,[.fv .nilp]⟩:=by kernel_rfl
theorem sV:SliceT EE 93 1:=⟨_,_,_,_,_,tVs,tVp,rfl,by decide,by decide⟩
theorem head_v (l:List RV):headOk 1 (l.map RV.enc)=true:=by
 cases l with
 | nil=>rfl
 | cons a l=>simp only [List.map_cons,headOk,renc_cells,beq_self_eq_true]
theorem bs0_v (s:Nat) (h:Hp) (k:IV→Hp→List Ref→List Ref→Option (IV×Hp)):genS (pcBuildSlice EE 93 0 []) s h k=k (.clip []) h [] [] :=
 bs_tm tVs tVp (by decide) (cells:=[]) rfl k
theorem bs1_v (a:RV) (s:Nat) (h:Hp) (k:IV→Hp→List Ref→List Ref→Option (IV×Hp)):genS (pcBuildSlice EE 93 1 [(0,.fv a.enc)]) s h k=k (.clip [a.enc]) h [] []:=by
 obtain ⟨op,n,kk,env,⟨bo,bn,bk⟩⟩:=a;rw [renc_mk];exact bs_tm tVs tVp (by decide) (cells:=[.fp [.int .i64 op,.int .i64 n,.sl (kk.map RV.enc),.sl (env.map RV.enc),.int .i64 bo,.int .i64 bn,.sl (bk.map Tm.enc)] 0]) rfl k
theorem bs2_v (a b:RV) (s:Nat) (h:Hp) (k:IV→Hp→List Ref→List Ref→Option (IV×Hp)):genS (pcBuildSlice EE 93 2 [(0,.fv a.enc),(1,.fv b.enc)]) s h k=k (.clip [a.enc,b.enc]) h [] []:=by
 obtain ⟨op,n,kk,env,⟨bo,bn,bk⟩⟩:=a;obtain ⟨op',n',kk',env',⟨bo',bn',bk'⟩⟩:=b;rw [renc_mk,renc_mk];exact bs_tm tVs tVp (by decide) (cells:=[.fp [.int .i64 op,.int .i64 n,.sl (kk.map RV.enc),.sl (env.map RV.enc),.int .i64 bo,.int .i64 bn,.sl (bk.map Tm.enc)] 0,.fp [.int .i64 op',.int .i64 n',.sl (kk'.map RV.enc),.sl (env'.map RV.enc),.int .i64 bo',.int .i64 bn',.sl (bk'.map Tm.enc)] 0]) rfl k
theorem bs4_v (a b c d:RV) (s:Nat) (h:Hp) (k:IV→Hp→List Ref→List Ref→Option (IV×Hp)):genS (pcBuildSlice EE 93 4 [(0,.fv a.enc),(1,.fv b.enc),(2,.fv c.enc),(3,.fv d.enc)]) s h k =
  k (.clip [a.enc,b.enc,c.enc,d.enc]) h [] []:=by
 have key:∀x:RV,∃l,x.enc=.fp l 0:=fun x=>⟨_,renc_eq x⟩;obtain ⟨la,ha⟩:=key a;obtain ⟨lb,hb⟩:=key b;obtain ⟨lc,hc⟩:=key c;obtain ⟨ld,hd⟩:=key d;rw [ha,hb,hc,hd];exact bs_tm tVs tVp (by decide) (cells:=[.fp la 0,.fp lb 0,.fp lc 0,.fp ld 0]) rfl k
theorem app0_v (e:RV) (s:Nat) (own:List (Nat×Blk)) (ext:List Blk) (k:IV→Hp→List Ref→List Ref→Option (IV×Hp)) :
  genS (builtinR EE s false .append [93,93] [.nils,.clip [e.enc]]) s ⟨own,ext⟩ k=freshK own s (putOwnK own s (.tok 1 1) fun own=>k (.app (.own s) [e.enc]) ⟨own,ext⟩ [] [.own s]) :=
 app_0 sV (.clip _) (head_v [e]) rfl (by simp) (.inl rfl) s own ext k
theorem app1_v {es:List RV} (hb:es.length+1≤1000000) (e:RV) (r s:Nat) (own:List (Nat×Blk)) (ext:List Blk) (k:IV→Hp→List Ref→List Ref→Option (IV×Hp)) :
  genS (builtinR EE s false .append [93,93] [.app (.own r) (es.map RV.enc),.clip [e.enc]]) s ⟨own,ext⟩ k =
   ownK own r fun b=>tokK b es.length 1 (putOwnK own r (.tok (es.length+1) 1) fun own=>k (.app (.own r) ((es++[e]).map RV.enc)) ⟨own,ext⟩ [.own r] [.own r]):=by
 rw [app_1 sV (.clip [e.enc]) (head_v [e]) (head_v es) (by simp [renc_one]) (by simpa using hb) r s own ext k];simp only [List.length_map,List.map_append,List.map_cons,List.map_nil,List.length_cons,List.length_nil,Nat.zero_add]
theorem plus_ok {n:Nat} (hn:0<n) (env vs:List RV) (hv:vs≠[]) (hb:env.length+vs.length≤1000000):Ans (SS dt n 69 [.fv (.sl (env.map RV.enc)),.fv (.sl (vs.map RV.enc))] ⟨[],[]⟩) (.sl ((env++vs).map RV.enc)):=by
 obtain ⟨n,rfl⟩:∃k,n=k+1:=⟨n - 1,by omega⟩;rw [c69];have hvs:(vs.map RV.enc).isEmpty=false:=by cases vs with
  | nil=>exact absurd rfl hv
  | cons _ _=>rfl
 cases env with
 | nil =>
  simp only [S69,↓XX,XY,↓reduceIte,Nat.reduceBEq,Nat.reduceAdd,Int.cast_ofNat_Int,Int.reduceEq,Int.reduceLT,Int.reduceLE,↓bs0_v,↓app_e sV (.sl []) (.inr rfl),↓app_0 sV (.sl (vs.map RV.enc)) (head_v vs) hvs (by simp;simp at hb;omega) (.inr rfl),List.nil_append];exact ans_p rfl _
 | cons a env =>
  simp only [S69,↓XX,XY,↓reduceIte,Nat.reduceBEq,Nat.reduceAdd,Int.cast_ofNat_Int,Int.reduceEq,Int.reduceLT,Int.reduceLE,↓bs0_v];have h1:((a::env).map RV.enc).isEmpty=false:=rfl;have h0:=fun {β:Type}=>app_0 (β:=β) sV (.sl ((a::env).map RV.enc)) (head_v (a::env)) h1 (by simp only [List.length_map];omega) (.inr rfl:IV.clip []=.nils∨IV.clip []=.clip []);have h2:=fun {β:Type}=>app_1 (β:=β) sV (.sl (vs.map RV.enc)) (head_v vs) (head_v (a::env)) (by simp [renc_one]) (by simp only [List.length_map];omega);simp only [List.map_cons] at h0 h2;simp only [↓XX,XY,↓reduceIte,Nat.reduceBEq,Nat.reduceAdd,Int.cast_ofNat_Int,Int.reduceEq,Int.reduceLT,Int.reduceLE,↓h0,↓h2,↓tok_k,List.map_append,List.cons_append];exact ans_p rfl _
theorem mstep_ok {n:Nat} (hn:0<n) (s nd:Int) (h1:s≤1000000) (h0:0≤s):AnsX (SS dt n 86 [.ptr (.ext 0) 0] ⟨[],[.row [iv s,iv nd,iv 0] false]⟩) (.bool (decide (s+1≤1000)))
  [.row [iv (s+1),iv nd,iv (if s+1≤1000 then 0 else 17)] false]:=by
 obtain ⟨n,rfl⟩:∃k,n=k+1:=⟨n - 1,by omega⟩;rw [c86];have hw:w64 (s+1)=s+1:=by rw [w64_id]<;>omega
 by_cases h:s+1≤1000
 ·have h':¬ 1000<s+1:=by omega
  simp only [S86_29,S86_30,S86_31,S86_32,S86,↓XX,XY,↓reduceIte,Nat.reduceBEq,Nat.reduceAdd,Int.cast_ofNat_Int,Int.reduceEq,Int.reduceLT,Int.reduceLE,hw,h,h'];exact ansx_fv _ _ _
 ·have h':1000<s+1:=by omega
  simp only [S86_29,S86_30,S86_31,S86_32,S86,↓XX,XY,↓reduceIte,Nat.reduceBEq,Nat.reduceAdd,Int.cast_ofNat_Int,Int.reduceEq,Int.reduceLT,Int.reduceLE,hw,h,h'];exact ansx_fv _ _ _
def kidsG (ev:Int→Int→Tm→Option (RV×Int×Int)) (op:Int) (env:List RV):Nat→List Tm→Int→Int→Option (List RV×Int×Int)
 | _,[],s,e=>some ([],s,e)
 | i,t::l,s,e=>if 0<bindN op i then (kidsG ev op env (i+1) l s e).map fun (vs,s,e)=>(.clo env t::vs,s,e) else
  match ev s e t with
  | none=>none
  | some (v,s,e)=>(kidsG ev op env (i+1) l s e).map fun (vs,s,e)=>(v::vs,s,e)
mutual
def evalR:Nat→Int→Int→Tm→List RV→Option (RV×Int×Int)
 | 0,_,_,_,_=>none
 | f+1,s,e,.mk op m ks,env =>
  if e≠0 then some (.zero,s,e) else if 900000<env.length then none else
  if op=1 then
   if m<env.length then (if 0≤m then (env[(env.length - 1 - m).toNat]?).map fun v=>(v,s,e) else none)
   else if m≤4611686018427387904 then some (.var (env.length - 1 - m),s,e) else none
  else if f≤ks.length then none else if 900000<ks.length then none else
  match kidsG (fun s e t=>evalR f s e t env) op env 0 ks s e with
  | none=>none
  | some (vs,s,e)=>headR f s e (.node op m vs)
def headR:Nat→Int→Int→RV→Option (RV×Int×Int)
 | 0,_,_,_=>none
 | f+1,s,e,v =>
  if e≠0 then some (v,s,e) else if s<0∨1000000<s then none else
  if v.op=5 then (match v.k[0]? with
   | none=>none
   | some k0=>if k0.op=4 then
     (if s+1≤1000 then (match k0.k[1]?,v.k[1]? with
      | some c,some x=>if 900000<c.env.length then none else evalR f (s+1) 0 c.b (c.env++[x])
      | _,_=>none) else some (v,s+1,17))
    else some (v,s,e))
  else if v.op=8∨v.op=9 then (match v.k[0]? with
   | none=>none
   | some k0=>if k0.op=7 then
     (if s+1≤1000 then (k0.k[(1+v.op - 8).toNat]?).map fun x=>(x,s+1,0) else some (v,s+1,17))
    else some (v,s,e))
  else if v.op=30 then (match v.k[0]? with
   | none=>none
   | some k0=>if k0.op=19 then
     (if s+1≤1000 then (k0.k[0]?).map fun x=>(x,s+1,0) else some (v,s+1,17))
    else some (v,s,e))
  else if v.op=19 then (match v.k[0]? with
   | none=>none
   | some k0=>if k0.op=30 then
     (if s+1≤1000 then (k0.k[0]?).map fun x=>(x,s+1,0) else some (v,s+1,17))
    else some (v,s,e))
  else if v.op=13 then (match v.k[0]?,v.k[1]?,v.k[2]?,v.k[3]? with
   | some k0,some k1,some k2,some k3 =>
    if k3.op=11 then (if s+1≤1000 then some (k1,s+1,0) else some (v,s+1,17))
    else if k3.op=12 then
     (if s+1≤1000 then (match k3.k[0]? with
      | none=>none
      | some x=>(match headR f (s+1) 0 (.node 13 0 [k0,k1,k2,x]) with
       | none=>none
       | some (h,s,e)=>if 900000<k2.env.length then none else evalR f s e k2.b (k2.env++[x,h])))
     else some (v,s+1,17))
    else some (v,s,e)
   | _,_,_,_=>none)
  else some (v,s,e)
end
theorem ix_v {β:Type} {l:List RV} {i:Nat} {v:RV} (h:l[i]?=some v) (k:IV→Option β):ixS 1 (.fv (.sl (l.map RV.enc))) (iv i) k=k (.fv (.fp [v.enc] 0)):=by
 have h1:(l.map RV.enc)[i]?=some v.enc:=by rw [List.getElem?_map,h];rfl
 rw [ix_f h1 (renc_cells v),renc_self]
def EvalOk (f:Nat):Prop:=∀(s e:Int) (t:Tm) (env:List RV) (v:RV) (s' e' nd:Int),evalR f s e t env=some (v,s',e')→∀n,f+1≤n →
 AnsX (SS dt n 49 [.ptr (.ext 0) 0,.fv t.enc,.fv (.sl (env.map RV.enc))] ⟨[],[.row [iv s,iv nd,iv e] false]⟩) v.enc [.row [iv s',iv nd,iv e'] false]
def HeadOk (f:Nat):Prop:=∀(s e:Int) (v w:RV) (s' e' nd:Int),headR f s e v=some (w,s',e')→∀n,f+1≤n →
 AnsX (SS dt n 70 [.ptr (.ext 0) 0,.fv v.enc] ⟨[],[.row [iv s,iv nd,iv e] false]⟩) w.enc [.row [iv s',iv nd,iv e'] false]
noncomputable abbrev Heval (op m:Int) (ks:List Tm) (K:IV) (tok:List (Nat×Blk)) (s nd e:Int):Hp :=
 ⟨(51380224,.row [iv op,iv m,.fv (.sl (ks.map Tm.enc))] false)::(51387397,.row [iv op,iv m,K,.nils,iv 0,iv 0,.nils] false)::tok,[.row [iv s,iv nd,iv e] false]⟩
theorem rfl2 {op m:Int} (l:List RV):(RV.node op m l).enc=.fp [.int .i64 op,.int .i64 m,.sl (l.map RV.enc),.sl [],.int .i64 0,.int .i64 0,.sl []] 0:=by rw [RV.node,Tm.z,renc_mk];rfl
theorem eval_step {f:Nat} (he:EvalOk f) (hh:HeadOk f):EvalOk (f+1):=by
 intro s e t env v s' e' nd hev n hn;obtain ⟨n,rfl⟩:∃k,n=k+1:=⟨n - 1,by omega⟩;rw [c49];obtain ⟨op,m,ks⟩:=t;rw [enc_mk];rw [evalR] at hev;by_cases h0:e≠0
 ·rw [if_pos h0] at hev;simp only [Option.some.injEq,Prod.mk.injEq] at hev;obtain ⟨rfl,rfl,rfl⟩:=hev;simp only [S49_148,S49_149,S49_150,S49_151,S49_152,S49_153,S49_154,S49_155,S49_156,S49_157,S49_158,S49_159,S49_160,S49_161,S49_162,S49_163,S49_164,S49_165,S49_166,S49_168,S49_169,S49_170,S49,↓XX,XY,↓reduceIte,Nat.reduceBEq,Nat.reduceAdd,Int.cast_ofNat_Int,Int.reduceEq,Int.reduceLT,Int.reduceLE,h0];exact ⟨_,_,rfl,_,_,fun _ _=>rfl⟩
 ·have h0':e=0:=by omega
  subst h0';rw [if_neg h0] at hev;by_cases hlen:900000<env.length
  ·rw [if_pos hlen] at hev;cases hev
  ·rw [if_neg hlen] at hev;by_cases h1:op=1
   ·rw [if_pos h1] at hev;subst h1;by_cases h2:m<env.length
    ·rw [if_pos h2] at hev;by_cases h3:0≤m
     ·rw [if_pos h3] at hev;cases hg:env[(env.length - 1 - m).toNat]? with
      | none=>rw [hg] at hev;cases hev
      | some u =>
       rw [hg] at hev;simp only [Option.map_some,Option.some.injEq,Prod.mk.injEq] at hev;obtain ⟨rfl,rfl,rfl⟩:=hev;have e1:w64 ((env.length:Int) - 1)=env.length - 1:=by rw [w64_id]<;>omega
       have e2:w64 ((env.length:Int) - 1 - m)=(((env.length:Int) - 1 - m).toNat:Int):=by rw [w64_id]<;>omega
       simp only [S49_148,S49_149,S49_150,S49_151,S49_152,S49_153,S49_154,S49_155,S49_156,S49_157,S49_158,S49_159,S49_160,S49_161,S49_162,S49_163,S49_164,S49_165,S49_166,S49_168,S49_169,S49_170,S49,↓XX,XY,↓reduceIte,Nat.reduceBEq,Nat.reduceAdd,Int.cast_ofNat_Int,Int.reduceEq,Int.reduceLT,Int.reduceLE,h2,e1,e2,↓ix_v hg];exact ansx_fv _ _ _
     ·rw [if_neg h3] at hev;cases hev
    ·rw [if_neg h2] at hev;by_cases h3:m≤4611686018427387904
     ·rw [if_pos h3] at hev;simp only [Option.some.injEq,Prod.mk.injEq] at hev;obtain ⟨rfl,rfl,rfl⟩:=hev;have e1:w64 ((env.length:Int) - 1)=env.length - 1:=by rw [w64_id]<;>omega
      have e2:w64 ((env.length:Int) - 1 - m)=(env.length:Int) - 1 - m:=by rw [w64_id]<;>omega
      simp only [S49_148,S49_149,S49_150,S49_151,S49_152,S49_153,S49_154,S49_155,S49_156,S49_157,S49_158,S49_159,S49_160,S49_161,S49_162,S49_163,S49_164,S49_165,S49_166,S49_168,S49_169,S49_170,S49,↓XX,XY,↓reduceIte,Nat.reduceBEq,Nat.reduceAdd,Int.cast_ofNat_Int,Int.reduceEq,Int.reduceLT,Int.reduceLE,h2,e1,e2];exact ⟨_,_,rfl,_,_,fun _ _=>rfl⟩
     ·rw [if_neg h3] at hev;cases hev
   ·rw [if_neg h1] at hev;by_cases hf:f≤ks.length
    ·rw [if_pos hf] at hev;cases hev
    ·rw [if_neg hf] at hev;by_cases hk9:900000<ks.length
     ·rw [if_pos hk9] at hev;cases hev
     ·rw [if_neg hk9] at hev;cases hkg:kidsG (fun s e t=>evalR f s e t env) op env 0 ks s 0 with
      | none=>rw [hkg] at hev;cases hev
      | some q =>
      obtain ⟨vs,s1,e1⟩:=q;rw [hkg] at hev;simp only at hev;simp only [S49_148,S49_149,S49_150,S49_151,S49_152,S49_153,S49_154,S49_155,S49_156,S49_157,S49_158,S49_159,S49_160,S49_161,S49_162,S49_163,S49_164,S49_165,S49_166,S49_168,S49_169,S49_170,S49,↓XX,XY,↓reduceIte,Nat.reduceBEq,Nat.reduceAdd,Int.cast_ofNat_Int,Int.reduceEq,Int.reduceLT,Int.reduceLE,h1,↓drop_e,XD,heldB,flatD,XE];refine loop_run (Q:=fun r=>AnsX r _ _) (fun k V H=>∃pre rest done s2 e2 us s3 e3,ks=pre++rest∧rest.length=k∧done.length=pre.length∧V=[.ptr (.ext 0) 0,.fv (.sl (env.map RV.enc)),.ptr (.own 51380224) 0,.ptr (.own 51387397) 0,iv pre.length] ∧
       (
        (pre=[]∧H=Heval op m ks .nils [] s2 nd e2) ∨
        (∃r,(r=51392526∨r=51393550)∧pre≠[]∧H=Heval op m ks (.app (.own r) (done.map RV.enc)) [(r,.tok done.length 1)] s2 nd e2)) ∧
       kidsG (fun s e t=>evalR f s e t env) op env pre.length rest s2 e2=some (us,s3,e3)∧headR f s3 e3 (.node op m (done++us))=some (v,s',e'))
       ?_ n ks.length _ _ (by omega) ⟨[],ks,[],s,0,vs,s1,e1,rfl,rfl,rfl,rfl,.inl ⟨rfl,rfl⟩,hkg,hev⟩
      rintro k V H rec ⟨pre,rest,done,s2,e2,us,s3,e3,hk,hl,hdl,rfl,hH,hkids,hhead⟩ hrec;have hkl:ks.length=pre.length+rest.length:=by rw [hk];simp
      have zenc:∀l:List RV,(RV.node op m l).enc=.fp [.int .i64 op,.int .i64 m,.sl (l.map RV.enc),.sl [],.int .i64 0,.int .i64 0,.sl []] 0:=fun l=>rfl2 l;cases rest with
      | nil =>
       simp only [kidsG,Option.some.injEq,Prod.mk.injEq] at hkids;obtain ⟨rfl,rfl,rfl⟩:=hkids;rw [List.append_nil] at hhead;have hc:=hh s2 e2 _ v s' e' nd hhead n (by omega);rw [zenc] at hc;have hpre:ks=pre:=by simpa using hk
       subst hpre;rcases hH with ⟨rfl,rfl⟩ | ⟨r,hr,hne,rfl⟩
       ·have hd:done=[]:=List.length_eq_zero_iff.1 hdl;subst hd;have hcall:=fun k=>iso_m2p (k:=k) (own:=[(51380224,.row [iv op,iv m,.fv (.sl (([]:List Tm).map Tm.enc))] false),(51387397,.row [iv op,iv m,.nils,.nils,iv 0,iv 0,.nils] false)])
         (cells:=[iv op,iv m,.nils,.nils,iv 0,iv 0,.nils]) (ro:=false) (s:=51387397) hc (onex3 ..) (by simp [lookupOwn]) rfl (by simp)
        simp only [↓UU15,↓XX,XY,↓reduceIte,Nat.reduceBEq,Nat.reduceAdd,Int.cast_ofNat_Int,Int.reduceEq,Int.reduceLT,Int.reduceLE,Int.lt_irrefl,↓hcall];exact ansx_fv _ _ _
       ·have hcall:=fun k=>iso_m2p (k:=k) (own:=[(51380224,.row [iv op,iv m,.fv (.sl (ks.map Tm.enc))] false),(51387397,.row [iv op,iv m,.app (.own r) (done.map RV.enc),.nils,iv 0,iv 0,.nils] false),(r,.tok done.length 1)])
         (cells:=[iv op,iv m,.app (.own r) (done.map RV.enc),.nils,iv 0,iv 0,.nils]) (ro:=false) (s:=51387397) hc (onex3 ..) (by simp [lookupOwn]) rfl (by simp)
        simp only [↓UU15,↓XX,XY,↓reduceIte,Nat.reduceBEq,Nat.reduceAdd,Int.cast_ofNat_Int,Int.reduceEq,Int.reduceLT,Int.reduceLE,Int.lt_irrefl,↓hcall];exact ansx_fv _ _ _
      | cons t rest =>
       have hi:(pre.length:Int)<ks.length:=by rw [hkl];simp;omega
       have hg:=at_pre hk;have hb:=binders_ok (n:=n) (by omega) op pre.length;have hwi:w64 ((pre.length:Int)+1)=((pre++[t]).length:Int):=(w64_id (by omega) (by omega)).trans (by simp);have hbi:(0<(bindN op pre.length:Int)) ↔ 0<bindN op pre.length:=by omega
       have hd9:done.length+1≤1000000:=by omega
       simp only [kidsG] at hkids;simp only [List.length_cons] at hl;by_cases hbp:0<bindN op pre.length
       ·rw [if_pos hbp] at hkids;cases hkk:kidsG (fun s e t=>evalR f s e t env) op env (pre.length+1) rest s2 e2 with
        | none=>rw [hkk] at hkids;cases hkids
        | some q =>
        obtain ⟨us',s4,e4⟩:=q;rw [hkk] at hkids;simp only [Option.map_some,Option.some.injEq,Prod.mk.injEq] at hkids;obtain ⟨rfl,rfl,rfl⟩:=hkids;have hbp':0<(bindN op pre.length:Int):=by omega
        have hce:(RV.clo env t).enc=.fp [.int .i64 0,.int .i64 0,.sl [],.sl (env.map RV.enc),.int .i64 t.op,.int .i64 t.n,.sl (t.kids.map Tm.enc)] 0:=by rw [renc_eq];rfl
        have hnext:∀tk,(tk=51392526∨tk=51393550)→AnsX (rec [.ptr (.ext 0) 0,.fv (.sl (env.map RV.enc)),.ptr (.own 51380224) 0,.ptr (.own 51387397) 0,iv (pre++[t]).length]
          (Heval op m ks (.app (.own tk) ((done++[RV.clo env t]).map RV.enc)) [(tk,.tok (done++[RV.clo env t]).length 1)] s2 nd e2)) v.enc [.row [iv s',iv nd,iv e'] false]:=fun tk htk =>
         hrec rest.length _ _ (by omega) ⟨pre++[t],rest,done++[.clo env t],s2,e2,us',s4,e4,by rw [hk];simp,rfl,by simp [hdl],rfl,.inr ⟨tk,htk,by simp,rfl⟩,by simpa using hkk,by simpa using hhead⟩
        obtain ⟨o,p,l⟩:=t;simp only [Tm.op,Tm.n,Tm.kids] at hce;have ha0:=fun {s own ext k}=>app0_v (RV.clo env (.mk o p l)) s own ext k;have ha1:=fun {r s own ext k}=>app1_v hd9 (RV.clo env (.mk o p l)) r s own ext k;rw [hce] at ha0 ha1;have hbs:=fun (tl:List (Nat×Blk)) (K:IV) (own:List (Nat×Blk)) (hown:own=(51380224,.row [iv op,iv m,.fv (.sl (ks.map Tm.enc))] false)::(51387397,.row [iv op,iv m,K,.nils,iv 0,iv 0,.nils] false)::tl) (hl:lookupOwn 51392524 own=some (.row [iv 0,iv 0,.nils,.fv (.sl (env.map RV.enc)),iv o,iv p,.fv (.sl (l.map Tm.enc))] false)) (own':List (Nat×Blk)) (ho) s ext (k:IV→Hp→List Ref→List Ref→Option (IV×Hp)) =>
         bs1_q (E:=EE) (own:=own) (own':=own') tVs tVp rfl ⟨_,rfl⟩ hl (fc:=[.int .i64 0,.int .i64 0,.sl [],.sl (env.map RV.enc),.int .i64 o,.int .i64 p,.sl (l.map Tm.enc)]) rfl (by simp) ho s ext k
        rcases hH with ⟨hp0,rfl⟩ | ⟨r,hr,hne,rfl⟩
        ·have hd0:done=[]:=List.length_eq_zero_iff.1 (by rw [hdl,hp0];rfl);subst hd0;have h9:=hnext _ (.inl rfl);simp only [List.nil_append,List.map_cons,List.map_nil,List.length_cons,List.length_nil] at h9;rw [hce] at h9;have hb0:=fun s ext k=>hbs [(51392524,.row [iv 0,iv 0,.nils,.fv (.sl (env.map RV.enc)),iv o,iv p,.fv (.sl (l.map Tm.enc))] false)] .nils _ rfl (by simp [lookupOwn])
          [(51380224,.row [iv op,iv m,.fv (.sl (ks.map Tm.enc))] false),(51387397,.row [iv op,iv m,.nils,.nils,iv 0,iv 0,.nils] false),(51392524,.row [iv 0,iv 0,.nils,.fv (.sl (env.map RV.enc)),iv o,iv p,.fv (.sl (l.map Tm.enc))] true)] (by simp [putOwn]) s ext k
         simp only [↓UU15,↓XX,XY,↓reduceIte,Nat.reduceBEq,Nat.reduceAdd,Int.cast_ofNat_Int,Int.reduceEq,Int.reduceLT,Int.reduceLE,hi,↓ix_f (map_get hg) (agg3l _ _ _),↓agg3,↓iso_2 hb,hbp',hwi,↓hb0,↓ha0,↓drop_e,XD,heldB,flatD,XE];exact h9
        ·have h9:=hnext r hr;rw [show (done++[RV.clo env (Tm.mk o p l)]).length=done.length+1 by simp] at h9
         simp only [List.map_append,List.map_cons,List.map_nil] at h9;rw [hce] at h9;simp only [List.map_append,List.map_cons,List.map_nil] at ha1;rw [hce] at ha1;have hb0:=fun s ext k=>hbs [(r,.tok done.length 1),(51392524,.row [iv 0,iv 0,.nils,.fv (.sl (env.map RV.enc)),iv o,iv p,.fv (.sl (l.map Tm.enc))] false)] (.app (.own r) (done.map RV.enc)) _ rfl (by rcases hr with rfl | rfl<;>simp [lookupOwn])
          [(51380224,.row [iv op,iv m,.fv (.sl (ks.map Tm.enc))] false),(51387397,.row [iv op,iv m,.app (.own r) (done.map RV.enc),.nils,iv 0,iv 0,.nils] false),(r,.tok done.length 1),(51392524,.row [iv 0,iv 0,.nils,.fv (.sl (env.map RV.enc)),iv o,iv p,.fv (.sl (l.map Tm.enc))] true)]
          (by rcases hr with rfl | rfl<;>simp [putOwn]) s ext k
         rcases hr with rfl | rfl
         ·simp only [↓UU15,↓XX,XY,↓reduceIte,Nat.reduceBEq,Nat.reduceAdd,Int.cast_ofNat_Int,Int.reduceEq,Int.reduceLT,Int.reduceLE,hi,↓ix_f (map_get hg) (agg3l _ _ _),↓agg3,↓iso_2 hb,hbp',hwi,↓hb0,↓ha1,↓tok_k,↓drop_e,XD,heldB,flatD,XE];exact h9
         ·simp only [↓UU15,↓XX,XY,↓reduceIte,Nat.reduceBEq,Nat.reduceAdd,Int.cast_ofNat_Int,Int.reduceEq,Int.reduceLT,Int.reduceLE,hi,↓ix_f (map_get hg) (agg3l _ _ _),↓agg3,↓iso_2 hb,hbp',hwi,↓hb0,↓ha1,↓tok_k,↓drop_e,XD,heldB,flatD,XE];exact h9
       ·rw [if_neg hbp] at hkids;have hbp':¬ 0<(bindN op pre.length:Int):=by omega
        cases hev1:evalR f s2 e2 t env with
        | none=>rw [hev1] at hkids;cases hkids
        | some q =>
        obtain ⟨v1,s4,e4⟩:=q;rw [hev1] at hkids;simp only at hkids;cases hkk:kidsG (fun s e t=>evalR f s e t env) op env (pre.length+1) rest s4 e4 with
        | none=>rw [hkk] at hkids;cases hkids
        | some q =>
        obtain ⟨us',s5,e5⟩:=q;rw [hkk] at hkids;simp only [Option.map_some,Option.some.injEq,Prod.mk.injEq] at hkids;obtain ⟨rfl,rfl,rfl⟩:=hkids;have hc:=he s2 e2 t env v1 s4 e4 nd hev1 n (by omega);have hnext:∀tk,(tk=51392526∨tk=51393550)→AnsX (rec [.ptr (.ext 0) 0,.fv (.sl (env.map RV.enc)),.ptr (.own 51380224) 0,.ptr (.own 51387397) 0,iv (pre++[t]).length]
          (Heval op m ks (.app (.own tk) ((done++[v1]).map RV.enc)) [(tk,.tok (done++[v1]).length 1)] s4 nd e4)) v.enc [.row [iv s',iv nd,iv e'] false]:=fun tk htk =>
         hrec rest.length _ _ (by omega) ⟨pre++[t],rest,done++[v1],s4,e4,us',s5,e5,by rw [hk];simp,rfl,by simp [hdl],rfl,.inr ⟨tk,htk,by simp,rfl⟩,by simpa using hkk,by simpa using hhead⟩
        obtain ⟨o,p,l⟩:=t;rw [enc_mk] at hc;rcases hH with ⟨hp0,rfl⟩ | ⟨r,hr,hne,rfl⟩
        ·have hd0:done=[]:=List.length_eq_zero_iff.1 (by rw [hdl,hp0];rfl);subst hd0;have h9:=hnext _ (.inr rfl);simp only [List.nil_append,List.map_cons,List.map_nil,List.length_cons,List.length_nil] at h9;simp only [↓UU15,↓XX,XY,↓reduceIte,Nat.reduceBEq,Nat.reduceAdd,Int.cast_ofNat_Int,Int.reduceEq,Int.reduceLT,Int.reduceLE,hi,↓ix_f (map_get hg) (agg3l _ _ _),↓agg3,↓iso_2 hb,hbp',hwi,↓iso_m3 hc (onex3 _ _ _ _ _ _),↓bs1_v,↓app0_v,↓drop_e,XD,heldB,flatD,XE];exact h9
        ·have h9:=hnext r hr;rw [show (done++[v1]).length=done.length+1 by simp] at h9
         rcases hr with rfl | rfl
         ·simp only [↓UU15,↓XX,XY,↓reduceIte,Nat.reduceBEq,Nat.reduceAdd,Int.cast_ofNat_Int,Int.reduceEq,Int.reduceLT,Int.reduceLE,hi,↓ix_f (map_get hg) (agg3l _ _ _),↓agg3,↓iso_2 hb,hbp',hwi,↓iso_m3 hc (onex3 _ _ _ _ _ _),↓bs1_v,↓app1_v hd9,↓tok_k,↓drop_e,XD,heldB,flatD,XE];exact h9
         ·simp only [↓UU15,↓XX,XY,↓reduceIte,Nat.reduceBEq,Nat.reduceAdd,Int.cast_ofNat_Int,Int.reduceEq,Int.reduceLT,Int.reduceLE,hi,↓ix_f (map_get hg) (agg3l _ _ _),↓agg3,↓iso_2 hb,hbp',hwi,↓iso_m3 hc (onex3 _ _ _ _ _ _),↓bs1_v,↓app1_v hd9,↓tok_k,↓drop_e,XD,heldB,flatD,XE];exact h9
def RV.cl (v:RV):List FV:=[.int .i64 v.op,.int .i64 v.n,.sl (v.k.map RV.enc),.sl (v.env.map RV.enc),.int .i64 v.b.op,.int .i64 v.b.n,.sl (v.b.kids.map Tm.enc)]
section
variable {β:Type} (v:RV)
theorem nil_v (k:IV→Option β):nilS (.fv v.enc) k=k (.fv v.enc):=by rw [renc_eq];rfl
theorem fa_v (o:Nat) (k:IV→Option β):faddrS o (.fv v.enc) k=k (.fv (.fp v.cl o)):=by rw [renc_eq,fa_f];rfl
theorem nc0 (k:FV→Option β):nthK v.cl 0 k=k (.int .i64 v.op):=rfl
theorem nc1 (k:FV→Option β):nthK v.cl 1 k=k (.int .i64 v.n):=rfl
theorem nc2 (k:FV→Option β):nthK v.cl 2 k=k (.sl (v.k.map RV.enc)):=rfl
theorem nc3 (k:FV→Option β):nthK v.cl 3 k=k (.sl (v.env.map RV.enc)):=rfl
theorem dc4 (k:List FV→Option β):drpK v.cl 4 k=k [.int .i64 v.b.op,.int .i64 v.b.n,.sl (v.b.kids.map Tm.enc)]:=rfl
end
theorem ixv0 {β:Type} {l:List RV} {v:RV} (h:l[0]?=some v) (k:IV→Option β):ixS 1 (.fv (.sl (l.map RV.enc))) (iv 0) k=k (.fv (.fp [v.enc] 0)):=ix_v (i:=0) h k
theorem ixv1 {β:Type} {l:List RV} {v:RV} (h:l[1]?=some v) (k:IV→Option β):ixS 1 (.fv (.sl (l.map RV.enc))) (iv 1) k=k (.fv (.fp [v.enc] 0)):=ix_v (i:=1) h k
theorem ixv2 {β:Type} {l:List RV} {v:RV} (h:l[2]?=some v) (k:IV→Option β):ixS 1 (.fv (.sl (l.map RV.enc))) (iv 2) k=k (.fv (.fp [v.enc] 0)):=ix_v (i:=2) h k
theorem ixv3 {β:Type} {l:List RV} {v:RV} (h:l[3]?=some v) (k:IV→Option β):ixS 1 (.fv (.sl (l.map RV.enc))) (iv 3) k=k (.fv (.fp [v.enc] 0)):=ix_v (i:=3) h k
def XV:=And.intro @nil_v<|And.intro @fa_v<|And.intro @nc0<|And.intro @nc1<|And.intro @nc2<|And.intro @nc3 @dc4
set_option maxHeartbeats 1000000 in
set_option maxRecDepth 20000 in
theorem head_step {f:Nat} (he:EvalOk f) (hh:HeadOk f):HeadOk (f+1):=by
 intro s e v w s' e' nd hev n hn;obtain ⟨n,rfl⟩:∃k,n=k+1:=⟨n - 1,by omega⟩;rw [c70];rw [headR] at hev;by_cases h0:e≠0
 ·rw [if_pos h0] at hev;simp only [Option.some.injEq,Prod.mk.injEq] at hev;obtain ⟨rfl,rfl,rfl⟩:=hev;simp only [↓UU14,↓XX,XY,↓reduceIte,Nat.reduceBEq,Nat.reduceAdd,Int.cast_ofNat_Int,Int.reduceEq,Int.reduceLT,Int.reduceLE,h0];exact ansx_fv _ _ _
 ·have h0':e=0:=by omega
  subst h0';rw [if_neg h0] at hev;by_cases hs:s<0∨1000000<s
  ·rw [if_pos hs] at hev;cases hev
  ·rw [if_neg hs] at hev;have hst:=mstep_ok (n:=n) (by omega) s nd (by omega) (by omega);have back:∀{x:RV} {a b:Int},some (x,a,b)=some (w,s',e')→x=w∧a=s'∧b=e':=by
    intro x a b h;simp only [Option.some.injEq,Prod.mk.injEq] at h;exact h
   by_cases h5:v.op=5
   ·rw [if_pos h5] at hev;cases hk0:v.k[0]? with
    | none=>rw [hk0] at hev;cases hev
    | some k0 =>
     rw [hk0] at hev;simp only at hev;by_cases h4:k0.op=4
     ·rw [if_pos h4] at hev;by_cases hq:s+1≤1000
      ·rw [if_pos hq] at hev;simp only [hq,decide_true,if_true] at hst;cases hc:k0.k[1]? with
       | none=>rw [hc] at hev;cases hev
       | some c =>
        cases hx:v.k[1]? with
        | none=>rw [hc,hx] at hev;cases hev
        | some x =>
         rw [hc,hx] at hev;simp only at hev;by_cases hl:900000<c.env.length
         ·rw [if_pos hl] at hev;cases hev
         ·rw [if_neg hl] at hev;have hcall:=he (s+1) 0 c.b (c.env++[x]) w s' e' nd hev n (by omega);rw [tm_eta] at hcall;have hp:=plus_ok (n:=n) (by omega) c.env [x] (by simp) (by simp;omega);simp only [List.map_cons,List.map_nil] at hp;simp only [↓UU14,↓XX,XY,↓reduceIte,Nat.reduceBEq,Nat.reduceAdd,Int.cast_ofNat_Int,Int.reduceEq,Int.reduceLT,Int.reduceLE,↓XV,h5,↓ixv0 hk0,h4,↓iso_m1 hst (onex3 _ _ _ _ _ _),↓ixv1 hc,↓ixv1 hx,↓bs1_v,↓iso_2 hp,↓iso_m3 hcall (onex3 _ _ _ _ _ _)];exact ansx_fv _ _ _
      ·rw [if_neg hq] at hev;obtain ⟨rfl,rfl,rfl⟩:=back hev;simp only [hq,decide_false,if_false] at hst;simp only [↓UU14,↓XX,XY,↓reduceIte,Nat.reduceBEq,Nat.reduceAdd,Int.cast_ofNat_Int,Int.reduceEq,Int.reduceLT,Int.reduceLE,↓XV,h5,↓ixv0 hk0,h4,↓iso_m1 hst (onex3 _ _ _ _ _ _)];exact ansx_fv _ _ _
     ·rw [if_neg h4] at hev;obtain ⟨rfl,rfl,rfl⟩:=back hev;simp only [↓UU14,↓XX,XY,↓reduceIte,Nat.reduceBEq,Nat.reduceAdd,Int.cast_ofNat_Int,Int.reduceEq,Int.reduceLT,Int.reduceLE,↓XV,h5,↓ixv0 hk0,h4];exact ansx_fv _ _ _
   ·rw [if_neg h5] at hev;by_cases h89:v.op=8∨v.op=9
    ·rw [if_pos h89] at hev;cases hk0:v.k[0]? with
     | none=>rw [hk0] at hev;cases hev
     | some k0 =>
      rw [hk0] at hev;simp only at hev;by_cases h7:k0.op=7
      ·rw [if_pos h7] at hev;by_cases hq:s+1≤1000
       ·rw [if_pos hq] at hev;simp only [hq,decide_true,if_true] at hst;cases hx:k0.k[(1+v.op - 8).toNat]? with
        | none=>rw [hx] at hev;cases hev
        | some x =>
         rw [hx] at hev;obtain ⟨rfl,rfl,rfl⟩:=back hev;rcases h89 with h8 | h9
         ·rw [h8] at hx;have hw1:w64 (1+8)=9:=by decide
          have hw2:w64 (9 - 8)=1:=by decide
          simp only [↓UU14,↓XX,XY,↓reduceIte,Nat.reduceBEq,Nat.reduceAdd,Int.cast_ofNat_Int,Int.reduceEq,Int.reduceLT,Int.reduceLE,↓XV,h8,↓ixv0 hk0,h7,↓iso_m1 hst (onex3 _ _ _ _ _ _),hw1,hw2,↓ixv1 (l:=k0.k) (v:=x) hx];exact ansx_fv _ _ _
         ·rw [h9] at hx;have hw1:w64 (1+9)=10:=by decide
          have hw2:w64 (10 - 8)=2:=by decide
          simp only [↓UU14,↓XX,XY,↓reduceIte,Nat.reduceBEq,Nat.reduceAdd,Int.cast_ofNat_Int,Int.reduceEq,Int.reduceLT,Int.reduceLE,↓XV,h9,↓ixv0 hk0,h7,↓iso_m1 hst (onex3 _ _ _ _ _ _),hw1,hw2,↓ixv2 (l:=k0.k) (v:=x) hx];exact ansx_fv _ _ _
       ·rw [if_neg hq] at hev;obtain ⟨rfl,rfl,rfl⟩:=back hev;simp only [hq,decide_false,if_false] at hst;rcases h89 with h8 | h9
        ·simp only [↓UU14,↓XX,XY,↓reduceIte,Nat.reduceBEq,Nat.reduceAdd,Int.cast_ofNat_Int,Int.reduceEq,Int.reduceLT,Int.reduceLE,↓XV,h8,↓ixv0 hk0,h7,↓iso_m1 hst (onex3 _ _ _ _ _ _)];exact ansx_fv _ _ _
        ·simp only [↓UU14,↓XX,XY,↓reduceIte,Nat.reduceBEq,Nat.reduceAdd,Int.cast_ofNat_Int,Int.reduceEq,Int.reduceLT,Int.reduceLE,↓XV,h9,↓ixv0 hk0,h7,↓iso_m1 hst (onex3 _ _ _ _ _ _)];exact ansx_fv _ _ _
      ·rw [if_neg h7] at hev;obtain ⟨rfl,rfl,rfl⟩:=back hev;rcases h89 with h8 | h9
       ·simp only [↓UU14,↓XX,XY,↓reduceIte,Nat.reduceBEq,Nat.reduceAdd,Int.cast_ofNat_Int,Int.reduceEq,Int.reduceLT,Int.reduceLE,↓XV,h8,↓ixv0 hk0,h7];exact ansx_fv _ _ _
       ·simp only [↓UU14,↓XX,XY,↓reduceIte,Nat.reduceBEq,Nat.reduceAdd,Int.cast_ofNat_Int,Int.reduceEq,Int.reduceLT,Int.reduceLE,↓XV,h9,↓ixv0 hk0,h7];exact ansx_fv _ _ _
    ·rw [if_neg h89] at hev;have h8:¬ v.op=8:=fun e=>h89 (.inl e);have h9:¬ v.op=9:=fun e=>h89 (.inr e);by_cases h30:v.op=30
     ·rw [if_pos h30] at hev;cases hk0:v.k[0]? with
      | none=>rw [hk0] at hev;cases hev
      | some k0 =>
       rw [hk0] at hev;simp only at hev;by_cases h7:k0.op=19
       ·rw [if_pos h7] at hev;by_cases hq:s+1≤1000
        ·rw [if_pos hq] at hev;simp only [hq,decide_true,if_true] at hst;cases hx:k0.k[0]? with
         | none=>rw [hx] at hev;cases hev
         | some x =>
          rw [hx] at hev;obtain ⟨rfl,rfl,rfl⟩:=back hev;simp only [↓UU14,↓XX,XY,↓reduceIte,Nat.reduceBEq,Nat.reduceAdd,Int.cast_ofNat_Int,Int.reduceEq,Int.reduceLT,Int.reduceLE,↓XV,h30,↓ixv0 hk0,h7,↓iso_m1 hst (onex3 _ _ _ _ _ _),↓ixv0 hx];exact ansx_fv _ _ _
        ·rw [if_neg hq] at hev;obtain ⟨rfl,rfl,rfl⟩:=back hev;simp only [hq,decide_false,if_false] at hst;simp only [↓UU14,↓XX,XY,↓reduceIte,Nat.reduceBEq,Nat.reduceAdd,Int.cast_ofNat_Int,Int.reduceEq,Int.reduceLT,Int.reduceLE,↓XV,h30,↓ixv0 hk0,h7,↓iso_m1 hst (onex3 _ _ _ _ _ _)];exact ansx_fv _ _ _
       ·rw [if_neg h7] at hev;obtain ⟨rfl,rfl,rfl⟩:=back hev;simp only [↓UU14,↓XX,XY,↓reduceIte,Nat.reduceBEq,Nat.reduceAdd,Int.cast_ofNat_Int,Int.reduceEq,Int.reduceLT,Int.reduceLE,↓XV,h30,↓ixv0 hk0,h7];exact ansx_fv _ _ _
     ·rw [if_neg h30] at hev;by_cases h19:v.op=19
      ·rw [if_pos h19] at hev;cases hk0:v.k[0]? with
       | none=>rw [hk0] at hev;cases hev
       | some k0 =>
        rw [hk0] at hev;simp only at hev;by_cases h7:k0.op=30
        ·rw [if_pos h7] at hev;by_cases hq:s+1≤1000
         ·rw [if_pos hq] at hev;simp only [hq,decide_true,if_true] at hst;cases hx:k0.k[0]? with
          | none=>rw [hx] at hev;cases hev
          | some x =>
           rw [hx] at hev;obtain ⟨rfl,rfl,rfl⟩:=back hev;simp only [↓UU14,↓XX,XY,↓reduceIte,Nat.reduceBEq,Nat.reduceAdd,Int.cast_ofNat_Int,Int.reduceEq,Int.reduceLT,Int.reduceLE,↓XV,h19,↓ixv0 hk0,h7,↓iso_m1 hst (onex3 _ _ _ _ _ _),↓ixv0 hx];exact ansx_fv _ _ _
         ·rw [if_neg hq] at hev;obtain ⟨rfl,rfl,rfl⟩:=back hev;simp only [hq,decide_false,if_false] at hst;simp only [↓UU14,↓XX,XY,↓reduceIte,Nat.reduceBEq,Nat.reduceAdd,Int.cast_ofNat_Int,Int.reduceEq,Int.reduceLT,Int.reduceLE,↓XV,h19,↓ixv0 hk0,h7,↓iso_m1 hst (onex3 _ _ _ _ _ _)];exact ansx_fv _ _ _
        ·rw [if_neg h7] at hev;obtain ⟨rfl,rfl,rfl⟩:=back hev;simp only [↓UU14,↓XX,XY,↓reduceIte,Nat.reduceBEq,Nat.reduceAdd,Int.cast_ofNat_Int,Int.reduceEq,Int.reduceLT,Int.reduceLE,↓XV,h19,↓ixv0 hk0,h7];exact ansx_fv _ _ _
      ·rw [if_neg h19] at hev;by_cases h13:v.op=13
       ·rw [if_pos h13] at hev;cases hk0:v.k[0]? with
        | none=>rw [hk0] at hev;cases hev
        | some k0 =>
        cases hk1:v.k[1]? with
        | none=>rw [hk0,hk1] at hev;cases hev
        | some k1 =>
        cases hk2:v.k[2]? with
        | none=>rw [hk0,hk1,hk2] at hev;cases hev
        | some k2 =>
        cases hk3:v.k[3]? with
        | none=>rw [hk0,hk1,hk2,hk3] at hev;cases hev
        | some k3 =>
        rw [hk0,hk1,hk2,hk3] at hev;simp only at hev;by_cases h11:k3.op=11
        ·rw [if_pos h11] at hev;by_cases hq:s+1≤1000
         ·rw [if_pos hq] at hev;obtain ⟨rfl,rfl,rfl⟩:=back hev;simp only [hq,decide_true,if_true] at hst;simp only [↓UU14,↓XX,XY,↓reduceIte,Nat.reduceBEq,Nat.reduceAdd,Int.cast_ofNat_Int,Int.reduceEq,Int.reduceLT,Int.reduceLE,↓XV,h13,↓ixv3 hk3,h11,↓iso_m1 hst (onex3 _ _ _ _ _ _),↓ixv1 hk1];exact ansx_fv _ _ _
         ·rw [if_neg hq] at hev;obtain ⟨rfl,rfl,rfl⟩:=back hev;simp only [hq,decide_false,if_false] at hst;simp only [↓UU14,↓XX,XY,↓reduceIte,Nat.reduceBEq,Nat.reduceAdd,Int.cast_ofNat_Int,Int.reduceEq,Int.reduceLT,Int.reduceLE,↓XV,h13,↓ixv3 hk3,h11,↓iso_m1 hst (onex3 _ _ _ _ _ _)];exact ansx_fv _ _ _
        ·rw [if_neg h11] at hev;by_cases h12:k3.op=12
         ·rw [if_pos h12] at hev;by_cases hq:s+1≤1000
          ·rw [if_pos hq] at hev;simp only [hq,decide_true,if_true] at hst;cases hx:k3.k[0]? with
           | none=>rw [hx] at hev;cases hev
           | some x =>
           rw [hx] at hev;simp only at hev;cases hd:headR f (s+1) 0 (.node 13 0 [k0,k1,k2,x]) with
           | none=>rw [hd] at hev;cases hev
           | some q =>
           obtain ⟨h,s2,e2⟩:=q;rw [hd] at hev;simp only at hev;by_cases hl:900000<k2.env.length
           ·rw [if_pos hl] at hev;cases hev
           ·rw [if_neg hl] at hev;have hcall:=he s2 e2 k2.b (k2.env++[x,h]) w s' e' nd hev n (by omega);rw [tm_eta] at hcall;have hcall2:=hh (s+1) 0 _ h s2 e2 nd hd n (by omega);rw [rfl2] at hcall2;simp only [List.map_cons,List.map_nil] at hcall2;have hp:=plus_ok (n:=n) (by omega) k2.env [x,h] (by simp) (by simp;omega);simp only [List.map_cons,List.map_nil] at hp;have hcall3:=fun k=>iso_m2p (k:=k) (own:=[(73420822,.row [iv 13,iv 0,.clip [k0.enc,k1.enc,k2.enc,x.enc],.nils,iv 0,iv 0,.nils] false)])
             (cells:=[iv 13,iv 0,.clip [k0.enc,k1.enc,k2.enc,x.enc],.nils,iv 0,iv 0,.nils]) (ro:=false) (s:=73420822) hcall2 (onex3 ..) (by simp [lookupOwn]) rfl (by simp)
            simp only [↓UU14,↓XX,XY,↓reduceIte,Nat.reduceBEq,Nat.reduceAdd,Int.cast_ofNat_Int,Int.reduceEq,Int.reduceLT,Int.reduceLE,↓XV,h13,↓ixv3 hk3,h11,h12,↓iso_m1 hst (onex3 _ _ _ _ _ _),↓ixv0 hx,↓ixv0 hk0,↓ixv1 hk1,↓ixv2 hk2,↓bs4_v,↓hcall3,↓bs2_v,↓iso_2 hp,↓iso_m3 hcall (onex3 _ _ _ _ _ _)];exact ansx_fv _ _ _
          ·rw [if_neg hq] at hev;obtain ⟨rfl,rfl,rfl⟩:=back hev;simp only [hq,decide_false,if_false] at hst;simp only [↓UU14,↓XX,XY,↓reduceIte,Nat.reduceBEq,Nat.reduceAdd,Int.cast_ofNat_Int,Int.reduceEq,Int.reduceLT,Int.reduceLE,↓XV,h13,↓ixv3 hk3,h11,h12,↓iso_m1 hst (onex3 _ _ _ _ _ _)];exact ansx_fv _ _ _
         ·rw [if_neg h12] at hev;obtain ⟨rfl,rfl,rfl⟩:=back hev;simp only [↓UU14,↓XX,XY,↓reduceIte,Nat.reduceBEq,Nat.reduceAdd,Int.cast_ofNat_Int,Int.reduceEq,Int.reduceLT,Int.reduceLE,↓XV,h13,↓ixv3 hk3,h11,h12];exact ansx_fv _ _ _
       ·rw [if_neg h13] at hev;obtain ⟨rfl,rfl,rfl⟩:=back hev;simp only [↓UU14,↓XX,XY,↓reduceIte,Nat.reduceBEq,Nat.reduceAdd,Int.cast_ofNat_Int,Int.reduceEq,Int.reduceLT,Int.reduceLE,↓XV,h5,h8,h9,h30,h19,h13];exact ansx_fv _ _ _
theorem mach_ok:∀f,EvalOk f∧HeadOk f:=by
 intro f
 induction f with
 | zero=>exact ⟨(by intro s e t env v s' e' nd h;rw [evalR] at h;cases h),(by intro s e v w s' e' nd h;rw [headR] at h;cases h)⟩
 | succ f ih=>exact ⟨eval_step ih.1 ih.2,head_step ih.1 ih.2⟩
end Idl
end Go.Proofs.Ytbkdidonegggdaa
namespace Go.Proofs.Ytbkdidonegggdaa
namespace Idl
def upV (u:Int) (b:Nat):List RV:=(List.range b).map fun (j:Nat)=>RV.var (u+(j:Int))
theorem upV_succ (u:Int) (b:Nat):upV u (b+1)=upV u b++[RV.var (u+b)]:=by simp [upV,List.range_succ]
theorem upV_len (u:Int) (b:Nat):(upV u b).length=b:=by simp [upV]
def readK (rd:Int→Int→Int→RV→Int→Option (Tm×Int×Int×Int)) (f:Nat) (op u:Int):Nat→List RV→Int→Int→Int→Option (List Tm×Int×Int×Int)
 | _,[],s,nd,e=>some ([],s,nd,e)
 | i,k::l,s,nd,e =>
  match (if 0<bindN op i then (if 900000<k.env.length then none else evalR f s e k.b (k.env++upV u (bindN op i))) else some (k,s,e)) with
  | none=>none
  | some (k',s1,e1)=>match rd s1 nd e1 k' (u+bindN op i) with
   | none=>none
   | some (t,s2,nd2,e2)=>(readK rd f op u (i+1) l s2 nd2 e2).map fun (ts,s,nd,e)=>(t::ts,s,nd,e)
def readR:Nat→Int→Int→Int→RV→Int→Int→Option (Tm×Int×Int×Int)
 | 0,_,_,_,_,_,_=>none
 | f+1,s,nd,e,v,u,d =>
  if nd<0∨1000000<nd∨u<0∨1000000<u∨d<0∨1000000<d∨v.n < -2305843009213693952∨2305843009213693952<v.n∨f≤v.k.length∨900000<v.k.length∨f≤3 then none else
  if (if e=0∧(3000<nd+1∨120<d) then 5 else e)≠0 then some (.z,s,nd+1,(if e=0∧(3000<nd+1∨120<d) then 5 else e))
  else if v.op=1 then some (.mk 1 (u - 1 - v.n) [],s,nd+1,0)
  else (readK (fun s nd e k u=>readR f s nd e k u (d+1)) f v.op u 0 v.k s (nd+1) 0).map fun (ts,s,nd,e)=>(.mk v.op v.n ts,s,nd,e)
def ReadOk (f:Nat):Prop:=∀(s nd e:Int) (v:RV) (u d:Int) (t:Tm) (s' nd' e':Int),readR f s nd e v u d=some (t,s',nd',e')→∀n,f+1≤n →
 AnsX (SS dt n 48 [.ptr (.ext 0) 0,.fv v.enc,iv u,iv d] ⟨[],[.row [iv s,iv nd,iv e] false]⟩) t.enc [.row [iv s',iv nd',iv e'] false]
noncomputable abbrev Hread (op m:Int) (K:IV) (tok:List (Nat×Blk)) (s nd e:Int):Hp :=
 ⟨(50331648,.row [iv 0,iv 0,.nils] false)::(50339849,.row [iv op,iv m,K] false)::tok,[.row [iv s,iv nd,iv e] false]⟩
theorem fzs_agg {cells:List IV} {fc:List FV} (hz:frz1L cells=some fc) (hn:cells.length≤100) (s:Nat) (h:Hp) (k:IV→Hp→List Ref→List Ref→Option (IV×Hp)):fzS (pcBox true s (.agg cells)) s (.agg cells) h k=k (.fv (.fp fc 0)) h [] []:=by
 have:pcBox true s (.agg cells)=.ret { eff:={ val:=.fv (.fp fc 0),upd:=[] } }:=by
  simp only [pcBox,IV.alive,Bool.true_eq_false,if_false,if_true,IV.cells,fr1_l cells 4096 (by omega) hz,Rd.bind]
 unfold fzS;rw [this,as_nf1];exact gen_val _ s h k
theorem var_enc (n:Int):(RV.var n).enc=.fp [.int .i64 1,.int .i64 n,.sl [],.sl [],.int .i64 0,.int .i64 0,.sl []] 0:=by rw [RV.var,Tm.z,renc_mk];rfl
set_option maxRecDepth 20000 in
set_option maxHeartbeats 1000000 in
theorem read_step {f:Nat} (hr:ReadOk f):ReadOk (f+1):=by
 intro s nd e v u d t s' nd' e' hev n hn;obtain ⟨n,rfl⟩:∃k,n=k+1:=⟨n - 1,by omega⟩;rw [c48];rw [readR] at hev;by_cases hbad:nd<0∨1000000<nd∨u<0∨1000000<u∨d<0∨1000000<d∨v.n < -2305843009213693952∨2305843009213693952<v.n∨f≤v.k.length∨900000<v.k.length∨f≤3
 ·rw [if_pos hbad] at hev;cases hev
 ·rw [if_neg hbad] at hev;have wnd:w64 (nd+1)=nd+1:=by rw [w64_id]<;>omega
  have wd:w64 (d+1)=d+1:=by rw [w64_id]<;>omega
  have wu:w64 (u - 1)=u - 1:=by rw [w64_id]<;>omega
  have wv:w64 (u - 1 - v.n)=u - 1 - v.n:=by rw [w64_id]<;>omega
  by_cases he:e=0
  ·subst he;by_cases h3:3000<nd+1
   ·have e5:(if (0:Int)=0∧(3000<nd+1∨120<d) then (5:Int) else 0)=5:=if_pos ⟨rfl,.inl h3⟩;rw [e5,if_pos (by decide)] at hev;simp only [Option.some.injEq,Prod.mk.injEq] at hev;obtain ⟨rfl,rfl,rfl,rfl⟩:=hev;simp only [↓UU13,↓XX,XY,↓reduceIte,Nat.reduceBEq,Nat.reduceAdd,Int.cast_ofNat_Int,Int.reduceEq,Int.reduceLT,Int.reduceLE,wnd,h3];exact ansx_p rfl _ _
   ·by_cases h4:120<d
    ·have e5:(if (0:Int)=0∧(3000<nd+1∨120<d) then (5:Int) else 0)=5:=if_pos ⟨rfl,.inr h4⟩;rw [e5,if_pos (by decide)] at hev;simp only [Option.some.injEq,Prod.mk.injEq] at hev;obtain ⟨rfl,rfl,rfl,rfl⟩:=hev;simp only [↓UU13,↓XX,XY,↓reduceIte,Nat.reduceBEq,Nat.reduceAdd,Int.cast_ofNat_Int,Int.reduceEq,Int.reduceLT,Int.reduceLE,wnd,h3,h4];exact ansx_p rfl _ _
    ·have e5:(if (0:Int)=0∧(3000<nd+1∨120<d) then (5:Int) else 0)=0:=if_neg (by omega);rw [e5,if_neg (by decide)] at hev;by_cases h1:v.op=1
     ·rw [if_pos h1] at hev;simp only [Option.some.injEq,Prod.mk.injEq] at hev;obtain ⟨rfl,rfl,rfl,rfl⟩:=hev;have hv:=v_ok (n:=n) (by omega) (u - 1 - v.n);rw [enc_mk] at hv ⊢;simp only [↓UU13,↓XX,XY,↓reduceIte,Nat.reduceBEq,Nat.reduceAdd,Int.cast_ofNat_Int,Int.reduceEq,Int.reduceLT,Int.reduceLE,↓XV,wnd,h3,h4,h1,wu,wv,↓iso_1 hv];exact ansx_p rfl _ _
     ·rw [if_neg h1] at hev;cases hrk:readK (fun s nd e k u=>readR f s nd e k u (d+1)) f v.op u 0 v.k s (nd+1) 0 with
      | none=>rw [hrk] at hev;cases hev
      | some q =>
      obtain ⟨ts,s1,nd1,e1⟩:=q;rw [hrk] at hev;simp only [Option.map_some,Option.some.injEq,Prod.mk.injEq] at hev;obtain ⟨rfl,rfl,rfl,rfl⟩:=hev;simp only [↓UU13,↓XX,XY,↓reduceIte,Nat.reduceBEq,Nat.reduceAdd,Int.cast_ofNat_Int,Int.reduceEq,Int.reduceLT,Int.reduceLE,↓XV,wnd,h3,h4,h1,↓drop_e,XD,heldB,flatD,XE];refine loop_run (Q:=fun r=>AnsX r _ _) (fun k V H=>∃(pre rest:List RV) (done:List Tm) (s2 nd2 e2:Int) (us:List Tm),v.k=pre++rest∧rest.length=k∧done.length=pre.length∧V=[.ptr (.ext 0) 0,.fv v.enc,iv u,iv d,.ptr (.own 50331648) 0,.ptr (.own 50339849) 0,iv pre.length] ∧
       (
        (pre=[]∧H=Hread v.op v.n .nils [] s2 nd2 e2) ∨
        (pre≠[]∧H=Hread v.op v.n (.app (.own 50353163) (done.map Tm.enc)) [(50353163,.tok done.length 3)] s2 nd2 e2)) ∧
       readK (fun s nd e k u=>readR f s nd e k u (d+1)) f v.op u pre.length rest s2 nd2 e2=some (us,s1,nd1,e1)∧done++us=ts)
       ?_ n v.k.length _ _ (by omega) ⟨[],v.k,[],s,nd+1,0,ts,rfl,rfl,rfl,rfl,.inl ⟨rfl,rfl⟩,hrk,rfl⟩
      rintro k V H rec ⟨pre,rest,done,s2,nd2,e2,us,hk,hl,hdl,rfl,hH,hkids,hts⟩ hrec;have hkl:v.k.length=pre.length+rest.length:=by rw [hk];simp
      cases rest with
      | nil =>
       simp only [readK,Option.some.injEq,Prod.mk.injEq] at hkids;obtain ⟨rfl,rfl,rfl,rfl⟩:=hkids;rw [List.append_nil] at hts;subst hts;have hno:¬ ((pre.length:Int)<v.k.length):=by rw [hkl];simp
       rcases hH with ⟨hp0,rfl⟩ | ⟨hne,rfl⟩
       ·have hd0:done=[]:=List.length_eq_zero_iff.1 (by rw [hdl,hp0];rfl);subst hd0;simp only [S48_264,S48_265,S48_266,S48_267,S48_268,S48_269,S48_270,S48_271,S48_272,S48_273,S48_274,S48_275,S48_276,S48_277,S48_278,S48_279,S48_280,S48_281,S48_282,S48_283,S48_284,S48_285,S48_286,S48_287,S48_288,S48_289,S48_290,S48_291,S48_292,S48_293,S48_294,S48,↓XX,XY,↓reduceIte,Nat.reduceBEq,Nat.reduceAdd,Int.cast_ofNat_Int,Int.reduceEq,Int.reduceLT,Int.reduceLE,↓XV,hno,enc_mk];exact ansx_p rfl _ _
       ·simp only [S48_264,S48_265,S48_266,S48_267,S48_268,S48_269,S48_270,S48_271,S48_272,S48_273,S48_274,S48_275,S48_276,S48_277,S48_278,S48_279,S48_280,S48_281,S48_282,S48_283,S48_284,S48_285,S48_286,S48_287,S48_288,S48_289,S48_290,S48_291,S48_292,S48_293,S48_294,S48,↓XX,XY,↓reduceIte,Nat.reduceBEq,Nat.reduceAdd,Int.cast_ofNat_Int,Int.reduceEq,Int.reduceLT,Int.reduceLE,↓XV,hno,enc_mk];exact ansx_p rfl _ _
      | cons x rest =>
       have hi:(pre.length:Int)<v.k.length:=by rw [hkl];simp;omega
       have hg:=at_pre hk;have hb:=binders_ok (n:=n) (by omega) v.op pre.length;have hble:=bindN_le v.op pre.length;have hwi:w64 ((pre.length:Int)+1)=((pre++[x]).length:Int):=(w64_id (by omega) (by omega)).trans (by simp);have hwb:w64 (u+(bindN v.op pre.length:Int))=u+bindN v.op pre.length:=by rw [w64_id]<;>omega
       have hd9:done.length+1≤1000000:=by omega
       simp only [readK] at hkids;simp only [List.length_cons] at hl;have behind:∀(y:RV) (s3 e3:Int),(match readR f s3 nd2 e3 y (u+bindN v.op pre.length) (d+1) with
          | none=>none
          | some (t,s2,nd2,e2)=>(readK (fun s nd e k u=>readR f s nd e k u (d+1)) f v.op u (pre.length+1) rest s2 nd2 e2).map fun (ts,s,nd,e)=>(t::ts,s,nd,e))=some (us,s1,nd1,e1) →
         ∀K tk,((pre=[]∧K=.nils∧tk=[])∨(pre≠[]∧K=.app (.own 50353163) (done.map Tm.enc)∧tk=[(50353163,.tok done.length 3)])) →
         AnsX (S48_270 (.ptr (.own 50339849) 0) (Hread v.op v.n K tk s3 nd2 e3) (iv u) (iv (bindN v.op pre.length)) (iv d) (SS dt n) (.ptr (.ext 0) 0) (.fv y.enc) (iv pre.length) ⟨[],[.row [iv s,iv nd,iv 0] false]⟩ (.fv v.enc) (.ptr (.own 50331648) 0) rec)
          (Tm.mk v.op v.n ts).enc [.row [iv s1,iv nd1,iv e1] false]:=by
        intro y s3 e3 hy K tk hK;cases hrd:readR f s3 nd2 e3 y (u+bindN v.op pre.length) (d+1) with
        | none=>rw [hrd] at hy;cases hy
        | some q =>
        obtain ⟨t4,s4,nd4,e4⟩:=q;rw [hrd] at hy;simp only at hy;cases hkk:readK (fun s nd e k u=>readR f s nd e k u (d+1)) f v.op u (pre.length+1) rest s4 nd4 e4 with
        | none=>rw [hkk] at hy;cases hy
        | some q =>
        obtain ⟨us',s5,nd5,e5'⟩:=q;rw [hkk] at hy;simp only [Option.map_some,Option.some.injEq,Prod.mk.injEq] at hy;obtain ⟨rfl,rfl,rfl,rfl⟩:=hy;have hc:=hr s3 nd2 e3 y (u+bindN v.op pre.length) (d+1) t4 s4 nd4 e4 hrd n (by omega);have h9:AnsX (rec [.ptr (.ext 0) 0,.fv v.enc,iv u,iv d,.ptr (.own 50331648) 0,.ptr (.own 50339849) 0,iv (pre++[x]).length]
          (Hread v.op v.n (.app (.own 50353163) ((done++[t4]).map Tm.enc)) [(50353163,.tok (done.length+1) 3)] s4 nd4 e4)) (Tm.mk v.op v.n ts).enc [.row [iv s5,iv nd5,iv e5'] false] :=
         hrec rest.length _ _ (by omega) ⟨pre++[x],rest,done++[t4],s4,nd4,e4,us',by rw [hk];simp,rfl,by simp [hdl],rfl,.inr ⟨by simp,by simp⟩,by simpa using hkk,by rw [← hts];simp⟩
        rcases hK with ⟨hp0,rfl,rfl⟩ | ⟨hne,rfl,rfl⟩
        ·have hd0:done=[]:=List.length_eq_zero_iff.1 (by rw [hdl,hp0];rfl);subst hd0;simp only [List.nil_append,List.map_cons,List.map_nil,List.length_nil] at h9;simp only [S48_264,S48_265,S48_266,S48_267,S48_268,S48_269,S48_270,S48_271,S48_272,S48_273,S48_274,S48_275,S48_276,S48_277,S48_278,S48_279,S48_280,S48_281,S48_282,S48_283,S48_284,S48_285,S48_286,S48_287,S48_288,S48_289,S48_290,S48_291,S48_292,S48_293,S48_294,S48,↓XX,XY,↓reduceIte,Nat.reduceBEq,Nat.reduceAdd,Int.cast_ofNat_Int,Int.reduceEq,Int.reduceLT,Int.reduceLE,↓XV,hwb,wd,hwi,↓iso_m4 hc (onex3 _ _ _ _ _ _),↓bs1_tm,↓app0_tm,↓drop_e,XD,heldB,flatD,XE];exact h9
        ·simp only [S48_264,S48_265,S48_266,S48_267,S48_268,S48_269,S48_270,S48_271,S48_272,S48_273,S48_274,S48_275,S48_276,S48_277,S48_278,S48_279,S48_280,S48_281,S48_282,S48_283,S48_284,S48_285,S48_286,S48_287,S48_288,S48_289,S48_290,S48_291,S48_292,S48_293,S48_294,S48,↓XX,XY,↓reduceIte,Nat.reduceBEq,Nat.reduceAdd,Int.cast_ofNat_Int,Int.reduceEq,Int.reduceLT,Int.reduceLE,↓XV,hwb,wd,hwi,↓iso_m4 hc (onex3 _ _ _ _ _ _),↓bs1_tm,↓app1_tm hd9,↓tok_k,↓drop_e,XD,heldB,flatD,XE];exact h9
       have heads:∃K tk,((pre=[]∧K=.nils∧tk=[])∨(pre≠[]∧K=.app (.own 50353163) (done.map Tm.enc)∧tk=[(50353163,.tok done.length 3)]))∧H=Hread v.op v.n K tk s2 nd2 e2:=by
        rcases hH with ⟨a,b⟩ | ⟨a,b⟩
        ·exact ⟨_,_,.inl ⟨a,rfl,rfl⟩,b⟩
        ·exact ⟨_,_,.inr ⟨a,rfl,rfl⟩,b⟩
       obtain ⟨K,tk,hK,rfl⟩:=heads;by_cases hbp:0<bindN v.op pre.length
       ·rw [if_pos hbp] at hkids;by_cases hxe:900000<x.env.length
        ·rw [if_pos hxe] at hkids;cases hkids
        ·rw [if_neg hxe] at hkids;have hbp':0<(bindN v.op pre.length:Int):=by omega
         cases hev1:evalR f s2 e2 x.b (x.env++upV u (bindN v.op pre.length)) with
         | none=>rw [hev1] at hkids;cases hkids
         | some q =>
         obtain ⟨y,s3,e3⟩:=q;rw [hev1] at hkids;have hB:=behind y s3 e3 hkids K tk hK;have hc:=(mach_ok f).1 s2 e2 x.b _ y s3 e3 nd2 hev1 n (by omega);rw [tm_eta] at hc;have hdrop:∀(vals:List IV),vals.all flatV=true→∀k:Hp→Option (IV×Hp),dropS [] [50351109] vals (Hread v.op v.n K tk s2 nd2 e2) k=k (Hread v.op v.n K tk s2 nd2 e2):=by
          intro vals hv k;rcases hK with ⟨_,rfl,rfl⟩ | ⟨_,rfl,rfl⟩<;>simp only [↓XX,XY,↓reduceIte,Nat.reduceBEq,Nat.reduceAdd,Int.cast_ofNat_Int,Int.reduceEq,Int.reduceLT,Int.reduceLE,↓drop_e,XD,heldB,flatD,XE,hv]
         simp only [S48_264,S48_265,S48_266,S48_267,S48_268,S48_269,S48_271,S48_272,S48_273,S48_274,S48_275,S48_277,S48_278,S48_279,S48_280,S48_281,S48_282,S48_283,S48_284,S48_285,S48_286,S48_287,S48_288,S48_289,S48_290,S48_291,S48_292,S48_293,S48_294,S48,↓XX,XY,↓reduceIte,Nat.reduceBEq,Nat.reduceAdd,Int.cast_ofNat_Int,Int.reduceEq,Int.reduceLT,Int.reduceLE,↓XV,hi,↓ix_v hg,↓iso_2 hb,hbp',↓hdrop,↓drop_e,XD,heldB,flatD,XE];refine loop_run (Q:=fun r=>AnsX r _ _) (fun k V H=>∃j,j+k=bindN v.op pre.length∧V=[.ptr (.ext 0) 0,.fv v.enc,iv u,iv d,.ptr (.own 50331648) 0,.ptr (.own 50339849) 0,iv pre.length,iv (bindN v.op pre.length),.fv x.enc,.fv (.sl ((x.env++upV u j).map RV.enc)),iv j] ∧
          H=Hread v.op v.n K tk s2 nd2 e2) ?_ n (bindN v.op pre.length) _ _ (by omega) ?_
         rotate_left
         ·exact ⟨0,by omega,by simp [upV],rfl⟩
         rintro k2 V2 H2 rec2 ⟨j,hj,rfl,rfl⟩ hrec2;cases k2 with
         | zero =>
          have hjb:j=bindN v.op pre.length:=by omega
          subst hjb;simp only [S48_264,S48_265,S48_266,S48_267,S48_268,S48_269,S48_271,S48_272,S48_273,S48_274,S48_275,S48_276,S48_277,S48_278,S48_279,S48_280,S48_281,S48_282,S48_283,S48_284,S48_285,S48_286,S48_287,S48_288,S48_289,S48_290,S48_291,S48_292,S48_293,S48_294,S48,↓XX,XY,↓reduceIte,Nat.reduceBEq,Nat.reduceAdd,Int.cast_ofNat_Int,Int.reduceEq,Int.reduceLT,Int.reduceLE,↓XV,Int.lt_irrefl,↓iso_m3 hc (onex3 _ _ _ _ _ _)];exact hB
         | succ k2 =>
          have hjb:(j:Int)<bindN v.op pre.length:=by omega
          have hwj:w64 (u+(j:Int))=u+j:=by rw [w64_id]<;>omega
          have hwj1:w64 ((j:Int)+1)=((j+1:Nat):Int):=by rw [w64_id]<;>omega
          have hp:=plus_ok (n:=n) (by omega) (x.env++upV u j) [RV.var (u+j)] (by simp) (by simp [upV_len];omega);simp only [List.map_cons,List.map_nil,var_enc] at hp;rw [List.append_assoc,← upV_succ] at hp;have hbv:=fun s h k=>bs1_v (RV.var (u+j)) s h k;simp only [var_enc] at hbv;have hfz:=fun s h (k:IV→Hp→List Ref→List Ref→Option (IV×Hp))=>fzs_agg (cells:=[.fv (.int .i64 1),iv (u+j),.nils,.nils,.fv (.int .i64 0),.fv (.int .i64 0),.nils]) (fc:=[.int .i64 1,.int .i64 (u+j),.sl [],.sl [],.int .i64 0,.int .i64 0,.sl []]) rfl (by simp) s h k;have h9:=hrec2 k2 _ _ (by omega) ⟨j+1,by omega,rfl,rfl⟩;simp only [S48_264,S48_265,S48_266,S48_267,S48_268,S48_269,S48_271,S48_272,S48_273,S48_274,S48_275,S48_276,S48_277,S48_278,S48_279,S48_280,S48_281,S48_282,S48_283,S48_284,S48_285,S48_286,S48_287,S48_288,S48_289,S48_290,S48_291,S48_292,S48_293,S48_294,S48,↓XX,XY,↓reduceIte,Nat.reduceBEq,Nat.reduceAdd,Int.cast_ofNat_Int,Int.reduceEq,Int.reduceLT,Int.reduceLE,↓XV,hjb,hwj,hwj1,↓hfz,↓hbv,↓iso_2 hp,↓hdrop,↓drop_e,XD,heldB,flatD,XE];exact h9
       ·rw [if_neg hbp] at hkids;have hbp':¬ 0<(bindN v.op pre.length:Int):=by omega
        have hB:=behind x s2 e2 hkids K tk hK;simp only [S48_264,S48_265,S48_266,S48_267,S48_268,S48_269,S48_271,S48_272,S48_273,S48_274,S48_275,S48_277,S48_278,S48_279,S48_280,S48_281,S48_282,S48_283,S48_284,S48_285,S48_286,S48_287,S48_288,S48_289,S48_290,S48_291,S48_292,S48_293,S48_294,S48,↓XX,XY,↓reduceIte,Nat.reduceBEq,Nat.reduceAdd,Int.cast_ofNat_Int,Int.reduceEq,Int.reduceLT,Int.reduceLE,↓XV,hi,↓ix_v hg,↓iso_2 hb,hbp',↓drop_e,XD,heldB,flatD,XE];exact hB
  ·have e5:(if e=0∧(3000<nd+1∨120<d) then (5:Int) else e)=e:=if_neg (by omega);rw [e5,if_pos he] at hev;simp only [Option.some.injEq,Prod.mk.injEq] at hev;obtain ⟨rfl,rfl,rfl,rfl⟩:=hev;simp only [↓UU13,↓XX,XY,↓reduceIte,Nat.reduceBEq,Nat.reduceAdd,Int.cast_ofNat_Int,Int.reduceEq,Int.reduceLT,Int.reduceLE,wnd,he];exact ansx_p rfl _ _
theorem read_ok:∀f,ReadOk f:=by
 intro f
 induction f with
 | zero=>intro s nd e v u d t s' nd' e' h;rw [readR] at h;cases h
 | succ f ih=>exact read_step ih
theorem log_run {α:Type}:∀(r:Rd α) (h:Hp) (l:List Ref) {x:α} {l':List Ref},r.runLog h l=some (x,l')→r.run h=some x
 | .ret a,h,l,x,l',e=>by simp only [Rd.runLog,Option.some.injEq,Prod.mk.injEq] at e;rw [e.1];rfl
 | .fail,_,_,_,_,e=>by cases e
 | .get r k,h,l,x,l',e=>by
  simp only [Rd.runLog] at e;simp only [Rd.run];cases hg:h.get r with
  | none=>rw [hg] at e;cases e
  | some b=>rw [hg] at e;exact log_run (k b) h _ e
theorem ansx_frz {v:IV} {own:List (Nat×Blk)} {ext:List Blk} {w:FV} (h:∃u lg,∀(e:Option (IV×Hp)) (K:FV→List (Ref×Blk)→List Ref→Option (IV×Hp)),fzU 12 v ⟨own,ext⟩ [] e K=K w u lg):∃u,(frz 4096 v).run ⟨own,ext⟩=some (w,u):=by
 obtain ⟨u,lg,hz⟩:=h;rcases fzU_ok 12 v ⟨own,ext⟩ [] none (fun w _ _=>some (IV.fv w,(⟨[],[]⟩:Hp))) (.fv w,⟨[],[]⟩) (hz ..) with h | ⟨x,u',lg',h1,_,h2⟩
 ·cases h
 ·simp only [Option.some.injEq,Prod.mk.injEq,IV.fv.injEq,and_true] at h2;subst h2;exact ⟨u',log_run _ _ _ (h1 4096 (by decide))⟩
theorem refsL_fv:∀l:List FV,IV.refs.refsL (l.map .fv)=[]
 | []=>rfl
 | v::l=>by
  simp only [List.map_cons,IV.refs.refsL,IV.refs,refsL_fv l,List.append_nil]
theorem frz_argsk:∀(args:List IV) (ks:List Bool) {vs:List FV},(∀b∈ks,b=false)→frzPL args=some vs→frzArgs ks args=.ret (vs.map .fv,[],[])
 | [],ks,vs,_,hz=>by cases hz;cases ks<;>rfl
 | v::l,[],vs,_,hz=>frz_args (v::l) hz
 | v::l,b::ks,vs,hk,hz=>by
  have hb:=hk b List.mem_cons_self;subst hb;simp only [frzPL] at hz;cases h1:frzP v with
  | none=>rw [h1] at hz;cases hz
  | some x =>
   rw [h1] at hz;cases h2:frzPL l with
   | none=>rw [h2] at hz;cases hz
   | some ys =>
    rw [h2] at hz;cases hz;simp only [frzArgs,frp 4096 (by omega) h1,Rd.bind,frz_argsk l ks (fun c hc=>hk c (List.mem_cons_of_mem _ hc)) h2];rfl
theorem goB_own (s:Nat) (ext:List Blk):goB 400 [.own s] 0 ext=false:=rfl
theorem iso_o {ks:List Bool} (hks:∀b∈ks,b=false) {ih:Handler} {f:FuncId} {args:List IV} {vs:List FV} {w:FV} {s:Nat} {st st':List FV} {own:List (Nat×Blk)} (hz:frzPL args=some vs) (hl:lookupOwn s own=some (.row (st.map .fv) false))
  (hr:AnsX (ih f (.ptr (.ext 0) 0::vs.map .fv) ⟨[],[.row (st.map .fv) false]⟩) w [.row (st'.map .fv) false]) (k:IV→Hp→List Ref→List Ref→Option (IV×Hp)) :
  isoS (true::ks) false false ih f (.ptr (.own s) 0::args) ⟨own,[]⟩ k=k (.fv w) ⟨putOwn s (.row (st'.map .fv) false) own,[]⟩ [.own s] [.own s]:=by
 obtain ⟨v,own',e1,hfz⟩:=hr;obtain ⟨u,hu⟩:=ansx_frz hfz;have hD:isoD (true::ks) false false ih f (.ptr (.own s) 0::args) ⟨own,[]⟩ k=k (.fv w) ⟨putOwn s (.row (st'.map .fv) false) own,[]⟩ [.own s] [.own s]:=by
  have h1:frzArgs (true::ks) (.ptr (.own s) 0::args)=.ret (.ptr (.own s) 0::vs.map .fv,[.own s],[]):=by
   simp only [frzArgs,frz_argsk args ks hks hz,Rd.bind,IV.refs];rfl
  have h2:(gather 4096 [.own s] []).runLog ⟨own,[]⟩ []=some ([(.own s,.row (st.map .fv) false)],[.own s]):=by
   show (gather (4094+1+1) [.own s] []).runLog ⟨own,[]⟩ []=_
   simp only [gather,hasRef,Bool.false_eq_true,if_false,Rd.runLog,Hp.get,hl,Blk.refs,refsL_fv,List.append_nil,List.nil_append]
  have h3:IV.ren.renL (into [(.own s,.row (st.map .fv) false)]) (.ptr (.own s) 0::vs.map .fv)=some (.ptr (.ext 0) 0::vs.map .fv):=by
   simp only [IV.ren.renL,IV.ren,into,placeOf,if_true,Option.map_some,Option.bind_some,renL_fv]
  have h4:renBlks (into [(.own s,.row (st.map .fv) false)]) [.row (st.map .fv) false]=some [.row (st.map .fv) false]:=by
   simp only [renBlks,Blk.ren,renL_fv,Option.map_some,Option.bind_some]
  have h5:renBlks (back [(.own s,.row (st.map .fv) false)]) [.row (st'.map .fv) false]=some [.row (st'.map .fv) false]:=by
   simp only [renBlks,Blk.ren,renL_fv,Option.map_some,Option.bind_some]
  unfold isoD;simp only [h1,Rd.runLog,h2,h3,List.map_cons,List.map_nil,h4,fL_eq (fV_eq 3),fL_eq fBk_eq,askedD,Bool.false_eq_true,if_false,e1,hu,Option.map_some,IV.ren,h5,List.length_cons,List.length_nil,keys,List.all_nil,and_self,if_true,List.nil_append,List.zip_cons_cons,List.zip_nil_left];have h6:laid ⟨own,[]⟩ [(.own s,.row (st'.map .fv) false)]=some ⟨putOwn s (.row (st'.map .fv) false) own,[]⟩:=by
   simp only [laid,Hp.get,hl,Hp.set]
  simp only [h6,fH_eq,fV_eq]
 rw [iso_e,fz1k,as_p,fza_k 0 args _ _ _ _ ks hks hz];simp only [isoC,goB_own,cond_false];exact hD
theorem iso_o3 {ih:Handler} {f:FuncId} {x y:IV} {vx vy w:FV} {s:Nat} {a b c a' b' c':FV} {own own':List (Nat×Blk)} (hr:AnsX (ih f [.ptr (.ext 0) 0,.fv vx,.fv vy] ⟨[],[.row [.fv a,.fv b,.fv c] false]⟩) w [.row [.fv a',.fv b',.fv c'] false])
  (hx:frzP x=some vx) (hy:frzP y=some vy) (hl:lookupOwn s own=some (.row [.fv a,.fv b,.fv c] false)) (ho:putOwn s (.row [.fv a',.fv b',.fv c'] false) own=own') (k:IV→Hp→List Ref→List Ref→Option (IV×Hp)) :
  isoS [true,false,false] false false ih f [.ptr (.own s) 0,x,y] ⟨own,[]⟩ k=k (.fv w) ⟨own',[]⟩ [.own s] [.own s]:=by
 subst ho;exact iso_o (ks:=[false,false]) (by simp) (st:=[a,b,c]) (st':=[a',b',c']) (zl_2 hx hy) hl hr k
theorem iso_o4 {ih:Handler} {f:FuncId} {x y z:IV} {vx vy vz w:FV} {s:Nat} {a b c a' b' c':FV} {own own':List (Nat×Blk)} (hr:AnsX (ih f [.ptr (.ext 0) 0,.fv vx,.fv vy,.fv vz] ⟨[],[.row [.fv a,.fv b,.fv c] false]⟩) w [.row [.fv a',.fv b',.fv c'] false])
  (hx:frzP x=some vx) (hy:frzP y=some vy) (hz:frzP z=some vz) (hl:lookupOwn s own=some (.row [.fv a,.fv b,.fv c] false)) (ho:putOwn s (.row [.fv a',.fv b',.fv c'] false) own=own') (k:IV→Hp→List Ref→List Ref→Option (IV×Hp)) :
  isoS [true,false,false,false] false false ih f [.ptr (.own s) 0,x,y,z] ⟨own,[]⟩ k=k (.fv w) ⟨own',[]⟩ [.own s] [.own s]:=by
 subst ho;exact iso_o (ks:=[false,false,false]) (by simp) (st:=[a,b,c]) (st':=[a',b',c']) (zl_3 hx hy hz) hl hr k
theorem iso_o3b {ih:Handler} {f:FuncId} {x y:IV} {vx vy w:FV} {s:Nat} {a b a' b':FV} {own own':List (Nat×Blk)} (hr:AnsX (ih f [.ptr (.ext 0) 0,.fv vx,.fv vy] ⟨[],[.row [.fv a,.fv b] false]⟩) w [.row [.fv a',.fv b'] false])
  (hx:frzP x=some vx) (hy:frzP y=some vy) (hl:lookupOwn s own=some (.row [.fv a,.fv b] false)) (ho:putOwn s (.row [.fv a',.fv b'] false) own=own') (k:IV→Hp→List Ref→List Ref→Option (IV×Hp)) :
  isoS [true,false,false] false false ih f [.ptr (.own s) 0,x,y] ⟨own,[]⟩ k=k (.fv w) ⟨own',[]⟩ [.own s] [.own s]:=by
 subst ho;exact iso_o (ks:=[false,false]) (by simp) (st:=[a,b]) (st':=[a',b']) (zl_2 hx hy) hl hr k
def normalR (f:Nat) (t:Tm):Option (Tm×Int):=match evalR f 0 0 t [] with
 | none=>none
 | some (v,s,e)=>match readR f s 0 e v 0 1 with
  | none=>none
  | some (u,_,_,e)=>some (if e≠0 then (.z,e) else (u,0))
theorem heavy_ok {n:Nat} (hn:0<n) (e:Int):Ans (SS dt n 19 [iv e] ⟨[],[]⟩) (.bool (decide (e=17) || decide (e=5))):=by
 obtain ⟨n,rfl⟩:∃k,n=k+1:=⟨n - 1,by omega⟩;rw [c19];by_cases h1:e=17
 ·simp only [S19,↓XX,XY,↓reduceIte,Nat.reduceBEq,Nat.reduceAdd,Int.cast_ofNat_Int,Int.reduceEq,Int.reduceLT,Int.reduceLE,h1,Bool.true_or];exact ans_fv _ _
 ·simp only [S19,↓XX,XY,↓reduceIte,Nat.reduceBEq,Nat.reduceAdd,Int.cast_ofNat_Int,Int.reduceEq,Int.reduceLT,Int.reduceLE,h1,Bool.false_or];exact ans_fv _ _
theorem normal_ok (f:Nat) (t u:Tm) (e:Int) (h:normalR f t=some (u,e)) (n:Nat) (hn:f+2≤n):Ans (SS dt n 18 [.fv t.enc] ⟨[],[]⟩) (.tuple [u.enc,.int .i64 e]):=by
 obtain ⟨n,rfl⟩:∃k,n=k+1:=⟨n - 1,by omega⟩;rw [c18];unfold normalR at h;cases he:evalR f 0 0 t [] with
 | none=>rw [he] at h;cases h
 | some q =>
 obtain ⟨v,s1,e1⟩:=q;rw [he] at h;simp only at h;cases hr:readR f s1 0 e1 v 0 1 with
 | none=>rw [hr] at h;cases h
 | some q =>
 obtain ⟨w,s2,nd2,e2⟩:=q;rw [hr] at h;simp only [Option.some.injEq] at h;have h1:=(mach_ok f).1 0 0 t [] v s1 e1 0 he n (by omega);have h2:=read_ok f s1 0 e1 v 0 1 w s2 nd2 e2 hr n (by omega);obtain ⟨op,m,ks⟩:=t;rw [enc_mk] at h1 ⊢;simp only [List.map_nil] at h1;have c1:=fun k=>iso_o3 (k:=k) h1 (x:=.fv (.agg [.int .i64 op,.int .i64 m,.sl (ks.map Tm.enc)])) (y:=.nils) (s:=18875393) rfl rfl
  (own:=[(18874368,.row [iv op,iv m,.fv (.sl (ks.map Tm.enc))] false),(18874369,.row [iv 0,iv 0,.nils] false),(18875393,.row [iv 0,iv 0,iv 0] false)])
  (own':=[(18874368,.row [iv op,iv m,.fv (.sl (ks.map Tm.enc))] false),(18874369,.row [iv 0,iv 0,.nils] false),(18875393,.row [iv s1,iv 0,iv e1] false)]) (by simp [lookupOwn]) (by simp [putOwn])
 have c2:=fun k=>iso_o4 (k:=k) h2 (x:=.fv v.enc) (y:=iv 0) (z:=iv 1) (s:=18875393) rfl rfl rfl
  (own:=[(18874368,.row [iv op,iv m,.fv (.sl (ks.map Tm.enc))] false),(18874369,.row [iv 0,iv 0,.nils] false),(18875393,.row [iv s1,iv 0,iv e1] false)])
  (own':=[(18874368,.row [iv op,iv m,.fv (.sl (ks.map Tm.enc))] false),(18874369,.row [iv 0,iv 0,.nils] false),(18875393,.row [iv s2,iv nd2,iv e2] false)]) (by simp [lookupOwn]) (by simp [putOwn])
 obtain ⟨wo,wn,wk⟩:=w;rw [enc_mk] at c2;by_cases hz:e2=0
 ·rw [if_neg (by simp [hz])] at h;simp only [Prod.mk.injEq] at h;obtain ⟨rfl,rfl⟩:=h;subst hz;simp only [S18_52,S18_53,S18_54,S18_55,S18_56,S18,↓XX,XY,↓reduceIte,Nat.reduceBEq,Nat.reduceAdd,Int.cast_ofNat_Int,Int.reduceEq,Int.reduceLT,Int.reduceLE,↓c1,↓c2,enc_mk];exact ans_fv _ _
 ·rw [if_pos hz] at h;simp only [Prod.mk.injEq] at h;obtain ⟨rfl,rfl⟩:=h;simp only [S18_52,S18_53,S18_54,S18_55,S18_56,S18,↓XX,XY,↓reduceIte,Nat.reduceBEq,Nat.reduceAdd,Int.cast_ofNat_Int,Int.reduceEq,Int.reduceLT,Int.reduceLE,↓c1,↓c2,hz,Tm.z,enc_mk];exact ans_t rfl (by simp) _
end Idl
end Go.Proofs.Ytbkdidonegggdaa

/-
  Texts of a proof, part 10: an ideal semantics of the program, its functions in shallow form, contracts of them. No statement of the seat is proved here.
-/
import Derived.KernelRfl
import Derived.Test.YtaifgaidaglblaaEqualEtaK9
set_option linter.all false
noncomputable section
namespace Go.Proofs.Ytaifgaidaglblaa
namespace Idl
theorem AiU {f:Nat} {G:Aa→Nat→Hp→Option (IV×Hp)} (e:dt.call f=fun ih n=>Pp (G ih n)) (n:Nat) (h:Hp):SS dt (n+1) f [] h=G (SS dt n) n  h:=by
 show dt.call f (SS dt n) n _ h=_
 rw [e];rfl
theorem B2 {f:Nat} {G:Aa→Nat→IV→Hp→Option (IV×Hp)} (e:dt.call f=fun ih n=>Fv (G ih n)) (n:Nat) (a0:IV) (h:Hp):SS dt (n+1) f [a0] h=G (SS dt n) n a0 h:=by
 show dt.call f (SS dt n) n _ h=_
 rw [e];rfl
theorem BF {f:Nat} {G:Aa→Nat→IV→IV→Hp→Option (IV×Hp)} (e:dt.call f=fun ih n=>Ed (G ih n)) (n:Nat) (a0 a1:IV) (h:Hp):SS dt (n+1) f [a0,a1] h=G (SS dt n) n a0 a1 h:=by
 show dt.call f (SS dt n) n _ h=_
 rw [e];rfl
theorem Eh {f:Nat} {G:Aa→Nat→IV→IV→IV→Hp→Option (IV×Hp)} (e:dt.call f=fun ih n=>L8 (G ih n)) (n:Nat) (a0 a1 a2:IV) (h:Hp):SS dt (n+1) f [a0,a1,a2] h=G (SS dt n) n a0 a1 a2 h:=by
 show dt.call f (SS dt n) n _ h=_
 rw [e];rfl
theorem Ey {f:Nat} {G:Aa→Nat→IV→IV→IV→IV→Hp→Option (IV×Hp)} (e:dt.call f=fun ih n=>Ma (G ih n)) (n:Nat) (a0 a1 a2 a3:IV) (h:Hp):SS dt (n+1) f [a0,a1,a2,a3] h=G (SS dt n) n a0 a1 a2 a3 h:=by
 show dt.call f (SS dt n) n _ h=_
 rw [e];rfl
theorem Att {f:Nat} {G:Aa→Nat→IV→IV→IV→IV→IV→Hp→Option (IV×Hp)} (e:dt.call f=fun ih n=>ar5 (G ih n)) (n:Nat) (a0 a1 a2 a3 a4:IV) (h:Hp):SS dt (n+1) f [a0,a1,a2,a3,a4] h=G (SS dt n) n a0 a1 a2 a3 a4 h:=by
 show dt.call f (SS dt n) n _ h=_
 rw [e];rfl
theorem c5 (n:Nat) (a0 a1 a2 a3:IV) (h:Hp):SS dt (n+1) 5 [a0,a1,a2,a3] h=S5 (SS dt n) n a0 a1 a2 a3 h:=Ey (show dt.call 5=fun ih n=>Ma (S5 ih n) by kernel_rfl) ..
theorem c11 (n:Nat) (a0:IV) (h:Hp):SS dt (n+1) 11 [a0] h=S11 (SS dt n) n a0 h:=B2 (show dt.call 11=fun ih n=>Fv (S11 ih n) by kernel_rfl) ..
theorem c12 (n:Nat) (a0:IV) (h:Hp):SS dt (n+1) 12 [a0] h=S12 (SS dt n) n a0 h:=B2 (show dt.call 12=fun ih n=>Fv (S12 ih n) by kernel_rfl) ..
theorem c15 (n:Nat) (a0:IV) (h:Hp):SS dt (n+1) 15 [a0] h=S15 (SS dt n) n a0 h:=B2 (show dt.call 15=fun ih n=>Fv (S15 ih n) by kernel_rfl) ..
theorem c16 (n:Nat) (a0 a1:IV) (h:Hp):SS dt (n+1) 16 [a0,a1] h=S16 (SS dt n) n a0 a1 h:=BF (show dt.call 16=fun ih n=>Ed (S16 ih n) by kernel_rfl) ..
theorem c17 (n:Nat) (a0:IV) (h:Hp):SS dt (n+1) 17 [a0] h=S17 (SS dt n) n a0 h:=B2 (show dt.call 17=fun ih n=>Fv (S17 ih n) by kernel_rfl) ..
theorem c18 (n:Nat) (a0:IV) (h:Hp):SS dt (n+1) 18 [a0] h=S18 (SS dt n) n a0 h:=B2 (show dt.call 18=fun ih n=>Fv (S18 ih n) by kernel_rfl) ..
theorem c20 (n:Nat) (a0:IV) (h:Hp):SS dt (n+1) 20 [a0] h=S20 (SS dt n) n a0 h:=B2 (show dt.call 20=fun ih n=>Fv (S20 ih n) by kernel_rfl) ..
theorem c21 (n:Nat) (a0 a1 a2:IV) (h:Hp):SS dt (n+1) 21 [a0,a1,a2] h=S21 (SS dt n) n a0 a1 a2 h:=Eh (show dt.call 21=fun ih n=>L8 (S21 ih n) by kernel_rfl) ..
theorem c22 (n:Nat) (a0 a1 a2:IV) (h:Hp):SS dt (n+1) 22 [a0,a1,a2] h=S22 (SS dt n) n a0 a1 a2 h:=Eh (show dt.call 22=fun ih n=>L8 (S22 ih n) by kernel_rfl) ..
theorem c23 (n:Nat) (a0 a1 a2 a3:IV) (h:Hp):SS dt (n+1) 23 [a0,a1,a2,a3] h=S23 (SS dt n) n a0 a1 a2 a3 h:=Ey (show dt.call 23=fun ih n=>Ma (S23 ih n) by kernel_rfl) ..
theorem c24 (n:Nat) (a0 a1:IV) (h:Hp):SS dt (n+1) 24 [a0,a1] h=S24 (SS dt n) n a0 a1 h:=BF (show dt.call 24=fun ih n=>Ed (S24 ih n) by kernel_rfl) ..
theorem c25 (n:Nat) (a0 a1 a2:IV) (h:Hp):SS dt (n+1) 25 [a0,a1,a2] h=S25 (SS dt n) n a0 a1 a2 h:=Eh (show dt.call 25=fun ih n=>L8 (S25 ih n) by kernel_rfl) ..
theorem c26 (n:Nat) (a0:IV) (h:Hp):SS dt (n+1) 26 [a0] h=S26 (SS dt n) n a0 h:=B2 (show dt.call 26=fun ih n=>Fv (S26 ih n) by kernel_rfl) ..
theorem c27 (n:Nat) (a0:IV) (h:Hp):SS dt (n+1) 27 [a0] h=S27 (SS dt n) n a0 h:=B2 (show dt.call 27=fun ih n=>Fv (S27 ih n) by kernel_rfl) ..
theorem c29 (n:Nat) (a0:IV) (h:Hp):SS dt (n+1) 29 [a0] h=S29 (SS dt n) n a0 h:=B2 (show dt.call 29=fun ih n=>Fv (S29 ih n) by kernel_rfl) ..
theorem c33 (n:Nat) (a0 a1:IV) (h:Hp):SS dt (n+1) 33 [a0,a1] h=S33 (SS dt n) n a0 a1 h:=BF (show dt.call 33=fun ih n=>Ed (S33 ih n) by kernel_rfl) ..
theorem c34 (n:Nat) (a0 a1:IV) (h:Hp):SS dt (n+1) 34 [a0,a1] h=S34 (SS dt n) n a0 a1 h:=BF (show dt.call 34=fun ih n=>Ed (S34 ih n) by kernel_rfl) ..
theorem c35 (n:Nat) (a0 a1 a2 a3:IV) (h:Hp):SS dt (n+1) 35 [a0,a1,a2,a3] h=S35 (SS dt n) n a0 a1 a2 a3 h:=Ey (show dt.call 35=fun ih n=>Ma (S35 ih n) by kernel_rfl) ..
theorem c36 (n:Nat) (a0:IV) (h:Hp):SS dt (n+1) 36 [a0] h=S36 (SS dt n) n a0 h:=B2 (show dt.call 36=fun ih n=>Fv (S36 ih n) by kernel_rfl) ..
theorem c37 (n:Nat) (a0 a1:IV) (h:Hp):SS dt (n+1) 37 [a0,a1] h=S37 (SS dt n) n a0 a1 h:=BF (show dt.call 37=fun ih n=>Ed (S37 ih n) by kernel_rfl) ..
theorem c38 (n:Nat) (a0:IV) (h:Hp):SS dt (n+1) 38 [a0] h=S38 (SS dt n) n a0 h:=B2 (show dt.call 38=fun ih n=>Fv (S38 ih n) by kernel_rfl) ..
theorem c39 (n:Nat) (a0:IV) (h:Hp):SS dt (n+1) 39 [a0] h=S39 (SS dt n) n a0 h:=B2 (show dt.call 39=fun ih n=>Fv (S39 ih n) by kernel_rfl) ..
theorem c40 (n:Nat) (a0 a1:IV) (h:Hp):SS dt (n+1) 40 [a0,a1] h=S40 (SS dt n) n a0 a1 h:=BF (show dt.call 40=fun ih n=>Ed (S40 ih n) by kernel_rfl) ..
theorem c41 (n:Nat) (a0 a1 a2 a3:IV) (h:Hp):SS dt (n+1) 41 [a0,a1,a2,a3] h=S41 (SS dt n) n a0 a1 a2 a3 h:=Ey (show dt.call 41=fun ih n=>Ma (S41 ih n) by kernel_rfl) ..
theorem c42 (n:Nat) (a0 a1 a2:IV) (h:Hp):SS dt (n+1) 42 [a0,a1,a2] h=S42 (SS dt n) n a0 a1 a2 h:=Eh (show dt.call 42=fun ih n=>L8 (S42 ih n) by kernel_rfl) ..
theorem c43 (n:Nat) (a0 a1:IV) (h:Hp):SS dt (n+1) 43 [a0,a1] h=S43 (SS dt n) n a0 a1 h:=BF (show dt.call 43=fun ih n=>Ed (S43 ih n) by kernel_rfl) ..
theorem c44 (n:Nat) (h:Hp):SS dt (n+1) 44 [] h=S44 (SS dt n) n  h:=AiU (show dt.call 44=fun ih n=>Pp (S44 ih n) by kernel_rfl) ..
theorem c45 (n:Nat) (a0:IV) (h:Hp):SS dt (n+1) 45 [a0] h=S45 (SS dt n) n a0 h:=B2 (show dt.call 45=fun ih n=>Fv (S45 ih n) by kernel_rfl) ..
theorem c46 (n:Nat) (a0 a1:IV) (h:Hp):SS dt (n+1) 46 [a0,a1] h=S46 (SS dt n) n a0 a1 h:=BF (show dt.call 46=fun ih n=>Ed (S46 ih n) by kernel_rfl) ..
theorem c47 (n:Nat) (a0 a1 a2 a3:IV) (h:Hp):SS dt (n+1) 47 [a0,a1,a2,a3] h=S47 (SS dt n) n a0 a1 a2 a3 h:=Ey (show dt.call 47=fun ih n=>Ma (S47 ih n) by kernel_rfl) ..
theorem c48 (n:Nat) (a0 a1 a2 a3:IV) (h:Hp):SS dt (n+1) 48 [a0,a1,a2,a3] h=S48 (SS dt n) n a0 a1 a2 a3 h:=Ey (show dt.call 48=fun ih n=>Ma (S48 ih n) by kernel_rfl) ..
theorem c49 (n:Nat) (a0 a1 a2 a3:IV) (h:Hp):SS dt (n+1) 49 [a0,a1,a2,a3] h=S49 (SS dt n) n a0 a1 a2 a3 h:=Ey (show dt.call 49=fun ih n=>Ma (S49 ih n) by kernel_rfl) ..
theorem c50 (n:Nat) (a0 a1 a2:IV) (h:Hp):SS dt (n+1) 50 [a0,a1,a2] h=S50 (SS dt n) n a0 a1 a2 h:=Eh (show dt.call 50=fun ih n=>L8 (S50 ih n) by kernel_rfl) ..
theorem c51 (n:Nat) (a0 a1:IV) (h:Hp):SS dt (n+1) 51 [a0,a1] h=S51 (SS dt n) n a0 a1 h:=BF (show dt.call 51=fun ih n=>Ed (S51 ih n) by kernel_rfl) ..
theorem c52 (n:Nat) (a0 a1 a2:IV) (h:Hp):SS dt (n+1) 52 [a0,a1,a2] h=S52 (SS dt n) n a0 a1 a2 h:=Eh (show dt.call 52=fun ih n=>L8 (S52 ih n) by kernel_rfl) ..
theorem c53 (n:Nat) (a0 a1 a2 a3:IV) (h:Hp):SS dt (n+1) 53 [a0,a1,a2,a3] h=S53 (SS dt n) n a0 a1 a2 a3 h:=Ey (show dt.call 53=fun ih n=>Ma (S53 ih n) by kernel_rfl) ..
theorem c54 (n:Nat) (a0 a1:IV) (h:Hp):SS dt (n+1) 54 [a0,a1] h=S54 (SS dt n) n a0 a1 h:=BF (show dt.call 54=fun ih n=>Ed (S54 ih n) by kernel_rfl) ..
theorem c55 (n:Nat) (a0:IV) (h:Hp):SS dt (n+1) 55 [a0] h=S55 (SS dt n) n a0 h:=B2 (show dt.call 55=fun ih n=>Fv (S55 ih n) by kernel_rfl) ..
theorem c56 (n:Nat) (a0:IV) (h:Hp):SS dt (n+1) 56 [a0] h=S56 (SS dt n) n a0 h:=B2 (show dt.call 56=fun ih n=>Fv (S56 ih n) by kernel_rfl) ..
theorem c57 (n:Nat) (a0 a1:IV) (h:Hp):SS dt (n+1) 57 [a0,a1] h=S57 (SS dt n) n a0 a1 h:=BF (show dt.call 57=fun ih n=>Ed (S57 ih n) by kernel_rfl) ..
theorem c58 (n:Nat) (a0 a1:IV) (h:Hp):SS dt (n+1) 58 [a0,a1] h=S58 (SS dt n) n a0 a1 h:=BF (show dt.call 58=fun ih n=>Ed (S58 ih n) by kernel_rfl) ..
theorem c59 (n:Nat) (a0 a1:IV) (h:Hp):SS dt (n+1) 59 [a0,a1] h=S59 (SS dt n) n a0 a1 h:=BF (show dt.call 59=fun ih n=>Ed (S59 ih n) by kernel_rfl) ..
theorem c60 (n:Nat) (a0 a1 a2 a3:IV) (h:Hp):SS dt (n+1) 60 [a0,a1,a2,a3] h=S60 (SS dt n) n a0 a1 a2 a3 h:=Ey (show dt.call 60=fun ih n=>Ma (S60 ih n) by kernel_rfl) ..
theorem c61 (n:Nat) (a0:IV) (h:Hp):SS dt (n+1) 61 [a0] h=S61 (SS dt n) n a0 h:=B2 (show dt.call 61=fun ih n=>Fv (S61 ih n) by kernel_rfl) ..
theorem c62 (n:Nat) (a0 a1:IV) (h:Hp):SS dt (n+1) 62 [a0,a1] h=S62 (SS dt n) n a0 a1 h:=BF (show dt.call 62=fun ih n=>Ed (S62 ih n) by kernel_rfl) ..
theorem c63 (n:Nat) (a0:IV) (h:Hp):SS dt (n+1) 63 [a0] h=S63 (SS dt n) n a0 h:=B2 (show dt.call 63=fun ih n=>Fv (S63 ih n) by kernel_rfl) ..
theorem c64 (n:Nat) (h:Hp):SS dt (n+1) 64 [] h=S64 (SS dt n) n  h:=AiU (show dt.call 64=fun ih n=>Pp (S64 ih n) by kernel_rfl) ..
theorem c65 (n:Nat) (a0 a1 a2:IV) (h:Hp):SS dt (n+1) 65 [a0,a1,a2] h=S65 (SS dt n) n a0 a1 a2 h:=Eh (show dt.call 65=fun ih n=>L8 (S65 ih n) by kernel_rfl) ..
theorem c66 (n:Nat) (a0 a1 a2 a3:IV) (h:Hp):SS dt (n+1) 66 [a0,a1,a2,a3] h=S66 (SS dt n) n a0 a1 a2 a3 h:=Ey (show dt.call 66=fun ih n=>Ma (S66 ih n) by kernel_rfl) ..
theorem c68 (n:Nat) (a0:IV) (h:Hp):SS dt (n+1) 68 [a0] h=S68 (SS dt n) n a0 h:=B2 (show dt.call 68=fun ih n=>Fv (S68 ih n) by kernel_rfl) ..
theorem c69 (n:Nat) (a0 a1 a2:IV) (h:Hp):SS dt (n+1) 69 [a0,a1,a2] h=S69 (SS dt n) n a0 a1 a2 h:=Eh (show dt.call 69=fun ih n=>L8 (S69 ih n) by kernel_rfl) ..
theorem c70 (n:Nat) (a0:IV) (h:Hp):SS dt (n+1) 70 [a0] h=S70 (SS dt n) n a0 h:=B2 (show dt.call 70=fun ih n=>Fv (S70 ih n) by kernel_rfl) ..
theorem c71 (n:Nat) (a0:IV) (h:Hp):SS dt (n+1) 71 [a0] h=S71 (SS dt n) n a0 h:=B2 (show dt.call 71=fun ih n=>Fv (S71 ih n) by kernel_rfl) ..
theorem c72 (n:Nat) (a0 a1:IV) (h:Hp):SS dt (n+1) 72 [a0,a1] h=S72 (SS dt n) n a0 a1 h:=BF (show dt.call 72=fun ih n=>Ed (S72 ih n) by kernel_rfl) ..
theorem c73 (n:Nat) (a0 a1:IV) (h:Hp):SS dt (n+1) 73 [a0,a1] h=S73 (SS dt n) n a0 a1 h:=BF (show dt.call 73=fun ih n=>Ed (S73 ih n) by kernel_rfl) ..
theorem c74 (n:Nat) (a0 a1:IV) (h:Hp):SS dt (n+1) 74 [a0,a1] h=S74 (SS dt n) n a0 a1 h:=BF (show dt.call 74=fun ih n=>Ed (S74 ih n) by kernel_rfl) ..
theorem c75 (n:Nat) (a0 a1:IV) (h:Hp):SS dt (n+1) 75 [a0,a1] h=S75 (SS dt n) n a0 a1 h:=BF (show dt.call 75=fun ih n=>Ed (S75 ih n) by kernel_rfl) ..
theorem c76 (n:Nat) (a0 a1:IV) (h:Hp):SS dt (n+1) 76 [a0,a1] h=S76 (SS dt n) n a0 a1 h:=BF (show dt.call 76=fun ih n=>Ed (S76 ih n) by kernel_rfl) ..
theorem c77 (n:Nat) (a0:IV) (h:Hp):SS dt (n+1) 77 [a0] h=S77 (SS dt n) n a0 h:=B2 (show dt.call 77=fun ih n=>Fv (S77 ih n) by kernel_rfl) ..
theorem c78 (n:Nat) (a0 a1:IV) (h:Hp):SS dt (n+1) 78 [a0,a1] h=S78 (SS dt n) n a0 a1 h:=BF (show dt.call 78=fun ih n=>Ed (S78 ih n) by kernel_rfl) ..
theorem c79 (n:Nat) (a0 a1:IV) (h:Hp):SS dt (n+1) 79 [a0,a1] h=S79 (SS dt n) n a0 a1 h:=BF (show dt.call 79=fun ih n=>Ed (S79 ih n) by kernel_rfl) ..
theorem c80 (n:Nat) (a0 a1:IV) (h:Hp):SS dt (n+1) 80 [a0,a1] h=S80 (SS dt n) n a0 a1 h:=BF (show dt.call 80=fun ih n=>Ed (S80 ih n) by kernel_rfl) ..
theorem c81 (n:Nat) (a0 a1 a2 a3:IV) (h:Hp):SS dt (n+1) 81 [a0,a1,a2,a3] h=S81 (SS dt n) n a0 a1 a2 a3 h:=Ey (show dt.call 81=fun ih n=>Ma (S81 ih n) by kernel_rfl) ..
theorem c82 (n:Nat) (a0:IV) (h:Hp):SS dt (n+1) 82 [a0] h=S82 (SS dt n) n a0 h:=B2 (show dt.call 82=fun ih n=>Fv (S82 ih n) by kernel_rfl) ..
theorem c83 (n:Nat) (a0:IV) (h:Hp):SS dt (n+1) 83 [a0] h=S83 (SS dt n) n a0 h:=B2 (show dt.call 83=fun ih n=>Fv (S83 ih n) by kernel_rfl) ..
theorem c84 (n:Nat) (a0 a1:IV) (h:Hp):SS dt (n+1) 84 [a0,a1] h=S84 (SS dt n) n a0 a1 h:=BF (show dt.call 84=fun ih n=>Ed (S84 ih n) by kernel_rfl) ..
theorem c85 (n:Nat) (a0 a1:IV) (h:Hp):SS dt (n+1) 85 [a0,a1] h=S85 (SS dt n) n a0 a1 h:=BF (show dt.call 85=fun ih n=>Ed (S85 ih n) by kernel_rfl) ..
theorem c86 (n:Nat) (a0 a1:IV) (h:Hp):SS dt (n+1) 86 [a0,a1] h=S86 (SS dt n) n a0 a1 h:=BF (show dt.call 86=fun ih n=>Ed (S86 ih n) by kernel_rfl) ..
theorem c87 (n:Nat) (a0 a1:IV) (h:Hp):SS dt (n+1) 87 [a0,a1] h=S87 (SS dt n) n a0 a1 h:=BF (show dt.call 87=fun ih n=>Ed (S87 ih n) by kernel_rfl) ..
theorem c88 (n:Nat) (a0 a1 a2:IV) (h:Hp):SS dt (n+1) 88 [a0,a1,a2] h=S88 (SS dt n) n a0 a1 a2 h:=Eh (show dt.call 88=fun ih n=>L8 (S88 ih n) by kernel_rfl) ..
theorem c89 (n:Nat) (a0 a1 a2:IV) (h:Hp):SS dt (n+1) 89 [a0,a1,a2] h=S89 (SS dt n) n a0 a1 a2 h:=Eh (show dt.call 89=fun ih n=>L8 (S89 ih n) by kernel_rfl) ..
theorem c90 (n:Nat) (a0 a1 a2:IV) (h:Hp):SS dt (n+1) 90 [a0,a1,a2] h=S90 (SS dt n) n a0 a1 a2 h:=Eh (show dt.call 90=fun ih n=>L8 (S90 ih n) by kernel_rfl) ..
theorem c91 (n:Nat) (a0 a1 a2:IV) (h:Hp):SS dt (n+1) 91 [a0,a1,a2] h=S91 (SS dt n) n a0 a1 a2 h:=Eh (show dt.call 91=fun ih n=>L8 (S91 ih n) by kernel_rfl) ..
theorem c92 (n:Nat) (a0 a1 a2 a3:IV) (h:Hp):SS dt (n+1) 92 [a0,a1,a2,a3] h=S92 (SS dt n) n a0 a1 a2 a3 h:=Ey (show dt.call 92=fun ih n=>Ma (S92 ih n) by kernel_rfl) ..
theorem c93 (n:Nat) (a0 a1:IV) (h:Hp):SS dt (n+1) 93 [a0,a1] h=S93 (SS dt n) n a0 a1 h:=BF (show dt.call 93=fun ih n=>Ed (S93 ih n) by kernel_rfl) ..
theorem c94 (n:Nat) (a0 a1 a2:IV) (h:Hp):SS dt (n+1) 94 [a0,a1,a2] h=S94 (SS dt n) n a0 a1 a2 h:=Eh (show dt.call 94=fun ih n=>L8 (S94 ih n) by kernel_rfl) ..
theorem c95 (n:Nat) (a0 a1 a2 a3:IV) (h:Hp):SS dt (n+1) 95 [a0,a1,a2,a3] h=S95 (SS dt n) n a0 a1 a2 a3 h:=Ey (show dt.call 95=fun ih n=>Ma (S95 ih n) by kernel_rfl) ..
def UU1:=AwO @Uz.eq_1<|AwO @S6.eq_1<|AwO @Ub.eq_1<|AwO @TD.eq_1<|AwO @T8.eq_1<|AwO @Rn.eq_1<|AwO @TS.eq_1<|AwO @R2.eq_1<|AwO @U0.eq_1<|AwO @U6.eq_1<|AwO @U2.eq_1<|AwO @TM.eq_1<|AwO @Rb.eq_1<|AwO @S4.eq_1<|AwO @Sa.eq_1<|AwO @Tn.eq_1<|AwO @W4.eq_1<|AwO @Uq.eq_1<|AwO @Sx.eq_1<|AwO @Uw.eq_1<|AwO @Sp.eq_1<|AwO @Uh.eq_1<|AwO @R9.eq_1<|AwO @RK.eq_1<|AwO @TW.eq_1<|AwO @Rk.eq_1<|AwO @U3.eq_1<|AwO @Tl.eq_1<|AwO @UU.eq_1<|AwO @TE.eq_1<|AwO @Sm.eq_1<|AwO @RB.eq_1<|AwO @RS.eq_1<|AwO @Rl.eq_1<|AwO @UK.eq_1<|AwO @Td.eq_1<|AwO @Uy.eq_1<|AwO @SD.eq_1<|@S5.eq_1
def UU2:=AwO @Uz.eq_1<|AwO @S6.eq_1<|AwO @Ub.eq_1<|AwO @TD.eq_1<|AwO @T8.eq_1<|AwO @Rn.eq_1<|AwO @TS.eq_1<|AwO @R2.eq_1<|AwO @U0.eq_1<|AwO @U6.eq_1<|AwO @U2.eq_1<|AwO @Rb.eq_1<|AwO @S4.eq_1<|AwO @Sa.eq_1<|AwO @Tn.eq_1<|AwO @W4.eq_1<|AwO @Uq.eq_1<|AwO @Sx.eq_1<|AwO @Uw.eq_1<|AwO @Sp.eq_1<|AwO @Uh.eq_1<|AwO @R9.eq_1<|AwO @RK.eq_1<|AwO @TW.eq_1<|AwO @Rk.eq_1<|AwO @U3.eq_1<|AwO @Tl.eq_1<|AwO @UU.eq_1<|AwO @TE.eq_1<|AwO @Sm.eq_1<|AwO @RB.eq_1<|AwO @RS.eq_1<|AwO @Rl.eq_1<|AwO @UK.eq_1<|AwO @Td.eq_1<|AwO @Uy.eq_1<|AwO @SD.eq_1<|@S5.eq_1
def UU3:=AwO @JF.eq_1<|AwO @IB.eq_1<|AwO @Iq.eq_1<|AwO @I0.eq_1<|AwO @Js.eq_1<|AwO @I5.eq_1<|AwO @Ju.eq_1<|AwO @IH.eq_1<|AwO @Jb.eq_1<|AwO @JA.eq_1<|AwO @Iw.eq_1<|AwO @Jg.eq_1<|AwO @Jq.eq_1<|AwO @I1.eq_1<|AwO @Je.eq_1<|AwO @Jz.eq_1<|@S60.eq_1
def UU4:=AwO @AhO.eq_1<|AwO @AhS.eq_1<|AwO @AgW.eq_1<|AwO @AgB.eq_1<|AwO @Af6.eq_1<|@S51.eq_1
def UU5:=AwO @Yt.eq_1<|AwO @XN.eq_1<|AwO @Xk.eq_1<|AwO @WR.eq_1<|AwO @WK.eq_1<|AwO @WU.eq_1<|AwO @Xs.eq_1<|AwO @Xv.eq_1<|AwO @XK.eq_1<|AwO @Af2.eq_1<|@S20.eq_1
def ZJ:=AwO @AeA.eq_1<|AwO @AdD.eq_1<|AwO @Acr.eq_1<|AwO @AcQ.eq_1<|AwO @AcF.eq_1<|AwO @ZA.eq_1<|AwO @Adn.eq_1<|AwO @Abt.eq_1<|AwO @Zw.eq_1<|AwO @AaM.eq_1<|AwO @Aad.eq_1<|AwO @Zo.eq_1<|AwO @Ack.eq_1<|AwO @AcU.eq_1<|AwO @Zb.eq_1<|AwO @Ab0.eq_1<|AwO @Abz.eq_1<|AwO @Ac9.eq_1<|AwO @AaG.eq_1<|AwO @AeL.eq_1<|AwO @Ads.eq_1<|AwO @Abv.eq_1<|AwO @AcV.eq_1<|AwO @ZZ.eq_1<|AwO @AbG.eq_1<|AwO @Ac4.eq_1<|AwO @Ad0.eq_1<|AwO @Aa0.eq_1<|AwO @AaE.eq_1<|AwO @Ac5.eq_1<|AwO @Zv.eq_1<|AwO @Ad6.eq_1<|AwO @Aev.eq_1<|AwO @Acy.eq_1<|AwO @AbC.eq_1<|AwO @AbN.eq_1<|AwO @AaB.eq_1<|AwO @Aag.eq_1<|AwO @Y6.eq_1<|AwO @Aa8.eq_1<|AwO @AaO.eq_1<|@S23.eq_1
def UU7:=AwO @AcR.eq_1<|AwO @YK.eq_1<|AwO @YA.eq_1<|AwO @AaP.eq_1<|AwO @Ad4.eq_1<|AwO @ZE.eq_1<|AwO @ZS.eq_1<|AwO @AcS.eq_1<|AwO @AcX.eq_1<|AwO @AbW.eq_1<|AwO @Aby.eq_1<|AwO @AbV.eq_1<|AwO @ZC.eq_1<|AwO @Ze.eq_1<|AwO @Abk.eq_1<|AwO @YI.eq_1<|AwO @Aeq.eq_1<|AwO @Ad8.eq_1<|AwO @AdP.eq_1<|AwO @Acn.eq_1<|AwO @YN.eq_1<|AwO @Z5.eq_1<|AwO @Adm.eq_1<|AwO @Zr.eq_1<|AwO @Zl.eq_1<|AwO @AeO.eq_1<|AwO @Aaw.eq_1<|AwO @AaN.eq_1<|AwO @Acv.eq_1<|AwO @Aar.eq_1<|AwO @AdW.eq_1<|AwO @AcD.eq_1<|AwO @YT.eq_1<|AwO @Aeb.eq_1<|AwO @AcM.eq_1<|AwO @Adw.eq_1<|AwO @AaQ.eq_1<|AwO @Y9.eq_1<|AwO @Z2.eq_1<|AwO @Z6.eq_1<|AwO @Y3.eq_1<|AwO @YD.eq_1<|AwO @Zg.eq_1<|AwO @Aeu.eq_1<|@S35.eq_1
def UU8:=AwO @AdM.eq_1<|AwO @AdX.eq_1<|AwO @YW.eq_1<|AwO @Y4.eq_1<|AwO @AeB.eq_1<|AwO @AbA.eq_1<|AwO @AaZ.eq_1<|AwO @AbE.eq_1<|AwO @Aaf.eq_1<|AwO @Ab8.eq_1<|AwO @Zu.eq_1<|AwO @AeN.eq_1<|AwO @YJ.eq_1<|AwO @AcI.eq_1<|AwO @YB.eq_1<|AwO @Zf.eq_1<|AwO @Aao.eq_1<|AwO @Adl.eq_1<|AwO @Aab.eq_1<|AwO @Z1.eq_1<|AwO @Aez.eq_1<|AwO @Aae.eq_1<|AwO @AcY.eq_1<|AwO @Aaa.eq_1<|AwO @Abe.eq_1<|AwO @YR.eq_1<|AwO @Ac1.eq_1<|AwO @Yy.eq_1<|AwO @Z0.eq_1<|AwO @AdZ.eq_1<|AwO @AeC.eq_1<|AwO @AaU.eq_1<|AwO @ZF.eq_1<|AwO @AbI.eq_1<|AwO @AbJ.eq_1<|AwO @Ac3.eq_1<|AwO @YO.eq_1<|AwO @Aci.eq_1<|AwO @Acs.eq_1<|AwO @Adr.eq_1<|AwO @Aec.eq_1<|AwO @AdB.eq_1<|AwO @YC.eq_1<|AwO @Aca.eq_1<|AwO @AdG.eq_1<|AwO @Y0.eq_1<|AwO @Aei.eq_1<|AwO @AdF.eq_1<|AwO @Aal.eq_1<|AwO @Aeh.eq_1<|AwO @AdS.eq_1<|AwO @AaV.eq_1<|AwO @Ab6.eq_1<|AwO @ZB.eq_1<|AwO @AcG.eq_1<|AwO @Zj.eq_1<|@S53.eq_1
def XQ:=AwO @ZN.eq_1<|AwO @Aee.eq_1<|AwO @Z4.eq_1<|AwO @AaH.eq_1<|AwO @Zh.eq_1<|AwO @YE.eq_1<|AwO @Aco.eq_1<|AwO @Aef.eq_1<|AwO @Zm.eq_1<|AwO @AcO.eq_1<|AwO @Aa5.eq_1<|AwO @Zy.eq_1<|AwO @Aew.eq_1<|AwO @Ada.eq_1<|AwO @AeE.eq_1<|AwO @Adf.eq_1<|AwO @Aey.eq_1<|AwO @AdK.eq_1<|AwO @Ad5.eq_1<|AwO @Acm.eq_1<|AwO @AaI.eq_1<|AwO @Acd.eq_1<|AwO @AdJ.eq_1<|AwO @Adz.eq_1<|AwO @Ab1.eq_1<|AwO @YQ.eq_1<|AwO @Ael.eq_1<|AwO @Abb.eq_1<|AwO @ZD.eq_1<|AwO @ZL.eq_1<|AwO @AaW.eq_1<|AwO @AcN.eq_1<|AwO @AcZ.eq_1<|AwO @YG.eq_1<|AwO @Aax.eq_1<|AwO @Aa7.eq_1<|AwO @AbT.eq_1<|AwO @Aeo.eq_1<|AwO @Ac2.eq_1<|AwO @Aaz.eq_1<|AwO @AaL.eq_1<|AwO @Aa2.eq_1<|AwO @Adj.eq_1<|AwO @AeG.eq_1<|AwO @YV.eq_1<|AwO @Aac.eq_1<|AwO @Adh.eq_1<|AwO @Acb.eq_1<|AwO @AcL.eq_1<|AwO @Abg.eq_1<|AwO @ZK.eq_1<|AwO @YM.eq_1<|AwO @Acj.eq_1<|AwO @Aa1.eq_1<|AwO @Aah.eq_1<|AwO @AaD.eq_1<|AwO @Acc.eq_1<|AwO @Zx.eq_1<|AwO @Abh.eq_1<|@S49.eq_1
def Lr:=AwO @Acg.eq_1<|AwO @AaK.eq_1<|AwO @Z8.eq_1<|AwO @AbS.eq_1<|AwO @Aet.eq_1<|AwO @AeD.eq_1<|AwO @AcK.eq_1<|AwO @AdN.eq_1<|AwO @AdA.eq_1<|AwO @Ab5.eq_1<|AwO @ZU.eq_1<|AwO @Abs.eq_1<|AwO @Aaj.eq_1<|AwO @Aea.eq_1<|AwO @Acq.eq_1<|AwO @ZM.eq_1<|AwO @ZX.eq_1<|AwO @YX.eq_1<|AwO @ZI.eq_1<|AwO @Adg.eq_1<|AwO @Adb.eq_1<|AwO @AbM.eq_1<|AwO @AbQ.eq_1<|AwO @AbU.eq_1<|AwO @Acp.eq_1<|AwO @Abn.eq_1<|AwO @Adp.eq_1<|AwO @Aan.eq_1<|@S21.eq_1
def Qh:=AwO @UH.eq_1<|AwO @Rc.eq_1<|AwO @SQ.eq_1<|AwO @RR.eq_1<|AwO @Ty.eq_1<|AwO @SA.eq_1<|AwO @UG.eq_1<|AwO @Rw.eq_1<|AwO @SW.eq_1<|AwO @Rz.eq_1<|AwO @Tx.eq_1<|AwO @UB.eq_1<|AwO @RP.eq_1<|AwO @RJ.eq_1<|AwO @Aa9.eq_1<|@S47.eq_1
def Ke:=AwO @SI.eq_1<|AwO @TB.eq_1<|AwO @Rt.eq_1<|AwO @SJ.eq_1<|AwO @R7.eq_1<|AwO @UN.eq_1<|AwO @US.eq_1<|AwO @RU.eq_1<|AwO @TV.eq_1<|AwO @TP.eq_1<|AwO @Uj.eq_1<|AwO @SP.eq_1<|AwO @UL.eq_1<|AwO @UP.eq_1<|AwO @Ta.eq_1<|AwO @U9.eq_1<|AwO @U5.eq_1<|AwO @Ua.eq_1<|AwO @RL.eq_1<|AwO @TJ.eq_1<|AwO @Tk.eq_1<|AwO @UZ.eq_1<|AwO @TL.eq_1<|AwO @Uo.eq_1<|AwO @Rm.eq_1<|AwO @TX.eq_1<|AwO @TY.eq_1<|AwO @Tj.eq_1<|AwO @R3.eq_1<|AwO @SU.eq_1<|AwO @Uk.eq_1<|AwO @Sb.eq_1<|AwO @Jr.eq_1<|AwO @Ry.eq_1<|@S38.eq_1
def Af8:=AwO @EL.eq_1<|AwO @EY.eq_1<|AwO @ED.eq_1<|AwO @EJ.eq_1<|AwO @EV.eq_1<|AwO @E7.eq_1<|AwO @Hy.eq_1<|AwO @ES.eq_1<|AwO @EU.eq_1<|AwO @EX.eq_1<|AwO @EK.eq_1<|AwO @E3.eq_1<|AwO @EP.eq_1<|AwO @EM.eq_1<|AwO @ER.eq_1<|AwO @EW.eq_1<|AwO @ET.eq_1<|AwO @EN.eq_1<|AwO @Ez.eq_1<|AwO @EQ.eq_1<|AwO @EA.eq_1<|AwO @E5.eq_1<|AwO @E4.eq_1<|AwO @EH.eq_1<|AwO @EI.eq_1<|AwO @EB.eq_1<|AwO @E6.eq_1<|AwO @E0.eq_1<|AwO @EO.eq_1<|@S41.eq_1
def Gg:=AwO @Ac6.eq_1<|AwO @Abl.eq_1<|AwO @Ace.eq_1<|AwO @YZ.eq_1<|AwO @Ad7.eq_1<|AwO @AbX.eq_1<|AwO @Zt.eq_1<|AwO @AeJ.eq_1<|AwO @AaS.eq_1<|AwO @AdO.eq_1<|AwO @Ac7.eq_1<|AwO @Y5.eq_1<|AwO @Ade.eq_1<|AwO @AaY.eq_1<|AwO @Ac0.eq_1<|AwO @AbH.eq_1<|AwO @AbD.eq_1<|AwO @Ado.eq_1<|AwO @Aen.eq_1<|AwO @Zc.eq_1<|AwO @Ab4.eq_1<|AwO @AeI.eq_1<|AwO @Acx.eq_1<|AwO @Aep.eq_1<|AwO @Aa6.eq_1<|AwO @Aas.eq_1<|AwO @YP.eq_1<|AwO @Ab2.eq_1<|AwO @Aay.eq_1<|AwO @AdV.eq_1<|AwO @AcP.eq_1<|AwO @AcC.eq_1<|AwO @YY.eq_1<|AwO @AbF.eq_1<|AwO @Adq.eq_1<|AwO @Ab7.eq_1<|AwO @ZP.eq_1<|AwO @Y8.eq_1<|AwO @Aej.eq_1<|AwO @AbL.eq_1<|AwO @AeH.eq_1<|AwO @YH.eq_1<|AwO @Z7.eq_1<|AwO @Aed.eq_1<|AwO @AbY.eq_1<|AwO @AdY.eq_1<|AwO @Adt.eq_1<|AwO @Ady.eq_1<|AwO @Adc.eq_1<|AwO @AcT.eq_1<|@S59.eq_1
def WB:=AwO @I8.eq_1<|AwO @IK.eq_1<|AwO @Iv.eq_1<|AwO @IL.eq_1<|AwO @Jn.eq_1<|AwO @JH.eq_1<|AwO @IW.eq_1<|AwO @Jl.eq_1<|AwO @IF.eq_1<|AwO @Ip.eq_1<|AwO @IN.eq_1<|AwO @IG.eq_1<|AwO @JE.eq_1<|AwO @Jm.eq_1<|AwO @IT.eq_1<|AwO @IQ.eq_1<|AwO @IE.eq_1<|AwO @IZ.eq_1<|AwO @IA.eq_1<|AwO @AbB.eq_1<|AwO @IP.eq_1<|AwO @I4.eq_1<|AwO @Ji.eq_1<|@S42.eq_1
def AiV:=AwO @LW.eq_1<|AwO @KG.eq_1<|AwO @Lo.eq_1<|AwO @KF.eq_1<|AwO @LY.eq_1<|AwO @K6.eq_1<|AwO @Lu.eq_1<|AwO @LC.eq_1<|AwO @KI.eq_1<|AwO @LD.eq_1<|AwO @LK.eq_1<|AwO @KQ.eq_1<|AwO @K8.eq_1<|AwO @Lt.eq_1<|@S52.eq_1
def AfX:=AwO @AiG.eq_1<|AwO @Ai8.eq_1<|AwO @Air.eq_1<|AwO @Af1.eq_1<|AwO @Ail.eq_1<|@S62.eq_1
def AfU:=AwO @Ajm.eq_1<|AwO @Aih.eq_1<|AwO @AfY.eq_1<|AwO @Ahd.eq_1<|AwO @Aid.eq_1<|AwO @Aip.eq_1<|@S71.eq_1
def Ag5:=AwO @KX.eq_1<|AwO @KL.eq_1<|AwO @Ku.eq_1<|AwO @L4.eq_1<|AwO @Kw.eq_1<|AwO @L2.eq_1<|AwO @Kk.eq_1<|@S63.eq_1
def Yq:=AwO @D6.eq_1<|AwO @DS.eq_1<|AwO @D3.eq_1<|AwO @Dw.eq_1<|AwO @DH.eq_1<|AwO @DD.eq_1<|AwO @CN.eq_1<|AwO @DX.eq_1<|AwO @DM.eq_1<|AwO @Dz.eq_1<|AwO @DV.eq_1<|AwO @Dr.eq_1<|AwO @Dy.eq_1<|AwO @DG.eq_1<|AwO @Dm.eq_1<|AwO @Dl.eq_1<|AwO @DI.eq_1<|AwO @DJ.eq_1<|AwO @DL.eq_1<|AwO @DU.eq_1<|AwO @DN.eq_1<|AwO @Do.eq_1<|AwO @Dn.eq_1<|AwO @DR.eq_1<|AwO @Dt.eq_1<|AwO @Fr.eq_1<|AwO @Dx.eq_1<|AwO @DQ.eq_1<|AwO @Dk.eq_1<|AwO @DO.eq_1<|AwO @DP.eq_1<|@S66.eq_1
def AeZ:=AwO @AgV.eq_1<|AwO @Ahp.eq_1<|AwO @AhG.eq_1<|AwO @Ajn.eq_1<|AwO @AhT.eq_1<|@S85.eq_1
def Ahl:=AwO @NU.eq_1<|AwO @NO.eq_1<|AwO @NT.eq_1<|AwO @Om.eq_1<|AwO @Oj.eq_1<|AwO @NG.eq_1<|AwO @NL.eq_1<|AwO @Od.eq_1<|AwO @YS.eq_1<|AwO @Of.eq_1<|AwO @NV.eq_1<|AwO @NH.eq_1<|AwO @NE.eq_1<|AwO @NB.eq_1<|AwO @Oe.eq_1<|@S65.eq_1
def WW:=AwO @Abj.eq_1<|AwO @ZO.eq_1<|AwO @AaJ.eq_1<|AwO @Aau.eq_1<|AwO @Abm.eq_1<|AwO @Aeg.eq_1<|AwO @Aat.eq_1<|AwO @Abi.eq_1<|AwO @AbR.eq_1<|AwO @Ab3.eq_1<|AwO @Zs.eq_1<|AwO @Abp.eq_1<|@S80.eq_1
def Ahe:=AwO @Acw.eq_1<|AwO @Y2.eq_1<|AwO @AdT.eq_1<|AwO @AbP.eq_1<|AwO @AaF.eq_1<|AwO @AaT.eq_1<|AwO @AaC.eq_1<|AwO @AdH.eq_1<|AwO @YF.eq_1<|@S82.eq_1
section
variable {β:Type} {E:Env} {t:TypeId}
abbrev iv (n:Int):IV:=.fv (.int .i64 n)
theorem Aoi (c:Prop) [Decidable c] (a b:Option β):Am (.fv (.bool (decide c))) a b=if c then a else b:=by
 by_cases h:c
 ·rw [decide_eq_true h,if_pos h];rfl
 ·rw [decide_eq_false h,if_neg h];rfl
theorem Alb (o:Nat) (r:Ref) (off:Nat) (k:IV→Option β):Ac o (.ptr r off) k=k (.ptr r (off+o)):=by
 show (D7 (off+o) fun o=>k (.ptr r o))=_
 rw [BT]
theorem QM (o:Nat) (cs:List FV) (off:Nat) (k:IV→Option β):Ac o (.fv (.fp cs off)) k=k (.fv (.fp cs (off+o))):=by
 show (D7 (off+o) fun o=>k (.fv (.fp cs o)))=_
 rw [BT]
theorem Anx {size:Nat} {es:List FV} {n:Nat} {el:FV} (he:es[n]?=some el) (hl:el.cells.length=size) (k:IV→Option β):A7 size (.fv (.sl es)) (iv n) k=k (.fv (.fp el.cells 0)):=by
 show (Ds es n fun el=>elK size el k)=_
 rw [C3,he]
 show elK size el k=_
 rw [Ah3,if_pos hl]
theorem MC {op:BinOp} {g:Nat→Nat→Bool} (hg:∀a b:Nat,Gc E op t (iv a) (iv b)=some (.fv (.bool (g a b)))) (a b:Int) (k:IV→Option β) :
  UQ E t op g (iv a) (iv b) k=(Gc E op t (iv a) (iv b)).bind k:=by
 cases a with
 | ofNat a =>
  cases b with
  | ofNat b =>
   show AhR (g a b) k=_
   rw [Wr,show Gc E op t (iv (Int.ofNat a)) (iv (Int.ofNat b))=some (.fv (.bool (g a b))) from hg a b]
   rfl
  | negSucc b =>
   show CX E t op _ _ k=_
   rw [CX,CK]
 | negSucc a =>
  show CX E t op _ _ k=_
  rw [CX,CK]
theorem Asm (a b:Int) (k:IV→Option β):A5 E t (iv a) (iv b) k=k (.fv (.bool (decide (a=b)))):=by
 rw [A5,MC (fun a b=>by
  show some (IV.fv (.bool ((a:Int) == (b:Int))))=_
  rw [Is];congr 3;exact decide_eq_decide.2 Int.ofNat_inj)]
 rfl
theorem Ask (a b:Int) (k:IV→Option β):Hg E t (iv a) (iv b) k=k (.fv (.bool (!decide (a=b)))):=by
 rw [Hg,MC (fun a b=>by
  show some (IV.fv (.bool ((a:Int) != (b:Int))))=_
  rw [Is];congr 3
  show (!decide ((a:Int)=(b:Int)))=!decide (a=b)
  congr 1;exact decide_eq_decide.2 Int.ofNat_inj)]
 rfl
theorem AsB (a b:Int) (k:IV→Option β):GV E t (iv a) (iv b) k=k (.fv (.bool (decide (a<b)))):=by
 rw [GV,MC (fun a b=>by
  show some (IV.fv (.bool (decide ((a:Int)<(b:Int)))))=_
  rw [Bb];congr 3;exact decide_eq_decide.2 (by omega))]
 rfl
theorem Ar6 (a b:Int) (k:IV→Option β):leS E t (iv a) (iv b) k=k (.fv (.bool (decide (a≤b)))):=by
 rw [leS,MC (fun a b=>by
  show some (IV.fv (.bool (decide ((a:Int)≤(b:Int)))))=_
  rw [Bb];congr 3;exact decide_eq_decide.2 (by omega))]
 rfl
theorem ArM (b:Bool) (k:IV→Option β):CO (L9 .not (.fv (.bool b))) k=k (.fv (.bool !b)):=by
 rw [CK];rfl
end
end Idl
end Go.Proofs.Ytaifgaidaglblaa
namespace Go.Proofs.Ytaifgaidaglblaa
namespace Idl
section
variable {β:Type} {α:Type}
theorem n0 (a:α) (l:List α) (k:α→Option β):Ds (a::l) 0 k=k a:=rfl
theorem n1 (a b:α) (l:List α) (k:α→Option β):Ds (a::b::l) 1 k=k b:=rfl
theorem n2 (a b c:α) (l:List α) (k:α→Option β):Ds (a::b::c::l) 2 k=k c:=rfl
theorem n3 (a b c d:α) (l:List α) (k:α→Option β):Ds (a::b::c::d::l) 3 k=k d:=rfl
theorem n4 (a b c d e:α) (l:List α) (k:α→Option β):Ds (a::b::c::d::e::l) 4 k=k e:=rfl
theorem n5 (a b c d e f:α) (l:List α) (k:α→Option β):Ds (a::b::c::d::e::f::l) 5 k=k f:=rfl
theorem n6 (a b c d e f g:α) (l:List α) (k:α→Option β):Ds (a::b::c::d::e::f::g::l) 6 k=k g:=rfl
theorem d0 (l:List α) (k:List α→Option β):FY l 0 k=k l:=by cases l<;>rfl
theorem d1 (a:α) (l:List α) (k:List α→Option β):FY (a::l) 1 k=k l:=by cases l<;>rfl
theorem d2 (a b:α) (l:List α) (k:List α→Option β):FY (a::b::l) 2 k=k l:=by cases l<;>rfl
theorem d3 (a b c:α) (l:List α) (k:List α→Option β):FY (a::b::c::l) 3 k=k l:=by cases l<;>rfl
theorem d4 (a b c d:α) (l:List α) (k:List α→Option β):FY (a::b::c::d::l) 4 k=k l:=by cases l<;>rfl
theorem t1 (a:α) (l:List α) (k:List α→Option β):Gh (a::l) 1 k=k [a]:=by cases l<;>rfl
theorem t2 (a b:α) (l:List α) (k:List α→Option β):Gh (a::b::l) 2 k=k [a,b]:=by cases l<;>rfl
theorem t3 (a b c:α) (l:List α) (k:List α→Option β):Gh (a::b::c::l) 3 k=k [a,b,c]:=by cases l<;>rfl
theorem t4 (a b c d:α) (l:List α) (k:List α→Option β):Gh (a::b::c::d::l) 4 k=k [a,b,c,d]:=by cases l<;>rfl
theorem t7 (a b c d e f g:α) (l:List α) (k:List α→Option β):Gh (a::b::c::d::e::f::g::l) 7 k=k [a,b,c,d,e,f,g]:=by cases l<;>rfl
theorem AjZ (l:List α) (k:List α→Option β):spK l k=k l:=Ik l k
theorem ap0 (us:List α) (k:List α→Option β):Nw [] us k=k us:=rfl
theorem ap1 (u:α) (l us:List α) (k:List α→Option β):Nw (u::l) us k=Nw l us fun w=>k (u::w):=rfl
theorem ArP (a:α) (l:List α) (k:α→List α→Option β):Aw (a::l) k=k a l:=rfl
theorem c_t {γ:Type} (a b:γ):cond true a b=a:=rfl
theorem c_f {γ:Type} (a b:γ):cond false a b=b:=rfl
end
section
variable {β:Type}
theorem Akn {s j:Nat} (h:(s == j)=false):Nat.beq s j=false:=by
 rw [Is];simpa using h
theorem KS (s:Nat) (own:List (Nat×Blk)) (ext:List Blk) (k:Blk→Option β):Da (.own s) ⟨own,ext⟩ k=Fs own s k:=rfl
theorem Are (j:Nat) (own:List (Nat×Blk)) (ext:List Blk) (k:Blk→Option β):Da (.ext j) ⟨own,ext⟩ k=Ds ext j k:=rfl
theorem Al2 (s:Nat) (b:Blk) (l:List (Nat×Blk)) (k:Blk→Option β):Fs ((s,b)::l) s k=k b:=by
 show cond (Nat.beq s s) (k b) _=_
 rw [show Nat.beq s s=true from Nat.beq_refl s]
 rfl
theorem Aqm {s j:Nat} (hne:(s == j)=false) (b:Blk) (l:List (Nat×Blk)) (k:Blk→Option β):Fs ((j,b)::l) s k=Fs l s k:=by
 show cond (Nat.beq s j) (k b) _=_
 rw [show Nat.beq s j=false from Akn hne]
 rfl
theorem Asd (s:Nat) (b:Blk) (k:List (Nat×Blk)→Option β):A0 [] s b k=k [(s,b)]:=rfl
theorem Amq (s:Nat) (b c:Blk) (l:List (Nat×Blk)) (k:List (Nat×Blk)→Option β):A0 ((s,c)::l) s b k=k ((s,b)::l):=by
 show cond (Nat.beq s s) _ _=_
 rw [show Nat.beq s s=true from Nat.beq_refl s]
 rfl
theorem AmU {s j:Nat} (hne:(s == j)=false) (b c:Blk) (l:List (Nat×Blk)) (k:List (Nat×Blk)→Option β):A0 ((j,c)::l) s b k=A0 l s b fun l=>k ((j,c)::l):=by
 show cond (Nat.beq s j) _ _=_
 rw [show Nat.beq s j=false from Akn hne]
 rfl
theorem Asn (s:Nat) (a:Option β):CT [] s a=a:=rfl
theorem Anu {s j:Nat} (hne:(s == j)=false) (b:Blk) (l:List (Nat×Blk)) (a:Option β):CT ((j,b)::l) s a=CT l s a:=by
 show cond (Nat.beq s j) none _=_
 rw [show Nat.beq s j=false from Akn hne]
 rfl
theorem AdE (s:Nat) (b:Blk) (own:List (Nat×Blk)) (ext:List Blk) (k:Hp→Option β):Ge (.own s) b ⟨own,ext⟩ k=A0 own s b fun own=>k ⟨own,ext⟩:=rfl
theorem AjI (j:Nat) (b:Blk) (own:List (Nat×Blk)) (ext:List Blk) (k:Hp→Option β):Ge (.ext j) b ⟨own,ext⟩ k=Q1 ext j b fun ext=>k ⟨own,ext⟩:=rfl
theorem sn0 {α:Type} (a b:α) (l:List α) (k:List α→Option β):Q1 (a::l) 0 b k=k (b::l):=rfl
theorem AsX (s:Nat) (b:Blk) (v:IV) (own:List (Nat×Blk)) (ext:List Blk) (k:IV→Hp→List Ref→List Ref→Option β) :
  AH s b v ⟨own,ext⟩ k=CT own s (A0 own s b fun own=>k v ⟨own,ext⟩ [] [.own s]):=rfl
theorem NK (s:Nat) (cs:List FV) (h:Hp) (k:IV→Hp→List Ref→List Ref→Option β):A4 s (.fv (.agg cs)) h k=AH s (.row (cs.map .fv) false) (.ptr (.own s) 0) h k:=by
 show spK (cs.map IV.fv) _=_
 rw [Ik]
theorem Ar2 (s:Nat) (a b:FV) (h:Hp) (k:IV→Hp→List Ref→List Ref→Option β):A4 s (.fv (.agg [a,b])) h k=AH s (.row [.fv a,.fv b] false) (.ptr (.own s) 0) h k:=NK ..
theorem Asu (s:Nat) (a b c:FV) (h:Hp) (k:IV→Hp→List Ref→List Ref→Option β):A4 s (.fv (.agg [a,b,c])) h k=AH s (.row [.fv a,.fv b,.fv c] false) (.ptr (.own s) 0) h k:=NK ..
theorem AqS (s:Nat) (a b c d:FV) (h:Hp) (k:IV→Hp→List Ref→List Ref→Option β):A4 s (.fv (.agg [a,b,c,d])) h k=AH s (.row [.fv a,.fv b,.fv c,.fv d] false) (.ptr (.own s) 0) h k:=NK ..
theorem Asl (s:Nat) (a:FV) (h:Hp) (k:IV→Hp→List Ref→List Ref→Option β):A4 s (.fv (.agg [a])) h k=AH s (.row [.fv a] false) (.ptr (.own s) 0) h k:=NK ..
theorem V1 (s:Nat) (cs:List IV) (h:Hp) (k:IV→Hp→List Ref→List Ref→Option β):A4 s (.agg cs) h k=AH s (.row cs false) (.ptr (.own s) 0) h k:=by
 show spK cs _=_
 rw [Ik]
theorem Akh {x:IV} (hx:x.one=true) (s:Nat) (h:Hp) (k:IV→Hp→List Ref→List Ref→Option β):A4 s x h k=AH s (.row [x] false) (.ptr (.own s) 0) h k:=by
 unfold A4;rw [hx];rfl
theorem An7 (k:IntKind) (n:Int):IV.one (.fv (.int k n))=true:=rfl
theorem Akt (b:Bool):IV.one (.fv (.bool b))=true:=rfl
theorem Ar4 (l:List FV):IV.one (.fv (.sl l))=true:=rfl
theorem AsH (l:List FV) (o:Nat):IV.one (.fv (.fp l o))=true:=rfl
theorem AjF (fn:Fn) (a b:List FV):IV.one (.fv (.func fn a b))=true:=rfl
theorem AlD:IV.one (.fv .nilp)=true:=rfl
theorem Akz:IV.one .nils=true:=rfl
theorem ApW (r:Ref) (o:Nat):IV.one (.ptr r o)=true:=rfl
theorem AnP (r:Ref) (a b:Nat):IV.one (.slc r a b)=true:=rfl
theorem Ann (r:Ref) (l:List FV):IV.one (.app r l)=true:=rfl
theorem AkX (l:List FV):IV.one (.clip l)=true:=rfl
theorem Aqe:IV.one .emp=true:=rfl
theorem ApF (l:List IV):IV.one (.agg l)=false:=rfl
theorem Alt (l:List FV):IV.one (.fv (.agg l))=false:=rfl
theorem ApU (k:IntKind) (n:Int):Ig (.int k n)=true:=rfl
theorem Alo (b:Bool):Ig (.bool b)=true:=rfl
theorem ArL (l:List FV):Ig (.sl l)=true:=rfl
theorem Ar0 (l:List FV) (o:Nat):Ig (.fp l o)=true:=rfl
theorem AkN:Ig .nilp=true:=rfl
theorem Ank (l:List FV):Ig (.agg l)=false:=rfl
theorem Ake:DE []=true:=rfl
theorem Vs {v:FV} (h:Ig v=true) (l:List FV):DE (v::l)=DE l:=by
 show cond (Ig v) (DE l) false=_
 rw [h];rfl
theorem XF (r:Ref) (o:Nat) (k:Ref→Nat→Option β) (kf:List FV→Nat→Option β):Ff (.ptr r o) k kf=k r o:=rfl
theorem AtN (cs:List FV) (o:Nat) (k:Ref→Nat→Option β) (kf:List FV→Nat→Option β):Ff (.fv (.fp cs o)) k kf=kf cs o:=rfl
theorem HS (cs:List IV) (ro:Bool) (k:List IV→Option β):DB (.row cs ro) k=k cs:=rfl
theorem AbZ (cs:List IV) (k:List IV→Option β):Hk (.row cs false) k=k cs:=rfl
theorem Ag4 (v:FV) (e:Option β) (k:FV→Option β):P7 (.fv v) e k=k v:=rfl
theorem Yp (l:List IV) (e:Option β) (k:FV→Option β):P7 (.agg l) e k=e:=rfl
theorem AmM (e:Option β) (k:FV→Option β):P7 .nils e k=e:=rfl
theorem Aoq (r:Ref) (o:Nat) (e:Option β) (k:FV→Option β):P7 (.ptr r o) e k=e:=rfl
theorem Anz (r:Ref) (o:List FV) (e:Option β) (k:FV→Option β):P7 (.app r o) e k=e:=rfl
theorem Apn (o:List FV) (e:Option β) (k:FV→Option β):P7 (.clip o) e k=e:=rfl
theorem Apq (r:Ref) (a b:Nat) (e:Option β) (k:FV→Option β):P7 (.slc r a b) e k=e:=rfl
theorem Ao4 (e:Option β) (k:FV→Option β):P7 .emp e k=e:=rfl
theorem Ano (cs:List FV) (k:List FV→Option β):HC (.agg cs) k=k cs:=rfl
theorem ArQ (cs:List IV) (k:List IV→Option β) (kf:List FV→Option β):asAgg (.agg cs) k kf=k cs:=rfl
theorem Am8 (cs:List FV) (k:List IV→Option β) (kf:List FV→Option β):asAgg (.fv (.agg cs)) k kf=kf cs:=rfl
theorem AlH (e:Option β) (k:List FV→Option β):Ct [] e k=k []:=rfl
theorem Ap8 (v:FV) (l:List IV) (e:Option β) (k:List FV→Option β):Ct (.fv v::l) e k=Ct l e fun vs=>k (v::vs):=rfl
theorem Ahv (l:List IV) (e:Option β) (k:List FV→Option β):Ct (.nils::l) e k=e:=rfl
theorem AjK (r:Ref) (es:List FV) (l:List IV) (e:Option β) (k:List FV→Option β):Ct (.app r es::l) e k=e:=rfl
theorem AgS (es:List FV) (l:List IV) (e:Option β) (k:List FV→Option β):Ct (.clip es::l) e k=e:=rfl
theorem Akj (r:Ref) (o:Nat) (l:List IV) (e:Option β) (k:List FV→Option β):Ct (.ptr r o::l) e k=e:=rfl
theorem AlF (r:Ref) (a b:Nat) (l:List IV) (e:Option β) (k:List FV→Option β):Ct (.slc r a b::l) e k=e:=rfl
theorem Aj9 (es l:List IV) (e:Option β) (k:List FV→Option β):Ct (.agg es::l) e k=e:=rfl
theorem AfO (r:Ref) (l:List IV) (e:Option β) (k:List FV→Option β):Ct (.mapr r::l) e k=e:=rfl
theorem AsF (l:List IV) (k:IV→Option β):Qe l k=Ct l (k (.agg l)) fun vs=>k (.fv (.agg vs)):=rfl
theorem Arm (l:List IV) (k:IV→Option β):Xi l k=Ct l (k (.tuple l)) fun vs=>k (.fv (.tuple vs)):=rfl
theorem Auf (a:IV) (h:Hp) (k:IV→List Ref→Option β):Af a h k=Ff a (fun r o=>Da r h fun b=>DB b fun cells=>Ds cells o fun v=>k v [r]) fun cells o=>Ds cells o fun v=>k (.fv v) []:=rfl
theorem Atj (size:Nat) (a:IV) (h:Hp) (k:IV→List Ref→Option β):Aj size a h k =
  Ff a (fun r o=>Da r h fun b=>DB b fun cells=>FY cells o fun cs=>Gh cs size fun cs=>Qe cs fun v=>k v [r]) fun cells o=>FY cells o fun cs=>Gh cs size fun cs=>k (.fv (.agg cs)) []:=rfl
theorem Anc (size:Nat) (a:IV) (h:Hp) (k:IV→Option β):AA true size a h k=Aj size a h fun v _=>k v:=rfl
theorem Aou (size:Nat) (a:IV) (h:Hp) (k:IV→Option β):AA false size a h k=Af a h fun v _=>k v:=rfl
theorem wr0 (l:List IV) (k:List IV→Option β):wrK [] l k=k l:=rfl
theorem wr1 (c:FV) (cs:List FV) (x:IV) (l:List IV) (k:List IV→Option β):wrK (c::cs) (x::l) k=wrK cs l fun t=>k (.fv c::t):=rfl
theorem sf0 (x:IV) (l:List IV) (cs:List FV) (k:List IV→Option β):Ef (x::l) 0 cs k=wrK cs (x::l) k:=rfl
theorem sf1 (x:IV) (l:List IV) (cs:List FV) (k:List IV→Option β):Ef (x::l) 1 cs k=Ef l 0 cs fun t=>k (x::t):=rfl
theorem sf2 (x y:IV) (l:List IV) (cs:List FV) (k:List IV→Option β):Ef (x::y::l) 2 cs k=Ef l 0 cs fun t=>k (x::y::t):=rfl
theorem sf3 (x y z:IV) (l:List IV) (cs:List FV) (k:List IV→Option β):Ef (x::y::z::l) 3 cs k=Ef l 0 cs fun t=>k (x::y::z::t):=rfl
theorem sf4 (x y z u:IV) (l:List IV) (cs:List FV) (k:List IV→Option β):Ef (x::y::z::u::l) 4 cs k=Ef l 0 cs fun t=>k (x::y::z::u::t):=rfl
theorem of0 (x b:IV) (l:List IV) (k:List IV→Option β):G7 (x::l) 0 b k=k (b::l):=rfl
theorem of1 (x y b:IV) (l:List IV) (k:List IV→Option β):G7 (x::y::l) 1 b k=k (x::b::l):=rfl
theorem of2 (x y z b:IV) (l:List IV) (k:List IV→Option β):G7 (x::y::z::l) 2 b k=k (x::y::b::l):=rfl
theorem of3 (x y z u b:IV) (l:List IV) (k:List IV→Option β):G7 (x::y::z::u::l) 3 b k=k (x::y::z::b::l):=rfl
theorem of6 (x y z u v w s b:IV) (l:List IV) (k:List IV→Option β):G7 (x::y::z::u::v::w::s::l) 6 b k=k (x::y::z::u::v::w::b::l):=rfl
theorem AtL (size:Nat) (a:IV) (cs:List FV) (h:Hp) (k:Hp→List Ref→List Ref→Option β):Ak size a (.fv (.agg cs)) h k =
  Ff a (fun r o=>Da r h fun b=>Hk b fun cells=>cond (and (Nat.beq cs.length size) (DE cs)) (Ef cells o cs fun cells=>Ge r (.row cells false) h fun h=>k h [r] [r]) none) fun _ _=>none:=rfl
theorem AiN (s:Nat) (x:IV):FG (.own s) x=true:=rfl
theorem At7 (s:Nat) (a b c:IV) (ha:a.one=true) (hb:b.one=true) (hc:c.one=true) (own:List (Nat×Blk)) (ext:List Blk) (k:Hp→List Ref→List Ref→Option β) :
  Ak 3 (.ptr (.own s) 0) (.agg [a,b,c]) ⟨own,ext⟩ k=Fs own s fun bl=>Hk bl fun cells=>cond (Nat.ble 3 cells.length) (Ge (.own s) (.row (A3 cells 0 [a,b,c]) false) ⟨own,ext⟩ fun h=>k h [.own s] [.own s]) none:=by
 show Fs own s (fun bl=>Hk bl fun cells=>if IV.alive (.agg [a,b,c])=true∧(IV.cells (.agg [a,b,c])).length=3∧0+3≤cells.length∧(IV.cells (.agg [a,b,c])).all IV.one=true∧FG (.own s) (.agg [a,b,c])=true then
  spK (A3 cells 0 (IV.cells (.agg [a,b,c]))) fun cells=>Ge (.own s) (.row cells false) ⟨own,ext⟩ fun h=>k h [.own s] [.own s] else none)=_
 congr 1
 funext bl
 congr 1
 funext cells
 by_cases h3:3≤cells.length
 ·rw [if_pos ⟨rfl,rfl,by omega,by simp [IV.cells,ha,hb,hc],rfl⟩,Ik,Bb,decide_eq_true h3];rfl
 ·rw [if_neg (fun h=>h3 (by omega)),Bb,decide_eq_false h3];rfl
theorem sc3 (a b c x y z:IV):A3 [x,y,z] 0 [a,b,c]=[a,b,c]:=rfl
theorem Auo (a x:IV) (h:Hp) (k:Hp→List Ref→List Ref→Option β):BB a x h k =
  cond x.one (Ff a (fun r o=>Da r h fun b=>Hk b fun cells=>cond (FG r x) (G7 cells o x fun cells=>Ge r (.row cells false) h fun h=>k h [r] [r]) none) fun _ _=>none) (Ak 1 a x h k):=rfl
theorem AtW (o:Nat) (r:Ref) (k:IV→Option β):Ac o (.ptr r 0) k=k (.ptr r o):=by rw [Alb,Nat.zero_add]
theorem Asy (o:Nat) (cs:List FV) (k:IV→Option β):Ac o (.fv (.fp cs 0)) k=k (.fv (.fp cs o)):=by rw [QM,Nat.zero_add]
theorem ArZ (r:Ref) (o:Nat) (k:IV→Option β):AE (.ptr r o) k=k (.ptr r o):=rfl
theorem Ass (cs:List FV) (o:Nat) (k:IV→Option β):AE (.fv (.fp cs o)) k=k (.fv (.fp cs o)):=rfl
theorem Aii (g:FuncId) (a b:List FV) (k:IV→Option β):AE (.fv (.func (.func g) a b)) k=k (.fv (.func (.func g) a b)):=rfl
theorem AtD (ix:Nat) (vs:List IV) (k:IV→Option β):AQ ix (.tuple vs) k=Ds vs ix k:=rfl
theorem Atf (ix:Nat) (vs:List FV) (k:IV→Option β):AQ ix (.fv (.tuple vs)) k=Ds vs ix fun v=>k (.fv v):=rfl
theorem AtF (o:Nat) (x:IV) (k:IV→Option β):Apm o x k=asAgg x (fun cs=>Ds cs o k) fun cs=>Ds cs o fun v=>k (.fv v):=rfl
theorem At4 (size o:Nat) (x:IV) (k:IV→Option β):AnX size o x k=asAgg x (fun cs=>FY cs o fun cs=>Gh cs size fun cs=>Qe cs k) fun cs=>FY cs o fun cs=>Gh cs size fun cs=>k (.fv (.agg cs)):=rfl
theorem Aq1 (z:List IV) (pl:List (Nat×Nat×IV)) (k:IV→Option β):BA z pl k=OA z pl fun cells=>Qe cells k:=rfl
theorem fk0 (z:List IV) (k:List IV→Option β):OA z [] k=k z:=rfl
theorem fk1 (z:List IV) (o sz:Nat) (v:IV) (pl:List (Nat×Nat×IV)) (k:List IV→Option β):OA z ((o,sz,v)::pl) k=HM z o sz v fun z=>OA z pl k:=rfl
theorem AnE {v:IV} (hv:v.one=true) (z:List IV) (o:Nat) (k:List IV→Option β):HM z o 1 v k=G7 z o v k:=by
 unfold HM;cases v with
 | fv w =>
  show cond (Ig w) _ _=_
  have:Ig w=true:=by cases w<;>first | rfl | cases hv
  rw [this];rfl
 | _=>show Aem _ _ _ _ _=_;unfold Aem;rw [hv];rfl
theorem AoI (z:List IV) (o sz:Nat) (cs:List FV) (k:List IV→Option β):HM z o sz (.fv (.agg cs)) k=cond (Nat.beq cs.length sz) (Ef z o cs k) none:=rfl
theorem nb3 (a b c:FV):Nat.beq [a,b,c].length 3=true:=rfl
theorem nb4 (a b c d:FV):Nat.beq [a,b,c,d].length 4=true:=rfl
theorem nb7 (a b c d e f g:FV):Nat.beq [a,b,c,d,e,f,g].length 7=true:=rfl
theorem nl3 (a b c:IV):Nat.ble 3 [a,b,c].length=true:=rfl
theorem AoT:(and true true)=true:=rfl
end
end Idl
end Go.Proofs.Ytaifgaidaglblaa
namespace Go.Proofs.Ytaifgaidaglblaa
namespace Idl
section
variable {β:Type} {E:Env} {t:TypeId}
theorem Xa (n:Int):IV.fv (.int .i64 n)=iv n:=rfl
def BI (n:Int):Int:=IntKind.i64.wrap n
theorem As {n:Int} (h1:-9223372036854775808≤n) (h2:n≤9223372036854775807):BI n=n:=by
 show (if (true && decide ((n % (18446744073709551616:Int)) ≥ (9223372036854775808:Int)))=true then (n % (18446744073709551616:Int)) - (18446744073709551616:Int) else (n % (18446744073709551616:Int)))=n
 by_cases h:0≤n
 ·have e:n % (18446744073709551616:Int)=n:=by omega
  have e2:¬ n ≥ (9223372036854775808:Int):=by omega
  rw [e,decide_eq_false e2];rfl
 ·have e:n % (18446744073709551616:Int)=n+18446744073709551616:=by omega
  have e2:n+18446744073709551616 ≥ (9223372036854775808:Int):=by omega
  rw [e,decide_eq_true e2];simp
theorem ArN (a b:Int) (k:IV→Option β):BC E t (iv a) (iv b) k=k (iv (BI (a+b))):=by
 have hg:CX E t .add (iv a) (iv b) k=k (iv (BI (a+b))):=by
  rw [CX,CK];rfl
 cases a with
 | negSucc a=>exact hg
 | ofNat a=>cases b with
  | negSucc b=>exact hg
  | ofNat b =>
   show cond (Nat.ble (a+b) 9223372036854775807) (OQ (a+b) k) _=_
   rw [Bb];by_cases h:a+b≤9223372036854775807
   ·rw [decide_eq_true h]
    show OQ (a+b) k=_
    rw [DF]
    have:BI (Int.ofNat a+Int.ofNat b)=((a+b:Nat):Int):=by
     rw [As (by simp only [Int.ofNat_eq_natCast];omega) (by simp only [Int.ofNat_eq_natCast];omega)];simp only [Int.ofNat_eq_natCast];omega
    rw [this]
   ·rw [decide_eq_false h];exact hg
theorem Aq6 (a b:Int) (k:IV→Option β):Be E t (iv a) (iv b) k=k (iv (BI (a - b))):=by
 have hg:CX E t .sub (iv a) (iv b) k=k (iv (BI (a - b))):=by
  rw [CX,CK];rfl
 cases a with
 | negSucc a=>exact hg
 | ofNat a=>cases b with
  | negSucc b=>exact hg
  | ofNat b =>
   show cond (and (Nat.ble b a) (Nat.ble a 9223372036854775807)) (OQ (a - b) k) _=_
   rw [Bb,Bb];by_cases h:b≤a∧a≤9223372036854775807
   ·rw [decide_eq_true h.1,decide_eq_true h.2]
    show OQ (a - b) k=_
    rw [DF]
    have:BI (Int.ofNat a - Int.ofNat b)=((a - b:Nat):Int):=by
     rw [As (by simp only [Int.ofNat_eq_natCast];omega) (by simp only [Int.ofNat_eq_natCast];omega)];simp only [Int.ofNat_eq_natCast];omega
    rw [this]
   ·have:(decide (b≤a) && decide (a≤9223372036854775807))=false:=by
     rw [← Bool.decide_and];exact decide_eq_false h
    rw [show and (decide (b≤a)) (decide (a≤9223372036854775807))=false from this]
    exact hg
theorem ArB (a b:Int) (k:IV→Option β):CX E t .mul (iv a) (iv b) k=k (iv (BI (a * b))):=by
 rw [CX,CK];rfl
theorem Ahf {b:Int} (hb:b≠0) (a:Int) (k:IV→Option β):CX E t .quo (iv a) (iv b) k=k (iv (BI (a.tdiv b))):=by
 rw [CX,CK]
 have:Gc E .quo t (iv a) (iv b)=some (iv (BI (a.tdiv b))):=by
  show (HH (Op.intDiv .quo .i64 a b)).bind JZ=_
  simp only [Op.intDiv,hb,if_false];rfl
 rw [this];rfl
theorem QL {b:Int} (hb:b≠0) (a:Int) (k:IV→Option β):CX E t .rem (iv a) (iv b) k=k (iv (a.tmod b)):=by
 rw [CX,CK]
 have:Gc E .rem t (iv a) (iv b)=some (iv (a.tmod b)):=by
  show (HH (Op.intDiv .rem .i64 a b)).bind JZ=_
  simp only [Op.intDiv,hb,if_false];rfl
 rw [this];rfl
theorem Atd (a b:Int) (k:IV→Option β):A5 E t (iv a) (iv b) k=k (.fv (.bool (decide (a=b)))):=Asm a b k
theorem AtP (a b:Int) (k:IV→Option β):Hg E t (iv a) (iv b) k=k (.fv (.bool (!decide (a=b)))):=Ask a b k
theorem Atp (a b:Int) (k:IV→Option β):GV E t (iv a) (iv b) k=k (.fv (.bool (decide (a<b)))):=AsB a b k
theorem Aue (a b:Int) (k:IV→Option β):leS E t (iv a) (iv b) k=k (.fv (.bool (decide (a≤b)))):=Ar6 a b k
theorem At8 (a b:Int) (k:IV→Option β):Nb E t (iv a) (iv b) k=k (.fv (.bool (decide (b<a)))):=by
 rw [Nb,MC (fun a b=>by
  show some (IV.fv (.bool (decide ((a:Int) > (b:Int)))))=_
  rw [Bb];congr 3;exact decide_eq_decide.2 (by omega))]
 rfl
theorem AtR (a b:Int) (k:IV→Option β):geS E t (iv a) (iv b) k=k (.fv (.bool (decide (b≤a)))):=by
 rw [geS,MC (fun a b=>by
  show some (IV.fv (.bool (decide ((a:Int) ≥ (b:Int)))))=_
  rw [Bb];congr 3;exact decide_eq_decide.2 (by omega))]
 rfl
theorem AsS (a b:Bool) (hT:E.T t=some ⟨1,1,.bool,[.fv (.bool false)]⟩) (k:IV→Option β):A5 E t (.fv (.bool a)) (.fv (.bool b)) k=k (.fv (.bool (a == b))):=by
 show CX E t .eql _ _ k=_
 rw [CX,CK]
 have:Gc E .eql t (.fv (.bool a)) (.fv (.bool b))=some (.fv (.bool (a == b))):=by
  simp only [Gc,hT,Ve]
 rw [this];rfl
theorem Arh (b:Bool) (k:IV→Option β):CO (L9 .not (.fv (.bool b))) k=k (.fv (.bool !b)):=ArM b k
theorem Auh (a b:Option β):Am (.fv (.bool true)) a b=a:=rfl
theorem AtV (a b:Option β):Am (.fv (.bool false)) a b=b:=rfl
theorem Atl (c:Prop) [Decidable c] (a b:Option β):Am (.fv (.bool (decide c))) a b=if c then a else b:=Aoi c a b
theorem Auc (c:Prop) [Decidable c] (a b:Option β):Am (.fv (.bool (!decide c))) a b=if c then b else a:=by
 by_cases h:c
 ·rw [decide_eq_true h,if_pos h];rfl
 ·rw [decide_eq_false h,if_neg h];rfl
theorem Aup (c:Bool) (a b:Option β):Am (.fv (.bool c)) a b=if c=true then a else b:=by
 cases c<;>rfl
theorem Ato (c a b:IV) (k:IV→Option β):AG c a b k=Am c (k a) (k b):=rfl
theorem Asf {b:Bool} (hb:b=true) (h:Hp) (m:(IV→Hp→List Ref→List Ref→Option β)→Option β) (k:IV→Hp→List Ref→List Ref→Option β):Ab (.fv (.bool b)) true h m k=m k:=by rw [hb];rfl
theorem Ar9 {b:Bool} (hb:b=false) (h:Hp) (m:(IV→Hp→List Ref→List Ref→Option β)→Option β) (k:IV→Hp→List Ref→List Ref→Option β):Ab (.fv (.bool b)) false h m k=m k:=by rw [hb];rfl
theorem Ars {b:Bool} (hb:b=true) (h:Hp) (m:(IV→Hp→List Ref→List Ref→Option β)→Option β) (k:IV→Hp→List Ref→List Ref→Option β):Ab (.fv (.bool b)) false h m k=k F6 h [] []:=by rw [hb];rfl
theorem ArU {b:Bool} (hb:b=false) (h:Hp) (m:(IV→Hp→List Ref→List Ref→Option β)→Option β) (k:IV→Hp→List Ref→List Ref→Option β):Ab (.fv (.bool b)) true h m k=k F6 h [] []:=by rw [hb];rfl
theorem Aum (w:Bool) (h:Hp) (m:(IV→Hp→List Ref→List Ref→Option β)→Option β) (k:IV→Hp→List Ref→List Ref→Option β):Ab F6 w h m k=k F6 h [] []:=rfl
theorem ch0 (rd wr:List Ref) (a:Option β):Ad [] rd wr a=a:=rfl
theorem ch1 (q1 q2:List Ref) (l:List (List Ref×List Ref)) (rd wr:List Ref) (a:Option β):Ad ((q1,q2)::l) rd wr a=cond (P9 q2 rd) (cond (P9 q2 wr) (cond (P9 wr q1) (Ad l rd wr a) none) none) none:=rfl
theorem dj0 (b:List Ref):P9 [] b=true:=rfl
theorem djn:∀(a:List Ref),P9 a []=true
 | []=>rfl
 | _::a=>djn a
theorem dj1 (r:Ref) (a b:List Ref):P9 (r::a) b=cond (LF r b) (P9 a b) false:=rfl
theorem an0 (r:Ref):LF r []=true:=rfl
theorem an1 (r s:Ref) (l:List Ref):LF r (s::l)=cond (Nn r s) (LF r l) false:=rfl
theorem AtO {i j:Nat} (h:(i == j)=false):Nn (.own i) (.own j)=true:=by
 show not (Nat.beq i j)=true
 rw [show Nat.beq i j=false from Akn h];rfl
theorem AsZ (i j:Nat):Nn (.own i) (.ext j)=true:=rfl
theorem AsY (i j:Nat):Nn (.ext i) (.own j)=true:=rfl
theorem Atw (v:IV) (h:Hp):An [v] h=some (v,h):=rfl
theorem Aub (h:Hp):An [] h=some (.fv (.tuple []),h):=rfl
theorem Atm (a b:IV) (h:Hp):An [a,b] h=Xi [a,b] fun v=>some (v,h):=rfl
theorem Atn (a b c:IV) (h:Hp):An [a,b,c] h=Xi [a,b,c] fun v=>some (v,h):=rfl
theorem Aun (a b c d:IV) (h:Hp):An [a,b,c,d] h=Xi [a,b,c,d] fun v=>some (v,h):=rfl
theorem Ard (es:List FV) (k:IV→Option β):BP (.fv (.sl es)) k=k (iv es.length):=DF ..
theorem Ar8 (k:IV→Option β):BP .nils k=k (iv 0):=rfl
theorem AsR (es:List FV) (k:IV→Option β):BP (.clip es) k=k (iv es.length):=DF ..
theorem ArC (r:Ref) (es:List FV) (k:IV→Option β):BP (.app r es) k=k (iv es.length):=DF ..
theorem ArX (r:Ref) (sz n:Nat) (k:IV→Option β):BP (.slc r sz n) k=k (iv n):=DF ..
theorem Bq {size:Nat} {es:List FV} {n:Nat} {el:FV} (he:es[n]?=some el) (hl:el.cells.length=size) (k:IV→Option β):A7 size (.fv (.sl es)) (iv n) k=k (.fv (.fp el.cells 0)):=Anx he hl k
theorem AtG {size:Nat} {r:Ref} {es:List FV} {n:Nat} {el:FV} (he:es[n]?=some el) (hl:el.cells.length=size) (k:IV→Option β):A7 size (.app r es) (iv n) k=k (.fv (.fp el.cells 0)):=Anx he hl k
theorem Ati {size:Nat} {es:List FV} {n:Nat} {el:FV} (he:es[n]?=some el) (hl:el.cells.length=size) (k:IV→Option β):A7 size (.clip es) (iv n) k=k (.fv (.fp el.cells 0)):=Anx he hl k
theorem Ats {size sz len:Nat} {r:Ref} {n:Nat} (hn:n<len) (hs:sz=size) (k:IV→Option β):A7 size (.slc r sz len) (iv n) k=k (.ptr r (n * sz)):=by
 show cond (and (Nat.ble (Nat.succ n) len) (Nat.beq sz size)) (D7 (n * sz) fun o=>k (.ptr r o)) none=_
 rw [Bb,decide_eq_true (show Nat.succ n≤len from hn),hs,show Nat.beq size size=true from Nat.beq_refl size]
 simp only [Bool.and_self,cond_true];rw [BT]
theorem Alp (size:Nat) (cs:List FV) (es:List FV) (hl:cs.length=size) (k:IV→Option β):A7 size (.fv (.sl (.agg cs::es))) (iv 0) k=k (.fv (.fp cs 0)):=Bq (el:=.agg cs) (n:=0) rfl hl k
theorem AkM (size:Nat) (cs:List FV) (e:FV) (es:List FV) (hl:cs.length=size) (k:IV→Option β):A7 size (.fv (.sl (e :: .agg cs::es))) (iv 1) k=k (.fv (.fp cs 0)):=Bq (el:=.agg cs) (n:=1) rfl hl k
theorem AlI (size:Nat) (cs:List FV) (e e':FV) (es:List FV) (hl:cs.length=size) (k:IV→Option β):A7 size (.fv (.sl (e::e' :: .agg cs::es))) (iv 2) k=k (.fv (.fp cs 0)):=Bq (el:=.agg cs) (n:=2) rfl hl k
theorem AkZ (size:Nat) (cs:List FV) (e e' e'':FV) (es:List FV) (hl:cs.length=size) (k:IV→Option β):A7 size (.fv (.sl (e::e'::e'' :: .agg cs::es))) (iv 3) k=k (.fv (.fp cs 0)):=Bq (el:=.agg cs) (n:=3) rfl hl k
def Fz (v:IV) (own:List (Nat×Blk)) (w:FV):Prop:=∃u lg,∀(e:Option (IV×Hp)) (K:FV→List (Ref×Blk)→List Ref→Option (IV×Hp)),Dj 12 v ⟨own,[]⟩ [] e K=K w u lg
def Bc (r:Option (IV×Hp)) (w:FV):Prop:=∃v own,r=some (v,⟨own,[]⟩) ∧
 (Fz v own w∨((∀(e:Option (IV×Hp)) (K:FV→List (Ref×Blk)→List Ref→Option (IV×Hp)),Dj 12 v ⟨own,[]⟩ [] e K=e)∧∃u,(C2 4096 v).run ⟨own,[]⟩=some (w,u)))
def JV (r:Option (IV×Hp)) (w:FV):Prop:=∃v own,r=some (v,⟨own,[]⟩)∧Fz v own w
theorem AlY (w:FV) (own:List (Nat×Blk)):Fz (.fv w) own w:=⟨[],[],fun _ _=>rfl⟩
theorem Ao (w:FV) (own:List (Nat×Blk)):Bc (some (.fv w,⟨own,[]⟩)) w:=⟨_,own,rfl,.inl (AlY w own)⟩
def Gf:IV→Option FV
 | .fv v=>some v
 | .nils=>some (.sl [])
 | .emp=>some (.sl [])
 | .clip es=>some (.sl es)
 | .app _ es=>some (.sl es)
 | _=>none
def Di:List IV→Option (List FV)
 | []=>some []
 | v::l=>(Gf v).bind fun x=>(Di l).map fun xs=>x::xs
def A8 (v:IV):Option FV:=match v with
 | .agg cs=>if cs.length≤8 then (Di cs).map .agg else none
 | v=>Gf v
def Bz:List IV→Option (List FV)
 | []=>some []
 | v::l=>(A8 v).bind fun x=>(Bz l).map fun xs=>x::xs
theorem Asb (v:FV):A8 (.fv v)=some v:=rfl
theorem AkC:A8 .nils=some (.sl []):=rfl
theorem Apv:A8 .emp=some (.sl []):=rfl
theorem Aln (es:List FV):A8 (.clip es)=some (.sl es):=rfl
theorem Aof (r:Ref) (es:List FV):A8 (.app r es)=some (.sl es):=rfl
theorem Ar7 (v:FV):Gf (.fv v)=some v:=rfl
theorem Aks:Gf .nils=some (.sl []):=rfl
theorem Ant:Gf .emp=some (.sl []):=rfl
theorem Alr (es:List FV):Gf (.clip es)=some (.sl es):=rfl
theorem ApS (r:Ref) (es:List FV):Gf (.app r es)=some (.sl es):=rfl
theorem Atq {a b c:IV} {x y z:FV} (ha:Gf a=some x) (hb:Gf b=some y) (hc:Gf c=some z):A8 (.agg [a,b,c])=some (.agg [x,y,z]):=by
 show (if 3≤8 then (Di [a,b,c]).map FV.agg else none)=_
 simp [Di,ha,hb,hc]
theorem Aug {a b c d:IV} {x y z u:FV} (ha:Gf a=some x) (hb:Gf b=some y) (hc:Gf c=some z) (hd:Gf d=some u):A8 (.agg [a,b,c,d])=some (.agg [x,y,z,u]):=by
 show (if 4≤8 then (Di [a,b,c,d]).map FV.agg else none)=_
 simp [Di,ha,hb,hc,hd]
theorem Al6 {v:IV} {x:FV} (d:Nat) (h:Hp) (lg:List Ref) (e:Option β) (k:FV→List (Ref×Blk)→List Ref→Option β) (hz:Gf v=some x):Dj (d+1) v h lg e k=k x [] lg:=by
 cases v<;>first | (cases hz;rfl) | (cases hz)
theorem Aav (d:Nat) (h:Hp) (lg:List Ref) (e:Option β):∀(cs:List IV) (k:List FV→List (Ref×Blk)→List Ref→Option β) {xs:List FV},Di cs=some xs→Cz (Dj (d+1)) cs h lg e k=k xs [] lg
 | [],k,xs,hz=>by cases hz;rfl
 | v::cs,k,xs,hz=>by
  simp only [Di] at hz;cases h1:Gf v with
  | none=>rw [h1] at hz;cases hz
  | some x =>
   rw [h1] at hz;cases h2:Di cs with
   | none=>rw [h2] at hz;cases hz
   | some ys =>
    rw [h2] at hz;cases hz
    show Dj (d+1) v h lg e (fun y u lg=>Cz (Dj (d+1)) cs h lg e fun ys us lg=>Nw u us fun w=>k (y::ys) w lg)=_
    rw [Al6 d h lg e _ h1,Aav d h lg e cs _ h2];rfl
theorem JP {v:IV} {x:FV} (h:Hp) (lg:List Ref) (e:Option β) (k:FV→List (Ref×Blk)→List Ref→Option β) (hz:A8 v=some x):Dj 12 v h lg e k=k x [] lg:=by
 cases v with
 | agg cs =>
  simp only [A8] at hz;split at hz
  ·rename_i hl;cases h2:Di cs with
   | none=>rw [h2] at hz;cases hz
   | some ys =>
    rw [h2] at hz;cases hz
    show cond (Nat.ble cs.length 300) (Cz (Dj 11) cs h lg e fun cs u lg=>k (.agg cs) u lg) e=_
    rw [Bb,decide_eq_true (show cs.length≤300 by omega)]
    exact Aav 10 h lg e cs _ h2
  ·cases hz
 | _=>exact Al6 11 h lg e k hz
theorem Auj {v:IV} {x:FV} (hz:A8 v=some x) (own:List (Nat×Blk)):Fz v own x:=⟨[],[],fun e K=>JP _ _ e K hz⟩
theorem Bh {v:IV} {x:FV} (hz:A8 v=some x) (own:List (Nat×Blk)):Bc (some (v,⟨own,[]⟩)) x:=⟨v,own,rfl,.inl (Auj hz own)⟩
theorem fr1 {v:IV} {x:FV} (n:Nat) (hz:Gf v=some x):C2 (n+1) v=.ret (x,[]):=by
 cases v<;>first | (cases hz;rfl) | (cases hz)
theorem Aex:∀(cs:List IV) (n:Nat) {xs:List FV},cs.length+1<n→Di cs=some xs→frzL n cs=.ret (xs,[])
 | [],n+1,xs,_,hz=>by cases hz;rfl
 | v::cs,n+2,xs,hn,hz=>by
  simp only [Di] at hz;cases h1:Gf v with
  | none=>rw [h1] at hz;cases hz
  | some x =>
   rw [h1] at hz;cases h2:Di cs with
   | none=>rw [h2] at hz;cases hz
   | some ys =>
    rw [h2] at hz;cases hz;simp only [AwT] at hn;simp only [frzL,fr1 n h1,Rd.bind,Aex cs (n+1) (by omega) h2];rfl
theorem frp {v:IV} {x:FV} (n:Nat) (hn:20<n) (hz:A8 v=some x):C2 n v=.ret (x,[]):=by
 cases n with
 | zero=>omega
 | succ n =>
  cases v with
  | agg cs =>
   simp only [A8] at hz;split at hz
   ·rename_i hl;cases h2:Di cs with
    | none=>rw [h2] at hz;cases hz
    | some ys =>
     rw [h2] at hz;cases hz;simp only [C2,Aex cs n (by omega) h2,Rd.bind]
   ·cases hz
  | _=>exact fr1 n hz
theorem AmA:∀(cs:List IV) (n:Nat) {xs:List FV},cs.length+30<n→Bz cs=some xs→frzL n cs=.ret (xs,[])
 | [],n+1,xs,_,hz=>by cases hz;rfl
 | v::cs,n+1,xs,hn,hz=>by
  simp only [Bz] at hz;cases h1:A8 v with
  | none=>rw [h1] at hz;cases hz
  | some x =>
   rw [h1] at hz;cases h2:Bz cs with
   | none=>rw [h2] at hz;cases hz
   | some ys =>
    rw [h2] at hz;cases hz;simp only [AwT] at hn;simp only [frzL,frp n (by omega) h1,Rd.bind,AmA cs n (by omega) h2];rfl
theorem AX {vs:List IV} {xs:List FV} (hz:Bz vs=some xs) (hl:vs.length≤100) (own:List (Nat×Blk)):Bc (some (.tuple vs,⟨own,[]⟩)) (.tuple xs) :=
 ⟨_,own,rfl,.inr ⟨fun _ _=>rfl,[],by
  show (C2 (4095+1) (.tuple vs)).run _=_
  simp only [C2,AmA vs 4095 (by omega) hz,Rd.bind];rfl⟩⟩
theorem AnN:Bz []=some []:=rfl
theorem XJ {a b:IV} {x y:FV} (ha:A8 a=some x) (hb:A8 b=some y):Bz [a,b]=some [x,y]:=by simp [Bz,ha,hb]
theorem Afe {a b c:IV} {x y z:FV} (ha:A8 a=some x) (hb:A8 b=some y) (hc:A8 c=some z):Bz [a,b,c]=some [x,y,z]:=by simp [Bz,ha,hb,hc]
theorem AqT {a b c d:IV} {x y z u:FV} (ha:A8 a=some x) (hb:A8 b=some y) (hc:A8 c=some z) (hd:A8 d=some u):Bz [a,b,c,d]=some [x,y,z,u]:=by simp [Bz,ha,hb,hc,hd]
theorem AmZ {a:IV} {x:FV} (ha:A8 a=some x):Bz [a]=some [x]:=by simp [Bz,ha]
theorem Pj:∀(args:List IV) {vs:List FV},Bz args=some vs→Bv [] args=.ret (vs.map .fv,[],[])
 | [],vs,hz=>by cases hz;rfl
 | v::l,vs,hz=>by
  simp only [Bz] at hz;cases h1:A8 v with
  | none=>rw [h1] at hz;cases hz
  | some x =>
   rw [h1] at hz;cases h2:Bz l with
   | none=>rw [h2] at hz;cases hz
   | some ys =>
    rw [h2] at hz;cases hz;simp only [Bv,frp 4096 (by omega) h1,Rd.bind,Pj l h2];rfl
theorem fz0 (keep:List Bool) (h:Hp) (lg:List Ref) (e:Option β) (k:List IV→List Ref→List (Ref×Blk)→List Ref→Option β):Vg [] keep h lg e k=k [] [] [] lg:=rfl
theorem fz1 (x:IV) (l:List IV) (h:Hp) (lg:List Ref) (e:Option β) (k:List IV→List Ref→List (Ref×Blk)→List Ref→Option β) :
  Vg (x::l) [] h lg e k=Dj 12 x h lg e fun y u lg=>Vg l [] h lg e fun vs rs us lg=>Nw u us fun w=>k (.fv y::vs) rs w lg:=rfl
theorem Ajb (x:IV) (l:List IV) (ks:List Bool) (h:Hp) (lg:List Ref) (e:Option β) (k:List IV→List Ref→List (Ref×Blk)→List Ref→Option β) :
  Vg (x::l) (true::ks) h lg e k=Ff x (fun r o=>Vg l ks h lg e fun vs rs us lg=>k (.ptr r o::vs) (r::rs) us lg) fun _ _=>e:=rfl
theorem Xl (x:IV) (l:List IV) (ks:List Bool) (h:Hp) (lg:List Ref) (e:Option β) (k:List IV→List Ref→List (Ref×Blk)→List Ref→Option β) :
  Vg (x::l) (false::ks) h lg e k=Dj 12 x h lg e fun y u lg=>Vg l ks h lg e fun vs rs us lg=>Nw u us fun w=>k (.fv y::vs) rs w lg:=rfl
section
variable (d:Nat) (h:Hp) (lg:List Ref) (e:Option β) (k:FV→List (Ref×Blk)→List Ref→Option β)
theorem AgC (cs:List IV):Dj 12 (.agg cs) h lg e k=cond (Nat.ble cs.length 300) (Cz (Dj 11) cs h lg e fun cs u lg=>k (.agg cs) u lg) e:=rfl
theorem Xb (s:Nat) (off:Nat):Dj 12 (.ptr (.own s) off) h lg e k=Da (.own s) h fun b=>DB b fun cells=>cond (Nat.ble cells.length 300) (Cz (Dj 11) cells h (.own s::lg) e fun cs u lg=>k (.fp cs off) ((.own s,.row cells true)::u) lg) e:=rfl
theorem JL (v:FV):Dj 11 (.fv v) h lg e k=k v [] lg:=rfl
theorem fl0 (g:FzK β) (k:List FV→List (Ref×Blk)→List Ref→Option β):Cz g [] h lg e k=k [] [] lg:=rfl
theorem WF (g:FzK β) (x:IV) (l:List IV) (k:List FV→List (Ref×Blk)→List Ref→Option β):Cz g (x::l) h lg e k=g x h lg e fun y u lg=>Cz g l h lg e fun ys us lg=>Nw u us fun w=>k (y::ys) w lg:=rfl
end
def VR (rs:List Ref) (r:Option (IV×Hp)) (h:Hp) (u:List (Ref×Blk)) (lg:List Ref) (e:Option (IV×Hp)) (g:List Ref→Option (IV×Hp)) (k:IV→Hp→List Ref→List Ref→Option (IV×Hp)):Option (IV×Hp):=match rs with
 | []=>(match r with
  | none=>none
  | some p=>match p with
   | (v,h')=>match h' with
    | ⟨own,ext⟩=>List.casesOn (motive:=fun _=>Option (IV×Hp)) ext (Dj 12 v ⟨own,[]⟩ [] e fun w _ _=>Mb u h fun h2=>k (.fv w) h2 lg (Bw u)) fun _ _=>none)
 | r::rs=>g (r::rs)
theorem PY (keep:List Bool) (ih:Aa) (f:FuncId) (args:List IV) (h:Hp) (k:IV→Hp→List Ref→List Ref→Option (IV×Hp)):Al keep false false ih f args h k =
  Vg args keep h [] (GU keep false false ih f args h k) fun vs rs u lg=>VR rs (ih f vs ⟨[],[]⟩) h u lg (GU keep false false ih f args h k) (fun rs=>match rs with
   | []=>none
   | r::rs=>(match h with
    | ⟨own,ext⟩=>cond (Qi 400 (r::rs) 0 ext) (match ih f vs ⟨[],ext⟩ with
     | none=>none
     | some p=>match p with
      | (v,h')=>match h' with
       | ⟨own',ext'⟩=>cond (and (Nat.beq ext'.length ext.length) (okB ext.length ext'))
        (Dj 12 v ⟨own',ext'⟩ [] (GU keep false false ih f args h k) fun w _ _=>Mb u ⟨own,ext'⟩ fun h2=>k (.fv w) h2 ((CR ext.length).reverse++lg) (Bw u++CR ext.length)) none)
     (GU keep false false ih f args h k))) k:=by
 unfold Al;simp only [cond_false];congr 1
theorem AqX {r:Option (IV×Hp)} {w:FV} (hr:JV r w) (h:Hp) (u:List (Ref×Blk)) (lg:List Ref) (e:Option (IV×Hp)) (g:List Ref→Option (IV×Hp)) (k:IV→Hp→List Ref→List Ref→Option (IV×Hp)) :
  VR [] r h u lg e g k=Mb u h fun h2=>k (.fv w) h2 lg (Bw u):=by
 obtain ⟨v,own,rfl,u',lg',hz⟩:=hr;simp only [VR];rw [hz]
theorem Aja:∀(args:List IV) {vs:List FV} (h:Hp) (lg:List Ref) (e:Option β) (k:List IV→List Ref→List (Ref×Blk)→List Ref→Option β),Bz args=some vs→Vg args [] h lg e k=k (vs.map .fv) [] [] lg
 | [],vs,h,lg,e,k,hz=>by cases hz;rfl
 | v::l,vs,h,lg,e,k,hz=>by
  simp only [Bz] at hz;cases h1:A8 v with
  | none=>rw [h1] at hz;cases hz
  | some x =>
   rw [h1] at hz;cases h2:Bz l with
   | none=>rw [h2] at hz;cases hz
   | some ys =>
    rw [h2] at hz;cases hz
    show Dj 12 v h lg e (fun y u lg=>Vg l [] h lg e fun vs rs us lg=>Nw u us fun w=>k (.fv y::vs) rs w lg)=_
    rw [JP h lg e _ h1,Aja l h lg e _ h2];rfl
theorem It (f:Ref→Option Ref):∀l:List FV,IV.ren.renL f (l.map .fv)=some (l.map .fv)
 | []=>rfl
 | v::l=>by
  simp only [AwV,IV.ren.renL,IV.ren,It f l];rfl
theorem PN {ih:Aa} {f:FuncId} {args:List IV} {vs:List FV} {w:FV} (hz:Bz args=some vs) (hr:Bc (ih f (vs.map .fv) ⟨[],[]⟩) w) (h:Hp) (k:IV→Hp→List Ref→List Ref→Option (IV×Hp)) :
  Al [] false false ih f args h k=k (.fv w) h [] []:=by
 obtain ⟨v,own,e,hv⟩:=hr;have hD:(∃u,(C2 4096 v).run ⟨own,[]⟩=some (w,u))→GU [] false false ih f args h k=k (.fv w) h [] []:=by
  rintro ⟨u,hu⟩;unfold GU;simp only [Pj args hz,Rd.runLog,Ck,It,AwU,Bd,E8 (CB 3),E8 C8,Mo,Bool.false_eq_true,if_false,e,hu,AwS,IV.ren]
  show (match laid h ([]++(Bw []).zip []) with | none=>none | some h'=>fH h' fun h'=>fV 3 (.fv w) fun res=>k res h' [] _)=_
  simp only [Bw,AwU,List.zip_nil_left,List.append_nil,laid,ON,CB]
 rw [PY,Aja args h [] _ _ hz,e];simp only [VR];rcases hv with ⟨u',lg',hf⟩ | ⟨hf,hu⟩
 ·rw [hf];rfl
 ·rw [hf];exact hD hu
theorem Gl {ih:Aa} {f:FuncId} {w:FV} (hr:Bc (ih f [] ⟨[],[]⟩) w) (h:Hp) (k:IV→Hp→List Ref→List Ref→Option (IV×Hp)) :
  Al [] false false ih f [] h k=k (.fv w) h [] []:=PN (vs:=[]) rfl hr h k
theorem Av {ih:Aa} {f:FuncId} {a:IV} {x w:FV} (hr:Bc (ih f [.fv x] ⟨[],[]⟩) w) (ha:A8 a=some x) (h:Hp) (k:IV→Hp→List Ref→List Ref→Option (IV×Hp)) :
  Al [] false false ih f [a] h k=k (.fv w) h [] []:=PN (AmZ ha) hr h k
theorem Ag {ih:Aa} {f:FuncId} {a b:IV} {x y w:FV} (hr:Bc (ih f [.fv x,.fv y] ⟨[],[]⟩) w) (ha:A8 a=some x) (hb:A8 b=some y) (h:Hp) (k:IV→Hp→List Ref→List Ref→Option (IV×Hp)) :
  Al [] false false ih f [a,b] h k=k (.fv w) h [] []:=PN (XJ ha hb) hr h k
theorem AZ {ih:Aa} {f:FuncId} {a b c:IV} {x y z w:FV} (hr:Bc (ih f [.fv x,.fv y,.fv z] ⟨[],[]⟩) w) (ha:A8 a=some x) (hb:A8 b=some y) (hc:A8 c=some z) (h:Hp) (k:IV→Hp→List Ref→List Ref→Option (IV×Hp)) :
  Al [] false false ih f [a,b,c] h k=k (.fv w) h [] []:=PN (Afe ha hb hc) hr h k
theorem AK {ih:Aa} {f:FuncId} {a b c d:IV} {x y z u w:FV} (hr:Bc (ih f [.fv x,.fv y,.fv z,.fv u] ⟨[],[]⟩) w) (ha:A8 a=some x) (hb:A8 b=some y) (hc:A8 c=some z) (hd:A8 d=some u) (h:Hp)
  (k:IV→Hp→List Ref→List Ref→Option (IV×Hp)):Al [] false false ih f [a,b,c,d] h k=k (.fv w) h [] []:=PN (AqT ha hb hc hd) hr h k
theorem KK (v:IV) (s:Nat) (h:Hp) (k:IV→Hp→List Ref→List Ref→Option β):Ay (.ret { eff:={ val:=v } }) s h k=k v h [] []:=by
 unfold Ay;simp only [Rd.runLog,I9,CB];rfl
theorem gen_val' (v:IV) (s:Nat) (h:Hp) (k:IV→Hp→List Ref→List Ref→Option β):Ay (Idl.val v) s h k=k v h [] []:=KK v s h k
theorem Cy {e:TypeId} {a b:Nat} {ei:TI} {z:List IV} (hT:E.T t=some ⟨a,b,.slice e,z⟩) (he:E.T e=some ei) {len:Nat} (hs:¬ (ei.size=0∨len * ei.size > 65536)) {parts:List (Nat×IV)} {cells:List FV}
  (hf:CA (fun j=>some (j * ei.size,ei.size)) (Qg len ei.zero) parts=some (cells.map .fv)) {s:Nat} {h:Hp} (k:IV→Hp→List Ref→List Ref→Option β) (hc:cells.length<65000:=by simp) :
  Ay (Ah E t len parts) s h k=k (.clip (BV ei.size len cells)) h [] []:=by
 have key:∀(l:List FV) (n:Nat),l.length<n→frzL n (l.map .fv)=.ret (l,[]):=by
  intro l
  induction l with
  | nil=>intro n hn;cases n with
   | zero=>simp at hn
   | succ n=>rfl
  | cons x l ih=>intro n hn;cases n with
   | zero=>simp at hn
   | succ n =>
    simp only [AwT] at hn;cases n with
    | zero=>omega
    | succ n =>
     simp only [AwV,frzL,C2,Rd.bind];rw [ih (n+1) (by omega)];rfl
 have:Ah E t len parts=.ret { eff:={ val:=.clip (BV ei.size len cells),upd:=[] } }:=by
  simp only [Ah,hT,he,if_neg hs,hf];rw [key _ _ (by omega)];rfl
 rw [this,KK]
end
end Idl
end Go.Proofs.Ytaifgaidaglblaa
namespace Go.Proofs.Ytaifgaidaglblaa
namespace Idl
def XY:=AwO @decide_true<|AwO @decide_false<|AwO @Bool.not_true<|AwO @Bool.not_false<|AwO @List.map_cons.{0,0}<|AwO @List.map_nil.{0,0}<|AwO @List.length_map.{0,0}<|AwO @List.length_cons.{0}<|AwO @List.length_nil.{0}<|AwO @Int.natCast_zero<|AwO @Int.natCast_one<|AwO @Bool.false_eq_true<|AwO @Bool.true_eq_false<|AwO @decide_eq_true_eq<|AwO @eq_self.{1}<|AwO @Bool.and_true<|AwO @Bool.true_and<|AwO @Bool.and_false<|AwO @Bool.false_and<|AwO @Nat.zero_add<|@Int.cast_ofNat_Int
def XE:=AwO @List.any_cons.{0}<|AwO @List.any_nil.{0}<|AwO @List.all_cons.{0}<|AwO @List.all_nil.{0}<|AwO @List.filter_cons.{0}<|AwO @List.filter_nil.{0}<|AwO @List.contains_cons.{0}<|AwO @List.contains_nil.{0}<|AwO @Bool.or_false<|AwO @Bool.or_true<|AwO @Bool.false_or<|AwO @Bool.true_or<|AwO @Bool.and_self<|AwO @Bool.not_eq_true<|AwO @BEq.rfl.{0}<|@beq_self_eq_true.{0}
def XX:=AwO @n0<|AwO @n1<|AwO @n2<|AwO @n3<|AwO @n4<|AwO @n5<|AwO @n6<|AwO @d0<|AwO @d1<|AwO @d2<|AwO @d3<|AwO @d4<|AwO @t1<|AwO @t2<|AwO @t3<|AwO @t4<|AwO @t7<|AwO @ap0<|AwO @ap1<|AwO @ArP<|AwO @c_t<|AwO @c_f<|AwO @KS<|AwO @Are<|AwO @Al2<|AwO @Aqm<|AwO @Asd<|AwO @Amq<|AwO @AmU<|AwO @Asn<|AwO @Anu<|AwO @AdE<|AwO @AjI<|AwO @sn0<|AwO @AsX<|AwO @Ar2<|AwO @Asu<|AwO @AqS<|AwO @Asl<|AwO @V1<|AwO @Akh<|AwO @An7<|AwO @Akt<|AwO @Ar4<|AwO @AsH<|AwO @AjF<|AwO @AlD<|AwO @Akz<|AwO @ApW<|AwO @AnP<|AwO @Ann<|AwO @AkX<|AwO @Aqe<|AwO @ApF<|AwO @Alt<|AwO @ApU<|AwO @Alo<|AwO @ArL<|AwO @Ar0<|AwO @AkN<|AwO @Ank<|AwO @Ake<|AwO @Vs<|AwO @XF<|AwO @AtN<|AwO @HS<|AwO @AbZ<|AwO @Ag4<|AwO @Yp<|AwO @AmM<|AwO @Aoq<|AwO @Anz<|AwO @Apn<|AwO @Apq<|AwO @Ao4<|AwO @Ano<|AwO @ArQ<|AwO @Am8<|AwO @AlH<|AwO @Ap8<|AwO @Ahv<|AwO @AjK<|AwO @AgS<|AwO @Akj<|AwO @AlF<|AwO @Aj9<|AwO @AfO<|AwO @AsF<|AwO @Arm<|AwO @Auf<|AwO @Atj<|AwO @Anc<|AwO @Aou<|AwO @wr0<|AwO @wr1<|AwO @sf0<|AwO @sf1<|AwO @sf2<|AwO @sf3<|AwO @sf4<|AwO @of0<|AwO @of1<|AwO @of2<|AwO @of3<|AwO @of6<|AwO @AtL<|AwO @AiN<|AwO @At7<|AwO @sc3<|AwO @Auo<|AwO @AtW<|AwO @Asy<|AwO @ArZ<|AwO @Ass<|AwO @Aii<|AwO @AtD<|AwO @Atf<|AwO @AtF<|AwO @At4<|AwO @Aq1<|AwO @fk0<|AwO @fk1<|AwO @AnE<|AwO @AoI<|AwO @nb3<|AwO @nb4<|AwO @nb7<|AwO @nl3<|AwO @AoT<|AwO @ArN<|AwO @Aq6<|AwO @ArB<|AwO @Ahf<|AwO @QL<|AwO @Atd<|AwO @AtP<|AwO @Atp<|AwO @Aue<|AwO @At8<|AwO @AtR<|AwO @AsS<|AwO @Arh<|AwO @Auh<|AwO @AtV<|AwO @Atl<|AwO @Auc<|AwO @Aup<|AwO @Ato<|AwO @Asf<|AwO @Ar9<|AwO @Ars<|AwO @ArU<|AwO @Aum<|AwO @ch0<|AwO @ch1<|AwO @dj0<|AwO @djn<|AwO @dj1<|AwO @an0<|AwO @an1<|AwO @AtO<|AwO @AsZ<|AwO @AsY<|AwO @Atw<|AwO @Aub<|AwO @Atm<|AwO @Atn<|AwO @Aun<|AwO @Ard<|AwO @Ar8<|AwO @AsR<|AwO @ArC<|AwO @ArX<|AwO @Bq<|AwO @AtG<|AwO @Ati<|AwO @Ats<|AwO @Alp<|AwO @AkM<|AwO @AlI<|AwO @AkZ<|AwO @Asb<|AwO @AkC<|AwO @Apv<|AwO @Aln<|AwO @Aof<|AwO @Ar7<|AwO @Aks<|AwO @Ant<|AwO @Alr<|AwO @ApS<|AwO @Atq<|AwO @Aug<|AwO @AnN<|AwO @XJ<|AwO @Afe<|AwO @AqT<|AwO @AmZ<|AwO @KK<|@gen_val'
def Ev (f:FuncId) (args:List IV) (w:FV):Prop:=∃N,∀n,N≤n→Bc (SS dt n f args ⟨[],[]⟩) w
theorem A6 {F:(List IV→Hp→Option (IV×Hp))→List IV→Hp→Option (IV×Hp)} {Q:Option (IV×Hp)→Prop} (P:Nat→List IV→Hp→Prop)
  (step:∀k V H rec,P k V H→(∀k' V' H',k' < k→P k' V' H'→Q (rec V' H'))→Q (F rec V H)):∀m k V H,k<m→P k V H→Q (BE m F V H):=by
 intro m
 induction m with
 | zero=>intro k V H h;omega
 | succ m ih=>intro k V H hk hP;exact step k V H (BE m F) hP fun k' V' H' h1 h2=>ih k' V' H' (by omega) h2
mutual
def Tm.wt:Tm→Nat
 | .mk _ _ l=>1+Tm.wtL l
def Tm.wtL:List Tm→Nat
 | []=>0
 | t::l=>t.wt+Tm.wtL l
end
theorem BN {t:Tm}:∀{l:List Tm},t∈l→t.wt≤Tm.wtL l
 | a::l,h=>by
  rcases List.mem_cons.1 h with rfl | h
  ·simp only [Tm.wtL];omega
  ·have:=BN h;simp only [Tm.wtL];omega
theorem Db:∀(l:List Tm),l.length≤Tm.wtL l
 | []=>Nat.zero_le _
 | (.mk _ _ k)::l=>by have:=Db l;simp only [Tm.wtL,Tm.wt,AwT];omega
theorem JT (t:Tm):0<t.wt:=by cases t;simp only [Tm.wt];omega
theorem Ai (op n:Int) (l:List Tm):(Tm.mk op n l).enc=.agg [.int .i64 op,.int .i64 n,.sl (l.map Tm.enc)]:=by simp only [Tm.enc,Aa4]
theorem AO {l:List Tm} {i:Nat} {op n:Int} {k:List Tm} (h:l[i]?=some (.mk op n k)):(l.map Tm.enc)[i]?=some (.agg [.int .i64 op,.int .i64 n,.sl (k.map Tm.enc)]):=by
 rw [List.getElem?_map,h,AwS,Ai]
theorem Ce {α:Type} {l pre rest:List α} {a:α} (h:l=pre++a::rest):l[pre.length]?=some a:=by
 rw [h,List.getElem?_append_right (Nat.le_refl _),Nat.sub_self];rfl
theorem Cb (a b c:FV):(FV.agg [a,b,c]).cells=[a,b,c]:=rfl
theorem A9 (a b c:FV):(FV.agg [a,b,c]).cells.length=3:=rfl
section
variable {β:Type} {E:Env}
def AfK (b:Blk) (n sz:Nat) (x:Option β):Option β:=match b with
 | .tok a s=>if a=n∧s=sz then x else none
 | _=>none
theorem H7 (n sz:Nat) (x:Option β):AfK (.tok n sz) n sz x=x:=by
 show (if n=n∧sz=sz then x else none)=x
 rw [if_pos ⟨rfl,rfl⟩]
inductive Plain2:IV→List FV→Prop
 | clip (es:List FV):Plain2 (.clip es) es
 | sl (es:List FV):Plain2 (.fv (.sl es)) es
 | app (r:Ref) (es:List FV):Plain2 (.app r es) es
theorem Xm {x:IV} {es:List FV} (h:Plain2 x es):C2 4096 x=.ret (.sl es,[]):=by cases h<;>rfl
structure SliceT (E:Env) (t:TypeId) (size:Nat):Prop where
 h:∃a b e z ei,E.T t=some ⟨a,b,.slice e,z⟩∧E.T e=some ei∧ei.size=size∧size≠0∧ei.bytes≤100000
theorem M8 {t:TypeId} {size:Nat} (T:SliceT E t size) {x:IV} {es2:List FV} (hx:Plain2 x es2) (h1:BK size es2=true) (hne:es2.isEmpty=false) (hb:es2.length≤1000000) {s0:IV} (hs:s0=.nils∨s0=.clip []) (s:Nat) (own:List (Nat×Blk)) (ext:List Blk)
  (k:IV→Hp→List Ref→List Ref→Option β):Ay (AY E s false .append [t,t] [s0,x]) s ⟨own,ext⟩ k=CT own s (A0 own s (.tok es2.length size) fun own=>k (.app (.own s) es2) ⟨own,ext⟩ [] [.own s]):=by
 obtain ⟨a,b,e,z,ei,hT,he,rfl,h0,hby⟩:=T.h;have hlen:¬ (BK ei.size []=false∨(([]:List FV).length+es2.length) * ei.bytes > 140737488355328∨([]:List FV).length+es2.length > 1073741824):=by
  have:es2.length * ei.bytes≤1000000 * 100000:=Nat.mul_le_mul hb hby
  rintro (h | h | h)
  ·cases h
  ·simp only [List.length_nil,Nat.zero_add] at h;omega
  ·simp only [List.length_nil,Nat.zero_add] at h;omega
 have key:AY E s false .append [t,t] [s0,x]=.ret { eff:={ val:=.app (.own s) es2,upd:=[] },new:=some (.tok es2.length ei.size) }:=by
  show FC E s t (some t) false s0 x=_
  simp only [FC,hT,Option.bind_some,he,Xm hx,Rd.bind,h0,h1,false_or,Bool.true_eq_false,if_false];rcases hs with rfl | rfl<;>simp only [Cg,if_neg hlen,hne,List.nil_append,Bool.false_eq_true,if_false]
 rw [key];unfold Ay;simp only [Rd.runLog]
 show (J7 (some (.tok es2.length ei.size)) s ⟨own,ext⟩ fun h=>fV 3 (.app (.own s) es2) fun v=>k v h [] ([]++[.own s]))=_
 simp only [J7,C8,CB];rfl
theorem Amd {t:TypeId} {size:Nat} (T:SliceT E t size) {x:IV} (hx:Plain2 x []) {s0:IV} (hs:s0=.nils∨s0=.clip []) (s:Nat) (h:Hp) (k:IV→Hp→List Ref→List Ref→Option β) :
  Ay (AY E s false .append [t,t] [s0,x]) s h k=k s0 h [] []:=by
 obtain ⟨a,b,e,z,ei,hT,he,rfl,h0,hby⟩:=T.h;have hlen:¬ (BK ei.size []=false∨(([]:List FV).length+([]:List FV).length) * ei.bytes > 140737488355328∨([]:List FV).length+([]:List FV).length > 1073741824):=by
  rintro (h | h | h)
  ·cases h
  ·simp at h
  ·simp at h
 have key:AY E s false .append [t,t] [s0,x]=.ret { eff:={ val:=s0,upd:=[] } }:=by
  show FC E s t (some t) false s0 x=_
  have h1:BK ei.size []=true:=rfl;simp only [FC,hT,Option.bind_some,he,Xm hx,Rd.bind,h0,h1,false_or,Bool.true_eq_false,if_false];rcases hs with rfl | rfl
  ·simp only [Cg];rw [if_neg hlen];simp
  ·simp only [Cg];rw [if_neg hlen];simp
 rw [key];exact KK s0 s h k
theorem VU {t:TypeId} {size:Nat} (T:SliceT E t size) {x:IV} {es es2:List FV} (hx:Plain2 x es2) (h1:BK size es2=true) (h2:BK size es=true) (ho:(es2.all fun e=>e.cells.all FV.one)=true) (hb:es.length+es2.length≤1000000) (r s:Nat)
  (own:List (Nat×Blk)) (ext:List Blk) (k:IV→Hp→List Ref→List Ref→Option β):Ay (AY E s false .append [t,t] [.app (.own r) es,x]) s ⟨own,ext⟩ k =
   Fs own r fun b=>AfK b es.length size (A0 own r (.tok (es.length+es2.length) size) fun own=>k (.app (.own r) (es++es2)) ⟨own,ext⟩ [.own r] [.own r]):=by
 obtain ⟨a,b,e,z,ei,hT,he,rfl,h0,hby⟩:=T.h;have hlen:¬ (BK ei.size es=false∨(es.length+es2.length) * ei.bytes > 140737488355328∨es.length+es2.length > 1073741824):=by
  have:(es.length+es2.length) * ei.bytes≤1000000 * 100000:=Nat.mul_le_mul hb hby
  rintro (h | h | h)
  ·rw [h2] at h;cases h
  ·omega
  ·omega
 have key:(AY E s false .append [t,t] [.app (.own r) es,x]).runLog ⟨own,ext⟩ []=(Ap r own).bind fun b=>match b with
   | .tok n sz=>if n=es.length∧sz=ei.size then some ({ eff:={ val:=.app (.own r) (es++es2),upd:=[(.own r,.tok (n+es2.length) sz)] } },[.own r]) else none
   | _=>none:=by
  show (FC E s t (some t) false (.app (.own r) es) x).runLog _ _=_
  simp only [FC,hT,Option.bind_some,he,Xm hx,Rd.bind,h0,h1,false_or,Bool.true_eq_false,if_false,Cg,if_neg hlen,Rd.runLog,ho,and_true]
  show (match Ap r own with | some b=>_ | none=>none)=_
  cases Ap r own with
  | none=>rfl
  | some b =>
   cases b with
   | tok n sz =>
    simp only [Option.bind_some];by_cases hc:n=es.length∧sz=ei.size
    ·rw [if_pos hc,if_pos hc];rfl
    ·rw [if_neg hc,if_neg hc];rfl
   | _=>rfl
 unfold Ay;rw [key,Bk];cases hl:Ap r own with
 | none=>simp
 | some b =>
  simp only [Option.bind_some];cases b with
  | tok n sz =>
   simp only [AfK];by_cases hc:n=es.length∧sz=ei.size
   ·rw [if_pos hc,if_pos hc];obtain ⟨rfl,rfl⟩:=hc
    show (fRf (.own r) fun q=>Da q ⟨own,ext⟩ fun _=>fBk (.tok (es.length+es2.length) ei.size) fun b=>Ge q b ⟨own,ext⟩ fun h=>J7 none s h fun h=>fV 3 (.app (.own r) (es++es2)) fun v=>k v h [.own r] ([.own r]++[]))=_
    simp only [OT,C8,CB,J7,Ge,Da];rw [Bk,hl];rfl
   ·rw [if_neg hc,if_neg hc]
  | row _ _=>rfl
  | map _=>rfl
end
end Idl
end Go.Proofs.Ytaifgaidaglblaa
namespace Go.Proofs.Ytaifgaidaglblaa
namespace Idl
theorem WE:EE.T 29=some ⟨1,24,.slice 31,[.nils]⟩:=by kernel_rfl
theorem tTm:EE.T 31=some ⟨3,40,.struct [(0,3),(1,3),(2,29)],[.fv (.int .i64 0),.fv (.int .i64 0),.nils]⟩:=by kernel_rfl
theorem sTm:SliceT EE 29 3:=⟨_,_,_,_,_,WE,tTm,rfl,by decide,by decide⟩
theorem Kd (a:Tm) (s:Nat) (h:Hp) (k:IV→Hp→List Ref→List Ref→Option (IV×Hp)):Ay (Ah EE 29 1 [(0,.fv a.enc)]) s h k=k (.clip [a.enc]) h [] []:=by
 obtain ⟨o1,n1,k1⟩:=a;exact Cy WE tTm (by decide) (cells:=[.int .i64 o1,.int .i64 n1,.sl (Tm.enc.encL k1)]) rfl k
theorem AmF (a b:Tm) (s:Nat) (h:Hp) (k:IV→Hp→List Ref→List Ref→Option (IV×Hp)):Ay (Ah EE 29 2 [(0,.fv a.enc),(1,.fv b.enc)]) s h k=k (.clip [a.enc,b.enc]) h [] []:=by
 obtain ⟨o1,n1,k1⟩:=a;obtain ⟨o2,n2,k2⟩:=b;exact Cy WE tTm (by decide) (cells:=[.int .i64 o1,.int .i64 n1,.sl (Tm.enc.encL k1),.int .i64 o2,.int .i64 n2,.sl (Tm.enc.encL k2)]) rfl k
theorem AlG (a:Tm):a.enc.cells.length=3:=by cases a;rfl
theorem Ak3 (a:Tm):a.enc.cells.all FV.one=true:=by cases a;rfl
theorem Sz (l:List Tm):BK 3 (l.map Tm.enc)=true:=by
 cases l with
 | nil=>rfl
 | cons a l=>simp only [AwV,BK,AlG,beq_self_eq_true]
theorem Rr (e:Tm) (s:Nat) (own:List (Nat×Blk)) (ext:List Blk) (k:IV→Hp→List Ref→List Ref→Option (IV×Hp)) :
  Ay (AY EE s false .append [29,29] [.nils,.clip [e.enc]]) s ⟨own,ext⟩ k=CT own s (A0 own s (.tok 1 3) fun own=>k (.app (.own s) [e.enc]) ⟨own,ext⟩ [] [.own s]) :=
 M8 sTm (.clip _) (Sz [e]) rfl (by simp) (.inl rfl) s own ext k
theorem NR {es:List Tm} (hb:es.length+1≤1000000) (e:Tm) (r s:Nat) (own:List (Nat×Blk)) (ext:List Blk) (k:IV→Hp→List Ref→List Ref→Option (IV×Hp)) :
  Ay (AY EE s false .append [29,29] [.app (.own r) (es.map Tm.enc),.clip [e.enc]]) s ⟨own,ext⟩ k =
   Fs own r fun b=>AfK b es.length 3 (A0 own r (.tok (es.length+1) 3) fun own=>k (.app (.own r) ((es++[e]).map Tm.enc)) ⟨own,ext⟩ [.own r] [.own r]):=by
 rw [VU sTm (.clip [e.enc]) (Sz [e]) (Sz es) (by simp [Ak3]) (by simpa using hb) r s own ext k];simp only [List.length_map,List.map_append,AwV,AwU,AwT,List.length_nil,Nat.zero_add]
theorem Aob {x m:Int} (h1:0<m) (h2:m≤4611686018427387904):(if x.tmod m<0 then BI (x.tmod m+m) else x.tmod m)=x % m:=by
 have a1:=Int.emod_nonneg x (show m≠0 by omega)
 have a2:=Int.emod_lt_of_pos x h1;have e1:x.tmod m=x - m * x.tdiv m:=by have:=Int.mul_tdiv_add_tmod x m;omega
 have e2:x % m=x - m * (x / m):=by have:=Int.mul_ediv_add_emod x m;omega
 have b1:-m<x.tmod m:=Int.lt_tmod_of_pos x h1;have b2:x.tmod m<m:=Int.tmod_lt_of_pos x h1;have key:∃q,x.tmod m=x % m+m * q:=⟨x / m - x.tdiv m,by rw [e1,e2,Int.mul_sub];omega⟩;obtain ⟨q,hq⟩:=key;have hq2:q=0∨q=-1:=by
  rcases Int.lt_trichotomy q 0 with h | h | h
  ·right;rcases Int.lt_trichotomy q (-1) with h' | h' | h'
   ·have:m * q≤m * (-2):=Int.mul_le_mul_of_nonneg_left (by omega) (by omega)
    omega
   ·exact h'
   ·omega
  ·exact .inl h
  ·have:m * 1≤m * q:=Int.mul_le_mul_of_nonneg_left (by omega) (by omega)
   omega
 rcases hq2 with rfl | rfl
 ·rw [if_neg (by omega)];omega
 ·rw [if_pos (by omega),As (by omega) (by omega)];omega
theorem Ar {n:Nat} (hn:0<n) (x:Int) {m:Int} (h1:0<m) (h2:m≤4611686018427387904):Bc (SS dt n 43 [iv x,iv m] ⟨[],[]⟩) (.int .i64 (x % m)):=by
 obtain ⟨n,rfl⟩:=Nat.exists_eq_add_of_lt hn;rw [Nat.zero_add,c43];simp only [S43,↓XX,XY,↓reduceIte,Nat.reduceBEq,Nat.reduceAdd,Int.reduceEq,Int.reduceLT,Int.reduceLE,↓QL (show m≠0 by omega)]
 rw [← Aob h1 h2];by_cases hc:x.tmod m<0<;>simp only [hc,if_true,if_false]<;>exact Ao _ _
theorem Fg {n:Nat} (hn:0<n) (op:Int):Bc (SS dt n 24 [iv op,.fv (.sl [])] ⟨[],[]⟩) (Tm.mk op 0 []).enc:=by
 obtain ⟨n,rfl⟩:=Nat.exists_eq_add_of_lt hn;rw [Nat.zero_add,c24];simp only [S24,↓XX,XY,↓reduceIte,Nat.reduceBEq,Nat.reduceAdd,Int.reduceEq,Int.reduceLT,Int.reduceLE];exact Ao _ _
theorem C6 {n:Nat} (hn:0<n) (op:Int) (l:List Tm):Bc (SS dt n 24 [iv op,.fv (.sl (l.map Tm.enc))] ⟨[],[]⟩) (Tm.mk op 0 l).enc:=by
 obtain ⟨n,rfl⟩:=Nat.exists_eq_add_of_lt hn;rw [Nat.zero_add,c24];simp only [S24,↓XX,XY,↓reduceIte,Nat.reduceBEq,Nat.reduceAdd,Int.reduceEq,Int.reduceLT,Int.reduceLE,Ai];exact Ao _ _
def Tm.kids:Tm→List Tm
 | .mk _ _ l=>l
def Tm.op:Tm→Int
 | .mk o _ _=>o
def Tm.n:Tm→Int
 | .mk _ n _=>n
def Tm.pick (r:Tm) (i:Nat):Tm:=match r.kids[i]? with
 | some k=>k
 | none=>.mk (BI (BI (r.op.tdiv 3)+i)) (BI (BI (r.n.tdiv 5)+BI (7 * i))) []
theorem AP {n:Nat} (hn:0<n) (r:Tm) (i:Nat):Bc (SS dt n 46 [.fv r.enc,iv i] ⟨[],[]⟩) (r.pick i).enc:=by
 obtain ⟨n,rfl⟩:=Nat.exists_eq_add_of_lt hn;rw [Nat.zero_add,c46];obtain ⟨op,m,ks⟩:=r;rw [Ai];simp only [Tm.pick,Tm.kids,Tm.op,Tm.n];cases hk:ks[i]? with
 | some k =>
  have hi:(i:Int)<ks.length:=by have:=(List.getElem?_eq_some_iff.1 hk).1;omega
  obtain ⟨o,p,l⟩:=k;simp only [XR,Yd,Yb,Yn,S46,↓XX,XY,↓reduceIte,Nat.reduceBEq,Nat.reduceAdd,Int.reduceEq,Int.reduceLT,Int.reduceLE,hi,↓Bq (AO hk) (A9 _ _ _),↓Cb,Ai];exact Ao _ _
 | none =>
  have hi:¬ (i:Int)<ks.length:=by have:=List.getElem?_eq_none_iff.1 hk;omega
  simp only [XR,Yd,Yb,Yn,S46,↓XX,XY,↓reduceIte,Nat.reduceBEq,Nat.reduceAdd,Int.reduceEq,Int.reduceLT,Int.reduceLE,hi,↓Ahf (show (3:Int)≠0 by decide),↓Ahf (show (5:Int)≠0 by decide)]
  exact Bh rfl _
section
variable {β:Type}
def Cj (s:Nat):IV→Bool
 | .ptr (.own j) _=>s == j
 | .slc (.own j) _ _=>s == j
 | .app (.own j) _=>s == j
 | .mapr (.own j)=>s == j
 | _=>false
def FQ:IV→Bool
 | .agg _ | .tuple _ | .func ..=>false
 | _=>true
def FL (s:Nat):Blk→Bool
 | .row cells _=>cells.any (Cj s)
 | _=>false
def Vp:Blk→Bool
 | .row cells _=>cells.all FQ
 | .tok ..=>true
 | .map _=>false
theorem AfH {v:IV} (h:FQ v=true) (s:Nat):(Ref.own s∈v.refs) ↔ Cj s v=true:=by
 cases v with
 | ptr r o=>cases r<;>simp [IV.refs,Cj]
 | slc r a b=>cases r<;>simp [IV.refs,Cj]
 | app r es=>cases r<;>simp [IV.refs,Cj]
 | mapr r=>cases r<;>simp [IV.refs,Cj]
 | agg _=>cases h
 | tuple _=>cases h
 | func _ _ _=>cases h
 | _=>simp [IV.refs,Cj]
theorem Kg:∀{l:List IV},l.all FQ=true→∀s,(Ref.own s∈IV.refs.refsL l) ↔ l.any (Cj s)=true
 | [],_,s=>by simp [IV.refs.refsL]
 | v::l,h,s=>by
  rw [List.all_cons,Bool.and_eq_true] at h;rw [IV.refs.refsL,List.mem_append,List.any_cons,Bool.or_eq_true,AfH h.1,Kg h.2]
theorem Ep {b:Blk} (h:Vp b=true) (s:Nat):(Ref.own s∈b.refs) ↔ FL s b=true:=by
 cases b with
 | row cells ro=>exact Kg h s
 | tok n sz=>simp [Blk.refs,FL]
 | map es=>cases h
theorem Ja (s:Nat):∀l:List Ref,anyIn [s] l=true ↔ Ref.own s∈l
 | []=>by simp [anyIn]
 | .own k::l=>by
  rw [anyIn,Bool.or_eq_true,Ja s l,List.mem_cons];simp [eq_comm]
 | .ext k::l=>by
  rw [anyIn,Ja s l,List.mem_cons];simp
def heldB (rm:List Nat) (vals:List IV) (own:List (Nat×Blk)) (ext:List Blk) (s:Nat):Bool :=
 vals.any (Cj s) || (own.any (fun p=>!rm.contains p.1 && FL s p.2) || ext.any (FL s))
def JJ (rm:List Nat) (vals:List IV) (own:List (Nat×Blk)) (ext:List Blk):List (Nat×Blk):=own.filter fun p=>!rm.contains p.1 || heldB rm vals own ext p.1
def AL (rm:List Nat) (vals:List IV) (own:List (Nat×Blk)) (ext:List Blk):Bool :=
 vals.all FQ && (own.all (fun p=>Vp p.2) && (ext.all Vp && own.all fun p=>!rm.contains p.1 || rm.all fun s=>!FL s p.2))
theorem VW {rm:List Nat} {vals:List IV} {own:List (Nat×Blk)} {ext:List Blk} (hf:AL rm vals own ext=true) (s:Nat) :
  Ref.own s∈IV.refs.refsL vals++(own.filter fun p=>!rm.contains p.1).flatMap (fun p=>p.2.refs)++ext.flatMap Blk.refs ↔ heldB rm vals own ext s=true:=by
 simp only [AL,Bool.and_eq_true] at hf;obtain ⟨h1,h2,h3,_⟩:=hf;have e1:Ref.own s∈(own.filter fun p=>!rm.contains p.1).flatMap (fun p=>p.2.refs) ↔ (own.any fun p=>!rm.contains p.1 && FL s p.2)=true:=by
  rw [List.mem_flatMap,List.any_eq_true];constructor
  ·rintro ⟨p,hp,hr⟩;obtain ⟨hp1,hp2⟩:=List.mem_filter.1 hp;exact ⟨p,hp1,by rw [hp2,(Ep (List.all_eq_true.1 h2 p hp1) s).1 hr];rfl⟩
  ·rintro ⟨p,hp,hr⟩;rw [Bool.and_eq_true] at hr;exact ⟨p,List.mem_filter.2 ⟨hp,hr.1⟩,(Ep (List.all_eq_true.1 h2 p hp) s).2 hr.2⟩
 have e2:Ref.own s∈ext.flatMap Blk.refs ↔ ext.any (FL s)=true:=by
  rw [List.mem_flatMap,List.any_eq_true];constructor
  ·rintro ⟨p,hp,hr⟩;exact ⟨p,hp,(Ep (List.all_eq_true.1 h3 p hp) s).1 hr⟩
  ·rintro ⟨p,hp,hr⟩;exact ⟨p,hp,(Ep (List.all_eq_true.1 h3 p hp) s).2 hr⟩
 rw [List.mem_append,List.mem_append,Kg h1,e1,e2,heldB,Bool.or_eq_true,Bool.or_eq_true,or_assoc]
theorem AD {base rm:List Nat} {vals:List IV} {own:List (Nat×Blk)} {ext:List Blk} (hb:rm.any base.contains=false) (hf:AL rm vals own ext=true) (k:Hp→Option β) :
  Bg base rm vals ⟨own,ext⟩ k=k ⟨JJ rm vals own ext,ext⟩:=by
 have hm:=VW hf;have hf0:=hf;simp only [AL,Bool.and_eq_true] at hf0;obtain ⟨g1,g2,g3,g4⟩:=hf0;unfold Bg;rw [hb];simp only [cond_false];rw [Ob];cases ha:(own.all fun p=>!rm.contains p.1) with
 | true =>
  simp only [Bool.not_true,cond_false];congr 2
  symm
  apply List.filter_eq_self.2;intro p hp;rw [List.all_eq_true.1 ha p hp];rfl
 | false =>
  simp only [Bool.not_false,cond_true];have slow:(match CH base [] rm ⟨vals,⟨own,ext⟩⟩ with | none=>none | some S=>fH S.hp k)=k ⟨JJ rm vals own ext,ext⟩:=by
   have hgone:(rm.filter fun k=>!anyIn [k] (IV.refs.refsL vals++(own.filter fun p=>!rm.contains p.1).flatMap (fun p=>p.2.refs)++ext.flatMap Blk.refs))=rm.filter fun s=>!heldB rm vals own ext s:=by
    apply List.filter_congr;intro s _;congr 1;exact Bool.eq_iff_iff.2 ((Ja s _).trans (hm s))
   have hown:(own.filter fun p=>!(rm.filter fun s=>!heldB rm vals own ext s).contains p.1)=JJ rm vals own ext:=by
    apply List.filter_congr;intro p _;rw [Bool.eq_iff_iff];simp only [Bool.not_eq_true',Bool.or_eq_true,List.contains_eq_mem,decide_eq_false_iff_not,List.mem_filter];constructor
    ·intro h;by_cases h1:p.1∈rm
     ·right;cases hh:heldB rm vals own ext p.1 with
      | true=>rfl
      | false=>exact absurd ⟨h1,hh⟩ h
     ·exact .inl h1
    ·rintro (h | h) ⟨h1,h2⟩
     ·exact h h1
     ·rw [h] at h2;exact absurd h2 (by simp)
   simp only [CH,hb,Bool.false_eq_true,if_false,A1,ha,hgone,hown];have hnone:anyIn (rm.filter fun s=>!heldB rm vals own ext s) (CZ ⟨vals,⟨JJ rm vals own ext,ext⟩⟩)=false:=by
    apply Eu;intro s hs hmem;obtain ⟨hs1,hs2⟩:=List.mem_filter.1 hs;have hs2:heldB rm vals own ext s=false:=by simpa using hs2
    simp only [CZ,List.mem_append] at hmem;rcases hmem with (hmem | hmem) | hmem
    ·have:=(hm s).1 (List.mem_append_left _ (List.mem_append_left _ hmem))
     rw [this] at hs2;cases hs2
    ·obtain ⟨p,hp,hr⟩:=List.mem_flatMap.1 hmem;have hp1:=(List.mem_filter.1 hp).1;have hn:=(Ep (List.all_eq_true.1 g2 p hp1) s).1 hr;have h4:=List.all_eq_true.1 g4 p hp1;cases hc:rm.contains p.1 with
     | true =>
      rw [hc] at h4;have h4:(rm.all fun s=>!FL s p.2)=true:=h4;have h5:=List.all_eq_true.1 h4 s hs1;rw [hn] at h5;cases h5
     | false =>
      have:=(hm s).1 (List.mem_append_left _ (List.mem_append_right _ (List.mem_flatMap.2 ⟨p,List.mem_filter.2 ⟨hp1,by rw [hc];rfl⟩,hr⟩)))
      rw [this] at hs2;cases hs2
    ·have:=(hm s).1 (List.mem_append_right _ hmem)
     rw [this] at hs2;cases hs2
   simp only [hnone,Bool.false_eq_true,if_false,ON]
  cases hff:(and (FP rm (CD vals [])) (and (HQ rm own) (JO rm ext))) with
  | false=>exact slow
  | true =>
   have hff:(FP rm (CD vals []) && (HQ rm own && JO rm ext))=true:=hff;simp only [Bool.and_eq_true] at hff;simp only [HV,cond_true];congr 2;apply List.filter_congr;intro p hp;cases hc:rm.contains p.1 with
   | false=>rfl
   | true =>
    have h1:=Ga hff.1;rw [refsDL_eq,List.append_nil] at h1;have h2:=HU hff.2.1;have h3:=PP hff.2.2
    have:heldB rm vals own ext p.1=false:=by
     cases hh:heldB rm vals own ext p.1 with
     | false=>rfl
     | true =>
      have:=(hm p.1).2 hh
      have hpm:p.1∈rm:=List.contains_iff_mem.1 hc;rcases List.mem_append.1 this with h | h
      ·rcases List.mem_append.1 h with h | h
       ·exact absurd h (h1 _ hpm)
       ·exact absurd h (h2 _ hpm)
      ·exact absurd h (h3 _ hpm)
    rw [this];rfl
end
section
variable (s j:Nat)
theorem AtE (rm:List Nat) (vals:List IV) (own:List (Nat×Blk)) (ext:List Blk):JJ rm vals own ext=own.filter fun p=>!rm.contains p.1 || heldB rm vals own ext p.1:=rfl
theorem nv1 (o:Nat):Cj s (.ptr (.own j) o)=(s == j):=rfl
theorem nv2 (a b:Nat):Cj s (.slc (.own j) a b)=(s == j):=rfl
theorem nv3 (es:List FV):Cj s (.app (.own j) es)=(s == j):=rfl
theorem nv4 (v:FV):Cj s (.fv v)=false:=rfl
theorem nv5:Cj s .nils=false:=rfl
theorem nv6 (es:List FV):Cj s (.clip es)=false:=rfl
theorem nv7 (o:Nat):Cj s (.ptr (.ext j) o)=false:=rfl
theorem nv8:Cj s .dead=false:=rfl
theorem nb1 (cs:List IV) (ro:Bool):FL s (.row cs ro)=cs.any (Cj s):=rfl
theorem nb2 (a b:Nat):FL s (.tok a b)=false:=rfl
theorem Ath (r:Ref) (o:Nat):FQ (.ptr r o)=true:=rfl
theorem Aui (r:Ref) (a b:Nat):FQ (.slc r a b)=true:=rfl
theorem Atu (r:Ref) (es:List FV):FQ (.app r es)=true:=rfl
theorem Auk (v:FV):FQ (.fv v)=true:=rfl
theorem AtJ:FQ .nils=true:=rfl
theorem Atz (es:List FV):FQ (.clip es)=true:=rfl
theorem Aty:FQ .dead=true:=rfl
theorem Atk (cs:List IV) (ro:Bool):Vp (.row cs ro)=cs.all FQ:=rfl
theorem fb_2 (a b:Nat):Vp (.tok a b)=true:=rfl
end
def XD:=AwO @AtE<|AwO @nv1<|AwO @nv2<|AwO @nv3<|AwO @nv4<|AwO @nv5<|AwO @nv6<|AwO @nv7<|AwO @nv8<|AwO @nb1<|AwO @nb2<|AwO @Ath<|AwO @Aui<|AwO @Atu<|AwO @Auk<|AwO @AtJ<|AwO @Atz<|AwO @Aty<|AwO @Atk<|@fb_2
end Idl
end Go.Proofs.Ytaifgaidaglblaa
namespace Go.Proofs.Ytaifgaidaglblaa
namespace Idl
def Ae (op:Int) (i:Nat):Nat :=
 if op=3∨op=4∨op=6∨op=20∨op=28∨op=29 then (if i=1 then 1 else 0) else if op=13 then (if i=0 then 1 else if i=2 then 2 else 0) else 0
theorem AU (op:Int) (i:Nat):Ae op i≤2:=by
 unfold Ae
 repeat' split
 all_goals omega
theorem FM {n:Nat} (hn:0<n) (op:Int) (i:Nat):Bc (SS dt n 51 [iv op,iv i] ⟨[],[]⟩) (.int .i64 (Ae op i)):=by
 obtain ⟨n,rfl⟩:∃k,n=k+1:=⟨n - 1,by omega⟩;rw [c51];unfold Ae;by_cases h:op=3∨op=4∨op=6∨op=20∨op=28∨op=29
 ·rw [if_pos h];by_cases hi:i=1
  ·subst hi;rcases h with rfl | rfl | rfl | rfl | rfl | rfl<;>(simp only [↓UU4,↓XX,XY,↓reduceIte,Nat.reduceBEq,Nat.reduceAdd,Int.reduceEq,Int.reduceLT,Int.reduceLE];exact Ao _ _)
  ·have hi':¬ (i:Int)=1:=by omega
   rcases h with rfl | rfl | rfl | rfl | rfl | rfl<;>(simp only [↓UU4,↓XX,XY,↓reduceIte,Nat.reduceBEq,Nat.reduceAdd,Int.reduceEq,Int.reduceLT,Int.reduceLE,hi',hi];exact Ao _ _)
 ·rw [if_neg h];have h3:¬ op=3:=fun e=>h (by simp [e]);have h4:¬ op=4:=fun e=>h (by simp [e]);have h6:¬ op=6:=fun e=>h (by simp [e]);have h20:¬ op=20:=fun e=>h (by simp [e]);have h28:¬ op=28:=fun e=>h (by simp [e]);have h29:¬ op=29:=fun e=>h (by simp [e]);by_cases h13:op=13
  ·subst h13;by_cases hi:i=0
   ·subst hi;simp only [↓UU4,↓XX,XY,↓reduceIte,Nat.reduceBEq,Nat.reduceAdd,Int.reduceEq,Int.reduceLT,Int.reduceLE];exact Ao _ _
   ·have hi':¬ (i:Int)=0:=by omega
    by_cases hj:i=2
    ·subst hj;simp only [↓UU4,↓XX,XY,↓reduceIte,Nat.reduceBEq,Nat.reduceAdd,Int.reduceEq,Int.reduceLT,Int.reduceLE];exact Ao _ _
    ·have hj':¬ (i:Int)=2:=by omega
     simp only [↓UU4,↓XX,XY,↓reduceIte,Nat.reduceBEq,Nat.reduceAdd,Int.reduceEq,Int.reduceLT,Int.reduceLE,hi,hi',hj,hj'];exact Ao _ _
  ·simp only [↓UU4,↓XX,XY,↓reduceIte,Nat.reduceBEq,Nat.reduceAdd,Int.reduceEq,Int.reduceLT,Int.reduceLE,h3,h4,h6,h20,h28,h29,h13];exact Ao _ _
theorem AjN {n:Nat} (hn:0<n) (x:Int):Bc (SS dt n 26 [iv x] ⟨[],[]⟩) (Tm.mk 1 x []).enc:=by
 obtain ⟨n,rfl⟩:∃k,n=k+1:=⟨n - 1,by omega⟩;rw [c26];simp only [S26,↓XX,XY,↓reduceIte,Nat.reduceBEq,Nat.reduceAdd,Int.reduceEq,Int.reduceLT,Int.reduceLE];exact Bh rfl _
theorem Aig {n:Nat} (hn:0<n) (x:Int):Bc (SS dt n 45 [iv x] ⟨[],[]⟩) (Tm.mk 2 x []).enc:=by
 obtain ⟨n,rfl⟩:∃k,n=k+1:=⟨n - 1,by omega⟩;rw [c45];simp only [S45,↓XX,XY,↓reduceIte,Nat.reduceBEq,Nat.reduceAdd,Int.reduceEq,Int.reduceLT,Int.reduceLE];exact Bh rfl _
theorem Anr {n:Nat} (hn:0<n) (x:Int):Bc (SS dt n 36 [iv x] ⟨[],[]⟩) (Tm.mk 25 x []).enc:=by
 obtain ⟨n,rfl⟩:∃k,n=k+1:=⟨n - 1,by omega⟩;rw [c36];simp only [S36,↓XX,XY,↓reduceIte,Nat.reduceBEq,Nat.reduceAdd,Int.reduceEq,Int.reduceLT,Int.reduceLE];exact Bh rfl _
mutual
/-- No more than four kids anywhere. -/
def Tm.wk:Tm→Prop
 | .mk _ _ ks=>ks.length≤4∧Tm.wkL ks
def Tm.wkL:List Tm→Prop
 | []=>True
 | t::l=>t.wk∧Tm.wkL l
end
theorem ME {t:Tm}:∀{l:List Tm},Tm.wkL l→t∈l→t.wk
 | a::l,h,hm=>by
  rw [Tm.wkL] at h;rcases List.mem_cons.1 hm with rfl | hm
  ·exact h.1
  ·exact ME h.2 hm
mutual
def Tm.shift:Tm→Int→Int→Tm
 | .mk op n ks,d,c=>.mk op (if op=1∧c≤n then BI (n+d) else n) (Tm.shiftL op 0 ks d c)
def Tm.shiftL:Int→Nat→List Tm→Int→Int→List Tm
 | _,_,[],_,_=>[]
 | op,i,t::l,d,c=>t.shift d (c+Ae op i)::Tm.shiftL op (i+1) l d c
end
theorem Ew (op:Int) (d c:Int):∀(l:List Tm) (i:Nat),(Tm.shiftL op i l d c).length=l.length
 | [],_=>rfl
 | _::l,i=>by simp only [Tm.shiftL,AwT,Ew op d c l]
theorem Pf (op d c:Int):∀(l l':List Tm) (i:Nat),Tm.shiftL op i (l++l') d c=Tm.shiftL op i l d c++Tm.shiftL op (i+l.length) l' d c
 | [],l',i=>by simp [Tm.shiftL]
 | t::l,l',i=>by simp only [List.cons_append,Tm.shiftL,Pf op d c l l',AwT];congr 3;omega
theorem CW:∀(n:Nat) (t:Tm) (d c:Int),t.wt+1<n→t.wk→0≤c→c+2 * t.wt≤4611686018427387904→Bc (SS dt n 25 [.fv t.enc,iv d,iv c] ⟨[],[]⟩) (t.shift d c).enc:=by
 intro n
 induction n with
 | zero=>intro t d c h;omega
 | succ n ih =>
  intro t d c h hw hc0 hc;obtain ⟨op,m,ks⟩:=t;simp only [Tm.wt] at h hc;rw [Tm.wk] at hw;rw [c25,Ai];have hlen:=Db ks;have main:∀m',m'=(if op=1∧c≤m then BI (m+d) else m) →
    Bc (BE n (fun q28 l29 h30=>Jp l29 h30 (SS dt n) ⟨[],[]⟩ q28) [iv d,iv c,.ptr (.own 26214400) 0,.ptr (.own 26214401) 0,.ptr (.own 26215429) 0,iv 0]
     ⟨[(26214400,.row [iv op,iv m,.fv (.sl (ks.map Tm.enc))] false),(26214401,.row [iv 0,iv 0,.nils] false),(26215429,.row [iv op,iv m',.nils] false)],[]⟩) ((Tm.mk op m ks).shift d c).enc:=by
   intro m' hm';refine A6 (Q:=fun r=>Bc r _) (fun k V H=>∃pre rest,ks=pre++rest∧rest.length=k∧V=[iv d,iv c,.ptr (.own 26214400) 0,.ptr (.own 26214401) 0,.ptr (.own 26215429) 0,iv pre.length] ∧
    (
     (pre=[]∧H=⟨[(26214400,.row [iv op,iv m,.fv (.sl (ks.map Tm.enc))] false),(26214401,.row [iv 0,iv 0,.nils] false),(26215429,.row [iv op,iv m',.nils] false)],[]⟩) ∨
     (pre≠[]∧H=⟨[(26214400,.row [iv op,iv m,.fv (.sl (ks.map Tm.enc))] false),(26214401,.row [iv 0,iv 0,.nils] false),(26215429,.row [iv op,iv m',.app (.own 26221584) ((Tm.shiftL op 0 pre d c).map Tm.enc)] false),(26221584,.tok (Tm.shiftL op 0 pre d c).length 3)],[]⟩)))
    ?_ n ks.length _ _ (by omega) ⟨[],ks,rfl,rfl,rfl,.inl ⟨rfl,rfl⟩⟩
   rintro k V H rec ⟨pre,rest,hk,hl,rfl,hH⟩ hrec;have hkl:ks.length=pre.length+rest.length:=by rw [hk];simp
   cases rest with
   | nil =>
    have hno:¬ ((pre.length:Int)<ks.length):=by rw [hkl];simp
    have hpre:ks=pre:=by simpa using hk
    rcases hH with ⟨rfl,rfl⟩ | ⟨_,rfl⟩
    ·subst hpre;simp only [GI,Gv,Gz,Gw,Gs,GF,GO,Gn,Jp,GD,Gm,GB,Gt,GE,S25,↓XX,XY,↓reduceIte,Nat.reduceBEq,Nat.reduceAdd,Int.reduceEq,Int.reduceLT,Int.reduceLE,Int.lt_irrefl,Tm.shift,Tm.shiftL,← hm',Ai];exact Bh rfl _
    ·subst hpre;simp only [GI,Gv,Gz,Gw,Gs,GF,GO,Gn,Jp,GD,Gm,GB,Gt,GE,S25,↓XX,XY,↓reduceIte,Nat.reduceBEq,Nat.reduceAdd,Int.reduceEq,Int.reduceLT,Int.reduceLE,Int.lt_irrefl,Tm.shift,← hm',Ai];exact Bh rfl _
   | cons t rest =>
    have hi:(pre.length:Int)<ks.length:=by rw [hkl];simp;omega
    have hg:=Ce hk;have htw:=BN (t:=t) (l:=ks) (by rw [hk];simp);have hb:=FM (n:=n) (by omega) op pre.length;have hble:=AU op pre.length;have hs:=ih t d (c+Ae op pre.length) (by omega) (ME hw.2 (by rw [hk];simp)) (by omega) (by omega);have hx:Tm.shiftL op 0 (pre++[t]) d c=Tm.shiftL op 0 pre d c++[t.shift d (c+Ae op pre.length)]:=by
     rw [Pf];simp [Tm.shiftL]
    have hwc:BI (c+Ae op pre.length)=c+Ae op pre.length:=by rw [As]<;>omega
    have hwi:BI ((pre.length:Int)+1)=((pre++[t]).length:Int):=(As (by omega) (by omega)).trans (by simp);generalize hu:t.shift d (c+Ae op pre.length)=u at hs hx;obtain ⟨o,p,l⟩:=t;simp only [AwT] at hl;rw [Ai] at hs;rcases hH with ⟨hp0,rfl⟩ | ⟨hne,rfl⟩
    ·simp only [GI,Gv,Gz,Gw,Gs,GF,GO,Gn,Jp,GD,Gm,GB,Gt,GE,S25,↓XX,XY,↓reduceIte,Nat.reduceBEq,Nat.reduceAdd,Int.reduceEq,Int.reduceLT,Int.reduceLE,hi,↓Bq (AO hg) (A9 _ _ _),↓Cb,↓Ag hb,hwc,hwi,↓AZ hs,↓Kd,↓Rr,↓AD,XD,heldB,AL,XE];refine hrec rest.length _ _ (by omega) ?_;refine ⟨pre++[.mk o p l],rest,by rw [hk];simp,rfl,rfl,.inr ⟨by simp,?_⟩⟩;rw [hx,hp0];rfl
    ·have hle:(Tm.shiftL op 0 pre d c).length+1≤1000000:=by rw [Ew];omega
     have hq:(Tm.shiftL op 0 pre d c).length=pre.length:=Ew ..;simp only [GI,Gv,Gz,Gw,Gs,GF,GO,Gn,Jp,GD,Gm,GB,Gt,GE,S25,↓XX,XY,↓reduceIte,Nat.reduceBEq,Nat.reduceAdd,Int.reduceEq,Int.reduceLT,Int.reduceLE,hi,↓Bq (AO hg) (A9 _ _ _),↓Cb,↓Ag hb,hwc,hwi,↓AZ hs,↓Kd,↓NR hle,↓H7,↓AD,XD,heldB,AL,XE];refine hrec rest.length _ _ (by omega) ?_;refine ⟨pre++[.mk o p l],rest,by rw [hk];simp,rfl,rfl,.inr ⟨by simp,?_⟩⟩;rw [hx];simp only [List.length_append,AwT,List.length_nil]
  by_cases h1:op=1
  ·by_cases h2:c≤m
   ·subst h1;simp only [GI,Gv,Gz,Gw,Gs,GF,GO,Gn,GD,Gm,GB,Gt,GE,S25,↓XX,XY,↓reduceIte,Nat.reduceBEq,Nat.reduceAdd,Int.reduceEq,Int.reduceLT,Int.reduceLE,h2,↓AD,XD,heldB,AL,XE];exact main _ (by simp [h2])
   ·subst h1;simp only [GI,Gv,Gz,Gw,Gs,GF,GO,Gn,GD,Gm,GB,Gt,GE,S25,↓XX,XY,↓reduceIte,Nat.reduceBEq,Nat.reduceAdd,Int.reduceEq,Int.reduceLT,Int.reduceLE,h2,↓AD,XD,heldB,AL,XE];exact main _ (by simp [h2])
  ·simp only [GI,Gv,Gz,Gw,Gs,GF,GO,Gn,GD,Gm,GB,Gt,GE,S25,↓XX,XY,↓reduceIte,Nat.reduceBEq,Nat.reduceAdd,Int.reduceEq,Int.reduceLT,Int.reduceLE,h1,↓AD,XD,heldB,AL,XE];exact main _ (by simp [h1])
mutual
def Tm.subst:Tm→Int→Int→Tm→Tm
 | .mk op m ks,n,d,u=>if op=1 then (if m=n then u.shift d 0 else if n<m then .mk 1 (BI (m - 1)) [] else .mk op m ks) else .mk op m (Tm.substL op 0 ks n d u)
def Tm.substL:Int→Nat→List Tm→Int→Int→Tm→List Tm
 | _,_,[],_,_,_=>[]
 | op,i,t::l,n,d,u=>t.subst (n+Ae op i) (d+Ae op i) u::Tm.substL op (i+1) l n d u
end
theorem Hm (op n d:Int) (u:Tm):∀(l:List Tm) (i:Nat),(Tm.substL op i l n d u).length=l.length
 | [],_=>rfl
 | _::l,i=>by simp only [Tm.substL,AwT,Hm op n d u l]
theorem O6 (op n d:Int) (u:Tm):∀(l l':List Tm) (i:Nat),Tm.substL op i (l++l') n d u=Tm.substL op i l n d u++Tm.substL op (i+l.length) l' n d u
 | [],l',i=>by simp [Tm.substL]
 | t::l,l',i=>by simp only [List.cons_append,Tm.substL,O6 op n d u l l',AwT];congr 3;omega
theorem Agq (u:Tm) (hu:u.wk) (huw:u.wt≤1152921504606846976):∀(n:Nat) (t:Tm) (c d:Int),t.wt+u.wt+3<n→t.wk→-1000000000≤c→c+2 * t.wt≤4611686018427387904→0≤d→d+2 * t.wt≤4611686018427387904 →
  Bc (SS dt n 60 [.fv t.enc,iv c,iv d,.fv u.enc] ⟨[],[]⟩) (t.subst c d u).enc:=by
 intro n
 induction n with
 | zero=>intro t c d h;omega
 | succ n ih =>
  intro t c d h hw hc0 hc hd0 hd;obtain ⟨op,m,ks⟩:=t;simp only [Tm.wt] at h hc hd;rw [Tm.wk] at hw;rw [c60,Ai];have hlen:=Db ks;by_cases h1:op=1
  ·subst h1;have hsh:=CW n u d 0 (by omega) hu (by omega) (by omega);rw [Tm.subst,if_pos rfl];generalize u.shift d 0=z at hsh ⊢;obtain ⟨uo,un,uk⟩:=u;obtain ⟨zo,zn,zk⟩:=z;rw [Ai] at hsh ⊢;by_cases h2:m=c
   ·subst h2;simp only [↓UU3,↓XX,XY,↓reduceIte,Nat.reduceBEq,Nat.reduceAdd,Int.reduceEq,Int.reduceLT,Int.reduceLE,↓AZ hsh];simp only [↓UU3,↓XX,XY,↓reduceIte,Nat.reduceBEq,Nat.reduceAdd,Int.reduceEq,Int.reduceLT,Int.reduceLE,Ai];exact Bh rfl _
   ·by_cases h3:c<m
    ·simp only [↓UU3,↓XX,XY,↓reduceIte,Nat.reduceBEq,Nat.reduceAdd,Int.reduceEq,Int.reduceLT,Int.reduceLE,h2,h3,Ai];exact Bh rfl _
    ·simp only [↓UU3,↓XX,XY,↓reduceIte,Nat.reduceBEq,Nat.reduceAdd,Int.reduceEq,Int.reduceLT,Int.reduceLE,h2,h3,Ai];exact Bh rfl _
  ·have main :
    Bc (BE n (fun q l h=>Jh l h (SS dt n) ⟨[],[]⟩ q) [iv c,iv d,.ptr (.own 62914560) 0,.ptr (.own 62914561) 0,.ptr (.own 62914562) 0,.ptr (.own 62921733) 0,iv 0]
     ⟨[(62914560,.row [iv op,iv m,.fv (.sl (ks.map Tm.enc))] false),(62914561,.row [iv u.op,iv u.n,.fv (.sl (u.kids.map Tm.enc))] false),(62914562,.row [iv 0,iv 0,.nils] false),(62921733,.row [iv op,iv m,.nils] false)],[]⟩)
      (Tm.mk op m (Tm.substL op 0 ks c d u)).enc:=by
    refine A6 (Q:=fun r=>Bc r _) (fun k V H=>∃pre rest,ks=pre++rest∧rest.length=k∧V=[iv c,iv d,.ptr (.own 62914560) 0,.ptr (.own 62914561) 0,.ptr (.own 62914562) 0,.ptr (.own 62921733) 0,iv pre.length] ∧
     (
      (pre=[]∧H=⟨[(62914560,.row [iv op,iv m,.fv (.sl (ks.map Tm.enc))] false),(62914561,.row [iv u.op,iv u.n,.fv (.sl (u.kids.map Tm.enc))] false),(62914562,.row [iv 0,iv 0,.nils] false),(62921733,.row [iv op,iv m,.nils] false)],[]⟩) ∨
      (
      pre≠[]∧H=⟨[(62914560,.row [iv op,iv m,.fv (.sl (ks.map Tm.enc))] false),(62914561,.row [iv u.op,iv u.n,.fv (.sl (u.kids.map Tm.enc))] false),(62914562,.row [iv 0,iv 0,.nils] false),
      (62921733,.row [iv op,iv m,.app (.own 62926864) ((Tm.substL op 0 pre c d u).map Tm.enc)] false),(62926864,.tok (Tm.substL op 0 pre c d u).length 3)],[]⟩)))
     ?_ n ks.length _ _ (by omega) ⟨[],ks,rfl,rfl,rfl,.inl ⟨rfl,rfl⟩⟩
    rintro k V H rec ⟨pre,rest,hk,hl,rfl,hH⟩ hrec;have hkl:ks.length=pre.length+rest.length:=by rw [hk];simp
    cases rest with
    | nil =>
     have hno:¬ ((pre.length:Int)<ks.length):=by rw [hkl];simp
     have hpre:ks=pre:=by simpa using hk
     rcases hH with ⟨rfl,rfl⟩ | ⟨_,rfl⟩
     ·subst hpre;simp only [JF,IB,Iq,I0,Js,I5,Ju,IH,Jb,JA,Iw,Jg,Jq,Jh,I1,Je,Jz,S60,↓XX,XY,↓reduceIte,Nat.reduceBEq,Nat.reduceAdd,Int.reduceEq,Int.reduceLT,Int.reduceLE,Int.lt_irrefl,Tm.substL,Ai];exact Bh rfl _
     ·subst hpre;simp only [JF,IB,Iq,I0,Js,I5,Ju,IH,Jb,JA,Iw,Jg,Jq,Jh,I1,Je,Jz,S60,↓XX,XY,↓reduceIte,Nat.reduceBEq,Nat.reduceAdd,Int.reduceEq,Int.reduceLT,Int.reduceLE,Int.lt_irrefl,Ai];exact Bh rfl _
    | cons t rest =>
     have hi:(pre.length:Int)<ks.length:=by rw [hkl];simp;omega
     have hg:=Ce hk;have htw:=BN (t:=t) (l:=ks) (by rw [hk];simp);have hb:=FM (n:=n) (by omega) op pre.length;have hble:=AU op pre.length;have hs:=ih t (c+Ae op pre.length) (d+Ae op pre.length) (by omega) (ME hw.2 (by rw [hk];simp)) (by omega) (by omega) (by omega) (by omega);have hx:Tm.substL op 0 (pre++[t]) c d u=Tm.substL op 0 pre c d u++[t.subst (c+Ae op pre.length) (d+Ae op pre.length) u]:=by
      rw [O6];simp [Tm.substL]
     have hwc:BI (c+Ae op pre.length)=c+Ae op pre.length:=by rw [As]<;>omega
     have hwd:BI (d+Ae op pre.length)=d+Ae op pre.length:=by rw [As]<;>omega
     have hwi:BI ((pre.length:Int)+1)=((pre++[t]).length:Int):=(As (by omega) (by omega)).trans (by simp);generalize hv:t.subst (c+Ae op pre.length) (d+Ae op pre.length) u=v at hs hx;obtain ⟨o,p,l⟩:=t;simp only [AwT] at hl;have hue:u.enc=.agg [.int .i64 u.op,.int .i64 u.n,.sl (u.kids.map Tm.enc)]:=by cases u;exact Ai ..
     rw [Ai,hue] at hs;rcases hH with ⟨hp0,rfl⟩ | ⟨hne,rfl⟩
     ·simp only [JF,IB,Iq,I0,Js,I5,Ju,IH,Jb,JA,Iw,Jg,Jq,Jh,I1,Je,Jz,S60,↓XX,XY,↓reduceIte,Nat.reduceBEq,Nat.reduceAdd,Int.reduceEq,Int.reduceLT,Int.reduceLE,hi,↓Bq (AO hg) (A9 _ _ _),↓Cb,↓Ag hb,hwc,hwd,hwi,↓AK hs,↓Kd,↓Rr,↓AD,XD,heldB,AL,XE];refine hrec rest.length _ _ (by omega) ?_;refine ⟨pre++[.mk o p l],rest,by rw [hk];simp,rfl,rfl,.inr ⟨by simp,?_⟩⟩;rw [hx,hp0];rfl
     ·have hle:(Tm.substL op 0 pre c d u).length+1≤1000000:=by rw [Hm];omega
      simp only [JF,IB,Iq,I0,Js,I5,Ju,IH,Jb,JA,Iw,Jg,Jq,Jh,I1,Je,Jz,S60,↓XX,XY,↓reduceIte,Nat.reduceBEq,Nat.reduceAdd,Int.reduceEq,Int.reduceLT,Int.reduceLE,hi,↓Bq (AO hg) (A9 _ _ _),↓Cb,↓Ag hb,hwc,hwd,hwi,↓AK hs,↓Kd,↓NR hle,↓H7,↓AD,XD,heldB,AL,XE];refine hrec rest.length _ _ (by omega) ?_;refine ⟨pre++[.mk o p l],rest,by rw [hk];simp,rfl,rfl,.inr ⟨by simp,?_⟩⟩;rw [hx];simp only [List.length_append,AwT,List.length_nil]
   rw [Tm.subst,if_neg h1];obtain ⟨uo,un,uk⟩:=u;rw [Ai (op:=uo)];simp only [↓UU3,↓XX,XY,↓reduceIte,Nat.reduceBEq,Nat.reduceAdd,Int.reduceEq,Int.reduceLT,Int.reduceLE,h1,↓AD,XD,heldB,AL,XE];exact main
theorem Vj {n:Nat} (t u:Tm) (c:Int) (hu:u.wk) (huw:u.wt≤1152921504606846976) (h:t.wt+u.wt+4<n) (hw:t.wk) (hww:t.wt≤2305843009213693951) (h0:-1000000000≤c) (hc:c+2 * t.wt≤4611686018427387904) :
  Bc (SS dt n 50 [.fv t.enc,iv c,.fv u.enc] ⟨[],[]⟩) (t.subst c 0 u).enc:=by
 obtain ⟨n,rfl⟩:∃k,n=k+1:=⟨n - 1,by omega⟩;rw [c50];have hs:=Agq u hu huw n t c 0 (by omega) hw h0 hc (by omega) (by omega);generalize t.subst c 0 u=v at hs ⊢;obtain ⟨o1,n1,k1⟩:=t;obtain ⟨o2,n2,k2⟩:=u;obtain ⟨o3,n3,k3⟩:=v;simp only [Ai] at hs ⊢;simp only [Ahq,S50,↓XX,XY,↓reduceIte,Nat.reduceBEq,Nat.reduceAdd,Int.reduceEq,Int.reduceLT,Int.reduceLE,↓AK hs];exact Bh rfl _
mutual
def Tm.free:Tm→Int→Bool
 | .mk op m ks,c=>if op=1 then decide (m=c) else Tm.freeL op 0 ks c
def Tm.freeL:Int→Nat→List Tm→Int→Bool
 | _,_,[],_=>false
 | op,i,t::l,c=>t.free (c+Ae op i) || Tm.freeL op (i+1) l c
end
theorem Alc:∀(n:Nat) (t:Tm) (c:Int),t.wt+1<n→t.wt≤1152921504606846976→-1000000000≤c→c+2 * t.wt≤461168601842738→Bc (SS dt n 54 [.fv t.enc,iv c] ⟨[],[]⟩) (.bool (t.free c)):=by
 intro n
 induction n with
 | zero=>intro t c h;omega
 | succ n ih =>
  intro t c h hw hc0 hc;obtain ⟨op,m,ks⟩:=t;simp only [Tm.wt] at h hw hc;rw [c54,Ai];have hlen:=Db ks;by_cases h1:op=1
  ·subst h1;rw [Tm.free,if_pos rfl];simp only [Mz,Mh,Mj,Mx,MB,S54,↓XX,XY,↓reduceIte,Nat.reduceBEq,Nat.reduceAdd,Int.reduceEq,Int.reduceLT,Int.reduceLE];exact Ao _ _
  ·rw [Tm.free,if_neg h1];simp only [Mz,Mh,Mj,Mx,MB,S54,↓XX,XY,↓reduceIte,Nat.reduceBEq,Nat.reduceAdd,Int.reduceEq,Int.reduceLT,Int.reduceLE,h1];refine A6 (Q:=fun r=>Bc r _) (fun k V H=>∃pre rest,ks=pre++rest∧rest.length=k∧V=[iv c,.ptr (.own 56623104) 0,iv pre.length]∧H=⟨[(56623104,.row [iv op,iv m,.fv (.sl (ks.map Tm.enc))] false)],[]⟩∧Tm.freeL op pre.length rest c=Tm.freeL op 0 ks c)
    ?_ n ks.length _ _ (by omega) ⟨[],ks,rfl,rfl,rfl,rfl,rfl⟩
   rintro k V H rec ⟨pre,rest,hk,hl,rfl,rfl,ht⟩ hrec;have hkl:ks.length=pre.length+rest.length:=by rw [hk];simp
   cases rest with
   | nil =>
    have hno:¬ ((pre.length:Int)<ks.length):=by rw [hkl];simp
    rw [← ht];simp only [Mz,Mh,Mj,Mx,MB,UW,S54,↓XX,XY,↓reduceIte,Nat.reduceBEq,Nat.reduceAdd,Int.reduceEq,Int.reduceLT,Int.reduceLE,hno,Tm.freeL];exact Ao _ _
   | cons t rest =>
    have hi:(pre.length:Int)<ks.length:=by rw [hkl];simp;omega
    have hg:=Ce hk;have htw:=BN (t:=t) (l:=ks) (by rw [hk];simp);have hb:=FM (n:=n) (by omega) op pre.length;have hble:=AU op pre.length;have hs:=ih t (c+Ae op pre.length) (by omega) (by omega) (by omega) (by omega);have hwc:BI (c+Ae op pre.length)=c+Ae op pre.length:=by rw [As]<;>omega
    have hwi:BI ((pre.length:Int)+1)=((pre++[t]).length:Int):=(As (by omega) (by omega)).trans (by simp);simp only [Tm.freeL] at ht;generalize t.free (c+Ae op pre.length)=v at hs ht;obtain ⟨o,p,l⟩:=t;simp only [AwT] at hl;rw [Ai] at hs;cases v
    ·simp only [Mz,Mh,Mj,Mx,MB,UW,S54,↓XX,XY,↓reduceIte,Nat.reduceBEq,Nat.reduceAdd,Int.reduceEq,Int.reduceLT,Int.reduceLE,hi,↓Bq (AO hg) (A9 _ _ _),↓Cb,↓Ag hb,hwc,hwi,↓Ag hs];refine hrec rest.length _ _ (by omega) ?_;exact ⟨pre++[.mk o p l],rest,by rw [hk];simp,rfl,rfl,rfl,by simpa using ht⟩
    ·rw [← ht];simp only [Mz,Mh,Mj,Mx,MB,UW,S54,↓XX,XY,↓reduceIte,Nat.reduceBEq,Nat.reduceAdd,Int.reduceEq,Int.reduceLT,Int.reduceLE,hi,↓Bq (AO hg) (A9 _ _ _),↓Cb,↓Ag hb,hwc,hwi,↓Ag hs,Bool.true_or];exact Ao _ _
mutual
def Tm.same:Tm→Tm→Bool
 | .mk o n l,.mk o' n' l'=>decide (o=o') && (decide (n=n') && (decide (l.length=l'.length) && Tm.sameL l l'))
def Tm.sameL:List Tm→List Tm→Bool
 | a::l,b::l'=>a.same b && Tm.sameL l l'
 | _,_=>true
end
mutual
theorem IS:∀a b:Tm,a.same b=true ↔ a=b
 | .mk o n l,.mk o' n' l'=>by
  simp only [Tm.same,Bool.and_eq_true,decide_eq_true_eq,Tm.mk.injEq];constructor
  ·rintro ⟨rfl,rfl,h1,h2⟩;exact ⟨rfl,rfl,(sameL_eq l l' h1).1 h2⟩
  ·rintro ⟨rfl,rfl,rfl⟩;exact ⟨rfl,rfl,rfl,(sameL_eq l l rfl).2 rfl⟩
theorem sameL_eq:∀l l':List Tm,l.length=l'.length→(Tm.sameL l l'=true ↔ l=l')
 | [],[],_=>by simp [Tm.sameL]
 | a::l,b::l',h=>by
  simp only [Tm.sameL,Bool.and_eq_true,List.cons.injEq,IS a b,sameL_eq l l' (by simpa using h)]
end
theorem ST:∀(n:Nat) (a b:Tm),a.wt+1<n→a.wt≤1152921504606846976→Bc (SS dt n 37 [.fv a.enc,.fv b.enc] ⟨[],[]⟩) (.bool (a.same b)):=by
 intro n
 induction n with
 | zero=>intro a b h;omega
 | succ n ih =>
  intro a b h hw;obtain ⟨op,m,ks⟩:=a;obtain ⟨op',m',ks'⟩:=b;simp only [Tm.wt] at h hw;rw [c37,Ai,Ai];have hlen:=Db ks;rw [Tm.same];by_cases h1:op=op'
  ·by_cases h2:m=m'
   ·by_cases h3:ks.length=ks'.length
    ·have h3':(ks.length:Int)=ks'.length:=by omega
     subst h1 h2;simp only [GP,Gq,GL,Gu,GJ,Gx,Gp,GM,Gj,S37,↓XX,XY,↓reduceIte,Nat.reduceBEq,Nat.reduceAdd,Int.reduceEq,Int.reduceLT,Int.reduceLE,h3,h3',Tm.same];refine A6 (Q:=fun r=>Bc r _) (fun k V H=>∃pre rest pre' rest',ks=pre++rest∧ks'=pre'++rest'∧pre.length=pre'.length∧rest.length=k∧V=[.ptr (.own 38797312) 0,.ptr (.own 38797313) 0,iv pre.length] ∧
      H=⟨[(38797312,.row [iv op,iv m,.fv (.sl (ks.map Tm.enc))] false),(38797313,.row [iv op,iv m,.fv (.sl (ks'.map Tm.enc))] false)],[]⟩∧Tm.sameL rest rest'=Tm.sameL ks ks')
      ?_ n ks.length _ _ (by omega) ⟨[],ks,[],ks',rfl,rfl,rfl,rfl,rfl,rfl,rfl⟩
     rintro k V H rec ⟨pre,rest,pre',rest',hk,hk',hpl,hl,rfl,rfl,ht⟩ hrec;have hkl:ks.length=pre.length+rest.length:=by rw [hk];simp
     have hkl':ks'.length=pre'.length+rest'.length:=by rw [hk'];simp
     cases rest with
     | nil =>
      have hno:¬ ((pre.length:Int)<ks.length):=by rw [hkl];simp
      rw [← ht];simp only [GP,Gq,GL,Gu,GJ,NY,Gx,Gp,GM,Gj,S37,↓XX,XY,↓reduceIte,Nat.reduceBEq,Nat.reduceAdd,Int.reduceEq,Int.reduceLT,Int.reduceLE,hno,Tm.sameL];exact Ao _ _
     | cons t rest =>
      cases rest' with
      | nil=>simp at hkl hkl';omega
      | cons t' rest' =>
       have hi:(pre.length:Int)<ks.length:=by rw [hkl];simp;omega
       have hg:=Ce hk;have hg':=Ce hk';rw [← hpl] at hg';have htw:=BN (t:=t) (l:=ks) (by rw [hk];simp);have hs:=ih t t' (by omega) (by omega);have hwi:BI ((pre.length:Int)+1)=((pre++[t]).length:Int):=(As (by omega) (by omega)).trans (by simp);simp only [Tm.sameL] at ht;generalize t.same t'=v at hs ht;obtain ⟨o,p,l⟩:=t;obtain ⟨o',p',l'⟩:=t';simp only [AwT] at hl;rw [Ai,Ai] at hs;cases v
       ·rw [← ht];simp only [GP,Gq,GL,Gu,GJ,NY,Gx,Gp,GM,Gj,S37,↓XX,XY,↓reduceIte,Nat.reduceBEq,Nat.reduceAdd,Int.reduceEq,Int.reduceLT,Int.reduceLE,hi,↓Bq (AO hg) (A9 _ _ _),↓Bq (AO hg') (A9 _ _ _),↓Cb,↓Ag hs,Bool.false_and];exact Ao _ _
       ·simp only [GP,Gq,GL,Gu,GJ,NY,Gx,Gp,GM,Gj,S37,↓XX,XY,↓reduceIte,Nat.reduceBEq,Nat.reduceAdd,Int.reduceEq,Int.reduceLT,Int.reduceLE,hi,↓Bq (AO hg) (A9 _ _ _),↓Bq (AO hg') (A9 _ _ _),↓Cb,hwi,↓Ag hs];refine hrec rest.length _ _ (by omega) ?_;exact ⟨pre++[.mk o p l],rest,pre'++[.mk o' p' l'],rest',by rw [hk];simp,by rw [hk'];simp,by simp [hpl],rfl,rfl,rfl,by simpa using ht⟩
    ·have h3':¬ (ks.length:Int)=ks'.length:=by omega
     simp only [GP,Gq,GL,Gu,GJ,Gx,Gp,GM,Gj,S37,↓XX,XY,↓reduceIte,Nat.reduceBEq,Nat.reduceAdd,Int.reduceEq,Int.reduceLT,Int.reduceLE,h1,h2,h3,h3'];exact Ao _ _
   ·simp only [GP,Gq,GL,Gu,GJ,Gx,Gp,GM,Gj,S37,↓XX,XY,↓reduceIte,Nat.reduceBEq,Nat.reduceAdd,Int.reduceEq,Int.reduceLT,Int.reduceLE,h1,h2];exact Ao _ _
  ·simp only [GP,Gq,GL,Gu,GJ,Gx,Gp,GM,Gj,S37,↓XX,XY,↓reduceIte,Nat.reduceBEq,Nat.reduceAdd,Int.reduceEq,Int.reduceLT,Int.reduceLE,h1];exact Ao _ _
theorem AkB (o p:Int) (l:List Tm) (s:Nat) (h:Hp) (k:IV→Hp→List Ref→List Ref→Option (IV×Hp)):Ay (Ah EE 29 1 [(0,.fv (.agg [.int .i64 o,.int .i64 p,.sl (l.map Tm.enc)]))]) s h k=k (.clip [.agg [.int .i64 o,.int .i64 p,.sl (l.map Tm.enc)]]) h [] []:=by
 have:=Kd (.mk o p l) s h k
 rw [Ai] at this;exact this
def Rp (o:Option (IV×Hp)):Bool:=match o with
 | some (.fv (.bool b),⟨_,[]⟩)=>b
 | _=>false
theorem AeY {o:Option (IV×Hp)} (h:Rp o=true):Bc o (.bool true):=by
 unfold Rp at h;split at h
 ·subst h;exact Ao _ _
 ·cases h
theorem CY (o1 n1 o2 n2:Int) (k1 k2:List FV) (s:Nat) (h:Hp) (k:IV→Hp→List Ref→List Ref→Option (IV×Hp)):Ay (Ah EE 29 2 [(0,.fv (.agg [.int .i64 o1,.int .i64 n1,.sl k1])),(1,.fv (.agg [.int .i64 o2,.int .i64 n2,.sl k2]))]) s h k =
  k (.clip [.agg [.int .i64 o1,.int .i64 n1,.sl k1],.agg [.int .i64 o2,.int .i64 n2,.sl k2]]) h [] []:=Cy WE tTm (by decide) (cells:=[.int .i64 o1,.int .i64 n1,.sl k1,.int .i64 o2,.int .i64 n2,.sl k2]) rfl k
theorem Im (o1 n1 o2 n2 o3 n3:Int) (k1 k2 k3:List FV) (s:Nat) (h:Hp) (k:IV→Hp→List Ref→List Ref→Option (IV×Hp)):Ay (Ah EE 29 3 [(0,.fv (.agg [.int .i64 o1,.int .i64 n1,.sl k1])),(1,.fv (.agg [.int .i64 o2,.int .i64 n2,.sl k2])),(2,.fv (.agg [.int .i64 o3,.int .i64 n3,.sl k3]))]) s h k =
  k (.clip [.agg [.int .i64 o1,.int .i64 n1,.sl k1],.agg [.int .i64 o2,.int .i64 n2,.sl k2],.agg [.int .i64 o3,.int .i64 n3,.sl k3]]) h [] []:=Cy WE tTm (by decide) (cells:=[.int .i64 o1,.int .i64 n1,.sl k1,.int .i64 o2,.int .i64 n2,.sl k2,.int .i64 o3,.int .i64 n3,.sl k3]) rfl k
theorem AsK (o1 n1 o2 n2 o3 n3 o4 n4:Int) (k1 k2 k3 k4:List FV) (s:Nat) (h:Hp) (k:IV→Hp→List Ref→List Ref→Option (IV×Hp)):Ay (Ah EE 29 4 [(0,.fv (.agg [.int .i64 o1,.int .i64 n1,.sl k1])),(1,.fv (.agg [.int .i64 o2,.int .i64 n2,.sl k2])),(2,.fv (.agg [.int .i64 o3,.int .i64 n3,.sl k3])),(3,.fv (.agg [.int .i64 o4,.int .i64 n4,.sl k4]))]) s h k =
  k (.clip [.agg [.int .i64 o1,.int .i64 n1,.sl k1],.agg [.int .i64 o2,.int .i64 n2,.sl k2],.agg [.int .i64 o3,.int .i64 n3,.sl k3],.agg [.int .i64 o4,.int .i64 n4,.sl k4]]) h [] []:=Cy WE tTm (by decide) (cells:=[.int .i64 o1,.int .i64 n1,.sl k1,.int .i64 o2,.int .i64 n2,.sl k2,.int .i64 o3,.int .i64 n3,.sl k3,.int .i64 o4,.int .i64 n4,.sl k4]) rfl k
theorem Ec (o1 n1:Int) (k1:List FV) (s:Nat) (h:Hp) (k:IV→Hp→List Ref→List Ref→Option (IV×Hp)):Ay (Ah EE 29 1 [(0,.fv (.agg [.int .i64 o1,.int .i64 n1,.sl k1]))]) s h k =
  k (.clip [.agg [.int .i64 o1,.int .i64 n1,.sl k1]]) h [] []:=Cy WE tTm (by decide) (cells:=[.int .i64 o1,.int .i64 n1,.sl k1]) rfl k
def AjE (r:Option (IV×Hp)) (v:FV):Prop:=∃own,r=some (.fv v,⟨own,[]⟩)
theorem SG {v:FV} {own:List (Nat×Blk)}:AjE (some (.fv v,⟨own,[]⟩)) v:=⟨own,rfl⟩
def HN:Nat→Tm
 | 0=>.mk 11 0 []
 | n+1=>.mk 12 0 [HN n]
theorem AiQ {g:FuncId} (h:EE.pol.inl g=false) (h1:EE.pol.keep g=[]) (h2:EE.pol.split g=false) (h3:EE.pol.raw g=false) (ih:Aa) (xs:List IV) (h0:Hp) (k:IV→Hp→List Ref→List Ref→Option (IV×Hp)) :
  D8 EE ih (.fv (.func (.func g) [] [])) xs h0 k=Al [] false false ih g xs h0 k:=by
 unfold D8;simp only [callee,h,cond_false,AjZ,h1,h2,h3,AwU,List.nil_append,List.append_nil]
theorem ApI {n:Nat} (k:Nat) (hn:k+3<n) (hk:k≤1000000):Bc (SS dt n 29 [iv k] ⟨[],[]⟩) (HN k).enc:=by
 obtain ⟨n,rfl⟩:∃j,n=j+1:=⟨n - 1,by omega⟩;rw [c29];have h0:=Fg (n:=n) (by omega) 11;rw [Ai] at h0;simp only [TO,SX,Tw,S29,↓XX,XY,↓reduceIte,Nat.reduceBEq,Nat.reduceAdd,Int.reduceEq,Int.reduceLT,Int.reduceLE,↓Ag h0];refine A6 (Q:=fun r=>Bc r _) (fun j V H=>∃(i:Nat),i+j=k∧V=[iv k,.ptr (.own 30408704) 0,.ptr (.own 30409729) 0,iv i] ∧
   H=⟨[(30408704,.row [iv 0,iv 0,.nils] false),(30409729,.row [iv (HN i).op,iv (HN i).n,.fv (.sl ((HN i).kids.map Tm.enc))] false)],[]⟩) ?_ n k _ _ (by omega) ⟨0,by omega,rfl,rfl⟩
 rintro j V H rec ⟨i,hi,rfl,rfl⟩ hrec;cases j with
 | zero =>
  have:i=k:=by omega
  subst this;have hno:¬ ((i:Int)<i):=by omega
  generalize HN i=t;obtain ⟨o,p,l⟩:=t;rw [Ai];simp only [TO,SX,Tw,X2,S29,↓XX,XY,↓reduceIte,Nat.reduceBEq,Nat.reduceAdd,Int.reduceEq,Int.reduceLT,Int.reduceLE,hno,Tm.op,Tm.n,Tm.kids];exact Ao _ _
 | succ j =>
  have hlt:(i:Int)<k:=by omega
  have hw:BI ((i:Int)+1)=((i+1:Nat):Int):=(As (by omega) (by omega)).trans (by simp);have ht:=C6 (n:=n) (by omega) 12 [HN i];have h9:=hrec j ([iv k,.ptr (.own 30408704) 0,.ptr (.own 30409729) 0,iv (i+1:Nat)]) (⟨[(30408704,.row [iv 0,iv 0,.nils] false),(30409729,.row [iv 12,iv 0,.fv (.sl ([HN i].map Tm.enc))] false)],[]⟩) (by omega) ⟨i+1,by omega,rfl,rfl⟩;generalize HN i=t at *;obtain ⟨o,p,l⟩:=t;simp only [AwV,AwU,Ai] at ht h9;simp only [TO,SX,Tw,X2,S29,↓XX,XY,↓reduceIte,Nat.reduceBEq,Nat.reduceAdd,Int.reduceEq,Int.reduceLT,Int.reduceLE,hlt,Tm.op,Tm.n,Tm.kids,↓AkB,↓Ag ht,hw];exact h9
theorem Agz:∀(n:Nat) (t:Tm),t.wt<n→t.wt≤1152921504606846976→Bc (SS dt n 18 [.fv t.enc] ⟨[],[]⟩) (.int .i64 t.wt):=by
 intro n
 induction n with
 | zero=>intro t h;omega
 | succ n ih =>
  intro t h hw;obtain ⟨op,m,ks⟩:=t;simp only [Tm.wt] at h hw ⊢;rw [c18,Ai];have hlen:=Db ks;simp only [Sg,TF,SE,S18,↓XX,XY,↓reduceIte,Nat.reduceBEq,Nat.reduceAdd,Int.reduceEq,Int.reduceLT,Int.reduceLE];refine A6 (Q:=fun r=>Bc r _) (fun k V H=>∃(pre rest:List Tm) (acc:Nat),ks=pre++rest∧rest.length=k∧V=[.ptr (.own 18874368) 0,iv acc,iv pre.length]∧H=⟨[(18874368,.row [iv op,iv m,.fv (.sl (ks.map Tm.enc))] false)],[]⟩∧acc+Tm.wtL rest=1+Tm.wtL ks)
   ?_ n ks.length _ _ (by omega) ⟨[],ks,1,rfl,rfl,rfl,rfl,rfl⟩
  rintro k V H rec ⟨pre,rest,acc,hk,hl,rfl,rfl,ht⟩ hrec;have hkl:ks.length=pre.length+rest.length:=by rw [hk];simp
  cases rest with
  | nil =>
   have hno:¬ ((pre.length:Int)<ks.length):=by rw [hkl];simp
   simp only [Tm.wtL] at ht;rw [← ht];simp only [Sg,TF,SE,X5,S18,↓XX,XY,↓reduceIte,Nat.reduceBEq,Nat.reduceAdd,Int.reduceEq,Int.reduceLT,Int.reduceLE,hno];exact Ao _ _
  | cons t rest =>
   have hi:(pre.length:Int)<ks.length:=by rw [hkl];simp;omega
   have hg:=Ce hk;have htw:=BN (t:=t) (l:=ks) (by rw [hk];simp);have hs:=ih t (by omega) (by omega);simp only [Tm.wtL] at ht;have hwi:BI ((pre.length:Int)+1)=((pre++[t]).length:Int):=(As (by omega) (by omega)).trans (by simp);have hwa:BI ((acc:Int)+(t.wt:Int))=((acc+t.wt:Nat):Int):=(As (by omega) (by omega)).trans (by simp);have h9:=hrec rest.length ([.ptr (.own 18874368) 0,iv (acc+t.wt:Nat),iv (pre++[t]).length]) _ (by simp only [AwT] at hl;omega) ⟨pre++[t],rest,acc+t.wt,by rw [hk];simp,rfl,rfl,rfl,by omega⟩;generalize t.wt=v at hs hwa h9;obtain ⟨o,p,l⟩:=t;rw [Ai] at hs;simp only [Sg,TF,SE,X5,S18,↓XX,XY,↓reduceIte,Nat.reduceBEq,Nat.reduceAdd,Int.reduceEq,Int.reduceLT,Int.reduceLE,hi,↓Bq (AO hg) (A9 _ _ _),↓Cb,↓Av hs,hwi,hwa];exact h9
theorem Vz (n:Nat):Rp (SS dt (n+100) 10 [] ⟨[],[]⟩)=true:=by kernel_rfl
theorem PT {n:Nat} (h:100≤n):Bc (SS dt n 10 [] ⟨[],[]⟩) (.bool true):=by
 obtain ⟨k,rfl⟩:∃k,n=k+100:=⟨n - 100,by omega⟩;exact AeY (Vz k)
section
variable {β:Type} {E:Env}
def Aqi (cs:List IV) (k:List FV→Option β):Option β:=(Di cs).bind k
theorem Alu {t e:TypeId} {a b:Nat} {ei:TI} {z:List IV} (hT:E.T t=some ⟨a,b,.slice e,z⟩) (he:E.T e=some ei) (hs:ei.size=1) (hz:∃x,ei.zero=[x]) (r s:Nat) (own:List (Nat×Blk)) (ext:List Blk)
  (hc:∀cells ro,Ap r own=some (.row cells ro)→cells.length≤100) (hk:∀cells ro,Ap r own=some (.row cells ro)→∃fc,Di cells=some fc) (k:IV→Hp→List Ref→List Ref→Option β) :
  Ay (Ah E t 1 [(0,.ptr (.own r) 0)]) s ⟨own,ext⟩ k=Fs own r fun bl=>DB bl fun cells=>Aqi cells fun fc=>A0 own r (.row cells true) fun own=>k (.clip [.fp fc 0]) ⟨own,ext⟩ [.own r] [.own r]:=by
 obtain ⟨x,hx⟩:=hz;have hm:Ah E t 1 [(0,.ptr (.own r) 0)]=(frzL (65534+1+1) [.ptr (.own r) 0]).bind fun (vs,u)=>.ret { eff:={ val:=.clip (BV ei.size 1 vs),upd:=u } }:=by
  have h1:¬ (ei.size=0∨1 * ei.size > 65536):=by rw [hs];omega
  have h2:CA (fun j=>some (j * ei.size,ei.size)) (Qg 1 ei.zero) [(0,.ptr (.own r) 0)]=some [.ptr (.own r) 0]:=by
   rw [hx,hs];rfl
  simp only [Ah,hT,he,if_neg h1,h2]
 rw [hm,Bk];unfold Ay;cases hl:Ap r own with
 | none =>
  have:((frzL (65534+1+1) [.ptr (.own r) 0]).bind fun (vs,u)=>Rd.ret ({ eff:={ val:=.clip (BV ei.size 1 vs),upd:=u } }:Made)).runLog ⟨own,ext⟩ []=none:=by
   simp only [frzL,C2,Rd.bind,Rd.runLog,Hp.get,hl]
  rw [this];rfl
 | some bl =>
  cases bl with
  | row cells ro =>
   obtain ⟨fc,hfc⟩:=hk cells ro hl;have hlen:=hc cells ro hl;have h3:frzL 65534 cells=.ret (fc,[]):=Aex cells 65534 (by omega) hfc
   have:((frzL (65534+1+1) [.ptr (.own r) 0]).bind fun (vs,u)=>Rd.ret ({ eff:={ val:=.clip (BV ei.size 1 vs),upd:=u } }:Made)).runLog ⟨own,ext⟩ [] =
     some ({ eff:={ val:=.clip (BV ei.size 1 [.fp fc 0]),upd:=[(.own r,.row cells true)] } },[.own r]):=by
    simp only [frzL,C2,Rd.bind,Rd.runLog,Hp.get,hl,h3,List.append_nil]
   rw [this];simp only [Option.bind_some,DB,Aqi,hfc,hs]
   show (fRf (.own r) fun q=>Da q ⟨own,ext⟩ fun _=>fBk (.row cells true) fun b=>Ge q b ⟨own,ext⟩ fun h=>J7 none s h fun h=>fV 3 (.clip [.fp fc 0]) fun v=>k v h [.own r] ([.own r]++[]))=_
   simp only [OT,C8,CB,J7,Ge,Da];rw [Bk,hl];rfl
  | tok n sz =>
   have:((frzL (65534+1+1) [.ptr (.own r) 0]).bind fun (vs,u)=>Rd.ret ({ eff:={ val:=.clip (BV ei.size 1 vs),upd:=u } }:Made)).runLog ⟨own,ext⟩ []=none:=by
    simp only [frzL,C2,Rd.bind,Rd.runLog,Hp.get,hl]
   rw [this];rfl
  | map es =>
   have:((frzL (65534+1+1) [.ptr (.own r) 0]).bind fun (vs,u)=>Rd.ret ({ eff:={ val:=.clip (BV ei.size 1 vs),upd:=u } }:Made)).runLog ⟨own,ext⟩ []=none:=by
    simp only [frzL,C2,Rd.bind,Rd.runLog,Hp.get,hl]
   rw [this];rfl
theorem Aro {t e:TypeId} {a b:Nat} {ei:TI} {z:List IV} (hT:E.T t=some ⟨a,b,.slice e,z⟩) (he:E.T e=some ei) (hs:ei.size=1) (hz:∃x,ei.zero=[x]) {r:Nat} {own own':List (Nat×Blk)} {cells:List IV} {ro:Bool} {fc:List FV}
  (hl:Ap r own=some (.row cells ro)) (hf:Di cells=some fc) (hn:cells.length≤100) (ho:AN r (.row cells true) own=own') (s:Nat) (ext:List Blk) (k:IV→Hp→List Ref→List Ref→Option β) :
  Ay (Ah E t 1 [(0,.ptr (.own r) 0)]) s ⟨own,ext⟩ k=k (.clip [.fp fc 0]) ⟨own',ext⟩ [.own r] [.own r]:=by
 have h1:∀cells' ro',Ap r own=some (.row cells' ro')→cells'=cells:=fun c r h=>by rw [hl] at h;cases h;rfl
 rw [Alu hT he hs hz r s own ext (fun c r h=>by rw [h1 c r h];exact hn) (fun c r h=>by rw [h1 c r h];exact ⟨fc,hf⟩),Bk,hl];simp only [Option.bind_some,DB,Aqi,hf,Bu,ho]
def Bx (r:Option (IV×Hp)) (w:FV) (ext:List Blk):Prop:=∃v own,r=some (v,⟨own,ext⟩) ∧
 ∃u lg,∀(e:Option (IV×Hp)) (K:FV→List (Ref×Blk)→List Ref→Option (IV×Hp)),Dj 12 v ⟨own,ext⟩ [] e K=K w u lg
theorem AJ (w:FV) (own:List (Nat×Blk)) (ext:List Blk):Bx (some (.fv w,⟨own,ext⟩)) w ext:=⟨_,own,rfl,[],[],fun _ _=>rfl⟩
theorem Fl {v:IV} {w:FV} (hz:A8 v=some w) (own:List (Nat×Blk)) (ext:List Blk):Bx (some (v,⟨own,ext⟩)) w ext:=⟨_,own,rfl,[],[],fun e K=>JP _ _ e K hz⟩
theorem MT:∀l:List FV,CD (l.map .fv) []=[]
 | []=>rfl
 | v::l=>by
  show Wm (.fv v) (CD (l.map .fv) [])=[]
  rw [MT l];rfl
theorem AsT (n j:Nat) (t:List Ref) (s:Nat) (rest:List Blk):Qi (n+1) (.ext j::t) s rest=cond (Nat.ble (Nat.succ j) s) (Qi n t s rest) (cond (Nat.beq j s) (goR (Qi n) t s rest) false):=rfl
theorem Ary (n s:Nat):Qi (n+1) [] s []=true:=rfl
set_option maxRecDepth 20000 in
theorem Acu (st:List FV):Qi 400 [.ext 0] 0 [.row (st.map .fv) false]=true:=by
 rw [show (400:Nat)=398+1+1 from rfl,AsT]
 show goR (Qi (398+1)) [] 0 [.row (st.map .fv) false]=true
 show Qi (398+1) ([]++Fo (.row (st.map .fv) false)) 1 []=true
 rw [show Fo (.row (st.map .fv) false)=CD (st.map .fv) [] from rfl,MT]
 exact Ary 398 1
theorem AdI (st:List FV):okB 1 [.row (st.map .fv) false]=true:=by
 show cond (okR 1 (Fo (.row (st.map .fv) false))) true false=true
 rw [show Fo (.row (st.map .fv) false)=CD (st.map .fv) [] from rfl,MT]
 rfl
theorem gb3 (a b c:FV):Qi 400 [.ext 0] 0 [.row [.fv a,.fv b,.fv c] false]=true:=Acu [a,b,c]
theorem ob3 (a b c:FV):okB 1 [.row [.fv a,.fv b,.fv c] false]=true:=AdI [a,b,c]
theorem gb2 (a b:FV):Qi 400 [.ext 0] 0 [.row [.fv a,.fv b] false]=true:=Acu [a,b]
theorem ob2 (a b:FV):okB 1 [.row [.fv a,.fv b] false]=true:=AdI [a,b]
theorem XG {r1:Ref} {rs1:List Ref} {ih:Aa} {f:FuncId} {vs:List IV} {w:FV} {ext ext':List Blk} (hr:Bx (ih f vs ⟨[],ext⟩) w ext') (hg:Qi 400 (r1::rs1) 0 ext=true) (hl:ext'.length=ext.length) (ho:okB ext.length ext'=true)
  (own:List (Nat×Blk)) (r0:Option (IV×Hp)) (u:List (Ref×Blk)) (lg:List Ref) (e:Option (IV×Hp)) (k:IV→Hp→List Ref→List Ref→Option (IV×Hp)) :
  VR (
     r1::rs1) r0 ⟨own,ext⟩ u lg e (fun rs=>match rs with
   | []=>none
   | r::rs=>(match (⟨own,ext⟩:Hp) with
    | ⟨own,ext⟩=>cond (Qi 400 (r::rs) 0 ext) (match ih f vs ⟨[],ext⟩ with
     | none=>none
     | some p=>match p with
      | (v,h')=>match h' with
       | ⟨own',ext'⟩=>cond (and (Nat.beq ext'.length ext.length) (okB ext.length ext'))
        (Dj 12 v ⟨own',ext'⟩ [] e fun w _ _=>Mb u ⟨own,ext'⟩ fun h2=>k (.fv w) h2 ((CR ext.length).reverse++lg) (Bw u++CR ext.length)) none)
     e)) k=Mb u ⟨own,ext'⟩ fun h2=>k (.fv w) h2 ((CR ext.length).reverse++lg) (Bw u++CR ext.length):=by
 obtain ⟨v,own',e1,u',lg',hz⟩:=hr;simp only [VR,hg,e1,hl,ho];rw [show (Nat.beq ext.length ext.length && true)=true by rw [Bool.and_true];exact Nat.beq_refl _,cond_true,hz]
 rfl
structure OneX (ext ext':List Blk):Prop where
 g:Qi 400 [.ext 0] 0 ext=true
 l:ext.length=1
 l':ext'.length=1
 o:okB 1 ext'=true
theorem Cs (a b c a' b' c':FV):OneX [.row [.fv a,.fv b,.fv c] false] [.row [.fv a',.fv b',.fv c'] false]:=⟨gb3 ..,rfl,rfl,ob3 ..⟩
theorem Aq0 (a b a' b':FV):OneX [.row [.fv a,.fv b] false] [.row [.fv a',.fv b'] false]:=⟨gb2 ..,rfl,rfl,ob2 ..⟩
theorem Vo (x:Nat):∀(args:List IV) {vs:List FV} (h:Hp) (lg:List Ref) (e:Option β) (k:List IV→List Ref→List (Ref×Blk)→List Ref→Option β) (ks:List Bool),(∀b∈ks,b=false)→Bz args=some vs →
  Vg args ks h lg e k=k (vs.map .fv) [] [] lg
 | [],vs,h,lg,e,k,ks,_,hz=>by cases hz;rfl
 | v::l,vs,h,lg,e,k,[],_,hz=>Aja (v::l) h lg e k hz
 | v::l,vs,h,lg,e,k,b::ks,hk,hz=>by
  have hb:=hk b List.mem_cons_self;subst hb;simp only [Bz] at hz;cases h1:A8 v with
  | none=>rw [h1] at hz;cases hz
  | some x' =>
   rw [h1] at hz;cases h2:Bz l with
   | none=>rw [h2] at hz;cases hz
   | some ys =>
    rw [h2] at hz;cases hz;rw [Xl,JP h lg e _ h1,Vo x l h lg e _ ks (fun c hc=>hk c (List.mem_cons_of_mem _ hc)) h2];rfl
theorem Ajh {ks:List Bool} (hks:∀b∈ks,b=false) {ih:Aa} {f:FuncId} {args:List IV} {vs:List FV} {w:FV} {ext ext':List Blk} (hz:Bz args=some vs) (X:OneX ext ext') (hr:Bx (ih f (.ptr (.ext 0) 0::vs.map .fv) ⟨[],ext⟩) w ext')
  (own:List (Nat×Blk)) (k:IV→Hp→List Ref→List Ref→Option (IV×Hp)):Al (true::ks) false false ih f (.ptr (.ext 0) 0::args) ⟨own,ext⟩ k=k (.fv w) ⟨own,ext'⟩ [.ext 0] [.ext 0]:=by
 rw [PY,Ajb,XF,Vo 0 args _ _ _ _ ks hks hz]
 have:=XG (r1:=.ext 0) (rs1:=[]) hr X.g (by rw [X.l,X.l']) (by rw [X.l];exact X.o) own (ih f (.ptr (.ext 0) 0::vs.map .fv) ⟨[],[]⟩) [] [] (GU (true::ks) false false ih f (.ptr (.ext 0) 0::args) ⟨own,ext⟩ k) k
 refine this.trans ?_;rw [X.l];rfl
theorem DY {ih:Aa} {f:FuncId} {w:FV} {ext ext':List Blk} (hr:Bx (ih f [.ptr (.ext 0) 0] ⟨[],ext⟩) w ext') (X:OneX ext ext') (own:List (Nat×Blk)) (k:IV→Hp→List Ref→List Ref→Option (IV×Hp)) :
  Al [true] false false ih f [.ptr (.ext 0) 0] ⟨own,ext⟩ k=k (.fv w) ⟨own,ext'⟩ [.ext 0] [.ext 0]:=Ajh (ks:=[]) (by simp) (vs:=[]) rfl X hr own k
theorem J3 {ih:Aa} {f:FuncId} {a b:IV} {x y w:FV} {ext ext':List Blk} (hr:Bx (ih f [.ptr (.ext 0) 0,.fv x,.fv y] ⟨[],ext⟩) w ext') (X:OneX ext ext') (ha:A8 a=some x) (hb:A8 b=some y) (own:List (Nat×Blk))
  (k:IV→Hp→List Ref→List Ref→Option (IV×Hp)):Al [true,false,false] false false ih f [.ptr (.ext 0) 0,a,b] ⟨own,ext⟩ k=k (.fv w) ⟨own,ext'⟩ [.ext 0] [.ext 0]:=Ajh (ks:=[false,false]) (by simp) (XJ ha hb) X hr own k
theorem Aib {ih:Aa} {f:FuncId} {a b c:IV} {x y z w:FV} {ext ext':List Blk} (hr:Bx (ih f [.ptr (.ext 0) 0,.fv x,.fv y,.fv z] ⟨[],ext⟩) w ext') (X:OneX ext ext') (ha:A8 a=some x) (hb:A8 b=some y) (hc:A8 c=some z)
  (own:List (Nat×Blk)) (k:IV→Hp→List Ref→List Ref→Option (IV×Hp)):Al [true,false,false,false] false false ih f [.ptr (.ext 0) 0,a,b,c] ⟨own,ext⟩ k=k (.fv w) ⟨own,ext'⟩ [.ext 0] [.ext 0] :=
 Ajh (ks:=[false,false,false]) (by simp) (Afe ha hb hc) X hr own k
theorem RC {ih:Aa} {f:FuncId} {s:Nat} {own:List (Nat×Blk)} {cells:List IV} {ro:Bool} {fc:List FV} {w:FV} {ext ext':List Blk} (hr:Bx (ih f [.ptr (.ext 0) 0,.fv (.fp fc 0)] ⟨[],ext⟩) w ext') (X:OneX ext ext')
  (hl:Ap s own=some (.row cells ro)) (hz:Di cells=some fc) (hn:cells.length≤300) (k:IV→Hp→List Ref→List Ref→Option (IV×Hp)) :
  Al [true,false] false false ih f [.ptr (.ext 0) 0,.ptr (.own s) 0] ⟨own,ext⟩ k=k (.fv w) ⟨AN s (.row cells true) own,ext'⟩ [.ext 0,.own s] [.own s,.ext 0]:=by
 rw [PY,Ajb,XF,Xl,Xb,KS,Bk,hl];simp only [Option.bind_some,HS];rw [Bb,decide_eq_true hn,c_t,Aav 10 _ _ _ cells _ hz,fz0]
 have:=XG (r1:=.ext 0) (rs1:=[]) hr X.g (by rw [X.l,X.l']) (by rw [X.l];exact X.o) own (ih f [.ptr (.ext 0) 0,.fv (.fp fc 0)] ⟨[],[]⟩) [(.own s,.row cells true)] [.own s] (GU [true,false] false false ih f [.ptr (.ext 0) 0,.ptr (.own s) 0] ⟨own,ext⟩ k) k
 refine this.trans ?_;rw [X.l]
 show (Fs own s fun _=>A0 own s (.row cells true) fun own=>k (.fv w) ⟨own,ext'⟩ [.ext 0,.own s] [.own s,.ext 0])=_
 rw [Bk,hl,Option.bind_some,Bu]
end
end Idl
end Go.Proofs.Ytaifgaidaglblaa
namespace Go.Proofs.Ytaifgaidaglblaa
namespace Idl
inductive RV where
 | mk (op n:Int) (k env:List RV) (b:Tm)
def Tm.z:Tm:=.mk 0 0 []
def RV.enc:RV→FV
 | .mk op n k env (.mk bo bn bk)=>.fp [.int .i64 op,.int .i64 n,.sl (encL k),.sl (encL env),.int .i64 bo,.int .i64 bn,.sl (bk.map Tm.enc)] 0
where
 encL:List RV→List FV
  | []=>[]
  | v::l=>v.enc::encL l
theorem Af9 (l:List RV):RV.enc.encL l=l.map RV.enc:=by
 induction l with
 | nil=>rfl
 | cons t l ih=>simp [RV.enc.encL,ih]
theorem JD (op n:Int) (k env:List RV) (bo bn:Int) (bk:List Tm):(RV.mk op n k env (.mk bo bn bk)).enc =
  .fp [.int .i64 op,.int .i64 n,.sl (k.map RV.enc),.sl (env.map RV.enc),.int .i64 bo,.int .i64 bn,.sl (bk.map Tm.enc)] 0:=by simp only [RV.enc,Af9]
def RV.op:RV→Int
 | .mk op _ _ _ _=>op
def RV.n:RV→Int
 | .mk _ n _ _ _=>n
def RV.k:RV→List RV
 | .mk _ _ k _ _=>k
def RV.env:RV→List RV
 | .mk _ _ _ env _=>env
def RV.b:RV→Tm
 | .mk _ _ _ _ b=>b
def RV.var (n:Int):RV:=.mk 1 n [] [] .z
def RV.clo (env:List RV) (b:Tm):RV:=.mk 0 0 [] env b
def RV.zero:RV:=.mk 11 0 [] [] .z
def RV.node (op n:Int) (k:List RV):RV:=.mk op n k [] .z
theorem NP (v:RV):v.enc=.fp [.int .i64 v.op,.int .i64 v.n,.sl (v.k.map RV.enc),.sl (v.env.map RV.enc),.int .i64 v.b.op,.int .i64 v.b.n,.sl (v.b.kids.map Tm.enc)] 0:=by
 obtain ⟨op,n,k,env,⟨bo,bn,bk⟩⟩:=v;exact JD ..
theorem Xh (t:Tm):Tm.enc t=.agg [.int .i64 t.op,.int .i64 t.n,.sl (t.kids.map Tm.enc)]:=by cases t;exact Ai ..
theorem O8 (v:RV):v.enc.cells.length=1:=by obtain ⟨op,n,k,env,⟨bo,bn,bk⟩⟩:=v;rfl
theorem Vl (v:RV):v.enc.cells.all FV.one=true:=by obtain ⟨op,n,k,env,⟨bo,bn,bk⟩⟩:=v;rfl
theorem AfG (v:RV):v.enc.cells=[v.enc]:=by obtain ⟨op,n,k,env,⟨bo,bn,bk⟩⟩:=v;rfl
theorem tVs:EE.T 87=some ⟨1,24,.slice 73,[.nils]⟩:=by kernel_rfl
theorem tVp:EE.T 73=some ⟨1,8,.ptr,[.fv .nilp]⟩:=by kernel_rfl
theorem sV:SliceT EE 87 1:=⟨_,_,_,_,_,tVs,tVp,rfl,by decide,by decide⟩
theorem Kf (l:List RV):BK 1 (l.map RV.enc)=true:=by
 cases l with
 | nil=>rfl
 | cons a l=>simp only [AwV,BK,O8,beq_self_eq_true]
theorem Amo (s:Nat) (h:Hp) (k:IV→Hp→List Ref→List Ref→Option (IV×Hp)):Ay (Ah EE 87 0 []) s h k=k (.clip []) h [] [] :=
 Cy tVs tVp (by decide) (cells:=[]) rfl k
theorem Wl (a:RV) (s:Nat) (h:Hp) (k:IV→Hp→List Ref→List Ref→Option (IV×Hp)):Ay (Ah EE 87 1 [(0,.fv a.enc)]) s h k=k (.clip [a.enc]) h [] []:=by
 obtain ⟨op,n,kk,env,⟨bo,bn,bk⟩⟩:=a;rw [JD];exact Cy tVs tVp (by decide) (cells:=[.fp [.int .i64 op,.int .i64 n,.sl (kk.map RV.enc),.sl (env.map RV.enc),.int .i64 bo,.int .i64 bn,.sl (bk.map Tm.enc)] 0]) rfl k
theorem Arl (a b:RV) (s:Nat) (h:Hp) (k:IV→Hp→List Ref→List Ref→Option (IV×Hp)):Ay (Ah EE 87 2 [(0,.fv a.enc),(1,.fv b.enc)]) s h k=k (.clip [a.enc,b.enc]) h [] []:=by
 obtain ⟨op,n,kk,env,⟨bo,bn,bk⟩⟩:=a;obtain ⟨op',n',kk',env',⟨bo',bn',bk'⟩⟩:=b;rw [JD,JD];exact Cy tVs tVp (by decide) (cells:=[.fp [.int .i64 op,.int .i64 n,.sl (kk.map RV.enc),.sl (env.map RV.enc),.int .i64 bo,.int .i64 bn,.sl (bk.map Tm.enc)] 0,.fp [.int .i64 op',.int .i64 n',.sl (kk'.map RV.enc),.sl (env'.map RV.enc),.int .i64 bo',.int .i64 bn',.sl (bk'.map Tm.enc)] 0]) rfl k
theorem Asw (a b c d:RV) (s:Nat) (h:Hp) (k:IV→Hp→List Ref→List Ref→Option (IV×Hp)):Ay (Ah EE 87 4 [(0,.fv a.enc),(1,.fv b.enc),(2,.fv c.enc),(3,.fv d.enc)]) s h k =
  k (.clip [a.enc,b.enc,c.enc,d.enc]) h [] []:=by
 have key:∀x:RV,∃l,x.enc=.fp l 0:=fun x=>⟨_,NP x⟩;obtain ⟨la,ha⟩:=key a;obtain ⟨lb,hb⟩:=key b;obtain ⟨lc,hc⟩:=key c;obtain ⟨ld,hd⟩:=key d;rw [ha,hb,hc,hd];exact Cy tVs tVp (by decide) (cells:=[.fp la 0,.fp lb 0,.fp lc 0,.fp ld 0]) rfl k
theorem Ai7 (e:RV) (s:Nat) (own:List (Nat×Blk)) (ext:List Blk) (k:IV→Hp→List Ref→List Ref→Option (IV×Hp)) :
  Ay (AY EE s false .append [87,87] [.nils,.clip [e.enc]]) s ⟨own,ext⟩ k=CT own s (A0 own s (.tok 1 1) fun own=>k (.app (.own s) [e.enc]) ⟨own,ext⟩ [] [.own s]) :=
 M8 sV (.clip _) (Kf [e]) rfl (by simp) (.inl rfl) s own ext k
theorem XM {es:List RV} (hb:es.length+1≤1000000) (e:RV) (r s:Nat) (own:List (Nat×Blk)) (ext:List Blk) (k:IV→Hp→List Ref→List Ref→Option (IV×Hp)) :
  Ay (AY EE s false .append [87,87] [.app (.own r) (es.map RV.enc),.clip [e.enc]]) s ⟨own,ext⟩ k =
   Fs own r fun b=>AfK b es.length 1 (A0 own r (.tok (es.length+1) 1) fun own=>k (.app (.own r) ((es++[e]).map RV.enc)) ⟨own,ext⟩ [.own r] [.own r]):=by
 rw [VU sV (.clip [e.enc]) (Kf [e]) (Kf es) (by simp [Vl]) (by simpa using hb) r s own ext k];simp only [List.length_map,List.map_append,AwV,AwU,AwT,List.length_nil,Nat.zero_add]
theorem Ss {n:Nat} (hn:0<n) (env vs:List RV) (hv:vs≠[]) (hb:env.length+vs.length≤1000000):Bc (SS dt n 58 [.fv (.sl (env.map RV.enc)),.fv (.sl (vs.map RV.enc))] ⟨[],[]⟩) (.sl ((env++vs).map RV.enc)):=by
 obtain ⟨n,rfl⟩:∃k,n=k+1:=⟨n - 1,by omega⟩;rw [c58];have hvs:(vs.map RV.enc).isEmpty=false:=by cases vs with
  | nil=>exact absurd rfl hv
  | cons _ _=>rfl
 cases env with
 | nil =>
  simp only [S58,↓XX,XY,↓reduceIte,Nat.reduceBEq,Nat.reduceAdd,Int.reduceEq,Int.reduceLT,Int.reduceLE,↓Amo,↓Amd sV (.sl []) (.inr rfl),↓M8 sV (.sl (vs.map RV.enc)) (Kf vs) hvs (by simp;simp at hb;omega) (.inr rfl),List.nil_append];exact Bh rfl _
 | cons a env =>
  simp only [S58,↓XX,XY,↓reduceIte,Nat.reduceBEq,Nat.reduceAdd,Int.reduceEq,Int.reduceLT,Int.reduceLE,↓Amo];have h1:((a::env).map RV.enc).isEmpty=false:=rfl;have h0:=fun {β:Type}=>M8 (β:=β) sV (.sl ((a::env).map RV.enc)) (Kf (a::env)) h1 (by simp only [List.length_map];omega) (.inr rfl:IV.clip []=.nils∨IV.clip []=.clip []);have h2:=fun {β:Type}=>VU (β:=β) sV (.sl (vs.map RV.enc)) (Kf vs) (Kf (a::env)) (by simp [Vl]) (by simp only [List.length_map];omega);simp only [AwV] at h0 h2;simp only [↓XX,XY,↓reduceIte,Nat.reduceBEq,Nat.reduceAdd,Int.reduceEq,Int.reduceLT,Int.reduceLE,↓h0,↓h2,↓H7,List.map_append,List.cons_append];exact Bh rfl _
theorem Aiv {n:Nat} (hn:0<n) (s nd:Int) (h1:s≤1000000) (h0:0≤s):Bx (SS dt n 70 [.ptr (.ext 0) 0] ⟨[],[.row [iv s,iv nd,iv 0] false]⟩) (.bool (decide (s+1≤1000)))
  [.row [iv (s+1),iv nd,iv (if s+1≤1000 then 0 else 17)] false]:=by
 obtain ⟨n,rfl⟩:∃k,n=k+1:=⟨n - 1,by omega⟩;rw [c70];have hw:BI (s+1)=s+1:=by rw [As]<;>omega
 by_cases h:s+1≤1000
 ·have h':¬ 1000<s+1:=by omega
  simp only [X8,WX,Yl,W1,S70,↓XX,XY,↓reduceIte,Nat.reduceBEq,Nat.reduceAdd,Int.reduceEq,Int.reduceLT,Int.reduceLE,hw,h,h'];exact AJ _ _ _
 ·have h':1000<s+1:=by omega
  simp only [X8,WX,Yl,W1,S70,↓XX,XY,↓reduceIte,Nat.reduceBEq,Nat.reduceAdd,Int.reduceEq,Int.reduceLT,Int.reduceLE,hw,h,h'];exact AJ _ _ _
def AR (ev:Int→Int→Tm→Option (RV×Int×Int)) (op:Int) (env:List RV):Nat→List Tm→Int→Int→Option (List RV×Int×Int)
 | _,[],s,e=>some ([],s,e)
 | i,t::l,s,e=>if 0<Ae op i then (AR ev op env (i+1) l s e).map fun (vs,s,e)=>(.clo env t::vs,s,e) else
  match ev s e t with
  | none=>none
  | some (v,s,e)=>(AR ev op env (i+1) l s e).map fun (vs,s,e)=>(v::vs,s,e)
mutual
def Au:Nat→Int→Int→Tm→List RV→Option (RV×Int×Int)
 | 0,_,_,_,_=>none
 | f+1,s,e,.mk op m ks,env =>
  if e≠0 then some (.zero,s,e) else if 900000<env.length then none else
  if op=1 then
   if m<env.length then (if 0≤m then (env[(env.length - 1 - m).toNat]?).map fun v=>(v,s,e) else none)
   else if m≤4611686018427387904 then some (.var (env.length - 1 - m),s,e) else none
  else if f≤ks.length then none else if 900000<ks.length then none else
  match AR (fun s e t=>Au f s e t env) op env 0 ks s e with
  | none=>none
  | some (vs,s,e)=>headR f s e (.node op m vs)
def headR:Nat→Int→Int→RV→Option (RV×Int×Int)
 | 0,_,_,_=>none
 | f+1,s,e,v =>
  if e≠0 then some (v,s,e) else if s<0∨1000000<s then none else
  if v.op=5 then (match v.k[0]? with
   | none=>none
   | some k0=>if k0.op=4 then
     (if s+1≤1000 then (match k0.k[1]?,v.k[1]? with
      | some c,some x=>if 900000<c.env.length then none else Au f (s+1) 0 c.b (c.env++[x])
      | _,_=>none) else some (v,s+1,17))
    else some (v,s,e))
  else if v.op=8∨v.op=9 then (match v.k[0]? with
   | none=>none
   | some k0=>if k0.op=7 then
     (if s+1≤1000 then (k0.k[(1+v.op - 8).toNat]?).map fun x=>(x,s+1,0) else some (v,s+1,17))
    else some (v,s,e))
  else if v.op=30 then (match v.k[0]? with
   | none=>none
   | some k0=>if k0.op=19 then
     (if s+1≤1000 then (k0.k[0]?).map fun x=>(x,s+1,0) else some (v,s+1,17))
    else some (v,s,e))
  else if v.op=19 then (match v.k[0]? with
   | none=>none
   | some k0=>if k0.op=30 then
     (if s+1≤1000 then (k0.k[0]?).map fun x=>(x,s+1,0) else some (v,s+1,17))
    else some (v,s,e))
  else if v.op=13 then (match v.k[0]?,v.k[1]?,v.k[2]?,v.k[3]? with
   | some k0,some k1,some k2,some k3 =>
    if k3.op=11 then (if s+1≤1000 then some (k1,s+1,0) else some (v,s+1,17))
    else if k3.op=12 then
     (if s+1≤1000 then (match k3.k[0]? with
      | none=>none
      | some x=>(match headR f (s+1) 0 (.node 13 0 [k0,k1,k2,x]) with
       | none=>none
       | some (h,s,e)=>if 900000<k2.env.length then none else Au f s e k2.b (k2.env++[x,h])))
     else some (v,s+1,17))
    else some (v,s,e)
   | _,_,_,_=>none)
  else some (v,s,e)
end
theorem Yg {β:Type} {l:List RV} {i:Nat} {v:RV} (h:l[i]?=some v) (k:IV→Option β):A7 1 (.fv (.sl (l.map RV.enc))) (iv i) k=k (.fv (.fp [v.enc] 0)):=by
 have h1:(l.map RV.enc)[i]?=some v.enc:=by rw [List.getElem?_map,h];rfl
 rw [Bq h1 (O8 v),AfG]
def Ti (f:Nat):Prop:=∀(s e:Int) (t:Tm) (env:List RV) (v:RV) (s' e' nd:Int),Au f s e t env=some (v,s',e')→∀n,f+1≤n →
 Bx (SS dt n 42 [.ptr (.ext 0) 0,.fv t.enc,.fv (.sl (env.map RV.enc))] ⟨[],[.row [iv s,iv nd,iv e] false]⟩) v.enc [.row [iv s',iv nd,iv e'] false]
def R6 (f:Nat):Prop:=∀(s e:Int) (v w:RV) (s' e' nd:Int),headR f s e v=some (w,s',e')→∀n,f+1≤n →
 Bx (SS dt n 59 [.ptr (.ext 0) 0,.fv v.enc] ⟨[],[.row [iv s,iv nd,iv e] false]⟩) w.enc [.row [iv s',iv nd,iv e'] false]
abbrev YU (op m:Int) (ks:List Tm) (K:IV) (tok:List (Nat×Blk)) (s nd e:Int):Hp :=
 ⟨(44040192,.row [iv op,iv m,.fv (.sl (ks.map Tm.enc))] false)::(44047365,.row [iv op,iv m,K,.nils,iv 0,iv 0,.nils] false)::tok,[.row [iv s,iv nd,iv e] false]⟩
theorem Aq9 {op m:Int} (l:List RV):(RV.node op m l).enc=.fp [.int .i64 op,.int .i64 m,.sl (l.map RV.enc),.sl [],.int .i64 0,.int .i64 0,.sl []] 0:=by rw [RV.node,Tm.z,JD];rfl
theorem Ae5 {f:Nat} (he:Ti f) (hh:R6 f):Ti (f+1):=by
 intro s e t env v s' e' nd hev n hn;obtain ⟨n,rfl⟩:∃k,n=k+1:=⟨n - 1,by omega⟩;rw [c42];obtain ⟨op,m,ks⟩:=t;rw [Ai];rw [Au] at hev;by_cases h0:e≠0
 ·rw [if_pos h0] at hev;simp only [AwP,AwQ] at hev;obtain ⟨rfl,rfl,rfl⟩:=hev;simp only [I8,IK,Iv,IL,Jn,JH,IW,Jl,IF,Ip,IN,IG,JE,Jm,IT,IQ,IE,IZ,IA,IP,I4,Ji,S42,↓XX,XY,↓reduceIte,Nat.reduceBEq,Nat.reduceAdd,Int.reduceEq,Int.reduceLT,Int.reduceLE,h0];exact ⟨_,_,rfl,_,_,fun _ _=>rfl⟩
 ·have h0':e=0:=by omega
  subst h0';rw [if_neg h0] at hev;by_cases hlen:900000<env.length
  ·rw [if_pos hlen] at hev;cases hev
  ·rw [if_neg hlen] at hev;by_cases h1:op=1
   ·rw [if_pos h1] at hev;subst h1;by_cases h2:m<env.length
    ·rw [if_pos h2] at hev;by_cases h3:0≤m
     ·rw [if_pos h3] at hev;cases hg:env[(env.length - 1 - m).toNat]? with
      | none=>rw [hg] at hev;cases hev
      | some u =>
       rw [hg] at hev;simp only [AwS,AwP,AwQ] at hev;obtain ⟨rfl,rfl,rfl⟩:=hev;have e1:BI ((env.length:Int) - 1)=env.length - 1:=by rw [As]<;>omega
       have e2:BI ((env.length:Int) - 1 - m)=(((env.length:Int) - 1 - m).toNat:Int):=by rw [As]<;>omega
       simp only [I8,IK,Iv,IL,Jn,JH,IW,Jl,IF,Ip,IN,IG,JE,Jm,IT,IQ,IE,IZ,IA,IP,I4,Ji,S42,↓XX,XY,↓reduceIte,Nat.reduceBEq,Nat.reduceAdd,Int.reduceEq,Int.reduceLT,Int.reduceLE,h2,e1,e2,↓Yg hg];exact AJ _ _ _
     ·rw [if_neg h3] at hev;cases hev
    ·rw [if_neg h2] at hev;by_cases h3:m≤4611686018427387904
     ·rw [if_pos h3] at hev;simp only [AwP,AwQ] at hev;obtain ⟨rfl,rfl,rfl⟩:=hev;have e1:BI ((env.length:Int) - 1)=env.length - 1:=by rw [As]<;>omega
      have e2:BI ((env.length:Int) - 1 - m)=(env.length:Int) - 1 - m:=by rw [As]<;>omega
      simp only [I8,IK,Iv,IL,Jn,JH,IW,Jl,IF,Ip,IN,IG,JE,Jm,IT,IQ,IE,IZ,IA,IP,I4,Ji,S42,↓XX,XY,↓reduceIte,Nat.reduceBEq,Nat.reduceAdd,Int.reduceEq,Int.reduceLT,Int.reduceLE,h2,e1,e2];exact ⟨_,_,rfl,_,_,fun _ _=>rfl⟩
     ·rw [if_neg h3] at hev;cases hev
   ·rw [if_neg h1] at hev;by_cases hf:f≤ks.length
    ·rw [if_pos hf] at hev;cases hev
    ·rw [if_neg hf] at hev;by_cases hk9:900000<ks.length
     ·rw [if_pos hk9] at hev;cases hev
     ·rw [if_neg hk9] at hev;cases hkg:AR (fun s e t=>Au f s e t env) op env 0 ks s 0 with
      | none=>rw [hkg] at hev;cases hev
      | some q =>
      obtain ⟨vs,s1,e1⟩:=q;rw [hkg] at hev;simp only at hev;simp only [I8,IK,Iv,IL,Jn,JH,IW,Jl,IF,Ip,IN,IG,JE,Jm,IT,IQ,IE,IZ,IA,IP,I4,Ji,S42,↓XX,XY,↓reduceIte,Nat.reduceBEq,Nat.reduceAdd,Int.reduceEq,Int.reduceLT,Int.reduceLE,h1,↓AD,XD,heldB,AL,XE];refine A6 (Q:=fun r=>Bx r _ _) (fun k V H=>∃pre rest done s2 e2 us s3 e3,ks=pre++rest∧rest.length=k∧done.length=pre.length∧V=[.ptr (.ext 0) 0,.fv (.sl (env.map RV.enc)),.ptr (.own 44040192) 0,.ptr (.own 44047365) 0,iv pre.length] ∧
       (
        (pre=[]∧H=YU op m ks .nils [] s2 nd e2) ∨
        (∃r,(r=44052494∨r=44053518)∧pre≠[]∧H=YU op m ks (.app (.own r) (done.map RV.enc)) [(r,.tok done.length 1)] s2 nd e2)) ∧
       AR (fun s e t=>Au f s e t env) op env pre.length rest s2 e2=some (us,s3,e3)∧headR f s3 e3 (.node op m (done++us))=some (v,s',e'))
       ?_ n ks.length _ _ (by omega) ⟨[],ks,[],s,0,vs,s1,e1,rfl,rfl,rfl,rfl,.inl ⟨rfl,rfl⟩,hkg,hev⟩
      rintro k V H rec ⟨pre,rest,done,s2,e2,us,s3,e3,hk,hl,hdl,rfl,hH,hkids,hhead⟩ hrec;have hkl:ks.length=pre.length+rest.length:=by rw [hk];simp
      have zenc:∀l:List RV,(RV.node op m l).enc=.fp [.int .i64 op,.int .i64 m,.sl (l.map RV.enc),.sl [],.int .i64 0,.int .i64 0,.sl []] 0:=fun l=>Aq9 l;cases rest with
      | nil =>
       simp only [AR,AwP,AwQ] at hkids;obtain ⟨rfl,rfl,rfl⟩:=hkids;rw [List.append_nil] at hhead;have hc:=hh s2 e2 _ v s' e' nd hhead n (by omega);rw [zenc] at hc;have hpre:ks=pre:=by simpa using hk
       subst hpre;rcases hH with ⟨rfl,rfl⟩ | ⟨r,hr,hne,rfl⟩
       ·have hd:done=[]:=List.length_eq_zero_iff.1 hdl;subst hd;have hcall:=fun k=>RC (k:=k) (own:=[(44040192,.row [iv op,iv m,.fv (.sl (([]:List Tm).map Tm.enc))] false),(44047365,.row [iv op,iv m,.nils,.nils,iv 0,iv 0,.nils] false)])
         (cells:=[iv op,iv m,.nils,.nils,iv 0,iv 0,.nils]) (ro:=false) (s:=44047365) hc (Cs ..) (by simp [Ap]) rfl (by simp)
        simp only [↓WB,↓XX,XY,↓reduceIte,Nat.reduceBEq,Nat.reduceAdd,Int.reduceEq,Int.reduceLT,Int.reduceLE,Int.lt_irrefl,↓hcall];exact AJ _ _ _
       ·have hcall:=fun k=>RC (k:=k) (own:=[(44040192,.row [iv op,iv m,.fv (.sl (ks.map Tm.enc))] false),(44047365,.row [iv op,iv m,.app (.own r) (done.map RV.enc),.nils,iv 0,iv 0,.nils] false),(r,.tok done.length 1)])
         (cells:=[iv op,iv m,.app (.own r) (done.map RV.enc),.nils,iv 0,iv 0,.nils]) (ro:=false) (s:=44047365) hc (Cs ..) (by simp [Ap]) rfl (by simp)
        simp only [↓WB,↓XX,XY,↓reduceIte,Nat.reduceBEq,Nat.reduceAdd,Int.reduceEq,Int.reduceLT,Int.reduceLE,Int.lt_irrefl,↓hcall];exact AJ _ _ _
      | cons t rest =>
       have hi:(pre.length:Int)<ks.length:=by rw [hkl];simp;omega
       have hg:=Ce hk;have hb:=FM (n:=n) (by omega) op pre.length;have hwi:BI ((pre.length:Int)+1)=((pre++[t]).length:Int):=(As (by omega) (by omega)).trans (by simp);have hbi:(0<(Ae op pre.length:Int)) ↔ 0<Ae op pre.length:=by omega
       have hd9:done.length+1≤1000000:=by omega
       simp only [AR] at hkids;simp only [AwT] at hl;by_cases hbp:0<Ae op pre.length
       ·rw [if_pos hbp] at hkids;cases hkk:AR (fun s e t=>Au f s e t env) op env (pre.length+1) rest s2 e2 with
        | none=>rw [hkk] at hkids;cases hkids
        | some q =>
        obtain ⟨us',s4,e4⟩:=q;rw [hkk] at hkids;simp only [AwS,AwP,AwQ] at hkids;obtain ⟨rfl,rfl,rfl⟩:=hkids;have hbp':0<(Ae op pre.length:Int):=by omega
        have hce:(RV.clo env t).enc=.fp [.int .i64 0,.int .i64 0,.sl [],.sl (env.map RV.enc),.int .i64 t.op,.int .i64 t.n,.sl (t.kids.map Tm.enc)] 0:=by rw [NP];rfl
        have hnext:∀tk,(tk=44052494∨tk=44053518)→Bx (rec [.ptr (.ext 0) 0,.fv (.sl (env.map RV.enc)),.ptr (.own 44040192) 0,.ptr (.own 44047365) 0,iv (pre++[t]).length]
          (YU op m ks (.app (.own tk) ((done++[RV.clo env t]).map RV.enc)) [(tk,.tok (done++[RV.clo env t]).length 1)] s2 nd e2)) v.enc [.row [iv s',iv nd,iv e'] false]:=fun tk htk =>
         hrec rest.length _ _ (by omega) ⟨pre++[t],rest,done++[.clo env t],s2,e2,us',s4,e4,by rw [hk];simp,rfl,by simp [hdl],rfl,.inr ⟨tk,htk,by simp,rfl⟩,by simpa using hkk,by simpa using hhead⟩
        obtain ⟨o,p,l⟩:=t;simp only [Tm.op,Tm.n,Tm.kids] at hce;have ha0:=fun {s own ext k}=>Ai7 (RV.clo env (.mk o p l)) s own ext k;have ha1:=fun {r s own ext k}=>XM hd9 (RV.clo env (.mk o p l)) r s own ext k;rw [hce] at ha0 ha1;have hbs:=fun (tl:List (Nat×Blk)) (K:IV) (own:List (Nat×Blk)) (hown:own=(44040192,.row [iv op,iv m,.fv (.sl (ks.map Tm.enc))] false)::(44047365,.row [iv op,iv m,K,.nils,iv 0,iv 0,.nils] false)::tl) (hl:Ap 44052492 own=some (.row [iv 0,iv 0,.nils,.fv (.sl (env.map RV.enc)),iv o,iv p,.fv (.sl (l.map Tm.enc))] false)) (own':List (Nat×Blk)) (ho) s ext (k:IV→Hp→List Ref→List Ref→Option (IV×Hp)) =>
         Aro (E:=EE) (own:=own) (own':=own') tVs tVp rfl ⟨_,rfl⟩ hl (fc:=[.int .i64 0,.int .i64 0,.sl [],.sl (env.map RV.enc),.int .i64 o,.int .i64 p,.sl (l.map Tm.enc)]) rfl (by simp) ho s ext k
        rcases hH with ⟨hp0,rfl⟩ | ⟨r,hr,hne,rfl⟩
        ·have hd0:done=[]:=List.length_eq_zero_iff.1 (by rw [hdl,hp0];rfl);subst hd0;have h9:=hnext _ (.inl rfl);simp only [List.nil_append,AwV,AwU,AwT,List.length_nil] at h9;rw [hce] at h9;have hb0:=fun s ext k=>hbs [(44052492,.row [iv 0,iv 0,.nils,.fv (.sl (env.map RV.enc)),iv o,iv p,.fv (.sl (l.map Tm.enc))] false)] .nils _ rfl (by simp [Ap])
          [(44040192,.row [iv op,iv m,.fv (.sl (ks.map Tm.enc))] false),(44047365,.row [iv op,iv m,.nils,.nils,iv 0,iv 0,.nils] false),(44052492,.row [iv 0,iv 0,.nils,.fv (.sl (env.map RV.enc)),iv o,iv p,.fv (.sl (l.map Tm.enc))] true)] (by simp [AN]) s ext k
         simp only [↓WB,↓XX,XY,↓reduceIte,Nat.reduceBEq,Nat.reduceAdd,Int.reduceEq,Int.reduceLT,Int.reduceLE,hi,↓Bq (AO hg) (A9 _ _ _),↓Cb,↓Ag hb,hbp',hwi,↓hb0,↓ha0,↓AD,XD,heldB,AL,XE];exact h9
        ·have h9:=hnext r hr;rw [show (done++[RV.clo env (Tm.mk o p l)]).length=done.length+1 by simp] at h9
         simp only [List.map_append,AwV,AwU] at h9;rw [hce] at h9;simp only [List.map_append,AwV,AwU] at ha1;rw [hce] at ha1;have hb0:=fun s ext k=>hbs [(r,.tok done.length 1),(44052492,.row [iv 0,iv 0,.nils,.fv (.sl (env.map RV.enc)),iv o,iv p,.fv (.sl (l.map Tm.enc))] false)] (.app (.own r) (done.map RV.enc)) _ rfl (by rcases hr with rfl | rfl<;>simp [Ap])
          [(44040192,.row [iv op,iv m,.fv (.sl (ks.map Tm.enc))] false),(44047365,.row [iv op,iv m,.app (.own r) (done.map RV.enc),.nils,iv 0,iv 0,.nils] false),(r,.tok done.length 1),(44052492,.row [iv 0,iv 0,.nils,.fv (.sl (env.map RV.enc)),iv o,iv p,.fv (.sl (l.map Tm.enc))] true)]
          (by rcases hr with rfl | rfl<;>simp [AN]) s ext k
         rcases hr with rfl | rfl
         ·simp only [↓WB,↓XX,XY,↓reduceIte,Nat.reduceBEq,Nat.reduceAdd,Int.reduceEq,Int.reduceLT,Int.reduceLE,hi,↓Bq (AO hg) (A9 _ _ _),↓Cb,↓Ag hb,hbp',hwi,↓hb0,↓ha1,↓H7,↓AD,XD,heldB,AL,XE];exact h9
         ·simp only [↓WB,↓XX,XY,↓reduceIte,Nat.reduceBEq,Nat.reduceAdd,Int.reduceEq,Int.reduceLT,Int.reduceLE,hi,↓Bq (AO hg) (A9 _ _ _),↓Cb,↓Ag hb,hbp',hwi,↓hb0,↓ha1,↓H7,↓AD,XD,heldB,AL,XE];exact h9
       ·rw [if_neg hbp] at hkids;have hbp':¬ 0<(Ae op pre.length:Int):=by omega
        cases hev1:Au f s2 e2 t env with
        | none=>rw [hev1] at hkids;cases hkids
        | some q =>
        obtain ⟨v1,s4,e4⟩:=q;rw [hev1] at hkids;simp only at hkids;cases hkk:AR (fun s e t=>Au f s e t env) op env (pre.length+1) rest s4 e4 with
        | none=>rw [hkk] at hkids;cases hkids
        | some q =>
        obtain ⟨us',s5,e5⟩:=q;rw [hkk] at hkids;simp only [AwS,AwP,AwQ] at hkids;obtain ⟨rfl,rfl,rfl⟩:=hkids;have hc:=he s2 e2 t env v1 s4 e4 nd hev1 n (by omega);have hnext:∀tk,(tk=44052494∨tk=44053518)→Bx (rec [.ptr (.ext 0) 0,.fv (.sl (env.map RV.enc)),.ptr (.own 44040192) 0,.ptr (.own 44047365) 0,iv (pre++[t]).length]
          (YU op m ks (.app (.own tk) ((done++[v1]).map RV.enc)) [(tk,.tok (done++[v1]).length 1)] s4 nd e4)) v.enc [.row [iv s',iv nd,iv e'] false]:=fun tk htk =>
         hrec rest.length _ _ (by omega) ⟨pre++[t],rest,done++[v1],s4,e4,us',s5,e5,by rw [hk];simp,rfl,by simp [hdl],rfl,.inr ⟨tk,htk,by simp,rfl⟩,by simpa using hkk,by simpa using hhead⟩
        obtain ⟨o,p,l⟩:=t;rw [Ai] at hc;rcases hH with ⟨hp0,rfl⟩ | ⟨r,hr,hne,rfl⟩
        ·have hd0:done=[]:=List.length_eq_zero_iff.1 (by rw [hdl,hp0];rfl);subst hd0;have h9:=hnext _ (.inr rfl);simp only [List.nil_append,AwV,AwU,AwT,List.length_nil] at h9;simp only [↓WB,↓XX,XY,↓reduceIte,Nat.reduceBEq,Nat.reduceAdd,Int.reduceEq,Int.reduceLT,Int.reduceLE,hi,↓Bq (AO hg) (A9 _ _ _),↓Cb,↓Ag hb,hbp',hwi,↓J3 hc (Cs _ _ _ _ _ _),↓Wl,↓Ai7,↓AD,XD,heldB,AL,XE];exact h9
        ·have h9:=hnext r hr;rw [show (done++[v1]).length=done.length+1 by simp] at h9
         rcases hr with rfl | rfl
         ·simp only [↓WB,↓XX,XY,↓reduceIte,Nat.reduceBEq,Nat.reduceAdd,Int.reduceEq,Int.reduceLT,Int.reduceLE,hi,↓Bq (AO hg) (A9 _ _ _),↓Cb,↓Ag hb,hbp',hwi,↓J3 hc (Cs _ _ _ _ _ _),↓Wl,↓XM hd9,↓H7,↓AD,XD,heldB,AL,XE];exact h9
         ·simp only [↓WB,↓XX,XY,↓reduceIte,Nat.reduceBEq,Nat.reduceAdd,Int.reduceEq,Int.reduceLT,Int.reduceLE,hi,↓Bq (AO hg) (A9 _ _ _),↓Cb,↓Ag hb,hbp',hwi,↓J3 hc (Cs _ _ _ _ _ _),↓Wl,↓XM hd9,↓H7,↓AD,XD,heldB,AL,XE];exact h9
def RV.cl (v:RV):List FV:=[.int .i64 v.op,.int .i64 v.n,.sl (v.k.map RV.enc),.sl (v.env.map RV.enc),.int .i64 v.b.op,.int .i64 v.b.n,.sl (v.b.kids.map Tm.enc)]
section
variable {β:Type} (v:RV)
theorem Aq3 (k:IV→Option β):AE (.fv v.enc) k=k (.fv v.enc):=by rw [NP];rfl
theorem Atg (o:Nat) (k:IV→Option β):Ac o (.fv v.enc) k=k (.fv (.fp v.cl o)):=by rw [NP,Asy];rfl
theorem nc0 (k:FV→Option β):Ds v.cl 0 k=k (.int .i64 v.op):=rfl
theorem nc1 (k:FV→Option β):Ds v.cl 1 k=k (.int .i64 v.n):=rfl
theorem nc2 (k:FV→Option β):Ds v.cl 2 k=k (.sl (v.k.map RV.enc)):=rfl
theorem nc3 (k:FV→Option β):Ds v.cl 3 k=k (.sl (v.env.map RV.enc)):=rfl
theorem dc4 (k:List FV→Option β):FY v.cl 4 k=k [.int .i64 v.b.op,.int .i64 v.b.n,.sl (v.b.kids.map Tm.enc)]:=rfl
end
theorem Hw {β:Type} {l:List RV} {v:RV} (h:l[0]?=some v) (k:IV→Option β):A7 1 (.fv (.sl (l.map RV.enc))) (iv 0) k=k (.fv (.fp [v.enc] 0)):=Yg (i:=0) h k
theorem Agw {β:Type} {l:List RV} {v:RV} (h:l[1]?=some v) (k:IV→Option β):A7 1 (.fv (.sl (l.map RV.enc))) (iv 1) k=k (.fv (.fp [v.enc] 0)):=Yg (i:=1) h k
theorem AsE {β:Type} {l:List RV} {v:RV} (h:l[2]?=some v) (k:IV→Option β):A7 1 (.fv (.sl (l.map RV.enc))) (iv 2) k=k (.fv (.fp [v.enc] 0)):=Yg (i:=2) h k
theorem Ajs {β:Type} {l:List RV} {v:RV} (h:l[3]?=some v) (k:IV→Option β):A7 1 (.fv (.sl (l.map RV.enc))) (iv 3) k=k (.fv (.fp [v.enc] 0)):=Yg (i:=3) h k
def XV:=AwO @Aq3<|AwO @Atg<|AwO @nc0<|AwO @nc1<|AwO @nc2<|AwO @nc3 @dc4
set_option maxHeartbeats 1000000 in
set_option maxRecDepth 20000 in
theorem Ae2 {f:Nat} (he:Ti f) (hh:R6 f):R6 (f+1):=by
 intro s e v w s' e' nd hev n hn;obtain ⟨n,rfl⟩:∃k,n=k+1:=⟨n - 1,by omega⟩;rw [c59];rw [headR] at hev;by_cases h0:e≠0
 ·rw [if_pos h0] at hev;simp only [AwP,AwQ] at hev;obtain ⟨rfl,rfl,rfl⟩:=hev;simp only [↓Gg,↓XX,XY,↓reduceIte,Nat.reduceBEq,Nat.reduceAdd,Int.reduceEq,Int.reduceLT,Int.reduceLE,h0];exact AJ _ _ _
 ·have h0':e=0:=by omega
  subst h0';rw [if_neg h0] at hev;by_cases hs:s<0∨1000000<s
  ·rw [if_pos hs] at hev;cases hev
  ·rw [if_neg hs] at hev;have hst:=Aiv (n:=n) (by omega) s nd (by omega) (by omega);have Cw:∀{x:RV} {a b:Int},some (x,a,b)=some (w,s',e')→x=w∧a=s'∧b=e':=by
    intro x a b h;simp only [AwP,AwQ] at h;exact h
   by_cases h5:v.op=5
   ·rw [if_pos h5] at hev;cases hk0:v.k[0]? with
    | none=>rw [hk0] at hev;cases hev
    | some k0 =>
     rw [hk0] at hev;simp only at hev;by_cases h4:k0.op=4
     ·rw [if_pos h4] at hev;by_cases hq:s+1≤1000
      ·rw [if_pos hq] at hev;simp only [hq,decide_true,if_true] at hst;cases hc:k0.k[1]? with
       | none=>rw [hc] at hev;cases hev
       | some c =>
        cases hx:v.k[1]? with
        | none=>rw [hc,hx] at hev;cases hev
        | some x =>
         rw [hc,hx] at hev;simp only at hev;by_cases hl:900000<c.env.length
         ·rw [if_pos hl] at hev;cases hev
         ·rw [if_neg hl] at hev;have hcall:=he (s+1) 0 c.b (c.env++[x]) w s' e' nd hev n (by omega);rw [Xh] at hcall;have hp:=Ss (n:=n) (by omega) c.env [x] (by simp) (by simp;omega);simp only [AwV,AwU] at hp;simp only [↓Gg,↓XX,XY,↓reduceIte,Nat.reduceBEq,Nat.reduceAdd,Int.reduceEq,Int.reduceLT,Int.reduceLE,↓XV,h5,↓Hw hk0,h4,↓DY hst (Cs _ _ _ _ _ _),↓Agw hc,↓Agw hx,↓Wl,↓Ag hp,↓J3 hcall (Cs _ _ _ _ _ _)];exact AJ _ _ _
      ·rw [if_neg hq] at hev;obtain ⟨rfl,rfl,rfl⟩:=Cw hev;simp only [hq,decide_false,if_false] at hst;simp only [↓Gg,↓XX,XY,↓reduceIte,Nat.reduceBEq,Nat.reduceAdd,Int.reduceEq,Int.reduceLT,Int.reduceLE,↓XV,h5,↓Hw hk0,h4,↓DY hst (Cs _ _ _ _ _ _)];exact AJ _ _ _
     ·rw [if_neg h4] at hev;obtain ⟨rfl,rfl,rfl⟩:=Cw hev;simp only [↓Gg,↓XX,XY,↓reduceIte,Nat.reduceBEq,Nat.reduceAdd,Int.reduceEq,Int.reduceLT,Int.reduceLE,↓XV,h5,↓Hw hk0,h4];exact AJ _ _ _
   ·rw [if_neg h5] at hev;by_cases h89:v.op=8∨v.op=9
    ·rw [if_pos h89] at hev;cases hk0:v.k[0]? with
     | none=>rw [hk0] at hev;cases hev
     | some k0 =>
      rw [hk0] at hev;simp only at hev;by_cases h7:k0.op=7
      ·rw [if_pos h7] at hev;by_cases hq:s+1≤1000
       ·rw [if_pos hq] at hev;simp only [hq,decide_true,if_true] at hst;cases hx:k0.k[(1+v.op - 8).toNat]? with
        | none=>rw [hx] at hev;cases hev
        | some x =>
         rw [hx] at hev;obtain ⟨rfl,rfl,rfl⟩:=Cw hev;rcases h89 with h8 | h9
         ·rw [h8] at hx;have hw1:BI (1+8)=9:=by decide
          have hw2:BI (9 - 8)=1:=by decide
          simp only [↓Gg,↓XX,XY,↓reduceIte,Nat.reduceBEq,Nat.reduceAdd,Int.reduceEq,Int.reduceLT,Int.reduceLE,↓XV,h8,↓Hw hk0,h7,↓DY hst (Cs _ _ _ _ _ _),hw1,hw2,↓Agw (l:=k0.k) (v:=x) hx];exact AJ _ _ _
         ·rw [h9] at hx;have hw1:BI (1+9)=10:=by decide
          have hw2:BI (10 - 8)=2:=by decide
          simp only [↓Gg,↓XX,XY,↓reduceIte,Nat.reduceBEq,Nat.reduceAdd,Int.reduceEq,Int.reduceLT,Int.reduceLE,↓XV,h9,↓Hw hk0,h7,↓DY hst (Cs _ _ _ _ _ _),hw1,hw2,↓AsE (l:=k0.k) (v:=x) hx];exact AJ _ _ _
       ·rw [if_neg hq] at hev;obtain ⟨rfl,rfl,rfl⟩:=Cw hev;simp only [hq,decide_false,if_false] at hst;rcases h89 with h8 | h9
        ·simp only [↓Gg,↓XX,XY,↓reduceIte,Nat.reduceBEq,Nat.reduceAdd,Int.reduceEq,Int.reduceLT,Int.reduceLE,↓XV,h8,↓Hw hk0,h7,↓DY hst (Cs _ _ _ _ _ _)];exact AJ _ _ _
        ·simp only [↓Gg,↓XX,XY,↓reduceIte,Nat.reduceBEq,Nat.reduceAdd,Int.reduceEq,Int.reduceLT,Int.reduceLE,↓XV,h9,↓Hw hk0,h7,↓DY hst (Cs _ _ _ _ _ _)];exact AJ _ _ _
      ·rw [if_neg h7] at hev;obtain ⟨rfl,rfl,rfl⟩:=Cw hev;rcases h89 with h8 | h9
       ·simp only [↓Gg,↓XX,XY,↓reduceIte,Nat.reduceBEq,Nat.reduceAdd,Int.reduceEq,Int.reduceLT,Int.reduceLE,↓XV,h8,↓Hw hk0,h7];exact AJ _ _ _
       ·simp only [↓Gg,↓XX,XY,↓reduceIte,Nat.reduceBEq,Nat.reduceAdd,Int.reduceEq,Int.reduceLT,Int.reduceLE,↓XV,h9,↓Hw hk0,h7];exact AJ _ _ _
    ·rw [if_neg h89] at hev;have h8:¬ v.op=8:=fun e=>h89 (.inl e);have h9:¬ v.op=9:=fun e=>h89 (.inr e);by_cases h30:v.op=30
     ·rw [if_pos h30] at hev;cases hk0:v.k[0]? with
      | none=>rw [hk0] at hev;cases hev
      | some k0 =>
       rw [hk0] at hev;simp only at hev;by_cases h7:k0.op=19
       ·rw [if_pos h7] at hev;by_cases hq:s+1≤1000
        ·rw [if_pos hq] at hev;simp only [hq,decide_true,if_true] at hst;cases hx:k0.k[0]? with
         | none=>rw [hx] at hev;cases hev
         | some x =>
          rw [hx] at hev;obtain ⟨rfl,rfl,rfl⟩:=Cw hev;simp only [↓Gg,↓XX,XY,↓reduceIte,Nat.reduceBEq,Nat.reduceAdd,Int.reduceEq,Int.reduceLT,Int.reduceLE,↓XV,h30,↓Hw hk0,h7,↓DY hst (Cs _ _ _ _ _ _),↓Hw hx];exact AJ _ _ _
        ·rw [if_neg hq] at hev;obtain ⟨rfl,rfl,rfl⟩:=Cw hev;simp only [hq,decide_false,if_false] at hst;simp only [↓Gg,↓XX,XY,↓reduceIte,Nat.reduceBEq,Nat.reduceAdd,Int.reduceEq,Int.reduceLT,Int.reduceLE,↓XV,h30,↓Hw hk0,h7,↓DY hst (Cs _ _ _ _ _ _)];exact AJ _ _ _
       ·rw [if_neg h7] at hev;obtain ⟨rfl,rfl,rfl⟩:=Cw hev;simp only [↓Gg,↓XX,XY,↓reduceIte,Nat.reduceBEq,Nat.reduceAdd,Int.reduceEq,Int.reduceLT,Int.reduceLE,↓XV,h30,↓Hw hk0,h7];exact AJ _ _ _
     ·rw [if_neg h30] at hev;by_cases h19:v.op=19
      ·rw [if_pos h19] at hev;cases hk0:v.k[0]? with
       | none=>rw [hk0] at hev;cases hev
       | some k0 =>
        rw [hk0] at hev;simp only at hev;by_cases h7:k0.op=30
        ·rw [if_pos h7] at hev;by_cases hq:s+1≤1000
         ·rw [if_pos hq] at hev;simp only [hq,decide_true,if_true] at hst;cases hx:k0.k[0]? with
          | none=>rw [hx] at hev;cases hev
          | some x =>
           rw [hx] at hev;obtain ⟨rfl,rfl,rfl⟩:=Cw hev;simp only [↓Gg,↓XX,XY,↓reduceIte,Nat.reduceBEq,Nat.reduceAdd,Int.reduceEq,Int.reduceLT,Int.reduceLE,↓XV,h19,↓Hw hk0,h7,↓DY hst (Cs _ _ _ _ _ _),↓Hw hx];exact AJ _ _ _
         ·rw [if_neg hq] at hev;obtain ⟨rfl,rfl,rfl⟩:=Cw hev;simp only [hq,decide_false,if_false] at hst;simp only [↓Gg,↓XX,XY,↓reduceIte,Nat.reduceBEq,Nat.reduceAdd,Int.reduceEq,Int.reduceLT,Int.reduceLE,↓XV,h19,↓Hw hk0,h7,↓DY hst (Cs _ _ _ _ _ _)];exact AJ _ _ _
        ·rw [if_neg h7] at hev;obtain ⟨rfl,rfl,rfl⟩:=Cw hev;simp only [↓Gg,↓XX,XY,↓reduceIte,Nat.reduceBEq,Nat.reduceAdd,Int.reduceEq,Int.reduceLT,Int.reduceLE,↓XV,h19,↓Hw hk0,h7];exact AJ _ _ _
      ·rw [if_neg h19] at hev;by_cases h13:v.op=13
       ·rw [if_pos h13] at hev;cases hk0:v.k[0]? with
        | none=>rw [hk0] at hev;cases hev
        | some k0 =>
        cases hk1:v.k[1]? with
        | none=>rw [hk0,hk1] at hev;cases hev
        | some k1 =>
        cases hk2:v.k[2]? with
        | none=>rw [hk0,hk1,hk2] at hev;cases hev
        | some k2 =>
        cases hk3:v.k[3]? with
        | none=>rw [hk0,hk1,hk2,hk3] at hev;cases hev
        | some k3 =>
        rw [hk0,hk1,hk2,hk3] at hev;simp only at hev;by_cases h11:k3.op=11
        ·rw [if_pos h11] at hev;by_cases hq:s+1≤1000
         ·rw [if_pos hq] at hev;obtain ⟨rfl,rfl,rfl⟩:=Cw hev;simp only [hq,decide_true,if_true] at hst;simp only [↓Gg,↓XX,XY,↓reduceIte,Nat.reduceBEq,Nat.reduceAdd,Int.reduceEq,Int.reduceLT,Int.reduceLE,↓XV,h13,↓Ajs hk3,h11,↓DY hst (Cs _ _ _ _ _ _),↓Agw hk1];exact AJ _ _ _
         ·rw [if_neg hq] at hev;obtain ⟨rfl,rfl,rfl⟩:=Cw hev;simp only [hq,decide_false,if_false] at hst;simp only [↓Gg,↓XX,XY,↓reduceIte,Nat.reduceBEq,Nat.reduceAdd,Int.reduceEq,Int.reduceLT,Int.reduceLE,↓XV,h13,↓Ajs hk3,h11,↓DY hst (Cs _ _ _ _ _ _)];exact AJ _ _ _
        ·rw [if_neg h11] at hev;by_cases h12:k3.op=12
         ·rw [if_pos h12] at hev;by_cases hq:s+1≤1000
          ·rw [if_pos hq] at hev;simp only [hq,decide_true,if_true] at hst;cases hx:k3.k[0]? with
           | none=>rw [hx] at hev;cases hev
           | some x =>
           rw [hx] at hev;simp only at hev;cases hd:headR f (s+1) 0 (.node 13 0 [k0,k1,k2,x]) with
           | none=>rw [hd] at hev;cases hev
           | some q =>
           obtain ⟨h,s2,e2⟩:=q;rw [hd] at hev;simp only at hev;by_cases hl:900000<k2.env.length
           ·rw [if_pos hl] at hev;cases hev
           ·rw [if_neg hl] at hev;have hcall:=he s2 e2 k2.b (k2.env++[x,h]) w s' e' nd hev n (by omega);rw [Xh] at hcall;have hcall2:=hh (s+1) 0 _ h s2 e2 nd hd n (by omega);rw [Aq9] at hcall2;simp only [AwV,AwU] at hcall2;have hp:=Ss (n:=n) (by omega) k2.env [x,h] (by simp) (by simp;omega);simp only [AwV,AwU] at hp;have hcall3:=fun k=>RC (k:=k) (own:=[(61886486,.row [iv 13,iv 0,.clip [k0.enc,k1.enc,k2.enc,x.enc],.nils,iv 0,iv 0,.nils] false)])
             (cells:=[iv 13,iv 0,.clip [k0.enc,k1.enc,k2.enc,x.enc],.nils,iv 0,iv 0,.nils]) (ro:=false) (s:=61886486) hcall2 (Cs ..) (by simp [Ap]) rfl (by simp)
            simp only [↓Gg,↓XX,XY,↓reduceIte,Nat.reduceBEq,Nat.reduceAdd,Int.reduceEq,Int.reduceLT,Int.reduceLE,↓XV,h13,↓Ajs hk3,h11,h12,↓DY hst (Cs _ _ _ _ _ _),↓Hw hx,↓Hw hk0,↓Agw hk1,↓AsE hk2,↓Asw,↓hcall3,↓Arl,↓Ag hp,↓J3 hcall (Cs _ _ _ _ _ _)];exact AJ _ _ _
          ·rw [if_neg hq] at hev;obtain ⟨rfl,rfl,rfl⟩:=Cw hev;simp only [hq,decide_false,if_false] at hst;simp only [↓Gg,↓XX,XY,↓reduceIte,Nat.reduceBEq,Nat.reduceAdd,Int.reduceEq,Int.reduceLT,Int.reduceLE,↓XV,h13,↓Ajs hk3,h11,h12,↓DY hst (Cs _ _ _ _ _ _)];exact AJ _ _ _
         ·rw [if_neg h12] at hev;obtain ⟨rfl,rfl,rfl⟩:=Cw hev;simp only [↓Gg,↓XX,XY,↓reduceIte,Nat.reduceBEq,Nat.reduceAdd,Int.reduceEq,Int.reduceLT,Int.reduceLE,↓XV,h13,↓Ajs hk3,h11,h12];exact AJ _ _ _
       ·rw [if_neg h13] at hev;obtain ⟨rfl,rfl,rfl⟩:=Cw hev;simp only [↓Gg,↓XX,XY,↓reduceIte,Nat.reduceBEq,Nat.reduceAdd,Int.reduceEq,Int.reduceLT,Int.reduceLE,↓XV,h5,h8,h9,h30,h19,h13];exact AJ _ _ _
theorem AbK:∀f,Ti f∧R6 f:=by
 intro f
 induction f with
 | zero=>exact ⟨(by intro s e t env v s' e' nd h;rw [Au] at h;cases h),(by intro s e v w s' e' nd h;rw [headR] at h;cases h)⟩
 | succ f ih=>exact ⟨Ae5 ih.1 ih.2,Ae2 ih.1 ih.2⟩
end Idl
end Go.Proofs.Ytaifgaidaglblaa
namespace Go.Proofs.Ytaifgaidaglblaa
namespace Idl
def FK (u:Int) (b:Nat):List RV:=(List.range b).map fun (j:Nat)=>RV.var (u+(j:Int))
theorem Kj (u:Int) (b:Nat):FK u (b+1)=FK u b++[RV.var (u+b)]:=by simp [FK,List.range_succ]
theorem BW (u:Int) (b:Nat):(FK u b).length=b:=by simp [FK]
def Ba (rd:Int→Int→Int→RV→Int→Option (Tm×Int×Int×Int)) (f:Nat) (op u:Int):Nat→List RV→Int→Int→Int→Option (List Tm×Int×Int×Int)
 | _,[],s,nd,e=>some ([],s,nd,e)
 | i,k::l,s,nd,e =>
  match (if 0<Ae op i then (if 900000<k.env.length then none else Au f s e k.b (k.env++FK u (Ae op i))) else some (k,s,e)) with
  | none=>none
  | some (k',s1,e1)=>match rd s1 nd e1 k' (u+Ae op i) with
   | none=>none
   | some (t,s2,nd2,e2)=>(Ba rd f op u (i+1) l s2 nd2 e2).map fun (ts,s,nd,e)=>(t::ts,s,nd,e)
def AS:Nat→Int→Int→Int→RV→Int→Int→Option (Tm×Int×Int×Int)
 | 0,_,_,_,_,_,_=>none
 | f+1,s,nd,e,v,u,d =>
  if nd<0∨1000000<nd∨u<0∨1000000<u∨d<0∨1000000<d∨v.n < -2305843009213693952∨2305843009213693952<v.n∨f≤v.k.length∨900000<v.k.length∨f≤3 then none else
  if (if e=0∧(3000<nd+1∨120<d) then 5 else e)≠0 then some (.z,s,nd+1,(if e=0∧(3000<nd+1∨120<d) then 5 else e))
  else if v.op=1 then some (.mk 1 (u - 1 - v.n) [],s,nd+1,0)
  else (Ba (fun s nd e k u=>AS f s nd e k u (d+1)) f v.op u 0 v.k s (nd+1) 0).map fun (ts,s,nd,e)=>(.mk v.op v.n ts,s,nd,e)
def XP (f:Nat):Prop:=∀(s nd e:Int) (v:RV) (u d:Int) (t:Tm) (s' nd' e':Int),AS f s nd e v u d=some (t,s',nd',e')→∀n,f+1≤n →
 Bx (SS dt n 41 [.ptr (.ext 0) 0,.fv v.enc,iv u,iv d] ⟨[],[.row [iv s,iv nd,iv e] false]⟩) t.enc [.row [iv s',iv nd',iv e'] false]
abbrev M7 (op m:Int) (K:IV) (tok:List (Nat×Blk)) (s nd e:Int):Hp :=
 ⟨(42991616,.row [iv 0,iv 0,.nils] false)::(42999817,.row [iv op,iv m,K] false)::tok,[.row [iv s,iv nd,iv e] false]⟩
theorem AeM {cells:List IV} {fc:List FV} (hz:Di cells=some fc) (hn:cells.length≤100) (s:Nat) (h:Hp) (k:IV→Hp→List Ref→List Ref→Option (IV×Hp)):fzS (K3 true s (.agg cells)) s (.agg cells) h k=k (.fv (.fp fc 0)) h [] []:=by
 have:K3 true s (.agg cells)=.ret { eff:={ val:=.fv (.fp fc 0),upd:=[] } }:=by
  simp only [K3,IV.alive,Bool.true_eq_false,if_false,if_true,IV.cells,Aex cells 4096 (by omega) hz,Rd.bind]
 unfold fzS;rw [this,Yp];exact KK _ s h k
theorem Adx (n:Int):(RV.var n).enc=.fp [.int .i64 1,.int .i64 n,.sl [],.sl [],.int .i64 0,.int .i64 0,.sl []] 0:=by rw [RV.var,Tm.z,JD];rfl
set_option maxRecDepth 20000 in
set_option maxHeartbeats 1000000 in
theorem Afz {f:Nat} (hr:XP f):XP (f+1):=by
 intro s nd e v u d t s' nd' e' hev n hn;obtain ⟨n,rfl⟩:∃k,n=k+1:=⟨n - 1,by omega⟩;rw [c41];rw [AS] at hev;by_cases hbad:nd<0∨1000000<nd∨u<0∨1000000<u∨d<0∨1000000<d∨v.n < -2305843009213693952∨2305843009213693952<v.n∨f≤v.k.length∨900000<v.k.length∨f≤3
 ·rw [if_pos hbad] at hev;cases hev
 ·rw [if_neg hbad] at hev;have wnd:BI (nd+1)=nd+1:=by rw [As]<;>omega
  have wd:BI (d+1)=d+1:=by rw [As]<;>omega
  have wu:BI (u - 1)=u - 1:=by rw [As]<;>omega
  have wv:BI (u - 1 - v.n)=u - 1 - v.n:=by rw [As]<;>omega
  by_cases he:e=0
  ·subst he;by_cases h3:3000<nd+1
   ·have e5:(if (0:Int)=0∧(3000<nd+1∨120<d) then (5:Int) else 0)=5:=if_pos ⟨rfl,.inl h3⟩;rw [e5,if_pos (by decide)] at hev;simp only [AwP,AwQ] at hev;obtain ⟨rfl,rfl,rfl,rfl⟩:=hev;simp only [↓Af8,↓XX,XY,↓reduceIte,Nat.reduceBEq,Nat.reduceAdd,Int.reduceEq,Int.reduceLT,Int.reduceLE,wnd,h3];exact Fl rfl _ _
   ·by_cases h4:120<d
    ·have e5:(if (0:Int)=0∧(3000<nd+1∨120<d) then (5:Int) else 0)=5:=if_pos ⟨rfl,.inr h4⟩;rw [e5,if_pos (by decide)] at hev;simp only [AwP,AwQ] at hev;obtain ⟨rfl,rfl,rfl,rfl⟩:=hev;simp only [↓Af8,↓XX,XY,↓reduceIte,Nat.reduceBEq,Nat.reduceAdd,Int.reduceEq,Int.reduceLT,Int.reduceLE,wnd,h3,h4];exact Fl rfl _ _
    ·have e5:(if (0:Int)=0∧(3000<nd+1∨120<d) then (5:Int) else 0)=0:=if_neg (by omega);rw [e5,if_neg (by decide)] at hev;by_cases h1:v.op=1
     ·rw [if_pos h1] at hev;simp only [AwP,AwQ] at hev;obtain ⟨rfl,rfl,rfl,rfl⟩:=hev;have hv:=AjN (n:=n) (by omega) (u - 1 - v.n);rw [Ai] at hv ⊢;simp only [↓Af8,↓XX,XY,↓reduceIte,Nat.reduceBEq,Nat.reduceAdd,Int.reduceEq,Int.reduceLT,Int.reduceLE,↓XV,wnd,h3,h4,h1,wu,wv,↓Av hv];exact Fl rfl _ _
     ·rw [if_neg h1] at hev;cases hrk:Ba (fun s nd e k u=>AS f s nd e k u (d+1)) f v.op u 0 v.k s (nd+1) 0 with
      | none=>rw [hrk] at hev;cases hev
      | some q =>
      obtain ⟨ts,s1,nd1,e1⟩:=q;rw [hrk] at hev;simp only [AwS,AwP,AwQ] at hev;obtain ⟨rfl,rfl,rfl,rfl⟩:=hev;simp only [↓Af8,↓XX,XY,↓reduceIte,Nat.reduceBEq,Nat.reduceAdd,Int.reduceEq,Int.reduceLT,Int.reduceLE,↓XV,wnd,h3,h4,h1,↓AD,XD,heldB,AL,XE];refine A6 (Q:=fun r=>Bx r _ _) (fun k V H=>∃(pre rest:List RV) (done:List Tm) (s2 nd2 e2:Int) (us:List Tm),v.k=pre++rest∧rest.length=k∧done.length=pre.length∧V=[.ptr (.ext 0) 0,.fv v.enc,iv u,iv d,.ptr (.own 42991616) 0,.ptr (.own 42999817) 0,iv pre.length] ∧
       (
        (pre=[]∧H=M7 v.op v.n .nils [] s2 nd2 e2) ∨
        (pre≠[]∧H=M7 v.op v.n (.app (.own 43013131) (done.map Tm.enc)) [(43013131,.tok done.length 3)] s2 nd2 e2)) ∧
       Ba (fun s nd e k u=>AS f s nd e k u (d+1)) f v.op u pre.length rest s2 nd2 e2=some (us,s1,nd1,e1)∧done++us=ts)
       ?_ n v.k.length _ _ (by omega) ⟨[],v.k,[],s,nd+1,0,ts,rfl,rfl,rfl,rfl,.inl ⟨rfl,rfl⟩,hrk,rfl⟩
      rintro k V H rec ⟨pre,rest,done,s2,nd2,e2,us,hk,hl,hdl,rfl,hH,hkids,hts⟩ hrec;have hkl:v.k.length=pre.length+rest.length:=by rw [hk];simp
      cases rest with
      | nil =>
       simp only [Ba,AwP,AwQ] at hkids;obtain ⟨rfl,rfl,rfl,rfl⟩:=hkids;rw [List.append_nil] at hts;subst hts;have hno:¬ ((pre.length:Int)<v.k.length):=by rw [hkl];simp
       rcases hH with ⟨hp0,rfl⟩ | ⟨hne,rfl⟩
       ·have hd0:done=[]:=List.length_eq_zero_iff.1 (by rw [hdl,hp0];rfl);subst hd0;simp only [EL,EY,ED,EJ,EV,E7,Hy,ES,EU,EX,EK,E3,Hx,EP,EM,ER,EW,ET,EN,Ez,Fu,EQ,EA,E5,E4,EH,EI,EB,E6,E0,EO,S41,↓XX,XY,↓reduceIte,Nat.reduceBEq,Nat.reduceAdd,Int.reduceEq,Int.reduceLT,Int.reduceLE,↓XV,hno,Ai];exact Fl rfl _ _
       ·simp only [EL,EY,ED,EJ,EV,E7,Hy,ES,EU,EX,EK,E3,Hx,EP,EM,ER,EW,ET,EN,Ez,Fu,EQ,EA,E5,E4,EH,EI,EB,E6,E0,EO,S41,↓XX,XY,↓reduceIte,Nat.reduceBEq,Nat.reduceAdd,Int.reduceEq,Int.reduceLT,Int.reduceLE,↓XV,hno,Ai];exact Fl rfl _ _
      | cons x rest =>
       have hi:(pre.length:Int)<v.k.length:=by rw [hkl];simp;omega
       have hg:=Ce hk;have hb:=FM (n:=n) (by omega) v.op pre.length;have hble:=AU v.op pre.length;have hwi:BI ((pre.length:Int)+1)=((pre++[x]).length:Int):=(As (by omega) (by omega)).trans (by simp);have hwb:BI (u+(Ae v.op pre.length:Int))=u+Ae v.op pre.length:=by rw [As]<;>omega
       have hd9:done.length+1≤1000000:=by omega
       simp only [Ba] at hkids;simp only [AwT] at hl;have behind:∀(y:RV) (s3 e3:Int),(match AS f s3 nd2 e3 y (u+Ae v.op pre.length) (d+1) with
          | none=>none
          | some (t,s2,nd2,e2)=>(Ba (fun s nd e k u=>AS f s nd e k u (d+1)) f v.op u (pre.length+1) rest s2 nd2 e2).map fun (ts,s,nd,e)=>(t::ts,s,nd,e))=some (us,s1,nd1,e1) →
         ∀K tk,((pre=[]∧K=.nils∧tk=[])∨(pre≠[]∧K=.app (.own 43013131) (done.map Tm.enc)∧tk=[(43013131,.tok done.length 3)])) →
         Bx (Hy (.ptr (.own 42999817) 0) (M7 v.op v.n K tk s3 nd2 e3) (iv u) (iv (Ae v.op pre.length)) (iv d) (SS dt n) (.ptr (.ext 0) 0) (.fv y.enc) (iv pre.length) ⟨[],[.row [iv s,iv nd,iv 0] false]⟩ (.fv v.enc) (.ptr (.own 42991616) 0) rec)
          (Tm.mk v.op v.n ts).enc [.row [iv s1,iv nd1,iv e1] false]:=by
        intro y s3 e3 hy K tk hK;cases hrd:AS f s3 nd2 e3 y (u+Ae v.op pre.length) (d+1) with
        | none=>rw [hrd] at hy;cases hy
        | some q =>
        obtain ⟨t4,s4,nd4,e4⟩:=q;rw [hrd] at hy;simp only at hy;cases hkk:Ba (fun s nd e k u=>AS f s nd e k u (d+1)) f v.op u (pre.length+1) rest s4 nd4 e4 with
        | none=>rw [hkk] at hy;cases hy
        | some q =>
        obtain ⟨us',s5,nd5,e5'⟩:=q;rw [hkk] at hy;simp only [AwS,AwP,AwQ] at hy;obtain ⟨rfl,rfl,rfl,rfl⟩:=hy;have hc:=hr s3 nd2 e3 y (u+Ae v.op pre.length) (d+1) t4 s4 nd4 e4 hrd n (by omega);have h9:Bx (rec [.ptr (.ext 0) 0,.fv v.enc,iv u,iv d,.ptr (.own 42991616) 0,.ptr (.own 42999817) 0,iv (pre++[x]).length]
          (M7 v.op v.n (.app (.own 43013131) ((done++[t4]).map Tm.enc)) [(43013131,.tok (done.length+1) 3)] s4 nd4 e4)) (Tm.mk v.op v.n ts).enc [.row [iv s5,iv nd5,iv e5'] false] :=
         hrec rest.length _ _ (by omega) ⟨pre++[x],rest,done++[t4],s4,nd4,e4,us',by rw [hk];simp,rfl,by simp [hdl],rfl,.inr ⟨by simp,by simp⟩,by simpa using hkk,by rw [← hts];simp⟩
        rcases hK with ⟨hp0,rfl,rfl⟩ | ⟨hne,rfl,rfl⟩
        ·have hd0:done=[]:=List.length_eq_zero_iff.1 (by rw [hdl,hp0];rfl);subst hd0;simp only [List.nil_append,AwV,AwU,List.length_nil] at h9;simp only [EL,EY,ED,EJ,EV,E7,Hy,ES,EU,EX,EK,E3,Hx,EP,EM,ER,EW,ET,EN,Ez,Fu,EQ,EA,E5,E4,EH,EI,EB,E6,E0,EO,S41,↓XX,XY,↓reduceIte,Nat.reduceBEq,Nat.reduceAdd,Int.reduceEq,Int.reduceLT,Int.reduceLE,↓XV,hwb,wd,hwi,↓Aib hc (Cs _ _ _ _ _ _),↓Kd,↓Rr,↓AD,XD,heldB,AL,XE];exact h9
        ·simp only [EL,EY,ED,EJ,EV,E7,Hy,ES,EU,EX,EK,E3,Hx,EP,EM,ER,EW,ET,EN,Ez,Fu,EQ,EA,E5,E4,EH,EI,EB,E6,E0,EO,S41,↓XX,XY,↓reduceIte,Nat.reduceBEq,Nat.reduceAdd,Int.reduceEq,Int.reduceLT,Int.reduceLE,↓XV,hwb,wd,hwi,↓Aib hc (Cs _ _ _ _ _ _),↓Kd,↓NR hd9,↓H7,↓AD,XD,heldB,AL,XE];exact h9
       have heads:∃K tk,((pre=[]∧K=.nils∧tk=[])∨(pre≠[]∧K=.app (.own 43013131) (done.map Tm.enc)∧tk=[(43013131,.tok done.length 3)]))∧H=M7 v.op v.n K tk s2 nd2 e2:=by
        rcases hH with ⟨a,b⟩ | ⟨a,b⟩
        ·exact ⟨_,_,.inl ⟨a,rfl,rfl⟩,b⟩
        ·exact ⟨_,_,.inr ⟨a,rfl,rfl⟩,b⟩
       obtain ⟨K,tk,hK,rfl⟩:=heads;by_cases hbp:0<Ae v.op pre.length
       ·rw [if_pos hbp] at hkids;by_cases hxe:900000<x.env.length
        ·rw [if_pos hxe] at hkids;cases hkids
        ·rw [if_neg hxe] at hkids;have hbp':0<(Ae v.op pre.length:Int):=by omega
         cases hev1:Au f s2 e2 x.b (x.env++FK u (Ae v.op pre.length)) with
         | none=>rw [hev1] at hkids;cases hkids
         | some q =>
         obtain ⟨y,s3,e3⟩:=q;rw [hev1] at hkids;have hB:=behind y s3 e3 hkids K tk hK;have hc:=(AbK f).1 s2 e2 x.b _ y s3 e3 nd2 hev1 n (by omega);rw [Xh] at hc;have hdrop:∀(vals:List IV),vals.all FQ=true→∀k:Hp→Option (IV×Hp),Bg [] [43011077] vals (M7 v.op v.n K tk s2 nd2 e2) k=k (M7 v.op v.n K tk s2 nd2 e2):=by
          intro vals hv k;rcases hK with ⟨_,rfl,rfl⟩ | ⟨_,rfl,rfl⟩<;>simp only [↓XX,XY,↓reduceIte,Nat.reduceBEq,Nat.reduceAdd,Int.reduceEq,Int.reduceLT,Int.reduceLE,↓AD,XD,heldB,AL,XE,hv]
         simp only [EL,EY,ED,EJ,EV,E7,ES,EU,EX,EK,E3,EP,EM,ER,EW,ET,EN,Ez,Fu,EQ,EA,E5,E4,EH,EI,EB,E6,E0,EO,S41,↓XX,XY,↓reduceIte,Nat.reduceBEq,Nat.reduceAdd,Int.reduceEq,Int.reduceLT,Int.reduceLE,↓XV,hi,↓Yg hg,↓Ag hb,hbp',↓hdrop,↓AD,XD,heldB,AL,XE];refine A6 (Q:=fun r=>Bx r _ _) (fun k V H=>∃j,j+k=Ae v.op pre.length∧V=[.ptr (.ext 0) 0,.fv v.enc,iv u,iv d,.ptr (.own 42991616) 0,.ptr (.own 42999817) 0,iv pre.length,iv (Ae v.op pre.length),.fv x.enc,.fv (.sl ((x.env++FK u j).map RV.enc)),iv j] ∧
          H=M7 v.op v.n K tk s2 nd2 e2) ?_ n (Ae v.op pre.length) _ _ (by omega) ?_
         rotate_left
         ·exact ⟨0,by omega,by simp [FK],rfl⟩
         rintro k2 V2 H2 rec2 ⟨j,hj,rfl,rfl⟩ hrec2;cases k2 with
         | zero =>
          have hjb:j=Ae v.op pre.length:=by omega
          subst hjb;simp only [EL,EY,ED,EJ,EV,E7,ES,EU,EX,EK,E3,Hx,EP,EM,ER,EW,ET,EN,Ez,Fu,EQ,EA,E5,E4,EH,EI,EB,E6,E0,EO,S41,↓XX,XY,↓reduceIte,Nat.reduceBEq,Nat.reduceAdd,Int.reduceEq,Int.reduceLT,Int.reduceLE,↓XV,Int.lt_irrefl,↓J3 hc (Cs _ _ _ _ _ _)];exact hB
         | succ k2 =>
          have hjb:(j:Int)<Ae v.op pre.length:=by omega
          have hwj:BI (u+(j:Int))=u+j:=by rw [As]<;>omega
          have hwj1:BI ((j:Int)+1)=((j+1:Nat):Int):=by rw [As]<;>omega
          have hp:=Ss (n:=n) (by omega) (x.env++FK u j) [RV.var (u+j)] (by simp) (by simp [BW];omega);simp only [AwV,AwU,Adx] at hp;rw [List.append_assoc,← Kj] at hp;have hbv:=fun s h k=>Wl (RV.var (u+j)) s h k;simp only [Adx] at hbv;have hfz:=fun s h (k:IV→Hp→List Ref→List Ref→Option (IV×Hp))=>AeM (cells:=[.fv (.int .i64 1),iv (u+j),.nils,.nils,.fv (.int .i64 0),.fv (.int .i64 0),.nils]) (fc:=[.int .i64 1,.int .i64 (u+j),.sl [],.sl [],.int .i64 0,.int .i64 0,.sl []]) rfl (by simp) s h k;have h9:=hrec2 k2 _ _ (by omega) ⟨j+1,by omega,rfl,rfl⟩;simp only [EL,EY,ED,EJ,EV,E7,ES,EU,EX,EK,E3,Hx,EP,EM,ER,EW,ET,EN,Ez,Fu,EQ,EA,E5,E4,EH,EI,EB,E6,E0,EO,S41,↓XX,XY,↓reduceIte,Nat.reduceBEq,Nat.reduceAdd,Int.reduceEq,Int.reduceLT,Int.reduceLE,↓XV,hjb,hwj,hwj1,↓hfz,↓hbv,↓Ag hp,↓hdrop,↓AD,XD,heldB,AL,XE];exact h9
       ·rw [if_neg hbp] at hkids;have hbp':¬ 0<(Ae v.op pre.length:Int):=by omega
        have hB:=behind x s2 e2 hkids K tk hK;simp only [EL,EY,ED,EJ,EV,E7,ES,EU,EX,EK,E3,EP,EM,ER,EW,ET,EN,Ez,Fu,EQ,EA,E5,E4,EH,EI,EB,E6,E0,EO,S41,↓XX,XY,↓reduceIte,Nat.reduceBEq,Nat.reduceAdd,Int.reduceEq,Int.reduceLT,Int.reduceLE,↓XV,hi,↓Yg hg,↓Ag hb,hbp',↓AD,XD,heldB,AL,XE];exact hB
  ·have e5:(if e=0∧(3000<nd+1∨120<d) then (5:Int) else e)=e:=if_neg (by omega);rw [e5,if_pos he] at hev;simp only [AwP,AwQ] at hev;obtain ⟨rfl,rfl,rfl,rfl⟩:=hev;simp only [↓Af8,↓XX,XY,↓reduceIte,Nat.reduceBEq,Nat.reduceAdd,Int.reduceEq,Int.reduceLT,Int.reduceLE,wnd,he];exact Fl rfl _ _
theorem Ald:∀f,XP f:=by
 intro f
 induction f with
 | zero=>intro s nd e v u d t s' nd' e' h;rw [AS] at h;cases h
 | succ f ih=>exact Afz ih
end Idl
end Go.Proofs.Ytaifgaidaglblaa

/-
  Texts of a proof, part 10: an ideal semantics of the program, its functions in shallow form, contracts of them. No statement of the seat is proved here.
-/
import Derived.KernelRfl
import Derived.Test.YtaifgaidaglblaaEqualAllK9
set_option linter.all false
noncomputable section
namespace Go.Proofs.Ytaifgaidaglblaa
namespace Idl
theorem AhD {f:Nat} {G:Aa→Nat→Hp→Option (IV×Hp)} (e:dt.call f=fun ih n=>ar0 (G ih n)) (n:Nat) (h:Hp):SS dt (n+1) f [] h=G (SS dt n) n  h:=by
 show dt.call f (SS dt n) n _ h=_
 rw [e];rfl
theorem B4 {f:Nat} {G:Aa→Nat→IV→Hp→Option (IV×Hp)} (e:dt.call f=fun ih n=>Fo (G ih n)) (n:Nat) (a0:IV) (h:Hp):SS dt (n+1) f [a0] h=G (SS dt n) n a0 h:=by
 show dt.call f (SS dt n) n _ h=_
 rw [e];rfl
theorem By {f:Nat} {G:Aa→Nat→IV→IV→Hp→Option (IV×Hp)} (e:dt.call f=fun ih n=>DW (G ih n)) (n:Nat) (a0 a1:IV) (h:Hp):SS dt (n+1) f [a0,a1] h=G (SS dt n) n a0 a1 h:=by
 show dt.call f (SS dt n) n _ h=_
 rw [e];rfl
theorem D9 {f:Nat} {G:Aa→Nat→IV→IV→IV→Hp→Option (IV×Hp)} (e:dt.call f=fun ih n=>Lh (G ih n)) (n:Nat) (a0 a1 a2:IV) (h:Hp):SS dt (n+1) f [a0,a1,a2] h=G (SS dt n) n a0 a1 a2 h:=by
 show dt.call f (SS dt n) n _ h=_
 rw [e];rfl
theorem D6 {f:Nat} {G:Aa→Nat→IV→IV→IV→IV→Hp→Option (IV×Hp)} (e:dt.call f=fun ih n=>Lf (G ih n)) (n:Nat) (a0 a1 a2 a3:IV) (h:Hp):SS dt (n+1) f [a0,a1,a2,a3] h=G (SS dt n) n a0 a1 a2 a3 h:=by
 show dt.call f (SS dt n) n _ h=_
 rw [e];rfl
theorem Ana {f:Nat} {G:Aa→Nat→IV→IV→IV→IV→IV→Hp→Option (IV×Hp)} (e:dt.call f=fun ih n=>ar5 (G ih n)) (n:Nat) (a0 a1 a2 a3 a4:IV) (h:Hp):SS dt (n+1) f [a0,a1,a2,a3,a4] h=G (SS dt n) n a0 a1 a2 a3 a4 h:=by
 show dt.call f (SS dt n) n _ h=_
 rw [e];rfl
theorem c3 (n:Nat) (a0 a1 a2 a3 a4:IV) (h:Hp):SS dt (n+1) 3 [a0,a1,a2,a3,a4] h=S3 (SS dt n) n a0 a1 a2 a3 a4 h:=Ana (show dt.call 3=fun ih n=>ar5 (S3 ih n) by kernel_rfl) ..
theorem c11 (n:Nat) (a0:IV) (h:Hp):SS dt (n+1) 11 [a0] h=S11 (SS dt n) n a0 h:=B4 (show dt.call 11=fun ih n=>Fo (S11 ih n) by kernel_rfl) ..
theorem c12 (n:Nat) (a0:IV) (h:Hp):SS dt (n+1) 12 [a0] h=S12 (SS dt n) n a0 h:=B4 (show dt.call 12=fun ih n=>Fo (S12 ih n) by kernel_rfl) ..
theorem c13 (n:Nat) (a0 a1 a2 a3:IV) (h:Hp):SS dt (n+1) 13 [a0,a1,a2,a3] h=S13 (SS dt n) n a0 a1 a2 a3 h:=D6 (show dt.call 13=fun ih n=>Lf (S13 ih n) by kernel_rfl) ..
theorem c14 (n:Nat) (a0 a1:IV) (h:Hp):SS dt (n+1) 14 [a0,a1] h=S14 (SS dt n) n a0 a1 h:=By (show dt.call 14=fun ih n=>DW (S14 ih n) by kernel_rfl) ..
theorem c15 (n:Nat) (a0:IV) (h:Hp):SS dt (n+1) 15 [a0] h=S15 (SS dt n) n a0 h:=B4 (show dt.call 15=fun ih n=>Fo (S15 ih n) by kernel_rfl) ..
theorem c16 (n:Nat) (a0 a1:IV) (h:Hp):SS dt (n+1) 16 [a0,a1] h=S16 (SS dt n) n a0 a1 h:=By (show dt.call 16=fun ih n=>DW (S16 ih n) by kernel_rfl) ..
theorem c17 (n:Nat) (a0:IV) (h:Hp):SS dt (n+1) 17 [a0] h=S17 (SS dt n) n a0 h:=B4 (show dt.call 17=fun ih n=>Fo (S17 ih n) by kernel_rfl) ..
theorem c20 (n:Nat) (a0:IV) (h:Hp):SS dt (n+1) 20 [a0] h=S20 (SS dt n) n a0 h:=B4 (show dt.call 20=fun ih n=>Fo (S20 ih n) by kernel_rfl) ..
theorem c21 (n:Nat) (a0 a1 a2:IV) (h:Hp):SS dt (n+1) 21 [a0,a1,a2] h=S21 (SS dt n) n a0 a1 a2 h:=D9 (show dt.call 21=fun ih n=>Lh (S21 ih n) by kernel_rfl) ..
theorem c22 (n:Nat) (a0 a1 a2:IV) (h:Hp):SS dt (n+1) 22 [a0,a1,a2] h=S22 (SS dt n) n a0 a1 a2 h:=D9 (show dt.call 22=fun ih n=>Lh (S22 ih n) by kernel_rfl) ..
theorem c23 (n:Nat) (a0 a1 a2 a3:IV) (h:Hp):SS dt (n+1) 23 [a0,a1,a2,a3] h=S23 (SS dt n) n a0 a1 a2 a3 h:=D6 (show dt.call 23=fun ih n=>Lf (S23 ih n) by kernel_rfl) ..
theorem c24 (n:Nat) (a0 a1:IV) (h:Hp):SS dt (n+1) 24 [a0,a1] h=S24 (SS dt n) n a0 a1 h:=By (show dt.call 24=fun ih n=>DW (S24 ih n) by kernel_rfl) ..
theorem c25 (n:Nat) (a0 a1 a2:IV) (h:Hp):SS dt (n+1) 25 [a0,a1,a2] h=S25 (SS dt n) n a0 a1 a2 h:=D9 (show dt.call 25=fun ih n=>Lh (S25 ih n) by kernel_rfl) ..
theorem c26 (n:Nat) (a0:IV) (h:Hp):SS dt (n+1) 26 [a0] h=S26 (SS dt n) n a0 h:=B4 (show dt.call 26=fun ih n=>Fo (S26 ih n) by kernel_rfl) ..
theorem c27 (n:Nat) (a0:IV) (h:Hp):SS dt (n+1) 27 [a0] h=S27 (SS dt n) n a0 h:=B4 (show dt.call 27=fun ih n=>Fo (S27 ih n) by kernel_rfl) ..
theorem c29 (n:Nat) (a0:IV) (h:Hp):SS dt (n+1) 29 [a0] h=S29 (SS dt n) n a0 h:=B4 (show dt.call 29=fun ih n=>Fo (S29 ih n) by kernel_rfl) ..
theorem c33 (n:Nat) (a0 a1:IV) (h:Hp):SS dt (n+1) 33 [a0,a1] h=S33 (SS dt n) n a0 a1 h:=By (show dt.call 33=fun ih n=>DW (S33 ih n) by kernel_rfl) ..
theorem c34 (n:Nat) (a0 a1:IV) (h:Hp):SS dt (n+1) 34 [a0,a1] h=S34 (SS dt n) n a0 a1 h:=By (show dt.call 34=fun ih n=>DW (S34 ih n) by kernel_rfl) ..
theorem c35 (n:Nat) (a0 a1 a2 a3:IV) (h:Hp):SS dt (n+1) 35 [a0,a1,a2,a3] h=S35 (SS dt n) n a0 a1 a2 a3 h:=D6 (show dt.call 35=fun ih n=>Lf (S35 ih n) by kernel_rfl) ..
theorem c36 (n:Nat) (a0:IV) (h:Hp):SS dt (n+1) 36 [a0] h=S36 (SS dt n) n a0 h:=B4 (show dt.call 36=fun ih n=>Fo (S36 ih n) by kernel_rfl) ..
theorem c37 (n:Nat) (a0 a1:IV) (h:Hp):SS dt (n+1) 37 [a0,a1] h=S37 (SS dt n) n a0 a1 h:=By (show dt.call 37=fun ih n=>DW (S37 ih n) by kernel_rfl) ..
theorem c38 (n:Nat) (a0:IV) (h:Hp):SS dt (n+1) 38 [a0] h=S38 (SS dt n) n a0 h:=B4 (show dt.call 38=fun ih n=>Fo (S38 ih n) by kernel_rfl) ..
theorem c39 (n:Nat) (a0:IV) (h:Hp):SS dt (n+1) 39 [a0] h=S39 (SS dt n) n a0 h:=B4 (show dt.call 39=fun ih n=>Fo (S39 ih n) by kernel_rfl) ..
theorem c40 (n:Nat) (a0 a1:IV) (h:Hp):SS dt (n+1) 40 [a0,a1] h=S40 (SS dt n) n a0 a1 h:=By (show dt.call 40=fun ih n=>DW (S40 ih n) by kernel_rfl) ..
theorem c41 (n:Nat) (a0 a1 a2 a3:IV) (h:Hp):SS dt (n+1) 41 [a0,a1,a2,a3] h=S41 (SS dt n) n a0 a1 a2 a3 h:=D6 (show dt.call 41=fun ih n=>Lf (S41 ih n) by kernel_rfl) ..
theorem c42 (n:Nat) (a0 a1 a2:IV) (h:Hp):SS dt (n+1) 42 [a0,a1,a2] h=S42 (SS dt n) n a0 a1 a2 h:=D9 (show dt.call 42=fun ih n=>Lh (S42 ih n) by kernel_rfl) ..
theorem c43 (n:Nat) (a0 a1:IV) (h:Hp):SS dt (n+1) 43 [a0,a1] h=S43 (SS dt n) n a0 a1 h:=By (show dt.call 43=fun ih n=>DW (S43 ih n) by kernel_rfl) ..
theorem c44 (n:Nat) (h:Hp):SS dt (n+1) 44 [] h=S44 (SS dt n) n  h:=AhD (show dt.call 44=fun ih n=>ar0 (S44 ih n) by kernel_rfl) ..
theorem c45 (n:Nat) (a0:IV) (h:Hp):SS dt (n+1) 45 [a0] h=S45 (SS dt n) n a0 h:=B4 (show dt.call 45=fun ih n=>Fo (S45 ih n) by kernel_rfl) ..
theorem c46 (n:Nat) (a0 a1:IV) (h:Hp):SS dt (n+1) 46 [a0,a1] h=S46 (SS dt n) n a0 a1 h:=By (show dt.call 46=fun ih n=>DW (S46 ih n) by kernel_rfl) ..
theorem c47 (n:Nat) (a0 a1 a2 a3:IV) (h:Hp):SS dt (n+1) 47 [a0,a1,a2,a3] h=S47 (SS dt n) n a0 a1 a2 a3 h:=D6 (show dt.call 47=fun ih n=>Lf (S47 ih n) by kernel_rfl) ..
theorem c48 (n:Nat) (a0 a1 a2 a3:IV) (h:Hp):SS dt (n+1) 48 [a0,a1,a2,a3] h=S48 (SS dt n) n a0 a1 a2 a3 h:=D6 (show dt.call 48=fun ih n=>Lf (S48 ih n) by kernel_rfl) ..
theorem c49 (n:Nat) (a0 a1 a2 a3:IV) (h:Hp):SS dt (n+1) 49 [a0,a1,a2,a3] h=S49 (SS dt n) n a0 a1 a2 a3 h:=D6 (show dt.call 49=fun ih n=>Lf (S49 ih n) by kernel_rfl) ..
theorem c50 (n:Nat) (a0 a1 a2:IV) (h:Hp):SS dt (n+1) 50 [a0,a1,a2] h=S50 (SS dt n) n a0 a1 a2 h:=D9 (show dt.call 50=fun ih n=>Lh (S50 ih n) by kernel_rfl) ..
theorem c51 (n:Nat) (a0 a1:IV) (h:Hp):SS dt (n+1) 51 [a0,a1] h=S51 (SS dt n) n a0 a1 h:=By (show dt.call 51=fun ih n=>DW (S51 ih n) by kernel_rfl) ..
theorem c52 (n:Nat) (a0 a1 a2:IV) (h:Hp):SS dt (n+1) 52 [a0,a1,a2] h=S52 (SS dt n) n a0 a1 a2 h:=D9 (show dt.call 52=fun ih n=>Lh (S52 ih n) by kernel_rfl) ..
theorem c53 (n:Nat) (a0 a1 a2 a3:IV) (h:Hp):SS dt (n+1) 53 [a0,a1,a2,a3] h=S53 (SS dt n) n a0 a1 a2 a3 h:=D6 (show dt.call 53=fun ih n=>Lf (S53 ih n) by kernel_rfl) ..
theorem c54 (n:Nat) (a0 a1:IV) (h:Hp):SS dt (n+1) 54 [a0,a1] h=S54 (SS dt n) n a0 a1 h:=By (show dt.call 54=fun ih n=>DW (S54 ih n) by kernel_rfl) ..
theorem c55 (n:Nat) (a0:IV) (h:Hp):SS dt (n+1) 55 [a0] h=S55 (SS dt n) n a0 h:=B4 (show dt.call 55=fun ih n=>Fo (S55 ih n) by kernel_rfl) ..
theorem c56 (n:Nat) (a0:IV) (h:Hp):SS dt (n+1) 56 [a0] h=S56 (SS dt n) n a0 h:=B4 (show dt.call 56=fun ih n=>Fo (S56 ih n) by kernel_rfl) ..
theorem c57 (n:Nat) (a0 a1:IV) (h:Hp):SS dt (n+1) 57 [a0,a1] h=S57 (SS dt n) n a0 a1 h:=By (show dt.call 57=fun ih n=>DW (S57 ih n) by kernel_rfl) ..
theorem c58 (n:Nat) (a0 a1:IV) (h:Hp):SS dt (n+1) 58 [a0,a1] h=S58 (SS dt n) n a0 a1 h:=By (show dt.call 58=fun ih n=>DW (S58 ih n) by kernel_rfl) ..
theorem c59 (n:Nat) (a0 a1:IV) (h:Hp):SS dt (n+1) 59 [a0,a1] h=S59 (SS dt n) n a0 a1 h:=By (show dt.call 59=fun ih n=>DW (S59 ih n) by kernel_rfl) ..
theorem c60 (n:Nat) (a0 a1 a2 a3:IV) (h:Hp):SS dt (n+1) 60 [a0,a1,a2,a3] h=S60 (SS dt n) n a0 a1 a2 a3 h:=D6 (show dt.call 60=fun ih n=>Lf (S60 ih n) by kernel_rfl) ..
theorem c61 (n:Nat) (a0:IV) (h:Hp):SS dt (n+1) 61 [a0] h=S61 (SS dt n) n a0 h:=B4 (show dt.call 61=fun ih n=>Fo (S61 ih n) by kernel_rfl) ..
theorem c62 (n:Nat) (a0 a1:IV) (h:Hp):SS dt (n+1) 62 [a0,a1] h=S62 (SS dt n) n a0 a1 h:=By (show dt.call 62=fun ih n=>DW (S62 ih n) by kernel_rfl) ..
theorem c63 (n:Nat) (a0:IV) (h:Hp):SS dt (n+1) 63 [a0] h=S63 (SS dt n) n a0 h:=B4 (show dt.call 63=fun ih n=>Fo (S63 ih n) by kernel_rfl) ..
theorem c64 (n:Nat) (h:Hp):SS dt (n+1) 64 [] h=S64 (SS dt n) n  h:=AhD (show dt.call 64=fun ih n=>ar0 (S64 ih n) by kernel_rfl) ..
theorem c65 (n:Nat) (a0 a1 a2:IV) (h:Hp):SS dt (n+1) 65 [a0,a1,a2] h=S65 (SS dt n) n a0 a1 a2 h:=D9 (show dt.call 65=fun ih n=>Lh (S65 ih n) by kernel_rfl) ..
theorem c66 (n:Nat) (a0 a1 a2 a3:IV) (h:Hp):SS dt (n+1) 66 [a0,a1,a2,a3] h=S66 (SS dt n) n a0 a1 a2 a3 h:=D6 (show dt.call 66=fun ih n=>Lf (S66 ih n) by kernel_rfl) ..
theorem c68 (n:Nat) (a0:IV) (h:Hp):SS dt (n+1) 68 [a0] h=S68 (SS dt n) n a0 h:=B4 (show dt.call 68=fun ih n=>Fo (S68 ih n) by kernel_rfl) ..
theorem c69 (n:Nat) (a0 a1 a2:IV) (h:Hp):SS dt (n+1) 69 [a0,a1,a2] h=S69 (SS dt n) n a0 a1 a2 h:=D9 (show dt.call 69=fun ih n=>Lh (S69 ih n) by kernel_rfl) ..
theorem c70 (n:Nat) (a0:IV) (h:Hp):SS dt (n+1) 70 [a0] h=S70 (SS dt n) n a0 h:=B4 (show dt.call 70=fun ih n=>Fo (S70 ih n) by kernel_rfl) ..
theorem c71 (n:Nat) (a0:IV) (h:Hp):SS dt (n+1) 71 [a0] h=S71 (SS dt n) n a0 h:=B4 (show dt.call 71=fun ih n=>Fo (S71 ih n) by kernel_rfl) ..
theorem c72 (n:Nat) (a0 a1:IV) (h:Hp):SS dt (n+1) 72 [a0,a1] h=S72 (SS dt n) n a0 a1 h:=By (show dt.call 72=fun ih n=>DW (S72 ih n) by kernel_rfl) ..
theorem c73 (n:Nat) (a0 a1:IV) (h:Hp):SS dt (n+1) 73 [a0,a1] h=S73 (SS dt n) n a0 a1 h:=By (show dt.call 73=fun ih n=>DW (S73 ih n) by kernel_rfl) ..
theorem c74 (n:Nat) (a0 a1:IV) (h:Hp):SS dt (n+1) 74 [a0,a1] h=S74 (SS dt n) n a0 a1 h:=By (show dt.call 74=fun ih n=>DW (S74 ih n) by kernel_rfl) ..
theorem c75 (n:Nat) (a0 a1:IV) (h:Hp):SS dt (n+1) 75 [a0,a1] h=S75 (SS dt n) n a0 a1 h:=By (show dt.call 75=fun ih n=>DW (S75 ih n) by kernel_rfl) ..
theorem c76 (n:Nat) (a0 a1:IV) (h:Hp):SS dt (n+1) 76 [a0,a1] h=S76 (SS dt n) n a0 a1 h:=By (show dt.call 76=fun ih n=>DW (S76 ih n) by kernel_rfl) ..
theorem c77 (n:Nat) (a0:IV) (h:Hp):SS dt (n+1) 77 [a0] h=S77 (SS dt n) n a0 h:=B4 (show dt.call 77=fun ih n=>Fo (S77 ih n) by kernel_rfl) ..
theorem c78 (n:Nat) (a0 a1:IV) (h:Hp):SS dt (n+1) 78 [a0,a1] h=S78 (SS dt n) n a0 a1 h:=By (show dt.call 78=fun ih n=>DW (S78 ih n) by kernel_rfl) ..
theorem c79 (n:Nat) (a0 a1:IV) (h:Hp):SS dt (n+1) 79 [a0,a1] h=S79 (SS dt n) n a0 a1 h:=By (show dt.call 79=fun ih n=>DW (S79 ih n) by kernel_rfl) ..
theorem c80 (n:Nat) (a0 a1:IV) (h:Hp):SS dt (n+1) 80 [a0,a1] h=S80 (SS dt n) n a0 a1 h:=By (show dt.call 80=fun ih n=>DW (S80 ih n) by kernel_rfl) ..
theorem c81 (n:Nat) (a0 a1 a2 a3:IV) (h:Hp):SS dt (n+1) 81 [a0,a1,a2,a3] h=S81 (SS dt n) n a0 a1 a2 a3 h:=D6 (show dt.call 81=fun ih n=>Lf (S81 ih n) by kernel_rfl) ..
theorem c82 (n:Nat) (a0:IV) (h:Hp):SS dt (n+1) 82 [a0] h=S82 (SS dt n) n a0 h:=B4 (show dt.call 82=fun ih n=>Fo (S82 ih n) by kernel_rfl) ..
theorem c83 (n:Nat) (a0:IV) (h:Hp):SS dt (n+1) 83 [a0] h=S83 (SS dt n) n a0 h:=B4 (show dt.call 83=fun ih n=>Fo (S83 ih n) by kernel_rfl) ..
theorem c84 (n:Nat) (a0 a1:IV) (h:Hp):SS dt (n+1) 84 [a0,a1] h=S84 (SS dt n) n a0 a1 h:=By (show dt.call 84=fun ih n=>DW (S84 ih n) by kernel_rfl) ..
theorem c85 (n:Nat) (a0 a1:IV) (h:Hp):SS dt (n+1) 85 [a0,a1] h=S85 (SS dt n) n a0 a1 h:=By (show dt.call 85=fun ih n=>DW (S85 ih n) by kernel_rfl) ..
theorem c86 (n:Nat) (a0 a1:IV) (h:Hp):SS dt (n+1) 86 [a0,a1] h=S86 (SS dt n) n a0 a1 h:=By (show dt.call 86=fun ih n=>DW (S86 ih n) by kernel_rfl) ..
theorem c87 (n:Nat) (a0 a1:IV) (h:Hp):SS dt (n+1) 87 [a0,a1] h=S87 (SS dt n) n a0 a1 h:=By (show dt.call 87=fun ih n=>DW (S87 ih n) by kernel_rfl) ..
theorem c88 (n:Nat) (a0 a1 a2:IV) (h:Hp):SS dt (n+1) 88 [a0,a1,a2] h=S88 (SS dt n) n a0 a1 a2 h:=D9 (show dt.call 88=fun ih n=>Lh (S88 ih n) by kernel_rfl) ..
theorem c89 (n:Nat) (a0 a1 a2:IV) (h:Hp):SS dt (n+1) 89 [a0,a1,a2] h=S89 (SS dt n) n a0 a1 a2 h:=D9 (show dt.call 89=fun ih n=>Lh (S89 ih n) by kernel_rfl) ..
theorem c90 (n:Nat) (a0 a1 a2:IV) (h:Hp):SS dt (n+1) 90 [a0,a1,a2] h=S90 (SS dt n) n a0 a1 a2 h:=D9 (show dt.call 90=fun ih n=>Lh (S90 ih n) by kernel_rfl) ..
theorem c91 (n:Nat) (a0 a1 a2:IV) (h:Hp):SS dt (n+1) 91 [a0,a1,a2] h=S91 (SS dt n) n a0 a1 a2 h:=D9 (show dt.call 91=fun ih n=>Lh (S91 ih n) by kernel_rfl) ..
theorem c92 (n:Nat) (a0 a1 a2 a3:IV) (h:Hp):SS dt (n+1) 92 [a0,a1,a2,a3] h=S92 (SS dt n) n a0 a1 a2 a3 h:=D6 (show dt.call 92=fun ih n=>Lf (S92 ih n) by kernel_rfl) ..
theorem c93 (n:Nat) (a0 a1:IV) (h:Hp):SS dt (n+1) 93 [a0,a1] h=S93 (SS dt n) n a0 a1 h:=By (show dt.call 93=fun ih n=>DW (S93 ih n) by kernel_rfl) ..
theorem c94 (n:Nat) (a0 a1 a2:IV) (h:Hp):SS dt (n+1) 94 [a0,a1,a2] h=S94 (SS dt n) n a0 a1 a2 h:=D9 (show dt.call 94=fun ih n=>Lh (S94 ih n) by kernel_rfl) ..
theorem c95 (n:Nat) (a0 a1 a2 a3:IV) (h:Hp):SS dt (n+1) 95 [a0,a1,a2,a3] h=S95 (SS dt n) n a0 a1 a2 a3 h:=D6 (show dt.call 95=fun ih n=>Lf (S95 ih n) by kernel_rfl) ..
def UU1:=Aul @AeX.eq_1<|Aul @Afj.eq_1<|Aul @Af1.eq_1<|Aul @AgX.eq_1<|Aul @Ahg.eq_1<|Aul @Afo.eq_1<|Aul @AeP.eq_1<|Aul @Afr.eq_1<|Aul @AeZ.eq_1<|Aul @AfA.eq_1<|Aul @AgO.eq_1<|Aul @AgI.eq_1<|Aul @AhE.eq_1<|Aul @Agv.eq_1<|Aul @AhC.eq_1<|@S3.eq_1
def UU2:=Aul @Ig.eq_1<|Aul @IC.eq_1<|Aul @Iw.eq_1<|Aul @Ih.eq_1<|Aul @H9.eq_1<|Aul @It.eq_1<|Aul @IN.eq_1<|Aul @HM.eq_1<|Aul @IX.eq_1<|Aul @IJ.eq_1<|Aul @IT.eq_1<|Aul @IQ.eq_1<|Aul @Ip.eq_1<|Aul @Ie.eq_1<|Aul @IA.eq_1<|Aul @Ik.eq_1<|@S60.eq_1
def UU3:=Aul @Afd.eq_1<|Aul @AgT.eq_1<|Aul @Aej.eq_1<|Aul @AeY.eq_1<|Aul @AeW.eq_1<|@S51.eq_1
def UU4:=Aul @AbT.eq_1<|Aul @Z9.eq_1<|Aul @WE.eq_1<|Aul @Abj.eq_1<|Aul @Aa0.eq_1<|Aul @W6.eq_1<|Aul @Xe.eq_1<|Aul @Aby.eq_1<|Aul @Zm.eq_1<|Aul @XJ.eq_1<|Aul @YQ.eq_1<|Aul @Zi.eq_1<|Aul @YF.eq_1<|Aul @X1.eq_1<|Aul @Ab8.eq_1<|Aul @Ab3.eq_1<|@S13.eq_1
def UU5:=Aul @Vn.eq_1<|Aul @VO.eq_1<|Aul @VX.eq_1<|Aul @V4.eq_1<|Aul @VN.eq_1<|Aul @Wk.eq_1<|Aul @VY.eq_1<|Aul @VA.eq_1<|Aul @U7.eq_1<|Aul @Afq.eq_1<|@S20.eq_1
def Y4:=Aul @XQ.eq_1<|Aul @Y8.eq_1<|Aul @Y3.eq_1<|Aul @WR.eq_1<|Aul @YG.eq_1<|Aul @Xd.eq_1<|Aul @AcB.eq_1<|Aul @X8.eq_1<|Aul @Abd.eq_1<|Aul @ZT.eq_1<|Aul @W5.eq_1<|Aul @WC.eq_1<|Aul @XC.eq_1<|Aul @Aba.eq_1<|Aul @Yg.eq_1<|Aul @Xq.eq_1<|Aul @Xb.eq_1<|Aul @Aay.eq_1<|Aul @W3.eq_1<|Aul @AbK.eq_1<|Aul @WX.eq_1<|Aul @Aai.eq_1<|Aul @Aat.eq_1<|Aul @AaK.eq_1<|Aul @YZ.eq_1<|Aul @XZ.eq_1<|Aul @Abf.eq_1<|Aul @WD.eq_1<|Aul @Zv.eq_1<|Aul @Aak.eq_1<|Aul @W2.eq_1<|Aul @XF.eq_1<|Aul @Xm.eq_1<|Aul @Yd.eq_1<|Aul @Xr.eq_1<|Aul @XR.eq_1<|Aul @Xz.eq_1<|Aul @Zz.eq_1<|Aul @AaM.eq_1<|Aul @ZX.eq_1<|Aul @W7.eq_1<|@S23.eq_1
def UU7:=Aul @Zk.eq_1<|Aul @Aax.eq_1<|Aul @AbJ.eq_1<|Aul @ZD.eq_1<|Aul @Wu.eq_1<|Aul @YW.eq_1<|Aul @Y2.eq_1<|Aul @AbY.eq_1<|Aul @Yv.eq_1<|Aul @Acp.eq_1<|Aul @YJ.eq_1<|Aul @Aa8.eq_1<|Aul @Xv.eq_1<|Aul @AaU.eq_1<|Aul @Z8.eq_1<|Aul @X5.eq_1<|Aul @Aam.eq_1<|Aul @ZV.eq_1<|Aul @XH.eq_1<|Aul @AaV.eq_1<|Aul @Yx.eq_1<|Aul @Acv.eq_1<|Aul @Abr.eq_1<|Aul @AaY.eq_1<|Aul @Xl.eq_1<|Aul @Xx.eq_1<|Aul @Yu.eq_1<|Aul @AcX.eq_1<|Aul @YY.eq_1<|Aul @Z3.eq_1<|Aul @AaC.eq_1<|Aul @Abe.eq_1<|Aul @Z1.eq_1<|Aul @AbO.eq_1<|Aul @ZH.eq_1<|Aul @Aci.eq_1<|Aul @AcG.eq_1<|Aul @AaA.eq_1<|Aul @Abk.eq_1<|Aul @Wv.eq_1<|Aul @Xf.eq_1<|Aul @AbI.eq_1<|Aul @Aah.eq_1<|Aul @AcH.eq_1<|@S35.eq_1
def UU8:=Aul @AbX.eq_1<|Aul @Aae.eq_1<|Aul @Acc.eq_1<|Aul @WV.eq_1<|Aul @Xi.eq_1<|Aul @Acj.eq_1<|Aul @AbF.eq_1<|Aul @AaO.eq_1<|Aul @AaJ.eq_1<|Aul @Abi.eq_1<|Aul @AcT.eq_1<|Aul @ZU.eq_1<|Aul @Ab6.eq_1<|Aul @Zn.eq_1<|Aul @Yl.eq_1<|Aul @WL.eq_1<|Aul @XO.eq_1<|Aul @AaB.eq_1<|Aul @WO.eq_1<|Aul @Z4.eq_1<|Aul @Yj.eq_1<|Aul @Aaz.eq_1<|Aul @Zy.eq_1<|Aul @Zx.eq_1<|Aul @Zw.eq_1<|Aul @Zt.eq_1<|Aul @Yt.eq_1<|Aul @Acs.eq_1<|Aul @Zu.eq_1<|Aul @Abb.eq_1<|Aul @AcF.eq_1<|Aul @Aa4.eq_1<|Aul @Ye.eq_1<|Aul @AaP.eq_1<|Aul @Ab7.eq_1<|Aul @AbM.eq_1<|Aul @WT.eq_1<|Aul @ZI.eq_1<|Aul @WG.eq_1<|Aul @AbL.eq_1<|Aul @Aa7.eq_1<|Aul @W0.eq_1<|Aul @AcW.eq_1<|Aul @Aaf.eq_1<|Aul @AcU.eq_1<|Aul @ZW.eq_1<|Aul @Xp.eq_1<|Aul @Xn.eq_1<|Aul @Aag.eq_1<|Aul @ZO.eq_1<|Aul @WK.eq_1<|Aul @ZC.eq_1<|Aul @YP.eq_1<|Aul @Abx.eq_1<|Aul @ZY.eq_1<|Aul @Ya.eq_1<|@S53.eq_1
def U3:=Aul @AbE.eq_1<|Aul @Aco.eq_1<|Aul @Abv.eq_1<|Aul @AbW.eq_1<|Aul @XP.eq_1<|Aul @WB.eq_1<|Aul @Zb.eq_1<|Aul @AbS.eq_1<|Aul @AaX.eq_1<|Aul @Aar.eq_1<|Aul @ZF.eq_1<|Aul @XB.eq_1<|Aul @YN.eq_1<|Aul @AcI.eq_1<|Aul @YA.eq_1<|Aul @Xj.eq_1<|Aul @ZB.eq_1<|Aul @Abn.eq_1<|Aul @X0.eq_1<|Aul @WI.eq_1<|Aul @Abc.eq_1<|Aul @Zp.eq_1<|Aul @Abp.eq_1<|Aul @Aa3.eq_1<|Aul @YH.eq_1<|Aul @AcC.eq_1<|Aul @Aaw.eq_1<|Aul @AbU.eq_1<|Aul @YB.eq_1<|Aul @Acy.eq_1<|Aul @ZQ.eq_1<|Aul @Abh.eq_1<|Aul @AaF.eq_1<|Aul @Aaq.eq_1<|Aul @YL.eq_1<|Aul @Aap.eq_1<|Aul @AbB.eq_1<|Aul @Yh.eq_1<|Aul @Ww.eq_1<|Aul @AaG.eq_1<|Aul @AcP.eq_1<|Aul @Ys.eq_1<|Aul @Xo.eq_1<|Aul @Abg.eq_1<|Aul @Aad.eq_1<|Aul @Acn.eq_1<|Aul @ZN.eq_1<|Aul @Yp.eq_1<|Aul @WW.eq_1<|Aul @X3.eq_1<|Aul @XG.eq_1<|Aul @Acu.eq_1<|Aul @Za.eq_1<|Aul @AcD.eq_1<|Aul @Xg.eq_1<|Aul @XK.eq_1<|Aul @X6.eq_1<|Aul @AbQ.eq_1<|Aul @Y5.eq_1<|@S49.eq_1
def J3:=Aul @Aab.eq_1<|Aul @AaZ.eq_1<|Aul @Ab9.eq_1<|Aul @AcM.eq_1<|Aul @XU.eq_1<|Aul @Y6.eq_1<|Aul @Aa5.eq_1<|Aul @Abs.eq_1<|Aul @Abl.eq_1<|Aul @Aal.eq_1<|Aul @YK.eq_1<|Aul @Acz.eq_1<|Aul @W8.eq_1<|Aul @Z0.eq_1<|Aul @Acl.eq_1<|Aul @X7.eq_1<|Aul @Y7.eq_1<|Aul @Yb.eq_1<|Aul @Yy.eq_1<|Aul @Zj.eq_1<|Aul @YR.eq_1<|Aul @Acf.eq_1<|Aul @Acb.eq_1<|Aul @AbD.eq_1<|Aul @Acd.eq_1<|Aul @WU.eq_1<|Aul @Acm.eq_1<|Aul @Yw.eq_1<|@S21.eq_1
def O2:=Aul @Ro.eq_1<|Aul @SJ.eq_1<|Aul @QS.eq_1<|Aul @SD.eq_1<|Aul @Q0.eq_1<|Aul @Sb.eq_1<|Aul @QR.eq_1<|Aul @QM.eq_1<|Aul @R8.eq_1<|Aul @S0.eq_1<|Aul @Q9.eq_1<|Aul @SW.eq_1<|Aul @Qe.eq_1<|Aul @Qp.eq_1<|Aul @Aa1.eq_1<|@S47.eq_1
def Js:=Aul @Qj.eq_1<|Aul @QV.eq_1<|Aul @Sw.eq_1<|Aul @Ra.eq_1<|Aul @Qx.eq_1<|Aul @Sq.eq_1<|Aul @Q8.eq_1<|Aul @Q5.eq_1<|Aul @Ql.eq_1<|Aul @Rz.eq_1<|Aul @QP.eq_1<|Aul @SZ.eq_1<|Aul @Qy.eq_1<|Aul @RL.eq_1<|Aul @P9.eq_1<|Aul @RM.eq_1<|Aul @SB.eq_1<|Aul @Sv.eq_1<|Aul @Rq.eq_1<|Aul @SE.eq_1<|Aul @Qv.eq_1<|Aul @R0.eq_1<|Aul @R6.eq_1<|Aul @RG.eq_1<|Aul @P5.eq_1<|Aul @Rj.eq_1<|Aul @Ry.eq_1<|Aul @Sf.eq_1<|Aul @Sp.eq_1<|Aul @SK.eq_1<|Aul @RU.eq_1<|Aul @SH.eq_1<|Aul @IL.eq_1<|Aul @S7.eq_1<|@S38.eq_1
def AfK:=Aul @Ep.eq_1<|Aul @EG.eq_1<|Aul @EQ.eq_1<|Aul @Ey.eq_1<|Aul @Ez.eq_1<|Aul @Ej.eq_1<|Aul @GT.eq_1<|Aul @EI.eq_1<|Aul @Ew.eq_1<|Aul @EP.eq_1<|Aul @EL.eq_1<|Aul @Eu.eq_1<|Aul @El.eq_1<|Aul @EM.eq_1<|Aul @EC.eq_1<|Aul @EK.eq_1<|Aul @EA.eq_1<|Aul @EF.eq_1<|Aul @EH.eq_1<|Aul @Er.eq_1<|Aul @En.eq_1<|Aul @Em.eq_1<|Aul @EN.eq_1<|Aul @EJ.eq_1<|Aul @Es.eq_1<|Aul @EB.eq_1<|Aul @Ek.eq_1<|Aul @ED.eq_1<|Aul @Et.eq_1<|@S41.eq_1
def FL:=Aul @Zl.eq_1<|Aul @AcK.eq_1<|Aul @WJ.eq_1<|Aul @WZ.eq_1<|Aul @Yr.eq_1<|Aul @Yc.eq_1<|Aul @AbV.eq_1<|Aul @ZJ.eq_1<|Aul @X4.eq_1<|Aul @AbC.eq_1<|Aul @AbP.eq_1<|Aul @WQ.eq_1<|Aul @AbG.eq_1<|Aul @YT.eq_1<|Aul @Ym.eq_1<|Aul @Acx.eq_1<|Aul @Abm.eq_1<|Aul @AcE.eq_1<|Aul @ZS.eq_1<|Aul @Ze.eq_1<|Aul @Wt.eq_1<|Aul @YM.eq_1<|Aul @Abu.eq_1<|Aul @Abq.eq_1<|Aul @Zo.eq_1<|Aul @Yq.eq_1<|Aul @YS.eq_1<|Aul @Xs.eq_1<|Aul @Aa2.eq_1<|Aul @ZG.eq_1<|Aul @Ab4.eq_1<|Aul @Ab1.eq_1<|Aul @AaT.eq_1<|Aul @Xu.eq_1<|Aul @Acw.eq_1<|Aul @ZR.eq_1<|Aul @AcN.eq_1<|Aul @YD.eq_1<|Aul @XM.eq_1<|Aul @AcR.eq_1<|Aul @Yn.eq_1<|Aul @YE.eq_1<|Aul @Zr.eq_1<|Aul @AcQ.eq_1<|Aul @AcL.eq_1<|Aul @YI.eq_1<|Aul @ZA.eq_1<|Aul @WA.eq_1<|Aul @Ab0.eq_1<|Aul @W9.eq_1<|@S59.eq_1
def UC:=Aul @Iu.eq_1<|Aul @ID.eq_1<|Aul @HQ.eq_1<|Aul @Iz.eq_1<|Aul @HL.eq_1<|Aul @I1.eq_1<|Aul @Ia.eq_1<|Aul @HV.eq_1<|Aul @IY.eq_1<|Aul @I0.eq_1<|Aul @Iq.eq_1<|Aul @IR.eq_1<|Aul @Ir.eq_1<|Aul @IP.eq_1<|Aul @HZ.eq_1<|Aul @H8.eq_1<|Aul @HO.eq_1<|Aul @HP.eq_1<|Aul @Ic.eq_1<|Aul @WY.eq_1<|Aul @IE.eq_1<|Aul @Ix.eq_1<|Aul @HY.eq_1<|@S42.eq_1
def Ae4:=Aul @JP.eq_1<|Aul @JY.eq_1<|Aul @JG.eq_1<|Aul @KP.eq_1<|Aul @KX.eq_1<|Aul @JQ.eq_1<|Aul @Kw.eq_1<|Aul @JZ.eq_1<|Aul @K3.eq_1<|Aul @K2.eq_1<|Aul @KG.eq_1<|Aul @JW.eq_1<|Aul @KC.eq_1<|Aul @JK.eq_1<|@S52.eq_1
def Ag7:=Aul @Afm.eq_1<|Aul @Ae9.eq_1<|Aul @AhB.eq_1<|Aul @AhA.eq_1<|Aul @Af3.eq_1<|@S62.eq_1
def Ahi:=Aul @Yk.eq_1<|Aul @AaH.eq_1<|Aul @Wx.eq_1<|Aul @Yo.eq_1<|Aul @AbA.eq_1<|Aul @Acg.eq_1<|Aul @X2.eq_1<|Aul @AaQ.eq_1<|Aul @Ace.eq_1<|@S82.eq_1
def AfO:=Aul @AfW.eq_1<|Aul @AeT.eq_1<|Aul @AfM.eq_1<|Aul @Aeh.eq_1<|Aul @Aey.eq_1<|Aul @Afv.eq_1<|@S71.eq_1
def Agm:=Aul @KU.eq_1<|Aul @JJ.eq_1<|Aul @Ks.eq_1<|Aul @K9.eq_1<|Aul @J4.eq_1<|Aul @JN.eq_1<|Aul @Kh.eq_1<|@S63.eq_1
def US:=Aul @Du.eq_1<|Aul @C7.eq_1<|Aul @DS.eq_1<|Aul @Dj.eq_1<|Aul @Dy.eq_1<|Aul @De.eq_1<|Aul @Cz.eq_1<|Aul @DE.eq_1<|Aul @DK.eq_1<|Aul @C8.eq_1<|Aul @C6.eq_1<|Aul @Dl.eq_1<|Aul @Dr.eq_1<|Aul @DR.eq_1<|Aul @Dd.eq_1<|Aul @C9.eq_1<|Aul @DU.eq_1<|Aul @Df.eq_1<|Aul @DH.eq_1<|Aul @Dp.eq_1<|Aul @Ds.eq_1<|Aul @Da.eq_1<|Aul @DP.eq_1<|Aul @DL.eq_1<|Aul @DB.eq_1<|Aul @E9.eq_1<|Aul @Dv.eq_1<|Aul @Dt.eq_1<|Aul @Dw.eq_1<|Aul @DG.eq_1<|Aul @Dq.eq_1<|@S66.eq_1
def AcY:=Aul @Agx.eq_1<|Aul @AeA.eq_1<|Aul @Ahh.eq_1<|Aul @Afa.eq_1<|Aul @AfE.eq_1<|@S85.eq_1
def AgE:=Aul @MC.eq_1<|Aul @MJ.eq_1<|Aul @MF.eq_1<|Aul @MK.eq_1<|Aul @M7.eq_1<|Aul @Mz.eq_1<|Aul @MO.eq_1<|Aul @M6.eq_1<|Aul @ZE.eq_1<|Aul @MP.eq_1<|Aul @MD.eq_1<|Aul @My.eq_1<|Aul @MT.eq_1<|Aul @MN.eq_1<|Aul @MW.eq_1<|@S65.eq_1
def Vt:=Aul @Aan.eq_1<|Aul @Z2.eq_1<|Aul @WF.eq_1<|Aul @AbN.eq_1<|Aul @Wy.eq_1<|Aul @Y1.eq_1<|Aul @Ab5.eq_1<|Aul @Aa9.eq_1<|Aul @W1.eq_1<|Aul @AcJ.eq_1<|Aul @Y0.eq_1<|Aul @Xa.eq_1<|@S80.eq_1
section
variable {β:Type} {E:Env} {t:TypeId}
abbrev iv (n:Int):IV:=.fv (.int .i64 n)
theorem Alv (c:Prop) [Decidable c] (a b:Option β):Am (.fv (.bool (decide c))) a b=if c then a else b:=by
 by_cases h:c
 ·rw [decide_eq_true h,if_pos h];rfl
 ·rw [decide_eq_false h,if_neg h];rfl
theorem Ajv (o:Nat) (r:Ref) (off:Nat) (k:IV→Option β):Ac o (.ptr r off) k=k (.ptr r (off+o)):=by
 show (DZ (off+o) fun o=>k (.ptr r o))=_
 rw [BN]
theorem PA (o:Nat) (cs:List FV) (off:Nat) (k:IV→Option β):Ac o (.fv (.fp cs off)) k=k (.fv (.fp cs (off+o))):=by
 show (DZ (off+o) fun o=>k (.fv (.fp cs o)))=_
 rw [BN]
theorem Ak5 {size:Nat} {es:List FV} {n:Nat} {el:FV} (he:es[n]?=some el) (hl:el.cells.length=size) (k:IV→Option β):A6 size (.fv (.sl es)) (iv n) k=k (.fv (.fp el.cells 0)):=by
 show (Dz es n fun el=>elK size el k)=_
 rw [CT,he]
 show elK size el k=_
 rw [AgU,if_pos hl]
theorem LQ {op:BinOp} {g:Nat→Nat→Bool} (hg:∀a b:Nat,FB E op t (iv a) (iv b)=some (.fv (.bool (g a b)))) (a b:Int) (k:IV→Option β) :
  RA E t op g (iv a) (iv b) k=(FB E op t (iv a) (iv b)).bind k:=by
 cases a with
 | ofNat a =>
  cases b with
  | ofNat b =>
   show AeL (g a b) k=_
   rw [Ux,show FB E op t (iv (Int.ofNat a)) (iv (Int.ofNat b))=some (.fv (.bool (g a b))) from hg a b]
   rfl
  | negSucc b =>
   show CO E t op _ _ k=_
   rw [CO,CA]
 | negSucc a =>
  show CO E t op _ _ k=_
  rw [CO,CA]
theorem Ape (a b:Int) (k:IV→Option β):A5 E t (iv a) (iv b) k=k (.fv (.bool (decide (a=b)))):=by
 rw [A5,LQ (fun a b=>by
  show some (IV.fv (.bool ((a:Int) == (b:Int))))=_
  rw [IK];congr 3;exact decide_eq_decide.2 Int.ofNat_inj)]
 rfl
theorem Aqn (a b:Int) (k:IV→Option β):Gy E t (iv a) (iv b) k=k (.fv (.bool (!decide (a=b)))):=by
 rw [Gy,LQ (fun a b=>by
  show some (IV.fv (.bool ((a:Int) != (b:Int))))=_
  rw [IK];congr 3
  show (!decide ((a:Int)=(b:Int)))=!decide (a=b)
  congr 1;exact decide_eq_decide.2 Int.ofNat_inj)]
 rfl
theorem ApR (a b:Int) (k:IV→Option β):GQ E t (iv a) (iv b) k=k (.fv (.bool (decide (a<b)))):=by
 rw [GQ,LQ (fun a b=>by
  show some (IV.fv (.bool (decide ((a:Int)<(b:Int)))))=_
  rw [A9];congr 3;exact decide_eq_decide.2 (by omega))]
 rfl
theorem Aqm (a b:Int) (k:IV→Option β):leS E t (iv a) (iv b) k=k (.fv (.bool (decide (a≤b)))):=by
 rw [leS,LQ (fun a b=>by
  show some (IV.fv (.bool (decide ((a:Int)≤(b:Int)))))=_
  rw [A9];congr 3;exact decide_eq_decide.2 (by omega))]
 rfl
theorem ApU (b:Bool) (k:IV→Option β):CF (Lz .not (.fv (.bool b))) k=k (.fv (.bool !b)):=by
 rw [CA];rfl
end
end Idl
end Go.Proofs.Ytaifgaidaglblaa
namespace Go.Proofs.Ytaifgaidaglblaa
namespace Idl
section
variable {β:Type} {α:Type}
theorem n0 (a:α) (l:List α) (k:α→Option β):Dz (a::l) 0 k=k a:=rfl
theorem n1 (a b:α) (l:List α) (k:α→Option β):Dz (a::b::l) 1 k=k b:=rfl
theorem n2 (a b c:α) (l:List α) (k:α→Option β):Dz (a::b::c::l) 2 k=k c:=rfl
theorem n3 (a b c d:α) (l:List α) (k:α→Option β):Dz (a::b::c::d::l) 3 k=k d:=rfl
theorem n4 (a b c d e:α) (l:List α) (k:α→Option β):Dz (a::b::c::d::e::l) 4 k=k e:=rfl
theorem n5 (a b c d e f:α) (l:List α) (k:α→Option β):Dz (a::b::c::d::e::f::l) 5 k=k f:=rfl
theorem n6 (a b c d e f g:α) (l:List α) (k:α→Option β):Dz (a::b::c::d::e::f::g::l) 6 k=k g:=rfl
theorem d0 (l:List α) (k:List α→Option β):FD l 0 k=k l:=by cases l<;>rfl
theorem d1 (a:α) (l:List α) (k:List α→Option β):FD (a::l) 1 k=k l:=by cases l<;>rfl
theorem d2 (a b:α) (l:List α) (k:List α→Option β):FD (a::b::l) 2 k=k l:=by cases l<;>rfl
theorem d3 (a b c:α) (l:List α) (k:List α→Option β):FD (a::b::c::l) 3 k=k l:=by cases l<;>rfl
theorem d4 (a b c d:α) (l:List α) (k:List α→Option β):FD (a::b::c::d::l) 4 k=k l:=by cases l<;>rfl
theorem t1 (a:α) (l:List α) (k:List α→Option β):FN (a::l) 1 k=k [a]:=by cases l<;>rfl
theorem t2 (a b:α) (l:List α) (k:List α→Option β):FN (a::b::l) 2 k=k [a,b]:=by cases l<;>rfl
theorem t3 (a b c:α) (l:List α) (k:List α→Option β):FN (a::b::c::l) 3 k=k [a,b,c]:=by cases l<;>rfl
theorem t4 (a b c d:α) (l:List α) (k:List α→Option β):FN (a::b::c::d::l) 4 k=k [a,b,c,d]:=by cases l<;>rfl
theorem t7 (a b c d e f g:α) (l:List α) (k:List α→Option β):FN (a::b::c::d::e::f::g::l) 7 k=k [a,b,c,d,e,f,g]:=by cases l<;>rfl
theorem Ait (l:List α) (k:List α→Option β):spK l k=k l:=Ht l k
theorem ap0 (us:List α) (k:List α→Option β):Mq [] us k=k us:=rfl
theorem ap1 (u:α) (l us:List α) (k:List α→Option β):Mq (u::l) us k=Mq l us fun w=>k (u::w):=rfl
theorem AoL (a:α) (l:List α) (k:α→List α→Option β):Aw (a::l) k=k a l:=rfl
theorem c_t {γ:Type} (a b:γ):cond true a b=a:=rfl
theorem c_f {γ:Type} (a b:γ):cond false a b=b:=rfl
end
section
variable {β:Type}
theorem Ajk {s j:Nat} (h:(s == j)=false):Nat.beq s j=false:=by
 rw [IK];simpa using h
theorem K8 (s:Nat) (own:List (Nat×Blk)) (ext:List Blk) (k:Blk→Option β):CZ (.own s) ⟨own,ext⟩ k=E6 own s k:=rfl
theorem AoU (j:Nat) (own:List (Nat×Blk)) (ext:List Blk) (k:Blk→Option β):CZ (.ext j) ⟨own,ext⟩ k=Dz ext j k:=rfl
theorem Aj1 (s:Nat) (b:Blk) (l:List (Nat×Blk)) (k:Blk→Option β):E6 ((s,b)::l) s k=k b:=by
 show cond (Nat.beq s s) (k b) _=_
 rw [show Nat.beq s s=true from Nat.beq_refl s]
 rfl
theorem Aog {s j:Nat} (hne:(s == j)=false) (b:Blk) (l:List (Nat×Blk)) (k:Blk→Option β):E6 ((j,b)::l) s k=E6 l s k:=by
 show cond (Nat.beq s j) (k b) _=_
 rw [show Nat.beq s j=false from Ajk hne]
 rfl
theorem Apz (s:Nat) (b:Blk) (k:List (Nat×Blk)→Option β):AZ [] s b k=k [(s,b)]:=rfl
theorem Akf (s:Nat) (b c:Blk) (l:List (Nat×Blk)) (k:List (Nat×Blk)→Option β):AZ ((s,c)::l) s b k=k ((s,b)::l):=by
 show cond (Nat.beq s s) _ _=_
 rw [show Nat.beq s s=true from Nat.beq_refl s]
 rfl
theorem AnL {s j:Nat} (hne:(s == j)=false) (b c:Blk) (l:List (Nat×Blk)) (k:List (Nat×Blk)→Option β):AZ ((j,c)::l) s b k=AZ l s b fun l=>k ((j,c)::l):=by
 show cond (Nat.beq s j) _ _=_
 rw [show Nat.beq s j=false from Ajk hne]
 rfl
theorem AoY (s:Nat) (a:Option β):CH [] s a=a:=rfl
theorem AlI {s j:Nat} (hne:(s == j)=false) (b:Blk) (l:List (Nat×Blk)) (a:Option β):CH ((j,b)::l) s a=CH l s a:=by
 show cond (Nat.beq s j) none _=_
 rw [show Nat.beq s j=false from Ajk hne]
 rfl
theorem Xh (s:Nat) (b:Blk) (own:List (Nat×Blk)) (ext:List Blk) (k:Hp→Option β):FJ (.own s) b ⟨own,ext⟩ k=AZ own s b fun own=>k ⟨own,ext⟩:=rfl
theorem Aif (j:Nat) (b:Blk) (own:List (Nat×Blk)) (ext:List Blk) (k:Hp→Option β):FJ (.ext j) b ⟨own,ext⟩ k=Pm ext j b fun ext=>k ⟨own,ext⟩:=rfl
theorem sn0 {α:Type} (a b:α) (l:List α) (k:List α→Option β):Pm (a::l) 0 b k=k (b::l):=rfl
theorem AoQ (s:Nat) (b:Blk) (v:IV) (own:List (Nat×Blk)) (ext:List Blk) (k:IV→Hp→List Ref→List Ref→Option β) :
  AH s b v ⟨own,ext⟩ k=CH own s (AZ own s b fun own=>k v ⟨own,ext⟩ [] [.own s]):=rfl
theorem MR (s:Nat) (cs:List FV) (h:Hp) (k:IV→Hp→List Ref→List Ref→Option β):A1 s (.fv (.agg cs)) h k=AH s (.row (cs.map .fv) false) (.ptr (.own s) 0) h k:=by
 show spK (cs.map IV.fv) _=_
 rw [Ht]
theorem Aqe (s:Nat) (a b:FV) (h:Hp) (k:IV→Hp→List Ref→List Ref→Option β):A1 s (.fv (.agg [a,b])) h k=AH s (.row [.fv a,.fv b] false) (.ptr (.own s) 0) h k:=MR ..
theorem Apv (s:Nat) (a b c:FV) (h:Hp) (k:IV→Hp→List Ref→List Ref→Option β):A1 s (.fv (.agg [a,b,c])) h k=AH s (.row [.fv a,.fv b,.fv c] false) (.ptr (.own s) 0) h k:=MR ..
theorem ApC (s:Nat) (a b c d:FV) (h:Hp) (k:IV→Hp→List Ref→List Ref→Option β):A1 s (.fv (.agg [a,b,c,d])) h k=AH s (.row [.fv a,.fv b,.fv c,.fv d] false) (.ptr (.own s) 0) h k:=MR ..
theorem Aph (s:Nat) (a:FV) (h:Hp) (k:IV→Hp→List Ref→List Ref→Option β):A1 s (.fv (.agg [a])) h k=AH s (.row [.fv a] false) (.ptr (.own s) 0) h k:=MR ..
theorem Us (s:Nat) (cs:List IV) (h:Hp) (k:IV→Hp→List Ref→List Ref→Option β):A1 s (.agg cs) h k=AH s (.row cs false) (.ptr (.own s) 0) h k:=by
 show spK cs _=_
 rw [Ht]
theorem Aia {x:IV} (hx:x.one=true) (s:Nat) (h:Hp) (k:IV→Hp→List Ref→List Ref→Option β):A1 s x h k=AH s (.row [x] false) (.ptr (.own s) 0) h k:=by
 unfold A1;rw [hx];rfl
theorem AmO (k:IntKind) (n:Int):IV.one (.fv (.int k n))=true:=rfl
theorem Ajq (b:Bool):IV.one (.fv (.bool b))=true:=rfl
theorem ApM (l:List FV):IV.one (.fv (.sl l))=true:=rfl
theorem AoI (l:List FV) (o:Nat):IV.one (.fv (.fp l o))=true:=rfl
theorem AhX (fn:Fn) (a b:List FV):IV.one (.fv (.func fn a b))=true:=rfl
theorem Ajb:IV.one (.fv .nilp)=true:=rfl
theorem AjI:IV.one .nils=true:=rfl
theorem AkR (r:Ref) (o:Nat):IV.one (.ptr r o)=true:=rfl
theorem Alx (r:Ref) (a b:Nat):IV.one (.slc r a b)=true:=rfl
theorem Ak3 (r:Ref) (l:List FV):IV.one (.app r l)=true:=rfl
theorem AjT (l:List FV):IV.one (.clip l)=true:=rfl
theorem AlW:IV.one .emp=true:=rfl
theorem AnI (l:List IV):IV.one (.agg l)=false:=rfl
theorem Ajg (l:List FV):IV.one (.fv (.agg l))=false:=rfl
theorem Amz (k:IntKind) (n:Int):Hu (.int k n)=true:=rfl
theorem Ah6 (b:Bool):Hu (.bool b)=true:=rfl
theorem AoD (l:List FV):Hu (.sl l)=true:=rfl
theorem Aql (l:List FV) (o:Nat):Hu (.fp l o)=true:=rfl
theorem Aiv:Hu .nilp=true:=rfl
theorem An6 (l:List FV):Hu (.agg l)=false:=rfl
theorem AiU:Di []=true:=rfl
theorem Ta {v:FV} (h:Hu v=true) (l:List FV):Di (v::l)=Di l:=by
 show cond (Hu v) (Di l) false=_
 rw [h];rfl
theorem Vx (r:Ref) (o:Nat) (k:Ref→Nat→Option β) (kf:List FV→Nat→Option β):ET (.ptr r o) k kf=k r o:=rfl
theorem ArQ (cs:List FV) (o:Nat) (k:Ref→Nat→Option β) (kf:List FV→Nat→Option β):ET (.fv (.fp cs o)) k kf=kf cs o:=rfl
theorem Hr (cs:List IV) (ro:Bool) (k:List IV→Option β):DM (.row cs ro) k=k cs:=rfl
theorem ZM (cs:List IV) (k:List IV→Option β):GR (.row cs false) k=k cs:=rfl
theorem Afu (v:FV) (e:Option β) (k:FV→Option β):OW (.fv v) e k=k v:=rfl
theorem VU (l:List IV) (e:Option β) (k:FV→Option β):OW (.agg l) e k=e:=rfl
theorem Al9 (e:Option β) (k:FV→Option β):OW .nils e k=e:=rfl
theorem Am7 (r:Ref) (o:Nat) (e:Option β) (k:FV→Option β):OW (.ptr r o) e k=e:=rfl
theorem Ant (r:Ref) (o:List FV) (e:Option β) (k:FV→Option β):OW (.app r o) e k=e:=rfl
theorem Am1 (o:List FV) (e:Option β) (k:FV→Option β):OW (.clip o) e k=e:=rfl
theorem Ald (r:Ref) (a b:Nat) (e:Option β) (k:FV→Option β):OW (.slc r a b) e k=e:=rfl
theorem Ak1 (e:Option β) (k:FV→Option β):OW .emp e k=e:=rfl
theorem AmQ (cs:List FV) (k:List FV→Option β):GX (.agg cs) k=k cs:=rfl
theorem ApZ (cs:List IV) (k:List IV→Option β) (kf:List FV→Option β):asAgg (.agg cs) k kf=k cs:=rfl
theorem AnE (cs:List FV) (k:List IV→Option β) (kf:List FV→Option β):asAgg (.fv (.agg cs)) k kf=kf cs:=rfl
theorem AhW (e:Option β) (k:List FV→Option β):Cm [] e k=k []:=rfl
theorem Anz (v:FV) (l:List IV) (e:Option β) (k:List FV→Option β):Cm (.fv v::l) e k=Cm l e fun vs=>k (v::vs):=rfl
theorem Afx (l:List IV) (e:Option β) (k:List FV→Option β):Cm (.nils::l) e k=e:=rfl
theorem AhV (r:Ref) (es:List FV) (l:List IV) (e:Option β) (k:List FV→Option β):Cm (.app r es::l) e k=e:=rfl
theorem Ahr (es:List FV) (l:List IV) (e:Option β) (k:List FV→Option β):Cm (.clip es::l) e k=e:=rfl
theorem Aik (r:Ref) (o:Nat) (l:List IV) (e:Option β) (k:List FV→Option β):Cm (.ptr r o::l) e k=e:=rfl
theorem AiN (r:Ref) (a b:Nat) (l:List IV) (e:Option β) (k:List FV→Option β):Cm (.slc r a b::l) e k=e:=rfl
theorem AjQ (es l:List IV) (e:Option β) (k:List FV→Option β):Cm (.agg es::l) e k=e:=rfl
theorem Ad3 (r:Ref) (l:List IV) (e:Option β) (k:List FV→Option β):Cm (.mapr r::l) e k=e:=rfl
theorem ApB (l:List IV) (k:IV→Option β):O0 l k=Cm l (k (.agg l)) fun vs=>k (.fv (.agg vs)):=rfl
theorem Ap7 (l:List IV) (k:IV→Option β):U2 l k=Cm l (k (.tuple l)) fun vs=>k (.fv (.tuple vs)):=rfl
theorem AqU (a:IV) (h:Hp) (k:IV→List Ref→Option β):Ae a h k=ET a (fun r o=>CZ r h fun b=>DM b fun cells=>Dz cells o fun v=>k v [r]) fun cells o=>Dz cells o fun v=>k (.fv v) []:=rfl
theorem ArF (size:Nat) (a:IV) (h:Hp) (k:IV→List Ref→Option β):Ai size a h k =
  ET a (fun r o=>CZ r h fun b=>DM b fun cells=>FD cells o fun cs=>FN cs size fun cs=>O0 cs fun v=>k v [r]) fun cells o=>FD cells o fun cs=>FN cs size fun cs=>k (.fv (.agg cs)) []:=rfl
theorem AmL (size:Nat) (a:IV) (h:Hp) (k:IV→Option β):Av true size a h k=Ai size a h fun v _=>k v:=rfl
theorem AmH (size:Nat) (a:IV) (h:Hp) (k:IV→Option β):Av false size a h k=Ae a h fun v _=>k v:=rfl
theorem wr0 (l:List IV) (k:List IV→Option β):wrK [] l k=k l:=rfl
theorem wr1 (c:FV) (cs:List FV) (x:IV) (l:List IV) (k:List IV→Option β):wrK (c::cs) (x::l) k=wrK cs l fun t=>k (.fv c::t):=rfl
theorem sf0 (x:IV) (l:List IV) (cs:List FV) (k:List IV→Option β):D1 (x::l) 0 cs k=wrK cs (x::l) k:=rfl
theorem sf1 (x:IV) (l:List IV) (cs:List FV) (k:List IV→Option β):D1 (x::l) 1 cs k=D1 l 0 cs fun t=>k (x::t):=rfl
theorem sf2 (x y:IV) (l:List IV) (cs:List FV) (k:List IV→Option β):D1 (x::y::l) 2 cs k=D1 l 0 cs fun t=>k (x::y::t):=rfl
theorem sf3 (x y z:IV) (l:List IV) (cs:List FV) (k:List IV→Option β):D1 (x::y::z::l) 3 cs k=D1 l 0 cs fun t=>k (x::y::z::t):=rfl
theorem sf4 (x y z u:IV) (l:List IV) (cs:List FV) (k:List IV→Option β):D1 (x::y::z::u::l) 4 cs k=D1 l 0 cs fun t=>k (x::y::z::u::t):=rfl
theorem of0 (x b:IV) (l:List IV) (k:List IV→Option β):GD (x::l) 0 b k=k (b::l):=rfl
theorem of1 (x y b:IV) (l:List IV) (k:List IV→Option β):GD (x::y::l) 1 b k=k (x::b::l):=rfl
theorem of2 (x y z b:IV) (l:List IV) (k:List IV→Option β):GD (x::y::z::l) 2 b k=k (x::y::b::l):=rfl
theorem of3 (x y z u b:IV) (l:List IV) (k:List IV→Option β):GD (x::y::z::u::l) 3 b k=k (x::y::z::b::l):=rfl
theorem of6 (x y z u v w s b:IV) (l:List IV) (k:List IV→Option β):GD (x::y::z::u::v::w::s::l) 6 b k=k (x::y::z::u::v::w::b::l):=rfl
theorem ArT (size:Nat) (a:IV) (cs:List FV) (h:Hp) (k:Hp→List Ref→List Ref→Option β):Aj size a (.fv (.agg cs)) h k =
  ET a (fun r o=>CZ r h fun b=>GR b fun cells=>cond (and (Nat.beq cs.length size) (Di cs)) (D1 cells o cs fun cells=>FJ r (.row cells false) h fun h=>k h [r] [r]) none) fun _ _=>none:=rfl
theorem AfJ (s:Nat) (x:IV):FI (.own s) x=true:=rfl
theorem Ara (s:Nat) (a b c:IV) (ha:a.one=true) (hb:b.one=true) (hc:c.one=true) (own:List (Nat×Blk)) (ext:List Blk) (k:Hp→List Ref→List Ref→Option β) :
  Aj 3 (.ptr (.own s) 0) (.agg [a,b,c]) ⟨own,ext⟩ k=E6 own s fun bl=>GR bl fun cells=>cond (Nat.ble 3 cells.length) (FJ (.own s) (.row (A3 cells 0 [a,b,c]) false) ⟨own,ext⟩ fun h=>k h [.own s] [.own s]) none:=by
 show E6 own s (fun bl=>GR bl fun cells=>if IV.alive (.agg [a,b,c])=true∧(IV.cells (.agg [a,b,c])).length=3∧0+3≤cells.length∧(IV.cells (.agg [a,b,c])).all IV.one=true∧FI (.own s) (.agg [a,b,c])=true then
  spK (A3 cells 0 (IV.cells (.agg [a,b,c]))) fun cells=>FJ (.own s) (.row cells false) ⟨own,ext⟩ fun h=>k h [.own s] [.own s] else none)=_
 congr 1
 funext bl
 congr 1
 funext cells
 by_cases h3:3≤cells.length
 ·rw [if_pos ⟨rfl,rfl,by omega,by simp [IV.cells,ha,hb,hc],rfl⟩,Ht,A9,decide_eq_true h3];rfl
 ·rw [if_neg (fun h=>h3 (by omega)),A9,decide_eq_false h3];rfl
theorem sc3 (a b c x y z:IV):A3 [x,y,z] 0 [a,b,c]=[a,b,c]:=rfl
theorem Arv (a x:IV) (h:Hp) (k:Hp→List Ref→List Ref→Option β):BA a x h k =
  cond x.one (ET a (fun r o=>CZ r h fun b=>GR b fun cells=>cond (FI r x) (GD cells o x fun cells=>FJ r (.row cells false) h fun h=>k h [r] [r]) none) fun _ _=>none) (Aj 1 a x h k):=rfl
theorem ArX (o:Nat) (r:Ref) (k:IV→Option β):Ac o (.ptr r 0) k=k (.ptr r o):=by rw [Ajv,Nat.zero_add]
theorem Apr (o:Nat) (cs:List FV) (k:IV→Option β):Ac o (.fv (.fp cs 0)) k=k (.fv (.fp cs o)):=by rw [PA,Nat.zero_add]
theorem Ap0 (r:Ref) (o:Nat) (k:IV→Option β):AE (.ptr r o) k=k (.ptr r o):=rfl
theorem ApO (cs:List FV) (o:Nat) (k:IV→Option β):AE (.fv (.fp cs o)) k=k (.fv (.fp cs o)):=rfl
theorem Ae8 (g:FuncId) (a b:List FV) (k:IV→Option β):AE (.fv (.func (.func g) a b)) k=k (.fv (.func (.func g) a b)):=rfl
theorem Ard (ix:Nat) (vs:List IV) (k:IV→Option β):AK ix (.tuple vs) k=Dz vs ix k:=rfl
theorem Arq (ix:Nat) (vs:List FV) (k:IV→Option β):AK ix (.fv (.tuple vs)) k=Dz vs ix fun v=>k (.fv v):=rfl
theorem Arc (o:Nat) (x:IV) (k:IV→Option β):Aoh o x k=asAgg x (fun cs=>Dz cs o k) fun cs=>Dz cs o fun v=>k (.fv v):=rfl
theorem AqT (size o:Nat) (x:IV) (k:IV→Option β):Ak9 size o x k=asAgg x (fun cs=>FD cs o fun cs=>FN cs size fun cs=>O0 cs k) fun cs=>FD cs o fun cs=>FN cs size fun cs=>k (.fv (.agg cs)):=rfl
theorem AoJ (z:List IV) (pl:List (Nat×Nat×IV)) (k:IV→Option β):Bx z pl k=OM z pl fun cells=>O0 cells k:=rfl
theorem fk0 (z:List IV) (k:List IV→Option β):OM z [] k=k z:=rfl
theorem fk1 (z:List IV) (o sz:Nat) (v:IV) (pl:List (Nat×Nat×IV)) (k:List IV→Option β):OM z ((o,sz,v)::pl) k=He z o sz v fun z=>OM z pl k:=rfl
theorem Amt {v:IV} (hv:v.one=true) (z:List IV) (o:Nat) (k:List IV→Option β):He z o 1 v k=GD z o v k:=by
 unfold He;cases v with
 | fv w =>
  show cond (Hu w) _ _=_
  have:Hu w=true:=by cases w<;>first | rfl | cases hv
  rw [this];rfl
 | _=>show Zs _ _ _ _ _=_;unfold Zs;rw [hv];rfl
theorem Anv (z:List IV) (o sz:Nat) (cs:List FV) (k:List IV→Option β):He z o sz (.fv (.agg cs)) k=cond (Nat.beq cs.length sz) (D1 z o cs k) none:=rfl
theorem nb3 (a b c:FV):Nat.beq [a,b,c].length 3=true:=rfl
theorem nb4 (a b c d:FV):Nat.beq [a,b,c,d].length 4=true:=rfl
theorem nb7 (a b c d e f g:FV):Nat.beq [a,b,c,d,e,f,g].length 7=true:=rfl
theorem nl3 (a b c:IV):Nat.ble 3 [a,b,c].length=true:=rfl
theorem Amw:(and true true)=true:=rfl
end
end Idl
end Go.Proofs.Ytaifgaidaglblaa
namespace Go.Proofs.Ytaifgaidaglblaa
namespace Idl
section
variable {β:Type} {E:Env} {t:TypeId}
theorem Va (n:Int):IV.fv (.int .i64 n)=iv n:=rfl
def w64 (n:Int):Int:=IntKind.i64.wrap n
theorem Au {n:Int} (h1:-9223372036854775808≤n) (h2:n≤9223372036854775807):w64 n=n:=by
 show (if (true && decide ((n % (18446744073709551616:Int)) ≥ (9223372036854775808:Int)))=true then (n % (18446744073709551616:Int)) - (18446744073709551616:Int) else (n % (18446744073709551616:Int)))=n
 by_cases h:0≤n
 ·have e:n % (18446744073709551616:Int)=n:=by omega
  have e2:¬ n ≥ (9223372036854775808:Int):=by omega
  rw [e,decide_eq_false e2];rfl
 ·have e:n % (18446744073709551616:Int)=n+18446744073709551616:=by omega
  have e2:n+18446744073709551616 ≥ (9223372036854775808:Int):=by omega
  rw [e,decide_eq_true e2];simp
theorem ApG (a b:Int) (k:IV→Option β):BD E t (iv a) (iv b) k=k (iv (w64 (a+b))):=by
 have hg:CO E t .add (iv a) (iv b) k=k (iv (w64 (a+b))):=by
  rw [CO,CA];rfl
 cases a with
 | negSucc a=>exact hg
 | ofNat a=>cases b with
  | negSucc b=>exact hg
  | ofNat b =>
   show cond (Nat.ble (a+b) 9223372036854775807) (Nw (a+b) k) _=_
   rw [A9];by_cases h:a+b≤9223372036854775807
   ·rw [decide_eq_true h]
    show Nw (a+b) k=_
    rw [DQ]
    have:w64 (Int.ofNat a+Int.ofNat b)=((a+b:Nat):Int):=by
     rw [Au (by simp only [Int.ofNat_eq_natCast];omega) (by simp only [Int.ofNat_eq_natCast];omega)];simp only [Int.ofNat_eq_natCast];omega
    rw [this]
   ·rw [decide_eq_false h];exact hg
theorem Aqr (a b:Int) (k:IV→Option β):Bd E t (iv a) (iv b) k=k (iv (w64 (a - b))):=by
 have hg:CO E t .sub (iv a) (iv b) k=k (iv (w64 (a - b))):=by
  rw [CO,CA];rfl
 cases a with
 | negSucc a=>exact hg
 | ofNat a=>cases b with
  | negSucc b=>exact hg
  | ofNat b =>
   show cond (and (Nat.ble b a) (Nat.ble a 9223372036854775807)) (Nw (a - b) k) _=_
   rw [A9,A9];by_cases h:b≤a∧a≤9223372036854775807
   ·rw [decide_eq_true h.1,decide_eq_true h.2]
    show Nw (a - b) k=_
    rw [DQ]
    have:w64 (Int.ofNat a - Int.ofNat b)=((a - b:Nat):Int):=by
     rw [Au (by simp only [Int.ofNat_eq_natCast];omega) (by simp only [Int.ofNat_eq_natCast];omega)];simp only [Int.ofNat_eq_natCast];omega
    rw [this]
   ·have:(decide (b≤a) && decide (a≤9223372036854775807))=false:=by
     rw [← Bool.decide_and];exact decide_eq_false h
    rw [show and (decide (b≤a)) (decide (a≤9223372036854775807))=false from this]
    exact hg
theorem App (a b:Int) (k:IV→Option β):CO E t .mul (iv a) (iv b) k=k (iv (w64 (a * b))):=by
 rw [CO,CA];rfl
theorem Aek {b:Int} (hb:b≠0) (a:Int) (k:IV→Option β):CO E t .quo (iv a) (iv b) k=k (iv (w64 (a.tdiv b))):=by
 rw [CO,CA]
 have:FB E .quo t (iv a) (iv b)=some (iv (w64 (a.tdiv b))):=by
  show (GW (Op.intDiv .quo .i64 a b)).bind Jk=_
  simp only [Op.intDiv,hb,if_false];rfl
 rw [this];rfl
theorem Ps {b:Int} (hb:b≠0) (a:Int) (k:IV→Option β):CO E t .rem (iv a) (iv b) k=k (iv (a.tmod b)):=by
 rw [CO,CA]
 have:FB E .rem t (iv a) (iv b)=some (iv (a.tmod b)):=by
  show (GW (Op.intDiv .rem .i64 a b)).bind Jk=_
  simp only [Op.intDiv,hb,if_false];rfl
 rw [this];rfl
theorem Aq1 (a b:Int) (k:IV→Option β):A5 E t (iv a) (iv b) k=k (.fv (.bool (decide (a=b)))):=Ape a b k
theorem ArW (a b:Int) (k:IV→Option β):Gy E t (iv a) (iv b) k=k (.fv (.bool (!decide (a=b)))):=Aqn a b k
theorem Arb (a b:Int) (k:IV→Option β):GQ E t (iv a) (iv b) k=k (.fv (.bool (decide (a<b)))):=ApR a b k
theorem Arm (a b:Int) (k:IV→Option β):leS E t (iv a) (iv b) k=k (.fv (.bool (decide (a≤b)))):=Aqm a b k
theorem AqV (a b:Int) (k:IV→Option β):Mk E t (iv a) (iv b) k=k (.fv (.bool (decide (b<a)))):=by
 rw [Mk,LQ (fun a b=>by
  show some (IV.fv (.bool (decide ((a:Int) > (b:Int)))))=_
  rw [A9];congr 3;exact decide_eq_decide.2 (by omega))]
 rfl
theorem Arw (a b:Int) (k:IV→Option β):geS E t (iv a) (iv b) k=k (.fv (.bool (decide (b≤a)))):=by
 rw [geS,LQ (fun a b=>by
  show some (IV.fv (.bool (decide ((a:Int) ≥ (b:Int)))))=_
  rw [A9];congr 3;exact decide_eq_decide.2 (by omega))]
 rfl
theorem Aka (a b:Bool) (hT:E.T t=some ⟨1,1,.bool,[.fv (.bool false)]⟩) (k:IV→Option β):A5 E t (.fv (.bool a)) (.fv (.bool b)) k=k (.fv (.bool (a == b))):=by
 show CO E t .eql _ _ k=_
 rw [CO,CA]
 have:FB E .eql t (.fv (.bool a)) (.fv (.bool b))=some (.fv (.bool (a == b))):=by
  simp only [FB,hT,Uf]
 rw [this];rfl
theorem Apt (b:Bool) (k:IV→Option β):CF (Lz .not (.fv (.bool b))) k=k (.fv (.bool !b)):=ApU b k
theorem ArA (a b:Option β):Am (.fv (.bool true)) a b=a:=rfl
theorem ArY (a b:Option β):Am (.fv (.bool false)) a b=b:=rfl
theorem AqZ (c:Prop) [Decidable c] (a b:Option β):Am (.fv (.bool (decide c))) a b=if c then a else b:=Alv c a b
theorem Aq2 (c:Prop) [Decidable c] (a b:Option β):Am (.fv (.bool (!decide c))) a b=if c then b else a:=by
 by_cases h:c
 ·rw [decide_eq_true h,if_pos h];rfl
 ·rw [decide_eq_false h,if_neg h];rfl
theorem Arh (c:Bool) (a b:Option β):Am (.fv (.bool c)) a b=if c=true then a else b:=by
 cases c<;>rfl
theorem AqW (c a b:IV) (k:IV→Option β):AF c a b k=Am c (k a) (k b):=rfl
theorem Apy {b:Bool} (hb:b=true) (h:Hp) (m:(IV→Hp→List Ref→List Ref→Option β)→Option β) (k:IV→Hp→List Ref→List Ref→Option β):Ab (.fv (.bool b)) true h m k=m k:=by rw [hb];rfl
theorem AqB {b:Bool} (hb:b=false) (h:Hp) (m:(IV→Hp→List Ref→List Ref→Option β)→Option β) (k:IV→Hp→List Ref→List Ref→Option β):Ab (.fv (.bool b)) false h m k=m k:=by rw [hb];rfl
theorem ApL {b:Bool} (hb:b=true) (h:Hp) (m:(IV→Hp→List Ref→List Ref→Option β)→Option β) (k:IV→Hp→List Ref→List Ref→Option β):Ab (.fv (.bool b)) false h m k=k FG h [] []:=by rw [hb];rfl
theorem AoT {b:Bool} (hb:b=false) (h:Hp) (m:(IV→Hp→List Ref→List Ref→Option β)→Option β) (k:IV→Hp→List Ref→List Ref→Option β):Ab (.fv (.bool b)) true h m k=k FG h [] []:=by rw [hb];rfl
theorem Arn (w:Bool) (h:Hp) (m:(IV→Hp→List Ref→List Ref→Option β)→Option β) (k:IV→Hp→List Ref→List Ref→Option β):Ab FG w h m k=k FG h [] []:=rfl
theorem ch0 (rd wr:List Ref) (a:Option β):Ad [] rd wr a=a:=rfl
theorem ch1 (q1 q2:List Ref) (l:List (List Ref×List Ref)) (rd wr:List Ref) (a:Option β):Ad ((q1,q2)::l) rd wr a=cond (UH q2 rd) (cond (UH q2 wr) (cond (UH wr q1) (Ad l rd wr a) none) none) none:=rfl
theorem dj0 (b:List Ref):UH [] b=true:=rfl
theorem djn:∀(a:List Ref),UH a []=true
 | []=>rfl
 | _::a=>djn a
theorem dj1 (r:Ref) (a b:List Ref):UH (r::a) b=cond (J5 r b) (UH a b) false:=rfl
theorem an0 (r:Ref):J5 r []=true:=rfl
theorem an1 (r s:Ref) (l:List Ref):J5 r (s::l)=cond (Mj r s) (J5 r l) false:=rfl
theorem ArE {i j:Nat} (h:(i == j)=false):Mj (.own i) (.own j)=true:=by
 show not (Nat.beq i j)=true
 rw [show Nat.beq i j=false from Ajk h];rfl
theorem Apo (i j:Nat):Mj (.own i) (.ext j)=true:=rfl
theorem AqE (i j:Nat):Mj (.ext i) (.own j)=true:=rfl
theorem ArZ (v:IV) (h:Hp):An [v] h=some (v,h):=rfl
theorem Aru (h:Hp):An [] h=some (.fv (.tuple []),h):=rfl
theorem Art (a b:IV) (h:Hp):An [a,b] h=U2 [a,b] fun v=>some (v,h):=rfl
theorem ArH (a b c:IV) (h:Hp):An [a,b,c] h=U2 [a,b,c] fun v=>some (v,h):=rfl
theorem Ary (a b c d:IV) (h:Hp):An [a,b,c,d] h=U2 [a,b,c,d] fun v=>some (v,h):=rfl
theorem Ap8 (es:List FV) (k:IV→Option β):BQ (.fv (.sl es)) k=k (iv es.length):=DQ ..
theorem Aqo (k:IV→Option β):BQ .nils k=k (iv 0):=rfl
theorem ApK (es:List FV) (k:IV→Option β):BQ (.clip es) k=k (iv es.length):=DQ ..
theorem AoP (r:Ref) (es:List FV) (k:IV→Option β):BQ (.app r es) k=k (iv es.length):=DQ ..
theorem Aqf (r:Ref) (sz n:Nat) (k:IV→Option β):BQ (.slc r sz n) k=k (iv n):=DQ ..
theorem Bs {size:Nat} {es:List FV} {n:Nat} {el:FV} (he:es[n]?=some el) (hl:el.cells.length=size) (k:IV→Option β):A6 size (.fv (.sl es)) (iv n) k=k (.fv (.fp el.cells 0)):=Ak5 he hl k
theorem ArK {size:Nat} {r:Ref} {es:List FV} {n:Nat} {el:FV} (he:es[n]?=some el) (hl:el.cells.length=size) (k:IV→Option β):A6 size (.app r es) (iv n) k=k (.fv (.fp el.cells 0)):=Ak5 he hl k
theorem Aq8 {size:Nat} {es:List FV} {n:Nat} {el:FV} (he:es[n]?=some el) (hl:el.cells.length=size) (k:IV→Option β):A6 size (.clip es) (iv n) k=k (.fv (.fp el.cells 0)):=Ak5 he hl k
theorem ArL {size sz len:Nat} {r:Ref} {n:Nat} (hn:n<len) (hs:sz=size) (k:IV→Option β):A6 size (.slc r sz len) (iv n) k=k (.ptr r (n * sz)):=by
 show cond (and (Nat.ble (Nat.succ n) len) (Nat.beq sz size)) (DZ (n * sz) fun o=>k (.ptr r o)) none=_
 rw [A9,decide_eq_true (show Nat.succ n≤len from hn),hs,show Nat.beq size size=true from Nat.beq_refl size]
 simp only [Bool.and_self,cond_true];rw [BN]
theorem Ajp (size:Nat) (cs:List FV) (es:List FV) (hl:cs.length=size) (k:IV→Option β):A6 size (.fv (.sl (.agg cs::es))) (iv 0) k=k (.fv (.fp cs 0)):=Bs (el:=.agg cs) (n:=0) rfl hl k
theorem Ajw (size:Nat) (cs:List FV) (e:FV) (es:List FV) (hl:cs.length=size) (k:IV→Option β):A6 size (.fv (.sl (e :: .agg cs::es))) (iv 1) k=k (.fv (.fp cs 0)):=Bs (el:=.agg cs) (n:=1) rfl hl k
theorem Aiw (size:Nat) (cs:List FV) (e e':FV) (es:List FV) (hl:cs.length=size) (k:IV→Option β):A6 size (.fv (.sl (e::e' :: .agg cs::es))) (iv 2) k=k (.fv (.fp cs 0)):=Bs (el:=.agg cs) (n:=2) rfl hl k
theorem AiA (size:Nat) (cs:List FV) (e e' e'':FV) (es:List FV) (hl:cs.length=size) (k:IV→Option β):A6 size (.fv (.sl (e::e'::e'' :: .agg cs::es))) (iv 3) k=k (.fv (.fp cs 0)):=Bs (el:=.agg cs) (n:=3) rfl hl k
def Fz (v:IV) (own:List (Nat×Blk)) (w:FV):Prop:=∃u lg,∀(e:Option (IV×Hp)) (K:FV→List (Ref×Blk)→List Ref→Option (IV×Hp)),C5 12 v ⟨own,[]⟩ [] e K=K w u lg
def BM (r:Option (IV×Hp)) (w:FV):Prop:=∃v own,r=some (v,⟨own,[]⟩) ∧
 (Fz v own w∨((∀(e:Option (IV×Hp)) (K:FV→List (Ref×Blk)→List Ref→Option (IV×Hp)),C5 12 v ⟨own,[]⟩ [] e K=e)∧∃u,(CS 4096 v).run ⟨own,[]⟩=some (w,u)))
def Ji (r:Option (IV×Hp)) (w:FV):Prop:=∃v own,r=some (v,⟨own,[]⟩)∧Fz v own w
theorem Ake (w:FV) (own:List (Nat×Blk)):Fz (.fv w) own w:=⟨[],[],fun _ _=>rfl⟩
theorem Ao (w:FV) (own:List (Nat×Blk)):BM (some (.fv w,⟨own,[]⟩)) w:=⟨_,own,rfl,.inl (Ake w own)⟩
def FM:IV→Option FV
 | .fv v=>some v
 | .nils=>some (.sl [])
 | .emp=>some (.sl [])
 | .clip es=>some (.sl es)
 | .app _ es=>some (.sl es)
 | _=>none
def C0:List IV→Option (List FV)
 | []=>some []
 | v::l=>(FM v).bind fun x=>(C0 l).map fun xs=>x::xs
def A8 (v:IV):Option FV:=match v with
 | .agg cs=>if cs.length≤8 then (C0 cs).map .agg else none
 | v=>FM v
def Bv:List IV→Option (List FV)
 | []=>some []
 | v::l=>(A8 v).bind fun x=>(Bv l).map fun xs=>x::xs
theorem Apl (v:FV):A8 (.fv v)=some v:=rfl
theorem Ajl:A8 .nils=some (.sl []):=rfl
theorem Aob:A8 .emp=some (.sl []):=rfl
theorem Ai4 (es:List FV):A8 (.clip es)=some (.sl es):=rfl
theorem AkE (r:Ref) (es:List FV):A8 (.app r es)=some (.sl es):=rfl
theorem Aqj (v:FV):FM (.fv v)=some v:=rfl
theorem Air:FM .nils=some (.sl []):=rfl
theorem AkY:FM .emp=some (.sl []):=rfl
theorem Ajm (es:List FV):FM (.clip es)=some (.sl es):=rfl
theorem Amd (r:Ref) (es:List FV):FM (.app r es)=some (.sl es):=rfl
theorem Aq7 {a b c:IV} {x y z:FV} (ha:FM a=some x) (hb:FM b=some y) (hc:FM c=some z):A8 (.agg [a,b,c])=some (.agg [x,y,z]):=by
 show (if 3≤8 then (C0 [a,b,c]).map FV.agg else none)=_
 simp [C0,ha,hb,hc]
theorem Arz {a b c d:IV} {x y z u:FV} (ha:FM a=some x) (hb:FM b=some y) (hc:FM c=some z) (hd:FM d=some u):A8 (.agg [a,b,c,d])=some (.agg [x,y,z,u]):=by
 show (if 4≤8 then (C0 [a,b,c,d]).map FV.agg else none)=_
 simp [C0,ha,hb,hc,hd]
theorem Aj3 {v:IV} {x:FV} (d:Nat) (h:Hp) (lg:List Ref) (e:Option β) (k:FV→List (Ref×Blk)→List Ref→Option β) (hz:FM v=some x):C5 (d+1) v h lg e k=k x [] lg:=by
 cases v<;>first | (cases hz;rfl) | (cases hz)
theorem Y9 (d:Nat) (h:Hp) (lg:List Ref) (e:Option β):∀(cs:List IV) (k:List FV→List (Ref×Blk)→List Ref→Option β) {xs:List FV},C0 cs=some xs→Cs (C5 (d+1)) cs h lg e k=k xs [] lg
 | [],k,xs,hz=>by cases hz;rfl
 | v::cs,k,xs,hz=>by
  simp only [C0] at hz;cases h1:FM v with
  | none=>rw [h1] at hz;cases hz
  | some x =>
   rw [h1] at hz;cases h2:C0 cs with
   | none=>rw [h2] at hz;cases hz
   | some ys =>
    rw [h2] at hz;cases hz
    show C5 (d+1) v h lg e (fun y u lg=>Cs (C5 (d+1)) cs h lg e fun ys us lg=>Mq u us fun w=>k (y::ys) w lg)=_
    rw [Aj3 d h lg e _ h1,Y9 d h lg e cs _ h2];rfl
theorem I4 {v:IV} {x:FV} (h:Hp) (lg:List Ref) (e:Option β) (k:FV→List (Ref×Blk)→List Ref→Option β) (hz:A8 v=some x):C5 12 v h lg e k=k x [] lg:=by
 cases v with
 | agg cs =>
  simp only [A8] at hz;split at hz
  ·rename_i hl;cases h2:C0 cs with
   | none=>rw [h2] at hz;cases hz
   | some ys =>
    rw [h2] at hz;cases hz
    show cond (Nat.ble cs.length 300) (Cs (C5 11) cs h lg e fun cs u lg=>k (.agg cs) u lg) e=_
    rw [A9,decide_eq_true (show cs.length≤300 by omega)]
    exact Y9 10 h lg e cs _ h2
  ·cases hz
 | _=>exact Aj3 11 h lg e k hz
theorem ArC {v:IV} {x:FV} (hz:A8 v=some x) (own:List (Nat×Blk)):Fz v own x:=⟨[],[],fun e K=>I4 _ _ e K hz⟩
theorem Bf {v:IV} {x:FV} (hz:A8 v=some x) (own:List (Nat×Blk)):BM (some (v,⟨own,[]⟩)) x:=⟨v,own,rfl,.inl (ArC hz own)⟩
theorem fr1 {v:IV} {x:FV} (n:Nat) (hz:FM v=some x):CS (n+1) v=.ret (x,[]):=by
 cases v<;>first | (cases hz;rfl) | (cases hz)
theorem ZL:∀(cs:List IV) (n:Nat) {xs:List FV},cs.length+1<n→C0 cs=some xs→frzL n cs=.ret (xs,[])
 | [],n+1,xs,_,hz=>by cases hz;rfl
 | v::cs,n+2,xs,hn,hz=>by
  simp only [C0] at hz;cases h1:FM v with
  | none=>rw [h1] at hz;cases hz
  | some x =>
   rw [h1] at hz;cases h2:C0 cs with
   | none=>rw [h2] at hz;cases hz
   | some ys =>
    rw [h2] at hz;cases hz;simp only [Auq] at hn;simp only [frzL,fr1 n h1,Rd.bind,ZL cs (n+1) (by omega) h2];rfl
theorem frp {v:IV} {x:FV} (n:Nat) (hn:20<n) (hz:A8 v=some x):CS n v=.ret (x,[]):=by
 cases n with
 | zero=>omega
 | succ n =>
  cases v with
  | agg cs =>
   simp only [A8] at hz;split at hz
   ·rename_i hl;cases h2:C0 cs with
    | none=>rw [h2] at hz;cases hz
    | some ys =>
     rw [h2] at hz;cases hz;simp only [CS,ZL cs n (by omega) h2,Rd.bind]
   ·cases hz
  | _=>exact fr1 n hz
theorem Aki:∀(cs:List IV) (n:Nat) {xs:List FV},cs.length+30<n→Bv cs=some xs→frzL n cs=.ret (xs,[])
 | [],n+1,xs,_,hz=>by cases hz;rfl
 | v::cs,n+1,xs,hn,hz=>by
  simp only [Bv] at hz;cases h1:A8 v with
  | none=>rw [h1] at hz;cases hz
  | some x =>
   rw [h1] at hz;cases h2:Bv cs with
   | none=>rw [h2] at hz;cases hz
   | some ys =>
    rw [h2] at hz;cases hz;simp only [Auq] at hn;simp only [frzL,frp n (by omega) h1,Rd.bind,Aki cs n (by omega) h2];rfl
theorem AR {vs:List IV} {xs:List FV} (hz:Bv vs=some xs) (hl:vs.length≤100) (own:List (Nat×Blk)):BM (some (.tuple vs,⟨own,[]⟩)) (.tuple xs) :=
 ⟨_,own,rfl,.inr ⟨fun _ _=>rfl,[],by
  show (CS (4095+1) (.tuple vs)).run _=_
  simp only [CS,Aki vs 4095 (by omega) hz,Rd.bind];rfl⟩⟩
theorem Al3:Bv []=some []:=rfl
theorem UY {a b:IV} {x y:FV} (ha:A8 a=some x) (hb:A8 b=some y):Bv [a,b]=some [x,y]:=by simp [Bv,ha,hb]
theorem Ada {a b c:IV} {x y z:FV} (ha:A8 a=some x) (hb:A8 b=some y) (hc:A8 c=some z):Bv [a,b,c]=some [x,y,z]:=by simp [Bv,ha,hb,hc]
theorem Apa {a b c d:IV} {x y z u:FV} (ha:A8 a=some x) (hb:A8 b=some y) (hc:A8 c=some z) (hd:A8 d=some u):Bv [a,b,c,d]=some [x,y,z,u]:=by simp [Bv,ha,hb,hc,hd]
theorem AkO {a:IV} {x:FV} (ha:A8 a=some x):Bv [a]=some [x]:=by simp [Bv,ha]
theorem NK:∀(args:List IV) {vs:List FV},Bv args=some vs→Br [] args=.ret (vs.map .fv,[],[])
 | [],vs,hz=>by cases hz;rfl
 | v::l,vs,hz=>by
  simp only [Bv] at hz;cases h1:A8 v with
  | none=>rw [h1] at hz;cases hz
  | some x =>
   rw [h1] at hz;cases h2:Bv l with
   | none=>rw [h2] at hz;cases hz
   | some ys =>
    rw [h2] at hz;cases hz;simp only [Br,frp 4096 (by omega) h1,Rd.bind,NK l h2];rfl
theorem fz0 (keep:List Bool) (h:Hp) (lg:List Ref) (e:Option β) (k:List IV→List Ref→List (Ref×Blk)→List Ref→Option β):Tn [] keep h lg e k=k [] [] [] lg:=rfl
theorem fz1 (x:IV) (l:List IV) (h:Hp) (lg:List Ref) (e:Option β) (k:List IV→List Ref→List (Ref×Blk)→List Ref→Option β) :
  Tn (x::l) [] h lg e k=C5 12 x h lg e fun y u lg=>Tn l [] h lg e fun vs rs us lg=>Mq u us fun w=>k (.fv y::vs) rs w lg:=rfl
theorem Agf (x:IV) (l:List IV) (ks:List Bool) (h:Hp) (lg:List Ref) (e:Option β) (k:List IV→List Ref→List (Ref×Blk)→List Ref→Option β) :
  Tn (x::l) (true::ks) h lg e k=ET x (fun r o=>Tn l ks h lg e fun vs rs us lg=>k (.ptr r o::vs) (r::rs) us lg) fun _ _=>e:=rfl
theorem Wf (x:IV) (l:List IV) (ks:List Bool) (h:Hp) (lg:List Ref) (e:Option β) (k:List IV→List Ref→List (Ref×Blk)→List Ref→Option β) :
  Tn (x::l) (false::ks) h lg e k=C5 12 x h lg e fun y u lg=>Tn l ks h lg e fun vs rs us lg=>Mq u us fun w=>k (.fv y::vs) rs w lg:=rfl
section
variable (d:Nat) (h:Hp) (lg:List Ref) (e:Option β) (k:FV→List (Ref×Blk)→List Ref→Option β)
theorem Ae0 (cs:List IV):C5 12 (.agg cs) h lg e k=cond (Nat.ble cs.length 300) (Cs (C5 11) cs h lg e fun cs u lg=>k (.agg cs) u lg) e:=rfl
theorem Wj (s:Nat) (off:Nat):C5 12 (.ptr (.own s) off) h lg e k=CZ (.own s) h fun b=>DM b fun cells=>cond (Nat.ble cells.length 300) (Cs (C5 11) cells h (.own s::lg) e fun cs u lg=>k (.fp cs off) ((.own s,.row cells true)::u) lg) e:=rfl
theorem I6 (v:FV):C5 11 (.fv v) h lg e k=k v [] lg:=rfl
theorem fl0 (g:FzK β) (k:List FV→List (Ref×Blk)→List Ref→Option β):Cs g [] h lg e k=k [] [] lg:=rfl
theorem UG (g:FzK β) (x:IV) (l:List IV) (k:List FV→List (Ref×Blk)→List Ref→Option β):Cs g (x::l) h lg e k=g x h lg e fun y u lg=>Cs g l h lg e fun ys us lg=>Mq u us fun w=>k (y::ys) w lg:=rfl
end
def TF (rs:List Ref) (r:Option (IV×Hp)) (h:Hp) (u:List (Ref×Blk)) (lg:List Ref) (e:Option (IV×Hp)) (g:List Ref→Option (IV×Hp)) (k:IV→Hp→List Ref→List Ref→Option (IV×Hp)):Option (IV×Hp):=match rs with
 | []=>(match r with
  | none=>none
  | some p=>match p with
   | (v,h')=>match h' with
    | ⟨own,ext⟩=>List.casesOn (motive:=fun _=>Option (IV×Hp)) ext (C5 12 v ⟨own,[]⟩ [] e fun w _ _=>Lx u h fun h2=>k (.fv w) h2 lg (Bo u)) fun _ _=>none)
 | r::rs=>g (r::rs)
theorem Nt (keep:List Bool) (ih:Aa) (f:FuncId) (args:List IV) (h:Hp) (k:IV→Hp→List Ref→List Ref→Option (IV×Hp)):Al keep false false ih f args h k =
  Tn args keep h [] (Gq keep false false ih f args h k) fun vs rs u lg=>TF rs (ih f vs ⟨[],[]⟩) h u lg (Gq keep false false ih f args h k) (fun rs=>match rs with
   | []=>none
   | r::rs=>(match h with
    | ⟨own,ext⟩=>cond (O8 400 (r::rs) 0 ext) (match ih f vs ⟨[],ext⟩ with
     | none=>none
     | some p=>match p with
      | (v,h')=>match h' with
       | ⟨own',ext'⟩=>cond (and (Nat.beq ext'.length ext.length) (okB ext.length ext'))
        (C5 12 v ⟨own',ext'⟩ [] (Gq keep false false ih f args h k) fun w _ _=>Lx u ⟨own,ext'⟩ fun h2=>k (.fv w) h2 ((CK ext.length).reverse++lg) (Bo u++CK ext.length)) none)
     (Gq keep false false ih f args h k))) k:=by
 unfold Al;simp only [cond_false];congr 1
theorem AoM {r:Option (IV×Hp)} {w:FV} (hr:Ji r w) (h:Hp) (u:List (Ref×Blk)) (lg:List Ref) (e:Option (IV×Hp)) (g:List Ref→Option (IV×Hp)) (k:IV→Hp→List Ref→List Ref→Option (IV×Hp)) :
  TF [] r h u lg e g k=Lx u h fun h2=>k (.fv w) h2 lg (Bo u):=by
 obtain ⟨v,own,rfl,u',lg',hz⟩:=hr;simp only [TF];rw [hz]
theorem AgG:∀(args:List IV) {vs:List FV} (h:Hp) (lg:List Ref) (e:Option β) (k:List IV→List Ref→List (Ref×Blk)→List Ref→Option β),Bv args=some vs→Tn args [] h lg e k=k (vs.map .fv) [] [] lg
 | [],vs,h,lg,e,k,hz=>by cases hz;rfl
 | v::l,vs,h,lg,e,k,hz=>by
  simp only [Bv] at hz;cases h1:A8 v with
  | none=>rw [h1] at hz;cases hz
  | some x =>
   rw [h1] at hz;cases h2:Bv l with
   | none=>rw [h2] at hz;cases hz
   | some ys =>
    rw [h2] at hz;cases hz
    show C5 12 v h lg e (fun y u lg=>Tn l [] h lg e fun vs rs us lg=>Mq u us fun w=>k (.fv y::vs) rs w lg)=_
    rw [I4 h lg e _ h1,AgG l h lg e _ h2];rfl
theorem Ib (f:Ref→Option Ref):∀l:List FV,IV.ren.renL f (l.map .fv)=some (l.map .fv)
 | []=>rfl
 | v::l=>by
  simp only [Aus,IV.ren.renL,IV.ren,Ib f l];rfl
theorem NW {ih:Aa} {f:FuncId} {args:List IV} {vs:List FV} {w:FV} (hz:Bv args=some vs) (hr:BM (ih f (vs.map .fv) ⟨[],[]⟩) w) (h:Hp) (k:IV→Hp→List Ref→List Ref→Option (IV×Hp)) :
  Al [] false false ih f args h k=k (.fv w) h [] []:=by
 obtain ⟨v,own,e,hv⟩:=hr;have hD:(∃u,(CS 4096 v).run ⟨own,[]⟩=some (w,u))→Gq [] false false ih f args h k=k (.fv w) h [] []:=by
  rintro ⟨u,hu⟩;unfold Gq;simp only [NK args hz,Rd.runLog,Cd,Ib,Aur,Bc,EV (Cy 3),EV CV,LA,Bool.false_eq_true,if_false,e,hu,Aup,IV.ren]
  show (match laid h ([]++(Bo []).zip []) with | none=>none | some h'=>fH h' fun h'=>fV 3 (.fv w) fun res=>k res h' [] _)=_
  simp only [Bo,Aur,List.zip_nil_left,List.append_nil,laid,OS,Cy]
 rw [Nt,AgG args h [] _ _ hz,e];simp only [TF];rcases hv with ⟨u',lg',hf⟩ | ⟨hf,hu⟩
 ·rw [hf];rfl
 ·rw [hf];exact hD hu
theorem ES {ih:Aa} {f:FuncId} {w:FV} (hr:BM (ih f [] ⟨[],[]⟩) w) (h:Hp) (k:IV→Hp→List Ref→List Ref→Option (IV×Hp)) :
  Al [] false false ih f [] h k=k (.fv w) h [] []:=NW (vs:=[]) rfl hr h k
theorem As {ih:Aa} {f:FuncId} {a:IV} {x w:FV} (hr:BM (ih f [.fv x] ⟨[],[]⟩) w) (ha:A8 a=some x) (h:Hp) (k:IV→Hp→List Ref→List Ref→Option (IV×Hp)) :
  Al [] false false ih f [a] h k=k (.fv w) h [] []:=NW (AkO ha) hr h k
theorem Af {ih:Aa} {f:FuncId} {a b:IV} {x y w:FV} (hr:BM (ih f [.fv x,.fv y] ⟨[],[]⟩) w) (ha:A8 a=some x) (hb:A8 b=some y) (h:Hp) (k:IV→Hp→List Ref→List Ref→Option (IV×Hp)) :
  Al [] false false ih f [a,b] h k=k (.fv w) h [] []:=NW (UY ha hb) hr h k
theorem A0 {ih:Aa} {f:FuncId} {a b c:IV} {x y z w:FV} (hr:BM (ih f [.fv x,.fv y,.fv z] ⟨[],[]⟩) w) (ha:A8 a=some x) (hb:A8 b=some y) (hc:A8 c=some z) (h:Hp) (k:IV→Hp→List Ref→List Ref→Option (IV×Hp)) :
  Al [] false false ih f [a,b,c] h k=k (.fv w) h [] []:=NW (Ada ha hb hc) hr h k
theorem AD {ih:Aa} {f:FuncId} {a b c d:IV} {x y z u w:FV} (hr:BM (ih f [.fv x,.fv y,.fv z,.fv u] ⟨[],[]⟩) w) (ha:A8 a=some x) (hb:A8 b=some y) (hc:A8 c=some z) (hd:A8 d=some u) (h:Hp)
  (k:IV→Hp→List Ref→List Ref→Option (IV×Hp)):Al [] false false ih f [a,b,c,d] h k=k (.fv w) h [] []:=NW (Apa ha hb hc hd) hr h k
theorem KA (v:IV) (s:Nat) (h:Hp) (k:IV→Hp→List Ref→List Ref→Option β):Az (.ret { eff:={ val:=v } }) s h k=k v h [] []:=by
 unfold Az;simp only [Rd.runLog,Ii,Cy];rfl
theorem gen_val' (v:IV) (s:Nat) (h:Hp) (k:IV→Hp→List Ref→List Ref→Option β):Az (Idl.val v) s h k=k v h [] []:=KA v s h k
theorem Cp {e:TypeId} {a b:Nat} {ei:TI} {z:List IV} (hT:E.T t=some ⟨a,b,.slice e,z⟩) (he:E.T e=some ei) {len:Nat} (hs:¬ (ei.size=0∨len * ei.size > 65536)) {parts:List (Nat×IV)} {cells:List FV}
  (hf:Cx (fun j=>some (j * ei.size,ei.size)) (O1 len ei.zero) parts=some (cells.map .fv)) {s:Nat} {h:Hp} (k:IV→Hp→List Ref→List Ref→Option β) (hc:cells.length<65000:=by simp) :
  Az (Ak E t len parts) s h k=k (.clip (BO ei.size len cells)) h [] []:=by
 have key:∀(l:List FV) (n:Nat),l.length<n→frzL n (l.map .fv)=.ret (l,[]):=by
  intro l
  induction l with
  | nil=>intro n hn;cases n with
   | zero=>simp at hn
   | succ n=>rfl
  | cons x l ih=>intro n hn;cases n with
   | zero=>simp at hn
   | succ n =>
    simp only [Auq] at hn;cases n with
    | zero=>omega
    | succ n =>
     simp only [Aus,frzL,CS,Rd.bind];rw [ih (n+1) (by omega)];rfl
 have:Ak E t len parts=.ret { eff:={ val:=.clip (BO ei.size len cells),upd:=[] } }:=by
  simp only [Ak,hT,he,if_neg hs,hf];rw [key _ _ (by omega)];rfl
 rw [this,KA]
end
end Idl
end Go.Proofs.Ytaifgaidaglblaa
namespace Go.Proofs.Ytaifgaidaglblaa
namespace Idl
def XY:=Aul @decide_true<|Aul @decide_false<|Aul @Bool.not_true<|Aul @Bool.not_false<|Aul @List.map_cons.{0,0}<|Aul @List.map_nil.{0,0}<|Aul @List.length_map.{0,0}<|Aul @List.length_cons.{0}<|Aul @List.length_nil.{0}<|Aul @Int.natCast_zero<|Aul @Int.natCast_one<|Aul @Bool.false_eq_true<|Aul @Bool.true_eq_false<|Aul @decide_eq_true_eq<|Aul @eq_self.{1}<|Aul @Bool.and_true<|Aul @Bool.true_and<|Aul @Bool.and_false<|Aul @Bool.false_and<|Aul @Nat.zero_add<|@Int.cast_ofNat_Int
def XE:=Aul @List.any_cons.{0}<|Aul @List.any_nil.{0}<|Aul @List.all_cons.{0}<|Aul @List.all_nil.{0}<|Aul @List.filter_cons.{0}<|Aul @List.filter_nil.{0}<|Aul @List.contains_cons.{0}<|Aul @List.contains_nil.{0}<|Aul @Bool.or_false<|Aul @Bool.or_true<|Aul @Bool.false_or<|Aul @Bool.true_or<|Aul @Bool.and_self<|Aul @Bool.not_eq_true<|Aul @BEq.rfl.{0}<|@beq_self_eq_true.{0}
def XX:=Aul @n0<|Aul @n1<|Aul @n2<|Aul @n3<|Aul @n4<|Aul @n5<|Aul @n6<|Aul @d0<|Aul @d1<|Aul @d2<|Aul @d3<|Aul @d4<|Aul @t1<|Aul @t2<|Aul @t3<|Aul @t4<|Aul @t7<|Aul @ap0<|Aul @ap1<|Aul @AoL<|Aul @c_t<|Aul @c_f<|Aul @K8<|Aul @AoU<|Aul @Aj1<|Aul @Aog<|Aul @Apz<|Aul @Akf<|Aul @AnL<|Aul @AoY<|Aul @AlI<|Aul @Xh<|Aul @Aif<|Aul @sn0<|Aul @AoQ<|Aul @Aqe<|Aul @Apv<|Aul @ApC<|Aul @Aph<|Aul @Us<|Aul @Aia<|Aul @AmO<|Aul @Ajq<|Aul @ApM<|Aul @AoI<|Aul @AhX<|Aul @Ajb<|Aul @AjI<|Aul @AkR<|Aul @Alx<|Aul @Ak3<|Aul @AjT<|Aul @AlW<|Aul @AnI<|Aul @Ajg<|Aul @Amz<|Aul @Ah6<|Aul @AoD<|Aul @Aql<|Aul @Aiv<|Aul @An6<|Aul @AiU<|Aul @Ta<|Aul @Vx<|Aul @ArQ<|Aul @Hr<|Aul @ZM<|Aul @Afu<|Aul @VU<|Aul @Al9<|Aul @Am7<|Aul @Ant<|Aul @Am1<|Aul @Ald<|Aul @Ak1<|Aul @AmQ<|Aul @ApZ<|Aul @AnE<|Aul @AhW<|Aul @Anz<|Aul @Afx<|Aul @AhV<|Aul @Ahr<|Aul @Aik<|Aul @AiN<|Aul @AjQ<|Aul @Ad3<|Aul @ApB<|Aul @Ap7<|Aul @AqU<|Aul @ArF<|Aul @AmL<|Aul @AmH<|Aul @wr0<|Aul @wr1<|Aul @sf0<|Aul @sf1<|Aul @sf2<|Aul @sf3<|Aul @sf4<|Aul @of0<|Aul @of1<|Aul @of2<|Aul @of3<|Aul @of6<|Aul @ArT<|Aul @AfJ<|Aul @Ara<|Aul @sc3<|Aul @Arv<|Aul @ArX<|Aul @Apr<|Aul @Ap0<|Aul @ApO<|Aul @Ae8<|Aul @Ard<|Aul @Arq<|Aul @Arc<|Aul @AqT<|Aul @AoJ<|Aul @fk0<|Aul @fk1<|Aul @Amt<|Aul @Anv<|Aul @nb3<|Aul @nb4<|Aul @nb7<|Aul @nl3<|Aul @Amw<|Aul @ApG<|Aul @Aqr<|Aul @App<|Aul @Aek<|Aul @Ps<|Aul @Aq1<|Aul @ArW<|Aul @Arb<|Aul @Arm<|Aul @AqV<|Aul @Arw<|Aul @Aka<|Aul @Apt<|Aul @ArA<|Aul @ArY<|Aul @AqZ<|Aul @Aq2<|Aul @Arh<|Aul @AqW<|Aul @Apy<|Aul @AqB<|Aul @ApL<|Aul @AoT<|Aul @Arn<|Aul @ch0<|Aul @ch1<|Aul @dj0<|Aul @djn<|Aul @dj1<|Aul @an0<|Aul @an1<|Aul @ArE<|Aul @Apo<|Aul @AqE<|Aul @ArZ<|Aul @Aru<|Aul @Art<|Aul @ArH<|Aul @Ary<|Aul @Ap8<|Aul @Aqo<|Aul @ApK<|Aul @AoP<|Aul @Aqf<|Aul @Bs<|Aul @ArK<|Aul @Aq8<|Aul @ArL<|Aul @Ajp<|Aul @Ajw<|Aul @Aiw<|Aul @AiA<|Aul @Apl<|Aul @Ajl<|Aul @Aob<|Aul @Ai4<|Aul @AkE<|Aul @Aqj<|Aul @Air<|Aul @AkY<|Aul @Ajm<|Aul @Amd<|Aul @Aq7<|Aul @Arz<|Aul @Al3<|Aul @UY<|Aul @Ada<|Aul @Apa<|Aul @AkO<|Aul @KA<|@gen_val'
def Ev (f:FuncId) (args:List IV) (w:FV):Prop:=∃N,∀n,N≤n→BM (SS dt n f args ⟨[],[]⟩) w
theorem A7 {F:(List IV→Hp→Option (IV×Hp))→List IV→Hp→Option (IV×Hp)} {Q:Option (IV×Hp)→Prop} (P:Nat→List IV→Hp→Prop)
  (step:∀k V H rec,P k V H→(∀k' V' H',k' < k→P k' V' H'→Q (rec V' H'))→Q (F rec V H)):∀m k V H,k<m→P k V H→Q (BE m F V H):=by
 intro m
 induction m with
 | zero=>intro k V H h;omega
 | succ m ih=>intro k V H hk hP;exact step k V H (BE m F) hP fun k' V' H' h1 h2=>ih k' V' H' (by omega) h2
mutual
def Tm.wt:Tm→Nat
 | .mk _ _ l=>1+Tm.wtL l
def Tm.wtL:List Tm→Nat
 | []=>0
 | t::l=>t.wt+Tm.wtL l
end
theorem BY {t:Tm}:∀{l:List Tm},t∈l→t.wt≤Tm.wtL l
 | a::l,h=>by
  rcases List.mem_cons.1 h with rfl | h
  ·simp only [Tm.wtL];omega
  ·have:=BY h;simp only [Tm.wtL];omega
theorem DN:∀(l:List Tm),l.length≤Tm.wtL l
 | []=>Nat.zero_le _
 | (.mk _ _ k)::l=>by have:=DN l;simp only [Tm.wtL,Tm.wt,Auq];omega
theorem Jf (t:Tm):0<t.wt:=by cases t;simp only [Tm.wt];omega
theorem Ag (op n:Int) (l:List Tm):(Tm.mk op n l).enc=.agg [.int .i64 op,.int .i64 n,.sl (l.map Tm.enc)]:=by simp only [Tm.enc,Aa6]
theorem AN {l:List Tm} {i:Nat} {op n:Int} {k:List Tm} (h:l[i]?=some (.mk op n k)):(l.map Tm.enc)[i]?=some (.agg [.int .i64 op,.int .i64 n,.sl (k.map Tm.enc)]):=by
 rw [List.getElem?_map,h,Aup,Ag]
theorem Cc {α:Type} {l pre rest:List α} {a:α} (h:l=pre++a::rest):l[pre.length]?=some a:=by
 rw [h,List.getElem?_append_right (Nat.le_refl _),Nat.sub_self];rfl
theorem B8 (a b c:FV):(FV.agg [a,b,c]).cells=[a,b,c]:=rfl
theorem Ba (a b c:FV):(FV.agg [a,b,c]).cells.length=3:=rfl
section
variable {β:Type} {E:Env}
def Ae6 (b:Blk) (n sz:Nat) (x:Option β):Option β:=match b with
 | .tok a s=>if a=n∧s=sz then x else none
 | _=>none
theorem HC (n sz:Nat) (x:Option β):Ae6 (.tok n sz) n sz x=x:=by
 show (if n=n∧sz=sz then x else none)=x
 rw [if_pos ⟨rfl,rfl⟩]
inductive Plain2:IV→List FV→Prop
 | clip (es:List FV):Plain2 (.clip es) es
 | sl (es:List FV):Plain2 (.fv (.sl es)) es
 | app (r:Ref) (es:List FV):Plain2 (.app r es) es
theorem VP {x:IV} {es:List FV} (h:Plain2 x es):CS 4096 x=.ret (.sl es,[]):=by cases h<;>rfl
structure SliceT (E:Env) (t:TypeId) (size:Nat):Prop where
 h:∃a b e z ei,E.T t=some ⟨a,b,.slice e,z⟩∧E.T e=some ei∧ei.size=size∧size≠0∧ei.bytes≤100000
theorem Mg {t:TypeId} {size:Nat} (T:SliceT E t size) {x:IV} {es2:List FV} (hx:Plain2 x es2) (h1:BF size es2=true) (hne:es2.isEmpty=false) (hb:es2.length≤1000000) {s0:IV} (hs:s0=.nils∨s0=.clip []) (s:Nat) (own:List (Nat×Blk)) (ext:List Blk)
  (k:IV→Hp→List Ref→List Ref→Option β):Az (AW E s false .append [t,t] [s0,x]) s ⟨own,ext⟩ k=CH own s (AZ own s (.tok es2.length size) fun own=>k (.app (.own s) es2) ⟨own,ext⟩ [] [.own s]):=by
 obtain ⟨a,b,e,z,ei,hT,he,rfl,h0,hby⟩:=T.h;have hlen:¬ (BF ei.size []=false∨(([]:List FV).length+es2.length) * ei.bytes > 140737488355328∨([]:List FV).length+es2.length > 1073741824):=by
  have:es2.length * ei.bytes≤1000000 * 100000:=Nat.mul_le_mul hb hby
  rintro (h | h | h)
  ·cases h
  ·simp only [List.length_nil,Nat.zero_add] at h;omega
  ·simp only [List.length_nil,Nat.zero_add] at h;omega
 have key:AW E s false .append [t,t] [s0,x]=.ret { eff:={ val:=.app (.own s) es2,upd:=[] },new:=some (.tok es2.length ei.size) }:=by
  show E4 E s t (some t) false s0 x=_
  simp only [E4,hT,Option.bind_some,he,VP hx,Rd.bind,h0,h1,false_or,Bool.true_eq_false,if_false];rcases hs with rfl | rfl<;>simp only [Ca,if_neg hlen,hne,List.nil_append,Bool.false_eq_true,if_false]
 rw [key];unfold Az;simp only [Rd.runLog]
 show (Je (some (.tok es2.length ei.size)) s ⟨own,ext⟩ fun h=>fV 3 (.app (.own s) es2) fun v=>k v h [] ([]++[.own s]))=_
 simp only [Je,CV,Cy];rfl
theorem Akp {t:TypeId} {size:Nat} (T:SliceT E t size) {x:IV} (hx:Plain2 x []) {s0:IV} (hs:s0=.nils∨s0=.clip []) (s:Nat) (h:Hp) (k:IV→Hp→List Ref→List Ref→Option β) :
  Az (AW E s false .append [t,t] [s0,x]) s h k=k s0 h [] []:=by
 obtain ⟨a,b,e,z,ei,hT,he,rfl,h0,hby⟩:=T.h;have hlen:¬ (BF ei.size []=false∨(([]:List FV).length+([]:List FV).length) * ei.bytes > 140737488355328∨([]:List FV).length+([]:List FV).length > 1073741824):=by
  rintro (h | h | h)
  ·cases h
  ·simp at h
  ·simp at h
 have key:AW E s false .append [t,t] [s0,x]=.ret { eff:={ val:=s0,upd:=[] } }:=by
  show E4 E s t (some t) false s0 x=_
  have h1:BF ei.size []=true:=rfl;simp only [E4,hT,Option.bind_some,he,VP hx,Rd.bind,h0,h1,false_or,Bool.true_eq_false,if_false];rcases hs with rfl | rfl
  ·simp only [Ca];rw [if_neg hlen];simp
  ·simp only [Ca];rw [if_neg hlen];simp
 rw [key];exact KA s0 s h k
theorem TY {t:TypeId} {size:Nat} (T:SliceT E t size) {x:IV} {es es2:List FV} (hx:Plain2 x es2) (h1:BF size es2=true) (h2:BF size es=true) (ho:(es2.all fun e=>e.cells.all FV.one)=true) (hb:es.length+es2.length≤1000000) (r s:Nat)
  (own:List (Nat×Blk)) (ext:List Blk) (k:IV→Hp→List Ref→List Ref→Option β):Az (AW E s false .append [t,t] [.app (.own r) es,x]) s ⟨own,ext⟩ k =
   E6 own r fun b=>Ae6 b es.length size (AZ own r (.tok (es.length+es2.length) size) fun own=>k (.app (.own r) (es++es2)) ⟨own,ext⟩ [.own r] [.own r]):=by
 obtain ⟨a,b,e,z,ei,hT,he,rfl,h0,hby⟩:=T.h;have hlen:¬ (BF ei.size es=false∨(es.length+es2.length) * ei.bytes > 140737488355328∨es.length+es2.length > 1073741824):=by
  have:(es.length+es2.length) * ei.bytes≤1000000 * 100000:=Nat.mul_le_mul hb hby
  rintro (h | h | h)
  ·rw [h2] at h;cases h
  ·omega
  ·omega
 have key:(AW E s false .append [t,t] [.app (.own r) es,x]).runLog ⟨own,ext⟩ []=(Ap r own).bind fun b=>match b with
   | .tok n sz=>if n=es.length∧sz=ei.size then some ({ eff:={ val:=.app (.own r) (es++es2),upd:=[(.own r,.tok (n+es2.length) sz)] } },[.own r]) else none
   | _=>none:=by
  show (E4 E s t (some t) false (.app (.own r) es) x).runLog _ _=_
  simp only [E4,hT,Option.bind_some,he,VP hx,Rd.bind,h0,h1,false_or,Bool.true_eq_false,if_false,Ca,if_neg hlen,Rd.runLog,ho,and_true]
  show (match Ap r own with | some b=>_ | none=>none)=_
  cases Ap r own with
  | none=>rfl
  | some b =>
   cases b with
   | tok n sz =>
    simp only [Option.bind_some];by_cases hc:n=es.length∧sz=ei.size
    ·rw [if_pos hc,if_pos hc];rfl
    ·rw [if_neg hc,if_neg hc];rfl
   | _=>rfl
 unfold Az;rw [key,Bk];cases hl:Ap r own with
 | none=>simp
 | some b =>
  simp only [Option.bind_some];cases b with
  | tok n sz =>
   simp only [Ae6];by_cases hc:n=es.length∧sz=ei.size
   ·rw [if_pos hc,if_pos hc];obtain ⟨rfl,rfl⟩:=hc
    show (fRf (.own r) fun q=>CZ q ⟨own,ext⟩ fun _=>fBk (.tok (es.length+es2.length) ei.size) fun b=>FJ q b ⟨own,ext⟩ fun h=>Je none s h fun h=>fV 3 (.app (.own r) (es++es2)) fun v=>k v h [.own r] ([.own r]++[]))=_
    simp only [N6,CV,Cy,Je,FJ,CZ];rw [Bk,hl];rfl
   ·rw [if_neg hc,if_neg hc]
  | row _ _=>rfl
  | map _=>rfl
end
end Idl
end Go.Proofs.Ytaifgaidaglblaa
namespace Go.Proofs.Ytaifgaidaglblaa
namespace Idl
theorem Td:EE.T 29=some ⟨1,24,.slice 31,[.nils]⟩:=by kernel_rfl
theorem tTm:EE.T 31=some ⟨3,40,.struct [(0,3),(1,3),(2,29)],[.fv (.int .i64 0),.fv (.int .i64 0),.nils]⟩:=by kernel_rfl
theorem sTm:SliceT EE 29 3:=⟨_,_,_,_,_,Td,tTm,rfl,by decide,by decide⟩
theorem Jq (a:Tm) (s:Nat) (h:Hp) (k:IV→Hp→List Ref→List Ref→Option (IV×Hp)):Az (Ak EE 29 1 [(0,.fv a.enc)]) s h k=k (.clip [a.enc]) h [] []:=by
 obtain ⟨o1,n1,k1⟩:=a;exact Cp Td tTm (by decide) (cells:=[.int .i64 o1,.int .i64 n1,.sl (Tm.enc.encL k1)]) rfl k
theorem AmM (a b:Tm) (s:Nat) (h:Hp) (k:IV→Hp→List Ref→List Ref→Option (IV×Hp)):Az (Ak EE 29 2 [(0,.fv a.enc),(1,.fv b.enc)]) s h k=k (.clip [a.enc,b.enc]) h [] []:=by
 obtain ⟨o1,n1,k1⟩:=a;obtain ⟨o2,n2,k2⟩:=b;exact Cp Td tTm (by decide) (cells:=[.int .i64 o1,.int .i64 n1,.sl (Tm.enc.encL k1),.int .i64 o2,.int .i64 n2,.sl (Tm.enc.encL k2)]) rfl k
theorem Ais (a:Tm):a.enc.cells.length=3:=by cases a;rfl
theorem Aid (a:Tm):a.enc.cells.all FV.one=true:=by cases a;rfl
theorem QK (l:List Tm):BF 3 (l.map Tm.enc)=true:=by
 cases l with
 | nil=>rfl
 | cons a l=>simp only [Aus,BF,Ais,beq_self_eq_true]
theorem QB (e:Tm) (s:Nat) (own:List (Nat×Blk)) (ext:List Blk) (k:IV→Hp→List Ref→List Ref→Option (IV×Hp)) :
  Az (AW EE s false .append [29,29] [.nils,.clip [e.enc]]) s ⟨own,ext⟩ k=CH own s (AZ own s (.tok 1 3) fun own=>k (.app (.own s) [e.enc]) ⟨own,ext⟩ [] [.own s]) :=
 Mg sTm (.clip _) (QK [e]) rfl (by simp) (.inl rfl) s own ext k
theorem MZ {es:List Tm} (hb:es.length+1≤1000000) (e:Tm) (r s:Nat) (own:List (Nat×Blk)) (ext:List Blk) (k:IV→Hp→List Ref→List Ref→Option (IV×Hp)) :
  Az (AW EE s false .append [29,29] [.app (.own r) (es.map Tm.enc),.clip [e.enc]]) s ⟨own,ext⟩ k =
   E6 own r fun b=>Ae6 b es.length 3 (AZ own r (.tok (es.length+1) 3) fun own=>k (.app (.own r) ((es++[e]).map Tm.enc)) ⟨own,ext⟩ [.own r] [.own r]):=by
 rw [TY sTm (.clip [e.enc]) (QK [e]) (QK es) (by simp [Aid]) (by simpa using hb) r s own ext k];simp only [List.length_map,List.map_append,Aus,Aur,Auq,List.length_nil,Nat.zero_add]
theorem AlK {x m:Int} (h1:0<m) (h2:m≤4611686018427387904):(if x.tmod m<0 then w64 (x.tmod m+m) else x.tmod m)=x % m:=by
 have a1:=Int.emod_nonneg x (show m≠0 by omega)
 have a2:=Int.emod_lt_of_pos x h1;have e1:x.tmod m=x - m * x.tdiv m:=by have:=Int.mul_tdiv_add_tmod x m;omega
 have e2:x % m=x - m * (x / m):=by have:=Int.mul_ediv_add_emod x m;omega
 have b1:-m<x.tmod m:=Int.lt_tmod_of_pos x h1;have b2:x.tmod m<m:=Int.tmod_lt_of_pos x h1;have key:∃q,x.tmod m=x % m+m * q:=⟨x / m - x.tdiv m,by rw [e1,e2,Int.mul_sub];omega⟩;obtain ⟨q,hq⟩:=key;have hq2:q=0∨q=-1:=by
  rcases Int.lt_trichotomy q 0 with h | h | h
  ·right;rcases Int.lt_trichotomy q (-1) with h' | h' | h'
   ·have:m * q≤m * (-2):=Int.mul_le_mul_of_nonneg_left (by omega) (by omega)
    omega
   ·exact h'
   ·omega
  ·exact .inl h
  ·have:m * 1≤m * q:=Int.mul_le_mul_of_nonneg_left (by omega) (by omega)
   omega
 rcases hq2 with rfl | rfl
 ·rw [if_neg (by omega)];omega
 ·rw [if_pos (by omega),Au (by omega) (by omega)];omega
theorem Ar {n:Nat} (hn:0<n) (x:Int) {m:Int} (h1:0<m) (h2:m≤4611686018427387904):BM (SS dt n 43 [iv x,iv m] ⟨[],[]⟩) (.int .i64 (x % m)):=by
 obtain ⟨n,rfl⟩:=Nat.exists_eq_add_of_lt hn;rw [Nat.zero_add,c43];simp only [S43,↓XX,XY,↓reduceIte,Nat.reduceBEq,Nat.reduceAdd,Int.reduceEq,Int.reduceLT,Int.reduceLE,↓Ps (show m≠0 by omega)]
 rw [← AlK h1 h2];by_cases hc:x.tmod m<0<;>simp only [hc,if_true,if_false]<;>exact Ao _ _
theorem D3 {n:Nat} (hn:0<n) (op:Int):BM (SS dt n 24 [iv op,.fv (.sl [])] ⟨[],[]⟩) (Tm.mk op 0 []).enc:=by
 obtain ⟨n,rfl⟩:=Nat.exists_eq_add_of_lt hn;rw [Nat.zero_add,c24];simp only [S24,↓XX,XY,↓reduceIte,Nat.reduceBEq,Nat.reduceAdd,Int.reduceEq,Int.reduceLT,Int.reduceLE];exact Ao _ _
theorem C4 {n:Nat} (hn:0<n) (op:Int) (l:List Tm):BM (SS dt n 24 [iv op,.fv (.sl (l.map Tm.enc))] ⟨[],[]⟩) (Tm.mk op 0 l).enc:=by
 obtain ⟨n,rfl⟩:=Nat.exists_eq_add_of_lt hn;rw [Nat.zero_add,c24];simp only [S24,↓XX,XY,↓reduceIte,Nat.reduceBEq,Nat.reduceAdd,Int.reduceEq,Int.reduceLT,Int.reduceLE,Ag];exact Ao _ _
def Tm.kids:Tm→List Tm
 | .mk _ _ l=>l
def Tm.op:Tm→Int
 | .mk o _ _=>o
def Tm.n:Tm→Int
 | .mk _ n _=>n
def Tm.pick (r:Tm) (i:Nat):Tm:=match r.kids[i]? with
 | some k=>k
 | none=>.mk (w64 (w64 (r.op.tdiv 3)+i)) (w64 (w64 (r.n.tdiv 5)+w64 (7 * i))) []
theorem AM {n:Nat} (hn:0<n) (r:Tm) (i:Nat):BM (SS dt n 46 [.fv r.enc,iv i] ⟨[],[]⟩) (r.pick i).enc:=by
 obtain ⟨n,rfl⟩:=Nat.exists_eq_add_of_lt hn;rw [Nat.zero_add,c46];obtain ⟨op,m,ks⟩:=r;rw [Ag];simp only [Tm.pick,Tm.kids,Tm.op,Tm.n];cases hk:ks[i]? with
 | some k =>
  have hi:(i:Int)<ks.length:=by have:=(List.getElem?_eq_some_iff.1 hk).1;omega
  obtain ⟨o,p,l⟩:=k;simp only [Vc,UL,Vk,Wl,S46,↓XX,XY,↓reduceIte,Nat.reduceBEq,Nat.reduceAdd,Int.reduceEq,Int.reduceLT,Int.reduceLE,hi,↓Bs (AN hk) (Ba _ _ _),↓B8,Ag];exact Ao _ _
 | none =>
  have hi:¬ (i:Int)<ks.length:=by have:=List.getElem?_eq_none_iff.1 hk;omega
  simp only [Vc,UL,Vk,Wl,S46,↓XX,XY,↓reduceIte,Nat.reduceBEq,Nat.reduceAdd,Int.reduceEq,Int.reduceLT,Int.reduceLE,hi,↓Aek (show (3:Int)≠0 by decide),↓Aek (show (5:Int)≠0 by decide)]
  exact Bf rfl _
section
variable {β:Type}
def Cb (s:Nat):IV→Bool
 | .ptr (.own j) _=>s == j
 | .slc (.own j) _ _=>s == j
 | .app (.own j) _=>s == j
 | .mapr (.own j)=>s == j
 | _=>false
def Fs:IV→Bool
 | .agg _ | .tuple _ | .func ..=>false
 | _=>true
def Fm (s:Nat):Blk→Bool
 | .row cells _=>cells.any (Cb s)
 | _=>false
def Tu:Blk→Bool
 | .row cells _=>cells.all Fs
 | .tok ..=>true
 | .map _=>false
theorem Ac7 {v:IV} (h:Fs v=true) (s:Nat):(Ref.own s∈v.refs) ↔ Cb s v=true:=by
 cases v with
 | ptr r o=>cases r<;>simp [IV.refs,Cb]
 | slc r a b=>cases r<;>simp [IV.refs,Cb]
 | app r es=>cases r<;>simp [IV.refs,Cb]
 | mapr r=>cases r<;>simp [IV.refs,Cb]
 | agg _=>cases h
 | tuple _=>cases h
 | func _ _ _=>cases h
 | _=>simp [IV.refs,Cb]
theorem Jh:∀{l:List IV},l.all Fs=true→∀s,(Ref.own s∈IV.refs.refsL l) ↔ l.any (Cb s)=true
 | [],_,s=>by simp [IV.refs.refsL]
 | v::l,h,s=>by
  rw [List.all_cons,Bool.and_eq_true] at h;rw [IV.refs.refsL,List.mem_append,List.any_cons,Bool.or_eq_true,Ac7 h.1,Jh h.2]
theorem Eg {b:Blk} (h:Tu b=true) (s:Nat):(Ref.own s∈b.refs) ↔ Fm s b=true:=by
 cases b with
 | row cells ro=>exact Jh h s
 | tok n sz=>simp [Blk.refs,Fm]
 | map es=>cases h
theorem Iv (s:Nat):∀l:List Ref,anyIn [s] l=true ↔ Ref.own s∈l
 | []=>by simp [anyIn]
 | .own k::l=>by
  rw [anyIn,Bool.or_eq_true,Iv s l,List.mem_cons];simp [eq_comm]
 | .ext k::l=>by
  rw [anyIn,Iv s l,List.mem_cons];simp
def heldB (rm:List Nat) (vals:List IV) (own:List (Nat×Blk)) (ext:List Blk) (s:Nat):Bool :=
 vals.any (Cb s) || (own.any (fun p=>!rm.contains p.1 && Fm s p.2) || ext.any (Fm s))
def I5 (rm:List Nat) (vals:List IV) (own:List (Nat×Blk)) (ext:List Blk):List (Nat×Blk):=own.filter fun p=>!rm.contains p.1 || heldB rm vals own ext p.1
def AO (rm:List Nat) (vals:List IV) (own:List (Nat×Blk)) (ext:List Blk):Bool :=
 vals.all Fs && (own.all (fun p=>Tu p.2) && (ext.all Tu && own.all fun p=>!rm.contains p.1 || rm.all fun s=>!Fm s p.2))
theorem T9 {rm:List Nat} {vals:List IV} {own:List (Nat×Blk)} {ext:List Blk} (hf:AO rm vals own ext=true) (s:Nat) :
  Ref.own s∈IV.refs.refsL vals++(own.filter fun p=>!rm.contains p.1).flatMap (fun p=>p.2.refs)++ext.flatMap Blk.refs ↔ heldB rm vals own ext s=true:=by
 simp only [AO,Bool.and_eq_true] at hf;obtain ⟨h1,h2,h3,_⟩:=hf;have e1:Ref.own s∈(own.filter fun p=>!rm.contains p.1).flatMap (fun p=>p.2.refs) ↔ (own.any fun p=>!rm.contains p.1 && Fm s p.2)=true:=by
  rw [List.mem_flatMap,List.any_eq_true];constructor
  ·rintro ⟨p,hp,hr⟩;obtain ⟨hp1,hp2⟩:=List.mem_filter.1 hp;exact ⟨p,hp1,by rw [hp2,(Eg (List.all_eq_true.1 h2 p hp1) s).1 hr];rfl⟩
  ·rintro ⟨p,hp,hr⟩;rw [Bool.and_eq_true] at hr;exact ⟨p,List.mem_filter.2 ⟨hp,hr.1⟩,(Eg (List.all_eq_true.1 h2 p hp) s).2 hr.2⟩
 have e2:Ref.own s∈ext.flatMap Blk.refs ↔ ext.any (Fm s)=true:=by
  rw [List.mem_flatMap,List.any_eq_true];constructor
  ·rintro ⟨p,hp,hr⟩;exact ⟨p,hp,(Eg (List.all_eq_true.1 h3 p hp) s).1 hr⟩
  ·rintro ⟨p,hp,hr⟩;exact ⟨p,hp,(Eg (List.all_eq_true.1 h3 p hp) s).2 hr⟩
 rw [List.mem_append,List.mem_append,Jh h1,e1,e2,heldB,Bool.or_eq_true,Bool.or_eq_true,or_assoc]
theorem AG {base rm:List Nat} {vals:List IV} {own:List (Nat×Blk)} {ext:List Blk} (hb:rm.any base.contains=false) (hf:AO rm vals own ext=true) (k:Hp→Option β) :
  Bg base rm vals ⟨own,ext⟩ k=k ⟨I5 rm vals own ext,ext⟩:=by
 have hm:=T9 hf;have hf0:=hf;simp only [AO,Bool.and_eq_true] at hf0;obtain ⟨g1,g2,g3,g4⟩:=hf0;unfold Bg;rw [hb];simp only [cond_false];rw [ML];cases ha:(own.all fun p=>!rm.contains p.1) with
 | true =>
  simp only [Bool.not_true,cond_false];congr 2
  symm
  apply List.filter_eq_self.2;intro p hp;rw [List.all_eq_true.1 ha p hp];rfl
 | false =>
  simp only [Bool.not_false,cond_true];have slow:(match Cv base [] rm ⟨vals,⟨own,ext⟩⟩ with | none=>none | some S=>fH S.hp k)=k ⟨I5 rm vals own ext,ext⟩:=by
   have hgone:(rm.filter fun k=>!anyIn [k] (IV.refs.refsL vals++(own.filter fun p=>!rm.contains p.1).flatMap (fun p=>p.2.refs)++ext.flatMap Blk.refs))=rm.filter fun s=>!heldB rm vals own ext s:=by
    apply List.filter_congr;intro s _;congr 1;exact Bool.eq_iff_iff.2 ((Iv s _).trans (hm s))
   have hown:(own.filter fun p=>!(rm.filter fun s=>!heldB rm vals own ext s).contains p.1)=I5 rm vals own ext:=by
    apply List.filter_congr;intro p _;rw [Bool.eq_iff_iff];simp only [Bool.not_eq_true',Bool.or_eq_true,List.contains_eq_mem,decide_eq_false_iff_not,List.mem_filter];constructor
    ·intro h;by_cases h1:p.1∈rm
     ·right;cases hh:heldB rm vals own ext p.1 with
      | true=>rfl
      | false=>exact absurd ⟨h1,hh⟩ h
     ·exact .inl h1
    ·rintro (h | h) ⟨h1,h2⟩
     ·exact h h1
     ·rw [h] at h2;exact absurd h2 (by simp)
   simp only [Cv,hb,Bool.false_eq_true,if_false,AX,ha,hgone,hown];have hnone:anyIn (rm.filter fun s=>!heldB rm vals own ext s) (CN ⟨vals,⟨I5 rm vals own ext,ext⟩⟩)=false:=by
    apply Eb;intro s hs hmem;obtain ⟨hs1,hs2⟩:=List.mem_filter.1 hs;have hs2:heldB rm vals own ext s=false:=by simpa using hs2
    simp only [CN,List.mem_append] at hmem;rcases hmem with (hmem | hmem) | hmem
    ·have:=(hm s).1 (List.mem_append_left _ (List.mem_append_left _ hmem))
     rw [this] at hs2;cases hs2
    ·obtain ⟨p,hp,hr⟩:=List.mem_flatMap.1 hmem;have hp1:=(List.mem_filter.1 hp).1;have hn:=(Eg (List.all_eq_true.1 g2 p hp1) s).1 hr;have h4:=List.all_eq_true.1 g4 p hp1;cases hc:rm.contains p.1 with
     | true =>
      rw [hc] at h4;have h4:(rm.all fun s=>!Fm s p.2)=true:=h4;have h5:=List.all_eq_true.1 h4 s hs1;rw [hn] at h5;cases h5
     | false =>
      have:=(hm s).1 (List.mem_append_left _ (List.mem_append_right _ (List.mem_flatMap.2 ⟨p,List.mem_filter.2 ⟨hp1,by rw [hc];rfl⟩,hr⟩)))
      rw [this] at hs2;cases hs2
    ·have:=(hm s).1 (List.mem_append_right _ hmem)
     rw [this] at hs2;cases hs2
   simp only [hnone,Bool.false_eq_true,if_false,OS]
  cases hff:(and (Fy rm (Ct vals [])) (and (Hq rm own) (Jb rm ext))) with
  | false=>exact slow
  | true =>
   have hff:(Fy rm (Ct vals []) && (Hq rm own && Jb rm ext))=true:=hff;simp only [Bool.and_eq_true] at hff;simp only [HG,cond_true];congr 2;apply List.filter_congr;intro p hp;cases hc:rm.contains p.1 with
   | false=>rfl
   | true =>
    have h1:=FE hff.1;rw [refsDL_eq,List.append_nil] at h1;have h2:=HI hff.2.1;have h3:=Oa hff.2.2
    have:heldB rm vals own ext p.1=false:=by
     cases hh:heldB rm vals own ext p.1 with
     | false=>rfl
     | true =>
      have:=(hm p.1).2 hh
      have hpm:p.1∈rm:=List.contains_iff_mem.1 hc;rcases List.mem_append.1 this with h | h
      ·rcases List.mem_append.1 h with h | h
       ·exact absurd h (h1 _ hpm)
       ·exact absurd h (h2 _ hpm)
      ·exact absurd h (h3 _ hpm)
    rw [this];rfl
end
section
variable (s j:Nat)
theorem Aq9 (rm:List Nat) (vals:List IV) (own:List (Nat×Blk)) (ext:List Blk):I5 rm vals own ext=own.filter fun p=>!rm.contains p.1 || heldB rm vals own ext p.1:=rfl
theorem nv1 (o:Nat):Cb s (.ptr (.own j) o)=(s == j):=rfl
theorem nv2 (a b:Nat):Cb s (.slc (.own j) a b)=(s == j):=rfl
theorem nv3 (es:List FV):Cb s (.app (.own j) es)=(s == j):=rfl
theorem nv4 (v:FV):Cb s (.fv v)=false:=rfl
theorem nv5:Cb s .nils=false:=rfl
theorem nv6 (es:List FV):Cb s (.clip es)=false:=rfl
theorem nv7 (o:Nat):Cb s (.ptr (.ext j) o)=false:=rfl
theorem nv8:Cb s .dead=false:=rfl
theorem nb1 (cs:List IV) (ro:Bool):Fm s (.row cs ro)=cs.any (Cb s):=rfl
theorem nb2 (a b:Nat):Fm s (.tok a b)=false:=rfl
theorem ArG (r:Ref) (o:Nat):Fs (.ptr r o)=true:=rfl
theorem ArR (r:Ref) (a b:Nat):Fs (.slc r a b)=true:=rfl
theorem Aro (r:Ref) (es:List FV):Fs (.app r es)=true:=rfl
theorem Ark (v:FV):Fs (.fv v)=true:=rfl
theorem AqY:Fs .nils=true:=rfl
theorem Arr (es:List FV):Fs (.clip es)=true:=rfl
theorem Ari:Fs .dead=true:=rfl
theorem AqX (cs:List IV) (ro:Bool):Tu (.row cs ro)=cs.all Fs:=rfl
theorem fb_2 (a b:Nat):Tu (.tok a b)=true:=rfl
end
def XD:=Aul @Aq9<|Aul @nv1<|Aul @nv2<|Aul @nv3<|Aul @nv4<|Aul @nv5<|Aul @nv6<|Aul @nv7<|Aul @nv8<|Aul @nb1<|Aul @nb2<|Aul @ArG<|Aul @ArR<|Aul @Aro<|Aul @Ark<|Aul @AqY<|Aul @Arr<|Aul @Ari<|Aul @AqX<|@fb_2
end Idl
end Go.Proofs.Ytaifgaidaglblaa
namespace Go.Proofs.Ytaifgaidaglblaa
namespace Idl
def Ah (op:Int) (i:Nat):Nat :=
 if op=3∨op=4∨op=6∨op=20∨op=28∨op=29 then (if i=1 then 1 else 0) else if op=13 then (if i=0 then 1 else if i=2 then 2 else 0) else 0
theorem AV (op:Int) (i:Nat):Ah op i≤2:=by
 unfold Ah
 repeat' split
 all_goals omega
theorem FA {n:Nat} (hn:0<n) (op:Int) (i:Nat):BM (SS dt n 51 [iv op,iv i] ⟨[],[]⟩) (.int .i64 (Ah op i)):=by
 obtain ⟨n,rfl⟩:∃k,n=k+1:=⟨n - 1,by omega⟩;rw [c51];unfold Ah;by_cases h:op=3∨op=4∨op=6∨op=20∨op=28∨op=29
 ·rw [if_pos h];by_cases hi:i=1
  ·subst hi;rcases h with rfl | rfl | rfl | rfl | rfl | rfl<;>(simp only [↓UU3,↓XX,XY,↓reduceIte,Nat.reduceBEq,Nat.reduceAdd,Int.reduceEq,Int.reduceLT,Int.reduceLE];exact Ao _ _)
  ·have hi':¬ (i:Int)=1:=by omega
   rcases h with rfl | rfl | rfl | rfl | rfl | rfl<;>(simp only [↓UU3,↓XX,XY,↓reduceIte,Nat.reduceBEq,Nat.reduceAdd,Int.reduceEq,Int.reduceLT,Int.reduceLE,hi',hi];exact Ao _ _)
 ·rw [if_neg h];have h3:¬ op=3:=fun e=>h (by simp [e]);have h4:¬ op=4:=fun e=>h (by simp [e]);have h6:¬ op=6:=fun e=>h (by simp [e]);have h20:¬ op=20:=fun e=>h (by simp [e]);have h28:¬ op=28:=fun e=>h (by simp [e]);have h29:¬ op=29:=fun e=>h (by simp [e]);by_cases h13:op=13
  ·subst h13;by_cases hi:i=0
   ·subst hi;simp only [↓UU3,↓XX,XY,↓reduceIte,Nat.reduceBEq,Nat.reduceAdd,Int.reduceEq,Int.reduceLT,Int.reduceLE];exact Ao _ _
   ·have hi':¬ (i:Int)=0:=by omega
    by_cases hj:i=2
    ·subst hj;simp only [↓UU3,↓XX,XY,↓reduceIte,Nat.reduceBEq,Nat.reduceAdd,Int.reduceEq,Int.reduceLT,Int.reduceLE];exact Ao _ _
    ·have hj':¬ (i:Int)=2:=by omega
     simp only [↓UU3,↓XX,XY,↓reduceIte,Nat.reduceBEq,Nat.reduceAdd,Int.reduceEq,Int.reduceLT,Int.reduceLE,hi,hi',hj,hj'];exact Ao _ _
  ·simp only [↓UU3,↓XX,XY,↓reduceIte,Nat.reduceBEq,Nat.reduceAdd,Int.reduceEq,Int.reduceLT,Int.reduceLE,h3,h4,h6,h20,h28,h29,h13];exact Ao _ _
theorem Amu {n:Nat} (hn:0<n) (x:Int):BM (SS dt n 26 [iv x] ⟨[],[]⟩) (Tm.mk 1 x []).enc:=by
 obtain ⟨n,rfl⟩:∃k,n=k+1:=⟨n - 1,by omega⟩;rw [c26];simp only [S26,↓XX,XY,↓reduceIte,Nat.reduceBEq,Nat.reduceAdd,Int.reduceEq,Int.reduceLT,Int.reduceLE];exact Bf rfl _
theorem AfQ {n:Nat} (hn:0<n) (x:Int):BM (SS dt n 45 [iv x] ⟨[],[]⟩) (Tm.mk 2 x []).enc:=by
 obtain ⟨n,rfl⟩:∃k,n=k+1:=⟨n - 1,by omega⟩;rw [c45];simp only [S45,↓XX,XY,↓reduceIte,Nat.reduceBEq,Nat.reduceAdd,Int.reduceEq,Int.reduceLT,Int.reduceLE];exact Bf rfl _
theorem AgD {n:Nat} (hn:0<n) (x:Int):BM (SS dt n 36 [iv x] ⟨[],[]⟩) (Tm.mk 25 x []).enc:=by
 obtain ⟨n,rfl⟩:∃k,n=k+1:=⟨n - 1,by omega⟩;rw [c36];simp only [S36,↓XX,XY,↓reduceIte,Nat.reduceBEq,Nat.reduceAdd,Int.reduceEq,Int.reduceLT,Int.reduceLE];exact Bf rfl _
mutual
/-- No more than four kids anywhere. -/
def Tm.wk:Tm→Prop
 | .mk _ _ ks=>ks.length≤4∧Tm.wkL ks
def Tm.wkL:List Tm→Prop
 | []=>True
 | t::l=>t.wk∧Tm.wkL l
end
theorem L4 {t:Tm}:∀{l:List Tm},Tm.wkL l→t∈l→t.wk
 | a::l,h,hm=>by
  rw [Tm.wkL] at h;rcases List.mem_cons.1 hm with rfl | hm
  ·exact h.1
  ·exact L4 h.2 hm
mutual
def Tm.shift:Tm→Int→Int→Tm
 | .mk op n ks,d,c=>.mk op (if op=1∧c≤n then w64 (n+d) else n) (Tm.shiftL op 0 ks d c)
def Tm.shiftL:Int→Nat→List Tm→Int→Int→List Tm
 | _,_,[],_,_=>[]
 | op,i,t::l,d,c=>t.shift d (c+Ah op i)::Tm.shiftL op (i+1) l d c
end
theorem Ef (op:Int) (d c:Int):∀(l:List Tm) (i:Nat),(Tm.shiftL op i l d c).length=l.length
 | [],_=>rfl
 | _::l,i=>by simp only [Tm.shiftL,Auq,Ef op d c l]
theorem ON (op d c:Int):∀(l l':List Tm) (i:Nat),Tm.shiftL op i (l++l') d c=Tm.shiftL op i l d c++Tm.shiftL op (i+l.length) l' d c
 | [],l',i=>by simp [Tm.shiftL]
 | t::l,l',i=>by simp only [List.cons_append,Tm.shiftL,ON op d c l l',Auq];congr 3;omega
theorem DD:∀(n:Nat) (t:Tm) (d c:Int),t.wt+1<n→t.wk→0≤c→c+2 * t.wt≤4611686018427387904→BM (SS dt n 25 [.fv t.enc,iv d,iv c] ⟨[],[]⟩) (t.shift d c).enc:=by
 intro n
 induction n with
 | zero=>intro t d c h;omega
 | succ n ih =>
  intro t d c h hw hc0 hc;obtain ⟨op,m,ks⟩:=t;simp only [Tm.wt] at h hc;rw [Tm.wk] at hw;rw [c25,Ag];have hlen:=DN ks;have main:∀m',m'=(if op=1∧c≤m then w64 (m+d) else m) →
    BM (BE n (fun q28 l29 h30=>H3 l29 h30 (SS dt n) ⟨[],[]⟩ q28) [iv d,iv c,.ptr (.own 26214400) 0,.ptr (.own 26214401) 0,.ptr (.own 26215429) 0,iv 0]
     ⟨[(26214400,.row [iv op,iv m,.fv (.sl (ks.map Tm.enc))] false),(26214401,.row [iv 0,iv 0,.nils] false),(26215429,.row [iv op,iv m',.nils] false)],[]⟩) ((Tm.mk op m ks).shift d c).enc:=by
   intro m' hm';refine A7 (Q:=fun r=>BM r _) (fun k V H=>∃pre rest,ks=pre++rest∧rest.length=k∧V=[iv d,iv c,.ptr (.own 26214400) 0,.ptr (.own 26214401) 0,.ptr (.own 26215429) 0,iv pre.length] ∧
    (
     (pre=[]∧H=⟨[(26214400,.row [iv op,iv m,.fv (.sl (ks.map Tm.enc))] false),(26214401,.row [iv 0,iv 0,.nils] false),(26215429,.row [iv op,iv m',.nils] false)],[]⟩) ∨
     (pre≠[]∧H=⟨[(26214400,.row [iv op,iv m,.fv (.sl (ks.map Tm.enc))] false),(26214401,.row [iv 0,iv 0,.nils] false),(26215429,.row [iv op,iv m',.app (.own 26221584) ((Tm.shiftL op 0 pre d c).map Tm.enc)] false),(26221584,.tok (Tm.shiftL op 0 pre d c).length 3)],[]⟩)))
    ?_ n ks.length _ _ (by omega) ⟨[],ks,rfl,rfl,rfl,.inl ⟨rfl,rfl⟩⟩
   rintro k V H rec ⟨pre,rest,hk,hl,rfl,hH⟩ hrec;have hkl:ks.length=pre.length+rest.length:=by rw [hk];simp
   cases rest with
   | nil =>
    have hno:¬ ((pre.length:Int)<ks.length):=by rw [hkl];simp
    have hpre:ks=pre:=by simpa using hk
    rcases hH with ⟨rfl,rfl⟩ | ⟨_,rfl⟩
    ·subst hpre;simp only [Gj,Gg,Gh,FZ,F7,FU,Gm,FQ,H3,F4,FY,FX,Ga,F8,S25,↓XX,XY,↓reduceIte,Nat.reduceBEq,Nat.reduceAdd,Int.reduceEq,Int.reduceLT,Int.reduceLE,Int.lt_irrefl,Tm.shift,Tm.shiftL,← hm',Ag];exact Bf rfl _
    ·subst hpre;simp only [Gj,Gg,Gh,FZ,F7,FU,Gm,FQ,H3,F4,FY,FX,Ga,F8,S25,↓XX,XY,↓reduceIte,Nat.reduceBEq,Nat.reduceAdd,Int.reduceEq,Int.reduceLT,Int.reduceLE,Int.lt_irrefl,Tm.shift,← hm',Ag];exact Bf rfl _
   | cons t rest =>
    have hi:(pre.length:Int)<ks.length:=by rw [hkl];simp;omega
    have hg:=Cc hk;have htw:=BY (t:=t) (l:=ks) (by rw [hk];simp);have hb:=FA (n:=n) (by omega) op pre.length;have hble:=AV op pre.length;have hs:=ih t d (c+Ah op pre.length) (by omega) (L4 hw.2 (by rw [hk];simp)) (by omega) (by omega);have hx:Tm.shiftL op 0 (pre++[t]) d c=Tm.shiftL op 0 pre d c++[t.shift d (c+Ah op pre.length)]:=by
     rw [ON];simp [Tm.shiftL]
    have hwc:w64 (c+Ah op pre.length)=c+Ah op pre.length:=by rw [Au]<;>omega
    have hwi:w64 ((pre.length:Int)+1)=((pre++[t]).length:Int):=(Au (by omega) (by omega)).trans (by simp);generalize hu:t.shift d (c+Ah op pre.length)=u at hs hx;obtain ⟨o,p,l⟩:=t;simp only [Auq] at hl;rw [Ag] at hs;rcases hH with ⟨hp0,rfl⟩ | ⟨hne,rfl⟩
    ·simp only [Gj,Gg,Gh,FZ,F7,FU,Gm,FQ,H3,F4,FY,FX,Ga,F8,S25,↓XX,XY,↓reduceIte,Nat.reduceBEq,Nat.reduceAdd,Int.reduceEq,Int.reduceLT,Int.reduceLE,hi,↓Bs (AN hg) (Ba _ _ _),↓B8,↓Af hb,hwc,hwi,↓A0 hs,↓Jq,↓QB,↓AG,XD,heldB,AO,XE];refine hrec rest.length _ _ (by omega) ?_;refine ⟨pre++[.mk o p l],rest,by rw [hk];simp,rfl,rfl,.inr ⟨by simp,?_⟩⟩;rw [hx,hp0];rfl
    ·have hle:(Tm.shiftL op 0 pre d c).length+1≤1000000:=by rw [Ef];omega
     have hq:(Tm.shiftL op 0 pre d c).length=pre.length:=Ef ..;simp only [Gj,Gg,Gh,FZ,F7,FU,Gm,FQ,H3,F4,FY,FX,Ga,F8,S25,↓XX,XY,↓reduceIte,Nat.reduceBEq,Nat.reduceAdd,Int.reduceEq,Int.reduceLT,Int.reduceLE,hi,↓Bs (AN hg) (Ba _ _ _),↓B8,↓Af hb,hwc,hwi,↓A0 hs,↓Jq,↓MZ hle,↓HC,↓AG,XD,heldB,AO,XE];refine hrec rest.length _ _ (by omega) ?_;refine ⟨pre++[.mk o p l],rest,by rw [hk];simp,rfl,rfl,.inr ⟨by simp,?_⟩⟩;rw [hx];simp only [List.length_append,Auq,List.length_nil]
  by_cases h1:op=1
  ·by_cases h2:c≤m
   ·subst h1;simp only [Gj,Gg,Gh,FZ,F7,FU,Gm,FQ,F4,FY,FX,Ga,F8,S25,↓XX,XY,↓reduceIte,Nat.reduceBEq,Nat.reduceAdd,Int.reduceEq,Int.reduceLT,Int.reduceLE,h2,↓AG,XD,heldB,AO,XE];exact main _ (by simp [h2])
   ·subst h1;simp only [Gj,Gg,Gh,FZ,F7,FU,Gm,FQ,F4,FY,FX,Ga,F8,S25,↓XX,XY,↓reduceIte,Nat.reduceBEq,Nat.reduceAdd,Int.reduceEq,Int.reduceLT,Int.reduceLE,h2,↓AG,XD,heldB,AO,XE];exact main _ (by simp [h2])
  ·simp only [Gj,Gg,Gh,FZ,F7,FU,Gm,FQ,F4,FY,FX,Ga,F8,S25,↓XX,XY,↓reduceIte,Nat.reduceBEq,Nat.reduceAdd,Int.reduceEq,Int.reduceLT,Int.reduceLE,h1,↓AG,XD,heldB,AO,XE];exact main _ (by simp [h1])
mutual
def Tm.subst:Tm→Int→Int→Tm→Tm
 | .mk op m ks,n,d,u=>if op=1 then (if m=n then u.shift d 0 else if n<m then .mk 1 (w64 (m - 1)) [] else .mk op m ks) else .mk op m (Tm.substL op 0 ks n d u)
def Tm.substL:Int→Nat→List Tm→Int→Int→Tm→List Tm
 | _,_,[],_,_,_=>[]
 | op,i,t::l,n,d,u=>t.subst (n+Ah op i) (d+Ah op i) u::Tm.substL op (i+1) l n d u
end
theorem G3 (op n d:Int) (u:Tm):∀(l:List Tm) (i:Nat),(Tm.substL op i l n d u).length=l.length
 | [],_=>rfl
 | _::l,i=>by simp only [Tm.substL,Auq,G3 op n d u l]
theorem Ou (op n d:Int) (u:Tm):∀(l l':List Tm) (i:Nat),Tm.substL op i (l++l') n d u=Tm.substL op i l n d u++Tm.substL op (i+l.length) l' n d u
 | [],l',i=>by simp [Tm.substL]
 | t::l,l',i=>by simp only [List.cons_append,Tm.substL,Ou op n d u l l',Auq];congr 3;omega
theorem AgV (u:Tm) (hu:u.wk) (huw:u.wt≤1152921504606846976):∀(n:Nat) (t:Tm) (c d:Int),t.wt+u.wt+3<n→t.wk→-1000000000≤c→c+2 * t.wt≤461168601842738→0≤d→d+2 * t.wt≤461168601842738 →
  BM (SS dt n 60 [.fv t.enc,iv c,iv d,.fv u.enc] ⟨[],[]⟩) (t.subst c d u).enc:=by
 intro n
 induction n with
 | zero=>intro t c d h;omega
 | succ n ih =>
  intro t c d h hw hc0 hc hd0 hd;obtain ⟨op,m,ks⟩:=t;simp only [Tm.wt] at h hc hd;rw [Tm.wk] at hw;rw [c60,Ag];have hlen:=DN ks;by_cases h1:op=1
  ·subst h1;have hsh:=DD n u d 0 (by omega) hu (by omega) (by omega);rw [Tm.subst,if_pos rfl];generalize u.shift d 0=z at hsh ⊢;obtain ⟨uo,un,uk⟩:=u;obtain ⟨zo,zn,zk⟩:=z;rw [Ag] at hsh ⊢;by_cases h2:m=c
   ·subst h2;simp only [↓UU2,↓XX,XY,↓reduceIte,Nat.reduceBEq,Nat.reduceAdd,Int.reduceEq,Int.reduceLT,Int.reduceLE,↓A0 hsh];simp only [↓UU2,↓XX,XY,↓reduceIte,Nat.reduceBEq,Nat.reduceAdd,Int.reduceEq,Int.reduceLT,Int.reduceLE,Ag];exact Bf rfl _
   ·by_cases h3:c<m
    ·simp only [↓UU2,↓XX,XY,↓reduceIte,Nat.reduceBEq,Nat.reduceAdd,Int.reduceEq,Int.reduceLT,Int.reduceLE,h2,h3,Ag];exact Bf rfl _
    ·simp only [↓UU2,↓XX,XY,↓reduceIte,Nat.reduceBEq,Nat.reduceAdd,Int.reduceEq,Int.reduceLT,Int.reduceLE,h2,h3,Ag];exact Bf rfl _
  ·have main :
    BM (BE n (fun q l h=>IZ l h (SS dt n) ⟨[],[]⟩ q) [iv c,iv d,.ptr (.own 62914560) 0,.ptr (.own 62914561) 0,.ptr (.own 62914562) 0,.ptr (.own 62921733) 0,iv 0]
     ⟨[(62914560,.row [iv op,iv m,.fv (.sl (ks.map Tm.enc))] false),(62914561,.row [iv u.op,iv u.n,.fv (.sl (u.kids.map Tm.enc))] false),(62914562,.row [iv 0,iv 0,.nils] false),(62921733,.row [iv op,iv m,.nils] false)],[]⟩)
      (Tm.mk op m (Tm.substL op 0 ks c d u)).enc:=by
    refine A7 (Q:=fun r=>BM r _) (fun k V H=>∃pre rest,ks=pre++rest∧rest.length=k∧V=[iv c,iv d,.ptr (.own 62914560) 0,.ptr (.own 62914561) 0,.ptr (.own 62914562) 0,.ptr (.own 62921733) 0,iv pre.length] ∧
     (
      (pre=[]∧H=⟨[(62914560,.row [iv op,iv m,.fv (.sl (ks.map Tm.enc))] false),(62914561,.row [iv u.op,iv u.n,.fv (.sl (u.kids.map Tm.enc))] false),(62914562,.row [iv 0,iv 0,.nils] false),(62921733,.row [iv op,iv m,.nils] false)],[]⟩) ∨
      (
      pre≠[]∧H=⟨[(62914560,.row [iv op,iv m,.fv (.sl (ks.map Tm.enc))] false),(62914561,.row [iv u.op,iv u.n,.fv (.sl (u.kids.map Tm.enc))] false),(62914562,.row [iv 0,iv 0,.nils] false),
      (62921733,.row [iv op,iv m,.app (.own 62926864) ((Tm.substL op 0 pre c d u).map Tm.enc)] false),(62926864,.tok (Tm.substL op 0 pre c d u).length 3)],[]⟩)))
     ?_ n ks.length _ _ (by omega) ⟨[],ks,rfl,rfl,rfl,.inl ⟨rfl,rfl⟩⟩
    rintro k V H rec ⟨pre,rest,hk,hl,rfl,hH⟩ hrec;have hkl:ks.length=pre.length+rest.length:=by rw [hk];simp
    cases rest with
    | nil =>
     have hno:¬ ((pre.length:Int)<ks.length):=by rw [hkl];simp
     have hpre:ks=pre:=by simpa using hk
     rcases hH with ⟨rfl,rfl⟩ | ⟨_,rfl⟩
     ·subst hpre;simp only [Ig,IC,Iw,Ih,H9,It,IN,HM,IX,IJ,IT,IQ,Ip,IZ,Ie,IA,Ik,S60,↓XX,XY,↓reduceIte,Nat.reduceBEq,Nat.reduceAdd,Int.reduceEq,Int.reduceLT,Int.reduceLE,Int.lt_irrefl,Tm.substL,Ag];exact Bf rfl _
     ·subst hpre;simp only [Ig,IC,Iw,Ih,H9,It,IN,HM,IX,IJ,IT,IQ,Ip,IZ,Ie,IA,Ik,S60,↓XX,XY,↓reduceIte,Nat.reduceBEq,Nat.reduceAdd,Int.reduceEq,Int.reduceLT,Int.reduceLE,Int.lt_irrefl,Ag];exact Bf rfl _
    | cons t rest =>
     have hi:(pre.length:Int)<ks.length:=by rw [hkl];simp;omega
     have hg:=Cc hk;have htw:=BY (t:=t) (l:=ks) (by rw [hk];simp);have hb:=FA (n:=n) (by omega) op pre.length;have hble:=AV op pre.length;have hs:=ih t (c+Ah op pre.length) (d+Ah op pre.length) (by omega) (L4 hw.2 (by rw [hk];simp)) (by omega) (by omega) (by omega) (by omega);have hx:Tm.substL op 0 (pre++[t]) c d u=Tm.substL op 0 pre c d u++[t.subst (c+Ah op pre.length) (d+Ah op pre.length) u]:=by
      rw [Ou];simp [Tm.substL]
     have hwc:w64 (c+Ah op pre.length)=c+Ah op pre.length:=by rw [Au]<;>omega
     have hwd:w64 (d+Ah op pre.length)=d+Ah op pre.length:=by rw [Au]<;>omega
     have hwi:w64 ((pre.length:Int)+1)=((pre++[t]).length:Int):=(Au (by omega) (by omega)).trans (by simp);generalize hv:t.subst (c+Ah op pre.length) (d+Ah op pre.length) u=v at hs hx;obtain ⟨o,p,l⟩:=t;simp only [Auq] at hl;have hue:u.enc=.agg [.int .i64 u.op,.int .i64 u.n,.sl (u.kids.map Tm.enc)]:=by cases u;exact Ag ..
     rw [Ag,hue] at hs;rcases hH with ⟨hp0,rfl⟩ | ⟨hne,rfl⟩
     ·simp only [Ig,IC,Iw,Ih,H9,It,IN,HM,IX,IJ,IT,IQ,Ip,IZ,Ie,IA,Ik,S60,↓XX,XY,↓reduceIte,Nat.reduceBEq,Nat.reduceAdd,Int.reduceEq,Int.reduceLT,Int.reduceLE,hi,↓Bs (AN hg) (Ba _ _ _),↓B8,↓Af hb,hwc,hwd,hwi,↓AD hs,↓Jq,↓QB,↓AG,XD,heldB,AO,XE];refine hrec rest.length _ _ (by omega) ?_;refine ⟨pre++[.mk o p l],rest,by rw [hk];simp,rfl,rfl,.inr ⟨by simp,?_⟩⟩;rw [hx,hp0];rfl
     ·have hle:(Tm.substL op 0 pre c d u).length+1≤1000000:=by rw [G3];omega
      simp only [Ig,IC,Iw,Ih,H9,It,IN,HM,IX,IJ,IT,IQ,Ip,IZ,Ie,IA,Ik,S60,↓XX,XY,↓reduceIte,Nat.reduceBEq,Nat.reduceAdd,Int.reduceEq,Int.reduceLT,Int.reduceLE,hi,↓Bs (AN hg) (Ba _ _ _),↓B8,↓Af hb,hwc,hwd,hwi,↓AD hs,↓Jq,↓MZ hle,↓HC,↓AG,XD,heldB,AO,XE];refine hrec rest.length _ _ (by omega) ?_;refine ⟨pre++[.mk o p l],rest,by rw [hk];simp,rfl,rfl,.inr ⟨by simp,?_⟩⟩;rw [hx];simp only [List.length_append,Auq,List.length_nil]
   rw [Tm.subst,if_neg h1];obtain ⟨uo,un,uk⟩:=u;rw [Ag (op:=uo)];simp only [↓UU2,↓XX,XY,↓reduceIte,Nat.reduceBEq,Nat.reduceAdd,Int.reduceEq,Int.reduceLT,Int.reduceLE,h1,↓AG,XD,heldB,AO,XE];exact main
theorem Tj {n:Nat} (t u:Tm) (c:Int) (hu:u.wk) (huw:u.wt≤1152921504606846976) (h:t.wt+u.wt+4<n) (hw:t.wk) (hww:t.wt≤100000000000000) (h0:-1000000000≤c) (hc:c+2 * t.wt≤461168601842738) :
  BM (SS dt n 50 [.fv t.enc,iv c,.fv u.enc] ⟨[],[]⟩) (t.subst c 0 u).enc:=by
 obtain ⟨n,rfl⟩:∃k,n=k+1:=⟨n - 1,by omega⟩;rw [c50];have hs:=AgV u hu huw n t c 0 (by omega) hw h0 hc (by omega) (by omega);generalize t.subst c 0 u=v at hs ⊢;obtain ⟨o1,n1,k1⟩:=t;obtain ⟨o2,n2,k2⟩:=u;obtain ⟨o3,n3,k3⟩:=v;simp only [Ag] at hs ⊢;simp only [Aho,S50,↓XX,XY,↓reduceIte,Nat.reduceBEq,Nat.reduceAdd,Int.reduceEq,Int.reduceLT,Int.reduceLE,↓AD hs];exact Bf rfl _
mutual
def Tm.free:Tm→Int→Bool
 | .mk op m ks,c=>if op=1 then decide (m=c) else Tm.freeL op 0 ks c
def Tm.freeL:Int→Nat→List Tm→Int→Bool
 | _,_,[],_=>false
 | op,i,t::l,c=>t.free (c+Ah op i) || Tm.freeL op (i+1) l c
end
theorem AjK:∀(n:Nat) (t:Tm) (c:Int),t.wt+1<n→t.wt≤1152921504606846976→-1000000000≤c→c+2 * t.wt≤461168601842738→BM (SS dt n 54 [.fv t.enc,iv c] ⟨[],[]⟩) (.bool (t.free c)):=by
 intro n
 induction n with
 | zero=>intro t c h;omega
 | succ n ih =>
  intro t c h hw hc0 hc;obtain ⟨op,m,ks⟩:=t;simp only [Tm.wt] at h hw hc;rw [c54,Ag];have hlen:=DN ks;by_cases h1:op=1
  ·subst h1;rw [Tm.free,if_pos rfl];simp only [Lr,LF,LW,Ly,LO,S54,↓XX,XY,↓reduceIte,Nat.reduceBEq,Nat.reduceAdd,Int.reduceEq,Int.reduceLT,Int.reduceLE];exact Ao _ _
  ·rw [Tm.free,if_neg h1];simp only [Lr,LF,LW,Ly,LO,S54,↓XX,XY,↓reduceIte,Nat.reduceBEq,Nat.reduceAdd,Int.reduceEq,Int.reduceLT,Int.reduceLE,h1];refine A7 (Q:=fun r=>BM r _) (fun k V H=>∃pre rest,ks=pre++rest∧rest.length=k∧V=[iv c,.ptr (.own 56623104) 0,iv pre.length]∧H=⟨[(56623104,.row [iv op,iv m,.fv (.sl (ks.map Tm.enc))] false)],[]⟩∧Tm.freeL op pre.length rest c=Tm.freeL op 0 ks c)
    ?_ n ks.length _ _ (by omega) ⟨[],ks,rfl,rfl,rfl,rfl,rfl⟩
   rintro k V H rec ⟨pre,rest,hk,hl,rfl,rfl,ht⟩ hrec;have hkl:ks.length=pre.length+rest.length:=by rw [hk];simp
   cases rest with
   | nil =>
    have hno:¬ ((pre.length:Int)<ks.length):=by rw [hkl];simp
    rw [← ht];simp only [Lr,LF,LW,Ly,LO,Qa,S54,↓XX,XY,↓reduceIte,Nat.reduceBEq,Nat.reduceAdd,Int.reduceEq,Int.reduceLT,Int.reduceLE,hno,Tm.freeL];exact Ao _ _
   | cons t rest =>
    have hi:(pre.length:Int)<ks.length:=by rw [hkl];simp;omega
    have hg:=Cc hk;have htw:=BY (t:=t) (l:=ks) (by rw [hk];simp);have hb:=FA (n:=n) (by omega) op pre.length;have hble:=AV op pre.length;have hs:=ih t (c+Ah op pre.length) (by omega) (by omega) (by omega) (by omega);have hwc:w64 (c+Ah op pre.length)=c+Ah op pre.length:=by rw [Au]<;>omega
    have hwi:w64 ((pre.length:Int)+1)=((pre++[t]).length:Int):=(Au (by omega) (by omega)).trans (by simp);simp only [Tm.freeL] at ht;generalize t.free (c+Ah op pre.length)=v at hs ht;obtain ⟨o,p,l⟩:=t;simp only [Auq] at hl;rw [Ag] at hs;cases v
    ·simp only [Lr,LF,LW,Ly,LO,Qa,S54,↓XX,XY,↓reduceIte,Nat.reduceBEq,Nat.reduceAdd,Int.reduceEq,Int.reduceLT,Int.reduceLE,hi,↓Bs (AN hg) (Ba _ _ _),↓B8,↓Af hb,hwc,hwi,↓Af hs];refine hrec rest.length _ _ (by omega) ?_;exact ⟨pre++[.mk o p l],rest,by rw [hk];simp,rfl,rfl,rfl,by simpa using ht⟩
    ·rw [← ht];simp only [Lr,LF,LW,Ly,LO,Qa,S54,↓XX,XY,↓reduceIte,Nat.reduceBEq,Nat.reduceAdd,Int.reduceEq,Int.reduceLT,Int.reduceLE,hi,↓Bs (AN hg) (Ba _ _ _),↓B8,↓Af hb,hwc,hwi,↓Af hs,Bool.true_or];exact Ao _ _
mutual
def Tm.same:Tm→Tm→Bool
 | .mk o n l,.mk o' n' l'=>decide (o=o') && (decide (n=n') && (decide (l.length=l'.length) && Tm.sameL l l'))
def Tm.sameL:List Tm→List Tm→Bool
 | a::l,b::l'=>a.same b && Tm.sameL l l'
 | _,_=>true
end
mutual
theorem MS:∀a b:Tm,a.same b=true ↔ a=b
 | .mk o n l,.mk o' n' l'=>by
  simp only [Tm.same,Bool.and_eq_true,decide_eq_true_eq,Tm.mk.injEq];constructor
  ·rintro ⟨rfl,rfl,h1,h2⟩;exact ⟨rfl,rfl,(sameL_eq l l' h1).1 h2⟩
  ·rintro ⟨rfl,rfl,rfl⟩;exact ⟨rfl,rfl,rfl,(sameL_eq l l rfl).2 rfl⟩
theorem sameL_eq:∀l l':List Tm,l.length=l'.length→(Tm.sameL l l'=true ↔ l=l')
 | [],[],_=>by simp [Tm.sameL]
 | a::l,b::l',h=>by
  simp only [Tm.sameL,Bool.and_eq_true,List.cons.injEq,MS a b,sameL_eq l l' (by simpa using h)]
end
theorem ME:∀(n:Nat) (a b:Tm),a.wt+1<n→a.wt≤1152921504606846976→BM (SS dt n 37 [.fv a.enc,.fv b.enc] ⟨[],[]⟩) (.bool (a.same b)):=by
 intro n
 induction n with
 | zero=>intro a b h;omega
 | succ n ih =>
  intro a b h hw;obtain ⟨op,m,ks⟩:=a;obtain ⟨op',m',ks'⟩:=b;simp only [Tm.wt] at h hw;rw [c37,Ag,Ag];have hlen:=DN ks;rw [Tm.same];by_cases h1:op=op'
  ·by_cases h2:m=m'
   ·by_cases h3:ks.length=ks'.length
    ·have h3':(ks.length:Int)=ks'.length:=by omega
     subst h1 h2;simp only [FP,Gp,Gc,Gk,Gb,F9,Gl,Gn,Ge,S37,↓XX,XY,↓reduceIte,Nat.reduceBEq,Nat.reduceAdd,Int.reduceEq,Int.reduceLT,Int.reduceLE,h3,h3',Tm.same];refine A7 (Q:=fun r=>BM r _) (fun k V H=>∃pre rest pre' rest',ks=pre++rest∧ks'=pre'++rest'∧pre.length=pre'.length∧rest.length=k∧V=[.ptr (.own 38797312) 0,.ptr (.own 38797313) 0,iv pre.length] ∧
      H=⟨[(38797312,.row [iv op,iv m,.fv (.sl (ks.map Tm.enc))] false),(38797313,.row [iv op,iv m,.fv (.sl (ks'.map Tm.enc))] false)],[]⟩∧Tm.sameL rest rest'=Tm.sameL ks ks')
      ?_ n ks.length _ _ (by omega) ⟨[],ks,[],ks',rfl,rfl,rfl,rfl,rfl,rfl,rfl⟩
     rintro k V H rec ⟨pre,rest,pre',rest',hk,hk',hpl,hl,rfl,rfl,ht⟩ hrec;have hkl:ks.length=pre.length+rest.length:=by rw [hk];simp
     have hkl':ks'.length=pre'.length+rest'.length:=by rw [hk'];simp
     cases rest with
     | nil =>
      have hno:¬ ((pre.length:Int)<ks.length):=by rw [hkl];simp
      rw [← ht];simp only [FP,Gp,Gc,Gk,Gb,Mx,F9,Gl,Gn,Ge,S37,↓XX,XY,↓reduceIte,Nat.reduceBEq,Nat.reduceAdd,Int.reduceEq,Int.reduceLT,Int.reduceLE,hno,Tm.sameL];exact Ao _ _
     | cons t rest =>
      cases rest' with
      | nil=>simp at hkl hkl';omega
      | cons t' rest' =>
       have hi:(pre.length:Int)<ks.length:=by rw [hkl];simp;omega
       have hg:=Cc hk;have hg':=Cc hk';rw [← hpl] at hg';have htw:=BY (t:=t) (l:=ks) (by rw [hk];simp);have hs:=ih t t' (by omega) (by omega);have hwi:w64 ((pre.length:Int)+1)=((pre++[t]).length:Int):=(Au (by omega) (by omega)).trans (by simp);simp only [Tm.sameL] at ht;generalize t.same t'=v at hs ht;obtain ⟨o,p,l⟩:=t;obtain ⟨o',p',l'⟩:=t';simp only [Auq] at hl;rw [Ag,Ag] at hs;cases v
       ·rw [← ht];simp only [FP,Gp,Gc,Gk,Gb,Mx,F9,Gl,Gn,Ge,S37,↓XX,XY,↓reduceIte,Nat.reduceBEq,Nat.reduceAdd,Int.reduceEq,Int.reduceLT,Int.reduceLE,hi,↓Bs (AN hg) (Ba _ _ _),↓Bs (AN hg') (Ba _ _ _),↓B8,↓Af hs,Bool.false_and];exact Ao _ _
       ·simp only [FP,Gp,Gc,Gk,Gb,Mx,F9,Gl,Gn,Ge,S37,↓XX,XY,↓reduceIte,Nat.reduceBEq,Nat.reduceAdd,Int.reduceEq,Int.reduceLT,Int.reduceLE,hi,↓Bs (AN hg) (Ba _ _ _),↓Bs (AN hg') (Ba _ _ _),↓B8,hwi,↓Af hs];refine hrec rest.length _ _ (by omega) ?_;exact ⟨pre++[.mk o p l],rest,pre'++[.mk o' p' l'],rest',by rw [hk];simp,by rw [hk'];simp,by simp [hpl],rfl,rfl,rfl,by simpa using ht⟩
    ·have h3':¬ (ks.length:Int)=ks'.length:=by omega
     simp only [FP,Gp,Gc,Gk,Gb,F9,Gl,Gn,Ge,S37,↓XX,XY,↓reduceIte,Nat.reduceBEq,Nat.reduceAdd,Int.reduceEq,Int.reduceLT,Int.reduceLE,h1,h2,h3,h3'];exact Ao _ _
   ·simp only [FP,Gp,Gc,Gk,Gb,F9,Gl,Gn,Ge,S37,↓XX,XY,↓reduceIte,Nat.reduceBEq,Nat.reduceAdd,Int.reduceEq,Int.reduceLT,Int.reduceLE,h1,h2];exact Ao _ _
  ·simp only [FP,Gp,Gc,Gk,Gb,F9,Gl,Gn,Ge,S37,↓XX,XY,↓reduceIte,Nat.reduceBEq,Nat.reduceAdd,Int.reduceEq,Int.reduceLT,Int.reduceLE,h1];exact Ao _ _
theorem Aih (o p:Int) (l:List Tm) (s:Nat) (h:Hp) (k:IV→Hp→List Ref→List Ref→Option (IV×Hp)):Az (Ak EE 29 1 [(0,.fv (.agg [.int .i64 o,.int .i64 p,.sl (l.map Tm.enc)]))]) s h k=k (.clip [.agg [.int .i64 o,.int .i64 p,.sl (l.map Tm.enc)]]) h [] []:=by
 have:=Jq (.mk o p l) s h k
 rw [Ag] at this;exact this
def Qn (o:Option (IV×Hp)):Bool:=match o with
 | some (.fv (.bool b),⟨_,[]⟩)=>b
 | _=>false
theorem Adk {o:Option (IV×Hp)} (h:Qn o=true):BM o (.bool true):=by
 unfold Qn at h;split at h
 ·subst h;exact Ao _ _
 ·cases h
theorem D4 (o1 n1 o2 n2:Int) (k1 k2:List FV) (s:Nat) (h:Hp) (k:IV→Hp→List Ref→List Ref→Option (IV×Hp)):Az (Ak EE 29 2 [(0,.fv (.agg [.int .i64 o1,.int .i64 n1,.sl k1])),(1,.fv (.agg [.int .i64 o2,.int .i64 n2,.sl k2]))]) s h k =
  k (.clip [.agg [.int .i64 o1,.int .i64 n1,.sl k1],.agg [.int .i64 o2,.int .i64 n2,.sl k2]]) h [] []:=Cp Td tTm (by decide) (cells:=[.int .i64 o1,.int .i64 n1,.sl k1,.int .i64 o2,.int .i64 n2,.sl k2]) rfl k
theorem KE (o1 n1 o2 n2 o3 n3:Int) (k1 k2 k3:List FV) (s:Nat) (h:Hp) (k:IV→Hp→List Ref→List Ref→Option (IV×Hp)):Az (Ak EE 29 3 [(0,.fv (.agg [.int .i64 o1,.int .i64 n1,.sl k1])),(1,.fv (.agg [.int .i64 o2,.int .i64 n2,.sl k2])),(2,.fv (.agg [.int .i64 o3,.int .i64 n3,.sl k3]))]) s h k =
  k (.clip [.agg [.int .i64 o1,.int .i64 n1,.sl k1],.agg [.int .i64 o2,.int .i64 n2,.sl k2],.agg [.int .i64 o3,.int .i64 n3,.sl k3]]) h [] []:=Cp Td tTm (by decide) (cells:=[.int .i64 o1,.int .i64 n1,.sl k1,.int .i64 o2,.int .i64 n2,.sl k2,.int .i64 o3,.int .i64 n3,.sl k3]) rfl k
theorem Apn (o1 n1 o2 n2 o3 n3 o4 n4:Int) (k1 k2 k3 k4:List FV) (s:Nat) (h:Hp) (k:IV→Hp→List Ref→List Ref→Option (IV×Hp)):Az (Ak EE 29 4 [(0,.fv (.agg [.int .i64 o1,.int .i64 n1,.sl k1])),(1,.fv (.agg [.int .i64 o2,.int .i64 n2,.sl k2])),(2,.fv (.agg [.int .i64 o3,.int .i64 n3,.sl k3])),(3,.fv (.agg [.int .i64 o4,.int .i64 n4,.sl k4]))]) s h k =
  k (.clip [.agg [.int .i64 o1,.int .i64 n1,.sl k1],.agg [.int .i64 o2,.int .i64 n2,.sl k2],.agg [.int .i64 o3,.int .i64 n3,.sl k3],.agg [.int .i64 o4,.int .i64 n4,.sl k4]]) h [] []:=Cp Td tTm (by decide) (cells:=[.int .i64 o1,.int .i64 n1,.sl k1,.int .i64 o2,.int .i64 n2,.sl k2,.int .i64 o3,.int .i64 n3,.sl k3,.int .i64 o4,.int .i64 n4,.sl k4]) rfl k
theorem EZ (o1 n1:Int) (k1:List FV) (s:Nat) (h:Hp) (k:IV→Hp→List Ref→List Ref→Option (IV×Hp)):Az (Ak EE 29 1 [(0,.fv (.agg [.int .i64 o1,.int .i64 n1,.sl k1]))]) s h k =
  k (.clip [.agg [.int .i64 o1,.int .i64 n1,.sl k1]]) h [] []:=Cp Td tTm (by decide) (cells:=[.int .i64 o1,.int .i64 n1,.sl k1]) rfl k
def Apd (r:Option (IV×Hp)) (v:FV):Prop:=∃own,r=some (.fv v,⟨own,[]⟩)
theorem Ti {v:FV} {own:List (Nat×Blk)}:Apd (some (.fv v,⟨own,[]⟩)) v:=⟨own,rfl⟩
def Hn:Nat→Tm
 | 0=>.mk 11 0 []
 | n+1=>.mk 12 0 [Hn n]
theorem Agz {g:FuncId} (h:EE.pol.inl g=false) (h1:EE.pol.keep g=[]) (h2:EE.pol.split g=false) (h3:EE.pol.raw g=false) (ih:Aa) (xs:List IV) (h0:Hp) (k:IV→Hp→List Ref→List Ref→Option (IV×Hp)) :
  DY EE ih (.fv (.func (.func g) [] [])) xs h0 k=Al [] false false ih g xs h0 k:=by
 unfold DY;simp only [callee,h,cond_false,Ait,h1,h2,h3,Aur,List.nil_append,List.append_nil]
theorem Alh {n:Nat} (k:Nat) (hn:k+3<n) (hk:k≤1000000):BM (SS dt n 29 [iv k] ⟨[],[]⟩) (Hn k).enc:=by
 obtain ⟨n,rfl⟩:∃j,n=j+1:=⟨n - 1,by omega⟩;rw [c29];have h0:=D3 (n:=n) (by omega) 11;rw [Ag] at h0;simp only [Ru,Ss,SM,S29,↓XX,XY,↓reduceIte,Nat.reduceBEq,Nat.reduceAdd,Int.reduceEq,Int.reduceLT,Int.reduceLE,↓Af h0];refine A7 (Q:=fun r=>BM r _) (fun j V H=>∃(i:Nat),i+j=k∧V=[iv k,.ptr (.own 30408704) 0,.ptr (.own 30409729) 0,iv i] ∧
   H=⟨[(30408704,.row [iv 0,iv 0,.nils] false),(30409729,.row [iv (Hn i).op,iv (Hn i).n,.fv (.sl ((Hn i).kids.map Tm.enc))] false)],[]⟩) ?_ n k _ _ (by omega) ⟨0,by omega,rfl,rfl⟩
 rintro j V H rec ⟨i,hi,rfl,rfl⟩ hrec;cases j with
 | zero =>
  have:i=k:=by omega
  subst this;have hno:¬ ((i:Int)<i):=by omega
  generalize Hn i=t;obtain ⟨o,p,l⟩:=t;rw [Ag];simp only [Ru,Ss,SM,Wa,S29,↓XX,XY,↓reduceIte,Nat.reduceBEq,Nat.reduceAdd,Int.reduceEq,Int.reduceLT,Int.reduceLE,hno,Tm.op,Tm.n,Tm.kids];exact Ao _ _
 | succ j =>
  have hlt:(i:Int)<k:=by omega
  have hw:w64 ((i:Int)+1)=((i+1:Nat):Int):=(Au (by omega) (by omega)).trans (by simp);have ht:=C4 (n:=n) (by omega) 12 [Hn i];have h9:=hrec j ([iv k,.ptr (.own 30408704) 0,.ptr (.own 30409729) 0,iv (i+1:Nat)]) (⟨[(30408704,.row [iv 0,iv 0,.nils] false),(30409729,.row [iv 12,iv 0,.fv (.sl ([Hn i].map Tm.enc))] false)],[]⟩) (by omega) ⟨i+1,by omega,rfl,rfl⟩;generalize Hn i=t at *;obtain ⟨o,p,l⟩:=t;simp only [Aus,Aur,Ag] at ht h9;simp only [Ru,Ss,SM,Wa,S29,↓XX,XY,↓reduceIte,Nat.reduceBEq,Nat.reduceAdd,Int.reduceEq,Int.reduceLT,Int.reduceLE,hlt,Tm.op,Tm.n,Tm.kids,↓Aih,↓Af ht,hw];exact h9
theorem TN (n:Nat):Qn (SS dt (n+100) 10 [] ⟨[],[]⟩)=true:=by kernel_rfl
theorem UT {n:Nat} (h:100≤n):BM (SS dt n 10 [] ⟨[],[]⟩) (.bool true):=by
 obtain ⟨k,rfl⟩:∃k,n=k+100:=⟨n - 100,by omega⟩;exact Adk (TN k)
theorem Api (a b:Bool) (k:IV→Option (IV×Hp)):A5 EE 4 (.fv (.bool a)) (.fv (.bool b)) k=k (.fv (.bool (a == b))):=Aka a b (by kernel_rfl) k
section
variable {β:Type} {E:Env}
def Aod (cs:List IV) (k:List FV→Option β):Option β:=(C0 cs).bind k
theorem AjS {t e:TypeId} {a b:Nat} {ei:TI} {z:List IV} (hT:E.T t=some ⟨a,b,.slice e,z⟩) (he:E.T e=some ei) (hs:ei.size=1) (hz:∃x,ei.zero=[x]) (r s:Nat) (own:List (Nat×Blk)) (ext:List Blk)
  (hc:∀cells ro,Ap r own=some (.row cells ro)→cells.length≤100) (hk:∀cells ro,Ap r own=some (.row cells ro)→∃fc,C0 cells=some fc) (k:IV→Hp→List Ref→List Ref→Option β) :
  Az (Ak E t 1 [(0,.ptr (.own r) 0)]) s ⟨own,ext⟩ k=E6 own r fun bl=>DM bl fun cells=>Aod cells fun fc=>AZ own r (.row cells true) fun own=>k (.clip [.fp fc 0]) ⟨own,ext⟩ [.own r] [.own r]:=by
 obtain ⟨x,hx⟩:=hz;have hm:Ak E t 1 [(0,.ptr (.own r) 0)]=(frzL (65534+1+1) [.ptr (.own r) 0]).bind fun (vs,u)=>.ret { eff:={ val:=.clip (BO ei.size 1 vs),upd:=u } }:=by
  have h1:¬ (ei.size=0∨1 * ei.size > 65536):=by rw [hs];omega
  have h2:Cx (fun j=>some (j * ei.size,ei.size)) (O1 1 ei.zero) [(0,.ptr (.own r) 0)]=some [.ptr (.own r) 0]:=by
   rw [hx,hs];rfl
  simp only [Ak,hT,he,if_neg h1,h2]
 rw [hm,Bk];unfold Az;cases hl:Ap r own with
 | none =>
  have:((frzL (65534+1+1) [.ptr (.own r) 0]).bind fun (vs,u)=>Rd.ret ({ eff:={ val:=.clip (BO ei.size 1 vs),upd:=u } }:Made)).runLog ⟨own,ext⟩ []=none:=by
   simp only [frzL,CS,Rd.bind,Rd.runLog,Hp.get,hl]
  rw [this];rfl
 | some bl =>
  cases bl with
  | row cells ro =>
   obtain ⟨fc,hfc⟩:=hk cells ro hl;have hlen:=hc cells ro hl;have h3:frzL 65534 cells=.ret (fc,[]):=ZL cells 65534 (by omega) hfc
   have:((frzL (65534+1+1) [.ptr (.own r) 0]).bind fun (vs,u)=>Rd.ret ({ eff:={ val:=.clip (BO ei.size 1 vs),upd:=u } }:Made)).runLog ⟨own,ext⟩ [] =
     some ({ eff:={ val:=.clip (BO ei.size 1 [.fp fc 0]),upd:=[(.own r,.row cells true)] } },[.own r]):=by
    simp only [frzL,CS,Rd.bind,Rd.runLog,Hp.get,hl,h3,List.append_nil]
   rw [this];simp only [Option.bind_some,DM,Aod,hfc,hs]
   show (fRf (.own r) fun q=>CZ q ⟨own,ext⟩ fun _=>fBk (.row cells true) fun b=>FJ q b ⟨own,ext⟩ fun h=>Je none s h fun h=>fV 3 (.clip [.fp fc 0]) fun v=>k v h [.own r] ([.own r]++[]))=_
   simp only [N6,CV,Cy,Je,FJ,CZ];rw [Bk,hl];rfl
  | tok n sz =>
   have:((frzL (65534+1+1) [.ptr (.own r) 0]).bind fun (vs,u)=>Rd.ret ({ eff:={ val:=.clip (BO ei.size 1 vs),upd:=u } }:Made)).runLog ⟨own,ext⟩ []=none:=by
    simp only [frzL,CS,Rd.bind,Rd.runLog,Hp.get,hl]
   rw [this];rfl
  | map es =>
   have:((frzL (65534+1+1) [.ptr (.own r) 0]).bind fun (vs,u)=>Rd.ret ({ eff:={ val:=.clip (BO ei.size 1 vs),upd:=u } }:Made)).runLog ⟨own,ext⟩ []=none:=by
    simp only [frzL,CS,Rd.bind,Rd.runLog,Hp.get,hl]
   rw [this];rfl
theorem Ap3 {t e:TypeId} {a b:Nat} {ei:TI} {z:List IV} (hT:E.T t=some ⟨a,b,.slice e,z⟩) (he:E.T e=some ei) (hs:ei.size=1) (hz:∃x,ei.zero=[x]) {r:Nat} {own own':List (Nat×Blk)} {cells:List IV} {ro:Bool} {fc:List FV}
  (hl:Ap r own=some (.row cells ro)) (hf:C0 cells=some fc) (hn:cells.length≤100) (ho:AL r (.row cells true) own=own') (s:Nat) (ext:List Blk) (k:IV→Hp→List Ref→List Ref→Option β) :
  Az (Ak E t 1 [(0,.ptr (.own r) 0)]) s ⟨own,ext⟩ k=k (.clip [.fp fc 0]) ⟨own',ext⟩ [.own r] [.own r]:=by
 have h1:∀cells' ro',Ap r own=some (.row cells' ro')→cells'=cells:=fun c r h=>by rw [hl] at h;cases h;rfl
 rw [AjS hT he hs hz r s own ext (fun c r h=>by rw [h1 c r h];exact hn) (fun c r h=>by rw [h1 c r h];exact ⟨fc,hf⟩),Bk,hl];simp only [Option.bind_some,DM,Aod,hf,Bq,ho]
def Bu (r:Option (IV×Hp)) (w:FV) (ext:List Blk):Prop:=∃v own,r=some (v,⟨own,ext⟩) ∧
 ∃u lg,∀(e:Option (IV×Hp)) (K:FV→List (Ref×Blk)→List Ref→Option (IV×Hp)),C5 12 v ⟨own,ext⟩ [] e K=K w u lg
theorem AJ (w:FV) (own:List (Nat×Blk)) (ext:List Blk):Bu (some (.fv w,⟨own,ext⟩)) w ext:=⟨_,own,rfl,[],[],fun _ _=>rfl⟩
theorem EY {v:IV} {w:FV} (hz:A8 v=some w) (own:List (Nat×Blk)) (ext:List Blk):Bu (some (v,⟨own,ext⟩)) w ext:=⟨_,own,rfl,[],[],fun e K=>I4 _ _ e K hz⟩
theorem Ln:∀l:List FV,Ct (l.map .fv) []=[]
 | []=>rfl
 | v::l=>by
  show TR (.fv v) (Ct (l.map .fv) [])=[]
  rw [Ln l];rfl
theorem ApE (n j:Nat) (t:List Ref) (s:Nat) (rest:List Blk):O8 (n+1) (.ext j::t) s rest=cond (Nat.ble (Nat.succ j) s) (O8 n t s rest) (cond (Nat.beq j s) (goR (O8 n) t s rest) false):=rfl
theorem ApY (n s:Nat):O8 (n+1) [] s []=true:=rfl
set_option maxRecDepth 20000 in
theorem Wz (st:List FV):O8 400 [.ext 0] 0 [.row (st.map .fv) false]=true:=by
 rw [show (400:Nat)=398+1+1 from rfl,ApE]
 show goR (O8 (398+1)) [] 0 [.row (st.map .fv) false]=true
 show O8 (398+1) ([]++E0 (.row (st.map .fv) false)) 1 []=true
 rw [show E0 (.row (st.map .fv) false)=Ct (st.map .fv) [] from rfl,Ln]
 exact ApY 398 1
theorem YU (st:List FV):okB 1 [.row (st.map .fv) false]=true:=by
 show cond (okR 1 (E0 (.row (st.map .fv) false))) true false=true
 rw [show E0 (.row (st.map .fv) false)=Ct (st.map .fv) [] from rfl,Ln]
 rfl
theorem gb3 (a b c:FV):O8 400 [.ext 0] 0 [.row [.fv a,.fv b,.fv c] false]=true:=Wz [a,b,c]
theorem ob3 (a b c:FV):okB 1 [.row [.fv a,.fv b,.fv c] false]=true:=YU [a,b,c]
theorem gb2 (a b:FV):O8 400 [.ext 0] 0 [.row [.fv a,.fv b] false]=true:=Wz [a,b]
theorem ob2 (a b:FV):okB 1 [.row [.fv a,.fv b] false]=true:=YU [a,b]
theorem VW {r1:Ref} {rs1:List Ref} {ih:Aa} {f:FuncId} {vs:List IV} {w:FV} {ext ext':List Blk} (hr:Bu (ih f vs ⟨[],ext⟩) w ext') (hg:O8 400 (r1::rs1) 0 ext=true) (hl:ext'.length=ext.length) (ho:okB ext.length ext'=true)
  (own:List (Nat×Blk)) (r0:Option (IV×Hp)) (u:List (Ref×Blk)) (lg:List Ref) (e:Option (IV×Hp)) (k:IV→Hp→List Ref→List Ref→Option (IV×Hp)) :
  TF (
     r1::rs1) r0 ⟨own,ext⟩ u lg e (fun rs=>match rs with
   | []=>none
   | r::rs=>(match (⟨own,ext⟩:Hp) with
    | ⟨own,ext⟩=>cond (O8 400 (r::rs) 0 ext) (match ih f vs ⟨[],ext⟩ with
     | none=>none
     | some p=>match p with
      | (v,h')=>match h' with
       | ⟨own',ext'⟩=>cond (and (Nat.beq ext'.length ext.length) (okB ext.length ext'))
        (C5 12 v ⟨own',ext'⟩ [] e fun w _ _=>Lx u ⟨own,ext'⟩ fun h2=>k (.fv w) h2 ((CK ext.length).reverse++lg) (Bo u++CK ext.length)) none)
     e)) k=Lx u ⟨own,ext'⟩ fun h2=>k (.fv w) h2 ((CK ext.length).reverse++lg) (Bo u++CK ext.length):=by
 obtain ⟨v,own',e1,u',lg',hz⟩:=hr;simp only [TF,hg,e1,hl,ho];rw [show (Nat.beq ext.length ext.length && true)=true by rw [Bool.and_true];exact Nat.beq_refl _,cond_true,hz]
 rfl
structure OneX (ext ext':List Blk):Prop where
 g:O8 400 [.ext 0] 0 ext=true
 l:ext.length=1
 l':ext'.length=1
 o:okB 1 ext'=true
theorem Cj (a b c a' b' c':FV):OneX [.row [.fv a,.fv b,.fv c] false] [.row [.fv a',.fv b',.fv c'] false]:=⟨gb3 ..,rfl,rfl,ob3 ..⟩
theorem AoZ (a b a' b':FV):OneX [.row [.fv a,.fv b] false] [.row [.fv a',.fv b'] false]:=⟨gb2 ..,rfl,rfl,ob2 ..⟩
theorem UF (x:Nat):∀(args:List IV) {vs:List FV} (h:Hp) (lg:List Ref) (e:Option β) (k:List IV→List Ref→List (Ref×Blk)→List Ref→Option β) (ks:List Bool),(∀b∈ks,b=false)→Bv args=some vs →
  Tn args ks h lg e k=k (vs.map .fv) [] [] lg
 | [],vs,h,lg,e,k,ks,_,hz=>by cases hz;rfl
 | v::l,vs,h,lg,e,k,[],_,hz=>AgG (v::l) h lg e k hz
 | v::l,vs,h,lg,e,k,b::ks,hk,hz=>by
  have hb:=hk b List.mem_cons_self;subst hb;simp only [Bv] at hz;cases h1:A8 v with
  | none=>rw [h1] at hz;cases hz
  | some x' =>
   rw [h1] at hz;cases h2:Bv l with
   | none=>rw [h2] at hz;cases hz
   | some ys =>
    rw [h2] at hz;cases hz;rw [Wf,I4 h lg e _ h1,UF x l h lg e _ ks (fun c hc=>hk c (List.mem_cons_of_mem _ hc)) h2];rfl
theorem Aeb {ks:List Bool} (hks:∀b∈ks,b=false) {ih:Aa} {f:FuncId} {args:List IV} {vs:List FV} {w:FV} {ext ext':List Blk} (hz:Bv args=some vs) (X:OneX ext ext') (hr:Bu (ih f (.ptr (.ext 0) 0::vs.map .fv) ⟨[],ext⟩) w ext')
  (own:List (Nat×Blk)) (k:IV→Hp→List Ref→List Ref→Option (IV×Hp)):Al (true::ks) false false ih f (.ptr (.ext 0) 0::args) ⟨own,ext⟩ k=k (.fv w) ⟨own,ext'⟩ [.ext 0] [.ext 0]:=by
 rw [Nt,Agf,Vx,UF 0 args _ _ _ _ ks hks hz]
 have:=VW (r1:=.ext 0) (rs1:=[]) hr X.g (by rw [X.l,X.l']) (by rw [X.l];exact X.o) own (ih f (.ptr (.ext 0) 0::vs.map .fv) ⟨[],[]⟩) [] [] (Gq (true::ks) false false ih f (.ptr (.ext 0) 0::args) ⟨own,ext⟩ k) k
 refine this.trans ?_;rw [X.l];rfl
theorem Dh {ih:Aa} {f:FuncId} {w:FV} {ext ext':List Blk} (hr:Bu (ih f [.ptr (.ext 0) 0] ⟨[],ext⟩) w ext') (X:OneX ext ext') (own:List (Nat×Blk)) (k:IV→Hp→List Ref→List Ref→Option (IV×Hp)) :
  Al [true] false false ih f [.ptr (.ext 0) 0] ⟨own,ext⟩ k=k (.fv w) ⟨own,ext'⟩ [.ext 0] [.ext 0]:=Aeb (ks:=[]) (by simp) (vs:=[]) rfl X hr own k
theorem Jv {ih:Aa} {f:FuncId} {a b:IV} {x y w:FV} {ext ext':List Blk} (hr:Bu (ih f [.ptr (.ext 0) 0,.fv x,.fv y] ⟨[],ext⟩) w ext') (X:OneX ext ext') (ha:A8 a=some x) (hb:A8 b=some y) (own:List (Nat×Blk))
  (k:IV→Hp→List Ref→List Ref→Option (IV×Hp)):Al [true,false,false] false false ih f [.ptr (.ext 0) 0,a,b] ⟨own,ext⟩ k=k (.fv w) ⟨own,ext'⟩ [.ext 0] [.ext 0]:=Aeb (ks:=[false,false]) (by simp) (UY ha hb) X hr own k
theorem Agd {ih:Aa} {f:FuncId} {a b c:IV} {x y z w:FV} {ext ext':List Blk} (hr:Bu (ih f [.ptr (.ext 0) 0,.fv x,.fv y,.fv z] ⟨[],ext⟩) w ext') (X:OneX ext ext') (ha:A8 a=some x) (hb:A8 b=some y) (hc:A8 c=some z)
  (own:List (Nat×Blk)) (k:IV→Hp→List Ref→List Ref→Option (IV×Hp)):Al [true,false,false,false] false false ih f [.ptr (.ext 0) 0,a,b,c] ⟨own,ext⟩ k=k (.fv w) ⟨own,ext'⟩ [.ext 0] [.ext 0] :=
 Aeb (ks:=[false,false,false]) (by simp) (Ada ha hb hc) X hr own k
theorem Rw {ih:Aa} {f:FuncId} {s:Nat} {own:List (Nat×Blk)} {cells:List IV} {ro:Bool} {fc:List FV} {w:FV} {ext ext':List Blk} (hr:Bu (ih f [.ptr (.ext 0) 0,.fv (.fp fc 0)] ⟨[],ext⟩) w ext') (X:OneX ext ext')
  (hl:Ap s own=some (.row cells ro)) (hz:C0 cells=some fc) (hn:cells.length≤300) (k:IV→Hp→List Ref→List Ref→Option (IV×Hp)) :
  Al [true,false] false false ih f [.ptr (.ext 0) 0,.ptr (.own s) 0] ⟨own,ext⟩ k=k (.fv w) ⟨AL s (.row cells true) own,ext'⟩ [.ext 0,.own s] [.own s,.ext 0]:=by
 rw [Nt,Agf,Vx,Wf,Wj,K8,Bk,hl];simp only [Option.bind_some,Hr];rw [A9,decide_eq_true hn,c_t,Y9 10 _ _ _ cells _ hz,fz0]
 have:=VW (r1:=.ext 0) (rs1:=[]) hr X.g (by rw [X.l,X.l']) (by rw [X.l];exact X.o) own (ih f [.ptr (.ext 0) 0,.fv (.fp fc 0)] ⟨[],[]⟩) [(.own s,.row cells true)] [.own s] (Gq [true,false] false false ih f [.ptr (.ext 0) 0,.ptr (.own s) 0] ⟨own,ext⟩ k) k
 refine this.trans ?_;rw [X.l]
 show (E6 own s fun _=>AZ own s (.row cells true) fun own=>k (.fv w) ⟨own,ext'⟩ [.ext 0,.own s] [.own s,.ext 0])=_
 rw [Bk,hl,Option.bind_some,Bq]
end
end Idl
end Go.Proofs.Ytaifgaidaglblaa
namespace Go.Proofs.Ytaifgaidaglblaa
namespace Idl
inductive RV where
 | mk (op n:Int) (k env:List RV) (b:Tm)
def Tm.z:Tm:=.mk 0 0 []
def RV.enc:RV→FV
 | .mk op n k env (.mk bo bn bk)=>.fp [.int .i64 op,.int .i64 n,.sl (encL k),.sl (encL env),.int .i64 bo,.int .i64 bn,.sl (bk.map Tm.enc)] 0
where
 encL:List RV→List FV
  | []=>[]
  | v::l=>v.enc::encL l
theorem Agi (l:List RV):RV.enc.encL l=l.map RV.enc:=by
 induction l with
 | nil=>rfl
 | cons t l ih=>simp [RV.enc.encL,ih]
theorem HK (op n:Int) (k env:List RV) (bo bn:Int) (bk:List Tm):(RV.mk op n k env (.mk bo bn bk)).enc =
  .fp [.int .i64 op,.int .i64 n,.sl (k.map RV.enc),.sl (env.map RV.enc),.int .i64 bo,.int .i64 bn,.sl (bk.map Tm.enc)] 0:=by simp only [RV.enc,Agi]
def RV.op:RV→Int
 | .mk op _ _ _ _=>op
def RV.n:RV→Int
 | .mk _ n _ _ _=>n
def RV.k:RV→List RV
 | .mk _ _ k _ _=>k
def RV.env:RV→List RV
 | .mk _ _ _ env _=>env
def RV.b:RV→Tm
 | .mk _ _ _ _ b=>b
def RV.var (n:Int):RV:=.mk 1 n [] [] .z
def RV.clo (env:List RV) (b:Tm):RV:=.mk 0 0 [] env b
def RV.zero:RV:=.mk 11 0 [] [] .z
def RV.node (op n:Int) (k:List RV):RV:=.mk op n k [] .z
theorem MV (v:RV):v.enc=.fp [.int .i64 v.op,.int .i64 v.n,.sl (v.k.map RV.enc),.sl (v.env.map RV.enc),.int .i64 v.b.op,.int .i64 v.b.n,.sl (v.b.kids.map Tm.enc)] 0:=by
 obtain ⟨op,n,k,env,⟨bo,bn,bk⟩⟩:=v;exact HK ..
theorem UM (t:Tm):Tm.enc t=.agg [.int .i64 t.op,.int .i64 t.n,.sl (t.kids.map Tm.enc)]:=by cases t;exact Ag ..
theorem Ny (v:RV):v.enc.cells.length=1:=by obtain ⟨op,n,k,env,⟨bo,bn,bk⟩⟩:=v;rfl
theorem Uw (v:RV):v.enc.cells.all FV.one=true:=by obtain ⟨op,n,k,env,⟨bo,bn,bk⟩⟩:=v;rfl
theorem Adq (v:RV):v.enc.cells=[v.enc]:=by obtain ⟨op,n,k,env,⟨bo,bn,bk⟩⟩:=v;rfl
theorem tVs:EE.T 87=some ⟨1,24,.slice 73,[.nils]⟩:=by kernel_rfl
theorem tVp:EE.T 73=some ⟨1,8,.ptr,[.fv .nilp]⟩:=by kernel_rfl
theorem sV:SliceT EE 87 1:=⟨_,_,_,_,_,tVs,tVp,rfl,by decide,by decide⟩
theorem Jl (l:List RV):BF 1 (l.map RV.enc)=true:=by
 cases l with
 | nil=>rfl
 | cons a l=>simp only [Aus,BF,Ny,beq_self_eq_true]
theorem Akm (s:Nat) (h:Hp) (k:IV→Hp→List Ref→List Ref→Option (IV×Hp)):Az (Ak EE 87 0 []) s h k=k (.clip []) h [] [] :=
 Cp tVs tVp (by decide) (cells:=[]) rfl k
theorem Tz (a:RV) (s:Nat) (h:Hp) (k:IV→Hp→List Ref→List Ref→Option (IV×Hp)):Az (Ak EE 87 1 [(0,.fv a.enc)]) s h k=k (.clip [a.enc]) h [] []:=by
 obtain ⟨op,n,kk,env,⟨bo,bn,bk⟩⟩:=a;rw [HK];exact Cp tVs tVp (by decide) (cells:=[.fp [.int .i64 op,.int .i64 n,.sl (kk.map RV.enc),.sl (env.map RV.enc),.int .i64 bo,.int .i64 bn,.sl (bk.map Tm.enc)] 0]) rfl k
theorem Ap6 (a b:RV) (s:Nat) (h:Hp) (k:IV→Hp→List Ref→List Ref→Option (IV×Hp)):Az (Ak EE 87 2 [(0,.fv a.enc),(1,.fv b.enc)]) s h k=k (.clip [a.enc,b.enc]) h [] []:=by
 obtain ⟨op,n,kk,env,⟨bo,bn,bk⟩⟩:=a;obtain ⟨op',n',kk',env',⟨bo',bn',bk'⟩⟩:=b;rw [HK,HK];exact Cp tVs tVp (by decide) (cells:=[.fp [.int .i64 op,.int .i64 n,.sl (kk.map RV.enc),.sl (env.map RV.enc),.int .i64 bo,.int .i64 bn,.sl (bk.map Tm.enc)] 0,.fp [.int .i64 op',.int .i64 n',.sl (kk'.map RV.enc),.sl (env'.map RV.enc),.int .i64 bo',.int .i64 bn',.sl (bk'.map Tm.enc)] 0]) rfl k
theorem AqC (a b c d:RV) (s:Nat) (h:Hp) (k:IV→Hp→List Ref→List Ref→Option (IV×Hp)):Az (Ak EE 87 4 [(0,.fv a.enc),(1,.fv b.enc),(2,.fv c.enc),(3,.fv d.enc)]) s h k =
  k (.clip [a.enc,b.enc,c.enc,d.enc]) h [] []:=by
 have key:∀x:RV,∃l,x.enc=.fp l 0:=fun x=>⟨_,MV x⟩;obtain ⟨la,ha⟩:=key a;obtain ⟨lb,hb⟩:=key b;obtain ⟨lc,hc⟩:=key c;obtain ⟨ld,hd⟩:=key d;rw [ha,hb,hc,hd];exact Cp tVs tVp (by decide) (cells:=[.fp la 0,.fp lb 0,.fp lc 0,.fp ld 0]) rfl k
theorem AfT (e:RV) (s:Nat) (own:List (Nat×Blk)) (ext:List Blk) (k:IV→Hp→List Ref→List Ref→Option (IV×Hp)) :
  Az (AW EE s false .append [87,87] [.nils,.clip [e.enc]]) s ⟨own,ext⟩ k=CH own s (AZ own s (.tok 1 1) fun own=>k (.app (.own s) [e.enc]) ⟨own,ext⟩ [] [.own s]) :=
 Mg sV (.clip _) (Jl [e]) rfl (by simp) (.inl rfl) s own ext k
theorem Vj {es:List RV} (hb:es.length+1≤1000000) (e:RV) (r s:Nat) (own:List (Nat×Blk)) (ext:List Blk) (k:IV→Hp→List Ref→List Ref→Option (IV×Hp)) :
  Az (AW EE s false .append [87,87] [.app (.own r) (es.map RV.enc),.clip [e.enc]]) s ⟨own,ext⟩ k =
   E6 own r fun b=>Ae6 b es.length 1 (AZ own r (.tok (es.length+1) 1) fun own=>k (.app (.own r) ((es++[e]).map RV.enc)) ⟨own,ext⟩ [.own r] [.own r]):=by
 rw [TY sV (.clip [e.enc]) (Jl [e]) (Jl es) (by simp [Uw]) (by simpa using hb) r s own ext k];simp only [List.length_map,List.map_append,Aus,Aur,Auq,List.length_nil,Nat.zero_add]
theorem R2 {n:Nat} (hn:0<n) (env vs:List RV) (hv:vs≠[]) (hb:env.length+vs.length≤1000000):BM (SS dt n 58 [.fv (.sl (env.map RV.enc)),.fv (.sl (vs.map RV.enc))] ⟨[],[]⟩) (.sl ((env++vs).map RV.enc)):=by
 obtain ⟨n,rfl⟩:∃k,n=k+1:=⟨n - 1,by omega⟩;rw [c58];have hvs:(vs.map RV.enc).isEmpty=false:=by cases vs with
  | nil=>exact absurd rfl hv
  | cons _ _=>rfl
 cases env with
 | nil =>
  simp only [S58,↓XX,XY,↓reduceIte,Nat.reduceBEq,Nat.reduceAdd,Int.reduceEq,Int.reduceLT,Int.reduceLE,↓Akm,↓Akp sV (.sl []) (.inr rfl),↓Mg sV (.sl (vs.map RV.enc)) (Jl vs) hvs (by simp;simp at hb;omega) (.inr rfl),List.nil_append];exact Bf rfl _
 | cons a env =>
  simp only [S58,↓XX,XY,↓reduceIte,Nat.reduceBEq,Nat.reduceAdd,Int.reduceEq,Int.reduceLT,Int.reduceLE,↓Akm];have h1:((a::env).map RV.enc).isEmpty=false:=rfl;have h0:=fun {β:Type}=>Mg (β:=β) sV (.sl ((a::env).map RV.enc)) (Jl (a::env)) h1 (by simp only [List.length_map];omega) (.inr rfl:IV.clip []=.nils∨IV.clip []=.clip []);have h2:=fun {β:Type}=>TY (β:=β) sV (.sl (vs.map RV.enc)) (Jl vs) (Jl (a::env)) (by simp [Uw]) (by simp only [List.length_map];omega);simp only [Aus] at h0 h2;simp only [↓XX,XY,↓reduceIte,Nat.reduceBEq,Nat.reduceAdd,Int.reduceEq,Int.reduceLT,Int.reduceLE,↓h0,↓h2,↓HC,List.map_append,List.cons_append];exact Bf rfl _
theorem AfR {n:Nat} (hn:0<n) (s nd:Int) (h1:s≤1000000) (h0:0≤s):Bu (SS dt n 70 [.ptr (.ext 0) 0] ⟨[],[.row [iv s,iv nd,iv 0] false]⟩) (.bool (decide (s+1≤1000)))
  [.row [iv (s+1),iv nd,iv (if s+1≤1000 then 0 else 17)] false]:=by
 obtain ⟨n,rfl⟩:∃k,n=k+1:=⟨n - 1,by omega⟩;rw [c70];have hw:w64 (s+1)=s+1:=by rw [Au]<;>omega
 by_cases h:s+1≤1000
 ·have h':¬ 1000<s+1:=by omega
  simp only [Wi,Vm,Vo,Wn,S70,↓XX,XY,↓reduceIte,Nat.reduceBEq,Nat.reduceAdd,Int.reduceEq,Int.reduceLT,Int.reduceLE,hw,h,h'];exact AJ _ _ _
 ·have h':1000<s+1:=by omega
  simp only [Wi,Vm,Vo,Wn,S70,↓XX,XY,↓reduceIte,Nat.reduceBEq,Nat.reduceAdd,Int.reduceEq,Int.reduceLT,Int.reduceLE,hw,h,h'];exact AJ _ _ _
def A2 (ev:Int→Int→Tm→Option (RV×Int×Int)) (op:Int) (env:List RV):Nat→List Tm→Int→Int→Option (List RV×Int×Int)
 | _,[],s,e=>some ([],s,e)
 | i,t::l,s,e=>if 0<Ah op i then (A2 ev op env (i+1) l s e).map fun (vs,s,e)=>(.clo env t::vs,s,e) else
  match ev s e t with
  | none=>none
  | some (v,s,e)=>(A2 ev op env (i+1) l s e).map fun (vs,s,e)=>(v::vs,s,e)
mutual
def AB:Nat→Int→Int→Tm→List RV→Option (RV×Int×Int)
 | 0,_,_,_,_=>none
 | f+1,s,e,.mk op m ks,env =>
  if e≠0 then some (.zero,s,e) else if 900000<env.length then none else
  if op=1 then
   if m<env.length then (if 0≤m then (env[(env.length - 1 - m).toNat]?).map fun v=>(v,s,e) else none)
   else if m≤4611686018427387904 then some (.var (env.length - 1 - m),s,e) else none
  else if f≤ks.length then none else if 900000<ks.length then none else
  match A2 (fun s e t=>AB f s e t env) op env 0 ks s e with
  | none=>none
  | some (vs,s,e)=>headR f s e (.node op m vs)
def headR:Nat→Int→Int→RV→Option (RV×Int×Int)
 | 0,_,_,_=>none
 | f+1,s,e,v =>
  if e≠0 then some (v,s,e) else if s<0∨1000000<s then none else
  if v.op=5 then (match v.k[0]? with
   | none=>none
   | some k0=>if k0.op=4 then
     (if s+1≤1000 then (match k0.k[1]?,v.k[1]? with
      | some c,some x=>if 900000<c.env.length then none else AB f (s+1) 0 c.b (c.env++[x])
      | _,_=>none) else some (v,s+1,17))
    else some (v,s,e))
  else if v.op=8∨v.op=9 then (match v.k[0]? with
   | none=>none
   | some k0=>if k0.op=7 then
     (if s+1≤1000 then (k0.k[(1+v.op - 8).toNat]?).map fun x=>(x,s+1,0) else some (v,s+1,17))
    else some (v,s,e))
  else if v.op=30 then (match v.k[0]? with
   | none=>none
   | some k0=>if k0.op=19 then
     (if s+1≤1000 then (k0.k[0]?).map fun x=>(x,s+1,0) else some (v,s+1,17))
    else some (v,s,e))
  else if v.op=19 then (match v.k[0]? with
   | none=>none
   | some k0=>if k0.op=30 then
     (if s+1≤1000 then (k0.k[0]?).map fun x=>(x,s+1,0) else some (v,s+1,17))
    else some (v,s,e))
  else if v.op=13 then (match v.k[0]?,v.k[1]?,v.k[2]?,v.k[3]? with
   | some k0,some k1,some k2,some k3 =>
    if k3.op=11 then (if s+1≤1000 then some (k1,s+1,0) else some (v,s+1,17))
    else if k3.op=12 then
     (if s+1≤1000 then (match k3.k[0]? with
      | none=>none
      | some x=>(match headR f (s+1) 0 (.node 13 0 [k0,k1,k2,x]) with
       | none=>none
       | some (h,s,e)=>if 900000<k2.env.length then none else AB f s e k2.b (k2.env++[x,h])))
     else some (v,s+1,17))
    else some (v,s,e)
   | _,_,_,_=>none)
  else some (v,s,e)
end
theorem UU {β:Type} {l:List RV} {i:Nat} {v:RV} (h:l[i]?=some v) (k:IV→Option β):A6 1 (.fv (.sl (l.map RV.enc))) (iv i) k=k (.fv (.fp [v.enc] 0)):=by
 have h1:(l.map RV.enc)[i]?=some v.enc:=by rw [List.getElem?_map,h];rfl
 rw [Bs h1 (Ny v),Adq]
def RP (f:Nat):Prop:=∀(s e:Int) (t:Tm) (env:List RV) (v:RV) (s' e' nd:Int),AB f s e t env=some (v,s',e')→∀n,f+1≤n →
 Bu (SS dt n 42 [.ptr (.ext 0) 0,.fv t.enc,.fv (.sl (env.map RV.enc))] ⟨[],[.row [iv s,iv nd,iv e] false]⟩) v.enc [.row [iv s',iv nd,iv e'] false]
def Re (f:Nat):Prop:=∀(s e:Int) (v w:RV) (s' e' nd:Int),headR f s e v=some (w,s',e')→∀n,f+1≤n →
 Bu (SS dt n 59 [.ptr (.ext 0) 0,.fv v.enc] ⟨[],[.row [iv s,iv nd,iv e] false]⟩) w.enc [.row [iv s',iv nd,iv e'] false]
abbrev Abz (op m:Int) (ks:List Tm) (K:IV) (tok:List (Nat×Blk)) (s nd e:Int):Hp :=
 ⟨(44040192,.row [iv op,iv m,.fv (.sl (ks.map Tm.enc))] false)::(44047365,.row [iv op,iv m,K,.nils,iv 0,iv 0,.nils] false)::tok,[.row [iv s,iv nd,iv e] false]⟩
theorem Ao8 {op m:Int} (l:List RV):(RV.node op m l).enc=.fp [.int .i64 op,.int .i64 m,.sl (l.map RV.enc),.sl [],.int .i64 0,.int .i64 0,.sl []] 0:=by rw [RV.node,Tm.z,HK];rfl
theorem Adi {f:Nat} (he:RP f) (hh:Re f):RP (f+1):=by
 intro s e t env v s' e' nd hev n hn;obtain ⟨n,rfl⟩:∃k,n=k+1:=⟨n - 1,by omega⟩;rw [c42];obtain ⟨op,m,ks⟩:=t;rw [Ag];rw [AB] at hev;by_cases h0:e≠0
 ·rw [if_pos h0] at hev;simp only [Aum,Aun] at hev;obtain ⟨rfl,rfl,rfl⟩:=hev;simp only [Iu,ID,HQ,Iz,HL,I1,Ia,HV,IY,I0,Iq,IR,Ir,IP,HZ,H8,HO,HP,Ic,IE,Ix,HY,S42,↓XX,XY,↓reduceIte,Nat.reduceBEq,Nat.reduceAdd,Int.reduceEq,Int.reduceLT,Int.reduceLE,h0];exact ⟨_,_,rfl,_,_,fun _ _=>rfl⟩
 ·have h0':e=0:=by omega
  subst h0';rw [if_neg h0] at hev;by_cases hlen:900000<env.length
  ·rw [if_pos hlen] at hev;cases hev
  ·rw [if_neg hlen] at hev;by_cases h1:op=1
   ·rw [if_pos h1] at hev;subst h1;by_cases h2:m<env.length
    ·rw [if_pos h2] at hev;by_cases h3:0≤m
     ·rw [if_pos h3] at hev;cases hg:env[(env.length - 1 - m).toNat]? with
      | none=>rw [hg] at hev;cases hev
      | some u =>
       rw [hg] at hev;simp only [Aup,Aum,Aun] at hev;obtain ⟨rfl,rfl,rfl⟩:=hev;have e1:w64 ((env.length:Int) - 1)=env.length - 1:=by rw [Au]<;>omega
       have e2:w64 ((env.length:Int) - 1 - m)=(((env.length:Int) - 1 - m).toNat:Int):=by rw [Au]<;>omega
       simp only [Iu,ID,HQ,Iz,HL,I1,Ia,HV,IY,I0,Iq,IR,Ir,IP,HZ,H8,HO,HP,Ic,IE,Ix,HY,S42,↓XX,XY,↓reduceIte,Nat.reduceBEq,Nat.reduceAdd,Int.reduceEq,Int.reduceLT,Int.reduceLE,h2,e1,e2,↓UU hg];exact AJ _ _ _
     ·rw [if_neg h3] at hev;cases hev
    ·rw [if_neg h2] at hev;by_cases h3:m≤4611686018427387904
     ·rw [if_pos h3] at hev;simp only [Aum,Aun] at hev;obtain ⟨rfl,rfl,rfl⟩:=hev;have e1:w64 ((env.length:Int) - 1)=env.length - 1:=by rw [Au]<;>omega
      have e2:w64 ((env.length:Int) - 1 - m)=(env.length:Int) - 1 - m:=by rw [Au]<;>omega
      simp only [Iu,ID,HQ,Iz,HL,I1,Ia,HV,IY,I0,Iq,IR,Ir,IP,HZ,H8,HO,HP,Ic,IE,Ix,HY,S42,↓XX,XY,↓reduceIte,Nat.reduceBEq,Nat.reduceAdd,Int.reduceEq,Int.reduceLT,Int.reduceLE,h2,e1,e2];exact ⟨_,_,rfl,_,_,fun _ _=>rfl⟩
     ·rw [if_neg h3] at hev;cases hev
   ·rw [if_neg h1] at hev;by_cases hf:f≤ks.length
    ·rw [if_pos hf] at hev;cases hev
    ·rw [if_neg hf] at hev;by_cases hk9:900000<ks.length
     ·rw [if_pos hk9] at hev;cases hev
     ·rw [if_neg hk9] at hev;cases hkg:A2 (fun s e t=>AB f s e t env) op env 0 ks s 0 with
      | none=>rw [hkg] at hev;cases hev
      | some q =>
      obtain ⟨vs,s1,e1⟩:=q;rw [hkg] at hev;simp only at hev;simp only [Iu,ID,HQ,Iz,HL,I1,Ia,HV,IY,I0,Iq,IR,Ir,IP,HZ,H8,HO,HP,Ic,IE,Ix,HY,S42,↓XX,XY,↓reduceIte,Nat.reduceBEq,Nat.reduceAdd,Int.reduceEq,Int.reduceLT,Int.reduceLE,h1,↓AG,XD,heldB,AO,XE];refine A7 (Q:=fun r=>Bu r _ _) (fun k V H=>∃pre rest done s2 e2 us s3 e3,ks=pre++rest∧rest.length=k∧done.length=pre.length∧V=[.ptr (.ext 0) 0,.fv (.sl (env.map RV.enc)),.ptr (.own 44040192) 0,.ptr (.own 44047365) 0,iv pre.length] ∧
       (
        (pre=[]∧H=Abz op m ks .nils [] s2 nd e2) ∨
        (∃r,(r=44052494∨r=44053518)∧pre≠[]∧H=Abz op m ks (.app (.own r) (done.map RV.enc)) [(r,.tok done.length 1)] s2 nd e2)) ∧
       A2 (fun s e t=>AB f s e t env) op env pre.length rest s2 e2=some (us,s3,e3)∧headR f s3 e3 (.node op m (done++us))=some (v,s',e'))
       ?_ n ks.length _ _ (by omega) ⟨[],ks,[],s,0,vs,s1,e1,rfl,rfl,rfl,rfl,.inl ⟨rfl,rfl⟩,hkg,hev⟩
      rintro k V H rec ⟨pre,rest,done,s2,e2,us,s3,e3,hk,hl,hdl,rfl,hH,hkids,hhead⟩ hrec;have hkl:ks.length=pre.length+rest.length:=by rw [hk];simp
      have zenc:∀l:List RV,(RV.node op m l).enc=.fp [.int .i64 op,.int .i64 m,.sl (l.map RV.enc),.sl [],.int .i64 0,.int .i64 0,.sl []] 0:=fun l=>Ao8 l;cases rest with
      | nil =>
       simp only [A2,Aum,Aun] at hkids;obtain ⟨rfl,rfl,rfl⟩:=hkids;rw [List.append_nil] at hhead;have hc:=hh s2 e2 _ v s' e' nd hhead n (by omega);rw [zenc] at hc;have hpre:ks=pre:=by simpa using hk
       subst hpre;rcases hH with ⟨rfl,rfl⟩ | ⟨r,hr,hne,rfl⟩
       ·have hd:done=[]:=List.length_eq_zero_iff.1 hdl;subst hd;have hcall:=fun k=>Rw (k:=k) (own:=[(44040192,.row [iv op,iv m,.fv (.sl (([]:List Tm).map Tm.enc))] false),(44047365,.row [iv op,iv m,.nils,.nils,iv 0,iv 0,.nils] false)])
         (cells:=[iv op,iv m,.nils,.nils,iv 0,iv 0,.nils]) (ro:=false) (s:=44047365) hc (Cj ..) (by simp [Ap]) rfl (by simp)
        simp only [↓UC,↓XX,XY,↓reduceIte,Nat.reduceBEq,Nat.reduceAdd,Int.reduceEq,Int.reduceLT,Int.reduceLE,Int.lt_irrefl,↓hcall];exact AJ _ _ _
       ·have hcall:=fun k=>Rw (k:=k) (own:=[(44040192,.row [iv op,iv m,.fv (.sl (ks.map Tm.enc))] false),(44047365,.row [iv op,iv m,.app (.own r) (done.map RV.enc),.nils,iv 0,iv 0,.nils] false),(r,.tok done.length 1)])
         (cells:=[iv op,iv m,.app (.own r) (done.map RV.enc),.nils,iv 0,iv 0,.nils]) (ro:=false) (s:=44047365) hc (Cj ..) (by simp [Ap]) rfl (by simp)
        simp only [↓UC,↓XX,XY,↓reduceIte,Nat.reduceBEq,Nat.reduceAdd,Int.reduceEq,Int.reduceLT,Int.reduceLE,Int.lt_irrefl,↓hcall];exact AJ _ _ _
      | cons t rest =>
       have hi:(pre.length:Int)<ks.length:=by rw [hkl];simp;omega
       have hg:=Cc hk;have hb:=FA (n:=n) (by omega) op pre.length;have hwi:w64 ((pre.length:Int)+1)=((pre++[t]).length:Int):=(Au (by omega) (by omega)).trans (by simp);have hbi:(0<(Ah op pre.length:Int)) ↔ 0<Ah op pre.length:=by omega
       have hd9:done.length+1≤1000000:=by omega
       simp only [A2] at hkids;simp only [Auq] at hl;by_cases hbp:0<Ah op pre.length
       ·rw [if_pos hbp] at hkids;cases hkk:A2 (fun s e t=>AB f s e t env) op env (pre.length+1) rest s2 e2 with
        | none=>rw [hkk] at hkids;cases hkids
        | some q =>
        obtain ⟨us',s4,e4⟩:=q;rw [hkk] at hkids;simp only [Aup,Aum,Aun] at hkids;obtain ⟨rfl,rfl,rfl⟩:=hkids;have hbp':0<(Ah op pre.length:Int):=by omega
        have hce:(RV.clo env t).enc=.fp [.int .i64 0,.int .i64 0,.sl [],.sl (env.map RV.enc),.int .i64 t.op,.int .i64 t.n,.sl (t.kids.map Tm.enc)] 0:=by rw [MV];rfl
        have hnext:∀tk,(tk=44052494∨tk=44053518)→Bu (rec [.ptr (.ext 0) 0,.fv (.sl (env.map RV.enc)),.ptr (.own 44040192) 0,.ptr (.own 44047365) 0,iv (pre++[t]).length]
          (Abz op m ks (.app (.own tk) ((done++[RV.clo env t]).map RV.enc)) [(tk,.tok (done++[RV.clo env t]).length 1)] s2 nd e2)) v.enc [.row [iv s',iv nd,iv e'] false]:=fun tk htk =>
         hrec rest.length _ _ (by omega) ⟨pre++[t],rest,done++[.clo env t],s2,e2,us',s4,e4,by rw [hk];simp,rfl,by simp [hdl],rfl,.inr ⟨tk,htk,by simp,rfl⟩,by simpa using hkk,by simpa using hhead⟩
        obtain ⟨o,p,l⟩:=t;simp only [Tm.op,Tm.n,Tm.kids] at hce;have ha0:=fun {s own ext k}=>AfT (RV.clo env (.mk o p l)) s own ext k;have ha1:=fun {r s own ext k}=>Vj hd9 (RV.clo env (.mk o p l)) r s own ext k;rw [hce] at ha0 ha1;have hbs:=fun (tl:List (Nat×Blk)) (K:IV) (own:List (Nat×Blk)) (hown:own=(44040192,.row [iv op,iv m,.fv (.sl (ks.map Tm.enc))] false)::(44047365,.row [iv op,iv m,K,.nils,iv 0,iv 0,.nils] false)::tl) (hl:Ap 44052492 own=some (.row [iv 0,iv 0,.nils,.fv (.sl (env.map RV.enc)),iv o,iv p,.fv (.sl (l.map Tm.enc))] false)) (own':List (Nat×Blk)) (ho) s ext (k:IV→Hp→List Ref→List Ref→Option (IV×Hp)) =>
         Ap3 (E:=EE) (own:=own) (own':=own') tVs tVp rfl ⟨_,rfl⟩ hl (fc:=[.int .i64 0,.int .i64 0,.sl [],.sl (env.map RV.enc),.int .i64 o,.int .i64 p,.sl (l.map Tm.enc)]) rfl (by simp) ho s ext k
        rcases hH with ⟨hp0,rfl⟩ | ⟨r,hr,hne,rfl⟩
        ·have hd0:done=[]:=List.length_eq_zero_iff.1 (by rw [hdl,hp0];rfl);subst hd0;have h9:=hnext _ (.inl rfl);simp only [List.nil_append,Aus,Aur,Auq,List.length_nil] at h9;rw [hce] at h9;have hb0:=fun s ext k=>hbs [(44052492,.row [iv 0,iv 0,.nils,.fv (.sl (env.map RV.enc)),iv o,iv p,.fv (.sl (l.map Tm.enc))] false)] .nils _ rfl (by simp [Ap])
          [(44040192,.row [iv op,iv m,.fv (.sl (ks.map Tm.enc))] false),(44047365,.row [iv op,iv m,.nils,.nils,iv 0,iv 0,.nils] false),(44052492,.row [iv 0,iv 0,.nils,.fv (.sl (env.map RV.enc)),iv o,iv p,.fv (.sl (l.map Tm.enc))] true)] (by simp [AL]) s ext k
         simp only [↓UC,↓XX,XY,↓reduceIte,Nat.reduceBEq,Nat.reduceAdd,Int.reduceEq,Int.reduceLT,Int.reduceLE,hi,↓Bs (AN hg) (Ba _ _ _),↓B8,↓Af hb,hbp',hwi,↓hb0,↓ha0,↓AG,XD,heldB,AO,XE];exact h9
        ·have h9:=hnext r hr;rw [show (done++[RV.clo env (Tm.mk o p l)]).length=done.length+1 by simp] at h9
         simp only [List.map_append,Aus,Aur] at h9;rw [hce] at h9;simp only [List.map_append,Aus,Aur] at ha1;rw [hce] at ha1;have hb0:=fun s ext k=>hbs [(r,.tok done.length 1),(44052492,.row [iv 0,iv 0,.nils,.fv (.sl (env.map RV.enc)),iv o,iv p,.fv (.sl (l.map Tm.enc))] false)] (.app (.own r) (done.map RV.enc)) _ rfl (by rcases hr with rfl | rfl<;>simp [Ap])
          [(44040192,.row [iv op,iv m,.fv (.sl (ks.map Tm.enc))] false),(44047365,.row [iv op,iv m,.app (.own r) (done.map RV.enc),.nils,iv 0,iv 0,.nils] false),(r,.tok done.length 1),(44052492,.row [iv 0,iv 0,.nils,.fv (.sl (env.map RV.enc)),iv o,iv p,.fv (.sl (l.map Tm.enc))] true)]
          (by rcases hr with rfl | rfl<;>simp [AL]) s ext k
         rcases hr with rfl | rfl
         ·simp only [↓UC,↓XX,XY,↓reduceIte,Nat.reduceBEq,Nat.reduceAdd,Int.reduceEq,Int.reduceLT,Int.reduceLE,hi,↓Bs (AN hg) (Ba _ _ _),↓B8,↓Af hb,hbp',hwi,↓hb0,↓ha1,↓HC,↓AG,XD,heldB,AO,XE];exact h9
         ·simp only [↓UC,↓XX,XY,↓reduceIte,Nat.reduceBEq,Nat.reduceAdd,Int.reduceEq,Int.reduceLT,Int.reduceLE,hi,↓Bs (AN hg) (Ba _ _ _),↓B8,↓Af hb,hbp',hwi,↓hb0,↓ha1,↓HC,↓AG,XD,heldB,AO,XE];exact h9
       ·rw [if_neg hbp] at hkids;have hbp':¬ 0<(Ah op pre.length:Int):=by omega
        cases hev1:AB f s2 e2 t env with
        | none=>rw [hev1] at hkids;cases hkids
        | some q =>
        obtain ⟨v1,s4,e4⟩:=q;rw [hev1] at hkids;simp only at hkids;cases hkk:A2 (fun s e t=>AB f s e t env) op env (pre.length+1) rest s4 e4 with
        | none=>rw [hkk] at hkids;cases hkids
        | some q =>
        obtain ⟨us',s5,e5⟩:=q;rw [hkk] at hkids;simp only [Aup,Aum,Aun] at hkids;obtain ⟨rfl,rfl,rfl⟩:=hkids;have hc:=he s2 e2 t env v1 s4 e4 nd hev1 n (by omega);have hnext:∀tk,(tk=44052494∨tk=44053518)→Bu (rec [.ptr (.ext 0) 0,.fv (.sl (env.map RV.enc)),.ptr (.own 44040192) 0,.ptr (.own 44047365) 0,iv (pre++[t]).length]
          (Abz op m ks (.app (.own tk) ((done++[v1]).map RV.enc)) [(tk,.tok (done++[v1]).length 1)] s4 nd e4)) v.enc [.row [iv s',iv nd,iv e'] false]:=fun tk htk =>
         hrec rest.length _ _ (by omega) ⟨pre++[t],rest,done++[v1],s4,e4,us',s5,e5,by rw [hk];simp,rfl,by simp [hdl],rfl,.inr ⟨tk,htk,by simp,rfl⟩,by simpa using hkk,by simpa using hhead⟩
        obtain ⟨o,p,l⟩:=t;rw [Ag] at hc;rcases hH with ⟨hp0,rfl⟩ | ⟨r,hr,hne,rfl⟩
        ·have hd0:done=[]:=List.length_eq_zero_iff.1 (by rw [hdl,hp0];rfl);subst hd0;have h9:=hnext _ (.inr rfl);simp only [List.nil_append,Aus,Aur,Auq,List.length_nil] at h9;simp only [↓UC,↓XX,XY,↓reduceIte,Nat.reduceBEq,Nat.reduceAdd,Int.reduceEq,Int.reduceLT,Int.reduceLE,hi,↓Bs (AN hg) (Ba _ _ _),↓B8,↓Af hb,hbp',hwi,↓Jv hc (Cj _ _ _ _ _ _),↓Tz,↓AfT,↓AG,XD,heldB,AO,XE];exact h9
        ·have h9:=hnext r hr;rw [show (done++[v1]).length=done.length+1 by simp] at h9
         rcases hr with rfl | rfl
         ·simp only [↓UC,↓XX,XY,↓reduceIte,Nat.reduceBEq,Nat.reduceAdd,Int.reduceEq,Int.reduceLT,Int.reduceLE,hi,↓Bs (AN hg) (Ba _ _ _),↓B8,↓Af hb,hbp',hwi,↓Jv hc (Cj _ _ _ _ _ _),↓Tz,↓Vj hd9,↓HC,↓AG,XD,heldB,AO,XE];exact h9
         ·simp only [↓UC,↓XX,XY,↓reduceIte,Nat.reduceBEq,Nat.reduceAdd,Int.reduceEq,Int.reduceLT,Int.reduceLE,hi,↓Bs (AN hg) (Ba _ _ _),↓B8,↓Af hb,hbp',hwi,↓Jv hc (Cj _ _ _ _ _ _),↓Tz,↓Vj hd9,↓HC,↓AG,XD,heldB,AO,XE];exact h9
def RV.cl (v:RV):List FV:=[.int .i64 v.op,.int .i64 v.n,.sl (v.k.map RV.enc),.sl (v.env.map RV.enc),.int .i64 v.b.op,.int .i64 v.b.n,.sl (v.b.kids.map Tm.enc)]
section
variable {β:Type} (v:RV)
theorem Aps (k:IV→Option β):AE (.fv v.enc) k=k (.fv v.enc):=by rw [MV];rfl
theorem ArD (o:Nat) (k:IV→Option β):Ac o (.fv v.enc) k=k (.fv (.fp v.cl o)):=by rw [MV,Apr];rfl
theorem nc0 (k:FV→Option β):Dz v.cl 0 k=k (.int .i64 v.op):=rfl
theorem nc1 (k:FV→Option β):Dz v.cl 1 k=k (.int .i64 v.n):=rfl
theorem nc2 (k:FV→Option β):Dz v.cl 2 k=k (.sl (v.k.map RV.enc)):=rfl
theorem nc3 (k:FV→Option β):Dz v.cl 3 k=k (.sl (v.env.map RV.enc)):=rfl
theorem dc4 (k:List FV→Option β):FD v.cl 4 k=k [.int .i64 v.b.op,.int .i64 v.b.n,.sl (v.b.kids.map Tm.enc)]:=rfl
end
theorem GV {β:Type} {l:List RV} {v:RV} (h:l[0]?=some v) (k:IV→Option β):A6 1 (.fv (.sl (l.map RV.enc))) (iv 0) k=k (.fv (.fp [v.enc] 0)):=UU (i:=0) h k
theorem AgJ {β:Type} {l:List RV} {v:RV} (h:l[1]?=some v) (k:IV→Option β):A6 1 (.fv (.sl (l.map RV.enc))) (iv 1) k=k (.fv (.fp [v.enc] 0)):=UU (i:=1) h k
theorem Apm {β:Type} {l:List RV} {v:RV} (h:l[2]?=some v) (k:IV→Option β):A6 1 (.fv (.sl (l.map RV.enc))) (iv 2) k=k (.fv (.fp [v.enc] 0)):=UU (i:=2) h k
theorem AgS {β:Type} {l:List RV} {v:RV} (h:l[3]?=some v) (k:IV→Option β):A6 1 (.fv (.sl (l.map RV.enc))) (iv 3) k=k (.fv (.fp [v.enc] 0)):=UU (i:=3) h k
def XV:=Aul @Aps<|Aul @ArD<|Aul @nc0<|Aul @nc1<|Aul @nc2<|Aul @nc3 @dc4
set_option maxHeartbeats 1000000 in
set_option maxRecDepth 20000 in
theorem Ac5 {f:Nat} (he:RP f) (hh:Re f):Re (f+1):=by
 intro s e v w s' e' nd hev n hn;obtain ⟨n,rfl⟩:∃k,n=k+1:=⟨n - 1,by omega⟩;rw [c59];rw [headR] at hev;by_cases h0:e≠0
 ·rw [if_pos h0] at hev;simp only [Aum,Aun] at hev;obtain ⟨rfl,rfl,rfl⟩:=hev;simp only [↓FL,↓XX,XY,↓reduceIte,Nat.reduceBEq,Nat.reduceAdd,Int.reduceEq,Int.reduceLT,Int.reduceLE,h0];exact AJ _ _ _
 ·have h0':e=0:=by omega
  subst h0';rw [if_neg h0] at hev;by_cases hs:s<0∨1000000<s
  ·rw [if_pos hs] at hev;cases hev
  ·rw [if_neg hs] at hev;have hst:=AfR (n:=n) (by omega) s nd (by omega) (by omega);have Cn:∀{x:RV} {a b:Int},some (x,a,b)=some (w,s',e')→x=w∧a=s'∧b=e':=by
    intro x a b h;simp only [Aum,Aun] at h;exact h
   by_cases h5:v.op=5
   ·rw [if_pos h5] at hev;cases hk0:v.k[0]? with
    | none=>rw [hk0] at hev;cases hev
    | some k0 =>
     rw [hk0] at hev;simp only at hev;by_cases h4:k0.op=4
     ·rw [if_pos h4] at hev;by_cases hq:s+1≤1000
      ·rw [if_pos hq] at hev;simp only [hq,decide_true,if_true] at hst;cases hc:k0.k[1]? with
       | none=>rw [hc] at hev;cases hev
       | some c =>
        cases hx:v.k[1]? with
        | none=>rw [hc,hx] at hev;cases hev
        | some x =>
         rw [hc,hx] at hev;simp only at hev;by_cases hl:900000<c.env.length
         ·rw [if_pos hl] at hev;cases hev
         ·rw [if_neg hl] at hev;have hcall:=he (s+1) 0 c.b (c.env++[x]) w s' e' nd hev n (by omega);rw [UM] at hcall;have hp:=R2 (n:=n) (by omega) c.env [x] (by simp) (by simp;omega);simp only [Aus,Aur] at hp;simp only [↓FL,↓XX,XY,↓reduceIte,Nat.reduceBEq,Nat.reduceAdd,Int.reduceEq,Int.reduceLT,Int.reduceLE,↓XV,h5,↓GV hk0,h4,↓Dh hst (Cj _ _ _ _ _ _),↓AgJ hc,↓AgJ hx,↓Tz,↓Af hp,↓Jv hcall (Cj _ _ _ _ _ _)];exact AJ _ _ _
      ·rw [if_neg hq] at hev;obtain ⟨rfl,rfl,rfl⟩:=Cn hev;simp only [hq,decide_false,if_false] at hst;simp only [↓FL,↓XX,XY,↓reduceIte,Nat.reduceBEq,Nat.reduceAdd,Int.reduceEq,Int.reduceLT,Int.reduceLE,↓XV,h5,↓GV hk0,h4,↓Dh hst (Cj _ _ _ _ _ _)];exact AJ _ _ _
     ·rw [if_neg h4] at hev;obtain ⟨rfl,rfl,rfl⟩:=Cn hev;simp only [↓FL,↓XX,XY,↓reduceIte,Nat.reduceBEq,Nat.reduceAdd,Int.reduceEq,Int.reduceLT,Int.reduceLE,↓XV,h5,↓GV hk0,h4];exact AJ _ _ _
   ·rw [if_neg h5] at hev;by_cases h89:v.op=8∨v.op=9
    ·rw [if_pos h89] at hev;cases hk0:v.k[0]? with
     | none=>rw [hk0] at hev;cases hev
     | some k0 =>
      rw [hk0] at hev;simp only at hev;by_cases h7:k0.op=7
      ·rw [if_pos h7] at hev;by_cases hq:s+1≤1000
       ·rw [if_pos hq] at hev;simp only [hq,decide_true,if_true] at hst;cases hx:k0.k[(1+v.op - 8).toNat]? with
        | none=>rw [hx] at hev;cases hev
        | some x =>
         rw [hx] at hev;obtain ⟨rfl,rfl,rfl⟩:=Cn hev;rcases h89 with h8 | h9
         ·rw [h8] at hx;have hw1:w64 (1+8)=9:=by decide
          have hw2:w64 (9 - 8)=1:=by decide
          simp only [↓FL,↓XX,XY,↓reduceIte,Nat.reduceBEq,Nat.reduceAdd,Int.reduceEq,Int.reduceLT,Int.reduceLE,↓XV,h8,↓GV hk0,h7,↓Dh hst (Cj _ _ _ _ _ _),hw1,hw2,↓AgJ (l:=k0.k) (v:=x) hx];exact AJ _ _ _
         ·rw [h9] at hx;have hw1:w64 (1+9)=10:=by decide
          have hw2:w64 (10 - 8)=2:=by decide
          simp only [↓FL,↓XX,XY,↓reduceIte,Nat.reduceBEq,Nat.reduceAdd,Int.reduceEq,Int.reduceLT,Int.reduceLE,↓XV,h9,↓GV hk0,h7,↓Dh hst (Cj _ _ _ _ _ _),hw1,hw2,↓Apm (l:=k0.k) (v:=x) hx];exact AJ _ _ _
       ·rw [if_neg hq] at hev;obtain ⟨rfl,rfl,rfl⟩:=Cn hev;simp only [hq,decide_false,if_false] at hst;rcases h89 with h8 | h9
        ·simp only [↓FL,↓XX,XY,↓reduceIte,Nat.reduceBEq,Nat.reduceAdd,Int.reduceEq,Int.reduceLT,Int.reduceLE,↓XV,h8,↓GV hk0,h7,↓Dh hst (Cj _ _ _ _ _ _)];exact AJ _ _ _
        ·simp only [↓FL,↓XX,XY,↓reduceIte,Nat.reduceBEq,Nat.reduceAdd,Int.reduceEq,Int.reduceLT,Int.reduceLE,↓XV,h9,↓GV hk0,h7,↓Dh hst (Cj _ _ _ _ _ _)];exact AJ _ _ _
      ·rw [if_neg h7] at hev;obtain ⟨rfl,rfl,rfl⟩:=Cn hev;rcases h89 with h8 | h9
       ·simp only [↓FL,↓XX,XY,↓reduceIte,Nat.reduceBEq,Nat.reduceAdd,Int.reduceEq,Int.reduceLT,Int.reduceLE,↓XV,h8,↓GV hk0,h7];exact AJ _ _ _
       ·simp only [↓FL,↓XX,XY,↓reduceIte,Nat.reduceBEq,Nat.reduceAdd,Int.reduceEq,Int.reduceLT,Int.reduceLE,↓XV,h9,↓GV hk0,h7];exact AJ _ _ _
    ·rw [if_neg h89] at hev;have h8:¬ v.op=8:=fun e=>h89 (.inl e);have h9:¬ v.op=9:=fun e=>h89 (.inr e);by_cases h30:v.op=30
     ·rw [if_pos h30] at hev;cases hk0:v.k[0]? with
      | none=>rw [hk0] at hev;cases hev
      | some k0 =>
       rw [hk0] at hev;simp only at hev;by_cases h7:k0.op=19
       ·rw [if_pos h7] at hev;by_cases hq:s+1≤1000
        ·rw [if_pos hq] at hev;simp only [hq,decide_true,if_true] at hst;cases hx:k0.k[0]? with
         | none=>rw [hx] at hev;cases hev
         | some x =>
          rw [hx] at hev;obtain ⟨rfl,rfl,rfl⟩:=Cn hev;simp only [↓FL,↓XX,XY,↓reduceIte,Nat.reduceBEq,Nat.reduceAdd,Int.reduceEq,Int.reduceLT,Int.reduceLE,↓XV,h30,↓GV hk0,h7,↓Dh hst (Cj _ _ _ _ _ _),↓GV hx];exact AJ _ _ _
        ·rw [if_neg hq] at hev;obtain ⟨rfl,rfl,rfl⟩:=Cn hev;simp only [hq,decide_false,if_false] at hst;simp only [↓FL,↓XX,XY,↓reduceIte,Nat.reduceBEq,Nat.reduceAdd,Int.reduceEq,Int.reduceLT,Int.reduceLE,↓XV,h30,↓GV hk0,h7,↓Dh hst (Cj _ _ _ _ _ _)];exact AJ _ _ _
       ·rw [if_neg h7] at hev;obtain ⟨rfl,rfl,rfl⟩:=Cn hev;simp only [↓FL,↓XX,XY,↓reduceIte,Nat.reduceBEq,Nat.reduceAdd,Int.reduceEq,Int.reduceLT,Int.reduceLE,↓XV,h30,↓GV hk0,h7];exact AJ _ _ _
     ·rw [if_neg h30] at hev;by_cases h19:v.op=19
      ·rw [if_pos h19] at hev;cases hk0:v.k[0]? with
       | none=>rw [hk0] at hev;cases hev
       | some k0 =>
        rw [hk0] at hev;simp only at hev;by_cases h7:k0.op=30
        ·rw [if_pos h7] at hev;by_cases hq:s+1≤1000
         ·rw [if_pos hq] at hev;simp only [hq,decide_true,if_true] at hst;cases hx:k0.k[0]? with
          | none=>rw [hx] at hev;cases hev
          | some x =>
           rw [hx] at hev;obtain ⟨rfl,rfl,rfl⟩:=Cn hev;simp only [↓FL,↓XX,XY,↓reduceIte,Nat.reduceBEq,Nat.reduceAdd,Int.reduceEq,Int.reduceLT,Int.reduceLE,↓XV,h19,↓GV hk0,h7,↓Dh hst (Cj _ _ _ _ _ _),↓GV hx];exact AJ _ _ _
         ·rw [if_neg hq] at hev;obtain ⟨rfl,rfl,rfl⟩:=Cn hev;simp only [hq,decide_false,if_false] at hst;simp only [↓FL,↓XX,XY,↓reduceIte,Nat.reduceBEq,Nat.reduceAdd,Int.reduceEq,Int.reduceLT,Int.reduceLE,↓XV,h19,↓GV hk0,h7,↓Dh hst (Cj _ _ _ _ _ _)];exact AJ _ _ _
        ·rw [if_neg h7] at hev;obtain ⟨rfl,rfl,rfl⟩:=Cn hev;simp only [↓FL,↓XX,XY,↓reduceIte,Nat.reduceBEq,Nat.reduceAdd,Int.reduceEq,Int.reduceLT,Int.reduceLE,↓XV,h19,↓GV hk0,h7];exact AJ _ _ _
      ·rw [if_neg h19] at hev;by_cases h13:v.op=13
       ·rw [if_pos h13] at hev;cases hk0:v.k[0]? with
        | none=>rw [hk0] at hev;cases hev
        | some k0 =>
        cases hk1:v.k[1]? with
        | none=>rw [hk0,hk1] at hev;cases hev
        | some k1 =>
        cases hk2:v.k[2]? with
        | none=>rw [hk0,hk1,hk2] at hev;cases hev
        | some k2 =>
        cases hk3:v.k[3]? with
        | none=>rw [hk0,hk1,hk2,hk3] at hev;cases hev
        | some k3 =>
        rw [hk0,hk1,hk2,hk3] at hev;simp only at hev;by_cases h11:k3.op=11
        ·rw [if_pos h11] at hev;by_cases hq:s+1≤1000
         ·rw [if_pos hq] at hev;obtain ⟨rfl,rfl,rfl⟩:=Cn hev;simp only [hq,decide_true,if_true] at hst;simp only [↓FL,↓XX,XY,↓reduceIte,Nat.reduceBEq,Nat.reduceAdd,Int.reduceEq,Int.reduceLT,Int.reduceLE,↓XV,h13,↓AgS hk3,h11,↓Dh hst (Cj _ _ _ _ _ _),↓AgJ hk1];exact AJ _ _ _
         ·rw [if_neg hq] at hev;obtain ⟨rfl,rfl,rfl⟩:=Cn hev;simp only [hq,decide_false,if_false] at hst;simp only [↓FL,↓XX,XY,↓reduceIte,Nat.reduceBEq,Nat.reduceAdd,Int.reduceEq,Int.reduceLT,Int.reduceLE,↓XV,h13,↓AgS hk3,h11,↓Dh hst (Cj _ _ _ _ _ _)];exact AJ _ _ _
        ·rw [if_neg h11] at hev;by_cases h12:k3.op=12
         ·rw [if_pos h12] at hev;by_cases hq:s+1≤1000
          ·rw [if_pos hq] at hev;simp only [hq,decide_true,if_true] at hst;cases hx:k3.k[0]? with
           | none=>rw [hx] at hev;cases hev
           | some x =>
           rw [hx] at hev;simp only at hev;cases hd:headR f (s+1) 0 (.node 13 0 [k0,k1,k2,x]) with
           | none=>rw [hd] at hev;cases hev
           | some q =>
           obtain ⟨h,s2,e2⟩:=q;rw [hd] at hev;simp only at hev;by_cases hl:900000<k2.env.length
           ·rw [if_pos hl] at hev;cases hev
           ·rw [if_neg hl] at hev;have hcall:=he s2 e2 k2.b (k2.env++[x,h]) w s' e' nd hev n (by omega);rw [UM] at hcall;have hcall2:=hh (s+1) 0 _ h s2 e2 nd hd n (by omega);rw [Ao8] at hcall2;simp only [Aus,Aur] at hcall2;have hp:=R2 (n:=n) (by omega) k2.env [x,h] (by simp) (by simp;omega);simp only [Aus,Aur] at hp;have hcall3:=fun k=>Rw (k:=k) (own:=[(61886486,.row [iv 13,iv 0,.clip [k0.enc,k1.enc,k2.enc,x.enc],.nils,iv 0,iv 0,.nils] false)])
             (cells:=[iv 13,iv 0,.clip [k0.enc,k1.enc,k2.enc,x.enc],.nils,iv 0,iv 0,.nils]) (ro:=false) (s:=61886486) hcall2 (Cj ..) (by simp [Ap]) rfl (by simp)
            simp only [↓FL,↓XX,XY,↓reduceIte,Nat.reduceBEq,Nat.reduceAdd,Int.reduceEq,Int.reduceLT,Int.reduceLE,↓XV,h13,↓AgS hk3,h11,h12,↓Dh hst (Cj _ _ _ _ _ _),↓GV hx,↓GV hk0,↓AgJ hk1,↓Apm hk2,↓AqC,↓hcall3,↓Ap6,↓Af hp,↓Jv hcall (Cj _ _ _ _ _ _)];exact AJ _ _ _
          ·rw [if_neg hq] at hev;obtain ⟨rfl,rfl,rfl⟩:=Cn hev;simp only [hq,decide_false,if_false] at hst;simp only [↓FL,↓XX,XY,↓reduceIte,Nat.reduceBEq,Nat.reduceAdd,Int.reduceEq,Int.reduceLT,Int.reduceLE,↓XV,h13,↓AgS hk3,h11,h12,↓Dh hst (Cj _ _ _ _ _ _)];exact AJ _ _ _
         ·rw [if_neg h12] at hev;obtain ⟨rfl,rfl,rfl⟩:=Cn hev;simp only [↓FL,↓XX,XY,↓reduceIte,Nat.reduceBEq,Nat.reduceAdd,Int.reduceEq,Int.reduceLT,Int.reduceLE,↓XV,h13,↓AgS hk3,h11,h12];exact AJ _ _ _
       ·rw [if_neg h13] at hev;obtain ⟨rfl,rfl,rfl⟩:=Cn hev;simp only [↓FL,↓XX,XY,↓reduceIte,Nat.reduceBEq,Nat.reduceAdd,Int.reduceEq,Int.reduceLT,Int.reduceLE,↓XV,h5,h8,h9,h30,h19,h13];exact AJ _ _ _
theorem Zg:∀f,RP f∧Re f:=by
 intro f
 induction f with
 | zero=>exact ⟨(by intro s e t env v s' e' nd h;rw [AB] at h;cases h),(by intro s e v w s' e' nd h;rw [headR] at h;cases h)⟩
 | succ f ih=>exact ⟨Adi ih.1 ih.2,Ac5 ih.1 ih.2⟩
end Idl
end Go.Proofs.Ytaifgaidaglblaa
namespace Go.Proofs.Ytaifgaidaglblaa
namespace Idl
def FK (u:Int) (b:Nat):List RV:=(List.range b).map fun (j:Nat)=>RV.var (u+(j:Int))
theorem KN (u:Int) (b:Nat):FK u (b+1)=FK u b++[RV.var (u+b)]:=by simp [FK,List.range_succ]
theorem Cr (u:Int) (b:Nat):(FK u b).length=b:=by simp [FK]
def Bb (rd:Int→Int→Int→RV→Int→Option (Tm×Int×Int×Int)) (f:Nat) (op u:Int):Nat→List RV→Int→Int→Int→Option (List Tm×Int×Int×Int)
 | _,[],s,nd,e=>some ([],s,nd,e)
 | i,k::l,s,nd,e =>
  match (if 0<Ah op i then (if 900000<k.env.length then none else AB f s e k.b (k.env++FK u (Ah op i))) else some (k,s,e)) with
  | none=>none
  | some (k',s1,e1)=>match rd s1 nd e1 k' (u+Ah op i) with
   | none=>none
   | some (t,s2,nd2,e2)=>(Bb rd f op u (i+1) l s2 nd2 e2).map fun (ts,s,nd,e)=>(t::ts,s,nd,e)
def AT:Nat→Int→Int→Int→RV→Int→Int→Option (Tm×Int×Int×Int)
 | 0,_,_,_,_,_,_=>none
 | f+1,s,nd,e,v,u,d =>
  if nd<0∨1000000<nd∨u<0∨1000000<u∨d<0∨1000000<d∨v.n < -2305843009213693952∨2305843009213693952<v.n∨f≤v.k.length∨900000<v.k.length∨f≤3 then none else
  if (if e=0∧(3000<nd+1∨120<d) then 5 else e)≠0 then some (.z,s,nd+1,(if e=0∧(3000<nd+1∨120<d) then 5 else e))
  else if v.op=1 then some (.mk 1 (u - 1 - v.n) [],s,nd+1,0)
  else (Bb (fun s nd e k u=>AT f s nd e k u (d+1)) f v.op u 0 v.k s (nd+1) 0).map fun (ts,s,nd,e)=>(.mk v.op v.n ts,s,nd,e)
def V7 (f:Nat):Prop:=∀(s nd e:Int) (v:RV) (u d:Int) (t:Tm) (s' nd' e':Int),AT f s nd e v u d=some (t,s',nd',e')→∀n,f+1≤n →
 Bu (SS dt n 41 [.ptr (.ext 0) 0,.fv v.enc,iv u,iv d] ⟨[],[.row [iv s,iv nd,iv e] false]⟩) t.enc [.row [iv s',iv nd',iv e'] false]
abbrev Mh (op m:Int) (K:IV) (tok:List (Nat×Blk)) (s nd e:Int):Hp :=
 ⟨(42991616,.row [iv 0,iv 0,.nils] false)::(42999817,.row [iv op,iv m,K] false)::tok,[.row [iv s,iv nd,iv e] false]⟩
theorem Ach {cells:List IV} {fc:List FV} (hz:C0 cells=some fc) (hn:cells.length≤100) (s:Nat) (h:Hp) (k:IV→Hp→List Ref→List Ref→Option (IV×Hp)):fzS (JI true s (.agg cells)) s (.agg cells) h k=k (.fv (.fp fc 0)) h [] []:=by
 have:JI true s (.agg cells)=.ret { eff:={ val:=.fv (.fp fc 0),upd:=[] } }:=by
  simp only [JI,IV.alive,Bool.true_eq_false,if_false,if_true,IV.cells,ZL cells 4096 (by omega) hz,Rd.bind]
 unfold fzS;rw [this,VU];exact KA _ s h k
theorem Aaa (n:Int):(RV.var n).enc=.fp [.int .i64 1,.int .i64 n,.sl [],.sl [],.int .i64 0,.int .i64 0,.sl []] 0:=by rw [RV.var,Tm.z,HK];rfl
set_option maxRecDepth 20000 in
set_option maxHeartbeats 1000000 in
theorem Adf {f:Nat} (hr:V7 f):V7 (f+1):=by
 intro s nd e v u d t s' nd' e' hev n hn;obtain ⟨n,rfl⟩:∃k,n=k+1:=⟨n - 1,by omega⟩;rw [c41];rw [AT] at hev;by_cases hbad:nd<0∨1000000<nd∨u<0∨1000000<u∨d<0∨1000000<d∨v.n < -2305843009213693952∨2305843009213693952<v.n∨f≤v.k.length∨900000<v.k.length∨f≤3
 ·rw [if_pos hbad] at hev;cases hev
 ·rw [if_neg hbad] at hev;have wnd:w64 (nd+1)=nd+1:=by rw [Au]<;>omega
  have wd:w64 (d+1)=d+1:=by rw [Au]<;>omega
  have wu:w64 (u - 1)=u - 1:=by rw [Au]<;>omega
  have wv:w64 (u - 1 - v.n)=u - 1 - v.n:=by rw [Au]<;>omega
  by_cases he:e=0
  ·subst he;by_cases h3:3000<nd+1
   ·have e5:(if (0:Int)=0∧(3000<nd+1∨120<d) then (5:Int) else 0)=5:=if_pos ⟨rfl,.inl h3⟩;rw [e5,if_pos (by decide)] at hev;simp only [Aum,Aun] at hev;obtain ⟨rfl,rfl,rfl,rfl⟩:=hev;simp only [↓AfK,↓XX,XY,↓reduceIte,Nat.reduceBEq,Nat.reduceAdd,Int.reduceEq,Int.reduceLT,Int.reduceLE,wnd,h3];exact EY rfl _ _
   ·by_cases h4:120<d
    ·have e5:(if (0:Int)=0∧(3000<nd+1∨120<d) then (5:Int) else 0)=5:=if_pos ⟨rfl,.inr h4⟩;rw [e5,if_pos (by decide)] at hev;simp only [Aum,Aun] at hev;obtain ⟨rfl,rfl,rfl,rfl⟩:=hev;simp only [↓AfK,↓XX,XY,↓reduceIte,Nat.reduceBEq,Nat.reduceAdd,Int.reduceEq,Int.reduceLT,Int.reduceLE,wnd,h3,h4];exact EY rfl _ _
    ·have e5:(if (0:Int)=0∧(3000<nd+1∨120<d) then (5:Int) else 0)=0:=if_neg (by omega);rw [e5,if_neg (by decide)] at hev;by_cases h1:v.op=1
     ·rw [if_pos h1] at hev;simp only [Aum,Aun] at hev;obtain ⟨rfl,rfl,rfl,rfl⟩:=hev;have hv:=Amu (n:=n) (by omega) (u - 1 - v.n);rw [Ag] at hv ⊢;simp only [↓AfK,↓XX,XY,↓reduceIte,Nat.reduceBEq,Nat.reduceAdd,Int.reduceEq,Int.reduceLT,Int.reduceLE,↓XV,wnd,h3,h4,h1,wu,wv,↓As hv];exact EY rfl _ _
     ·rw [if_neg h1] at hev;cases hrk:Bb (fun s nd e k u=>AT f s nd e k u (d+1)) f v.op u 0 v.k s (nd+1) 0 with
      | none=>rw [hrk] at hev;cases hev
      | some q =>
      obtain ⟨ts,s1,nd1,e1⟩:=q;rw [hrk] at hev;simp only [Aup,Aum,Aun] at hev;obtain ⟨rfl,rfl,rfl,rfl⟩:=hev;simp only [↓AfK,↓XX,XY,↓reduceIte,Nat.reduceBEq,Nat.reduceAdd,Int.reduceEq,Int.reduceLT,Int.reduceLE,↓XV,wnd,h3,h4,h1,↓AG,XD,heldB,AO,XE];refine A7 (Q:=fun r=>Bu r _ _) (fun k V H=>∃(pre rest:List RV) (done:List Tm) (s2 nd2 e2:Int) (us:List Tm),v.k=pre++rest∧rest.length=k∧done.length=pre.length∧V=[.ptr (.ext 0) 0,.fv v.enc,iv u,iv d,.ptr (.own 42991616) 0,.ptr (.own 42999817) 0,iv pre.length] ∧
       (
        (pre=[]∧H=Mh v.op v.n .nils [] s2 nd2 e2) ∨
        (pre≠[]∧H=Mh v.op v.n (.app (.own 43013131) (done.map Tm.enc)) [(43013131,.tok done.length 3)] s2 nd2 e2)) ∧
       Bb (fun s nd e k u=>AT f s nd e k u (d+1)) f v.op u pre.length rest s2 nd2 e2=some (us,s1,nd1,e1)∧done++us=ts)
       ?_ n v.k.length _ _ (by omega) ⟨[],v.k,[],s,nd+1,0,ts,rfl,rfl,rfl,rfl,.inl ⟨rfl,rfl⟩,hrk,rfl⟩
      rintro k V H rec ⟨pre,rest,done,s2,nd2,e2,us,hk,hl,hdl,rfl,hH,hkids,hts⟩ hrec;have hkl:v.k.length=pre.length+rest.length:=by rw [hk];simp
      cases rest with
      | nil =>
       simp only [Bb,Aum,Aun] at hkids;obtain ⟨rfl,rfl,rfl,rfl⟩:=hkids;rw [List.append_nil] at hts;subst hts;have hno:¬ ((pre.length:Int)<v.k.length):=by rw [hkl];simp
       rcases hH with ⟨hp0,rfl⟩ | ⟨hne,rfl⟩
       ·have hd0:done=[]:=List.length_eq_zero_iff.1 (by rw [hdl,hp0];rfl);subst hd0;simp only [Ep,EG,EQ,Ey,Ez,Ej,GT,EI,Ew,EP,EL,Eu,GZ,El,EM,EC,EK,EA,EF,EH,E8,Er,En,Em,EN,EJ,Es,EB,Ek,ED,Et,S41,↓XX,XY,↓reduceIte,Nat.reduceBEq,Nat.reduceAdd,Int.reduceEq,Int.reduceLT,Int.reduceLE,↓XV,hno,Ag];exact EY rfl _ _
       ·simp only [Ep,EG,EQ,Ey,Ez,Ej,GT,EI,Ew,EP,EL,Eu,GZ,El,EM,EC,EK,EA,EF,EH,E8,Er,En,Em,EN,EJ,Es,EB,Ek,ED,Et,S41,↓XX,XY,↓reduceIte,Nat.reduceBEq,Nat.reduceAdd,Int.reduceEq,Int.reduceLT,Int.reduceLE,↓XV,hno,Ag];exact EY rfl _ _
      | cons x rest =>
       have hi:(pre.length:Int)<v.k.length:=by rw [hkl];simp;omega
       have hg:=Cc hk;have hb:=FA (n:=n) (by omega) v.op pre.length;have hble:=AV v.op pre.length;have hwi:w64 ((pre.length:Int)+1)=((pre++[x]).length:Int):=(Au (by omega) (by omega)).trans (by simp);have hwb:w64 (u+(Ah v.op pre.length:Int))=u+Ah v.op pre.length:=by rw [Au]<;>omega
       have hd9:done.length+1≤1000000:=by omega
       simp only [Bb] at hkids;simp only [Auq] at hl;have behind:∀(y:RV) (s3 e3:Int),(match AT f s3 nd2 e3 y (u+Ah v.op pre.length) (d+1) with
          | none=>none
          | some (t,s2,nd2,e2)=>(Bb (fun s nd e k u=>AT f s nd e k u (d+1)) f v.op u (pre.length+1) rest s2 nd2 e2).map fun (ts,s,nd,e)=>(t::ts,s,nd,e))=some (us,s1,nd1,e1) →
         ∀K tk,((pre=[]∧K=.nils∧tk=[])∨(pre≠[]∧K=.app (.own 43013131) (done.map Tm.enc)∧tk=[(43013131,.tok done.length 3)])) →
         Bu (GT (.ptr (.own 42999817) 0) (Mh v.op v.n K tk s3 nd2 e3) (iv u) (iv (Ah v.op pre.length)) (iv d) (SS dt n) (.ptr (.ext 0) 0) (.fv y.enc) (iv pre.length) ⟨[],[.row [iv s,iv nd,iv 0] false]⟩ (.fv v.enc) (.ptr (.own 42991616) 0) rec)
          (Tm.mk v.op v.n ts).enc [.row [iv s1,iv nd1,iv e1] false]:=by
        intro y s3 e3 hy K tk hK;cases hrd:AT f s3 nd2 e3 y (u+Ah v.op pre.length) (d+1) with
        | none=>rw [hrd] at hy;cases hy
        | some q =>
        obtain ⟨t4,s4,nd4,e4⟩:=q;rw [hrd] at hy;simp only at hy;cases hkk:Bb (fun s nd e k u=>AT f s nd e k u (d+1)) f v.op u (pre.length+1) rest s4 nd4 e4 with
        | none=>rw [hkk] at hy;cases hy
        | some q =>
        obtain ⟨us',s5,nd5,e5'⟩:=q;rw [hkk] at hy;simp only [Aup,Aum,Aun] at hy;obtain ⟨rfl,rfl,rfl,rfl⟩:=hy;have hc:=hr s3 nd2 e3 y (u+Ah v.op pre.length) (d+1) t4 s4 nd4 e4 hrd n (by omega);have h9:Bu (rec [.ptr (.ext 0) 0,.fv v.enc,iv u,iv d,.ptr (.own 42991616) 0,.ptr (.own 42999817) 0,iv (pre++[x]).length]
          (Mh v.op v.n (.app (.own 43013131) ((done++[t4]).map Tm.enc)) [(43013131,.tok (done.length+1) 3)] s4 nd4 e4)) (Tm.mk v.op v.n ts).enc [.row [iv s5,iv nd5,iv e5'] false] :=
         hrec rest.length _ _ (by omega) ⟨pre++[x],rest,done++[t4],s4,nd4,e4,us',by rw [hk];simp,rfl,by simp [hdl],rfl,.inr ⟨by simp,by simp⟩,by simpa using hkk,by rw [← hts];simp⟩
        rcases hK with ⟨hp0,rfl,rfl⟩ | ⟨hne,rfl,rfl⟩
        ·have hd0:done=[]:=List.length_eq_zero_iff.1 (by rw [hdl,hp0];rfl);subst hd0;simp only [List.nil_append,Aus,Aur,List.length_nil] at h9;simp only [Ep,EG,EQ,Ey,Ez,Ej,GT,EI,Ew,EP,EL,Eu,GZ,El,EM,EC,EK,EA,EF,EH,E8,Er,En,Em,EN,EJ,Es,EB,Ek,ED,Et,S41,↓XX,XY,↓reduceIte,Nat.reduceBEq,Nat.reduceAdd,Int.reduceEq,Int.reduceLT,Int.reduceLE,↓XV,hwb,wd,hwi,↓Agd hc (Cj _ _ _ _ _ _),↓Jq,↓QB,↓AG,XD,heldB,AO,XE];exact h9
        ·simp only [Ep,EG,EQ,Ey,Ez,Ej,GT,EI,Ew,EP,EL,Eu,GZ,El,EM,EC,EK,EA,EF,EH,E8,Er,En,Em,EN,EJ,Es,EB,Ek,ED,Et,S41,↓XX,XY,↓reduceIte,Nat.reduceBEq,Nat.reduceAdd,Int.reduceEq,Int.reduceLT,Int.reduceLE,↓XV,hwb,wd,hwi,↓Agd hc (Cj _ _ _ _ _ _),↓Jq,↓MZ hd9,↓HC,↓AG,XD,heldB,AO,XE];exact h9
       have heads:∃K tk,((pre=[]∧K=.nils∧tk=[])∨(pre≠[]∧K=.app (.own 43013131) (done.map Tm.enc)∧tk=[(43013131,.tok done.length 3)]))∧H=Mh v.op v.n K tk s2 nd2 e2:=by
        rcases hH with ⟨a,b⟩ | ⟨a,b⟩
        ·exact ⟨_,_,.inl ⟨a,rfl,rfl⟩,b⟩
        ·exact ⟨_,_,.inr ⟨a,rfl,rfl⟩,b⟩
       obtain ⟨K,tk,hK,rfl⟩:=heads;by_cases hbp:0<Ah v.op pre.length
       ·rw [if_pos hbp] at hkids;by_cases hxe:900000<x.env.length
        ·rw [if_pos hxe] at hkids;cases hkids
        ·rw [if_neg hxe] at hkids;have hbp':0<(Ah v.op pre.length:Int):=by omega
         cases hev1:AB f s2 e2 x.b (x.env++FK u (Ah v.op pre.length)) with
         | none=>rw [hev1] at hkids;cases hkids
         | some q =>
         obtain ⟨y,s3,e3⟩:=q;rw [hev1] at hkids;have hB:=behind y s3 e3 hkids K tk hK;have hc:=(Zg f).1 s2 e2 x.b _ y s3 e3 nd2 hev1 n (by omega);rw [UM] at hc;have hdrop:∀(vals:List IV),vals.all Fs=true→∀k:Hp→Option (IV×Hp),Bg [] [43011077] vals (Mh v.op v.n K tk s2 nd2 e2) k=k (Mh v.op v.n K tk s2 nd2 e2):=by
          intro vals hv k;rcases hK with ⟨_,rfl,rfl⟩ | ⟨_,rfl,rfl⟩<;>simp only [↓XX,XY,↓reduceIte,Nat.reduceBEq,Nat.reduceAdd,Int.reduceEq,Int.reduceLT,Int.reduceLE,↓AG,XD,heldB,AO,XE,hv]
         simp only [Ep,EG,EQ,Ey,Ez,Ej,EI,Ew,EP,EL,Eu,El,EM,EC,EK,EA,EF,EH,E8,Er,En,Em,EN,EJ,Es,EB,Ek,ED,Et,S41,↓XX,XY,↓reduceIte,Nat.reduceBEq,Nat.reduceAdd,Int.reduceEq,Int.reduceLT,Int.reduceLE,↓XV,hi,↓UU hg,↓Af hb,hbp',↓hdrop,↓AG,XD,heldB,AO,XE];refine A7 (Q:=fun r=>Bu r _ _) (fun k V H=>∃j,j+k=Ah v.op pre.length∧V=[.ptr (.ext 0) 0,.fv v.enc,iv u,iv d,.ptr (.own 42991616) 0,.ptr (.own 42999817) 0,iv pre.length,iv (Ah v.op pre.length),.fv x.enc,.fv (.sl ((x.env++FK u j).map RV.enc)),iv j] ∧
          H=Mh v.op v.n K tk s2 nd2 e2) ?_ n (Ah v.op pre.length) _ _ (by omega) ?_
         rotate_left
         ·exact ⟨0,by omega,by simp [FK],rfl⟩
         rintro k2 V2 H2 rec2 ⟨j,hj,rfl,rfl⟩ hrec2;cases k2 with
         | zero =>
          have hjb:j=Ah v.op pre.length:=by omega
          subst hjb;simp only [Ep,EG,EQ,Ey,Ez,Ej,EI,Ew,EP,EL,Eu,GZ,El,EM,EC,EK,EA,EF,EH,E8,Er,En,Em,EN,EJ,Es,EB,Ek,ED,Et,S41,↓XX,XY,↓reduceIte,Nat.reduceBEq,Nat.reduceAdd,Int.reduceEq,Int.reduceLT,Int.reduceLE,↓XV,Int.lt_irrefl,↓Jv hc (Cj _ _ _ _ _ _)];exact hB
         | succ k2 =>
          have hjb:(j:Int)<Ah v.op pre.length:=by omega
          have hwj:w64 (u+(j:Int))=u+j:=by rw [Au]<;>omega
          have hwj1:w64 ((j:Int)+1)=((j+1:Nat):Int):=by rw [Au]<;>omega
          have hp:=R2 (n:=n) (by omega) (x.env++FK u j) [RV.var (u+j)] (by simp) (by simp [Cr];omega);simp only [Aus,Aur,Aaa] at hp;rw [List.append_assoc,← KN] at hp;have hbv:=fun s h k=>Tz (RV.var (u+j)) s h k;simp only [Aaa] at hbv;have hfz:=fun s h (k:IV→Hp→List Ref→List Ref→Option (IV×Hp))=>Ach (cells:=[.fv (.int .i64 1),iv (u+j),.nils,.nils,.fv (.int .i64 0),.fv (.int .i64 0),.nils]) (fc:=[.int .i64 1,.int .i64 (u+j),.sl [],.sl [],.int .i64 0,.int .i64 0,.sl []]) rfl (by simp) s h k;have h9:=hrec2 k2 _ _ (by omega) ⟨j+1,by omega,rfl,rfl⟩;simp only [Ep,EG,EQ,Ey,Ez,Ej,EI,Ew,EP,EL,Eu,GZ,El,EM,EC,EK,EA,EF,EH,E8,Er,En,Em,EN,EJ,Es,EB,Ek,ED,Et,S41,↓XX,XY,↓reduceIte,Nat.reduceBEq,Nat.reduceAdd,Int.reduceEq,Int.reduceLT,Int.reduceLE,↓XV,hjb,hwj,hwj1,↓hfz,↓hbv,↓Af hp,↓hdrop,↓AG,XD,heldB,AO,XE];exact h9
       ·rw [if_neg hbp] at hkids;have hbp':¬ 0<(Ah v.op pre.length:Int):=by omega
        have hB:=behind x s2 e2 hkids K tk hK;simp only [Ep,EG,EQ,Ey,Ez,Ej,EI,Ew,EP,EL,Eu,El,EM,EC,EK,EA,EF,EH,E8,Er,En,Em,EN,EJ,Es,EB,Ek,ED,Et,S41,↓XX,XY,↓reduceIte,Nat.reduceBEq,Nat.reduceAdd,Int.reduceEq,Int.reduceLT,Int.reduceLE,↓XV,hi,↓UU hg,↓Af hb,hbp',↓AG,XD,heldB,AO,XE];exact hB
  ·have e5:(if e=0∧(3000<nd+1∨120<d) then (5:Int) else e)=e:=if_neg (by omega);rw [e5,if_pos he] at hev;simp only [Aum,Aun] at hev;obtain ⟨rfl,rfl,rfl,rfl⟩:=hev;simp only [↓AfK,↓XX,XY,↓reduceIte,Nat.reduceBEq,Nat.reduceAdd,Int.reduceEq,Int.reduceLT,Int.reduceLE,wnd,he];exact EY rfl _ _
theorem Aie:∀f,V7 f:=by
 intro f
 induction f with
 | zero=>intro s nd e v u d t s' nd' e' h;rw [AT] at h;cases h
 | succ f ih=>exact Adf ih
theorem Ack {α:Type}:∀(r:Rd α) (h:Hp) (l:List Ref) {x:α} {l':List Ref},r.runLog h l=some (x,l')→r.run h=some x
 | .ret a,h,l,x,l',e=>by simp only [Rd.runLog,Aum,Aun] at e;rw [e.1];rfl
 | .fail,_,_,_,_,e=>by cases e
 | .get r k,h,l,x,l',e=>by
  simp only [Rd.runLog] at e;simp only [Rd.run];cases hg:h.get r with
  | none=>rw [hg] at e;cases e
  | some b=>rw [hg] at e;exact Ack (k b) h _ e
theorem Tv {v:IV} {own:List (Nat×Blk)} {ext:List Blk} {w:FV} (h:∃u lg,∀(e:Option (IV×Hp)) (K:FV→List (Ref×Blk)→List Ref→Option (IV×Hp)),C5 12 v ⟨own,ext⟩ [] e K=K w u lg):∃u,(CS 4096 v).run ⟨own,ext⟩=some (w,u):=by
 obtain ⟨u,lg,hz⟩:=h;rcases Om 12 v ⟨own,ext⟩ [] none (fun w _ _=>some (IV.fv w,(⟨[],[]⟩:Hp))) (.fv w,⟨[],[]⟩) (hz ..) with h | ⟨x,u',lg',h1,_,h2⟩
 ·cases h
 ·simp only [Aum,Aun,IV.fv.injEq,and_true] at h2;subst h2;exact ⟨u',Ack _ _ _ (h1 4096 (by decide))⟩
theorem Up:∀l:List FV,IV.refs.refsL (l.map .fv)=[]
 | []=>rfl
 | v::l=>by
  simp only [Aus,IV.refs.refsL,IV.refs,Up l,List.append_nil]
theorem LV:∀(args:List IV) (ks:List Bool) {vs:List FV},(∀b∈ks,b=false)→Bv args=some vs→Br ks args=.ret (vs.map .fv,[],[])
 | [],ks,vs,_,hz=>by cases hz;cases ks<;>rfl
 | v::l,[],vs,_,hz=>NK (v::l) hz
 | v::l,b::ks,vs,hk,hz=>by
  have hb:=hk b List.mem_cons_self;subst hb;simp only [Bv] at hz;cases h1:A8 v with
  | none=>rw [h1] at hz;cases hz
  | some x =>
   rw [h1] at hz;cases h2:Bv l with
   | none=>rw [h2] at hz;cases hz
   | some ys =>
    rw [h2] at hz;cases hz;simp only [Br,frp 4096 (by omega) h1,Rd.bind,LV l ks (fun c hc=>hk c (List.mem_cons_of_mem _ hc)) h2];rfl
theorem AaI (s:Nat) (ext:List Blk):O8 400 [.own s] 0 ext=false:=rfl
theorem Agk {ks:List Bool} (hks:∀b∈ks,b=false) {ih:Aa} {f:FuncId} {args:List IV} {vs:List FV} {w:FV} {s:Nat} {st st':List FV} {own:List (Nat×Blk)} (hz:Bv args=some vs) (hl:Ap s own=some (.row (st.map .fv) false))
  (hr:Bu (ih f (.ptr (.ext 0) 0::vs.map .fv) ⟨[],[.row (st.map .fv) false]⟩) w [.row (st'.map .fv) false]) (k:IV→Hp→List Ref→List Ref→Option (IV×Hp)) :
  Al (true::ks) false false ih f (.ptr (.own s) 0::args) ⟨own,[]⟩ k=k (.fv w) ⟨AL s (.row (st'.map .fv) false) own,[]⟩ [.own s] [.own s]:=by
 obtain ⟨v,own',e1,hfz⟩:=hr;obtain ⟨u,hu⟩:=Tv hfz;have hD:Gq (true::ks) false false ih f (.ptr (.own s) 0::args) ⟨own,[]⟩ k=k (.fv w) ⟨AL s (.row (st'.map .fv) false) own,[]⟩ [.own s] [.own s]:=by
  have h1:Br (true::ks) (.ptr (.own s) 0::args)=.ret (.ptr (.own s) 0::vs.map .fv,[.own s],[]):=by
   simp only [Br,LV args ks hks hz,Rd.bind,IV.refs];rfl
  have h2:(Cd 4096 [.own s] []).runLog ⟨own,[]⟩ []=some ([(.own s,.row (st.map .fv) false)],[.own s]):=by
   show (Cd (4094+1+1) [.own s] []).runLog ⟨own,[]⟩ []=_
   simp only [Cd,hasRef,Bool.false_eq_true,if_false,Rd.runLog,Hp.get,hl,Blk.refs,Up,List.append_nil,List.nil_append]
  have h3:IV.ren.renL (EW [(.own s,.row (st.map .fv) false)]) (.ptr (.own s) 0::vs.map .fv)=some (.ptr (.ext 0) 0::vs.map .fv):=by
   simp only [IV.ren.renL,IV.ren,EW,Ch,if_true,Aup,Option.bind_some,Ib]
  have h4:Bc (EW [(.own s,.row (st.map .fv) false)]) [.row (st.map .fv) false]=some [.row (st.map .fv) false]:=by
   simp only [Bc,Blk.ren,Ib,Aup,Option.bind_some]
  have h5:Bc (Cn [(.own s,.row (st.map .fv) false)]) [.row (st'.map .fv) false]=some [.row (st'.map .fv) false]:=by
   simp only [Bc,Blk.ren,Ib,Aup,Option.bind_some]
  unfold Gq;simp only [h1,Rd.runLog,h2,h3,Aus,Aur,h4,EV (Cy 3),EV CV,LA,Bool.false_eq_true,if_false,e1,hu,Aup,IV.ren,h5,Auq,List.length_nil,Bo,List.all_nil,and_self,if_true,List.nil_append,List.zip_cons_cons,List.zip_nil_left];have h6:laid ⟨own,[]⟩ [(.own s,.row (st'.map .fv) false)]=some ⟨AL s (.row (st'.map .fv) false) own,[]⟩:=by
   simp only [laid,Hp.get,hl,Hp.set]
  simp only [h6,OS,Cy]
 rw [Nt,Agf,Vx,UF 0 args _ _ _ _ ks hks hz];simp only [TF,AaI,cond_false];exact hD
theorem AnO {ih:Aa} {f:FuncId} {x y:IV} {vx vy w:FV} {s:Nat} {a b c a' b' c':FV} {own own':List (Nat×Blk)} (hr:Bu (ih f [.ptr (.ext 0) 0,.fv vx,.fv vy] ⟨[],[.row [.fv a,.fv b,.fv c] false]⟩) w [.row [.fv a',.fv b',.fv c'] false])
  (hx:A8 x=some vx) (hy:A8 y=some vy) (hl:Ap s own=some (.row [.fv a,.fv b,.fv c] false)) (ho:AL s (.row [.fv a',.fv b',.fv c'] false) own=own') (k:IV→Hp→List Ref→List Ref→Option (IV×Hp)) :
  Al [true,false,false] false false ih f [.ptr (.own s) 0,x,y] ⟨own,[]⟩ k=k (.fv w) ⟨own',[]⟩ [.own s] [.own s]:=by
 subst ho;exact Agk (ks:=[false,false]) (by simp) (st:=[a,b,c]) (st':=[a',b',c']) (UY hx hy) hl hr k
theorem AnC {ih:Aa} {f:FuncId} {x y z:IV} {vx vy vz w:FV} {s:Nat} {a b c a' b' c':FV} {own own':List (Nat×Blk)} (hr:Bu (ih f [.ptr (.ext 0) 0,.fv vx,.fv vy,.fv vz] ⟨[],[.row [.fv a,.fv b,.fv c] false]⟩) w [.row [.fv a',.fv b',.fv c'] false])
  (hx:A8 x=some vx) (hy:A8 y=some vy) (hz:A8 z=some vz) (hl:Ap s own=some (.row [.fv a,.fv b,.fv c] false)) (ho:AL s (.row [.fv a',.fv b',.fv c'] false) own=own') (k:IV→Hp→List Ref→List Ref→Option (IV×Hp)) :
  Al [true,false,false,false] false false ih f [.ptr (.own s) 0,x,y,z] ⟨own,[]⟩ k=k (.fv w) ⟨own',[]⟩ [.own s] [.own s]:=by
 subst ho;exact Agk (ks:=[false,false,false]) (by simp) (st:=[a,b,c]) (st':=[a',b',c']) (Ada hx hy hz) hl hr k
theorem AiF {ih:Aa} {f:FuncId} {x y:IV} {vx vy w:FV} {s:Nat} {a b a' b':FV} {own own':List (Nat×Blk)} (hr:Bu (ih f [.ptr (.ext 0) 0,.fv vx,.fv vy] ⟨[],[.row [.fv a,.fv b] false]⟩) w [.row [.fv a',.fv b'] false])
  (hx:A8 x=some vx) (hy:A8 y=some vy) (hl:Ap s own=some (.row [.fv a,.fv b] false)) (ho:AL s (.row [.fv a',.fv b'] false) own=own') (k:IV→Hp→List Ref→List Ref→Option (IV×Hp)) :
  Al [true,false,false] false false ih f [.ptr (.own s) 0,x,y] ⟨own,[]⟩ k=k (.fv w) ⟨own',[]⟩ [.own s] [.own s]:=by
 subst ho;exact Agk (ks:=[false,false]) (by simp) (st:=[a,b]) (st':=[a',b']) (UY hx hy) hl hr k
end Idl
end Go.Proofs.Ytaifgaidaglblaa

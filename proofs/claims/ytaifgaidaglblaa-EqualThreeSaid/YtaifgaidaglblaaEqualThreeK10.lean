/-
  Texts of a proof, part 10: an ideal semantics of the program, its functions in shallow form, contracts of them. No statement of the seat is proved here.
-/
import Derived.KernelRfl
import Derived.Test.YtaifgaidaglblaaEqualThreeK9
set_option linter.all false
noncomputable section
namespace Go.Proofs.Ytaifgaidaglblaa
namespace Idl
theorem AhJ {f:Nat} {G:Aa→Nat→Hp→Option (IV×Hp)} (e:dt.call f=fun ih n=>OT (G ih n)) (n:Nat) (h:Hp):SS dt (n+1) f [] h=G (SS dt n) n  h:=by
 show dt.call f (SS dt n) n _ h=_
 rw [e];rfl
theorem B4 {f:Nat} {G:Aa→Nat→IV→Hp→Option (IV×Hp)} (e:dt.call f=fun ih n=>Fe (G ih n)) (n:Nat) (a0:IV) (h:Hp):SS dt (n+1) f [a0] h=G (SS dt n) n a0 h:=by
 show dt.call f (SS dt n) n _ h=_
 rw [e];rfl
theorem Bz {f:Nat} {G:Aa→Nat→IV→IV→Hp→Option (IV×Hp)} (e:dt.call f=fun ih n=>D5 (G ih n)) (n:Nat) (a0 a1:IV) (h:Hp):SS dt (n+1) f [a0,a1] h=G (SS dt n) n a0 a1 h:=by
 show dt.call f (SS dt n) n _ h=_
 rw [e];rfl
theorem Ee {f:Nat} {G:Aa→Nat→IV→IV→IV→Hp→Option (IV×Hp)} (e:dt.call f=fun ih n=>L6 (G ih n)) (n:Nat) (a0 a1 a2:IV) (h:Hp):SS dt (n+1) f [a0,a1,a2] h=G (SS dt n) n a0 a1 a2 h:=by
 show dt.call f (SS dt n) n _ h=_
 rw [e];rfl
theorem Ei {f:Nat} {G:Aa→Nat→IV→IV→IV→IV→Hp→Option (IV×Hp)} (e:dt.call f=fun ih n=>L4 (G ih n)) (n:Nat) (a0 a1 a2 a3:IV) (h:Hp):SS dt (n+1) f [a0,a1,a2,a3] h=G (SS dt n) n a0 a1 a2 a3 h:=by
 show dt.call f (SS dt n) n _ h=_
 rw [e];rfl
theorem Aqm {f:Nat} {G:Aa→Nat→IV→IV→IV→IV→IV→Hp→Option (IV×Hp)} (e:dt.call f=fun ih n=>ar5 (G ih n)) (n:Nat) (a0 a1 a2 a3 a4:IV) (h:Hp):SS dt (n+1) f [a0,a1,a2,a3,a4] h=G (SS dt n) n a0 a1 a2 a3 a4 h:=by
 show dt.call f (SS dt n) n _ h=_
 rw [e];rfl
theorem c7 (n:Nat) (a0 a1 a2 a3 a4:IV) (h:Hp):SS dt (n+1) 7 [a0,a1,a2,a3,a4] h=S7 (SS dt n) n a0 a1 a2 a3 a4 h:=Aqm (show dt.call 7=fun ih n=>ar5 (S7 ih n) by kernel_rfl) ..
theorem c11 (n:Nat) (a0:IV) (h:Hp):SS dt (n+1) 11 [a0] h=S11 (SS dt n) n a0 h:=B4 (show dt.call 11=fun ih n=>Fe (S11 ih n) by kernel_rfl) ..
theorem c12 (n:Nat) (a0:IV) (h:Hp):SS dt (n+1) 12 [a0] h=S12 (SS dt n) n a0 h:=B4 (show dt.call 12=fun ih n=>Fe (S12 ih n) by kernel_rfl) ..
theorem c13 (n:Nat) (a0 a1 a2 a3:IV) (h:Hp):SS dt (n+1) 13 [a0,a1,a2,a3] h=S13 (SS dt n) n a0 a1 a2 a3 h:=Ei (show dt.call 13=fun ih n=>L4 (S13 ih n) by kernel_rfl) ..
theorem c15 (n:Nat) (a0:IV) (h:Hp):SS dt (n+1) 15 [a0] h=S15 (SS dt n) n a0 h:=B4 (show dt.call 15=fun ih n=>Fe (S15 ih n) by kernel_rfl) ..
theorem c16 (n:Nat) (a0 a1:IV) (h:Hp):SS dt (n+1) 16 [a0,a1] h=S16 (SS dt n) n a0 a1 h:=Bz (show dt.call 16=fun ih n=>D5 (S16 ih n) by kernel_rfl) ..
theorem c17 (n:Nat) (a0:IV) (h:Hp):SS dt (n+1) 17 [a0] h=S17 (SS dt n) n a0 h:=B4 (show dt.call 17=fun ih n=>Fe (S17 ih n) by kernel_rfl) ..
theorem c18 (n:Nat) (a0:IV) (h:Hp):SS dt (n+1) 18 [a0] h=S18 (SS dt n) n a0 h:=B4 (show dt.call 18=fun ih n=>Fe (S18 ih n) by kernel_rfl) ..
theorem c20 (n:Nat) (a0:IV) (h:Hp):SS dt (n+1) 20 [a0] h=S20 (SS dt n) n a0 h:=B4 (show dt.call 20=fun ih n=>Fe (S20 ih n) by kernel_rfl) ..
theorem c21 (n:Nat) (a0 a1 a2:IV) (h:Hp):SS dt (n+1) 21 [a0,a1,a2] h=S21 (SS dt n) n a0 a1 a2 h:=Ee (show dt.call 21=fun ih n=>L6 (S21 ih n) by kernel_rfl) ..
theorem c22 (n:Nat) (a0 a1 a2:IV) (h:Hp):SS dt (n+1) 22 [a0,a1,a2] h=S22 (SS dt n) n a0 a1 a2 h:=Ee (show dt.call 22=fun ih n=>L6 (S22 ih n) by kernel_rfl) ..
theorem c23 (n:Nat) (a0 a1 a2 a3:IV) (h:Hp):SS dt (n+1) 23 [a0,a1,a2,a3] h=S23 (SS dt n) n a0 a1 a2 a3 h:=Ei (show dt.call 23=fun ih n=>L4 (S23 ih n) by kernel_rfl) ..
theorem c24 (n:Nat) (a0 a1:IV) (h:Hp):SS dt (n+1) 24 [a0,a1] h=S24 (SS dt n) n a0 a1 h:=Bz (show dt.call 24=fun ih n=>D5 (S24 ih n) by kernel_rfl) ..
theorem c25 (n:Nat) (a0 a1 a2:IV) (h:Hp):SS dt (n+1) 25 [a0,a1,a2] h=S25 (SS dt n) n a0 a1 a2 h:=Ee (show dt.call 25=fun ih n=>L6 (S25 ih n) by kernel_rfl) ..
theorem c26 (n:Nat) (a0:IV) (h:Hp):SS dt (n+1) 26 [a0] h=S26 (SS dt n) n a0 h:=B4 (show dt.call 26=fun ih n=>Fe (S26 ih n) by kernel_rfl) ..
theorem c27 (n:Nat) (a0:IV) (h:Hp):SS dt (n+1) 27 [a0] h=S27 (SS dt n) n a0 h:=B4 (show dt.call 27=fun ih n=>Fe (S27 ih n) by kernel_rfl) ..
theorem c29 (n:Nat) (a0:IV) (h:Hp):SS dt (n+1) 29 [a0] h=S29 (SS dt n) n a0 h:=B4 (show dt.call 29=fun ih n=>Fe (S29 ih n) by kernel_rfl) ..
theorem c30 (n:Nat) (a0 a1:IV) (h:Hp):SS dt (n+1) 30 [a0,a1] h=S30 (SS dt n) n a0 a1 h:=Bz (show dt.call 30=fun ih n=>D5 (S30 ih n) by kernel_rfl) ..
theorem c33 (n:Nat) (a0 a1:IV) (h:Hp):SS dt (n+1) 33 [a0,a1] h=S33 (SS dt n) n a0 a1 h:=Bz (show dt.call 33=fun ih n=>D5 (S33 ih n) by kernel_rfl) ..
theorem c34 (n:Nat) (a0 a1:IV) (h:Hp):SS dt (n+1) 34 [a0,a1] h=S34 (SS dt n) n a0 a1 h:=Bz (show dt.call 34=fun ih n=>D5 (S34 ih n) by kernel_rfl) ..
theorem c35 (n:Nat) (a0 a1 a2 a3:IV) (h:Hp):SS dt (n+1) 35 [a0,a1,a2,a3] h=S35 (SS dt n) n a0 a1 a2 a3 h:=Ei (show dt.call 35=fun ih n=>L4 (S35 ih n) by kernel_rfl) ..
theorem c36 (n:Nat) (a0:IV) (h:Hp):SS dt (n+1) 36 [a0] h=S36 (SS dt n) n a0 h:=B4 (show dt.call 36=fun ih n=>Fe (S36 ih n) by kernel_rfl) ..
theorem c37 (n:Nat) (a0 a1:IV) (h:Hp):SS dt (n+1) 37 [a0,a1] h=S37 (SS dt n) n a0 a1 h:=Bz (show dt.call 37=fun ih n=>D5 (S37 ih n) by kernel_rfl) ..
theorem c38 (n:Nat) (a0:IV) (h:Hp):SS dt (n+1) 38 [a0] h=S38 (SS dt n) n a0 h:=B4 (show dt.call 38=fun ih n=>Fe (S38 ih n) by kernel_rfl) ..
theorem c39 (n:Nat) (a0:IV) (h:Hp):SS dt (n+1) 39 [a0] h=S39 (SS dt n) n a0 h:=B4 (show dt.call 39=fun ih n=>Fe (S39 ih n) by kernel_rfl) ..
theorem c40 (n:Nat) (a0 a1:IV) (h:Hp):SS dt (n+1) 40 [a0,a1] h=S40 (SS dt n) n a0 a1 h:=Bz (show dt.call 40=fun ih n=>D5 (S40 ih n) by kernel_rfl) ..
theorem c41 (n:Nat) (a0 a1 a2 a3:IV) (h:Hp):SS dt (n+1) 41 [a0,a1,a2,a3] h=S41 (SS dt n) n a0 a1 a2 a3 h:=Ei (show dt.call 41=fun ih n=>L4 (S41 ih n) by kernel_rfl) ..
theorem c42 (n:Nat) (a0 a1 a2:IV) (h:Hp):SS dt (n+1) 42 [a0,a1,a2] h=S42 (SS dt n) n a0 a1 a2 h:=Ee (show dt.call 42=fun ih n=>L6 (S42 ih n) by kernel_rfl) ..
theorem c43 (n:Nat) (a0 a1:IV) (h:Hp):SS dt (n+1) 43 [a0,a1] h=S43 (SS dt n) n a0 a1 h:=Bz (show dt.call 43=fun ih n=>D5 (S43 ih n) by kernel_rfl) ..
theorem c44 (n:Nat) (h:Hp):SS dt (n+1) 44 [] h=S44 (SS dt n) n  h:=AhJ (show dt.call 44=fun ih n=>OT (S44 ih n) by kernel_rfl) ..
theorem c45 (n:Nat) (a0:IV) (h:Hp):SS dt (n+1) 45 [a0] h=S45 (SS dt n) n a0 h:=B4 (show dt.call 45=fun ih n=>Fe (S45 ih n) by kernel_rfl) ..
theorem c46 (n:Nat) (a0 a1:IV) (h:Hp):SS dt (n+1) 46 [a0,a1] h=S46 (SS dt n) n a0 a1 h:=Bz (show dt.call 46=fun ih n=>D5 (S46 ih n) by kernel_rfl) ..
theorem c47 (n:Nat) (a0 a1 a2 a3:IV) (h:Hp):SS dt (n+1) 47 [a0,a1,a2,a3] h=S47 (SS dt n) n a0 a1 a2 a3 h:=Ei (show dt.call 47=fun ih n=>L4 (S47 ih n) by kernel_rfl) ..
theorem c48 (n:Nat) (a0 a1 a2 a3:IV) (h:Hp):SS dt (n+1) 48 [a0,a1,a2,a3] h=S48 (SS dt n) n a0 a1 a2 a3 h:=Ei (show dt.call 48=fun ih n=>L4 (S48 ih n) by kernel_rfl) ..
theorem c49 (n:Nat) (a0 a1 a2 a3:IV) (h:Hp):SS dt (n+1) 49 [a0,a1,a2,a3] h=S49 (SS dt n) n a0 a1 a2 a3 h:=Ei (show dt.call 49=fun ih n=>L4 (S49 ih n) by kernel_rfl) ..
theorem c50 (n:Nat) (a0 a1 a2:IV) (h:Hp):SS dt (n+1) 50 [a0,a1,a2] h=S50 (SS dt n) n a0 a1 a2 h:=Ee (show dt.call 50=fun ih n=>L6 (S50 ih n) by kernel_rfl) ..
theorem c51 (n:Nat) (a0 a1:IV) (h:Hp):SS dt (n+1) 51 [a0,a1] h=S51 (SS dt n) n a0 a1 h:=Bz (show dt.call 51=fun ih n=>D5 (S51 ih n) by kernel_rfl) ..
theorem c52 (n:Nat) (a0 a1 a2:IV) (h:Hp):SS dt (n+1) 52 [a0,a1,a2] h=S52 (SS dt n) n a0 a1 a2 h:=Ee (show dt.call 52=fun ih n=>L6 (S52 ih n) by kernel_rfl) ..
theorem c53 (n:Nat) (a0 a1 a2 a3:IV) (h:Hp):SS dt (n+1) 53 [a0,a1,a2,a3] h=S53 (SS dt n) n a0 a1 a2 a3 h:=Ei (show dt.call 53=fun ih n=>L4 (S53 ih n) by kernel_rfl) ..
theorem c54 (n:Nat) (a0 a1:IV) (h:Hp):SS dt (n+1) 54 [a0,a1] h=S54 (SS dt n) n a0 a1 h:=Bz (show dt.call 54=fun ih n=>D5 (S54 ih n) by kernel_rfl) ..
theorem c55 (n:Nat) (a0:IV) (h:Hp):SS dt (n+1) 55 [a0] h=S55 (SS dt n) n a0 h:=B4 (show dt.call 55=fun ih n=>Fe (S55 ih n) by kernel_rfl) ..
theorem c56 (n:Nat) (a0:IV) (h:Hp):SS dt (n+1) 56 [a0] h=S56 (SS dt n) n a0 h:=B4 (show dt.call 56=fun ih n=>Fe (S56 ih n) by kernel_rfl) ..
theorem c57 (n:Nat) (a0 a1:IV) (h:Hp):SS dt (n+1) 57 [a0,a1] h=S57 (SS dt n) n a0 a1 h:=Bz (show dt.call 57=fun ih n=>D5 (S57 ih n) by kernel_rfl) ..
theorem c58 (n:Nat) (a0 a1:IV) (h:Hp):SS dt (n+1) 58 [a0,a1] h=S58 (SS dt n) n a0 a1 h:=Bz (show dt.call 58=fun ih n=>D5 (S58 ih n) by kernel_rfl) ..
theorem c59 (n:Nat) (a0 a1:IV) (h:Hp):SS dt (n+1) 59 [a0,a1] h=S59 (SS dt n) n a0 a1 h:=Bz (show dt.call 59=fun ih n=>D5 (S59 ih n) by kernel_rfl) ..
theorem c60 (n:Nat) (a0 a1 a2 a3:IV) (h:Hp):SS dt (n+1) 60 [a0,a1,a2,a3] h=S60 (SS dt n) n a0 a1 a2 a3 h:=Ei (show dt.call 60=fun ih n=>L4 (S60 ih n) by kernel_rfl) ..
theorem c61 (n:Nat) (a0:IV) (h:Hp):SS dt (n+1) 61 [a0] h=S61 (SS dt n) n a0 h:=B4 (show dt.call 61=fun ih n=>Fe (S61 ih n) by kernel_rfl) ..
theorem c62 (n:Nat) (a0 a1:IV) (h:Hp):SS dt (n+1) 62 [a0,a1] h=S62 (SS dt n) n a0 a1 h:=Bz (show dt.call 62=fun ih n=>D5 (S62 ih n) by kernel_rfl) ..
theorem c63 (n:Nat) (a0:IV) (h:Hp):SS dt (n+1) 63 [a0] h=S63 (SS dt n) n a0 h:=B4 (show dt.call 63=fun ih n=>Fe (S63 ih n) by kernel_rfl) ..
theorem c64 (n:Nat) (h:Hp):SS dt (n+1) 64 [] h=S64 (SS dt n) n  h:=AhJ (show dt.call 64=fun ih n=>OT (S64 ih n) by kernel_rfl) ..
theorem c65 (n:Nat) (a0 a1 a2:IV) (h:Hp):SS dt (n+1) 65 [a0,a1,a2] h=S65 (SS dt n) n a0 a1 a2 h:=Ee (show dt.call 65=fun ih n=>L6 (S65 ih n) by kernel_rfl) ..
theorem c66 (n:Nat) (a0 a1 a2 a3:IV) (h:Hp):SS dt (n+1) 66 [a0,a1,a2,a3] h=S66 (SS dt n) n a0 a1 a2 a3 h:=Ei (show dt.call 66=fun ih n=>L4 (S66 ih n) by kernel_rfl) ..
theorem c68 (n:Nat) (a0:IV) (h:Hp):SS dt (n+1) 68 [a0] h=S68 (SS dt n) n a0 h:=B4 (show dt.call 68=fun ih n=>Fe (S68 ih n) by kernel_rfl) ..
theorem c69 (n:Nat) (a0 a1 a2:IV) (h:Hp):SS dt (n+1) 69 [a0,a1,a2] h=S69 (SS dt n) n a0 a1 a2 h:=Ee (show dt.call 69=fun ih n=>L6 (S69 ih n) by kernel_rfl) ..
theorem c70 (n:Nat) (a0:IV) (h:Hp):SS dt (n+1) 70 [a0] h=S70 (SS dt n) n a0 h:=B4 (show dt.call 70=fun ih n=>Fe (S70 ih n) by kernel_rfl) ..
theorem c71 (n:Nat) (a0:IV) (h:Hp):SS dt (n+1) 71 [a0] h=S71 (SS dt n) n a0 h:=B4 (show dt.call 71=fun ih n=>Fe (S71 ih n) by kernel_rfl) ..
theorem c72 (n:Nat) (a0 a1:IV) (h:Hp):SS dt (n+1) 72 [a0,a1] h=S72 (SS dt n) n a0 a1 h:=Bz (show dt.call 72=fun ih n=>D5 (S72 ih n) by kernel_rfl) ..
theorem c73 (n:Nat) (a0 a1:IV) (h:Hp):SS dt (n+1) 73 [a0,a1] h=S73 (SS dt n) n a0 a1 h:=Bz (show dt.call 73=fun ih n=>D5 (S73 ih n) by kernel_rfl) ..
theorem c74 (n:Nat) (a0 a1:IV) (h:Hp):SS dt (n+1) 74 [a0,a1] h=S74 (SS dt n) n a0 a1 h:=Bz (show dt.call 74=fun ih n=>D5 (S74 ih n) by kernel_rfl) ..
theorem c75 (n:Nat) (a0 a1:IV) (h:Hp):SS dt (n+1) 75 [a0,a1] h=S75 (SS dt n) n a0 a1 h:=Bz (show dt.call 75=fun ih n=>D5 (S75 ih n) by kernel_rfl) ..
theorem c76 (n:Nat) (a0 a1:IV) (h:Hp):SS dt (n+1) 76 [a0,a1] h=S76 (SS dt n) n a0 a1 h:=Bz (show dt.call 76=fun ih n=>D5 (S76 ih n) by kernel_rfl) ..
theorem c77 (n:Nat) (a0:IV) (h:Hp):SS dt (n+1) 77 [a0] h=S77 (SS dt n) n a0 h:=B4 (show dt.call 77=fun ih n=>Fe (S77 ih n) by kernel_rfl) ..
theorem c78 (n:Nat) (a0 a1:IV) (h:Hp):SS dt (n+1) 78 [a0,a1] h=S78 (SS dt n) n a0 a1 h:=Bz (show dt.call 78=fun ih n=>D5 (S78 ih n) by kernel_rfl) ..
theorem c79 (n:Nat) (a0 a1:IV) (h:Hp):SS dt (n+1) 79 [a0,a1] h=S79 (SS dt n) n a0 a1 h:=Bz (show dt.call 79=fun ih n=>D5 (S79 ih n) by kernel_rfl) ..
theorem c80 (n:Nat) (a0 a1:IV) (h:Hp):SS dt (n+1) 80 [a0,a1] h=S80 (SS dt n) n a0 a1 h:=Bz (show dt.call 80=fun ih n=>D5 (S80 ih n) by kernel_rfl) ..
theorem c81 (n:Nat) (a0 a1 a2 a3:IV) (h:Hp):SS dt (n+1) 81 [a0,a1,a2,a3] h=S81 (SS dt n) n a0 a1 a2 a3 h:=Ei (show dt.call 81=fun ih n=>L4 (S81 ih n) by kernel_rfl) ..
theorem c82 (n:Nat) (a0:IV) (h:Hp):SS dt (n+1) 82 [a0] h=S82 (SS dt n) n a0 h:=B4 (show dt.call 82=fun ih n=>Fe (S82 ih n) by kernel_rfl) ..
theorem c83 (n:Nat) (a0:IV) (h:Hp):SS dt (n+1) 83 [a0] h=S83 (SS dt n) n a0 h:=B4 (show dt.call 83=fun ih n=>Fe (S83 ih n) by kernel_rfl) ..
theorem c84 (n:Nat) (a0 a1:IV) (h:Hp):SS dt (n+1) 84 [a0,a1] h=S84 (SS dt n) n a0 a1 h:=Bz (show dt.call 84=fun ih n=>D5 (S84 ih n) by kernel_rfl) ..
theorem c85 (n:Nat) (a0 a1:IV) (h:Hp):SS dt (n+1) 85 [a0,a1] h=S85 (SS dt n) n a0 a1 h:=Bz (show dt.call 85=fun ih n=>D5 (S85 ih n) by kernel_rfl) ..
theorem c86 (n:Nat) (a0 a1:IV) (h:Hp):SS dt (n+1) 86 [a0,a1] h=S86 (SS dt n) n a0 a1 h:=Bz (show dt.call 86=fun ih n=>D5 (S86 ih n) by kernel_rfl) ..
theorem c87 (n:Nat) (a0 a1:IV) (h:Hp):SS dt (n+1) 87 [a0,a1] h=S87 (SS dt n) n a0 a1 h:=Bz (show dt.call 87=fun ih n=>D5 (S87 ih n) by kernel_rfl) ..
theorem c88 (n:Nat) (a0 a1 a2:IV) (h:Hp):SS dt (n+1) 88 [a0,a1,a2] h=S88 (SS dt n) n a0 a1 a2 h:=Ee (show dt.call 88=fun ih n=>L6 (S88 ih n) by kernel_rfl) ..
theorem c89 (n:Nat) (a0 a1 a2:IV) (h:Hp):SS dt (n+1) 89 [a0,a1,a2] h=S89 (SS dt n) n a0 a1 a2 h:=Ee (show dt.call 89=fun ih n=>L6 (S89 ih n) by kernel_rfl) ..
theorem c90 (n:Nat) (a0 a1 a2:IV) (h:Hp):SS dt (n+1) 90 [a0,a1,a2] h=S90 (SS dt n) n a0 a1 a2 h:=Ee (show dt.call 90=fun ih n=>L6 (S90 ih n) by kernel_rfl) ..
theorem c91 (n:Nat) (a0 a1 a2:IV) (h:Hp):SS dt (n+1) 91 [a0,a1,a2] h=S91 (SS dt n) n a0 a1 a2 h:=Ee (show dt.call 91=fun ih n=>L6 (S91 ih n) by kernel_rfl) ..
theorem c92 (n:Nat) (a0 a1 a2 a3:IV) (h:Hp):SS dt (n+1) 92 [a0,a1,a2,a3] h=S92 (SS dt n) n a0 a1 a2 a3 h:=Ei (show dt.call 92=fun ih n=>L4 (S92 ih n) by kernel_rfl) ..
theorem c93 (n:Nat) (a0 a1:IV) (h:Hp):SS dt (n+1) 93 [a0,a1] h=S93 (SS dt n) n a0 a1 h:=Bz (show dt.call 93=fun ih n=>D5 (S93 ih n) by kernel_rfl) ..
theorem c94 (n:Nat) (a0 a1 a2:IV) (h:Hp):SS dt (n+1) 94 [a0,a1,a2] h=S94 (SS dt n) n a0 a1 a2 h:=Ee (show dt.call 94=fun ih n=>L6 (S94 ih n) by kernel_rfl) ..
theorem c95 (n:Nat) (a0 a1 a2 a3:IV) (h:Hp):SS dt (n+1) 95 [a0,a1,a2,a3] h=S95 (SS dt n) n a0 a1 a2 a3 h:=Ei (show dt.call 95=fun ih n=>L4 (S95 ih n) by kernel_rfl) ..
def WH:=AwK @Ahr.eq_1<|AwK @Aii.eq_1<|AwK @AhR.eq_1<|AwK @AfV.eq_1<|AwK @Agk.eq_1<|AwK @AfC.eq_1<|AwK @AgE.eq_1<|AwK @AgF.eq_1<|AwK @AfJ.eq_1<|AwK @Ahj.eq_1<|AwK @Ah2.eq_1<|AwK @Ajl.eq_1<|AwK @Ahi.eq_1<|AwK @Ah9.eq_1<|AwK @AgV.eq_1<|AwK @Ahw.eq_1<|AwK @Ajf.eq_1<|AwK @AfU.eq_1<|AwK @Aga.eq_1<|AwK @AfY.eq_1<|AwK @AhI.eq_1<|AwK @AiL.eq_1<|AwK @AiI.eq_1<|AwK @Ai0.eq_1<|AwK @Ai4.eq_1<|AwK @AgJ.eq_1<|@S7.eq_1
def UU2:=AwK @IH.eq_1<|AwK @Jq.eq_1<|AwK @I4.eq_1<|AwK @IT.eq_1<|AwK @Jo.eq_1<|AwK @IP.eq_1<|AwK @IR.eq_1<|AwK @I3.eq_1<|AwK @Jb.eq_1<|AwK @Ig.eq_1<|AwK @Ih.eq_1<|AwK @IE.eq_1<|AwK @IF.eq_1<|AwK @Jt.eq_1<|AwK @IM.eq_1<|AwK @IS.eq_1<|@S60.eq_1
def UU3:=AwK @Afm.eq_1<|AwK @AgW.eq_1<|AwK @AfK.eq_1<|AwK @Agm.eq_1<|AwK @AiW.eq_1<|@S51.eq_1
def UU4:=AwK @AbD.eq_1<|AwK @AbE.eq_1<|AwK @AaU.eq_1<|AwK @Ac6.eq_1<|AwK @YN.eq_1<|AwK @Zt.eq_1<|AwK @X6.eq_1<|AwK @XO.eq_1<|AwK @AaO.eq_1<|AwK @AbH.eq_1<|AwK @ZP.eq_1<|AwK @AbX.eq_1<|AwK @AcU.eq_1<|AwK @Aed.eq_1<|AwK @Yr.eq_1<|AwK @AcL.eq_1<|@S13.eq_1
def UU5:=AwK @VZ.eq_1<|AwK @VS.eq_1<|AwK @W9.eq_1<|AwK @WZ.eq_1<|AwK @V9.eq_1<|AwK @Wm.eq_1<|AwK @Wv.eq_1<|AwK @W2.eq_1<|AwK @WP.eq_1<|AwK @Ais.eq_1<|@S20.eq_1
def UU6:=AwK @Aej.eq_1<|AwK @Zz.eq_1<|AwK @Zi.eq_1<|AwK @AaS.eq_1<|AwK @AaB.eq_1<|AwK @XM.eq_1<|AwK @Zr.eq_1<|AwK @Adv.eq_1<|AwK @Zm.eq_1<|AwK @Aab.eq_1<|AwK @Abx.eq_1<|AwK @Ac0.eq_1<|AwK @Adr.eq_1<|AwK @AdQ.eq_1<|AwK @YJ.eq_1<|AwK @Yw.eq_1<|AwK @Ab4.eq_1<|AwK @AaP.eq_1<|AwK @AbU.eq_1<|AwK @AdG.eq_1<|AwK @Z6.eq_1<|AwK @Ya.eq_1<|AwK @Aar.eq_1<|AwK @Adw.eq_1<|AwK @Yd.eq_1<|AwK @Aa0.eq_1<|AwK @Zg.eq_1<|AwK @AcS.eq_1<|AwK @Abm.eq_1<|AwK @YK.eq_1<|AwK @Abj.eq_1<|AwK @Acb.eq_1<|AwK @Ac3.eq_1<|AwK @AaX.eq_1<|AwK @Abh.eq_1<|AwK @Aef.eq_1<|AwK @ZT.eq_1<|AwK @X9.eq_1<|AwK @Ye.eq_1<|AwK @Y7.eq_1<|AwK @Zc.eq_1<|@S23.eq_1
def UU7:=AwK @Adl.eq_1<|AwK @Ac8.eq_1<|AwK @YE.eq_1<|AwK @Aek.eq_1<|AwK @X8.eq_1<|AwK @XS.eq_1<|AwK @YD.eq_1<|AwK @ZI.eq_1<|AwK @AbZ.eq_1<|AwK @X1.eq_1<|AwK @Aaz.eq_1<|AwK @Yt.eq_1<|AwK @Yf.eq_1<|AwK @Aal.eq_1<|AwK @AcE.eq_1<|AwK @AcD.eq_1<|AwK @Y1.eq_1<|AwK @ZK.eq_1<|AwK @YC.eq_1<|AwK @Ad8.eq_1<|AwK @AaH.eq_1<|AwK @AcJ.eq_1<|AwK @Ab9.eq_1<|AwK @AdT.eq_1<|AwK @Acg.eq_1<|AwK @Aen.eq_1<|AwK @Ado.eq_1<|AwK @YX.eq_1<|AwK @YG.eq_1<|AwK @Adc.eq_1<|AwK @Acd.eq_1<|AwK @AbO.eq_1<|AwK @X2.eq_1<|AwK @Adh.eq_1<|AwK @Aaw.eq_1<|AwK @Abe.eq_1<|AwK @Ad4.eq_1<|AwK @Acz.eq_1<|AwK @Yz.eq_1<|AwK @AcB.eq_1<|AwK @Acf.eq_1<|AwK @Z3.eq_1<|AwK @AaZ.eq_1<|AwK @Za.eq_1<|@S35.eq_1
def UU8:=AwK @AbW.eq_1<|AwK @Acu.eq_1<|AwK @ZA.eq_1<|AwK @Aaj.eq_1<|AwK @ZL.eq_1<|AwK @Ab7.eq_1<|AwK @AbP.eq_1<|AwK @Ac5.eq_1<|AwK @Adi.eq_1<|AwK @AaF.eq_1<|AwK @Aav.eq_1<|AwK @X3.eq_1<|AwK @Aau.eq_1<|AwK @AbA.eq_1<|AwK @Adu.eq_1<|AwK @Zy.eq_1<|AwK @Yu.eq_1<|AwK @Z2.eq_1<|AwK @Ad1.eq_1<|AwK @AbK.eq_1<|AwK @Ad9.eq_1<|AwK @AaL.eq_1<|AwK @AdO.eq_1<|AwK @AaM.eq_1<|AwK @Abs.eq_1<|AwK @Ads.eq_1<|AwK @Ad5.eq_1<|AwK @ZB.eq_1<|AwK @AbY.eq_1<|AwK @AdF.eq_1<|AwK @YA.eq_1<|AwK @Abc.eq_1<|AwK @Zp.eq_1<|AwK @Abn.eq_1<|AwK @Y5.eq_1<|AwK @Zf.eq_1<|AwK @Adp.eq_1<|AwK @Aaq.eq_1<|AwK @Adm.eq_1<|AwK @Zx.eq_1<|AwK @Adn.eq_1<|AwK @AaG.eq_1<|AwK @AdY.eq_1<|AwK @Ac2.eq_1<|AwK @ZC.eq_1<|AwK @Aem.eq_1<|AwK @Ace.eq_1<|AwK @Ad0.eq_1<|AwK @AdH.eq_1<|AwK @Yq.eq_1<|AwK @AbC.eq_1<|AwK @Aa8.eq_1<|AwK @Aea.eq_1<|AwK @Yb.eq_1<|AwK @Adq.eq_1<|AwK @Abo.eq_1<|@S53.eq_1
def Xd:=AwK @Ael.eq_1<|AwK @Abf.eq_1<|AwK @ZU.eq_1<|AwK @Z7.eq_1<|AwK @XW.eq_1<|AwK @Ab6.eq_1<|AwK @ZZ.eq_1<|AwK @Ac9.eq_1<|AwK @AbL.eq_1<|AwK @Adg.eq_1<|AwK @AdW.eq_1<|AwK @YZ.eq_1<|AwK @Ab1.eq_1<|AwK @AdR.eq_1<|AwK @Yy.eq_1<|AwK @AcP.eq_1<|AwK @Aa7.eq_1<|AwK @Zu.eq_1<|AwK @YW.eq_1<|AwK @AcM.eq_1<|AwK @Aak.eq_1<|AwK @AcC.eq_1<|AwK @Yk.eq_1<|AwK @Aba.eq_1<|AwK @Yv.eq_1<|AwK @Ze.eq_1<|AwK @Zb.eq_1<|AwK @Abr.eq_1<|AwK @Acj.eq_1<|AwK @Zn.eq_1<|AwK @Abp.eq_1<|AwK @AaW.eq_1<|AwK @Abb.eq_1<|AwK @AbJ.eq_1<|AwK @Aao.eq_1<|AwK @Yh.eq_1<|AwK @ZS.eq_1<|AwK @Zo.eq_1<|AwK @AdM.eq_1<|AwK @AcR.eq_1<|AwK @Ac7.eq_1<|AwK @Acp.eq_1<|AwK @AcO.eq_1<|AwK @Abz.eq_1<|AwK @Aas.eq_1<|AwK @Aad.eq_1<|AwK @AaN.eq_1<|AwK @AcT.eq_1<|AwK @AcX.eq_1<|AwK @AdN.eq_1<|AwK @Z8.eq_1<|AwK @AdU.eq_1<|AwK @Yc.eq_1<|AwK @AdZ.eq_1<|AwK @AdS.eq_1<|AwK @AdK.eq_1<|AwK @AcZ.eq_1<|AwK @YP.eq_1<|AwK @AcK.eq_1<|@S49.eq_1
def LD:=AwK @AaV.eq_1<|AwK @Aeh.eq_1<|AwK @ZM.eq_1<|AwK @YF.eq_1<|AwK @Aan.eq_1<|AwK @AaQ.eq_1<|AwK @ZJ.eq_1<|AwK @Ac4.eq_1<|AwK @AaR.eq_1<|AwK @XZ.eq_1<|AwK @AcQ.eq_1<|AwK @AaI.eq_1<|AwK @YL.eq_1<|AwK @AbQ.eq_1<|AwK @Zw.eq_1<|AwK @YU.eq_1<|AwK @AbG.eq_1<|AwK @Ad7.eq_1<|AwK @ZD.eq_1<|AwK @Adz.eq_1<|AwK @Aax.eq_1<|AwK @Zd.eq_1<|AwK @AdB.eq_1<|AwK @AaA.eq_1<|AwK @ZR.eq_1<|AwK @ZN.eq_1<|AwK @ZY.eq_1<|AwK @Ad3.eq_1<|@S21.eq_1
def P7:=AwK @R1.eq_1<|AwK @Sk.eq_1<|AwK @RG.eq_1<|AwK @S6.eq_1<|AwK @RR.eq_1<|AwK @RO.eq_1<|AwK @RB.eq_1<|AwK @Tz.eq_1<|AwK @Rv.eq_1<|AwK @TS.eq_1<|AwK @SH.eq_1<|AwK @Rz.eq_1<|AwK @R9.eq_1<|AwK @Ue.eq_1<|AwK @Zq.eq_1<|@S47.eq_1
def J2:=AwK @Rk.eq_1<|AwK @Sp.eq_1<|AwK @R0.eq_1<|AwK @Q6.eq_1<|AwK @TM.eq_1<|AwK @R8.eq_1<|AwK @SR.eq_1<|AwK @TD.eq_1<|AwK @Sv.eq_1<|AwK @Sj.eq_1<|AwK @SZ.eq_1<|AwK @RP.eq_1<|AwK @R3.eq_1<|AwK @Si.eq_1<|AwK @RW.eq_1<|AwK @SE.eq_1<|AwK @SL.eq_1<|AwK @Ru.eq_1<|AwK @SU.eq_1<|AwK @Ug.eq_1<|AwK @Tq.eq_1<|AwK @Rp.eq_1<|AwK @Ty.eq_1<|AwK @RT.eq_1<|AwK @Rf.eq_1<|AwK @Q8.eq_1<|AwK @RE.eq_1<|AwK @Tt.eq_1<|AwK @Q3.eq_1<|AwK @Rt.eq_1<|AwK @So.eq_1<|AwK @SF.eq_1<|AwK @IN.eq_1<|AwK @S0.eq_1<|@S38.eq_1
def AhP:=AwK @EF.eq_1<|AwK @ED.eq_1<|AwK @EK.eq_1<|AwK @EQ.eq_1<|AwK @EJ.eq_1<|AwK @EC.eq_1<|AwK @Hj.eq_1<|AwK @ES.eq_1<|AwK @Ez.eq_1<|AwK @EU.eq_1<|AwK @Ew.eq_1<|AwK @EH.eq_1<|AwK @Ey.eq_1<|AwK @EI.eq_1<|AwK @EP.eq_1<|AwK @Et.eq_1<|AwK @Es.eq_1<|AwK @EL.eq_1<|AwK @EV.eq_1<|AwK @EG.eq_1<|AwK @Eu.eq_1<|AwK @EW.eq_1<|AwK @ET.eq_1<|AwK @EN.eq_1<|AwK @EM.eq_1<|AwK @Er.eq_1<|AwK @Ep.eq_1<|AwK @EB.eq_1<|AwK @EO.eq_1<|@S41.eq_1
def F9:=AwK @YB.eq_1<|AwK @AbI.eq_1<|AwK @X0.eq_1<|AwK @AcH.eq_1<|AwK @Acs.eq_1<|AwK @Abk.eq_1<|AwK @Adf.eq_1<|AwK @AbF.eq_1<|AwK @Ad2.eq_1<|AwK @Z0.eq_1<|AwK @AcF.eq_1<|AwK @Aac.eq_1<|AwK @AcA.eq_1<|AwK @AcW.eq_1<|AwK @AaK.eq_1<|AwK @AcV.eq_1<|AwK @YY.eq_1<|AwK @X5.eq_1<|AwK @ZV.eq_1<|AwK @Ady.eq_1<|AwK @Abu.eq_1<|AwK @Y0.eq_1<|AwK @Yi.eq_1<|AwK @ZO.eq_1<|AwK @AdD.eq_1<|AwK @XU.eq_1<|AwK @Acv.eq_1<|AwK @AbM.eq_1<|AwK @Adb.eq_1<|AwK @Yp.eq_1<|AwK @Ab0.eq_1<|AwK @YQ.eq_1<|AwK @Yn.eq_1<|AwK @Yj.eq_1<|AwK @Aa6.eq_1<|AwK @AcN.eq_1<|AwK @AdL.eq_1<|AwK @Acq.eq_1<|AwK @Zj.eq_1<|AwK @Acn.eq_1<|AwK @AdC.eq_1<|AwK @X4.eq_1<|AwK @AdA.eq_1<|AwK @Abl.eq_1<|AwK @AdV.eq_1<|AwK @Ade.eq_1<|AwK @Y8.eq_1<|AwK @Ad6.eq_1<|AwK @Aa2.eq_1<|AwK @Ach.eq_1<|@S59.eq_1
def UZ:=AwK @Ij.eq_1<|AwK @IU.eq_1<|AwK @IK.eq_1<|AwK @I7.eq_1<|AwK @IG.eq_1<|AwK @I8.eq_1<|AwK @IW.eq_1<|AwK @I5.eq_1<|AwK @Jm.eq_1<|AwK @I2.eq_1<|AwK @IJ.eq_1<|AwK @Iq.eq_1<|AwK @IB.eq_1<|AwK @Ji.eq_1<|AwK @Jc.eq_1<|AwK @Jk.eq_1<|AwK @In.eq_1<|AwK @I6.eq_1<|AwK @It.eq_1<|AwK @Aat.eq_1<|AwK @IQ.eq_1<|AwK @Jn.eq_1<|AwK @ID.eq_1<|@S42.eq_1
def Aio:=AwK @L1.eq_1<|AwK @Lu.eq_1<|AwK @Lv.eq_1<|AwK @KW.eq_1<|AwK @K5.eq_1<|AwK @K6.eq_1<|AwK @Lq.eq_1<|AwK @LO.eq_1<|AwK @Ke.eq_1<|AwK @Ky.eq_1<|AwK @KC.eq_1<|AwK @KM.eq_1<|AwK @Kv.eq_1<|AwK @KB.eq_1<|@S52.eq_1
def Agb:=AwK @AhS.eq_1<|AwK @AiB.eq_1<|AwK @AgZ.eq_1<|AwK @AfP.eq_1<|AwK @AhD.eq_1<|@S62.eq_1
def Aip:=AwK @Aik.eq_1<|AwK @Ajm.eq_1<|AwK @AhL.eq_1<|AwK @Ajn.eq_1<|AwK @Agh.eq_1<|AwK @AfA.eq_1<|@S71.eq_1
def AhH:=AwK @LF.eq_1<|AwK @Ko.eq_1<|AwK @LV.eq_1<|AwK @LI.eq_1<|AwK @Kn.eq_1<|AwK @Lr.eq_1<|AwK @Kq.eq_1<|@S63.eq_1
def We:=AwK @Dy.eq_1<|AwK @DP.eq_1<|AwK @Dt.eq_1<|AwK @Dp.eq_1<|AwK @DL.eq_1<|AwK @DD.eq_1<|AwK @CJ.eq_1<|AwK @Do.eq_1<|AwK @Dl.eq_1<|AwK @DI.eq_1<|AwK @Dw.eq_1<|AwK @DQ.eq_1<|AwK @D0.eq_1<|AwK @DH.eq_1<|AwK @DZ.eq_1<|AwK @Dr.eq_1<|AwK @Dj.eq_1<|AwK @DY.eq_1<|AwK @Dn.eq_1<|AwK @DO.eq_1<|AwK @Du.eq_1<|AwK @DE.eq_1<|AwK @Dx.eq_1<|AwK @DA.eq_1<|AwK @DK.eq_1<|AwK @Fk.eq_1<|AwK @Di.eq_1<|AwK @Dv.eq_1<|AwK @DF.eq_1<|AwK @DJ.eq_1<|AwK @Dq.eq_1<|@S66.eq_1
def Aev:=AwK @AiY.eq_1<|AwK @AfR.eq_1<|AwK @AhW.eq_1<|AwK @Aix.eq_1<|AwK @Ahu.eq_1<|@S85.eq_1
def Aiq:=AwK @Ob.eq_1<|AwK @NJ.eq_1<|AwK @ND.eq_1<|AwK @NP.eq_1<|AwK @NK.eq_1<|AwK @NX.eq_1<|AwK @N6.eq_1<|AwK @NV.eq_1<|AwK @XQ.eq_1<|AwK @NL.eq_1<|AwK @Oc.eq_1<|AwK @N9.eq_1<|AwK @NT.eq_1<|AwK @NH.eq_1<|AwK @N7.eq_1<|@S65.eq_1
def W5:=AwK @Abi.eq_1<|AwK @Y9.eq_1<|AwK @Z5.eq_1<|AwK @Aaf.eq_1<|AwK @Zl.eq_1<|AwK @AcG.eq_1<|AwK @ZE.eq_1<|AwK @AcI.eq_1<|AwK @AbR.eq_1<|AwK @Aa9.eq_1<|AwK @Aam.eq_1<|AwK @Aaa.eq_1<|@S80.eq_1
def AgP:=AwK @Ab3.eq_1<|AwK @ZG.eq_1<|AwK @AaT.eq_1<|AwK @YV.eq_1<|AwK @Aby.eq_1<|AwK @Abt.eq_1<|AwK @Z4.eq_1<|AwK @Acm.eq_1<|AwK @ZX.eq_1<|@S82.eq_1
section
variable {β:Type} {E:Env} {t:TypeId}
abbrev iv (n:Int):IV:=.fv (.int .i64 n)
theorem An9 (c:Prop) [Decidable c] (a b:Option β):Am (.fv (.bool (decide c))) a b=if c then a else b:=by
 by_cases h:c
 ·rw [decide_eq_true h,if_pos h];rfl
 ·rw [decide_eq_false h,if_neg h];rfl
theorem Aj8 (o:Nat) (r:Ref) (off:Nat) (k:IV→Option β):Ac o (.ptr r off) k=k (.ptr r (off+o)):=by
 show (D7 (off+o) fun o=>k (.ptr r o))=_
 rw [BU]
theorem QL (o:Nat) (cs:List FV) (off:Nat) (k:IV→Option β):Ac o (.fv (.fp cs off)) k=k (.fv (.fp cs (off+o))):=by
 show (D7 (off+o) fun o=>k (.fv (.fp cs o)))=_
 rw [BU]
theorem ApV {size:Nat} {es:List FV} {n:Nat} {el:FV} (he:es[n]?=some el) (hl:el.cells.length=size) (k:IV→Option β):A7 size (.fv (.sl es)) (iv n) k=k (.fv (.fp el.cells 0)):=by
 show (DG es n fun el=>elK size el k)=_
 rw [C2,he]
 show elK size el k=_
 rw [Agl,if_pos hl]
theorem MT {op:BinOp} {g:Nat→Nat→Bool} (hg:∀a b:Nat,FG E op t (iv a) (iv b)=some (.fv (.bool (g a b)))) (a b:Int) (k:IV→Option β) :
  SN E t op g (iv a) (iv b) k=(FG E op t (iv a) (iv b)).bind k:=by
 cases a with
 | ofNat a =>
  cases b with
  | ofNat b =>
   show Ag2 (g a b) k=_
   rw [UB,show FG E op t (iv (Int.ofNat a)) (iv (Int.ofNat b))=some (.fv (.bool (g a b))) from hg a b]
   rfl
  | negSucc b =>
   show CS E t op _ _ k=_
   rw [CS,CK]
 | negSucc a =>
  show CS E t op _ _ k=_
  rw [CS,CK]
theorem ArS (a b:Int) (k:IV→Option β):A5 E t (iv a) (iv b) k=k (.fv (.bool (decide (a=b)))):=by
 rw [A5,MT (fun a b=>by
  show some (IV.fv (.bool ((a:Int) == (b:Int))))=_
  rw [Ir];congr 3;exact decide_eq_decide.2 Int.ofNat_inj)]
 rfl
theorem Asy (a b:Int) (k:IV→Option β):Ha E t (iv a) (iv b) k=k (.fv (.bool (!decide (a=b)))):=by
 rw [Ha,MT (fun a b=>by
  show some (IV.fv (.bool ((a:Int) != (b:Int))))=_
  rw [Ir];congr 3
  show (!decide ((a:Int)=(b:Int)))=!decide (a=b)
  congr 1;exact decide_eq_decide.2 Int.ofNat_inj)]
 rfl
theorem Asb (a b:Int) (k:IV→Option β):G8 E t (iv a) (iv b) k=k (.fv (.bool (decide (a<b)))):=by
 rw [G8,MT (fun a b=>by
  show some (IV.fv (.bool (decide ((a:Int)<(b:Int)))))=_
  rw [Bb];congr 3;exact decide_eq_decide.2 (by omega))]
 rfl
theorem AqR (a b:Int) (k:IV→Option β):leS E t (iv a) (iv b) k=k (.fv (.bool (decide (a≤b)))):=by
 rw [leS,MT (fun a b=>by
  show some (IV.fv (.bool (decide ((a:Int)≤(b:Int)))))=_
  rw [Bb];congr 3;exact decide_eq_decide.2 (by omega))]
 rfl
theorem ArA (b:Bool) (k:IV→Option β):CL (L5 .not (.fv (.bool b))) k=k (.fv (.bool !b)):=by
 rw [CK];rfl
end
end Idl
end Go.Proofs.Ytaifgaidaglblaa
namespace Go.Proofs.Ytaifgaidaglblaa
namespace Idl
section
variable {β:Type} {α:Type}
theorem n0 (a:α) (l:List α) (k:α→Option β):DG (a::l) 0 k=k a:=rfl
theorem n1 (a b:α) (l:List α) (k:α→Option β):DG (a::b::l) 1 k=k b:=rfl
theorem n2 (a b c:α) (l:List α) (k:α→Option β):DG (a::b::c::l) 2 k=k c:=rfl
theorem n3 (a b c d:α) (l:List α) (k:α→Option β):DG (a::b::c::d::l) 3 k=k d:=rfl
theorem n4 (a b c d e:α) (l:List α) (k:α→Option β):DG (a::b::c::d::e::l) 4 k=k e:=rfl
theorem n5 (a b c d e f:α) (l:List α) (k:α→Option β):DG (a::b::c::d::e::f::l) 5 k=k f:=rfl
theorem n6 (a b c d e f g:α) (l:List α) (k:α→Option β):DG (a::b::c::d::e::f::g::l) 6 k=k g:=rfl
theorem d0 (l:List α) (k:List α→Option β):FL l 0 k=k l:=by cases l<;>rfl
theorem d1 (a:α) (l:List α) (k:List α→Option β):FL (a::l) 1 k=k l:=by cases l<;>rfl
theorem d2 (a b:α) (l:List α) (k:List α→Option β):FL (a::b::l) 2 k=k l:=by cases l<;>rfl
theorem d3 (a b c:α) (l:List α) (k:List α→Option β):FL (a::b::c::l) 3 k=k l:=by cases l<;>rfl
theorem d4 (a b c d:α) (l:List α) (k:List α→Option β):FL (a::b::c::d::l) 4 k=k l:=by cases l<;>rfl
theorem t1 (a:α) (l:List α) (k:List α→Option β):F8 (a::l) 1 k=k [a]:=by cases l<;>rfl
theorem t2 (a b:α) (l:List α) (k:List α→Option β):F8 (a::b::l) 2 k=k [a,b]:=by cases l<;>rfl
theorem t3 (a b c:α) (l:List α) (k:List α→Option β):F8 (a::b::c::l) 3 k=k [a,b,c]:=by cases l<;>rfl
theorem t4 (a b c d:α) (l:List α) (k:List α→Option β):F8 (a::b::c::d::l) 4 k=k [a,b,c,d]:=by cases l<;>rfl
theorem t7 (a b c d e f g:α) (l:List α) (k:List α→Option β):F8 (a::b::c::d::e::f::g::l) 7 k=k [a,b,c,d,e,f,g]:=by cases l<;>rfl
theorem AjX (l:List α) (k:List α→Option β):spK l k=k l:=H1 l k
theorem ap0 (us:List α) (k:List α→Option β):Nn [] us k=k us:=rfl
theorem ap1 (u:α) (l us:List α) (k:List α→Option β):Nn (u::l) us k=Nn l us fun w=>k (u::w):=rfl
theorem AsP (a:α) (l:List α) (k:α→List α→Option β):Av (a::l) k=k a l:=rfl
theorem c_t {γ:Type} (a b:γ):cond true a b=a:=rfl
theorem c_f {γ:Type} (a b:γ):cond false a b=b:=rfl
end
section
variable {β:Type}
theorem Akd {s j:Nat} (h:(s == j)=false):Nat.beq s j=false:=by
 rw [Ir];simpa using h
theorem L0 (s:Nat) (own:List (Nat×Blk)) (ext:List Blk) (k:Blk→Option β):C6 (.own s) ⟨own,ext⟩ k=Fj own s k:=rfl
theorem ArH (j:Nat) (own:List (Nat×Blk)) (ext:List Blk) (k:Blk→Option β):C6 (.ext j) ⟨own,ext⟩ k=DG ext j k:=rfl
theorem AlT (s:Nat) (b:Blk) (l:List (Nat×Blk)) (k:Blk→Option β):Fj ((s,b)::l) s k=k b:=by
 show cond (Nat.beq s s) (k b) _=_
 rw [show Nat.beq s s=true from Nat.beq_refl s]
 rfl
theorem Aoh {s j:Nat} (hne:(s == j)=false) (b:Blk) (l:List (Nat×Blk)) (k:Blk→Option β):Fj ((j,b)::l) s k=Fj l s k:=by
 show cond (Nat.beq s j) (k b) _=_
 rw [show Nat.beq s j=false from Akd hne]
 rfl
theorem Aq5 (s:Nat) (b:Blk) (k:List (Nat×Blk)→Option β):A1 [] s b k=k [(s,b)]:=rfl
theorem Amu (s:Nat) (b c:Blk) (l:List (Nat×Blk)) (k:List (Nat×Blk)→Option β):A1 ((s,c)::l) s b k=k ((s,b)::l):=by
 show cond (Nat.beq s s) _ _=_
 rw [show Nat.beq s s=true from Nat.beq_refl s]
 rfl
theorem ApR {s j:Nat} (hne:(s == j)=false) (b c:Blk) (l:List (Nat×Blk)) (k:List (Nat×Blk)→Option β):A1 ((j,c)::l) s b k=A1 l s b fun l=>k ((j,c)::l):=by
 show cond (Nat.beq s j) _ _=_
 rw [show Nat.beq s j=false from Akd hne]
 rfl
theorem AsY (s:Nat) (a:Option β):CO [] s a=a:=rfl
theorem Ao4 {s j:Nat} (hne:(s == j)=false) (b:Blk) (l:List (Nat×Blk)) (a:Option β):CO ((j,b)::l) s a=CO l s a:=by
 show cond (Nat.beq s j) none _=_
 rw [show Nat.beq s j=false from Akd hne]
 rfl
theorem AaJ (s:Nat) (b:Blk) (own:List (Nat×Blk)) (ext:List Blk) (k:Hp→Option β):Ga (.own s) b ⟨own,ext⟩ k=A1 own s b fun own=>k ⟨own,ext⟩:=rfl
theorem AkA (j:Nat) (b:Blk) (own:List (Nat×Blk)) (ext:List Blk) (k:Hp→Option β):Ga (.ext j) b ⟨own,ext⟩ k=Qp ext j b fun ext=>k ⟨own,ext⟩:=rfl
theorem sn0 {α:Type} (a b:α) (l:List α) (k:List α→Option β):Qp (a::l) 0 b k=k (b::l):=rfl
theorem Arr (s:Nat) (b:Blk) (v:IV) (own:List (Nat×Blk)) (ext:List Blk) (k:IV→Hp→List Ref→List Ref→Option β) :
  AH s b v ⟨own,ext⟩ k=CO own s (A1 own s b fun own=>k v ⟨own,ext⟩ [] [.own s]):=rfl
theorem NU (s:Nat) (cs:List FV) (h:Hp) (k:IV→Hp→List Ref→List Ref→Option β):A2 s (.fv (.agg cs)) h k=AH s (.row (cs.map .fv) false) (.ptr (.own s) 0) h k:=by
 show spK (cs.map IV.fv) _=_
 rw [H1]
theorem Asi (s:Nat) (a b:FV) (h:Hp) (k:IV→Hp→List Ref→List Ref→Option β):A2 s (.fv (.agg [a,b])) h k=AH s (.row [.fv a,.fv b] false) (.ptr (.own s) 0) h k:=NU ..
theorem AqL (s:Nat) (a b c:FV) (h:Hp) (k:IV→Hp→List Ref→List Ref→Option β):A2 s (.fv (.agg [a,b,c])) h k=AH s (.row [.fv a,.fv b,.fv c] false) (.ptr (.own s) 0) h k:=NU ..
theorem ArB (s:Nat) (a b c d:FV) (h:Hp) (k:IV→Hp→List Ref→List Ref→Option β):A2 s (.fv (.agg [a,b,c,d])) h k=AH s (.row [.fv a,.fv b,.fv c,.fv d] false) (.ptr (.own s) 0) h k:=NU ..
theorem Ar1 (s:Nat) (a:FV) (h:Hp) (k:IV→Hp→List Ref→List Ref→Option β):A2 s (.fv (.agg [a])) h k=AH s (.row [.fv a] false) (.ptr (.own s) 0) h k:=NU ..
theorem Vg (s:Nat) (cs:List IV) (h:Hp) (k:IV→Hp→List Ref→List Ref→Option β):A2 s (.agg cs) h k=AH s (.row cs false) (.ptr (.own s) 0) h k:=by
 show spK cs _=_
 rw [H1]
theorem Alo {x:IV} (hx:x.one=true) (s:Nat) (h:Hp) (k:IV→Hp→List Ref→List Ref→Option β):A2 s x h k=AH s (.row [x] false) (.ptr (.own s) 0) h k:=by
 unfold A2;rw [hx];rfl
theorem ApT (k:IntKind) (n:Int):IV.one (.fv (.int k n))=true:=rfl
theorem Aj5 (b:Bool):IV.one (.fv (.bool b))=true:=rfl
theorem Aq1 (l:List FV):IV.one (.fv (.sl l))=true:=rfl
theorem Asu (l:List FV) (o:Nat):IV.one (.fv (.fp l o))=true:=rfl
theorem Aj3 (fn:Fn) (a b:List FV):IV.one (.fv (.func fn a b))=true:=rfl
theorem Akk:IV.one (.fv .nilp)=true:=rfl
theorem Akz:IV.one .nils=true:=rfl
theorem Apf (r:Ref) (o:Nat):IV.one (.ptr r o)=true:=rfl
theorem Aox (r:Ref) (a b:Nat):IV.one (.slc r a b)=true:=rfl
theorem ApX (r:Ref) (l:List FV):IV.one (.app r l)=true:=rfl
theorem AlP (l:List FV):IV.one (.clip l)=true:=rfl
theorem Apl:IV.one .emp=true:=rfl
theorem ApM (l:List IV):IV.one (.agg l)=false:=rfl
theorem AkR (l:List FV):IV.one (.fv (.agg l))=false:=rfl
theorem AmB (k:IntKind) (n:Int):Ie (.int k n)=true:=rfl
theorem Aj7 (b:Bool):Ie (.bool b)=true:=rfl
theorem AsU (l:List FV):Ie (.sl l)=true:=rfl
theorem Aq4 (l:List FV) (o:Nat):Ie (.fp l o)=true:=rfl
theorem Akb:Ie .nilp=true:=rfl
theorem Aoy (l:List FV):Ie (.agg l)=false:=rfl
theorem Alv:Ds []=true:=rfl
theorem UQ {v:FV} (h:Ie v=true) (l:List FV):Ds (v::l)=Ds l:=by
 show cond (Ie v) (Ds l) false=_
 rw [h];rfl
theorem Wj (r:Ref) (o:Nat) (k:Ref→Nat→Option β) (kf:List FV→Nat→Option β):EZ (.ptr r o) k kf=k r o:=rfl
theorem AtG (cs:List FV) (o:Nat) (k:Ref→Nat→Option β) (kf:List FV→Nat→Option β):EZ (.fv (.fp cs o)) k kf=kf cs o:=rfl
theorem HH (cs:List IV) (ro:Bool) (k:List IV→Option β):D4 (.row cs ro) k=k cs:=rfl
theorem Z9 (cs:List IV) (k:List IV→Option β):Hy (.row cs false) k=k cs:=rfl
theorem Aim (v:FV) (e:Option β) (k:FV→Option β):PR (.fv v) e k=k v:=rfl
theorem Wl (l:List IV) (e:Option β) (k:FV→Option β):PR (.agg l) e k=e:=rfl
theorem Anh (e:Option β) (k:FV→Option β):PR .nils e k=e:=rfl
theorem AnD (r:Ref) (o:Nat) (e:Option β) (k:FV→Option β):PR (.ptr r o) e k=e:=rfl
theorem AoJ (r:Ref) (o:List FV) (e:Option β) (k:FV→Option β):PR (.app r o) e k=e:=rfl
theorem Anz (o:List FV) (e:Option β) (k:FV→Option β):PR (.clip o) e k=e:=rfl
theorem Aps (r:Ref) (a b:Nat) (e:Option β) (k:FV→Option β):PR (.slc r a b) e k=e:=rfl
theorem Anw (e:Option β) (k:FV→Option β):PR .emp e k=e:=rfl
theorem Apm (cs:List FV) (k:List FV→Option β):Hu (.agg cs) k=k cs:=rfl
theorem AqU (cs:List IV) (k:List IV→Option β) (kf:List FV→Option β):asAgg (.agg cs) k kf=k cs:=rfl
theorem Aon (cs:List FV) (k:List IV→Option β) (kf:List FV→Option β):asAgg (.fv (.agg cs)) k kf=kf cs:=rfl
theorem Alg (e:Option β) (k:List FV→Option β):Cv [] e k=k []:=rfl
theorem AoQ (v:FV) (l:List IV) (e:Option β) (k:List FV→Option β):Cv (.fv v::l) e k=Cv l e fun vs=>k (v::vs):=rfl
theorem AfO (l:List IV) (e:Option β) (k:List FV→Option β):Cv (.nils::l) e k=e:=rfl
theorem AkV (r:Ref) (es:List FV) (l:List IV) (e:Option β) (k:List FV→Option β):Cv (.app r es::l) e k=e:=rfl
theorem Ai2 (es:List FV) (l:List IV) (e:Option β) (k:List FV→Option β):Cv (.clip es::l) e k=e:=rfl
theorem Alj (r:Ref) (o:Nat) (l:List IV) (e:Option β) (k:List FV→Option β):Cv (.ptr r o::l) e k=e:=rfl
theorem Akx (r:Ref) (a b:Nat) (l:List IV) (e:Option β) (k:List FV→Option β):Cv (.slc r a b::l) e k=e:=rfl
theorem AlH (es l:List IV) (e:Option β) (k:List FV→Option β):Cv (.agg es::l) e k=e:=rfl
theorem AfN (r:Ref) (l:List IV) (e:Option β) (k:List FV→Option β):Cv (.mapr r::l) e k=e:=rfl
theorem ArF (l:List IV) (k:IV→Option β):PW l k=Cv l (k (.agg l)) fun vs=>k (.fv (.agg vs)):=rfl
theorem AsL (l:List IV) (k:IV→Option β):Xx l k=Cv l (k (.tuple l)) fun vs=>k (.fv (.tuple vs)):=rfl
theorem AtH (a:IV) (h:Hp) (k:IV→List Ref→Option β):Af a h k=EZ a (fun r o=>C6 r h fun b=>D4 b fun cells=>DG cells o fun v=>k v [r]) fun cells o=>DG cells o fun v=>k (.fv v) []:=rfl
theorem Aty (size:Nat) (a:IV) (h:Hp) (k:IV→List Ref→Option β):Ai size a h k =
  EZ a (fun r o=>C6 r h fun b=>D4 b fun cells=>FL cells o fun cs=>F8 cs size fun cs=>PW cs fun v=>k v [r]) fun cells o=>FL cells o fun cs=>F8 cs size fun cs=>k (.fv (.agg cs)) []:=rfl
theorem AoR (size:Nat) (a:IV) (h:Hp) (k:IV→Option β):Ax true size a h k=Ai size a h fun v _=>k v:=rfl
theorem AnW (size:Nat) (a:IV) (h:Hp) (k:IV→Option β):Ax false size a h k=Af a h fun v _=>k v:=rfl
theorem wr0 (l:List IV) (k:List IV→Option β):wrK [] l k=k l:=rfl
theorem wr1 (c:FV) (cs:List FV) (x:IV) (l:List IV) (k:List IV→Option β):wrK (c::cs) (x::l) k=wrK cs l fun t=>k (.fv c::t):=rfl
theorem sf0 (x:IV) (l:List IV) (cs:List FV) (k:List IV→Option β):Eb (x::l) 0 cs k=wrK cs (x::l) k:=rfl
theorem sf1 (x:IV) (l:List IV) (cs:List FV) (k:List IV→Option β):Eb (x::l) 1 cs k=Eb l 0 cs fun t=>k (x::t):=rfl
theorem sf2 (x y:IV) (l:List IV) (cs:List FV) (k:List IV→Option β):Eb (x::y::l) 2 cs k=Eb l 0 cs fun t=>k (x::y::t):=rfl
theorem sf3 (x y z:IV) (l:List IV) (cs:List FV) (k:List IV→Option β):Eb (x::y::z::l) 3 cs k=Eb l 0 cs fun t=>k (x::y::z::t):=rfl
theorem sf4 (x y z u:IV) (l:List IV) (cs:List FV) (k:List IV→Option β):Eb (x::y::z::u::l) 4 cs k=Eb l 0 cs fun t=>k (x::y::z::u::t):=rfl
theorem of0 (x b:IV) (l:List IV) (k:List IV→Option β):GV (x::l) 0 b k=k (b::l):=rfl
theorem of1 (x y b:IV) (l:List IV) (k:List IV→Option β):GV (x::y::l) 1 b k=k (x::b::l):=rfl
theorem of2 (x y z b:IV) (l:List IV) (k:List IV→Option β):GV (x::y::z::l) 2 b k=k (x::y::b::l):=rfl
theorem of3 (x y z u b:IV) (l:List IV) (k:List IV→Option β):GV (x::y::z::u::l) 3 b k=k (x::y::z::b::l):=rfl
theorem of6 (x y z u v w s b:IV) (l:List IV) (k:List IV→Option β):GV (x::y::z::u::v::w::s::l) 6 b k=k (x::y::z::u::v::w::b::l):=rfl
theorem AtV (size:Nat) (a:IV) (cs:List FV) (h:Hp) (k:Hp→List Ref→List Ref→Option β):Ak size a (.fv (.agg cs)) h k =
  EZ a (fun r o=>C6 r h fun b=>Hy b fun cells=>cond (and (Nat.beq cs.length size) (Ds cs)) (Eb cells o cs fun cells=>Ga r (.row cells false) h fun h=>k h [r] [r]) none) fun _ _=>none:=rfl
theorem AhN (s:Nat) (x:IV):F7 (.own s) x=true:=rfl
theorem At4 (s:Nat) (a b c:IV) (ha:a.one=true) (hb:b.one=true) (hc:c.one=true) (own:List (Nat×Blk)) (ext:List Blk) (k:Hp→List Ref→List Ref→Option β) :
  Ak 3 (.ptr (.own s) 0) (.agg [a,b,c]) ⟨own,ext⟩ k=Fj own s fun bl=>Hy bl fun cells=>cond (Nat.ble 3 cells.length) (Ga (.own s) (.row (A3 cells 0 [a,b,c]) false) ⟨own,ext⟩ fun h=>k h [.own s] [.own s]) none:=by
 show Fj own s (fun bl=>Hy bl fun cells=>if IV.alive (.agg [a,b,c])=true∧(IV.cells (.agg [a,b,c])).length=3∧0+3≤cells.length∧(IV.cells (.agg [a,b,c])).all IV.one=true∧F7 (.own s) (.agg [a,b,c])=true then
  spK (A3 cells 0 (IV.cells (.agg [a,b,c]))) fun cells=>Ga (.own s) (.row cells false) ⟨own,ext⟩ fun h=>k h [.own s] [.own s] else none)=_
 congr 1
 funext bl
 congr 1
 funext cells
 by_cases h3:3≤cells.length
 ·rw [if_pos ⟨rfl,rfl,by omega,by simp [IV.cells,ha,hb,hc],rfl⟩,H1,Bb,decide_eq_true h3];rfl
 ·rw [if_neg (fun h=>h3 (by omega)),Bb,decide_eq_false h3];rfl
theorem sc3 (a b c x y z:IV):A3 [x,y,z] 0 [a,b,c]=[a,b,c]:=rfl
theorem Atu (a x:IV) (h:Hp) (k:Hp→List Ref→List Ref→Option β):BA a x h k =
  cond x.one (EZ a (fun r o=>C6 r h fun b=>Hy b fun cells=>cond (F7 r x) (GV cells o x fun cells=>Ga r (.row cells false) h fun h=>k h [r] [r]) none) fun _ _=>none) (Ak 1 a x h k):=rfl
theorem AtK (o:Nat) (r:Ref) (k:IV→Option β):Ac o (.ptr r 0) k=k (.ptr r o):=by rw [Aj8,Nat.zero_add]
theorem Asz (o:Nat) (cs:List FV) (k:IV→Option β):Ac o (.fv (.fp cs 0)) k=k (.fv (.fp cs o)):=by rw [QL,Nat.zero_add]
theorem Arx (r:Ref) (o:Nat) (k:IV→Option β):AF (.ptr r o) k=k (.ptr r o):=rfl
theorem Ari (cs:List FV) (o:Nat) (k:IV→Option β):AF (.fv (.fp cs o)) k=k (.fv (.fp cs o)):=rfl
theorem AiT (g:FuncId) (a b:List FV) (k:IV→Option β):AF (.fv (.func (.func g) a b)) k=k (.fv (.func (.func g) a b)):=rfl
theorem Aul (ix:Nat) (vs:List IV) (k:IV→Option β):AO ix (.tuple vs) k=DG vs ix k:=rfl
theorem AtO (ix:Nat) (vs:List FV) (k:IV→Option β):AO ix (.fv (.tuple vs)) k=DG vs ix fun v=>k (.fv v):=rfl
theorem Aud (o:Nat) (x:IV) (k:IV→Option β):AmW o x k=asAgg x (fun cs=>DG cs o k) fun cs=>DG cs o fun v=>k (.fv v):=rfl
theorem Atk (size o:Nat) (x:IV) (k:IV→Option β):AoW size o x k=asAgg x (fun cs=>FL cs o fun cs=>F8 cs size fun cs=>PW cs k) fun cs=>FL cs o fun cs=>F8 cs size fun cs=>k (.fv (.agg cs)):=rfl
theorem ArV (z:List IV) (pl:List (Nat×Nat×IV)) (k:IV→Option β):BC z pl k=Pr z pl fun cells=>PW cells k:=rfl
theorem fk0 (z:List IV) (k:List IV→Option β):Pr z [] k=k z:=rfl
theorem fk1 (z:List IV) (o sz:Nat) (v:IV) (pl:List (Nat×Nat×IV)) (k:List IV→Option β):Pr z ((o,sz,v)::pl) k=HC z o sz v fun z=>Pr z pl k:=rfl
theorem Ap7 {v:IV} (hv:v.one=true) (z:List IV) (o:Nat) (k:List IV→Option β):HC z o 1 v k=GV z o v k:=by
 unfold HC;cases v with
 | fv w =>
  show cond (Ie w) _ _=_
  have:Ie w=true:=by cases w<;>first | rfl | cases hv
  rw [this];rfl
 | _=>show YT _ _ _ _ _=_;unfold YT;rw [hv];rfl
theorem AmF (z:List IV) (o sz:Nat) (cs:List FV) (k:List IV→Option β):HC z o sz (.fv (.agg cs)) k=cond (Nat.beq cs.length sz) (Eb z o cs k) none:=rfl
theorem nb3 (a b c:FV):Nat.beq [a,b,c].length 3=true:=rfl
theorem nb4 (a b c d:FV):Nat.beq [a,b,c,d].length 4=true:=rfl
theorem nb7 (a b c d e f g:FV):Nat.beq [a,b,c,d,e,f,g].length 7=true:=rfl
theorem nl3 (a b c:IV):Nat.ble 3 [a,b,c].length=true:=rfl
theorem Ao5:(and true true)=true:=rfl
end
end Idl
end Go.Proofs.Ytaifgaidaglblaa
namespace Go.Proofs.Ytaifgaidaglblaa
namespace Idl
section
variable {β:Type} {E:Env} {t:TypeId}
theorem Xe (n:Int):IV.fv (.int .i64 n)=iv n:=rfl
def BH (n:Int):Int:=IntKind.i64.wrap n
theorem Au {n:Int} (h1:-9223372036854775808≤n) (h2:n≤9223372036854775807):BH n=n:=by
 show (if (true && decide ((n % (18446744073709551616:Int)) ≥ (9223372036854775808:Int)))=true then (n % (18446744073709551616:Int)) - (18446744073709551616:Int) else (n % (18446744073709551616:Int)))=n
 by_cases h:0≤n
 ·have e:n % (18446744073709551616:Int)=n:=by omega
  have e2:¬ n ≥ (9223372036854775808:Int):=by omega
  rw [e,decide_eq_false e2];rfl
 ·have e:n % (18446744073709551616:Int)=n+18446744073709551616:=by omega
  have e2:n+18446744073709551616 ≥ (9223372036854775808:Int):=by omega
  rw [e,decide_eq_true e2];simp
theorem ArC (a b:Int) (k:IV→Option β):By E t (iv a) (iv b) k=k (iv (BH (a+b))):=by
 have hg:CS E t .add (iv a) (iv b) k=k (iv (BH (a+b))):=by
  rw [CS,CK];rfl
 cases a with
 | negSucc a=>exact hg
 | ofNat a=>cases b with
  | negSucc b=>exact hg
  | ofNat b =>
   show cond (Nat.ble (a+b) 9223372036854775807) (Pg (a+b) k) _=_
   rw [Bb];by_cases h:a+b≤9223372036854775807
   ·rw [decide_eq_true h]
    show Pg (a+b) k=_
    rw [DC]
    have:BH (Int.ofNat a+Int.ofNat b)=((a+b:Nat):Int):=by
     rw [Au (by simp only [Int.ofNat_eq_natCast];omega) (by simp only [Int.ofNat_eq_natCast];omega)];simp only [Int.ofNat_eq_natCast];omega
    rw [this]
   ·rw [decide_eq_false h];exact hg
theorem AsQ (a b:Int) (k:IV→Option β):Bd E t (iv a) (iv b) k=k (iv (BH (a - b))):=by
 have hg:CS E t .sub (iv a) (iv b) k=k (iv (BH (a - b))):=by
  rw [CS,CK];rfl
 cases a with
 | negSucc a=>exact hg
 | ofNat a=>cases b with
  | negSucc b=>exact hg
  | ofNat b =>
   show cond (and (Nat.ble b a) (Nat.ble a 9223372036854775807)) (Pg (a - b) k) _=_
   rw [Bb,Bb];by_cases h:b≤a∧a≤9223372036854775807
   ·rw [decide_eq_true h.1,decide_eq_true h.2]
    show Pg (a - b) k=_
    rw [DC]
    have:BH (Int.ofNat a - Int.ofNat b)=((a - b:Nat):Int):=by
     rw [Au (by simp only [Int.ofNat_eq_natCast];omega) (by simp only [Int.ofNat_eq_natCast];omega)];simp only [Int.ofNat_eq_natCast];omega
    rw [this]
   ·have:(decide (b≤a) && decide (a≤9223372036854775807))=false:=by
     rw [← Bool.decide_and];exact decide_eq_false h
    rw [show and (decide (b≤a)) (decide (a≤9223372036854775807))=false from this]
    exact hg
theorem AqS (a b:Int) (k:IV→Option β):CS E t .mul (iv a) (iv b) k=k (iv (BH (a * b))):=by
 rw [CS,CK];rfl
theorem Agq {b:Int} (hb:b≠0) (a:Int) (k:IV→Option β):CS E t .quo (iv a) (iv b) k=k (iv (BH (a.tdiv b))):=by
 rw [CS,CK]
 have:FG E .quo t (iv a) (iv b)=some (iv (BH (a.tdiv b))):=by
  show (Ho (Op.intDiv .quo .i64 a b)).bind J7=_
  simp only [Op.intDiv,hb,if_false];rfl
 rw [this];rfl
theorem Qy {b:Int} (hb:b≠0) (a:Int) (k:IV→Option β):CS E t .rem (iv a) (iv b) k=k (iv (a.tmod b)):=by
 rw [CS,CK]
 have:FG E .rem t (iv a) (iv b)=some (iv (a.tmod b)):=by
  show (Ho (Op.intDiv .rem .i64 a b)).bind J7=_
  simp only [Op.intDiv,hb,if_false];rfl
 rw [this];rfl
theorem AtC (a b:Int) (k:IV→Option β):A5 E t (iv a) (iv b) k=k (.fv (.bool (decide (a=b)))):=ArS a b k
theorem Atm (a b:Int) (k:IV→Option β):Ha E t (iv a) (iv b) k=k (.fv (.bool (!decide (a=b)))):=Asy a b k
theorem Atz (a b:Int) (k:IV→Option β):G8 E t (iv a) (iv b) k=k (.fv (.bool (decide (a<b)))):=Asb a b k
theorem Atc (a b:Int) (k:IV→Option β):leS E t (iv a) (iv b) k=k (.fv (.bool (decide (a≤b)))):=AqR a b k
theorem AtQ (a b:Int) (k:IV→Option β):Mj E t (iv a) (iv b) k=k (.fv (.bool (decide (b<a)))):=by
 rw [Mj,MT (fun a b=>by
  show some (IV.fv (.bool (decide ((a:Int) > (b:Int)))))=_
  rw [Bb];congr 3;exact decide_eq_decide.2 (by omega))]
 rfl
theorem Auh (a b:Int) (k:IV→Option β):geS E t (iv a) (iv b) k=k (.fv (.bool (decide (b≤a)))):=by
 rw [geS,MT (fun a b=>by
  show some (IV.fv (.bool (decide ((a:Int) ≥ (b:Int)))))=_
  rw [Bb];congr 3;exact decide_eq_decide.2 (by omega))]
 rfl
theorem Amj (a b:Bool) (hT:E.T t=some ⟨1,1,.bool,[.fv (.bool false)]⟩) (k:IV→Option β):A5 E t (.fv (.bool a)) (.fv (.bool b)) k=k (.fv (.bool (a == b))):=by
 show CS E t .eql _ _ k=_
 rw [CS,CK]
 have:FG E .eql t (.fv (.bool a)) (.fv (.bool b))=some (.fv (.bool (a == b))):=by
  simp only [FG,hT,Us]
 rw [this];rfl
theorem Arl (b:Bool) (k:IV→Option β):CL (L5 .not (.fv (.bool b))) k=k (.fv (.bool !b)):=ArA b k
theorem Ate (a b:Option β):Am (.fv (.bool true)) a b=a:=rfl
theorem AtI (a b:Option β):Am (.fv (.bool false)) a b=b:=rfl
theorem At7 (c:Prop) [Decidable c] (a b:Option β):Am (.fv (.bool (decide c))) a b=if c then a else b:=An9 c a b
theorem AtE (c:Prop) [Decidable c] (a b:Option β):Am (.fv (.bool (!decide c))) a b=if c then b else a:=by
 by_cases h:c
 ·rw [decide_eq_true h,if_pos h];rfl
 ·rw [decide_eq_false h,if_neg h];rfl
theorem AtA (c:Bool) (a b:Option β):Am (.fv (.bool c)) a b=if c=true then a else b:=by
 cases c<;>rfl
theorem Atf (c a b:IV) (k:IV→Option β):AG c a b k=Am c (k a) (k b):=rfl
theorem Ar5 {b:Bool} (hb:b=true) (h:Hp) (m:(IV→Hp→List Ref→List Ref→Option β)→Option β) (k:IV→Hp→List Ref→List Ref→Option β):Ab (.fv (.bool b)) true h m k=m k:=by rw [hb];rfl
theorem AsR {b:Bool} (hb:b=false) (h:Hp) (m:(IV→Hp→List Ref→List Ref→Option β)→Option β) (k:IV→Hp→List Ref→List Ref→Option β):Ab (.fv (.bool b)) false h m k=m k:=by rw [hb];rfl
theorem ArP {b:Bool} (hb:b=true) (h:Hp) (m:(IV→Hp→List Ref→List Ref→Option β)→Option β) (k:IV→Hp→List Ref→List Ref→Option β):Ab (.fv (.bool b)) false h m k=k FD h [] []:=by rw [hb];rfl
theorem Aq8 {b:Bool} (hb:b=false) (h:Hp) (m:(IV→Hp→List Ref→List Ref→Option β)→Option β) (k:IV→Hp→List Ref→List Ref→Option β):Ab (.fv (.bool b)) true h m k=k FD h [] []:=by rw [hb];rfl
theorem AtJ (w:Bool) (h:Hp) (m:(IV→Hp→List Ref→List Ref→Option β)→Option β) (k:IV→Hp→List Ref→List Ref→Option β):Ab FD w h m k=k FD h [] []:=rfl
theorem ch0 (rd wr:List Ref) (a:Option β):Ad [] rd wr a=a:=rfl
theorem ch1 (q1 q2:List Ref) (l:List (List Ref×List Ref)) (rd wr:List Ref) (a:Option β):Ad ((q1,q2)::l) rd wr a=cond (PS q2 rd) (cond (PS q2 wr) (cond (PS wr q1) (Ad l rd wr a) none) none) none:=rfl
theorem dj0 (b:List Ref):PS [] b=true:=rfl
theorem djn:∀(a:List Ref),PS a []=true
 | []=>rfl
 | _::a=>djn a
theorem dj1 (r:Ref) (a b:List Ref):PS (r::a) b=cond (KK r b) (PS a b) false:=rfl
theorem an0 (r:Ref):KK r []=true:=rfl
theorem an1 (r s:Ref) (l:List Ref):KK r (s::l)=cond (M5 r s) (KK r l) false:=rfl
theorem AtY {i j:Nat} (h:(i == j)=false):M5 (.own i) (.own j)=true:=by
 show not (Nat.beq i j)=true
 rw [show Nat.beq i j=false from Akd h];rfl
theorem AsC (i j:Nat):M5 (.own i) (.ext j)=true:=rfl
theorem Ar4 (i j:Nat):M5 (.ext i) (.own j)=true:=rfl
theorem Aui (v:IV) (h:Hp):An [v] h=some (v,h):=rfl
theorem AtB (h:Hp):An [] h=some (.fv (.tuple []),h):=rfl
theorem Atp (a b:IV) (h:Hp):An [a,b] h=Xx [a,b] fun v=>some (v,h):=rfl
theorem AtS (a b c:IV) (h:Hp):An [a,b,c] h=Xx [a,b,c] fun v=>some (v,h):=rfl
theorem Aue (a b c d:IV) (h:Hp):An [a,b,c,d] h=Xx [a,b,c,d] fun v=>some (v,h):=rfl
theorem Aq7 (es:List FV) (k:IV→Option β):BS (.fv (.sl es)) k=k (iv es.length):=DC ..
theorem AsD (k:IV→Option β):BS .nils k=k (iv 0):=rfl
theorem Arj (es:List FV) (k:IV→Option β):BS (.clip es) k=k (iv es.length):=DC ..
theorem AqO (r:Ref) (es:List FV) (k:IV→Option β):BS (.app r es) k=k (iv es.length):=DC ..
theorem Asd (r:Ref) (sz n:Nat) (k:IV→Option β):BS (.slc r sz n) k=k (iv n):=DC ..
theorem Bp {size:Nat} {es:List FV} {n:Nat} {el:FV} (he:es[n]?=some el) (hl:el.cells.length=size) (k:IV→Option β):A7 size (.fv (.sl es)) (iv n) k=k (.fv (.fp el.cells 0)):=ApV he hl k
theorem Auc {size:Nat} {r:Ref} {es:List FV} {n:Nat} {el:FV} (he:es[n]?=some el) (hl:el.cells.length=size) (k:IV→Option β):A7 size (.app r es) (iv n) k=k (.fv (.fp el.cells 0)):=ApV he hl k
theorem Auk {size:Nat} {es:List FV} {n:Nat} {el:FV} (he:es[n]?=some el) (hl:el.cells.length=size) (k:IV→Option β):A7 size (.clip es) (iv n) k=k (.fv (.fp el.cells 0)):=ApV he hl k
theorem AtR {size sz len:Nat} {r:Ref} {n:Nat} (hn:n<len) (hs:sz=size) (k:IV→Option β):A7 size (.slc r sz len) (iv n) k=k (.ptr r (n * sz)):=by
 show cond (and (Nat.ble (Nat.succ n) len) (Nat.beq sz size)) (D7 (n * sz) fun o=>k (.ptr r o)) none=_
 rw [Bb,decide_eq_true (show Nat.succ n≤len from hn),hs,show Nat.beq size size=true from Nat.beq_refl size]
 simp only [Bool.and_self,cond_true];rw [BU]
theorem Aj4 (size:Nat) (cs:List FV) (es:List FV) (hl:cs.length=size) (k:IV→Option β):A7 size (.fv (.sl (.agg cs::es))) (iv 0) k=k (.fv (.fp cs 0)):=Bp (el:=.agg cs) (n:=0) rfl hl k
theorem AjN (size:Nat) (cs:List FV) (e:FV) (es:List FV) (hl:cs.length=size) (k:IV→Option β):A7 size (.fv (.sl (e :: .agg cs::es))) (iv 1) k=k (.fv (.fp cs 0)):=Bp (el:=.agg cs) (n:=1) rfl hl k
theorem AkQ (size:Nat) (cs:List FV) (e e':FV) (es:List FV) (hl:cs.length=size) (k:IV→Option β):A7 size (.fv (.sl (e::e' :: .agg cs::es))) (iv 2) k=k (.fv (.fp cs 0)):=Bp (el:=.agg cs) (n:=2) rfl hl k
theorem Aj6 (size:Nat) (cs:List FV) (e e' e'':FV) (es:List FV) (hl:cs.length=size) (k:IV→Option β):A7 size (.fv (.sl (e::e'::e'' :: .agg cs::es))) (iv 3) k=k (.fv (.fp cs 0)):=Bp (el:=.agg cs) (n:=3) rfl hl k
def Fz (v:IV) (own:List (Nat×Blk)) (w:FV):Prop:=∃u lg,∀(e:Option (IV×Hp)) (K:FV→List (Ref×Blk)→List Ref→Option (IV×Hp)),Df 12 v ⟨own,[]⟩ [] e K=K w u lg
def Bi (r:Option (IV×Hp)) (w:FV):Prop:=∃v own,r=some (v,⟨own,[]⟩) ∧
 (Fz v own w∨((∀(e:Option (IV×Hp)) (K:FV→List (Ref×Blk)→List Ref→Option (IV×Hp)),Df 12 v ⟨own,[]⟩ [] e K=e)∧∃u,(C1 4096 v).run ⟨own,[]⟩=some (w,u)))
def JM (r:Option (IV×Hp)) (w:FV):Prop:=∃v own,r=some (v,⟨own,[]⟩)∧Fz v own w
theorem Amk (w:FV) (own:List (Nat×Blk)):Fz (.fv w) own w:=⟨[],[],fun _ _=>rfl⟩
theorem Ao (w:FV) (own:List (Nat×Blk)):Bi (some (.fv w,⟨own,[]⟩)) w:=⟨_,own,rfl,.inl (Amk w own)⟩
def Gb:IV→Option FV
 | .fv v=>some v
 | .nils=>some (.sl [])
 | .emp=>some (.sl [])
 | .clip es=>some (.sl es)
 | .app _ es=>some (.sl es)
 | _=>none
def Dd:List IV→Option (List FV)
 | []=>some []
 | v::l=>(Gb v).bind fun x=>(Dd l).map fun xs=>x::xs
def A8 (v:IV):Option FV:=match v with
 | .agg cs=>if cs.length≤8 then (Dd cs).map .agg else none
 | v=>Gb v
def Bx:List IV→Option (List FV)
 | []=>some []
 | v::l=>(A8 v).bind fun x=>(Bx l).map fun xs=>x::xs
theorem Arf (v:FV):A8 (.fv v)=some v:=rfl
theorem AjI:A8 .nils=some (.sl []):=rfl
theorem Anl:A8 .emp=some (.sl []):=rfl
theorem AlG (es:List FV):A8 (.clip es)=some (.sl es):=rfl
theorem Any (r:Ref) (es:List FV):A8 (.app r es)=some (.sl es):=rfl
theorem Are (v:FV):Gb (.fv v)=some v:=rfl
theorem Alk:Gb .nils=some (.sl []):=rfl
theorem AmO:Gb .emp=some (.sl []):=rfl
theorem AlE (es:List FV):Gb (.clip es)=some (.sl es):=rfl
theorem AoM (r:Ref) (es:List FV):Gb (.app r es)=some (.sl es):=rfl
theorem AtF {a b c:IV} {x y z:FV} (ha:Gb a=some x) (hb:Gb b=some y) (hc:Gb c=some z):A8 (.agg [a,b,c])=some (.agg [x,y,z]):=by
 show (if 3≤8 then (Dd [a,b,c]).map FV.agg else none)=_
 simp [Dd,ha,hb,hc]
theorem AtM {a b c d:IV} {x y z u:FV} (ha:Gb a=some x) (hb:Gb b=some y) (hc:Gb c=some z) (hd:Gb d=some u):A8 (.agg [a,b,c,d])=some (.agg [x,y,z,u]):=by
 show (if 4≤8 then (Dd [a,b,c,d]).map FV.agg else none)=_
 simp [Dd,ha,hb,hc,hd]
theorem Amw {v:IV} {x:FV} (d:Nat) (h:Hp) (lg:List Ref) (e:Option β) (k:FV→List (Ref×Blk)→List Ref→Option β) (hz:Gb v=some x):Df (d+1) v h lg e k=k x [] lg:=by
 cases v<;>first | (cases hz;rfl) | (cases hz)
theorem AbS (d:Nat) (h:Hp) (lg:List Ref) (e:Option β):∀(cs:List IV) (k:List FV→List (Ref×Blk)→List Ref→Option β) {xs:List FV},Dd cs=some xs→Cz (Df (d+1)) cs h lg e k=k xs [] lg
 | [],k,xs,hz=>by cases hz;rfl
 | v::cs,k,xs,hz=>by
  simp only [Dd] at hz;cases h1:Gb v with
  | none=>rw [h1] at hz;cases hz
  | some x =>
   rw [h1] at hz;cases h2:Dd cs with
   | none=>rw [h2] at hz;cases hz
   | some ys =>
    rw [h2] at hz;cases hz
    show Df (d+1) v h lg e (fun y u lg=>Cz (Df (d+1)) cs h lg e fun ys us lg=>Nn u us fun w=>k (y::ys) w lg)=_
    rw [Amw d h lg e _ h1,AbS d h lg e cs _ h2];rfl
theorem Jw {v:IV} {x:FV} (h:Hp) (lg:List Ref) (e:Option β) (k:FV→List (Ref×Blk)→List Ref→Option β) (hz:A8 v=some x):Df 12 v h lg e k=k x [] lg:=by
 cases v with
 | agg cs =>
  simp only [A8] at hz;split at hz
  ·rename_i hl;cases h2:Dd cs with
   | none=>rw [h2] at hz;cases hz
   | some ys =>
    rw [h2] at hz;cases hz
    show cond (Nat.ble cs.length 300) (Cz (Df 11) cs h lg e fun cs u lg=>k (.agg cs) u lg) e=_
    rw [Bb,decide_eq_true (show cs.length≤300 by omega)]
    exact AbS 10 h lg e cs _ h2
  ·cases hz
 | _=>exact Amw 11 h lg e k hz
theorem Atb {v:IV} {x:FV} (hz:A8 v=some x) (own:List (Nat×Blk)):Fz v own x:=⟨[],[],fun e K=>Jw _ _ e K hz⟩
theorem Bg {v:IV} {x:FV} (hz:A8 v=some x) (own:List (Nat×Blk)):Bi (some (v,⟨own,[]⟩)) x:=⟨v,own,rfl,.inl (Atb hz own)⟩
theorem fr1 {v:IV} {x:FV} (n:Nat) (hz:Gb v=some x):C1 (n+1) v=.ret (x,[]):=by
 cases v<;>first | (cases hz;rfl) | (cases hz)
theorem AbB:∀(cs:List IV) (n:Nat) {xs:List FV},cs.length+1<n→Dd cs=some xs→frzL n cs=.ret (xs,[])
 | [],n+1,xs,_,hz=>by cases hz;rfl
 | v::cs,n+2,xs,hn,hz=>by
  simp only [Dd] at hz;cases h1:Gb v with
  | none=>rw [h1] at hz;cases hz
  | some x =>
   rw [h1] at hz;cases h2:Dd cs with
   | none=>rw [h2] at hz;cases hz
   | some ys =>
    rw [h2] at hz;cases hz;simp only [AwP] at hn;simp only [frzL,fr1 n h1,Rd.bind,AbB cs (n+1) (by omega) h2];rfl
theorem frp {v:IV} {x:FV} (n:Nat) (hn:20<n) (hz:A8 v=some x):C1 n v=.ret (x,[]):=by
 cases n with
 | zero=>omega
 | succ n =>
  cases v with
  | agg cs =>
   simp only [A8] at hz;split at hz
   ·rename_i hl;cases h2:Dd cs with
    | none=>rw [h2] at hz;cases hz
    | some ys =>
     rw [h2] at hz;cases hz;simp only [C1,AbB cs n (by omega) h2,Rd.bind]
   ·cases hz
  | _=>exact fr1 n hz
theorem Ame:∀(cs:List IV) (n:Nat) {xs:List FV},cs.length+30<n→Bx cs=some xs→frzL n cs=.ret (xs,[])
 | [],n+1,xs,_,hz=>by cases hz;rfl
 | v::cs,n+1,xs,hn,hz=>by
  simp only [Bx] at hz;cases h1:A8 v with
  | none=>rw [h1] at hz;cases hz
  | some x =>
   rw [h1] at hz;cases h2:Bx cs with
   | none=>rw [h2] at hz;cases hz
   | some ys =>
    rw [h2] at hz;cases hz;simp only [AwP] at hn;simp only [frzL,frp n (by omega) h1,Rd.bind,Ame cs n (by omega) h2];rfl
theorem AT {vs:List IV} {xs:List FV} (hz:Bx vs=some xs) (hl:vs.length≤100) (own:List (Nat×Blk)):Bi (some (.tuple vs,⟨own,[]⟩)) (.tuple xs) :=
 ⟨_,own,rfl,.inr ⟨fun _ _=>rfl,[],by
  show (C1 (4095+1) (.tuple vs)).run _=_
  simp only [C1,Ame vs 4095 (by omega) hz,Rd.bind];rfl⟩⟩
theorem Am1:Bx []=some []:=rfl
theorem Xl {a b:IV} {x y:FV} (ha:A8 a=some x) (hb:A8 b=some y):Bx [a,b]=some [x,y]:=by simp [Bx,ha,hb]
theorem AeV {a b c:IV} {x y z:FV} (ha:A8 a=some x) (hb:A8 b=some y) (hc:A8 c=some z):Bx [a,b,c]=some [x,y,z]:=by simp [Bx,ha,hb,hc]
theorem Asm {a b c d:IV} {x y z u:FV} (ha:A8 a=some x) (hb:A8 b=some y) (hc:A8 c=some z) (hd:A8 d=some u):Bx [a,b,c,d]=some [x,y,z,u]:=by simp [Bx,ha,hb,hc,hd]
theorem Anj {a:IV} {x:FV} (ha:A8 a=some x):Bx [a]=some [x]:=by simp [Bx,ha]
theorem OP:∀(args:List IV) {vs:List FV},Bx args=some vs→Bq [] args=.ret (vs.map .fv,[],[])
 | [],vs,hz=>by cases hz;rfl
 | v::l,vs,hz=>by
  simp only [Bx] at hz;cases h1:A8 v with
  | none=>rw [h1] at hz;cases hz
  | some x =>
   rw [h1] at hz;cases h2:Bx l with
   | none=>rw [h2] at hz;cases hz
   | some ys =>
    rw [h2] at hz;cases hz;simp only [Bq,frp 4096 (by omega) h1,Rd.bind,OP l h2];rfl
theorem fz0 (keep:List Bool) (h:Hp) (lg:List Ref) (e:Option β) (k:List IV→List Ref→List (Ref×Blk)→List Ref→Option β):Vc [] keep h lg e k=k [] [] [] lg:=rfl
theorem fz1 (x:IV) (l:List IV) (h:Hp) (lg:List Ref) (e:Option β) (k:List IV→List Ref→List (Ref×Blk)→List Ref→Option β) :
  Vc (x::l) [] h lg e k=Df 12 x h lg e fun y u lg=>Vc l [] h lg e fun vs rs us lg=>Nn u us fun w=>k (.fv y::vs) rs w lg:=rfl
theorem AfG (x:IV) (l:List IV) (ks:List Bool) (h:Hp) (lg:List Ref) (e:Option β) (k:List IV→List Ref→List (Ref×Blk)→List Ref→Option β) :
  Vc (x::l) (true::ks) h lg e k=EZ x (fun r o=>Vc l ks h lg e fun vs rs us lg=>k (.ptr r o::vs) (r::rs) us lg) fun _ _=>e:=rfl
theorem Xt (x:IV) (l:List IV) (ks:List Bool) (h:Hp) (lg:List Ref) (e:Option β) (k:List IV→List Ref→List (Ref×Blk)→List Ref→Option β) :
  Vc (x::l) (false::ks) h lg e k=Df 12 x h lg e fun y u lg=>Vc l ks h lg e fun vs rs us lg=>Nn u us fun w=>k (.fv y::vs) rs w lg:=rfl
section
variable (d:Nat) (h:Hp) (lg:List Ref) (e:Option β) (k:FV→List (Ref×Blk)→List Ref→Option β)
theorem Aih (cs:List IV):Df 12 (.agg cs) h lg e k=cond (Nat.ble cs.length 300) (Cz (Df 11) cs h lg e fun cs u lg=>k (.agg cs) u lg) e:=rfl
theorem Xs (s:Nat) (off:Nat):Df 12 (.ptr (.own s) off) h lg e k=C6 (.own s) h fun b=>D4 b fun cells=>cond (Nat.ble cells.length 300) (Cz (Df 11) cells h (.own s::lg) e fun cs u lg=>k (.fp cs off) ((.own s,.row cells true)::u) lg) e:=rfl
theorem Jz (v:FV):Df 11 (.fv v) h lg e k=k v [] lg:=rfl
theorem fl0 (g:FzK β) (k:List FV→List (Ref×Blk)→List Ref→Option β):Cz g [] h lg e k=k [] [] lg:=rfl
theorem VQ (g:FzK β) (x:IV) (l:List IV) (k:List FV→List (Ref×Blk)→List Ref→Option β):Cz g (x::l) h lg e k=g x h lg e fun y u lg=>Cz g l h lg e fun ys us lg=>Nn u us fun w=>k (y::ys) w lg:=rfl
end
def Ut (rs:List Ref) (r:Option (IV×Hp)) (h:Hp) (u:List (Ref×Blk)) (lg:List Ref) (e:Option (IV×Hp)) (g:List Ref→Option (IV×Hp)) (k:IV→Hp→List Ref→List Ref→Option (IV×Hp)):Option (IV×Hp):=match rs with
 | []=>(match r with
  | none=>none
  | some p=>match p with
   | (v,h')=>match h' with
    | ⟨own,ext⟩=>List.casesOn (motive:=fun _=>Option (IV×Hp)) ext (Df 12 v ⟨own,[]⟩ [] e fun w _ _=>MZ u h fun h2=>k (.fv w) h2 lg (Bs u)) fun _ _=>none)
 | r::rs=>g (r::rs)
theorem OX (keep:List Bool) (ih:Aa) (f:FuncId) (args:List IV) (h:Hp) (k:IV→Hp→List Ref→List Ref→Option (IV×Hp)):Al keep false false ih f args h k =
  Vc args keep h [] (GJ keep false false ih f args h k) fun vs rs u lg=>Ut rs (ih f vs ⟨[],[]⟩) h u lg (GJ keep false false ih f args h k) (fun rs=>match rs with
   | []=>none
   | r::rs=>(match h with
    | ⟨own,ext⟩=>cond (PZ 400 (r::rs) 0 ext) (match ih f vs ⟨[],ext⟩ with
     | none=>none
     | some p=>match p with
      | (v,h')=>match h' with
       | ⟨own',ext'⟩=>cond (and (Nat.beq ext'.length ext.length) (okB ext.length ext'))
        (Df 12 v ⟨own',ext'⟩ [] (GJ keep false false ih f args h k) fun w _ _=>MZ u ⟨own,ext'⟩ fun h2=>k (.fv w) h2 ((CP ext.length).reverse++lg) (Bs u++CP ext.length)) none)
     (GJ keep false false ih f args h k))) k:=by
 unfold Al;simp only [cond_false];congr 1
theorem Aro {r:Option (IV×Hp)} {w:FV} (hr:JM r w) (h:Hp) (u:List (Ref×Blk)) (lg:List Ref) (e:Option (IV×Hp)) (g:List Ref→Option (IV×Hp)) (k:IV→Hp→List Ref→List Ref→Option (IV×Hp)) :
  Ut [] r h u lg e g k=MZ u h fun h2=>k (.fv w) h2 lg (Bs u):=by
 obtain ⟨v,own,rfl,u',lg',hz⟩:=hr;simp only [Ut];rw [hz]
theorem Aje:∀(args:List IV) {vs:List FV} (h:Hp) (lg:List Ref) (e:Option β) (k:List IV→List Ref→List (Ref×Blk)→List Ref→Option β),Bx args=some vs→Vc args [] h lg e k=k (vs.map .fv) [] [] lg
 | [],vs,h,lg,e,k,hz=>by cases hz;rfl
 | v::l,vs,h,lg,e,k,hz=>by
  simp only [Bx] at hz;cases h1:A8 v with
  | none=>rw [h1] at hz;cases hz
  | some x =>
   rw [h1] at hz;cases h2:Bx l with
   | none=>rw [h2] at hz;cases hz
   | some ys =>
    rw [h2] at hz;cases hz
    show Df 12 v h lg e (fun y u lg=>Vc l [] h lg e fun vs rs us lg=>Nn u us fun w=>k (.fv y::vs) rs w lg)=_
    rw [Jw h lg e _ h1,Aje l h lg e _ h2];rfl
theorem Jf (f:Ref→Option Ref):∀l:List FV,IV.ren.renL f (l.map .fv)=some (l.map .fv)
 | []=>rfl
 | v::l=>by
  simp only [AwR,IV.ren.renL,IV.ren,Jf f l];rfl
theorem Og {ih:Aa} {f:FuncId} {args:List IV} {vs:List FV} {w:FV} (hz:Bx args=some vs) (hr:Bi (ih f (vs.map .fv) ⟨[],[]⟩) w) (h:Hp) (k:IV→Hp→List Ref→List Ref→Option (IV×Hp)) :
  Al [] false false ih f args h k=k (.fv w) h [] []:=by
 obtain ⟨v,own,e,hv⟩:=hr;have hD:(∃u,(C1 4096 v).run ⟨own,[]⟩=some (w,u))→GJ [] false false ih f args h k=k (.fv w) h [] []:=by
  rintro ⟨u,hu⟩;unfold GJ;simp only [OP args hz,Rd.runLog,Ci,Jf,AwQ,Bc,EY (CC 3),EY C4,MG,Bool.false_eq_true,if_false,e,hu,AwO,IV.ren]
  show (match laid h ([]++(Bs []).zip []) with | none=>none | some h'=>fH h' fun h'=>fV 3 (.fv w) fun res=>k res h' [] _)=_
  simp only [Bs,AwQ,List.zip_nil_left,List.append_nil,laid,Pj,CC]
 rw [OX,Aje args h [] _ _ hz,e];simp only [Ut];rcases hv with ⟨u',lg',hf⟩ | ⟨hf,hu⟩
 ·rw [hf];rfl
 ·rw [hf];exact hD hu
theorem Cw {ih:Aa} {f:FuncId} {w:FV} (hr:Bi (ih f [] ⟨[],[]⟩) w) (h:Hp) (k:IV→Hp→List Ref→List Ref→Option (IV×Hp)) :
  Al [] false false ih f [] h k=k (.fv w) h [] []:=Og (vs:=[]) rfl hr h k
theorem Aq {ih:Aa} {f:FuncId} {a:IV} {x w:FV} (hr:Bi (ih f [.fv x] ⟨[],[]⟩) w) (ha:A8 a=some x) (h:Hp) (k:IV→Hp→List Ref→List Ref→Option (IV×Hp)) :
  Al [] false false ih f [a] h k=k (.fv w) h [] []:=Og (Anj ha) hr h k
theorem Ag {ih:Aa} {f:FuncId} {a b:IV} {x y w:FV} (hr:Bi (ih f [.fv x,.fv y] ⟨[],[]⟩) w) (ha:A8 a=some x) (hb:A8 b=some y) (h:Hp) (k:IV→Hp→List Ref→List Ref→Option (IV×Hp)) :
  Al [] false false ih f [a,b] h k=k (.fv w) h [] []:=Og (Xl ha hb) hr h k
theorem AZ {ih:Aa} {f:FuncId} {a b c:IV} {x y z w:FV} (hr:Bi (ih f [.fv x,.fv y,.fv z] ⟨[],[]⟩) w) (ha:A8 a=some x) (hb:A8 b=some y) (hc:A8 c=some z) (h:Hp) (k:IV→Hp→List Ref→List Ref→Option (IV×Hp)) :
  Al [] false false ih f [a,b,c] h k=k (.fv w) h [] []:=Og (AeV ha hb hc) hr h k
theorem AA {ih:Aa} {f:FuncId} {a b c d:IV} {x y z u w:FV} (hr:Bi (ih f [.fv x,.fv y,.fv z,.fv u] ⟨[],[]⟩) w) (ha:A8 a=some x) (hb:A8 b=some y) (hc:A8 c=some z) (hd:A8 d=some u) (h:Hp)
  (k:IV→Hp→List Ref→List Ref→Option (IV×Hp)):Al [] false false ih f [a,b,c,d] h k=k (.fv w) h [] []:=Og (Asm ha hb hc hd) hr h k
theorem J8 (v:IV) (s:Nat) (h:Hp) (k:IV→Hp→List Ref→List Ref→Option β):AB (.ret { eff:={ val:=v } }) s h k=k v h [] []:=by
 unfold AB;simp only [Rd.runLog,IY,CC];rfl
theorem gen_val' (v:IV) (s:Nat) (h:Hp) (k:IV→Hp→List Ref→List Ref→Option β):AB (Idl.val v) s h k=k v h [] []:=J8 v s h k
theorem Cy {e:TypeId} {a b:Nat} {ei:TI} {z:List IV} (hT:E.T t=some ⟨a,b,.slice e,z⟩) (he:E.T e=some ei) {len:Nat} (hs:¬ (ei.size=0∨len * ei.size > 65536)) {parts:List (Nat×IV)} {cells:List FV}
  (hf:CD (fun j=>some (j * ei.size,ei.size)) (P3 len ei.zero) parts=some (cells.map .fv)) {s:Nat} {h:Hp} (k:IV→Hp→List Ref→List Ref→Option β) (hc:cells.length<65000:=by simp) :
  AB (Aj E t len parts) s h k=k (.clip (BW ei.size len cells)) h [] []:=by
 have key:∀(l:List FV) (n:Nat),l.length<n→frzL n (l.map .fv)=.ret (l,[]):=by
  intro l
  induction l with
  | nil=>intro n hn;cases n with
   | zero=>simp at hn
   | succ n=>rfl
  | cons x l ih=>intro n hn;cases n with
   | zero=>simp at hn
   | succ n =>
    simp only [AwP] at hn;cases n with
    | zero=>omega
    | succ n =>
     simp only [AwR,frzL,C1,Rd.bind];rw [ih (n+1) (by omega)];rfl
 have:Aj E t len parts=.ret { eff:={ val:=.clip (BW ei.size len cells),upd:=[] } }:=by
  simp only [Aj,hT,he,if_neg hs,hf];rw [key _ _ (by omega)];rfl
 rw [this,J8]
end
end Idl
end Go.Proofs.Ytaifgaidaglblaa
namespace Go.Proofs.Ytaifgaidaglblaa
namespace Idl
def XY:=AwK @decide_true<|AwK @decide_false<|AwK @Bool.not_true<|AwK @Bool.not_false<|AwK @List.map_cons.{0,0}<|AwK @List.map_nil.{0,0}<|AwK @List.length_map.{0,0}<|AwK @List.length_cons.{0}<|AwK @List.length_nil.{0}<|AwK @Int.natCast_zero<|AwK @Int.natCast_one<|AwK @Bool.false_eq_true<|AwK @Bool.true_eq_false<|AwK @decide_eq_true_eq<|AwK @eq_self.{1}<|AwK @Bool.and_true<|AwK @Bool.true_and<|AwK @Bool.and_false<|AwK @Bool.false_and<|AwK @Nat.zero_add<|@Int.cast_ofNat_Int
def XE:=AwK @List.any_cons.{0}<|AwK @List.any_nil.{0}<|AwK @List.all_cons.{0}<|AwK @List.all_nil.{0}<|AwK @List.filter_cons.{0}<|AwK @List.filter_nil.{0}<|AwK @List.contains_cons.{0}<|AwK @List.contains_nil.{0}<|AwK @Bool.or_false<|AwK @Bool.or_true<|AwK @Bool.false_or<|AwK @Bool.true_or<|AwK @Bool.and_self<|AwK @Bool.not_eq_true<|AwK @BEq.rfl.{0}<|@beq_self_eq_true.{0}
def XX:=AwK @n0<|AwK @n1<|AwK @n2<|AwK @n3<|AwK @n4<|AwK @n5<|AwK @n6<|AwK @d0<|AwK @d1<|AwK @d2<|AwK @d3<|AwK @d4<|AwK @t1<|AwK @t2<|AwK @t3<|AwK @t4<|AwK @t7<|AwK @ap0<|AwK @ap1<|AwK @AsP<|AwK @c_t<|AwK @c_f<|AwK @L0<|AwK @ArH<|AwK @AlT<|AwK @Aoh<|AwK @Aq5<|AwK @Amu<|AwK @ApR<|AwK @AsY<|AwK @Ao4<|AwK @AaJ<|AwK @AkA<|AwK @sn0<|AwK @Arr<|AwK @Asi<|AwK @AqL<|AwK @ArB<|AwK @Ar1<|AwK @Vg<|AwK @Alo<|AwK @ApT<|AwK @Aj5<|AwK @Aq1<|AwK @Asu<|AwK @Aj3<|AwK @Akk<|AwK @Akz<|AwK @Apf<|AwK @Aox<|AwK @ApX<|AwK @AlP<|AwK @Apl<|AwK @ApM<|AwK @AkR<|AwK @AmB<|AwK @Aj7<|AwK @AsU<|AwK @Aq4<|AwK @Akb<|AwK @Aoy<|AwK @Alv<|AwK @UQ<|AwK @Wj<|AwK @AtG<|AwK @HH<|AwK @Z9<|AwK @Aim<|AwK @Wl<|AwK @Anh<|AwK @AnD<|AwK @AoJ<|AwK @Anz<|AwK @Aps<|AwK @Anw<|AwK @Apm<|AwK @AqU<|AwK @Aon<|AwK @Alg<|AwK @AoQ<|AwK @AfO<|AwK @AkV<|AwK @Ai2<|AwK @Alj<|AwK @Akx<|AwK @AlH<|AwK @AfN<|AwK @ArF<|AwK @AsL<|AwK @AtH<|AwK @Aty<|AwK @AoR<|AwK @AnW<|AwK @wr0<|AwK @wr1<|AwK @sf0<|AwK @sf1<|AwK @sf2<|AwK @sf3<|AwK @sf4<|AwK @of0<|AwK @of1<|AwK @of2<|AwK @of3<|AwK @of6<|AwK @AtV<|AwK @AhN<|AwK @At4<|AwK @sc3<|AwK @Atu<|AwK @AtK<|AwK @Asz<|AwK @Arx<|AwK @Ari<|AwK @AiT<|AwK @Aul<|AwK @AtO<|AwK @Aud<|AwK @Atk<|AwK @ArV<|AwK @fk0<|AwK @fk1<|AwK @Ap7<|AwK @AmF<|AwK @nb3<|AwK @nb4<|AwK @nb7<|AwK @nl3<|AwK @Ao5<|AwK @ArC<|AwK @AsQ<|AwK @AqS<|AwK @Agq<|AwK @Qy<|AwK @AtC<|AwK @Atm<|AwK @Atz<|AwK @Atc<|AwK @AtQ<|AwK @Auh<|AwK @Amj<|AwK @Arl<|AwK @Ate<|AwK @AtI<|AwK @At7<|AwK @AtE<|AwK @AtA<|AwK @Atf<|AwK @Ar5<|AwK @AsR<|AwK @ArP<|AwK @Aq8<|AwK @AtJ<|AwK @ch0<|AwK @ch1<|AwK @dj0<|AwK @djn<|AwK @dj1<|AwK @an0<|AwK @an1<|AwK @AtY<|AwK @AsC<|AwK @Ar4<|AwK @Aui<|AwK @AtB<|AwK @Atp<|AwK @AtS<|AwK @Aue<|AwK @Aq7<|AwK @AsD<|AwK @Arj<|AwK @AqO<|AwK @Asd<|AwK @Bp<|AwK @Auc<|AwK @Auk<|AwK @AtR<|AwK @Aj4<|AwK @AjN<|AwK @AkQ<|AwK @Aj6<|AwK @Arf<|AwK @AjI<|AwK @Anl<|AwK @AlG<|AwK @Any<|AwK @Are<|AwK @Alk<|AwK @AmO<|AwK @AlE<|AwK @AoM<|AwK @AtF<|AwK @AtM<|AwK @Am1<|AwK @Xl<|AwK @AeV<|AwK @Asm<|AwK @Anj<|AwK @J8<|@gen_val'
def Ev (f:FuncId) (args:List IV) (w:FV):Prop:=∃N,∀n,N≤n→Bi (SS dt n f args ⟨[],[]⟩) w
theorem A6 {F:(List IV→Hp→Option (IV×Hp))→List IV→Hp→Option (IV×Hp)} {Q:Option (IV×Hp)→Prop} (P:Nat→List IV→Hp→Prop)
  (step:∀k V H rec,P k V H→(∀k' V' H',k' < k→P k' V' H'→Q (rec V' H'))→Q (F rec V H)):∀m k V H,k<m→P k V H→Q (BF m F V H):=by
 intro m
 induction m with
 | zero=>intro k V H h;omega
 | succ m ih=>intro k V H hk hP;exact step k V H (BF m F) hP fun k' V' H' h1 h2=>ih k' V' H' (by omega) h2
mutual
def Tm.wt:Tm→Nat
 | .mk _ _ l=>1+Tm.wtL l
def Tm.wtL:List Tm→Nat
 | []=>0
 | t::l=>t.wt+Tm.wtL l
end
theorem BN {t:Tm}:∀{l:List Tm},t∈l→t.wt≤Tm.wtL l
 | a::l,h=>by
  rcases List.mem_cons.1 h with rfl | h
  ·simp only [Tm.wtL];omega
  ·have:=BN h;simp only [Tm.wtL];omega
theorem C9:∀(l:List Tm),l.length≤Tm.wtL l
 | []=>Nat.zero_le _
 | (.mk _ _ k)::l=>by have:=C9 l;simp only [Tm.wtL,Tm.wt,AwP];omega
theorem J6 (t:Tm):0<t.wt:=by cases t;simp only [Tm.wt];omega
theorem Ah (op n:Int) (l:List Tm):(Tm.mk op n l).enc=.agg [.int .i64 op,.int .i64 n,.sl (l.map Tm.enc)]:=by simp only [Tm.enc,Aap]
theorem AN {l:List Tm} {i:Nat} {op n:Int} {k:List Tm} (h:l[i]?=some (.mk op n k)):(l.map Tm.enc)[i]?=some (.agg [.int .i64 op,.int .i64 n,.sl (k.map Tm.enc)]):=by
 rw [List.getElem?_map,h,AwO,Ah]
theorem Cc {α:Type} {l pre rest:List α} {a:α} (h:l=pre++a::rest):l[pre.length]?=some a:=by
 rw [h,List.getElem?_append_right (Nat.le_refl _),Nat.sub_self];rfl
theorem Ca (a b c:FV):(FV.agg [a,b,c]).cells=[a,b,c]:=rfl
theorem A9 (a b c:FV):(FV.agg [a,b,c]).cells.length=3:=rfl
section
variable {β:Type} {E:Env}
def Ai1 (b:Blk) (n sz:Nat) (x:Option β):Option β:=match b with
 | .tok a s=>if a=n∧s=sz then x else none
 | _=>none
theorem HG (n sz:Nat) (x:Option β):Ai1 (.tok n sz) n sz x=x:=by
 show (if n=n∧sz=sz then x else none)=x
 rw [if_pos ⟨rfl,rfl⟩]
inductive Plain2:IV→List FV→Prop
 | clip (es:List FV):Plain2 (.clip es) es
 | sl (es:List FV):Plain2 (.fv (.sl es)) es
 | app (r:Ref) (es:List FV):Plain2 (.app r es) es
theorem Ww {x:IV} {es:List FV} (h:Plain2 x es):C1 4096 x=.ret (.sl es,[]):=by cases h<;>rfl
structure SliceT (E:Env) (t:TypeId) (size:Nat):Prop where
 h:∃a b e z ei,E.T t=some ⟨a,b,.slice e,z⟩∧E.T e=some ei∧ei.size=size∧size≠0∧ei.bytes≤100000
theorem Nh {t:TypeId} {size:Nat} (T:SliceT E t size) {x:IV} {es2:List FV} (hx:Plain2 x es2) (h1:BI size es2=true) (hne:es2.isEmpty=false) (hb:es2.length≤1000000) {s0:IV} (hs:s0=.nils∨s0=.clip []) (s:Nat) (own:List (Nat×Blk)) (ext:List Blk)
  (k:IV→Hp→List Ref→List Ref→Option β):AB (AY E s false .append [t,t] [s0,x]) s ⟨own,ext⟩ k=CO own s (A1 own s (.tok es2.length size) fun own=>k (.app (.own s) es2) ⟨own,ext⟩ [] [.own s]):=by
 obtain ⟨a,b,e,z,ei,hT,he,rfl,h0,hby⟩:=T.h;have hlen:¬ (BI ei.size []=false∨(([]:List FV).length+es2.length) * ei.bytes > 140737488355328∨([]:List FV).length+es2.length > 1073741824):=by
  have:es2.length * ei.bytes≤1000000 * 100000:=Nat.mul_le_mul hb hby
  rintro (h | h | h)
  ·cases h
  ·simp only [List.length_nil,Nat.zero_add] at h;omega
  ·simp only [List.length_nil,Nat.zero_add] at h;omega
 have key:AY E s false .append [t,t] [s0,x]=.ret { eff:={ val:=.app (.own s) es2,upd:=[] },new:=some (.tok es2.length ei.size) }:=by
  show Fl E s t (some t) false s0 x=_
  simp only [Fl,hT,Option.bind_some,he,Ww hx,Rd.bind,h0,h1,false_or,Bool.true_eq_false,if_false];rcases hs with rfl | rfl<;>simp only [Ce,if_neg hlen,hne,List.nil_append,Bool.false_eq_true,if_false]
 rw [key];unfold AB;simp only [Rd.runLog]
 show (JK (some (.tok es2.length ei.size)) s ⟨own,ext⟩ fun h=>fV 3 (.app (.own s) es2) fun v=>k v h [] ([]++[.own s]))=_
 simp only [JK,C4,CC];rfl
theorem Al7 {t:TypeId} {size:Nat} (T:SliceT E t size) {x:IV} (hx:Plain2 x []) {s0:IV} (hs:s0=.nils∨s0=.clip []) (s:Nat) (h:Hp) (k:IV→Hp→List Ref→List Ref→Option β) :
  AB (AY E s false .append [t,t] [s0,x]) s h k=k s0 h [] []:=by
 obtain ⟨a,b,e,z,ei,hT,he,rfl,h0,hby⟩:=T.h;have hlen:¬ (BI ei.size []=false∨(([]:List FV).length+([]:List FV).length) * ei.bytes > 140737488355328∨([]:List FV).length+([]:List FV).length > 1073741824):=by
  rintro (h | h | h)
  ·cases h
  ·simp at h
  ·simp at h
 have key:AY E s false .append [t,t] [s0,x]=.ret { eff:={ val:=s0,upd:=[] } }:=by
  show Fl E s t (some t) false s0 x=_
  have h1:BI ei.size []=true:=rfl;simp only [Fl,hT,Option.bind_some,he,Ww hx,Rd.bind,h0,h1,false_or,Bool.true_eq_false,if_false];rcases hs with rfl | rfl
  ·simp only [Ce];rw [if_neg hlen];simp
  ·simp only [Ce];rw [if_neg hlen];simp
 rw [key];exact J8 s0 s h k
theorem UO {t:TypeId} {size:Nat} (T:SliceT E t size) {x:IV} {es es2:List FV} (hx:Plain2 x es2) (h1:BI size es2=true) (h2:BI size es=true) (ho:(es2.all fun e=>e.cells.all FV.one)=true) (hb:es.length+es2.length≤1000000) (r s:Nat)
  (own:List (Nat×Blk)) (ext:List Blk) (k:IV→Hp→List Ref→List Ref→Option β):AB (AY E s false .append [t,t] [.app (.own r) es,x]) s ⟨own,ext⟩ k =
   Fj own r fun b=>Ai1 b es.length size (A1 own r (.tok (es.length+es2.length) size) fun own=>k (.app (.own r) (es++es2)) ⟨own,ext⟩ [.own r] [.own r]):=by
 obtain ⟨a,b,e,z,ei,hT,he,rfl,h0,hby⟩:=T.h;have hlen:¬ (BI ei.size es=false∨(es.length+es2.length) * ei.bytes > 140737488355328∨es.length+es2.length > 1073741824):=by
  have:(es.length+es2.length) * ei.bytes≤1000000 * 100000:=Nat.mul_le_mul hb hby
  rintro (h | h | h)
  ·rw [h2] at h;cases h
  ·omega
  ·omega
 have key:(AY E s false .append [t,t] [.app (.own r) es,x]).runLog ⟨own,ext⟩ []=(Ap r own).bind fun b=>match b with
   | .tok n sz=>if n=es.length∧sz=ei.size then some ({ eff:={ val:=.app (.own r) (es++es2),upd:=[(.own r,.tok (n+es2.length) sz)] } },[.own r]) else none
   | _=>none:=by
  show (Fl E s t (some t) false (.app (.own r) es) x).runLog _ _=_
  simp only [Fl,hT,Option.bind_some,he,Ww hx,Rd.bind,h0,h1,false_or,Bool.true_eq_false,if_false,Ce,if_neg hlen,Rd.runLog,ho,and_true]
  show (match Ap r own with | some b=>_ | none=>none)=_
  cases Ap r own with
  | none=>rfl
  | some b =>
   cases b with
   | tok n sz =>
    simp only [Option.bind_some];by_cases hc:n=es.length∧sz=ei.size
    ·rw [if_pos hc,if_pos hc];rfl
    ·rw [if_neg hc,if_neg hc];rfl
   | _=>rfl
 unfold AB;rw [key,Bl];cases hl:Ap r own with
 | none=>simp
 | some b =>
  simp only [Option.bind_some];cases b with
  | tok n sz =>
   simp only [Ai1];by_cases hc:n=es.length∧sz=ei.size
   ·rw [if_pos hc,if_pos hc];obtain ⟨rfl,rfl⟩:=hc
    show (fRf (.own r) fun q=>C6 q ⟨own,ext⟩ fun _=>fBk (.tok (es.length+es2.length) ei.size) fun b=>Ga q b ⟨own,ext⟩ fun h=>JK none s h fun h=>fV 3 (.app (.own r) (es++es2)) fun v=>k v h [.own r] ([.own r]++[]))=_
    simp only [Pp,C4,CC,JK,Ga,C6];rw [Bl,hl];rfl
   ·rw [if_neg hc,if_neg hc]
  | row _ _=>rfl
  | map _=>rfl
end
end Idl
end Go.Proofs.Ytaifgaidaglblaa
namespace Go.Proofs.Ytaifgaidaglblaa
namespace Idl
theorem Vy:EE.T 29=some ⟨1,24,.slice 31,[.nils]⟩:=by kernel_rfl
theorem tTm:EE.T 31=some ⟨3,40,.struct [(0,3),(1,3),(2,29)],[.fv (.int .i64 0),.fv (.int .i64 0),.nils]⟩:=by kernel_rfl
theorem sTm:SliceT EE 29 3:=⟨_,_,_,_,_,Vy,tTm,rfl,by decide,by decide⟩
theorem JO (a:Tm) (s:Nat) (h:Hp) (k:IV→Hp→List Ref→List Ref→Option (IV×Hp)):AB (Aj EE 29 1 [(0,.fv a.enc)]) s h k=k (.clip [a.enc]) h [] []:=by
 obtain ⟨o1,n1,k1⟩:=a;exact Cy Vy tTm (by decide) (cells:=[.int .i64 o1,.int .i64 n1,.sl (Tm.enc.encL k1)]) rfl k
theorem AmU (a b:Tm) (s:Nat) (h:Hp) (k:IV→Hp→List Ref→List Ref→Option (IV×Hp)):AB (Aj EE 29 2 [(0,.fv a.enc),(1,.fv b.enc)]) s h k=k (.clip [a.enc,b.enc]) h [] []:=by
 obtain ⟨o1,n1,k1⟩:=a;obtain ⟨o2,n2,k2⟩:=b;exact Cy Vy tTm (by decide) (cells:=[.int .i64 o1,.int .i64 n1,.sl (Tm.enc.encL k1),.int .i64 o2,.int .i64 n2,.sl (Tm.enc.encL k2)]) rfl k
theorem Akw (a:Tm):a.enc.cells.length=3:=by cases a;rfl
theorem Akf (a:Tm):a.enc.cells.all FV.one=true:=by cases a;rfl
theorem TZ (l:List Tm):BI 3 (l.map Tm.enc)=true:=by
 cases l with
 | nil=>rfl
 | cons a l=>simp only [AwR,BI,Akw,beq_self_eq_true]
theorem SO (e:Tm) (s:Nat) (own:List (Nat×Blk)) (ext:List Blk) (k:IV→Hp→List Ref→List Ref→Option (IV×Hp)) :
  AB (AY EE s false .append [29,29] [.nils,.clip [e.enc]]) s ⟨own,ext⟩ k=CO own s (A1 own s (.tok 1 3) fun own=>k (.app (.own s) [e.enc]) ⟨own,ext⟩ [] [.own s]) :=
 Nh sTm (.clip _) (TZ [e]) rfl (by simp) (.inl rfl) s own ext k
theorem NQ {es:List Tm} (hb:es.length+1≤1000000) (e:Tm) (r s:Nat) (own:List (Nat×Blk)) (ext:List Blk) (k:IV→Hp→List Ref→List Ref→Option (IV×Hp)) :
  AB (AY EE s false .append [29,29] [.app (.own r) (es.map Tm.enc),.clip [e.enc]]) s ⟨own,ext⟩ k =
   Fj own r fun b=>Ai1 b es.length 3 (A1 own r (.tok (es.length+1) 3) fun own=>k (.app (.own r) ((es++[e]).map Tm.enc)) ⟨own,ext⟩ [.own r] [.own r]):=by
 rw [UO sTm (.clip [e.enc]) (TZ [e]) (TZ es) (by simp [Akf]) (by simpa using hb) r s own ext k];simp only [List.length_map,List.map_append,AwR,AwQ,AwP,List.length_nil,Nat.zero_add]
theorem AmI {x m:Int} (h1:0<m) (h2:m≤4611686018427387904):(if x.tmod m<0 then BH (x.tmod m+m) else x.tmod m)=x % m:=by
 have a1:=Int.emod_nonneg x (show m≠0 by omega)
 have a2:=Int.emod_lt_of_pos x h1;have e1:x.tmod m=x - m * x.tdiv m:=by have:=Int.mul_tdiv_add_tmod x m;omega
 have e2:x % m=x - m * (x / m):=by have:=Int.mul_ediv_add_emod x m;omega
 have b1:-m<x.tmod m:=Int.lt_tmod_of_pos x h1;have b2:x.tmod m<m:=Int.tmod_lt_of_pos x h1;have key:∃q,x.tmod m=x % m+m * q:=⟨x / m - x.tdiv m,by rw [e1,e2,Int.mul_sub];omega⟩;obtain ⟨q,hq⟩:=key;have hq2:q=0∨q=-1:=by
  rcases Int.lt_trichotomy q 0 with h | h | h
  ·right;rcases Int.lt_trichotomy q (-1) with h' | h' | h'
   ·have:m * q≤m * (-2):=Int.mul_le_mul_of_nonneg_left (by omega) (by omega)
    omega
   ·exact h'
   ·omega
  ·exact .inl h
  ·have:m * 1≤m * q:=Int.mul_le_mul_of_nonneg_left (by omega) (by omega)
   omega
 rcases hq2 with rfl | rfl
 ·rw [if_neg (by omega)];omega
 ·rw [if_pos (by omega),Au (by omega) (by omega)];omega
theorem As {n:Nat} (hn:0<n) (x:Int) {m:Int} (h1:0<m) (h2:m≤4611686018427387904):Bi (SS dt n 43 [iv x,iv m] ⟨[],[]⟩) (.int .i64 (x % m)):=by
 obtain ⟨n,rfl⟩:=Nat.exists_eq_add_of_lt hn;rw [Nat.zero_add,c43];simp only [S43,↓XX,XY,↓reduceIte,Nat.reduceBEq,Nat.reduceAdd,Int.reduceEq,Int.reduceLT,Int.reduceLE,↓Qy (show m≠0 by omega)]
 rw [← AmI h1 h2];by_cases hc:x.tmod m<0<;>simp only [hc,if_true,if_false]<;>exact Ao _ _
theorem Ec {n:Nat} (hn:0<n) (op:Int):Bi (SS dt n 24 [iv op,.fv (.sl [])] ⟨[],[]⟩) (Tm.mk op 0 []).enc:=by
 obtain ⟨n,rfl⟩:=Nat.exists_eq_add_of_lt hn;rw [Nat.zero_add,c24];simp only [S24,↓XX,XY,↓reduceIte,Nat.reduceBEq,Nat.reduceAdd,Int.reduceEq,Int.reduceLT,Int.reduceLE];exact Ao _ _
theorem CX {n:Nat} (hn:0<n) (op:Int) (l:List Tm):Bi (SS dt n 24 [iv op,.fv (.sl (l.map Tm.enc))] ⟨[],[]⟩) (Tm.mk op 0 l).enc:=by
 obtain ⟨n,rfl⟩:=Nat.exists_eq_add_of_lt hn;rw [Nat.zero_add,c24];simp only [S24,↓XX,XY,↓reduceIte,Nat.reduceBEq,Nat.reduceAdd,Int.reduceEq,Int.reduceLT,Int.reduceLE,Ah];exact Ao _ _
def Tm.kids:Tm→List Tm
 | .mk _ _ l=>l
def Tm.op:Tm→Int
 | .mk o _ _=>o
def Tm.n:Tm→Int
 | .mk _ n _=>n
def Tm.pick (r:Tm) (i:Nat):Tm:=match r.kids[i]? with
 | some k=>k
 | none=>.mk (BH (BH (r.op.tdiv 3)+i)) (BH (BH (r.n.tdiv 5)+BH (7 * i))) []
theorem AP {n:Nat} (hn:0<n) (r:Tm) (i:Nat):Bi (SS dt n 46 [.fv r.enc,iv i] ⟨[],[]⟩) (r.pick i).enc:=by
 obtain ⟨n,rfl⟩:=Nat.exists_eq_add_of_lt hn;rw [Nat.zero_add,c46];obtain ⟨op,m,ks⟩:=r;rw [Ah];simp only [Tm.pick,Tm.kids,Tm.op,Tm.n];cases hk:ks[i]? with
 | some k =>
  have hi:(i:Int)<ks.length:=by have:=(List.getElem?_eq_some_iff.1 hk).1;omega
  obtain ⟨o,p,l⟩:=k;simp only [Xk,WU,V8,WF,S46,↓XX,XY,↓reduceIte,Nat.reduceBEq,Nat.reduceAdd,Int.reduceEq,Int.reduceLT,Int.reduceLE,hi,↓Bp (AN hk) (A9 _ _ _),↓Ca,Ah];exact Ao _ _
 | none =>
  have hi:¬ (i:Int)<ks.length:=by have:=List.getElem?_eq_none_iff.1 hk;omega
  simp only [Xk,WU,V8,WF,S46,↓XX,XY,↓reduceIte,Nat.reduceBEq,Nat.reduceAdd,Int.reduceEq,Int.reduceLT,Int.reduceLE,hi,↓Agq (show (3:Int)≠0 by decide),↓Agq (show (5:Int)≠0 by decide)]
  exact Bg rfl _
section
variable {β:Type}
def Ch (s:Nat):IV→Bool
 | .ptr (.own j) _=>s == j
 | .slc (.own j) _ _=>s == j
 | .app (.own j) _=>s == j
 | .mapr (.own j)=>s == j
 | _=>false
def FU:IV→Bool
 | .agg _ | .tuple _ | .func ..=>false
 | _=>true
def FM (s:Nat):Blk→Bool
 | .row cells _=>cells.any (Ch s)
 | _=>false
def U3:Blk→Bool
 | .row cells _=>cells.all FU
 | .tok ..=>true
 | .map _=>false
theorem AeN {v:IV} (h:FU v=true) (s:Nat):(Ref.own s∈v.refs) ↔ Ch s v=true:=by
 cases v with
 | ptr r o=>cases r<;>simp [IV.refs,Ch]
 | slc r a b=>cases r<;>simp [IV.refs,Ch]
 | app r es=>cases r<;>simp [IV.refs,Ch]
 | mapr r=>cases r<;>simp [IV.refs,Ch]
 | agg _=>cases h
 | tuple _=>cases h
 | func _ _ _=>cases h
 | _=>simp [IV.refs,Ch]
theorem JP:∀{l:List IV},l.all FU=true→∀s,(Ref.own s∈IV.refs.refsL l) ↔ l.any (Ch s)=true
 | [],_,s=>by simp [IV.refs.refsL]
 | v::l,h,s=>by
  rw [List.all_cons,Bool.and_eq_true] at h;rw [IV.refs.refsL,List.mem_append,List.any_cons,Bool.or_eq_true,AeN h.1,JP h.2]
theorem Em {b:Blk} (h:U3 b=true) (s:Nat):(Ref.own s∈b.refs) ↔ FM s b=true:=by
 cases b with
 | row cells ro=>exact JP h s
 | tok n sz=>simp [Blk.refs,FM]
 | map es=>cases h
theorem Ii (s:Nat):∀l:List Ref,anyIn [s] l=true ↔ Ref.own s∈l
 | []=>by simp [anyIn]
 | .own k::l=>by
  rw [anyIn,Bool.or_eq_true,Ii s l,List.mem_cons];simp [eq_comm]
 | .ext k::l=>by
  rw [anyIn,Ii s l,List.mem_cons];simp
def heldB (rm:List Nat) (vals:List IV) (own:List (Nat×Blk)) (ext:List Blk) (s:Nat):Bool :=
 vals.any (Ch s) || (own.any (fun p=>!rm.contains p.1 && FM s p.2) || ext.any (FM s))
def JD (rm:List Nat) (vals:List IV) (own:List (Nat×Blk)) (ext:List Blk):List (Nat×Blk):=own.filter fun p=>!rm.contains p.1 || heldB rm vals own ext p.1
def AL (rm:List Nat) (vals:List IV) (own:List (Nat×Blk)) (ext:List Blk):Bool :=
 vals.all FU && (own.all (fun p=>U3 p.2) && (ext.all U3 && own.all fun p=>!rm.contains p.1 || rm.all fun s=>!FM s p.2))
theorem U4 {rm:List Nat} {vals:List IV} {own:List (Nat×Blk)} {ext:List Blk} (hf:AL rm vals own ext=true) (s:Nat) :
  Ref.own s∈IV.refs.refsL vals++(own.filter fun p=>!rm.contains p.1).flatMap (fun p=>p.2.refs)++ext.flatMap Blk.refs ↔ heldB rm vals own ext s=true:=by
 simp only [AL,Bool.and_eq_true] at hf;obtain ⟨h1,h2,h3,_⟩:=hf;have e1:Ref.own s∈(own.filter fun p=>!rm.contains p.1).flatMap (fun p=>p.2.refs) ↔ (own.any fun p=>!rm.contains p.1 && FM s p.2)=true:=by
  rw [List.mem_flatMap,List.any_eq_true];constructor
  ·rintro ⟨p,hp,hr⟩;obtain ⟨hp1,hp2⟩:=List.mem_filter.1 hp;exact ⟨p,hp1,by rw [hp2,(Em (List.all_eq_true.1 h2 p hp1) s).1 hr];rfl⟩
  ·rintro ⟨p,hp,hr⟩;rw [Bool.and_eq_true] at hr;exact ⟨p,List.mem_filter.2 ⟨hp,hr.1⟩,(Em (List.all_eq_true.1 h2 p hp) s).2 hr.2⟩
 have e2:Ref.own s∈ext.flatMap Blk.refs ↔ ext.any (FM s)=true:=by
  rw [List.mem_flatMap,List.any_eq_true];constructor
  ·rintro ⟨p,hp,hr⟩;exact ⟨p,hp,(Em (List.all_eq_true.1 h3 p hp) s).1 hr⟩
  ·rintro ⟨p,hp,hr⟩;exact ⟨p,hp,(Em (List.all_eq_true.1 h3 p hp) s).2 hr⟩
 rw [List.mem_append,List.mem_append,JP h1,e1,e2,heldB,Bool.or_eq_true,Bool.or_eq_true,or_assoc]
theorem AD {base rm:List Nat} {vals:List IV} {own:List (Nat×Blk)} {ext:List Blk} (hb:rm.any base.contains=false) (hf:AL rm vals own ext=true) (k:Hp→Option β) :
  Bf base rm vals ⟨own,ext⟩ k=k ⟨JD rm vals own ext,ext⟩:=by
 have hm:=U4 hf;have hf0:=hf;simp only [AL,Bool.and_eq_true] at hf0;obtain ⟨g1,g2,g3,g4⟩:=hf0;unfold Bf;rw [hb];simp only [cond_false];rw [NE];cases ha:(own.all fun p=>!rm.contains p.1) with
 | true =>
  simp only [Bool.not_true,cond_false];congr 2
  symm
  apply List.filter_eq_self.2;intro p hp;rw [List.all_eq_true.1 ha p hp];rfl
 | false =>
  simp only [Bool.not_false,cond_true];have slow:(match CB base [] rm ⟨vals,⟨own,ext⟩⟩ with | none=>none | some S=>fH S.hp k)=k ⟨JD rm vals own ext,ext⟩:=by
   have hgone:(rm.filter fun k=>!anyIn [k] (IV.refs.refsL vals++(own.filter fun p=>!rm.contains p.1).flatMap (fun p=>p.2.refs)++ext.flatMap Blk.refs))=rm.filter fun s=>!heldB rm vals own ext s:=by
    apply List.filter_congr;intro s _;congr 1;exact Bool.eq_iff_iff.2 ((Ii s _).trans (hm s))
   have hown:(own.filter fun p=>!(rm.filter fun s=>!heldB rm vals own ext s).contains p.1)=JD rm vals own ext:=by
    apply List.filter_congr;intro p _;rw [Bool.eq_iff_iff];simp only [Bool.not_eq_true',Bool.or_eq_true,List.contains_eq_mem,decide_eq_false_iff_not,List.mem_filter];constructor
    ·intro h;by_cases h1:p.1∈rm
     ·right;cases hh:heldB rm vals own ext p.1 with
      | true=>rfl
      | false=>exact absurd ⟨h1,hh⟩ h
     ·exact .inl h1
    ·rintro (h | h) ⟨h1,h2⟩
     ·exact h h1
     ·rw [h] at h2;exact absurd h2 (by simp)
   simp only [CB,hb,Bool.false_eq_true,if_false,A0,ha,hgone,hown];have hnone:anyIn (rm.filter fun s=>!heldB rm vals own ext s) (CV ⟨vals,⟨JD rm vals own ext,ext⟩⟩)=false:=by
    apply Ek;intro s hs hmem;obtain ⟨hs1,hs2⟩:=List.mem_filter.1 hs;have hs2:heldB rm vals own ext s=false:=by simpa using hs2
    simp only [CV,List.mem_append] at hmem;rcases hmem with (hmem | hmem) | hmem
    ·have:=(hm s).1 (List.mem_append_left _ (List.mem_append_left _ hmem))
     rw [this] at hs2;cases hs2
    ·obtain ⟨p,hp,hr⟩:=List.mem_flatMap.1 hmem;have hp1:=(List.mem_filter.1 hp).1;have hn:=(Em (List.all_eq_true.1 g2 p hp1) s).1 hr;have h4:=List.all_eq_true.1 g4 p hp1;cases hc:rm.contains p.1 with
     | true =>
      rw [hc] at h4;have h4:(rm.all fun s=>!FM s p.2)=true:=h4;have h5:=List.all_eq_true.1 h4 s hs1;rw [hn] at h5;cases h5
     | false =>
      have:=(hm s).1 (List.mem_append_left _ (List.mem_append_right _ (List.mem_flatMap.2 ⟨p,List.mem_filter.2 ⟨hp1,by rw [hc];rfl⟩,hr⟩)))
      rw [this] at hs2;cases hs2
    ·have:=(hm s).1 (List.mem_append_right _ hmem)
     rw [this] at hs2;cases hs2
   simp only [hnone,Bool.false_eq_true,if_false,Pj]
  cases hff:(and (FK rm (CF vals [])) (and (HZ rm own) (JC rm ext))) with
  | false=>exact slow
  | true =>
   have hff:(FK rm (CF vals []) && (HZ rm own && JC rm ext))=true:=hff;simp only [Bool.and_eq_true] at hff;simp only [Ib,cond_true];congr 2;apply List.filter_congr;intro p hp;cases hc:rm.contains p.1 with
   | false=>rfl
   | true =>
    have h1:=FA hff.1;rw [refsDL_eq,List.append_nil] at h1;have h2:=HK hff.2.1;have h3:=O9 hff.2.2
    have:heldB rm vals own ext p.1=false:=by
     cases hh:heldB rm vals own ext p.1 with
     | false=>rfl
     | true =>
      have:=(hm p.1).2 hh
      have hpm:p.1∈rm:=List.contains_iff_mem.1 hc;rcases List.mem_append.1 this with h | h
      ·rcases List.mem_append.1 h with h | h
       ·exact absurd h (h1 _ hpm)
       ·exact absurd h (h2 _ hpm)
      ·exact absurd h (h3 _ hpm)
    rw [this];rfl
end
section
variable (s j:Nat)
theorem At3 (rm:List Nat) (vals:List IV) (own:List (Nat×Blk)) (ext:List Blk):JD rm vals own ext=own.filter fun p=>!rm.contains p.1 || heldB rm vals own ext p.1:=rfl
theorem nv1 (o:Nat):Ch s (.ptr (.own j) o)=(s == j):=rfl
theorem nv2 (a b:Nat):Ch s (.slc (.own j) a b)=(s == j):=rfl
theorem nv3 (es:List FV):Ch s (.app (.own j) es)=(s == j):=rfl
theorem nv4 (v:FV):Ch s (.fv v)=false:=rfl
theorem nv5:Ch s .nils=false:=rfl
theorem nv6 (es:List FV):Ch s (.clip es)=false:=rfl
theorem nv7 (o:Nat):Ch s (.ptr (.ext j) o)=false:=rfl
theorem nv8:Ch s .dead=false:=rfl
theorem nb1 (cs:List IV) (ro:Bool):FM s (.row cs ro)=cs.any (Ch s):=rfl
theorem nb2 (a b:Nat):FM s (.tok a b)=false:=rfl
theorem Atn (r:Ref) (o:Nat):FU (.ptr r o)=true:=rfl
theorem Auf (r:Ref) (a b:Nat):FU (.slc r a b)=true:=rfl
theorem AtP (r:Ref) (es:List FV):FU (.app r es)=true:=rfl
theorem AtX (v:FV):FU (.fv v)=true:=rfl
theorem Auj:FU .nils=true:=rfl
theorem Atd (es:List FV):FU (.clip es)=true:=rfl
theorem Atr:FU .dead=true:=rfl
theorem Ati (cs:List IV) (ro:Bool):U3 (.row cs ro)=cs.all FU:=rfl
theorem fb_2 (a b:Nat):U3 (.tok a b)=true:=rfl
end
def XD:=AwK @At3<|AwK @nv1<|AwK @nv2<|AwK @nv3<|AwK @nv4<|AwK @nv5<|AwK @nv6<|AwK @nv7<|AwK @nv8<|AwK @nb1<|AwK @nb2<|AwK @Atn<|AwK @Auf<|AwK @AtP<|AwK @AtX<|AwK @Auj<|AwK @Atd<|AwK @Atr<|AwK @Ati<|@fb_2
end Idl
end Go.Proofs.Ytaifgaidaglblaa
namespace Go.Proofs.Ytaifgaidaglblaa
namespace Idl
def Ae (op:Int) (i:Nat):Nat :=
 if op=3∨op=4∨op=6∨op=20∨op=28∨op=29 then (if i=1 then 1 else 0) else if op=13 then (if i=0 then 1 else if i=2 then 2 else 0) else 0
theorem AQ (op:Int) (i:Nat):Ae op i≤2:=by
 unfold Ae
 repeat' split
 all_goals omega
theorem FE {n:Nat} (hn:0<n) (op:Int) (i:Nat):Bi (SS dt n 51 [iv op,iv i] ⟨[],[]⟩) (.int .i64 (Ae op i)):=by
 obtain ⟨n,rfl⟩:∃k,n=k+1:=⟨n - 1,by omega⟩;rw [c51];unfold Ae;by_cases h:op=3∨op=4∨op=6∨op=20∨op=28∨op=29
 ·rw [if_pos h];by_cases hi:i=1
  ·subst hi;rcases h with rfl | rfl | rfl | rfl | rfl | rfl<;>(simp only [↓UU3,↓XX,XY,↓reduceIte,Nat.reduceBEq,Nat.reduceAdd,Int.reduceEq,Int.reduceLT,Int.reduceLE];exact Ao _ _)
  ·have hi':¬ (i:Int)=1:=by omega
   rcases h with rfl | rfl | rfl | rfl | rfl | rfl<;>(simp only [↓UU3,↓XX,XY,↓reduceIte,Nat.reduceBEq,Nat.reduceAdd,Int.reduceEq,Int.reduceLT,Int.reduceLE,hi',hi];exact Ao _ _)
 ·rw [if_neg h];have h3:¬ op=3:=fun e=>h (by simp [e]);have h4:¬ op=4:=fun e=>h (by simp [e]);have h6:¬ op=6:=fun e=>h (by simp [e]);have h20:¬ op=20:=fun e=>h (by simp [e]);have h28:¬ op=28:=fun e=>h (by simp [e]);have h29:¬ op=29:=fun e=>h (by simp [e]);by_cases h13:op=13
  ·subst h13;by_cases hi:i=0
   ·subst hi;simp only [↓UU3,↓XX,XY,↓reduceIte,Nat.reduceBEq,Nat.reduceAdd,Int.reduceEq,Int.reduceLT,Int.reduceLE];exact Ao _ _
   ·have hi':¬ (i:Int)=0:=by omega
    by_cases hj:i=2
    ·subst hj;simp only [↓UU3,↓XX,XY,↓reduceIte,Nat.reduceBEq,Nat.reduceAdd,Int.reduceEq,Int.reduceLT,Int.reduceLE];exact Ao _ _
    ·have hj':¬ (i:Int)=2:=by omega
     simp only [↓UU3,↓XX,XY,↓reduceIte,Nat.reduceBEq,Nat.reduceAdd,Int.reduceEq,Int.reduceLT,Int.reduceLE,hi,hi',hj,hj'];exact Ao _ _
  ·simp only [↓UU3,↓XX,XY,↓reduceIte,Nat.reduceBEq,Nat.reduceAdd,Int.reduceEq,Int.reduceLT,Int.reduceLE,h3,h4,h6,h20,h28,h29,h13];exact Ao _ _
theorem Akn {n:Nat} (hn:0<n) (x:Int):Bi (SS dt n 26 [iv x] ⟨[],[]⟩) (Tm.mk 1 x []).enc:=by
 obtain ⟨n,rfl⟩:∃k,n=k+1:=⟨n - 1,by omega⟩;rw [c26];simp only [S26,↓XX,XY,↓reduceIte,Nat.reduceBEq,Nat.reduceAdd,Int.reduceEq,Int.reduceLT,Int.reduceLE];exact Bg rfl _
theorem AiC {n:Nat} (hn:0<n) (x:Int):Bi (SS dt n 45 [iv x] ⟨[],[]⟩) (Tm.mk 2 x []).enc:=by
 obtain ⟨n,rfl⟩:∃k,n=k+1:=⟨n - 1,by omega⟩;rw [c45];simp only [S45,↓XX,XY,↓reduceIte,Nat.reduceBEq,Nat.reduceAdd,Int.reduceEq,Int.reduceLT,Int.reduceLE];exact Bg rfl _
theorem Ajq {n:Nat} (hn:0<n) (x:Int):Bi (SS dt n 36 [iv x] ⟨[],[]⟩) (Tm.mk 25 x []).enc:=by
 obtain ⟨n,rfl⟩:∃k,n=k+1:=⟨n - 1,by omega⟩;rw [c36];simp only [S36,↓XX,XY,↓reduceIte,Nat.reduceBEq,Nat.reduceAdd,Int.reduceEq,Int.reduceLT,Int.reduceLE];exact Bg rfl _
mutual
/-- No more than four kids anywhere. -/
def Tm.wk:Tm→Prop
 | .mk _ _ ks=>ks.length≤4∧Tm.wkL ks
def Tm.wkL:List Tm→Prop
 | []=>True
 | t::l=>t.wk∧Tm.wkL l
end
theorem Mq {t:Tm}:∀{l:List Tm},Tm.wkL l→t∈l→t.wk
 | a::l,h,hm=>by
  rw [Tm.wkL] at h;rcases List.mem_cons.1 hm with rfl | hm
  ·exact h.1
  ·exact Mq h.2 hm
mutual
def Tm.shift:Tm→Int→Int→Tm
 | .mk op n ks,d,c=>.mk op (if op=1∧c≤n then BH (n+d) else n) (Tm.shiftL op 0 ks d c)
def Tm.shiftL:Int→Nat→List Tm→Int→Int→List Tm
 | _,_,[],_,_=>[]
 | op,i,t::l,d,c=>t.shift d (c+Ae op i)::Tm.shiftL op (i+1) l d c
end
theorem Eh (op:Int) (d c:Int):∀(l:List Tm) (i:Nat),(Tm.shiftL op i l d c).length=l.length
 | [],_=>rfl
 | _::l,i=>by simp only [Tm.shiftL,AwP,Eh op d c l]
theorem Pd (op d c:Int):∀(l l':List Tm) (i:Nat),Tm.shiftL op i (l++l') d c=Tm.shiftL op i l d c++Tm.shiftL op (i+l.length) l' d c
 | [],l',i=>by simp [Tm.shiftL]
 | t::l,l',i=>by simp only [List.cons_append,Tm.shiftL,Pd op d c l l',AwP];congr 3;omega
theorem CY:∀(n:Nat) (t:Tm) (d c:Int),t.wt+1<n→t.wk→0≤c→c+2 * t.wt≤4611686018427387904→Bi (SS dt n 25 [.fv t.enc,iv d,iv c] ⟨[],[]⟩) (t.shift d c).enc:=by
 intro n
 induction n with
 | zero=>intro t d c h;omega
 | succ n ih =>
  intro t d c h hw hc0 hc;obtain ⟨op,m,ks⟩:=t;simp only [Tm.wt] at h hc;rw [Tm.wk] at hw;rw [c25,Ah];have hlen:=C9 ks;have main:∀m',m'=(if op=1∧c≤m then BH (m+d) else m) →
    Bi (BF n (fun q28 l29 h30=>IL l29 h30 (SS dt n) ⟨[],[]⟩ q28) [iv d,iv c,.ptr (.own 26214400) 0,.ptr (.own 26214401) 0,.ptr (.own 26215429) 0,iv 0]
     ⟨[(26214400,.row [iv op,iv m,.fv (.sl (ks.map Tm.enc))] false),(26214401,.row [iv 0,iv 0,.nils] false),(26215429,.row [iv op,iv m',.nils] false)],[]⟩) ((Tm.mk op m ks).shift d c).enc:=by
   intro m' hm';refine A6 (Q:=fun r=>Bi r _) (fun k V H=>∃pre rest,ks=pre++rest∧rest.length=k∧V=[iv d,iv c,.ptr (.own 26214400) 0,.ptr (.own 26214401) 0,.ptr (.own 26215429) 0,iv pre.length] ∧
    (
     (pre=[]∧H=⟨[(26214400,.row [iv op,iv m,.fv (.sl (ks.map Tm.enc))] false),(26214401,.row [iv 0,iv 0,.nils] false),(26215429,.row [iv op,iv m',.nils] false)],[]⟩) ∨
     (pre≠[]∧H=⟨[(26214400,.row [iv op,iv m,.fv (.sl (ks.map Tm.enc))] false),(26214401,.row [iv 0,iv 0,.nils] false),(26215429,.row [iv op,iv m',.app (.own 26221584) ((Tm.shiftL op 0 pre d c).map Tm.enc)] false),(26221584,.tok (Tm.shiftL op 0 pre d c).length 3)],[]⟩)))
    ?_ n ks.length _ _ (by omega) ⟨[],ks,rfl,rfl,rfl,.inl ⟨rfl,rfl⟩⟩
   rintro k V H rec ⟨pre,rest,hk,hl,rfl,hH⟩ hrec;have hkl:ks.length=pre.length+rest.length:=by rw [hk];simp
   cases rest with
   | nil =>
    have hno:¬ ((pre.length:Int)<ks.length):=by rw [hkl];simp
    have hpre:ks=pre:=by simpa using hk
    rcases hH with ⟨rfl,rfl⟩ | ⟨_,rfl⟩
    ·subst hpre;simp only [GH,Gw,GI,Gv,Gz,Gt,Gs,GE,IL,Gg,Gh,Gc,Gk,Gl,S25,↓XX,XY,↓reduceIte,Nat.reduceBEq,Nat.reduceAdd,Int.reduceEq,Int.reduceLT,Int.reduceLE,Int.lt_irrefl,Tm.shift,Tm.shiftL,← hm',Ah];exact Bg rfl _
    ·subst hpre;simp only [GH,Gw,GI,Gv,Gz,Gt,Gs,GE,IL,Gg,Gh,Gc,Gk,Gl,S25,↓XX,XY,↓reduceIte,Nat.reduceBEq,Nat.reduceAdd,Int.reduceEq,Int.reduceLT,Int.reduceLE,Int.lt_irrefl,Tm.shift,← hm',Ah];exact Bg rfl _
   | cons t rest =>
    have hi:(pre.length:Int)<ks.length:=by rw [hkl];simp;omega
    have hg:=Cc hk;have htw:=BN (t:=t) (l:=ks) (by rw [hk];simp);have hb:=FE (n:=n) (by omega) op pre.length;have hble:=AQ op pre.length;have hs:=ih t d (c+Ae op pre.length) (by omega) (Mq hw.2 (by rw [hk];simp)) (by omega) (by omega);have hx:Tm.shiftL op 0 (pre++[t]) d c=Tm.shiftL op 0 pre d c++[t.shift d (c+Ae op pre.length)]:=by
     rw [Pd];simp [Tm.shiftL]
    have hwc:BH (c+Ae op pre.length)=c+Ae op pre.length:=by rw [Au]<;>omega
    have hwi:BH ((pre.length:Int)+1)=((pre++[t]).length:Int):=(Au (by omega) (by omega)).trans (by simp);generalize hu:t.shift d (c+Ae op pre.length)=u at hs hx;obtain ⟨o,p,l⟩:=t;simp only [AwP] at hl;rw [Ah] at hs;rcases hH with ⟨hp0,rfl⟩ | ⟨hne,rfl⟩
    ·simp only [GH,Gw,GI,Gv,Gz,Gt,Gs,GE,IL,Gg,Gh,Gc,Gk,Gl,S25,↓XX,XY,↓reduceIte,Nat.reduceBEq,Nat.reduceAdd,Int.reduceEq,Int.reduceLT,Int.reduceLE,hi,↓Bp (AN hg) (A9 _ _ _),↓Ca,↓Ag hb,hwc,hwi,↓AZ hs,↓JO,↓SO,↓AD,XD,heldB,AL,XE];refine hrec rest.length _ _ (by omega) ?_;refine ⟨pre++[.mk o p l],rest,by rw [hk];simp,rfl,rfl,.inr ⟨by simp,?_⟩⟩;rw [hx,hp0];rfl
    ·have hle:(Tm.shiftL op 0 pre d c).length+1≤1000000:=by rw [Eh];omega
     have hq:(Tm.shiftL op 0 pre d c).length=pre.length:=Eh ..;simp only [GH,Gw,GI,Gv,Gz,Gt,Gs,GE,IL,Gg,Gh,Gc,Gk,Gl,S25,↓XX,XY,↓reduceIte,Nat.reduceBEq,Nat.reduceAdd,Int.reduceEq,Int.reduceLT,Int.reduceLE,hi,↓Bp (AN hg) (A9 _ _ _),↓Ca,↓Ag hb,hwc,hwi,↓AZ hs,↓JO,↓NQ hle,↓HG,↓AD,XD,heldB,AL,XE];refine hrec rest.length _ _ (by omega) ?_;refine ⟨pre++[.mk o p l],rest,by rw [hk];simp,rfl,rfl,.inr ⟨by simp,?_⟩⟩;rw [hx];simp only [List.length_append,AwP,List.length_nil]
  by_cases h1:op=1
  ·by_cases h2:c≤m
   ·subst h1;simp only [GH,Gw,GI,Gv,Gz,Gt,Gs,GE,Gg,Gh,Gc,Gk,Gl,S25,↓XX,XY,↓reduceIte,Nat.reduceBEq,Nat.reduceAdd,Int.reduceEq,Int.reduceLT,Int.reduceLE,h2,↓AD,XD,heldB,AL,XE];exact main _ (by simp [h2])
   ·subst h1;simp only [GH,Gw,GI,Gv,Gz,Gt,Gs,GE,Gg,Gh,Gc,Gk,Gl,S25,↓XX,XY,↓reduceIte,Nat.reduceBEq,Nat.reduceAdd,Int.reduceEq,Int.reduceLT,Int.reduceLE,h2,↓AD,XD,heldB,AL,XE];exact main _ (by simp [h2])
  ·simp only [GH,Gw,GI,Gv,Gz,Gt,Gs,GE,Gg,Gh,Gc,Gk,Gl,S25,↓XX,XY,↓reduceIte,Nat.reduceBEq,Nat.reduceAdd,Int.reduceEq,Int.reduceLT,Int.reduceLE,h1,↓AD,XD,heldB,AL,XE];exact main _ (by simp [h1])
mutual
def Tm.subst:Tm→Int→Int→Tm→Tm
 | .mk op m ks,n,d,u=>if op=1 then (if m=n then u.shift d 0 else if n<m then .mk 1 (BH (m - 1)) [] else .mk op m ks) else .mk op m (Tm.substL op 0 ks n d u)
def Tm.substL:Int→Nat→List Tm→Int→Int→Tm→List Tm
 | _,_,[],_,_,_=>[]
 | op,i,t::l,n,d,u=>t.subst (n+Ae op i) (d+Ae op i) u::Tm.substL op (i+1) l n d u
end
theorem Hw (op n d:Int) (u:Tm):∀(l:List Tm) (i:Nat),(Tm.substL op i l n d u).length=l.length
 | [],_=>rfl
 | _::l,i=>by simp only [Tm.substL,AwP,Hw op n d u l]
theorem OE (op n d:Int) (u:Tm):∀(l l':List Tm) (i:Nat),Tm.substL op i (l++l') n d u=Tm.substL op i l n d u++Tm.substL op (i+l.length) l' n d u
 | [],l',i=>by simp [Tm.substL]
 | t::l,l',i=>by simp only [List.cons_append,Tm.substL,OE op n d u l l',AwP];congr 3;omega
theorem AiZ (u:Tm) (hu:u.wk) (huw:u.wt≤1152921504606846976):∀(n:Nat) (t:Tm) (c d:Int),t.wt+u.wt+3<n→t.wk→-1000000000≤c→c+2 * t.wt≤4611686018427387904→0≤d→d+2 * t.wt≤4611686018427387904 →
  Bi (SS dt n 60 [.fv t.enc,iv c,iv d,.fv u.enc] ⟨[],[]⟩) (t.subst c d u).enc:=by
 intro n
 induction n with
 | zero=>intro t c d h;omega
 | succ n ih =>
  intro t c d h hw hc0 hc hd0 hd;obtain ⟨op,m,ks⟩:=t;simp only [Tm.wt] at h hc hd;rw [Tm.wk] at hw;rw [c60,Ah];have hlen:=C9 ks;by_cases h1:op=1
  ·subst h1;have hsh:=CY n u d 0 (by omega) hu (by omega) (by omega);rw [Tm.subst,if_pos rfl];generalize u.shift d 0=z at hsh ⊢;obtain ⟨uo,un,uk⟩:=u;obtain ⟨zo,zn,zk⟩:=z;rw [Ah] at hsh ⊢;by_cases h2:m=c
   ·subst h2;simp only [↓UU2,↓XX,XY,↓reduceIte,Nat.reduceBEq,Nat.reduceAdd,Int.reduceEq,Int.reduceLT,Int.reduceLE,↓AZ hsh];simp only [↓UU2,↓XX,XY,↓reduceIte,Nat.reduceBEq,Nat.reduceAdd,Int.reduceEq,Int.reduceLT,Int.reduceLE,Ah];exact Bg rfl _
   ·by_cases h3:c<m
    ·simp only [↓UU2,↓XX,XY,↓reduceIte,Nat.reduceBEq,Nat.reduceAdd,Int.reduceEq,Int.reduceLT,Int.reduceLE,h2,h3,Ah];exact Bg rfl _
    ·simp only [↓UU2,↓XX,XY,↓reduceIte,Nat.reduceBEq,Nat.reduceAdd,Int.reduceEq,Int.reduceLT,Int.reduceLE,h2,h3,Ah];exact Bg rfl _
  ·have main :
    Bi (BF n (fun q l h=>Ja l h (SS dt n) ⟨[],[]⟩ q) [iv c,iv d,.ptr (.own 62914560) 0,.ptr (.own 62914561) 0,.ptr (.own 62914562) 0,.ptr (.own 62921733) 0,iv 0]
     ⟨[(62914560,.row [iv op,iv m,.fv (.sl (ks.map Tm.enc))] false),(62914561,.row [iv u.op,iv u.n,.fv (.sl (u.kids.map Tm.enc))] false),(62914562,.row [iv 0,iv 0,.nils] false),(62921733,.row [iv op,iv m,.nils] false)],[]⟩)
      (Tm.mk op m (Tm.substL op 0 ks c d u)).enc:=by
    refine A6 (Q:=fun r=>Bi r _) (fun k V H=>∃pre rest,ks=pre++rest∧rest.length=k∧V=[iv c,iv d,.ptr (.own 62914560) 0,.ptr (.own 62914561) 0,.ptr (.own 62914562) 0,.ptr (.own 62921733) 0,iv pre.length] ∧
     (
      (pre=[]∧H=⟨[(62914560,.row [iv op,iv m,.fv (.sl (ks.map Tm.enc))] false),(62914561,.row [iv u.op,iv u.n,.fv (.sl (u.kids.map Tm.enc))] false),(62914562,.row [iv 0,iv 0,.nils] false),(62921733,.row [iv op,iv m,.nils] false)],[]⟩) ∨
      (
      pre≠[]∧H=⟨[(62914560,.row [iv op,iv m,.fv (.sl (ks.map Tm.enc))] false),(62914561,.row [iv u.op,iv u.n,.fv (.sl (u.kids.map Tm.enc))] false),(62914562,.row [iv 0,iv 0,.nils] false),
      (62921733,.row [iv op,iv m,.app (.own 62926864) ((Tm.substL op 0 pre c d u).map Tm.enc)] false),(62926864,.tok (Tm.substL op 0 pre c d u).length 3)],[]⟩)))
     ?_ n ks.length _ _ (by omega) ⟨[],ks,rfl,rfl,rfl,.inl ⟨rfl,rfl⟩⟩
    rintro k V H rec ⟨pre,rest,hk,hl,rfl,hH⟩ hrec;have hkl:ks.length=pre.length+rest.length:=by rw [hk];simp
    cases rest with
    | nil =>
     have hno:¬ ((pre.length:Int)<ks.length):=by rw [hkl];simp
     have hpre:ks=pre:=by simpa using hk
     rcases hH with ⟨rfl,rfl⟩ | ⟨_,rfl⟩
     ·subst hpre;simp only [IH,Jq,I4,IT,Jo,IP,IR,I3,Jb,Ig,Ih,IE,IF,Ja,Jt,IM,IS,S60,↓XX,XY,↓reduceIte,Nat.reduceBEq,Nat.reduceAdd,Int.reduceEq,Int.reduceLT,Int.reduceLE,Int.lt_irrefl,Tm.substL,Ah];exact Bg rfl _
     ·subst hpre;simp only [IH,Jq,I4,IT,Jo,IP,IR,I3,Jb,Ig,Ih,IE,IF,Ja,Jt,IM,IS,S60,↓XX,XY,↓reduceIte,Nat.reduceBEq,Nat.reduceAdd,Int.reduceEq,Int.reduceLT,Int.reduceLE,Int.lt_irrefl,Ah];exact Bg rfl _
    | cons t rest =>
     have hi:(pre.length:Int)<ks.length:=by rw [hkl];simp;omega
     have hg:=Cc hk;have htw:=BN (t:=t) (l:=ks) (by rw [hk];simp);have hb:=FE (n:=n) (by omega) op pre.length;have hble:=AQ op pre.length;have hs:=ih t (c+Ae op pre.length) (d+Ae op pre.length) (by omega) (Mq hw.2 (by rw [hk];simp)) (by omega) (by omega) (by omega) (by omega);have hx:Tm.substL op 0 (pre++[t]) c d u=Tm.substL op 0 pre c d u++[t.subst (c+Ae op pre.length) (d+Ae op pre.length) u]:=by
      rw [OE];simp [Tm.substL]
     have hwc:BH (c+Ae op pre.length)=c+Ae op pre.length:=by rw [Au]<;>omega
     have hwd:BH (d+Ae op pre.length)=d+Ae op pre.length:=by rw [Au]<;>omega
     have hwi:BH ((pre.length:Int)+1)=((pre++[t]).length:Int):=(Au (by omega) (by omega)).trans (by simp);generalize hv:t.subst (c+Ae op pre.length) (d+Ae op pre.length) u=v at hs hx;obtain ⟨o,p,l⟩:=t;simp only [AwP] at hl;have hue:u.enc=.agg [.int .i64 u.op,.int .i64 u.n,.sl (u.kids.map Tm.enc)]:=by cases u;exact Ah ..
     rw [Ah,hue] at hs;rcases hH with ⟨hp0,rfl⟩ | ⟨hne,rfl⟩
     ·simp only [IH,Jq,I4,IT,Jo,IP,IR,I3,Jb,Ig,Ih,IE,IF,Ja,Jt,IM,IS,S60,↓XX,XY,↓reduceIte,Nat.reduceBEq,Nat.reduceAdd,Int.reduceEq,Int.reduceLT,Int.reduceLE,hi,↓Bp (AN hg) (A9 _ _ _),↓Ca,↓Ag hb,hwc,hwd,hwi,↓AA hs,↓JO,↓SO,↓AD,XD,heldB,AL,XE];refine hrec rest.length _ _ (by omega) ?_;refine ⟨pre++[.mk o p l],rest,by rw [hk];simp,rfl,rfl,.inr ⟨by simp,?_⟩⟩;rw [hx,hp0];rfl
     ·have hle:(Tm.substL op 0 pre c d u).length+1≤1000000:=by rw [Hw];omega
      simp only [IH,Jq,I4,IT,Jo,IP,IR,I3,Jb,Ig,Ih,IE,IF,Ja,Jt,IM,IS,S60,↓XX,XY,↓reduceIte,Nat.reduceBEq,Nat.reduceAdd,Int.reduceEq,Int.reduceLT,Int.reduceLE,hi,↓Bp (AN hg) (A9 _ _ _),↓Ca,↓Ag hb,hwc,hwd,hwi,↓AA hs,↓JO,↓NQ hle,↓HG,↓AD,XD,heldB,AL,XE];refine hrec rest.length _ _ (by omega) ?_;refine ⟨pre++[.mk o p l],rest,by rw [hk];simp,rfl,rfl,.inr ⟨by simp,?_⟩⟩;rw [hx];simp only [List.length_append,AwP,List.length_nil]
   rw [Tm.subst,if_neg h1];obtain ⟨uo,un,uk⟩:=u;rw [Ah (op:=uo)];simp only [↓UU2,↓XX,XY,↓reduceIte,Nat.reduceBEq,Nat.reduceAdd,Int.reduceEq,Int.reduceLT,Int.reduceLE,h1,↓AD,XD,heldB,AL,XE];exact main
theorem Vp {n:Nat} (t u:Tm) (c:Int) (hu:u.wk) (huw:u.wt≤1152921504606846976) (h:t.wt+u.wt+4<n) (hw:t.wk) (hww:t.wt≤2305843009213693951) (h0:-1000000000≤c) (hc:c+2 * t.wt≤4611686018427387904) :
  Bi (SS dt n 50 [.fv t.enc,iv c,.fv u.enc] ⟨[],[]⟩) (t.subst c 0 u).enc:=by
 obtain ⟨n,rfl⟩:∃k,n=k+1:=⟨n - 1,by omega⟩;rw [c50];have hs:=AiZ u hu huw n t c 0 (by omega) hw h0 hc (by omega) (by omega);generalize t.subst c 0 u=v at hs ⊢;obtain ⟨o1,n1,k1⟩:=t;obtain ⟨o2,n2,k2⟩:=u;obtain ⟨o3,n3,k3⟩:=v;simp only [Ah] at hs ⊢;simp only [Air,S50,↓XX,XY,↓reduceIte,Nat.reduceBEq,Nat.reduceAdd,Int.reduceEq,Int.reduceLT,Int.reduceLE,↓AA hs];exact Bg rfl _
mutual
def Tm.free:Tm→Int→Bool
 | .mk op m ks,c=>if op=1 then decide (m=c) else Tm.freeL op 0 ks c
def Tm.freeL:Int→Nat→List Tm→Int→Bool
 | _,_,[],_=>false
 | op,i,t::l,c=>t.free (c+Ae op i) || Tm.freeL op (i+1) l c
end
theorem AjR:∀(n:Nat) (t:Tm) (c:Int),t.wt+1<n→t.wt≤1152921504606846976→-1000000000≤c→c+2 * t.wt≤461168601842738→Bi (SS dt n 54 [.fv t.enc,iv c] ⟨[],[]⟩) (.bool (t.free c)):=by
 intro n
 induction n with
 | zero=>intro t c h;omega
 | succ n ih =>
  intro t c h hw hc0 hc;obtain ⟨op,m,ks⟩:=t;simp only [Tm.wt] at h hw hc;rw [c54,Ah];have hlen:=C9 ks;by_cases h1:op=1
  ·subst h1;rw [Tm.free,if_pos rfl];simp only [MK,Mk,MA,Mh,L9,S54,↓XX,XY,↓reduceIte,Nat.reduceBEq,Nat.reduceAdd,Int.reduceEq,Int.reduceLT,Int.reduceLE];exact Ao _ _
  ·rw [Tm.free,if_neg h1];simp only [MK,Mk,MA,Mh,L9,S54,↓XX,XY,↓reduceIte,Nat.reduceBEq,Nat.reduceAdd,Int.reduceEq,Int.reduceLT,Int.reduceLE,h1];refine A6 (Q:=fun r=>Bi r _) (fun k V H=>∃pre rest,ks=pre++rest∧rest.length=k∧V=[iv c,.ptr (.own 56623104) 0,iv pre.length]∧H=⟨[(56623104,.row [iv op,iv m,.fv (.sl (ks.map Tm.enc))] false)],[]⟩∧Tm.freeL op pre.length rest c=Tm.freeL op 0 ks c)
    ?_ n ks.length _ _ (by omega) ⟨[],ks,rfl,rfl,rfl,rfl,rfl⟩
   rintro k V H rec ⟨pre,rest,hk,hl,rfl,rfl,ht⟩ hrec;have hkl:ks.length=pre.length+rest.length:=by rw [hk];simp
   cases rest with
   | nil =>
    have hno:¬ ((pre.length:Int)<ks.length):=by rw [hkl];simp
    rw [← ht];simp only [MK,Mk,MA,Mh,L9,TE,S54,↓XX,XY,↓reduceIte,Nat.reduceBEq,Nat.reduceAdd,Int.reduceEq,Int.reduceLT,Int.reduceLE,hno,Tm.freeL];exact Ao _ _
   | cons t rest =>
    have hi:(pre.length:Int)<ks.length:=by rw [hkl];simp;omega
    have hg:=Cc hk;have htw:=BN (t:=t) (l:=ks) (by rw [hk];simp);have hb:=FE (n:=n) (by omega) op pre.length;have hble:=AQ op pre.length;have hs:=ih t (c+Ae op pre.length) (by omega) (by omega) (by omega) (by omega);have hwc:BH (c+Ae op pre.length)=c+Ae op pre.length:=by rw [Au]<;>omega
    have hwi:BH ((pre.length:Int)+1)=((pre++[t]).length:Int):=(Au (by omega) (by omega)).trans (by simp);simp only [Tm.freeL] at ht;generalize t.free (c+Ae op pre.length)=v at hs ht;obtain ⟨o,p,l⟩:=t;simp only [AwP] at hl;rw [Ah] at hs;cases v
    ·simp only [MK,Mk,MA,Mh,L9,TE,S54,↓XX,XY,↓reduceIte,Nat.reduceBEq,Nat.reduceAdd,Int.reduceEq,Int.reduceLT,Int.reduceLE,hi,↓Bp (AN hg) (A9 _ _ _),↓Ca,↓Ag hb,hwc,hwi,↓Ag hs];refine hrec rest.length _ _ (by omega) ?_;exact ⟨pre++[.mk o p l],rest,by rw [hk];simp,rfl,rfl,rfl,by simpa using ht⟩
    ·rw [← ht];simp only [MK,Mk,MA,Mh,L9,TE,S54,↓XX,XY,↓reduceIte,Nat.reduceBEq,Nat.reduceAdd,Int.reduceEq,Int.reduceLT,Int.reduceLE,hi,↓Bp (AN hg) (A9 _ _ _),↓Ca,↓Ag hb,hwc,hwi,↓Ag hs,Bool.true_or];exact Ao _ _
mutual
def Tm.same:Tm→Tm→Bool
 | .mk o n l,.mk o' n' l'=>decide (o=o') && (decide (n=n') && (decide (l.length=l'.length) && Tm.sameL l l'))
def Tm.sameL:List Tm→List Tm→Bool
 | a::l,b::l'=>a.same b && Tm.sameL l l'
 | _,_=>true
end
mutual
theorem LW:∀a b:Tm,a.same b=true ↔ a=b
 | .mk o n l,.mk o' n' l'=>by
  simp only [Tm.same,Bool.and_eq_true,decide_eq_true_eq,Tm.mk.injEq];constructor
  ·rintro ⟨rfl,rfl,h1,h2⟩;exact ⟨rfl,rfl,(sameL_eq l l' h1).1 h2⟩
  ·rintro ⟨rfl,rfl,rfl⟩;exact ⟨rfl,rfl,rfl,(sameL_eq l l rfl).2 rfl⟩
theorem sameL_eq:∀l l':List Tm,l.length=l'.length→(Tm.sameL l l'=true ↔ l=l')
 | [],[],_=>by simp [Tm.sameL]
 | a::l,b::l',h=>by
  simp only [Tm.sameL,Bool.and_eq_true,List.cons.injEq,LW a b,sameL_eq l l' (by simpa using h)]
end
theorem S8:∀(n:Nat) (a b:Tm),a.wt+1<n→a.wt≤1152921504606846976→Bi (SS dt n 37 [.fv a.enc,.fv b.enc] ⟨[],[]⟩) (.bool (a.same b)):=by
 intro n
 induction n with
 | zero=>intro a b h;omega
 | succ n ih =>
  intro a b h hw;obtain ⟨op,m,ks⟩:=a;obtain ⟨op',m',ks'⟩:=b;simp only [Tm.wt] at h hw;rw [c37,Ah,Ah];have hlen:=C9 ks;rw [Tm.same];by_cases h1:op=op'
  ·by_cases h2:m=m'
   ·by_cases h3:ks.length=ks'.length
    ·have h3':(ks.length:Int)=ks'.length:=by omega
     subst h1 h2;simp only [Gp,Gx,GC,Ge,GA,Gn,Gy,Gq,Gi,S37,↓XX,XY,↓reduceIte,Nat.reduceBEq,Nat.reduceAdd,Int.reduceEq,Int.reduceLT,Int.reduceLE,h3,h3',Tm.same];refine A6 (Q:=fun r=>Bi r _) (fun k V H=>∃pre rest pre' rest',ks=pre++rest∧ks'=pre'++rest'∧pre.length=pre'.length∧rest.length=k∧V=[.ptr (.own 38797312) 0,.ptr (.own 38797313) 0,iv pre.length] ∧
      H=⟨[(38797312,.row [iv op,iv m,.fv (.sl (ks.map Tm.enc))] false),(38797313,.row [iv op,iv m,.fv (.sl (ks'.map Tm.enc))] false)],[]⟩∧Tm.sameL rest rest'=Tm.sameL ks ks')
      ?_ n ks.length _ _ (by omega) ⟨[],ks,[],ks',rfl,rfl,rfl,rfl,rfl,rfl,rfl⟩
     rintro k V H rec ⟨pre,rest,pre',rest',hk,hk',hpl,hl,rfl,rfl,ht⟩ hrec;have hkl:ks.length=pre.length+rest.length:=by rw [hk];simp
     have hkl':ks'.length=pre'.length+rest'.length:=by rw [hk'];simp
     cases rest with
     | nil =>
      have hno:¬ ((pre.length:Int)<ks.length):=by rw [hkl];simp
      rw [← ht];simp only [Gp,Gx,GC,Ge,GA,NS,Gn,Gy,Gq,Gi,S37,↓XX,XY,↓reduceIte,Nat.reduceBEq,Nat.reduceAdd,Int.reduceEq,Int.reduceLT,Int.reduceLE,hno,Tm.sameL];exact Ao _ _
     | cons t rest =>
      cases rest' with
      | nil=>simp at hkl hkl';omega
      | cons t' rest' =>
       have hi:(pre.length:Int)<ks.length:=by rw [hkl];simp;omega
       have hg:=Cc hk;have hg':=Cc hk';rw [← hpl] at hg';have htw:=BN (t:=t) (l:=ks) (by rw [hk];simp);have hs:=ih t t' (by omega) (by omega);have hwi:BH ((pre.length:Int)+1)=((pre++[t]).length:Int):=(Au (by omega) (by omega)).trans (by simp);simp only [Tm.sameL] at ht;generalize t.same t'=v at hs ht;obtain ⟨o,p,l⟩:=t;obtain ⟨o',p',l'⟩:=t';simp only [AwP] at hl;rw [Ah,Ah] at hs;cases v
       ·rw [← ht];simp only [Gp,Gx,GC,Ge,GA,NS,Gn,Gy,Gq,Gi,S37,↓XX,XY,↓reduceIte,Nat.reduceBEq,Nat.reduceAdd,Int.reduceEq,Int.reduceLT,Int.reduceLE,hi,↓Bp (AN hg) (A9 _ _ _),↓Bp (AN hg') (A9 _ _ _),↓Ca,↓Ag hs,Bool.false_and];exact Ao _ _
       ·simp only [Gp,Gx,GC,Ge,GA,NS,Gn,Gy,Gq,Gi,S37,↓XX,XY,↓reduceIte,Nat.reduceBEq,Nat.reduceAdd,Int.reduceEq,Int.reduceLT,Int.reduceLE,hi,↓Bp (AN hg) (A9 _ _ _),↓Bp (AN hg') (A9 _ _ _),↓Ca,hwi,↓Ag hs];refine hrec rest.length _ _ (by omega) ?_;exact ⟨pre++[.mk o p l],rest,pre'++[.mk o' p' l'],rest',by rw [hk];simp,by rw [hk'];simp,by simp [hpl],rfl,rfl,rfl,by simpa using ht⟩
    ·have h3':¬ (ks.length:Int)=ks'.length:=by omega
     simp only [Gp,Gx,GC,Ge,GA,Gn,Gy,Gq,Gi,S37,↓XX,XY,↓reduceIte,Nat.reduceBEq,Nat.reduceAdd,Int.reduceEq,Int.reduceLT,Int.reduceLE,h1,h2,h3,h3'];exact Ao _ _
   ·simp only [Gp,Gx,GC,Ge,GA,Gn,Gy,Gq,Gi,S37,↓XX,XY,↓reduceIte,Nat.reduceBEq,Nat.reduceAdd,Int.reduceEq,Int.reduceLT,Int.reduceLE,h1,h2];exact Ao _ _
  ·simp only [Gp,Gx,GC,Ge,GA,Gn,Gy,Gq,Gi,S37,↓XX,XY,↓reduceIte,Nat.reduceBEq,Nat.reduceAdd,Int.reduceEq,Int.reduceLT,Int.reduceLE,h1];exact Ao _ _
theorem AkP (o p:Int) (l:List Tm) (s:Nat) (h:Hp) (k:IV→Hp→List Ref→List Ref→Option (IV×Hp)):AB (Aj EE 29 1 [(0,.fv (.agg [.int .i64 o,.int .i64 p,.sl (l.map Tm.enc)]))]) s h k=k (.clip [.agg [.int .i64 o,.int .i64 p,.sl (l.map Tm.enc)]]) h [] []:=by
 have:=JO (.mk o p l) s h k
 rw [Ah] at this;exact this
def Sm (o:Option (IV×Hp)):Bool:=match o with
 | some (.fv (.bool b),⟨_,[]⟩)=>b
 | _=>false
theorem Afe {o:Option (IV×Hp)} (h:Sm o=true):Bi o (.bool true):=by
 unfold Sm at h;split at h
 ·subst h;exact Ao _ _
 ·cases h
theorem Db (o1 n1 o2 n2:Int) (k1 k2:List FV) (s:Nat) (h:Hp) (k:IV→Hp→List Ref→List Ref→Option (IV×Hp)):AB (Aj EE 29 2 [(0,.fv (.agg [.int .i64 o1,.int .i64 n1,.sl k1])),(1,.fv (.agg [.int .i64 o2,.int .i64 n2,.sl k2]))]) s h k =
  k (.clip [.agg [.int .i64 o1,.int .i64 n1,.sl k1],.agg [.int .i64 o2,.int .i64 n2,.sl k2]]) h [] []:=Cy Vy tTm (by decide) (cells:=[.int .i64 o1,.int .i64 n1,.sl k1,.int .i64 o2,.int .i64 n2,.sl k2]) rfl k
theorem KN (o1 n1 o2 n2 o3 n3:Int) (k1 k2 k3:List FV) (s:Nat) (h:Hp) (k:IV→Hp→List Ref→List Ref→Option (IV×Hp)):AB (Aj EE 29 3 [(0,.fv (.agg [.int .i64 o1,.int .i64 n1,.sl k1])),(1,.fv (.agg [.int .i64 o2,.int .i64 n2,.sl k2])),(2,.fv (.agg [.int .i64 o3,.int .i64 n3,.sl k3]))]) s h k =
  k (.clip [.agg [.int .i64 o1,.int .i64 n1,.sl k1],.agg [.int .i64 o2,.int .i64 n2,.sl k2],.agg [.int .i64 o3,.int .i64 n3,.sl k3]]) h [] []:=Cy Vy tTm (by decide) (cells:=[.int .i64 o1,.int .i64 n1,.sl k1,.int .i64 o2,.int .i64 n2,.sl k2,.int .i64 o3,.int .i64 n3,.sl k3]) rfl k
theorem AsO (o1 n1 o2 n2 o3 n3 o4 n4:Int) (k1 k2 k3 k4:List FV) (s:Nat) (h:Hp) (k:IV→Hp→List Ref→List Ref→Option (IV×Hp)):AB (Aj EE 29 4 [(0,.fv (.agg [.int .i64 o1,.int .i64 n1,.sl k1])),(1,.fv (.agg [.int .i64 o2,.int .i64 n2,.sl k2])),(2,.fv (.agg [.int .i64 o3,.int .i64 n3,.sl k3])),(3,.fv (.agg [.int .i64 o4,.int .i64 n4,.sl k4]))]) s h k =
  k (.clip [.agg [.int .i64 o1,.int .i64 n1,.sl k1],.agg [.int .i64 o2,.int .i64 n2,.sl k2],.agg [.int .i64 o3,.int .i64 n3,.sl k3],.agg [.int .i64 o4,.int .i64 n4,.sl k4]]) h [] []:=Cy Vy tTm (by decide) (cells:=[.int .i64 o1,.int .i64 n1,.sl k1,.int .i64 o2,.int .i64 n2,.sl k2,.int .i64 o3,.int .i64 n3,.sl k3,.int .i64 o4,.int .i64 n4,.sl k4]) rfl k
theorem Fb (o1 n1:Int) (k1:List FV) (s:Nat) (h:Hp) (k:IV→Hp→List Ref→List Ref→Option (IV×Hp)):AB (Aj EE 29 1 [(0,.fv (.agg [.int .i64 o1,.int .i64 n1,.sl k1]))]) s h k =
  k (.clip [.agg [.int .i64 o1,.int .i64 n1,.sl k1]]) h [] []:=Cy Vy tTm (by decide) (cells:=[.int .i64 o1,.int .i64 n1,.sl k1]) rfl k
def AeE (r:Option (IV×Hp)) (v:FV):Prop:=∃own,r=some (.fv v,⟨own,[]⟩)
theorem JQ {v:FV} {own:List (Nat×Blk)}:AeE (some (.fv v,⟨own,[]⟩)) v:=⟨own,rfl⟩
def HI:Nat→Tm
 | 0=>.mk 11 0 []
 | n+1=>.mk 12 0 [HI n]
theorem AiA {g:FuncId} (h:EE.pol.inl g=false) (h1:EE.pol.keep g=[]) (h2:EE.pol.split g=false) (h3:EE.pol.raw g=false) (ih:Aa) (xs:List IV) (h0:Hp) (k:IV→Hp→List Ref→List Ref→Option (IV×Hp)) :
  D6 EE ih (.fv (.func (.func g) [] [])) xs h0 k=Al [] false false ih g xs h0 k:=by
 unfold D6;simp only [callee,h,cond_false,AjX,h1,h2,h3,AwQ,List.nil_append,List.append_nil]
theorem Ap9 {n:Nat} (k:Nat) (hn:k+3<n) (hk:k≤1000000):Bi (SS dt n 29 [iv k] ⟨[],[]⟩) (HI k).enc:=by
 obtain ⟨n,rfl⟩:∃j,n=j+1:=⟨n - 1,by omega⟩;rw [c29];have h0:=Ec (n:=n) (by omega) 11;rw [Ah] at h0;simp only [Ry,Se,RC,S29,↓XX,XY,↓reduceIte,Nat.reduceBEq,Nat.reduceAdd,Int.reduceEq,Int.reduceLT,Int.reduceLE,↓Ag h0];refine A6 (Q:=fun r=>Bi r _) (fun j V H=>∃(i:Nat),i+j=k∧V=[iv k,.ptr (.own 30408704) 0,.ptr (.own 30409729) 0,iv i] ∧
   H=⟨[(30408704,.row [iv 0,iv 0,.nils] false),(30409729,.row [iv (HI i).op,iv (HI i).n,.fv (.sl ((HI i).kids.map Tm.enc))] false)],[]⟩) ?_ n k _ _ (by omega) ⟨0,by omega,rfl,rfl⟩
 rintro j V H rec ⟨i,hi,rfl,rfl⟩ hrec;cases j with
 | zero =>
  have:i=k:=by omega
  subst this;have hno:¬ ((i:Int)<i):=by omega
  generalize HI i=t;obtain ⟨o,p,l⟩:=t;rw [Ah];simp only [Ry,Se,RC,WQ,S29,↓XX,XY,↓reduceIte,Nat.reduceBEq,Nat.reduceAdd,Int.reduceEq,Int.reduceLT,Int.reduceLE,hno,Tm.op,Tm.n,Tm.kids];exact Ao _ _
 | succ j =>
  have hlt:(i:Int)<k:=by omega
  have hw:BH ((i:Int)+1)=((i+1:Nat):Int):=(Au (by omega) (by omega)).trans (by simp);have ht:=CX (n:=n) (by omega) 12 [HI i];have h9:=hrec j ([iv k,.ptr (.own 30408704) 0,.ptr (.own 30409729) 0,iv (i+1:Nat)]) (⟨[(30408704,.row [iv 0,iv 0,.nils] false),(30409729,.row [iv 12,iv 0,.fv (.sl ([HI i].map Tm.enc))] false)],[]⟩) (by omega) ⟨i+1,by omega,rfl,rfl⟩;generalize HI i=t at *;obtain ⟨o,p,l⟩:=t;simp only [AwR,AwQ,Ah] at ht h9;simp only [Ry,Se,RC,WQ,S29,↓XX,XY,↓reduceIte,Nat.reduceBEq,Nat.reduceAdd,Int.reduceEq,Int.reduceLT,Int.reduceLE,hlt,Tm.op,Tm.n,Tm.kids,↓AkP,↓Ag ht,hw];exact h9
theorem AfD:∀(n:Nat) (t:Tm),t.wt<n→t.wt≤1152921504606846976→Bi (SS dt n 18 [.fv t.enc] ⟨[],[]⟩) (.int .i64 t.wt):=by
 intro n
 induction n with
 | zero=>intro t h;omega
 | succ n ih =>
  intro t h hw;obtain ⟨op,m,ks⟩:=t;simp only [Tm.wt] at h hw ⊢;rw [c18,Ah];have hlen:=C9 ks;simp only [RI,RS,Su,S18,↓XX,XY,↓reduceIte,Nat.reduceBEq,Nat.reduceAdd,Int.reduceEq,Int.reduceLT,Int.reduceLE];refine A6 (Q:=fun r=>Bi r _) (fun k V H=>∃(pre rest:List Tm) (acc:Nat),ks=pre++rest∧rest.length=k∧V=[.ptr (.own 18874368) 0,iv acc,iv pre.length]∧H=⟨[(18874368,.row [iv op,iv m,.fv (.sl (ks.map Tm.enc))] false)],[]⟩∧acc+Tm.wtL rest=1+Tm.wtL ks)
   ?_ n ks.length _ _ (by omega) ⟨[],ks,1,rfl,rfl,rfl,rfl,rfl⟩
  rintro k V H rec ⟨pre,rest,acc,hk,hl,rfl,rfl,ht⟩ hrec;have hkl:ks.length=pre.length+rest.length:=by rw [hk];simp
  cases rest with
  | nil =>
   have hno:¬ ((pre.length:Int)<ks.length):=by rw [hkl];simp
   simp only [Tm.wtL] at ht;rw [← ht];simp only [RI,RS,Su,Wt,S18,↓XX,XY,↓reduceIte,Nat.reduceBEq,Nat.reduceAdd,Int.reduceEq,Int.reduceLT,Int.reduceLE,hno];exact Ao _ _
  | cons t rest =>
   have hi:(pre.length:Int)<ks.length:=by rw [hkl];simp;omega
   have hg:=Cc hk;have htw:=BN (t:=t) (l:=ks) (by rw [hk];simp);have hs:=ih t (by omega) (by omega);simp only [Tm.wtL] at ht;have hwi:BH ((pre.length:Int)+1)=((pre++[t]).length:Int):=(Au (by omega) (by omega)).trans (by simp);have hwa:BH ((acc:Int)+(t.wt:Int))=((acc+t.wt:Nat):Int):=(Au (by omega) (by omega)).trans (by simp);have h9:=hrec rest.length ([.ptr (.own 18874368) 0,iv (acc+t.wt:Nat),iv (pre++[t]).length]) _ (by simp only [AwP] at hl;omega) ⟨pre++[t],rest,acc+t.wt,by rw [hk];simp,rfl,rfl,rfl,by omega⟩;generalize t.wt=v at hs hwa h9;obtain ⟨o,p,l⟩:=t;rw [Ah] at hs;simp only [RI,RS,Su,Wt,S18,↓XX,XY,↓reduceIte,Nat.reduceBEq,Nat.reduceAdd,Int.reduceEq,Int.reduceLT,Int.reduceLE,hi,↓Bp (AN hg) (A9 _ _ _),↓Ca,↓Aq hs,hwi,hwa];exact h9
theorem UF (n:Nat):Sm (SS dt (n+100) 10 [] ⟨[],[]⟩)=true:=by kernel_rfl
theorem Om {n:Nat} (h:100≤n):Bi (SS dt n 10 [] ⟨[],[]⟩) (.bool true):=by
 obtain ⟨k,rfl⟩:∃k,n=k+100:=⟨n - 100,by omega⟩;exact Afe (UF k)
theorem Ahe (a b:Bool) (k:IV→Option (IV×Hp)):A5 EE 4 (.fv (.bool a)) (.fv (.bool b)) k=k (.fv (.bool (a == b))):=Amj a b (by kernel_rfl) k
section
variable {β:Type} {E:Env}
def ApB (cs:List IV) (k:List FV→Option β):Option β:=(Dd cs).bind k
theorem Akl {t e:TypeId} {a b:Nat} {ei:TI} {z:List IV} (hT:E.T t=some ⟨a,b,.slice e,z⟩) (he:E.T e=some ei) (hs:ei.size=1) (hz:∃x,ei.zero=[x]) (r s:Nat) (own:List (Nat×Blk)) (ext:List Blk)
  (hc:∀cells ro,Ap r own=some (.row cells ro)→cells.length≤100) (hk:∀cells ro,Ap r own=some (.row cells ro)→∃fc,Dd cells=some fc) (k:IV→Hp→List Ref→List Ref→Option β) :
  AB (Aj E t 1 [(0,.ptr (.own r) 0)]) s ⟨own,ext⟩ k=Fj own r fun bl=>D4 bl fun cells=>ApB cells fun fc=>A1 own r (.row cells true) fun own=>k (.clip [.fp fc 0]) ⟨own,ext⟩ [.own r] [.own r]:=by
 obtain ⟨x,hx⟩:=hz;have hm:Aj E t 1 [(0,.ptr (.own r) 0)]=(frzL (65534+1+1) [.ptr (.own r) 0]).bind fun (vs,u)=>.ret { eff:={ val:=.clip (BW ei.size 1 vs),upd:=u } }:=by
  have h1:¬ (ei.size=0∨1 * ei.size > 65536):=by rw [hs];omega
  have h2:CD (fun j=>some (j * ei.size,ei.size)) (P3 1 ei.zero) [(0,.ptr (.own r) 0)]=some [.ptr (.own r) 0]:=by
   rw [hx,hs];rfl
  simp only [Aj,hT,he,if_neg h1,h2]
 rw [hm,Bl];unfold AB;cases hl:Ap r own with
 | none =>
  have:((frzL (65534+1+1) [.ptr (.own r) 0]).bind fun (vs,u)=>Rd.ret ({ eff:={ val:=.clip (BW ei.size 1 vs),upd:=u } }:Made)).runLog ⟨own,ext⟩ []=none:=by
   simp only [frzL,C1,Rd.bind,Rd.runLog,Hp.get,hl]
  rw [this];rfl
 | some bl =>
  cases bl with
  | row cells ro =>
   obtain ⟨fc,hfc⟩:=hk cells ro hl;have hlen:=hc cells ro hl;have h3:frzL 65534 cells=.ret (fc,[]):=AbB cells 65534 (by omega) hfc
   have:((frzL (65534+1+1) [.ptr (.own r) 0]).bind fun (vs,u)=>Rd.ret ({ eff:={ val:=.clip (BW ei.size 1 vs),upd:=u } }:Made)).runLog ⟨own,ext⟩ [] =
     some ({ eff:={ val:=.clip (BW ei.size 1 [.fp fc 0]),upd:=[(.own r,.row cells true)] } },[.own r]):=by
    simp only [frzL,C1,Rd.bind,Rd.runLog,Hp.get,hl,h3,List.append_nil]
   rw [this];simp only [Option.bind_some,D4,ApB,hfc,hs]
   show (fRf (.own r) fun q=>C6 q ⟨own,ext⟩ fun _=>fBk (.row cells true) fun b=>Ga q b ⟨own,ext⟩ fun h=>JK none s h fun h=>fV 3 (.clip [.fp fc 0]) fun v=>k v h [.own r] ([.own r]++[]))=_
   simp only [Pp,C4,CC,JK,Ga,C6];rw [Bl,hl];rfl
  | tok n sz =>
   have:((frzL (65534+1+1) [.ptr (.own r) 0]).bind fun (vs,u)=>Rd.ret ({ eff:={ val:=.clip (BW ei.size 1 vs),upd:=u } }:Made)).runLog ⟨own,ext⟩ []=none:=by
    simp only [frzL,C1,Rd.bind,Rd.runLog,Hp.get,hl]
   rw [this];rfl
  | map es =>
   have:((frzL (65534+1+1) [.ptr (.own r) 0]).bind fun (vs,u)=>Rd.ret ({ eff:={ val:=.clip (BW ei.size 1 vs),upd:=u } }:Made)).runLog ⟨own,ext⟩ []=none:=by
    simp only [frzL,C1,Rd.bind,Rd.runLog,Hp.get,hl]
   rw [this];rfl
theorem AsF {t e:TypeId} {a b:Nat} {ei:TI} {z:List IV} (hT:E.T t=some ⟨a,b,.slice e,z⟩) (he:E.T e=some ei) (hs:ei.size=1) (hz:∃x,ei.zero=[x]) {r:Nat} {own own':List (Nat×Blk)} {cells:List IV} {ro:Bool} {fc:List FV}
  (hl:Ap r own=some (.row cells ro)) (hf:Dd cells=some fc) (hn:cells.length≤100) (ho:AM r (.row cells true) own=own') (s:Nat) (ext:List Blk) (k:IV→Hp→List Ref→List Ref→Option β) :
  AB (Aj E t 1 [(0,.ptr (.own r) 0)]) s ⟨own,ext⟩ k=k (.clip [.fp fc 0]) ⟨own',ext⟩ [.own r] [.own r]:=by
 have h1:∀cells' ro',Ap r own=some (.row cells' ro')→cells'=cells:=fun c r h=>by rw [hl] at h;cases h;rfl
 rw [Akl hT he hs hz r s own ext (fun c r h=>by rw [h1 c r h];exact hn) (fun c r h=>by rw [h1 c r h];exact ⟨fc,hf⟩),Bl,hl];simp only [Option.bind_some,D4,ApB,hf,Bu,ho]
def Bv (r:Option (IV×Hp)) (w:FV) (ext:List Blk):Prop:=∃v own,r=some (v,⟨own,ext⟩) ∧
 ∃u lg,∀(e:Option (IV×Hp)) (K:FV→List (Ref×Blk)→List Ref→Option (IV×Hp)),Df 12 v ⟨own,ext⟩ [] e K=K w u lg
theorem AK (w:FV) (own:List (Nat×Blk)) (ext:List Blk):Bv (some (.fv w,⟨own,ext⟩)) w ext:=⟨_,own,rfl,[],[],fun _ _=>rfl⟩
theorem E6 {v:IV} {w:FV} (hz:A8 v=some w) (own:List (Nat×Blk)) (ext:List Blk):Bv (some (v,⟨own,ext⟩)) w ext:=⟨_,own,rfl,[],[],fun e K=>Jw _ _ e K hz⟩
theorem MR:∀l:List FV,CF (l.map .fv) []=[]
 | []=>rfl
 | v::l=>by
  show VA (.fv v) (CF (l.map .fv) [])=[]
  rw [MR l];rfl
theorem AsN (n j:Nat) (t:List Ref) (s:Nat) (rest:List Blk):PZ (n+1) (.ext j::t) s rest=cond (Nat.ble (Nat.succ j) s) (PZ n t s rest) (cond (Nat.beq j s) (goR (PZ n) t s rest) false):=rfl
theorem ArL (n s:Nat):PZ (n+1) [] s []=true:=rfl
set_option maxRecDepth 20000 in
theorem Abg (st:List FV):PZ 400 [.ext 0] 0 [.row (st.map .fv) false]=true:=by
 rw [show (400:Nat)=398+1+1 from rfl,AsN]
 show goR (PZ (398+1)) [] 0 [.row (st.map .fv) false]=true
 show PZ (398+1) ([]++Fa (.row (st.map .fv) false)) 1 []=true
 rw [show Fa (.row (st.map .fv) false)=CF (st.map .fv) [] from rfl,MR]
 exact ArL 398 1
theorem Yl (st:List FV):okB 1 [.row (st.map .fv) false]=true:=by
 show cond (okR 1 (Fa (.row (st.map .fv) false))) true false=true
 rw [show Fa (.row (st.map .fv) false)=CF (st.map .fv) [] from rfl,MR]
 rfl
theorem gb3 (a b c:FV):PZ 400 [.ext 0] 0 [.row [.fv a,.fv b,.fv c] false]=true:=Abg [a,b,c]
theorem ob3 (a b c:FV):okB 1 [.row [.fv a,.fv b,.fv c] false]=true:=Yl [a,b,c]
theorem gb2 (a b:FV):PZ 400 [.ext 0] 0 [.row [.fv a,.fv b] false]=true:=Abg [a,b]
theorem ob2 (a b:FV):okB 1 [.row [.fv a,.fv b] false]=true:=Yl [a,b]
theorem VU {r1:Ref} {rs1:List Ref} {ih:Aa} {f:FuncId} {vs:List IV} {w:FV} {ext ext':List Blk} (hr:Bv (ih f vs ⟨[],ext⟩) w ext') (hg:PZ 400 (r1::rs1) 0 ext=true) (hl:ext'.length=ext.length) (ho:okB ext.length ext'=true)
  (own:List (Nat×Blk)) (r0:Option (IV×Hp)) (u:List (Ref×Blk)) (lg:List Ref) (e:Option (IV×Hp)) (k:IV→Hp→List Ref→List Ref→Option (IV×Hp)) :
  Ut (
     r1::rs1) r0 ⟨own,ext⟩ u lg e (fun rs=>match rs with
   | []=>none
   | r::rs=>(match (⟨own,ext⟩:Hp) with
    | ⟨own,ext⟩=>cond (PZ 400 (r::rs) 0 ext) (match ih f vs ⟨[],ext⟩ with
     | none=>none
     | some p=>match p with
      | (v,h')=>match h' with
       | ⟨own',ext'⟩=>cond (and (Nat.beq ext'.length ext.length) (okB ext.length ext'))
        (Df 12 v ⟨own',ext'⟩ [] e fun w _ _=>MZ u ⟨own,ext'⟩ fun h2=>k (.fv w) h2 ((CP ext.length).reverse++lg) (Bs u++CP ext.length)) none)
     e)) k=MZ u ⟨own,ext'⟩ fun h2=>k (.fv w) h2 ((CP ext.length).reverse++lg) (Bs u++CP ext.length):=by
 obtain ⟨v,own',e1,u',lg',hz⟩:=hr;simp only [Ut,hg,e1,hl,ho];rw [show (Nat.beq ext.length ext.length && true)=true by rw [Bool.and_true];exact Nat.beq_refl _,cond_true,hz]
 rfl
structure OneX (ext ext':List Blk):Prop where
 g:PZ 400 [.ext 0] 0 ext=true
 l:ext.length=1
 l':ext'.length=1
 o:okB 1 ext'=true
theorem Cp (a b c a' b' c':FV):OneX [.row [.fv a,.fv b,.fv c] false] [.row [.fv a',.fv b',.fv c'] false]:=⟨gb3 ..,rfl,rfl,ob3 ..⟩
theorem Ark (a b a' b':FV):OneX [.row [.fv a,.fv b] false] [.row [.fv a',.fv b'] false]:=⟨gb2 ..,rfl,rfl,ob2 ..⟩
theorem UP (x:Nat):∀(args:List IV) {vs:List FV} (h:Hp) (lg:List Ref) (e:Option β) (k:List IV→List Ref→List (Ref×Blk)→List Ref→Option β) (ks:List Bool),(∀b∈ks,b=false)→Bx args=some vs →
  Vc args ks h lg e k=k (vs.map .fv) [] [] lg
 | [],vs,h,lg,e,k,ks,_,hz=>by cases hz;rfl
 | v::l,vs,h,lg,e,k,[],_,hz=>Aje (v::l) h lg e k hz
 | v::l,vs,h,lg,e,k,b::ks,hk,hz=>by
  have hb:=hk b List.mem_cons_self;subst hb;simp only [Bx] at hz;cases h1:A8 v with
  | none=>rw [h1] at hz;cases hz
  | some x' =>
   rw [h1] at hz;cases h2:Bx l with
   | none=>rw [h2] at hz;cases hz
   | some ys =>
    rw [h2] at hz;cases hz;rw [Xt,Jw h lg e _ h1,UP x l h lg e _ ks (fun c hc=>hk c (List.mem_cons_of_mem _ hc)) h2];rfl
theorem AgK {ks:List Bool} (hks:∀b∈ks,b=false) {ih:Aa} {f:FuncId} {args:List IV} {vs:List FV} {w:FV} {ext ext':List Blk} (hz:Bx args=some vs) (X:OneX ext ext') (hr:Bv (ih f (.ptr (.ext 0) 0::vs.map .fv) ⟨[],ext⟩) w ext')
  (own:List (Nat×Blk)) (k:IV→Hp→List Ref→List Ref→Option (IV×Hp)):Al (true::ks) false false ih f (.ptr (.ext 0) 0::args) ⟨own,ext⟩ k=k (.fv w) ⟨own,ext'⟩ [.ext 0] [.ext 0]:=by
 rw [OX,AfG,Wj,UP 0 args _ _ _ _ ks hks hz]
 have:=VU (r1:=.ext 0) (rs1:=[]) hr X.g (by rw [X.l,X.l']) (by rw [X.l];exact X.o) own (ih f (.ptr (.ext 0) 0::vs.map .fv) ⟨[],[]⟩) [] [] (GJ (true::ks) false false ih f (.ptr (.ext 0) 0::args) ⟨own,ext⟩ k) k
 refine this.trans ?_;rw [X.l];rfl
theorem D1 {ih:Aa} {f:FuncId} {w:FV} {ext ext':List Blk} (hr:Bv (ih f [.ptr (.ext 0) 0] ⟨[],ext⟩) w ext') (X:OneX ext ext') (own:List (Nat×Blk)) (k:IV→Hp→List Ref→List Ref→Option (IV×Hp)) :
  Al [true] false false ih f [.ptr (.ext 0) 0] ⟨own,ext⟩ k=k (.fv w) ⟨own,ext'⟩ [.ext 0] [.ext 0]:=AgK (ks:=[]) (by simp) (vs:=[]) rfl X hr own k
theorem J0 {ih:Aa} {f:FuncId} {a b:IV} {x y w:FV} {ext ext':List Blk} (hr:Bv (ih f [.ptr (.ext 0) 0,.fv x,.fv y] ⟨[],ext⟩) w ext') (X:OneX ext ext') (ha:A8 a=some x) (hb:A8 b=some y) (own:List (Nat×Blk))
  (k:IV→Hp→List Ref→List Ref→Option (IV×Hp)):Al [true,false,false] false false ih f [.ptr (.ext 0) 0,a,b] ⟨own,ext⟩ k=k (.fv w) ⟨own,ext'⟩ [.ext 0] [.ext 0]:=AgK (ks:=[false,false]) (by simp) (Xl ha hb) X hr own k
theorem Af3 {ih:Aa} {f:FuncId} {a b c:IV} {x y z w:FV} {ext ext':List Blk} (hr:Bv (ih f [.ptr (.ext 0) 0,.fv x,.fv y,.fv z] ⟨[],ext⟩) w ext') (X:OneX ext ext') (ha:A8 a=some x) (hb:A8 b=some y) (hc:A8 c=some z)
  (own:List (Nat×Blk)) (k:IV→Hp→List Ref→List Ref→Option (IV×Hp)):Al [true,false,false,false] false false ih f [.ptr (.ext 0) 0,a,b,c] ⟨own,ext⟩ k=k (.fv w) ⟨own,ext'⟩ [.ext 0] [.ext 0] :=
 AgK (ks:=[false,false,false]) (by simp) (AeV ha hb hc) X hr own k
theorem S5 {ih:Aa} {f:FuncId} {s:Nat} {own:List (Nat×Blk)} {cells:List IV} {ro:Bool} {fc:List FV} {w:FV} {ext ext':List Blk} (hr:Bv (ih f [.ptr (.ext 0) 0,.fv (.fp fc 0)] ⟨[],ext⟩) w ext') (X:OneX ext ext')
  (hl:Ap s own=some (.row cells ro)) (hz:Dd cells=some fc) (hn:cells.length≤300) (k:IV→Hp→List Ref→List Ref→Option (IV×Hp)) :
  Al [true,false] false false ih f [.ptr (.ext 0) 0,.ptr (.own s) 0] ⟨own,ext⟩ k=k (.fv w) ⟨AM s (.row cells true) own,ext'⟩ [.ext 0,.own s] [.own s,.ext 0]:=by
 rw [OX,AfG,Wj,Xt,Xs,L0,Bl,hl];simp only [Option.bind_some,HH];rw [Bb,decide_eq_true hn,c_t,AbS 10 _ _ _ cells _ hz,fz0]
 have:=VU (r1:=.ext 0) (rs1:=[]) hr X.g (by rw [X.l,X.l']) (by rw [X.l];exact X.o) own (ih f [.ptr (.ext 0) 0,.fv (.fp fc 0)] ⟨[],[]⟩) [(.own s,.row cells true)] [.own s] (GJ [true,false] false false ih f [.ptr (.ext 0) 0,.ptr (.own s) 0] ⟨own,ext⟩ k) k
 refine this.trans ?_;rw [X.l]
 show (Fj own s fun _=>A1 own s (.row cells true) fun own=>k (.fv w) ⟨own,ext'⟩ [.ext 0,.own s] [.own s,.ext 0])=_
 rw [Bl,hl,Option.bind_some,Bu]
end
end Idl
end Go.Proofs.Ytaifgaidaglblaa
namespace Go.Proofs.Ytaifgaidaglblaa
namespace Idl
inductive RV where
 | mk (op n:Int) (k env:List RV) (b:Tm)
def Tm.z:Tm:=.mk 0 0 []
def RV.enc:RV→FV
 | .mk op n k env (.mk bo bn bk)=>.fp [.int .i64 op,.int .i64 n,.sl (encL k),.sl (encL env),.int .i64 bo,.int .i64 bn,.sl (bk.map Tm.enc)] 0
where
 encL:List RV→List FV
  | []=>[]
  | v::l=>v.enc::encL l
theorem Afp (l:List RV):RV.enc.encL l=l.map RV.enc:=by
 induction l with
 | nil=>rfl
 | cons t l ih=>simp [RV.enc.encL,ih]
theorem Ix (op n:Int) (k env:List RV) (bo bn:Int) (bk:List Tm):(RV.mk op n k env (.mk bo bn bk)).enc =
  .fp [.int .i64 op,.int .i64 n,.sl (k.map RV.enc),.sl (env.map RV.enc),.int .i64 bo,.int .i64 bn,.sl (bk.map Tm.enc)] 0:=by simp only [RV.enc,Afp]
def RV.op:RV→Int
 | .mk op _ _ _ _=>op
def RV.n:RV→Int
 | .mk _ n _ _ _=>n
def RV.k:RV→List RV
 | .mk _ _ k _ _=>k
def RV.env:RV→List RV
 | .mk _ _ _ env _=>env
def RV.b:RV→Tm
 | .mk _ _ _ _ b=>b
def RV.var (n:Int):RV:=.mk 1 n [] [] .z
def RV.clo (env:List RV) (b:Tm):RV:=.mk 0 0 [] env b
def RV.zero:RV:=.mk 11 0 [] [] .z
def RV.node (op n:Int) (k:List RV):RV:=.mk op n k [] .z
theorem NI (v:RV):v.enc=.fp [.int .i64 v.op,.int .i64 v.n,.sl (v.k.map RV.enc),.sl (v.env.map RV.enc),.int .i64 v.b.op,.int .i64 v.b.n,.sl (v.b.kids.map Tm.enc)] 0:=by
 obtain ⟨op,n,k,env,⟨bo,bn,bk⟩⟩:=v;exact Ix ..
theorem WB (t:Tm):Tm.enc t=.agg [.int .i64 t.op,.int .i64 t.n,.sl (t.kids.map Tm.enc)]:=by cases t;exact Ah ..
theorem On (v:RV):v.enc.cells.length=1:=by obtain ⟨op,n,k,env,⟨bo,bn,bk⟩⟩:=v;rfl
theorem VN (v:RV):v.enc.cells.all FV.one=true:=by obtain ⟨op,n,k,env,⟨bo,bn,bk⟩⟩:=v;rfl
theorem AeS (v:RV):v.enc.cells=[v.enc]:=by obtain ⟨op,n,k,env,⟨bo,bn,bk⟩⟩:=v;rfl
theorem tVs:EE.T 87=some ⟨1,24,.slice 73,[.nils]⟩:=by kernel_rfl
theorem tVp:EE.T 73=some ⟨1,8,.ptr,[.fv .nilp]⟩:=by kernel_rfl
theorem sV:SliceT EE 87 1:=⟨_,_,_,_,_,tVs,tVp,rfl,by decide,by decide⟩
theorem J5 (l:List RV):BI 1 (l.map RV.enc)=true:=by
 cases l with
 | nil=>rfl
 | cons a l=>simp only [AwR,BI,On,beq_self_eq_true]
theorem Amf (s:Nat) (h:Hp) (k:IV→Hp→List Ref→List Ref→Option (IV×Hp)):AB (Aj EE 87 0 []) s h k=k (.clip []) h [] [] :=
 Cy tVs tVp (by decide) (cells:=[]) rfl k
theorem Vn (a:RV) (s:Nat) (h:Hp) (k:IV→Hp→List Ref→List Ref→Option (IV×Hp)):AB (Aj EE 87 1 [(0,.fv a.enc)]) s h k=k (.clip [a.enc]) h [] []:=by
 obtain ⟨op,n,kk,env,⟨bo,bn,bk⟩⟩:=a;rw [Ix];exact Cy tVs tVp (by decide) (cells:=[.fp [.int .i64 op,.int .i64 n,.sl (kk.map RV.enc),.sl (env.map RV.enc),.int .i64 bo,.int .i64 bn,.sl (bk.map Tm.enc)] 0]) rfl k
theorem ArO (a b:RV) (s:Nat) (h:Hp) (k:IV→Hp→List Ref→List Ref→Option (IV×Hp)):AB (Aj EE 87 2 [(0,.fv a.enc),(1,.fv b.enc)]) s h k=k (.clip [a.enc,b.enc]) h [] []:=by
 obtain ⟨op,n,kk,env,⟨bo,bn,bk⟩⟩:=a;obtain ⟨op',n',kk',env',⟨bo',bn',bk'⟩⟩:=b;rw [Ix,Ix];exact Cy tVs tVp (by decide) (cells:=[.fp [.int .i64 op,.int .i64 n,.sl (kk.map RV.enc),.sl (env.map RV.enc),.int .i64 bo,.int .i64 bn,.sl (bk.map Tm.enc)] 0,.fp [.int .i64 op',.int .i64 n',.sl (kk'.map RV.enc),.sl (env'.map RV.enc),.int .i64 bo',.int .i64 bn',.sl (bk'.map Tm.enc)] 0]) rfl k
theorem AsB (a b c d:RV) (s:Nat) (h:Hp) (k:IV→Hp→List Ref→List Ref→Option (IV×Hp)):AB (Aj EE 87 4 [(0,.fv a.enc),(1,.fv b.enc),(2,.fv c.enc),(3,.fv d.enc)]) s h k =
  k (.clip [a.enc,b.enc,c.enc,d.enc]) h [] []:=by
 have key:∀x:RV,∃l,x.enc=.fp l 0:=fun x=>⟨_,NI x⟩;obtain ⟨la,ha⟩:=key a;obtain ⟨lb,hb⟩:=key b;obtain ⟨lc,hc⟩:=key c;obtain ⟨ld,hd⟩:=key d;rw [ha,hb,hc,hd];exact Cy tVs tVp (by decide) (cells:=[.fp la 0,.fp lb 0,.fp lc 0,.fp ld 0]) rfl k
theorem Ajo (e:RV) (s:Nat) (own:List (Nat×Blk)) (ext:List Blk) (k:IV→Hp→List Ref→List Ref→Option (IV×Hp)) :
  AB (AY EE s false .append [87,87] [.nils,.clip [e.enc]]) s ⟨own,ext⟩ k=CO own s (A1 own s (.tok 1 1) fun own=>k (.app (.own s) [e.enc]) ⟨own,ext⟩ [] [.own s]) :=
 Nh sV (.clip _) (J5 [e]) rfl (by simp) (.inl rfl) s own ext k
theorem XF {es:List RV} (hb:es.length+1≤1000000) (e:RV) (r s:Nat) (own:List (Nat×Blk)) (ext:List Blk) (k:IV→Hp→List Ref→List Ref→Option (IV×Hp)) :
  AB (AY EE s false .append [87,87] [.app (.own r) (es.map RV.enc),.clip [e.enc]]) s ⟨own,ext⟩ k =
   Fj own r fun b=>Ai1 b es.length 1 (A1 own r (.tok (es.length+1) 1) fun own=>k (.app (.own r) ((es++[e]).map RV.enc)) ⟨own,ext⟩ [.own r] [.own r]):=by
 rw [UO sV (.clip [e.enc]) (J5 [e]) (J5 es) (by simp [VN]) (by simpa using hb) r s own ext k];simp only [List.length_map,List.map_append,AwR,AwQ,AwP,List.length_nil,Nat.zero_add]
theorem Uk {n:Nat} (hn:0<n) (env vs:List RV) (hv:vs≠[]) (hb:env.length+vs.length≤1000000):Bi (SS dt n 58 [.fv (.sl (env.map RV.enc)),.fv (.sl (vs.map RV.enc))] ⟨[],[]⟩) (.sl ((env++vs).map RV.enc)):=by
 obtain ⟨n,rfl⟩:∃k,n=k+1:=⟨n - 1,by omega⟩;rw [c58];have hvs:(vs.map RV.enc).isEmpty=false:=by cases vs with
  | nil=>exact absurd rfl hv
  | cons _ _=>rfl
 cases env with
 | nil =>
  simp only [S58,↓XX,XY,↓reduceIte,Nat.reduceBEq,Nat.reduceAdd,Int.reduceEq,Int.reduceLT,Int.reduceLE,↓Amf,↓Al7 sV (.sl []) (.inr rfl),↓Nh sV (.sl (vs.map RV.enc)) (J5 vs) hvs (by simp;simp at hb;omega) (.inr rfl),List.nil_append];exact Bg rfl _
 | cons a env =>
  simp only [S58,↓XX,XY,↓reduceIte,Nat.reduceBEq,Nat.reduceAdd,Int.reduceEq,Int.reduceLT,Int.reduceLE,↓Amf];have h1:((a::env).map RV.enc).isEmpty=false:=rfl;have h0:=fun {β:Type}=>Nh (β:=β) sV (.sl ((a::env).map RV.enc)) (J5 (a::env)) h1 (by simp only [List.length_map];omega) (.inr rfl:IV.clip []=.nils∨IV.clip []=.clip []);have h2:=fun {β:Type}=>UO (β:=β) sV (.sl (vs.map RV.enc)) (J5 vs) (J5 (a::env)) (by simp [VN]) (by simp only [List.length_map];omega);simp only [AwR] at h0 h2;simp only [↓XX,XY,↓reduceIte,Nat.reduceBEq,Nat.reduceAdd,Int.reduceEq,Int.reduceLT,Int.reduceLE,↓h0,↓h2,↓HG,List.map_append,List.cons_append];exact Bg rfl _
theorem Ahq {n:Nat} (hn:0<n) (s nd:Int) (h1:s≤1000000) (h0:0≤s):Bv (SS dt n 70 [.ptr (.ext 0) 0] ⟨[],[.row [iv s,iv nd,iv 0] false]⟩) (.bool (decide (s+1≤1000)))
  [.row [iv (s+1),iv nd,iv (if s+1≤1000 then 0 else 17)] false]:=by
 obtain ⟨n,rfl⟩:∃k,n=k+1:=⟨n - 1,by omega⟩;rw [c70];have hw:BH (s+1)=s+1:=by rw [Au]<;>omega
 by_cases h:s+1≤1000
 ·have h':¬ 1000<s+1:=by omega
  simp only [Wf,WV,WN,Xq,S70,↓XX,XY,↓reduceIte,Nat.reduceBEq,Nat.reduceAdd,Int.reduceEq,Int.reduceLT,Int.reduceLE,hw,h,h'];exact AK _ _ _
 ·have h':1000<s+1:=by omega
  simp only [Wf,WV,WN,Xq,S70,↓XX,XY,↓reduceIte,Nat.reduceBEq,Nat.reduceAdd,Int.reduceEq,Int.reduceLT,Int.reduceLE,hw,h,h'];exact AK _ _ _
def AW (ev:Int→Int→Tm→Option (RV×Int×Int)) (op:Int) (env:List RV):Nat→List Tm→Int→Int→Option (List RV×Int×Int)
 | _,[],s,e=>some ([],s,e)
 | i,t::l,s,e=>if 0<Ae op i then (AW ev op env (i+1) l s e).map fun (vs,s,e)=>(.clo env t::vs,s,e) else
  match ev s e t with
  | none=>none
  | some (v,s,e)=>(AW ev op env (i+1) l s e).map fun (vs,s,e)=>(v::vs,s,e)
mutual
def Ay:Nat→Int→Int→Tm→List RV→Option (RV×Int×Int)
 | 0,_,_,_,_=>none
 | f+1,s,e,.mk op m ks,env =>
  if e≠0 then some (.zero,s,e) else if 900000<env.length then none else
  if op=1 then
   if m<env.length then (if 0≤m then (env[(env.length - 1 - m).toNat]?).map fun v=>(v,s,e) else none)
   else if m≤4611686018427387904 then some (.var (env.length - 1 - m),s,e) else none
  else if f≤ks.length then none else if 900000<ks.length then none else
  match AW (fun s e t=>Ay f s e t env) op env 0 ks s e with
  | none=>none
  | some (vs,s,e)=>headR f s e (.node op m vs)
def headR:Nat→Int→Int→RV→Option (RV×Int×Int)
 | 0,_,_,_=>none
 | f+1,s,e,v =>
  if e≠0 then some (v,s,e) else if s<0∨1000000<s then none else
  if v.op=5 then (match v.k[0]? with
   | none=>none
   | some k0=>if k0.op=4 then
     (if s+1≤1000 then (match k0.k[1]?,v.k[1]? with
      | some c,some x=>if 900000<c.env.length then none else Ay f (s+1) 0 c.b (c.env++[x])
      | _,_=>none) else some (v,s+1,17))
    else some (v,s,e))
  else if v.op=8∨v.op=9 then (match v.k[0]? with
   | none=>none
   | some k0=>if k0.op=7 then
     (if s+1≤1000 then (k0.k[(1+v.op - 8).toNat]?).map fun x=>(x,s+1,0) else some (v,s+1,17))
    else some (v,s,e))
  else if v.op=30 then (match v.k[0]? with
   | none=>none
   | some k0=>if k0.op=19 then
     (if s+1≤1000 then (k0.k[0]?).map fun x=>(x,s+1,0) else some (v,s+1,17))
    else some (v,s,e))
  else if v.op=19 then (match v.k[0]? with
   | none=>none
   | some k0=>if k0.op=30 then
     (if s+1≤1000 then (k0.k[0]?).map fun x=>(x,s+1,0) else some (v,s+1,17))
    else some (v,s,e))
  else if v.op=13 then (match v.k[0]?,v.k[1]?,v.k[2]?,v.k[3]? with
   | some k0,some k1,some k2,some k3 =>
    if k3.op=11 then (if s+1≤1000 then some (k1,s+1,0) else some (v,s+1,17))
    else if k3.op=12 then
     (if s+1≤1000 then (match k3.k[0]? with
      | none=>none
      | some x=>(match headR f (s+1) 0 (.node 13 0 [k0,k1,k2,x]) with
       | none=>none
       | some (h,s,e)=>if 900000<k2.env.length then none else Ay f s e k2.b (k2.env++[x,h])))
     else some (v,s+1,17))
    else some (v,s,e)
   | _,_,_,_=>none)
  else some (v,s,e)
end
theorem XC {β:Type} {l:List RV} {i:Nat} {v:RV} (h:l[i]?=some v) (k:IV→Option β):A7 1 (.fv (.sl (l.map RV.enc))) (iv i) k=k (.fv (.fp [v.enc] 0)):=by
 have h1:(l.map RV.enc)[i]?=some v.enc:=by rw [List.getElem?_map,h];rfl
 rw [Bp h1 (On v),AeS]
def RA (f:Nat):Prop:=∀(s e:Int) (t:Tm) (env:List RV) (v:RV) (s' e' nd:Int),Ay f s e t env=some (v,s',e')→∀n,f+1≤n →
 Bv (SS dt n 42 [.ptr (.ext 0) 0,.fv t.enc,.fv (.sl (env.map RV.enc))] ⟨[],[.row [iv s,iv nd,iv e] false]⟩) v.enc [.row [iv s',iv nd,iv e'] false]
def Tp (f:Nat):Prop:=∀(s e:Int) (v w:RV) (s' e' nd:Int),headR f s e v=some (w,s',e')→∀n,f+1≤n →
 Bv (SS dt n 59 [.ptr (.ext 0) 0,.fv v.enc] ⟨[],[.row [iv s,iv nd,iv e] false]⟩) w.enc [.row [iv s',iv nd,iv e'] false]
abbrev Aeo (op m:Int) (ks:List Tm) (K:IV) (tok:List (Nat×Blk)) (s nd e:Int):Hp :=
 ⟨(44040192,.row [iv op,iv m,.fv (.sl (ks.map Tm.enc))] false)::(44047365,.row [iv op,iv m,K,.nils,iv 0,iv 0,.nils] false)::tok,[.row [iv s,iv nd,iv e] false]⟩
theorem Asw {op m:Int} (l:List RV):(RV.node op m l).enc=.fp [.int .i64 op,.int .i64 m,.sl (l.map RV.enc),.sl [],.int .i64 0,.int .i64 0,.sl []] 0:=by rw [RV.node,Tm.z,Ix];rfl
theorem Afb {f:Nat} (he:RA f) (hh:Tp f):RA (f+1):=by
 intro s e t env v s' e' nd hev n hn;obtain ⟨n,rfl⟩:∃k,n=k+1:=⟨n - 1,by omega⟩;rw [c42];obtain ⟨op,m,ks⟩:=t;rw [Ah];rw [Ay] at hev;by_cases h0:e≠0
 ·rw [if_pos h0] at hev;simp only [AwL,AwM] at hev;obtain ⟨rfl,rfl,rfl⟩:=hev;simp only [Ij,IU,IK,I7,IG,I8,IW,I5,Jm,I2,IJ,Iq,IB,Ji,Jc,Jk,In,I6,It,IQ,Jn,ID,S42,↓XX,XY,↓reduceIte,Nat.reduceBEq,Nat.reduceAdd,Int.reduceEq,Int.reduceLT,Int.reduceLE,h0];exact ⟨_,_,rfl,_,_,fun _ _=>rfl⟩
 ·have h0':e=0:=by omega
  subst h0';rw [if_neg h0] at hev;by_cases hlen:900000<env.length
  ·rw [if_pos hlen] at hev;cases hev
  ·rw [if_neg hlen] at hev;by_cases h1:op=1
   ·rw [if_pos h1] at hev;subst h1;by_cases h2:m<env.length
    ·rw [if_pos h2] at hev;by_cases h3:0≤m
     ·rw [if_pos h3] at hev;cases hg:env[(env.length - 1 - m).toNat]? with
      | none=>rw [hg] at hev;cases hev
      | some u =>
       rw [hg] at hev;simp only [AwO,AwL,AwM] at hev;obtain ⟨rfl,rfl,rfl⟩:=hev;have e1:BH ((env.length:Int) - 1)=env.length - 1:=by rw [Au]<;>omega
       have e2:BH ((env.length:Int) - 1 - m)=(((env.length:Int) - 1 - m).toNat:Int):=by rw [Au]<;>omega
       simp only [Ij,IU,IK,I7,IG,I8,IW,I5,Jm,I2,IJ,Iq,IB,Ji,Jc,Jk,In,I6,It,IQ,Jn,ID,S42,↓XX,XY,↓reduceIte,Nat.reduceBEq,Nat.reduceAdd,Int.reduceEq,Int.reduceLT,Int.reduceLE,h2,e1,e2,↓XC hg];exact AK _ _ _
     ·rw [if_neg h3] at hev;cases hev
    ·rw [if_neg h2] at hev;by_cases h3:m≤4611686018427387904
     ·rw [if_pos h3] at hev;simp only [AwL,AwM] at hev;obtain ⟨rfl,rfl,rfl⟩:=hev;have e1:BH ((env.length:Int) - 1)=env.length - 1:=by rw [Au]<;>omega
      have e2:BH ((env.length:Int) - 1 - m)=(env.length:Int) - 1 - m:=by rw [Au]<;>omega
      simp only [Ij,IU,IK,I7,IG,I8,IW,I5,Jm,I2,IJ,Iq,IB,Ji,Jc,Jk,In,I6,It,IQ,Jn,ID,S42,↓XX,XY,↓reduceIte,Nat.reduceBEq,Nat.reduceAdd,Int.reduceEq,Int.reduceLT,Int.reduceLE,h2,e1,e2];exact ⟨_,_,rfl,_,_,fun _ _=>rfl⟩
     ·rw [if_neg h3] at hev;cases hev
   ·rw [if_neg h1] at hev;by_cases hf:f≤ks.length
    ·rw [if_pos hf] at hev;cases hev
    ·rw [if_neg hf] at hev;by_cases hk9:900000<ks.length
     ·rw [if_pos hk9] at hev;cases hev
     ·rw [if_neg hk9] at hev;cases hkg:AW (fun s e t=>Ay f s e t env) op env 0 ks s 0 with
      | none=>rw [hkg] at hev;cases hev
      | some q =>
      obtain ⟨vs,s1,e1⟩:=q;rw [hkg] at hev;simp only at hev;simp only [Ij,IU,IK,I7,IG,I8,IW,I5,Jm,I2,IJ,Iq,IB,Ji,Jc,Jk,In,I6,It,IQ,Jn,ID,S42,↓XX,XY,↓reduceIte,Nat.reduceBEq,Nat.reduceAdd,Int.reduceEq,Int.reduceLT,Int.reduceLE,h1,↓AD,XD,heldB,AL,XE];refine A6 (Q:=fun r=>Bv r _ _) (fun k V H=>∃pre rest done s2 e2 us s3 e3,ks=pre++rest∧rest.length=k∧done.length=pre.length∧V=[.ptr (.ext 0) 0,.fv (.sl (env.map RV.enc)),.ptr (.own 44040192) 0,.ptr (.own 44047365) 0,iv pre.length] ∧
       (
        (pre=[]∧H=Aeo op m ks .nils [] s2 nd e2) ∨
        (∃r,(r=44052494∨r=44053518)∧pre≠[]∧H=Aeo op m ks (.app (.own r) (done.map RV.enc)) [(r,.tok done.length 1)] s2 nd e2)) ∧
       AW (fun s e t=>Ay f s e t env) op env pre.length rest s2 e2=some (us,s3,e3)∧headR f s3 e3 (.node op m (done++us))=some (v,s',e'))
       ?_ n ks.length _ _ (by omega) ⟨[],ks,[],s,0,vs,s1,e1,rfl,rfl,rfl,rfl,.inl ⟨rfl,rfl⟩,hkg,hev⟩
      rintro k V H rec ⟨pre,rest,done,s2,e2,us,s3,e3,hk,hl,hdl,rfl,hH,hkids,hhead⟩ hrec;have hkl:ks.length=pre.length+rest.length:=by rw [hk];simp
      have zenc:∀l:List RV,(RV.node op m l).enc=.fp [.int .i64 op,.int .i64 m,.sl (l.map RV.enc),.sl [],.int .i64 0,.int .i64 0,.sl []] 0:=fun l=>Asw l;cases rest with
      | nil =>
       simp only [AW,AwL,AwM] at hkids;obtain ⟨rfl,rfl,rfl⟩:=hkids;rw [List.append_nil] at hhead;have hc:=hh s2 e2 _ v s' e' nd hhead n (by omega);rw [zenc] at hc;have hpre:ks=pre:=by simpa using hk
       subst hpre;rcases hH with ⟨rfl,rfl⟩ | ⟨r,hr,hne,rfl⟩
       ·have hd:done=[]:=List.length_eq_zero_iff.1 hdl;subst hd;have hcall:=fun k=>S5 (k:=k) (own:=[(44040192,.row [iv op,iv m,.fv (.sl (([]:List Tm).map Tm.enc))] false),(44047365,.row [iv op,iv m,.nils,.nils,iv 0,iv 0,.nils] false)])
         (cells:=[iv op,iv m,.nils,.nils,iv 0,iv 0,.nils]) (ro:=false) (s:=44047365) hc (Cp ..) (by simp [Ap]) rfl (by simp)
        simp only [↓UZ,↓XX,XY,↓reduceIte,Nat.reduceBEq,Nat.reduceAdd,Int.reduceEq,Int.reduceLT,Int.reduceLE,Int.lt_irrefl,↓hcall];exact AK _ _ _
       ·have hcall:=fun k=>S5 (k:=k) (own:=[(44040192,.row [iv op,iv m,.fv (.sl (ks.map Tm.enc))] false),(44047365,.row [iv op,iv m,.app (.own r) (done.map RV.enc),.nils,iv 0,iv 0,.nils] false),(r,.tok done.length 1)])
         (cells:=[iv op,iv m,.app (.own r) (done.map RV.enc),.nils,iv 0,iv 0,.nils]) (ro:=false) (s:=44047365) hc (Cp ..) (by simp [Ap]) rfl (by simp)
        simp only [↓UZ,↓XX,XY,↓reduceIte,Nat.reduceBEq,Nat.reduceAdd,Int.reduceEq,Int.reduceLT,Int.reduceLE,Int.lt_irrefl,↓hcall];exact AK _ _ _
      | cons t rest =>
       have hi:(pre.length:Int)<ks.length:=by rw [hkl];simp;omega
       have hg:=Cc hk;have hb:=FE (n:=n) (by omega) op pre.length;have hwi:BH ((pre.length:Int)+1)=((pre++[t]).length:Int):=(Au (by omega) (by omega)).trans (by simp);have hbi:(0<(Ae op pre.length:Int)) ↔ 0<Ae op pre.length:=by omega
       have hd9:done.length+1≤1000000:=by omega
       simp only [AW] at hkids;simp only [AwP] at hl;by_cases hbp:0<Ae op pre.length
       ·rw [if_pos hbp] at hkids;cases hkk:AW (fun s e t=>Ay f s e t env) op env (pre.length+1) rest s2 e2 with
        | none=>rw [hkk] at hkids;cases hkids
        | some q =>
        obtain ⟨us',s4,e4⟩:=q;rw [hkk] at hkids;simp only [AwO,AwL,AwM] at hkids;obtain ⟨rfl,rfl,rfl⟩:=hkids;have hbp':0<(Ae op pre.length:Int):=by omega
        have hce:(RV.clo env t).enc=.fp [.int .i64 0,.int .i64 0,.sl [],.sl (env.map RV.enc),.int .i64 t.op,.int .i64 t.n,.sl (t.kids.map Tm.enc)] 0:=by rw [NI];rfl
        have hnext:∀tk,(tk=44052494∨tk=44053518)→Bv (rec [.ptr (.ext 0) 0,.fv (.sl (env.map RV.enc)),.ptr (.own 44040192) 0,.ptr (.own 44047365) 0,iv (pre++[t]).length]
          (Aeo op m ks (.app (.own tk) ((done++[RV.clo env t]).map RV.enc)) [(tk,.tok (done++[RV.clo env t]).length 1)] s2 nd e2)) v.enc [.row [iv s',iv nd,iv e'] false]:=fun tk htk =>
         hrec rest.length _ _ (by omega) ⟨pre++[t],rest,done++[.clo env t],s2,e2,us',s4,e4,by rw [hk];simp,rfl,by simp [hdl],rfl,.inr ⟨tk,htk,by simp,rfl⟩,by simpa using hkk,by simpa using hhead⟩
        obtain ⟨o,p,l⟩:=t;simp only [Tm.op,Tm.n,Tm.kids] at hce;have ha0:=fun {s own ext k}=>Ajo (RV.clo env (.mk o p l)) s own ext k;have ha1:=fun {r s own ext k}=>XF hd9 (RV.clo env (.mk o p l)) r s own ext k;rw [hce] at ha0 ha1;have hbs:=fun (tl:List (Nat×Blk)) (K:IV) (own:List (Nat×Blk)) (hown:own=(44040192,.row [iv op,iv m,.fv (.sl (ks.map Tm.enc))] false)::(44047365,.row [iv op,iv m,K,.nils,iv 0,iv 0,.nils] false)::tl) (hl:Ap 44052492 own=some (.row [iv 0,iv 0,.nils,.fv (.sl (env.map RV.enc)),iv o,iv p,.fv (.sl (l.map Tm.enc))] false)) (own':List (Nat×Blk)) (ho) s ext (k:IV→Hp→List Ref→List Ref→Option (IV×Hp)) =>
         AsF (E:=EE) (own:=own) (own':=own') tVs tVp rfl ⟨_,rfl⟩ hl (fc:=[.int .i64 0,.int .i64 0,.sl [],.sl (env.map RV.enc),.int .i64 o,.int .i64 p,.sl (l.map Tm.enc)]) rfl (by simp) ho s ext k
        rcases hH with ⟨hp0,rfl⟩ | ⟨r,hr,hne,rfl⟩
        ·have hd0:done=[]:=List.length_eq_zero_iff.1 (by rw [hdl,hp0];rfl);subst hd0;have h9:=hnext _ (.inl rfl);simp only [List.nil_append,AwR,AwQ,AwP,List.length_nil] at h9;rw [hce] at h9;have hb0:=fun s ext k=>hbs [(44052492,.row [iv 0,iv 0,.nils,.fv (.sl (env.map RV.enc)),iv o,iv p,.fv (.sl (l.map Tm.enc))] false)] .nils _ rfl (by simp [Ap])
          [(44040192,.row [iv op,iv m,.fv (.sl (ks.map Tm.enc))] false),(44047365,.row [iv op,iv m,.nils,.nils,iv 0,iv 0,.nils] false),(44052492,.row [iv 0,iv 0,.nils,.fv (.sl (env.map RV.enc)),iv o,iv p,.fv (.sl (l.map Tm.enc))] true)] (by simp [AM]) s ext k
         simp only [↓UZ,↓XX,XY,↓reduceIte,Nat.reduceBEq,Nat.reduceAdd,Int.reduceEq,Int.reduceLT,Int.reduceLE,hi,↓Bp (AN hg) (A9 _ _ _),↓Ca,↓Ag hb,hbp',hwi,↓hb0,↓ha0,↓AD,XD,heldB,AL,XE];exact h9
        ·have h9:=hnext r hr;rw [show (done++[RV.clo env (Tm.mk o p l)]).length=done.length+1 by simp] at h9
         simp only [List.map_append,AwR,AwQ] at h9;rw [hce] at h9;simp only [List.map_append,AwR,AwQ] at ha1;rw [hce] at ha1;have hb0:=fun s ext k=>hbs [(r,.tok done.length 1),(44052492,.row [iv 0,iv 0,.nils,.fv (.sl (env.map RV.enc)),iv o,iv p,.fv (.sl (l.map Tm.enc))] false)] (.app (.own r) (done.map RV.enc)) _ rfl (by rcases hr with rfl | rfl<;>simp [Ap])
          [(44040192,.row [iv op,iv m,.fv (.sl (ks.map Tm.enc))] false),(44047365,.row [iv op,iv m,.app (.own r) (done.map RV.enc),.nils,iv 0,iv 0,.nils] false),(r,.tok done.length 1),(44052492,.row [iv 0,iv 0,.nils,.fv (.sl (env.map RV.enc)),iv o,iv p,.fv (.sl (l.map Tm.enc))] true)]
          (by rcases hr with rfl | rfl<;>simp [AM]) s ext k
         rcases hr with rfl | rfl
         ·simp only [↓UZ,↓XX,XY,↓reduceIte,Nat.reduceBEq,Nat.reduceAdd,Int.reduceEq,Int.reduceLT,Int.reduceLE,hi,↓Bp (AN hg) (A9 _ _ _),↓Ca,↓Ag hb,hbp',hwi,↓hb0,↓ha1,↓HG,↓AD,XD,heldB,AL,XE];exact h9
         ·simp only [↓UZ,↓XX,XY,↓reduceIte,Nat.reduceBEq,Nat.reduceAdd,Int.reduceEq,Int.reduceLT,Int.reduceLE,hi,↓Bp (AN hg) (A9 _ _ _),↓Ca,↓Ag hb,hbp',hwi,↓hb0,↓ha1,↓HG,↓AD,XD,heldB,AL,XE];exact h9
       ·rw [if_neg hbp] at hkids;have hbp':¬ 0<(Ae op pre.length:Int):=by omega
        cases hev1:Ay f s2 e2 t env with
        | none=>rw [hev1] at hkids;cases hkids
        | some q =>
        obtain ⟨v1,s4,e4⟩:=q;rw [hev1] at hkids;simp only at hkids;cases hkk:AW (fun s e t=>Ay f s e t env) op env (pre.length+1) rest s4 e4 with
        | none=>rw [hkk] at hkids;cases hkids
        | some q =>
        obtain ⟨us',s5,e5⟩:=q;rw [hkk] at hkids;simp only [AwO,AwL,AwM] at hkids;obtain ⟨rfl,rfl,rfl⟩:=hkids;have hc:=he s2 e2 t env v1 s4 e4 nd hev1 n (by omega);have hnext:∀tk,(tk=44052494∨tk=44053518)→Bv (rec [.ptr (.ext 0) 0,.fv (.sl (env.map RV.enc)),.ptr (.own 44040192) 0,.ptr (.own 44047365) 0,iv (pre++[t]).length]
          (Aeo op m ks (.app (.own tk) ((done++[v1]).map RV.enc)) [(tk,.tok (done++[v1]).length 1)] s4 nd e4)) v.enc [.row [iv s',iv nd,iv e'] false]:=fun tk htk =>
         hrec rest.length _ _ (by omega) ⟨pre++[t],rest,done++[v1],s4,e4,us',s5,e5,by rw [hk];simp,rfl,by simp [hdl],rfl,.inr ⟨tk,htk,by simp,rfl⟩,by simpa using hkk,by simpa using hhead⟩
        obtain ⟨o,p,l⟩:=t;rw [Ah] at hc;rcases hH with ⟨hp0,rfl⟩ | ⟨r,hr,hne,rfl⟩
        ·have hd0:done=[]:=List.length_eq_zero_iff.1 (by rw [hdl,hp0];rfl);subst hd0;have h9:=hnext _ (.inr rfl);simp only [List.nil_append,AwR,AwQ,AwP,List.length_nil] at h9;simp only [↓UZ,↓XX,XY,↓reduceIte,Nat.reduceBEq,Nat.reduceAdd,Int.reduceEq,Int.reduceLT,Int.reduceLE,hi,↓Bp (AN hg) (A9 _ _ _),↓Ca,↓Ag hb,hbp',hwi,↓J0 hc (Cp _ _ _ _ _ _),↓Vn,↓Ajo,↓AD,XD,heldB,AL,XE];exact h9
        ·have h9:=hnext r hr;rw [show (done++[v1]).length=done.length+1 by simp] at h9
         rcases hr with rfl | rfl
         ·simp only [↓UZ,↓XX,XY,↓reduceIte,Nat.reduceBEq,Nat.reduceAdd,Int.reduceEq,Int.reduceLT,Int.reduceLE,hi,↓Bp (AN hg) (A9 _ _ _),↓Ca,↓Ag hb,hbp',hwi,↓J0 hc (Cp _ _ _ _ _ _),↓Vn,↓XF hd9,↓HG,↓AD,XD,heldB,AL,XE];exact h9
         ·simp only [↓UZ,↓XX,XY,↓reduceIte,Nat.reduceBEq,Nat.reduceAdd,Int.reduceEq,Int.reduceLT,Int.reduceLE,hi,↓Bp (AN hg) (A9 _ _ _),↓Ca,↓Ag hb,hbp',hwi,↓J0 hc (Cp _ _ _ _ _ _),↓Vn,↓XF hd9,↓HG,↓AD,XD,heldB,AL,XE];exact h9
def RV.cl (v:RV):List FV:=[.int .i64 v.op,.int .i64 v.n,.sl (v.k.map RV.enc),.sl (v.env.map RV.enc),.int .i64 v.b.op,.int .i64 v.b.n,.sl (v.b.kids.map Tm.enc)]
section
variable {β:Type} (v:RV)
theorem Asq (k:IV→Option β):AF (.fv v.enc) k=k (.fv v.enc):=by rw [NI];rfl
theorem At1 (o:Nat) (k:IV→Option β):Ac o (.fv v.enc) k=k (.fv (.fp v.cl o)):=by rw [NI,Asz];rfl
theorem nc0 (k:FV→Option β):DG v.cl 0 k=k (.int .i64 v.op):=rfl
theorem nc1 (k:FV→Option β):DG v.cl 1 k=k (.int .i64 v.n):=rfl
theorem nc2 (k:FV→Option β):DG v.cl 2 k=k (.sl (v.k.map RV.enc)):=rfl
theorem nc3 (k:FV→Option β):DG v.cl 3 k=k (.sl (v.env.map RV.enc)):=rfl
theorem dc4 (k:List FV→Option β):FL v.cl 4 k=k [.int .i64 v.b.op,.int .i64 v.b.n,.sl (v.b.kids.map Tm.enc)]:=rfl
end
theorem Hb {β:Type} {l:List RV} {v:RV} (h:l[0]?=some v) (k:IV→Option β):A7 1 (.fv (.sl (l.map RV.enc))) (iv 0) k=k (.fv (.fp [v.enc] 0)):=XC (i:=0) h k
theorem AhU {β:Type} {l:List RV} {v:RV} (h:l[1]?=some v) (k:IV→Option β):A7 1 (.fv (.sl (l.map RV.enc))) (iv 1) k=k (.fv (.fp [v.enc] 0)):=XC (i:=1) h k
theorem Ars {β:Type} {l:List RV} {v:RV} (h:l[2]?=some v) (k:IV→Option β):A7 1 (.fv (.sl (l.map RV.enc))) (iv 2) k=k (.fv (.fp [v.enc] 0)):=XC (i:=2) h k
theorem Ag4 {β:Type} {l:List RV} {v:RV} (h:l[3]?=some v) (k:IV→Option β):A7 1 (.fv (.sl (l.map RV.enc))) (iv 3) k=k (.fv (.fp [v.enc] 0)):=XC (i:=3) h k
def XV:=AwK @Asq<|AwK @At1<|AwK @nc0<|AwK @nc1<|AwK @nc2<|AwK @nc3 @dc4
set_option maxHeartbeats 1000000 in
set_option maxRecDepth 20000 in
theorem AeT {f:Nat} (he:RA f) (hh:Tp f):Tp (f+1):=by
 intro s e v w s' e' nd hev n hn;obtain ⟨n,rfl⟩:∃k,n=k+1:=⟨n - 1,by omega⟩;rw [c59];rw [headR] at hev;by_cases h0:e≠0
 ·rw [if_pos h0] at hev;simp only [AwL,AwM] at hev;obtain ⟨rfl,rfl,rfl⟩:=hev;simp only [↓F9,↓XX,XY,↓reduceIte,Nat.reduceBEq,Nat.reduceAdd,Int.reduceEq,Int.reduceLT,Int.reduceLE,h0];exact AK _ _ _
 ·have h0':e=0:=by omega
  subst h0';rw [if_neg h0] at hev;by_cases hs:s<0∨1000000<s
  ·rw [if_pos hs] at hev;cases hev
  ·rw [if_neg hs] at hev;have hst:=Ahq (n:=n) (by omega) s nd (by omega) (by omega);have Cu:∀{x:RV} {a b:Int},some (x,a,b)=some (w,s',e')→x=w∧a=s'∧b=e':=by
    intro x a b h;simp only [AwL,AwM] at h;exact h
   by_cases h5:v.op=5
   ·rw [if_pos h5] at hev;cases hk0:v.k[0]? with
    | none=>rw [hk0] at hev;cases hev
    | some k0 =>
     rw [hk0] at hev;simp only at hev;by_cases h4:k0.op=4
     ·rw [if_pos h4] at hev;by_cases hq:s+1≤1000
      ·rw [if_pos hq] at hev;simp only [hq,decide_true,if_true] at hst;cases hc:k0.k[1]? with
       | none=>rw [hc] at hev;cases hev
       | some c =>
        cases hx:v.k[1]? with
        | none=>rw [hc,hx] at hev;cases hev
        | some x =>
         rw [hc,hx] at hev;simp only at hev;by_cases hl:900000<c.env.length
         ·rw [if_pos hl] at hev;cases hev
         ·rw [if_neg hl] at hev;have hcall:=he (s+1) 0 c.b (c.env++[x]) w s' e' nd hev n (by omega);rw [WB] at hcall;have hp:=Uk (n:=n) (by omega) c.env [x] (by simp) (by simp;omega);simp only [AwR,AwQ] at hp;simp only [↓F9,↓XX,XY,↓reduceIte,Nat.reduceBEq,Nat.reduceAdd,Int.reduceEq,Int.reduceLT,Int.reduceLE,↓XV,h5,↓Hb hk0,h4,↓D1 hst (Cp _ _ _ _ _ _),↓AhU hc,↓AhU hx,↓Vn,↓Ag hp,↓J0 hcall (Cp _ _ _ _ _ _)];exact AK _ _ _
      ·rw [if_neg hq] at hev;obtain ⟨rfl,rfl,rfl⟩:=Cu hev;simp only [hq,decide_false,if_false] at hst;simp only [↓F9,↓XX,XY,↓reduceIte,Nat.reduceBEq,Nat.reduceAdd,Int.reduceEq,Int.reduceLT,Int.reduceLE,↓XV,h5,↓Hb hk0,h4,↓D1 hst (Cp _ _ _ _ _ _)];exact AK _ _ _
     ·rw [if_neg h4] at hev;obtain ⟨rfl,rfl,rfl⟩:=Cu hev;simp only [↓F9,↓XX,XY,↓reduceIte,Nat.reduceBEq,Nat.reduceAdd,Int.reduceEq,Int.reduceLT,Int.reduceLE,↓XV,h5,↓Hb hk0,h4];exact AK _ _ _
   ·rw [if_neg h5] at hev;by_cases h89:v.op=8∨v.op=9
    ·rw [if_pos h89] at hev;cases hk0:v.k[0]? with
     | none=>rw [hk0] at hev;cases hev
     | some k0 =>
      rw [hk0] at hev;simp only at hev;by_cases h7:k0.op=7
      ·rw [if_pos h7] at hev;by_cases hq:s+1≤1000
       ·rw [if_pos hq] at hev;simp only [hq,decide_true,if_true] at hst;cases hx:k0.k[(1+v.op - 8).toNat]? with
        | none=>rw [hx] at hev;cases hev
        | some x =>
         rw [hx] at hev;obtain ⟨rfl,rfl,rfl⟩:=Cu hev;rcases h89 with h8 | h9
         ·rw [h8] at hx;have hw1:BH (1+8)=9:=by decide
          have hw2:BH (9 - 8)=1:=by decide
          simp only [↓F9,↓XX,XY,↓reduceIte,Nat.reduceBEq,Nat.reduceAdd,Int.reduceEq,Int.reduceLT,Int.reduceLE,↓XV,h8,↓Hb hk0,h7,↓D1 hst (Cp _ _ _ _ _ _),hw1,hw2,↓AhU (l:=k0.k) (v:=x) hx];exact AK _ _ _
         ·rw [h9] at hx;have hw1:BH (1+9)=10:=by decide
          have hw2:BH (10 - 8)=2:=by decide
          simp only [↓F9,↓XX,XY,↓reduceIte,Nat.reduceBEq,Nat.reduceAdd,Int.reduceEq,Int.reduceLT,Int.reduceLE,↓XV,h9,↓Hb hk0,h7,↓D1 hst (Cp _ _ _ _ _ _),hw1,hw2,↓Ars (l:=k0.k) (v:=x) hx];exact AK _ _ _
       ·rw [if_neg hq] at hev;obtain ⟨rfl,rfl,rfl⟩:=Cu hev;simp only [hq,decide_false,if_false] at hst;rcases h89 with h8 | h9
        ·simp only [↓F9,↓XX,XY,↓reduceIte,Nat.reduceBEq,Nat.reduceAdd,Int.reduceEq,Int.reduceLT,Int.reduceLE,↓XV,h8,↓Hb hk0,h7,↓D1 hst (Cp _ _ _ _ _ _)];exact AK _ _ _
        ·simp only [↓F9,↓XX,XY,↓reduceIte,Nat.reduceBEq,Nat.reduceAdd,Int.reduceEq,Int.reduceLT,Int.reduceLE,↓XV,h9,↓Hb hk0,h7,↓D1 hst (Cp _ _ _ _ _ _)];exact AK _ _ _
      ·rw [if_neg h7] at hev;obtain ⟨rfl,rfl,rfl⟩:=Cu hev;rcases h89 with h8 | h9
       ·simp only [↓F9,↓XX,XY,↓reduceIte,Nat.reduceBEq,Nat.reduceAdd,Int.reduceEq,Int.reduceLT,Int.reduceLE,↓XV,h8,↓Hb hk0,h7];exact AK _ _ _
       ·simp only [↓F9,↓XX,XY,↓reduceIte,Nat.reduceBEq,Nat.reduceAdd,Int.reduceEq,Int.reduceLT,Int.reduceLE,↓XV,h9,↓Hb hk0,h7];exact AK _ _ _
    ·rw [if_neg h89] at hev;have h8:¬ v.op=8:=fun e=>h89 (.inl e);have h9:¬ v.op=9:=fun e=>h89 (.inr e);by_cases h30:v.op=30
     ·rw [if_pos h30] at hev;cases hk0:v.k[0]? with
      | none=>rw [hk0] at hev;cases hev
      | some k0 =>
       rw [hk0] at hev;simp only at hev;by_cases h7:k0.op=19
       ·rw [if_pos h7] at hev;by_cases hq:s+1≤1000
        ·rw [if_pos hq] at hev;simp only [hq,decide_true,if_true] at hst;cases hx:k0.k[0]? with
         | none=>rw [hx] at hev;cases hev
         | some x =>
          rw [hx] at hev;obtain ⟨rfl,rfl,rfl⟩:=Cu hev;simp only [↓F9,↓XX,XY,↓reduceIte,Nat.reduceBEq,Nat.reduceAdd,Int.reduceEq,Int.reduceLT,Int.reduceLE,↓XV,h30,↓Hb hk0,h7,↓D1 hst (Cp _ _ _ _ _ _),↓Hb hx];exact AK _ _ _
        ·rw [if_neg hq] at hev;obtain ⟨rfl,rfl,rfl⟩:=Cu hev;simp only [hq,decide_false,if_false] at hst;simp only [↓F9,↓XX,XY,↓reduceIte,Nat.reduceBEq,Nat.reduceAdd,Int.reduceEq,Int.reduceLT,Int.reduceLE,↓XV,h30,↓Hb hk0,h7,↓D1 hst (Cp _ _ _ _ _ _)];exact AK _ _ _
       ·rw [if_neg h7] at hev;obtain ⟨rfl,rfl,rfl⟩:=Cu hev;simp only [↓F9,↓XX,XY,↓reduceIte,Nat.reduceBEq,Nat.reduceAdd,Int.reduceEq,Int.reduceLT,Int.reduceLE,↓XV,h30,↓Hb hk0,h7];exact AK _ _ _
     ·rw [if_neg h30] at hev;by_cases h19:v.op=19
      ·rw [if_pos h19] at hev;cases hk0:v.k[0]? with
       | none=>rw [hk0] at hev;cases hev
       | some k0 =>
        rw [hk0] at hev;simp only at hev;by_cases h7:k0.op=30
        ·rw [if_pos h7] at hev;by_cases hq:s+1≤1000
         ·rw [if_pos hq] at hev;simp only [hq,decide_true,if_true] at hst;cases hx:k0.k[0]? with
          | none=>rw [hx] at hev;cases hev
          | some x =>
           rw [hx] at hev;obtain ⟨rfl,rfl,rfl⟩:=Cu hev;simp only [↓F9,↓XX,XY,↓reduceIte,Nat.reduceBEq,Nat.reduceAdd,Int.reduceEq,Int.reduceLT,Int.reduceLE,↓XV,h19,↓Hb hk0,h7,↓D1 hst (Cp _ _ _ _ _ _),↓Hb hx];exact AK _ _ _
         ·rw [if_neg hq] at hev;obtain ⟨rfl,rfl,rfl⟩:=Cu hev;simp only [hq,decide_false,if_false] at hst;simp only [↓F9,↓XX,XY,↓reduceIte,Nat.reduceBEq,Nat.reduceAdd,Int.reduceEq,Int.reduceLT,Int.reduceLE,↓XV,h19,↓Hb hk0,h7,↓D1 hst (Cp _ _ _ _ _ _)];exact AK _ _ _
        ·rw [if_neg h7] at hev;obtain ⟨rfl,rfl,rfl⟩:=Cu hev;simp only [↓F9,↓XX,XY,↓reduceIte,Nat.reduceBEq,Nat.reduceAdd,Int.reduceEq,Int.reduceLT,Int.reduceLE,↓XV,h19,↓Hb hk0,h7];exact AK _ _ _
      ·rw [if_neg h19] at hev;by_cases h13:v.op=13
       ·rw [if_pos h13] at hev;cases hk0:v.k[0]? with
        | none=>rw [hk0] at hev;cases hev
        | some k0 =>
        cases hk1:v.k[1]? with
        | none=>rw [hk0,hk1] at hev;cases hev
        | some k1 =>
        cases hk2:v.k[2]? with
        | none=>rw [hk0,hk1,hk2] at hev;cases hev
        | some k2 =>
        cases hk3:v.k[3]? with
        | none=>rw [hk0,hk1,hk2,hk3] at hev;cases hev
        | some k3 =>
        rw [hk0,hk1,hk2,hk3] at hev;simp only at hev;by_cases h11:k3.op=11
        ·rw [if_pos h11] at hev;by_cases hq:s+1≤1000
         ·rw [if_pos hq] at hev;obtain ⟨rfl,rfl,rfl⟩:=Cu hev;simp only [hq,decide_true,if_true] at hst;simp only [↓F9,↓XX,XY,↓reduceIte,Nat.reduceBEq,Nat.reduceAdd,Int.reduceEq,Int.reduceLT,Int.reduceLE,↓XV,h13,↓Ag4 hk3,h11,↓D1 hst (Cp _ _ _ _ _ _),↓AhU hk1];exact AK _ _ _
         ·rw [if_neg hq] at hev;obtain ⟨rfl,rfl,rfl⟩:=Cu hev;simp only [hq,decide_false,if_false] at hst;simp only [↓F9,↓XX,XY,↓reduceIte,Nat.reduceBEq,Nat.reduceAdd,Int.reduceEq,Int.reduceLT,Int.reduceLE,↓XV,h13,↓Ag4 hk3,h11,↓D1 hst (Cp _ _ _ _ _ _)];exact AK _ _ _
        ·rw [if_neg h11] at hev;by_cases h12:k3.op=12
         ·rw [if_pos h12] at hev;by_cases hq:s+1≤1000
          ·rw [if_pos hq] at hev;simp only [hq,decide_true,if_true] at hst;cases hx:k3.k[0]? with
           | none=>rw [hx] at hev;cases hev
           | some x =>
           rw [hx] at hev;simp only at hev;cases hd:headR f (s+1) 0 (.node 13 0 [k0,k1,k2,x]) with
           | none=>rw [hd] at hev;cases hev
           | some q =>
           obtain ⟨h,s2,e2⟩:=q;rw [hd] at hev;simp only at hev;by_cases hl:900000<k2.env.length
           ·rw [if_pos hl] at hev;cases hev
           ·rw [if_neg hl] at hev;have hcall:=he s2 e2 k2.b (k2.env++[x,h]) w s' e' nd hev n (by omega);rw [WB] at hcall;have hcall2:=hh (s+1) 0 _ h s2 e2 nd hd n (by omega);rw [Asw] at hcall2;simp only [AwR,AwQ] at hcall2;have hp:=Uk (n:=n) (by omega) k2.env [x,h] (by simp) (by simp;omega);simp only [AwR,AwQ] at hp;have hcall3:=fun k=>S5 (k:=k) (own:=[(61886486,.row [iv 13,iv 0,.clip [k0.enc,k1.enc,k2.enc,x.enc],.nils,iv 0,iv 0,.nils] false)])
             (cells:=[iv 13,iv 0,.clip [k0.enc,k1.enc,k2.enc,x.enc],.nils,iv 0,iv 0,.nils]) (ro:=false) (s:=61886486) hcall2 (Cp ..) (by simp [Ap]) rfl (by simp)
            simp only [↓F9,↓XX,XY,↓reduceIte,Nat.reduceBEq,Nat.reduceAdd,Int.reduceEq,Int.reduceLT,Int.reduceLE,↓XV,h13,↓Ag4 hk3,h11,h12,↓D1 hst (Cp _ _ _ _ _ _),↓Hb hx,↓Hb hk0,↓AhU hk1,↓Ars hk2,↓AsB,↓hcall3,↓ArO,↓Ag hp,↓J0 hcall (Cp _ _ _ _ _ _)];exact AK _ _ _
          ·rw [if_neg hq] at hev;obtain ⟨rfl,rfl,rfl⟩:=Cu hev;simp only [hq,decide_false,if_false] at hst;simp only [↓F9,↓XX,XY,↓reduceIte,Nat.reduceBEq,Nat.reduceAdd,Int.reduceEq,Int.reduceLT,Int.reduceLE,↓XV,h13,↓Ag4 hk3,h11,h12,↓D1 hst (Cp _ _ _ _ _ _)];exact AK _ _ _
         ·rw [if_neg h12] at hev;obtain ⟨rfl,rfl,rfl⟩:=Cu hev;simp only [↓F9,↓XX,XY,↓reduceIte,Nat.reduceBEq,Nat.reduceAdd,Int.reduceEq,Int.reduceLT,Int.reduceLE,↓XV,h13,↓Ag4 hk3,h11,h12];exact AK _ _ _
       ·rw [if_neg h13] at hev;obtain ⟨rfl,rfl,rfl⟩:=Cu hev;simp only [↓F9,↓XX,XY,↓reduceIte,Nat.reduceBEq,Nat.reduceAdd,Int.reduceEq,Int.reduceLT,Int.reduceLE,↓XV,h5,h8,h9,h30,h19,h13];exact AK _ _ _
theorem YH:∀f,RA f∧Tp f:=by
 intro f
 induction f with
 | zero=>exact ⟨(by intro s e t env v s' e' nd h;rw [Ay] at h;cases h),(by intro s e v w s' e' nd h;rw [headR] at h;cases h)⟩
 | succ f ih=>exact ⟨Afb ih.1 ih.2,AeT ih.1 ih.2⟩
end Idl
end Go.Proofs.Ytaifgaidaglblaa
namespace Go.Proofs.Ytaifgaidaglblaa
namespace Idl
def FR (u:Int) (b:Nat):List RV:=(List.range b).map fun (j:Nat)=>RV.var (u+(j:Int))
theorem Lk (u:Int) (b:Nat):FR u (b+1)=FR u b++[RV.var (u+b)]:=by simp [FR,List.range_succ]
theorem BX (u:Int) (b:Nat):(FR u b).length=b:=by simp [FR]
def Ba (rd:Int→Int→Int→RV→Int→Option (Tm×Int×Int×Int)) (f:Nat) (op u:Int):Nat→List RV→Int→Int→Int→Option (List Tm×Int×Int×Int)
 | _,[],s,nd,e=>some ([],s,nd,e)
 | i,k::l,s,nd,e =>
  match (if 0<Ae op i then (if 900000<k.env.length then none else Ay f s e k.b (k.env++FR u (Ae op i))) else some (k,s,e)) with
  | none=>none
  | some (k',s1,e1)=>match rd s1 nd e1 k' (u+Ae op i) with
   | none=>none
   | some (t,s2,nd2,e2)=>(Ba rd f op u (i+1) l s2 nd2 e2).map fun (ts,s,nd,e)=>(t::ts,s,nd,e)
def AS:Nat→Int→Int→Int→RV→Int→Int→Option (Tm×Int×Int×Int)
 | 0,_,_,_,_,_,_=>none
 | f+1,s,nd,e,v,u,d =>
  if nd<0∨1000000<nd∨u<0∨1000000<u∨d<0∨1000000<d∨v.n < -2305843009213693952∨2305843009213693952<v.n∨f≤v.k.length∨900000<v.k.length∨f≤3 then none else
  if (if e=0∧(3000<nd+1∨120<d) then 5 else e)≠0 then some (.z,s,nd+1,(if e=0∧(3000<nd+1∨120<d) then 5 else e))
  else if v.op=1 then some (.mk 1 (u - 1 - v.n) [],s,nd+1,0)
  else (Ba (fun s nd e k u=>AS f s nd e k u (d+1)) f v.op u 0 v.k s (nd+1) 0).map fun (ts,s,nd,e)=>(.mk v.op v.n ts,s,nd,e)
def Xz (f:Nat):Prop:=∀(s nd e:Int) (v:RV) (u d:Int) (t:Tm) (s' nd' e':Int),AS f s nd e v u d=some (t,s',nd',e')→∀n,f+1≤n →
 Bv (SS dt n 41 [.ptr (.ext 0) 0,.fv v.enc,iv u,iv d] ⟨[],[.row [iv s,iv nd,iv e] false]⟩) t.enc [.row [iv s',iv nd',iv e'] false]
abbrev M9 (op m:Int) (K:IV) (tok:List (Nat×Blk)) (s nd e:Int):Hp :=
 ⟨(42991616,.row [iv 0,iv 0,.nils] false)::(42999817,.row [iv op,iv m,K] false)::tok,[.row [iv s,iv nd,iv e] false]⟩
theorem AdJ {cells:List IV} {fc:List FV} (hz:Dd cells=some fc) (hn:cells.length≤100) (s:Nat) (h:Hp) (k:IV→Hp→List Ref→List Ref→Option (IV×Hp)):fzS (LN true s (.agg cells)) s (.agg cells) h k=k (.fv (.fp fc 0)) h [] []:=by
 have:LN true s (.agg cells)=.ret { eff:={ val:=.fv (.fp fc 0),upd:=[] } }:=by
  simp only [LN,IV.alive,Bool.true_eq_false,if_false,if_true,IV.cells,AbB cells 4096 (by omega) hz,Rd.bind]
 unfold fzS;rw [this,Wl];exact J8 _ s h k
theorem Aei (n:Int):(RV.var n).enc=.fp [.int .i64 1,.int .i64 n,.sl [],.sl [],.int .i64 0,.int .i64 0,.sl []] 0:=by rw [RV.var,Tm.z,Ix];rfl
set_option maxRecDepth 20000 in
set_option maxHeartbeats 1000000 in
theorem Ae0 {f:Nat} (hr:Xz f):Xz (f+1):=by
 intro s nd e v u d t s' nd' e' hev n hn;obtain ⟨n,rfl⟩:∃k,n=k+1:=⟨n - 1,by omega⟩;rw [c41];rw [AS] at hev;by_cases hbad:nd<0∨1000000<nd∨u<0∨1000000<u∨d<0∨1000000<d∨v.n < -2305843009213693952∨2305843009213693952<v.n∨f≤v.k.length∨900000<v.k.length∨f≤3
 ·rw [if_pos hbad] at hev;cases hev
 ·rw [if_neg hbad] at hev;have wnd:BH (nd+1)=nd+1:=by rw [Au]<;>omega
  have wd:BH (d+1)=d+1:=by rw [Au]<;>omega
  have wu:BH (u - 1)=u - 1:=by rw [Au]<;>omega
  have wv:BH (u - 1 - v.n)=u - 1 - v.n:=by rw [Au]<;>omega
  by_cases he:e=0
  ·subst he;by_cases h3:3000<nd+1
   ·have e5:(if (0:Int)=0∧(3000<nd+1∨120<d) then (5:Int) else 0)=5:=if_pos ⟨rfl,.inl h3⟩;rw [e5,if_pos (by decide)] at hev;simp only [AwL,AwM] at hev;obtain ⟨rfl,rfl,rfl,rfl⟩:=hev;simp only [↓AhP,↓XX,XY,↓reduceIte,Nat.reduceBEq,Nat.reduceAdd,Int.reduceEq,Int.reduceLT,Int.reduceLE,wnd,h3];exact E6 rfl _ _
   ·by_cases h4:120<d
    ·have e5:(if (0:Int)=0∧(3000<nd+1∨120<d) then (5:Int) else 0)=5:=if_pos ⟨rfl,.inr h4⟩;rw [e5,if_pos (by decide)] at hev;simp only [AwL,AwM] at hev;obtain ⟨rfl,rfl,rfl,rfl⟩:=hev;simp only [↓AhP,↓XX,XY,↓reduceIte,Nat.reduceBEq,Nat.reduceAdd,Int.reduceEq,Int.reduceLT,Int.reduceLE,wnd,h3,h4];exact E6 rfl _ _
    ·have e5:(if (0:Int)=0∧(3000<nd+1∨120<d) then (5:Int) else 0)=0:=if_neg (by omega);rw [e5,if_neg (by decide)] at hev;by_cases h1:v.op=1
     ·rw [if_pos h1] at hev;simp only [AwL,AwM] at hev;obtain ⟨rfl,rfl,rfl,rfl⟩:=hev;have hv:=Akn (n:=n) (by omega) (u - 1 - v.n);rw [Ah] at hv ⊢;simp only [↓AhP,↓XX,XY,↓reduceIte,Nat.reduceBEq,Nat.reduceAdd,Int.reduceEq,Int.reduceLT,Int.reduceLE,↓XV,wnd,h3,h4,h1,wu,wv,↓Aq hv];exact E6 rfl _ _
     ·rw [if_neg h1] at hev;cases hrk:Ba (fun s nd e k u=>AS f s nd e k u (d+1)) f v.op u 0 v.k s (nd+1) 0 with
      | none=>rw [hrk] at hev;cases hev
      | some q =>
      obtain ⟨ts,s1,nd1,e1⟩:=q;rw [hrk] at hev;simp only [AwO,AwL,AwM] at hev;obtain ⟨rfl,rfl,rfl,rfl⟩:=hev;simp only [↓AhP,↓XX,XY,↓reduceIte,Nat.reduceBEq,Nat.reduceAdd,Int.reduceEq,Int.reduceLT,Int.reduceLE,↓XV,wnd,h3,h4,h1,↓AD,XD,heldB,AL,XE];refine A6 (Q:=fun r=>Bv r _ _) (fun k V H=>∃(pre rest:List RV) (done:List Tm) (s2 nd2 e2:Int) (us:List Tm),v.k=pre++rest∧rest.length=k∧done.length=pre.length∧V=[.ptr (.ext 0) 0,.fv v.enc,iv u,iv d,.ptr (.own 42991616) 0,.ptr (.own 42999817) 0,iv pre.length] ∧
       (
        (pre=[]∧H=M9 v.op v.n .nils [] s2 nd2 e2) ∨
        (pre≠[]∧H=M9 v.op v.n (.app (.own 43013131) (done.map Tm.enc)) [(43013131,.tok done.length 3)] s2 nd2 e2)) ∧
       Ba (fun s nd e k u=>AS f s nd e k u (d+1)) f v.op u pre.length rest s2 nd2 e2=some (us,s1,nd1,e1)∧done++us=ts)
       ?_ n v.k.length _ _ (by omega) ⟨[],v.k,[],s,nd+1,0,ts,rfl,rfl,rfl,rfl,.inl ⟨rfl,rfl⟩,hrk,rfl⟩
      rintro k V H rec ⟨pre,rest,done,s2,nd2,e2,us,hk,hl,hdl,rfl,hH,hkids,hts⟩ hrec;have hkl:v.k.length=pre.length+rest.length:=by rw [hk];simp
      cases rest with
      | nil =>
       simp only [Ba,AwL,AwM] at hkids;obtain ⟨rfl,rfl,rfl,rfl⟩:=hkids;rw [List.append_nil] at hts;subst hts;have hno:¬ ((pre.length:Int)<v.k.length):=by rw [hkl];simp
       rcases hH with ⟨hp0,rfl⟩ | ⟨hne,rfl⟩
       ·have hd0:done=[]:=List.length_eq_zero_iff.1 (by rw [hdl,hp0];rfl);subst hd0;simp only [EF,ED,EK,EQ,EJ,EC,Hj,ES,Ez,EU,Ew,EH,He,Ey,EI,EP,Et,Es,EL,EV,Fg,EG,Eu,EW,ET,EN,EM,Er,Ep,EB,EO,S41,↓XX,XY,↓reduceIte,Nat.reduceBEq,Nat.reduceAdd,Int.reduceEq,Int.reduceLT,Int.reduceLE,↓XV,hno,Ah];exact E6 rfl _ _
       ·simp only [EF,ED,EK,EQ,EJ,EC,Hj,ES,Ez,EU,Ew,EH,He,Ey,EI,EP,Et,Es,EL,EV,Fg,EG,Eu,EW,ET,EN,EM,Er,Ep,EB,EO,S41,↓XX,XY,↓reduceIte,Nat.reduceBEq,Nat.reduceAdd,Int.reduceEq,Int.reduceLT,Int.reduceLE,↓XV,hno,Ah];exact E6 rfl _ _
      | cons x rest =>
       have hi:(pre.length:Int)<v.k.length:=by rw [hkl];simp;omega
       have hg:=Cc hk;have hb:=FE (n:=n) (by omega) v.op pre.length;have hble:=AQ v.op pre.length;have hwi:BH ((pre.length:Int)+1)=((pre++[x]).length:Int):=(Au (by omega) (by omega)).trans (by simp);have hwb:BH (u+(Ae v.op pre.length:Int))=u+Ae v.op pre.length:=by rw [Au]<;>omega
       have hd9:done.length+1≤1000000:=by omega
       simp only [Ba] at hkids;simp only [AwP] at hl;have behind:∀(y:RV) (s3 e3:Int),(match AS f s3 nd2 e3 y (u+Ae v.op pre.length) (d+1) with
          | none=>none
          | some (t,s2,nd2,e2)=>(Ba (fun s nd e k u=>AS f s nd e k u (d+1)) f v.op u (pre.length+1) rest s2 nd2 e2).map fun (ts,s,nd,e)=>(t::ts,s,nd,e))=some (us,s1,nd1,e1) →
         ∀K tk,((pre=[]∧K=.nils∧tk=[])∨(pre≠[]∧K=.app (.own 43013131) (done.map Tm.enc)∧tk=[(43013131,.tok done.length 3)])) →
         Bv (Hj (.ptr (.own 42999817) 0) (M9 v.op v.n K tk s3 nd2 e3) (iv u) (iv (Ae v.op pre.length)) (iv d) (SS dt n) (.ptr (.ext 0) 0) (.fv y.enc) (iv pre.length) ⟨[],[.row [iv s,iv nd,iv 0] false]⟩ (.fv v.enc) (.ptr (.own 42991616) 0) rec)
          (Tm.mk v.op v.n ts).enc [.row [iv s1,iv nd1,iv e1] false]:=by
        intro y s3 e3 hy K tk hK;cases hrd:AS f s3 nd2 e3 y (u+Ae v.op pre.length) (d+1) with
        | none=>rw [hrd] at hy;cases hy
        | some q =>
        obtain ⟨t4,s4,nd4,e4⟩:=q;rw [hrd] at hy;simp only at hy;cases hkk:Ba (fun s nd e k u=>AS f s nd e k u (d+1)) f v.op u (pre.length+1) rest s4 nd4 e4 with
        | none=>rw [hkk] at hy;cases hy
        | some q =>
        obtain ⟨us',s5,nd5,e5'⟩:=q;rw [hkk] at hy;simp only [AwO,AwL,AwM] at hy;obtain ⟨rfl,rfl,rfl,rfl⟩:=hy;have hc:=hr s3 nd2 e3 y (u+Ae v.op pre.length) (d+1) t4 s4 nd4 e4 hrd n (by omega);have h9:Bv (rec [.ptr (.ext 0) 0,.fv v.enc,iv u,iv d,.ptr (.own 42991616) 0,.ptr (.own 42999817) 0,iv (pre++[x]).length]
          (M9 v.op v.n (.app (.own 43013131) ((done++[t4]).map Tm.enc)) [(43013131,.tok (done.length+1) 3)] s4 nd4 e4)) (Tm.mk v.op v.n ts).enc [.row [iv s5,iv nd5,iv e5'] false] :=
         hrec rest.length _ _ (by omega) ⟨pre++[x],rest,done++[t4],s4,nd4,e4,us',by rw [hk];simp,rfl,by simp [hdl],rfl,.inr ⟨by simp,by simp⟩,by simpa using hkk,by rw [← hts];simp⟩
        rcases hK with ⟨hp0,rfl,rfl⟩ | ⟨hne,rfl,rfl⟩
        ·have hd0:done=[]:=List.length_eq_zero_iff.1 (by rw [hdl,hp0];rfl);subst hd0;simp only [List.nil_append,AwR,AwQ,List.length_nil] at h9;simp only [EF,ED,EK,EQ,EJ,EC,Hj,ES,Ez,EU,Ew,EH,He,Ey,EI,EP,Et,Es,EL,EV,Fg,EG,Eu,EW,ET,EN,EM,Er,Ep,EB,EO,S41,↓XX,XY,↓reduceIte,Nat.reduceBEq,Nat.reduceAdd,Int.reduceEq,Int.reduceLT,Int.reduceLE,↓XV,hwb,wd,hwi,↓Af3 hc (Cp _ _ _ _ _ _),↓JO,↓SO,↓AD,XD,heldB,AL,XE];exact h9
        ·simp only [EF,ED,EK,EQ,EJ,EC,Hj,ES,Ez,EU,Ew,EH,He,Ey,EI,EP,Et,Es,EL,EV,Fg,EG,Eu,EW,ET,EN,EM,Er,Ep,EB,EO,S41,↓XX,XY,↓reduceIte,Nat.reduceBEq,Nat.reduceAdd,Int.reduceEq,Int.reduceLT,Int.reduceLE,↓XV,hwb,wd,hwi,↓Af3 hc (Cp _ _ _ _ _ _),↓JO,↓NQ hd9,↓HG,↓AD,XD,heldB,AL,XE];exact h9
       have heads:∃K tk,((pre=[]∧K=.nils∧tk=[])∨(pre≠[]∧K=.app (.own 43013131) (done.map Tm.enc)∧tk=[(43013131,.tok done.length 3)]))∧H=M9 v.op v.n K tk s2 nd2 e2:=by
        rcases hH with ⟨a,b⟩ | ⟨a,b⟩
        ·exact ⟨_,_,.inl ⟨a,rfl,rfl⟩,b⟩
        ·exact ⟨_,_,.inr ⟨a,rfl,rfl⟩,b⟩
       obtain ⟨K,tk,hK,rfl⟩:=heads;by_cases hbp:0<Ae v.op pre.length
       ·rw [if_pos hbp] at hkids;by_cases hxe:900000<x.env.length
        ·rw [if_pos hxe] at hkids;cases hkids
        ·rw [if_neg hxe] at hkids;have hbp':0<(Ae v.op pre.length:Int):=by omega
         cases hev1:Ay f s2 e2 x.b (x.env++FR u (Ae v.op pre.length)) with
         | none=>rw [hev1] at hkids;cases hkids
         | some q =>
         obtain ⟨y,s3,e3⟩:=q;rw [hev1] at hkids;have hB:=behind y s3 e3 hkids K tk hK;have hc:=(YH f).1 s2 e2 x.b _ y s3 e3 nd2 hev1 n (by omega);rw [WB] at hc;have hdrop:∀(vals:List IV),vals.all FU=true→∀k:Hp→Option (IV×Hp),Bf [] [43011077] vals (M9 v.op v.n K tk s2 nd2 e2) k=k (M9 v.op v.n K tk s2 nd2 e2):=by
          intro vals hv k;rcases hK with ⟨_,rfl,rfl⟩ | ⟨_,rfl,rfl⟩<;>simp only [↓XX,XY,↓reduceIte,Nat.reduceBEq,Nat.reduceAdd,Int.reduceEq,Int.reduceLT,Int.reduceLE,↓AD,XD,heldB,AL,XE,hv]
         simp only [EF,ED,EK,EQ,EJ,EC,ES,Ez,EU,Ew,EH,Ey,EI,EP,Et,Es,EL,EV,Fg,EG,Eu,EW,ET,EN,EM,Er,Ep,EB,EO,S41,↓XX,XY,↓reduceIte,Nat.reduceBEq,Nat.reduceAdd,Int.reduceEq,Int.reduceLT,Int.reduceLE,↓XV,hi,↓XC hg,↓Ag hb,hbp',↓hdrop,↓AD,XD,heldB,AL,XE];refine A6 (Q:=fun r=>Bv r _ _) (fun k V H=>∃j,j+k=Ae v.op pre.length∧V=[.ptr (.ext 0) 0,.fv v.enc,iv u,iv d,.ptr (.own 42991616) 0,.ptr (.own 42999817) 0,iv pre.length,iv (Ae v.op pre.length),.fv x.enc,.fv (.sl ((x.env++FR u j).map RV.enc)),iv j] ∧
          H=M9 v.op v.n K tk s2 nd2 e2) ?_ n (Ae v.op pre.length) _ _ (by omega) ?_
         rotate_left
         ·exact ⟨0,by omega,by simp [FR],rfl⟩
         rintro k2 V2 H2 rec2 ⟨j,hj,rfl,rfl⟩ hrec2;cases k2 with
         | zero =>
          have hjb:j=Ae v.op pre.length:=by omega
          subst hjb;simp only [EF,ED,EK,EQ,EJ,EC,ES,Ez,EU,Ew,EH,He,Ey,EI,EP,Et,Es,EL,EV,Fg,EG,Eu,EW,ET,EN,EM,Er,Ep,EB,EO,S41,↓XX,XY,↓reduceIte,Nat.reduceBEq,Nat.reduceAdd,Int.reduceEq,Int.reduceLT,Int.reduceLE,↓XV,Int.lt_irrefl,↓J0 hc (Cp _ _ _ _ _ _)];exact hB
         | succ k2 =>
          have hjb:(j:Int)<Ae v.op pre.length:=by omega
          have hwj:BH (u+(j:Int))=u+j:=by rw [Au]<;>omega
          have hwj1:BH ((j:Int)+1)=((j+1:Nat):Int):=by rw [Au]<;>omega
          have hp:=Uk (n:=n) (by omega) (x.env++FR u j) [RV.var (u+j)] (by simp) (by simp [BX];omega);simp only [AwR,AwQ,Aei] at hp;rw [List.append_assoc,← Lk] at hp;have hbv:=fun s h k=>Vn (RV.var (u+j)) s h k;simp only [Aei] at hbv;have hfz:=fun s h (k:IV→Hp→List Ref→List Ref→Option (IV×Hp))=>AdJ (cells:=[.fv (.int .i64 1),iv (u+j),.nils,.nils,.fv (.int .i64 0),.fv (.int .i64 0),.nils]) (fc:=[.int .i64 1,.int .i64 (u+j),.sl [],.sl [],.int .i64 0,.int .i64 0,.sl []]) rfl (by simp) s h k;have h9:=hrec2 k2 _ _ (by omega) ⟨j+1,by omega,rfl,rfl⟩;simp only [EF,ED,EK,EQ,EJ,EC,ES,Ez,EU,Ew,EH,He,Ey,EI,EP,Et,Es,EL,EV,Fg,EG,Eu,EW,ET,EN,EM,Er,Ep,EB,EO,S41,↓XX,XY,↓reduceIte,Nat.reduceBEq,Nat.reduceAdd,Int.reduceEq,Int.reduceLT,Int.reduceLE,↓XV,hjb,hwj,hwj1,↓hfz,↓hbv,↓Ag hp,↓hdrop,↓AD,XD,heldB,AL,XE];exact h9
       ·rw [if_neg hbp] at hkids;have hbp':¬ 0<(Ae v.op pre.length:Int):=by omega
        have hB:=behind x s2 e2 hkids K tk hK;simp only [EF,ED,EK,EQ,EJ,EC,ES,Ez,EU,Ew,EH,Ey,EI,EP,Et,Es,EL,EV,Fg,EG,Eu,EW,ET,EN,EM,Er,Ep,EB,EO,S41,↓XX,XY,↓reduceIte,Nat.reduceBEq,Nat.reduceAdd,Int.reduceEq,Int.reduceLT,Int.reduceLE,↓XV,hi,↓XC hg,↓Ag hb,hbp',↓AD,XD,heldB,AL,XE];exact hB
  ·have e5:(if e=0∧(3000<nd+1∨120<d) then (5:Int) else e)=e:=if_neg (by omega);rw [e5,if_pos he] at hev;simp only [AwL,AwM] at hev;obtain ⟨rfl,rfl,rfl,rfl⟩:=hev;simp only [↓AhP,↓XX,XY,↓reduceIte,Nat.reduceBEq,Nat.reduceAdd,Int.reduceEq,Int.reduceLT,Int.reduceLE,wnd,he];exact E6 rfl _ _
theorem AlS:∀f,Xz f:=by
 intro f
 induction f with
 | zero=>intro s nd e v u d t s' nd' e' h;rw [AS] at h;cases h
 | succ f ih=>exact Ae0 ih
theorem AaD {α:Type}:∀(r:Rd α) (h:Hp) (l:List Ref) {x:α} {l':List Ref},r.runLog h l=some (x,l')→r.run h=some x
 | .ret a,h,l,x,l',e=>by simp only [Rd.runLog,AwL,AwM] at e;rw [e.1];rfl
 | .fail,_,_,_,_,e=>by cases e
 | .get r k,h,l,x,l',e=>by
  simp only [Rd.runLog] at e;simp only [Rd.run];cases hg:h.get r with
  | none=>rw [hg] at e;cases e
  | some b=>rw [hg] at e;exact AaD (k b) h _ e
theorem UC {v:IV} {own:List (Nat×Blk)} {ext:List Blk} {w:FV} (h:∃u lg,∀(e:Option (IV×Hp)) (K:FV→List (Ref×Blk)→List Ref→Option (IV×Hp)),Df 12 v ⟨own,ext⟩ [] e K=K w u lg):∃u,(C1 4096 v).run ⟨own,ext⟩=some (w,u):=by
 obtain ⟨u,lg,hz⟩:=h;rcases O1 12 v ⟨own,ext⟩ [] none (fun w _ _=>some (IV.fv w,(⟨[],[]⟩:Hp))) (.fv w,⟨[],[]⟩) (hz ..) with h | ⟨x,u',lg',h1,_,h2⟩
 ·cases h
 ·simp only [AwL,AwM,IV.fv.injEq,and_true] at h2;subst h2;exact ⟨u',AaD _ _ _ (h1 4096 (by decide))⟩
theorem UK:∀l:List FV,IV.refs.refsL (l.map .fv)=[]
 | []=>rfl
 | v::l=>by
  simp only [AwR,IV.refs.refsL,IV.refs,UK l,List.append_nil]
theorem Mf:∀(args:List IV) (ks:List Bool) {vs:List FV},(∀b∈ks,b=false)→Bx args=some vs→Bq ks args=.ret (vs.map .fv,[],[])
 | [],ks,vs,_,hz=>by cases hz;cases ks<;>rfl
 | v::l,[],vs,_,hz=>OP (v::l) hz
 | v::l,b::ks,vs,hk,hz=>by
  have hb:=hk b List.mem_cons_self;subst hb;simp only [Bx] at hz;cases h1:A8 v with
  | none=>rw [h1] at hz;cases hz
  | some x =>
   rw [h1] at hz;cases h2:Bx l with
   | none=>rw [h2] at hz;cases hz
   | some ys =>
    rw [h2] at hz;cases hz;simp only [Bq,frp 4096 (by omega) h1,Rd.bind,Mf l ks (fun c hc=>hk c (List.mem_cons_of_mem _ hc)) h2];rfl
theorem Abv (s:Nat) (ext:List Blk):PZ 400 [.own s] 0 ext=false:=rfl
theorem Agc {ks:List Bool} (hks:∀b∈ks,b=false) {ih:Aa} {f:FuncId} {args:List IV} {vs:List FV} {w:FV} {s:Nat} {st st':List FV} {own:List (Nat×Blk)} (hz:Bx args=some vs) (hl:Ap s own=some (.row (st.map .fv) false))
  (hr:Bv (ih f (.ptr (.ext 0) 0::vs.map .fv) ⟨[],[.row (st.map .fv) false]⟩) w [.row (st'.map .fv) false]) (k:IV→Hp→List Ref→List Ref→Option (IV×Hp)) :
  Al (true::ks) false false ih f (.ptr (.own s) 0::args) ⟨own,[]⟩ k=k (.fv w) ⟨AM s (.row (st'.map .fv) false) own,[]⟩ [.own s] [.own s]:=by
 obtain ⟨v,own',e1,hfz⟩:=hr;obtain ⟨u,hu⟩:=UC hfz;have hD:GJ (true::ks) false false ih f (.ptr (.own s) 0::args) ⟨own,[]⟩ k=k (.fv w) ⟨AM s (.row (st'.map .fv) false) own,[]⟩ [.own s] [.own s]:=by
  have h1:Bq (true::ks) (.ptr (.own s) 0::args)=.ret (.ptr (.own s) 0::vs.map .fv,[.own s],[]):=by
   simp only [Bq,Mf args ks hks hz,Rd.bind,IV.refs];rfl
  have h2:(Ci 4096 [.own s] []).runLog ⟨own,[]⟩ []=some ([(.own s,.row (st.map .fv) false)],[.own s]):=by
   show (Ci (4094+1+1) [.own s] []).runLog ⟨own,[]⟩ []=_
   simp only [Ci,hasRef,Bool.false_eq_true,if_false,Rd.runLog,Hp.get,hl,Blk.refs,UK,List.append_nil,List.nil_append]
  have h3:IV.ren.renL (E3 [(.own s,.row (st.map .fv) false)]) (.ptr (.own s) 0::vs.map .fv)=some (.ptr (.ext 0) 0::vs.map .fv):=by
   simp only [IV.ren.renL,IV.ren,E3,Cm,if_true,AwO,Option.bind_some,Jf]
  have h4:Bc (E3 [(.own s,.row (st.map .fv) false)]) [.row (st.map .fv) false]=some [.row (st.map .fv) false]:=by
   simp only [Bc,Blk.ren,Jf,AwO,Option.bind_some]
  have h5:Bc (Cu [(.own s,.row (st.map .fv) false)]) [.row (st'.map .fv) false]=some [.row (st'.map .fv) false]:=by
   simp only [Bc,Blk.ren,Jf,AwO,Option.bind_some]
  unfold GJ;simp only [h1,Rd.runLog,h2,h3,AwR,AwQ,h4,EY (CC 3),EY C4,MG,Bool.false_eq_true,if_false,e1,hu,AwO,IV.ren,h5,AwP,List.length_nil,Bs,List.all_nil,and_self,if_true,List.nil_append,List.zip_cons_cons,List.zip_nil_left];have h6:laid ⟨own,[]⟩ [(.own s,.row (st'.map .fv) false)]=some ⟨AM s (.row (st'.map .fv) false) own,[]⟩:=by
   simp only [laid,Hp.get,hl,Hp.set]
  simp only [h6,Pj,CC]
 rw [OX,AfG,Wj,UP 0 args _ _ _ _ ks hks hz];simp only [Ut,Abv,cond_false];exact hD
theorem ApK {ih:Aa} {f:FuncId} {x y:IV} {vx vy w:FV} {s:Nat} {a b c a' b' c':FV} {own own':List (Nat×Blk)} (hr:Bv (ih f [.ptr (.ext 0) 0,.fv vx,.fv vy] ⟨[],[.row [.fv a,.fv b,.fv c] false]⟩) w [.row [.fv a',.fv b',.fv c'] false])
  (hx:A8 x=some vx) (hy:A8 y=some vy) (hl:Ap s own=some (.row [.fv a,.fv b,.fv c] false)) (ho:AM s (.row [.fv a',.fv b',.fv c'] false) own=own') (k:IV→Hp→List Ref→List Ref→Option (IV×Hp)) :
  Al [true,false,false] false false ih f [.ptr (.own s) 0,x,y] ⟨own,[]⟩ k=k (.fv w) ⟨own',[]⟩ [.own s] [.own s]:=by
 subst ho;exact Agc (ks:=[false,false]) (by simp) (st:=[a,b,c]) (st':=[a',b',c']) (Xl hx hy) hl hr k
theorem Ang {ih:Aa} {f:FuncId} {x y z:IV} {vx vy vz w:FV} {s:Nat} {a b c a' b' c':FV} {own own':List (Nat×Blk)} (hr:Bv (ih f [.ptr (.ext 0) 0,.fv vx,.fv vy,.fv vz] ⟨[],[.row [.fv a,.fv b,.fv c] false]⟩) w [.row [.fv a',.fv b',.fv c'] false])
  (hx:A8 x=some vx) (hy:A8 y=some vy) (hz:A8 z=some vz) (hl:Ap s own=some (.row [.fv a,.fv b,.fv c] false)) (ho:AM s (.row [.fv a',.fv b',.fv c'] false) own=own') (k:IV→Hp→List Ref→List Ref→Option (IV×Hp)) :
  Al [true,false,false,false] false false ih f [.ptr (.own s) 0,x,y,z] ⟨own,[]⟩ k=k (.fv w) ⟨own',[]⟩ [.own s] [.own s]:=by
 subst ho;exact Agc (ks:=[false,false,false]) (by simp) (st:=[a,b,c]) (st':=[a',b',c']) (AeV hx hy hz) hl hr k
theorem Ako {ih:Aa} {f:FuncId} {x y:IV} {vx vy w:FV} {s:Nat} {a b a' b':FV} {own own':List (Nat×Blk)} (hr:Bv (ih f [.ptr (.ext 0) 0,.fv vx,.fv vy] ⟨[],[.row [.fv a,.fv b] false]⟩) w [.row [.fv a',.fv b'] false])
  (hx:A8 x=some vx) (hy:A8 y=some vy) (hl:Ap s own=some (.row [.fv a,.fv b] false)) (ho:AM s (.row [.fv a',.fv b'] false) own=own') (k:IV→Hp→List Ref→List Ref→Option (IV×Hp)) :
  Al [true,false,false] false false ih f [.ptr (.own s) 0,x,y] ⟨own,[]⟩ k=k (.fv w) ⟨own',[]⟩ [.own s] [.own s]:=by
 subst ho;exact Agc (ks:=[false,false]) (by simp) (st:=[a,b]) (st':=[a',b']) (Xl hx hy) hl hr k
end Idl
end Go.Proofs.Ytaifgaidaglblaa

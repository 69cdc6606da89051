/-
  Texts of a proof, part 10: an ideal semantics of the program, its functions in shallow form, contracts of them. No statement of the seat is proved here.
-/
import Derived.KernelRfl
import Derived.Test.YtaifgaidaglblaaEqualPartsK9
set_option linter.all false
noncomputable section
namespace Go.Proofs.Ytaifgaidaglblaa
namespace Idl
theorem AiX {f:Nat} {G:Aa→Nat→Hp→Option (IV×Hp)} (e:dt.call f=fun ih n=>Pm (G ih n)) (n:Nat) (h:Hp):SS dt (n+1) f [] h=G (SS dt n) n  h:=by
 show dt.call f (SS dt n) n _ h=_
 rw [e];rfl
theorem B0 {f:Nat} {G:Aa→Nat→IV→Hp→Option (IV×Hp)} (e:dt.call f=fun ih n=>Fi (G ih n)) (n:Nat) (a0:IV) (h:Hp):SS dt (n+1) f [a0] h=G (SS dt n) n a0 h:=by
 show dt.call f (SS dt n) n _ h=_
 rw [e];rfl
theorem BC {f:Nat} {G:Aa→Nat→IV→IV→Hp→Option (IV×Hp)} (e:dt.call f=fun ih n=>Ea (G ih n)) (n:Nat) (a0 a1:IV) (h:Hp):SS dt (n+1) f [a0,a1] h=G (SS dt n) n a0 a1 h:=by
 show dt.call f (SS dt n) n _ h=_
 rw [e];rfl
theorem Dw {f:Nat} {G:Aa→Nat→IV→IV→IV→Hp→Option (IV×Hp)} (e:dt.call f=fun ih n=>J7 (G ih n)) (n:Nat) (a0 a1 a2:IV) (h:Hp):SS dt (n+1) f [a0,a1,a2] h=G (SS dt n) n a0 a1 a2 h:=by
 show dt.call f (SS dt n) n _ h=_
 rw [e];rfl
theorem Dv {f:Nat} {G:Aa→Nat→IV→IV→IV→IV→Hp→Option (IV×Hp)} (e:dt.call f=fun ih n=>J6 (G ih n)) (n:Nat) (a0 a1 a2 a3:IV) (h:Hp):SS dt (n+1) f [a0,a1,a2,a3] h=G (SS dt n) n a0 a1 a2 a3 h:=by
 show dt.call f (SS dt n) n _ h=_
 rw [e];rfl
theorem Aub {f:Nat} {G:Aa→Nat→IV→IV→IV→IV→IV→Hp→Option (IV×Hp)} (e:dt.call f=fun ih n=>ar5 (G ih n)) (n:Nat) (a0 a1 a2 a3 a4:IV) (h:Hp):SS dt (n+1) f [a0,a1,a2,a3,a4] h=G (SS dt n) n a0 a1 a2 a3 a4 h:=by
 show dt.call f (SS dt n) n _ h=_
 rw [e];rfl
theorem c4 (n:Nat) (a0 a1 a2 a3:IV) (h:Hp):SS dt (n+1) 4 [a0,a1,a2,a3] h=S4 (SS dt n) n a0 a1 a2 a3 h:=Dv (show dt.call 4=fun ih n=>J6 (S4 ih n) by kernel_rfl) ..
theorem c11 (n:Nat) (a0:IV) (h:Hp):SS dt (n+1) 11 [a0] h=S11 (SS dt n) n a0 h:=B0 (show dt.call 11=fun ih n=>Fi (S11 ih n) by kernel_rfl) ..
theorem c12 (n:Nat) (a0:IV) (h:Hp):SS dt (n+1) 12 [a0] h=S12 (SS dt n) n a0 h:=B0 (show dt.call 12=fun ih n=>Fi (S12 ih n) by kernel_rfl) ..
theorem c13 (n:Nat) (a0 a1 a2 a3:IV) (h:Hp):SS dt (n+1) 13 [a0,a1,a2,a3] h=S13 (SS dt n) n a0 a1 a2 a3 h:=Dv (show dt.call 13=fun ih n=>J6 (S13 ih n) by kernel_rfl) ..
theorem c15 (n:Nat) (a0:IV) (h:Hp):SS dt (n+1) 15 [a0] h=S15 (SS dt n) n a0 h:=B0 (show dt.call 15=fun ih n=>Fi (S15 ih n) by kernel_rfl) ..
theorem c16 (n:Nat) (a0 a1:IV) (h:Hp):SS dt (n+1) 16 [a0,a1] h=S16 (SS dt n) n a0 a1 h:=BC (show dt.call 16=fun ih n=>Ea (S16 ih n) by kernel_rfl) ..
theorem c17 (n:Nat) (a0:IV) (h:Hp):SS dt (n+1) 17 [a0] h=S17 (SS dt n) n a0 h:=B0 (show dt.call 17=fun ih n=>Fi (S17 ih n) by kernel_rfl) ..
theorem c18 (n:Nat) (a0:IV) (h:Hp):SS dt (n+1) 18 [a0] h=S18 (SS dt n) n a0 h:=B0 (show dt.call 18=fun ih n=>Fi (S18 ih n) by kernel_rfl) ..
theorem c19 (n:Nat) (a0 a1 a2:IV) (h:Hp):SS dt (n+1) 19 [a0,a1,a2] h=S19 (SS dt n) n a0 a1 a2 h:=Dw (show dt.call 19=fun ih n=>J7 (S19 ih n) by kernel_rfl) ..
theorem c20 (n:Nat) (a0:IV) (h:Hp):SS dt (n+1) 20 [a0] h=S20 (SS dt n) n a0 h:=B0 (show dt.call 20=fun ih n=>Fi (S20 ih n) by kernel_rfl) ..
theorem c21 (n:Nat) (a0 a1 a2:IV) (h:Hp):SS dt (n+1) 21 [a0,a1,a2] h=S21 (SS dt n) n a0 a1 a2 h:=Dw (show dt.call 21=fun ih n=>J7 (S21 ih n) by kernel_rfl) ..
theorem c22 (n:Nat) (a0 a1 a2:IV) (h:Hp):SS dt (n+1) 22 [a0,a1,a2] h=S22 (SS dt n) n a0 a1 a2 h:=Dw (show dt.call 22=fun ih n=>J7 (S22 ih n) by kernel_rfl) ..
theorem c23 (n:Nat) (a0 a1 a2 a3:IV) (h:Hp):SS dt (n+1) 23 [a0,a1,a2,a3] h=S23 (SS dt n) n a0 a1 a2 a3 h:=Dv (show dt.call 23=fun ih n=>J6 (S23 ih n) by kernel_rfl) ..
theorem c24 (n:Nat) (a0 a1:IV) (h:Hp):SS dt (n+1) 24 [a0,a1] h=S24 (SS dt n) n a0 a1 h:=BC (show dt.call 24=fun ih n=>Ea (S24 ih n) by kernel_rfl) ..
theorem c25 (n:Nat) (a0 a1 a2:IV) (h:Hp):SS dt (n+1) 25 [a0,a1,a2] h=S25 (SS dt n) n a0 a1 a2 h:=Dw (show dt.call 25=fun ih n=>J7 (S25 ih n) by kernel_rfl) ..
theorem c26 (n:Nat) (a0:IV) (h:Hp):SS dt (n+1) 26 [a0] h=S26 (SS dt n) n a0 h:=B0 (show dt.call 26=fun ih n=>Fi (S26 ih n) by kernel_rfl) ..
theorem c27 (n:Nat) (a0:IV) (h:Hp):SS dt (n+1) 27 [a0] h=S27 (SS dt n) n a0 h:=B0 (show dt.call 27=fun ih n=>Fi (S27 ih n) by kernel_rfl) ..
theorem c28 (n:Nat) (a0 a1:IV) (h:Hp):SS dt (n+1) 28 [a0,a1] h=S28 (SS dt n) n a0 a1 h:=BC (show dt.call 28=fun ih n=>Ea (S28 ih n) by kernel_rfl) ..
theorem c29 (n:Nat) (a0:IV) (h:Hp):SS dt (n+1) 29 [a0] h=S29 (SS dt n) n a0 h:=B0 (show dt.call 29=fun ih n=>Fi (S29 ih n) by kernel_rfl) ..
theorem c33 (n:Nat) (a0 a1:IV) (h:Hp):SS dt (n+1) 33 [a0,a1] h=S33 (SS dt n) n a0 a1 h:=BC (show dt.call 33=fun ih n=>Ea (S33 ih n) by kernel_rfl) ..
theorem c34 (n:Nat) (a0 a1:IV) (h:Hp):SS dt (n+1) 34 [a0,a1] h=S34 (SS dt n) n a0 a1 h:=BC (show dt.call 34=fun ih n=>Ea (S34 ih n) by kernel_rfl) ..
theorem c35 (n:Nat) (a0 a1 a2 a3:IV) (h:Hp):SS dt (n+1) 35 [a0,a1,a2,a3] h=S35 (SS dt n) n a0 a1 a2 a3 h:=Dv (show dt.call 35=fun ih n=>J6 (S35 ih n) by kernel_rfl) ..
theorem c36 (n:Nat) (a0:IV) (h:Hp):SS dt (n+1) 36 [a0] h=S36 (SS dt n) n a0 h:=B0 (show dt.call 36=fun ih n=>Fi (S36 ih n) by kernel_rfl) ..
theorem c37 (n:Nat) (a0 a1:IV) (h:Hp):SS dt (n+1) 37 [a0,a1] h=S37 (SS dt n) n a0 a1 h:=BC (show dt.call 37=fun ih n=>Ea (S37 ih n) by kernel_rfl) ..
theorem c38 (n:Nat) (a0:IV) (h:Hp):SS dt (n+1) 38 [a0] h=S38 (SS dt n) n a0 h:=B0 (show dt.call 38=fun ih n=>Fi (S38 ih n) by kernel_rfl) ..
theorem c39 (n:Nat) (a0:IV) (h:Hp):SS dt (n+1) 39 [a0] h=S39 (SS dt n) n a0 h:=B0 (show dt.call 39=fun ih n=>Fi (S39 ih n) by kernel_rfl) ..
theorem c40 (n:Nat) (a0 a1:IV) (h:Hp):SS dt (n+1) 40 [a0,a1] h=S40 (SS dt n) n a0 a1 h:=BC (show dt.call 40=fun ih n=>Ea (S40 ih n) by kernel_rfl) ..
theorem c41 (n:Nat) (a0 a1 a2 a3:IV) (h:Hp):SS dt (n+1) 41 [a0,a1,a2,a3] h=S41 (SS dt n) n a0 a1 a2 a3 h:=Dv (show dt.call 41=fun ih n=>J6 (S41 ih n) by kernel_rfl) ..
theorem c42 (n:Nat) (a0 a1 a2:IV) (h:Hp):SS dt (n+1) 42 [a0,a1,a2] h=S42 (SS dt n) n a0 a1 a2 h:=Dw (show dt.call 42=fun ih n=>J7 (S42 ih n) by kernel_rfl) ..
theorem c43 (n:Nat) (a0 a1:IV) (h:Hp):SS dt (n+1) 43 [a0,a1] h=S43 (SS dt n) n a0 a1 h:=BC (show dt.call 43=fun ih n=>Ea (S43 ih n) by kernel_rfl) ..
theorem c44 (n:Nat) (h:Hp):SS dt (n+1) 44 [] h=S44 (SS dt n) n  h:=AiX (show dt.call 44=fun ih n=>Pm (S44 ih n) by kernel_rfl) ..
theorem c45 (n:Nat) (a0:IV) (h:Hp):SS dt (n+1) 45 [a0] h=S45 (SS dt n) n a0 h:=B0 (show dt.call 45=fun ih n=>Fi (S45 ih n) by kernel_rfl) ..
theorem c46 (n:Nat) (a0 a1:IV) (h:Hp):SS dt (n+1) 46 [a0,a1] h=S46 (SS dt n) n a0 a1 h:=BC (show dt.call 46=fun ih n=>Ea (S46 ih n) by kernel_rfl) ..
theorem c47 (n:Nat) (a0 a1 a2 a3:IV) (h:Hp):SS dt (n+1) 47 [a0,a1,a2,a3] h=S47 (SS dt n) n a0 a1 a2 a3 h:=Dv (show dt.call 47=fun ih n=>J6 (S47 ih n) by kernel_rfl) ..
theorem c48 (n:Nat) (a0 a1 a2 a3:IV) (h:Hp):SS dt (n+1) 48 [a0,a1,a2,a3] h=S48 (SS dt n) n a0 a1 a2 a3 h:=Dv (show dt.call 48=fun ih n=>J6 (S48 ih n) by kernel_rfl) ..
theorem c49 (n:Nat) (a0 a1 a2 a3:IV) (h:Hp):SS dt (n+1) 49 [a0,a1,a2,a3] h=S49 (SS dt n) n a0 a1 a2 a3 h:=Dv (show dt.call 49=fun ih n=>J6 (S49 ih n) by kernel_rfl) ..
theorem c50 (n:Nat) (a0 a1 a2:IV) (h:Hp):SS dt (n+1) 50 [a0,a1,a2] h=S50 (SS dt n) n a0 a1 a2 h:=Dw (show dt.call 50=fun ih n=>J7 (S50 ih n) by kernel_rfl) ..
theorem c51 (n:Nat) (a0 a1:IV) (h:Hp):SS dt (n+1) 51 [a0,a1] h=S51 (SS dt n) n a0 a1 h:=BC (show dt.call 51=fun ih n=>Ea (S51 ih n) by kernel_rfl) ..
theorem c52 (n:Nat) (a0 a1 a2:IV) (h:Hp):SS dt (n+1) 52 [a0,a1,a2] h=S52 (SS dt n) n a0 a1 a2 h:=Dw (show dt.call 52=fun ih n=>J7 (S52 ih n) by kernel_rfl) ..
theorem c53 (n:Nat) (a0 a1 a2 a3:IV) (h:Hp):SS dt (n+1) 53 [a0,a1,a2,a3] h=S53 (SS dt n) n a0 a1 a2 a3 h:=Dv (show dt.call 53=fun ih n=>J6 (S53 ih n) by kernel_rfl) ..
theorem c54 (n:Nat) (a0 a1:IV) (h:Hp):SS dt (n+1) 54 [a0,a1] h=S54 (SS dt n) n a0 a1 h:=BC (show dt.call 54=fun ih n=>Ea (S54 ih n) by kernel_rfl) ..
theorem c55 (n:Nat) (a0:IV) (h:Hp):SS dt (n+1) 55 [a0] h=S55 (SS dt n) n a0 h:=B0 (show dt.call 55=fun ih n=>Fi (S55 ih n) by kernel_rfl) ..
theorem c56 (n:Nat) (a0:IV) (h:Hp):SS dt (n+1) 56 [a0] h=S56 (SS dt n) n a0 h:=B0 (show dt.call 56=fun ih n=>Fi (S56 ih n) by kernel_rfl) ..
theorem c57 (n:Nat) (a0 a1:IV) (h:Hp):SS dt (n+1) 57 [a0,a1] h=S57 (SS dt n) n a0 a1 h:=BC (show dt.call 57=fun ih n=>Ea (S57 ih n) by kernel_rfl) ..
theorem c58 (n:Nat) (a0 a1:IV) (h:Hp):SS dt (n+1) 58 [a0,a1] h=S58 (SS dt n) n a0 a1 h:=BC (show dt.call 58=fun ih n=>Ea (S58 ih n) by kernel_rfl) ..
theorem c59 (n:Nat) (a0 a1:IV) (h:Hp):SS dt (n+1) 59 [a0,a1] h=S59 (SS dt n) n a0 a1 h:=BC (show dt.call 59=fun ih n=>Ea (S59 ih n) by kernel_rfl) ..
theorem c60 (n:Nat) (a0 a1 a2 a3:IV) (h:Hp):SS dt (n+1) 60 [a0,a1,a2,a3] h=S60 (SS dt n) n a0 a1 a2 a3 h:=Dv (show dt.call 60=fun ih n=>J6 (S60 ih n) by kernel_rfl) ..
theorem c61 (n:Nat) (a0:IV) (h:Hp):SS dt (n+1) 61 [a0] h=S61 (SS dt n) n a0 h:=B0 (show dt.call 61=fun ih n=>Fi (S61 ih n) by kernel_rfl) ..
theorem c62 (n:Nat) (a0 a1:IV) (h:Hp):SS dt (n+1) 62 [a0,a1] h=S62 (SS dt n) n a0 a1 h:=BC (show dt.call 62=fun ih n=>Ea (S62 ih n) by kernel_rfl) ..
theorem c63 (n:Nat) (a0:IV) (h:Hp):SS dt (n+1) 63 [a0] h=S63 (SS dt n) n a0 h:=B0 (show dt.call 63=fun ih n=>Fi (S63 ih n) by kernel_rfl) ..
theorem c64 (n:Nat) (h:Hp):SS dt (n+1) 64 [] h=S64 (SS dt n) n  h:=AiX (show dt.call 64=fun ih n=>Pm (S64 ih n) by kernel_rfl) ..
theorem c65 (n:Nat) (a0 a1 a2:IV) (h:Hp):SS dt (n+1) 65 [a0,a1,a2] h=S65 (SS dt n) n a0 a1 a2 h:=Dw (show dt.call 65=fun ih n=>J7 (S65 ih n) by kernel_rfl) ..
theorem c66 (n:Nat) (a0 a1 a2 a3:IV) (h:Hp):SS dt (n+1) 66 [a0,a1,a2,a3] h=S66 (SS dt n) n a0 a1 a2 a3 h:=Dv (show dt.call 66=fun ih n=>J6 (S66 ih n) by kernel_rfl) ..
theorem c68 (n:Nat) (a0:IV) (h:Hp):SS dt (n+1) 68 [a0] h=S68 (SS dt n) n a0 h:=B0 (show dt.call 68=fun ih n=>Fi (S68 ih n) by kernel_rfl) ..
theorem c69 (n:Nat) (a0 a1 a2:IV) (h:Hp):SS dt (n+1) 69 [a0,a1,a2] h=S69 (SS dt n) n a0 a1 a2 h:=Dw (show dt.call 69=fun ih n=>J7 (S69 ih n) by kernel_rfl) ..
theorem c70 (n:Nat) (a0:IV) (h:Hp):SS dt (n+1) 70 [a0] h=S70 (SS dt n) n a0 h:=B0 (show dt.call 70=fun ih n=>Fi (S70 ih n) by kernel_rfl) ..
theorem c71 (n:Nat) (a0:IV) (h:Hp):SS dt (n+1) 71 [a0] h=S71 (SS dt n) n a0 h:=B0 (show dt.call 71=fun ih n=>Fi (S71 ih n) by kernel_rfl) ..
theorem c72 (n:Nat) (a0 a1:IV) (h:Hp):SS dt (n+1) 72 [a0,a1] h=S72 (SS dt n) n a0 a1 h:=BC (show dt.call 72=fun ih n=>Ea (S72 ih n) by kernel_rfl) ..
theorem c73 (n:Nat) (a0 a1:IV) (h:Hp):SS dt (n+1) 73 [a0,a1] h=S73 (SS dt n) n a0 a1 h:=BC (show dt.call 73=fun ih n=>Ea (S73 ih n) by kernel_rfl) ..
theorem c74 (n:Nat) (a0 a1:IV) (h:Hp):SS dt (n+1) 74 [a0,a1] h=S74 (SS dt n) n a0 a1 h:=BC (show dt.call 74=fun ih n=>Ea (S74 ih n) by kernel_rfl) ..
theorem c75 (n:Nat) (a0 a1:IV) (h:Hp):SS dt (n+1) 75 [a0,a1] h=S75 (SS dt n) n a0 a1 h:=BC (show dt.call 75=fun ih n=>Ea (S75 ih n) by kernel_rfl) ..
theorem c76 (n:Nat) (a0 a1:IV) (h:Hp):SS dt (n+1) 76 [a0,a1] h=S76 (SS dt n) n a0 a1 h:=BC (show dt.call 76=fun ih n=>Ea (S76 ih n) by kernel_rfl) ..
theorem c77 (n:Nat) (a0:IV) (h:Hp):SS dt (n+1) 77 [a0] h=S77 (SS dt n) n a0 h:=B0 (show dt.call 77=fun ih n=>Fi (S77 ih n) by kernel_rfl) ..
theorem c78 (n:Nat) (a0 a1:IV) (h:Hp):SS dt (n+1) 78 [a0,a1] h=S78 (SS dt n) n a0 a1 h:=BC (show dt.call 78=fun ih n=>Ea (S78 ih n) by kernel_rfl) ..
theorem c79 (n:Nat) (a0 a1:IV) (h:Hp):SS dt (n+1) 79 [a0,a1] h=S79 (SS dt n) n a0 a1 h:=BC (show dt.call 79=fun ih n=>Ea (S79 ih n) by kernel_rfl) ..
theorem c80 (n:Nat) (a0 a1:IV) (h:Hp):SS dt (n+1) 80 [a0,a1] h=S80 (SS dt n) n a0 a1 h:=BC (show dt.call 80=fun ih n=>Ea (S80 ih n) by kernel_rfl) ..
theorem c81 (n:Nat) (a0 a1 a2 a3:IV) (h:Hp):SS dt (n+1) 81 [a0,a1,a2,a3] h=S81 (SS dt n) n a0 a1 a2 a3 h:=Dv (show dt.call 81=fun ih n=>J6 (S81 ih n) by kernel_rfl) ..
theorem c82 (n:Nat) (a0:IV) (h:Hp):SS dt (n+1) 82 [a0] h=S82 (SS dt n) n a0 h:=B0 (show dt.call 82=fun ih n=>Fi (S82 ih n) by kernel_rfl) ..
theorem c83 (n:Nat) (a0:IV) (h:Hp):SS dt (n+1) 83 [a0] h=S83 (SS dt n) n a0 h:=B0 (show dt.call 83=fun ih n=>Fi (S83 ih n) by kernel_rfl) ..
theorem c84 (n:Nat) (a0 a1:IV) (h:Hp):SS dt (n+1) 84 [a0,a1] h=S84 (SS dt n) n a0 a1 h:=BC (show dt.call 84=fun ih n=>Ea (S84 ih n) by kernel_rfl) ..
theorem c85 (n:Nat) (a0 a1:IV) (h:Hp):SS dt (n+1) 85 [a0,a1] h=S85 (SS dt n) n a0 a1 h:=BC (show dt.call 85=fun ih n=>Ea (S85 ih n) by kernel_rfl) ..
theorem c86 (n:Nat) (a0 a1:IV) (h:Hp):SS dt (n+1) 86 [a0,a1] h=S86 (SS dt n) n a0 a1 h:=BC (show dt.call 86=fun ih n=>Ea (S86 ih n) by kernel_rfl) ..
theorem c87 (n:Nat) (a0 a1:IV) (h:Hp):SS dt (n+1) 87 [a0,a1] h=S87 (SS dt n) n a0 a1 h:=BC (show dt.call 87=fun ih n=>Ea (S87 ih n) by kernel_rfl) ..
theorem c88 (n:Nat) (a0 a1 a2:IV) (h:Hp):SS dt (n+1) 88 [a0,a1,a2] h=S88 (SS dt n) n a0 a1 a2 h:=Dw (show dt.call 88=fun ih n=>J7 (S88 ih n) by kernel_rfl) ..
theorem c89 (n:Nat) (a0 a1 a2:IV) (h:Hp):SS dt (n+1) 89 [a0,a1,a2] h=S89 (SS dt n) n a0 a1 a2 h:=Dw (show dt.call 89=fun ih n=>J7 (S89 ih n) by kernel_rfl) ..
theorem c90 (n:Nat) (a0 a1 a2:IV) (h:Hp):SS dt (n+1) 90 [a0,a1,a2] h=S90 (SS dt n) n a0 a1 a2 h:=Dw (show dt.call 90=fun ih n=>J7 (S90 ih n) by kernel_rfl) ..
theorem c91 (n:Nat) (a0 a1 a2:IV) (h:Hp):SS dt (n+1) 91 [a0,a1,a2] h=S91 (SS dt n) n a0 a1 a2 h:=Dw (show dt.call 91=fun ih n=>J7 (S91 ih n) by kernel_rfl) ..
theorem c92 (n:Nat) (a0 a1 a2 a3:IV) (h:Hp):SS dt (n+1) 92 [a0,a1,a2,a3] h=S92 (SS dt n) n a0 a1 a2 a3 h:=Dv (show dt.call 92=fun ih n=>J6 (S92 ih n) by kernel_rfl) ..
theorem c93 (n:Nat) (a0 a1:IV) (h:Hp):SS dt (n+1) 93 [a0,a1] h=S93 (SS dt n) n a0 a1 h:=BC (show dt.call 93=fun ih n=>Ea (S93 ih n) by kernel_rfl) ..
theorem c94 (n:Nat) (a0 a1 a2:IV) (h:Hp):SS dt (n+1) 94 [a0,a1,a2] h=S94 (SS dt n) n a0 a1 a2 h:=Dw (show dt.call 94=fun ih n=>J7 (S94 ih n) by kernel_rfl) ..
theorem c95 (n:Nat) (a0 a1 a2 a3:IV) (h:Hp):SS dt (n+1) 95 [a0,a1,a2,a3] h=S95 (SS dt n) n a0 a1 a2 a3 h:=Dv (show dt.call 95=fun ih n=>J6 (S95 ih n) by kernel_rfl) ..
def UU1:=AwV @AiZ.eq_1<|AwV @Aic.eq_1<|AwV @Ag0.eq_1<|AwV @Agv.eq_1<|AwV @AgH.eq_1<|AwV @AgP.eq_1<|AwV @AfL.eq_1<|AwV @AgM.eq_1<|AwV @AjA.eq_1<|AwV @Ah4.eq_1<|AwV @AhO.eq_1<|AwV @Aga.eq_1<|AwV @AjI.eq_1<|AwV @AiF.eq_1<|AwV @Ajz.eq_1<|AwV @Ajm.eq_1<|AwV @Af0.eq_1<|AwV @Ajk.eq_1<|AwV @AjK.eq_1<|AwV @Agy.eq_1<|@S4.eq_1
def UU2:=AwV @Il.eq_1<|AwV @Jj.eq_1<|AwV @Is.eq_1<|AwV @Jl.eq_1<|AwV @I7.eq_1<|AwV @Ja.eq_1<|AwV @I5.eq_1<|AwV @In.eq_1<|AwV @IR.eq_1<|AwV @IN.eq_1<|AwV @IS.eq_1<|AwV @IJ.eq_1<|AwV @Jn.eq_1<|AwV @IX.eq_1<|AwV @IB.eq_1<|AwV @Ji.eq_1<|@S60.eq_1
def UU3:=AwV @Aie.eq_1<|AwV @Agi.eq_1<|AwV @AfU.eq_1<|AwV @Ahl.eq_1<|AwV @AhV.eq_1<|@S51.eq_1
def UU4:=AwV @AcS.eq_1<|AwV @AeC.eq_1<|AwV @AaY.eq_1<|AwV @Aa2.eq_1<|AwV @Zb.eq_1<|AwV @Zr.eq_1<|AwV @YV.eq_1<|AwV @Yb.eq_1<|AwV @Ad2.eq_1<|AwV @AbW.eq_1<|AwV @AbG.eq_1<|AwV @Ab9.eq_1<|AwV @Zo.eq_1<|AwV @AbA.eq_1<|AwV @AbI.eq_1<|AwV @YW.eq_1<|@S13.eq_1
def UU5:=AwV @Xf.eq_1<|AwV @VY.eq_1<|AwV @Xv.eq_1<|AwV @WV.eq_1<|AwV @V4.eq_1<|AwV @WY.eq_1<|AwV @Xu.eq_1<|AwV @Wa.eq_1<|AwV @Wv.eq_1<|AwV @Ah0.eq_1<|@S20.eq_1
def X7:=AwV @AcF.eq_1<|AwV @AdU.eq_1<|AwV @Abe.eq_1<|AwV @Z6.eq_1<|AwV @Ad3.eq_1<|AwV @Abr.eq_1<|AwV @AaB.eq_1<|AwV @Aex.eq_1<|AwV @Aa7.eq_1<|AwV @Aa3.eq_1<|AwV @AeF.eq_1<|AwV @Abw.eq_1<|AwV @YN.eq_1<|AwV @AdC.eq_1<|AwV @Zn.eq_1<|AwV @AbS.eq_1<|AwV @Adu.eq_1<|AwV @YQ.eq_1<|AwV @Yo.eq_1<|AwV @Aa1.eq_1<|AwV @AaQ.eq_1<|AwV @ZV.eq_1<|AwV @ZX.eq_1<|AwV @AdB.eq_1<|AwV @Y9.eq_1<|AwV @Aa8.eq_1<|AwV @Ac9.eq_1<|AwV @AcZ.eq_1<|AwV @Acu.eq_1<|AwV @Yu.eq_1<|AwV @Ac2.eq_1<|AwV @Yj.eq_1<|AwV @Abi.eq_1<|AwV @AaE.eq_1<|AwV @AdA.eq_1<|AwV @AbQ.eq_1<|AwV @Zy.eq_1<|AwV @Z1.eq_1<|AwV @Aan.eq_1<|AwV @AbK.eq_1<|AwV @Adx.eq_1<|@S23.eq_1
def UU7:=AwV @Aew.eq_1<|AwV @Ad7.eq_1<|AwV @Aa5.eq_1<|AwV @Aca.eq_1<|AwV @Zv.eq_1<|AwV @Zj.eq_1<|AwV @ZB.eq_1<|AwV @YR.eq_1<|AwV @Aen.eq_1<|AwV @YL.eq_1<|AwV @AaX.eq_1<|AwV @Aak.eq_1<|AwV @Adj.eq_1<|AwV @XU.eq_1<|AwV @Y3.eq_1<|AwV @Yp.eq_1<|AwV @Yz.eq_1<|AwV @AdS.eq_1<|AwV @Yy.eq_1<|AwV @Yw.eq_1<|AwV @XS.eq_1<|AwV @AbB.eq_1<|AwV @AeI.eq_1<|AwV @ZE.eq_1<|AwV @Ab3.eq_1<|AwV @AcK.eq_1<|AwV @ZU.eq_1<|AwV @Ac5.eq_1<|AwV @Ab7.eq_1<|AwV @AcH.eq_1<|AwV @Adt.eq_1<|AwV @Ym.eq_1<|AwV @Adk.eq_1<|AwV @AdW.eq_1<|AwV @Ys.eq_1<|AwV @AaL.eq_1<|AwV @Acn.eq_1<|AwV @ZG.eq_1<|AwV @Zt.eq_1<|AwV @Aai.eq_1<|AwV @ZI.eq_1<|AwV @Zs.eq_1<|AwV @Aez.eq_1<|AwV @AaR.eq_1<|@S35.eq_1
def UU8:=AwV @YM.eq_1<|AwV @Aeu.eq_1<|AwV @Abc.eq_1<|AwV @AaV.eq_1<|AwV @Aa4.eq_1<|AwV @AcO.eq_1<|AwV @AcL.eq_1<|AwV @Yg.eq_1<|AwV @Adl.eq_1<|AwV @Aay.eq_1<|AwV @ZN.eq_1<|AwV @Aam.eq_1<|AwV @Y2.eq_1<|AwV @Y6.eq_1<|AwV @Acl.eq_1<|AwV @AaZ.eq_1<|AwV @YA.eq_1<|AwV @Adr.eq_1<|AwV @Aau.eq_1<|AwV @Ad9.eq_1<|AwV @Aek.eq_1<|AwV @Acz.eq_1<|AwV @AaT.eq_1<|AwV @XW.eq_1<|AwV @Zz.eq_1<|AwV @Aaq.eq_1<|AwV @Zd.eq_1<|AwV @Adc.eq_1<|AwV @Aab.eq_1<|AwV @Acg.eq_1<|AwV @YZ.eq_1<|AwV @AdN.eq_1<|AwV @AbL.eq_1<|AwV @AaF.eq_1<|AwV @Aa9.eq_1<|AwV @ZO.eq_1<|AwV @Abd.eq_1<|AwV @Ac0.eq_1<|AwV @Acj.eq_1<|AwV @Y0.eq_1<|AwV @Aee.eq_1<|AwV @Aah.eq_1<|AwV @Adq.eq_1<|AwV @ZW.eq_1<|AwV @Yq.eq_1<|AwV @Abq.eq_1<|AwV @Aaw.eq_1<|AwV @Abo.eq_1<|AwV @YI.eq_1<|AwV @Aat.eq_1<|AwV @Adg.eq_1<|AwV @ZR.eq_1<|AwV @AbE.eq_1<|AwV @Y5.eq_1<|AwV @Z7.eq_1<|AwV @Zx.eq_1<|@S53.eq_1
def XC:=AwV @Aal.eq_1<|AwV @AaH.eq_1<|AwV @AcC.eq_1<|AwV @Z2.eq_1<|AwV @Adf.eq_1<|AwV @Ac7.eq_1<|AwV @AeA.eq_1<|AwV @AaA.eq_1<|AwV @Abv.eq_1<|AwV @AaK.eq_1<|AwV @AcA.eq_1<|AwV @Aa0.eq_1<|AwV @AdY.eq_1<|AwV @AcV.eq_1<|AwV @Yr.eq_1<|AwV @Abg.eq_1<|AwV @ZC.eq_1<|AwV @Aef.eq_1<|AwV @AaU.eq_1<|AwV @Abs.eq_1<|AwV @Acb.eq_1<|AwV @Ace.eq_1<|AwV @Ze.eq_1<|AwV @Aao.eq_1<|AwV @AaM.eq_1<|AwV @Ade.eq_1<|AwV @Zw.eq_1<|AwV @AdJ.eq_1<|AwV @Aci.eq_1<|AwV @Abb.eq_1<|AwV @Ad6.eq_1<|AwV @XP.eq_1<|AwV @Ya.eq_1<|AwV @AdK.eq_1<|AwV @AaC.eq_1<|AwV @Z4.eq_1<|AwV @YT.eq_1<|AwV @Aei.eq_1<|AwV @AaS.eq_1<|AwV @Zg.eq_1<|AwV @AdP.eq_1<|AwV @AbH.eq_1<|AwV @AeE.eq_1<|AwV @AbD.eq_1<|AwV @Aaz.eq_1<|AwV @Ab2.eq_1<|AwV @Abn.eq_1<|AwV @AcE.eq_1<|AwV @YK.eq_1<|AwV @Abm.eq_1<|AwV @Aed.eq_1<|AwV @Aad.eq_1<|AwV @YY.eq_1<|AwV @Abx.eq_1<|AwV @Aev.eq_1<|AwV @ZJ.eq_1<|AwV @Y8.eq_1<|AwV @XT.eq_1<|AwV @Zu.eq_1<|@S49.eq_1
def KH:=AwV @AbX.eq_1<|AwV @YP.eq_1<|AwV @Aba.eq_1<|AwV @Ac3.eq_1<|AwV @AdG.eq_1<|AwV @AaO.eq_1<|AwV @Yc.eq_1<|AwV @Zh.eq_1<|AwV @Acm.eq_1<|AwV @AaN.eq_1<|AwV @Adm.eq_1<|AwV @AcM.eq_1<|AwV @Ad0.eq_1<|AwV @YG.eq_1<|AwV @Z3.eq_1<|AwV @AdI.eq_1<|AwV @AaI.eq_1<|AwV @Ab1.eq_1<|AwV @AdQ.eq_1<|AwV @Ac6.eq_1<|AwV @Acv.eq_1<|AwV @AcW.eq_1<|AwV @AdD.eq_1<|AwV @Aax.eq_1<|AwV @Yf.eq_1<|AwV @AbN.eq_1<|AwV @Abk.eq_1<|AwV @Acc.eq_1<|@S21.eq_1
def PT:=AwV @So.eq_1<|AwV @Td.eq_1<|AwV @R3.eq_1<|AwV @R7.eq_1<|AwV @Sk.eq_1<|AwV @TR.eq_1<|AwV @T9.eq_1<|AwV @RR.eq_1<|AwV @RG.eq_1<|AwV @R2.eq_1<|AwV @Ss.eq_1<|AwV @Ry.eq_1<|AwV @Tt.eq_1<|AwV @Re.eq_1<|AwV @AcX.eq_1<|@S47.eq_1
def JW:=AwV @Rf.eq_1<|AwV @Rj.eq_1<|AwV @Uo.eq_1<|AwV @RB.eq_1<|AwV @SI.eq_1<|AwV @TL.eq_1<|AwV @Q0.eq_1<|AwV @TZ.eq_1<|AwV @S8.eq_1<|AwV @SE.eq_1<|AwV @SY.eq_1<|AwV @RQ.eq_1<|AwV @T8.eq_1<|AwV @SA.eq_1<|AwV @SM.eq_1<|AwV @TB.eq_1<|AwV @RZ.eq_1<|AwV @S6.eq_1<|AwV @Rm.eq_1<|AwV @RJ.eq_1<|AwV @Sn.eq_1<|AwV @Se.eq_1<|AwV @RS.eq_1<|AwV @RP.eq_1<|AwV @Sl.eq_1<|AwV @R4.eq_1<|AwV @QW.eq_1<|AwV @SU.eq_1<|AwV @TQ.eq_1<|AwV @Ue.eq_1<|AwV @TC.eq_1<|AwV @Uc.eq_1<|AwV @IG.eq_1<|AwV @RT.eq_1<|@S38.eq_1
def Af9:=AwV @EQ.eq_1<|AwV @EV.eq_1<|AwV @EN.eq_1<|AwV @E1.eq_1<|AwV @EY.eq_1<|AwV @Ey.eq_1<|AwV @Ho.eq_1<|AwV @ES.eq_1<|AwV @EK.eq_1<|AwV @EH.eq_1<|AwV @EL.eq_1<|AwV @ED.eq_1<|AwV @EO.eq_1<|AwV @EX.eq_1<|AwV @EW.eq_1<|AwV @Ez.eq_1<|AwV @E0.eq_1<|AwV @EM.eq_1<|AwV @EA.eq_1<|AwV @EU.eq_1<|AwV @EG.eq_1<|AwV @EJ.eq_1<|AwV @ER.eq_1<|AwV @EZ.eq_1<|AwV @E3.eq_1<|AwV @EF.eq_1<|AwV @ET.eq_1<|AwV @EB.eq_1<|AwV @EC.eq_1<|@S41.eq_1
def F7:=AwV @Aeq.eq_1<|AwV @AdE.eq_1<|AwV @Ye.eq_1<|AwV @Adb.eq_1<|AwV @Zq.eq_1<|AwV @ZL.eq_1<|AwV @Zl.eq_1<|AwV @Aaj.eq_1<|AwV @Aep.eq_1<|AwV @Ad4.eq_1<|AwV @YE.eq_1<|AwV @AdO.eq_1<|AwV @Abu.eq_1<|AwV @AdT.eq_1<|AwV @Acs.eq_1<|AwV @AeD.eq_1<|AwV @Aaa.eq_1<|AwV @Yl.eq_1<|AwV @Z9.eq_1<|AwV @AcU.eq_1<|AwV @Adh.eq_1<|AwV @Aaf.eq_1<|AwV @Ado.eq_1<|AwV @Zc.eq_1<|AwV @AaP.eq_1<|AwV @Z5.eq_1<|AwV @ZD.eq_1<|AwV @ZP.eq_1<|AwV @AdF.eq_1<|AwV @Ab5.eq_1<|AwV @Abt.eq_1<|AwV @Ael.eq_1<|AwV @ZT.eq_1<|AwV @AbM.eq_1<|AwV @YO.eq_1<|AwV @Zp.eq_1<|AwV @Acw.eq_1<|AwV @AbO.eq_1<|AwV @Aap.eq_1<|AwV @YX.eq_1<|AwV @AcD.eq_1<|AwV @YC.eq_1<|AwV @ZK.eq_1<|AwV @AcY.eq_1<|AwV @Acp.eq_1<|AwV @AbR.eq_1<|AwV @ZA.eq_1<|AwV @Ab6.eq_1<|AwV @Z0.eq_1<|AwV @AeG.eq_1<|@S59.eq_1
def VP:=AwV @Ii.eq_1<|AwV @Jc.eq_1<|AwV @IC.eq_1<|AwV @I4.eq_1<|AwV @Jr.eq_1<|AwV @Iy.eq_1<|AwV @IH.eq_1<|AwV @Ju.eq_1<|AwV @Jh.eq_1<|AwV @Jo.eq_1<|AwV @Ih.eq_1<|AwV @I6.eq_1<|AwV @Ip.eq_1<|AwV @It.eq_1<|AwV @Ix.eq_1<|AwV @Iv.eq_1<|AwV @Jm.eq_1<|AwV @I0.eq_1<|AwV @Jq.eq_1<|AwV @Z8.eq_1<|AwV @Jt.eq_1<|AwV @II.eq_1<|AwV @Jf.eq_1<|@S42.eq_1
def Ah9:=AwV @Ks.eq_1<|AwV @Kq.eq_1<|AwV @Ln.eq_1<|AwV @LW.eq_1<|AwV @KD.eq_1<|AwV @LL.eq_1<|AwV @Lt.eq_1<|AwV @Lw.eq_1<|AwV @LO.eq_1<|AwV @Kz.eq_1<|AwV @LK.eq_1<|AwV @Kv.eq_1<|AwV @Ko.eq_1<|AwV @Kt.eq_1<|@S52.eq_1
def Af4:=AwV @AhN.eq_1<|AwV @AiN.eq_1<|AwV @Ahg.eq_1<|AwV @Aha.eq_1<|AwV @Aik.eq_1<|@S62.eq_1
def Ajs:=AwV @AiA.eq_1<|AwV @Ahf.eq_1<|AwV @Ais.eq_1<|AwV @Ai2.eq_1<|AwV @Ag2.eq_1<|AwV @Aiu.eq_1<|@S71.eq_1
def Ahe:=AwV @KZ.eq_1<|AwV @Kd.eq_1<|AwV @K4.eq_1<|AwV @KA.eq_1<|AwV @LF.eq_1<|AwV @Lv.eq_1<|AwV @Lq.eq_1<|@S63.eq_1
def Xr:=AwV @DR.eq_1<|AwV @DZ.eq_1<|AwV @DN.eq_1<|AwV @DF.eq_1<|AwV @Dj.eq_1<|AwV @Dx.eq_1<|AwV @CI.eq_1<|AwV @DA.eq_1<|AwV @D3.eq_1<|AwV @DD.eq_1<|AwV @DI.eq_1<|AwV @Dl.eq_1<|AwV @Do.eq_1<|AwV @DB.eq_1<|AwV @Dk.eq_1<|AwV @Dp.eq_1<|AwV @DJ.eq_1<|AwV @DO.eq_1<|AwV @D6.eq_1<|AwV @DQ.eq_1<|AwV @Ds.eq_1<|AwV @DU.eq_1<|AwV @Du.eq_1<|AwV @Dq.eq_1<|AwV @DC.eq_1<|AwV @Fv.eq_1<|AwV @DS.eq_1<|AwV @Dy.eq_1<|AwV @Dz.eq_1<|AwV @DX.eq_1<|AwV @DM.eq_1<|@S66.eq_1
def Afo:=AwV @Ajr.eq_1<|AwV @Ahd.eq_1<|AwV @AfP.eq_1<|AwV @AfX.eq_1<|AwV @AiI.eq_1<|@S85.eq_1
def AhH:=AwV @NJ.eq_1<|AwV @NP.eq_1<|AwV @N6.eq_1<|AwV @NL.eq_1<|AwV @Nz.eq_1<|AwV @NC.eq_1<|AwV @NB.eq_1<|AwV @NA.eq_1<|AwV @Aag.eq_1<|AwV @NR.eq_1<|AwV @NE.eq_1<|AwV @NW.eq_1<|AwV @Nv.eq_1<|AwV @NY.eq_1<|AwV @NI.eq_1<|@S65.eq_1
def XM:=AwV @AaG.eq_1<|AwV @ZY.eq_1<|AwV @Y7.eq_1<|AwV @Aav.eq_1<|AwV @Aae.eq_1<|AwV @Aej.eq_1<|AwV @XR.eq_1<|AwV @AcJ.eq_1<|AwV @Yk.eq_1<|AwV @Y1.eq_1<|AwV @YU.eq_1<|AwV @Zf.eq_1<|@S80.eq_1
def Ai3:=AwV @Ads.eq_1<|AwV @YB.eq_1<|AwV @AbT.eq_1<|AwV @Aac.eq_1<|AwV @Aa6.eq_1<|AwV @Aes.eq_1<|AwV @Aby.eq_1<|AwV @AcR.eq_1<|AwV @YF.eq_1<|@S82.eq_1
def AfS:=AwV @X0.eq_1<|AwV @AaD.eq_1<|AwV @AbP.eq_1<|AwV @Ab4.eq_1<|AwV @AaJ.eq_1<|AwV @Acf.eq_1<|AwV @AbV.eq_1<|AwV @AdM.eq_1<|AwV @AbF.eq_1<|AwV @Aer.eq_1<|AwV @Yv.eq_1<|AwV @AcG.eq_1<|AwV @AcB.eq_1<|AwV @Yx.eq_1<|AwV @Aeo.eq_1<|AwV @Ad5.eq_1<|AwV @AdR.eq_1<|AwV @Zi.eq_1<|AwV @Aec.eq_1<|AwV @Adv.eq_1<|AwV @Adp.eq_1<|AwV @Yh.eq_1<|@S19.eq_1
section
variable {β:Type} {E:Env} {t:TypeId}
abbrev iv (n:Int):IV:=.fv (.int .i64 n)
theorem An6 (c:Prop) [Decidable c] (a b:Option β):Am (.fv (.bool (decide c))) a b=if c then a else b:=by
 by_cases h:c
 ·rw [decide_eq_true h,if_pos h];rfl
 ·rw [decide_eq_false h,if_neg h];rfl
theorem Aj3 (o:Nat) (r:Ref) (off:Nat) (k:IV→Option β):Ac o (.ptr r off) k=k (.ptr r (off+o)):=by
 show (Ec (off+o) fun o=>k (.ptr r o))=_
 rw [BW]
theorem Qy (o:Nat) (cs:List FV) (off:Nat) (k:IV→Option β):Ac o (.fv (.fp cs off)) k=k (.fv (.fp cs (off+o))):=by
 show (Ec (off+o) fun o=>k (.fv (.fp cs o)))=_
 rw [BW]
theorem AnX {size:Nat} {es:List FV} {n:Nat} {el:FV} (he:es[n]?=some el) (hl:el.cells.length=size) (k:IV→Option β):A8 size (.fv (.sl es)) (iv n) k=k (.fv (.fp el.cells 0)):=by
 show (DE es n fun el=>elK size el k)=_
 rw [C3,he]
 show elK size el k=_
 rw [AhC,if_pos hl]
theorem Mu {op:BinOp} {g:Nat→Nat→Bool} (hg:∀a b:Nat,FP E op t (iv a) (iv b)=some (.fv (.bool (g a b)))) (a b:Int) (k:IV→Option β) :
  Ui E t op g (iv a) (iv b) k=(FP E op t (iv a) (iv b)).bind k:=by
 cases a with
 | ofNat a =>
  cases b with
  | ofNat b =>
   show Aix (g a b) k=_
   rw [Vj,show FP E op t (iv (Int.ofNat a)) (iv (Int.ofNat b))=some (.fv (.bool (g a b))) from hg a b]
   rfl
  | negSucc b =>
   show CQ E t op _ _ k=_
   rw [CQ,CL]
 | negSucc a =>
  show CQ E t op _ _ k=_
  rw [CQ,CL]
theorem Aq2 (a b:Int) (k:IV→Option β):A4 E t (iv a) (iv b) k=k (.fv (.bool (decide (a=b)))):=by
 rw [A4,Mu (fun a b=>by
  show some (IV.fv (.bool ((a:Int) == (b:Int))))=_
  rw [IF];congr 3;exact decide_eq_decide.2 Int.ofNat_inj)]
 rfl
theorem ArS (a b:Int) (k:IV→Option β):Hb E t (iv a) (iv b) k=k (.fv (.bool (!decide (a=b)))):=by
 rw [Hb,Mu (fun a b=>by
  show some (IV.fv (.bool ((a:Int) != (b:Int))))=_
  rw [IF];congr 3
  show (!decide ((a:Int)=(b:Int)))=!decide (a=b)
  congr 1;exact decide_eq_decide.2 Int.ofNat_inj)]
 rfl
theorem Aro (a b:Int) (k:IV→Option β):GP E t (iv a) (iv b) k=k (.fv (.bool (decide (a<b)))):=by
 rw [GP,Mu (fun a b=>by
  show some (IV.fv (.bool (decide ((a:Int)<(b:Int)))))=_
  rw [Bb];congr 3;exact decide_eq_decide.2 (by omega))]
 rfl
theorem Ary (a b:Int) (k:IV→Option β):leS E t (iv a) (iv b) k=k (.fv (.bool (decide (a≤b)))):=by
 rw [leS,Mu (fun a b=>by
  show some (IV.fv (.bool (decide ((a:Int)≤(b:Int)))))=_
  rw [Bb];congr 3;exact decide_eq_decide.2 (by omega))]
 rfl
theorem AsZ (b:Bool) (k:IV→Option β):C9 (Nq .not (.fv (.bool b))) k=k (.fv (.bool !b)):=by
 rw [CL];rfl
end
end Idl
end Go.Proofs.Ytaifgaidaglblaa
namespace Go.Proofs.Ytaifgaidaglblaa
namespace Idl
section
variable {β:Type} {α:Type}
theorem n0 (a:α) (l:List α) (k:α→Option β):DE (a::l) 0 k=k a:=rfl
theorem n1 (a b:α) (l:List α) (k:α→Option β):DE (a::b::l) 1 k=k b:=rfl
theorem n2 (a b c:α) (l:List α) (k:α→Option β):DE (a::b::c::l) 2 k=k c:=rfl
theorem n3 (a b c d:α) (l:List α) (k:α→Option β):DE (a::b::c::d::l) 3 k=k d:=rfl
theorem n4 (a b c d e:α) (l:List α) (k:α→Option β):DE (a::b::c::d::e::l) 4 k=k e:=rfl
theorem n5 (a b c d e f:α) (l:List α) (k:α→Option β):DE (a::b::c::d::e::f::l) 5 k=k f:=rfl
theorem n6 (a b c d e f g:α) (l:List α) (k:α→Option β):DE (a::b::c::d::e::f::g::l) 6 k=k g:=rfl
theorem d0 (l:List α) (k:List α→Option β):FH l 0 k=k l:=by cases l<;>rfl
theorem d1 (a:α) (l:List α) (k:List α→Option β):FH (a::l) 1 k=k l:=by cases l<;>rfl
theorem d2 (a b:α) (l:List α) (k:List α→Option β):FH (a::b::l) 2 k=k l:=by cases l<;>rfl
theorem d3 (a b c:α) (l:List α) (k:List α→Option β):FH (a::b::c::l) 3 k=k l:=by cases l<;>rfl
theorem d4 (a b c d:α) (l:List α) (k:List α→Option β):FH (a::b::c::d::l) 4 k=k l:=by cases l<;>rfl
theorem t1 (a:α) (l:List α) (k:List α→Option β):F6 (a::l) 1 k=k [a]:=by cases l<;>rfl
theorem t2 (a b:α) (l:List α) (k:List α→Option β):F6 (a::b::l) 2 k=k [a,b]:=by cases l<;>rfl
theorem t3 (a b c:α) (l:List α) (k:List α→Option β):F6 (a::b::c::l) 3 k=k [a,b,c]:=by cases l<;>rfl
theorem t4 (a b c d:α) (l:List α) (k:List α→Option β):F6 (a::b::c::d::l) 4 k=k [a,b,c,d]:=by cases l<;>rfl
theorem t7 (a b c d e f g:α) (l:List α) (k:List α→Option β):F6 (a::b::c::d::e::f::g::l) 7 k=k [a,b,c,d,e,f,g]:=by cases l<;>rfl
theorem Ake (l:List α) (k:List α→Option β):spK l k=k l:=HQ l k
theorem ap0 (us:List α) (k:List α→Option β):Nn [] us k=k us:=rfl
theorem ap1 (u:α) (l us:List α) (k:List α→Option β):Nn (u::l) us k=Nn l us fun w=>k (u::w):=rfl
theorem ArF (a:α) (l:List α) (k:α→List α→Option β):Ay (a::l) k=k a l:=rfl
theorem c_t {γ:Type} (a b:γ):cond true a b=a:=rfl
theorem c_f {γ:Type} (a b:γ):cond false a b=b:=rfl
end
section
variable {β:Type}
theorem AkB {s j:Nat} (h:(s == j)=false):Nat.beq s j=false:=by
 rw [IF];simpa using h
theorem LS (s:Nat) (own:List (Nat×Blk)) (ext:List Blk) (k:Blk→Option β):Da (.own s) ⟨own,ext⟩ k=Fj own s k:=rfl
theorem AsH (j:Nat) (own:List (Nat×Blk)) (ext:List Blk) (k:Blk→Option β):Da (.ext j) ⟨own,ext⟩ k=DE ext j k:=rfl
theorem AmK (s:Nat) (b:Blk) (l:List (Nat×Blk)) (k:Blk→Option β):Fj ((s,b)::l) s k=k b:=by
 show cond (Nat.beq s s) (k b) _=_
 rw [show Nat.beq s s=true from Nat.beq_refl s]
 rfl
theorem Aoa {s j:Nat} (hne:(s == j)=false) (b:Blk) (l:List (Nat×Blk)) (k:Blk→Option β):Fj ((j,b)::l) s k=Fj l s k:=by
 show cond (Nat.beq s j) (k b) _=_
 rw [show Nat.beq s j=false from AkB hne]
 rfl
theorem AsU (s:Nat) (b:Blk) (k:List (Nat×Blk)→Option β):A2 [] s b k=k [(s,b)]:=rfl
theorem AmD (s:Nat) (b c:Blk) (l:List (Nat×Blk)) (k:List (Nat×Blk)→Option β):A2 ((s,c)::l) s b k=k ((s,b)::l):=by
 show cond (Nat.beq s s) _ _=_
 rw [show Nat.beq s s=true from Nat.beq_refl s]
 rfl
theorem Aob {s j:Nat} (hne:(s == j)=false) (b c:Blk) (l:List (Nat×Blk)) (k:List (Nat×Blk)→Option β):A2 ((j,c)::l) s b k=A2 l s b fun l=>k ((j,c)::l):=by
 show cond (Nat.beq s j) _ _=_
 rw [show Nat.beq s j=false from AkB hne]
 rfl
theorem ArU (s:Nat) (a:Option β):CT [] s a=a:=rfl
theorem Ap4 {s j:Nat} (hne:(s == j)=false) (b:Blk) (l:List (Nat×Blk)) (a:Option β):CT ((j,b)::l) s a=CT l s a:=by
 show cond (Nat.beq s j) none _=_
 rw [show Nat.beq s j=false from AkB hne]
 rfl
theorem AeH (s:Nat) (b:Blk) (own:List (Nat×Blk)) (ext:List Blk) (k:Hp→Option β):F9 (.own s) b ⟨own,ext⟩ k=A2 own s b fun own=>k ⟨own,ext⟩:=rfl
theorem Alu (j:Nat) (b:Blk) (own:List (Nat×Blk)) (ext:List Blk) (k:Hp→Option β):F9 (.ext j) b ⟨own,ext⟩ k=Qu ext j b fun ext=>k ⟨own,ext⟩:=rfl
theorem sn0 {α:Type} (a b:α) (l:List α) (k:List α→Option β):Qu (a::l) 0 b k=k (b::l):=rfl
theorem AsI (s:Nat) (b:Blk) (v:IV) (own:List (Nat×Blk)) (ext:List Blk) (k:IV→Hp→List Ref→List Ref→Option β) :
  AJ s b v ⟨own,ext⟩ k=CT own s (A2 own s b fun own=>k v ⟨own,ext⟩ [] [.own s]):=rfl
theorem NH (s:Nat) (cs:List FV) (h:Hp) (k:IV→Hp→List Ref→List Ref→Option β):A3 s (.fv (.agg cs)) h k=AJ s (.row (cs.map .fv) false) (.ptr (.own s) 0) h k:=by
 show spK (cs.map IV.fv) _=_
 rw [HQ]
theorem Asy (s:Nat) (a b:FV) (h:Hp) (k:IV→Hp→List Ref→List Ref→Option β):A3 s (.fv (.agg [a,b])) h k=AJ s (.row [.fv a,.fv b] false) (.ptr (.own s) 0) h k:=NH ..
theorem Asd (s:Nat) (a b c:FV) (h:Hp) (k:IV→Hp→List Ref→List Ref→Option β):A3 s (.fv (.agg [a,b,c])) h k=AJ s (.row [.fv a,.fv b,.fv c] false) (.ptr (.own s) 0) h k:=NH ..
theorem ArC (s:Nat) (a b c d:FV) (h:Hp) (k:IV→Hp→List Ref→List Ref→Option β):A3 s (.fv (.agg [a,b,c,d])) h k=AJ s (.row [.fv a,.fv b,.fv c,.fv d] false) (.ptr (.own s) 0) h k:=NH ..
theorem AsX (s:Nat) (a:FV) (h:Hp) (k:IV→Hp→List Ref→List Ref→Option β):A3 s (.fv (.agg [a])) h k=AJ s (.row [.fv a] false) (.ptr (.own s) 0) h k:=NH ..
theorem VN (s:Nat) (cs:List IV) (h:Hp) (k:IV→Hp→List Ref→List Ref→Option β):A3 s (.agg cs) h k=AJ s (.row cs false) (.ptr (.own s) 0) h k:=by
 show spK cs _=_
 rw [HQ]
theorem Ako {x:IV} (hx:x.one=true) (s:Nat) (h:Hp) (k:IV→Hp→List Ref→List Ref→Option β):A3 s x h k=AJ s (.row [x] false) (.ptr (.own s) 0) h k:=by
 unfold A3;rw [hx];rfl
theorem Aoh (k:IntKind) (n:Int):IV.one (.fv (.int k n))=true:=rfl
theorem AjZ (b:Bool):IV.one (.fv (.bool b))=true:=rfl
theorem Aru (l:List FV):IV.one (.fv (.sl l))=true:=rfl
theorem ArE (l:List FV) (o:Nat):IV.one (.fv (.fp l o))=true:=rfl
theorem Ali (fn:Fn) (a b:List FV):IV.one (.fv (.func fn a b))=true:=rfl
theorem AkZ:IV.one (.fv .nilp)=true:=rfl
theorem Ald:IV.one .nils=true:=rfl
theorem An3 (r:Ref) (o:Nat):IV.one (.ptr r o)=true:=rfl
theorem ApG (r:Ref) (a b:Nat):IV.one (.slc r a b)=true:=rfl
theorem Am3 (r:Ref) (l:List FV):IV.one (.app r l)=true:=rfl
theorem Ak6 (l:List FV):IV.one (.clip l)=true:=rfl
theorem ApX:IV.one .emp=true:=rfl
theorem AoQ (l:List IV):IV.one (.agg l)=false:=rfl
theorem AlL (l:List FV):IV.one (.fv (.agg l))=false:=rfl
theorem Aps (k:IntKind) (n:Int):H5 (.int k n)=true:=rfl
theorem Al4 (b:Bool):H5 (.bool b)=true:=rfl
theorem AsM (l:List FV):H5 (.sl l)=true:=rfl
theorem AsR (l:List FV) (o:Nat):H5 (.fp l o)=true:=rfl
theorem Ak2:H5 .nilp=true:=rfl
theorem AnA (l:List FV):H5 (.agg l)=false:=rfl
theorem AkR:Dr []=true:=rfl
theorem VR {v:FV} (h:H5 v=true) (l:List FV):Dr (v::l)=Dr l:=by
 show cond (H5 v) (Dr l) false=_
 rw [h];rfl
theorem Xk (r:Ref) (o:Nat) (k:Ref→Nat→Option β) (kf:List FV→Nat→Option β):E5 (.ptr r o) k kf=k r o:=rfl
theorem Atv (cs:List FV) (o:Nat) (k:Ref→Nat→Option β) (kf:List FV→Nat→Option β):E5 (.fv (.fp cs o)) k kf=kf cs o:=rfl
theorem H4 (cs:List IV) (ro:Bool) (k:List IV→Option β):DW (.row cs ro) k=k cs:=rfl
theorem Aco (cs:List IV) (k:List IV→Option β):Hh (.row cs false) k=k cs:=rfl
theorem AgU (v:FV) (e:Option β) (k:FV→Option β):PP (.fv v) e k=k v:=rfl
theorem Wf (l:List IV) (e:Option β) (k:FV→Option β):PP (.agg l) e k=e:=rfl
theorem AoW (e:Option β) (k:FV→Option β):PP .nils e k=e:=rfl
theorem AoC (r:Ref) (o:Nat) (e:Option β) (k:FV→Option β):PP (.ptr r o) e k=e:=rfl
theorem AnO (r:Ref) (o:List FV) (e:Option β) (k:FV→Option β):PP (.app r o) e k=e:=rfl
theorem Aqt (o:List FV) (e:Option β) (k:FV→Option β):PP (.clip o) e k=e:=rfl
theorem Ao6 (r:Ref) (a b:Nat) (e:Option β) (k:FV→Option β):PP (.slc r a b) e k=e:=rfl
theorem Apk (e:Option β) (k:FV→Option β):PP .emp e k=e:=rfl
theorem Apl (cs:List FV) (k:List FV→Option β):Hv (.agg cs) k=k cs:=rfl
theorem ArN (cs:List IV) (k:List IV→Option β) (kf:List FV→Option β):asAgg (.agg cs) k kf=k cs:=rfl
theorem AnV (cs:List FV) (k:List IV→Option β) (kf:List FV→Option β):asAgg (.fv (.agg cs)) k kf=kf cs:=rfl
theorem Aj0 (e:Option β) (k:List FV→Option β):Ct [] e k=k []:=rfl
theorem AmZ (v:FV) (l:List IV) (e:Option β) (k:List FV→Option β):Ct (.fv v::l) e k=Ct l e fun vs=>k (v::vs):=rfl
theorem Agk (l:List IV) (e:Option β) (k:List FV→Option β):Ct (.nils::l) e k=e:=rfl
theorem Akt (r:Ref) (es:List FV) (l:List IV) (e:Option β) (k:List FV→Option β):Ct (.app r es::l) e k=e:=rfl
theorem AjC (es:List FV) (l:List IV) (e:Option β) (k:List FV→Option β):Ct (.clip es::l) e k=e:=rfl
theorem Alc (r:Ref) (o:Nat) (l:List IV) (e:Option β) (k:List FV→Option β):Ct (.ptr r o::l) e k=e:=rfl
theorem Akj (r:Ref) (a b:Nat) (l:List IV) (e:Option β) (k:List FV→Option β):Ct (.slc r a b::l) e k=e:=rfl
theorem Akq (es l:List IV) (e:Option β) (k:List FV→Option β):Ct (.agg es::l) e k=e:=rfl
theorem AhP (r:Ref) (l:List IV) (e:Option β) (k:List FV→Option β):Ct (.mapr r::l) e k=e:=rfl
theorem AsG (l:List IV) (k:IV→Option β):PX l k=Ct l (k (.agg l)) fun vs=>k (.fv (.agg vs)):=rfl
theorem AsQ (l:List IV) (k:IV→Option β):WZ l k=Ct l (k (.tuple l)) fun vs=>k (.fv (.tuple vs)):=rfl
theorem Atw (a:IV) (h:Hp) (k:IV→List Ref→Option β):Af a h k=E5 a (fun r o=>Da r h fun b=>DW b fun cells=>DE cells o fun v=>k v [r]) fun cells o=>DE cells o fun v=>k (.fv v) []:=rfl
theorem AtI (size:Nat) (a:IV) (h:Hp) (k:IV→List Ref→Option β):Aj size a h k =
  E5 a (fun r o=>Da r h fun b=>DW b fun cells=>FH cells o fun cs=>F6 cs size fun cs=>PX cs fun v=>k v [r]) fun cells o=>FH cells o fun cs=>F6 cs size fun cs=>k (.fv (.agg cs)) []:=rfl
theorem Anc (size:Nat) (a:IV) (h:Hp) (k:IV→Option β):Aw true size a h k=Aj size a h fun v _=>k v:=rfl
theorem Am5 (size:Nat) (a:IV) (h:Hp) (k:IV→Option β):Aw false size a h k=Af a h fun v _=>k v:=rfl
theorem wr0 (l:List IV) (k:List IV→Option β):wrK [] l k=k l:=rfl
theorem wr1 (c:FV) (cs:List FV) (x:IV) (l:List IV) (k:List IV→Option β):wrK (c::cs) (x::l) k=wrK cs l fun t=>k (.fv c::t):=rfl
theorem sf0 (x:IV) (l:List IV) (cs:List FV) (k:List IV→Option β):Eg (x::l) 0 cs k=wrK cs (x::l) k:=rfl
theorem sf1 (x:IV) (l:List IV) (cs:List FV) (k:List IV→Option β):Eg (x::l) 1 cs k=Eg l 0 cs fun t=>k (x::t):=rfl
theorem sf2 (x y:IV) (l:List IV) (cs:List FV) (k:List IV→Option β):Eg (x::y::l) 2 cs k=Eg l 0 cs fun t=>k (x::y::t):=rfl
theorem sf3 (x y z:IV) (l:List IV) (cs:List FV) (k:List IV→Option β):Eg (x::y::z::l) 3 cs k=Eg l 0 cs fun t=>k (x::y::z::t):=rfl
theorem sf4 (x y z u:IV) (l:List IV) (cs:List FV) (k:List IV→Option β):Eg (x::y::z::u::l) 4 cs k=Eg l 0 cs fun t=>k (x::y::z::u::t):=rfl
theorem of0 (x b:IV) (l:List IV) (k:List IV→Option β):GQ (x::l) 0 b k=k (b::l):=rfl
theorem of1 (x y b:IV) (l:List IV) (k:List IV→Option β):GQ (x::y::l) 1 b k=k (x::b::l):=rfl
theorem of2 (x y z b:IV) (l:List IV) (k:List IV→Option β):GQ (x::y::z::l) 2 b k=k (x::y::b::l):=rfl
theorem of3 (x y z u b:IV) (l:List IV) (k:List IV→Option β):GQ (x::y::z::u::l) 3 b k=k (x::y::z::b::l):=rfl
theorem of6 (x y z u v w s b:IV) (l:List IV) (k:List IV→Option β):GQ (x::y::z::u::v::w::s::l) 6 b k=k (x::y::z::u::v::w::b::l):=rfl
theorem AtS (size:Nat) (a:IV) (cs:List FV) (h:Hp) (k:Hp→List Ref→List Ref→Option β):Ak size a (.fv (.agg cs)) h k =
  E5 a (fun r o=>Da r h fun b=>Hh b fun cells=>cond (and (Nat.beq cs.length size) (Dr cs)) (Eg cells o cs fun cells=>F9 r (.row cells false) h fun h=>k h [r] [r]) none) fun _ _=>none:=rfl
theorem Ajq (s:Nat) (x:IV):FI (.own s) x=true:=rfl
theorem Auo (s:Nat) (a b c:IV) (ha:a.one=true) (hb:b.one=true) (hc:c.one=true) (own:List (Nat×Blk)) (ext:List Blk) (k:Hp→List Ref→List Ref→Option β) :
  Ak 3 (.ptr (.own s) 0) (.agg [a,b,c]) ⟨own,ext⟩ k=Fj own s fun bl=>Hh bl fun cells=>cond (Nat.ble 3 cells.length) (F9 (.own s) (.row (A5 cells 0 [a,b,c]) false) ⟨own,ext⟩ fun h=>k h [.own s] [.own s]) none:=by
 show Fj own s (fun bl=>Hh bl fun cells=>if IV.alive (.agg [a,b,c])=true∧(IV.cells (.agg [a,b,c])).length=3∧0+3≤cells.length∧(IV.cells (.agg [a,b,c])).all IV.one=true∧FI (.own s) (.agg [a,b,c])=true then
  spK (A5 cells 0 (IV.cells (.agg [a,b,c]))) fun cells=>F9 (.own s) (.row cells false) ⟨own,ext⟩ fun h=>k h [.own s] [.own s] else none)=_
 congr 1
 funext bl
 congr 1
 funext cells
 by_cases h3:3≤cells.length
 ·rw [if_pos ⟨rfl,rfl,by omega,by simp [IV.cells,ha,hb,hc],rfl⟩,HQ,Bb,decide_eq_true h3];rfl
 ·rw [if_neg (fun h=>h3 (by omega)),Bb,decide_eq_false h3];rfl
theorem sc3 (a b c x y z:IV):A5 [x,y,z] 0 [a,b,c]=[a,b,c]:=rfl
theorem AtN (a x:IV) (h:Hp) (k:Hp→List Ref→List Ref→Option β):BA a x h k =
  cond x.one (E5 a (fun r o=>Da r h fun b=>Hh b fun cells=>cond (FI r x) (GQ cells o x fun cells=>F9 r (.row cells false) h fun h=>k h [r] [r]) none) fun _ _=>none) (Ak 1 a x h k):=rfl
theorem Auc (o:Nat) (r:Ref) (k:IV→Option β):Ac o (.ptr r 0) k=k (.ptr r o):=by rw [Aj3,Nat.zero_add]
theorem Ar2 (o:Nat) (cs:List FV) (k:IV→Option β):Ac o (.fv (.fp cs 0)) k=k (.fv (.fp cs o)):=by rw [Qy,Nat.zero_add]
theorem Aq3 (r:Ref) (o:Nat) (k:IV→Option β):AF (.ptr r o) k=k (.ptr r o):=rfl
theorem Asg (cs:List FV) (o:Nat) (k:IV→Option β):AF (.fv (.fp cs o)) k=k (.fv (.fp cs o)):=rfl
theorem Ajw (g:FuncId) (a b:List FV) (k:IV→Option β):AF (.fv (.func (.func g) a b)) k=k (.fv (.func (.func g) a b)):=rfl
theorem Aud (ix:Nat) (vs:List IV) (k:IV→Option β):AQ ix (.tuple vs) k=DE vs ix k:=rfl
theorem At1 (ix:Nat) (vs:List FV) (k:IV→Option β):AQ ix (.fv (.tuple vs)) k=DE vs ix fun v=>k (.fv v):=rfl
theorem Aty (o:Nat) (x:IV) (k:IV→Option β):Apv o x k=asAgg x (fun cs=>DE cs o k) fun cs=>DE cs o fun v=>k (.fv v):=rfl
theorem At4 (size o:Nat) (x:IV) (k:IV→Option β):Am0 size o x k=asAgg x (fun cs=>FH cs o fun cs=>F6 cs size fun cs=>PX cs k) fun cs=>FH cs o fun cs=>F6 cs size fun cs=>k (.fv (.agg cs)):=rfl
theorem ArH (z:List IV) (pl:List (Nat×Nat×IV)) (k:IV→Option β):BD z pl k=Og z pl fun cells=>PX cells k:=rfl
theorem fk0 (z:List IV) (k:List IV→Option β):Og z [] k=k z:=rfl
theorem fk1 (z:List IV) (o sz:Nat) (v:IV) (pl:List (Nat×Nat×IV)) (k:List IV→Option β):Og z ((o,sz,v)::pl) k=HB z o sz v fun z=>Og z pl k:=rfl
theorem AqE {v:IV} (hv:v.one=true) (z:List IV) (o:Nat) (k:List IV→Option β):HB z o 1 v k=GQ z o v k:=by
 unfold HB;cases v with
 | fv w =>
  show cond (H5 w) _ _=_
  have:H5 w=true:=by cases w<;>first | rfl | cases hv
  rw [this];rfl
 | _=>show Zk _ _ _ _ _=_;unfold Zk;rw [hv];rfl
theorem Apo (z:List IV) (o sz:Nat) (cs:List FV) (k:List IV→Option β):HB z o sz (.fv (.agg cs)) k=cond (Nat.beq cs.length sz) (Eg z o cs k) none:=rfl
theorem nb3 (a b c:FV):Nat.beq [a,b,c].length 3=true:=rfl
theorem nb4 (a b c d:FV):Nat.beq [a,b,c,d].length 4=true:=rfl
theorem nb7 (a b c d e f g:FV):Nat.beq [a,b,c,d,e,f,g].length 7=true:=rfl
theorem nl3 (a b c:IV):Nat.ble 3 [a,b,c].length=true:=rfl
theorem AnG:(and true true)=true:=rfl
end
end Idl
end Go.Proofs.Ytaifgaidaglblaa
namespace Go.Proofs.Ytaifgaidaglblaa
namespace Idl
section
variable {β:Type} {E:Env} {t:TypeId}
theorem WP (n:Int):IV.fv (.int .i64 n)=iv n:=rfl
def BI (n:Int):Int:=IntKind.i64.wrap n
theorem Av {n:Int} (h1:-9223372036854775808≤n) (h2:n≤9223372036854775807):BI n=n:=by
 show (if (true && decide ((n % (18446744073709551616:Int)) ≥ (9223372036854775808:Int)))=true then (n % (18446744073709551616:Int)) - (18446744073709551616:Int) else (n % (18446744073709551616:Int)))=n
 by_cases h:0≤n
 ·have e:n % (18446744073709551616:Int)=n:=by omega
  have e2:¬ n ≥ (9223372036854775808:Int):=by omega
  rw [e,decide_eq_false e2];rfl
 ·have e:n % (18446744073709551616:Int)=n+18446744073709551616:=by omega
  have e2:n+18446744073709551616 ≥ (9223372036854775808:Int):=by omega
  rw [e,decide_eq_true e2];simp
theorem Arl (a b:Int) (k:IV→Option β):Bw E t (iv a) (iv b) k=k (iv (BI (a+b))):=by
 have hg:CQ E t .add (iv a) (iv b) k=k (iv (BI (a+b))):=by
  rw [CQ,CL];rfl
 cases a with
 | negSucc a=>exact hg
 | ofNat a=>cases b with
  | negSucc b=>exact hg
  | ofNat b =>
   show cond (Nat.ble (a+b) 9223372036854775807) (OY (a+b) k) _=_
   rw [Bb];by_cases h:a+b≤9223372036854775807
   ·rw [decide_eq_true h]
    show OY (a+b) k=_
    rw [D5]
    have:BI (Int.ofNat a+Int.ofNat b)=((a+b:Nat):Int):=by
     rw [Av (by simp only [Int.ofNat_eq_natCast];omega) (by simp only [Int.ofNat_eq_natCast];omega)];simp only [Int.ofNat_eq_natCast];omega
    rw [this]
   ·rw [decide_eq_false h];exact hg
theorem ArP (a b:Int) (k:IV→Option β):Bd E t (iv a) (iv b) k=k (iv (BI (a - b))):=by
 have hg:CQ E t .sub (iv a) (iv b) k=k (iv (BI (a - b))):=by
  rw [CQ,CL];rfl
 cases a with
 | negSucc a=>exact hg
 | ofNat a=>cases b with
  | negSucc b=>exact hg
  | ofNat b =>
   show cond (and (Nat.ble b a) (Nat.ble a 9223372036854775807)) (OY (a - b) k) _=_
   rw [Bb,Bb];by_cases h:b≤a∧a≤9223372036854775807
   ·rw [decide_eq_true h.1,decide_eq_true h.2]
    show OY (a - b) k=_
    rw [D5]
    have:BI (Int.ofNat a - Int.ofNat b)=((a - b:Nat):Int):=by
     rw [Av (by simp only [Int.ofNat_eq_natCast];omega) (by simp only [Int.ofNat_eq_natCast];omega)];simp only [Int.ofNat_eq_natCast];omega
    rw [this]
   ·have:(decide (b≤a) && decide (a≤9223372036854775807))=false:=by
     rw [← Bool.decide_and];exact decide_eq_false h
    rw [show and (decide (b≤a)) (decide (a≤9223372036854775807))=false from this]
    exact hg
theorem Asa (a b:Int) (k:IV→Option β):CQ E t .mul (iv a) (iv b) k=k (iv (BI (a * b))):=by
 rw [CQ,CL];rfl
theorem AgQ {b:Int} (hb:b≠0) (a:Int) (k:IV→Option β):CQ E t .quo (iv a) (iv b) k=k (iv (BI (a.tdiv b))):=by
 rw [CQ,CL]
 have:FP E .quo t (iv a) (iv b)=some (iv (BI (a.tdiv b))):=by
  show (Hm (Op.intDiv .quo .i64 a b)).bind J5=_
  simp only [Op.intDiv,hb,if_false];rfl
 rw [this];rfl
theorem OB {b:Int} (hb:b≠0) (a:Int) (k:IV→Option β):CQ E t .rem (iv a) (iv b) k=k (iv (a.tmod b)):=by
 rw [CQ,CL]
 have:FP E .rem t (iv a) (iv b)=some (iv (a.tmod b)):=by
  show (Hm (Op.intDiv .rem .i64 a b)).bind J5=_
  simp only [Op.intDiv,hb,if_false];rfl
 rw [this];rfl
theorem At0 (a b:Int) (k:IV→Option β):A4 E t (iv a) (iv b) k=k (.fv (.bool (decide (a=b)))):=Aq2 a b k
theorem Auj (a b:Int) (k:IV→Option β):Hb E t (iv a) (iv b) k=k (.fv (.bool (!decide (a=b)))):=ArS a b k
theorem Auu (a b:Int) (k:IV→Option β):GP E t (iv a) (iv b) k=k (.fv (.bool (decide (a<b)))):=Aro a b k
theorem AtH (a b:Int) (k:IV→Option β):leS E t (iv a) (iv b) k=k (.fv (.bool (decide (a≤b)))):=Ary a b k
theorem AtO (a b:Int) (k:IV→Option β):L0 E t (iv a) (iv b) k=k (.fv (.bool (decide (b<a)))):=by
 rw [L0,Mu (fun a b=>by
  show some (IV.fv (.bool (decide ((a:Int) > (b:Int)))))=_
  rw [Bb];congr 3;exact decide_eq_decide.2 (by omega))]
 rfl
theorem AtG (a b:Int) (k:IV→Option β):geS E t (iv a) (iv b) k=k (.fv (.bool (decide (b≤a)))):=by
 rw [geS,Mu (fun a b=>by
  show some (IV.fv (.bool (decide ((a:Int) ≥ (b:Int)))))=_
  rw [Bb];congr 3;exact decide_eq_decide.2 (by omega))]
 rfl
theorem Asw (a b:Bool) (hT:E.T t=some ⟨1,1,.bool,[.fv (.bool false)]⟩) (k:IV→Option β):A4 E t (.fv (.bool a)) (.fv (.bool b)) k=k (.fv (.bool (a == b))):=by
 show CQ E t .eql _ _ k=_
 rw [CQ,CL]
 have:FP E .eql t (.fv (.bool a)) (.fv (.bool b))=some (.fv (.bool (a == b))):=by
  simp only [FP,hT,U4]
 rw [this];rfl
theorem Arp (b:Bool) (k:IV→Option β):C9 (Nq .not (.fv (.bool b))) k=k (.fv (.bool !b)):=AsZ b k
theorem Aut (a b:Option β):Am (.fv (.bool true)) a b=a:=rfl
theorem AtP (a b:Option β):Am (.fv (.bool false)) a b=b:=rfl
theorem Auh (c:Prop) [Decidable c] (a b:Option β):Am (.fv (.bool (decide c))) a b=if c then a else b:=An6 c a b
theorem Aue (c:Prop) [Decidable c] (a b:Option β):Am (.fv (.bool (!decide c))) a b=if c then b else a:=by
 by_cases h:c
 ·rw [decide_eq_true h,if_pos h];rfl
 ·rw [decide_eq_false h,if_neg h];rfl
theorem AtX (c:Bool) (a b:Option β):Am (.fv (.bool c)) a b=if c=true then a else b:=by
 cases c<;>rfl
theorem Aui (c a b:IV) (k:IV→Option β):AH c a b k=Am c (k a) (k b):=rfl
theorem Ass {b:Bool} (hb:b=true) (h:Hp) (m:(IV→Hp→List Ref→List Ref→Option β)→Option β) (k:IV→Hp→List Ref→List Ref→Option β):Ab (.fv (.bool b)) true h m k=m k:=by rw [hb];rfl
theorem As8 {b:Bool} (hb:b=false) (h:Hp) (m:(IV→Hp→List Ref→List Ref→Option β)→Option β) (k:IV→Hp→List Ref→List Ref→Option β):Ab (.fv (.bool b)) false h m k=m k:=by rw [hb];rfl
theorem Arr {b:Bool} (hb:b=true) (h:Hp) (m:(IV→Hp→List Ref→List Ref→Option β)→Option β) (k:IV→Hp→List Ref→List Ref→Option β):Ab (.fv (.bool b)) false h m k=k FZ h [] []:=by rw [hb];rfl
theorem ArV {b:Bool} (hb:b=false) (h:Hp) (m:(IV→Hp→List Ref→List Ref→Option β)→Option β) (k:IV→Hp→List Ref→List Ref→Option β):Ab (.fv (.bool b)) true h m k=k FZ h [] []:=by rw [hb];rfl
theorem Atu (w:Bool) (h:Hp) (m:(IV→Hp→List Ref→List Ref→Option β)→Option β) (k:IV→Hp→List Ref→List Ref→Option β):Ab FZ w h m k=k FZ h [] []:=rfl
theorem ch0 (rd wr:List Ref) (a:Option β):Ad [] rd wr a=a:=rfl
theorem ch1 (q1 q2:List Ref) (l:List (List Ref×List Ref)) (rd wr:List Ref) (a:Option β):Ad ((q1,q2)::l) rd wr a=cond (OS q2 rd) (cond (OS q2 wr) (cond (OS wr q1) (Ad l rd wr a) none) none) none:=rfl
theorem dj0 (b:List Ref):OS [] b=true:=rfl
theorem djn:∀(a:List Ref),OS a []=true
 | []=>rfl
 | _::a=>djn a
theorem dj1 (r:Ref) (a b:List Ref):OS (r::a) b=cond (Lj r b) (OS a b) false:=rfl
theorem an0 (r:Ref):Lj r []=true:=rfl
theorem an1 (r s:Ref) (l:List Ref):Lj r (s::l)=cond (M9 r s) (Lj r l) false:=rfl
theorem Aux {i j:Nat} (h:(i == j)=false):M9 (.own i) (.own j)=true:=by
 show not (Nat.beq i j)=true
 rw [show Nat.beq i j=false from AkB h];rfl
theorem ArQ (i j:Nat):M9 (.own i) (.ext j)=true:=rfl
theorem Aq6 (i j:Nat):M9 (.ext i) (.own j)=true:=rfl
theorem Atr (v:IV) (h:Hp):An [v] h=some (v,h):=rfl
theorem AtQ (h:Hp):An [] h=some (.fv (.tuple []),h):=rfl
theorem Atp (a b:IV) (h:Hp):An [a,b] h=WZ [a,b] fun v=>some (v,h):=rfl
theorem AtY (a b c:IV) (h:Hp):An [a,b,c] h=WZ [a,b,c] fun v=>some (v,h):=rfl
theorem Aug (a b c d:IV) (h:Hp):An [a,b,c,d] h=WZ [a,b,c,d] fun v=>some (v,h):=rfl
theorem Ash (es:List FV) (k:IV→Option β):BS (.fv (.sl es)) k=k (iv es.length):=D5 ..
theorem ArA (k:IV→Option β):BS .nils k=k (iv 0):=rfl
theorem Ata (es:List FV) (k:IV→Option β):BS (.clip es) k=k (iv es.length):=D5 ..
theorem Arj (r:Ref) (es:List FV) (k:IV→Option β):BS (.app r es) k=k (iv es.length):=D5 ..
theorem Arb (r:Ref) (sz n:Nat) (k:IV→Option β):BS (.slc r sz n) k=k (iv n):=D5 ..
theorem Bq {size:Nat} {es:List FV} {n:Nat} {el:FV} (he:es[n]?=some el) (hl:el.cells.length=size) (k:IV→Option β):A8 size (.fv (.sl es)) (iv n) k=k (.fv (.fp el.cells 0)):=AnX he hl k
theorem Auq {size:Nat} {r:Ref} {es:List FV} {n:Nat} {el:FV} (he:es[n]?=some el) (hl:el.cells.length=size) (k:IV→Option β):A8 size (.app r es) (iv n) k=k (.fv (.fp el.cells 0)):=AnX he hl k
theorem AtB {size:Nat} {es:List FV} {n:Nat} {el:FV} (he:es[n]?=some el) (hl:el.cells.length=size) (k:IV→Option β):A8 size (.clip es) (iv n) k=k (.fv (.fp el.cells 0)):=AnX he hl k
theorem At3 {size sz len:Nat} {r:Ref} {n:Nat} (hn:n<len) (hs:sz=size) (k:IV→Option β):A8 size (.slc r sz len) (iv n) k=k (.ptr r (n * sz)):=by
 show cond (and (Nat.ble (Nat.succ n) len) (Nat.beq sz size)) (Ec (n * sz) fun o=>k (.ptr r o)) none=_
 rw [Bb,decide_eq_true (show Nat.succ n≤len from hn),hs,show Nat.beq size size=true from Nat.beq_refl size]
 simp only [Bool.and_self,cond_true];rw [BW]
theorem AlW (size:Nat) (cs:List FV) (es:List FV) (hl:cs.length=size) (k:IV→Option β):A8 size (.fv (.sl (.agg cs::es))) (iv 0) k=k (.fv (.fp cs 0)):=Bq (el:=.agg cs) (n:=0) rfl hl k
theorem AkJ (size:Nat) (cs:List FV) (e:FV) (es:List FV) (hl:cs.length=size) (k:IV→Option β):A8 size (.fv (.sl (e :: .agg cs::es))) (iv 1) k=k (.fv (.fp cs 0)):=Bq (el:=.agg cs) (n:=1) rfl hl k
theorem Amc (size:Nat) (cs:List FV) (e e':FV) (es:List FV) (hl:cs.length=size) (k:IV→Option β):A8 size (.fv (.sl (e::e' :: .agg cs::es))) (iv 2) k=k (.fv (.fp cs 0)):=Bq (el:=.agg cs) (n:=2) rfl hl k
theorem Akp (size:Nat) (cs:List FV) (e e' e'':FV) (es:List FV) (hl:cs.length=size) (k:IV→Option β):A8 size (.fv (.sl (e::e'::e'' :: .agg cs::es))) (iv 3) k=k (.fv (.fp cs 0)):=Bq (el:=.agg cs) (n:=3) rfl hl k
def Fz (v:IV) (own:List (Nat×Blk)) (w:FV):Prop:=∃u lg,∀(e:Option (IV×Hp)) (K:FV→List (Ref×Blk)→List Ref→Option (IV×Hp)),Dh 12 v ⟨own,[]⟩ [] e K=K w u lg
def Bl (r:Option (IV×Hp)) (w:FV):Prop:=∃v own,r=some (v,⟨own,[]⟩) ∧
 (Fz v own w∨((∀(e:Option (IV×Hp)) (K:FV→List (Ref×Blk)→List Ref→Option (IV×Hp)),Dh 12 v ⟨own,[]⟩ [] e K=e)∧∃u,(C1 4096 v).run ⟨own,[]⟩=some (w,u)))
def JZ (r:Option (IV×Hp)) (w:FV):Prop:=∃v own,r=some (v,⟨own,[]⟩)∧Fz v own w
theorem AmO (w:FV) (own:List (Nat×Blk)):Fz (.fv w) own w:=⟨[],[],fun _ _=>rfl⟩
theorem Ao (w:FV) (own:List (Nat×Blk)):Bl (some (.fv w,⟨own,[]⟩)) w:=⟨_,own,rfl,.inl (AmO w own)⟩
def F8:IV→Option FV
 | .fv v=>some v
 | .nils=>some (.sl [])
 | .emp=>some (.sl [])
 | .clip es=>some (.sl es)
 | .app _ es=>some (.sl es)
 | _=>none
def Dc:List IV→Option (List FV)
 | []=>some []
 | v::l=>(F8 v).bind fun x=>(Dc l).map fun xs=>x::xs
def A9 (v:IV):Option FV:=match v with
 | .agg cs=>if cs.length≤8 then (Dc cs).map .agg else none
 | v=>F8 v
def By:List IV→Option (List FV)
 | []=>some []
 | v::l=>(A9 v).bind fun x=>(By l).map fun xs=>x::xs
theorem AsO (v:FV):A9 (.fv v)=some v:=rfl
theorem Als:A9 .nils=some (.sl []):=rfl
theorem AoA:A9 .emp=some (.sl []):=rfl
theorem Akg (es:List FV):A9 (.clip es)=some (.sl es):=rfl
theorem AnW (r:Ref) (es:List FV):A9 (.app r es)=some (.sl es):=rfl
theorem ArJ (v:FV):F8 (.fv v)=some v:=rfl
theorem AjW:F8 .nils=some (.sl []):=rfl
theorem Ang:F8 .emp=some (.sl []):=rfl
theorem Akf (es:List FV):F8 (.clip es)=some (.sl es):=rfl
theorem Aom (r:Ref) (es:List FV):F8 (.app r es)=some (.sl es):=rfl
theorem At5 {a b c:IV} {x y z:FV} (ha:F8 a=some x) (hb:F8 b=some y) (hc:F8 c=some z):A9 (.agg [a,b,c])=some (.agg [x,y,z]):=by
 show (if 3≤8 then (Dc [a,b,c]).map FV.agg else none)=_
 simp [Dc,ha,hb,hc]
theorem AtC {a b c d:IV} {x y z u:FV} (ha:F8 a=some x) (hb:F8 b=some y) (hc:F8 c=some z) (hd:F8 d=some u):A9 (.agg [a,b,c,d])=some (.agg [x,y,z,u]):=by
 show (if 4≤8 then (Dc [a,b,c,d]).map FV.agg else none)=_
 simp [Dc,ha,hb,hc,hd]
theorem AmA {v:IV} {x:FV} (d:Nat) (h:Hp) (lg:List Ref) (e:Option β) (k:FV→List (Ref×Blk)→List Ref→Option β) (hz:F8 v=some x):Dh (d+1) v h lg e k=k x [] lg:=by
 cases v<;>first | (cases hz;rfl) | (cases hz)
theorem Aeg (d:Nat) (h:Hp) (lg:List Ref) (e:Option β):∀(cs:List IV) (k:List FV→List (Ref×Blk)→List Ref→Option β) {xs:List FV},Dc cs=some xs→Cy (Dh (d+1)) cs h lg e k=k xs [] lg
 | [],k,xs,hz=>by cases hz;rfl
 | v::cs,k,xs,hz=>by
  simp only [Dc] at hz;cases h1:F8 v with
  | none=>rw [h1] at hz;cases hz
  | some x =>
   rw [h1] at hz;cases h2:Dc cs with
   | none=>rw [h2] at hz;cases hz
   | some ys =>
    rw [h2] at hz;cases hz
    show Dh (d+1) v h lg e (fun y u lg=>Cy (Dh (d+1)) cs h lg e fun ys us lg=>Nn u us fun w=>k (y::ys) w lg)=_
    rw [AmA d h lg e _ h1,Aeg d h lg e cs _ h2];rfl
theorem JC {v:IV} {x:FV} (h:Hp) (lg:List Ref) (e:Option β) (k:FV→List (Ref×Blk)→List Ref→Option β) (hz:A9 v=some x):Dh 12 v h lg e k=k x [] lg:=by
 cases v with
 | agg cs =>
  simp only [A9] at hz;split at hz
  ·rename_i hl;cases h2:Dc cs with
   | none=>rw [h2] at hz;cases hz
   | some ys =>
    rw [h2] at hz;cases hz
    show cond (Nat.ble cs.length 300) (Cy (Dh 11) cs h lg e fun cs u lg=>k (.agg cs) u lg) e=_
    rw [Bb,decide_eq_true (show cs.length≤300 by omega)]
    exact Aeg 10 h lg e cs _ h2
  ·cases hz
 | _=>exact AmA 11 h lg e k hz
theorem At6 {v:IV} {x:FV} (hz:A9 v=some x) (own:List (Nat×Blk)):Fz v own x:=⟨[],[],fun e K=>JC _ _ e K hz⟩
theorem Bg {v:IV} {x:FV} (hz:A9 v=some x) (own:List (Nat×Blk)):Bl (some (v,⟨own,[]⟩)) x:=⟨v,own,rfl,.inl (At6 hz own)⟩
theorem fr1 {v:IV} {x:FV} (n:Nat) (hz:F8 v=some x):C1 (n+1) v=.ret (x,[]):=by
 cases v<;>first | (cases hz;rfl) | (cases hz)
theorem Aet:∀(cs:List IV) (n:Nat) {xs:List FV},cs.length+1<n→Dc cs=some xs→frzL n cs=.ret (xs,[])
 | [],n+1,xs,_,hz=>by cases hz;rfl
 | v::cs,n+2,xs,hn,hz=>by
  simp only [Dc] at hz;cases h1:F8 v with
  | none=>rw [h1] at hz;cases hz
  | some x =>
   rw [h1] at hz;cases h2:Dc cs with
   | none=>rw [h2] at hz;cases hz
   | some ys =>
    rw [h2] at hz;cases hz;simp only [Aw0] at hn;simp only [frzL,fr1 n h1,Rd.bind,Aet cs (n+1) (by omega) h2];rfl
theorem frp {v:IV} {x:FV} (n:Nat) (hn:20<n) (hz:A9 v=some x):C1 n v=.ret (x,[]):=by
 cases n with
 | zero=>omega
 | succ n =>
  cases v with
  | agg cs =>
   simp only [A9] at hz;split at hz
   ·rename_i hl;cases h2:Dc cs with
    | none=>rw [h2] at hz;cases hz
    | some ys =>
     rw [h2] at hz;cases hz;simp only [C1,Aet cs n (by omega) h2,Rd.bind]
   ·cases hz
  | _=>exact fr1 n hz
theorem AmB:∀(cs:List IV) (n:Nat) {xs:List FV},cs.length+30<n→By cs=some xs→frzL n cs=.ret (xs,[])
 | [],n+1,xs,_,hz=>by cases hz;rfl
 | v::cs,n+1,xs,hn,hz=>by
  simp only [By] at hz;cases h1:A9 v with
  | none=>rw [h1] at hz;cases hz
  | some x =>
   rw [h1] at hz;cases h2:By cs with
   | none=>rw [h2] at hz;cases hz
   | some ys =>
    rw [h2] at hz;cases hz;simp only [Aw0] at hn;simp only [frzL,frp n (by omega) h1,Rd.bind,AmB cs n (by omega) h2];rfl
theorem AV {vs:List IV} {xs:List FV} (hz:By vs=some xs) (hl:vs.length≤100) (own:List (Nat×Blk)):Bl (some (.tuple vs,⟨own,[]⟩)) (.tuple xs) :=
 ⟨_,own,rfl,.inr ⟨fun _ _=>rfl,[],by
  show (C1 (4095+1) (.tuple vs)).run _=_
  simp only [C1,AmB vs 4095 (by omega) hz,Rd.bind];rfl⟩⟩
theorem Ap7:By []=some []:=rfl
theorem WU {a b:IV} {x y:FV} (ha:A9 a=some x) (hb:A9 b=some y):By [a,b]=some [x,y]:=by simp [By,ha,hb]
theorem Ae2 {a b c:IV} {x y z:FV} (ha:A9 a=some x) (hb:A9 b=some y) (hc:A9 c=some z):By [a,b,c]=some [x,y,z]:=by simp [By,ha,hb,hc]
theorem AsC {a b c d:IV} {x y z u:FV} (ha:A9 a=some x) (hb:A9 b=some y) (hc:A9 c=some z) (hd:A9 d=some u):By [a,b,c,d]=some [x,y,z,u]:=by simp [By,ha,hb,hc,hd]
theorem ApI {a:IV} {x:FV} (ha:A9 a=some x):By [a]=some [x]:=by simp [By,ha]
theorem Pl:∀(args:List IV) {vs:List FV},By args=some vs→Bv [] args=.ret (vs.map .fv,[],[])
 | [],vs,hz=>by cases hz;rfl
 | v::l,vs,hz=>by
  simp only [By] at hz;cases h1:A9 v with
  | none=>rw [h1] at hz;cases hz
  | some x =>
   rw [h1] at hz;cases h2:By l with
   | none=>rw [h2] at hz;cases hz
   | some ys =>
    rw [h2] at hz;cases hz;simp only [Bv,frp 4096 (by omega) h1,Rd.bind,Pl l h2];rfl
theorem fz0 (keep:List Bool) (h:Hp) (lg:List Ref) (e:Option β) (k:List IV→List Ref→List (Ref×Blk)→List Ref→Option β):VQ [] keep h lg e k=k [] [] [] lg:=rfl
theorem fz1 (x:IV) (l:List IV) (h:Hp) (lg:List Ref) (e:Option β) (k:List IV→List Ref→List (Ref×Blk)→List Ref→Option β) :
  VQ (x::l) [] h lg e k=Dh 12 x h lg e fun y u lg=>VQ l [] h lg e fun vs rs us lg=>Nn u us fun w=>k (.fv y::vs) rs w lg:=rfl
theorem Aif (x:IV) (l:List IV) (ks:List Bool) (h:Hp) (lg:List Ref) (e:Option β) (k:List IV→List Ref→List (Ref×Blk)→List Ref→Option β) :
  VQ (x::l) (true::ks) h lg e k=E5 x (fun r o=>VQ l ks h lg e fun vs rs us lg=>k (.ptr r o::vs) (r::rs) us lg) fun _ _=>e:=rfl
theorem WM (x:IV) (l:List IV) (ks:List Bool) (h:Hp) (lg:List Ref) (e:Option β) (k:List IV→List Ref→List (Ref×Blk)→List Ref→Option β) :
  VQ (x::l) (false::ks) h lg e k=Dh 12 x h lg e fun y u lg=>VQ l ks h lg e fun vs rs us lg=>Nn u us fun w=>k (.fv y::vs) rs w lg:=rfl
section
variable (d:Nat) (h:Hp) (lg:List Ref) (e:Option β) (k:FV→List (Ref×Blk)→List Ref→Option β)
theorem Ago (cs:List IV):Dh 12 (.agg cs) h lg e k=cond (Nat.ble cs.length 300) (Cy (Dh 11) cs h lg e fun cs u lg=>k (.agg cs) u lg) e:=rfl
theorem WX (s:Nat) (off:Nat):Dh 12 (.ptr (.own s) off) h lg e k=Da (.own s) h fun b=>DW b fun cells=>cond (Nat.ble cells.length 300) (Cy (Dh 11) cells h (.own s::lg) e fun cs u lg=>k (.fp cs off) ((.own s,.row cells true)::u) lg) e:=rfl
theorem JG (v:FV):Dh 11 (.fv v) h lg e k=k v [] lg:=rfl
theorem fl0 (g:FzK β) (k:List FV→List (Ref×Blk)→List Ref→Option β):Cy g [] h lg e k=k [] [] lg:=rfl
theorem VV (g:FzK β) (x:IV) (l:List IV) (k:List FV→List (Ref×Blk)→List Ref→Option β):Cy g (x::l) h lg e k=g x h lg e fun y u lg=>Cy g l h lg e fun ys us lg=>Nn u us fun w=>k (y::ys) w lg:=rfl
end
def U9 (rs:List Ref) (r:Option (IV×Hp)) (h:Hp) (u:List (Ref×Blk)) (lg:List Ref) (e:Option (IV×Hp)) (g:List Ref→Option (IV×Hp)) (k:IV→Hp→List Ref→List Ref→Option (IV×Hp)):Option (IV×Hp):=match rs with
 | []=>(match r with
  | none=>none
  | some p=>match p with
   | (v,h')=>match h' with
    | ⟨own,ext⟩=>List.casesOn (motive:=fun _=>Option (IV×Hp)) ext (Dh 12 v ⟨own,[]⟩ [] e fun w _ _=>Mw u h fun h2=>k (.fv w) h2 lg (Bs u)) fun _ _=>none)
 | r::rs=>g (r::rs)
theorem Ph (keep:List Bool) (ih:Aa) (f:FuncId) (args:List IV) (h:Hp) (k:IV→Hp→List Ref→List Ref→Option (IV×Hp)):Al keep false false ih f args h k =
  VQ args keep h [] (GL keep false false ih f args h k) fun vs rs u lg=>U9 rs (ih f vs ⟨[],[]⟩) h u lg (GL keep false false ih f args h k) (fun rs=>match rs with
   | []=>none
   | r::rs=>(match h with
    | ⟨own,ext⟩=>cond (P4 400 (r::rs) 0 ext) (match ih f vs ⟨[],ext⟩ with
     | none=>none
     | some p=>match p with
      | (v,h')=>match h' with
       | ⟨own',ext'⟩=>cond (and (Nat.beq ext'.length ext.length) (okB ext.length ext'))
        (Dh 12 v ⟨own',ext'⟩ [] (GL keep false false ih f args h k) fun w _ _=>Mw u ⟨own,ext'⟩ fun h2=>k (.fv w) h2 ((CP ext.length).reverse++lg) (Bs u++CP ext.length)) none)
     (GL keep false false ih f args h k))) k:=by
 unfold Al;simp only [cond_false];congr 1
theorem ArK {r:Option (IV×Hp)} {w:FV} (hr:JZ r w) (h:Hp) (u:List (Ref×Blk)) (lg:List Ref) (e:Option (IV×Hp)) (g:List Ref→Option (IV×Hp)) (k:IV→Hp→List Ref→List Ref→Option (IV×Hp)) :
  U9 [] r h u lg e g k=Mw u h fun h2=>k (.fv w) h2 lg (Bs u):=by
 obtain ⟨v,own,rfl,u',lg',hz⟩:=hr;simp only [U9];rw [hz]
theorem AfV:∀(args:List IV) {vs:List FV} (h:Hp) (lg:List Ref) (e:Option β) (k:List IV→List Ref→List (Ref×Blk)→List Ref→Option β),By args=some vs→VQ args [] h lg e k=k (vs.map .fv) [] [] lg
 | [],vs,h,lg,e,k,hz=>by cases hz;rfl
 | v::l,vs,h,lg,e,k,hz=>by
  simp only [By] at hz;cases h1:A9 v with
  | none=>rw [h1] at hz;cases hz
  | some x =>
   rw [h1] at hz;cases h2:By l with
   | none=>rw [h2] at hz;cases hz
   | some ys =>
    rw [h2] at hz;cases hz
    show Dh 12 v h lg e (fun y u lg=>VQ l [] h lg e fun vs rs us lg=>Nn u us fun w=>k (.fv y::vs) rs w lg)=_
    rw [JC h lg e _ h1,AfV l h lg e _ h2];rfl
theorem IU (f:Ref→Option Ref):∀l:List FV,IV.ren.renL f (l.map .fv)=some (l.map .fv)
 | []=>rfl
 | v::l=>by
  simp only [Aw2,IV.ren.renL,IV.ren,IU f l];rfl
theorem O7 {ih:Aa} {f:FuncId} {args:List IV} {vs:List FV} {w:FV} (hz:By args=some vs) (hr:Bl (ih f (vs.map .fv) ⟨[],[]⟩) w) (h:Hp) (k:IV→Hp→List Ref→List Ref→Option (IV×Hp)) :
  Al [] false false ih f args h k=k (.fv w) h [] []:=by
 obtain ⟨v,own,e,hv⟩:=hr;have hD:(∃u,(C1 4096 v).run ⟨own,[]⟩=some (w,u))→GL [] false false ih f args h k=k (.fv w) h [] []:=by
  rintro ⟨u,hu⟩;unfold GL;simp only [Pl args hz,Rd.runLog,Ck,IU,Aw1,Bc,E9 (CD 3),E9 C6,Mf,Bool.false_eq_true,if_false,e,hu,AwZ,IV.ren]
  show (match laid h ([]++(Bs []).zip []) with | none=>none | some h'=>fH h' fun h'=>fV 3 (.fv w) fun res=>k res h' [] _)=_
  simp only [Bs,Aw1,List.zip_nil_left,List.append_nil,laid,Oz,CD]
 rw [Ph,AfV args h [] _ _ hz,e];simp only [U9];rcases hv with ⟨u',lg',hf⟩ | ⟨hf,hu⟩
 ·rw [hf];rfl
 ·rw [hf];exact hD hu
theorem Eh {ih:Aa} {f:FuncId} {w:FV} (hr:Bl (ih f [] ⟨[],[]⟩) w) (h:Hp) (k:IV→Hp→List Ref→List Ref→Option (IV×Hp)) :
  Al [] false false ih f [] h k=k (.fv w) h [] []:=O7 (vs:=[]) rfl hr h k
theorem As {ih:Aa} {f:FuncId} {a:IV} {x w:FV} (hr:Bl (ih f [.fv x] ⟨[],[]⟩) w) (ha:A9 a=some x) (h:Hp) (k:IV→Hp→List Ref→List Ref→Option (IV×Hp)) :
  Al [] false false ih f [a] h k=k (.fv w) h [] []:=O7 (ApI ha) hr h k
theorem Ag {ih:Aa} {f:FuncId} {a b:IV} {x y w:FV} (hr:Bl (ih f [.fv x,.fv y] ⟨[],[]⟩) w) (ha:A9 a=some x) (hb:A9 b=some y) (h:Hp) (k:IV→Hp→List Ref→List Ref→Option (IV×Hp)) :
  Al [] false false ih f [a,b] h k=k (.fv w) h [] []:=O7 (WU ha hb) hr h k
theorem AX {ih:Aa} {f:FuncId} {a b c:IV} {x y z w:FV} (hr:Bl (ih f [.fv x,.fv y,.fv z] ⟨[],[]⟩) w) (ha:A9 a=some x) (hb:A9 b=some y) (hc:A9 c=some z) (h:Hp) (k:IV→Hp→List Ref→List Ref→Option (IV×Hp)) :
  Al [] false false ih f [a,b,c] h k=k (.fv w) h [] []:=O7 (Ae2 ha hb hc) hr h k
theorem AE {ih:Aa} {f:FuncId} {a b c d:IV} {x y z u w:FV} (hr:Bl (ih f [.fv x,.fv y,.fv z,.fv u] ⟨[],[]⟩) w) (ha:A9 a=some x) (hb:A9 b=some y) (hc:A9 c=some z) (hd:A9 d=some u) (h:Hp)
  (k:IV→Hp→List Ref→List Ref→Option (IV×Hp)):Al [] false false ih f [a,b,c,d] h k=k (.fv w) h [] []:=O7 (AsC ha hb hc hd) hr h k
theorem Kp (v:IV) (s:Nat) (h:Hp) (k:IV→Hp→List Ref→List Ref→Option β):Az (.ret { eff:={ val:=v } }) s h k=k v h [] []:=by
 unfold Az;simp only [Rd.runLog,IT,CD];rfl
theorem gen_val' (v:IV) (s:Nat) (h:Hp) (k:IV→Hp→List Ref→List Ref→Option β):Az (Idl.val v) s h k=k v h [] []:=Kp v s h k
theorem Cw {e:TypeId} {a b:Nat} {ei:TI} {z:List IV} (hT:E.T t=some ⟨a,b,.slice e,z⟩) (he:E.T e=some ei) {len:Nat} (hs:¬ (ei.size=0∨len * ei.size > 65536)) {parts:List (Nat×IV)} {cells:List FV}
  (hf:Cz (fun j=>some (j * ei.size,ei.size)) (PU len ei.zero) parts=some (cells.map .fv)) {s:Nat} {h:Hp} (k:IV→Hp→List Ref→List Ref→Option β) (hc:cells.length<65000:=by simp) :
  Az (Ah E t len parts) s h k=k (.clip (BV ei.size len cells)) h [] []:=by
 have key:∀(l:List FV) (n:Nat),l.length<n→frzL n (l.map .fv)=.ret (l,[]):=by
  intro l
  induction l with
  | nil=>intro n hn;cases n with
   | zero=>simp at hn
   | succ n=>rfl
  | cons x l ih=>intro n hn;cases n with
   | zero=>simp at hn
   | succ n =>
    simp only [Aw0] at hn;cases n with
    | zero=>omega
    | succ n =>
     simp only [Aw2,frzL,C1,Rd.bind];rw [ih (n+1) (by omega)];rfl
 have:Ah E t len parts=.ret { eff:={ val:=.clip (BV ei.size len cells),upd:=[] } }:=by
  simp only [Ah,hT,he,if_neg hs,hf];rw [key _ _ (by omega)];rfl
 rw [this,Kp]
end
end Idl
end Go.Proofs.Ytaifgaidaglblaa
namespace Go.Proofs.Ytaifgaidaglblaa
namespace Idl
def XY:=AwV @decide_true<|AwV @decide_false<|AwV @Bool.not_true<|AwV @Bool.not_false<|AwV @List.map_cons.{0,0}<|AwV @List.map_nil.{0,0}<|AwV @List.length_map.{0,0}<|AwV @List.length_cons.{0}<|AwV @List.length_nil.{0}<|AwV @Int.natCast_zero<|AwV @Int.natCast_one<|AwV @Bool.false_eq_true<|AwV @Bool.true_eq_false<|AwV @decide_eq_true_eq<|AwV @eq_self.{1}<|AwV @Bool.and_true<|AwV @Bool.true_and<|AwV @Bool.and_false<|AwV @Bool.false_and<|AwV @Nat.zero_add<|@Int.cast_ofNat_Int
def XE:=AwV @List.any_cons.{0}<|AwV @List.any_nil.{0}<|AwV @List.all_cons.{0}<|AwV @List.all_nil.{0}<|AwV @List.filter_cons.{0}<|AwV @List.filter_nil.{0}<|AwV @List.contains_cons.{0}<|AwV @List.contains_nil.{0}<|AwV @Bool.or_false<|AwV @Bool.or_true<|AwV @Bool.false_or<|AwV @Bool.true_or<|AwV @Bool.and_self<|AwV @Bool.not_eq_true<|AwV @BEq.rfl.{0}<|@beq_self_eq_true.{0}
def XX:=AwV @n0<|AwV @n1<|AwV @n2<|AwV @n3<|AwV @n4<|AwV @n5<|AwV @n6<|AwV @d0<|AwV @d1<|AwV @d2<|AwV @d3<|AwV @d4<|AwV @t1<|AwV @t2<|AwV @t3<|AwV @t4<|AwV @t7<|AwV @ap0<|AwV @ap1<|AwV @ArF<|AwV @c_t<|AwV @c_f<|AwV @LS<|AwV @AsH<|AwV @AmK<|AwV @Aoa<|AwV @AsU<|AwV @AmD<|AwV @Aob<|AwV @ArU<|AwV @Ap4<|AwV @AeH<|AwV @Alu<|AwV @sn0<|AwV @AsI<|AwV @Asy<|AwV @Asd<|AwV @ArC<|AwV @AsX<|AwV @VN<|AwV @Ako<|AwV @Aoh<|AwV @AjZ<|AwV @Aru<|AwV @ArE<|AwV @Ali<|AwV @AkZ<|AwV @Ald<|AwV @An3<|AwV @ApG<|AwV @Am3<|AwV @Ak6<|AwV @ApX<|AwV @AoQ<|AwV @AlL<|AwV @Aps<|AwV @Al4<|AwV @AsM<|AwV @AsR<|AwV @Ak2<|AwV @AnA<|AwV @AkR<|AwV @VR<|AwV @Xk<|AwV @Atv<|AwV @H4<|AwV @Aco<|AwV @AgU<|AwV @Wf<|AwV @AoW<|AwV @AoC<|AwV @AnO<|AwV @Aqt<|AwV @Ao6<|AwV @Apk<|AwV @Apl<|AwV @ArN<|AwV @AnV<|AwV @Aj0<|AwV @AmZ<|AwV @Agk<|AwV @Akt<|AwV @AjC<|AwV @Alc<|AwV @Akj<|AwV @Akq<|AwV @AhP<|AwV @AsG<|AwV @AsQ<|AwV @Atw<|AwV @AtI<|AwV @Anc<|AwV @Am5<|AwV @wr0<|AwV @wr1<|AwV @sf0<|AwV @sf1<|AwV @sf2<|AwV @sf3<|AwV @sf4<|AwV @of0<|AwV @of1<|AwV @of2<|AwV @of3<|AwV @of6<|AwV @AtS<|AwV @Ajq<|AwV @Auo<|AwV @sc3<|AwV @AtN<|AwV @Auc<|AwV @Ar2<|AwV @Aq3<|AwV @Asg<|AwV @Ajw<|AwV @Aud<|AwV @At1<|AwV @Aty<|AwV @At4<|AwV @ArH<|AwV @fk0<|AwV @fk1<|AwV @AqE<|AwV @Apo<|AwV @nb3<|AwV @nb4<|AwV @nb7<|AwV @nl3<|AwV @AnG<|AwV @Arl<|AwV @ArP<|AwV @Asa<|AwV @AgQ<|AwV @OB<|AwV @At0<|AwV @Auj<|AwV @Auu<|AwV @AtH<|AwV @AtO<|AwV @AtG<|AwV @Asw<|AwV @Arp<|AwV @Aut<|AwV @AtP<|AwV @Auh<|AwV @Aue<|AwV @AtX<|AwV @Aui<|AwV @Ass<|AwV @As8<|AwV @Arr<|AwV @ArV<|AwV @Atu<|AwV @ch0<|AwV @ch1<|AwV @dj0<|AwV @djn<|AwV @dj1<|AwV @an0<|AwV @an1<|AwV @Aux<|AwV @ArQ<|AwV @Aq6<|AwV @Atr<|AwV @AtQ<|AwV @Atp<|AwV @AtY<|AwV @Aug<|AwV @Ash<|AwV @ArA<|AwV @Ata<|AwV @Arj<|AwV @Arb<|AwV @Bq<|AwV @Auq<|AwV @AtB<|AwV @At3<|AwV @AlW<|AwV @AkJ<|AwV @Amc<|AwV @Akp<|AwV @AsO<|AwV @Als<|AwV @AoA<|AwV @Akg<|AwV @AnW<|AwV @ArJ<|AwV @AjW<|AwV @Ang<|AwV @Akf<|AwV @Aom<|AwV @At5<|AwV @AtC<|AwV @Ap7<|AwV @WU<|AwV @Ae2<|AwV @AsC<|AwV @ApI<|AwV @Kp<|@gen_val'
def Ev (f:FuncId) (args:List IV) (w:FV):Prop:=∃N,∀n,N≤n→Bl (SS dt n f args ⟨[],[]⟩) w
theorem A7 {F:(List IV→Hp→Option (IV×Hp))→List IV→Hp→Option (IV×Hp)} {Q:Option (IV×Hp)→Prop} (P:Nat→List IV→Hp→Prop)
  (step:∀k V H rec,P k V H→(∀k' V' H',k' < k→P k' V' H'→Q (rec V' H'))→Q (F rec V H)):∀m k V H,k<m→P k V H→Q (BF m F V H):=by
 intro m
 induction m with
 | zero=>intro k V H h;omega
 | succ m ih=>intro k V H hk hP;exact step k V H (BF m F) hP fun k' V' H' h1 h2=>ih k' V' H' (by omega) h2
mutual
def Tm.wt:Tm→Nat
 | .mk _ _ l=>1+Tm.wtL l
def Tm.wtL:List Tm→Nat
 | []=>0
 | t::l=>t.wt+Tm.wtL l
end
theorem BO {t:Tm}:∀{l:List Tm},t∈l→t.wt≤Tm.wtL l
 | a::l,h=>by
  rcases List.mem_cons.1 h with rfl | h
  ·simp only [Tm.wtL];omega
  ·have:=BO h;simp only [Tm.wtL];omega
theorem C5:∀(l:List Tm),l.length≤Tm.wtL l
 | []=>Nat.zero_le _
 | (.mk _ _ k)::l=>by have:=C5 l;simp only [Tm.wtL,Tm.wt,Aw0];omega
theorem HK (t:Tm):0<t.wt:=by cases t;simp only [Tm.wt];omega
theorem Ai (op n:Int) (l:List Tm):(Tm.mk op n l).enc=.agg [.int .i64 op,.int .i64 n,.sl (l.map Tm.enc)]:=by simp only [Tm.enc,YS]
theorem AP {l:List Tm} {i:Nat} {op n:Int} {k:List Tm} (h:l[i]?=some (.mk op n k)):(l.map Tm.enc)[i]?=some (.agg [.int .i64 op,.int .i64 n,.sl (k.map Tm.enc)]):=by
 rw [List.getElem?_map,h,AwZ,Ai]
theorem Cg {α:Type} {l pre rest:List α} {a:α} (h:l=pre++a::rest):l[pre.length]?=some a:=by
 rw [h,List.getElem?_append_right (Nat.le_refl _),Nat.sub_self];rfl
theorem Ce (a b c:FV):(FV.agg [a,b,c]).cells=[a,b,c]:=rfl
theorem Ba (a b c:FV):(FV.agg [a,b,c]).cells.length=3:=rfl
section
variable {β:Type} {E:Env}
def AgE (b:Blk) (n sz:Nat) (x:Option β):Option β:=match b with
 | .tok a s=>if a=n∧s=sz then x else none
 | _=>none
theorem H9 (n sz:Nat) (x:Option β):AgE (.tok n sz) n sz x=x:=by
 show (if n=n∧sz=sz then x else none)=x
 rw [if_pos ⟨rfl,rfl⟩]
inductive Plain2:IV→List FV→Prop
 | clip (es:List FV):Plain2 (.clip es) es
 | sl (es:List FV):Plain2 (.fv (.sl es)) es
 | app (r:Ref) (es:List FV):Plain2 (.app r es) es
theorem W2 {x:IV} {es:List FV} (h:Plain2 x es):C1 4096 x=.ret (.sl es,[]):=by cases h<;>rfl
structure SliceT (E:Env) (t:TypeId) (size:Nat):Prop where
 h:∃a b e z ei,E.T t=some ⟨a,b,.slice e,z⟩∧E.T e=some ei∧ei.size=size∧size≠0∧ei.bytes≤100000
theorem MZ {t:TypeId} {size:Nat} (T:SliceT E t size) {x:IV} {es2:List FV} (hx:Plain2 x es2) (h1:BK size es2=true) (hne:es2.isEmpty=false) (hb:es2.length≤1000000) {s0:IV} (hs:s0=.nils∨s0=.clip []) (s:Nat) (own:List (Nat×Blk)) (ext:List Blk)
  (k:IV→Hp→List Ref→List Ref→Option β):Az (A0 E s false .append [t,t] [s0,x]) s ⟨own,ext⟩ k=CT own s (A2 own s (.tok es2.length size) fun own=>k (.app (.own s) es2) ⟨own,ext⟩ [] [.own s]):=by
 obtain ⟨a,b,e,z,ei,hT,he,rfl,h0,hby⟩:=T.h;have hlen:¬ (BK ei.size []=false∨(([]:List FV).length+es2.length) * ei.bytes > 140737488355328∨([]:List FV).length+es2.length > 1073741824):=by
  have:es2.length * ei.bytes≤1000000 * 100000:=Nat.mul_le_mul hb hby
  rintro (h | h | h)
  ·cases h
  ·simp only [List.length_nil,Nat.zero_add] at h;omega
  ·simp only [List.length_nil,Nat.zero_add] at h;omega
 have key:A0 E s false .append [t,t] [s0,x]=.ret { eff:={ val:=.app (.own s) es2,upd:=[] },new:=some (.tok es2.length ei.size) }:=by
  show Fu E s t (some t) false s0 x=_
  simp only [Fu,hT,Option.bind_some,he,W2 hx,Rd.bind,h0,h1,false_or,Bool.true_eq_false,if_false];rcases hs with rfl | rfl<;>simp only [Ch,if_neg hlen,hne,List.nil_append,Bool.false_eq_true,if_false]
 rw [key];unfold Az;simp only [Rd.runLog]
 show (J3 (some (.tok es2.length ei.size)) s ⟨own,ext⟩ fun h=>fV 3 (.app (.own s) es2) fun v=>k v h [] ([]++[.own s]))=_
 simp only [J3,C6,CD];rfl
theorem Amj {t:TypeId} {size:Nat} (T:SliceT E t size) {x:IV} (hx:Plain2 x []) {s0:IV} (hs:s0=.nils∨s0=.clip []) (s:Nat) (h:Hp) (k:IV→Hp→List Ref→List Ref→Option β) :
  Az (A0 E s false .append [t,t] [s0,x]) s h k=k s0 h [] []:=by
 obtain ⟨a,b,e,z,ei,hT,he,rfl,h0,hby⟩:=T.h;have hlen:¬ (BK ei.size []=false∨(([]:List FV).length+([]:List FV).length) * ei.bytes > 140737488355328∨([]:List FV).length+([]:List FV).length > 1073741824):=by
  rintro (h | h | h)
  ·cases h
  ·simp at h
  ·simp at h
 have key:A0 E s false .append [t,t] [s0,x]=.ret { eff:={ val:=s0,upd:=[] } }:=by
  show Fu E s t (some t) false s0 x=_
  have h1:BK ei.size []=true:=rfl;simp only [Fu,hT,Option.bind_some,he,W2 hx,Rd.bind,h0,h1,false_or,Bool.true_eq_false,if_false];rcases hs with rfl | rfl
  ·simp only [Ch];rw [if_neg hlen];simp
  ·simp only [Ch];rw [if_neg hlen];simp
 rw [key];exact Kp s0 s h k
theorem VI {t:TypeId} {size:Nat} (T:SliceT E t size) {x:IV} {es es2:List FV} (hx:Plain2 x es2) (h1:BK size es2=true) (h2:BK size es=true) (ho:(es2.all fun e=>e.cells.all FV.one)=true) (hb:es.length+es2.length≤1000000) (r s:Nat)
  (own:List (Nat×Blk)) (ext:List Blk) (k:IV→Hp→List Ref→List Ref→Option β):Az (A0 E s false .append [t,t] [.app (.own r) es,x]) s ⟨own,ext⟩ k =
   Fj own r fun b=>AgE b es.length size (A2 own r (.tok (es.length+es2.length) size) fun own=>k (.app (.own r) (es++es2)) ⟨own,ext⟩ [.own r] [.own r]):=by
 obtain ⟨a,b,e,z,ei,hT,he,rfl,h0,hby⟩:=T.h;have hlen:¬ (BK ei.size es=false∨(es.length+es2.length) * ei.bytes > 140737488355328∨es.length+es2.length > 1073741824):=by
  have:(es.length+es2.length) * ei.bytes≤1000000 * 100000:=Nat.mul_le_mul hb hby
  rintro (h | h | h)
  ·rw [h2] at h;cases h
  ·omega
  ·omega
 have key:(A0 E s false .append [t,t] [.app (.own r) es,x]).runLog ⟨own,ext⟩ []=(Ap r own).bind fun b=>match b with
   | .tok n sz=>if n=es.length∧sz=ei.size then some ({ eff:={ val:=.app (.own r) (es++es2),upd:=[(.own r,.tok (n+es2.length) sz)] } },[.own r]) else none
   | _=>none:=by
  show (Fu E s t (some t) false (.app (.own r) es) x).runLog _ _=_
  simp only [Fu,hT,Option.bind_some,he,W2 hx,Rd.bind,h0,h1,false_or,Bool.true_eq_false,if_false,Ch,if_neg hlen,Rd.runLog,ho,and_true]
  show (match Ap r own with | some b=>_ | none=>none)=_
  cases Ap r own with
  | none=>rfl
  | some b =>
   cases b with
   | tok n sz =>
    simp only [Option.bind_some];by_cases hc:n=es.length∧sz=ei.size
    ·rw [if_pos hc,if_pos hc];rfl
    ·rw [if_neg hc,if_neg hc];rfl
   | _=>rfl
 unfold Az;rw [key,Bk];cases hl:Ap r own with
 | none=>simp
 | some b =>
  simp only [Option.bind_some];cases b with
  | tok n sz =>
   simp only [AgE];by_cases hc:n=es.length∧sz=ei.size
   ·rw [if_pos hc,if_pos hc];obtain ⟨rfl,rfl⟩:=hc
    show (fRf (.own r) fun q=>Da q ⟨own,ext⟩ fun _=>fBk (.tok (es.length+es2.length) ei.size) fun b=>F9 q b ⟨own,ext⟩ fun h=>J3 none s h fun h=>fV 3 (.app (.own r) (es++es2)) fun v=>k v h [.own r] ([.own r]++[]))=_
    simp only [Pv,C6,CD,J3,F9,Da];rw [Bk,hl];rfl
   ·rw [if_neg hc,if_neg hc]
  | row _ _=>rfl
  | map _=>rfl
end
end Idl
end Go.Proofs.Ytaifgaidaglblaa
namespace Go.Proofs.Ytaifgaidaglblaa
namespace Idl
theorem VC:EE.T 29=some ⟨1,24,.slice 31,[.nils]⟩:=by kernel_rfl
theorem tTm:EE.T 31=some ⟨3,40,.struct [(0,3),(1,3),(2,29)],[.fv (.int .i64 0),.fv (.int .i64 0),.nils]⟩:=by kernel_rfl
theorem sTm:SliceT EE 29 3:=⟨_,_,_,_,_,VC,tTm,rfl,by decide,by decide⟩
theorem JO (a:Tm) (s:Nat) (h:Hp) (k:IV→Hp→List Ref→List Ref→Option (IV×Hp)):Az (Ah EE 29 1 [(0,.fv a.enc)]) s h k=k (.clip [a.enc]) h [] []:=by
 obtain ⟨o1,n1,k1⟩:=a;exact Cw VC tTm (by decide) (cells:=[.int .i64 o1,.int .i64 n1,.sl (Tm.enc.encL k1)]) rfl k
theorem AoF (a b:Tm) (s:Nat) (h:Hp) (k:IV→Hp→List Ref→List Ref→Option (IV×Hp)):Az (Ah EE 29 2 [(0,.fv a.enc),(1,.fv b.enc)]) s h k=k (.clip [a.enc,b.enc]) h [] []:=by
 obtain ⟨o1,n1,k1⟩:=a;obtain ⟨o2,n2,k2⟩:=b;exact Cw VC tTm (by decide) (cells:=[.int .i64 o1,.int .i64 n1,.sl (Tm.enc.encL k1),.int .i64 o2,.int .i64 n2,.sl (Tm.enc.encL k2)]) rfl k
theorem Akr (a:Tm):a.enc.cells.length=3:=by cases a;rfl
theorem Akk (a:Tm):a.enc.cells.all FV.one=true:=by cases a;rfl
theorem TH (l:List Tm):BK 3 (l.map Tm.enc)=true:=by
 cases l with
 | nil=>rfl
 | cons a l=>simp only [Aw2,BK,Akr,beq_self_eq_true]
theorem SN (e:Tm) (s:Nat) (own:List (Nat×Blk)) (ext:List Blk) (k:IV→Hp→List Ref→List Ref→Option (IV×Hp)) :
  Az (A0 EE s false .append [29,29] [.nils,.clip [e.enc]]) s ⟨own,ext⟩ k=CT own s (A2 own s (.tok 1 3) fun own=>k (.app (.own s) [e.enc]) ⟨own,ext⟩ [] [.own s]) :=
 MZ sTm (.clip _) (TH [e]) rfl (by simp) (.inl rfl) s own ext k
theorem NX {es:List Tm} (hb:es.length+1≤1000000) (e:Tm) (r s:Nat) (own:List (Nat×Blk)) (ext:List Blk) (k:IV→Hp→List Ref→List Ref→Option (IV×Hp)) :
  Az (A0 EE s false .append [29,29] [.app (.own r) (es.map Tm.enc),.clip [e.enc]]) s ⟨own,ext⟩ k =
   Fj own r fun b=>AgE b es.length 3 (A2 own r (.tok (es.length+1) 3) fun own=>k (.app (.own r) ((es++[e]).map Tm.enc)) ⟨own,ext⟩ [.own r] [.own r]):=by
 rw [VI sTm (.clip [e.enc]) (TH [e]) (TH es) (by simp [Akk]) (by simpa using hb) r s own ext k];simp only [List.length_map,List.map_append,Aw2,Aw1,Aw0,List.length_nil,Nat.zero_add]
theorem AhD {x m:Int} (h1:0<m) (h2:m≤4611686018427387904):(if x.tmod m<0 then BI (x.tmod m+m) else x.tmod m)=x % m:=by
 have a1:=Int.emod_nonneg x (show m≠0 by omega)
 have a2:=Int.emod_lt_of_pos x h1;have e1:x.tmod m=x - m * x.tdiv m:=by have:=Int.mul_tdiv_add_tmod x m;omega
 have e2:x % m=x - m * (x / m):=by have:=Int.mul_ediv_add_emod x m;omega
 have b1:-m<x.tmod m:=Int.lt_tmod_of_pos x h1;have b2:x.tmod m<m:=Int.tmod_lt_of_pos x h1;have key:∃q,x.tmod m=x % m+m * q:=⟨x / m - x.tdiv m,by rw [e1,e2,Int.mul_sub];omega⟩;obtain ⟨q,hq⟩:=key;have hq2:q=0∨q=-1:=by
  rcases Int.lt_trichotomy q 0 with h | h | h
  ·right;rcases Int.lt_trichotomy q (-1) with h' | h' | h'
   ·have:m * q≤m * (-2):=Int.mul_le_mul_of_nonneg_left (by omega) (by omega)
    omega
   ·exact h'
   ·omega
  ·exact .inl h
  ·have:m * 1≤m * q:=Int.mul_le_mul_of_nonneg_left (by omega) (by omega)
   omega
 rcases hq2 with rfl | rfl
 ·rw [if_neg (by omega)];omega
 ·rw [if_pos (by omega),Av (by omega) (by omega)];omega
theorem Ar {n:Nat} (hn:0<n) (x:Int) {m:Int} (h1:0<m) (h2:m≤4611686018427387904):Bl (SS dt n 43 [iv x,iv m] ⟨[],[]⟩) (.int .i64 (x % m)):=by
 obtain ⟨n,rfl⟩:=Nat.exists_eq_add_of_lt hn;rw [Nat.zero_add,c43];simp only [S43,↓XX,XY,↓reduceIte,Nat.reduceBEq,Nat.reduceAdd,Int.reduceEq,Int.reduceLT,Int.reduceLE,↓OB (show m≠0 by omega)]
 rw [← AhD h1 h2];by_cases hc:x.tmod m<0<;>simp only [hc,if_true,if_false]<;>exact Ao _ _
theorem De {n:Nat} (hn:0<n) (op:Int):Bl (SS dt n 24 [iv op,.fv (.sl [])] ⟨[],[]⟩) (Tm.mk op 0 []).enc:=by
 obtain ⟨n,rfl⟩:=Nat.exists_eq_add_of_lt hn;rw [Nat.zero_add,c24];simp only [S24,↓XX,XY,↓reduceIte,Nat.reduceBEq,Nat.reduceAdd,Int.reduceEq,Int.reduceLT,Int.reduceLE];exact Ao _ _
theorem Cs {n:Nat} (hn:0<n) (op:Int) (l:List Tm):Bl (SS dt n 24 [iv op,.fv (.sl (l.map Tm.enc))] ⟨[],[]⟩) (Tm.mk op 0 l).enc:=by
 obtain ⟨n,rfl⟩:=Nat.exists_eq_add_of_lt hn;rw [Nat.zero_add,c24];simp only [S24,↓XX,XY,↓reduceIte,Nat.reduceBEq,Nat.reduceAdd,Int.reduceEq,Int.reduceLT,Int.reduceLE,Ai];exact Ao _ _
def Tm.kids:Tm→List Tm
 | .mk _ _ l=>l
def Tm.op:Tm→Int
 | .mk o _ _=>o
def Tm.n:Tm→Int
 | .mk _ n _=>n
def Tm.pick (r:Tm) (i:Nat):Tm:=match r.kids[i]? with
 | some k=>k
 | none=>.mk (BI (BI (r.op.tdiv 3)+i)) (BI (BI (r.n.tdiv 5)+BI (7 * i))) []
theorem AR {n:Nat} (hn:0<n) (r:Tm) (i:Nat):Bl (SS dt n 46 [.fv r.enc,iv i] ⟨[],[]⟩) (r.pick i).enc:=by
 obtain ⟨n,rfl⟩:=Nat.exists_eq_add_of_lt hn;rw [Nat.zero_add,c46];obtain ⟨op,m,ks⟩:=r;rw [Ai];simp only [Tm.pick,Tm.kids,Tm.op,Tm.n];cases hk:ks[i]? with
 | some k =>
  have hi:(i:Int)<ks.length:=by have:=(List.getElem?_eq_some_iff.1 hk).1;omega
  obtain ⟨o,p,l⟩:=k;simp only [VW,XO,VX,WH,S46,↓XX,XY,↓reduceIte,Nat.reduceBEq,Nat.reduceAdd,Int.reduceEq,Int.reduceLT,Int.reduceLE,hi,↓Bq (AP hk) (Ba _ _ _),↓Ce,Ai];exact Ao _ _
 | none =>
  have hi:¬ (i:Int)<ks.length:=by have:=List.getElem?_eq_none_iff.1 hk;omega
  simp only [VW,XO,VX,WH,S46,↓XX,XY,↓reduceIte,Nat.reduceBEq,Nat.reduceAdd,Int.reduceEq,Int.reduceLT,Int.reduceLE,hi,↓AgQ (show (3:Int)≠0 by decide),↓AgQ (show (5:Int)≠0 by decide)]
  exact Bg rfl _
section
variable {β:Type}
def Cj (s:Nat):IV→Bool
 | .ptr (.own j) _=>s == j
 | .slc (.own j) _ _=>s == j
 | .app (.own j) _=>s == j
 | .mapr (.own j)=>s == j
 | _=>false
def FR:IV→Bool
 | .agg _ | .tuple _ | .func ..=>false
 | _=>true
def FJ (s:Nat):Blk→Bool
 | .row cells _=>cells.any (Cj s)
 | _=>false
def Vr:Blk→Bool
 | .row cells _=>cells.all FR
 | .tok ..=>true
 | .map _=>false
theorem Ae8 {v:IV} (h:FR v=true) (s:Nat):(Ref.own s∈v.refs) ↔ Cj s v=true:=by
 cases v with
 | ptr r o=>cases r<;>simp [IV.refs,Cj]
 | slc r a b=>cases r<;>simp [IV.refs,Cj]
 | app r es=>cases r<;>simp [IV.refs,Cj]
 | mapr r=>cases r<;>simp [IV.refs,Cj]
 | agg _=>cases h
 | tuple _=>cases h
 | func _ _ _=>cases h
 | _=>simp [IV.refs,Cj]
theorem JR:∀{l:List IV},l.all FR=true→∀s,(Ref.own s∈IV.refs.refsL l) ↔ l.any (Cj s)=true
 | [],_,s=>by simp [IV.refs.refsL]
 | v::l,h,s=>by
  rw [List.all_cons,Bool.and_eq_true] at h;rw [IV.refs.refsL,List.mem_append,List.any_cons,Bool.or_eq_true,Ae8 h.1,JR h.2]
theorem Er {b:Blk} (h:Vr b=true) (s:Nat):(Ref.own s∈b.refs) ↔ FJ s b=true:=by
 cases b with
 | row cells ro=>exact JR h s
 | tok n sz=>simp [Blk.refs,FJ]
 | map es=>cases h
theorem IW (s:Nat):∀l:List Ref,anyIn [s] l=true ↔ Ref.own s∈l
 | []=>by simp [anyIn]
 | .own k::l=>by
  rw [anyIn,Bool.or_eq_true,IW s l,List.mem_cons];simp [eq_comm]
 | .ext k::l=>by
  rw [anyIn,IW s l,List.mem_cons];simp
def heldB (rm:List Nat) (vals:List IV) (own:List (Nat×Blk)) (ext:List Blk) (s:Nat):Bool :=
 vals.any (Cj s) || (own.any (fun p=>!rm.contains p.1 && FJ s p.2) || ext.any (FJ s))
def JA (rm:List Nat) (vals:List IV) (own:List (Nat×Blk)) (ext:List Blk):List (Nat×Blk):=own.filter fun p=>!rm.contains p.1 || heldB rm vals own ext p.1
def AN (rm:List Nat) (vals:List IV) (own:List (Nat×Blk)) (ext:List Blk):Bool :=
 vals.all FR && (own.all (fun p=>Vr p.2) && (ext.all Vr && own.all fun p=>!rm.contains p.1 || rm.all fun s=>!FJ s p.2))
theorem VJ {rm:List Nat} {vals:List IV} {own:List (Nat×Blk)} {ext:List Blk} (hf:AN rm vals own ext=true) (s:Nat) :
  Ref.own s∈IV.refs.refsL vals++(own.filter fun p=>!rm.contains p.1).flatMap (fun p=>p.2.refs)++ext.flatMap Blk.refs ↔ heldB rm vals own ext s=true:=by
 simp only [AN,Bool.and_eq_true] at hf;obtain ⟨h1,h2,h3,_⟩:=hf;have e1:Ref.own s∈(own.filter fun p=>!rm.contains p.1).flatMap (fun p=>p.2.refs) ↔ (own.any fun p=>!rm.contains p.1 && FJ s p.2)=true:=by
  rw [List.mem_flatMap,List.any_eq_true];constructor
  ·rintro ⟨p,hp,hr⟩;obtain ⟨hp1,hp2⟩:=List.mem_filter.1 hp;exact ⟨p,hp1,by rw [hp2,(Er (List.all_eq_true.1 h2 p hp1) s).1 hr];rfl⟩
  ·rintro ⟨p,hp,hr⟩;rw [Bool.and_eq_true] at hr;exact ⟨p,List.mem_filter.2 ⟨hp,hr.1⟩,(Er (List.all_eq_true.1 h2 p hp) s).2 hr.2⟩
 have e2:Ref.own s∈ext.flatMap Blk.refs ↔ ext.any (FJ s)=true:=by
  rw [List.mem_flatMap,List.any_eq_true];constructor
  ·rintro ⟨p,hp,hr⟩;exact ⟨p,hp,(Er (List.all_eq_true.1 h3 p hp) s).1 hr⟩
  ·rintro ⟨p,hp,hr⟩;exact ⟨p,hp,(Er (List.all_eq_true.1 h3 p hp) s).2 hr⟩
 rw [List.mem_append,List.mem_append,JR h1,e1,e2,heldB,Bool.or_eq_true,Bool.or_eq_true,or_assoc]
theorem AC {base rm:List Nat} {vals:List IV} {own:List (Nat×Blk)} {ext:List Blk} (hb:rm.any base.contains=false) (hf:AN rm vals own ext=true) (k:Hp→Option β) :
  Bf base rm vals ⟨own,ext⟩ k=k ⟨JA rm vals own ext,ext⟩:=by
 have hm:=VJ hf;have hf0:=hf;simp only [AN,Bool.and_eq_true] at hf0;obtain ⟨g1,g2,g3,g4⟩:=hf0;unfold Bf;rw [hb];simp only [cond_false];rw [NQ];cases ha:(own.all fun p=>!rm.contains p.1) with
 | true =>
  simp only [Bool.not_true,cond_false];congr 2
  symm
  apply List.filter_eq_self.2;intro p hp;rw [List.all_eq_true.1 ha p hp];rfl
 | false =>
  simp only [Bool.not_false,cond_true];have slow:(match CE base [] rm ⟨vals,⟨own,ext⟩⟩ with | none=>none | some S=>fH S.hp k)=k ⟨JA rm vals own ext,ext⟩:=by
   have hgone:(rm.filter fun k=>!anyIn [k] (IV.refs.refsL vals++(own.filter fun p=>!rm.contains p.1).flatMap (fun p=>p.2.refs)++ext.flatMap Blk.refs))=rm.filter fun s=>!heldB rm vals own ext s:=by
    apply List.filter_congr;intro s _;congr 1;exact Bool.eq_iff_iff.2 ((IW s _).trans (hm s))
   have hown:(own.filter fun p=>!(rm.filter fun s=>!heldB rm vals own ext s).contains p.1)=JA rm vals own ext:=by
    apply List.filter_congr;intro p _;rw [Bool.eq_iff_iff];simp only [Bool.not_eq_true',Bool.or_eq_true,List.contains_eq_mem,decide_eq_false_iff_not,List.mem_filter];constructor
    ·intro h;by_cases h1:p.1∈rm
     ·right;cases hh:heldB rm vals own ext p.1 with
      | true=>rfl
      | false=>exact absurd ⟨h1,hh⟩ h
     ·exact .inl h1
    ·rintro (h | h) ⟨h1,h2⟩
     ·exact h h1
     ·rw [h] at h2;exact absurd h2 (by simp)
   simp only [CE,hb,Bool.false_eq_true,if_false,A1,ha,hgone,hown];have hnone:anyIn (rm.filter fun s=>!heldB rm vals own ext s) (CZ ⟨vals,⟨JA rm vals own ext,ext⟩⟩)=false:=by
    apply Et;intro s hs hmem;obtain ⟨hs1,hs2⟩:=List.mem_filter.1 hs;have hs2:heldB rm vals own ext s=false:=by simpa using hs2
    simp only [CZ,List.mem_append] at hmem;rcases hmem with (hmem | hmem) | hmem
    ·have:=(hm s).1 (List.mem_append_left _ (List.mem_append_left _ hmem))
     rw [this] at hs2;cases hs2
    ·obtain ⟨p,hp,hr⟩:=List.mem_flatMap.1 hmem;have hp1:=(List.mem_filter.1 hp).1;have hn:=(Er (List.all_eq_true.1 g2 p hp1) s).1 hr;have h4:=List.all_eq_true.1 g4 p hp1;cases hc:rm.contains p.1 with
     | true =>
      rw [hc] at h4;have h4:(rm.all fun s=>!FJ s p.2)=true:=h4;have h5:=List.all_eq_true.1 h4 s hs1;rw [hn] at h5;cases h5
     | false =>
      have:=(hm s).1 (List.mem_append_left _ (List.mem_append_right _ (List.mem_flatMap.2 ⟨p,List.mem_filter.2 ⟨hp1,by rw [hc];rfl⟩,hr⟩)))
      rw [this] at hs2;cases hs2
    ·have:=(hm s).1 (List.mem_append_right _ hmem)
     rw [this] at hs2;cases hs2
   simp only [hnone,Bool.false_eq_true,if_false,Oz]
  cases hff:(and (FF rm (CB vals [])) (and (Ia rm own) (Jz rm ext))) with
  | false=>exact slow
  | true =>
   have hff:(FF rm (CB vals []) && (Ia rm own && Jz rm ext))=true:=hff;simp only [Bool.and_eq_true] at hff;simp only [HM,cond_true];congr 2;apply List.filter_congr;intro p hp;cases hc:rm.contains p.1 with
   | false=>rfl
   | true =>
    have h1:=FQ hff.1;rw [refsDL_eq,List.append_nil] at h1;have h2:=HF hff.2.1;have h3:=PG hff.2.2
    have:heldB rm vals own ext p.1=false:=by
     cases hh:heldB rm vals own ext p.1 with
     | false=>rfl
     | true =>
      have:=(hm p.1).2 hh
      have hpm:p.1∈rm:=List.contains_iff_mem.1 hc;rcases List.mem_append.1 this with h | h
      ·rcases List.mem_append.1 h with h | h
       ·exact absurd h (h1 _ hpm)
       ·exact absurd h (h2 _ hpm)
      ·exact absurd h (h3 _ hpm)
    rw [this];rfl
end
section
variable (s j:Nat)
theorem AtW (rm:List Nat) (vals:List IV) (own:List (Nat×Blk)) (ext:List Blk):JA rm vals own ext=own.filter fun p=>!rm.contains p.1 || heldB rm vals own ext p.1:=rfl
theorem nv1 (o:Nat):Cj s (.ptr (.own j) o)=(s == j):=rfl
theorem nv2 (a b:Nat):Cj s (.slc (.own j) a b)=(s == j):=rfl
theorem nv3 (es:List FV):Cj s (.app (.own j) es)=(s == j):=rfl
theorem nv4 (v:FV):Cj s (.fv v)=false:=rfl
theorem nv5:Cj s .nils=false:=rfl
theorem nv6 (es:List FV):Cj s (.clip es)=false:=rfl
theorem nv7 (o:Nat):Cj s (.ptr (.ext j) o)=false:=rfl
theorem nv8:Cj s .dead=false:=rfl
theorem nb1 (cs:List IV) (ro:Bool):FJ s (.row cs ro)=cs.any (Cj s):=rfl
theorem nb2 (a b:Nat):FJ s (.tok a b)=false:=rfl
theorem Aua (r:Ref) (o:Nat):FR (.ptr r o)=true:=rfl
theorem AtU (r:Ref) (a b:Nat):FR (.slc r a b)=true:=rfl
theorem Auw (r:Ref) (es:List FV):FR (.app r es)=true:=rfl
theorem Atz (v:FV):FR (.fv v)=true:=rfl
theorem At8:FR .nils=true:=rfl
theorem At2 (es:List FV):FR (.clip es)=true:=rfl
theorem AtV:FR .dead=true:=rfl
theorem Aun (cs:List IV) (ro:Bool):Vr (.row cs ro)=cs.all FR:=rfl
theorem fb_2 (a b:Nat):Vr (.tok a b)=true:=rfl
end
def XD:=AwV @AtW<|AwV @nv1<|AwV @nv2<|AwV @nv3<|AwV @nv4<|AwV @nv5<|AwV @nv6<|AwV @nv7<|AwV @nv8<|AwV @nb1<|AwV @nb2<|AwV @Aua<|AwV @AtU<|AwV @Auw<|AwV @Atz<|AwV @At8<|AwV @At2<|AwV @AtV<|AwV @Aun<|@fb_2
end Idl
end Go.Proofs.Ytaifgaidaglblaa
namespace Go.Proofs.Ytaifgaidaglblaa
namespace Idl
def Ae (op:Int) (i:Nat):Nat :=
 if op=3∨op=4∨op=6∨op=20∨op=28∨op=29 then (if i=1 then 1 else 0) else if op=13 then (if i=0 then 1 else if i=2 then 2 else 0) else 0
theorem AY (op:Int) (i:Nat):Ae op i≤2:=by
 unfold Ae
 repeat' split
 all_goals omega
theorem FG {n:Nat} (hn:0<n) (op:Int) (i:Nat):Bl (SS dt n 51 [iv op,iv i] ⟨[],[]⟩) (.int .i64 (Ae op i)):=by
 obtain ⟨n,rfl⟩:∃k,n=k+1:=⟨n - 1,by omega⟩;rw [c51];unfold Ae;by_cases h:op=3∨op=4∨op=6∨op=20∨op=28∨op=29
 ·rw [if_pos h];by_cases hi:i=1
  ·subst hi;rcases h with rfl | rfl | rfl | rfl | rfl | rfl<;>(simp only [↓UU3,↓XX,XY,↓reduceIte,Nat.reduceBEq,Nat.reduceAdd,Int.reduceEq,Int.reduceLT,Int.reduceLE];exact Ao _ _)
  ·have hi':¬ (i:Int)=1:=by omega
   rcases h with rfl | rfl | rfl | rfl | rfl | rfl<;>(simp only [↓UU3,↓XX,XY,↓reduceIte,Nat.reduceBEq,Nat.reduceAdd,Int.reduceEq,Int.reduceLT,Int.reduceLE,hi',hi];exact Ao _ _)
 ·rw [if_neg h];have h3:¬ op=3:=fun e=>h (by simp [e]);have h4:¬ op=4:=fun e=>h (by simp [e]);have h6:¬ op=6:=fun e=>h (by simp [e]);have h20:¬ op=20:=fun e=>h (by simp [e]);have h28:¬ op=28:=fun e=>h (by simp [e]);have h29:¬ op=29:=fun e=>h (by simp [e]);by_cases h13:op=13
  ·subst h13;by_cases hi:i=0
   ·subst hi;simp only [↓UU3,↓XX,XY,↓reduceIte,Nat.reduceBEq,Nat.reduceAdd,Int.reduceEq,Int.reduceLT,Int.reduceLE];exact Ao _ _
   ·have hi':¬ (i:Int)=0:=by omega
    by_cases hj:i=2
    ·subst hj;simp only [↓UU3,↓XX,XY,↓reduceIte,Nat.reduceBEq,Nat.reduceAdd,Int.reduceEq,Int.reduceLT,Int.reduceLE];exact Ao _ _
    ·have hj':¬ (i:Int)=2:=by omega
     simp only [↓UU3,↓XX,XY,↓reduceIte,Nat.reduceBEq,Nat.reduceAdd,Int.reduceEq,Int.reduceLT,Int.reduceLE,hi,hi',hj,hj'];exact Ao _ _
  ·simp only [↓UU3,↓XX,XY,↓reduceIte,Nat.reduceBEq,Nat.reduceAdd,Int.reduceEq,Int.reduceLT,Int.reduceLE,h3,h4,h6,h20,h28,h29,h13];exact Ao _ _
theorem Amb {n:Nat} (hn:0<n) (x:Int):Bl (SS dt n 26 [iv x] ⟨[],[]⟩) (Tm.mk 1 x []).enc:=by
 obtain ⟨n,rfl⟩:∃k,n=k+1:=⟨n - 1,by omega⟩;rw [c26];simp only [S26,↓XX,XY,↓reduceIte,Nat.reduceBEq,Nat.reduceAdd,Int.reduceEq,Int.reduceLT,Int.reduceLE];exact Bg rfl _
theorem AhA {n:Nat} (hn:0<n) (x:Int):Bl (SS dt n 45 [iv x] ⟨[],[]⟩) (Tm.mk 2 x []).enc:=by
 obtain ⟨n,rfl⟩:∃k,n=k+1:=⟨n - 1,by omega⟩;rw [c45];simp only [S45,↓XX,XY,↓reduceIte,Nat.reduceBEq,Nat.reduceAdd,Int.reduceEq,Int.reduceLT,Int.reduceLE];exact Bg rfl _
theorem Ai9 {n:Nat} (hn:0<n) (x:Int):Bl (SS dt n 36 [iv x] ⟨[],[]⟩) (Tm.mk 25 x []).enc:=by
 obtain ⟨n,rfl⟩:∃k,n=k+1:=⟨n - 1,by omega⟩;rw [c36];simp only [S36,↓XX,XY,↓reduceIte,Nat.reduceBEq,Nat.reduceAdd,Int.reduceEq,Int.reduceLT,Int.reduceLE];exact Bg rfl _
mutual
/-- No more than four kids anywhere. -/
def Tm.wk:Tm→Prop
 | .mk _ _ ks=>ks.length≤4∧Tm.wkL ks
def Tm.wkL:List Tm→Prop
 | []=>True
 | t::l=>t.wk∧Tm.wkL l
end
theorem Ml {t:Tm}:∀{l:List Tm},Tm.wkL l→t∈l→t.wk
 | a::l,h,hm=>by
  rw [Tm.wkL] at h;rcases List.mem_cons.1 hm with rfl | hm
  ·exact h.1
  ·exact Ml h.2 hm
mutual
def Tm.shift:Tm→Int→Int→Tm
 | .mk op n ks,d,c=>.mk op (if op=1∧c≤n then BI (n+d) else n) (Tm.shiftL op 0 ks d c)
def Tm.shiftL:Int→Nat→List Tm→Int→Int→List Tm
 | _,_,[],_,_=>[]
 | op,i,t::l,d,c=>t.shift d (c+Ae op i)::Tm.shiftL op (i+1) l d c
end
theorem Ej (op:Int) (d c:Int):∀(l:List Tm) (i:Nat),(Tm.shiftL op i l d c).length=l.length
 | [],_=>rfl
 | _::l,i=>by simp only [Tm.shiftL,Aw0,Ej op d c l]
theorem PM (op d c:Int):∀(l l':List Tm) (i:Nat),Tm.shiftL op i (l++l') d c=Tm.shiftL op i l d c++Tm.shiftL op (i+l.length) l' d c
 | [],l',i=>by simp [Tm.shiftL]
 | t::l,l',i=>by simp only [List.cons_append,Tm.shiftL,PM op d c l l',Aw0];congr 3;omega
theorem CF:∀(n:Nat) (t:Tm) (d c:Int),t.wt+1<n→t.wk→0≤c→c+2 * t.wt≤4611686018427387904→Bl (SS dt n 25 [.fv t.enc,iv d,iv c] ⟨[],[]⟩) (t.shift d c).enc:=by
 intro n
 induction n with
 | zero=>intro t d c h;omega
 | succ n ih =>
  intro t d c h hw hc0 hc;obtain ⟨op,m,ks⟩:=t;simp only [Tm.wt] at h hc;rw [Tm.wk] at hw;rw [c25,Ai];have hlen:=C5 ks;have main:∀m',m'=(if op=1∧c≤m then BI (m+d) else m) →
    Bl (BF n (fun q28 l29 h30=>Jk l29 h30 (SS dt n) ⟨[],[]⟩ q28) [iv d,iv c,.ptr (.own 26214400) 0,.ptr (.own 26214401) 0,.ptr (.own 26215429) 0,iv 0]
     ⟨[(26214400,.row [iv op,iv m,.fv (.sl (ks.map Tm.enc))] false),(26214401,.row [iv 0,iv 0,.nils] false),(26215429,.row [iv op,iv m',.nils] false)],[]⟩) ((Tm.mk op m ks).shift d c).enc:=by
   intro m' hm';refine A7 (Q:=fun r=>Bl r _) (fun k V H=>∃pre rest,ks=pre++rest∧rest.length=k∧V=[iv d,iv c,.ptr (.own 26214400) 0,.ptr (.own 26214401) 0,.ptr (.own 26215429) 0,iv pre.length] ∧
    (
     (pre=[]∧H=⟨[(26214400,.row [iv op,iv m,.fv (.sl (ks.map Tm.enc))] false),(26214401,.row [iv 0,iv 0,.nils] false),(26215429,.row [iv op,iv m',.nils] false)],[]⟩) ∨
     (pre≠[]∧H=⟨[(26214400,.row [iv op,iv m,.fv (.sl (ks.map Tm.enc))] false),(26214401,.row [iv 0,iv 0,.nils] false),(26215429,.row [iv op,iv m',.app (.own 26221584) ((Tm.shiftL op 0 pre d c).map Tm.enc)] false),(26221584,.tok (Tm.shiftL op 0 pre d c).length 3)],[]⟩)))
    ?_ n ks.length _ _ (by omega) ⟨[],ks,rfl,rfl,rfl,.inl ⟨rfl,rfl⟩⟩
   rintro k V H rec ⟨pre,rest,hk,hl,rfl,hH⟩ hrec;have hkl:ks.length=pre.length+rest.length:=by rw [hk];simp
   cases rest with
   | nil =>
    have hno:¬ ((pre.length:Int)<ks.length):=by rw [hkl];simp
    have hpre:ks=pre:=by simpa using hk
    rcases hH with ⟨rfl,rfl⟩ | ⟨_,rfl⟩
    ·subst hpre;simp only [Gm,Gh,Gj,Ge,Gl,Gc,Ga,Gt,Jk,Gk,Gd,Gf,Gx,Gn,S25,↓XX,XY,↓reduceIte,Nat.reduceBEq,Nat.reduceAdd,Int.reduceEq,Int.reduceLT,Int.reduceLE,Int.lt_irrefl,Tm.shift,Tm.shiftL,← hm',Ai];exact Bg rfl _
    ·subst hpre;simp only [Gm,Gh,Gj,Ge,Gl,Gc,Ga,Gt,Jk,Gk,Gd,Gf,Gx,Gn,S25,↓XX,XY,↓reduceIte,Nat.reduceBEq,Nat.reduceAdd,Int.reduceEq,Int.reduceLT,Int.reduceLE,Int.lt_irrefl,Tm.shift,← hm',Ai];exact Bg rfl _
   | cons t rest =>
    have hi:(pre.length:Int)<ks.length:=by rw [hkl];simp;omega
    have hg:=Cg hk;have htw:=BO (t:=t) (l:=ks) (by rw [hk];simp);have hb:=FG (n:=n) (by omega) op pre.length;have hble:=AY op pre.length;have hs:=ih t d (c+Ae op pre.length) (by omega) (Ml hw.2 (by rw [hk];simp)) (by omega) (by omega);have hx:Tm.shiftL op 0 (pre++[t]) d c=Tm.shiftL op 0 pre d c++[t.shift d (c+Ae op pre.length)]:=by
     rw [PM];simp [Tm.shiftL]
    have hwc:BI (c+Ae op pre.length)=c+Ae op pre.length:=by rw [Av]<;>omega
    have hwi:BI ((pre.length:Int)+1)=((pre++[t]).length:Int):=(Av (by omega) (by omega)).trans (by simp);generalize hu:t.shift d (c+Ae op pre.length)=u at hs hx;obtain ⟨o,p,l⟩:=t;simp only [Aw0] at hl;rw [Ai] at hs;rcases hH with ⟨hp0,rfl⟩ | ⟨hne,rfl⟩
    ·simp only [Gm,Gh,Gj,Ge,Gl,Gc,Ga,Gt,Jk,Gk,Gd,Gf,Gx,Gn,S25,↓XX,XY,↓reduceIte,Nat.reduceBEq,Nat.reduceAdd,Int.reduceEq,Int.reduceLT,Int.reduceLE,hi,↓Bq (AP hg) (Ba _ _ _),↓Ce,↓Ag hb,hwc,hwi,↓AX hs,↓JO,↓SN,↓AC,XD,heldB,AN,XE];refine hrec rest.length _ _ (by omega) ?_;refine ⟨pre++[.mk o p l],rest,by rw [hk];simp,rfl,rfl,.inr ⟨by simp,?_⟩⟩;rw [hx,hp0];rfl
    ·have hle:(Tm.shiftL op 0 pre d c).length+1≤1000000:=by rw [Ej];omega
     have hq:(Tm.shiftL op 0 pre d c).length=pre.length:=Ej ..;simp only [Gm,Gh,Gj,Ge,Gl,Gc,Ga,Gt,Jk,Gk,Gd,Gf,Gx,Gn,S25,↓XX,XY,↓reduceIte,Nat.reduceBEq,Nat.reduceAdd,Int.reduceEq,Int.reduceLT,Int.reduceLE,hi,↓Bq (AP hg) (Ba _ _ _),↓Ce,↓Ag hb,hwc,hwi,↓AX hs,↓JO,↓NX hle,↓H9,↓AC,XD,heldB,AN,XE];refine hrec rest.length _ _ (by omega) ?_;refine ⟨pre++[.mk o p l],rest,by rw [hk];simp,rfl,rfl,.inr ⟨by simp,?_⟩⟩;rw [hx];simp only [List.length_append,Aw0,List.length_nil]
  by_cases h1:op=1
  ·by_cases h2:c≤m
   ·subst h1;simp only [Gm,Gh,Gj,Ge,Gl,Gc,Ga,Gt,Gk,Gd,Gf,Gx,Gn,S25,↓XX,XY,↓reduceIte,Nat.reduceBEq,Nat.reduceAdd,Int.reduceEq,Int.reduceLT,Int.reduceLE,h2,↓AC,XD,heldB,AN,XE];exact main _ (by simp [h2])
   ·subst h1;simp only [Gm,Gh,Gj,Ge,Gl,Gc,Ga,Gt,Gk,Gd,Gf,Gx,Gn,S25,↓XX,XY,↓reduceIte,Nat.reduceBEq,Nat.reduceAdd,Int.reduceEq,Int.reduceLT,Int.reduceLE,h2,↓AC,XD,heldB,AN,XE];exact main _ (by simp [h2])
  ·simp only [Gm,Gh,Gj,Ge,Gl,Gc,Ga,Gt,Gk,Gd,Gf,Gx,Gn,S25,↓XX,XY,↓reduceIte,Nat.reduceBEq,Nat.reduceAdd,Int.reduceEq,Int.reduceLT,Int.reduceLE,h1,↓AC,XD,heldB,AN,XE];exact main _ (by simp [h1])
mutual
def Tm.subst:Tm→Int→Int→Tm→Tm
 | .mk op m ks,n,d,u=>if op=1 then (if m=n then u.shift d 0 else if n<m then .mk 1 (BI (m - 1)) [] else .mk op m ks) else .mk op m (Tm.substL op 0 ks n d u)
def Tm.substL:Int→Nat→List Tm→Int→Int→Tm→List Tm
 | _,_,[],_,_,_=>[]
 | op,i,t::l,n,d,u=>t.subst (n+Ae op i) (d+Ae op i) u::Tm.substL op (i+1) l n d u
end
theorem Hy (op n d:Int) (u:Tm):∀(l:List Tm) (i:Nat),(Tm.substL op i l n d u).length=l.length
 | [],_=>rfl
 | _::l,i=>by simp only [Tm.substL,Aw0,Hy op n d u l]
theorem Oe (op n d:Int) (u:Tm):∀(l l':List Tm) (i:Nat),Tm.substL op i (l++l') n d u=Tm.substL op i l n d u++Tm.substL op (i+l.length) l' n d u
 | [],l',i=>by simp [Tm.substL]
 | t::l,l',i=>by simp only [List.cons_append,Tm.substL,Oe op n d u l l',Aw0];congr 3;omega
theorem Ail (u:Tm) (hu:u.wk) (huw:u.wt≤1152921504606846976):∀(n:Nat) (t:Tm) (c d:Int),t.wt+u.wt+3<n→t.wk→-1000000000≤c→c+2 * t.wt≤4611686018427387904→0≤d→d+2 * t.wt≤4611686018427387904 →
  Bl (SS dt n 60 [.fv t.enc,iv c,iv d,.fv u.enc] ⟨[],[]⟩) (t.subst c d u).enc:=by
 intro n
 induction n with
 | zero=>intro t c d h;omega
 | succ n ih =>
  intro t c d h hw hc0 hc hd0 hd;obtain ⟨op,m,ks⟩:=t;simp only [Tm.wt] at h hc hd;rw [Tm.wk] at hw;rw [c60,Ai];have hlen:=C5 ks;by_cases h1:op=1
  ·subst h1;have hsh:=CF n u d 0 (by omega) hu (by omega) (by omega);rw [Tm.subst,if_pos rfl];generalize u.shift d 0=z at hsh ⊢;obtain ⟨uo,un,uk⟩:=u;obtain ⟨zo,zn,zk⟩:=z;rw [Ai] at hsh ⊢;by_cases h2:m=c
   ·subst h2;simp only [↓UU2,↓XX,XY,↓reduceIte,Nat.reduceBEq,Nat.reduceAdd,Int.reduceEq,Int.reduceLT,Int.reduceLE,↓AX hsh];simp only [↓UU2,↓XX,XY,↓reduceIte,Nat.reduceBEq,Nat.reduceAdd,Int.reduceEq,Int.reduceLT,Int.reduceLE,Ai];exact Bg rfl _
   ·by_cases h3:c<m
    ·simp only [↓UU2,↓XX,XY,↓reduceIte,Nat.reduceBEq,Nat.reduceAdd,Int.reduceEq,Int.reduceLT,Int.reduceLE,h2,h3,Ai];exact Bg rfl _
    ·simp only [↓UU2,↓XX,XY,↓reduceIte,Nat.reduceBEq,Nat.reduceAdd,Int.reduceEq,Int.reduceLT,Int.reduceLE,h2,h3,Ai];exact Bg rfl _
  ·have main :
    Bl (BF n (fun q l h=>If l h (SS dt n) ⟨[],[]⟩ q) [iv c,iv d,.ptr (.own 62914560) 0,.ptr (.own 62914561) 0,.ptr (.own 62914562) 0,.ptr (.own 62921733) 0,iv 0]
     ⟨[(62914560,.row [iv op,iv m,.fv (.sl (ks.map Tm.enc))] false),(62914561,.row [iv u.op,iv u.n,.fv (.sl (u.kids.map Tm.enc))] false),(62914562,.row [iv 0,iv 0,.nils] false),(62921733,.row [iv op,iv m,.nils] false)],[]⟩)
      (Tm.mk op m (Tm.substL op 0 ks c d u)).enc:=by
    refine A7 (Q:=fun r=>Bl r _) (fun k V H=>∃pre rest,ks=pre++rest∧rest.length=k∧V=[iv c,iv d,.ptr (.own 62914560) 0,.ptr (.own 62914561) 0,.ptr (.own 62914562) 0,.ptr (.own 62921733) 0,iv pre.length] ∧
     (
      (pre=[]∧H=⟨[(62914560,.row [iv op,iv m,.fv (.sl (ks.map Tm.enc))] false),(62914561,.row [iv u.op,iv u.n,.fv (.sl (u.kids.map Tm.enc))] false),(62914562,.row [iv 0,iv 0,.nils] false),(62921733,.row [iv op,iv m,.nils] false)],[]⟩) ∨
      (
      pre≠[]∧H=⟨[(62914560,.row [iv op,iv m,.fv (.sl (ks.map Tm.enc))] false),(62914561,.row [iv u.op,iv u.n,.fv (.sl (u.kids.map Tm.enc))] false),(62914562,.row [iv 0,iv 0,.nils] false),
      (62921733,.row [iv op,iv m,.app (.own 62926864) ((Tm.substL op 0 pre c d u).map Tm.enc)] false),(62926864,.tok (Tm.substL op 0 pre c d u).length 3)],[]⟩)))
     ?_ n ks.length _ _ (by omega) ⟨[],ks,rfl,rfl,rfl,.inl ⟨rfl,rfl⟩⟩
    rintro k V H rec ⟨pre,rest,hk,hl,rfl,hH⟩ hrec;have hkl:ks.length=pre.length+rest.length:=by rw [hk];simp
    cases rest with
    | nil =>
     have hno:¬ ((pre.length:Int)<ks.length):=by rw [hkl];simp
     have hpre:ks=pre:=by simpa using hk
     rcases hH with ⟨rfl,rfl⟩ | ⟨_,rfl⟩
     ·subst hpre;simp only [Il,Jj,Is,Jl,I7,Ja,I5,In,IR,IN,IS,IJ,Jn,If,IX,IB,Ji,S60,↓XX,XY,↓reduceIte,Nat.reduceBEq,Nat.reduceAdd,Int.reduceEq,Int.reduceLT,Int.reduceLE,Int.lt_irrefl,Tm.substL,Ai];exact Bg rfl _
     ·subst hpre;simp only [Il,Jj,Is,Jl,I7,Ja,I5,In,IR,IN,IS,IJ,Jn,If,IX,IB,Ji,S60,↓XX,XY,↓reduceIte,Nat.reduceBEq,Nat.reduceAdd,Int.reduceEq,Int.reduceLT,Int.reduceLE,Int.lt_irrefl,Ai];exact Bg rfl _
    | cons t rest =>
     have hi:(pre.length:Int)<ks.length:=by rw [hkl];simp;omega
     have hg:=Cg hk;have htw:=BO (t:=t) (l:=ks) (by rw [hk];simp);have hb:=FG (n:=n) (by omega) op pre.length;have hble:=AY op pre.length;have hs:=ih t (c+Ae op pre.length) (d+Ae op pre.length) (by omega) (Ml hw.2 (by rw [hk];simp)) (by omega) (by omega) (by omega) (by omega);have hx:Tm.substL op 0 (pre++[t]) c d u=Tm.substL op 0 pre c d u++[t.subst (c+Ae op pre.length) (d+Ae op pre.length) u]:=by
      rw [Oe];simp [Tm.substL]
     have hwc:BI (c+Ae op pre.length)=c+Ae op pre.length:=by rw [Av]<;>omega
     have hwd:BI (d+Ae op pre.length)=d+Ae op pre.length:=by rw [Av]<;>omega
     have hwi:BI ((pre.length:Int)+1)=((pre++[t]).length:Int):=(Av (by omega) (by omega)).trans (by simp);generalize hv:t.subst (c+Ae op pre.length) (d+Ae op pre.length) u=v at hs hx;obtain ⟨o,p,l⟩:=t;simp only [Aw0] at hl;have hue:u.enc=.agg [.int .i64 u.op,.int .i64 u.n,.sl (u.kids.map Tm.enc)]:=by cases u;exact Ai ..
     rw [Ai,hue] at hs;rcases hH with ⟨hp0,rfl⟩ | ⟨hne,rfl⟩
     ·simp only [Il,Jj,Is,Jl,I7,Ja,I5,In,IR,IN,IS,IJ,Jn,If,IX,IB,Ji,S60,↓XX,XY,↓reduceIte,Nat.reduceBEq,Nat.reduceAdd,Int.reduceEq,Int.reduceLT,Int.reduceLE,hi,↓Bq (AP hg) (Ba _ _ _),↓Ce,↓Ag hb,hwc,hwd,hwi,↓AE hs,↓JO,↓SN,↓AC,XD,heldB,AN,XE];refine hrec rest.length _ _ (by omega) ?_;refine ⟨pre++[.mk o p l],rest,by rw [hk];simp,rfl,rfl,.inr ⟨by simp,?_⟩⟩;rw [hx,hp0];rfl
     ·have hle:(Tm.substL op 0 pre c d u).length+1≤1000000:=by rw [Hy];omega
      simp only [Il,Jj,Is,Jl,I7,Ja,I5,In,IR,IN,IS,IJ,Jn,If,IX,IB,Ji,S60,↓XX,XY,↓reduceIte,Nat.reduceBEq,Nat.reduceAdd,Int.reduceEq,Int.reduceLT,Int.reduceLE,hi,↓Bq (AP hg) (Ba _ _ _),↓Ce,↓Ag hb,hwc,hwd,hwi,↓AE hs,↓JO,↓NX hle,↓H9,↓AC,XD,heldB,AN,XE];refine hrec rest.length _ _ (by omega) ?_;refine ⟨pre++[.mk o p l],rest,by rw [hk];simp,rfl,rfl,.inr ⟨by simp,?_⟩⟩;rw [hx];simp only [List.length_append,Aw0,List.length_nil]
   rw [Tm.subst,if_neg h1];obtain ⟨uo,un,uk⟩:=u;rw [Ai (op:=uo)];simp only [↓UU2,↓XX,XY,↓reduceIte,Nat.reduceBEq,Nat.reduceAdd,Int.reduceEq,Int.reduceLT,Int.reduceLE,h1,↓AC,XD,heldB,AN,XE];exact main
theorem U8 {n:Nat} (t u:Tm) (c:Int) (hu:u.wk) (huw:u.wt≤1152921504606846976) (h:t.wt+u.wt+4<n) (hw:t.wk) (hww:t.wt≤2305843009213693951) (h0:-1000000000≤c) (hc:c+2 * t.wt≤4611686018427387904) :
  Bl (SS dt n 50 [.fv t.enc,iv c,.fv u.enc] ⟨[],[]⟩) (t.subst c 0 u).enc:=by
 obtain ⟨n,rfl⟩:∃k,n=k+1:=⟨n - 1,by omega⟩;rw [c50];have hs:=Ail u hu huw n t c 0 (by omega) hw h0 hc (by omega) (by omega);generalize t.subst c 0 u=v at hs ⊢;obtain ⟨o1,n1,k1⟩:=t;obtain ⟨o2,n2,k2⟩:=u;obtain ⟨o3,n3,k3⟩:=v;simp only [Ai] at hs ⊢;simp only [AhM,S50,↓XX,XY,↓reduceIte,Nat.reduceBEq,Nat.reduceAdd,Int.reduceEq,Int.reduceLT,Int.reduceLE,↓AE hs];exact Bg rfl _
mutual
def Tm.free:Tm→Int→Bool
 | .mk op m ks,c=>if op=1 then decide (m=c) else Tm.freeL op 0 ks c
def Tm.freeL:Int→Nat→List Tm→Int→Bool
 | _,_,[],_=>false
 | op,i,t::l,c=>t.free (c+Ae op i) || Tm.freeL op (i+1) l c
end
theorem AlZ:∀(n:Nat) (t:Tm) (c:Int),t.wt+1<n→t.wt≤1152921504606846976→-1000000000≤c→c+2 * t.wt≤461168601842738→Bl (SS dt n 54 [.fv t.enc,iv c] ⟨[],[]⟩) (.bool (t.free c)):=by
 intro n
 induction n with
 | zero=>intro t c h;omega
 | succ n ih =>
  intro t c h hw hc0 hc;obtain ⟨op,m,ks⟩:=t;simp only [Tm.wt] at h hw hc;rw [c54,Ai];have hlen:=C5 ks;by_cases h1:op=1
  ·subst h1;rw [Tm.free,if_pos rfl];simp only [Mj,MB,MT,MC,MP,S54,↓XX,XY,↓reduceIte,Nat.reduceBEq,Nat.reduceAdd,Int.reduceEq,Int.reduceLT,Int.reduceLE];exact Ao _ _
  ·rw [Tm.free,if_neg h1];simp only [Mj,MB,MT,MC,MP,S54,↓XX,XY,↓reduceIte,Nat.reduceBEq,Nat.reduceAdd,Int.reduceEq,Int.reduceLT,Int.reduceLE,h1];refine A7 (Q:=fun r=>Bl r _) (fun k V H=>∃pre rest,ks=pre++rest∧rest.length=k∧V=[iv c,.ptr (.own 56623104) 0,iv pre.length]∧H=⟨[(56623104,.row [iv op,iv m,.fv (.sl (ks.map Tm.enc))] false)],[]⟩∧Tm.freeL op pre.length rest c=Tm.freeL op 0 ks c)
    ?_ n ks.length _ _ (by omega) ⟨[],ks,rfl,rfl,rfl,rfl,rfl⟩
   rintro k V H rec ⟨pre,rest,hk,hl,rfl,rfl,ht⟩ hrec;have hkl:ks.length=pre.length+rest.length:=by rw [hk];simp
   cases rest with
   | nil =>
    have hno:¬ ((pre.length:Int)<ks.length):=by rw [hkl];simp
    rw [← ht];simp only [Mj,MB,MT,MC,MP,TY,S54,↓XX,XY,↓reduceIte,Nat.reduceBEq,Nat.reduceAdd,Int.reduceEq,Int.reduceLT,Int.reduceLE,hno,Tm.freeL];exact Ao _ _
   | cons t rest =>
    have hi:(pre.length:Int)<ks.length:=by rw [hkl];simp;omega
    have hg:=Cg hk;have htw:=BO (t:=t) (l:=ks) (by rw [hk];simp);have hb:=FG (n:=n) (by omega) op pre.length;have hble:=AY op pre.length;have hs:=ih t (c+Ae op pre.length) (by omega) (by omega) (by omega) (by omega);have hwc:BI (c+Ae op pre.length)=c+Ae op pre.length:=by rw [Av]<;>omega
    have hwi:BI ((pre.length:Int)+1)=((pre++[t]).length:Int):=(Av (by omega) (by omega)).trans (by simp);simp only [Tm.freeL] at ht;generalize t.free (c+Ae op pre.length)=v at hs ht;obtain ⟨o,p,l⟩:=t;simp only [Aw0] at hl;rw [Ai] at hs;cases v
    ·simp only [Mj,MB,MT,MC,MP,TY,S54,↓XX,XY,↓reduceIte,Nat.reduceBEq,Nat.reduceAdd,Int.reduceEq,Int.reduceLT,Int.reduceLE,hi,↓Bq (AP hg) (Ba _ _ _),↓Ce,↓Ag hb,hwc,hwi,↓Ag hs];refine hrec rest.length _ _ (by omega) ?_;exact ⟨pre++[.mk o p l],rest,by rw [hk];simp,rfl,rfl,rfl,by simpa using ht⟩
    ·rw [← ht];simp only [Mj,MB,MT,MC,MP,TY,S54,↓XX,XY,↓reduceIte,Nat.reduceBEq,Nat.reduceAdd,Int.reduceEq,Int.reduceLT,Int.reduceLE,hi,↓Bq (AP hg) (Ba _ _ _),↓Ce,↓Ag hb,hwc,hwi,↓Ag hs,Bool.true_or];exact Ao _ _
mutual
def Tm.same:Tm→Tm→Bool
 | .mk o n l,.mk o' n' l'=>decide (o=o') && (decide (n=n') && (decide (l.length=l'.length) && Tm.sameL l l'))
def Tm.sameL:List Tm→List Tm→Bool
 | a::l,b::l'=>a.same b && Tm.sameL l l'
 | _,_=>true
end
mutual
theorem NK:∀a b:Tm,a.same b=true ↔ a=b
 | .mk o n l,.mk o' n' l'=>by
  simp only [Tm.same,Bool.and_eq_true,decide_eq_true_eq,Tm.mk.injEq];constructor
  ·rintro ⟨rfl,rfl,h1,h2⟩;exact ⟨rfl,rfl,(sameL_eq l l' h1).1 h2⟩
  ·rintro ⟨rfl,rfl,rfl⟩;exact ⟨rfl,rfl,rfl,(sameL_eq l l rfl).2 rfl⟩
theorem sameL_eq:∀l l':List Tm,l.length=l'.length→(Tm.sameL l l'=true ↔ l=l')
 | [],[],_=>by simp [Tm.sameL]
 | a::l,b::l',h=>by
  simp only [Tm.sameL,Bool.and_eq_true,List.cons.injEq,NK a b,sameL_eq l l' (by simpa using h)]
end
theorem RI:∀(n:Nat) (a b:Tm),a.wt+1<n→a.wt≤1152921504606846976→Bl (SS dt n 37 [.fv a.enc,.fv b.enc] ⟨[],[]⟩) (.bool (a.same b)):=by
 intro n
 induction n with
 | zero=>intro a b h;omega
 | succ n ih =>
  intro a b h hw;obtain ⟨op,m,ks⟩:=a;obtain ⟨op',m',ks'⟩:=b;simp only [Tm.wt] at h hw;rw [c37,Ai,Ai];have hlen:=C5 ks;rw [Tm.same];by_cases h1:op=op'
  ·by_cases h2:m=m'
   ·by_cases h3:ks.length=ks'.length
    ·have h3':(ks.length:Int)=ks'.length:=by omega
     subst h1 h2;simp only [Gi,GC,Gb,GG,GH,GA,GE,Gp,GD,S37,↓XX,XY,↓reduceIte,Nat.reduceBEq,Nat.reduceAdd,Int.reduceEq,Int.reduceLT,Int.reduceLE,h3,h3',Tm.same];refine A7 (Q:=fun r=>Bl r _) (fun k V H=>∃pre rest pre' rest',ks=pre++rest∧ks'=pre'++rest'∧pre.length=pre'.length∧rest.length=k∧V=[.ptr (.own 38797312) 0,.ptr (.own 38797313) 0,iv pre.length] ∧
      H=⟨[(38797312,.row [iv op,iv m,.fv (.sl (ks.map Tm.enc))] false),(38797313,.row [iv op,iv m,.fv (.sl (ks'.map Tm.enc))] false)],[]⟩∧Tm.sameL rest rest'=Tm.sameL ks ks')
      ?_ n ks.length _ _ (by omega) ⟨[],ks,[],ks',rfl,rfl,rfl,rfl,rfl,rfl,rfl⟩
     rintro k V H rec ⟨pre,rest,pre',rest',hk,hk',hpl,hl,rfl,rfl,ht⟩ hrec;have hkl:ks.length=pre.length+rest.length:=by rw [hk];simp
     have hkl':ks'.length=pre'.length+rest'.length:=by rw [hk'];simp
     cases rest with
     | nil =>
      have hno:¬ ((pre.length:Int)<ks.length):=by rw [hkl];simp
      rw [← ht];simp only [Gi,GC,Gb,GG,GH,Nw,GA,GE,Gp,GD,S37,↓XX,XY,↓reduceIte,Nat.reduceBEq,Nat.reduceAdd,Int.reduceEq,Int.reduceLT,Int.reduceLE,hno,Tm.sameL];exact Ao _ _
     | cons t rest =>
      cases rest' with
      | nil=>simp at hkl hkl';omega
      | cons t' rest' =>
       have hi:(pre.length:Int)<ks.length:=by rw [hkl];simp;omega
       have hg:=Cg hk;have hg':=Cg hk';rw [← hpl] at hg';have htw:=BO (t:=t) (l:=ks) (by rw [hk];simp);have hs:=ih t t' (by omega) (by omega);have hwi:BI ((pre.length:Int)+1)=((pre++[t]).length:Int):=(Av (by omega) (by omega)).trans (by simp);simp only [Tm.sameL] at ht;generalize t.same t'=v at hs ht;obtain ⟨o,p,l⟩:=t;obtain ⟨o',p',l'⟩:=t';simp only [Aw0] at hl;rw [Ai,Ai] at hs;cases v
       ·rw [← ht];simp only [Gi,GC,Gb,GG,GH,Nw,GA,GE,Gp,GD,S37,↓XX,XY,↓reduceIte,Nat.reduceBEq,Nat.reduceAdd,Int.reduceEq,Int.reduceLT,Int.reduceLE,hi,↓Bq (AP hg) (Ba _ _ _),↓Bq (AP hg') (Ba _ _ _),↓Ce,↓Ag hs,Bool.false_and];exact Ao _ _
       ·simp only [Gi,GC,Gb,GG,GH,Nw,GA,GE,Gp,GD,S37,↓XX,XY,↓reduceIte,Nat.reduceBEq,Nat.reduceAdd,Int.reduceEq,Int.reduceLT,Int.reduceLE,hi,↓Bq (AP hg) (Ba _ _ _),↓Bq (AP hg') (Ba _ _ _),↓Ce,hwi,↓Ag hs];refine hrec rest.length _ _ (by omega) ?_;exact ⟨pre++[.mk o p l],rest,pre'++[.mk o' p' l'],rest',by rw [hk];simp,by rw [hk'];simp,by simp [hpl],rfl,rfl,rfl,by simpa using ht⟩
    ·have h3':¬ (ks.length:Int)=ks'.length:=by omega
     simp only [Gi,GC,Gb,GG,GH,GA,GE,Gp,GD,S37,↓XX,XY,↓reduceIte,Nat.reduceBEq,Nat.reduceAdd,Int.reduceEq,Int.reduceLT,Int.reduceLE,h1,h2,h3,h3'];exact Ao _ _
   ·simp only [Gi,GC,Gb,GG,GH,GA,GE,Gp,GD,S37,↓XX,XY,↓reduceIte,Nat.reduceBEq,Nat.reduceAdd,Int.reduceEq,Int.reduceLT,Int.reduceLE,h1,h2];exact Ao _ _
  ·simp only [Gi,GC,Gb,GG,GH,GA,GE,Gp,GD,S37,↓XX,XY,↓reduceIte,Nat.reduceBEq,Nat.reduceAdd,Int.reduceEq,Int.reduceLT,Int.reduceLE,h1];exact Ao _ _
theorem Alw (o p:Int) (l:List Tm) (s:Nat) (h:Hp) (k:IV→Hp→List Ref→List Ref→Option (IV×Hp)):Az (Ah EE 29 1 [(0,.fv (.agg [.int .i64 o,.int .i64 p,.sl (l.map Tm.enc)]))]) s h k=k (.clip [.agg [.int .i64 o,.int .i64 p,.sl (l.map Tm.enc)]]) h [] []:=by
 have:=JO (.mk o p l) s h k
 rw [Ai] at this;exact this
def Ro (o:Option (IV×Hp)):Bool:=match o with
 | some (.fv (.bool b),⟨_,[]⟩)=>b
 | _=>false
theorem Afw {o:Option (IV×Hp)} (h:Ro o=true):Bl o (.bool true):=by
 unfold Ro at h;split at h
 ·subst h;exact Ao _ _
 ·cases h
theorem CM (o1 n1 o2 n2:Int) (k1 k2:List FV) (s:Nat) (h:Hp) (k:IV→Hp→List Ref→List Ref→Option (IV×Hp)):Az (Ah EE 29 2 [(0,.fv (.agg [.int .i64 o1,.int .i64 n1,.sl k1])),(1,.fv (.agg [.int .i64 o2,.int .i64 n2,.sl k2]))]) s h k =
  k (.clip [.agg [.int .i64 o1,.int .i64 n1,.sl k1],.agg [.int .i64 o2,.int .i64 n2,.sl k2]]) h [] []:=Cw VC tTm (by decide) (cells:=[.int .i64 o1,.int .i64 n1,.sl k1,.int .i64 o2,.int .i64 n2,.sl k2]) rfl k
theorem Ie (o1 n1 o2 n2 o3 n3:Int) (k1 k2 k3:List FV) (s:Nat) (h:Hp) (k:IV→Hp→List Ref→List Ref→Option (IV×Hp)):Az (Ah EE 29 3 [(0,.fv (.agg [.int .i64 o1,.int .i64 n1,.sl k1])),(1,.fv (.agg [.int .i64 o2,.int .i64 n2,.sl k2])),(2,.fv (.agg [.int .i64 o3,.int .i64 n3,.sl k3]))]) s h k =
  k (.clip [.agg [.int .i64 o1,.int .i64 n1,.sl k1],.agg [.int .i64 o2,.int .i64 n2,.sl k2],.agg [.int .i64 o3,.int .i64 n3,.sl k3]]) h [] []:=Cw VC tTm (by decide) (cells:=[.int .i64 o1,.int .i64 n1,.sl k1,.int .i64 o2,.int .i64 n2,.sl k2,.int .i64 o3,.int .i64 n3,.sl k3]) rfl k
theorem AmM (o1 n1 o2 n2 o3 n3 o4 n4:Int) (k1 k2 k3 k4:List FV) (s:Nat) (h:Hp) (k:IV→Hp→List Ref→List Ref→Option (IV×Hp)):Az (Ah EE 29 4 [(0,.fv (.agg [.int .i64 o1,.int .i64 n1,.sl k1])),(1,.fv (.agg [.int .i64 o2,.int .i64 n2,.sl k2])),(2,.fv (.agg [.int .i64 o3,.int .i64 n3,.sl k3])),(3,.fv (.agg [.int .i64 o4,.int .i64 n4,.sl k4]))]) s h k =
  k (.clip [.agg [.int .i64 o1,.int .i64 n1,.sl k1],.agg [.int .i64 o2,.int .i64 n2,.sl k2],.agg [.int .i64 o3,.int .i64 n3,.sl k3],.agg [.int .i64 o4,.int .i64 n4,.sl k4]]) h [] []:=Cw VC tTm (by decide) (cells:=[.int .i64 o1,.int .i64 n1,.sl k1,.int .i64 o2,.int .i64 n2,.sl k2,.int .i64 o3,.int .i64 n3,.sl k3,.int .i64 o4,.int .i64 n4,.sl k4]) rfl k
theorem E8 (o1 n1:Int) (k1:List FV) (s:Nat) (h:Hp) (k:IV→Hp→List Ref→List Ref→Option (IV×Hp)):Az (Ah EE 29 1 [(0,.fv (.agg [.int .i64 o1,.int .i64 n1,.sl k1]))]) s h k =
  k (.clip [.agg [.int .i64 o1,.int .i64 n1,.sl k1]]) h [] []:=Cw VC tTm (by decide) (cells:=[.int .i64 o1,.int .i64 n1,.sl k1]) rfl k
def Afx (r:Option (IV×Hp)) (v:FV):Prop:=∃own,r=some (.fv v,⟨own,[]⟩)
theorem TD {v:FV} {own:List (Nat×Blk)}:Afx (some (.fv v,⟨own,[]⟩)) v:=⟨own,rfl⟩
def HD:Nat→Tm
 | 0=>.mk 11 0 []
 | n+1=>.mk 12 0 [HD n]
theorem Agc {g:FuncId} (h:EE.pol.inl g=false) (h1:EE.pol.keep g=[]) (h2:EE.pol.split g=false) (h3:EE.pol.raw g=false) (ih:Aa) (xs:List IV) (h0:Hp) (k:IV→Hp→List Ref→List Ref→Option (IV×Hp)) :
  Ed EE ih (.fv (.func (.func g) [] [])) xs h0 k=Al [] false false ih g xs h0 k:=by
 unfold Ed;simp only [callee,h,cond_false,Ake,h1,h2,h3,Aw1,List.nil_append,List.append_nil]
theorem Ai7 {n:Nat} (k:Nat) (hn:k+3<n) (hk:k≤1000000):Bl (SS dt n 29 [iv k] ⟨[],[]⟩) (HD k).enc:=by
 obtain ⟨n,rfl⟩:∃j,n=j+1:=⟨n - 1,by omega⟩;rw [c29];have h0:=De (n:=n) (by omega) 11;rw [Ai] at h0;simp only [RY,TE,RA,S29,↓XX,XY,↓reduceIte,Nat.reduceBEq,Nat.reduceAdd,Int.reduceEq,Int.reduceLT,Int.reduceLE,↓Ag h0];refine A7 (Q:=fun r=>Bl r _) (fun j V H=>∃(i:Nat),i+j=k∧V=[iv k,.ptr (.own 30408704) 0,.ptr (.own 30409729) 0,iv i] ∧
   H=⟨[(30408704,.row [iv 0,iv 0,.nils] false),(30409729,.row [iv (HD i).op,iv (HD i).n,.fv (.sl ((HD i).kids.map Tm.enc))] false)],[]⟩) ?_ n k _ _ (by omega) ⟨0,by omega,rfl,rfl⟩
 rintro j V H rec ⟨i,hi,rfl,rfl⟩ hrec;cases j with
 | zero =>
  have:i=k:=by omega
  subst this;have hno:¬ ((i:Int)<i):=by omega
  generalize HD i=t;obtain ⟨o,p,l⟩:=t;rw [Ai];simp only [RY,TE,RA,V7,S29,↓XX,XY,↓reduceIte,Nat.reduceBEq,Nat.reduceAdd,Int.reduceEq,Int.reduceLT,Int.reduceLE,hno,Tm.op,Tm.n,Tm.kids];exact Ao _ _
 | succ j =>
  have hlt:(i:Int)<k:=by omega
  have hw:BI ((i:Int)+1)=((i+1:Nat):Int):=(Av (by omega) (by omega)).trans (by simp);have ht:=Cs (n:=n) (by omega) 12 [HD i];have h9:=hrec j ([iv k,.ptr (.own 30408704) 0,.ptr (.own 30409729) 0,iv (i+1:Nat)]) (⟨[(30408704,.row [iv 0,iv 0,.nils] false),(30409729,.row [iv 12,iv 0,.fv (.sl ([HD i].map Tm.enc))] false)],[]⟩) (by omega) ⟨i+1,by omega,rfl,rfl⟩;generalize HD i=t at *;obtain ⟨o,p,l⟩:=t;simp only [Aw2,Aw1,Ai] at ht h9;simp only [RY,TE,RA,V7,S29,↓XX,XY,↓reduceIte,Nat.reduceBEq,Nat.reduceAdd,Int.reduceEq,Int.reduceLT,Int.reduceLE,hlt,Tm.op,Tm.n,Tm.kids,↓Alw,↓Ag ht,hw];exact h9
theorem KO:∀(n:Nat) (t:Tm),t.wt<n→t.wt≤1152921504606846976→Bl (SS dt n 18 [.fv t.enc] ⟨[],[]⟩) (.int .i64 t.wt):=by
 intro n
 induction n with
 | zero=>intro t h;omega
 | succ n ih =>
  intro t h hw;obtain ⟨op,m,ks⟩:=t;simp only [Tm.wt] at h hw ⊢;rw [c18,Ai];have hlen:=C5 ks;simp only [Sc,QY,RU,S18,↓XX,XY,↓reduceIte,Nat.reduceBEq,Nat.reduceAdd,Int.reduceEq,Int.reduceLT,Int.reduceLE];refine A7 (Q:=fun r=>Bl r _) (fun k V H=>∃(pre rest:List Tm) (acc:Nat),ks=pre++rest∧rest.length=k∧V=[.ptr (.own 18874368) 0,iv acc,iv pre.length]∧H=⟨[(18874368,.row [iv op,iv m,.fv (.sl (ks.map Tm.enc))] false)],[]⟩∧acc+Tm.wtL rest=1+Tm.wtL ks)
   ?_ n ks.length _ _ (by omega) ⟨[],ks,1,rfl,rfl,rfl,rfl,rfl⟩
  rintro k V H rec ⟨pre,rest,acc,hk,hl,rfl,rfl,ht⟩ hrec;have hkl:ks.length=pre.length+rest.length:=by rw [hk];simp
  cases rest with
  | nil =>
   have hno:¬ ((pre.length:Int)<ks.length):=by rw [hkl];simp
   simp only [Tm.wtL] at ht;rw [← ht];simp only [Sc,QY,RU,Xj,S18,↓XX,XY,↓reduceIte,Nat.reduceBEq,Nat.reduceAdd,Int.reduceEq,Int.reduceLT,Int.reduceLE,hno];exact Ao _ _
  | cons t rest =>
   have hi:(pre.length:Int)<ks.length:=by rw [hkl];simp;omega
   have hg:=Cg hk;have htw:=BO (t:=t) (l:=ks) (by rw [hk];simp);have hs:=ih t (by omega) (by omega);simp only [Tm.wtL] at ht;have hwi:BI ((pre.length:Int)+1)=((pre++[t]).length:Int):=(Av (by omega) (by omega)).trans (by simp);have hwa:BI ((acc:Int)+(t.wt:Int))=((acc+t.wt:Nat):Int):=(Av (by omega) (by omega)).trans (by simp);have h9:=hrec rest.length ([.ptr (.own 18874368) 0,iv (acc+t.wt:Nat),iv (pre++[t]).length]) _ (by simp only [Aw0] at hl;omega) ⟨pre++[t],rest,acc+t.wt,by rw [hk];simp,rfl,rfl,rfl,by omega⟩;generalize t.wt=v at hs hwa h9;obtain ⟨o,p,l⟩:=t;rw [Ai] at hs;simp only [Sc,QY,RU,Xj,S18,↓XX,XY,↓reduceIte,Nat.reduceBEq,Nat.reduceAdd,Int.reduceEq,Int.reduceLT,Int.reduceLE,hi,↓Bq (AP hg) (Ba _ _ _),↓Ce,↓As hs,hwi,hwa];exact h9
theorem UV (n:Nat):Ro (SS dt (n+100) 10 [] ⟨[],[]⟩)=true:=by kernel_rfl
theorem O0 {n:Nat} (h:100≤n):Bl (SS dt n 10 [] ⟨[],[]⟩) (.bool true):=by
 obtain ⟨k,rfl⟩:∃k,n=k+100:=⟨n - 100,by omega⟩;exact Afw (UV k)
section
variable {β:Type} {E:Env}
def AoV (cs:List IV) (k:List FV→Option β):Option β:=(Dc cs).bind k
theorem Amh {t e:TypeId} {a b:Nat} {ei:TI} {z:List IV} (hT:E.T t=some ⟨a,b,.slice e,z⟩) (he:E.T e=some ei) (hs:ei.size=1) (hz:∃x,ei.zero=[x]) (r s:Nat) (own:List (Nat×Blk)) (ext:List Blk)
  (hc:∀cells ro,Ap r own=some (.row cells ro)→cells.length≤100) (hk:∀cells ro,Ap r own=some (.row cells ro)→∃fc,Dc cells=some fc) (k:IV→Hp→List Ref→List Ref→Option β) :
  Az (Ah E t 1 [(0,.ptr (.own r) 0)]) s ⟨own,ext⟩ k=Fj own r fun bl=>DW bl fun cells=>AoV cells fun fc=>A2 own r (.row cells true) fun own=>k (.clip [.fp fc 0]) ⟨own,ext⟩ [.own r] [.own r]:=by
 obtain ⟨x,hx⟩:=hz;have hm:Ah E t 1 [(0,.ptr (.own r) 0)]=(frzL (65534+1+1) [.ptr (.own r) 0]).bind fun (vs,u)=>.ret { eff:={ val:=.clip (BV ei.size 1 vs),upd:=u } }:=by
  have h1:¬ (ei.size=0∨1 * ei.size > 65536):=by rw [hs];omega
  have h2:Cz (fun j=>some (j * ei.size,ei.size)) (PU 1 ei.zero) [(0,.ptr (.own r) 0)]=some [.ptr (.own r) 0]:=by
   rw [hx,hs];rfl
  simp only [Ah,hT,he,if_neg h1,h2]
 rw [hm,Bk];unfold Az;cases hl:Ap r own with
 | none =>
  have:((frzL (65534+1+1) [.ptr (.own r) 0]).bind fun (vs,u)=>Rd.ret ({ eff:={ val:=.clip (BV ei.size 1 vs),upd:=u } }:Made)).runLog ⟨own,ext⟩ []=none:=by
   simp only [frzL,C1,Rd.bind,Rd.runLog,Hp.get,hl]
  rw [this];rfl
 | some bl =>
  cases bl with
  | row cells ro =>
   obtain ⟨fc,hfc⟩:=hk cells ro hl;have hlen:=hc cells ro hl;have h3:frzL 65534 cells=.ret (fc,[]):=Aet cells 65534 (by omega) hfc
   have:((frzL (65534+1+1) [.ptr (.own r) 0]).bind fun (vs,u)=>Rd.ret ({ eff:={ val:=.clip (BV ei.size 1 vs),upd:=u } }:Made)).runLog ⟨own,ext⟩ [] =
     some ({ eff:={ val:=.clip (BV ei.size 1 [.fp fc 0]),upd:=[(.own r,.row cells true)] } },[.own r]):=by
    simp only [frzL,C1,Rd.bind,Rd.runLog,Hp.get,hl,h3,List.append_nil]
   rw [this];simp only [Option.bind_some,DW,AoV,hfc,hs]
   show (fRf (.own r) fun q=>Da q ⟨own,ext⟩ fun _=>fBk (.row cells true) fun b=>F9 q b ⟨own,ext⟩ fun h=>J3 none s h fun h=>fV 3 (.clip [.fp fc 0]) fun v=>k v h [.own r] ([.own r]++[]))=_
   simp only [Pv,C6,CD,J3,F9,Da];rw [Bk,hl];rfl
  | tok n sz =>
   have:((frzL (65534+1+1) [.ptr (.own r) 0]).bind fun (vs,u)=>Rd.ret ({ eff:={ val:=.clip (BV ei.size 1 vs),upd:=u } }:Made)).runLog ⟨own,ext⟩ []=none:=by
    simp only [frzL,C1,Rd.bind,Rd.runLog,Hp.get,hl]
   rw [this];rfl
  | map es =>
   have:((frzL (65534+1+1) [.ptr (.own r) 0]).bind fun (vs,u)=>Rd.ret ({ eff:={ val:=.clip (BV ei.size 1 vs),upd:=u } }:Made)).runLog ⟨own,ext⟩ []=none:=by
    simp only [frzL,C1,Rd.bind,Rd.runLog,Hp.get,hl]
   rw [this];rfl
theorem Ase {t e:TypeId} {a b:Nat} {ei:TI} {z:List IV} (hT:E.T t=some ⟨a,b,.slice e,z⟩) (he:E.T e=some ei) (hs:ei.size=1) (hz:∃x,ei.zero=[x]) {r:Nat} {own own':List (Nat×Blk)} {cells:List IV} {ro:Bool} {fc:List FV}
  (hl:Ap r own=some (.row cells ro)) (hf:Dc cells=some fc) (hn:cells.length≤100) (ho:AO r (.row cells true) own=own') (s:Nat) (ext:List Blk) (k:IV→Hp→List Ref→List Ref→Option β) :
  Az (Ah E t 1 [(0,.ptr (.own r) 0)]) s ⟨own,ext⟩ k=k (.clip [.fp fc 0]) ⟨own',ext⟩ [.own r] [.own r]:=by
 have h1:∀cells' ro',Ap r own=some (.row cells' ro')→cells'=cells:=fun c r h=>by rw [hl] at h;cases h;rfl
 rw [Amh hT he hs hz r s own ext (fun c r h=>by rw [h1 c r h];exact hn) (fun c r h=>by rw [h1 c r h];exact ⟨fc,hf⟩),Bk,hl];simp only [Option.bind_some,DW,AoV,hf,Bt,ho]
def Bx (r:Option (IV×Hp)) (w:FV) (ext:List Blk):Prop:=∃v own,r=some (v,⟨own,ext⟩) ∧
 ∃u lg,∀(e:Option (IV×Hp)) (K:FV→List (Ref×Blk)→List Ref→Option (IV×Hp)),Dh 12 v ⟨own,ext⟩ [] e K=K w u lg
theorem AM (w:FV) (own:List (Nat×Blk)) (ext:List Blk):Bx (some (.fv w,⟨own,ext⟩)) w ext:=⟨_,own,rfl,[],[],fun _ _=>rfl⟩
theorem Ff {v:IV} {w:FV} (hz:A9 v=some w) (own:List (Nat×Blk)) (ext:List Blk):Bx (some (v,⟨own,ext⟩)) w ext:=⟨_,own,rfl,[],[],fun e K=>JC _ _ e K hz⟩
theorem L7:∀l:List FV,CB (l.map .fv) []=[]
 | []=>rfl
 | v::l=>by
  show Vi (.fv v) (CB (l.map .fv) [])=[]
  rw [L7 l];rfl
theorem Ar0 (n j:Nat) (t:List Ref) (s:Nat) (rest:List Blk):P4 (n+1) (.ext j::t) s rest=cond (Nat.ble (Nat.succ j) s) (P4 n t s rest) (cond (Nat.beq j s) (goR (P4 n) t s rest) false):=rfl
theorem AsN (n s:Nat):P4 (n+1) [] s []=true:=rfl
set_option maxRecDepth 20000 in
theorem X2 (st:List FV):P4 400 [.ext 0] 0 [.row (st.map .fv) false]=true:=by
 rw [show (400:Nat)=398+1+1 from rfl,Ar0]
 show goR (P4 (398+1)) [] 0 [.row (st.map .fv) false]=true
 show P4 (398+1) ([]++Fh (.row (st.map .fv) false)) 1 []=true
 rw [show Fh (.row (st.map .fv) false)=CB (st.map .fv) [] from rfl,L7]
 exact AsN 398 1
theorem Ady (st:List FV):okB 1 [.row (st.map .fv) false]=true:=by
 show cond (okR 1 (Fh (.row (st.map .fv) false))) true false=true
 rw [show Fh (.row (st.map .fv) false)=CB (st.map .fv) [] from rfl,L7]
 rfl
theorem gb3 (a b c:FV):P4 400 [.ext 0] 0 [.row [.fv a,.fv b,.fv c] false]=true:=X2 [a,b,c]
theorem ob3 (a b c:FV):okB 1 [.row [.fv a,.fv b,.fv c] false]=true:=Ady [a,b,c]
theorem gb2 (a b:FV):P4 400 [.ext 0] 0 [.row [.fv a,.fv b] false]=true:=X2 [a,b]
theorem ob2 (a b:FV):okB 1 [.row [.fv a,.fv b] false]=true:=Ady [a,b]
theorem Wn {r1:Ref} {rs1:List Ref} {ih:Aa} {f:FuncId} {vs:List IV} {w:FV} {ext ext':List Blk} (hr:Bx (ih f vs ⟨[],ext⟩) w ext') (hg:P4 400 (r1::rs1) 0 ext=true) (hl:ext'.length=ext.length) (ho:okB ext.length ext'=true)
  (own:List (Nat×Blk)) (r0:Option (IV×Hp)) (u:List (Ref×Blk)) (lg:List Ref) (e:Option (IV×Hp)) (k:IV→Hp→List Ref→List Ref→Option (IV×Hp)) :
  U9 (
     r1::rs1) r0 ⟨own,ext⟩ u lg e (fun rs=>match rs with
   | []=>none
   | r::rs=>(match (⟨own,ext⟩:Hp) with
    | ⟨own,ext⟩=>cond (P4 400 (r::rs) 0 ext) (match ih f vs ⟨[],ext⟩ with
     | none=>none
     | some p=>match p with
      | (v,h')=>match h' with
       | ⟨own',ext'⟩=>cond (and (Nat.beq ext'.length ext.length) (okB ext.length ext'))
        (Dh 12 v ⟨own',ext'⟩ [] e fun w _ _=>Mw u ⟨own,ext'⟩ fun h2=>k (.fv w) h2 ((CP ext.length).reverse++lg) (Bs u++CP ext.length)) none)
     e)) k=Mw u ⟨own,ext'⟩ fun h2=>k (.fv w) h2 ((CP ext.length).reverse++lg) (Bs u++CP ext.length):=by
 obtain ⟨v,own',e1,u',lg',hz⟩:=hr;simp only [U9,hg,e1,hl,ho];rw [show (Nat.beq ext.length ext.length && true)=true by rw [Bool.and_true];exact Nat.beq_refl _,cond_true,hz]
 rfl
structure OneX (ext ext':List Blk):Prop where
 g:P4 400 [.ext 0] 0 ext=true
 l:ext.length=1
 l':ext'.length=1
 o:okB 1 ext'=true
theorem Cp (a b c a' b' c':FV):OneX [.row [.fv a,.fv b,.fv c] false] [.row [.fv a',.fv b',.fv c'] false]:=⟨gb3 ..,rfl,rfl,ob3 ..⟩
theorem AsF (a b a' b':FV):OneX [.row [.fv a,.fv b] false] [.row [.fv a',.fv b'] false]:=⟨gb2 ..,rfl,rfl,ob2 ..⟩
theorem U7 (x:Nat):∀(args:List IV) {vs:List FV} (h:Hp) (lg:List Ref) (e:Option β) (k:List IV→List Ref→List (Ref×Blk)→List Ref→Option β) (ks:List Bool),(∀b∈ks,b=false)→By args=some vs →
  VQ args ks h lg e k=k (vs.map .fv) [] [] lg
 | [],vs,h,lg,e,k,ks,_,hz=>by cases hz;rfl
 | v::l,vs,h,lg,e,k,[],_,hz=>AfV (v::l) h lg e k hz
 | v::l,vs,h,lg,e,k,b::ks,hk,hz=>by
  have hb:=hk b List.mem_cons_self;subst hb;simp only [By] at hz;cases h1:A9 v with
  | none=>rw [h1] at hz;cases hz
  | some x' =>
   rw [h1] at hz;cases h2:By l with
   | none=>rw [h2] at hz;cases hz
   | some ys =>
    rw [h2] at hz;cases hz;rw [WM,JC h lg e _ h1,U7 x l h lg e _ ks (fun c hc=>hk c (List.mem_cons_of_mem _ hc)) h2];rfl
theorem Aiw {ks:List Bool} (hks:∀b∈ks,b=false) {ih:Aa} {f:FuncId} {args:List IV} {vs:List FV} {w:FV} {ext ext':List Blk} (hz:By args=some vs) (X:OneX ext ext') (hr:Bx (ih f (.ptr (.ext 0) 0::vs.map .fv) ⟨[],ext⟩) w ext')
  (own:List (Nat×Blk)) (k:IV→Hp→List Ref→List Ref→Option (IV×Hp)):Al (true::ks) false false ih f (.ptr (.ext 0) 0::args) ⟨own,ext⟩ k=k (.fv w) ⟨own,ext'⟩ [.ext 0] [.ext 0]:=by
 rw [Ph,Aif,Xk,U7 0 args _ _ _ _ ks hks hz]
 have:=Wn (r1:=.ext 0) (rs1:=[]) hr X.g (by rw [X.l,X.l']) (by rw [X.l];exact X.o) own (ih f (.ptr (.ext 0) 0::vs.map .fv) ⟨[],[]⟩) [] [] (GL (true::ks) false false ih f (.ptr (.ext 0) 0::args) ⟨own,ext⟩ k) k
 refine this.trans ?_;rw [X.l];rfl
theorem Dn {ih:Aa} {f:FuncId} {w:FV} {ext ext':List Blk} (hr:Bx (ih f [.ptr (.ext 0) 0] ⟨[],ext⟩) w ext') (X:OneX ext ext') (own:List (Nat×Blk)) (k:IV→Hp→List Ref→List Ref→Option (IV×Hp)) :
  Al [true] false false ih f [.ptr (.ext 0) 0] ⟨own,ext⟩ k=k (.fv w) ⟨own,ext'⟩ [.ext 0] [.ext 0]:=Aiw (ks:=[]) (by simp) (vs:=[]) rfl X hr own k
theorem JX {ih:Aa} {f:FuncId} {a b:IV} {x y w:FV} {ext ext':List Blk} (hr:Bx (ih f [.ptr (.ext 0) 0,.fv x,.fv y] ⟨[],ext⟩) w ext') (X:OneX ext ext') (ha:A9 a=some x) (hb:A9 b=some y) (own:List (Nat×Blk))
  (k:IV→Hp→List Ref→List Ref→Option (IV×Hp)):Al [true,false,false] false false ih f [.ptr (.ext 0) 0,a,b] ⟨own,ext⟩ k=k (.fv w) ⟨own,ext'⟩ [.ext 0] [.ext 0]:=Aiw (ks:=[false,false]) (by simp) (WU ha hb) X hr own k
theorem AgI {ih:Aa} {f:FuncId} {a b c:IV} {x y z w:FV} {ext ext':List Blk} (hr:Bx (ih f [.ptr (.ext 0) 0,.fv x,.fv y,.fv z] ⟨[],ext⟩) w ext') (X:OneX ext ext') (ha:A9 a=some x) (hb:A9 b=some y) (hc:A9 c=some z)
  (own:List (Nat×Blk)) (k:IV→Hp→List Ref→List Ref→Option (IV×Hp)):Al [true,false,false,false] false false ih f [.ptr (.ext 0) 0,a,b,c] ⟨own,ext⟩ k=k (.fv w) ⟨own,ext'⟩ [.ext 0] [.ext 0] :=
 Aiw (ks:=[false,false,false]) (by simp) (Ae2 ha hb hc) X hr own k
theorem T4 {ih:Aa} {f:FuncId} {s:Nat} {own:List (Nat×Blk)} {cells:List IV} {ro:Bool} {fc:List FV} {w:FV} {ext ext':List Blk} (hr:Bx (ih f [.ptr (.ext 0) 0,.fv (.fp fc 0)] ⟨[],ext⟩) w ext') (X:OneX ext ext')
  (hl:Ap s own=some (.row cells ro)) (hz:Dc cells=some fc) (hn:cells.length≤300) (k:IV→Hp→List Ref→List Ref→Option (IV×Hp)) :
  Al [true,false] false false ih f [.ptr (.ext 0) 0,.ptr (.own s) 0] ⟨own,ext⟩ k=k (.fv w) ⟨AO s (.row cells true) own,ext'⟩ [.ext 0,.own s] [.own s,.ext 0]:=by
 rw [Ph,Aif,Xk,WM,WX,LS,Bk,hl];simp only [Option.bind_some,H4];rw [Bb,decide_eq_true hn,c_t,Aeg 10 _ _ _ cells _ hz,fz0]
 have:=Wn (r1:=.ext 0) (rs1:=[]) hr X.g (by rw [X.l,X.l']) (by rw [X.l];exact X.o) own (ih f [.ptr (.ext 0) 0,.fv (.fp fc 0)] ⟨[],[]⟩) [(.own s,.row cells true)] [.own s] (GL [true,false] false false ih f [.ptr (.ext 0) 0,.ptr (.own s) 0] ⟨own,ext⟩ k) k
 refine this.trans ?_;rw [X.l]
 show (Fj own s fun _=>A2 own s (.row cells true) fun own=>k (.fv w) ⟨own,ext'⟩ [.ext 0,.own s] [.own s,.ext 0])=_
 rw [Bk,hl,Option.bind_some,Bt]
end
end Idl
end Go.Proofs.Ytaifgaidaglblaa
namespace Go.Proofs.Ytaifgaidaglblaa
namespace Idl
inductive RV where
 | mk (op n:Int) (k env:List RV) (b:Tm)
def Tm.z:Tm:=.mk 0 0 []
def RV.enc:RV→FV
 | .mk op n k env (.mk bo bn bk)=>.fp [.int .i64 op,.int .i64 n,.sl (encL k),.sl (encL env),.int .i64 bo,.int .i64 bn,.sl (bk.map Tm.enc)] 0
where
 encL:List RV→List FV
  | []=>[]
  | v::l=>v.enc::encL l
theorem AiE (l:List RV):RV.enc.encL l=l.map RV.enc:=by
 induction l with
 | nil=>rfl
 | cons t l ih=>simp [RV.enc.encL,ih]
theorem Iz (op n:Int) (k env:List RV) (bo bn:Int) (bk:List Tm):(RV.mk op n k env (.mk bo bn bk)).enc =
  .fp [.int .i64 op,.int .i64 n,.sl (k.map RV.enc),.sl (env.map RV.enc),.int .i64 bo,.int .i64 bn,.sl (bk.map Tm.enc)] 0:=by simp only [RV.enc,AiE]
def RV.op:RV→Int
 | .mk op _ _ _ _=>op
def RV.n:RV→Int
 | .mk _ n _ _ _=>n
def RV.k:RV→List RV
 | .mk _ _ k _ _=>k
def RV.env:RV→List RV
 | .mk _ _ _ env _=>env
def RV.b:RV→Tm
 | .mk _ _ _ _ b=>b
def RV.var (n:Int):RV:=.mk 1 n [] [] .z
def RV.clo (env:List RV) (b:Tm):RV:=.mk 0 0 [] env b
def RV.zero:RV:=.mk 11 0 [] [] .z
def RV.node (op n:Int) (k:List RV):RV:=.mk op n k [] .z
theorem NS (v:RV):v.enc=.fp [.int .i64 v.op,.int .i64 v.n,.sl (v.k.map RV.enc),.sl (v.env.map RV.enc),.int .i64 v.b.op,.int .i64 v.b.n,.sl (v.b.kids.map Tm.enc)] 0:=by
 obtain ⟨op,n,k,env,⟨bo,bn,bk⟩⟩:=v;exact Iz ..
theorem V0 (t:Tm):Tm.enc t=.agg [.int .i64 t.op,.int .i64 t.n,.sl (t.kids.map Tm.enc)]:=by cases t;exact Ai ..
theorem OR (v:RV):v.enc.cells.length=1:=by obtain ⟨op,n,k,env,⟨bo,bn,bk⟩⟩:=v;rfl
theorem UU (v:RV):v.enc.cells.all FV.one=true:=by obtain ⟨op,n,k,env,⟨bo,bn,bk⟩⟩:=v;rfl
theorem AfC (v:RV):v.enc.cells=[v.enc]:=by obtain ⟨op,n,k,env,⟨bo,bn,bk⟩⟩:=v;rfl
theorem tVs:EE.T 87=some ⟨1,24,.slice 73,[.nils]⟩:=by kernel_rfl
theorem tVp:EE.T 73=some ⟨1,8,.ptr,[.fv .nilp]⟩:=by kernel_rfl
theorem sV:SliceT EE 87 1:=⟨_,_,_,_,_,tVs,tVp,rfl,by decide,by decide⟩
theorem J4 (l:List RV):BK 1 (l.map RV.enc)=true:=by
 cases l with
 | nil=>rfl
 | cons a l=>simp only [Aw2,BK,OR,beq_self_eq_true]
theorem AmR (s:Nat) (h:Hp) (k:IV→Hp→List Ref→List Ref→Option (IV×Hp)):Az (Ah EE 87 0 []) s h k=k (.clip []) h [] [] :=
 Cw tVs tVp (by decide) (cells:=[]) rfl k
theorem Vw (a:RV) (s:Nat) (h:Hp) (k:IV→Hp→List Ref→List Ref→Option (IV×Hp)):Az (Ah EE 87 1 [(0,.fv a.enc)]) s h k=k (.clip [a.enc]) h [] []:=by
 obtain ⟨op,n,kk,env,⟨bo,bn,bk⟩⟩:=a;rw [Iz];exact Cw tVs tVp (by decide) (cells:=[.fp [.int .i64 op,.int .i64 n,.sl (kk.map RV.enc),.sl (env.map RV.enc),.int .i64 bo,.int .i64 bn,.sl (bk.map Tm.enc)] 0]) rfl k
theorem ArG (a b:RV) (s:Nat) (h:Hp) (k:IV→Hp→List Ref→List Ref→Option (IV×Hp)):Az (Ah EE 87 2 [(0,.fv a.enc),(1,.fv b.enc)]) s h k=k (.clip [a.enc,b.enc]) h [] []:=by
 obtain ⟨op,n,kk,env,⟨bo,bn,bk⟩⟩:=a;obtain ⟨op',n',kk',env',⟨bo',bn',bk'⟩⟩:=b;rw [Iz,Iz];exact Cw tVs tVp (by decide) (cells:=[.fp [.int .i64 op,.int .i64 n,.sl (kk.map RV.enc),.sl (env.map RV.enc),.int .i64 bo,.int .i64 bn,.sl (bk.map Tm.enc)] 0,.fp [.int .i64 op',.int .i64 n',.sl (kk'.map RV.enc),.sl (env'.map RV.enc),.int .i64 bo',.int .i64 bn',.sl (bk'.map Tm.enc)] 0]) rfl k
theorem AsE (a b c d:RV) (s:Nat) (h:Hp) (k:IV→Hp→List Ref→List Ref→Option (IV×Hp)):Az (Ah EE 87 4 [(0,.fv a.enc),(1,.fv b.enc),(2,.fv c.enc),(3,.fv d.enc)]) s h k =
  k (.clip [a.enc,b.enc,c.enc,d.enc]) h [] []:=by
 have key:∀x:RV,∃l,x.enc=.fp l 0:=fun x=>⟨_,NS x⟩;obtain ⟨la,ha⟩:=key a;obtain ⟨lb,hb⟩:=key b;obtain ⟨lc,hc⟩:=key c;obtain ⟨ld,hd⟩:=key d;rw [ha,hb,hc,hd];exact Cw tVs tVp (by decide) (cells:=[.fp la 0,.fp lb 0,.fp lc 0,.fp ld 0]) rfl k
theorem Agh (e:RV) (s:Nat) (own:List (Nat×Blk)) (ext:List Blk) (k:IV→Hp→List Ref→List Ref→Option (IV×Hp)) :
  Az (A0 EE s false .append [87,87] [.nils,.clip [e.enc]]) s ⟨own,ext⟩ k=CT own s (A2 own s (.tok 1 1) fun own=>k (.app (.own s) [e.enc]) ⟨own,ext⟩ [] [.own s]) :=
 MZ sV (.clip _) (J4 [e]) rfl (by simp) (.inl rfl) s own ext k
theorem WB {es:List RV} (hb:es.length+1≤1000000) (e:RV) (r s:Nat) (own:List (Nat×Blk)) (ext:List Blk) (k:IV→Hp→List Ref→List Ref→Option (IV×Hp)) :
  Az (A0 EE s false .append [87,87] [.app (.own r) (es.map RV.enc),.clip [e.enc]]) s ⟨own,ext⟩ k =
   Fj own r fun b=>AgE b es.length 1 (A2 own r (.tok (es.length+1) 1) fun own=>k (.app (.own r) ((es++[e]).map RV.enc)) ⟨own,ext⟩ [.own r] [.own r]):=by
 rw [VI sV (.clip [e.enc]) (J4 [e]) (J4 es) (by simp [UU]) (by simpa using hb) r s own ext k];simp only [List.length_map,List.map_append,Aw2,Aw1,Aw0,List.length_nil,Nat.zero_add]
theorem Tc {n:Nat} (hn:0<n) (env vs:List RV) (hv:vs≠[]) (hb:env.length+vs.length≤1000000):Bl (SS dt n 58 [.fv (.sl (env.map RV.enc)),.fv (.sl (vs.map RV.enc))] ⟨[],[]⟩) (.sl ((env++vs).map RV.enc)):=by
 obtain ⟨n,rfl⟩:∃k,n=k+1:=⟨n - 1,by omega⟩;rw [c58];have hvs:(vs.map RV.enc).isEmpty=false:=by cases vs with
  | nil=>exact absurd rfl hv
  | cons _ _=>rfl
 cases env with
 | nil =>
  simp only [S58,↓XX,XY,↓reduceIte,Nat.reduceBEq,Nat.reduceAdd,Int.reduceEq,Int.reduceLT,Int.reduceLE,↓AmR,↓Amj sV (.sl []) (.inr rfl),↓MZ sV (.sl (vs.map RV.enc)) (J4 vs) hvs (by simp;simp at hb;omega) (.inr rfl),List.nil_append];exact Bg rfl _
 | cons a env =>
  simp only [S58,↓XX,XY,↓reduceIte,Nat.reduceBEq,Nat.reduceAdd,Int.reduceEq,Int.reduceLT,Int.reduceLE,↓AmR];have h1:((a::env).map RV.enc).isEmpty=false:=rfl;have h0:=fun {β:Type}=>MZ (β:=β) sV (.sl ((a::env).map RV.enc)) (J4 (a::env)) h1 (by simp only [List.length_map];omega) (.inr rfl:IV.clip []=.nils∨IV.clip []=.clip []);have h2:=fun {β:Type}=>VI (β:=β) sV (.sl (vs.map RV.enc)) (J4 vs) (J4 (a::env)) (by simp [UU]) (by simp only [List.length_map];omega);simp only [Aw2] at h0 h2;simp only [↓XX,XY,↓reduceIte,Nat.reduceBEq,Nat.reduceAdd,Int.reduceEq,Int.reduceLT,Int.reduceLE,↓h0,↓h2,↓H9,List.map_append,List.cons_append];exact Bg rfl _
theorem Agn {n:Nat} (hn:0<n) (s nd:Int) (h1:s≤1000000) (h0:0≤s):Bx (SS dt n 70 [.ptr (.ext 0) 0] ⟨[],[.row [iv s,iv nd,iv 0] false]⟩) (.bool (decide (s+1≤1000)))
  [.row [iv (s+1),iv nd,iv (if s+1≤1000 then 0 else 17)] false]:=by
 obtain ⟨n,rfl⟩:∃k,n=k+1:=⟨n - 1,by omega⟩;rw [c70];have hw:BI (s+1)=s+1:=by rw [Av]<;>omega
 by_cases h:s+1≤1000
 ·have h':¬ 1000<s+1:=by omega
  simp only [Wk,WR,XL,Wh,S70,↓XX,XY,↓reduceIte,Nat.reduceBEq,Nat.reduceAdd,Int.reduceEq,Int.reduceLT,Int.reduceLE,hw,h,h'];exact AM _ _ _
 ·have h':1000<s+1:=by omega
  simp only [Wk,WR,XL,Wh,S70,↓XX,XY,↓reduceIte,Nat.reduceBEq,Nat.reduceAdd,Int.reduceEq,Int.reduceLT,Int.reduceLE,hw,h,h'];exact AM _ _ _
def AL (ev:Int→Int→Tm→Option (RV×Int×Int)) (op:Int) (env:List RV):Nat→List Tm→Int→Int→Option (List RV×Int×Int)
 | _,[],s,e=>some ([],s,e)
 | i,t::l,s,e=>if 0<Ae op i then (AL ev op env (i+1) l s e).map fun (vs,s,e)=>(.clo env t::vs,s,e) else
  match ev s e t with
  | none=>none
  | some (v,s,e)=>(AL ev op env (i+1) l s e).map fun (vs,s,e)=>(v::vs,s,e)
mutual
def Au:Nat→Int→Int→Tm→List RV→Option (RV×Int×Int)
 | 0,_,_,_,_=>none
 | f+1,s,e,.mk op m ks,env =>
  if e≠0 then some (.zero,s,e) else if 900000<env.length then none else
  if op=1 then
   if m<env.length then (if 0≤m then (env[(env.length - 1 - m).toNat]?).map fun v=>(v,s,e) else none)
   else if m≤4611686018427387904 then some (.var (env.length - 1 - m),s,e) else none
  else if f≤ks.length then none else if 900000<ks.length then none else
  match AL (fun s e t=>Au f s e t env) op env 0 ks s e with
  | none=>none
  | some (vs,s,e)=>headR f s e (.node op m vs)
def headR:Nat→Int→Int→RV→Option (RV×Int×Int)
 | 0,_,_,_=>none
 | f+1,s,e,v =>
  if e≠0 then some (v,s,e) else if s<0∨1000000<s then none else
  if v.op=5 then (match v.k[0]? with
   | none=>none
   | some k0=>if k0.op=4 then
     (if s+1≤1000 then (match k0.k[1]?,v.k[1]? with
      | some c,some x=>if 900000<c.env.length then none else Au f (s+1) 0 c.b (c.env++[x])
      | _,_=>none) else some (v,s+1,17))
    else some (v,s,e))
  else if v.op=8∨v.op=9 then (match v.k[0]? with
   | none=>none
   | some k0=>if k0.op=7 then
     (if s+1≤1000 then (k0.k[(1+v.op - 8).toNat]?).map fun x=>(x,s+1,0) else some (v,s+1,17))
    else some (v,s,e))
  else if v.op=30 then (match v.k[0]? with
   | none=>none
   | some k0=>if k0.op=19 then
     (if s+1≤1000 then (k0.k[0]?).map fun x=>(x,s+1,0) else some (v,s+1,17))
    else some (v,s,e))
  else if v.op=19 then (match v.k[0]? with
   | none=>none
   | some k0=>if k0.op=30 then
     (if s+1≤1000 then (k0.k[0]?).map fun x=>(x,s+1,0) else some (v,s+1,17))
    else some (v,s,e))
  else if v.op=13 then (match v.k[0]?,v.k[1]?,v.k[2]?,v.k[3]? with
   | some k0,some k1,some k2,some k3 =>
    if k3.op=11 then (if s+1≤1000 then some (k1,s+1,0) else some (v,s+1,17))
    else if k3.op=12 then
     (if s+1≤1000 then (match k3.k[0]? with
      | none=>none
      | some x=>(match headR f (s+1) 0 (.node 13 0 [k0,k1,k2,x]) with
       | none=>none
       | some (h,s,e)=>if 900000<k2.env.length then none else Au f s e k2.b (k2.env++[x,h])))
     else some (v,s+1,17))
    else some (v,s,e)
   | _,_,_,_=>none)
  else some (v,s,e)
end
theorem WC {β:Type} {l:List RV} {i:Nat} {v:RV} (h:l[i]?=some v) (k:IV→Option β):A8 1 (.fv (.sl (l.map RV.enc))) (iv i) k=k (.fv (.fp [v.enc] 0)):=by
 have h1:(l.map RV.enc)[i]?=some v.enc:=by rw [List.getElem?_map,h];rfl
 rw [Bq h1 (OR v),AfC]
def Rz (f:Nat):Prop:=∀(s e:Int) (t:Tm) (env:List RV) (v:RV) (s' e' nd:Int),Au f s e t env=some (v,s',e')→∀n,f+1≤n →
 Bx (SS dt n 42 [.ptr (.ext 0) 0,.fv t.enc,.fv (.sl (env.map RV.enc))] ⟨[],[.row [iv s,iv nd,iv e] false]⟩) v.enc [.row [iv s',iv nd,iv e'] false]
def SP (f:Nat):Prop:=∀(s e:Int) (v w:RV) (s' e' nd:Int),headR f s e v=some (w,s',e')→∀n,f+1≤n →
 Bx (SS dt n 59 [.ptr (.ext 0) 0,.fv v.enc] ⟨[],[.row [iv s,iv nd,iv e] false]⟩) w.enc [.row [iv s',iv nd,iv e'] false]
abbrev YH (op m:Int) (ks:List Tm) (K:IV) (tok:List (Nat×Blk)) (s nd e:Int):Hp :=
 ⟨(44040192,.row [iv op,iv m,.fv (.sl (ks.map Tm.enc))] false)::(44047365,.row [iv op,iv m,K,.nils,iv 0,iv 0,.nils] false)::tok,[.row [iv s,iv nd,iv e] false]⟩
theorem Ar4 {op m:Int} (l:List RV):(RV.node op m l).enc=.fp [.int .i64 op,.int .i64 m,.sl (l.map RV.enc),.sl [],.int .i64 0,.int .i64 0,.sl []] 0:=by rw [RV.node,Tm.z,Iz];rfl
theorem AfD {f:Nat} (he:Rz f) (hh:SP f):Rz (f+1):=by
 intro s e t env v s' e' nd hev n hn;obtain ⟨n,rfl⟩:∃k,n=k+1:=⟨n - 1,by omega⟩;rw [c42];obtain ⟨op,m,ks⟩:=t;rw [Ai];rw [Au] at hev;by_cases h0:e≠0
 ·rw [if_pos h0] at hev;simp only [AwW,AwX] at hev;obtain ⟨rfl,rfl,rfl⟩:=hev;simp only [Ii,Jc,IC,I4,Jr,Iy,IH,Ju,Jh,Jo,Ih,I6,Ip,It,Ix,Iv,Jm,I0,Jq,Jt,II,Jf,S42,↓XX,XY,↓reduceIte,Nat.reduceBEq,Nat.reduceAdd,Int.reduceEq,Int.reduceLT,Int.reduceLE,h0];exact ⟨_,_,rfl,_,_,fun _ _=>rfl⟩
 ·have h0':e=0:=by omega
  subst h0';rw [if_neg h0] at hev;by_cases hlen:900000<env.length
  ·rw [if_pos hlen] at hev;cases hev
  ·rw [if_neg hlen] at hev;by_cases h1:op=1
   ·rw [if_pos h1] at hev;subst h1;by_cases h2:m<env.length
    ·rw [if_pos h2] at hev;by_cases h3:0≤m
     ·rw [if_pos h3] at hev;cases hg:env[(env.length - 1 - m).toNat]? with
      | none=>rw [hg] at hev;cases hev
      | some u =>
       rw [hg] at hev;simp only [AwZ,AwW,AwX] at hev;obtain ⟨rfl,rfl,rfl⟩:=hev;have e1:BI ((env.length:Int) - 1)=env.length - 1:=by rw [Av]<;>omega
       have e2:BI ((env.length:Int) - 1 - m)=(((env.length:Int) - 1 - m).toNat:Int):=by rw [Av]<;>omega
       simp only [Ii,Jc,IC,I4,Jr,Iy,IH,Ju,Jh,Jo,Ih,I6,Ip,It,Ix,Iv,Jm,I0,Jq,Jt,II,Jf,S42,↓XX,XY,↓reduceIte,Nat.reduceBEq,Nat.reduceAdd,Int.reduceEq,Int.reduceLT,Int.reduceLE,h2,e1,e2,↓WC hg];exact AM _ _ _
     ·rw [if_neg h3] at hev;cases hev
    ·rw [if_neg h2] at hev;by_cases h3:m≤4611686018427387904
     ·rw [if_pos h3] at hev;simp only [AwW,AwX] at hev;obtain ⟨rfl,rfl,rfl⟩:=hev;have e1:BI ((env.length:Int) - 1)=env.length - 1:=by rw [Av]<;>omega
      have e2:BI ((env.length:Int) - 1 - m)=(env.length:Int) - 1 - m:=by rw [Av]<;>omega
      simp only [Ii,Jc,IC,I4,Jr,Iy,IH,Ju,Jh,Jo,Ih,I6,Ip,It,Ix,Iv,Jm,I0,Jq,Jt,II,Jf,S42,↓XX,XY,↓reduceIte,Nat.reduceBEq,Nat.reduceAdd,Int.reduceEq,Int.reduceLT,Int.reduceLE,h2,e1,e2];exact ⟨_,_,rfl,_,_,fun _ _=>rfl⟩
     ·rw [if_neg h3] at hev;cases hev
   ·rw [if_neg h1] at hev;by_cases hf:f≤ks.length
    ·rw [if_pos hf] at hev;cases hev
    ·rw [if_neg hf] at hev;by_cases hk9:900000<ks.length
     ·rw [if_pos hk9] at hev;cases hev
     ·rw [if_neg hk9] at hev;cases hkg:AL (fun s e t=>Au f s e t env) op env 0 ks s 0 with
      | none=>rw [hkg] at hev;cases hev
      | some q =>
      obtain ⟨vs,s1,e1⟩:=q;rw [hkg] at hev;simp only at hev;simp only [Ii,Jc,IC,I4,Jr,Iy,IH,Ju,Jh,Jo,Ih,I6,Ip,It,Ix,Iv,Jm,I0,Jq,Jt,II,Jf,S42,↓XX,XY,↓reduceIte,Nat.reduceBEq,Nat.reduceAdd,Int.reduceEq,Int.reduceLT,Int.reduceLE,h1,↓AC,XD,heldB,AN,XE];refine A7 (Q:=fun r=>Bx r _ _) (fun k V H=>∃pre rest done s2 e2 us s3 e3,ks=pre++rest∧rest.length=k∧done.length=pre.length∧V=[.ptr (.ext 0) 0,.fv (.sl (env.map RV.enc)),.ptr (.own 44040192) 0,.ptr (.own 44047365) 0,iv pre.length] ∧
       (
        (pre=[]∧H=YH op m ks .nils [] s2 nd e2) ∨
        (∃r,(r=44052494∨r=44053518)∧pre≠[]∧H=YH op m ks (.app (.own r) (done.map RV.enc)) [(r,.tok done.length 1)] s2 nd e2)) ∧
       AL (fun s e t=>Au f s e t env) op env pre.length rest s2 e2=some (us,s3,e3)∧headR f s3 e3 (.node op m (done++us))=some (v,s',e'))
       ?_ n ks.length _ _ (by omega) ⟨[],ks,[],s,0,vs,s1,e1,rfl,rfl,rfl,rfl,.inl ⟨rfl,rfl⟩,hkg,hev⟩
      rintro k V H rec ⟨pre,rest,done,s2,e2,us,s3,e3,hk,hl,hdl,rfl,hH,hkids,hhead⟩ hrec;have hkl:ks.length=pre.length+rest.length:=by rw [hk];simp
      have zenc:∀l:List RV,(RV.node op m l).enc=.fp [.int .i64 op,.int .i64 m,.sl (l.map RV.enc),.sl [],.int .i64 0,.int .i64 0,.sl []] 0:=fun l=>Ar4 l;cases rest with
      | nil =>
       simp only [AL,AwW,AwX] at hkids;obtain ⟨rfl,rfl,rfl⟩:=hkids;rw [List.append_nil] at hhead;have hc:=hh s2 e2 _ v s' e' nd hhead n (by omega);rw [zenc] at hc;have hpre:ks=pre:=by simpa using hk
       subst hpre;rcases hH with ⟨rfl,rfl⟩ | ⟨r,hr,hne,rfl⟩
       ·have hd:done=[]:=List.length_eq_zero_iff.1 hdl;subst hd;have hcall:=fun k=>T4 (k:=k) (own:=[(44040192,.row [iv op,iv m,.fv (.sl (([]:List Tm).map Tm.enc))] false),(44047365,.row [iv op,iv m,.nils,.nils,iv 0,iv 0,.nils] false)])
         (cells:=[iv op,iv m,.nils,.nils,iv 0,iv 0,.nils]) (ro:=false) (s:=44047365) hc (Cp ..) (by simp [Ap]) rfl (by simp)
        simp only [↓VP,↓XX,XY,↓reduceIte,Nat.reduceBEq,Nat.reduceAdd,Int.reduceEq,Int.reduceLT,Int.reduceLE,Int.lt_irrefl,↓hcall];exact AM _ _ _
       ·have hcall:=fun k=>T4 (k:=k) (own:=[(44040192,.row [iv op,iv m,.fv (.sl (ks.map Tm.enc))] false),(44047365,.row [iv op,iv m,.app (.own r) (done.map RV.enc),.nils,iv 0,iv 0,.nils] false),(r,.tok done.length 1)])
         (cells:=[iv op,iv m,.app (.own r) (done.map RV.enc),.nils,iv 0,iv 0,.nils]) (ro:=false) (s:=44047365) hc (Cp ..) (by simp [Ap]) rfl (by simp)
        simp only [↓VP,↓XX,XY,↓reduceIte,Nat.reduceBEq,Nat.reduceAdd,Int.reduceEq,Int.reduceLT,Int.reduceLE,Int.lt_irrefl,↓hcall];exact AM _ _ _
      | cons t rest =>
       have hi:(pre.length:Int)<ks.length:=by rw [hkl];simp;omega
       have hg:=Cg hk;have hb:=FG (n:=n) (by omega) op pre.length;have hwi:BI ((pre.length:Int)+1)=((pre++[t]).length:Int):=(Av (by omega) (by omega)).trans (by simp);have hbi:(0<(Ae op pre.length:Int)) ↔ 0<Ae op pre.length:=by omega
       have hd9:done.length+1≤1000000:=by omega
       simp only [AL] at hkids;simp only [Aw0] at hl;by_cases hbp:0<Ae op pre.length
       ·rw [if_pos hbp] at hkids;cases hkk:AL (fun s e t=>Au f s e t env) op env (pre.length+1) rest s2 e2 with
        | none=>rw [hkk] at hkids;cases hkids
        | some q =>
        obtain ⟨us',s4,e4⟩:=q;rw [hkk] at hkids;simp only [AwZ,AwW,AwX] at hkids;obtain ⟨rfl,rfl,rfl⟩:=hkids;have hbp':0<(Ae op pre.length:Int):=by omega
        have hce:(RV.clo env t).enc=.fp [.int .i64 0,.int .i64 0,.sl [],.sl (env.map RV.enc),.int .i64 t.op,.int .i64 t.n,.sl (t.kids.map Tm.enc)] 0:=by rw [NS];rfl
        have hnext:∀tk,(tk=44052494∨tk=44053518)→Bx (rec [.ptr (.ext 0) 0,.fv (.sl (env.map RV.enc)),.ptr (.own 44040192) 0,.ptr (.own 44047365) 0,iv (pre++[t]).length]
          (YH op m ks (.app (.own tk) ((done++[RV.clo env t]).map RV.enc)) [(tk,.tok (done++[RV.clo env t]).length 1)] s2 nd e2)) v.enc [.row [iv s',iv nd,iv e'] false]:=fun tk htk =>
         hrec rest.length _ _ (by omega) ⟨pre++[t],rest,done++[.clo env t],s2,e2,us',s4,e4,by rw [hk];simp,rfl,by simp [hdl],rfl,.inr ⟨tk,htk,by simp,rfl⟩,by simpa using hkk,by simpa using hhead⟩
        obtain ⟨o,p,l⟩:=t;simp only [Tm.op,Tm.n,Tm.kids] at hce;have ha0:=fun {s own ext k}=>Agh (RV.clo env (.mk o p l)) s own ext k;have ha1:=fun {r s own ext k}=>WB hd9 (RV.clo env (.mk o p l)) r s own ext k;rw [hce] at ha0 ha1;have hbs:=fun (tl:List (Nat×Blk)) (K:IV) (own:List (Nat×Blk)) (hown:own=(44040192,.row [iv op,iv m,.fv (.sl (ks.map Tm.enc))] false)::(44047365,.row [iv op,iv m,K,.nils,iv 0,iv 0,.nils] false)::tl) (hl:Ap 44052492 own=some (.row [iv 0,iv 0,.nils,.fv (.sl (env.map RV.enc)),iv o,iv p,.fv (.sl (l.map Tm.enc))] false)) (own':List (Nat×Blk)) (ho) s ext (k:IV→Hp→List Ref→List Ref→Option (IV×Hp)) =>
         Ase (E:=EE) (own:=own) (own':=own') tVs tVp rfl ⟨_,rfl⟩ hl (fc:=[.int .i64 0,.int .i64 0,.sl [],.sl (env.map RV.enc),.int .i64 o,.int .i64 p,.sl (l.map Tm.enc)]) rfl (by simp) ho s ext k
        rcases hH with ⟨hp0,rfl⟩ | ⟨r,hr,hne,rfl⟩
        ·have hd0:done=[]:=List.length_eq_zero_iff.1 (by rw [hdl,hp0];rfl);subst hd0;have h9:=hnext _ (.inl rfl);simp only [List.nil_append,Aw2,Aw1,Aw0,List.length_nil] at h9;rw [hce] at h9;have hb0:=fun s ext k=>hbs [(44052492,.row [iv 0,iv 0,.nils,.fv (.sl (env.map RV.enc)),iv o,iv p,.fv (.sl (l.map Tm.enc))] false)] .nils _ rfl (by simp [Ap])
          [(44040192,.row [iv op,iv m,.fv (.sl (ks.map Tm.enc))] false),(44047365,.row [iv op,iv m,.nils,.nils,iv 0,iv 0,.nils] false),(44052492,.row [iv 0,iv 0,.nils,.fv (.sl (env.map RV.enc)),iv o,iv p,.fv (.sl (l.map Tm.enc))] true)] (by simp [AO]) s ext k
         simp only [↓VP,↓XX,XY,↓reduceIte,Nat.reduceBEq,Nat.reduceAdd,Int.reduceEq,Int.reduceLT,Int.reduceLE,hi,↓Bq (AP hg) (Ba _ _ _),↓Ce,↓Ag hb,hbp',hwi,↓hb0,↓ha0,↓AC,XD,heldB,AN,XE];exact h9
        ·have h9:=hnext r hr;rw [show (done++[RV.clo env (Tm.mk o p l)]).length=done.length+1 by simp] at h9
         simp only [List.map_append,Aw2,Aw1] at h9;rw [hce] at h9;simp only [List.map_append,Aw2,Aw1] at ha1;rw [hce] at ha1;have hb0:=fun s ext k=>hbs [(r,.tok done.length 1),(44052492,.row [iv 0,iv 0,.nils,.fv (.sl (env.map RV.enc)),iv o,iv p,.fv (.sl (l.map Tm.enc))] false)] (.app (.own r) (done.map RV.enc)) _ rfl (by rcases hr with rfl | rfl<;>simp [Ap])
          [(44040192,.row [iv op,iv m,.fv (.sl (ks.map Tm.enc))] false),(44047365,.row [iv op,iv m,.app (.own r) (done.map RV.enc),.nils,iv 0,iv 0,.nils] false),(r,.tok done.length 1),(44052492,.row [iv 0,iv 0,.nils,.fv (.sl (env.map RV.enc)),iv o,iv p,.fv (.sl (l.map Tm.enc))] true)]
          (by rcases hr with rfl | rfl<;>simp [AO]) s ext k
         rcases hr with rfl | rfl
         ·simp only [↓VP,↓XX,XY,↓reduceIte,Nat.reduceBEq,Nat.reduceAdd,Int.reduceEq,Int.reduceLT,Int.reduceLE,hi,↓Bq (AP hg) (Ba _ _ _),↓Ce,↓Ag hb,hbp',hwi,↓hb0,↓ha1,↓H9,↓AC,XD,heldB,AN,XE];exact h9
         ·simp only [↓VP,↓XX,XY,↓reduceIte,Nat.reduceBEq,Nat.reduceAdd,Int.reduceEq,Int.reduceLT,Int.reduceLE,hi,↓Bq (AP hg) (Ba _ _ _),↓Ce,↓Ag hb,hbp',hwi,↓hb0,↓ha1,↓H9,↓AC,XD,heldB,AN,XE];exact h9
       ·rw [if_neg hbp] at hkids;have hbp':¬ 0<(Ae op pre.length:Int):=by omega
        cases hev1:Au f s2 e2 t env with
        | none=>rw [hev1] at hkids;cases hkids
        | some q =>
        obtain ⟨v1,s4,e4⟩:=q;rw [hev1] at hkids;simp only at hkids;cases hkk:AL (fun s e t=>Au f s e t env) op env (pre.length+1) rest s4 e4 with
        | none=>rw [hkk] at hkids;cases hkids
        | some q =>
        obtain ⟨us',s5,e5⟩:=q;rw [hkk] at hkids;simp only [AwZ,AwW,AwX] at hkids;obtain ⟨rfl,rfl,rfl⟩:=hkids;have hc:=he s2 e2 t env v1 s4 e4 nd hev1 n (by omega);have hnext:∀tk,(tk=44052494∨tk=44053518)→Bx (rec [.ptr (.ext 0) 0,.fv (.sl (env.map RV.enc)),.ptr (.own 44040192) 0,.ptr (.own 44047365) 0,iv (pre++[t]).length]
          (YH op m ks (.app (.own tk) ((done++[v1]).map RV.enc)) [(tk,.tok (done++[v1]).length 1)] s4 nd e4)) v.enc [.row [iv s',iv nd,iv e'] false]:=fun tk htk =>
         hrec rest.length _ _ (by omega) ⟨pre++[t],rest,done++[v1],s4,e4,us',s5,e5,by rw [hk];simp,rfl,by simp [hdl],rfl,.inr ⟨tk,htk,by simp,rfl⟩,by simpa using hkk,by simpa using hhead⟩
        obtain ⟨o,p,l⟩:=t;rw [Ai] at hc;rcases hH with ⟨hp0,rfl⟩ | ⟨r,hr,hne,rfl⟩
        ·have hd0:done=[]:=List.length_eq_zero_iff.1 (by rw [hdl,hp0];rfl);subst hd0;have h9:=hnext _ (.inr rfl);simp only [List.nil_append,Aw2,Aw1,Aw0,List.length_nil] at h9;simp only [↓VP,↓XX,XY,↓reduceIte,Nat.reduceBEq,Nat.reduceAdd,Int.reduceEq,Int.reduceLT,Int.reduceLE,hi,↓Bq (AP hg) (Ba _ _ _),↓Ce,↓Ag hb,hbp',hwi,↓JX hc (Cp _ _ _ _ _ _),↓Vw,↓Agh,↓AC,XD,heldB,AN,XE];exact h9
        ·have h9:=hnext r hr;rw [show (done++[v1]).length=done.length+1 by simp] at h9
         rcases hr with rfl | rfl
         ·simp only [↓VP,↓XX,XY,↓reduceIte,Nat.reduceBEq,Nat.reduceAdd,Int.reduceEq,Int.reduceLT,Int.reduceLE,hi,↓Bq (AP hg) (Ba _ _ _),↓Ce,↓Ag hb,hbp',hwi,↓JX hc (Cp _ _ _ _ _ _),↓Vw,↓WB hd9,↓H9,↓AC,XD,heldB,AN,XE];exact h9
         ·simp only [↓VP,↓XX,XY,↓reduceIte,Nat.reduceBEq,Nat.reduceAdd,Int.reduceEq,Int.reduceLT,Int.reduceLE,hi,↓Bq (AP hg) (Ba _ _ _),↓Ce,↓Ag hb,hbp',hwi,↓JX hc (Cp _ _ _ _ _ _),↓Vw,↓WB hd9,↓H9,↓AC,XD,heldB,AN,XE];exact h9
def RV.cl (v:RV):List FV:=[.int .i64 v.op,.int .i64 v.n,.sl (v.k.map RV.enc),.sl (v.env.map RV.enc),.int .i64 v.b.op,.int .i64 v.b.n,.sl (v.b.kids.map Tm.enc)]
section
variable {β:Type} (v:RV)
theorem Aq7 (k:IV→Option β):AF (.fv v.enc) k=k (.fv v.enc):=by rw [NS];rfl
theorem Atq (o:Nat) (k:IV→Option β):Ac o (.fv v.enc) k=k (.fv (.fp v.cl o)):=by rw [NS,Ar2];rfl
theorem nc0 (k:FV→Option β):DE v.cl 0 k=k (.int .i64 v.op):=rfl
theorem nc1 (k:FV→Option β):DE v.cl 1 k=k (.int .i64 v.n):=rfl
theorem nc2 (k:FV→Option β):DE v.cl 2 k=k (.sl (v.k.map RV.enc)):=rfl
theorem nc3 (k:FV→Option β):DE v.cl 3 k=k (.sl (v.env.map RV.enc)):=rfl
theorem dc4 (k:List FV→Option β):FH v.cl 4 k=k [.int .i64 v.b.op,.int .i64 v.b.n,.sl (v.b.kids.map Tm.enc)]:=rfl
end
theorem Hr {β:Type} {l:List RV} {v:RV} (h:l[0]?=some v) (k:IV→Option β):A8 1 (.fv (.sl (l.map RV.enc))) (iv 0) k=k (.fv (.fp [v.enc] 0)):=WC (i:=0) h k
theorem AfZ {β:Type} {l:List RV} {v:RV} (h:l[1]?=some v) (k:IV→Option β):A8 1 (.fv (.sl (l.map RV.enc))) (iv 1) k=k (.fv (.fp [v.enc] 0)):=WC (i:=1) h k
theorem Asi {β:Type} {l:List RV} {v:RV} (h:l[2]?=some v) (k:IV→Option β):A8 1 (.fv (.sl (l.map RV.enc))) (iv 2) k=k (.fv (.fp [v.enc] 0)):=WC (i:=2) h k
theorem AgT {β:Type} {l:List RV} {v:RV} (h:l[3]?=some v) (k:IV→Option β):A8 1 (.fv (.sl (l.map RV.enc))) (iv 3) k=k (.fv (.fp [v.enc] 0)):=WC (i:=3) h k
def XV:=AwV @Aq7<|AwV @Atq<|AwV @nc0<|AwV @nc1<|AwV @nc2<|AwV @nc3 @dc4
set_option maxHeartbeats 1000000 in
set_option maxRecDepth 20000 in
theorem Afl {f:Nat} (he:Rz f) (hh:SP f):SP (f+1):=by
 intro s e v w s' e' nd hev n hn;obtain ⟨n,rfl⟩:∃k,n=k+1:=⟨n - 1,by omega⟩;rw [c59];rw [headR] at hev;by_cases h0:e≠0
 ·rw [if_pos h0] at hev;simp only [AwW,AwX] at hev;obtain ⟨rfl,rfl,rfl⟩:=hev;simp only [↓F7,↓XX,XY,↓reduceIte,Nat.reduceBEq,Nat.reduceAdd,Int.reduceEq,Int.reduceLT,Int.reduceLE,h0];exact AM _ _ _
 ·have h0':e=0:=by omega
  subst h0';rw [if_neg h0] at hev;by_cases hs:s<0∨1000000<s
  ·rw [if_pos hs] at hev;cases hev
  ·rw [if_neg hs] at hev;have hst:=Agn (n:=n) (by omega) s nd (by omega) (by omega);have Cq:∀{x:RV} {a b:Int},some (x,a,b)=some (w,s',e')→x=w∧a=s'∧b=e':=by
    intro x a b h;simp only [AwW,AwX] at h;exact h
   by_cases h5:v.op=5
   ·rw [if_pos h5] at hev;cases hk0:v.k[0]? with
    | none=>rw [hk0] at hev;cases hev
    | some k0 =>
     rw [hk0] at hev;simp only at hev;by_cases h4:k0.op=4
     ·rw [if_pos h4] at hev;by_cases hq:s+1≤1000
      ·rw [if_pos hq] at hev;simp only [hq,decide_true,if_true] at hst;cases hc:k0.k[1]? with
       | none=>rw [hc] at hev;cases hev
       | some c =>
        cases hx:v.k[1]? with
        | none=>rw [hc,hx] at hev;cases hev
        | some x =>
         rw [hc,hx] at hev;simp only at hev;by_cases hl:900000<c.env.length
         ·rw [if_pos hl] at hev;cases hev
         ·rw [if_neg hl] at hev;have hcall:=he (s+1) 0 c.b (c.env++[x]) w s' e' nd hev n (by omega);rw [V0] at hcall;have hp:=Tc (n:=n) (by omega) c.env [x] (by simp) (by simp;omega);simp only [Aw2,Aw1] at hp;simp only [↓F7,↓XX,XY,↓reduceIte,Nat.reduceBEq,Nat.reduceAdd,Int.reduceEq,Int.reduceLT,Int.reduceLE,↓XV,h5,↓Hr hk0,h4,↓Dn hst (Cp _ _ _ _ _ _),↓AfZ hc,↓AfZ hx,↓Vw,↓Ag hp,↓JX hcall (Cp _ _ _ _ _ _)];exact AM _ _ _
      ·rw [if_neg hq] at hev;obtain ⟨rfl,rfl,rfl⟩:=Cq hev;simp only [hq,decide_false,if_false] at hst;simp only [↓F7,↓XX,XY,↓reduceIte,Nat.reduceBEq,Nat.reduceAdd,Int.reduceEq,Int.reduceLT,Int.reduceLE,↓XV,h5,↓Hr hk0,h4,↓Dn hst (Cp _ _ _ _ _ _)];exact AM _ _ _
     ·rw [if_neg h4] at hev;obtain ⟨rfl,rfl,rfl⟩:=Cq hev;simp only [↓F7,↓XX,XY,↓reduceIte,Nat.reduceBEq,Nat.reduceAdd,Int.reduceEq,Int.reduceLT,Int.reduceLE,↓XV,h5,↓Hr hk0,h4];exact AM _ _ _
   ·rw [if_neg h5] at hev;by_cases h89:v.op=8∨v.op=9
    ·rw [if_pos h89] at hev;cases hk0:v.k[0]? with
     | none=>rw [hk0] at hev;cases hev
     | some k0 =>
      rw [hk0] at hev;simp only at hev;by_cases h7:k0.op=7
      ·rw [if_pos h7] at hev;by_cases hq:s+1≤1000
       ·rw [if_pos hq] at hev;simp only [hq,decide_true,if_true] at hst;cases hx:k0.k[(1+v.op - 8).toNat]? with
        | none=>rw [hx] at hev;cases hev
        | some x =>
         rw [hx] at hev;obtain ⟨rfl,rfl,rfl⟩:=Cq hev;rcases h89 with h8 | h9
         ·rw [h8] at hx;have hw1:BI (1+8)=9:=by decide
          have hw2:BI (9 - 8)=1:=by decide
          simp only [↓F7,↓XX,XY,↓reduceIte,Nat.reduceBEq,Nat.reduceAdd,Int.reduceEq,Int.reduceLT,Int.reduceLE,↓XV,h8,↓Hr hk0,h7,↓Dn hst (Cp _ _ _ _ _ _),hw1,hw2,↓AfZ (l:=k0.k) (v:=x) hx];exact AM _ _ _
         ·rw [h9] at hx;have hw1:BI (1+9)=10:=by decide
          have hw2:BI (10 - 8)=2:=by decide
          simp only [↓F7,↓XX,XY,↓reduceIte,Nat.reduceBEq,Nat.reduceAdd,Int.reduceEq,Int.reduceLT,Int.reduceLE,↓XV,h9,↓Hr hk0,h7,↓Dn hst (Cp _ _ _ _ _ _),hw1,hw2,↓Asi (l:=k0.k) (v:=x) hx];exact AM _ _ _
       ·rw [if_neg hq] at hev;obtain ⟨rfl,rfl,rfl⟩:=Cq hev;simp only [hq,decide_false,if_false] at hst;rcases h89 with h8 | h9
        ·simp only [↓F7,↓XX,XY,↓reduceIte,Nat.reduceBEq,Nat.reduceAdd,Int.reduceEq,Int.reduceLT,Int.reduceLE,↓XV,h8,↓Hr hk0,h7,↓Dn hst (Cp _ _ _ _ _ _)];exact AM _ _ _
        ·simp only [↓F7,↓XX,XY,↓reduceIte,Nat.reduceBEq,Nat.reduceAdd,Int.reduceEq,Int.reduceLT,Int.reduceLE,↓XV,h9,↓Hr hk0,h7,↓Dn hst (Cp _ _ _ _ _ _)];exact AM _ _ _
      ·rw [if_neg h7] at hev;obtain ⟨rfl,rfl,rfl⟩:=Cq hev;rcases h89 with h8 | h9
       ·simp only [↓F7,↓XX,XY,↓reduceIte,Nat.reduceBEq,Nat.reduceAdd,Int.reduceEq,Int.reduceLT,Int.reduceLE,↓XV,h8,↓Hr hk0,h7];exact AM _ _ _
       ·simp only [↓F7,↓XX,XY,↓reduceIte,Nat.reduceBEq,Nat.reduceAdd,Int.reduceEq,Int.reduceLT,Int.reduceLE,↓XV,h9,↓Hr hk0,h7];exact AM _ _ _
    ·rw [if_neg h89] at hev;have h8:¬ v.op=8:=fun e=>h89 (.inl e);have h9:¬ v.op=9:=fun e=>h89 (.inr e);by_cases h30:v.op=30
     ·rw [if_pos h30] at hev;cases hk0:v.k[0]? with
      | none=>rw [hk0] at hev;cases hev
      | some k0 =>
       rw [hk0] at hev;simp only at hev;by_cases h7:k0.op=19
       ·rw [if_pos h7] at hev;by_cases hq:s+1≤1000
        ·rw [if_pos hq] at hev;simp only [hq,decide_true,if_true] at hst;cases hx:k0.k[0]? with
         | none=>rw [hx] at hev;cases hev
         | some x =>
          rw [hx] at hev;obtain ⟨rfl,rfl,rfl⟩:=Cq hev;simp only [↓F7,↓XX,XY,↓reduceIte,Nat.reduceBEq,Nat.reduceAdd,Int.reduceEq,Int.reduceLT,Int.reduceLE,↓XV,h30,↓Hr hk0,h7,↓Dn hst (Cp _ _ _ _ _ _),↓Hr hx];exact AM _ _ _
        ·rw [if_neg hq] at hev;obtain ⟨rfl,rfl,rfl⟩:=Cq hev;simp only [hq,decide_false,if_false] at hst;simp only [↓F7,↓XX,XY,↓reduceIte,Nat.reduceBEq,Nat.reduceAdd,Int.reduceEq,Int.reduceLT,Int.reduceLE,↓XV,h30,↓Hr hk0,h7,↓Dn hst (Cp _ _ _ _ _ _)];exact AM _ _ _
       ·rw [if_neg h7] at hev;obtain ⟨rfl,rfl,rfl⟩:=Cq hev;simp only [↓F7,↓XX,XY,↓reduceIte,Nat.reduceBEq,Nat.reduceAdd,Int.reduceEq,Int.reduceLT,Int.reduceLE,↓XV,h30,↓Hr hk0,h7];exact AM _ _ _
     ·rw [if_neg h30] at hev;by_cases h19:v.op=19
      ·rw [if_pos h19] at hev;cases hk0:v.k[0]? with
       | none=>rw [hk0] at hev;cases hev
       | some k0 =>
        rw [hk0] at hev;simp only at hev;by_cases h7:k0.op=30
        ·rw [if_pos h7] at hev;by_cases hq:s+1≤1000
         ·rw [if_pos hq] at hev;simp only [hq,decide_true,if_true] at hst;cases hx:k0.k[0]? with
          | none=>rw [hx] at hev;cases hev
          | some x =>
           rw [hx] at hev;obtain ⟨rfl,rfl,rfl⟩:=Cq hev;simp only [↓F7,↓XX,XY,↓reduceIte,Nat.reduceBEq,Nat.reduceAdd,Int.reduceEq,Int.reduceLT,Int.reduceLE,↓XV,h19,↓Hr hk0,h7,↓Dn hst (Cp _ _ _ _ _ _),↓Hr hx];exact AM _ _ _
         ·rw [if_neg hq] at hev;obtain ⟨rfl,rfl,rfl⟩:=Cq hev;simp only [hq,decide_false,if_false] at hst;simp only [↓F7,↓XX,XY,↓reduceIte,Nat.reduceBEq,Nat.reduceAdd,Int.reduceEq,Int.reduceLT,Int.reduceLE,↓XV,h19,↓Hr hk0,h7,↓Dn hst (Cp _ _ _ _ _ _)];exact AM _ _ _
        ·rw [if_neg h7] at hev;obtain ⟨rfl,rfl,rfl⟩:=Cq hev;simp only [↓F7,↓XX,XY,↓reduceIte,Nat.reduceBEq,Nat.reduceAdd,Int.reduceEq,Int.reduceLT,Int.reduceLE,↓XV,h19,↓Hr hk0,h7];exact AM _ _ _
      ·rw [if_neg h19] at hev;by_cases h13:v.op=13
       ·rw [if_pos h13] at hev;cases hk0:v.k[0]? with
        | none=>rw [hk0] at hev;cases hev
        | some k0 =>
        cases hk1:v.k[1]? with
        | none=>rw [hk0,hk1] at hev;cases hev
        | some k1 =>
        cases hk2:v.k[2]? with
        | none=>rw [hk0,hk1,hk2] at hev;cases hev
        | some k2 =>
        cases hk3:v.k[3]? with
        | none=>rw [hk0,hk1,hk2,hk3] at hev;cases hev
        | some k3 =>
        rw [hk0,hk1,hk2,hk3] at hev;simp only at hev;by_cases h11:k3.op=11
        ·rw [if_pos h11] at hev;by_cases hq:s+1≤1000
         ·rw [if_pos hq] at hev;obtain ⟨rfl,rfl,rfl⟩:=Cq hev;simp only [hq,decide_true,if_true] at hst;simp only [↓F7,↓XX,XY,↓reduceIte,Nat.reduceBEq,Nat.reduceAdd,Int.reduceEq,Int.reduceLT,Int.reduceLE,↓XV,h13,↓AgT hk3,h11,↓Dn hst (Cp _ _ _ _ _ _),↓AfZ hk1];exact AM _ _ _
         ·rw [if_neg hq] at hev;obtain ⟨rfl,rfl,rfl⟩:=Cq hev;simp only [hq,decide_false,if_false] at hst;simp only [↓F7,↓XX,XY,↓reduceIte,Nat.reduceBEq,Nat.reduceAdd,Int.reduceEq,Int.reduceLT,Int.reduceLE,↓XV,h13,↓AgT hk3,h11,↓Dn hst (Cp _ _ _ _ _ _)];exact AM _ _ _
        ·rw [if_neg h11] at hev;by_cases h12:k3.op=12
         ·rw [if_pos h12] at hev;by_cases hq:s+1≤1000
          ·rw [if_pos hq] at hev;simp only [hq,decide_true,if_true] at hst;cases hx:k3.k[0]? with
           | none=>rw [hx] at hev;cases hev
           | some x =>
           rw [hx] at hev;simp only at hev;cases hd:headR f (s+1) 0 (.node 13 0 [k0,k1,k2,x]) with
           | none=>rw [hd] at hev;cases hev
           | some q =>
           obtain ⟨h,s2,e2⟩:=q;rw [hd] at hev;simp only at hev;by_cases hl:900000<k2.env.length
           ·rw [if_pos hl] at hev;cases hev
           ·rw [if_neg hl] at hev;have hcall:=he s2 e2 k2.b (k2.env++[x,h]) w s' e' nd hev n (by omega);rw [V0] at hcall;have hcall2:=hh (s+1) 0 _ h s2 e2 nd hd n (by omega);rw [Ar4] at hcall2;simp only [Aw2,Aw1] at hcall2;have hp:=Tc (n:=n) (by omega) k2.env [x,h] (by simp) (by simp;omega);simp only [Aw2,Aw1] at hp;have hcall3:=fun k=>T4 (k:=k) (own:=[(61886486,.row [iv 13,iv 0,.clip [k0.enc,k1.enc,k2.enc,x.enc],.nils,iv 0,iv 0,.nils] false)])
             (cells:=[iv 13,iv 0,.clip [k0.enc,k1.enc,k2.enc,x.enc],.nils,iv 0,iv 0,.nils]) (ro:=false) (s:=61886486) hcall2 (Cp ..) (by simp [Ap]) rfl (by simp)
            simp only [↓F7,↓XX,XY,↓reduceIte,Nat.reduceBEq,Nat.reduceAdd,Int.reduceEq,Int.reduceLT,Int.reduceLE,↓XV,h13,↓AgT hk3,h11,h12,↓Dn hst (Cp _ _ _ _ _ _),↓Hr hx,↓Hr hk0,↓AfZ hk1,↓Asi hk2,↓AsE,↓hcall3,↓ArG,↓Ag hp,↓JX hcall (Cp _ _ _ _ _ _)];exact AM _ _ _
          ·rw [if_neg hq] at hev;obtain ⟨rfl,rfl,rfl⟩:=Cq hev;simp only [hq,decide_false,if_false] at hst;simp only [↓F7,↓XX,XY,↓reduceIte,Nat.reduceBEq,Nat.reduceAdd,Int.reduceEq,Int.reduceLT,Int.reduceLE,↓XV,h13,↓AgT hk3,h11,h12,↓Dn hst (Cp _ _ _ _ _ _)];exact AM _ _ _
         ·rw [if_neg h12] at hev;obtain ⟨rfl,rfl,rfl⟩:=Cq hev;simp only [↓F7,↓XX,XY,↓reduceIte,Nat.reduceBEq,Nat.reduceAdd,Int.reduceEq,Int.reduceLT,Int.reduceLE,↓XV,h13,↓AgT hk3,h11,h12];exact AM _ _ _
       ·rw [if_neg h13] at hev;obtain ⟨rfl,rfl,rfl⟩:=Cq hev;simp only [↓F7,↓XX,XY,↓reduceIte,Nat.reduceBEq,Nat.reduceAdd,Int.reduceEq,Int.reduceLT,Int.reduceLE,↓XV,h5,h8,h9,h30,h19,h13];exact AM _ _ _
theorem XQ:∀f,Rz f∧SP f:=by
 intro f
 induction f with
 | zero=>exact ⟨(by intro s e t env v s' e' nd h;rw [Au] at h;cases h),(by intro s e v w s' e' nd h;rw [headR] at h;cases h)⟩
 | succ f ih=>exact ⟨AfD ih.1 ih.2,Afl ih.1 ih.2⟩
end Idl
end Go.Proofs.Ytaifgaidaglblaa
namespace Go.Proofs.Ytaifgaidaglblaa
namespace Idl
def FA (u:Int) (b:Nat):List RV:=(List.range b).map fun (j:Nat)=>RV.var (u+(j:Int))
theorem KT (u:Int) (b:Nat):FA u (b+1)=FA u b++[RV.var (u+b)]:=by simp [FA,List.range_succ]
theorem B6 (u:Int) (b:Nat):(FA u b).length=b:=by simp [FA]
def AU (rd:Int→Int→Int→RV→Int→Option (Tm×Int×Int×Int)) (f:Nat) (op u:Int):Nat→List RV→Int→Int→Int→Option (List Tm×Int×Int×Int)
 | _,[],s,nd,e=>some ([],s,nd,e)
 | i,k::l,s,nd,e =>
  match (if 0<Ae op i then (if 900000<k.env.length then none else Au f s e k.b (k.env++FA u (Ae op i))) else some (k,s,e)) with
  | none=>none
  | some (k',s1,e1)=>match rd s1 nd e1 k' (u+Ae op i) with
   | none=>none
   | some (t,s2,nd2,e2)=>(AU rd f op u (i+1) l s2 nd2 e2).map fun (ts,s,nd,e)=>(t::ts,s,nd,e)
def AI:Nat→Int→Int→Int→RV→Int→Int→Option (Tm×Int×Int×Int)
 | 0,_,_,_,_,_,_=>none
 | f+1,s,nd,e,v,u,d =>
  if nd<0∨1000000<nd∨u<0∨1000000<u∨d<0∨1000000<d∨v.n < -2305843009213693952∨2305843009213693952<v.n∨f≤v.k.length∨900000<v.k.length∨f≤3 then none else
  if (if e=0∧(3000<nd+1∨120<d) then 5 else e)≠0 then some (.z,s,nd+1,(if e=0∧(3000<nd+1∨120<d) then 5 else e))
  else if v.op=1 then some (.mk 1 (u - 1 - v.n) [],s,nd+1,0)
  else (AU (fun s nd e k u=>AI f s nd e k u (d+1)) f v.op u 0 v.k s (nd+1) 0).map fun (ts,s,nd,e)=>(.mk v.op v.n ts,s,nd,e)
def Wz (f:Nat):Prop:=∀(s nd e:Int) (v:RV) (u d:Int) (t:Tm) (s' nd' e':Int),AI f s nd e v u d=some (t,s',nd',e')→∀n,f+1≤n →
 Bx (SS dt n 41 [.ptr (.ext 0) 0,.fv v.enc,iv u,iv d] ⟨[],[.row [iv s,iv nd,iv e] false]⟩) t.enc [.row [iv s',iv nd',iv e'] false]
abbrev MY (op m:Int) (K:IV) (tok:List (Nat×Blk)) (s nd e:Int):Hp :=
 ⟨(42991616,.row [iv 0,iv 0,.nils] false)::(42999817,.row [iv op,iv m,K] false)::tok,[.row [iv s,iv nd,iv e] false]⟩
theorem Ad8 {cells:List IV} {fc:List FV} (hz:Dc cells=some fc) (hn:cells.length≤100) (s:Nat) (h:Hp) (k:IV→Hp→List Ref→List Ref→Option (IV×Hp)):fzS (Ly true s (.agg cells)) s (.agg cells) h k=k (.fv (.fp fc 0)) h [] []:=by
 have:Ly true s (.agg cells)=.ret { eff:={ val:=.fv (.fp fc 0),upd:=[] } }:=by
  simp only [Ly,IV.alive,Bool.true_eq_false,if_false,if_true,IV.cells,Aet cells 4096 (by omega) hz,Rd.bind]
 unfold fzS;rw [this,Wf];exact Kp _ s h k
theorem Ac8 (n:Int):(RV.var n).enc=.fp [.int .i64 1,.int .i64 n,.sl [],.sl [],.int .i64 0,.int .i64 0,.sl []] 0:=by rw [RV.var,Tm.z,Iz];rfl
set_option maxRecDepth 20000 in
set_option maxHeartbeats 1000000 in
theorem AeR {f:Nat} (hr:Wz f):Wz (f+1):=by
 intro s nd e v u d t s' nd' e' hev n hn;obtain ⟨n,rfl⟩:∃k,n=k+1:=⟨n - 1,by omega⟩;rw [c41];rw [AI] at hev;by_cases hbad:nd<0∨1000000<nd∨u<0∨1000000<u∨d<0∨1000000<d∨v.n < -2305843009213693952∨2305843009213693952<v.n∨f≤v.k.length∨900000<v.k.length∨f≤3
 ·rw [if_pos hbad] at hev;cases hev
 ·rw [if_neg hbad] at hev;have wnd:BI (nd+1)=nd+1:=by rw [Av]<;>omega
  have wd:BI (d+1)=d+1:=by rw [Av]<;>omega
  have wu:BI (u - 1)=u - 1:=by rw [Av]<;>omega
  have wv:BI (u - 1 - v.n)=u - 1 - v.n:=by rw [Av]<;>omega
  by_cases he:e=0
  ·subst he;by_cases h3:3000<nd+1
   ·have e5:(if (0:Int)=0∧(3000<nd+1∨120<d) then (5:Int) else 0)=5:=if_pos ⟨rfl,.inl h3⟩;rw [e5,if_pos (by decide)] at hev;simp only [AwW,AwX] at hev;obtain ⟨rfl,rfl,rfl,rfl⟩:=hev;simp only [↓Af9,↓XX,XY,↓reduceIte,Nat.reduceBEq,Nat.reduceAdd,Int.reduceEq,Int.reduceLT,Int.reduceLE,wnd,h3];exact Ff rfl _ _
   ·by_cases h4:120<d
    ·have e5:(if (0:Int)=0∧(3000<nd+1∨120<d) then (5:Int) else 0)=5:=if_pos ⟨rfl,.inr h4⟩;rw [e5,if_pos (by decide)] at hev;simp only [AwW,AwX] at hev;obtain ⟨rfl,rfl,rfl,rfl⟩:=hev;simp only [↓Af9,↓XX,XY,↓reduceIte,Nat.reduceBEq,Nat.reduceAdd,Int.reduceEq,Int.reduceLT,Int.reduceLE,wnd,h3,h4];exact Ff rfl _ _
    ·have e5:(if (0:Int)=0∧(3000<nd+1∨120<d) then (5:Int) else 0)=0:=if_neg (by omega);rw [e5,if_neg (by decide)] at hev;by_cases h1:v.op=1
     ·rw [if_pos h1] at hev;simp only [AwW,AwX] at hev;obtain ⟨rfl,rfl,rfl,rfl⟩:=hev;have hv:=Amb (n:=n) (by omega) (u - 1 - v.n);rw [Ai] at hv ⊢;simp only [↓Af9,↓XX,XY,↓reduceIte,Nat.reduceBEq,Nat.reduceAdd,Int.reduceEq,Int.reduceLT,Int.reduceLE,↓XV,wnd,h3,h4,h1,wu,wv,↓As hv];exact Ff rfl _ _
     ·rw [if_neg h1] at hev;cases hrk:AU (fun s nd e k u=>AI f s nd e k u (d+1)) f v.op u 0 v.k s (nd+1) 0 with
      | none=>rw [hrk] at hev;cases hev
      | some q =>
      obtain ⟨ts,s1,nd1,e1⟩:=q;rw [hrk] at hev;simp only [AwZ,AwW,AwX] at hev;obtain ⟨rfl,rfl,rfl,rfl⟩:=hev;simp only [↓Af9,↓XX,XY,↓reduceIte,Nat.reduceBEq,Nat.reduceAdd,Int.reduceEq,Int.reduceLT,Int.reduceLE,↓XV,wnd,h3,h4,h1,↓AC,XD,heldB,AN,XE];refine A7 (Q:=fun r=>Bx r _ _) (fun k V H=>∃(pre rest:List RV) (done:List Tm) (s2 nd2 e2:Int) (us:List Tm),v.k=pre++rest∧rest.length=k∧done.length=pre.length∧V=[.ptr (.ext 0) 0,.fv v.enc,iv u,iv d,.ptr (.own 42991616) 0,.ptr (.own 42999817) 0,iv pre.length] ∧
       (
        (pre=[]∧H=MY v.op v.n .nils [] s2 nd2 e2) ∨
        (pre≠[]∧H=MY v.op v.n (.app (.own 43013131) (done.map Tm.enc)) [(43013131,.tok done.length 3)] s2 nd2 e2)) ∧
       AU (fun s nd e k u=>AI f s nd e k u (d+1)) f v.op u pre.length rest s2 nd2 e2=some (us,s1,nd1,e1)∧done++us=ts)
       ?_ n v.k.length _ _ (by omega) ⟨[],v.k,[],s,nd+1,0,ts,rfl,rfl,rfl,rfl,.inl ⟨rfl,rfl⟩,hrk,rfl⟩
      rintro k V H rec ⟨pre,rest,done,s2,nd2,e2,us,hk,hl,hdl,rfl,hH,hkids,hts⟩ hrec;have hkl:v.k.length=pre.length+rest.length:=by rw [hk];simp
      cases rest with
      | nil =>
       simp only [AU,AwW,AwX] at hkids;obtain ⟨rfl,rfl,rfl,rfl⟩:=hkids;rw [List.append_nil] at hts;subst hts;have hno:¬ ((pre.length:Int)<v.k.length):=by rw [hkl];simp
       rcases hH with ⟨hp0,rfl⟩ | ⟨hne,rfl⟩
       ·have hd0:done=[]:=List.length_eq_zero_iff.1 (by rw [hdl,hp0];rfl);subst hd0;simp only [EQ,EV,EN,E1,EY,Ey,Ho,ES,EK,EH,EL,ED,Ht,EO,EX,EW,Ez,E0,EM,EA,Fx,EU,EG,EJ,ER,EZ,E3,EF,ET,EB,EC,S41,↓XX,XY,↓reduceIte,Nat.reduceBEq,Nat.reduceAdd,Int.reduceEq,Int.reduceLT,Int.reduceLE,↓XV,hno,Ai];exact Ff rfl _ _
       ·simp only [EQ,EV,EN,E1,EY,Ey,Ho,ES,EK,EH,EL,ED,Ht,EO,EX,EW,Ez,E0,EM,EA,Fx,EU,EG,EJ,ER,EZ,E3,EF,ET,EB,EC,S41,↓XX,XY,↓reduceIte,Nat.reduceBEq,Nat.reduceAdd,Int.reduceEq,Int.reduceLT,Int.reduceLE,↓XV,hno,Ai];exact Ff rfl _ _
      | cons x rest =>
       have hi:(pre.length:Int)<v.k.length:=by rw [hkl];simp;omega
       have hg:=Cg hk;have hb:=FG (n:=n) (by omega) v.op pre.length;have hble:=AY v.op pre.length;have hwi:BI ((pre.length:Int)+1)=((pre++[x]).length:Int):=(Av (by omega) (by omega)).trans (by simp);have hwb:BI (u+(Ae v.op pre.length:Int))=u+Ae v.op pre.length:=by rw [Av]<;>omega
       have hd9:done.length+1≤1000000:=by omega
       simp only [AU] at hkids;simp only [Aw0] at hl;have behind:∀(y:RV) (s3 e3:Int),(match AI f s3 nd2 e3 y (u+Ae v.op pre.length) (d+1) with
          | none=>none
          | some (t,s2,nd2,e2)=>(AU (fun s nd e k u=>AI f s nd e k u (d+1)) f v.op u (pre.length+1) rest s2 nd2 e2).map fun (ts,s,nd,e)=>(t::ts,s,nd,e))=some (us,s1,nd1,e1) →
         ∀K tk,((pre=[]∧K=.nils∧tk=[])∨(pre≠[]∧K=.app (.own 43013131) (done.map Tm.enc)∧tk=[(43013131,.tok done.length 3)])) →
         Bx (Ho (.ptr (.own 42999817) 0) (MY v.op v.n K tk s3 nd2 e3) (iv u) (iv (Ae v.op pre.length)) (iv d) (SS dt n) (.ptr (.ext 0) 0) (.fv y.enc) (iv pre.length) ⟨[],[.row [iv s,iv nd,iv 0] false]⟩ (.fv v.enc) (.ptr (.own 42991616) 0) rec)
          (Tm.mk v.op v.n ts).enc [.row [iv s1,iv nd1,iv e1] false]:=by
        intro y s3 e3 hy K tk hK;cases hrd:AI f s3 nd2 e3 y (u+Ae v.op pre.length) (d+1) with
        | none=>rw [hrd] at hy;cases hy
        | some q =>
        obtain ⟨t4,s4,nd4,e4⟩:=q;rw [hrd] at hy;simp only at hy;cases hkk:AU (fun s nd e k u=>AI f s nd e k u (d+1)) f v.op u (pre.length+1) rest s4 nd4 e4 with
        | none=>rw [hkk] at hy;cases hy
        | some q =>
        obtain ⟨us',s5,nd5,e5'⟩:=q;rw [hkk] at hy;simp only [AwZ,AwW,AwX] at hy;obtain ⟨rfl,rfl,rfl,rfl⟩:=hy;have hc:=hr s3 nd2 e3 y (u+Ae v.op pre.length) (d+1) t4 s4 nd4 e4 hrd n (by omega);have h9:Bx (rec [.ptr (.ext 0) 0,.fv v.enc,iv u,iv d,.ptr (.own 42991616) 0,.ptr (.own 42999817) 0,iv (pre++[x]).length]
          (MY v.op v.n (.app (.own 43013131) ((done++[t4]).map Tm.enc)) [(43013131,.tok (done.length+1) 3)] s4 nd4 e4)) (Tm.mk v.op v.n ts).enc [.row [iv s5,iv nd5,iv e5'] false] :=
         hrec rest.length _ _ (by omega) ⟨pre++[x],rest,done++[t4],s4,nd4,e4,us',by rw [hk];simp,rfl,by simp [hdl],rfl,.inr ⟨by simp,by simp⟩,by simpa using hkk,by rw [← hts];simp⟩
        rcases hK with ⟨hp0,rfl,rfl⟩ | ⟨hne,rfl,rfl⟩
        ·have hd0:done=[]:=List.length_eq_zero_iff.1 (by rw [hdl,hp0];rfl);subst hd0;simp only [List.nil_append,Aw2,Aw1,List.length_nil] at h9;simp only [EQ,EV,EN,E1,EY,Ey,Ho,ES,EK,EH,EL,ED,Ht,EO,EX,EW,Ez,E0,EM,EA,Fx,EU,EG,EJ,ER,EZ,E3,EF,ET,EB,EC,S41,↓XX,XY,↓reduceIte,Nat.reduceBEq,Nat.reduceAdd,Int.reduceEq,Int.reduceLT,Int.reduceLE,↓XV,hwb,wd,hwi,↓AgI hc (Cp _ _ _ _ _ _),↓JO,↓SN,↓AC,XD,heldB,AN,XE];exact h9
        ·simp only [EQ,EV,EN,E1,EY,Ey,Ho,ES,EK,EH,EL,ED,Ht,EO,EX,EW,Ez,E0,EM,EA,Fx,EU,EG,EJ,ER,EZ,E3,EF,ET,EB,EC,S41,↓XX,XY,↓reduceIte,Nat.reduceBEq,Nat.reduceAdd,Int.reduceEq,Int.reduceLT,Int.reduceLE,↓XV,hwb,wd,hwi,↓AgI hc (Cp _ _ _ _ _ _),↓JO,↓NX hd9,↓H9,↓AC,XD,heldB,AN,XE];exact h9
       have heads:∃K tk,((pre=[]∧K=.nils∧tk=[])∨(pre≠[]∧K=.app (.own 43013131) (done.map Tm.enc)∧tk=[(43013131,.tok done.length 3)]))∧H=MY v.op v.n K tk s2 nd2 e2:=by
        rcases hH with ⟨a,b⟩ | ⟨a,b⟩
        ·exact ⟨_,_,.inl ⟨a,rfl,rfl⟩,b⟩
        ·exact ⟨_,_,.inr ⟨a,rfl,rfl⟩,b⟩
       obtain ⟨K,tk,hK,rfl⟩:=heads;by_cases hbp:0<Ae v.op pre.length
       ·rw [if_pos hbp] at hkids;by_cases hxe:900000<x.env.length
        ·rw [if_pos hxe] at hkids;cases hkids
        ·rw [if_neg hxe] at hkids;have hbp':0<(Ae v.op pre.length:Int):=by omega
         cases hev1:Au f s2 e2 x.b (x.env++FA u (Ae v.op pre.length)) with
         | none=>rw [hev1] at hkids;cases hkids
         | some q =>
         obtain ⟨y,s3,e3⟩:=q;rw [hev1] at hkids;have hB:=behind y s3 e3 hkids K tk hK;have hc:=(XQ f).1 s2 e2 x.b _ y s3 e3 nd2 hev1 n (by omega);rw [V0] at hc;have hdrop:∀(vals:List IV),vals.all FR=true→∀k:Hp→Option (IV×Hp),Bf [] [43011077] vals (MY v.op v.n K tk s2 nd2 e2) k=k (MY v.op v.n K tk s2 nd2 e2):=by
          intro vals hv k;rcases hK with ⟨_,rfl,rfl⟩ | ⟨_,rfl,rfl⟩<;>simp only [↓XX,XY,↓reduceIte,Nat.reduceBEq,Nat.reduceAdd,Int.reduceEq,Int.reduceLT,Int.reduceLE,↓AC,XD,heldB,AN,XE,hv]
         simp only [EQ,EV,EN,E1,EY,Ey,ES,EK,EH,EL,ED,EO,EX,EW,Ez,E0,EM,EA,Fx,EU,EG,EJ,ER,EZ,E3,EF,ET,EB,EC,S41,↓XX,XY,↓reduceIte,Nat.reduceBEq,Nat.reduceAdd,Int.reduceEq,Int.reduceLT,Int.reduceLE,↓XV,hi,↓WC hg,↓Ag hb,hbp',↓hdrop,↓AC,XD,heldB,AN,XE];refine A7 (Q:=fun r=>Bx r _ _) (fun k V H=>∃j,j+k=Ae v.op pre.length∧V=[.ptr (.ext 0) 0,.fv v.enc,iv u,iv d,.ptr (.own 42991616) 0,.ptr (.own 42999817) 0,iv pre.length,iv (Ae v.op pre.length),.fv x.enc,.fv (.sl ((x.env++FA u j).map RV.enc)),iv j] ∧
          H=MY v.op v.n K tk s2 nd2 e2) ?_ n (Ae v.op pre.length) _ _ (by omega) ?_
         rotate_left
         ·exact ⟨0,by omega,by simp [FA],rfl⟩
         rintro k2 V2 H2 rec2 ⟨j,hj,rfl,rfl⟩ hrec2;cases k2 with
         | zero =>
          have hjb:j=Ae v.op pre.length:=by omega
          subst hjb;simp only [EQ,EV,EN,E1,EY,Ey,ES,EK,EH,EL,ED,Ht,EO,EX,EW,Ez,E0,EM,EA,Fx,EU,EG,EJ,ER,EZ,E3,EF,ET,EB,EC,S41,↓XX,XY,↓reduceIte,Nat.reduceBEq,Nat.reduceAdd,Int.reduceEq,Int.reduceLT,Int.reduceLE,↓XV,Int.lt_irrefl,↓JX hc (Cp _ _ _ _ _ _)];exact hB
         | succ k2 =>
          have hjb:(j:Int)<Ae v.op pre.length:=by omega
          have hwj:BI (u+(j:Int))=u+j:=by rw [Av]<;>omega
          have hwj1:BI ((j:Int)+1)=((j+1:Nat):Int):=by rw [Av]<;>omega
          have hp:=Tc (n:=n) (by omega) (x.env++FA u j) [RV.var (u+j)] (by simp) (by simp [B6];omega);simp only [Aw2,Aw1,Ac8] at hp;rw [List.append_assoc,← KT] at hp;have hbv:=fun s h k=>Vw (RV.var (u+j)) s h k;simp only [Ac8] at hbv;have hfz:=fun s h (k:IV→Hp→List Ref→List Ref→Option (IV×Hp))=>Ad8 (cells:=[.fv (.int .i64 1),iv (u+j),.nils,.nils,.fv (.int .i64 0),.fv (.int .i64 0),.nils]) (fc:=[.int .i64 1,.int .i64 (u+j),.sl [],.sl [],.int .i64 0,.int .i64 0,.sl []]) rfl (by simp) s h k;have h9:=hrec2 k2 _ _ (by omega) ⟨j+1,by omega,rfl,rfl⟩;simp only [EQ,EV,EN,E1,EY,Ey,ES,EK,EH,EL,ED,Ht,EO,EX,EW,Ez,E0,EM,EA,Fx,EU,EG,EJ,ER,EZ,E3,EF,ET,EB,EC,S41,↓XX,XY,↓reduceIte,Nat.reduceBEq,Nat.reduceAdd,Int.reduceEq,Int.reduceLT,Int.reduceLE,↓XV,hjb,hwj,hwj1,↓hfz,↓hbv,↓Ag hp,↓hdrop,↓AC,XD,heldB,AN,XE];exact h9
       ·rw [if_neg hbp] at hkids;have hbp':¬ 0<(Ae v.op pre.length:Int):=by omega
        have hB:=behind x s2 e2 hkids K tk hK;simp only [EQ,EV,EN,E1,EY,Ey,ES,EK,EH,EL,ED,EO,EX,EW,Ez,E0,EM,EA,Fx,EU,EG,EJ,ER,EZ,E3,EF,ET,EB,EC,S41,↓XX,XY,↓reduceIte,Nat.reduceBEq,Nat.reduceAdd,Int.reduceEq,Int.reduceLT,Int.reduceLE,↓XV,hi,↓WC hg,↓Ag hb,hbp',↓AC,XD,heldB,AN,XE];exact hB
  ·have e5:(if e=0∧(3000<nd+1∨120<d) then (5:Int) else e)=e:=if_neg (by omega);rw [e5,if_pos he] at hev;simp only [AwW,AwX] at hev;obtain ⟨rfl,rfl,rfl,rfl⟩:=hev;simp only [↓Af9,↓XX,XY,↓reduceIte,Nat.reduceBEq,Nat.reduceAdd,Int.reduceEq,Int.reduceLT,Int.reduceLE,wnd,he];exact Ff rfl _ _
theorem Akn:∀f,Wz f:=by
 intro f
 induction f with
 | zero=>intro s nd e v u d t s' nd' e' h;rw [AI] at h;cases h
 | succ f ih=>exact AeR ih
end Idl
end Go.Proofs.Ytaifgaidaglblaa

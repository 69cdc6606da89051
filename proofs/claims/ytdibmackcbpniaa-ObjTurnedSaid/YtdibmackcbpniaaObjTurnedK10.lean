/-
  Texts of a proof, part 10: an ideal semantics of the program, its functions in shallow form, contracts of them. No statement of the seat is proved here.
-/
import Derived.KernelRfl
import Derived.Test.YtdibmackcbpniaaObjTurnedK9
set_option linter.all false
set_option maxRecDepth 20000
set_option maxHeartbeats 16000000
noncomputable section
namespace Go.Proofs.Ytdibmackcbpniaa
namespace Idl
theorem Aqv {f:Nat} {G:Aa->Nat->Hp->Option (IV×Hp)} (e:dt.call f=fun ih n=>O5 (G ih n)) (n:Nat) (h:Hp):SS dt (n+1) f [] h=G (SS dt n) n  h:=by
 show dt.call f (SS dt n) n _ h=_
 rw [e];rfl
theorem BT {f:Nat} {G:Aa->Nat->IV->Hp->Option (IV×Hp)} (e:dt.call f=fun ih n=>EC (G ih n)) (n:Nat) (a0:IV) (h:Hp):SS dt (n+1) f [a0] h=G (SS dt n) n a0 h:=by
 show dt.call f (SS dt n) n _ h=_
 rw [e];rfl
theorem Bg {f:Nat} {G:Aa->Nat->IV->IV->Hp->Option (IV×Hp)} (e:dt.call f=fun ih n=>CE (G ih n)) (n:Nat) (a0 a1:IV) (h:Hp):SS dt (n+1) f [a0,a1] h=G (SS dt n) n a0 a1 h:=by
 show dt.call f (SS dt n) n _ h=_
 rw [e];rfl
theorem CZ {f:Nat} {G:Aa->Nat->IV->IV->IV->Hp->Option (IV×Hp)} (e:dt.call f=fun ih n=>HO (G ih n)) (n:Nat) (a0 a1 a2:IV) (h:Hp):SS dt (n+1) f [a0,a1,a2] h=G (SS dt n) n a0 a1 a2 h:=by
 show dt.call f (SS dt n) n _ h=_
 rw [e];rfl
theorem DO {f:Nat} {G:Aa->Nat->IV->IV->IV->IV->Hp->Option (IV×Hp)} (e:dt.call f=fun ih n=>KM (G ih n)) (n:Nat) (a0 a1 a2 a3:IV) (h:Hp):SS dt (n+1) f [a0,a1,a2,a3] h=G (SS dt n) n a0 a1 a2 a3 h:=by
 show dt.call f (SS dt n) n _ h=_
 rw [e];rfl
theorem c4 (n:Nat) (a0 a1 a2 a3:IV) (h:Hp):SS dt (n+1) 4 [a0,a1,a2,a3] h=S4 (SS dt n) n a0 a1 a2 a3 h:=DO (show dt.call 4=fun ih n=>KM (S4 ih n) by kernel_rfl) ..
theorem c12 (n:Nat) (a0:IV) (h:Hp):SS dt (n+1) 12 [a0] h=S12 (SS dt n) n a0 h:=BT (show dt.call 12=fun ih n=>EC (S12 ih n) by kernel_rfl) ..
theorem c14 (n:Nat) (a0 a1:IV) (h:Hp):SS dt (n+1) 14 [a0,a1] h=S14 (SS dt n) n a0 a1 h:=Bg (show dt.call 14=fun ih n=>CE (S14 ih n) by kernel_rfl) ..
theorem c15 (n:Nat) (a0 a1:IV) (h:Hp):SS dt (n+1) 15 [a0,a1] h=S15 (SS dt n) n a0 a1 h:=Bg (show dt.call 15=fun ih n=>CE (S15 ih n) by kernel_rfl) ..
theorem c16 (n:Nat) (a0 a1 a2:IV) (h:Hp):SS dt (n+1) 16 [a0,a1,a2] h=S16 (SS dt n) n a0 a1 a2 h:=CZ (show dt.call 16=fun ih n=>HO (S16 ih n) by kernel_rfl) ..
theorem c17 (n:Nat) (a0 a1:IV) (h:Hp):SS dt (n+1) 17 [a0,a1] h=S17 (SS dt n) n a0 a1 h:=Bg (show dt.call 17=fun ih n=>CE (S17 ih n) by kernel_rfl) ..
theorem c18 (n:Nat) (a0 a1:IV) (h:Hp):SS dt (n+1) 18 [a0,a1] h=S18 (SS dt n) n a0 a1 h:=Bg (show dt.call 18=fun ih n=>CE (S18 ih n) by kernel_rfl) ..
theorem c19 (n:Nat) (a0 a1:IV) (h:Hp):SS dt (n+1) 19 [a0,a1] h=S19 (SS dt n) n a0 a1 h:=Bg (show dt.call 19=fun ih n=>CE (S19 ih n) by kernel_rfl) ..
theorem c20 (n:Nat) (a0:IV) (h:Hp):SS dt (n+1) 20 [a0] h=S20 (SS dt n) n a0 h:=BT (show dt.call 20=fun ih n=>EC (S20 ih n) by kernel_rfl) ..
theorem c21 (n:Nat) (a0:IV) (h:Hp):SS dt (n+1) 21 [a0] h=S21 (SS dt n) n a0 h:=BT (show dt.call 21=fun ih n=>EC (S21 ih n) by kernel_rfl) ..
theorem c22 (n:Nat) (a0 a1 a2:IV) (h:Hp):SS dt (n+1) 22 [a0,a1,a2] h=S22 (SS dt n) n a0 a1 a2 h:=CZ (show dt.call 22=fun ih n=>HO (S22 ih n) by kernel_rfl) ..
theorem c23 (n:Nat) (a0 a1:IV) (h:Hp):SS dt (n+1) 23 [a0,a1] h=S23 (SS dt n) n a0 a1 h:=Bg (show dt.call 23=fun ih n=>CE (S23 ih n) by kernel_rfl) ..
theorem c24 (n:Nat) (a0:IV) (h:Hp):SS dt (n+1) 24 [a0] h=S24 (SS dt n) n a0 h:=BT (show dt.call 24=fun ih n=>EC (S24 ih n) by kernel_rfl) ..
theorem c25 (n:Nat) (a0:IV) (h:Hp):SS dt (n+1) 25 [a0] h=S25 (SS dt n) n a0 h:=BT (show dt.call 25=fun ih n=>EC (S25 ih n) by kernel_rfl) ..
theorem c26 (n:Nat) (a0 a1 a2:IV) (h:Hp):SS dt (n+1) 26 [a0,a1,a2] h=S26 (SS dt n) n a0 a1 a2 h:=CZ (show dt.call 26=fun ih n=>HO (S26 ih n) by kernel_rfl) ..
theorem c27 (n:Nat) (a0:IV) (h:Hp):SS dt (n+1) 27 [a0] h=S27 (SS dt n) n a0 h:=BT (show dt.call 27=fun ih n=>EC (S27 ih n) by kernel_rfl) ..
theorem c28 (n:Nat) (a0 a1 a2:IV) (h:Hp):SS dt (n+1) 28 [a0,a1,a2] h=S28 (SS dt n) n a0 a1 a2 h:=CZ (show dt.call 28=fun ih n=>HO (S28 ih n) by kernel_rfl) ..
theorem c29 (n:Nat) (a0:IV) (h:Hp):SS dt (n+1) 29 [a0] h=S29 (SS dt n) n a0 h:=BT (show dt.call 29=fun ih n=>EC (S29 ih n) by kernel_rfl) ..
theorem c30 (n:Nat) (a0 a1:IV) (h:Hp):SS dt (n+1) 30 [a0,a1] h=S30 (SS dt n) n a0 a1 h:=Bg (show dt.call 30=fun ih n=>CE (S30 ih n) by kernel_rfl) ..
theorem c31 (n:Nat) (a0:IV) (h:Hp):SS dt (n+1) 31 [a0] h=S31 (SS dt n) n a0 h:=BT (show dt.call 31=fun ih n=>EC (S31 ih n) by kernel_rfl) ..
theorem c40 (n:Nat) (a0 a1:IV) (h:Hp):SS dt (n+1) 40 [a0,a1] h=S40 (SS dt n) n a0 a1 h:=Bg (show dt.call 40=fun ih n=>CE (S40 ih n) by kernel_rfl) ..
theorem c41 (n:Nat) (a0 a1:IV) (h:Hp):SS dt (n+1) 41 [a0,a1] h=S41 (SS dt n) n a0 a1 h:=Bg (show dt.call 41=fun ih n=>CE (S41 ih n) by kernel_rfl) ..
theorem c42 (n:Nat) (a0 a1:IV) (h:Hp):SS dt (n+1) 42 [a0,a1] h=S42 (SS dt n) n a0 a1 h:=Bg (show dt.call 42=fun ih n=>CE (S42 ih n) by kernel_rfl) ..
theorem c43 (n:Nat) (a0 a1 a2 a3:IV) (h:Hp):SS dt (n+1) 43 [a0,a1,a2,a3] h=S43 (SS dt n) n a0 a1 a2 a3 h:=DO (show dt.call 43=fun ih n=>KM (S43 ih n) by kernel_rfl) ..
theorem c44 (n:Nat) (a0:IV) (h:Hp):SS dt (n+1) 44 [a0] h=S44 (SS dt n) n a0 h:=BT (show dt.call 44=fun ih n=>EC (S44 ih n) by kernel_rfl) ..
theorem c45 (n:Nat) (a0 a1:IV) (h:Hp):SS dt (n+1) 45 [a0,a1] h=S45 (SS dt n) n a0 a1 h:=Bg (show dt.call 45=fun ih n=>CE (S45 ih n) by kernel_rfl) ..
theorem c46 (n:Nat) (a0:IV) (h:Hp):SS dt (n+1) 46 [a0] h=S46 (SS dt n) n a0 h:=BT (show dt.call 46=fun ih n=>EC (S46 ih n) by kernel_rfl) ..
theorem c47 (n:Nat) (a0 a1:IV) (h:Hp):SS dt (n+1) 47 [a0,a1] h=S47 (SS dt n) n a0 a1 h:=Bg (show dt.call 47=fun ih n=>CE (S47 ih n) by kernel_rfl) ..
theorem c48 (n:Nat) (a0 a1:IV) (h:Hp):SS dt (n+1) 48 [a0,a1] h=S48 (SS dt n) n a0 a1 h:=Bg (show dt.call 48=fun ih n=>CE (S48 ih n) by kernel_rfl) ..
theorem c49 (n:Nat) (a0:IV) (h:Hp):SS dt (n+1) 49 [a0] h=S49 (SS dt n) n a0 h:=BT (show dt.call 49=fun ih n=>EC (S49 ih n) by kernel_rfl) ..
theorem c50 (n:Nat) (a0 a1:IV) (h:Hp):SS dt (n+1) 50 [a0,a1] h=S50 (SS dt n) n a0 a1 h:=Bg (show dt.call 50=fun ih n=>CE (S50 ih n) by kernel_rfl) ..
theorem c51 (n:Nat) (a0:IV) (h:Hp):SS dt (n+1) 51 [a0] h=S51 (SS dt n) n a0 h:=BT (show dt.call 51=fun ih n=>EC (S51 ih n) by kernel_rfl) ..
theorem c52 (n:Nat) (a0:IV) (h:Hp):SS dt (n+1) 52 [a0] h=S52 (SS dt n) n a0 h:=BT (show dt.call 52=fun ih n=>EC (S52 ih n) by kernel_rfl) ..
theorem c53 (n:Nat) (a0 a1:IV) (h:Hp):SS dt (n+1) 53 [a0,a1] h=S53 (SS dt n) n a0 a1 h:=Bg (show dt.call 53=fun ih n=>CE (S53 ih n) by kernel_rfl) ..
theorem c54 (n:Nat) (a0:IV) (h:Hp):SS dt (n+1) 54 [a0] h=S54 (SS dt n) n a0 h:=BT (show dt.call 54=fun ih n=>EC (S54 ih n) by kernel_rfl) ..
theorem c55 (n:Nat) (a0 a1:IV) (h:Hp):SS dt (n+1) 55 [a0,a1] h=S55 (SS dt n) n a0 a1 h:=Bg (show dt.call 55=fun ih n=>CE (S55 ih n) by kernel_rfl) ..
theorem c56 (n:Nat) (a0 a1 a2:IV) (h:Hp):SS dt (n+1) 56 [a0,a1,a2] h=S56 (SS dt n) n a0 a1 a2 h:=CZ (show dt.call 56=fun ih n=>HO (S56 ih n) by kernel_rfl) ..
theorem c58 (n:Nat) (a0:IV) (h:Hp):SS dt (n+1) 58 [a0] h=S58 (SS dt n) n a0 h:=BT (show dt.call 58=fun ih n=>EC (S58 ih n) by kernel_rfl) ..
theorem c59 (n:Nat) (a0 a1:IV) (h:Hp):SS dt (n+1) 59 [a0,a1] h=S59 (SS dt n) n a0 a1 h:=Bg (show dt.call 59=fun ih n=>CE (S59 ih n) by kernel_rfl) ..
theorem c60 (n:Nat) (a0:IV) (h:Hp):SS dt (n+1) 60 [a0] h=S60 (SS dt n) n a0 h:=BT (show dt.call 60=fun ih n=>EC (S60 ih n) by kernel_rfl) ..
theorem c61 (n:Nat) (a0 a1 a2 a3:IV) (h:Hp):SS dt (n+1) 61 [a0,a1,a2,a3] h=S61 (SS dt n) n a0 a1 a2 a3 h:=DO (show dt.call 61=fun ih n=>KM (S61 ih n) by kernel_rfl) ..
theorem c62 (n:Nat) (a0 a1 a2 a3:IV) (h:Hp):SS dt (n+1) 62 [a0,a1,a2,a3] h=S62 (SS dt n) n a0 a1 a2 a3 h:=DO (show dt.call 62=fun ih n=>KM (S62 ih n) by kernel_rfl) ..
theorem c64 (n:Nat) (a0 a1:IV) (h:Hp):SS dt (n+1) 64 [a0,a1] h=S64 (SS dt n) n a0 a1 h:=Bg (show dt.call 64=fun ih n=>CE (S64 ih n) by kernel_rfl) ..
theorem c67 (n:Nat) (a0:IV) (h:Hp):SS dt (n+1) 67 [a0] h=S67 (SS dt n) n a0 h:=BT (show dt.call 67=fun ih n=>EC (S67 ih n) by kernel_rfl) ..
theorem c68 (n:Nat) (a0 a1 a2 a3:IV) (h:Hp):SS dt (n+1) 68 [a0,a1,a2,a3] h=S68 (SS dt n) n a0 a1 a2 a3 h:=DO (show dt.call 68=fun ih n=>KM (S68 ih n) by kernel_rfl) ..
theorem c69 (n:Nat) (a0 a1 a2:IV) (h:Hp):SS dt (n+1) 69 [a0,a1,a2] h=S69 (SS dt n) n a0 a1 a2 h:=CZ (show dt.call 69=fun ih n=>HO (S69 ih n) by kernel_rfl) ..
theorem c70 (n:Nat) (a0 a1 a2 a3:IV) (h:Hp):SS dt (n+1) 70 [a0,a1,a2,a3] h=S70 (SS dt n) n a0 a1 a2 a3 h:=DO (show dt.call 70=fun ih n=>KM (S70 ih n) by kernel_rfl) ..
theorem c71 (n:Nat) (a0 a1 a2:IV) (h:Hp):SS dt (n+1) 71 [a0,a1,a2] h=S71 (SS dt n) n a0 a1 a2 h:=CZ (show dt.call 71=fun ih n=>HO (S71 ih n) by kernel_rfl) ..
theorem c72 (n:Nat) (a0 a1:IV) (h:Hp):SS dt (n+1) 72 [a0,a1] h=S72 (SS dt n) n a0 a1 h:=Bg (show dt.call 72=fun ih n=>CE (S72 ih n) by kernel_rfl) ..
theorem c73 (n:Nat) (a0 a1 a2:IV) (h:Hp):SS dt (n+1) 73 [a0,a1,a2] h=S73 (SS dt n) n a0 a1 a2 h:=CZ (show dt.call 73=fun ih n=>HO (S73 ih n) by kernel_rfl) ..
theorem c74 (n:Nat) (a0 a1:IV) (h:Hp):SS dt (n+1) 74 [a0,a1] h=S74 (SS dt n) n a0 a1 h:=Bg (show dt.call 74=fun ih n=>CE (S74 ih n) by kernel_rfl) ..
theorem c75 (n:Nat) (a0 a1:IV) (h:Hp):SS dt (n+1) 75 [a0,a1] h=S75 (SS dt n) n a0 a1 h:=Bg (show dt.call 75=fun ih n=>CE (S75 ih n) by kernel_rfl) ..
theorem c76 (n:Nat) (a0 a1:IV) (h:Hp):SS dt (n+1) 76 [a0,a1] h=S76 (SS dt n) n a0 a1 h:=Bg (show dt.call 76=fun ih n=>CE (S76 ih n) by kernel_rfl) ..
theorem c77 (n:Nat) (a0 a1 a2:IV) (h:Hp):SS dt (n+1) 77 [a0,a1,a2] h=S77 (SS dt n) n a0 a1 a2 h:=CZ (show dt.call 77=fun ih n=>HO (S77 ih n) by kernel_rfl) ..
theorem c78 (n:Nat) (a0 a1:IV) (h:Hp):SS dt (n+1) 78 [a0,a1] h=S78 (SS dt n) n a0 a1 h:=Bg (show dt.call 78=fun ih n=>CE (S78 ih n) by kernel_rfl) ..
theorem c79 (n:Nat) (a0 a1:IV) (h:Hp):SS dt (n+1) 79 [a0,a1] h=S79 (SS dt n) n a0 a1 h:=Bg (show dt.call 79=fun ih n=>CE (S79 ih n) by kernel_rfl) ..
theorem c80 (n:Nat) (a0 a1:IV) (h:Hp):SS dt (n+1) 80 [a0,a1] h=S80 (SS dt n) n a0 a1 h:=Bg (show dt.call 80=fun ih n=>CE (S80 ih n) by kernel_rfl) ..
theorem c81 (n:Nat) (a0 a1 a2 a3:IV) (h:Hp):SS dt (n+1) 81 [a0,a1,a2,a3] h=S81 (SS dt n) n a0 a1 a2 a3 h:=DO (show dt.call 81=fun ih n=>KM (S81 ih n) by kernel_rfl) ..
theorem c82 (n:Nat) (a0 a1 a2:IV) (h:Hp):SS dt (n+1) 82 [a0,a1,a2] h=S82 (SS dt n) n a0 a1 a2 h:=CZ (show dt.call 82=fun ih n=>HO (S82 ih n) by kernel_rfl) ..
theorem c83 (n:Nat) (a0 a1 a2:IV) (h:Hp):SS dt (n+1) 83 [a0,a1,a2] h=S83 (SS dt n) n a0 a1 a2 h:=CZ (show dt.call 83=fun ih n=>HO (S83 ih n) by kernel_rfl) ..
theorem c84 (n:Nat) (a0 a1 a2:IV) (h:Hp):SS dt (n+1) 84 [a0,a1,a2] h=S84 (SS dt n) n a0 a1 a2 h:=CZ (show dt.call 84=fun ih n=>HO (S84 ih n) by kernel_rfl) ..
theorem c85 (n:Nat) (a0 a1 a2 a3:IV) (h:Hp):SS dt (n+1) 85 [a0,a1,a2,a3] h=S85 (SS dt n) n a0 a1 a2 a3 h:=DO (show dt.call 85=fun ih n=>KM (S85 ih n) by kernel_rfl) ..
theorem c86 (n:Nat) (a0 a1:IV) (h:Hp):SS dt (n+1) 86 [a0,a1] h=S86 (SS dt n) n a0 a1 h:=Bg (show dt.call 86=fun ih n=>CE (S86 ih n) by kernel_rfl) ..
theorem c87 (n:Nat) (a0 a1:IV) (h:Hp):SS dt (n+1) 87 [a0,a1] h=S87 (SS dt n) n a0 a1 h:=Bg (show dt.call 87=fun ih n=>CE (S87 ih n) by kernel_rfl) ..
theorem c89 (n:Nat) (a0 a1 a2:IV) (h:Hp):SS dt (n+1) 89 [a0,a1,a2] h=S89 (SS dt n) n a0 a1 a2 h:=CZ (show dt.call 89=fun ih n=>HO (S89 ih n) by kernel_rfl) ..
theorem c96 (n:Nat) (a0 a1 a2:IV) (h:Hp):SS dt (n+1) 96 [a0,a1,a2] h=S96 (SS dt n) n a0 a1 a2 h:=CZ (show dt.call 96=fun ih n=>HO (S96 ih n) by kernel_rfl) ..
theorem c97 (n:Nat) (a0 a1 a2 a3:IV) (h:Hp):SS dt (n+1) 97 [a0,a1,a2,a3] h=S97 (SS dt n) n a0 a1 a2 a3 h:=DO (show dt.call 97=fun ih n=>KM (S97 ih n) by kernel_rfl) ..
theorem c98 (n:Nat) (a0 a1 a2 a3:IV) (h:Hp):SS dt (n+1) 98 [a0,a1,a2,a3] h=S98 (SS dt n) n a0 a1 a2 a3 h:=DO (show dt.call 98=fun ih n=>KM (S98 ih n) by kernel_rfl) ..
theorem c99 (n:Nat) (h:Hp):SS dt (n+1) 99 [] h=S99 (SS dt n) n  h:=Aqv (show dt.call 99=fun ih n=>O5 (S99 ih n) by kernel_rfl) ..
theorem AtT (n:Nat) (a0 a1 a2 a3:IV) (h:Hp):SS dt (n+1) 100 [a0,a1,a2,a3] h=S100 (SS dt n) n a0 a1 a2 a3 h:=DO (show dt.call 100=fun ih n=>KM (S100 ih n) by kernel_rfl) ..
theorem VP (n:Nat) (a0 a1 a2 a3:IV) (h:Hp):SS dt (n+1) 101 [a0,a1,a2,a3] h=S101 (SS dt n) n a0 a1 a2 a3 h:=DO (show dt.call 101=fun ih n=>KM (S101 ih n) by kernel_rfl) ..
theorem AwS (n:Nat) (a0:IV) (h:Hp):SS dt (n+1) 102 [a0] h=AgO (SS dt n) n a0 h:=BT (show dt.call 102=fun ih n=>EC (AgO ih n) by kernel_rfl) ..
theorem AwB (n:Nat) (a0 a1:IV) (h:Hp):SS dt (n+1) 103 [a0,a1] h=S103 (SS dt n) n a0 a1 h:=Bg (show dt.call 103=fun ih n=>CE (S103 ih n) by kernel_rfl) ..
theorem Av8 (n:Nat) (a0 a1:IV) (h:Hp):SS dt (n+1) 104 [a0,a1] h=WA (SS dt n) n a0 a1 h:=Bg (show dt.call 104=fun ih n=>CE (WA ih n) by kernel_rfl) ..
theorem Axe (n:Nat) (a0 a1:IV) (h:Hp):SS dt (n+1) 105 [a0,a1] h=AgW (SS dt n) n a0 a1 h:=Bg (show dt.call 105=fun ih n=>CE (AgW ih n) by kernel_rfl) ..
theorem Aw7 (n:Nat) (a0:IV) (h:Hp):SS dt (n+1) 106 [a0] h=AiO (SS dt n) n a0 h:=BT (show dt.call 106=fun ih n=>EC (AiO ih n) by kernel_rfl) ..
theorem Awd (n:Nat) (a0:IV) (h:Hp):SS dt (n+1) 107 [a0] h=Ail (SS dt n) n a0 h:=BT (show dt.call 107=fun ih n=>EC (Ail ih n) by kernel_rfl) ..
theorem AwO (n:Nat) (a0 a1 a2:IV) (h:Hp):SS dt (n+1) 108 [a0,a1,a2] h=XZ (SS dt n) n a0 a1 a2 h:=CZ (show dt.call 108=fun ih n=>HO (XZ ih n) by kernel_rfl) ..
theorem Aw0 (n:Nat) (a0 a1:IV) (h:Hp):SS dt (n+1) 109 [a0,a1] h=Ahc (SS dt n) n a0 a1 h:=Bg (show dt.call 109=fun ih n=>CE (Ahc ih n) by kernel_rfl) ..
theorem Awg (n:Nat) (a0 a1:IV) (h:Hp):SS dt (n+1) 110 [a0,a1] h=S110 (SS dt n) n a0 a1 h:=Bg (show dt.call 110=fun ih n=>CE (S110 ih n) by kernel_rfl) ..
theorem AwW (n:Nat) (a0:IV) (h:Hp):SS dt (n+1) 111 [a0] h=AiR (SS dt n) n a0 h:=BT (show dt.call 111=fun ih n=>EC (AiR ih n) by kernel_rfl) ..
theorem Aw6 (n:Nat) (a0:IV) (h:Hp):SS dt (n+1) 112 [a0] h=S112 (SS dt n) n a0 h:=BT (show dt.call 112=fun ih n=>EC (S112 ih n) by kernel_rfl) ..
theorem AwL (n:Nat) (a0 a1 a2 a3:IV) (h:Hp):SS dt (n+1) 113 [a0,a1,a2,a3] h=S113 (SS dt n) n a0 a1 a2 a3 h:=DO (show dt.call 113=fun ih n=>KM (S113 ih n) by kernel_rfl) ..
theorem Awh (n:Nat) (a0:IV) (h:Hp):SS dt (n+1) 115 [a0] h=XI (SS dt n) n a0 h:=BT (show dt.call 115=fun ih n=>EC (XI ih n) by kernel_rfl) ..
theorem Awa (n:Nat) (a0 a1 a2:IV) (h:Hp):SS dt (n+1) 116 [a0,a1,a2] h=R7 (SS dt n) n a0 a1 a2 h:=CZ (show dt.call 116=fun ih n=>HO (R7 ih n) by kernel_rfl) ..
theorem Av6 (n:Nat) (a0:IV) (h:Hp):SS dt (n+1) 117 [a0] h=AgU (SS dt n) n a0 h:=BT (show dt.call 117=fun ih n=>EC (AgU ih n) by kernel_rfl) ..
theorem Awo (n:Nat) (a0 a1:IV) (h:Hp):SS dt (n+1) 118 [a0,a1] h=QE (SS dt n) n a0 a1 h:=Bg (show dt.call 118=fun ih n=>CE (QE ih n) by kernel_rfl) ..
def UU1:=AzD @AiI.eq_1<|AzD @Ajx.eq_1<|AzD @AiD.eq_1<|AzD @AjP.eq_1<|AzD @Akx.eq_1<|AzD @Ait.eq_1<|AzD @AiX.eq_1<|AzD @Ajd.eq_1<|AzD @AjE.eq_1<|AzD @Aj1.eq_1<|AzD @Ajk.eq_1<|AzD @AhM.eq_1<|AzD @Ak6.eq_1<|AzD @AjZ.eq_1<|AzD @Akd.eq_1<|AzD @AkI.eq_1<|AzD @AhZ.eq_1<|@S4.eq_1
def Wz:=AzD @Od.eq_1<|AzD @Nz.eq_1<|AzD @Nr.eq_1<|AzD @Of.eq_1<|AzD @OW.eq_1<|AzD @Ou.eq_1<|AzD @NJ.eq_1<|AzD @Nk.eq_1<|AzD @Ni.eq_1<|AzD @NB.eq_1<|AzD @On.eq_1<|AzD @Ow.eq_1<|AzD @NT.eq_1<|AzD @Oz.eq_1<|AzD @Nf.eq_1<|AzD @OI.eq_1<|AzD @MU.eq_1<|AzD @OQ.eq_1<|AzD @Ny.eq_1<|AzD @Ob.eq_1<|AzD @NL.eq_1<|AzD @OR.eq_1<|AzD @MH.eq_1<|AzD @OU.eq_1<|AzD @NP.eq_1<|AzD @MO.eq_1<|AzD @NH.eq_1<|AzD @NF.eq_1<|AzD @NI.eq_1<|AzD @OS.eq_1<|AzD @NC.eq_1<|AzD @MJ.eq_1<|AzD @Gu.eq_1<|AzD @MZ.eq_1<|@S112.eq_1
def UU3:=AzD @D8.eq_1<|AzD @Eb.eq_1<|AzD @Ec.eq_1<|AzD @Ep.eq_1<|AzD @Er.eq_1<|AzD @DY.eq_1<|AzD @GK.eq_1<|AzD @D1.eq_1<|AzD @Ek.eq_1<|AzD @Em.eq_1<|AzD @Ei.eq_1<|AzD @En.eq_1<|AzD @D4.eq_1<|AzD @D5.eq_1<|AzD @Ee.eq_1<|AzD @Eh.eq_1<|AzD @D0.eq_1<|AzD @El.eq_1<|AzD @D9.eq_1<|AzD @Es.eq_1<|AzD @D6.eq_1<|AzD @Eg.eq_1<|AzD @D7.eq_1<|AzD @DW.eq_1<|AzD @DX.eq_1<|AzD @Ef.eq_1<|AzD @DZ.eq_1<|AzD @Ea.eq_1<|AzD @Ej.eq_1<|@S81.eq_1
def O1:=AzD @Um.eq_1<|AzD @TE.eq_1<|AzD @UB.eq_1<|AzD @UY.eq_1<|AzD @Uv.eq_1<|AzD @T4.eq_1<|AzD @SQ.eq_1<|AzD @V4.eq_1<|AzD @TZ.eq_1<|AzD @Wo.eq_1<|AzD @Uo.eq_1<|AzD @SZ.eq_1<|AzD @Tt.eq_1<|AzD @S5.eq_1<|AzD @Uu.eq_1<|AzD @Wl.eq_1<|AzD @V8.eq_1<|AzD @TB.eq_1<|AzD @S0.eq_1<|AzD @Ub.eq_1<|AzD @Ud.eq_1<|AzD @Wm.eq_1<|AzD @Wn.eq_1<|AzD @TV.eq_1<|AzD @V0.eq_1<|AzD @UI.eq_1<|AzD @Vq.eq_1<|AzD @U1.eq_1<|AzD @UQ.eq_1<|AzD @SO.eq_1<|AzD @UU.eq_1<|AzD @SI.eq_1<|AzD @U3.eq_1<|AzD @VZ.eq_1<|AzD @SF.eq_1<|AzD @Wh.eq_1<|AzD @Vo.eq_1<|AzD @UT.eq_1<|AzD @T6.eq_1<|AzD @UV.eq_1<|AzD @Tw.eq_1<|AzD @To.eq_1<|AzD @SW.eq_1<|AzD @Wb.eq_1<|AzD @UG.eq_1<|AzD @Tl.eq_1<|AzD @Vw.eq_1<|AzD @Wd.eq_1<|AzD @Tn.eq_1<|AzD @TR.eq_1<|@S110.eq_1
def UU5:=AzD @IT.eq_1<|AzD @H4.eq_1<|AzD @HU.eq_1<|AzD @Ii.eq_1<|AzD @Ir.eq_1<|AzD @It.eq_1<|AzD @Iv.eq_1<|AzD @Ij.eq_1<|AzD @IL.eq_1<|AzD @IX.eq_1<|AzD @Ib.eq_1<|AzD @Ie.eq_1<|AzD @IU.eq_1<|AzD @Ig.eq_1<|AzD @In.eq_1<|AzD @IR.eq_1<|AzD @IQ.eq_1<|AzD @IS.eq_1<|AzD @Iu.eq_1<|AzD @Acg.eq_1<|AzD @H3.eq_1<|AzD @Ia.eq_1<|AzD @HV.eq_1<|@S82.eq_1
def UU6:=AzD @Nw.eq_1<|AzD @MV.eq_1<|AzD @M6.eq_1<|AzD @MW.eq_1<|AzD @NZ.eq_1<|AzD @MX.eq_1<|AzD @M1.eq_1<|AzD @Ot.eq_1<|AzD @MM.eq_1<|AzD @Oe.eq_1<|AzD @OP.eq_1<|AzD @OM.eq_1<|AzD @OG.eq_1<|AzD @Nj.eq_1<|AzD @M2.eq_1<|AzD @N7.eq_1<|@S113.eq_1
def UU7:=AzD @Nw.eq_1<|AzD @MV.eq_1<|AzD @M6.eq_1<|AzD @MW.eq_1<|AzD @NZ.eq_1<|AzD @MX.eq_1<|AzD @M1.eq_1<|AzD @Ot.eq_1<|AzD @MM.eq_1<|AzD @Oe.eq_1<|AzD @OP.eq_1<|AzD @OM.eq_1<|AzD @OG.eq_1<|AzD @Oo.eq_1<|AzD @Nj.eq_1<|AzD @M2.eq_1<|AzD @N7.eq_1<|@S113.eq_1
def UU8:=AzD @Akr.eq_1<|AzD @Akg.eq_1<|AzD @Ajr.eq_1<|AzD @AhR.eq_1<|AzD @AjN.eq_1<|@S48.eq_1
def UU9:=AzD @JD.eq_1<|AzD @KI.eq_1<|AzD @KF.eq_1<|AzD @JZ.eq_1<|AzD @Jx.eq_1<|AzD @JT.eq_1<|AzD @KB.eq_1<|AzD @KD.eq_1<|AzD @KC.eq_1<|AzD @J8.eq_1<|AzD @JX.eq_1<|AzD @Ky.eq_1<|AzD @J9.eq_1<|AzD @J5.eq_1<|@S56.eq_1
def X0:=AzD @Qo.eq_1<|AzD @RN.eq_1<|AzD @RO.eq_1<|AzD @YX.eq_1<|AzD @R4.eq_1<|AzD @Re.eq_1<|AzD @Sc.eq_1<|AzD @Qa.eq_1<|AzD @RK.eq_1<|AzD @Sq.eq_1<|AzD @Sm.eq_1<|@S71.eq_1
def AkB:=AzD @Ah0.eq_1<|AzD @AjV.eq_1<|AzD @Ah7.eq_1<|AzD @All.eq_1<|AzD @AhY.eq_1<|@S80.eq_1
def Ajj:=AzD @Abe.eq_1<|AzD @Ad3.eq_1<|AzD @Yi.eq_1<|AzD @Aa2.eq_1<|AzD @Ab6.eq_1<|@S103.eq_1
def Ahu:=AzD @AdI.eq_1<|AzD @AcW.eq_1<|AzD @AcK.eq_1<|AzD @Abz.eq_1<|AzD @Aep.eq_1<|AzD @Yo.eq_1<|AzD @AdV.eq_1<|AzD @Zg.eq_1<|AzD @ZH.eq_1<|AzD @Yt.eq_1<|AzD @AeK.eq_1<|AzD @AfY.eq_1<|AzD @Ae4.eq_1<|AzD @AaH.eq_1<|AzD @Adl.eq_1<|AzD @Aaz.eq_1<|@S43.eq_1
def TL:=AzD @WU.eq_1<|AzD @Xc.eq_1<|AzD @Xp.eq_1<|AzD @WN.eq_1<|AzD @WD.eq_1<|AzD @X2.eq_1<|AzD @Ws.eq_1<|AzD @X1.eq_1<|AzD @WR.eq_1<|AzD @AkX.eq_1<|@S67.eq_1
def JN:=AzD @Zv.eq_1<|AzD @Abx.eq_1<|AzD @AaS.eq_1<|AzD @AcP.eq_1<|AzD @Aa5.eq_1<|AzD @Aec.eq_1<|AzD @AaK.eq_1<|AzD @Ae3.eq_1<|AzD @AdS.eq_1<|AzD @AbB.eq_1<|AzD @Aal.eq_1<|AzD @Aco.eq_1<|AzD @AeO.eq_1<|AzD @YJ.eq_1<|AzD @Z4.eq_1<|AzD @Acv.eq_1<|AzD @AeF.eq_1<|AzD @Aev.eq_1<|AzD @AeZ.eq_1<|AzD @AfG.eq_1<|AzD @AbF.eq_1<|AzD @YT.eq_1<|AzD @Agv.eq_1<|AzD @Aen.eq_1<|AzD @Af9.eq_1<|AzD @Ac7.eq_1<|AzD @Z2.eq_1<|AzD @Z9.eq_1<|AzD @AeU.eq_1<|AzD @Zn.eq_1<|AzD @Y7.eq_1<|AzD @Y8.eq_1<|AzD @AeD.eq_1<|AzD @Zk.eq_1<|AzD @AfD.eq_1<|AzD @Afw.eq_1<|AzD @Acp.eq_1<|AzD @Agc.eq_1<|AzD @AeW.eq_1<|AzD @Zr.eq_1<|AzD @Aem.eq_1<|@S70.eq_1
def Ns:=AzD @Aet.eq_1<|AzD @YN.eq_1<|AzD @Agh.eq_1<|AzD @Y2.eq_1<|AzD @Ad9.eq_1<|AzD @Aa9.eq_1<|AzD @Ads.eq_1<|AzD @ZS.eq_1<|AzD @Agq.eq_1<|AzD @AeA.eq_1<|AzD @AdN.eq_1<|AzD @AeQ.eq_1<|AzD @Zj.eq_1<|AzD @AcI.eq_1<|AzD @YD.eq_1<|AzD @Zp.eq_1<|AzD @Acq.eq_1<|AzD @Agw.eq_1<|AzD @Abi.eq_1<|AzD @Agj.eq_1<|AzD @Afg.eq_1<|AzD @Ad4.eq_1<|AzD @Af6.eq_1<|AzD @AfM.eq_1<|AzD @Aag.eq_1<|AzD @Afh.eq_1<|AzD @Aac.eq_1<|AzD @Yu.eq_1<|AzD @Adm.eq_1<|AzD @Afi.eq_1<|AzD @Agu.eq_1<|AzD @AfT.eq_1<|AzD @Acz.eq_1<|AzD @AbH.eq_1<|AzD @AcG.eq_1<|AzD @Zw.eq_1<|AzD @Af4.eq_1<|AzD @AdQ.eq_1<|AzD @Aaq.eq_1<|AzD @AfL.eq_1<|AzD @Aat.eq_1<|AzD @Z5.eq_1<|AzD @AaX.eq_1<|AzD @Y5.eq_1<|@S68.eq_1
def VJ:=AzD @AdB.eq_1<|AzD @Aab.eq_1<|AzD @Zz.eq_1<|AzD @Aft.eq_1<|AzD @Aa1.eq_1<|AzD @Ab2.eq_1<|AzD @AeL.eq_1<|AzD @Ae0.eq_1<|AzD @AeB.eq_1<|AzD @Aef.eq_1<|AzD @AcO.eq_1<|AzD @AbI.eq_1<|AzD @YC.eq_1<|AzD @Yz.eq_1<|AzD @Adj.eq_1<|AzD @Afk.eq_1<|AzD @Ado.eq_1<|AzD @Abk.eq_1<|AzD @ZT.eq_1<|AzD @Aas.eq_1<|AzD @Adk.eq_1<|AzD @Acd.eq_1<|AzD @AcE.eq_1<|AzD @ZD.eq_1<|AzD @Yj.eq_1<|AzD @Aa6.eq_1<|AzD @AbN.eq_1<|AzD @Aaf.eq_1<|AzD @Afy.eq_1<|AzD @Zh.eq_1<|AzD @AaI.eq_1<|AzD @Abd.eq_1<|AzD @AfR.eq_1<|AzD @AbC.eq_1<|AzD @ZG.eq_1<|AzD @Zo.eq_1<|AzD @AfZ.eq_1<|AzD @AcZ.eq_1<|AzD @AbS.eq_1<|AzD @AfO.eq_1<|AzD @Adq.eq_1<|AzD @AdP.eq_1<|AzD @AaQ.eq_1<|AzD @AfA.eq_1<|AzD @Adu.eq_1<|AzD @ZY.eq_1<|AzD @AcU.eq_1<|AzD @Ael.eq_1<|AzD @Acb.eq_1<|AzD @Agp.eq_1<|AzD @AdK.eq_1<|AzD @Ab8.eq_1<|AzD @Aej.eq_1<|AzD @AbO.eq_1<|AzD @Ae1.eq_1<|AzD @Acy.eq_1<|@S98.eq_1
def I7:=AzD @Vg.eq_1<|AzD @VN.eq_1<|AzD @TX.eq_1<|AzD @Uz.eq_1<|AzD @Vc.eq_1<|AzD @T7.eq_1<|AzD @VW.eq_1<|AzD @TN.eq_1<|AzD @Wk.eq_1<|AzD @Uk.eq_1<|AzD @Ua.eq_1<|AzD @SL.eq_1<|AzD @Up.eq_1<|AzD @Vl.eq_1<|AzD @TT.eq_1<|AzD @TP.eq_1<|AzD @Wc.eq_1<|AzD @TA.eq_1<|AzD @TQ.eq_1<|AzD @TC.eq_1<|AzD @Wf.eq_1<|AzD @Tr.eq_1<|AzD @Uq.eq_1<|AzD @UK.eq_1<|AzD @US.eq_1<|AzD @VO.eq_1<|AzD @VM.eq_1<|AzD @Ur.eq_1<|AzD @VC.eq_1<|AzD @Tg.eq_1<|AzD @Td.eq_1<|AzD @U2.eq_1<|AzD @VA.eq_1<|AzD @T9.eq_1<|AzD @SG.eq_1<|AzD @Vm.eq_1<|AzD @Vi.eq_1<|AzD @SR.eq_1<|AzD @Vn.eq_1<|AzD @T8.eq_1<|AzD @Vv.eq_1<|AzD @Vx.eq_1<|AzD @U8.eq_1<|AzD @VE.eq_1<|AzD @TS.eq_1<|AzD @UJ.eq_1<|AzD @Vb.eq_1<|AzD @U0.eq_1<|AzD @Tv.eq_1<|AzD @UA.eq_1<|AzD @Ti.eq_1<|AzD @U6.eq_1<|AzD @Ul.eq_1<|AzD @Vh.eq_1<|AzD @Ux.eq_1<|AzD @UH.eq_1<|AzD @UZ.eq_1<|AzD @Wi.eq_1<|AzD @Tx.eq_1<|@S101.eq_1
def J1:=AzD @YG.eq_1<|AzD @Aci.eq_1<|AzD @AdT.eq_1<|AzD @Agl.eq_1<|AzD @Ae5.eq_1<|AzD @Agk.eq_1<|AzD @YS.eq_1<|AzD @ZR.eq_1<|AzD @Aeb.eq_1<|AzD @Z6.eq_1<|AzD @ZA.eq_1<|AzD @Age.eq_1<|AzD @Aez.eq_1<|AzD @Aav.eq_1<|AzD @ZU.eq_1<|AzD @Afl.eq_1<|AzD @Yk.eq_1<|AzD @Aan.eq_1<|AzD @AcA.eq_1<|AzD @Adr.eq_1<|AzD @Ab9.eq_1<|AzD @Ab7.eq_1<|AzD @Ac4.eq_1<|AzD @AdG.eq_1<|AzD @AfK.eq_1<|AzD @AcJ.eq_1<|AzD @AdE.eq_1<|AzD @AaV.eq_1<|@S69.eq_1
def AnD:=AzD @Uy.eq_1<|AzD @ST.eq_1<|AzD @VF.eq_1<|AzD @TU.eq_1<|AzD @UD.eq_1<|AzD @U4.eq_1<|AzD @S6.eq_1<|AzD @VI.eq_1<|AzD @Uc.eq_1<|AzD @Vs.eq_1<|AzD @TJ.eq_1<|AzD @TF.eq_1<|AzD @Th.eq_1<|AzD @VL.eq_1<|AzD @TO.eq_1<|AzD @S8.eq_1<|AzD @SY.eq_1<|AzD @Vp.eq_1<|AzD @Tk.eq_1<|AzD @VS.eq_1<|AzD @U9.eq_1<|@S100.eq_1
def O7:=AzD @Qw.eq_1<|AzD @RZ.eq_1<|AzD @QT.eq_1<|AzD @QN.eq_1<|AzD @Ry.eq_1<|AzD @Q5.eq_1<|AzD @Rj.eq_1<|AzD @Rf.eq_1<|AzD @RY.eq_1<|AzD @QZ.eq_1<|AzD @Q7.eq_1<|AzD @QG.eq_1<|AzD @Rr.eq_1<|AzD @Rv.eq_1<|AzD @AeR.eq_1<|@S97.eq_1
def LQ:=AzD @AaL.eq_1<|AzD @YP.eq_1<|AzD @Zy.eq_1<|AzD @ZJ.eq_1<|AzD @Ac0.eq_1<|AzD @Ad2.eq_1<|AzD @Aey.eq_1<|AzD @AdF.eq_1<|AzD @Y9.eq_1<|AzD @Acu.eq_1<|AzD @Zs.eq_1<|AzD @Abg.eq_1<|AzD @AdD.eq_1<|AzD @Abj.eq_1<|AzD @Aae.eq_1<|AzD @AaN.eq_1<|AzD @AbQ.eq_1<|AzD @Adp.eq_1<|AzD @AaJ.eq_1<|AzD @Afb.eq_1<|AzD @Aew.eq_1<|AzD @AfB.eq_1<|AzD @Aga.eq_1<|AzD @Zm.eq_1<|AzD @AaY.eq_1<|AzD @Af3.eq_1<|AzD @AcS.eq_1<|AzD @Agi.eq_1<|AzD @AbE.eq_1<|AzD @AdY.eq_1<|AzD @Yp.eq_1<|@S53.eq_1
def Wy:=AzD @Ac8.eq_1<|AzD @Ad0.eq_1<|AzD @YF.eq_1<|AzD @AeI.eq_1<|AzD @Ab5.eq_1<|AzD @Zf.eq_1<|AzD @Abb.eq_1<|AzD @Za.eq_1<|AzD @Zd.eq_1<|AzD @Af1.eq_1<|AzD @Zi.eq_1<|AzD @AfW.eq_1<|AzD @Afp.eq_1<|AzD @Yq.eq_1<|AzD @Abt.eq_1<|AzD @Acn.eq_1<|AzD @Ac1.eq_1<|AzD @Ac5.eq_1<|AzD @YQ.eq_1<|AzD @AfX.eq_1<|AzD @AcD.eq_1<|@S76.eq_1
def O2:=AzD @AiK.eq_1<|AzD @Aj9.eq_1<|AzD @AkF.eq_1<|AzD @Ak2.eq_1<|AzD @AjD.eq_1<|AzD @Aja.eq_1<|@S52.eq_1
def AkK:=AzD @HZ.eq_1<|AzD @Ih.eq_1<|AzD @IF.eq_1<|AzD @II.eq_1<|AzD @HM.eq_1<|AzD @H6.eq_1<|AzD @HQ.eq_1<|AzD @HY.eq_1<|AzD @H0.eq_1<|AzD @H8.eq_1<|AzD @Iw.eq_1<|AzD @HP.eq_1<|AzD @ID.eq_1<|AzD @Iz.eq_1<|AzD @GO.eq_1<|AzD @EN.eq_1<|AzD @EM.eq_1<|AzD @ET.eq_1<|@S16.eq_1
def EO:=AzD @ZX.eq_1<|AzD @AcT.eq_1<|AzD @Aa3.eq_1<|AzD @Adf.eq_1<|AzD @AdC.eq_1<|AzD @Aeq.eq_1<|AzD @Afu.eq_1<|AzD @Adv.eq_1<|AzD @AbU.eq_1<|AzD @AcB.eq_1<|AzD @Abl.eq_1<|AzD @Adz.eq_1<|AzD @Agb.eq_1<|AzD @AdU.eq_1<|AzD @Ad5.eq_1<|AzD @Yw.eq_1<|AzD @Aak.eq_1<|AzD @Yh.eq_1<|AzD @Z3.eq_1<|AzD @Abu.eq_1<|AzD @AdH.eq_1<|AzD @Afr.eq_1<|AzD @Aa7.eq_1<|AzD @YI.eq_1<|AzD @YR.eq_1<|AzD @AaW.eq_1<|AzD @AbW.eq_1<|AzD @AcF.eq_1<|AzD @AaG.eq_1<|AzD @Afv.eq_1<|AzD @AfI.eq_1<|AzD @Y1.eq_1<|AzD @ZI.eq_1<|AzD @Aff.eq_1<|AzD @Y6.eq_1<|AzD @AcC.eq_1<|AzD @Adg.eq_1<|AzD @YK.eq_1<|AzD @Aap.eq_1<|AzD @AcN.eq_1<|AzD @Y3.eq_1<|AzD @Abh.eq_1<|AzD @Zb.eq_1<|AzD @YL.eq_1<|AzD @Ab4.eq_1<|AzD @Ac6.eq_1<|AzD @YW.eq_1<|AzD @AaE.eq_1<|AzD @Abn.eq_1<|AzD @Abw.eq_1<|AzD @ZE.eq_1<|AzD @Abm.eq_1<|AzD @AdW.eq_1<|AzD @YH.eq_1<|AzD @AcH.eq_1<|AzD @AbG.eq_1<|AzD @AbZ.eq_1<|AzD @AaP.eq_1<|AzD @Agz.eq_1<|AzD @ZQ.eq_1<|AzD @Adi.eq_1<|AzD @Adt.eq_1<|AzD @Ac3.eq_1<|AzD @AbK.eq_1<|AzD @AaT.eq_1<|AzD @Yr.eq_1<|AzD @Adh.eq_1<|AzD @AeY.eq_1<|AzD @Ae2.eq_1<|@S55.eq_1
def Aiq:=AzD @JS.eq_1<|AzD @Ko.eq_1<|AzD @JM.eq_1<|AzD @Kt.eq_1<|AzD @Kw.eq_1<|AzD @Kl.eq_1<|AzD @KE.eq_1<|AzD @Kn.eq_1<|AzD @JB.eq_1<|AzD @JU.eq_1<|AzD @Aex.eq_1<|AzD @Kr.eq_1<|AzD @J3.eq_1<|AzD @JE.eq_1<|AzD @Jy.eq_1<|@S22.eq_1
def AiY:=AzD @Aaj.eq_1<|AzD @AaC.eq_1<|AzD @AdM.eq_1<|AzD @Afs.eq_1<|AzD @Aay.eq_1<|AzD @ZL.eq_1<|AzD @AbP.eq_1<|AzD @Yl.eq_1<|AzD @Afn.eq_1<|AzD @AcV.eq_1<|AzD @Ab1.eq_1<|AzD @AbM.eq_1<|AzD @Zt.eq_1<|AzD @Adc.eq_1<|AzD @AbA.eq_1<|AzD @AeX.eq_1<|AzD @YB.eq_1<|AzD @Aao.eq_1<|AzD @Agm.eq_1<|AzD @Aaa.eq_1<|AzD @Ad7.eq_1<|AzD @Acf.eq_1<|AzD @Ae9.eq_1<|AzD @Ab0.eq_1<|AzD @AbL.eq_1<|AzD @Y0.eq_1<|AzD @Abs.eq_1<|AzD @Afc.eq_1<|AzD @Acr.eq_1<|AzD @Afx.eq_1<|AzD @AdJ.eq_1<|AzD @Acx.eq_1<|AzD @Aeh.eq_1<|AzD @Yg.eq_1<|AzD @AcM.eq_1<|AzD @Aei.eq_1<|AzD @Abp.eq_1<|AzD @Agt.eq_1<|AzD @Ace.eq_1<|AzD @Aes.eq_1<|AzD @Ada.eq_1<|AzD @Agg.eq_1<|AzD @Ae8.eq_1<|AzD @AfJ.eq_1<|@S26.eq_1
def Ajp:=AzD @Af0.eq_1<|AzD @Z1.eq_1<|AzD @Acm.eq_1<|AzD @Aai.eq_1<|AzD @ZF.eq_1<|AzD @ZB.eq_1<|AzD @AcX.eq_1<|AzD @Af7.eq_1<|AzD @Aeo.eq_1<|AzD @Ym.eq_1<|AzD @Ac9.eq_1<|AzD @AdO.eq_1<|AzD @Aa0.eq_1<|AzD @Aee.eq_1<|AzD @AeT.eq_1<|AzD @ZN.eq_1<|AzD @ZV.eq_1<|AzD @Ze.eq_1<|AzD @AaU.eq_1<|AzD @Aeg.eq_1<|AzD @Aer.eq_1<|AzD @Afm.eq_1<|AzD @Yn.eq_1<|AzD @AeJ.eq_1<|AzD @Acw.eq_1<|AzD @Acj.eq_1<|AzD @Afj.eq_1<|AzD @AbD.eq_1<|AzD @Af5.eq_1<|AzD @AeS.eq_1<|AzD @Ade.eq_1<|AzD @AeV.eq_1<|@S86.eq_1
def Ahq:=AzD @YO.eq_1<|AzD @Ys.eq_1<|AzD @Ago.eq_1<|AzD @Agx.eq_1<|AzD @Z8.eq_1<|AzD @AaA.eq_1<|AzD @AeM.eq_1<|AzD @AfS.eq_1<|AzD @Aby.eq_1<|AzD @AfC.eq_1<|AzD @Aa4.eq_1<|AzD @Ae7.eq_1<|AzD @AaO.eq_1<|AzD @Abv.eq_1<|AzD @AdX.eq_1<|AzD @AeC.eq_1<|AzD @Ac2.eq_1<|AzD @AdL.eq_1<|AzD @Acs.eq_1<|AzD @Yv.eq_1<|AzD @AbX.eq_1<|AzD @Ad8.eq_1<|AzD @AaM.eq_1<|AzD @AeG.eq_1<|AzD @AfP.eq_1<|AzD @Afz.eq_1<|AzD @AfE.eq_1<|AzD @Zl.eq_1<|AzD @Acl.eq_1<|AzD @Adb.eq_1<|AzD @Z7.eq_1<|AzD @AfV.eq_1<|AzD @YV.eq_1<|AzD @Ack.eq_1<|AzD @Agf.eq_1<|AzD @YU.eq_1<|AzD @AbY.eq_1<|AzD @Z0.eq_1<|AzD @Ags.eq_1<|@S59.eq_1
section
variable {β:Type} {E:Env} {t:TypeId}
abbrev iv (n:Int):IV:=.fv (.int .i64 n)
theorem Aq5 (c:Prop) [Decidable c] (a b:Option β):Aj (.fv (.bool (decide c))) a b=if c then a else b:=by
 by_cases h:c
 ·rw [decide_eq_true h,if_pos h];rfl
 ·rw [decide_eq_false h,if_neg h];rfl
theorem Anh (o:Nat) (r:Ref) (off:Nat) (k:IV->Option β):Af o (.ptr r off) k=k (.ptr r (off+o)):=by
 show (DU (off+o) fun o=>k (.ptr r o))=_
 rw [BS]
theorem Ag5 (o:Nat) (cs:List FV) (off:Nat) (k:IV->Option β):Af o (.fv (.fp cs off)) k=k (.fv (.fp cs (off+o))):=by
 show (DU (off+o) fun o=>k (.fv (.fp cs o)))=_
 rw [BS]
theorem AqD {size:Nat} {es:List FV} {n:Nat} {el:FV} (he:es[n]?=some el) (hl:el.cells.length=size) (k:IV->Option β):AP size (.fv (.sl es)) (iv n) k=k (.fv (.fp el.cells 0)):=by
 show (Dt es n fun el=>elK size el k)=_
 rw [Db,he]
 show elK size el k=_
 rw [Akh,if_pos hl]
theorem Lo {op:BinOp} {g:Nat->Nat->Bool} (hg:∀a b:Nat,GX E op t (iv a) (iv b)=some (.fv (.bool (g a b)))) (a b:Int) (k:IV->Option β) :
  Rt E t op g (iv a) (iv b) k=(GX E op t (iv a) (iv b)).bind k:=by
 cases a with
 | ofNat a =>
  cases b with
  | ofNat b =>
   show Alk (g a b) k=_
   rw [UL,show GX E op t (iv (Int.ofNat a)) (iv (Int.ofNat b))=some (.fv (.bool (g a b))) from hg a b]
   rfl
  | negSucc b =>
   show CC E t op _ _ k=_
   rw [CC,Cz]
 | negSucc a =>
  show CC E t op _ _ k=_
  rw [CC,Cz]
theorem Avm (a b:Int) (k:IV->Option β):AO E t (iv a) (iv b) k=k (.fv (.bool (decide (a=b)))):=by
 rw [AO,Lo (fun a b=>by
  show some (IV.fv (.bool ((a:Int) == (b:Int))))=_
  rw [Iq];congr 3;exact decide_eq_decide.2 Int.ofNat_inj)]
 rfl
theorem AuL (a b:Int) (k:IV->Option β):Ck E t (iv a) (iv b) k=k (.fv (.bool (!decide (a=b)))):=by
 rw [Ck,Lo (fun a b=>by
  show some (IV.fv (.bool ((a:Int) != (b:Int))))=_
  rw [Iq];congr 3
  show (!decide ((a:Int)=(b:Int)))=!decide (a=b)
  congr 1;exact decide_eq_decide.2 Int.ofNat_inj)]
 rfl
theorem AtU (a b:Int) (k:IV->Option β):GC E t (iv a) (iv b) k=k (.fv (.bool (decide (a<b)))):=by
 rw [GC,Lo (fun a b=>by
  show some (IV.fv (.bool (decide ((a:Int)<(b:Int)))))=_
  rw [BP];congr 3;exact decide_eq_decide.2 (by omega))]
 rfl
theorem AuC (a b:Int) (k:IV->Option β):leS E t (iv a) (iv b) k=k (.fv (.bool (decide (a<=b)))):=by
 rw [leS,Lo (fun a b=>by
  show some (IV.fv (.bool (decide ((a:Int)<=(b:Int)))))=_
  rw [BP];congr 3;exact decide_eq_decide.2 (by omega))]
 rfl
theorem At2 (b:Bool) (k:IV->Option β):C8 (KN .not (.fv (.bool b))) k=k (.fv (.bool !b)):=by
 rw [Cz];rfl
end
end Idl
end Go.Proofs.Ytdibmackcbpniaa
namespace Go.Proofs.Ytdibmackcbpniaa
namespace Idl
section
variable {β:Type} {α:Type}
theorem n0 (a:α) (l:List α) (k:α->Option β):Dt (a::l) 0 k=k a:=rfl
theorem n1 (a b:α) (l:List α) (k:α->Option β):Dt (a::b::l) 1 k=k b:=rfl
theorem n2 (a b c:α) (l:List α) (k:α->Option β):Dt (a::b::c::l) 2 k=k c:=rfl
theorem n3 (a b c d:α) (l:List α) (k:α->Option β):Dt (a::b::c::d::l) 3 k=k d:=rfl
theorem n4 (a b c d e:α) (l:List α) (k:α->Option β):Dt (a::b::c::d::e::l) 4 k=k e:=rfl
theorem n5 (a b c d e f:α) (l:List α) (k:α->Option β):Dt (a::b::c::d::e::f::l) 5 k=k f:=rfl
theorem n6 (a b c d e f g:α) (l:List α) (k:α->Option β):Dt (a::b::c::d::e::f::g::l) 6 k=k g:=rfl
theorem d0 (l:List α) (k:List α->Option β):EH l 0 k=k l:=by cases l<;>rfl
theorem d1 (a:α) (l:List α) (k:List α->Option β):EH (a::l) 1 k=k l:=by cases l<;>rfl
theorem d2 (a b:α) (l:List α) (k:List α->Option β):EH (a::b::l) 2 k=k l:=by cases l<;>rfl
theorem d3 (a b c:α) (l:List α) (k:List α->Option β):EH (a::b::c::l) 3 k=k l:=by cases l<;>rfl
theorem d4 (a b c d:α) (l:List α) (k:List α->Option β):EH (a::b::c::d::l) 4 k=k l:=by cases l<;>rfl
theorem t1 (a:α) (l:List α) (k:List α->Option β):Ge (a::l) 1 k=k [a]:=by cases l<;>rfl
theorem t2 (a b:α) (l:List α) (k:List α->Option β):Ge (a::b::l) 2 k=k [a,b]:=by cases l<;>rfl
theorem t3 (a b c:α) (l:List α) (k:List α->Option β):Ge (a::b::c::l) 3 k=k [a,b,c]:=by cases l<;>rfl
theorem t4 (a b c d:α) (l:List α) (k:List α->Option β):Ge (a::b::c::d::l) 4 k=k [a,b,c,d]:=by cases l<;>rfl
theorem t7 (a b c d e f g:α) (l:List α) (k:List α->Option β):Ge (a::b::c::d::e::f::g::l) 7 k=k [a,b,c,d,e,f,g]:=by cases l<;>rfl
theorem Axa (l:List α) (k:List α->Option β):spK l k=k l:=HH l k
theorem ap0 (us:List α) (k:List α->Option β):Qp [] us k=k us:=rfl
theorem ap1 (u:α) (l us:List α) (k:List α->Option β):Qp (u::l) us k=Qp l us fun w=>k (u::w):=rfl
theorem Auc (a:α) (l:List α) (k:α->List α->Option β):AH (a::l) k=k a l:=rfl
theorem c_t {γ:Type} (a b:γ):cond true a b=a:=rfl
theorem c_f {γ:Type} (a b:γ):cond false a b=b:=rfl
end
section
variable {β:Type}
theorem Am3 {s j:Nat} (h:(s == j)=false):Nat.beq s j=false:=by
 rw [Iq];simpa using h
theorem AkW (s:Nat) (own:List (Nat×Blk)) (ext:List Blk) (k:Blk->Option β):EA (.own s) ⟨own,ext⟩ k=Jo own s k:=rfl
theorem At0 (j:Nat) (own:List (Nat×Blk)) (ext:List Blk) (k:Blk->Option β):EA (.ext j) ⟨own,ext⟩ k=Dt ext j k:=rfl
theorem AuF (s:Nat) (b:Blk) (l:List (Nat×Blk)) (k:Blk->Option β):Jo ((s,b)::l) s k=k b:=by
 show cond (Nat.beq s s) (k b) _=_
 rw [show Nat.beq s s=true from Nat.beq_refl s]
 rfl
theorem ArL {s j:Nat} (hne:(s == j)=false) (b:Blk) (l:List (Nat×Blk)) (k:Blk->Option β):Jo ((j,b)::l) s k=Jo l s k:=by
 show cond (Nat.beq s j) (k b) _=_
 rw [show Nat.beq s j=false from Am3 hne]
 rfl
theorem AvP (s:Nat) (b:Blk) (k:List (Nat×Blk)->Option β):Bk [] s b k=k [(s,b)]:=rfl
theorem At4 (s:Nat) (b c:Blk) (l:List (Nat×Blk)) (k:List (Nat×Blk)->Option β):Bk ((s,c)::l) s b k=k ((s,b)::l):=by
 show cond (Nat.beq s s) _ _=_
 rw [show Nat.beq s s=true from Nat.beq_refl s]
 rfl
theorem AqJ {s j:Nat} (hne:(s == j)=false) (b c:Blk) (l:List (Nat×Blk)) (k:List (Nat×Blk)->Option β):Bk ((j,c)::l) s b k=Bk l s b fun l=>k ((j,c)::l):=by
 show cond (Nat.beq s j) _ _=_
 rw [show Nat.beq s j=false from Am3 hne]
 rfl
theorem AuP (s:Nat) (a:Option β):CY [] s a=a:=rfl
theorem Arh {s j:Nat} (hne:(s == j)=false) (b:Blk) (l:List (Nat×Blk)) (a:Option β):CY ((j,b)::l) s a=CY l s a:=by
 show cond (Nat.beq s j) none _=_
 rw [show Nat.beq s j=false from Am3 hne]
 rfl
theorem AmK (s:Nat) (b:Blk) (own:List (Nat×Blk)) (ext:List Blk) (k:Hp->Option β):GD (.own s) b ⟨own,ext⟩ k=Bk own s b fun own=>k ⟨own,ext⟩:=rfl
theorem AlJ (j:Nat) (b:Blk) (own:List (Nat×Blk)) (ext:List Blk) (k:Hp->Option β):GD (.ext j) b ⟨own,ext⟩ k=PY ext j b fun ext=>k ⟨own,ext⟩:=rfl
theorem sn0 {α:Type} (a b:α) (l:List α) (k:List α->Option β):PY (a::l) 0 b k=k (b::l):=rfl
theorem AvA (s:Nat) (b:Blk) (v:IV) (own:List (Nat×Blk)) (ext:List Blk) (k:IV->Hp->List Ref->List Ref->Option β) :
  Ay s b v ⟨own,ext⟩ k=CY own s (Bk own s b fun own=>k v ⟨own,ext⟩ [] [.own s]):=rfl
theorem LZ (s:Nat) (cs:List FV) (h:Hp) (k:IV->Hp->List Ref->List Ref->Option β):AR s (.fv (.agg cs)) h k=Ay s (.row (cs.map .fv) false) (.ptr (.own s) 0) h k:=by
 show spK (cs.map IV.fv) _=_
 rw [HH]
theorem Au2 (s:Nat) (a b:FV) (h:Hp) (k:IV->Hp->List Ref->List Ref->Option β):AR s (.fv (.agg [a,b])) h k=Ay s (.row [.fv a,.fv b] false) (.ptr (.own s) 0) h k:=LZ ..
theorem AvS (s:Nat) (a b c:FV) (h:Hp) (k:IV->Hp->List Ref->List Ref->Option β):AR s (.fv (.agg [a,b,c])) h k=Ay s (.row [.fv a,.fv b,.fv c] false) (.ptr (.own s) 0) h k:=LZ ..
theorem At3 (s:Nat) (a b c d:FV) (h:Hp) (k:IV->Hp->List Ref->List Ref->Option β):AR s (.fv (.agg [a,b,c,d])) h k=Ay s (.row [.fv a,.fv b,.fv c,.fv d] false) (.ptr (.own s) 0) h k:=LZ ..
theorem Auh (s:Nat) (a:FV) (h:Hp) (k:IV->Hp->List Ref->List Ref->Option β):AR s (.fv (.agg [a])) h k=Ay s (.row [.fv a] false) (.ptr (.own s) 0) h k:=LZ ..
theorem Alg (s:Nat) (cs:List IV) (h:Hp) (k:IV->Hp->List Ref->List Ref->Option β):AR s (.agg cs) h k=Ay s (.row cs false) (.ptr (.own s) 0) h k:=by
 show spK cs _=_
 rw [HH]
theorem Aow {x:IV} (hx:x.one=true) (s:Nat) (h:Hp) (k:IV->Hp->List Ref->List Ref->Option β):AR s x h k=Ay s (.row [x] false) (.ptr (.own s) 0) h k:=by
 unfold AR;rw [hx];rfl
theorem AqU (k:IntKind) (n:Int):IV.one (.fv (.int k n))=true:=rfl
theorem Anr (b:Bool):IV.one (.fv (.bool b))=true:=rfl
theorem Avj (l:List FV):IV.one (.fv (.sl l))=true:=rfl
theorem Au6 (l:List FV) (o:Nat):IV.one (.fv (.fp l o))=true:=rfl
theorem An3 (fn:Fn) (a b:List FV):IV.one (.fv (.func fn a b))=true:=rfl
theorem AmW:IV.one (.fv .nilp)=true:=rfl
theorem Amz:IV.one .nils=true:=rfl
theorem Ara (r:Ref) (o:Nat):IV.one (.ptr r o)=true:=rfl
theorem ApQ (r:Ref) (a b:Nat):IV.one (.slc r a b)=true:=rfl
theorem ArA (r:Ref) (l:List FV):IV.one (.app r l)=true:=rfl
theorem AlV (l:List FV):IV.one (.clip l)=true:=rfl
theorem AsJ:IV.one .emp=true:=rfl
theorem Ar1 (l:List IV):IV.one (.agg l)=false:=rfl
theorem Api (l:List FV):IV.one (.fv (.agg l))=false:=rfl
theorem Ar8 (k:IntKind) (n:Int):Jq (.int k n)=true:=rfl
theorem AnB (b:Bool):Jq (.bool b)=true:=rfl
theorem AvH (l:List FV):Jq (.sl l)=true:=rfl
theorem AuS (l:List FV) (o:Nat):Jq (.fp l o)=true:=rfl
theorem AnP:Jq .nilp=true:=rfl
theorem Atb (l:List FV):Jq (.agg l)=false:=rfl
theorem AlP:EP []=true:=rfl
theorem Aik {v:FV} (h:Jq v=true) (l:List FV):EP (v::l)=EP l:=by
 show cond (Jq v) (EP l) false=_
 rw [h];rfl
theorem AgX (r:Ref) (o:Nat) (k:Ref->Nat->Option β) (kf:List FV->Nat->Option β):Ez (.ptr r o) k kf=k r o:=rfl
theorem Awi (cs:List FV) (o:Nat) (k:Ref->Nat->Option β) (kf:List FV->Nat->Option β):Ez (.fv (.fp cs o)) k kf=kf cs o:=rfl
theorem Wx (cs:List IV) (ro:Bool) (k:List IV->Option β):EK (.row cs ro) k=k cs:=rfl
theorem Aly (cs:List IV) (k:List IV->Option β):GS (.row cs false) k=k cs:=rfl
theorem At9 (v:FV) (e:Option β) (k:FV->Option β):O0 (.fv v) e k=k v:=rfl
theorem Ak1 (l:List IV) (e:Option β) (k:FV->Option β):O0 (.agg l) e k=e:=rfl
theorem Ast (e:Option β) (k:FV->Option β):O0 .nils e k=e:=rfl
theorem Ap6 (r:Ref) (o:Nat) (e:Option β) (k:FV->Option β):O0 (.ptr r o) e k=e:=rfl
theorem Aq8 (r:Ref) (o:List FV) (e:Option β) (k:FV->Option β):O0 (.app r o) e k=e:=rfl
theorem AqH (o:List FV) (e:Option β) (k:FV->Option β):O0 (.clip o) e k=e:=rfl
theorem Arw (r:Ref) (a b:Nat) (e:Option β) (k:FV->Option β):O0 (.slc r a b) e k=e:=rfl
theorem Asj (e:Option β) (k:FV->Option β):O0 .emp e k=e:=rfl
theorem AqX (cs:List FV) (k:List FV->Option β):GU (.agg cs) k=k cs:=rfl
theorem AvR (cs:List IV) (k:List IV->Option β) (kf:List FV->Option β):asAgg (.agg cs) k kf=k cs:=rfl
theorem AsB (cs:List FV) (k:List IV->Option β) (kf:List FV->Option β):asAgg (.fv (.agg cs)) k kf=kf cs:=rfl
theorem AnI (e:Option β) (k:List FV->Option β):CM [] e k=k []:=rfl
theorem As8 (v:FV) (l:List IV) (e:Option β) (k:List FV->Option β):CM (.fv v::l) e k=CM l e fun vs=>k (v::vs):=rfl
theorem AjU (l:List IV) (e:Option β) (k:List FV->Option β):CM (.nils::l) e k=e:=rfl
theorem AnR (r:Ref) (es:List FV) (l:List IV) (e:Option β) (k:List FV->Option β):CM (.app r es::l) e k=e:=rfl
theorem Aln (es:List FV) (l:List IV) (e:Option β) (k:List FV->Option β):CM (.clip es::l) e k=e:=rfl
theorem Aov (r:Ref) (o:Nat) (l:List IV) (e:Option β) (k:List FV->Option β):CM (.ptr r o::l) e k=e:=rfl
theorem Ao6 (r:Ref) (a b:Nat) (l:List IV) (e:Option β) (k:List FV->Option β):CM (.slc r a b::l) e k=e:=rfl
theorem AnM (es l:List IV) (e:Option β) (k:List FV->Option β):CM (.agg es::l) e k=e:=rfl
theorem Ali (r:Ref) (l:List IV) (e:Option β) (k:List FV->Option β):CM (.mapr r::l) e k=e:=rfl
theorem AtN (l:List IV) (k:IV->Option β):O9 l k=CM l (k (.agg l)) fun vs=>k (.fv (.agg vs)):=rfl
theorem AtE (l:List IV) (k:IV->Option β):XS l k=CM l (k (.tuple l)) fun vs=>k (.fv (.tuple vs)):=rfl
theorem Axk (a:IV) (h:Hp) (k:IV->List Ref->Option β):Ak a h k=Ez a (fun r o=>EA r h fun b=>EK b fun cells=>Dt cells o fun v=>k v [r]) fun cells o=>Dt cells o fun v=>k (.fv v) []:=rfl
theorem Axm (size:Nat) (a:IV) (h:Hp) (k:IV->List Ref->Option β):Ae size a h k =
  Ez a (fun r o=>EA r h fun b=>EK b fun cells=>EH cells o fun cs=>Ge cs size fun cs=>O9 cs fun v=>k v [r]) fun cells o=>EH cells o fun cs=>Ge cs size fun cs=>k (.fv (.agg cs)) []:=rfl
theorem As1 (size:Nat) (a:IV) (h:Hp) (k:IV->Option β):Ap true size a h k=Ae size a h fun v _=>k v:=rfl
theorem Are (size:Nat) (a:IV) (h:Hp) (k:IV->Option β):Ap false size a h k=Ak a h fun v _=>k v:=rfl
theorem wr0 (l:List IV) (k:List IV->Option β):wrK [] l k=k l:=rfl
theorem wr1 (c:FV) (cs:List FV) (x:IV) (l:List IV) (k:List IV->Option β):wrK (c::cs) (x::l) k=wrK cs l fun t=>k (.fv c::t):=rfl
theorem sf0 (x:IV) (l:List IV) (cs:List FV) (k:List IV->Option β):Dn (x::l) 0 cs k=wrK cs (x::l) k:=rfl
theorem sf1 (x:IV) (l:List IV) (cs:List FV) (k:List IV->Option β):Dn (x::l) 1 cs k=Dn l 0 cs fun t=>k (x::t):=rfl
theorem sf2 (x y:IV) (l:List IV) (cs:List FV) (k:List IV->Option β):Dn (x::y::l) 2 cs k=Dn l 0 cs fun t=>k (x::y::t):=rfl
theorem sf3 (x y z:IV) (l:List IV) (cs:List FV) (k:List IV->Option β):Dn (x::y::z::l) 3 cs k=Dn l 0 cs fun t=>k (x::y::z::t):=rfl
theorem sf4 (x y z u:IV) (l:List IV) (cs:List FV) (k:List IV->Option β):Dn (x::y::z::u::l) 4 cs k=Dn l 0 cs fun t=>k (x::y::z::u::t):=rfl
theorem of0 (x b:IV) (l:List IV) (k:List IV->Option β):Kh (x::l) 0 b k=k (b::l):=rfl
theorem of1 (x y b:IV) (l:List IV) (k:List IV->Option β):Kh (x::y::l) 1 b k=k (x::b::l):=rfl
theorem of2 (x y z b:IV) (l:List IV) (k:List IV->Option β):Kh (x::y::z::l) 2 b k=k (x::y::b::l):=rfl
theorem of3 (x y z u b:IV) (l:List IV) (k:List IV->Option β):Kh (x::y::z::u::l) 3 b k=k (x::y::z::b::l):=rfl
theorem of6 (x y z u v w s b:IV) (l:List IV) (k:List IV->Option β):Kh (x::y::z::u::v::w::s::l) 6 b k=k (x::y::z::u::v::w::b::l):=rfl
theorem Av9 (size:Nat) (a:IV) (cs:List FV) (h:Hp) (k:Hp->List Ref->List Ref->Option β):Ad size a (.fv (.agg cs)) h k =
  Ez a (fun r o=>EA r h fun b=>GS b fun cells=>cond (and (Nat.beq cs.length size) (EP cs)) (Dn cells o cs fun cells=>GD r (.row cells false) h fun h=>k h [r] [r]) none) fun _ _=>none:=rfl
theorem ApY (s:Nat) (x:IV):Gd (.own s) x=true:=rfl
theorem Awr (s:Nat) (a b c:IV) (ha:a.one=true) (hb:b.one=true) (hc:c.one=true) (own:List (Nat×Blk)) (ext:List Blk) (k:Hp->List Ref->List Ref->Option β) :
  Ad 3 (.ptr (.own s) 0) (.agg [a,b,c]) ⟨own,ext⟩ k=Jo own s fun bl=>GS bl fun cells=>cond (Nat.ble 3 cells.length) (GD (.own s) (.row (A5 cells 0 [a,b,c]) false) ⟨own,ext⟩ fun h=>k h [.own s] [.own s]) none:=by
 show Jo own s (fun bl=>GS bl fun cells=>if IV.alive (.agg [a,b,c])=true/\(IV.cells (.agg [a,b,c])).length=3/\0+3<=cells.length/\(IV.cells (.agg [a,b,c])).all IV.one=true/\Gd (.own s) (.agg [a,b,c])=true then
  spK (A5 cells 0 (IV.cells (.agg [a,b,c]))) fun cells=>GD (.own s) (.row cells false) ⟨own,ext⟩ fun h=>k h [.own s] [.own s] else none)=_
 congr 1
 funext bl
 congr 1
 funext cells
 by_cases h3:3<=cells.length
 ·rw [if_pos ⟨rfl,rfl,by omega,by simp [IV.cells,ha,hb,hc],rfl⟩,HH,BP,decide_eq_true h3];rfl
 ·rw [if_neg (fun h=>h3 (by omega)),BP,decide_eq_false h3];rfl
theorem sc3 (a b c x y z:IV):A5 [x,y,z] 0 [a,b,c]=[a,b,c]:=rfl
theorem Axl (a x:IV) (h:Hp) (k:Hp->List Ref->List Ref->Option β):B6 a x h k =
  cond x.one (Ez a (fun r o=>EA r h fun b=>GS b fun cells=>cond (Gd r x) (Kh cells o x fun cells=>GD r (.row cells false) h fun h=>k h [r] [r]) none) fun _ _=>none) (Ad 1 a x h k):=rfl
theorem Av5 (o:Nat) (r:Ref) (k:IV->Option β):Af o (.ptr r 0) k=k (.ptr r o):=by rw [Anh,Nat.zero_add]
theorem AuW (o:Nat) (cs:List FV) (k:IV->Option β):Af o (.fv (.fp cs 0)) k=k (.fv (.fp cs o)):=by rw [Ag5,Nat.zero_add]
theorem AuY (r:Ref) (o:Nat) (k:IV->Option β):A0 (.ptr r o) k=k (.ptr r o):=rfl
theorem AtR (cs:List FV) (o:Nat) (k:IV->Option β):A0 (.fv (.fp cs o)) k=k (.fv (.fp cs o)):=rfl
theorem AkP (g:FuncId) (a b:List FV) (k:IV->Option β):A0 (.fv (.func (.func g) a b)) k=k (.fv (.func (.func g) a b)):=rfl
theorem AwE (ix:Nat) (vs:List IV) (k:IV->Option β):Aq ix (.tuple vs) k=Dt vs ix k:=rfl
theorem AwV (ix:Nat) (vs:List FV) (k:IV->Option β):Aq ix (.fv (.tuple vs)) k=Dt vs ix fun v=>k (.fv v):=rfl
theorem Aw1 (o:Nat) (x:IV) (k:IV->Option β):ArQ o x k=asAgg x (fun cs=>Dt cs o k) fun cs=>Dt cs o fun v=>k (.fv v):=rfl
theorem Aw9 (size o:Nat) (x:IV) (k:IV->Option β):Ata size o x k=asAgg x (fun cs=>EH cs o fun cs=>Ge cs size fun cs=>O9 cs k) fun cs=>EH cs o fun cs=>Ge cs size fun cs=>k (.fv (.agg cs)):=rfl
theorem Avc (z:List IV) (pl:List (Nat×Nat×IV)) (k:IV->Option β):BJ z pl k=OD z pl fun cells=>O9 cells k:=rfl
theorem fk0 (z:List IV) (k:List IV->Option β):OD z [] k=k z:=rfl
theorem fk1 (z:List IV) (o sz:Nat) (v:IV) (pl:List (Nat×Nat×IV)) (k:List IV->Option β):OD z ((o,sz,v)::pl) k=LH z o sz v fun z=>OD z pl k:=rfl
theorem AqI {v:IV} (hv:v.one=true) (z:List IV) (o:Nat) (k:List IV->Option β):LH z o 1 v k=Kh z o v k:=by
 unfold LH;cases v with
 | fv w =>
  show cond (Jq w) _ _=_
  have:Jq w=true:=by cases w<;>first | rfl | cases hv
  rw [this];rfl
 | _=>show AdR _ _ _ _ _=_;unfold AdR;rw [hv];rfl
theorem AsT (z:List IV) (o sz:Nat) (cs:List FV) (k:List IV->Option β):LH z o sz (.fv (.agg cs)) k=cond (Nat.beq cs.length sz) (Dn z o cs k) none:=rfl
theorem nb3 (a b c:FV):Nat.beq [a,b,c].length 3=true:=rfl
theorem nb4 (a b c d:FV):Nat.beq [a,b,c,d].length 4=true:=rfl
theorem nb7 (a b c d e f g:FV):Nat.beq [a,b,c,d,e,f,g].length 7=true:=rfl
theorem nl3 (a b c:IV):Nat.ble 3 [a,b,c].length=true:=rfl
theorem ArF:(and true true)=true:=rfl
end
end Idl
end Go.Proofs.Ytdibmackcbpniaa
namespace Go.Proofs.Ytdibmackcbpniaa
namespace Idl
section
variable {β:Type} {E:Env} {t:TypeId}
theorem Aw3 (n:Int):IV.fv (.int .i64 n)=iv n:=rfl
def BD (n:Int):Int:=IntKind.i64.wrap n
theorem Az {n:Int} (h1:-9223372036854775808<=n) (h2:n<=9223372036854775807):BD n=n:=by
 show (if (true && decide ((n % (18446744073709551616:Int)) ≥ (9223372036854775808:Int)))=true then (n % (18446744073709551616:Int)) - (18446744073709551616:Int) else (n % (18446744073709551616:Int)))=n
 by_cases h:0<=n
 ·have e:n % (18446744073709551616:Int)=n:=by omega
  have e2:¬ n ≥ (9223372036854775808:Int):=by omega
  rw [e,decide_eq_false e2];rfl
 ·have e:n % (18446744073709551616:Int)=n+18446744073709551616:=by omega
  have e2:n+18446744073709551616 ≥ (9223372036854775808:Int):=by omega
  rw [e,decide_eq_true e2];simp
theorem AuQ (a b:Int) (k:IV->Option β):Bv E t (iv a) (iv b) k=k (iv (BD (a+b))):=by
 have hg:CC E t .add (iv a) (iv b) k=k (iv (BD (a+b))):=by
  rw [CC,Cz];rfl
 cases a with
 | negSucc a=>exact hg
 | ofNat a=>cases b with
  | negSucc b=>exact hg
  | ofNat b =>
   show cond (Nat.ble (a+b) 9223372036854775807) (NR (a+b) k) _=_
   rw [BP];by_cases h:a+b<=9223372036854775807
   ·rw [decide_eq_true h]
    show NR (a+b) k=_
    rw [Dm]
    have:BD (Int.ofNat a+Int.ofNat b)=((a+b:Nat):Int):=by
     rw [Az (by simp only [Int.ofNat_eq_natCast];omega) (by simp only [Int.ofNat_eq_natCast];omega)];simp only [Int.ofNat_eq_natCast];omega
    rw [this]
   ·rw [decide_eq_false h];exact hg
theorem Auj (a b:Int) (k:IV->Option β):Bd E t (iv a) (iv b) k=k (iv (BD (a - b))):=by
 have hg:CC E t .sub (iv a) (iv b) k=k (iv (BD (a - b))):=by
  rw [CC,Cz];rfl
 cases a with
 | negSucc a=>exact hg
 | ofNat a=>cases b with
  | negSucc b=>exact hg
  | ofNat b =>
   show cond (and (Nat.ble b a) (Nat.ble a 9223372036854775807)) (NR (a - b) k) _=_
   rw [BP,BP];by_cases h:b<=a/\a<=9223372036854775807
   ·rw [decide_eq_true h.1,decide_eq_true h.2]
    show NR (a - b) k=_
    rw [Dm]
    have:BD (Int.ofNat a - Int.ofNat b)=((a - b:Nat):Int):=by
     rw [Az (by simp only [Int.ofNat_eq_natCast];omega) (by simp only [Int.ofNat_eq_natCast];omega)];simp only [Int.ofNat_eq_natCast];omega
    rw [this]
   ·have:(decide (b<=a) && decide (a<=9223372036854775807))=false:=by
     rw [<- Bool.decide_and];exact decide_eq_false h
    rw [show and (decide (b<=a)) (decide (a<=9223372036854775807))=false from this]
    exact hg
theorem At5 (a b:Int) (k:IV->Option β):CC E t .mul (iv a) (iv b) k=k (iv (BD (a * b))):=by
 rw [CC,Cz];rfl
theorem Aki {b:Int} (hb:b≠0) (a:Int) (k:IV->Option β):CC E t .quo (iv a) (iv b) k=k (iv (BD (a.tdiv b))):=by
 rw [CC,Cz]
 have:GX E .quo t (iv a) (iv b)=some (iv (BD (a.tdiv b))):=by
  show (GF (Op.intDiv .quo .i64 a b)).bind Jn=_
  simp only [Op.intDiv,hb,if_false];rfl
 rw [this];rfl
theorem Lx {b:Int} (hb:b≠0) (a:Int) (k:IV->Option β):CC E t .rem (iv a) (iv b) k=k (iv (a.tmod b)):=by
 rw [CC,Cz]
 have:GX E .rem t (iv a) (iv b)=some (iv (a.tmod b)):=by
  show (GF (Op.intDiv .rem .i64 a b)).bind Jn=_
  simp only [Op.intDiv,hb,if_false];rfl
 rw [this];rfl
theorem Awm (a b:Int) (k:IV->Option β):AO E t (iv a) (iv b) k=k (.fv (.bool (decide (a=b)))):=Avm a b k
theorem AwD (a b:Int) (k:IV->Option β):Ck E t (iv a) (iv b) k=k (.fv (.bool (!decide (a=b)))):=AuL a b k
theorem Axg (a b:Int) (k:IV->Option β):GC E t (iv a) (iv b) k=k (.fv (.bool (decide (a<b)))):=AtU a b k
theorem Axi (a b:Int) (k:IV->Option β):leS E t (iv a) (iv b) k=k (.fv (.bool (decide (a<=b)))):=AuC a b k
theorem AwZ (a b:Int) (k:IV->Option β):LN E t (iv a) (iv b) k=k (.fv (.bool (decide (b<a)))):=by
 rw [LN,Lo (fun a b=>by
  show some (IV.fv (.bool (decide ((a:Int) > (b:Int)))))=_
  rw [BP];congr 3;exact decide_eq_decide.2 (by omega))]
 rfl
theorem AwC (a b:Int) (k:IV->Option β):Tz E t (iv a) (iv b) k=k (.fv (.bool (decide (b<=a)))):=by
 rw [Tz,Lo (fun a b=>by
  show some (IV.fv (.bool (decide ((a:Int) ≥ (b:Int)))))=_
  rw [BP];congr 3;exact decide_eq_decide.2 (by omega))]
 rfl
theorem AtI (a b:Bool) (hT:E.T t=some ⟨1,1,.bool,[.fv (.bool false)]⟩) (k:IV->Option β):AO E t (.fv (.bool a)) (.fv (.bool b)) k=k (.fv (.bool (a == b))):=by
 show CC E t .eql _ _ k=_
 rw [CC,Cz]
 have:GX E .eql t (.fv (.bool a)) (.fv (.bool b))=some (.fv (.bool (a == b))):=by
  simp only [GX,hT,Q6]
 rw [this];rfl
theorem Avo (b:Bool) (k:IV->Option β):C8 (KN .not (.fv (.bool b))) k=k (.fv (.bool !b)):=At2 b k
theorem Awv (a b:Option β):Aj (.fv (.bool true)) a b=a:=rfl
theorem Awp (a b:Option β):Aj (.fv (.bool false)) a b=b:=rfl
theorem AwN (c:Prop) [Decidable c] (a b:Option β):Aj (.fv (.bool (decide c))) a b=if c then a else b:=Aq5 c a b
theorem Awk (c:Prop) [Decidable c] (a b:Option β):Aj (.fv (.bool (!decide c))) a b=if c then b else a:=by
 by_cases h:c
 ·rw [decide_eq_true h,if_pos h];rfl
 ·rw [decide_eq_false h,if_neg h];rfl
theorem Awq (c:Bool) (a b:Option β):Aj (.fv (.bool c)) a b=if c=true then a else b:=by
 cases c<;>rfl
theorem AwQ (c a b:IV) (k:IV->Option β):AI c a b k=Aj c (k a) (k b):=rfl
theorem Aut {b:Bool} (hb:b=true) (h:Hp) (m:(IV->Hp->List Ref->List Ref->Option β)->Option β) (k:IV->Hp->List Ref->List Ref->Option β):Ac (.fv (.bool b)) true h m k=m k:=by rw [hb];rfl
theorem Avr {b:Bool} (hb:b=false) (h:Hp) (m:(IV->Hp->List Ref->List Ref->Option β)->Option β) (k:IV->Hp->List Ref->List Ref->Option β):Ac (.fv (.bool b)) false h m k=m k:=by rw [hb];rfl
theorem AuU {b:Bool} (hb:b=true) (h:Hp) (m:(IV->Hp->List Ref->List Ref->Option β)->Option β) (k:IV->Hp->List Ref->List Ref->Option β):Ac (.fv (.bool b)) false h m k=k Fg h [] []:=by rw [hb];rfl
theorem AuM {b:Bool} (hb:b=false) (h:Hp) (m:(IV->Hp->List Ref->List Ref->Option β)->Option β) (k:IV->Hp->List Ref->List Ref->Option β):Ac (.fv (.bool b)) true h m k=k Fg h [] []:=by rw [hb];rfl
theorem Axh (w:Bool) (h:Hp) (m:(IV->Hp->List Ref->List Ref->Option β)->Option β) (k:IV->Hp->List Ref->List Ref->Option β):Ac Fg w h m k=k Fg h [] []:=rfl
theorem ch0 (rd wr:List Ref) (a:Option β):Ab [] rd wr a=a:=rfl
theorem ch1 (q1 q2:List Ref) (l:List (List Ref×List Ref)) (rd wr:List Ref) (a:Option β):Ab ((q1,q2)::l) rd wr a=cond (Wq q2 rd) (cond (Wq q2 wr) (cond (Wq wr q1) (Ab l rd wr a) none) none) none:=rfl
theorem dj0 (b:List Ref):Wq [] b=true:=rfl
theorem djn:∀(a:List Ref),Wq a []=true
 | []=>rfl
 | _::a=>djn a
theorem dj1 (r:Ref) (a b:List Ref):Wq (r::a) b=cond (Kk r b) (Wq a b) false:=rfl
theorem an0 (r:Ref):Kk r []=true:=rfl
theorem an1 (r s:Ref) (l:List Ref):Kk r (s::l)=cond (LF r s) (Kk r l) false:=rfl
theorem AwP {i j:Nat} (h:(i == j)=false):LF (.own i) (.own j)=true:=by
 show not (Nat.beq i j)=true
 rw [show Nat.beq i j=false from Am3 h];rfl
theorem AtS (i j:Nat):LF (.own i) (.ext j)=true:=rfl
theorem AtY (i j:Nat):LF (.ext i) (.own j)=true:=rfl
theorem AwK (v:IV) (h:Hp):Ao [v] h=some (v,h):=rfl
theorem Awj (h:Hp):Ao [] h=some (.fv (.tuple []),h):=rfl
theorem Aw5 (a b:IV) (h:Hp):Ao [a,b] h=XS [a,b] fun v=>some (v,h):=rfl
theorem Awc (a b c:IV) (h:Hp):Ao [a,b,c] h=XS [a,b,c] fun v=>some (v,h):=rfl
theorem Awb (a b c d:IV) (h:Hp):Ao [a,b,c,d] h=XS [a,b,c,d] fun v=>some (v,h):=rfl
theorem AtQ (es:List FV) (k:IV->Option β):BF (.fv (.sl es)) k=k (iv es.length):=Dm ..
theorem AuZ (k:IV->Option β):BF .nils k=k (iv 0):=rfl
theorem Auq (es:List FV) (k:IV->Option β):BF (.clip es) k=k (iv es.length):=Dm ..
theorem Auk (r:Ref) (es:List FV) (k:IV->Option β):BF (.app r es) k=k (iv es.length):=Dm ..
theorem Au7 (r:Ref) (sz n:Nat) (k:IV->Option β):BF (.slc r sz n) k=k (iv n):=Dm ..
theorem Bs {size:Nat} {es:List FV} {n:Nat} {el:FV} (he:es[n]?=some el) (hl:el.cells.length=size) (k:IV->Option β):AP size (.fv (.sl es)) (iv n) k=k (.fv (.fp el.cells 0)):=AqD he hl k
theorem Awl {size:Nat} {r:Ref} {es:List FV} {n:Nat} {el:FV} (he:es[n]?=some el) (hl:el.cells.length=size) (k:IV->Option β):AP size (.app r es) (iv n) k=k (.fv (.fp el.cells 0)):=AqD he hl k
theorem Awu {size:Nat} {es:List FV} {n:Nat} {el:FV} (he:es[n]?=some el) (hl:el.cells.length=size) (k:IV->Option β):AP size (.clip es) (iv n) k=k (.fv (.fp el.cells 0)):=AqD he hl k
theorem Axd {size sz len:Nat} {r:Ref} {n:Nat} (hn:n<len) (hs:sz=size) (k:IV->Option β):AP size (.slc r sz len) (iv n) k=k (.ptr r (n * sz)):=by
 show cond (and (Nat.ble (Nat.succ n) len) (Nat.beq sz size)) (DU (n * sz) fun o=>k (.ptr r o)) none=_
 rw [BP,decide_eq_true (show Nat.succ n<=len from hn),hs,show Nat.beq size size=true from Nat.beq_refl size]
 simp only [Bool.and_self,cond_true];rw [BS]
theorem AmQ (size:Nat) (cs:List FV) (es:List FV) (hl:cs.length=size) (k:IV->Option β):AP size (.fv (.sl (.agg cs::es))) (iv 0) k=k (.fv (.fp cs 0)):=Bs (el:=.agg cs) (n:=0) rfl hl k
theorem AoJ (size:Nat) (cs:List FV) (e:FV) (es:List FV) (hl:cs.length=size) (k:IV->Option β):AP size (.fv (.sl (e :: .agg cs::es))) (iv 1) k=k (.fv (.fp cs 0)):=Bs (el:=.agg cs) (n:=1) rfl hl k
theorem Am9 (size:Nat) (cs:List FV) (e e':FV) (es:List FV) (hl:cs.length=size) (k:IV->Option β):AP size (.fv (.sl (e::e' :: .agg cs::es))) (iv 2) k=k (.fv (.fp cs 0)):=Bs (el:=.agg cs) (n:=2) rfl hl k
theorem AmG (size:Nat) (cs:List FV) (e e' e'':FV) (es:List FV) (hl:cs.length=size) (k:IV->Option β):AP size (.fv (.sl (e::e'::e'' :: .agg cs::es))) (iv 3) k=k (.fv (.fp cs 0)):=Bs (el:=.agg cs) (n:=3) rfl hl k
def Fz (v:IV) (own:List (Nat×Blk)) (w:FV):Prop:=∃u lg,∀(e:Option (IV×Hp)) (K:FV->List (Ref×Blk)->List Ref->Option (IV×Hp)),Gs 12 v ⟨own,[]⟩ [] e K=K w u lg
def AS (r:Option (IV×Hp)) (w:FV):Prop:=∃v own,r=some (v,⟨own,[]⟩) /\
 (Fz v own w\/((∀(e:Option (IV×Hp)) (K:FV->List (Ref×Blk)->List Ref->Option (IV×Hp)),Gs 12 v ⟨own,[]⟩ [] e K=e)/\∃u,(C0 4096 v).run ⟨own,[]⟩=some (w,u)))
def WM (r:Option (IV×Hp)) (w:FV):Prop:=∃v own,r=some (v,⟨own,[]⟩)/\Fz v own w
theorem Apz (w:FV) (own:List (Nat×Blk)):Fz (.fv w) own w:=⟨[],[],fun _ _=>rfl⟩
theorem Al (w:FV) (own:List (Nat×Blk)):AS (some (.fv w,⟨own,[]⟩)) w:=⟨_,own,rfl,.inl (Apz w own)⟩
def G7:IV->Option FV
 | .fv v=>some v
 | .nils=>some (.sl [])
 | .emp=>some (.sl [])
 | .clip es=>some (.sl es)
 | .app _ es=>some (.sl es)
 | _=>none
def DD:List IV->Option (List FV)
 | []=>some []
 | v::l=>(G7 v).bind fun x=>(DD l).map fun xs=>x::xs
def Bo (v:IV):Option FV:=match v with
 | .agg cs=>if cs.length<=8 then (DD cs).map .agg else none
 | v=>G7 v
def B4:List IV->Option (List FV)
 | []=>some []
 | v::l=>(Bo v).bind fun x=>(B4 l).map fun xs=>x::xs
theorem Aux (v:FV):Bo (.fv v)=some v:=rfl
theorem Amh:Bo .nils=some (.sl []):=rfl
theorem Ard:Bo .emp=some (.sl []):=rfl
theorem Aop (es:List FV):Bo (.clip es)=some (.sl es):=rfl
theorem Aqr (r:Ref) (es:List FV):Bo (.app r es)=some (.sl es):=rfl
theorem Aun (v:FV):G7 (.fv v)=some v:=rfl
theorem Aof:G7 .nils=some (.sl []):=rfl
theorem AsD:G7 .emp=some (.sl []):=rfl
theorem AoG (es:List FV):G7 (.clip es)=some (.sl es):=rfl
theorem Aq9 (r:Ref) (es:List FV):G7 (.app r es)=some (.sl es):=rfl
theorem Awx {a b c:IV} {x y z:FV} (ha:G7 a=some x) (hb:G7 b=some y) (hc:G7 c=some z):Bo (.agg [a,b,c])=some (.agg [x,y,z]):=by
 show (if 3<=8 then (DD [a,b,c]).map FV.agg else none)=_
 simp [DD,ha,hb,hc]
theorem AwG {a b c d:IV} {x y z u:FV} (ha:G7 a=some x) (hb:G7 b=some y) (hc:G7 c=some z) (hd:G7 d=some u):Bo (.agg [a,b,c,d])=some (.agg [x,y,z,u]):=by
 show (if 4<=8 then (DD [a,b,c,d]).map FV.agg else none)=_
 simp [DD,ha,hb,hc,hd]
theorem ApG {v:IV} {x:FV} (d:Nat) (h:Hp) (lg:List Ref) (e:Option β) (k:FV->List (Ref×Blk)->List Ref->Option β) (hz:G7 v=some x):Gs (d+1) v h lg e k=k x [] lg:=by
 cases v<;>first | (cases hz;rfl) | (cases hz)
theorem Aj4 (d:Nat) (h:Hp) (lg:List Ref) (e:Option β):∀(cs:List IV) (k:List FV->List (Ref×Blk)->List Ref->Option β) {xs:List FV},DD cs=some xs->EI (Gs (d+1)) cs h lg e k=k xs [] lg
 | [],k,xs,hz=>by cases hz;rfl
 | v::cs,k,xs,hz=>by
  simp only [DD] at hz;cases h1:G7 v with
  | none=>rw [h1] at hz;cases hz
  | some x =>
   rw [h1] at hz;cases h2:DD cs with
   | none=>rw [h2] at hz;cases hz
   | some ys =>
    rw [h2] at hz;cases hz
    show Gs (d+1) v h lg e (fun y u lg=>EI (Gs (d+1)) cs h lg e fun ys us lg=>Qp u us fun w=>k (y::ys) w lg)=_
    rw [ApG d h lg e _ h1,Aj4 d h lg e cs _ h2];rfl
theorem Np {v:IV} {x:FV} (h:Hp) (lg:List Ref) (e:Option β) (k:FV->List (Ref×Blk)->List Ref->Option β) (hz:Bo v=some x):Gs 12 v h lg e k=k x [] lg:=by
 cases v with
 | agg cs =>
  simp only [Bo] at hz;split at hz
  ·rename_i hl;cases h2:DD cs with
   | none=>rw [h2] at hz;cases hz
   | some ys =>
    rw [h2] at hz;cases hz
    show cond (Nat.ble cs.length 300) (EI (Gs 11) cs h lg e fun cs u lg=>k (.agg cs) u lg) e=_
    rw [BP,decide_eq_true (show cs.length<=300 by omega)]
    exact Aj4 10 h lg e cs _ h2
  ·cases hz
 | _=>exact ApG 11 h lg e k hz
theorem Axc {v:IV} {x:FV} (hz:Bo v=some x) (own:List (Nat×Blk)):Fz v own x:=⟨[],[],fun e K=>Np _ _ e K hz⟩
theorem A3 {v:IV} {x:FV} (hz:Bo v=some x) (own:List (Nat×Blk)):AS (some (v,⟨own,[]⟩)) x:=⟨v,own,rfl,.inl (Axc hz own)⟩
theorem fr1 {v:IV} {x:FV} (n:Nat) (hz:G7 v=some x):C0 (n+1) v=.ret (x,[]):=by
 cases v<;>first | (cases hz;rfl) | (cases hz)
theorem AcY:∀(cs:List IV) (n:Nat) {xs:List FV},cs.length+1<n->DD cs=some xs->frzL n cs=.ret (xs,[])
 | [],n+1,xs,_,hz=>by cases hz;rfl
 | v::cs,n+2,xs,hn,hz=>by
  simp only [DD] at hz;cases h1:G7 v with
  | none=>rw [h1] at hz;cases hz
  | some x =>
   rw [h1] at hz;cases h2:DD cs with
   | none=>rw [h2] at hz;cases hz
   | some ys =>
    rw [h2] at hz;cases hz;simp only [AzI] at hn;simp only [frzL,fr1 n h1,Rd.bind,AcY cs (n+1) (by omega) h2];rfl
theorem frp {v:IV} {x:FV} (n:Nat) (hn:20<n) (hz:Bo v=some x):C0 n v=.ret (x,[]):=by
 cases n with
 | zero=>omega
 | succ n =>
  cases v with
  | agg cs =>
   simp only [Bo] at hz;split at hz
   ·rename_i hl;cases h2:DD cs with
    | none=>rw [h2] at hz;cases hz
    | some ys =>
     rw [h2] at hz;cases hz;simp only [C0,AcY cs n (by omega) h2,Rd.bind]
   ·cases hz
  | _=>exact fr1 n hz
theorem Apk:∀(cs:List IV) (n:Nat) {xs:List FV},cs.length+30<n->B4 cs=some xs->frzL n cs=.ret (xs,[])
 | [],n+1,xs,_,hz=>by cases hz;rfl
 | v::cs,n+1,xs,hn,hz=>by
  simp only [B4] at hz;cases h1:Bo v with
  | none=>rw [h1] at hz;cases hz
  | some x =>
   rw [h1] at hz;cases h2:B4 cs with
   | none=>rw [h2] at hz;cases hz
   | some ys =>
    rw [h2] at hz;cases hz;simp only [AzI] at hn;simp only [frzL,frp n (by omega) h1,Rd.bind,Apk cs n (by omega) h2];rfl
theorem Au {vs:List IV} {xs:List FV} (hz:B4 vs=some xs) (hl:vs.length<=100) (own:List (Nat×Blk)):AS (some (.tuple vs,⟨own,[]⟩)) (.tuple xs) :=
 ⟨_,own,rfl,.inr ⟨fun _ _=>rfl,[],by
  show (C0 (4095+1) (.tuple vs)).run _=_
  simp only [C0,Apk vs 4095 (by omega) hz,Rd.bind];rfl⟩⟩
theorem Ar6:B4 []=some []:=rfl
theorem AjL {a b:IV} {x y:FV} (ha:Bo a=some x) (hb:Bo b=some y):B4 [a,b]=some [x,y]:=by simp [B4,ha,hb]
theorem AoH {a b c:IV} {x y z:FV} (ha:Bo a=some x) (hb:Bo b=some y) (hc:Bo c=some z):B4 [a,b,c]=some [x,y,z]:=by simp [B4,ha,hb,hc]
theorem Aui {a b c d:IV} {x y z u:FV} (ha:Bo a=some x) (hb:Bo b=some y) (hc:Bo c=some z) (hd:Bo d=some u):B4 [a,b,c,d]=some [x,y,z,u]:=by simp [B4,ha,hb,hc,hd]
theorem AhF {a:IV} {x:FV} (ha:Bo a=some x):B4 [a]=some [x]:=by simp [B4,ha]
theorem HB:∀(args:List IV) {vs:List FV},B4 args=some vs->Br [] args=.ret (vs.map .fv,[],[])
 | [],vs,hz=>by cases hz;rfl
 | v::l,vs,hz=>by
  simp only [B4] at hz;cases h1:Bo v with
  | none=>rw [h1] at hz;cases hz
  | some x =>
   rw [h1] at hz;cases h2:B4 l with
   | none=>rw [h2] at hz;cases hz
   | some ys =>
    rw [h2] at hz;cases hz;simp only [Br,frp 4096 (by omega) h1,Rd.bind,HB l h2];rfl
theorem fz0 (keep:List Bool) (h:Hp) (lg:List Ref) (e:Option β) (k:List IV->List Ref->List (Ref×Blk)->List Ref->Option β):fzA [] keep h lg e k=k [] [] [] lg:=rfl
theorem AiU (x:IV) (l:List IV) (ks:List Bool) (h:Hp) (lg:List Ref) (e:Option β) (k:List IV->List Ref->List (Ref×Blk)->List Ref->Option β) :
  fzA (x::l) (true::ks) h lg e k=Ez x (fun r o=>fzA l ks h lg e fun vs rs us lg=>k (.ptr r o::vs) (r::rs) us lg) fun _ _=>e:=rfl
theorem AnS (x:IV) (l:List IV) (ks:List Bool) (h:Hp) (lg:List Ref) (e:Option β) (k:List IV->List Ref->List (Ref×Blk)->List Ref->Option β) :
  fzA (x::l) (false::ks) h lg e k=Gs 12 x h lg e fun y u lg=>fzA l ks h lg e fun vs rs us lg=>Qp u us fun w=>k (.fv y::vs) rs w lg:=rfl
section
variable (d:Nat) (h:Hp) (lg:List Ref) (e:Option β) (k:FV->List (Ref×Blk)->List Ref->Option β)
theorem ArN (cs:List IV):Gs 12 (.agg cs) h lg e k=cond (Nat.ble cs.length 300) (EI (Gs 11) cs h lg e fun cs u lg=>k (.agg cs) u lg) e:=rfl
theorem Aq1 (s:Nat) (off:Nat):Gs 12 (.ptr (.own s) off) h lg e k=EA (.own s) h fun b=>EK b fun cells=>cond (Nat.ble cells.length 300) (EI (Gs 11) cells h (.own s::lg) e fun cs u lg=>k (.fp cs off) ((.own s,.row cells true)::u) lg) e:=rfl
theorem Aps (v:FV):Gs 11 (.fv v) h lg e k=k v [] lg:=rfl
theorem fl0 (g:FzK β) (k:List FV->List (Ref×Blk)->List Ref->Option β):EI g [] h lg e k=k [] [] lg:=rfl
theorem fl1 (g:FzK β) (x:IV) (l:List IV) (k:List FV->List (Ref×Blk)->List Ref->Option β):EI g (x::l) h lg e k=g x h lg e fun y u lg=>EI g l h lg e fun ys us lg=>Qp u us fun w=>k (y::ys) w lg:=rfl
end
def AgJ (rs:List Ref) (r:Option (IV×Hp)) (h:Hp) (u:List (Ref×Blk)) (lg:List Ref) (e:Option (IV×Hp)) (g:List Ref->Option (IV×Hp)) (k:IV->Hp->List Ref->List Ref->Option (IV×Hp)):Option (IV×Hp):=match rs with
 | []=>(match r with
  | none=>none
  | some p=>match p with
   | (v,h')=>match h' with
    | ⟨own,ext⟩=>List.casesOn (motive:=fun _=>Option (IV×Hp)) ext (Gs 12 v ⟨own,[]⟩ [] e fun w _ _=>O8 u h fun h2=>k (.fv w) h2 lg (Bp u)) fun _ _=>none)
 | r::rs=>g (r::rs)
theorem Pp (keep:List Bool) (ih:Aa) (f:FuncId) (args:List IV) (h:Hp) (k:IV->Hp->List Ref->List Ref->Option (IV×Hp)):Ai keep false false ih f args h k =
  fzA args keep h [] (EF keep false false ih f args h k) fun vs rs u lg=>AgJ rs (ih f vs ⟨[],[]⟩) h u lg (EF keep false false ih f args h k) (fun rs=>match rs with
   | []=>none
   | r::rs=>(match h with
    | ⟨own,ext⟩=>cond (OZ 400 (r::rs) 0 ext) (match ih f vs ⟨[],ext⟩ with
     | none=>none
     | some p=>match p with
      | (v,h')=>match h' with
       | ⟨own',ext'⟩=>cond (and (Nat.beq ext'.length ext.length) (okB ext.length ext'))
        (Gs 12 v ⟨own',ext'⟩ [] (EF keep false false ih f args h k) fun w _ _=>O8 u ⟨own,ext'⟩ fun h2=>k (.fv w) h2 ((Do ext.length).reverse++lg) (Bp u++Do ext.length)) none)
     (EF keep false false ih f args h k))) k:=by
 unfold Ai;simp only [cond_false];congr 1
theorem Ah4:∀(args:List IV) {vs:List FV} (h:Hp) (lg:List Ref) (e:Option β) (k:List IV->List Ref->List (Ref×Blk)->List Ref->Option β),B4 args=some vs->fzA args [] h lg e k=k (vs.map .fv) [] [] lg
 | [],vs,h,lg,e,k,hz=>by cases hz;rfl
 | v::l,vs,h,lg,e,k,hz=>by
  simp only [B4] at hz;cases h1:Bo v with
  | none=>rw [h1] at hz;cases hz
  | some x =>
   rw [h1] at hz;cases h2:B4 l with
   | none=>rw [h2] at hz;cases hz
   | some ys =>
    rw [h2] at hz;cases hz
    show Gs 12 v h lg e (fun y u lg=>fzA l [] h lg e fun vs rs us lg=>Qp u us fun w=>k (.fv y::vs) rs w lg)=_
    rw [Np h lg e _ h1,Ah4 l h lg e _ h2];rfl
theorem Ed (f:Ref->Option Ref):∀l:List FV,IV.ren.renL f (l.map .fv)=some (l.map .fv)
 | []=>rfl
 | v::l=>by
  simp only [AzK,IV.ren.renL,IV.ren,Ed f l];rfl
theorem UP {ih:Aa} {f:FuncId} {args:List IV} {vs:List FV} {w:FV} (hz:B4 args=some vs) (hr:AS (ih f (vs.map .fv) ⟨[],[]⟩) w) (h:Hp) (k:IV->Hp->List Ref->List Ref->Option (IV×Hp)) :
  Ai [] false false ih f args h k=k (.fv w) h [] []:=by
 obtain ⟨v,own,e,hv⟩:=hr;have hD:(∃u,(C0 4096 v).run ⟨own,[]⟩=some (w,u))->EF [] false false ih f args h k=k (.fv w) h [] []:=by
  rintro ⟨u,hu⟩;unfold EF;simp only [HB args hz,Rd.runLog,Cb,Ed,AzJ,A9,C9 (Cx 3),C9 CW,EG,Bool.false_eq_true,if_false,e,hu,AzH,IV.ren]
  show (match laid h ([]++(Bp []).zip []) with | none=>none | some h'=>fH h' fun h'=>fV 3 (.fv w) fun res=>k res h' [] _)=_
  simp only [Bp,AzJ,List.zip_nil_left,List.append_nil,laid,KK,Cx]
 rw [Pp,Ah4 args h [] _ _ hz,e];simp only [AgJ];rcases hv with ⟨u',lg',hf⟩ | ⟨hf,hu⟩
 ·rw [hf];rfl
 ·rw [hf];exact hD hu
theorem EL {ih:Aa} {f:FuncId} {w:FV} (hr:AS (ih f [] ⟨[],[]⟩) w) (h:Hp) (k:IV->Hp->List Ref->List Ref->Option (IV×Hp)) :
  Ai [] false false ih f [] h k=k (.fv w) h [] []:=UP (vs:=[]) rfl hr h k
theorem Av {ih:Aa} {f:FuncId} {a:IV} {x w:FV} (hr:AS (ih f [.fv x] ⟨[],[]⟩) w) (ha:Bo a=some x) (h:Hp) (k:IV->Hp->List Ref->List Ref->Option (IV×Hp)) :
  Ai [] false false ih f [a] h k=k (.fv w) h [] []:=UP (AhF ha) hr h k
theorem Ag {ih:Aa} {f:FuncId} {a b:IV} {x y w:FV} (hr:AS (ih f [.fv x,.fv y] ⟨[],[]⟩) w) (ha:Bo a=some x) (hb:Bo b=some y) (h:Hp) (k:IV->Hp->List Ref->List Ref->Option (IV×Hp)) :
  Ai [] false false ih f [a,b] h k=k (.fv w) h [] []:=UP (AjL ha hb) hr h k
theorem AF {ih:Aa} {f:FuncId} {a b c:IV} {x y z w:FV} (hr:AS (ih f [.fv x,.fv y,.fv z] ⟨[],[]⟩) w) (ha:Bo a=some x) (hb:Bo b=some y) (hc:Bo c=some z) (h:Hp) (k:IV->Hp->List Ref->List Ref->Option (IV×Hp)) :
  Ai [] false false ih f [a,b,c] h k=k (.fv w) h [] []:=UP (AoH ha hb hc) hr h k
theorem AC {ih:Aa} {f:FuncId} {a b c d:IV} {x y z u w:FV} (hr:AS (ih f [.fv x,.fv y,.fv z,.fv u] ⟨[],[]⟩) w) (ha:Bo a=some x) (hb:Bo b=some y) (hc:Bo c=some z) (hd:Bo d=some u) (h:Hp)
  (k:IV->Hp->List Ref->List Ref->Option (IV×Hp)):Ai [] false false ih f [a,b,c,d] h k=k (.fv w) h [] []:=UP (Aui ha hb hc hd) hr h k
theorem GZ (v:IV) (s:Nat) (h:Hp) (k:IV->Hp->List Ref->List Ref->Option β):AE (.ret { eff:={ val:=v } }) s h k=k v h [] []:=by
 unfold AE;simp only [Rd.runLog,HT,Cx];rfl
theorem gen_val' (v:IV) (s:Nat) (h:Hp) (k:IV->Hp->List Ref->List Ref->Option β):AE (Idl.val v) s h k=k v h [] []:=GZ v s h k
theorem Dr {e:TypeId} {a b:Nat} {ei:TI} {z:List IV} (hT:E.T t=some ⟨a,b,.slice e,z⟩) (he:E.T e=some ei) {len:Nat} (hs:¬ (ei.size=0\/len * ei.size > 65536)) {parts:List (Nat×IV)} {cells:List FV}
  (hf:CF (fun j=>some (j * ei.size,ei.size)) (R1 len ei.zero) parts=some (cells.map .fv)) {s:Nat} {h:Hp} (k:IV->Hp->List Ref->List Ref->Option β) (hc:cells.length<65000:=by simp) :
  AE (An E t len parts) s h k=k (.clip (BV ei.size len cells)) h [] []:=by
 have key:∀(l:List FV) (n:Nat),l.length<n->frzL n (l.map .fv)=.ret (l,[]):=by
  intro l
  induction l with
  | nil=>intro n hn;cases n with
   | zero=>simp at hn
   | succ n=>rfl
  | cons x l ih=>intro n hn;cases n with
   | zero=>simp at hn
   | succ n =>
    simp only [AzI] at hn;cases n with
    | zero=>omega
    | succ n =>
     simp only [AzK,frzL,C0,Rd.bind];rw [ih (n+1) (by omega)];rfl
 have:An E t len parts=.ret { eff:={ val:=.clip (BV ei.size len cells),upd:=[] } }:=by
  simp only [An,hT,he,if_neg hs,hf];rw [key _ _ (by omega)];rfl
 rw [this,GZ]
end
end Idl
end Go.Proofs.Ytdibmackcbpniaa
namespace Go.Proofs.Ytdibmackcbpniaa
namespace Idl
def XY:=AzD @decide_true<|AzD @decide_false<|AzD @Bool.not_true<|AzD @Bool.not_false<|AzD @List.map_cons.{0,0}<|AzD @List.map_nil.{0,0}<|AzD @List.length_map.{0,0}<|AzD @List.length_cons.{0}<|AzD @List.length_nil.{0}<|AzD @Int.natCast_zero<|AzD @Int.natCast_one<|AzD @Bool.false_eq_true<|AzD @Bool.true_eq_false<|AzD @decide_eq_true_eq<|AzD @eq_self.{1}<|AzD @Bool.and_true<|AzD @Bool.true_and<|AzD @Bool.and_false<|AzD @Bool.false_and<|AzD @Nat.zero_add<|@Int.cast_ofNat_Int
def XE:=AzD @List.any_cons.{0}<|AzD @List.any_nil.{0}<|AzD @List.all_cons.{0}<|AzD @List.all_nil.{0}<|AzD @List.filter_cons.{0}<|AzD @List.filter_nil.{0}<|AzD @List.contains_cons.{0}<|AzD @List.contains_nil.{0}<|AzD @Bool.or_false<|AzD @Bool.or_true<|AzD @Bool.false_or<|AzD @Bool.true_or<|AzD @Bool.and_self<|AzD @Bool.not_eq_true<|AzD @BEq.rfl.{0}<|@beq_self_eq_true.{0}
def XX:=AzD @n0<|AzD @n1<|AzD @n2<|AzD @n3<|AzD @n4<|AzD @n5<|AzD @n6<|AzD @d0<|AzD @d1<|AzD @d2<|AzD @d3<|AzD @d4<|AzD @t1<|AzD @t2<|AzD @t3<|AzD @t4<|AzD @t7<|AzD @ap0<|AzD @ap1<|AzD @Auc<|AzD @c_t<|AzD @c_f<|AzD @AkW<|AzD @At0<|AzD @AuF<|AzD @ArL<|AzD @AvP<|AzD @At4<|AzD @AqJ<|AzD @AuP<|AzD @Arh<|AzD @AmK<|AzD @AlJ<|AzD @sn0<|AzD @AvA<|AzD @Au2<|AzD @AvS<|AzD @At3<|AzD @Auh<|AzD @Alg<|AzD @Aow<|AzD @AqU<|AzD @Anr<|AzD @Avj<|AzD @Au6<|AzD @An3<|AzD @AmW<|AzD @Amz<|AzD @Ara<|AzD @ApQ<|AzD @ArA<|AzD @AlV<|AzD @AsJ<|AzD @Ar1<|AzD @Api<|AzD @Ar8<|AzD @AnB<|AzD @AvH<|AzD @AuS<|AzD @AnP<|AzD @Atb<|AzD @AlP<|AzD @Aik<|AzD @AgX<|AzD @Awi<|AzD @Wx<|AzD @Aly<|AzD @At9<|AzD @Ak1<|AzD @Ast<|AzD @Ap6<|AzD @Aq8<|AzD @AqH<|AzD @Arw<|AzD @Asj<|AzD @AqX<|AzD @AvR<|AzD @AsB<|AzD @AnI<|AzD @As8<|AzD @AjU<|AzD @AnR<|AzD @Aln<|AzD @Aov<|AzD @Ao6<|AzD @AnM<|AzD @Ali<|AzD @AtN<|AzD @AtE<|AzD @Axk<|AzD @Axm<|AzD @As1<|AzD @Are<|AzD @wr0<|AzD @wr1<|AzD @sf0<|AzD @sf1<|AzD @sf2<|AzD @sf3<|AzD @sf4<|AzD @of0<|AzD @of1<|AzD @of2<|AzD @of3<|AzD @of6<|AzD @Av9<|AzD @ApY<|AzD @Awr<|AzD @sc3<|AzD @Axl<|AzD @Av5<|AzD @AuW<|AzD @AuY<|AzD @AtR<|AzD @AkP<|AzD @AwE<|AzD @AwV<|AzD @Aw1<|AzD @Aw9<|AzD @Avc<|AzD @fk0<|AzD @fk1<|AzD @AqI<|AzD @AsT<|AzD @nb3<|AzD @nb4<|AzD @nb7<|AzD @nl3<|AzD @ArF<|AzD @AuQ<|AzD @Auj<|AzD @At5<|AzD @Aki<|AzD @Lx<|AzD @Awm<|AzD @AwD<|AzD @Axg<|AzD @Axi<|AzD @AwZ<|AzD @AwC<|AzD @AtI<|AzD @Avo<|AzD @Awv<|AzD @Awp<|AzD @AwN<|AzD @Awk<|AzD @Awq<|AzD @AwQ<|AzD @Aut<|AzD @Avr<|AzD @AuU<|AzD @AuM<|AzD @Axh<|AzD @ch0<|AzD @ch1<|AzD @dj0<|AzD @djn<|AzD @dj1<|AzD @an0<|AzD @an1<|AzD @AwP<|AzD @AtS<|AzD @AtY<|AzD @AwK<|AzD @Awj<|AzD @Aw5<|AzD @Awc<|AzD @Awb<|AzD @AtQ<|AzD @AuZ<|AzD @Auq<|AzD @Auk<|AzD @Au7<|AzD @Bs<|AzD @Awl<|AzD @Awu<|AzD @Axd<|AzD @AmQ<|AzD @AoJ<|AzD @Am9<|AzD @AmG<|AzD @Aux<|AzD @Amh<|AzD @Ard<|AzD @Aop<|AzD @Aqr<|AzD @Aun<|AzD @Aof<|AzD @AsD<|AzD @AoG<|AzD @Aq9<|AzD @Awx<|AzD @AwG<|AzD @Ar6<|AzD @AjL<|AzD @AoH<|AzD @Aui<|AzD @AhF<|AzD @GZ<|@gen_val'
def Ev (f:FuncId) (args:List IV) (w:FV):Prop:=∃N,∀n,N<=n->AS (SS dt n f args ⟨[],[]⟩) w
theorem Bc {F:(List IV->Hp->Option (IV×Hp))->List IV->Hp->Option (IV×Hp)} {Q:Option (IV×Hp)->Prop} (P:Nat->List IV->Hp->Prop)
  (step:∀k V H rec,P k V H->(∀k' V' H',k' < k->P k' V' H'->Q (rec V' H'))->Q (F rec V H)):∀m k V H,k<m->P k V H->Q (BY m F V H):=by
 intro m
 induction m with
 | zero=>intro k V H h;omega
 | succ m ih=>intro k V H hk hP;exact step k V H (BY m F) hP fun k' V' H' h1 h2=>ih k' V' H' (by omega) h2
mutual
def Tm.wt:Tm->Nat
 | .mk _ _ l=>1+Tm.wtL l
def Tm.wtL:List Tm->Nat
 | []=>0
 | t::l=>t.wt+Tm.wtL l
end
theorem CL {t:Tm}:∀{l:List Tm},t∈l->t.wt<=Tm.wtL l
 | a::l,h=>by
  rcases List.mem_cons.1 h with rfl | h
  ·simp only [Tm.wtL];omega
  ·have:=CL h;simp only [Tm.wtL];omega
theorem DB:∀(l:List Tm),l.length<=Tm.wtL l
 | []=>Nat.zero_le _
 | (.mk _ _ k)::l=>by have:=DB l;simp only [Tm.wtL,Tm.wt,AzI];omega
theorem Cv (t:Tm):0<t.wt:=by cases t;simp only [Tm.wt];omega
theorem Ah (op n:Int) (l:List Tm):(Tm.mk op n l).enc=.agg [.int .i64 op,.int .i64 n,.sl (l.map Tm.enc)]:=by simp only [Tm.enc,Af2]
theorem AN {l:List Tm} {i:Nat} {op n:Int} {k:List Tm} (h:l[i]?=some (.mk op n k)):(l.map Tm.enc)[i]?=some (.agg [.int .i64 op,.int .i64 n,.sl (k.map Tm.enc)]):=by
 rw [List.getElem?_map,h,AzH,Ah]
theorem Cw {α:Type} {l pre rest:List α} {a:α} (h:l=pre++a::rest):l[pre.length]?=some a:=by
 rw [h,List.getElem?_append_right (Nat.le_refl _),Nat.sub_self];rfl
theorem Cg (a b c:FV):(FV.agg [a,b,c]).cells=[a,b,c]:=rfl
theorem Bb (a b c:FV):(FV.agg [a,b,c]).cells.length=3:=rfl
section
variable {β:Type} {E:Env}
def Aje (b:Blk) (n sz:Nat) (x:Option β):Option β:=match b with
 | .tok a s=>if a=n/\s=sz then x else none
 | _=>none
theorem FR (n sz:Nat) (x:Option β):Aje (.tok n sz) n sz x=x:=by
 show (if n=n/\sz=sz then x else none)=x
 rw [if_pos ⟨rfl,rfl⟩]
inductive Plain2:IV->List FV->Prop
 | clip (es:List FV):Plain2 (.clip es) es
 | sl (es:List FV):Plain2 (.fv (.sl es)) es
 | app (r:Ref) (es:List FV):Plain2 (.app r es) es
theorem Lq {x:IV} {es:List FV} (h:Plain2 x es):C0 4096 x=.ret (.sl es,[]):=by cases h<;>rfl
structure SliceT (E:Env) (t:TypeId) (size:Nat):Prop where
 h:∃a b e z ei,E.T t=some ⟨a,b,.slice e,z⟩/\E.T e=some ei/\ei.size=size/\size≠0/\ei.bytes<=100000
theorem F5 {t:TypeId} {size:Nat} (T:SliceT E t size) {x:IV} {es2:List FV} (hx:Plain2 x es2) (h1:Be size es2=true) (hne:es2.isEmpty=false) (hb:es2.length<=1000000) {s0:IV} (hs:s0=.nils\/s0=.clip []) (s:Nat) (own:List (Nat×Blk)) (ext:List Blk)
  (k:IV->Hp->List Ref->List Ref->Option β):AE (AJ E s false .append [t,t] [s0,x]) s ⟨own,ext⟩ k=CY own s (Bk own s (.tok es2.length size) fun own=>k (.app (.own s) es2) ⟨own,ext⟩ [] [.own s]):=by
 obtain ⟨a,b,e,z,ei,hT,he,rfl,h0,hby⟩:=T.h;have hlen:¬ (Be ei.size []=false\/(([]:List FV).length+es2.length) * ei.bytes > 140737488355328\/([]:List FV).length+es2.length > 1073741824):=by
  have:es2.length * ei.bytes<=1000000 * 100000:=Nat.mul_le_mul hb hby
  rintro (h | h | h)
  ·cases h
  ·simp only [List.length_nil,Nat.zero_add] at h;omega
  ·simp only [List.length_nil,Nat.zero_add] at h;omega
 have key:AJ E s false .append [t,t] [s0,x]=.ret { eff:={ val:=.app (.own s) es2,upd:=[] },new:=some (.tok es2.length ei.size) }:=by
  show Cr E s t (some t) false s0 x=_
  simp only [Cr,hT,Option.bind_some,he,Lq hx,Rd.bind,h0,h1,false_or,Bool.true_eq_false,if_false];rcases hs with rfl | rfl<;>simp only [BU,if_neg hlen,hne,List.nil_append,Bool.false_eq_true,if_false]
 rw [key];unfold AE;simp only [Rd.runLog]
 show (Lc (some (.tok es2.length ei.size)) s ⟨own,ext⟩ fun h=>fV 3 (.app (.own s) es2) fun v=>k v h [] ([]++[.own s]))=_
 simp only [Lc,CW,Cx];rfl
theorem Aca {t:TypeId} {size:Nat} (T:SliceT E t size) {x:IV} (hx:Plain2 x []) {s0:IV} (hs:s0=.nils\/s0=.clip []) (s:Nat) (h:Hp) (k:IV->Hp->List Ref->List Ref->Option β) :
  AE (AJ E s false .append [t,t] [s0,x]) s h k=k s0 h [] []:=by
 obtain ⟨a,b,e,z,ei,hT,he,rfl,h0,hby⟩:=T.h;have hlen:¬ (Be ei.size []=false\/(([]:List FV).length+([]:List FV).length) * ei.bytes > 140737488355328\/([]:List FV).length+([]:List FV).length > 1073741824):=by
  rintro (h | h | h)
  ·cases h
  ·simp at h
  ·simp at h
 have key:AJ E s false .append [t,t] [s0,x]=.ret { eff:={ val:=s0,upd:=[] } }:=by
  show Cr E s t (some t) false s0 x=_
  have h1:Be ei.size []=true:=rfl;simp only [Cr,hT,Option.bind_some,he,Lq hx,Rd.bind,h0,h1,false_or,Bool.true_eq_false,if_false];rcases hs with rfl | rfl
  ·simp only [BU];rw [if_neg hlen];simp
  ·simp only [BU];rw [if_neg hlen];simp
 rw [key];exact GZ s0 s h k
theorem Nn {t:TypeId} {size:Nat} (T:SliceT E t size) {x:IV} {es es2:List FV} (hx:Plain2 x es2) (h1:Be size es2=true) (h2:Be size es=true) (ho:(es2.all fun e=>e.cells.all FV.one)=true) (hb:es.length+es2.length<=1000000) (r s:Nat)
  (own:List (Nat×Blk)) (ext:List Blk) (k:IV->Hp->List Ref->List Ref->Option β):AE (AJ E s false .append [t,t] [.app (.own r) es,x]) s ⟨own,ext⟩ k =
   Jo own r fun b=>Aje b es.length size (Bk own r (.tok (es.length+es2.length) size) fun own=>k (.app (.own r) (es++es2)) ⟨own,ext⟩ [.own r] [.own r]):=by
 obtain ⟨a,b,e,z,ei,hT,he,rfl,h0,hby⟩:=T.h;have hlen:¬ (Be ei.size es=false\/(es.length+es2.length) * ei.bytes > 140737488355328\/es.length+es2.length > 1073741824):=by
  have:(es.length+es2.length) * ei.bytes<=1000000 * 100000:=Nat.mul_le_mul hb hby
  rintro (h | h | h)
  ·rw [h2] at h;cases h
  ·omega
  ·omega
 have key:(AJ E s false .append [t,t] [.app (.own r) es,x]).runLog ⟨own,ext⟩ []=(Aw r own).bind fun b=>match b with
   | .tok n sz=>if n=es.length/\sz=ei.size then some ({ eff:={ val:=.app (.own r) (es++es2),upd:=[(.own r,.tok (n+es2.length) sz)] } },[.own r]) else none
   | _=>none:=by
  show (Cr E s t (some t) false (.app (.own r) es) x).runLog _ _=_
  simp only [Cr,hT,Option.bind_some,he,Lq hx,Rd.bind,h0,h1,false_or,Bool.true_eq_false,if_false,BU,if_neg hlen,Rd.runLog,ho,and_true]
  show (match Aw r own with | some b=>_ | none=>none)=_
  cases Aw r own with
  | none=>rfl
  | some b =>
   cases b with
   | tok n sz =>
    simp only [Option.bind_some];by_cases hc:n=es.length/\sz=ei.size
    ·rw [if_pos hc,if_pos hc];rfl
    ·rw [if_neg hc,if_neg hc];rfl
   | _=>rfl
 unfold AE;rw [key,EX];cases hl:Aw r own with
 | none=>simp
 | some b =>
  simp only [Option.bind_some];cases b with
  | tok n sz =>
   simp only [Aje];by_cases hc:n=es.length/\sz=ei.size
   ·rw [if_pos hc,if_pos hc];obtain ⟨rfl,rfl⟩:=hc
    show (fRf (.own r) fun q=>EA q ⟨own,ext⟩ fun _=>fBk (.tok (es.length+es2.length) ei.size) fun b=>GD q b ⟨own,ext⟩ fun h=>Lc none s h fun h=>fV 3 (.app (.own r) (es++es2)) fun v=>k v h [.own r] ([.own r]++[]))=_
    simp only [QH,CW,Cx,Lc,GD,EA];rw [EX,hl];rfl
   ·rw [if_neg hc,if_neg hc]
  | row _ _=>rfl
  | map _=>rfl
end
end Idl
end Go.Proofs.Ytdibmackcbpniaa
namespace Go.Proofs.Ytdibmackcbpniaa
namespace Idl
theorem Pb:EE.T 28=some ⟨1,24,.slice 30,[.nils]⟩:=by kernel_rfl
theorem tTm:EE.T 30=some ⟨3,40,.struct [(0,3),(1,3),(2,28)],[.fv (.int .i64 0),.fv (.int .i64 0),.nils]⟩:=by kernel_rfl
theorem sTm:SliceT EE 28 3:=⟨_,_,_,_,_,Pb,tTm,rfl,by decide,by decide⟩
theorem I9 (a:Tm) (s:Nat) (h:Hp) (k:IV->Hp->List Ref->List Ref->Option (IV×Hp)):AE (An EE 28 1 [(0,.fv a.enc)]) s h k=k (.clip [a.enc]) h [] []:=by
 obtain ⟨o1,n1,k1⟩:=a;exact Dr Pb tTm (by decide) (cells:=[.int .i64 o1,.int .i64 n1,.sl (Tm.enc.encL k1)]) rfl k
theorem Aq0 (a b:Tm) (s:Nat) (h:Hp) (k:IV->Hp->List Ref->List Ref->Option (IV×Hp)):AE (An EE 28 2 [(0,.fv a.enc),(1,.fv b.enc)]) s h k=k (.clip [a.enc,b.enc]) h [] []:=by
 obtain ⟨o1,n1,k1⟩:=a;obtain ⟨o2,n2,k2⟩:=b;exact Dr Pb tTm (by decide) (cells:=[.int .i64 o1,.int .i64 n1,.sl (Tm.enc.encL k1),.int .i64 o2,.int .i64 n2,.sl (Tm.enc.encL k2)]) rfl k
theorem Amw (a:Tm):a.enc.cells.length=3:=by cases a;rfl
theorem Abc (a:Tm):a.enc.cells.all FV.one=true:=by cases a;rfl
theorem CO (l:List Tm):Be 3 (l.map Tm.enc)=true:=by
 cases l with
 | nil=>rfl
 | cons a l=>simp only [AzK,Be,Amw,beq_self_eq_true]
theorem Rk (e:Tm) (s:Nat) (own:List (Nat×Blk)) (ext:List Blk) (k:IV->Hp->List Ref->List Ref->Option (IV×Hp)) :
  AE (AJ EE s false .append [28,28] [.nils,.clip [e.enc]]) s ⟨own,ext⟩ k=CY own s (Bk own s (.tok 1 3) fun own=>k (.app (.own s) [e.enc]) ⟨own,ext⟩ [] [.own s]) :=
 F5 sTm (.clip _) (CO [e]) rfl (by simp) (.inl rfl) s own ext k
theorem Ke {es:List Tm} (hb:es.length+1<=1000000) (e:Tm) (r s:Nat) (own:List (Nat×Blk)) (ext:List Blk) (k:IV->Hp->List Ref->List Ref->Option (IV×Hp)) :
  AE (AJ EE s false .append [28,28] [.app (.own r) (es.map Tm.enc),.clip [e.enc]]) s ⟨own,ext⟩ k =
   Jo own r fun b=>Aje b es.length 3 (Bk own r (.tok (es.length+1) 3) fun own=>k (.app (.own r) ((es++[e]).map Tm.enc)) ⟨own,ext⟩ [.own r] [.own r]):=by
 rw [Nn sTm (.clip [e.enc]) (CO [e]) (CO es) (by simp [Abc]) (by simpa using hb) r s own ext k];simp only [List.length_map,List.map_append,AzK,AzJ,AzI,List.length_nil,Nat.zero_add]
theorem WO {x m:Int} (h1:0<m) (h2:m<=4611686018427387904):(if x.tmod m<0 then BD (x.tmod m+m) else x.tmod m)=x % m:=by
 have a1:=Int.emod_nonneg x (show m≠0 by omega)
 have a2:=Int.emod_lt_of_pos x h1;have e1:x.tmod m=x - m * x.tdiv m:=by have:=Int.mul_tdiv_add_tmod x m;omega
 have e2:x % m=x - m * (x / m):=by have:=Int.mul_ediv_add_emod x m;omega
 have b1:-m<x.tmod m:=Int.lt_tmod_of_pos x h1;have b2:x.tmod m<m:=Int.tmod_lt_of_pos x h1;have key:∃q,x.tmod m=x % m+m * q:=⟨x / m - x.tdiv m,by rw [e1,e2,Int.mul_sub];omega⟩;obtain ⟨q,hq⟩:=key;have hq2:q=0\/q=-1:=by
  rcases Int.lt_trichotomy q 0 with h | h | h
  ·right;rcases Int.lt_trichotomy q (-1) with h' | h' | h'
   ·have:m * q<=m * (-2):=Int.mul_le_mul_of_nonneg_left (by omega) (by omega)
    omega
   ·exact h'
   ·omega
  ·exact .inl h
  ·have:m * 1<=m * q:=Int.mul_le_mul_of_nonneg_left (by omega) (by omega)
   omega
 rcases hq2 with rfl | rfl
 ·rw [if_neg (by omega)];omega
 ·rw [if_pos (by omega),Az (by omega) (by omega)];omega
theorem As {n:Nat} (hn:0<n) (x:Int) {m:Int} (h1:0<m) (h2:m<=4611686018427387904):AS (SS dt n 41 [iv x,iv m] ⟨[],[]⟩) (.int .i64 (x % m)):=by
 obtain ⟨n,rfl⟩:=Nat.exists_eq_add_of_lt hn;rw [Nat.zero_add,c41];simp only [S41,↓XX,XY,↓reduceIte,Nat.reduceBEq,Nat.reduceAdd,Int.reduceEq,Int.reduceLT,Int.reduceLE,↓Lx (show m≠0 by omega)]
 rw [<- WO h1 h2];by_cases hc:x.tmod m<0<;>simp only [hc,if_true,if_false]<;>exact Al _ _
theorem BI {n:Nat} (hn:0<n) (op:Int):AS (SS dt n 30 [iv op,.fv (.sl [])] ⟨[],[]⟩) (Tm.mk op 0 []).enc:=by
 obtain ⟨n,rfl⟩:=Nat.exists_eq_add_of_lt hn;rw [Nat.zero_add,c30];simp only [S30,↓XX,XY,↓reduceIte,Nat.reduceBEq,Nat.reduceAdd,Int.reduceEq,Int.reduceLT,Int.reduceLE];exact Al _ _
theorem CP {n:Nat} (hn:0<n) (op:Int) (l:List Tm):AS (SS dt n 30 [iv op,.fv (.sl (l.map Tm.enc))] ⟨[],[]⟩) (Tm.mk op 0 l).enc:=by
 obtain ⟨n,rfl⟩:=Nat.exists_eq_add_of_lt hn;rw [Nat.zero_add,c30];simp only [S30,↓XX,XY,↓reduceIte,Nat.reduceBEq,Nat.reduceAdd,Int.reduceEq,Int.reduceLT,Int.reduceLE,Ah];exact Al _ _
def Tm.kids:Tm->List Tm
 | .mk _ _ l=>l
def Tm.op:Tm->Int
 | .mk o _ _=>o
def Tm.n:Tm->Int
 | .mk _ n _=>n
def Tm.pick (r:Tm) (i:Nat):Tm:=match r.kids[i]? with
 | some k=>k
 | none=>.mk (BD (BD (r.op.tdiv 3)+i)) (BD (BD (r.n.tdiv 5)+BD (7 * i))) []
theorem AM {n:Nat} (hn:0<n) (r:Tm) (i:Nat):AS (SS dt n 42 [.fv r.enc,iv i] ⟨[],[]⟩) (r.pick i).enc:=by
 obtain ⟨n,rfl⟩:=Nat.exists_eq_add_of_lt hn;rw [Nat.zero_add,c42];obtain ⟨op,m,ks⟩:=r;rw [Ah];simp only [Tm.pick,Tm.kids,Tm.op,Tm.n];cases hk:ks[i]? with
 | some k =>
  have hi:(i:Int)<ks.length:=by have:=(List.getElem?_eq_some_iff.1 hk).1;omega
  obtain ⟨o,p,l⟩:=k;simp only [XU,Xu,XN,Xx,S42,↓XX,XY,↓reduceIte,Nat.reduceBEq,Nat.reduceAdd,Int.reduceEq,Int.reduceLT,Int.reduceLE,hi,↓Bs (AN hk) (Bb _ _ _),↓Cg,Ah];exact Al _ _
 | none =>
  have hi:¬ (i:Int)<ks.length:=by have:=List.getElem?_eq_none_iff.1 hk;omega
  simp only [XU,Xu,XN,Xx,S42,↓XX,XY,↓reduceIte,Nat.reduceBEq,Nat.reduceAdd,Int.reduceEq,Int.reduceLT,Int.reduceLE,hi,↓Aki (show (3:Int)≠0 by decide),↓Aki (show (5:Int)≠0 by decide)]
  exact A3 rfl _
section
variable {β:Type}
def Cl (s:Nat):IV->Bool
 | .ptr (.own j) _=>s == j
 | .slc (.own j) _ _=>s == j
 | .app (.own j) _=>s == j
 | .mapr (.own j)=>s == j
 | _=>false
def Fl:IV->Bool
 | .agg _ | .tuple _ | .func ..=>false
 | _=>true
def E9 (s:Nat):Blk->Bool
 | .row cells _=>cells.any (Cl s)
 | _=>false
def VR:Blk->Bool
 | .row cells _=>cells.all Fl
 | .tok ..=>true
 | .map _=>false
theorem Ag2 {v:IV} (h:Fl v=true) (s:Nat):(Ref.own s∈v.refs) ↔ Cl s v=true:=by
 cases v with
 | ptr r o=>cases r<;>simp [IV.refs,Cl]
 | slc r a b=>cases r<;>simp [IV.refs,Cl]
 | app r es=>cases r<;>simp [IV.refs,Cl]
 | mapr r=>cases r<;>simp [IV.refs,Cl]
 | agg _=>cases h
 | tuple _=>cases h
 | func _ _ _=>cases h
 | _=>simp [IV.refs,Cl]
theorem Jc:∀{l:List IV},l.all Fl=true->∀s,(Ref.own s∈IV.refs.refsL l) ↔ l.any (Cl s)=true
 | [],_,s=>by simp [IV.refs.refsL]
 | v::l,h,s=>by
  rw [List.all_cons,Bool.and_eq_true] at h;rw [IV.refs.refsL,List.mem_append,List.any_cons,Bool.or_eq_true,Ag2 h.1,Jc h.2]
theorem DM {b:Blk} (h:VR b=true) (s:Nat):(Ref.own s∈b.refs) ↔ E9 s b=true:=by
 cases b with
 | row cells ro=>exact Jc h s
 | tok n sz=>simp [Blk.refs,E9]
 | map es=>cases h
theorem Ip (s:Nat):∀l:List Ref,anyIn [s] l=true ↔ Ref.own s∈l
 | []=>by simp [anyIn]
 | .own k::l=>by
  rw [anyIn,Bool.or_eq_true,Ip s l,List.mem_cons];simp [eq_comm]
 | .ext k::l=>by
  rw [anyIn,Ip s l,List.mem_cons];simp
def heldB (rm:List Nat) (vals:List IV) (own:List (Nat×Blk)) (ext:List Blk) (s:Nat):Bool :=
 vals.any (Cl s) || (own.any (fun p=>!rm.contains p.1 && E9 s p.2) || ext.any (E9 s))
def I6 (rm:List Nat) (vals:List IV) (own:List (Nat×Blk)) (ext:List Blk):List (Nat×Blk):=own.filter fun p=>!rm.contains p.1 || heldB rm vals own ext p.1
def AT (rm:List Nat) (vals:List IV) (own:List (Nat×Blk)) (ext:List Blk):Bool :=
 vals.all Fl && (own.all (fun p=>VR p.2) && (ext.all VR && own.all fun p=>!rm.contains p.1 || rm.all fun s=>!E9 s p.2))
theorem Vd {rm:List Nat} {vals:List IV} {own:List (Nat×Blk)} {ext:List Blk} (hf:AT rm vals own ext=true) (s:Nat) :
  Ref.own s∈IV.refs.refsL vals++(own.filter fun p=>!rm.contains p.1).flatMap (fun p=>p.2.refs)++ext.flatMap Blk.refs ↔ heldB rm vals own ext s=true:=by
 simp only [AT,Bool.and_eq_true] at hf;obtain ⟨h1,h2,h3,_⟩:=hf;have e1:Ref.own s∈(own.filter fun p=>!rm.contains p.1).flatMap (fun p=>p.2.refs) ↔ (own.any fun p=>!rm.contains p.1 && E9 s p.2)=true:=by
  rw [List.mem_flatMap,List.any_eq_true];constructor
  ·rintro ⟨p,hp,hr⟩;obtain ⟨hp1,hp2⟩:=List.mem_filter.1 hp;exact ⟨p,hp1,by rw [hp2,(DM (List.all_eq_true.1 h2 p hp1) s).1 hr];rfl⟩
  ·rintro ⟨p,hp,hr⟩;rw [Bool.and_eq_true] at hr;exact ⟨p,List.mem_filter.2 ⟨hp,hr.1⟩,(DM (List.all_eq_true.1 h2 p hp) s).2 hr.2⟩
 have e2:Ref.own s∈ext.flatMap Blk.refs ↔ ext.any (E9 s)=true:=by
  rw [List.mem_flatMap,List.any_eq_true];constructor
  ·rintro ⟨p,hp,hr⟩;exact ⟨p,hp,(DM (List.all_eq_true.1 h3 p hp) s).1 hr⟩
  ·rintro ⟨p,hp,hr⟩;exact ⟨p,hp,(DM (List.all_eq_true.1 h3 p hp) s).2 hr⟩
 rw [List.mem_append,List.mem_append,Jc h1,e1,e2,heldB,Bool.or_eq_true,Bool.or_eq_true,or_assoc]
theorem AL {base rm:List Nat} {vals:List IV} {own:List (Nat×Blk)} {ext:List Blk} (hb:rm.any base.contains=false) (hf:AT rm vals own ext=true) (k:Hp->Option β) :
  BZ base rm vals ⟨own,ext⟩ k=k ⟨I6 rm vals own ext,ext⟩:=by
 have hm:=Vd hf;have hf0:=hf;simp only [AT,Bool.and_eq_true] at hf0;obtain ⟨g1,g2,g3,g4⟩:=hf0;unfold BZ;rw [hb];simp only [cond_false];rw [L2];cases ha:(own.all fun p=>!rm.contains p.1) with
 | true =>
  simp only [Bool.not_true,cond_false];congr 2
  symm
  apply List.filter_eq_self.2;intro p hp;rw [List.all_eq_true.1 ha p hp];rfl
 | false =>
  simp only [Bool.not_false,cond_true];have slow:(match CN base [] rm ⟨vals,⟨own,ext⟩⟩ with | none=>none | some S=>fH S.hp k)=k ⟨I6 rm vals own ext,ext⟩:=by
   have hgone:(rm.filter fun k=>!anyIn [k] (IV.refs.refsL vals++(own.filter fun p=>!rm.contains p.1).flatMap (fun p=>p.2.refs)++ext.flatMap Blk.refs))=rm.filter fun s=>!heldB rm vals own ext s:=by
    apply List.filter_congr;intro s _;congr 1;exact Bool.eq_iff_iff.2 ((Ip s _).trans (hm s))
   have hown:(own.filter fun p=>!(rm.filter fun s=>!heldB rm vals own ext s).contains p.1)=I6 rm vals own ext:=by
    apply List.filter_congr;intro p _;rw [Bool.eq_iff_iff];simp only [Bool.not_eq_true',Bool.or_eq_true,List.contains_eq_mem,decide_eq_false_iff_not,List.mem_filter];constructor
    ·intro h;by_cases h1:p.1∈rm
     ·right;cases hh:heldB rm vals own ext p.1 with
      | true=>rfl
      | false=>exact absurd ⟨h1,hh⟩ h
     ·exact .inl h1
    ·rintro (h | h) ⟨h1,h2⟩
     ·exact h h1
     ·rw [h] at h2;exact absurd h2 (by simp)
   simp only [CN,hb,Bool.false_eq_true,if_false,AV,ha,hgone,hown];have hnone:anyIn (rm.filter fun s=>!heldB rm vals own ext s) (C4 ⟨vals,⟨I6 rm vals own ext,ext⟩⟩)=false:=by
    apply DN;intro s hs hmem;obtain ⟨hs1,hs2⟩:=List.mem_filter.1 hs;have hs2:heldB rm vals own ext s=false:=by simpa using hs2
    simp only [C4,List.mem_append] at hmem;rcases hmem with (hmem | hmem) | hmem
    ·have:=(hm s).1 (List.mem_append_left _ (List.mem_append_left _ hmem))
     rw [this] at hs2;cases hs2
    ·obtain ⟨p,hp,hr⟩:=List.mem_flatMap.1 hmem;have hp1:=(List.mem_filter.1 hp).1;have hn:=(DM (List.all_eq_true.1 g2 p hp1) s).1 hr;have h4:=List.all_eq_true.1 g4 p hp1;cases hc:rm.contains p.1 with
     | true =>
      rw [hc] at h4;have h4:(rm.all fun s=>!E9 s p.2)=true:=h4;have h5:=List.all_eq_true.1 h4 s hs1;rw [hn] at h5;cases h5
     | false =>
      have:=(hm s).1 (List.mem_append_left _ (List.mem_append_right _ (List.mem_flatMap.2 ⟨p,List.mem_filter.2 ⟨hp1,by rw [hc];rfl⟩,hr⟩)))
      rw [this] at hs2;cases hs2
    ·have:=(hm s).1 (List.mem_append_right _ hmem)
     rw [this] at hs2;cases hs2
   simp only [hnone,Bool.false_eq_true,if_false,KK]
  cases hff:(and (E4 rm (CJ vals [])) (and (HD rm own) (I1 rm ext))) with
  | false=>exact slow
  | true =>
   have hff:(E4 rm (CJ vals []) && (HD rm own && I1 rm ext))=true:=hff;simp only [Bool.and_eq_true] at hff;simp only [HE,cond_true];congr 2;apply List.filter_congr;intro p hp;cases hc:rm.contains p.1 with
   | false=>rfl
   | true =>
    have h1:=Fb hff.1;rw [refsDL_eq,List.append_nil] at h1;have h2:=Hc hff.2.1;have h3:=M7 hff.2.2
    have:heldB rm vals own ext p.1=false:=by
     cases hh:heldB rm vals own ext p.1 with
     | false=>rfl
     | true =>
      have:=(hm p.1).2 hh
      have hpm:p.1∈rm:=List.contains_iff_mem.1 hc;rcases List.mem_append.1 this with h | h
      ·rcases List.mem_append.1 h with h | h
       ·exact absurd h (h1 _ hpm)
       ·exact absurd h (h2 _ hpm)
      ·exact absurd h (h3 _ hpm)
    rw [this];rfl
end
section
variable (s j:Nat)
theorem Axb (rm:List Nat) (vals:List IV) (own:List (Nat×Blk)) (ext:List Blk):I6 rm vals own ext=own.filter fun p=>!rm.contains p.1 || heldB rm vals own ext p.1:=rfl
theorem nv1 (o:Nat):Cl s (.ptr (.own j) o)=(s == j):=rfl
theorem nv2 (a b:Nat):Cl s (.slc (.own j) a b)=(s == j):=rfl
theorem nv3 (es:List FV):Cl s (.app (.own j) es)=(s == j):=rfl
theorem nv4 (v:FV):Cl s (.fv v)=false:=rfl
theorem nv5:Cl s .nils=false:=rfl
theorem nv6 (es:List FV):Cl s (.clip es)=false:=rfl
theorem nv7 (o:Nat):Cl s (.ptr (.ext j) o)=false:=rfl
theorem nv8:Cl s .dead=false:=rfl
theorem nb1 (cs:List IV) (ro:Bool):E9 s (.row cs ro)=cs.any (Cl s):=rfl
theorem nb2 (a b:Nat):E9 s (.tok a b)=false:=rfl
theorem Awn (r:Ref) (o:Nat):Fl (.ptr r o)=true:=rfl
theorem Axp (r:Ref) (a b:Nat):Fl (.slc r a b)=true:=rfl
theorem AwX (r:Ref) (es:List FV):Fl (.app r es)=true:=rfl
theorem AwA (v:FV):Fl (.fv v)=true:=rfl
theorem Awz:Fl .nils=true:=rfl
theorem Axo (es:List FV):Fl (.clip es)=true:=rfl
theorem Aw2:Fl .dead=true:=rfl
theorem Axq (cs:List IV) (ro:Bool):VR (.row cs ro)=cs.all Fl:=rfl
theorem fb_2 (a b:Nat):VR (.tok a b)=true:=rfl
end
def XD:=AzD @Axb<|AzD @nv1<|AzD @nv2<|AzD @nv3<|AzD @nv4<|AzD @nv5<|AzD @nv6<|AzD @nv7<|AzD @nv8<|AzD @nb1<|AzD @nb2<|AzD @Awn<|AzD @Axp<|AzD @AwX<|AzD @AwA<|AzD @Awz<|AzD @Axo<|AzD @Aw2<|AzD @Axq<|@fb_2
end Idl
end Go.Proofs.Ytdibmackcbpniaa
namespace Go.Proofs.Ytdibmackcbpniaa
namespace Idl
def Am (op:Int) (i:Nat):Nat :=
 if op=3\/op=4\/op=6\/op=20\/op=28\/op=29 then (if i=1 then 1 else 0) else if op=13 then (if i=0 then 1 else if i=2 then 2 else 0) else 0
theorem Bm (op:Int) (i:Nat):Am op i<=2:=by
 unfold Am
 repeat' split
 all_goals omega
theorem DR {n:Nat} (hn:0<n) (op:Int) (i:Nat):AS (SS dt n 48 [iv op,iv i] ⟨[],[]⟩) (.int .i64 (Am op i)):=by
 obtain ⟨n,rfl⟩:∃k,n=k+1:=⟨n - 1,by omega⟩;rw [c48];unfold Am;by_cases h:op=3\/op=4\/op=6\/op=20\/op=28\/op=29
 ·rw [if_pos h];by_cases hi:i=1
  ·subst hi;rcases h with rfl | rfl | rfl | rfl | rfl | rfl<;>(simp only [↓UU8,↓XX,XY,↓reduceIte,Nat.reduceBEq,Nat.reduceAdd,Int.reduceEq,Int.reduceLT,Int.reduceLE];exact Al _ _)
  ·have hi':¬ (i:Int)=1:=by omega
   rcases h with rfl | rfl | rfl | rfl | rfl | rfl<;>(simp only [↓UU8,↓XX,XY,↓reduceIte,Nat.reduceBEq,Nat.reduceAdd,Int.reduceEq,Int.reduceLT,Int.reduceLE,hi',hi];exact Al _ _)
 ·rw [if_neg h];have h3:¬ op=3:=fun e=>h (by simp [e]);have h4:¬ op=4:=fun e=>h (by simp [e]);have h6:¬ op=6:=fun e=>h (by simp [e]);have h20:¬ op=20:=fun e=>h (by simp [e]);have h28:¬ op=28:=fun e=>h (by simp [e]);have h29:¬ op=29:=fun e=>h (by simp [e]);by_cases h13:op=13
  ·subst h13;by_cases hi:i=0
   ·subst hi;simp only [↓UU8,↓XX,XY,↓reduceIte,Nat.reduceBEq,Nat.reduceAdd,Int.reduceEq,Int.reduceLT,Int.reduceLE];exact Al _ _
   ·have hi':¬ (i:Int)=0:=by omega
    by_cases hj:i=2
    ·subst hj;simp only [↓UU8,↓XX,XY,↓reduceIte,Nat.reduceBEq,Nat.reduceAdd,Int.reduceEq,Int.reduceLT,Int.reduceLE];exact Al _ _
    ·have hj':¬ (i:Int)=2:=by omega
     simp only [↓UU8,↓XX,XY,↓reduceIte,Nat.reduceBEq,Nat.reduceAdd,Int.reduceEq,Int.reduceLT,Int.reduceLE,hi,hi',hj,hj'];exact Al _ _
  ·simp only [↓UU8,↓XX,XY,↓reduceIte,Nat.reduceBEq,Nat.reduceAdd,Int.reduceEq,Int.reduceLT,Int.reduceLE,h3,h4,h6,h20,h28,h29,h13];exact Al _ _
theorem AqP {n:Nat} (hn:0<n) (x:Int):AS (SS dt n 29 [iv x] ⟨[],[]⟩) (Tm.mk 1 x []).enc:=by
 obtain ⟨n,rfl⟩:∃k,n=k+1:=⟨n - 1,by omega⟩;rw [c29];simp only [S29,↓XX,XY,↓reduceIte,Nat.reduceBEq,Nat.reduceAdd,Int.reduceEq,Int.reduceLT,Int.reduceLE];exact A3 rfl _
theorem Aip {n:Nat} (hn:0<n) (x:Int):AS (SS dt n 60 [iv x] ⟨[],[]⟩) (Tm.mk 2 x []).enc:=by
 obtain ⟨n,rfl⟩:∃k,n=k+1:=⟨n - 1,by omega⟩;rw [c60];simp only [S60,↓XX,XY,↓reduceIte,Nat.reduceBEq,Nat.reduceAdd,Int.reduceEq,Int.reduceLT,Int.reduceLE];exact A3 rfl _
theorem Ai9 {n:Nat} (hn:0<n) (x:Int):AS (SS dt n 31 [iv x] ⟨[],[]⟩) (Tm.mk 25 x []).enc:=by
 obtain ⟨n,rfl⟩:∃k,n=k+1:=⟨n - 1,by omega⟩;rw [c31];simp only [S31,↓XX,XY,↓reduceIte,Nat.reduceBEq,Nat.reduceAdd,Int.reduceEq,Int.reduceLT,Int.reduceLE];exact A3 rfl _
mutual
/-- No more than four kids anywhere. -/
def Tm.wk:Tm->Prop
 | .mk _ _ ks=>ks.length<=4/\Tm.wkL ks
def Tm.wkL:List Tm->Prop
 | []=>True
 | t::l=>t.wk/\Tm.wkL l
end
theorem Qf {t:Tm}:∀{l:List Tm},Tm.wkL l->t∈l->t.wk
 | a::l,h,hm=>by
  rw [Tm.wkL] at h;rcases List.mem_cons.1 hm with rfl | hm
  ·exact h.1
  ·exact Qf h.2 hm
mutual
def Tm.shift:Tm->Int->Int->Tm
 | .mk op n ks,d,c=>.mk op (if op=1/\c<=n then BD (n+d) else n) (Tm.shiftL op 0 ks d c)
def Tm.shiftL:Int->Nat->List Tm->Int->Int->List Tm
 | _,_,[],_,_=>[]
 | op,i,t::l,d,c=>t.shift d (c+Am op i)::Tm.shiftL op (i+1) l d c
end
theorem DK (op:Int) (d c:Int):∀(l:List Tm) (i:Nat),(Tm.shiftL op i l d c).length=l.length
 | [],_=>rfl
 | _::l,i=>by simp only [Tm.shiftL,AzI,DK op d c l]
theorem ND (op d c:Int):∀(l l':List Tm) (i:Nat),Tm.shiftL op i (l++l') d c=Tm.shiftL op i l d c++Tm.shiftL op (i+l.length) l' d c
 | [],l',i=>by simp [Tm.shiftL]
 | t::l,l',i=>by simp only [List.cons_append,Tm.shiftL,ND op d c l l',AzI];congr 3;omega
theorem CK:∀(n:Nat) (t:Tm) (d c:Int),t.wt+1<n->t.wk->0<=c->c+2 * t.wt<=4611686018427387904->AS (SS dt n 28 [.fv t.enc,iv d,iv c] ⟨[],[]⟩) (t.shift d c).enc:=by
 intro n
 induction n with
 | zero=>intro t d c h;omega
 | succ n ih =>
  intro t d c h hw hc0 hc;obtain ⟨op,m,ks⟩:=t;simp only [Tm.wt] at h hc;rw [Tm.wk] at hw;rw [c28,Ah];have hlen:=DB ks;have main:∀m',m'=(if op=1/\c<=m then BD (m+d) else m) ->
    AS (BY n (fun q28 l29 h30=>H9 l29 h30 (SS dt n) ⟨[],[]⟩ q28) [iv d,iv c,.ptr (.own 29360128) 0,.ptr (.own 29360129) 0,.ptr (.own 29361157) 0,iv 0]
     ⟨[(29360128,.row [iv op,iv m,.fv (.sl (ks.map Tm.enc))] false),(29360129,.row [iv 0,iv 0,.nils] false),(29361157,.row [iv op,iv m',.nils] false)],[]⟩) ((Tm.mk op m ks).shift d c).enc:=by
   intro m' hm';refine Bc (Q:=fun r=>AS r _) (fun k V H=>∃pre rest,ks=pre++rest/\rest.length=k/\V=[iv d,iv c,.ptr (.own 29360128) 0,.ptr (.own 29360129) 0,.ptr (.own 29361157) 0,iv pre.length] /\
    (
     (pre=[]/\H=⟨[(29360128,.row [iv op,iv m,.fv (.sl (ks.map Tm.enc))] false),(29360129,.row [iv 0,iv 0,.nils] false),(29361157,.row [iv op,iv m',.nils] false)],[]⟩) \/
     (pre≠[]/\H=⟨[(29360128,.row [iv op,iv m,.fv (.sl (ks.map Tm.enc))] false),(29360129,.row [iv 0,iv 0,.nils] false),(29361157,.row [iv op,iv m',.app (.own 29367312) ((Tm.shiftL op 0 pre d c).map Tm.enc)] false),(29367312,.tok (Tm.shiftL op 0 pre d c).length 3)],[]⟩)))
    ?_ n ks.length _ _ (by omega) ⟨[],ks,rfl,rfl,rfl,.inl ⟨rfl,rfl⟩⟩
   rintro k V H rec ⟨pre,rest,hk,hl,rfl,hH⟩ hrec;have hkl:ks.length=pre.length+rest.length:=by rw [hk];simp
   cases rest with
   | nil =>
    have hno:¬ ((pre.length:Int)<ks.length):=by rw [hkl];simp
    have hpre:ks=pre:=by simpa using hk
    rcases hH with ⟨rfl,rfl⟩ | ⟨_,rfl⟩
    ·subst hpre;simp only [Ft,FO,F4,FY,FE,Fx,Fy,F7,H9,FD,FB,FL,FN,FG,S28,↓XX,XY,↓reduceIte,Nat.reduceBEq,Nat.reduceAdd,Int.reduceEq,Int.reduceLT,Int.reduceLE,Int.lt_irrefl,Tm.shift,Tm.shiftL,<- hm',Ah];exact A3 rfl _
    ·subst hpre;simp only [Ft,FO,F4,FY,FE,Fx,Fy,F7,H9,FD,FB,FL,FN,FG,S28,↓XX,XY,↓reduceIte,Nat.reduceBEq,Nat.reduceAdd,Int.reduceEq,Int.reduceLT,Int.reduceLE,Int.lt_irrefl,Tm.shift,<- hm',Ah];exact A3 rfl _
   | cons t rest =>
    have hi:(pre.length:Int)<ks.length:=by rw [hkl];simp;omega
    have hg:=Cw hk;have htw:=CL (t:=t) (l:=ks) (by rw [hk];simp);have hb:=DR (n:=n) (by omega) op pre.length;have hble:=Bm op pre.length;have hs:=ih t d (c+Am op pre.length) (by omega) (Qf hw.2 (by rw [hk];simp)) (by omega) (by omega);have hx:Tm.shiftL op 0 (pre++[t]) d c=Tm.shiftL op 0 pre d c++[t.shift d (c+Am op pre.length)]:=by
     rw [ND];simp [Tm.shiftL]
    have hwc:BD (c+Am op pre.length)=c+Am op pre.length:=by rw [Az]<;>omega
    have hwi:BD ((pre.length:Int)+1)=((pre++[t]).length:Int):=(Az (by omega) (by omega)).trans (by simp);generalize hu:t.shift d (c+Am op pre.length)=u at hs hx;obtain ⟨o,p,l⟩:=t;simp only [AzI] at hl;rw [Ah] at hs;rcases hH with ⟨hp0,rfl⟩ | ⟨hne,rfl⟩
    ·simp only [Ft,FO,F4,FY,FE,Fx,Fy,F7,H9,FD,FB,FL,FN,FG,S28,↓XX,XY,↓reduceIte,Nat.reduceBEq,Nat.reduceAdd,Int.reduceEq,Int.reduceLT,Int.reduceLE,hi,↓Bs (AN hg) (Bb _ _ _),↓Cg,↓Ag hb,hwc,hwi,↓AF hs,↓I9,↓Rk,↓AL,XD,heldB,AT,XE];refine hrec rest.length _ _ (by omega) ?_;refine ⟨pre++[.mk o p l],rest,by rw [hk];simp,rfl,rfl,.inr ⟨by simp,?_⟩⟩;rw [hx,hp0];rfl
    ·have hle:(Tm.shiftL op 0 pre d c).length+1<=1000000:=by rw [DK];omega
     have hq:(Tm.shiftL op 0 pre d c).length=pre.length:=DK ..;simp only [Ft,FO,F4,FY,FE,Fx,Fy,F7,H9,FD,FB,FL,FN,FG,S28,↓XX,XY,↓reduceIte,Nat.reduceBEq,Nat.reduceAdd,Int.reduceEq,Int.reduceLT,Int.reduceLE,hi,↓Bs (AN hg) (Bb _ _ _),↓Cg,↓Ag hb,hwc,hwi,↓AF hs,↓I9,↓Ke hle,↓FR,↓AL,XD,heldB,AT,XE];refine hrec rest.length _ _ (by omega) ?_;refine ⟨pre++[.mk o p l],rest,by rw [hk];simp,rfl,rfl,.inr ⟨by simp,?_⟩⟩;rw [hx];simp only [List.length_append,AzI,List.length_nil]
  by_cases h1:op=1
  ·by_cases h2:c<=m
   ·subst h1;simp only [Ft,FO,F4,FY,FE,Fx,Fy,F7,FD,FB,FL,FN,FG,S28,↓XX,XY,↓reduceIte,Nat.reduceBEq,Nat.reduceAdd,Int.reduceEq,Int.reduceLT,Int.reduceLE,h2,↓AL,XD,heldB,AT,XE];exact main _ (by simp [h2])
   ·subst h1;simp only [Ft,FO,F4,FY,FE,Fx,Fy,F7,FD,FB,FL,FN,FG,S28,↓XX,XY,↓reduceIte,Nat.reduceBEq,Nat.reduceAdd,Int.reduceEq,Int.reduceLT,Int.reduceLE,h2,↓AL,XD,heldB,AT,XE];exact main _ (by simp [h2])
  ·simp only [Ft,FO,F4,FY,FE,Fx,Fy,F7,FD,FB,FL,FN,FG,S28,↓XX,XY,↓reduceIte,Nat.reduceBEq,Nat.reduceAdd,Int.reduceEq,Int.reduceLT,Int.reduceLE,h1,↓AL,XD,heldB,AT,XE];exact main _ (by simp [h1])
mutual
def Tm.subst:Tm->Int->Int->Tm->Tm
 | .mk op m ks,n,d,u=>if op=1 then (if m=n then u.shift d 0 else if n<m then .mk 1 (BD (m - 1)) [] else .mk op m ks) else .mk op m (Tm.substL op 0 ks n d u)
def Tm.substL:Int->Nat->List Tm->Int->Int->Tm->List Tm
 | _,_,[],_,_,_=>[]
 | op,i,t::l,n,d,u=>t.subst (n+Am op i) (d+Am op i) u::Tm.substL op (i+1) l n d u
end
theorem GQ (op n d:Int) (u:Tm):∀(l:List Tm) (i:Nat),(Tm.substL op i l n d u).length=l.length
 | [],_=>rfl
 | _::l,i=>by simp only [Tm.substL,AzI,GQ op n d u l]
theorem N8 (op n d:Int) (u:Tm):∀(l l':List Tm) (i:Nat),Tm.substL op i (l++l') n d u=Tm.substL op i l n d u++Tm.substL op (i+l.length) l' n d u
 | [],l',i=>by simp [Tm.substL]
 | t::l,l',i=>by simp only [List.cons_append,Tm.substL,N8 op n d u l l',AzI];congr 3;omega
theorem AkS (u:Tm) (hu:u.wk) (huw:u.wt<=1152921504606846976):∀(n:Nat) (t:Tm) (c d:Int),t.wt+u.wt+3<n->t.wk->-1000000000<=c->c+2 * t.wt<=4611686018427387904->0<=d->d+2 * t.wt<=4611686018427387904 ->
  AS (SS dt n 113 [.fv t.enc,iv c,iv d,.fv u.enc] ⟨[],[]⟩) (t.subst c d u).enc:=by
 intro n
 induction n with
 | zero=>intro t c d h;omega
 | succ n ih =>
  intro t c d h hw hc0 hc hd0 hd;obtain ⟨op,m,ks⟩:=t;simp only [Tm.wt] at h hc hd;rw [Tm.wk] at hw;rw [AwL,Ah];have hlen:=DB ks;by_cases h1:op=1
  ·subst h1;have hsh:=CK n u d 0 (by omega) hu (by omega) (by omega);rw [Tm.subst,if_pos rfl];generalize u.shift d 0=z at hsh ⊢;obtain ⟨uo,un,uk⟩:=u;obtain ⟨zo,zn,zk⟩:=z;rw [Ah] at hsh ⊢;by_cases h2:m=c
   ·subst h2;simp only [↓UU6,↓XX,XY,↓reduceIte,Nat.reduceBEq,Nat.reduceAdd,Int.reduceEq,Int.reduceLT,Int.reduceLE,↓AF hsh];simp only [↓UU6,↓XX,XY,↓reduceIte,Nat.reduceBEq,Nat.reduceAdd,Int.reduceEq,Int.reduceLT,Int.reduceLE,Ah];exact A3 rfl _
   ·by_cases h3:c<m
    ·simp only [↓UU6,↓XX,XY,↓reduceIte,Nat.reduceBEq,Nat.reduceAdd,Int.reduceEq,Int.reduceLT,Int.reduceLE,h2,h3,Ah];exact A3 rfl _
    ·simp only [↓UU6,↓XX,XY,↓reduceIte,Nat.reduceBEq,Nat.reduceAdd,Int.reduceEq,Int.reduceLT,Int.reduceLE,h2,h3,Ah];exact A3 rfl _
  ·have main :
    AS (BY n (fun q l h=>Oo l h (SS dt n) ⟨[],[]⟩ q) [iv c,iv d,.ptr (.own 118489088) 0,.ptr (.own 118489089) 0,.ptr (.own 118489090) 0,.ptr (.own 118496261) 0,iv 0]
     ⟨[(118489088,.row [iv op,iv m,.fv (.sl (ks.map Tm.enc))] false),(118489089,.row [iv u.op,iv u.n,.fv (.sl (u.kids.map Tm.enc))] false),(118489090,.row [iv 0,iv 0,.nils] false),(118496261,.row [iv op,iv m,.nils] false)],[]⟩)
      (Tm.mk op m (Tm.substL op 0 ks c d u)).enc:=by
    refine Bc (Q:=fun r=>AS r _) (fun k V H=>∃pre rest,ks=pre++rest/\rest.length=k/\V=[iv c,iv d,.ptr (.own 118489088) 0,.ptr (.own 118489089) 0,.ptr (.own 118489090) 0,.ptr (.own 118496261) 0,iv pre.length] /\
     (
      (pre=[]/\H=⟨[(118489088,.row [iv op,iv m,.fv (.sl (ks.map Tm.enc))] false),(118489089,.row [iv u.op,iv u.n,.fv (.sl (u.kids.map Tm.enc))] false),(118489090,.row [iv 0,iv 0,.nils] false),(118496261,.row [iv op,iv m,.nils] false)],[]⟩) \/
      (
      pre≠[]/\H=⟨[(118489088,.row [iv op,iv m,.fv (.sl (ks.map Tm.enc))] false),(118489089,.row [iv u.op,iv u.n,.fv (.sl (u.kids.map Tm.enc))] false),(118489090,.row [iv 0,iv 0,.nils] false),
      (118496261,.row [iv op,iv m,.app (.own 118501392) ((Tm.substL op 0 pre c d u).map Tm.enc)] false),(118501392,.tok (Tm.substL op 0 pre c d u).length 3)],[]⟩)))
     ?_ n ks.length _ _ (by omega) ⟨[],ks,rfl,rfl,rfl,.inl ⟨rfl,rfl⟩⟩
    rintro k V H rec ⟨pre,rest,hk,hl,rfl,hH⟩ hrec;have hkl:ks.length=pre.length+rest.length:=by rw [hk];simp
    cases rest with
    | nil =>
     have hno:¬ ((pre.length:Int)<ks.length):=by rw [hkl];simp
     have hpre:ks=pre:=by simpa using hk
     rcases hH with ⟨rfl,rfl⟩ | ⟨_,rfl⟩
     ·subst hpre;simp only [↓UU7,↓XX,XY,↓reduceIte,Nat.reduceBEq,Nat.reduceAdd,Int.reduceEq,Int.reduceLT,Int.reduceLE,Int.lt_irrefl,Tm.substL,Ah];exact A3 rfl _
     ·subst hpre;simp only [↓UU7,↓XX,XY,↓reduceIte,Nat.reduceBEq,Nat.reduceAdd,Int.reduceEq,Int.reduceLT,Int.reduceLE,Int.lt_irrefl,Ah];exact A3 rfl _
    | cons t rest =>
     have hi:(pre.length:Int)<ks.length:=by rw [hkl];simp;omega
     have hg:=Cw hk;have htw:=CL (t:=t) (l:=ks) (by rw [hk];simp);have hb:=DR (n:=n) (by omega) op pre.length;have hble:=Bm op pre.length;have hs:=ih t (c+Am op pre.length) (d+Am op pre.length) (by omega) (Qf hw.2 (by rw [hk];simp)) (by omega) (by omega) (by omega) (by omega);have hx:Tm.substL op 0 (pre++[t]) c d u=Tm.substL op 0 pre c d u++[t.subst (c+Am op pre.length) (d+Am op pre.length) u]:=by
      rw [N8];simp [Tm.substL]
     have hwc:BD (c+Am op pre.length)=c+Am op pre.length:=by rw [Az]<;>omega
     have hwd:BD (d+Am op pre.length)=d+Am op pre.length:=by rw [Az]<;>omega
     have hwi:BD ((pre.length:Int)+1)=((pre++[t]).length:Int):=(Az (by omega) (by omega)).trans (by simp);generalize hv:t.subst (c+Am op pre.length) (d+Am op pre.length) u=v at hs hx;obtain ⟨o,p,l⟩:=t;simp only [AzI] at hl;have hue:u.enc=.agg [.int .i64 u.op,.int .i64 u.n,.sl (u.kids.map Tm.enc)]:=by cases u;exact Ah ..
     rw [Ah,hue] at hs;rcases hH with ⟨hp0,rfl⟩ | ⟨hne,rfl⟩
     ·simp only [↓UU7,↓XX,XY,↓reduceIte,Nat.reduceBEq,Nat.reduceAdd,Int.reduceEq,Int.reduceLT,Int.reduceLE,hi,↓Bs (AN hg) (Bb _ _ _),↓Cg,↓Ag hb,hwc,hwd,hwi,↓AC hs,↓I9,↓Rk,↓AL,XD,heldB,AT,XE];refine hrec rest.length _ _ (by omega) ?_;refine ⟨pre++[.mk o p l],rest,by rw [hk];simp,rfl,rfl,.inr ⟨by simp,?_⟩⟩;rw [hx,hp0];rfl
     ·have hle:(Tm.substL op 0 pre c d u).length+1<=1000000:=by rw [GQ];omega
      simp only [↓UU7,↓XX,XY,↓reduceIte,Nat.reduceBEq,Nat.reduceAdd,Int.reduceEq,Int.reduceLT,Int.reduceLE,hi,↓Bs (AN hg) (Bb _ _ _),↓Cg,↓Ag hb,hwc,hwd,hwi,↓AC hs,↓I9,↓Ke hle,↓FR,↓AL,XD,heldB,AT,XE];refine hrec rest.length _ _ (by omega) ?_;refine ⟨pre++[.mk o p l],rest,by rw [hk];simp,rfl,rfl,.inr ⟨by simp,?_⟩⟩;rw [hx];simp only [List.length_append,AzI,List.length_nil]
   rw [Tm.subst,if_neg h1];obtain ⟨uo,un,uk⟩:=u;rw [Ah (op:=uo)];simp only [↓UU6,↓XX,XY,↓reduceIte,Nat.reduceBEq,Nat.reduceAdd,Int.reduceEq,Int.reduceLT,Int.reduceLE,h1,↓AL,XD,heldB,AT,XE];exact main
theorem NK {n:Nat} (t u:Tm) (c:Int) (hu:u.wk) (huw:u.wt<=1152921504606846976) (h:t.wt+u.wt+4<n) (hw:t.wk) (hww:t.wt<=2305843009213693951) (h0:-1000000000<=c) (hc:c+2 * t.wt<=4611686018427387904) :
  AS (SS dt n 89 [.fv t.enc,iv c,.fv u.enc] ⟨[],[]⟩) (t.subst c 0 u).enc:=by
 obtain ⟨n,rfl⟩:∃k,n=k+1:=⟨n - 1,by omega⟩;rw [c89];have hs:=AkS u hu huw n t c 0 (by omega) hw h0 hc (by omega) (by omega);generalize t.subst c 0 u=v at hs ⊢;obtain ⟨o1,n1,k1⟩:=t;obtain ⟨o2,n2,k2⟩:=u;obtain ⟨o3,n3,k3⟩:=v;simp only [Ah] at hs ⊢;simp only [Akl,S89,↓XX,XY,↓reduceIte,Nat.reduceBEq,Nat.reduceAdd,Int.reduceEq,Int.reduceLT,Int.reduceLE,↓AC hs];exact A3 rfl _
mutual
def Tm.free:Tm->Int->Bool
 | .mk op m ks,c=>if op=1 then decide (m=c) else Tm.freeL op 0 ks c
def Tm.freeL:Int->Nat->List Tm->Int->Bool
 | _,_,[],_=>false
 | op,i,t::l,c=>t.free (c+Am op i) || Tm.freeL op (i+1) l c
end
theorem Abo:∀(n:Nat) (t:Tm) (c:Int),t.wt+1<n->t.wt<=1152921504606846976->-1000000000<=c->c+2 * t.wt<=461168601842738->AS (SS dt n 118 [.fv t.enc,iv c] ⟨[],[]⟩) (.bool (t.free c)):=by
 intro n
 induction n with
 | zero=>intro t c h;omega
 | succ n ih =>
  intro t c h hw hc0 hc;obtain ⟨op,m,ks⟩:=t;simp only [Tm.wt] at h hw hc;rw [Awo,Ah];have hlen:=DB ks;by_cases h1:op=1
  ·subst h1;rw [Tm.free,if_pos rfl];simp only [HX,HK,IE,HL,IY,QE,↓XX,XY,↓reduceIte,Nat.reduceBEq,Nat.reduceAdd,Int.reduceEq,Int.reduceLT,Int.reduceLE];exact Al _ _
  ·rw [Tm.free,if_neg h1];simp only [HX,HK,IE,HL,IY,QE,↓XX,XY,↓reduceIte,Nat.reduceBEq,Nat.reduceAdd,Int.reduceEq,Int.reduceLT,Int.reduceLE,h1];refine Bc (Q:=fun r=>AS r _) (fun k V H=>∃pre rest,ks=pre++rest/\rest.length=k/\V=[iv c,.ptr (.own 123731968) 0,iv pre.length]/\H=⟨[(123731968,.row [iv op,iv m,.fv (.sl (ks.map Tm.enc))] false)],[]⟩/\Tm.freeL op pre.length rest c=Tm.freeL op 0 ks c)
    ?_ n ks.length _ _ (by omega) ⟨[],ks,rfl,rfl,rfl,rfl,rfl⟩
   rintro k V H rec ⟨pre,rest,hk,hl,rfl,rfl,ht⟩ hrec;have hkl:ks.length=pre.length+rest.length:=by rw [hk];simp
   cases rest with
   | nil =>
    have hno:¬ ((pre.length:Int)<ks.length):=by rw [hkl];simp
    rw [<- ht];simp only [HX,HK,IE,HL,IY,L0,QE,↓XX,XY,↓reduceIte,Nat.reduceBEq,Nat.reduceAdd,Int.reduceEq,Int.reduceLT,Int.reduceLE,hno,Tm.freeL];exact Al _ _
   | cons t rest =>
    have hi:(pre.length:Int)<ks.length:=by rw [hkl];simp;omega
    have hg:=Cw hk;have htw:=CL (t:=t) (l:=ks) (by rw [hk];simp);have hb:=DR (n:=n) (by omega) op pre.length;have hble:=Bm op pre.length;have hs:=ih t (c+Am op pre.length) (by omega) (by omega) (by omega) (by omega);have hwc:BD (c+Am op pre.length)=c+Am op pre.length:=by rw [Az]<;>omega
    have hwi:BD ((pre.length:Int)+1)=((pre++[t]).length:Int):=(Az (by omega) (by omega)).trans (by simp);simp only [Tm.freeL] at ht;generalize t.free (c+Am op pre.length)=v at hs ht;obtain ⟨o,p,l⟩:=t;simp only [AzI] at hl;rw [Ah] at hs;cases v
    ·simp only [HX,HK,IE,HL,IY,L0,QE,↓XX,XY,↓reduceIte,Nat.reduceBEq,Nat.reduceAdd,Int.reduceEq,Int.reduceLT,Int.reduceLE,hi,↓Bs (AN hg) (Bb _ _ _),↓Cg,↓Ag hb,hwc,hwi,↓Ag hs];refine hrec rest.length _ _ (by omega) ?_;exact ⟨pre++[.mk o p l],rest,by rw [hk];simp,rfl,rfl,rfl,by simpa using ht⟩
    ·rw [<- ht];simp only [HX,HK,IE,HL,IY,L0,QE,↓XX,XY,↓reduceIte,Nat.reduceBEq,Nat.reduceAdd,Int.reduceEq,Int.reduceLT,Int.reduceLE,hi,↓Bs (AN hg) (Bb _ _ _),↓Cg,↓Ag hb,hwc,hwi,↓Ag hs,Bool.true_or];exact Al _ _
mutual
def Tm.same:Tm->Tm->Bool
 | .mk o n l,.mk o' n' l'=>decide (o=o') && (decide (n=n') && (decide (l.length=l'.length) && Tm.sameL l l'))
def Tm.sameL:List Tm->List Tm->Bool
 | a::l,b::l'=>a.same b && Tm.sameL l l'
 | _,_=>true
end
mutual
theorem Ik:∀a b:Tm,a.same b=true ↔ a=b
 | .mk o n l,.mk o' n' l'=>by
  simp only [Tm.same,Bool.and_eq_true,decide_eq_true_eq,Tm.mk.injEq];constructor
  ·rintro ⟨rfl,rfl,h1,h2⟩;exact ⟨rfl,rfl,(sameL_eq l l' h1).1 h2⟩
  ·rintro ⟨rfl,rfl,rfl⟩;exact ⟨rfl,rfl,rfl,(sameL_eq l l rfl).2 rfl⟩
theorem sameL_eq:∀l l':List Tm,l.length=l'.length->(Tm.sameL l l'=true ↔ l=l')
 | [],[],_=>by simp [Tm.sameL]
 | a::l,b::l',h=>by
  simp only [Tm.sameL,Bool.and_eq_true,List.cons.injEq,Ik a b,sameL_eq l l' (by simpa using h)]
end
theorem GG:∀(n:Nat) (a b:Tm),a.wt+1<n->a.wt<=1152921504606846976->AS (SS dt n 18 [.fv a.enc,.fv b.enc] ⟨[],[]⟩) (.bool (a.same b)):=by
 intro n
 induction n with
 | zero=>intro a b h;omega
 | succ n ih =>
  intro a b h hw;obtain ⟨op,m,ks⟩:=a;obtain ⟨op',m',ks'⟩:=b;simp only [Tm.wt] at h hw;rw [c18,Ah,Ah];have hlen:=DB ks;rw [Tm.same];by_cases h1:op=op'
  ·by_cases h2:m=m'
   ·by_cases h3:ks.length=ks'.length
    ·have h3':(ks.length:Int)=ks'.length:=by omega
     subst h1 h2;simp only [FM,F6,FH,F8,Fw,FK,FX,FU,Fv,S18,↓XX,XY,↓reduceIte,Nat.reduceBEq,Nat.reduceAdd,Int.reduceEq,Int.reduceLT,Int.reduceLE,h3,h3',Tm.same];refine Bc (Q:=fun r=>AS r _) (fun k V H=>∃pre rest pre' rest',ks=pre++rest/\ks'=pre'++rest'/\pre.length=pre'.length/\rest.length=k/\V=[.ptr (.own 18874368) 0,.ptr (.own 18874369) 0,iv pre.length] /\
      H=⟨[(18874368,.row [iv op,iv m,.fv (.sl (ks.map Tm.enc))] false),(18874369,.row [iv op,iv m,.fv (.sl (ks'.map Tm.enc))] false)],[]⟩/\Tm.sameL rest rest'=Tm.sameL ks ks')
      ?_ n ks.length _ _ (by omega) ⟨[],ks,[],ks',rfl,rfl,rfl,rfl,rfl,rfl,rfl⟩
     rintro k V H rec ⟨pre,rest,pre',rest',hk,hk',hpl,hl,rfl,rfl,ht⟩ hrec;have hkl:ks.length=pre.length+rest.length:=by rw [hk];simp
     have hkl':ks'.length=pre'.length+rest'.length:=by rw [hk'];simp
     cases rest with
     | nil =>
      have hno:¬ ((pre.length:Int)<ks.length):=by rw [hkl];simp
      rw [<- ht];simp only [FM,F6,FH,F8,Fw,Mu,FK,FX,FU,Fv,S18,↓XX,XY,↓reduceIte,Nat.reduceBEq,Nat.reduceAdd,Int.reduceEq,Int.reduceLT,Int.reduceLE,hno,Tm.sameL];exact Al _ _
     | cons t rest =>
      cases rest' with
      | nil=>simp at hkl hkl';omega
      | cons t' rest' =>
       have hi:(pre.length:Int)<ks.length:=by rw [hkl];simp;omega
       have hg:=Cw hk;have hg':=Cw hk';rw [<- hpl] at hg';have htw:=CL (t:=t) (l:=ks) (by rw [hk];simp);have hs:=ih t t' (by omega) (by omega);have hwi:BD ((pre.length:Int)+1)=((pre++[t]).length:Int):=(Az (by omega) (by omega)).trans (by simp);simp only [Tm.sameL] at ht;generalize t.same t'=v at hs ht;obtain ⟨o,p,l⟩:=t;obtain ⟨o',p',l'⟩:=t';simp only [AzI] at hl;rw [Ah,Ah] at hs;cases v
       ·rw [<- ht];simp only [FM,F6,FH,F8,Fw,Mu,FK,FX,FU,Fv,S18,↓XX,XY,↓reduceIte,Nat.reduceBEq,Nat.reduceAdd,Int.reduceEq,Int.reduceLT,Int.reduceLE,hi,↓Bs (AN hg) (Bb _ _ _),↓Bs (AN hg') (Bb _ _ _),↓Cg,↓Ag hs,Bool.false_and];exact Al _ _
       ·simp only [FM,F6,FH,F8,Fw,Mu,FK,FX,FU,Fv,S18,↓XX,XY,↓reduceIte,Nat.reduceBEq,Nat.reduceAdd,Int.reduceEq,Int.reduceLT,Int.reduceLE,hi,↓Bs (AN hg) (Bb _ _ _),↓Bs (AN hg') (Bb _ _ _),↓Cg,hwi,↓Ag hs];refine hrec rest.length _ _ (by omega) ?_;exact ⟨pre++[.mk o p l],rest,pre'++[.mk o' p' l'],rest',by rw [hk];simp,by rw [hk'];simp,by simp [hpl],rfl,rfl,rfl,by simpa using ht⟩
    ·have h3':¬ (ks.length:Int)=ks'.length:=by omega
     simp only [FM,F6,FH,F8,Fw,FK,FX,FU,Fv,S18,↓XX,XY,↓reduceIte,Nat.reduceBEq,Nat.reduceAdd,Int.reduceEq,Int.reduceLT,Int.reduceLE,h1,h2,h3,h3'];exact Al _ _
   ·simp only [FM,F6,FH,F8,Fw,FK,FX,FU,Fv,S18,↓XX,XY,↓reduceIte,Nat.reduceBEq,Nat.reduceAdd,Int.reduceEq,Int.reduceLT,Int.reduceLE,h1,h2];exact Al _ _
  ·simp only [FM,F6,FH,F8,Fw,FK,FX,FU,Fv,S18,↓XX,XY,↓reduceIte,Nat.reduceBEq,Nat.reduceAdd,Int.reduceEq,Int.reduceLT,Int.reduceLE,h1];exact Al _ _
section
variable {β:Type} {E:Env}
def AsW (cs:List IV) (k:List FV->Option β):Option β:=(DD cs).bind k
theorem AnQ {t e:TypeId} {a b:Nat} {ei:TI} {z:List IV} (hT:E.T t=some ⟨a,b,.slice e,z⟩) (he:E.T e=some ei) (hs:ei.size=1) (hz:∃x,ei.zero=[x]) (r s:Nat) (own:List (Nat×Blk)) (ext:List Blk)
  (hc:∀cells ro,Aw r own=some (.row cells ro)->cells.length<=100) (hk:∀cells ro,Aw r own=some (.row cells ro)->∃fc,DD cells=some fc) (k:IV->Hp->List Ref->List Ref->Option β) :
  AE (An E t 1 [(0,.ptr (.own r) 0)]) s ⟨own,ext⟩ k=Jo own r fun bl=>EK bl fun cells=>AsW cells fun fc=>Bk own r (.row cells true) fun own=>k (.clip [.fp fc 0]) ⟨own,ext⟩ [.own r] [.own r]:=by
 obtain ⟨x,hx⟩:=hz;have hm:An E t 1 [(0,.ptr (.own r) 0)]=(frzL (65534+1+1) [.ptr (.own r) 0]).bind fun (vs,u)=>.ret { eff:={ val:=.clip (BV ei.size 1 vs),upd:=u } }:=by
  have h1:¬ (ei.size=0\/1 * ei.size > 65536):=by rw [hs];omega
  have h2:CF (fun j=>some (j * ei.size,ei.size)) (R1 1 ei.zero) [(0,.ptr (.own r) 0)]=some [.ptr (.own r) 0]:=by
   rw [hx,hs];rfl
  simp only [An,hT,he,if_neg h1,h2]
 rw [hm,EX];unfold AE;cases hl:Aw r own with
 | none =>
  have:((frzL (65534+1+1) [.ptr (.own r) 0]).bind fun (vs,u)=>Rd.ret ({ eff:={ val:=.clip (BV ei.size 1 vs),upd:=u } }:Made)).runLog ⟨own,ext⟩ []=none:=by
   simp only [frzL,C0,Rd.bind,Rd.runLog,Hp.get,hl]
  rw [this];rfl
 | some bl =>
  cases bl with
  | row cells ro =>
   obtain ⟨fc,hfc⟩:=hk cells ro hl;have hlen:=hc cells ro hl;have h3:frzL 65534 cells=.ret (fc,[]):=AcY cells 65534 (by omega) hfc
   have:((frzL (65534+1+1) [.ptr (.own r) 0]).bind fun (vs,u)=>Rd.ret ({ eff:={ val:=.clip (BV ei.size 1 vs),upd:=u } }:Made)).runLog ⟨own,ext⟩ [] =
     some ({ eff:={ val:=.clip (BV ei.size 1 [.fp fc 0]),upd:=[(.own r,.row cells true)] } },[.own r]):=by
    simp only [frzL,C0,Rd.bind,Rd.runLog,Hp.get,hl,h3,List.append_nil]
   rw [this];simp only [Option.bind_some,EK,AsW,hfc,hs]
   show (fRf (.own r) fun q=>EA q ⟨own,ext⟩ fun _=>fBk (.row cells true) fun b=>GD q b ⟨own,ext⟩ fun h=>Lc none s h fun h=>fV 3 (.clip [.fp fc 0]) fun v=>k v h [.own r] ([.own r]++[]))=_
   simp only [QH,CW,Cx,Lc,GD,EA];rw [EX,hl];rfl
  | tok n sz =>
   have:((frzL (65534+1+1) [.ptr (.own r) 0]).bind fun (vs,u)=>Rd.ret ({ eff:={ val:=.clip (BV ei.size 1 vs),upd:=u } }:Made)).runLog ⟨own,ext⟩ []=none:=by
    simp only [frzL,C0,Rd.bind,Rd.runLog,Hp.get,hl]
   rw [this];rfl
  | map es =>
   have:((frzL (65534+1+1) [.ptr (.own r) 0]).bind fun (vs,u)=>Rd.ret ({ eff:={ val:=.clip (BV ei.size 1 vs),upd:=u } }:Made)).runLog ⟨own,ext⟩ []=none:=by
    simp only [frzL,C0,Rd.bind,Rd.runLog,Hp.get,hl]
   rw [this];rfl
theorem AtP {t e:TypeId} {a b:Nat} {ei:TI} {z:List IV} (hT:E.T t=some ⟨a,b,.slice e,z⟩) (he:E.T e=some ei) (hs:ei.size=1) (hz:∃x,ei.zero=[x]) {r:Nat} {own own':List (Nat×Blk)} {cells:List IV} {ro:Bool} {fc:List FV}
  (hl:Aw r own=some (.row cells ro)) (hf:DD cells=some fc) (hn:cells.length<=100) (ho:Bf r (.row cells true) own=own') (s:Nat) (ext:List Blk) (k:IV->Hp->List Ref->List Ref->Option β) :
  AE (An E t 1 [(0,.ptr (.own r) 0)]) s ⟨own,ext⟩ k=k (.clip [.fp fc 0]) ⟨own',ext⟩ [.own r] [.own r]:=by
 have h1:∀cells' ro',Aw r own=some (.row cells' ro')->cells'=cells:=fun c r h=>by rw [hl] at h;cases h;rfl
 rw [AnQ hT he hs hz r s own ext (fun c r h=>by rw [h1 c r h];exact hn) (fun c r h=>by rw [h1 c r h];exact ⟨fc,hf⟩),EX,hl];simp only [Option.bind_some,EK,AsW,hf,Fh,ho]
def C7 (r:Option (IV×Hp)) (w:FV) (ext:List Blk):Prop:=∃v own,r=some (v,⟨own,ext⟩) /\
 ∃u lg,∀(e:Option (IV×Hp)) (K:FV->List (Ref×Blk)->List Ref->Option (IV×Hp)),Gs 12 v ⟨own,ext⟩ [] e K=K w u lg
theorem AX (w:FV) (own:List (Nat×Blk)) (ext:List Blk):C7 (some (.fv w,⟨own,ext⟩)) w ext:=⟨_,own,rfl,[],[],fun _ _=>rfl⟩
theorem HJ {v:IV} {w:FV} (hz:Bo v=some w) (own:List (Nat×Blk)) (ext:List Blk):C7 (some (v,⟨own,ext⟩)) w ext:=⟨_,own,rfl,[],[],fun e K=>Np _ _ e K hz⟩
theorem KY:∀l:List FV,CJ (l.map .fv) []=[]
 | []=>rfl
 | v::l=>by
  show Vf (.fv v) (CJ (l.map .fv) [])=[]
  rw [KY l];rfl
theorem Ave (n j:Nat) (t:List Ref) (s:Nat) (rest:List Blk):OZ (n+1) (.ext j::t) s rest=cond (Nat.ble (Nat.succ j) s) (OZ n t s rest) (cond (Nat.beq j s) (goR (OZ n) t s rest) false):=rfl
theorem Au1 (n s:Nat):OZ (n+1) [] s []=true:=rfl
theorem P9 (st:List FV):OZ 400 [.ext 0] 0 [.row (st.map .fv) false]=true:=by
 rw [show (400:Nat)=398+1+1 from rfl,Ave]
 show goR (OZ (398+1)) [] 0 [.row (st.map .fv) false]=true
 show OZ (398+1) ([]++EJ (.row (st.map .fv) false)) 1 []=true
 rw [show EJ (.row (st.map .fv) false)=CJ (st.map .fv) [] from rfl,KY]
 exact Au1 398 1
theorem Qn (st:List FV):okB 1 [.row (st.map .fv) false]=true:=by
 show cond (okR 1 (EJ (.row (st.map .fv) false))) true false=true
 rw [show EJ (.row (st.map .fv) false)=CJ (st.map .fv) [] from rfl,KY]
 rfl
theorem gb3 (a b c:FV):OZ 400 [.ext 0] 0 [.row [.fv a,.fv b,.fv c] false]=true:=P9 [a,b,c]
theorem ob3 (a b c:FV):okB 1 [.row [.fv a,.fv b,.fv c] false]=true:=Qn [a,b,c]
theorem gb2 (a b:FV):OZ 400 [.ext 0] 0 [.row [.fv a,.fv b] false]=true:=P9 [a,b]
theorem ob2 (a b:FV):okB 1 [.row [.fv a,.fv b] false]=true:=Qn [a,b]
theorem Xv {r1:Ref} {rs1:List Ref} {ih:Aa} {f:FuncId} {vs:List IV} {w:FV} {ext ext':List Blk} (hr:C7 (ih f vs ⟨[],ext⟩) w ext') (hg:OZ 400 (r1::rs1) 0 ext=true) (hl:ext'.length=ext.length) (ho:okB ext.length ext'=true)
  (own:List (Nat×Blk)) (r0:Option (IV×Hp)) (u:List (Ref×Blk)) (lg:List Ref) (e:Option (IV×Hp)) (k:IV->Hp->List Ref->List Ref->Option (IV×Hp)) :
  AgJ (
     r1::rs1) r0 ⟨own,ext⟩ u lg e (fun rs=>match rs with
   | []=>none
   | r::rs=>(match (⟨own,ext⟩:Hp) with
    | ⟨own,ext⟩=>cond (OZ 400 (r::rs) 0 ext) (match ih f vs ⟨[],ext⟩ with
     | none=>none
     | some p=>match p with
      | (v,h')=>match h' with
       | ⟨own',ext'⟩=>cond (and (Nat.beq ext'.length ext.length) (okB ext.length ext'))
        (Gs 12 v ⟨own',ext'⟩ [] e fun w _ _=>O8 u ⟨own,ext'⟩ fun h2=>k (.fv w) h2 ((Do ext.length).reverse++lg) (Bp u++Do ext.length)) none)
     e)) k=O8 u ⟨own,ext'⟩ fun h2=>k (.fv w) h2 ((Do ext.length).reverse++lg) (Bp u++Do ext.length):=by
 obtain ⟨v,own',e1,u',lg',hz⟩:=hr;simp only [AgJ,hg,e1,hl,ho];rw [show (Nat.beq ext.length ext.length && true)=true by rw [Bool.and_true];exact Nat.beq_refl _,cond_true,hz]
 rfl
structure OneX (ext ext':List Blk):Prop where
 g:OZ 400 [.ext 0] 0 ext=true
 l:ext.length=1
 l':ext'.length=1
 o:okB 1 ext'=true
theorem Cs (a b c a' b' c':FV):OneX [.row [.fv a,.fv b,.fv c] false] [.row [.fv a',.fv b',.fv c'] false]:=⟨gb3 ..,rfl,rfl,ob3 ..⟩
theorem Au8 (a b a' b':FV):OneX [.row [.fv a,.fv b] false] [.row [.fv a',.fv b'] false]:=⟨gb2 ..,rfl,rfl,ob2 ..⟩
theorem UC (x:Nat):∀(args:List IV) {vs:List FV} (h:Hp) (lg:List Ref) (e:Option β) (k:List IV->List Ref->List (Ref×Blk)->List Ref->Option β) (ks:List Bool),(∀b∈ks,b=false)->B4 args=some vs ->
  fzA args ks h lg e k=k (vs.map .fv) [] [] lg
 | [],vs,h,lg,e,k,ks,_,hz=>by cases hz;rfl
 | v::l,vs,h,lg,e,k,[],_,hz=>Ah4 (v::l) h lg e k hz
 | v::l,vs,h,lg,e,k,b::ks,hk,hz=>by
  have hb:=hk b List.mem_cons_self;subst hb;simp only [B4] at hz;cases h1:Bo v with
  | none=>rw [h1] at hz;cases hz
  | some x' =>
   rw [h1] at hz;cases h2:B4 l with
   | none=>rw [h2] at hz;cases hz
   | some ys =>
    rw [h2] at hz;cases hz;rw [AnS,Np h lg e _ h1,UC x l h lg e _ ks (fun c hc=>hk c (List.mem_cons_of_mem _ hc)) h2];rfl
theorem Ajn {ks:List Bool} (hks:∀b∈ks,b=false) {ih:Aa} {f:FuncId} {args:List IV} {vs:List FV} {w:FV} {ext ext':List Blk} (hz:B4 args=some vs) (X:OneX ext ext') (hr:C7 (ih f (.ptr (.ext 0) 0::vs.map .fv) ⟨[],ext⟩) w ext')
  (own:List (Nat×Blk)) (k:IV->Hp->List Ref->List Ref->Option (IV×Hp)):Ai (true::ks) false false ih f (.ptr (.ext 0) 0::args) ⟨own,ext⟩ k=k (.fv w) ⟨own,ext'⟩ [.ext 0] [.ext 0]:=by
 rw [Pp,AiU,AgX,UC 0 args _ _ _ _ ks hks hz]
 have:=Xv (r1:=.ext 0) (rs1:=[]) hr X.g (by rw [X.l,X.l']) (by rw [X.l];exact X.o) own (ih f (.ptr (.ext 0) 0::vs.map .fv) ⟨[],[]⟩) [] [] (EF (true::ks) false false ih f (.ptr (.ext 0) 0::args) ⟨own,ext⟩ k) k
 refine this.trans ?_;rw [X.l];rfl
theorem Du {ih:Aa} {f:FuncId} {w:FV} {ext ext':List Blk} (hr:C7 (ih f [.ptr (.ext 0) 0] ⟨[],ext⟩) w ext') (X:OneX ext ext') (own:List (Nat×Blk)) (k:IV->Hp->List Ref->List Ref->Option (IV×Hp)) :
  Ai [true] false false ih f [.ptr (.ext 0) 0] ⟨own,ext⟩ k=k (.fv w) ⟨own,ext'⟩ [.ext 0] [.ext 0]:=Ajn (ks:=[]) (by simp) (vs:=[]) rfl X hr own k
theorem Jg {ih:Aa} {f:FuncId} {a b:IV} {x y w:FV} {ext ext':List Blk} (hr:C7 (ih f [.ptr (.ext 0) 0,.fv x,.fv y] ⟨[],ext⟩) w ext') (X:OneX ext ext') (ha:Bo a=some x) (hb:Bo b=some y) (own:List (Nat×Blk))
  (k:IV->Hp->List Ref->List Ref->Option (IV×Hp)):Ai [true,false,false] false false ih f [.ptr (.ext 0) 0,a,b] ⟨own,ext⟩ k=k (.fv w) ⟨own,ext'⟩ [.ext 0] [.ext 0]:=Ajn (ks:=[false,false]) (by simp) (AjL ha hb) X hr own k
theorem AjF {ih:Aa} {f:FuncId} {a b c:IV} {x y z w:FV} {ext ext':List Blk} (hr:C7 (ih f [.ptr (.ext 0) 0,.fv x,.fv y,.fv z] ⟨[],ext⟩) w ext') (X:OneX ext ext') (ha:Bo a=some x) (hb:Bo b=some y) (hc:Bo c=some z)
  (own:List (Nat×Blk)) (k:IV->Hp->List Ref->List Ref->Option (IV×Hp)):Ai [true,false,false,false] false false ih f [.ptr (.ext 0) 0,a,b,c] ⟨own,ext⟩ k=k (.fv w) ⟨own,ext'⟩ [.ext 0] [.ext 0] :=
 Ajn (ks:=[false,false,false]) (by simp) (AoH ha hb hc) X hr own k
theorem Rq {ih:Aa} {f:FuncId} {s:Nat} {own:List (Nat×Blk)} {cells:List IV} {ro:Bool} {fc:List FV} {w:FV} {ext ext':List Blk} (hr:C7 (ih f [.ptr (.ext 0) 0,.fv (.fp fc 0)] ⟨[],ext⟩) w ext') (X:OneX ext ext')
  (hl:Aw s own=some (.row cells ro)) (hz:DD cells=some fc) (hn:cells.length<=300) (k:IV->Hp->List Ref->List Ref->Option (IV×Hp)) :
  Ai [true,false] false false ih f [.ptr (.ext 0) 0,.ptr (.own s) 0] ⟨own,ext⟩ k=k (.fv w) ⟨Bf s (.row cells true) own,ext'⟩ [.ext 0,.own s] [.own s,.ext 0]:=by
 rw [Pp,AiU,AgX,AnS,Aq1,AkW,EX,hl];simp only [Option.bind_some,Wx];rw [BP,decide_eq_true hn,c_t,Aj4 10 _ _ _ cells _ hz,fz0]
 have:=Xv (r1:=.ext 0) (rs1:=[]) hr X.g (by rw [X.l,X.l']) (by rw [X.l];exact X.o) own (ih f [.ptr (.ext 0) 0,.fv (.fp fc 0)] ⟨[],[]⟩) [(.own s,.row cells true)] [.own s] (EF [true,false] false false ih f [.ptr (.ext 0) 0,.ptr (.own s) 0] ⟨own,ext⟩ k) k
 refine this.trans ?_;rw [X.l]
 show (Jo own s fun _=>Bk own s (.row cells true) fun own=>k (.fv w) ⟨own,ext'⟩ [.ext 0,.own s] [.own s,.ext 0])=_
 rw [EX,hl,Option.bind_some,Fh]
end
end Idl
end Go.Proofs.Ytdibmackcbpniaa
namespace Go.Proofs.Ytdibmackcbpniaa
namespace Idl
inductive RV where
 | mk (op n:Int) (k env:List RV) (b:Tm)
def Tm.z:Tm:=.mk 0 0 []
def RV.enc:RV->FV
 | .mk op n k env (.mk bo bn bk)=>.fp [.int .i64 op,.int .i64 n,.sl (encL k),.sl (encL env),.int .i64 bo,.int .i64 bn,.sl (bk.map Tm.enc)] 0
where
 encL:List RV->List FV
  | []=>[]
  | v::l=>v.enc::encL l
theorem Akk (l:List RV):RV.enc.encL l=l.map RV.enc:=by
 induction l with
 | nil=>rfl
 | cons t l ih=>simp [RV.enc.encL,ih]
theorem HS (op n:Int) (k env:List RV) (bo bn:Int) (bk:List Tm):(RV.mk op n k env (.mk bo bn bk)).enc =
  .fp [.int .i64 op,.int .i64 n,.sl (k.map RV.enc),.sl (env.map RV.enc),.int .i64 bo,.int .i64 bn,.sl (bk.map Tm.enc)] 0:=by simp only [RV.enc,Akk]
def RV.op:RV->Int
 | .mk op _ _ _ _=>op
def RV.n:RV->Int
 | .mk _ n _ _ _=>n
def RV.k:RV->List RV
 | .mk _ _ k _ _=>k
def RV.env:RV->List RV
 | .mk _ _ _ env _=>env
def RV.b:RV->Tm
 | .mk _ _ _ _ b=>b
def RV.var (n:Int):RV:=.mk 1 n [] [] .z
def RV.clo (env:List RV) (b:Tm):RV:=.mk 0 0 [] env b
def RV.zero:RV:=.mk 11 0 [] [] .z
def RV.node (op n:Int) (k:List RV):RV:=.mk op n k [] .z
theorem Ms (v:RV):v.enc=.fp [.int .i64 v.op,.int .i64 v.n,.sl (v.k.map RV.enc),.sl (v.env.map RV.enc),.int .i64 v.b.op,.int .i64 v.b.n,.sl (v.b.kids.map Tm.enc)] 0:=by
 obtain ⟨op,n,k,env,⟨bo,bn,bk⟩⟩:=v;exact HS ..
theorem XC (t:Tm):Tm.enc t=.agg [.int .i64 t.op,.int .i64 t.n,.sl (t.kids.map Tm.enc)]:=by cases t;exact Ah ..
theorem M0 (v:RV):v.enc.cells.length=1:=by obtain ⟨op,n,k,env,⟨bo,bn,bk⟩⟩:=v;rfl
theorem VU (v:RV):v.enc.cells.all FV.one=true:=by obtain ⟨op,n,k,env,⟨bo,bn,bk⟩⟩:=v;rfl
theorem AgY (v:RV):v.enc.cells=[v.enc]:=by obtain ⟨op,n,k,env,⟨bo,bn,bk⟩⟩:=v;rfl
theorem tVs:EE.T 129=some ⟨1,24,.slice 110,[.nils]⟩:=by kernel_rfl
theorem tVp:EE.T 110=some ⟨1,8,.ptr,[.fv .nilp]⟩:=by kernel_rfl
theorem sV:SliceT EE 129 1:=⟨_,_,_,_,_,tVs,tVp,rfl,by decide,by decide⟩
theorem Jr (l:List RV):Be 1 (l.map RV.enc)=true:=by
 cases l with
 | nil=>rfl
 | cons a l=>simp only [AzK,Be,M0,beq_self_eq_true]
theorem ApE (s:Nat) (h:Hp) (k:IV->Hp->List Ref->List Ref->Option (IV×Hp)):AE (An EE 129 0 []) s h k=k (.clip []) h [] [] :=
 Dr tVs tVp (by decide) (cells:=[]) rfl k
theorem VK (a:RV) (s:Nat) (h:Hp) (k:IV->Hp->List Ref->List Ref->Option (IV×Hp)):AE (An EE 129 1 [(0,.fv a.enc)]) s h k=k (.clip [a.enc]) h [] []:=by
 obtain ⟨op,n,kk,env,⟨bo,bn,bk⟩⟩:=a;rw [HS];exact Dr tVs tVp (by decide) (cells:=[.fp [.int .i64 op,.int .i64 n,.sl (kk.map RV.enc),.sl (env.map RV.enc),.int .i64 bo,.int .i64 bn,.sl (bk.map Tm.enc)] 0]) rfl k
theorem AuT (a b:RV) (s:Nat) (h:Hp) (k:IV->Hp->List Ref->List Ref->Option (IV×Hp)):AE (An EE 129 2 [(0,.fv a.enc),(1,.fv b.enc)]) s h k=k (.clip [a.enc,b.enc]) h [] []:=by
 obtain ⟨op,n,kk,env,⟨bo,bn,bk⟩⟩:=a;obtain ⟨op',n',kk',env',⟨bo',bn',bk'⟩⟩:=b;rw [HS,HS];exact Dr tVs tVp (by decide) (cells:=[.fp [.int .i64 op,.int .i64 n,.sl (kk.map RV.enc),.sl (env.map RV.enc),.int .i64 bo,.int .i64 bn,.sl (bk.map Tm.enc)] 0,.fp [.int .i64 op',.int .i64 n',.sl (kk'.map RV.enc),.sl (env'.map RV.enc),.int .i64 bo',.int .i64 bn',.sl (bk'.map Tm.enc)] 0]) rfl k
theorem AuI (a b c d:RV) (s:Nat) (h:Hp) (k:IV->Hp->List Ref->List Ref->Option (IV×Hp)):AE (An EE 129 4 [(0,.fv a.enc),(1,.fv b.enc),(2,.fv c.enc),(3,.fv d.enc)]) s h k =
  k (.clip [a.enc,b.enc,c.enc,d.enc]) h [] []:=by
 have key:∀x:RV,∃l,x.enc=.fp l 0:=fun x=>⟨_,Ms x⟩;obtain ⟨la,ha⟩:=key a;obtain ⟨lb,hb⟩:=key b;obtain ⟨lc,hc⟩:=key c;obtain ⟨ld,hd⟩:=key d;rw [ha,hb,hc,hd];exact Dr tVs tVp (by decide) (cells:=[.fp la 0,.fp lb 0,.fp lc 0,.fp ld 0]) rfl k
theorem Aib (e:RV) (s:Nat) (own:List (Nat×Blk)) (ext:List Blk) (k:IV->Hp->List Ref->List Ref->Option (IV×Hp)) :
  AE (AJ EE s false .append [129,129] [.nils,.clip [e.enc]]) s ⟨own,ext⟩ k=CY own s (Bk own s (.tok 1 1) fun own=>k (.app (.own s) [e.enc]) ⟨own,ext⟩ [] [.own s]) :=
 F5 sV (.clip _) (Jr [e]) rfl (by simp) (.inl rfl) s own ext k
theorem X8 {es:List RV} (hb:es.length+1<=1000000) (e:RV) (r s:Nat) (own:List (Nat×Blk)) (ext:List Blk) (k:IV->Hp->List Ref->List Ref->Option (IV×Hp)) :
  AE (AJ EE s false .append [129,129] [.app (.own r) (es.map RV.enc),.clip [e.enc]]) s ⟨own,ext⟩ k =
   Jo own r fun b=>Aje b es.length 1 (Bk own r (.tok (es.length+1) 1) fun own=>k (.app (.own r) ((es++[e]).map RV.enc)) ⟨own,ext⟩ [.own r] [.own r]):=by
 rw [Nn sV (.clip [e.enc]) (Jr [e]) (Jr es) (by simp [VU]) (by simpa using hb) r s own ext k];simp only [List.length_map,List.map_append,AzK,AzJ,AzI,List.length_nil,Nat.zero_add]
theorem Rh {n:Nat} (hn:0<n) (env vs:List RV) (hv:vs≠[]) (hb:env.length+vs.length<=1000000):AS (SS dt n 109 [.fv (.sl (env.map RV.enc)),.fv (.sl (vs.map RV.enc))] ⟨[],[]⟩) (.sl ((env++vs).map RV.enc)):=by
 obtain ⟨n,rfl⟩:∃k,n=k+1:=⟨n - 1,by omega⟩;rw [Aw0];have hvs:(vs.map RV.enc).isEmpty=false:=by cases vs with
  | nil=>exact absurd rfl hv
  | cons _ _=>rfl
 cases env with
 | nil =>
  simp only [Ahc,↓XX,XY,↓reduceIte,Nat.reduceBEq,Nat.reduceAdd,Int.reduceEq,Int.reduceLT,Int.reduceLE,↓ApE,↓Aca sV (.sl []) (.inr rfl),↓F5 sV (.sl (vs.map RV.enc)) (Jr vs) hvs (by simp;simp at hb;omega) (.inr rfl),List.nil_append];exact A3 rfl _
 | cons a env =>
  simp only [Ahc,↓XX,XY,↓reduceIte,Nat.reduceBEq,Nat.reduceAdd,Int.reduceEq,Int.reduceLT,Int.reduceLE,↓ApE];have h1:((a::env).map RV.enc).isEmpty=false:=rfl;have h0:=fun {β:Type}=>F5 (β:=β) sV (.sl ((a::env).map RV.enc)) (Jr (a::env)) h1 (by simp only [List.length_map];omega) (.inr rfl:IV.clip []=.nils\/IV.clip []=.clip []);have h2:=fun {β:Type}=>Nn (β:=β) sV (.sl (vs.map RV.enc)) (Jr vs) (Jr (a::env)) (by simp [VU]) (by simp only [List.length_map];omega);simp only [AzK] at h0 h2;simp only [↓XX,XY,↓reduceIte,Nat.reduceBEq,Nat.reduceAdd,Int.reduceEq,Int.reduceLT,Int.reduceLE,↓h0,↓h2,↓FR,List.map_append,List.cons_append];exact A3 rfl _
theorem AhO {n:Nat} (hn:0<n) (s nd:Int) (h1:s<=1000000) (h0:0<=s):C7 (SS dt n 117 [.ptr (.ext 0) 0] ⟨[],[.row [iv s,iv nd,iv 0] false]⟩) (.bool (decide (s+1<=1000)))
  [.row [iv (s+1),iv nd,iv (if s+1<=1000 then 0 else 17)] false]:=by
 obtain ⟨n,rfl⟩:∃k,n=k+1:=⟨n - 1,by omega⟩;rw [Av6];have hw:BD (s+1)=s+1:=by rw [Az]<;>omega
 by_cases h:s+1<=1000
 ·have h':¬ 1000<s+1:=by omega
  simp only [R5,RT,Ql,QY,AgU,↓XX,XY,↓reduceIte,Nat.reduceBEq,Nat.reduceAdd,Int.reduceEq,Int.reduceLT,Int.reduceLE,hw,h,h'];exact AX _ _ _
 ·have h':1000<s+1:=by omega
  simp only [R5,RT,Ql,QY,AgU,↓XX,XY,↓reduceIte,Nat.reduceBEq,Nat.reduceAdd,Int.reduceEq,Int.reduceLT,Int.reduceLE,hw,h,h'];exact AX _ _ _
def A7 (ev:Int->Int->Tm->Option (RV×Int×Int)) (op:Int) (env:List RV):Nat->List Tm->Int->Int->Option (List RV×Int×Int)
 | _,[],s,e=>some ([],s,e)
 | i,t::l,s,e=>if 0<Am op i then (A7 ev op env (i+1) l s e).map fun (vs,s,e)=>(.clo env t::vs,s,e) else
  match ev s e t with
  | none=>none
  | some (v,s,e)=>(A7 ev op env (i+1) l s e).map fun (vs,s,e)=>(v::vs,s,e)
mutual
def AK:Nat->Int->Int->Tm->List RV->Option (RV×Int×Int)
 | 0,_,_,_,_=>none
 | f+1,s,e,.mk op m ks,env =>
  if e≠0 then some (.zero,s,e) else if 900000<env.length then none else
  if op=1 then
   if m<env.length then (if 0<=m then (env[(env.length - 1 - m).toNat]?).map fun v=>(v,s,e) else none)
   else if m<=4611686018427387904 then some (.var (env.length - 1 - m),s,e) else none
  else if f<=ks.length then none else if 900000<ks.length then none else
  match A7 (fun s e t=>AK f s e t env) op env 0 ks s e with
  | none=>none
  | some (vs,s,e)=>headR f s e (.node op m vs)
def headR:Nat->Int->Int->RV->Option (RV×Int×Int)
 | 0,_,_,_=>none
 | f+1,s,e,v =>
  if e≠0 then some (v,s,e) else if s<0\/1000000<s then none else
  if v.op=5 then (match v.k[0]? with
   | none=>none
   | some k0=>if k0.op=4 then
     (if s+1<=1000 then (match k0.k[1]?,v.k[1]? with
      | some c,some x=>if 900000<c.env.length then none else AK f (s+1) 0 c.b (c.env++[x])
      | _,_=>none) else some (v,s+1,17))
    else some (v,s,e))
  else if v.op=8\/v.op=9 then (match v.k[0]? with
   | none=>none
   | some k0=>if k0.op=7 then
     (if s+1<=1000 then (k0.k[(1+v.op - 8).toNat]?).map fun x=>(x,s+1,0) else some (v,s+1,17))
    else some (v,s,e))
  else if v.op=30 then (match v.k[0]? with
   | none=>none
   | some k0=>if k0.op=19 then
     (if s+1<=1000 then (k0.k[0]?).map fun x=>(x,s+1,0) else some (v,s+1,17))
    else some (v,s,e))
  else if v.op=19 then (match v.k[0]? with
   | none=>none
   | some k0=>if k0.op=30 then
     (if s+1<=1000 then (k0.k[0]?).map fun x=>(x,s+1,0) else some (v,s+1,17))
    else some (v,s,e))
  else if v.op=13 then (match v.k[0]?,v.k[1]?,v.k[2]?,v.k[3]? with
   | some k0,some k1,some k2,some k3 =>
    if k3.op=11 then (if s+1<=1000 then some (k1,s+1,0) else some (v,s+1,17))
    else if k3.op=12 then
     (if s+1<=1000 then (match k3.k[0]? with
      | none=>none
      | some x=>(match headR f (s+1) 0 (.node 13 0 [k0,k1,k2,x]) with
       | none=>none
       | some (h,s,e)=>if 900000<k2.env.length then none else AK f s e k2.b (k2.env++[x,h])))
     else some (v,s+1,17))
    else some (v,s,e)
   | _,_,_,_=>none)
  else some (v,s,e)
end
theorem XL {β:Type} {l:List RV} {i:Nat} {v:RV} (h:l[i]?=some v) (k:IV->Option β):AP 1 (.fv (.sl (l.map RV.enc))) (iv i) k=k (.fv (.fp [v.enc] 0)):=by
 have h1:(l.map RV.enc)[i]?=some v.enc:=by rw [List.getElem?_map,h];rfl
 rw [Bs h1 (M0 v),AgY]
def QX (f:Nat):Prop:=∀(s e:Int) (t:Tm) (env:List RV) (v:RV) (s' e' nd:Int),AK f s e t env=some (v,s',e')->∀n,f+1<=n ->
 C7 (SS dt n 82 [.ptr (.ext 0) 0,.fv t.enc,.fv (.sl (env.map RV.enc))] ⟨[],[.row [iv s,iv nd,iv e] false]⟩) v.enc [.row [iv s',iv nd,iv e'] false]
def Qy (f:Nat):Prop:=∀(s e:Int) (v w:RV) (s' e' nd:Int),headR f s e v=some (w,s',e')->∀n,f+1<=n ->
 C7 (SS dt n 110 [.ptr (.ext 0) 0,.fv v.enc] ⟨[],[.row [iv s,iv nd,iv e] false]⟩) w.enc [.row [iv s',iv nd,iv e'] false]
abbrev Abq (op m:Int) (ks:List Tm) (K:IV) (tok:List (Nat×Blk)) (s nd e:Int):Hp :=
 ⟨(85983232,.row [iv op,iv m,.fv (.sl (ks.map Tm.enc))] false)::(85990405,.row [iv op,iv m,K,.nils,iv 0,iv 0,.nils] false)::tok,[.row [iv s,iv nd,iv e] false]⟩
theorem Au9 {op m:Int} (l:List RV):(RV.node op m l).enc=.fp [.int .i64 op,.int .i64 m,.sl (l.map RV.enc),.sl [],.int .i64 0,.int .i64 0,.sl []] 0:=by rw [RV.node,Tm.z,HS];rfl
theorem Ag9 {f:Nat} (he:QX f) (hh:Qy f):QX (f+1):=by
 intro s e t env v s' e' nd hev n hn;obtain ⟨n,rfl⟩:∃k,n=k+1:=⟨n - 1,by omega⟩;rw [c82];obtain ⟨op,m,ks⟩:=t;rw [Ah];rw [AK] at hev;by_cases h0:e≠0
 ·rw [if_pos h0] at hev;simp only [AzE,AzF] at hev;obtain ⟨rfl,rfl,rfl⟩:=hev;simp only [IT,H4,HU,Ii,Ir,It,Iv,Ij,IL,IX,Ib,Ie,IU,Ig,In,IR,IQ,IS,Iu,H3,Ia,HV,S82,↓XX,XY,↓reduceIte,Nat.reduceBEq,Nat.reduceAdd,Int.reduceEq,Int.reduceLT,Int.reduceLE,h0];exact ⟨_,_,rfl,_,_,fun _ _=>rfl⟩
 ·have h0':e=0:=by omega
  subst h0';rw [if_neg h0] at hev;by_cases hlen:900000<env.length
  ·rw [if_pos hlen] at hev;cases hev
  ·rw [if_neg hlen] at hev;by_cases h1:op=1
   ·rw [if_pos h1] at hev;subst h1;by_cases h2:m<env.length
    ·rw [if_pos h2] at hev;by_cases h3:0<=m
     ·rw [if_pos h3] at hev;cases hg:env[(env.length - 1 - m).toNat]? with
      | none=>rw [hg] at hev;cases hev
      | some u =>
       rw [hg] at hev;simp only [AzH,AzE,AzF] at hev;obtain ⟨rfl,rfl,rfl⟩:=hev;have e1:BD ((env.length:Int) - 1)=env.length - 1:=by rw [Az]<;>omega
       have e2:BD ((env.length:Int) - 1 - m)=(((env.length:Int) - 1 - m).toNat:Int):=by rw [Az]<;>omega
       simp only [IT,H4,HU,Ii,Ir,It,Iv,Ij,IL,IX,Ib,Ie,IU,Ig,In,IR,IQ,IS,Iu,H3,Ia,HV,S82,↓XX,XY,↓reduceIte,Nat.reduceBEq,Nat.reduceAdd,Int.reduceEq,Int.reduceLT,Int.reduceLE,h2,e1,e2,↓XL hg];exact AX _ _ _
     ·rw [if_neg h3] at hev;cases hev
    ·rw [if_neg h2] at hev;by_cases h3:m<=4611686018427387904
     ·rw [if_pos h3] at hev;simp only [AzE,AzF] at hev;obtain ⟨rfl,rfl,rfl⟩:=hev;have e1:BD ((env.length:Int) - 1)=env.length - 1:=by rw [Az]<;>omega
      have e2:BD ((env.length:Int) - 1 - m)=(env.length:Int) - 1 - m:=by rw [Az]<;>omega
      simp only [IT,H4,HU,Ii,Ir,It,Iv,Ij,IL,IX,Ib,Ie,IU,Ig,In,IR,IQ,IS,Iu,H3,Ia,HV,S82,↓XX,XY,↓reduceIte,Nat.reduceBEq,Nat.reduceAdd,Int.reduceEq,Int.reduceLT,Int.reduceLE,h2,e1,e2];exact ⟨_,_,rfl,_,_,fun _ _=>rfl⟩
     ·rw [if_neg h3] at hev;cases hev
   ·rw [if_neg h1] at hev;by_cases hf:f<=ks.length
    ·rw [if_pos hf] at hev;cases hev
    ·rw [if_neg hf] at hev;by_cases hk9:900000<ks.length
     ·rw [if_pos hk9] at hev;cases hev
     ·rw [if_neg hk9] at hev;cases hkg:A7 (fun s e t=>AK f s e t env) op env 0 ks s 0 with
      | none=>rw [hkg] at hev;cases hev
      | some q =>
      obtain ⟨vs,s1,e1⟩:=q;rw [hkg] at hev;simp only at hev;simp only [IT,H4,HU,Ii,Ir,It,Iv,Ij,IL,IX,Ib,Ie,IU,Ig,In,IR,IQ,IS,Iu,H3,Ia,HV,S82,↓XX,XY,↓reduceIte,Nat.reduceBEq,Nat.reduceAdd,Int.reduceEq,Int.reduceLT,Int.reduceLE,h1,↓AL,XD,heldB,AT,XE];refine Bc (Q:=fun r=>C7 r _ _) (fun k V H=>∃pre rest done s2 e2 us s3 e3,ks=pre++rest/\rest.length=k/\done.length=pre.length/\V=[.ptr (.ext 0) 0,.fv (.sl (env.map RV.enc)),.ptr (.own 85983232) 0,.ptr (.own 85990405) 0,iv pre.length] /\
       (
        (pre=[]/\H=Abq op m ks .nils [] s2 nd e2) \/
        (∃r,(r=85995534\/r=85996558)/\pre≠[]/\H=Abq op m ks (.app (.own r) (done.map RV.enc)) [(r,.tok done.length 1)] s2 nd e2)) /\
       A7 (fun s e t=>AK f s e t env) op env pre.length rest s2 e2=some (us,s3,e3)/\headR f s3 e3 (.node op m (done++us))=some (v,s',e'))
       ?_ n ks.length _ _ (by omega) ⟨[],ks,[],s,0,vs,s1,e1,rfl,rfl,rfl,rfl,.inl ⟨rfl,rfl⟩,hkg,hev⟩
      rintro k V H rec ⟨pre,rest,done,s2,e2,us,s3,e3,hk,hl,hdl,rfl,hH,hkids,hhead⟩ hrec;have hkl:ks.length=pre.length+rest.length:=by rw [hk];simp
      have zenc:∀l:List RV,(RV.node op m l).enc=.fp [.int .i64 op,.int .i64 m,.sl (l.map RV.enc),.sl [],.int .i64 0,.int .i64 0,.sl []] 0:=fun l=>Au9 l;cases rest with
      | nil =>
       simp only [A7,AzE,AzF] at hkids;obtain ⟨rfl,rfl,rfl⟩:=hkids;rw [List.append_nil] at hhead;have hc:=hh s2 e2 _ v s' e' nd hhead n (by omega);rw [zenc] at hc;have hpre:ks=pre:=by simpa using hk
       subst hpre;rcases hH with ⟨rfl,rfl⟩ | ⟨r,hr,hne,rfl⟩
       ·have hd:done=[]:=List.length_eq_zero_iff.1 hdl;subst hd;have hcall:=fun k=>Rq (k:=k) (own:=[(85983232,.row [iv op,iv m,.fv (.sl (([]:List Tm).map Tm.enc))] false),(85990405,.row [iv op,iv m,.nils,.nils,iv 0,iv 0,.nils] false)])
         (cells:=[iv op,iv m,.nils,.nils,iv 0,iv 0,.nils]) (ro:=false) (s:=85990405) hc (Cs ..) (by simp [Aw]) rfl (by simp)
        simp only [↓UU5,↓XX,XY,↓reduceIte,Nat.reduceBEq,Nat.reduceAdd,Int.reduceEq,Int.reduceLT,Int.reduceLE,Int.lt_irrefl,↓hcall];exact AX _ _ _
       ·have hcall:=fun k=>Rq (k:=k) (own:=[(85983232,.row [iv op,iv m,.fv (.sl (ks.map Tm.enc))] false),(85990405,.row [iv op,iv m,.app (.own r) (done.map RV.enc),.nils,iv 0,iv 0,.nils] false),(r,.tok done.length 1)])
         (cells:=[iv op,iv m,.app (.own r) (done.map RV.enc),.nils,iv 0,iv 0,.nils]) (ro:=false) (s:=85990405) hc (Cs ..) (by simp [Aw]) rfl (by simp)
        simp only [↓UU5,↓XX,XY,↓reduceIte,Nat.reduceBEq,Nat.reduceAdd,Int.reduceEq,Int.reduceLT,Int.reduceLE,Int.lt_irrefl,↓hcall];exact AX _ _ _
      | cons t rest =>
       have hi:(pre.length:Int)<ks.length:=by rw [hkl];simp;omega
       have hg:=Cw hk;have hb:=DR (n:=n) (by omega) op pre.length;have hwi:BD ((pre.length:Int)+1)=((pre++[t]).length:Int):=(Az (by omega) (by omega)).trans (by simp);have hbi:(0<(Am op pre.length:Int)) ↔ 0<Am op pre.length:=by omega
       have hd9:done.length+1<=1000000:=by omega
       simp only [A7] at hkids;simp only [AzI] at hl;by_cases hbp:0<Am op pre.length
       ·rw [if_pos hbp] at hkids;cases hkk:A7 (fun s e t=>AK f s e t env) op env (pre.length+1) rest s2 e2 with
        | none=>rw [hkk] at hkids;cases hkids
        | some q =>
        obtain ⟨us',s4,e4⟩:=q;rw [hkk] at hkids;simp only [AzH,AzE,AzF] at hkids;obtain ⟨rfl,rfl,rfl⟩:=hkids;have hbp':0<(Am op pre.length:Int):=by omega
        have hce:(RV.clo env t).enc=.fp [.int .i64 0,.int .i64 0,.sl [],.sl (env.map RV.enc),.int .i64 t.op,.int .i64 t.n,.sl (t.kids.map Tm.enc)] 0:=by rw [Ms];rfl
        have hnext:∀tk,(tk=85995534\/tk=85996558)->C7 (rec [.ptr (.ext 0) 0,.fv (.sl (env.map RV.enc)),.ptr (.own 85983232) 0,.ptr (.own 85990405) 0,iv (pre++[t]).length]
          (Abq op m ks (.app (.own tk) ((done++[RV.clo env t]).map RV.enc)) [(tk,.tok (done++[RV.clo env t]).length 1)] s2 nd e2)) v.enc [.row [iv s',iv nd,iv e'] false]:=fun tk htk =>
         hrec rest.length _ _ (by omega) ⟨pre++[t],rest,done++[.clo env t],s2,e2,us',s4,e4,by rw [hk];simp,rfl,by simp [hdl],rfl,.inr ⟨tk,htk,by simp,rfl⟩,by simpa using hkk,by simpa using hhead⟩
        obtain ⟨o,p,l⟩:=t;simp only [Tm.op,Tm.n,Tm.kids] at hce;have ha0:=fun {s own ext k}=>Aib (RV.clo env (.mk o p l)) s own ext k;have ha1:=fun {r s own ext k}=>X8 hd9 (RV.clo env (.mk o p l)) r s own ext k;rw [hce] at ha0 ha1;have hbs:=fun (tl:List (Nat×Blk)) (K:IV) (own:List (Nat×Blk)) (hown:own=(85983232,.row [iv op,iv m,.fv (.sl (ks.map Tm.enc))] false)::(85990405,.row [iv op,iv m,K,.nils,iv 0,iv 0,.nils] false)::tl) (hl:Aw 85995532 own=some (.row [iv 0,iv 0,.nils,.fv (.sl (env.map RV.enc)),iv o,iv p,.fv (.sl (l.map Tm.enc))] false)) (own':List (Nat×Blk)) (ho) s ext (k:IV->Hp->List Ref->List Ref->Option (IV×Hp)) =>
         AtP (E:=EE) (own:=own) (own':=own') tVs tVp rfl ⟨_,rfl⟩ hl (fc:=[.int .i64 0,.int .i64 0,.sl [],.sl (env.map RV.enc),.int .i64 o,.int .i64 p,.sl (l.map Tm.enc)]) rfl (by simp) ho s ext k
        rcases hH with ⟨hp0,rfl⟩ | ⟨r,hr,hne,rfl⟩
        ·have hd0:done=[]:=List.length_eq_zero_iff.1 (by rw [hdl,hp0];rfl);subst hd0;have h9:=hnext _ (.inl rfl);simp only [List.nil_append,AzK,AzJ,AzI,List.length_nil] at h9;rw [hce] at h9;have hb0:=fun s ext k=>hbs [(85995532,.row [iv 0,iv 0,.nils,.fv (.sl (env.map RV.enc)),iv o,iv p,.fv (.sl (l.map Tm.enc))] false)] .nils _ rfl (by simp [Aw])
          [(85983232,.row [iv op,iv m,.fv (.sl (ks.map Tm.enc))] false),(85990405,.row [iv op,iv m,.nils,.nils,iv 0,iv 0,.nils] false),(85995532,.row [iv 0,iv 0,.nils,.fv (.sl (env.map RV.enc)),iv o,iv p,.fv (.sl (l.map Tm.enc))] true)] (by simp [Bf]) s ext k
         simp only [↓UU5,↓XX,XY,↓reduceIte,Nat.reduceBEq,Nat.reduceAdd,Int.reduceEq,Int.reduceLT,Int.reduceLE,hi,↓Bs (AN hg) (Bb _ _ _),↓Cg,↓Ag hb,hbp',hwi,↓hb0,↓ha0,↓AL,XD,heldB,AT,XE];exact h9
        ·have h9:=hnext r hr;rw [show (done++[RV.clo env (Tm.mk o p l)]).length=done.length+1 by simp] at h9
         simp only [List.map_append,AzK,AzJ] at h9;rw [hce] at h9;simp only [List.map_append,AzK,AzJ] at ha1;rw [hce] at ha1;have hb0:=fun s ext k=>hbs [(r,.tok done.length 1),(85995532,.row [iv 0,iv 0,.nils,.fv (.sl (env.map RV.enc)),iv o,iv p,.fv (.sl (l.map Tm.enc))] false)] (.app (.own r) (done.map RV.enc)) _ rfl (by rcases hr with rfl | rfl<;>simp [Aw])
          [(85983232,.row [iv op,iv m,.fv (.sl (ks.map Tm.enc))] false),(85990405,.row [iv op,iv m,.app (.own r) (done.map RV.enc),.nils,iv 0,iv 0,.nils] false),(r,.tok done.length 1),(85995532,.row [iv 0,iv 0,.nils,.fv (.sl (env.map RV.enc)),iv o,iv p,.fv (.sl (l.map Tm.enc))] true)]
          (by rcases hr with rfl | rfl<;>simp [Bf]) s ext k
         rcases hr with rfl | rfl
         ·simp only [↓UU5,↓XX,XY,↓reduceIte,Nat.reduceBEq,Nat.reduceAdd,Int.reduceEq,Int.reduceLT,Int.reduceLE,hi,↓Bs (AN hg) (Bb _ _ _),↓Cg,↓Ag hb,hbp',hwi,↓hb0,↓ha1,↓FR,↓AL,XD,heldB,AT,XE];exact h9
         ·simp only [↓UU5,↓XX,XY,↓reduceIte,Nat.reduceBEq,Nat.reduceAdd,Int.reduceEq,Int.reduceLT,Int.reduceLE,hi,↓Bs (AN hg) (Bb _ _ _),↓Cg,↓Ag hb,hbp',hwi,↓hb0,↓ha1,↓FR,↓AL,XD,heldB,AT,XE];exact h9
       ·rw [if_neg hbp] at hkids;have hbp':¬ 0<(Am op pre.length:Int):=by omega
        cases hev1:AK f s2 e2 t env with
        | none=>rw [hev1] at hkids;cases hkids
        | some q =>
        obtain ⟨v1,s4,e4⟩:=q;rw [hev1] at hkids;simp only at hkids;cases hkk:A7 (fun s e t=>AK f s e t env) op env (pre.length+1) rest s4 e4 with
        | none=>rw [hkk] at hkids;cases hkids
        | some q =>
        obtain ⟨us',s5,e5⟩:=q;rw [hkk] at hkids;simp only [AzH,AzE,AzF] at hkids;obtain ⟨rfl,rfl,rfl⟩:=hkids;have hc:=he s2 e2 t env v1 s4 e4 nd hev1 n (by omega);have hnext:∀tk,(tk=85995534\/tk=85996558)->C7 (rec [.ptr (.ext 0) 0,.fv (.sl (env.map RV.enc)),.ptr (.own 85983232) 0,.ptr (.own 85990405) 0,iv (pre++[t]).length]
          (Abq op m ks (.app (.own tk) ((done++[v1]).map RV.enc)) [(tk,.tok (done++[v1]).length 1)] s4 nd e4)) v.enc [.row [iv s',iv nd,iv e'] false]:=fun tk htk =>
         hrec rest.length _ _ (by omega) ⟨pre++[t],rest,done++[v1],s4,e4,us',s5,e5,by rw [hk];simp,rfl,by simp [hdl],rfl,.inr ⟨tk,htk,by simp,rfl⟩,by simpa using hkk,by simpa using hhead⟩
        obtain ⟨o,p,l⟩:=t;rw [Ah] at hc;rcases hH with ⟨hp0,rfl⟩ | ⟨r,hr,hne,rfl⟩
        ·have hd0:done=[]:=List.length_eq_zero_iff.1 (by rw [hdl,hp0];rfl);subst hd0;have h9:=hnext _ (.inr rfl);simp only [List.nil_append,AzK,AzJ,AzI,List.length_nil] at h9;simp only [↓UU5,↓XX,XY,↓reduceIte,Nat.reduceBEq,Nat.reduceAdd,Int.reduceEq,Int.reduceLT,Int.reduceLE,hi,↓Bs (AN hg) (Bb _ _ _),↓Cg,↓Ag hb,hbp',hwi,↓Jg hc (Cs _ _ _ _ _ _),↓VK,↓Aib,↓AL,XD,heldB,AT,XE];exact h9
        ·have h9:=hnext r hr;rw [show (done++[v1]).length=done.length+1 by simp] at h9
         rcases hr with rfl | rfl
         ·simp only [↓UU5,↓XX,XY,↓reduceIte,Nat.reduceBEq,Nat.reduceAdd,Int.reduceEq,Int.reduceLT,Int.reduceLE,hi,↓Bs (AN hg) (Bb _ _ _),↓Cg,↓Ag hb,hbp',hwi,↓Jg hc (Cs _ _ _ _ _ _),↓VK,↓X8 hd9,↓FR,↓AL,XD,heldB,AT,XE];exact h9
         ·simp only [↓UU5,↓XX,XY,↓reduceIte,Nat.reduceBEq,Nat.reduceAdd,Int.reduceEq,Int.reduceLT,Int.reduceLE,hi,↓Bs (AN hg) (Bb _ _ _),↓Cg,↓Ag hb,hbp',hwi,↓Jg hc (Cs _ _ _ _ _ _),↓VK,↓X8 hd9,↓FR,↓AL,XD,heldB,AT,XE];exact h9
def RV.cl (v:RV):List FV:=[.int .i64 v.op,.int .i64 v.n,.sl (v.k.map RV.enc),.sl (v.env.map RV.enc),.int .i64 v.b.op,.int .i64 v.b.n,.sl (v.b.kids.map Tm.enc)]
section
variable {β:Type} (v:RV)
theorem AuX (k:IV->Option β):A0 (.fv v.enc) k=k (.fv v.enc):=by rw [Ms];rfl
theorem Aws (o:Nat) (k:IV->Option β):Af o (.fv v.enc) k=k (.fv (.fp v.cl o)):=by rw [Ms,AuW];rfl
theorem nc0 (k:FV->Option β):Dt v.cl 0 k=k (.int .i64 v.op):=rfl
theorem nc1 (k:FV->Option β):Dt v.cl 1 k=k (.int .i64 v.n):=rfl
theorem nc2 (k:FV->Option β):Dt v.cl 2 k=k (.sl (v.k.map RV.enc)):=rfl
theorem nc3 (k:FV->Option β):Dt v.cl 3 k=k (.sl (v.env.map RV.enc)):=rfl
theorem dc4 (k:List FV->Option β):EH v.cl 4 k=k [.int .i64 v.b.op,.int .i64 v.b.n,.sl (v.b.kids.map Tm.enc)]:=rfl
end
theorem GT {β:Type} {l:List RV} {v:RV} (h:l[0]?=some v) (k:IV->Option β):AP 1 (.fv (.sl (l.map RV.enc))) (iv 0) k=k (.fv (.fp [v.enc] 0)):=XL (i:=0) h k
theorem Ak7 {β:Type} {l:List RV} {v:RV} (h:l[1]?=some v) (k:IV->Option β):AP 1 (.fv (.sl (l.map RV.enc))) (iv 1) k=k (.fv (.fp [v.enc] 0)):=XL (i:=1) h k
theorem AvJ {β:Type} {l:List RV} {v:RV} (h:l[2]?=some v) (k:IV->Option β):AP 1 (.fv (.sl (l.map RV.enc))) (iv 2) k=k (.fv (.fp [v.enc] 0)):=XL (i:=2) h k
theorem AiQ {β:Type} {l:List RV} {v:RV} (h:l[3]?=some v) (k:IV->Option β):AP 1 (.fv (.sl (l.map RV.enc))) (iv 3) k=k (.fv (.fp [v.enc] 0)):=XL (i:=3) h k
def XV:=AzD @AuX<|AzD @Aws<|AzD @nc0<|AzD @nc1<|AzD @nc2<|AzD @nc3 @dc4
theorem Ahx {f:Nat} (he:QX f) (hh:Qy f):Qy (f+1):=by
 intro s e v w s' e' nd hev n hn;obtain ⟨n,rfl⟩:∃k,n=k+1:=⟨n - 1,by omega⟩;rw [Awg];rw [headR] at hev;by_cases h0:e≠0
 ·rw [if_pos h0] at hev;simp only [AzE,AzF] at hev;obtain ⟨rfl,rfl,rfl⟩:=hev;simp only [↓O1,↓XX,XY,↓reduceIte,Nat.reduceBEq,Nat.reduceAdd,Int.reduceEq,Int.reduceLT,Int.reduceLE,h0];exact AX _ _ _
 ·have h0':e=0:=by omega
  subst h0';rw [if_neg h0] at hev;by_cases hs:s<0\/1000000<s
  ·rw [if_pos hs] at hev;cases hev
  ·rw [if_neg hs] at hev;have hst:=AhO (n:=n) (by omega) s nd (by omega) (by omega);have CD:∀{x:RV} {a b:Int},some (x,a,b)=some (w,s',e')->x=w/\a=s'/\b=e':=by
    intro x a b h;simp only [AzE,AzF] at h;exact h
   by_cases h5:v.op=5
   ·rw [if_pos h5] at hev;cases hk0:v.k[0]? with
    | none=>rw [hk0] at hev;cases hev
    | some k0 =>
     rw [hk0] at hev;simp only at hev;by_cases h4:k0.op=4
     ·rw [if_pos h4] at hev;by_cases hq:s+1<=1000
      ·rw [if_pos hq] at hev;simp only [hq,decide_true,if_true] at hst;cases hc:k0.k[1]? with
       | none=>rw [hc] at hev;cases hev
       | some c =>
        cases hx:v.k[1]? with
        | none=>rw [hc,hx] at hev;cases hev
        | some x =>
         rw [hc,hx] at hev;simp only at hev;by_cases hl:900000<c.env.length
         ·rw [if_pos hl] at hev;cases hev
         ·rw [if_neg hl] at hev;have hcall:=he (s+1) 0 c.b (c.env++[x]) w s' e' nd hev n (by omega);rw [XC] at hcall;have hp:=Rh (n:=n) (by omega) c.env [x] (by simp) (by simp;omega);simp only [AzK,AzJ] at hp;simp only [↓O1,↓XX,XY,↓reduceIte,Nat.reduceBEq,Nat.reduceAdd,Int.reduceEq,Int.reduceLT,Int.reduceLE,↓XV,h5,↓GT hk0,h4,↓Du hst (Cs _ _ _ _ _ _),↓Ak7 hc,↓Ak7 hx,↓VK,↓Ag hp,↓Jg hcall (Cs _ _ _ _ _ _)];exact AX _ _ _
      ·rw [if_neg hq] at hev;obtain ⟨rfl,rfl,rfl⟩:=CD hev;simp only [hq,decide_false,if_false] at hst;simp only [↓O1,↓XX,XY,↓reduceIte,Nat.reduceBEq,Nat.reduceAdd,Int.reduceEq,Int.reduceLT,Int.reduceLE,↓XV,h5,↓GT hk0,h4,↓Du hst (Cs _ _ _ _ _ _)];exact AX _ _ _
     ·rw [if_neg h4] at hev;obtain ⟨rfl,rfl,rfl⟩:=CD hev;simp only [↓O1,↓XX,XY,↓reduceIte,Nat.reduceBEq,Nat.reduceAdd,Int.reduceEq,Int.reduceLT,Int.reduceLE,↓XV,h5,↓GT hk0,h4];exact AX _ _ _
   ·rw [if_neg h5] at hev;by_cases h89:v.op=8\/v.op=9
    ·rw [if_pos h89] at hev;cases hk0:v.k[0]? with
     | none=>rw [hk0] at hev;cases hev
     | some k0 =>
      rw [hk0] at hev;simp only at hev;by_cases h7:k0.op=7
      ·rw [if_pos h7] at hev;by_cases hq:s+1<=1000
       ·rw [if_pos hq] at hev;simp only [hq,decide_true,if_true] at hst;cases hx:k0.k[(1+v.op - 8).toNat]? with
        | none=>rw [hx] at hev;cases hev
        | some x =>
         rw [hx] at hev;obtain ⟨rfl,rfl,rfl⟩:=CD hev;rcases h89 with h8 | h9
         ·rw [h8] at hx;have hw1:BD (1+8)=9:=by decide
          have hw2:BD (9 - 8)=1:=by decide
          simp only [↓O1,↓XX,XY,↓reduceIte,Nat.reduceBEq,Nat.reduceAdd,Int.reduceEq,Int.reduceLT,Int.reduceLE,↓XV,h8,↓GT hk0,h7,↓Du hst (Cs _ _ _ _ _ _),hw1,hw2,↓Ak7 (l:=k0.k) (v:=x) hx];exact AX _ _ _
         ·rw [h9] at hx;have hw1:BD (1+9)=10:=by decide
          have hw2:BD (10 - 8)=2:=by decide
          simp only [↓O1,↓XX,XY,↓reduceIte,Nat.reduceBEq,Nat.reduceAdd,Int.reduceEq,Int.reduceLT,Int.reduceLE,↓XV,h9,↓GT hk0,h7,↓Du hst (Cs _ _ _ _ _ _),hw1,hw2,↓AvJ (l:=k0.k) (v:=x) hx];exact AX _ _ _
       ·rw [if_neg hq] at hev;obtain ⟨rfl,rfl,rfl⟩:=CD hev;simp only [hq,decide_false,if_false] at hst;rcases h89 with h8 | h9
        ·simp only [↓O1,↓XX,XY,↓reduceIte,Nat.reduceBEq,Nat.reduceAdd,Int.reduceEq,Int.reduceLT,Int.reduceLE,↓XV,h8,↓GT hk0,h7,↓Du hst (Cs _ _ _ _ _ _)];exact AX _ _ _
        ·simp only [↓O1,↓XX,XY,↓reduceIte,Nat.reduceBEq,Nat.reduceAdd,Int.reduceEq,Int.reduceLT,Int.reduceLE,↓XV,h9,↓GT hk0,h7,↓Du hst (Cs _ _ _ _ _ _)];exact AX _ _ _
      ·rw [if_neg h7] at hev;obtain ⟨rfl,rfl,rfl⟩:=CD hev;rcases h89 with h8 | h9
       ·simp only [↓O1,↓XX,XY,↓reduceIte,Nat.reduceBEq,Nat.reduceAdd,Int.reduceEq,Int.reduceLT,Int.reduceLE,↓XV,h8,↓GT hk0,h7];exact AX _ _ _
       ·simp only [↓O1,↓XX,XY,↓reduceIte,Nat.reduceBEq,Nat.reduceAdd,Int.reduceEq,Int.reduceLT,Int.reduceLE,↓XV,h9,↓GT hk0,h7];exact AX _ _ _
    ·rw [if_neg h89] at hev;have h8:¬ v.op=8:=fun e=>h89 (.inl e);have h9:¬ v.op=9:=fun e=>h89 (.inr e);by_cases h30:v.op=30
     ·rw [if_pos h30] at hev;cases hk0:v.k[0]? with
      | none=>rw [hk0] at hev;cases hev
      | some k0 =>
       rw [hk0] at hev;simp only at hev;by_cases h7:k0.op=19
       ·rw [if_pos h7] at hev;by_cases hq:s+1<=1000
        ·rw [if_pos hq] at hev;simp only [hq,decide_true,if_true] at hst;cases hx:k0.k[0]? with
         | none=>rw [hx] at hev;cases hev
         | some x =>
          rw [hx] at hev;obtain ⟨rfl,rfl,rfl⟩:=CD hev;simp only [↓O1,↓XX,XY,↓reduceIte,Nat.reduceBEq,Nat.reduceAdd,Int.reduceEq,Int.reduceLT,Int.reduceLE,↓XV,h30,↓GT hk0,h7,↓Du hst (Cs _ _ _ _ _ _),↓GT hx];exact AX _ _ _
        ·rw [if_neg hq] at hev;obtain ⟨rfl,rfl,rfl⟩:=CD hev;simp only [hq,decide_false,if_false] at hst;simp only [↓O1,↓XX,XY,↓reduceIte,Nat.reduceBEq,Nat.reduceAdd,Int.reduceEq,Int.reduceLT,Int.reduceLE,↓XV,h30,↓GT hk0,h7,↓Du hst (Cs _ _ _ _ _ _)];exact AX _ _ _
       ·rw [if_neg h7] at hev;obtain ⟨rfl,rfl,rfl⟩:=CD hev;simp only [↓O1,↓XX,XY,↓reduceIte,Nat.reduceBEq,Nat.reduceAdd,Int.reduceEq,Int.reduceLT,Int.reduceLE,↓XV,h30,↓GT hk0,h7];exact AX _ _ _
     ·rw [if_neg h30] at hev;by_cases h19:v.op=19
      ·rw [if_pos h19] at hev;cases hk0:v.k[0]? with
       | none=>rw [hk0] at hev;cases hev
       | some k0 =>
        rw [hk0] at hev;simp only at hev;by_cases h7:k0.op=30
        ·rw [if_pos h7] at hev;by_cases hq:s+1<=1000
         ·rw [if_pos hq] at hev;simp only [hq,decide_true,if_true] at hst;cases hx:k0.k[0]? with
          | none=>rw [hx] at hev;cases hev
          | some x =>
           rw [hx] at hev;obtain ⟨rfl,rfl,rfl⟩:=CD hev;simp only [↓O1,↓XX,XY,↓reduceIte,Nat.reduceBEq,Nat.reduceAdd,Int.reduceEq,Int.reduceLT,Int.reduceLE,↓XV,h19,↓GT hk0,h7,↓Du hst (Cs _ _ _ _ _ _),↓GT hx];exact AX _ _ _
         ·rw [if_neg hq] at hev;obtain ⟨rfl,rfl,rfl⟩:=CD hev;simp only [hq,decide_false,if_false] at hst;simp only [↓O1,↓XX,XY,↓reduceIte,Nat.reduceBEq,Nat.reduceAdd,Int.reduceEq,Int.reduceLT,Int.reduceLE,↓XV,h19,↓GT hk0,h7,↓Du hst (Cs _ _ _ _ _ _)];exact AX _ _ _
        ·rw [if_neg h7] at hev;obtain ⟨rfl,rfl,rfl⟩:=CD hev;simp only [↓O1,↓XX,XY,↓reduceIte,Nat.reduceBEq,Nat.reduceAdd,Int.reduceEq,Int.reduceLT,Int.reduceLE,↓XV,h19,↓GT hk0,h7];exact AX _ _ _
      ·rw [if_neg h19] at hev;by_cases h13:v.op=13
       ·rw [if_pos h13] at hev;cases hk0:v.k[0]? with
        | none=>rw [hk0] at hev;cases hev
        | some k0 =>
        cases hk1:v.k[1]? with
        | none=>rw [hk0,hk1] at hev;cases hev
        | some k1 =>
        cases hk2:v.k[2]? with
        | none=>rw [hk0,hk1,hk2] at hev;cases hev
        | some k2 =>
        cases hk3:v.k[3]? with
        | none=>rw [hk0,hk1,hk2,hk3] at hev;cases hev
        | some k3 =>
        rw [hk0,hk1,hk2,hk3] at hev;simp only at hev;by_cases h11:k3.op=11
        ·rw [if_pos h11] at hev;by_cases hq:s+1<=1000
         ·rw [if_pos hq] at hev;obtain ⟨rfl,rfl,rfl⟩:=CD hev;simp only [hq,decide_true,if_true] at hst;simp only [↓O1,↓XX,XY,↓reduceIte,Nat.reduceBEq,Nat.reduceAdd,Int.reduceEq,Int.reduceLT,Int.reduceLE,↓XV,h13,↓AiQ hk3,h11,↓Du hst (Cs _ _ _ _ _ _),↓Ak7 hk1];exact AX _ _ _
         ·rw [if_neg hq] at hev;obtain ⟨rfl,rfl,rfl⟩:=CD hev;simp only [hq,decide_false,if_false] at hst;simp only [↓O1,↓XX,XY,↓reduceIte,Nat.reduceBEq,Nat.reduceAdd,Int.reduceEq,Int.reduceLT,Int.reduceLE,↓XV,h13,↓AiQ hk3,h11,↓Du hst (Cs _ _ _ _ _ _)];exact AX _ _ _
        ·rw [if_neg h11] at hev;by_cases h12:k3.op=12
         ·rw [if_pos h12] at hev;by_cases hq:s+1<=1000
          ·rw [if_pos hq] at hev;simp only [hq,decide_true,if_true] at hst;cases hx:k3.k[0]? with
           | none=>rw [hx] at hev;cases hev
           | some x =>
           rw [hx] at hev;simp only at hev;cases hd:headR f (s+1) 0 (.node 13 0 [k0,k1,k2,x]) with
           | none=>rw [hd] at hev;cases hev
           | some q =>
           obtain ⟨h,s2,e2⟩:=q;rw [hd] at hev;simp only at hev;by_cases hl:900000<k2.env.length
           ·rw [if_pos hl] at hev;cases hev
           ·rw [if_neg hl] at hev;have hcall:=he s2 e2 k2.b (k2.env++[x,h]) w s' e' nd hev n (by omega);rw [XC] at hcall;have hcall2:=hh (s+1) 0 _ h s2 e2 nd hd n (by omega);rw [Au9] at hcall2;simp only [AzK,AzJ] at hcall2;have hp:=Rh (n:=n) (by omega) k2.env [x,h] (by simp) (by simp;omega);simp only [AzK,AzJ] at hp;have hcall3:=fun k=>Rq (k:=k) (own:=[(115363862,.row [iv 13,iv 0,.clip [k0.enc,k1.enc,k2.enc,x.enc],.nils,iv 0,iv 0,.nils] false)])
             (cells:=[iv 13,iv 0,.clip [k0.enc,k1.enc,k2.enc,x.enc],.nils,iv 0,iv 0,.nils]) (ro:=false) (s:=115363862) hcall2 (Cs ..) (by simp [Aw]) rfl (by simp)
            simp only [↓O1,↓XX,XY,↓reduceIte,Nat.reduceBEq,Nat.reduceAdd,Int.reduceEq,Int.reduceLT,Int.reduceLE,↓XV,h13,↓AiQ hk3,h11,h12,↓Du hst (Cs _ _ _ _ _ _),↓GT hx,↓GT hk0,↓Ak7 hk1,↓AvJ hk2,↓AuI,↓hcall3,↓AuT,↓Ag hp,↓Jg hcall (Cs _ _ _ _ _ _)];exact AX _ _ _
          ·rw [if_neg hq] at hev;obtain ⟨rfl,rfl,rfl⟩:=CD hev;simp only [hq,decide_false,if_false] at hst;simp only [↓O1,↓XX,XY,↓reduceIte,Nat.reduceBEq,Nat.reduceAdd,Int.reduceEq,Int.reduceLT,Int.reduceLE,↓XV,h13,↓AiQ hk3,h11,h12,↓Du hst (Cs _ _ _ _ _ _)];exact AX _ _ _
         ·rw [if_neg h12] at hev;obtain ⟨rfl,rfl,rfl⟩:=CD hev;simp only [↓O1,↓XX,XY,↓reduceIte,Nat.reduceBEq,Nat.reduceAdd,Int.reduceEq,Int.reduceLT,Int.reduceLE,↓XV,h13,↓AiQ hk3,h11,h12];exact AX _ _ _
       ·rw [if_neg h13] at hev;obtain ⟨rfl,rfl,rfl⟩:=CD hev;simp only [↓O1,↓XX,XY,↓reduceIte,Nat.reduceBEq,Nat.reduceAdd,Int.reduceEq,Int.reduceLT,Int.reduceLE,↓XV,h5,h8,h9,h30,h19,h13];exact AX _ _ _
theorem Aek:∀f,QX f/\Qy f:=by
 intro f
 induction f with
 | zero=>exact ⟨(by intro s e t env v s' e' nd h;rw [AK] at h;cases h),(by intro s e v w s' e' nd h;rw [headR] at h;cases h)⟩
 | succ f ih=>exact ⟨Ag9 ih.1 ih.2,Ahx ih.1 ih.2⟩
end Idl
end Go.Proofs.Ytdibmackcbpniaa
namespace Go.Proofs.Ytdibmackcbpniaa
namespace Idl
def Gf (u:Int) (b:Nat):List RV:=(List.range b).map fun (j:Nat)=>RV.var (u+(j:Int))
theorem JI (u:Int) (b:Nat):Gf u (b+1)=Gf u b++[RV.var (u+b)]:=by simp [Gf,List.range_succ]
theorem Ce (u:Int) (b:Nat):(Gf u b).length=b:=by simp [Gf]
def By (rd:Int->Int->Int->RV->Int->Option (Tm×Int×Int×Int)) (f:Nat) (op u:Int):Nat->List RV->Int->Int->Int->Option (List Tm×Int×Int×Int)
 | _,[],s,nd,e=>some ([],s,nd,e)
 | i,k::l,s,nd,e =>
  match (if 0<Am op i then (if 900000<k.env.length then none else AK f s e k.b (k.env++Gf u (Am op i))) else some (k,s,e)) with
  | none=>none
  | some (k',s1,e1)=>match rd s1 nd e1 k' (u+Am op i) with
   | none=>none
   | some (t,s2,nd2,e2)=>(By rd f op u (i+1) l s2 nd2 e2).map fun (ts,s,nd,e)=>(t::ts,s,nd,e)
def AW:Nat->Int->Int->Int->RV->Int->Int->Option (Tm×Int×Int×Int)
 | 0,_,_,_,_,_,_=>none
 | f+1,s,nd,e,v,u,d =>
  if nd<0\/1000000<nd\/u<0\/1000000<u\/d<0\/1000000<d\/v.n < -2305843009213693952\/2305843009213693952<v.n\/f<=v.k.length\/900000<v.k.length\/f<=3 then none else
  if (if e=0/\(3000<nd+1\/120<d) then 5 else e)≠0 then some (.z,s,nd+1,(if e=0/\(3000<nd+1\/120<d) then 5 else e))
  else if v.op=1 then some (.mk 1 (u - 1 - v.n) [],s,nd+1,0)
  else (By (fun s nd e k u=>AW f s nd e k u (d+1)) f v.op u 0 v.k s (nd+1) 0).map fun (ts,s,nd,e)=>(.mk v.op v.n ts,s,nd,e)
def W5 (f:Nat):Prop:=∀(s nd e:Int) (v:RV) (u d:Int) (t:Tm) (s' nd' e':Int),AW f s nd e v u d=some (t,s',nd',e')->∀n,f+1<=n ->
 C7 (SS dt n 81 [.ptr (.ext 0) 0,.fv v.enc,iv u,iv d] ⟨[],[.row [iv s,iv nd,iv e] false]⟩) t.enc [.row [iv s',iv nd',iv e'] false]
abbrev LD (op m:Int) (K:IV) (tok:List (Nat×Blk)) (s nd e:Int):Hp :=
 ⟨(84934656,.row [iv 0,iv 0,.nils] false)::(84942857,.row [iv op,iv m,K] false)::tok,[.row [iv s,iv nd,iv e] false]⟩
theorem AnN {cells:List IV} {fc:List FV} (hz:DD cells=some fc) (hn:cells.length<=100) (s:Nat) (h:Hp) (k:IV->Hp->List Ref->List Ref->Option (IV×Hp)):fzS (Na true s (.agg cells)) s (.agg cells) h k=k (.fv (.fp fc 0)) h [] []:=by
 have:Na true s (.agg cells)=.ret { eff:={ val:=.fv (.fp fc 0),upd:=[] } }:=by
  simp only [Na,IV.alive,Bool.true_eq_false,if_false,if_true,IV.cells,AcY cells 4096 (by omega) hz,Rd.bind]
 unfold fzS;rw [this,Ak1];exact GZ _ s h k
theorem Ab3 (n:Int):(RV.var n).enc=.fp [.int .i64 1,.int .i64 n,.sl [],.sl [],.int .i64 0,.int .i64 0,.sl []] 0:=by rw [RV.var,Tm.z,HS];rfl
theorem Ahm {f:Nat} (hr:W5 f):W5 (f+1):=by
 intro s nd e v u d t s' nd' e' hev n hn;obtain ⟨n,rfl⟩:∃k,n=k+1:=⟨n - 1,by omega⟩;rw [c81];rw [AW] at hev;by_cases hbad:nd<0\/1000000<nd\/u<0\/1000000<u\/d<0\/1000000<d\/v.n < -2305843009213693952\/2305843009213693952<v.n\/f<=v.k.length\/900000<v.k.length\/f<=3
 ·rw [if_pos hbad] at hev;cases hev
 ·rw [if_neg hbad] at hev;have wnd:BD (nd+1)=nd+1:=by rw [Az]<;>omega
  have wd:BD (d+1)=d+1:=by rw [Az]<;>omega
  have wu:BD (u - 1)=u - 1:=by rw [Az]<;>omega
  have wv:BD (u - 1 - v.n)=u - 1 - v.n:=by rw [Az]<;>omega
  by_cases he:e=0
  ·subst he;by_cases h3:3000<nd+1
   ·have e5:(if (0:Int)=0/\(3000<nd+1\/120<d) then (5:Int) else 0)=5:=if_pos ⟨rfl,.inl h3⟩;rw [e5,if_pos (by decide)] at hev;simp only [AzE,AzF] at hev;obtain ⟨rfl,rfl,rfl,rfl⟩:=hev;simp only [↓UU3,↓XX,XY,↓reduceIte,Nat.reduceBEq,Nat.reduceAdd,Int.reduceEq,Int.reduceLT,Int.reduceLE,wnd,h3];exact HJ rfl _ _
   ·by_cases h4:120<d
    ·have e5:(if (0:Int)=0/\(3000<nd+1\/120<d) then (5:Int) else 0)=5:=if_pos ⟨rfl,.inr h4⟩;rw [e5,if_pos (by decide)] at hev;simp only [AzE,AzF] at hev;obtain ⟨rfl,rfl,rfl,rfl⟩:=hev;simp only [↓UU3,↓XX,XY,↓reduceIte,Nat.reduceBEq,Nat.reduceAdd,Int.reduceEq,Int.reduceLT,Int.reduceLE,wnd,h3,h4];exact HJ rfl _ _
    ·have e5:(if (0:Int)=0/\(3000<nd+1\/120<d) then (5:Int) else 0)=0:=if_neg (by omega);rw [e5,if_neg (by decide)] at hev;by_cases h1:v.op=1
     ·rw [if_pos h1] at hev;simp only [AzE,AzF] at hev;obtain ⟨rfl,rfl,rfl,rfl⟩:=hev;have hv:=AqP (n:=n) (by omega) (u - 1 - v.n);rw [Ah] at hv ⊢;simp only [↓UU3,↓XX,XY,↓reduceIte,Nat.reduceBEq,Nat.reduceAdd,Int.reduceEq,Int.reduceLT,Int.reduceLE,↓XV,wnd,h3,h4,h1,wu,wv,↓Av hv];exact HJ rfl _ _
     ·rw [if_neg h1] at hev;cases hrk:By (fun s nd e k u=>AW f s nd e k u (d+1)) f v.op u 0 v.k s (nd+1) 0 with
      | none=>rw [hrk] at hev;cases hev
      | some q =>
      obtain ⟨ts,s1,nd1,e1⟩:=q;rw [hrk] at hev;simp only [AzH,AzE,AzF] at hev;obtain ⟨rfl,rfl,rfl,rfl⟩:=hev;simp only [↓UU3,↓XX,XY,↓reduceIte,Nat.reduceBEq,Nat.reduceAdd,Int.reduceEq,Int.reduceLT,Int.reduceLE,↓XV,wnd,h3,h4,h1,↓AL,XD,heldB,AT,XE];refine Bc (Q:=fun r=>C7 r _ _) (fun k V H=>∃(pre rest:List RV) (done:List Tm) (s2 nd2 e2:Int) (us:List Tm),v.k=pre++rest/\rest.length=k/\done.length=pre.length/\V=[.ptr (.ext 0) 0,.fv v.enc,iv u,iv d,.ptr (.own 84934656) 0,.ptr (.own 84942857) 0,iv pre.length] /\
       (
        (pre=[]/\H=LD v.op v.n .nils [] s2 nd2 e2) \/
        (pre≠[]/\H=LD v.op v.n (.app (.own 84956171) (done.map Tm.enc)) [(84956171,.tok done.length 3)] s2 nd2 e2)) /\
       By (fun s nd e k u=>AW f s nd e k u (d+1)) f v.op u pre.length rest s2 nd2 e2=some (us,s1,nd1,e1)/\done++us=ts)
       ?_ n v.k.length _ _ (by omega) ⟨[],v.k,[],s,nd+1,0,ts,rfl,rfl,rfl,rfl,.inl ⟨rfl,rfl⟩,hrk,rfl⟩
      rintro k V H rec ⟨pre,rest,done,s2,nd2,e2,us,hk,hl,hdl,rfl,hH,hkids,hts⟩ hrec;have hkl:v.k.length=pre.length+rest.length:=by rw [hk];simp
      cases rest with
      | nil =>
       simp only [By,AzE,AzF] at hkids;obtain ⟨rfl,rfl,rfl,rfl⟩:=hkids;rw [List.append_nil] at hts;subst hts;have hno:¬ ((pre.length:Int)<v.k.length):=by rw [hkl];simp
       rcases hH with ⟨hp0,rfl⟩ | ⟨hne,rfl⟩
       ·have hd0:done=[]:=List.length_eq_zero_iff.1 (by rw [hdl,hp0];rfl);subst hd0;simp only [D8,Eb,Ec,Ep,Er,DY,GK,D1,Ek,Em,Ei,En,GN,D4,D5,Ee,Eh,D0,El,D9,ES,Es,D6,Eg,D7,DW,DX,Ef,DZ,Ea,Ej,S81,↓XX,XY,↓reduceIte,Nat.reduceBEq,Nat.reduceAdd,Int.reduceEq,Int.reduceLT,Int.reduceLE,↓XV,hno,Ah];exact HJ rfl _ _
       ·simp only [D8,Eb,Ec,Ep,Er,DY,GK,D1,Ek,Em,Ei,En,GN,D4,D5,Ee,Eh,D0,El,D9,ES,Es,D6,Eg,D7,DW,DX,Ef,DZ,Ea,Ej,S81,↓XX,XY,↓reduceIte,Nat.reduceBEq,Nat.reduceAdd,Int.reduceEq,Int.reduceLT,Int.reduceLE,↓XV,hno,Ah];exact HJ rfl _ _
      | cons x rest =>
       have hi:(pre.length:Int)<v.k.length:=by rw [hkl];simp;omega
       have hg:=Cw hk;have hb:=DR (n:=n) (by omega) v.op pre.length;have hble:=Bm v.op pre.length;have hwi:BD ((pre.length:Int)+1)=((pre++[x]).length:Int):=(Az (by omega) (by omega)).trans (by simp);have hwb:BD (u+(Am v.op pre.length:Int))=u+Am v.op pre.length:=by rw [Az]<;>omega
       have hd9:done.length+1<=1000000:=by omega
       simp only [By] at hkids;simp only [AzI] at hl;have behind:∀(y:RV) (s3 e3:Int),(match AW f s3 nd2 e3 y (u+Am v.op pre.length) (d+1) with
          | none=>none
          | some (t,s2,nd2,e2)=>(By (fun s nd e k u=>AW f s nd e k u (d+1)) f v.op u (pre.length+1) rest s2 nd2 e2).map fun (ts,s,nd,e)=>(t::ts,s,nd,e))=some (us,s1,nd1,e1) ->
         ∀K tk,((pre=[]/\K=.nils/\tk=[])\/(pre≠[]/\K=.app (.own 84956171) (done.map Tm.enc)/\tk=[(84956171,.tok done.length 3)])) ->
         C7 (GK (.ptr (.own 84942857) 0) (LD v.op v.n K tk s3 nd2 e3) (iv u) (iv (Am v.op pre.length)) (iv d) (SS dt n) (.ptr (.ext 0) 0) (.fv y.enc) (iv pre.length) ⟨[],[.row [iv s,iv nd,iv 0] false]⟩ (.fv v.enc) (.ptr (.own 84934656) 0) rec)
          (Tm.mk v.op v.n ts).enc [.row [iv s1,iv nd1,iv e1] false]:=by
        intro y s3 e3 hy K tk hK;cases hrd:AW f s3 nd2 e3 y (u+Am v.op pre.length) (d+1) with
        | none=>rw [hrd] at hy;cases hy
        | some q =>
        obtain ⟨t4,s4,nd4,e4⟩:=q;rw [hrd] at hy;simp only at hy;cases hkk:By (fun s nd e k u=>AW f s nd e k u (d+1)) f v.op u (pre.length+1) rest s4 nd4 e4 with
        | none=>rw [hkk] at hy;cases hy
        | some q =>
        obtain ⟨us',s5,nd5,e5'⟩:=q;rw [hkk] at hy;simp only [AzH,AzE,AzF] at hy;obtain ⟨rfl,rfl,rfl,rfl⟩:=hy;have hc:=hr s3 nd2 e3 y (u+Am v.op pre.length) (d+1) t4 s4 nd4 e4 hrd n (by omega);have h9:C7 (rec [.ptr (.ext 0) 0,.fv v.enc,iv u,iv d,.ptr (.own 84934656) 0,.ptr (.own 84942857) 0,iv (pre++[x]).length]
          (LD v.op v.n (.app (.own 84956171) ((done++[t4]).map Tm.enc)) [(84956171,.tok (done.length+1) 3)] s4 nd4 e4)) (Tm.mk v.op v.n ts).enc [.row [iv s5,iv nd5,iv e5'] false] :=
         hrec rest.length _ _ (by omega) ⟨pre++[x],rest,done++[t4],s4,nd4,e4,us',by rw [hk];simp,rfl,by simp [hdl],rfl,.inr ⟨by simp,by simp⟩,by simpa using hkk,by rw [<- hts];simp⟩
        rcases hK with ⟨hp0,rfl,rfl⟩ | ⟨hne,rfl,rfl⟩
        ·have hd0:done=[]:=List.length_eq_zero_iff.1 (by rw [hdl,hp0];rfl);subst hd0;simp only [List.nil_append,AzK,AzJ,List.length_nil] at h9;simp only [D8,Eb,Ec,Ep,Er,DY,GK,D1,Ek,Em,Ei,En,GN,D4,D5,Ee,Eh,D0,El,D9,ES,Es,D6,Eg,D7,DW,DX,Ef,DZ,Ea,Ej,S81,↓XX,XY,↓reduceIte,Nat.reduceBEq,Nat.reduceAdd,Int.reduceEq,Int.reduceLT,Int.reduceLE,↓XV,hwb,wd,hwi,↓AjF hc (Cs _ _ _ _ _ _),↓I9,↓Rk,↓AL,XD,heldB,AT,XE];exact h9
        ·simp only [D8,Eb,Ec,Ep,Er,DY,GK,D1,Ek,Em,Ei,En,GN,D4,D5,Ee,Eh,D0,El,D9,ES,Es,D6,Eg,D7,DW,DX,Ef,DZ,Ea,Ej,S81,↓XX,XY,↓reduceIte,Nat.reduceBEq,Nat.reduceAdd,Int.reduceEq,Int.reduceLT,Int.reduceLE,↓XV,hwb,wd,hwi,↓AjF hc (Cs _ _ _ _ _ _),↓I9,↓Ke hd9,↓FR,↓AL,XD,heldB,AT,XE];exact h9
       have heads:∃K tk,((pre=[]/\K=.nils/\tk=[])\/(pre≠[]/\K=.app (.own 84956171) (done.map Tm.enc)/\tk=[(84956171,.tok done.length 3)]))/\H=LD v.op v.n K tk s2 nd2 e2:=by
        rcases hH with ⟨a,b⟩ | ⟨a,b⟩
        ·exact ⟨_,_,.inl ⟨a,rfl,rfl⟩,b⟩
        ·exact ⟨_,_,.inr ⟨a,rfl,rfl⟩,b⟩
       obtain ⟨K,tk,hK,rfl⟩:=heads;by_cases hbp:0<Am v.op pre.length
       ·rw [if_pos hbp] at hkids;by_cases hxe:900000<x.env.length
        ·rw [if_pos hxe] at hkids;cases hkids
        ·rw [if_neg hxe] at hkids;have hbp':0<(Am v.op pre.length:Int):=by omega
         cases hev1:AK f s2 e2 x.b (x.env++Gf u (Am v.op pre.length)) with
         | none=>rw [hev1] at hkids;cases hkids
         | some q =>
         obtain ⟨y,s3,e3⟩:=q;rw [hev1] at hkids;have hB:=behind y s3 e3 hkids K tk hK;have hc:=(Aek f).1 s2 e2 x.b _ y s3 e3 nd2 hev1 n (by omega);rw [XC] at hc;have hdrop:∀(vals:List IV),vals.all Fl=true->∀k:Hp->Option (IV×Hp),BZ [] [84954117] vals (LD v.op v.n K tk s2 nd2 e2) k=k (LD v.op v.n K tk s2 nd2 e2):=by
          intro vals hv k;rcases hK with ⟨_,rfl,rfl⟩ | ⟨_,rfl,rfl⟩<;>simp only [↓XX,XY,↓reduceIte,Nat.reduceBEq,Nat.reduceAdd,Int.reduceEq,Int.reduceLT,Int.reduceLE,↓AL,XD,heldB,AT,XE,hv]
         simp only [D8,Eb,Ec,Ep,Er,DY,D1,Ek,Em,Ei,En,D4,D5,Ee,Eh,D0,El,D9,ES,Es,D6,Eg,D7,DW,DX,Ef,DZ,Ea,Ej,S81,↓XX,XY,↓reduceIte,Nat.reduceBEq,Nat.reduceAdd,Int.reduceEq,Int.reduceLT,Int.reduceLE,↓XV,hi,↓XL hg,↓Ag hb,hbp',↓hdrop,↓AL,XD,heldB,AT,XE];refine Bc (Q:=fun r=>C7 r _ _) (fun k V H=>∃j,j+k=Am v.op pre.length/\V=[.ptr (.ext 0) 0,.fv v.enc,iv u,iv d,.ptr (.own 84934656) 0,.ptr (.own 84942857) 0,iv pre.length,iv (Am v.op pre.length),.fv x.enc,.fv (.sl ((x.env++Gf u j).map RV.enc)),iv j] /\
          H=LD v.op v.n K tk s2 nd2 e2) ?_ n (Am v.op pre.length) _ _ (by omega) ?_
         rotate_left
         ·exact ⟨0,by omega,by simp [Gf],rfl⟩
         rintro k2 V2 H2 rec2 ⟨j,hj,rfl,rfl⟩ hrec2;cases k2 with
         | zero =>
          have hjb:j=Am v.op pre.length:=by omega
          subst hjb;simp only [D8,Eb,Ec,Ep,Er,DY,D1,Ek,Em,Ei,En,GN,D4,D5,Ee,Eh,D0,El,D9,ES,Es,D6,Eg,D7,DW,DX,Ef,DZ,Ea,Ej,S81,↓XX,XY,↓reduceIte,Nat.reduceBEq,Nat.reduceAdd,Int.reduceEq,Int.reduceLT,Int.reduceLE,↓XV,Int.lt_irrefl,↓Jg hc (Cs _ _ _ _ _ _)];exact hB
         | succ k2 =>
          have hjb:(j:Int)<Am v.op pre.length:=by omega
          have hwj:BD (u+(j:Int))=u+j:=by rw [Az]<;>omega
          have hwj1:BD ((j:Int)+1)=((j+1:Nat):Int):=by rw [Az]<;>omega
          have hp:=Rh (n:=n) (by omega) (x.env++Gf u j) [RV.var (u+j)] (by simp) (by simp [Ce];omega);simp only [AzK,AzJ,Ab3] at hp;rw [List.append_assoc,<- JI] at hp;have hbv:=fun s h k=>VK (RV.var (u+j)) s h k;simp only [Ab3] at hbv;have hfz:=fun s h (k:IV->Hp->List Ref->List Ref->Option (IV×Hp))=>AnN (cells:=[.fv (.int .i64 1),iv (u+j),.nils,.nils,.fv (.int .i64 0),.fv (.int .i64 0),.nils]) (fc:=[.int .i64 1,.int .i64 (u+j),.sl [],.sl [],.int .i64 0,.int .i64 0,.sl []]) rfl (by simp) s h k;have h9:=hrec2 k2 _ _ (by omega) ⟨j+1,by omega,rfl,rfl⟩;simp only [D8,Eb,Ec,Ep,Er,DY,D1,Ek,Em,Ei,En,GN,D4,D5,Ee,Eh,D0,El,D9,ES,Es,D6,Eg,D7,DW,DX,Ef,DZ,Ea,Ej,S81,↓XX,XY,↓reduceIte,Nat.reduceBEq,Nat.reduceAdd,Int.reduceEq,Int.reduceLT,Int.reduceLE,↓XV,hjb,hwj,hwj1,↓hfz,↓hbv,↓Ag hp,↓hdrop,↓AL,XD,heldB,AT,XE];exact h9
       ·rw [if_neg hbp] at hkids;have hbp':¬ 0<(Am v.op pre.length:Int):=by omega
        have hB:=behind x s2 e2 hkids K tk hK;simp only [D8,Eb,Ec,Ep,Er,DY,D1,Ek,Em,Ei,En,D4,D5,Ee,Eh,D0,El,D9,ES,Es,D6,Eg,D7,DW,DX,Ef,DZ,Ea,Ej,S81,↓XX,XY,↓reduceIte,Nat.reduceBEq,Nat.reduceAdd,Int.reduceEq,Int.reduceLT,Int.reduceLE,↓XV,hi,↓XL hg,↓Ag hb,hbp',↓AL,XD,heldB,AT,XE];exact hB
  ·have e5:(if e=0/\(3000<nd+1\/120<d) then (5:Int) else e)=e:=if_neg (by omega);rw [e5,if_pos he] at hev;simp only [AzE,AzF] at hev;obtain ⟨rfl,rfl,rfl,rfl⟩:=hev;simp only [↓UU3,↓XX,XY,↓reduceIte,Nat.reduceBEq,Nat.reduceAdd,Int.reduceEq,Int.reduceLT,Int.reduceLE,wnd,he];exact HJ rfl _ _
theorem An6:∀f,W5 f:=by
 intro f
 induction f with
 | zero=>intro s nd e v u d t s' nd' e' h;rw [AW] at h;cases h
 | succ f ih=>exact Ahm ih
theorem AeE {α:Type}:∀(r:Rd α) (h:Hp) (l:List Ref) {x:α} {l':List Ref},r.runLog h l=some (x,l')->r.run h=some x
 | .ret a,h,l,x,l',e=>by simp only [Rd.runLog,AzE,AzF] at e;rw [e.1];rfl
 | .fail,_,_,_,_,e=>by cases e
 | .get r k,h,l,x,l',e=>by
  simp only [Rd.runLog] at e;simp only [Rd.run];cases hg:h.get r with
  | none=>rw [hg] at e;cases e
  | some b=>rw [hg] at e;exact AeE (k b) h _ e
theorem M4 {v:IV} {own:List (Nat×Blk)} {ext:List Blk} {w:FV} (h:∃u lg,∀(e:Option (IV×Hp)) (K:FV->List (Ref×Blk)->List Ref->Option (IV×Hp)),Gs 12 v ⟨own,ext⟩ [] e K=K w u lg):∃u,(C0 4096 v).run ⟨own,ext⟩=some (w,u):=by
 obtain ⟨u,lg,hz⟩:=h;rcases NN 12 v ⟨own,ext⟩ [] none (fun w _ _=>some (IV.fv w,(⟨[],[]⟩:Hp))) (.fv w,⟨[],[]⟩) (hz ..) with h | ⟨x,u',lg',h1,_,h2⟩
 ·cases h
 ·simp only [AzE,AzF,IV.fv.injEq,and_true] at h2;subst h2;exact ⟨u',AeE _ _ _ (h1 4096 (by decide))⟩
theorem NQ:∀l:List FV,IV.refs.refsL (l.map .fv)=[]
 | []=>rfl
 | v::l=>by
  simp only [AzK,IV.refs.refsL,IV.refs,NQ l,List.append_nil]
theorem Lr:∀(args:List IV) (ks:List Bool) {vs:List FV},(∀b∈ks,b=false)->B4 args=some vs->Br ks args=.ret (vs.map .fv,[],[])
 | [],ks,vs,_,hz=>by cases hz;cases ks<;>rfl
 | v::l,[],vs,_,hz=>HB (v::l) hz
 | v::l,b::ks,vs,hk,hz=>by
  have hb:=hk b List.mem_cons_self;subst hb;simp only [B4] at hz;cases h1:Bo v with
  | none=>rw [h1] at hz;cases hz
  | some x =>
   rw [h1] at hz;cases h2:B4 l with
   | none=>rw [h2] at hz;cases hz
   | some ys =>
    rw [h2] at hz;cases hz;simp only [Br,frp 4096 (by omega) h1,Rd.bind,Lr l ks (fun c hc=>hk c (List.mem_cons_of_mem _ hc)) h2];rfl
theorem Adn (s:Nat) (ext:List Blk):OZ 400 [.own s] 0 ext=false:=rfl
theorem AiV {ks:List Bool} (hks:∀b∈ks,b=false) {ih:Aa} {f:FuncId} {args:List IV} {vs:List FV} {w:FV} {s:Nat} {st st':List FV} {own:List (Nat×Blk)} (hz:B4 args=some vs) (hl:Aw s own=some (.row (st.map .fv) false))
  (hr:C7 (ih f (.ptr (.ext 0) 0::vs.map .fv) ⟨[],[.row (st.map .fv) false]⟩) w [.row (st'.map .fv) false]) (k:IV->Hp->List Ref->List Ref->Option (IV×Hp)) :
  Ai (true::ks) false false ih f (.ptr (.own s) 0::args) ⟨own,[]⟩ k=k (.fv w) ⟨Bf s (.row (st'.map .fv) false) own,[]⟩ [.own s] [.own s]:=by
 obtain ⟨v,own',e1,hfz⟩:=hr;obtain ⟨u,hu⟩:=M4 hfz;have hD:EF (true::ks) false false ih f (.ptr (.own s) 0::args) ⟨own,[]⟩ k=k (.fv w) ⟨Bf s (.row (st'.map .fv) false) own,[]⟩ [.own s] [.own s]:=by
  have h1:Br (true::ks) (.ptr (.own s) 0::args)=.ret (.ptr (.own s) 0::vs.map .fv,[.own s],[]):=by
   simp only [Br,Lr args ks hks hz,Rd.bind,IV.refs];rfl
  have h2:(Cb 4096 [.own s] []).runLog ⟨own,[]⟩ []=some ([(.own s,.row (st.map .fv) false)],[.own s]):=by
   show (Cb (4094+1+1) [.own s] []).runLog ⟨own,[]⟩ []=_
   simp only [Cb,hasRef,Bool.false_eq_true,if_false,Rd.runLog,Hp.get,hl,Blk.refs,NQ,List.append_nil,List.nil_append]
  have h3:IV.ren.renL (Ff [(.own s,.row (st.map .fv) false)]) (.ptr (.own s) 0::vs.map .fv)=some (.ptr (.ext 0) 0::vs.map .fv):=by
   simp only [IV.ren.renL,IV.ren,Ff,Cy,if_true,AzH,Option.bind_some,Ed]
  have h4:A9 (Ff [(.own s,.row (st.map .fv) false)]) [.row (st.map .fv) false]=some [.row (st.map .fv) false]:=by
   simp only [A9,Blk.ren,Ed,AzH,Option.bind_some]
  have h5:A9 (CD [(.own s,.row (st.map .fv) false)]) [.row (st'.map .fv) false]=some [.row (st'.map .fv) false]:=by
   simp only [A9,Blk.ren,Ed,AzH,Option.bind_some]
  unfold EF;simp only [h1,Rd.runLog,h2,h3,AzK,AzJ,h4,C9 (Cx 3),C9 CW,EG,Bool.false_eq_true,if_false,e1,hu,AzH,IV.ren,h5,AzI,List.length_nil,Bp,List.all_nil,and_self,if_true,List.nil_append,List.zip_cons_cons,List.zip_nil_left];have h6:laid ⟨own,[]⟩ [(.own s,.row (st'.map .fv) false)]=some ⟨Bf s (.row (st'.map .fv) false) own,[]⟩:=by
   simp only [laid,Hp.get,hl,Hp.set]
  simp only [h6,KK,Cx]
 rw [Pp,AiU,AgX,UC 0 args _ _ _ _ ks hks hz];simp only [AgJ,Adn,cond_false];exact hD
theorem AqF {ih:Aa} {f:FuncId} {x y:IV} {vx vy w:FV} {s:Nat} {a b c a' b' c':FV} {own own':List (Nat×Blk)} (hr:C7 (ih f [.ptr (.ext 0) 0,.fv vx,.fv vy] ⟨[],[.row [.fv a,.fv b,.fv c] false]⟩) w [.row [.fv a',.fv b',.fv c'] false])
  (hx:Bo x=some vx) (hy:Bo y=some vy) (hl:Aw s own=some (.row [.fv a,.fv b,.fv c] false)) (ho:Bf s (.row [.fv a',.fv b',.fv c'] false) own=own') (k:IV->Hp->List Ref->List Ref->Option (IV×Hp)) :
  Ai [true,false,false] false false ih f [.ptr (.own s) 0,x,y] ⟨own,[]⟩ k=k (.fv w) ⟨own',[]⟩ [.own s] [.own s]:=by
 subst ho;exact AiV (ks:=[false,false]) (by simp) (st:=[a,b,c]) (st':=[a',b',c']) (AjL hx hy) hl hr k
theorem Asx {ih:Aa} {f:FuncId} {x y z:IV} {vx vy vz w:FV} {s:Nat} {a b c a' b' c':FV} {own own':List (Nat×Blk)} (hr:C7 (ih f [.ptr (.ext 0) 0,.fv vx,.fv vy,.fv vz] ⟨[],[.row [.fv a,.fv b,.fv c] false]⟩) w [.row [.fv a',.fv b',.fv c'] false])
  (hx:Bo x=some vx) (hy:Bo y=some vy) (hz:Bo z=some vz) (hl:Aw s own=some (.row [.fv a,.fv b,.fv c] false)) (ho:Bf s (.row [.fv a',.fv b',.fv c'] false) own=own') (k:IV->Hp->List Ref->List Ref->Option (IV×Hp)) :
  Ai [true,false,false,false] false false ih f [.ptr (.own s) 0,x,y,z] ⟨own,[]⟩ k=k (.fv w) ⟨own',[]⟩ [.own s] [.own s]:=by
 subst ho;exact AiV (ks:=[false,false,false]) (by simp) (st:=[a,b,c]) (st':=[a',b',c']) (AoH hx hy hz) hl hr k
theorem Amv {ih:Aa} {f:FuncId} {x y:IV} {vx vy w:FV} {s:Nat} {a b a' b':FV} {own own':List (Nat×Blk)} (hr:C7 (ih f [.ptr (.ext 0) 0,.fv vx,.fv vy] ⟨[],[.row [.fv a,.fv b] false]⟩) w [.row [.fv a',.fv b'] false])
  (hx:Bo x=some vx) (hy:Bo y=some vy) (hl:Aw s own=some (.row [.fv a,.fv b] false)) (ho:Bf s (.row [.fv a',.fv b'] false) own=own') (k:IV->Hp->List Ref->List Ref->Option (IV×Hp)) :
  Ai [true,false,false] false false ih f [.ptr (.own s) 0,x,y] ⟨own,[]⟩ k=k (.fv w) ⟨own',[]⟩ [.own s] [.own s]:=by
 subst ho;exact AiV (ks:=[false,false]) (by simp) (st:=[a,b]) (st':=[a',b']) (AjL hx hy) hl hr k
end Idl
end Go.Proofs.Ytdibmackcbpniaa

/-
  THE SHALLOW FORM OF THE SEAT'S FUNCTIONS, all together: what it answers the ideal run answers. Printed by a program of mine (gen-sh). No statement is proved here.
-/
import Derived.Test.YtbkdidonegggdaaSh0
import Derived.Test.YtbkdidonegggdaaSh1
import Derived.Test.YtbkdidonegggdaaSh2
import Derived.Test.YtbkdidonegggdaaSh3
import Derived.Test.YtbkdidonegggdaaSh4
import Derived.Test.YtbkdidonegggdaaSh5
import Derived.Test.YtbkdidonegggdaaSh6
import Derived.Test.YtbkdidonegggdaaSh7
import Derived.Test.YtbkdidonegggdaaSh8
import Derived.Test.YtbkdidonegggdaaSh9
import Derived.Test.YtbkdidonegggdaaSh10
namespace Go.Proofs.Ytbkdidonegggdaa
namespace Idl
noncomputable def dt : DT :=
 .node 51 (.node 26 (.node 14 (.node 8 (.node 5 (.node 3 (.leaf 2 (fun ih n => ar0 (S2 ih n)))
 (.node 4 (.leaf 3 (fun ih n => ar4 (S3 ih n)))
 (.leaf 4 (fun ih n => ar4 (S4 ih n)))))
 (.node 6 (.leaf 5 (fun ih n => ar5 (S5 ih n)))
 (.node 7 (.leaf 6 (fun ih n => ar1 (S6 ih n)))
 (.leaf 7 (fun ih n => ar2 (S7 ih n))))))
 (.node 11 (.node 9 (.leaf 8 (fun ih n => ar3 (S8 ih n)))
 (.node 10 (.leaf 9 (fun ih n => ar1 (S9 ih n)))
 (.leaf 10 (fun ih n => ar4 (S10 ih n)))))
 (.node 12 (.leaf 11 (fun ih n => ar5 (S11 ih n)))
 (.node 13 (.leaf 12 (fun ih n => ar4 (S12 ih n)))
 (.leaf 13 (fun ih n => ar3 (S13 ih n)))))))
 (.node 20 (.node 17 (.node 15 (.leaf 14 (fun ih n => ar0 (S14 ih n)))
 (.node 16 (.leaf 15 (fun ih n => ar1 (S15 ih n)))
 (.leaf 16 (fun ih n => ar1 (S16 ih n)))))
 (.node 18 (.leaf 17 (fun ih n => ar4 (S17 ih n)))
 (.node 19 (.leaf 18 (fun ih n => ar1 (S18 ih n)))
 (.leaf 19 (fun ih n => ar1 (S19 ih n))))))
 (.node 23 (.node 21 (.leaf 20 (fun ih n => ar1 (S20 ih n)))
 (.node 22 (.leaf 21 (fun ih n => ar2 (S21 ih n)))
 (.leaf 22 (fun ih n => ar1 (S22 ih n)))))
 (.node 24 (.leaf 23 (fun ih n => ar1 (S23 ih n)))
 (.node 25 (.leaf 24 (fun ih n => ar1 (S24 ih n)))
 (.leaf 25 (fun ih n => ar3 (S25 ih n))))))))
 (.node 38 (.node 32 (.node 29 (.node 27 (.leaf 26 (fun ih n => ar4 (S26 ih n)))
 (.node 28 (.leaf 27 (fun ih n => ar2 (S27 ih n)))
 (.leaf 28 (fun ih n => ar2 (S28 ih n)))))
 (.node 30 (.leaf 29 (fun ih n => ar3 (S29 ih n)))
 (.node 31 (.leaf 30 (fun ih n => ar3 (S30 ih n)))
 (.leaf 31 (fun ih n => ar3 (S31 ih n))))))
 (.node 35 (.node 33 (.leaf 32 (fun ih n => ar4 (S32 ih n)))
 (.node 34 (.leaf 33 (fun ih n => ar2 (S33 ih n)))
 (.leaf 34 (fun ih n => ar1 (S34 ih n)))))
 (.node 36 (.leaf 35 (fun ih n => ar1 (S35 ih n)))
 (.node 37 (.leaf 36 (fun ih n => ar1 (S36 ih n)))
 (.leaf 37 (fun ih n => ar2 (S37 ih n)))))))
 (.node 44 (.node 41 (.node 39 (.leaf 38 (fun ih n => ar2 (S38 ih n)))
 (.node 40 (.leaf 39 (fun ih n => ar2 (S39 ih n)))
 (.leaf 40 (fun ih n => ar1 (S40 ih n)))))
 (.node 42 (.leaf 41 (fun ih n => ar2 (S41 ih n)))
 (.node 43 (.leaf 42 (fun ih n => ar0 (S42 ih n)))
 (.leaf 43 (fun ih n => ar1 (S43 ih n))))))
 (.node 47 (.node 45 (.leaf 44 (fun ih n => ar1 (S44 ih n)))
 (.node 46 (.leaf 45 (fun ih n => ar1 (S45 ih n)))
 (.leaf 46 (fun ih n => ar1 (S46 ih n)))))
 (.node 49 (.node 48 (.leaf 47 (fun ih n => ar2 (S47 ih n)))
 (.leaf 48 (fun ih n => ar4 (S48 ih n))))
 (.node 50 (.leaf 49 (fun ih n => ar3 (S49 ih n)))
 (.leaf 50 (fun ih n => ar1 (S50 ih n)))))))))
 (.node 76 (.node 63 (.node 57 (.node 54 (.node 52 (.leaf 51 (fun ih n => ar0 (S51 ih n)))
 (.node 53 (.leaf 52 (fun ih n => ar3 (S52 ih n)))
 (.leaf 53 (fun ih n => ar4 (S53 ih n)))))
 (.node 55 (.leaf 54 (fun ih n => ar3 (S54 ih n)))
 (.node 56 (.leaf 55 (fun ih n => ar2 (S55 ih n)))
 (.leaf 56 (fun ih n => ar0 (S56 ih n))))))
 (.node 60 (.node 58 (.leaf 57 (fun ih n => ar1 (S57 ih n)))
 (.node 59 (.leaf 58 (fun ih n => ar2 (S58 ih n)))
 (.leaf 59 (fun ih n => ar4 (S59 ih n)))))
 (.node 61 (.leaf 60 (fun ih n => ar4 (S60 ih n)))
 (.node 62 (.leaf 61 (fun ih n => ar4 (S61 ih n)))
 (.leaf 62 (fun ih n => ar4 (S62 ih n)))))))
 (.node 69 (.node 66 (.node 64 (.leaf 63 (fun ih n => ar2 (S63 ih n)))
 (.node 65 (.leaf 64 (fun ih n => ar4 (S64 ih n)))
 (.leaf 65 (fun ih n => ar1 (S65 ih n)))))
 (.node 67 (.leaf 66 (fun ih n => ar1 (S66 ih n)))
 (.node 68 (.leaf 67 (fun ih n => ar1 (S67 ih n)))
 (.leaf 68 (fun ih n => ar2 (S68 ih n))))))
 (.node 72 (.node 70 (.leaf 69 (fun ih n => ar2 (S69 ih n)))
 (.node 71 (.leaf 70 (fun ih n => ar2 (S70 ih n)))
 (.leaf 71 (fun ih n => ar1 (S71 ih n)))))
 (.node 74 (.node 73 (.leaf 72 (fun ih n => ar2 (S72 ih n)))
 (.leaf 73 (fun ih n => ar2 (S73 ih n))))
 (.node 75 (.leaf 74 (fun ih n => ar2 (S74 ih n)))
 (.leaf 75 (fun ih n => ar2 (S75 ih n))))))))
 (.node 88 (.node 82 (.node 79 (.node 77 (.leaf 76 (fun ih n => ar2 (S76 ih n)))
 (.node 78 (.leaf 77 (fun ih n => ar1 (S77 ih n)))
 (.leaf 78 (fun ih n => ar2 (S78 ih n)))))
 (.node 80 (.leaf 79 (fun ih n => ar2 (S79 ih n)))
 (.node 81 (.leaf 80 (fun ih n => ar2 (S80 ih n)))
 (.leaf 81 (fun ih n => ar4 (S81 ih n))))))
 (.node 85 (.node 83 (.leaf 82 (fun ih n => ar1 (S82 ih n)))
 (.node 84 (.leaf 83 (fun ih n => ar2 (S83 ih n)))
 (.leaf 84 (fun ih n => ar1 (S84 ih n)))))
 (.node 86 (.leaf 85 (fun ih n => ar1 (S85 ih n)))
 (.node 87 (.leaf 86 (fun ih n => ar1 (S86 ih n)))
 (.leaf 87 (fun ih n => ar2 (S87 ih n)))))))
 (.node 94 (.node 91 (.node 89 (.leaf 88 (fun ih n => ar2 (S88 ih n)))
 (.node 90 (.leaf 89 (fun ih n => ar2 (S89 ih n)))
 (.leaf 90 (fun ih n => ar2 (S90 ih n)))))
 (.node 92 (.leaf 91 (fun ih n => ar3 (S91 ih n)))
 (.node 93 (.leaf 92 (fun ih n => ar2 (S92 ih n)))
 (.leaf 93 (fun ih n => ar3 (S93 ih n))))))
 (.node 97 (.node 95 (.leaf 94 (fun ih n => ar3 (S94 ih n)))
 (.node 96 (.leaf 95 (fun ih n => ar3 (S95 ih n)))
 (.leaf 96 (fun ih n => ar4 (S96 ih n)))))
 (.node 99 (.node 98 (.leaf 97 (fun ih n => ar2 (S97 ih n)))
 (.leaf 98 (fun ih n => ar3 (S98 ih n))))
 (.node 100 (.leaf 99 (fun ih n => ar3 (S99 ih n)))
 (.leaf 100 (fun ih n => ar4 (S100 ih n)))))))))
theorem dt_ok : dt.Ok EE ft.get :=
 ⟨⟨⟨⟨⟨⟨(fun ih n _ _ _ e => ar0_ok (F := funS EE ih ft.get n 2) (S2_ok ih n) e),
 ⟨(fun ih n _ _ _ e => ar4_ok (F := funS EE ih ft.get n 3) (S3_ok ih n) e),
 (fun ih n _ _ _ e => ar4_ok (F := funS EE ih ft.get n 4) (S4_ok ih n) e)⟩⟩,
 ⟨(fun ih n _ _ _ e => ar5_ok (F := funS EE ih ft.get n 5) (S5_ok ih n) e),
 ⟨(fun ih n _ _ _ e => ar1_ok (F := funS EE ih ft.get n 6) (S6_ok ih n) e),
 (fun ih n _ _ _ e => ar2_ok (F := funS EE ih ft.get n 7) (S7_ok ih n) e)⟩⟩⟩,
 ⟨⟨(fun ih n _ _ _ e => ar3_ok (F := funS EE ih ft.get n 8) (S8_ok ih n) e),
 ⟨(fun ih n _ _ _ e => ar1_ok (F := funS EE ih ft.get n 9) (S9_ok ih n) e),
 (fun ih n _ _ _ e => ar4_ok (F := funS EE ih ft.get n 10) (S10_ok ih n) e)⟩⟩,
 ⟨(fun ih n _ _ _ e => ar5_ok (F := funS EE ih ft.get n 11) (S11_ok ih n) e),
 ⟨(fun ih n _ _ _ e => ar4_ok (F := funS EE ih ft.get n 12) (S12_ok ih n) e),
 (fun ih n _ _ _ e => ar3_ok (F := funS EE ih ft.get n 13) (S13_ok ih n) e)⟩⟩⟩⟩,
 ⟨⟨⟨(fun ih n _ _ _ e => ar0_ok (F := funS EE ih ft.get n 14) (S14_ok ih n) e),
 ⟨(fun ih n _ _ _ e => ar1_ok (F := funS EE ih ft.get n 15) (S15_ok ih n) e),
 (fun ih n _ _ _ e => ar1_ok (F := funS EE ih ft.get n 16) (S16_ok ih n) e)⟩⟩,
 ⟨(fun ih n _ _ _ e => ar4_ok (F := funS EE ih ft.get n 17) (S17_ok ih n) e),
 ⟨(fun ih n _ _ _ e => ar1_ok (F := funS EE ih ft.get n 18) (S18_ok ih n) e),
 (fun ih n _ _ _ e => ar1_ok (F := funS EE ih ft.get n 19) (S19_ok ih n) e)⟩⟩⟩,
 ⟨⟨(fun ih n _ _ _ e => ar1_ok (F := funS EE ih ft.get n 20) (S20_ok ih n) e),
 ⟨(fun ih n _ _ _ e => ar2_ok (F := funS EE ih ft.get n 21) (S21_ok ih n) e),
 (fun ih n _ _ _ e => ar1_ok (F := funS EE ih ft.get n 22) (S22_ok ih n) e)⟩⟩,
 ⟨(fun ih n _ _ _ e => ar1_ok (F := funS EE ih ft.get n 23) (S23_ok ih n) e),
 ⟨(fun ih n _ _ _ e => ar1_ok (F := funS EE ih ft.get n 24) (S24_ok ih n) e),
 (fun ih n _ _ _ e => ar3_ok (F := funS EE ih ft.get n 25) (S25_ok ih n) e)⟩⟩⟩⟩⟩,
 ⟨⟨⟨⟨(fun ih n _ _ _ e => ar4_ok (F := funS EE ih ft.get n 26) (S26_ok ih n) e),
 ⟨(fun ih n _ _ _ e => ar2_ok (F := funS EE ih ft.get n 27) (S27_ok ih n) e),
 (fun ih n _ _ _ e => ar2_ok (F := funS EE ih ft.get n 28) (S28_ok ih n) e)⟩⟩,
 ⟨(fun ih n _ _ _ e => ar3_ok (F := funS EE ih ft.get n 29) (S29_ok ih n) e),
 ⟨(fun ih n _ _ _ e => ar3_ok (F := funS EE ih ft.get n 30) (S30_ok ih n) e),
 (fun ih n _ _ _ e => ar3_ok (F := funS EE ih ft.get n 31) (S31_ok ih n) e)⟩⟩⟩,
 ⟨⟨(fun ih n _ _ _ e => ar4_ok (F := funS EE ih ft.get n 32) (S32_ok ih n) e),
 ⟨(fun ih n _ _ _ e => ar2_ok (F := funS EE ih ft.get n 33) (S33_ok ih n) e),
 (fun ih n _ _ _ e => ar1_ok (F := funS EE ih ft.get n 34) (S34_ok ih n) e)⟩⟩,
 ⟨(fun ih n _ _ _ e => ar1_ok (F := funS EE ih ft.get n 35) (S35_ok ih n) e),
 ⟨(fun ih n _ _ _ e => ar1_ok (F := funS EE ih ft.get n 36) (S36_ok ih n) e),
 (fun ih n _ _ _ e => ar2_ok (F := funS EE ih ft.get n 37) (S37_ok ih n) e)⟩⟩⟩⟩,
 ⟨⟨⟨(fun ih n _ _ _ e => ar2_ok (F := funS EE ih ft.get n 38) (S38_ok ih n) e),
 ⟨(fun ih n _ _ _ e => ar2_ok (F := funS EE ih ft.get n 39) (S39_ok ih n) e),
 (fun ih n _ _ _ e => ar1_ok (F := funS EE ih ft.get n 40) (S40_ok ih n) e)⟩⟩,
 ⟨(fun ih n _ _ _ e => ar2_ok (F := funS EE ih ft.get n 41) (S41_ok ih n) e),
 ⟨(fun ih n _ _ _ e => ar0_ok (F := funS EE ih ft.get n 42) (S42_ok ih n) e),
 (fun ih n _ _ _ e => ar1_ok (F := funS EE ih ft.get n 43) (S43_ok ih n) e)⟩⟩⟩,
 ⟨⟨(fun ih n _ _ _ e => ar1_ok (F := funS EE ih ft.get n 44) (S44_ok ih n) e),
 ⟨(fun ih n _ _ _ e => ar1_ok (F := funS EE ih ft.get n 45) (S45_ok ih n) e),
 (fun ih n _ _ _ e => ar1_ok (F := funS EE ih ft.get n 46) (S46_ok ih n) e)⟩⟩,
 ⟨⟨(fun ih n _ _ _ e => ar2_ok (F := funS EE ih ft.get n 47) (S47_ok ih n) e),
 (fun ih n _ _ _ e => ar4_ok (F := funS EE ih ft.get n 48) (S48_ok ih n) e)⟩,
 ⟨(fun ih n _ _ _ e => ar3_ok (F := funS EE ih ft.get n 49) (S49_ok ih n) e),
 (fun ih n _ _ _ e => ar1_ok (F := funS EE ih ft.get n 50) (S50_ok ih n) e)⟩⟩⟩⟩⟩⟩,
 ⟨⟨⟨⟨⟨(fun ih n _ _ _ e => ar0_ok (F := funS EE ih ft.get n 51) (S51_ok ih n) e),
 ⟨(fun ih n _ _ _ e => ar3_ok (F := funS EE ih ft.get n 52) (S52_ok ih n) e),
 (fun ih n _ _ _ e => ar4_ok (F := funS EE ih ft.get n 53) (S53_ok ih n) e)⟩⟩,
 ⟨(fun ih n _ _ _ e => ar3_ok (F := funS EE ih ft.get n 54) (S54_ok ih n) e),
 ⟨(fun ih n _ _ _ e => ar2_ok (F := funS EE ih ft.get n 55) (S55_ok ih n) e),
 (fun ih n _ _ _ e => ar0_ok (F := funS EE ih ft.get n 56) (S56_ok ih n) e)⟩⟩⟩,
 ⟨⟨(fun ih n _ _ _ e => ar1_ok (F := funS EE ih ft.get n 57) (S57_ok ih n) e),
 ⟨(fun ih n _ _ _ e => ar2_ok (F := funS EE ih ft.get n 58) (S58_ok ih n) e),
 (fun ih n _ _ _ e => ar4_ok (F := funS EE ih ft.get n 59) (S59_ok ih n) e)⟩⟩,
 ⟨(fun ih n _ _ _ e => ar4_ok (F := funS EE ih ft.get n 60) (S60_ok ih n) e),
 ⟨(fun ih n _ _ _ e => ar4_ok (F := funS EE ih ft.get n 61) (S61_ok ih n) e),
 (fun ih n _ _ _ e => ar4_ok (F := funS EE ih ft.get n 62) (S62_ok ih n) e)⟩⟩⟩⟩,
 ⟨⟨⟨(fun ih n _ _ _ e => ar2_ok (F := funS EE ih ft.get n 63) (S63_ok ih n) e),
 ⟨(fun ih n _ _ _ e => ar4_ok (F := funS EE ih ft.get n 64) (S64_ok ih n) e),
 (fun ih n _ _ _ e => ar1_ok (F := funS EE ih ft.get n 65) (S65_ok ih n) e)⟩⟩,
 ⟨(fun ih n _ _ _ e => ar1_ok (F := funS EE ih ft.get n 66) (S66_ok ih n) e),
 ⟨(fun ih n _ _ _ e => ar1_ok (F := funS EE ih ft.get n 67) (S67_ok ih n) e),
 (fun ih n _ _ _ e => ar2_ok (F := funS EE ih ft.get n 68) (S68_ok ih n) e)⟩⟩⟩,
 ⟨⟨(fun ih n _ _ _ e => ar2_ok (F := funS EE ih ft.get n 69) (S69_ok ih n) e),
 ⟨(fun ih n _ _ _ e => ar2_ok (F := funS EE ih ft.get n 70) (S70_ok ih n) e),
 (fun ih n _ _ _ e => ar1_ok (F := funS EE ih ft.get n 71) (S71_ok ih n) e)⟩⟩,
 ⟨⟨(fun ih n _ _ _ e => ar2_ok (F := funS EE ih ft.get n 72) (S72_ok ih n) e),
 (fun ih n _ _ _ e => ar2_ok (F := funS EE ih ft.get n 73) (S73_ok ih n) e)⟩,
 ⟨(fun ih n _ _ _ e => ar2_ok (F := funS EE ih ft.get n 74) (S74_ok ih n) e),
 (fun ih n _ _ _ e => ar2_ok (F := funS EE ih ft.get n 75) (S75_ok ih n) e)⟩⟩⟩⟩⟩,
 ⟨⟨⟨⟨(fun ih n _ _ _ e => ar2_ok (F := funS EE ih ft.get n 76) (S76_ok ih n) e),
 ⟨(fun ih n _ _ _ e => ar1_ok (F := funS EE ih ft.get n 77) (S77_ok ih n) e),
 (fun ih n _ _ _ e => ar2_ok (F := funS EE ih ft.get n 78) (S78_ok ih n) e)⟩⟩,
 ⟨(fun ih n _ _ _ e => ar2_ok (F := funS EE ih ft.get n 79) (S79_ok ih n) e),
 ⟨(fun ih n _ _ _ e => ar2_ok (F := funS EE ih ft.get n 80) (S80_ok ih n) e),
 (fun ih n _ _ _ e => ar4_ok (F := funS EE ih ft.get n 81) (S81_ok ih n) e)⟩⟩⟩,
 ⟨⟨(fun ih n _ _ _ e => ar1_ok (F := funS EE ih ft.get n 82) (S82_ok ih n) e),
 ⟨(fun ih n _ _ _ e => ar2_ok (F := funS EE ih ft.get n 83) (S83_ok ih n) e),
 (fun ih n _ _ _ e => ar1_ok (F := funS EE ih ft.get n 84) (S84_ok ih n) e)⟩⟩,
 ⟨(fun ih n _ _ _ e => ar1_ok (F := funS EE ih ft.get n 85) (S85_ok ih n) e),
 ⟨(fun ih n _ _ _ e => ar1_ok (F := funS EE ih ft.get n 86) (S86_ok ih n) e),
 (fun ih n _ _ _ e => ar2_ok (F := funS EE ih ft.get n 87) (S87_ok ih n) e)⟩⟩⟩⟩,
 ⟨⟨⟨(fun ih n _ _ _ e => ar2_ok (F := funS EE ih ft.get n 88) (S88_ok ih n) e),
 ⟨(fun ih n _ _ _ e => ar2_ok (F := funS EE ih ft.get n 89) (S89_ok ih n) e),
 (fun ih n _ _ _ e => ar2_ok (F := funS EE ih ft.get n 90) (S90_ok ih n) e)⟩⟩,
 ⟨(fun ih n _ _ _ e => ar3_ok (F := funS EE ih ft.get n 91) (S91_ok ih n) e),
 ⟨(fun ih n _ _ _ e => ar2_ok (F := funS EE ih ft.get n 92) (S92_ok ih n) e),
 (fun ih n _ _ _ e => ar3_ok (F := funS EE ih ft.get n 93) (S93_ok ih n) e)⟩⟩⟩,
 ⟨⟨(fun ih n _ _ _ e => ar3_ok (F := funS EE ih ft.get n 94) (S94_ok ih n) e),
 ⟨(fun ih n _ _ _ e => ar3_ok (F := funS EE ih ft.get n 95) (S95_ok ih n) e),
 (fun ih n _ _ _ e => ar4_ok (F := funS EE ih ft.get n 96) (S96_ok ih n) e)⟩⟩,
 ⟨⟨(fun ih n _ _ _ e => ar2_ok (F := funS EE ih ft.get n 97) (S97_ok ih n) e),
 (fun ih n _ _ _ e => ar3_ok (F := funS EE ih ft.get n 98) (S98_ok ih n) e)⟩,
 ⟨(fun ih n _ _ _ e => ar3_ok (F := funS EE ih ft.get n 99) (S99_ok ih n) e),
 (fun ih n _ _ _ e => ar4_ok (F := funS EE ih ft.get n 100) (S100_ok ih n) e)⟩⟩⟩⟩⟩⟩⟩
theorem sh_run : ∀ n f args h x, SS dt n f args h = some x → run EE n f args h = some x := SS_ok ft_ok dt_ok
end Idl
end Go.Proofs.Ytbkdidonegggdaa

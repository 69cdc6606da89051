/-
  THE SHALLOW FORM OF THE SEAT'S FUNCTIONS, a part; each is what its code's shallow run is. Printed by a program of mine (gen-sh). No statement is proved here.
-/
import Derived.Test.YtnenpcghegcnhaaTab
import Derived.Test.YtnenpcghegcnhaaIdl31
set_option maxRecDepth 100000
set_option linter.unusedVariables false
namespace Go.Proofs.Ytnenpcghegcnhaa
namespace Idl
/-! Function 2. -/
noncomputable def S2 (ih : Handler) (n : Nat) (h0 : Hp) : Option (IV × Hp) :=
  isoS [] false false ih 1 [] h0 fun _ h2 _ _ => outS1 [] h2
theorem S2_ok (ih : Handler) (n : Nat) (h0 : Hp) : funS EE ih ft.get n 2 [] h0 = S2 ih n h0 := by kernel_rfl
end Idl
end Go.Proofs.Ytnenpcghegcnhaa

/-
  Texts of a proof, part 5: an ideal semantics of the program, its functions in shallow form, contracts of them. No statement of the seat is proved here.
-/
import Derived.ChangeArms
import Derived.ChangeStays
import Derived.RowKit3
import Derived.Test.YtaifgaidaglblaaEqualSumsK4
set_option linter.all false
namespace Go.Proofs.Ytaifgaidaglblaa
namespace Idl
open Go.RowKit
inductive Tm where
  | mk (op n : Int) (kids : List Tm)
  deriving Inhabited
def Tm.enc : Tm → FV
  | .mk op n kids => .agg [.int .i64 op, .int .i64 n, .sl (encL kids)]
where
  encL : List Tm → List FV
    | [] => []
    | t :: l => t.enc :: encL l
theorem encL_eq (l : List Tm) : Tm.enc.encL l = l.map Tm.enc := by
  induction l with
  | nil => rfl
  | cons t l ih => simp [Tm.enc.encL, ih]
section
variable {H : Type} {enc : TypeId × Value → H} {P : Program} {w : World} {sp : Nat → Bool} {held : Bool} {tr tk ti : TypeId} {fs : Array Field}
def Tm.cells : Tm → List FV
  | .mk op n kids => [.int .i64 op, .int .i64 n, .sl (kids.map Tm.enc)]
structure TmType (P : Program) (tr tk ti : TypeId) (fs : Array Field) : Prop where
  hr : P.underlying tr = some (.struct fs)
  hf : fs.toList.map (fun f => (f.type, f.offset)) = [(ti, 0), (ti, 1), (tk, 2)]
  hi : P.underlying ti = some (.int .i64)
  hk : P.underlying tk = some (.slice tr)
  c3 : P.cellsOf tr = 3
  c1 : P.cellsOf ti = 1
  ck : P.cellsOf tk = 1
end
end Idl
end Go.Proofs.Ytaifgaidaglblaa


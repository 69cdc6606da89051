/-
  NARROWER THAN 'FOR EVERY INPUT', by the rows' own cells (each row's printed sentence says how): KernelTurned: loops · KernelTypes: loops · KernelKeeps: loops · KernelSubst: loops · KernelShift: loops · KernelChecks: loops · KernelGrown: loops · KernelContexts: loops.
  DERIVED. THE GIVEN ROWS OF THIS SEAT. 8 by the template 'for every input the law returns true; each argument reads behind the call as it read before'; 0 by the template 'total and deterministic' (their statements: YtnenpcghegcnhaaGreatTotals.lean).
  GIVEN WITH THE SEED: the statements are not yours to turn. If you find one false, say at which input.
  Laid BY PROGRAM, IN A SANDBOX (cutbox-rows.mjs): the forced cells as the released guide's own fill.sh prints them over the translation c0efb3c4b12323e1… (all of the seat's roots in one cut). By AI agents, Wed Nov 11 2026. No macro, syntax, notation, axiom, sorry.
-/
import Derived.Test.YtnenpcghegcnhaaGreatChecked
import GoSem.Claim
import GoSem.ClaimJoined
import GoSem.ClaimMapViews
import Derived.JoinedTies
import Derived.KernelRfl
namespace Go.Proofs.YtnenpcghegcnhaaGreat
/- THE CELL 'sum', in the pinned program and in every row, IS THE sha256 OF THE DUMP (.gsa) THAT YtnenpcghegcnhaaGreatProg.lean LOADS. Nothing in Lean hashes anything: it is a label: what it is worth is what the hold of that sum in a sandbox is worth. -/
noncomputable def Tryz.pinned : Pinned := { name := "ytnenpcghegcnhaagreat", sum := "c0efb3c4b12323e176f90602fee3f500829ca453893ab8cd41a0aecfb22c334a", checked := Tryz.checked }
namespace Rows
def none {H : Type} : Left H := { results := [], args := [] }

/-- 'thyrsuslaw7.KernelTurned': WHATEVER THE INPUT: true; the input reads as it did. -/
def kernelTurnedSpec : ChangeSpec := { name := "kernelTurned", fn := fun _ => fun
  | [d1, d2, d3, d4, d5, d6] => { results := [.lit (.bool true)], args := [d1, d2, d3, d4, d5, d6] }
  | _ => none }
def kernelTurnedRow : OpenClaim := { program := "ytnenpcghegcnhaagreat", sum := "c0efb3c4b12323e176f90602fee3f500829ca453893ab8cd41a0aecfb22c334a", func := "thyrsus/thyrsuslaw7.KernelTurned", spec := "kernelTurned", unfollowed := true, recurses := true, loops := true, apart := false }
def KernelTurnedSaid : Prop := kernelTurnedRow.holds Tryz.pinned (OpenSpec.ofChange kernelTurnedSpec)

/-- ITS FALSE NEIGHBOUR: 'it returns false'. Refute it at one input. -/
def kernelTurnedWrong : ChangeSpec := { name := "kernelTurned", fn := fun _ => fun
  | [d1, d2, d3, d4, d5, d6] => { results := [.lit (.bool false)], args := [d1, d2, d3, d4, d5, d6] }
  | _ => none }
def KernelTurnedWrongFalsely : Prop := kernelTurnedRow.holds Tryz.pinned (OpenSpec.ofChange kernelTurnedWrong)

/-- 'thyrsuslaw7.KernelTypes': WHATEVER THE INPUT: true; the input reads as it did. -/
def kernelTypesSpec : ChangeSpec := { name := "kernelTypes", fn := fun _ => fun
  | [d1, d2, d3, d4] => { results := [.lit (.bool true)], args := [d1, d2, d3, d4] }
  | _ => none }
def kernelTypesRow : OpenClaim := { program := "ytnenpcghegcnhaagreat", sum := "c0efb3c4b12323e176f90602fee3f500829ca453893ab8cd41a0aecfb22c334a", func := "thyrsus/thyrsuslaw7.KernelTypes", spec := "kernelTypes", unfollowed := true, recurses := true, loops := true, apart := false }
def KernelTypesSaid : Prop := kernelTypesRow.holds Tryz.pinned (OpenSpec.ofChange kernelTypesSpec)

/-- ITS FALSE NEIGHBOUR: 'it returns false'. Refute it at one input. -/
def kernelTypesWrong : ChangeSpec := { name := "kernelTypes", fn := fun _ => fun
  | [d1, d2, d3, d4] => { results := [.lit (.bool false)], args := [d1, d2, d3, d4] }
  | _ => none }
def KernelTypesWrongFalsely : Prop := kernelTypesRow.holds Tryz.pinned (OpenSpec.ofChange kernelTypesWrong)

/-- 'thyrsuslaw7.KernelKeeps': WHATEVER THE INPUT: true; the input reads as it did. -/
def kernelKeepsSpec : ChangeSpec := { name := "kernelKeeps", fn := fun _ => fun
  | [d1, d2, d3, d4] => { results := [.lit (.bool true)], args := [d1, d2, d3, d4] }
  | _ => none }
def kernelKeepsRow : OpenClaim := { program := "ytnenpcghegcnhaagreat", sum := "c0efb3c4b12323e176f90602fee3f500829ca453893ab8cd41a0aecfb22c334a", func := "thyrsus/thyrsuslaw7.KernelKeeps", spec := "kernelKeeps", unfollowed := true, recurses := true, loops := true, apart := false }
def KernelKeepsSaid : Prop := kernelKeepsRow.holds Tryz.pinned (OpenSpec.ofChange kernelKeepsSpec)

/-- ITS FALSE NEIGHBOUR: 'it returns false'. Refute it at one input. -/
def kernelKeepsWrong : ChangeSpec := { name := "kernelKeeps", fn := fun _ => fun
  | [d1, d2, d3, d4] => { results := [.lit (.bool false)], args := [d1, d2, d3, d4] }
  | _ => none }
def KernelKeepsWrongFalsely : Prop := kernelKeepsRow.holds Tryz.pinned (OpenSpec.ofChange kernelKeepsWrong)

/-- 'thyrsuslaw7.KernelSubst': WHATEVER THE INPUT: true; the input reads as it did. -/
def kernelSubstSpec : ChangeSpec := { name := "kernelSubst", fn := fun _ => fun
  | [d1, d2, d3, d4] => { results := [.lit (.bool true)], args := [d1, d2, d3, d4] }
  | _ => none }
def kernelSubstRow : OpenClaim := { program := "ytnenpcghegcnhaagreat", sum := "c0efb3c4b12323e176f90602fee3f500829ca453893ab8cd41a0aecfb22c334a", func := "thyrsus/thyrsuslaw7.KernelSubst", spec := "kernelSubst", unfollowed := true, recurses := true, loops := true, apart := false }
def KernelSubstSaid : Prop := kernelSubstRow.holds Tryz.pinned (OpenSpec.ofChange kernelSubstSpec)

/-- ITS FALSE NEIGHBOUR: 'it returns false'. Refute it at one input. -/
def kernelSubstWrong : ChangeSpec := { name := "kernelSubst", fn := fun _ => fun
  | [d1, d2, d3, d4] => { results := [.lit (.bool false)], args := [d1, d2, d3, d4] }
  | _ => none }
def KernelSubstWrongFalsely : Prop := kernelSubstRow.holds Tryz.pinned (OpenSpec.ofChange kernelSubstWrong)

/-- 'thyrsuslaw7.KernelShift': WHATEVER THE INPUT: true; the input reads as it did. -/
def kernelShiftSpec : ChangeSpec := { name := "kernelShift", fn := fun _ => fun
  | [d1, d2, d3, d4, d5] => { results := [.lit (.bool true)], args := [d1, d2, d3, d4, d5] }
  | _ => none }
def kernelShiftRow : OpenClaim := { program := "ytnenpcghegcnhaagreat", sum := "c0efb3c4b12323e176f90602fee3f500829ca453893ab8cd41a0aecfb22c334a", func := "thyrsus/thyrsuslaw7.KernelShift", spec := "kernelShift", unfollowed := true, recurses := true, loops := true, apart := false }
def KernelShiftSaid : Prop := kernelShiftRow.holds Tryz.pinned (OpenSpec.ofChange kernelShiftSpec)

/-- ITS FALSE NEIGHBOUR: 'it returns false'. Refute it at one input. -/
def kernelShiftWrong : ChangeSpec := { name := "kernelShift", fn := fun _ => fun
  | [d1, d2, d3, d4, d5] => { results := [.lit (.bool false)], args := [d1, d2, d3, d4, d5] }
  | _ => none }
def KernelShiftWrongFalsely : Prop := kernelShiftRow.holds Tryz.pinned (OpenSpec.ofChange kernelShiftWrong)

/-- 'thyrsuslaw7.KernelChecks': WHATEVER THE INPUT: true; the input reads as it did. -/
def kernelChecksSpec : ChangeSpec := { name := "kernelChecks", fn := fun _ => fun
  | [d1, d2, d3, d4] => { results := [.lit (.bool true)], args := [d1, d2, d3, d4] }
  | _ => none }
def kernelChecksRow : OpenClaim := { program := "ytnenpcghegcnhaagreat", sum := "c0efb3c4b12323e176f90602fee3f500829ca453893ab8cd41a0aecfb22c334a", func := "thyrsus/thyrsuslaw7.KernelChecks", spec := "kernelChecks", unfollowed := true, recurses := true, loops := true, apart := false }
def KernelChecksSaid : Prop := kernelChecksRow.holds Tryz.pinned (OpenSpec.ofChange kernelChecksSpec)

/-- ITS FALSE NEIGHBOUR: 'it returns false'. Refute it at one input. -/
def kernelChecksWrong : ChangeSpec := { name := "kernelChecks", fn := fun _ => fun
  | [d1, d2, d3, d4] => { results := [.lit (.bool false)], args := [d1, d2, d3, d4] }
  | _ => none }
def KernelChecksWrongFalsely : Prop := kernelChecksRow.holds Tryz.pinned (OpenSpec.ofChange kernelChecksWrong)

/-- 'thyrsuslaw7.KernelGrown': WHATEVER THE INPUT: true; the input reads as it did. -/
def kernelGrownSpec : ChangeSpec := { name := "kernelGrown", fn := fun _ => fun
  | [d1, d2, d3, d4] => { results := [.lit (.bool true)], args := [d1, d2, d3, d4] }
  | _ => none }
def kernelGrownRow : OpenClaim := { program := "ytnenpcghegcnhaagreat", sum := "c0efb3c4b12323e176f90602fee3f500829ca453893ab8cd41a0aecfb22c334a", func := "thyrsus/thyrsuslaw7.KernelGrown", spec := "kernelGrown", unfollowed := true, recurses := true, loops := true, apart := false }
def KernelGrownSaid : Prop := kernelGrownRow.holds Tryz.pinned (OpenSpec.ofChange kernelGrownSpec)

/-- ITS FALSE NEIGHBOUR: 'it returns false'. Refute it at one input. -/
def kernelGrownWrong : ChangeSpec := { name := "kernelGrown", fn := fun _ => fun
  | [d1, d2, d3, d4] => { results := [.lit (.bool false)], args := [d1, d2, d3, d4] }
  | _ => none }
def KernelGrownWrongFalsely : Prop := kernelGrownRow.holds Tryz.pinned (OpenSpec.ofChange kernelGrownWrong)

/-- 'thyrsuslaw7.KernelContexts': WHATEVER THE INPUT: true; the input reads as it did. -/
def kernelContextsSpec : ChangeSpec := { name := "kernelContexts", fn := fun _ => fun
  | [d1, d2, d3, d4] => { results := [.lit (.bool true)], args := [d1, d2, d3, d4] }
  | _ => none }
def kernelContextsRow : OpenClaim := { program := "ytnenpcghegcnhaagreat", sum := "c0efb3c4b12323e176f90602fee3f500829ca453893ab8cd41a0aecfb22c334a", func := "thyrsus/thyrsuslaw7.KernelContexts", spec := "kernelContexts", unfollowed := true, recurses := true, loops := true, apart := false }
def KernelContextsSaid : Prop := kernelContextsRow.holds Tryz.pinned (OpenSpec.ofChange kernelContextsSpec)

/-- ITS FALSE NEIGHBOUR: 'it returns false'. Refute it at one input. -/
def kernelContextsWrong : ChangeSpec := { name := "kernelContexts", fn := fun _ => fun
  | [d1, d2, d3, d4] => { results := [.lit (.bool false)], args := [d1, d2, d3, d4] }
  | _ => none }
def KernelContextsWrongFalsely : Prop := kernelContextsRow.holds Tryz.pinned (OpenSpec.ofChange kernelContextsWrong)

/- THE SECOND FORM. 'bulk': how many values and letters a reading holds, each counted each time it is reached (what is shared counts as often as it is met; a slice's spare places count too). A statement '..UptoSaid' is the law's where the arguments, and the package variables that the reading takes, are together of bulk at most 1048576: NARROWER than '..Said'. Prove '..Said' where nothing that the law and all that it calls make is longer than what came in: it says more and counts as full. Else prove '..UptoSaid'. A law counts once. -/
mutual
def uptoBulk {H : Type} : DataW H → Nat
  | .lit (.string bytes) => bytes.length + 1
  | .lit _ => 1
  | .nil => 1
  | .ptr d => uptoBulk d + 1
  | .slice elems spare => uptoBulkAll elems + uptoBulkAll spare + 1
  | .agg parts => uptoBulkAll parts + 1
  | .iface _ d => uptoBulk d + 1
  | .map entries => uptoBulkEntries entries + 1
  | .held _ => 1
def uptoBulkAll {H : Type} : List (DataW H) → Nat
  | [] => 0
  | d :: r => uptoBulk d + uptoBulkAll r
def uptoBulkEntries {H : Type} : List (Lit × DataW H) → Nat
  | [] => 0
  | x :: r => uptoBulkEntry x + uptoBulkEntries r
def uptoBulkEntry {H : Type} : Lit × DataW H → Nat
  | (.string bytes, d) => bytes.length + uptoBulk d + 1
  | (_, d) => uptoBulk d + 1
 end
def uptoSmall : (H : Type) → List (DataW H) → Bool := fun _ ds => decide (uptoBulkAll ds ≤ 1048576)
def OpenSpec.upto (s : _root_.Go.ChangeSpec) : _root_.Go.OpenSpec := { _root_.Go.OpenSpec.ofChange s with cond := some uptoSmall }

/-- 'thyrsuslaw7.KernelTurned', WHERE WHAT IT READS IS OF BULK AT MOST 1048576: true; the input reads as it did. -/
def kernelTurnedUptoRow : OpenClaim := { program := "ytnenpcghegcnhaagreat", sum := "c0efb3c4b12323e176f90602fee3f500829ca453893ab8cd41a0aecfb22c334a", func := "thyrsus/thyrsuslaw7.KernelTurned", spec := "kernelTurned", unfollowed := true, recurses := true, loops := true, apart := false, narrowed := true }
def KernelTurnedUptoSaid : Prop := kernelTurnedUptoRow.holds Tryz.pinned (OpenSpec.upto kernelTurnedSpec)

/-- 'thyrsuslaw7.KernelTypes', WHERE WHAT IT READS IS OF BULK AT MOST 1048576: true; the input reads as it did. -/
def kernelTypesUptoRow : OpenClaim := { program := "ytnenpcghegcnhaagreat", sum := "c0efb3c4b12323e176f90602fee3f500829ca453893ab8cd41a0aecfb22c334a", func := "thyrsus/thyrsuslaw7.KernelTypes", spec := "kernelTypes", unfollowed := true, recurses := true, loops := true, apart := false, narrowed := true }
def KernelTypesUptoSaid : Prop := kernelTypesUptoRow.holds Tryz.pinned (OpenSpec.upto kernelTypesSpec)

/-- 'thyrsuslaw7.KernelKeeps', WHERE WHAT IT READS IS OF BULK AT MOST 1048576: true; the input reads as it did. -/
def kernelKeepsUptoRow : OpenClaim := { program := "ytnenpcghegcnhaagreat", sum := "c0efb3c4b12323e176f90602fee3f500829ca453893ab8cd41a0aecfb22c334a", func := "thyrsus/thyrsuslaw7.KernelKeeps", spec := "kernelKeeps", unfollowed := true, recurses := true, loops := true, apart := false, narrowed := true }
def KernelKeepsUptoSaid : Prop := kernelKeepsUptoRow.holds Tryz.pinned (OpenSpec.upto kernelKeepsSpec)

/-- 'thyrsuslaw7.KernelSubst', WHERE WHAT IT READS IS OF BULK AT MOST 1048576: true; the input reads as it did. -/
def kernelSubstUptoRow : OpenClaim := { program := "ytnenpcghegcnhaagreat", sum := "c0efb3c4b12323e176f90602fee3f500829ca453893ab8cd41a0aecfb22c334a", func := "thyrsus/thyrsuslaw7.KernelSubst", spec := "kernelSubst", unfollowed := true, recurses := true, loops := true, apart := false, narrowed := true }
def KernelSubstUptoSaid : Prop := kernelSubstUptoRow.holds Tryz.pinned (OpenSpec.upto kernelSubstSpec)

/-- 'thyrsuslaw7.KernelShift', WHERE WHAT IT READS IS OF BULK AT MOST 1048576: true; the input reads as it did. -/
def kernelShiftUptoRow : OpenClaim := { program := "ytnenpcghegcnhaagreat", sum := "c0efb3c4b12323e176f90602fee3f500829ca453893ab8cd41a0aecfb22c334a", func := "thyrsus/thyrsuslaw7.KernelShift", spec := "kernelShift", unfollowed := true, recurses := true, loops := true, apart := false, narrowed := true }
def KernelShiftUptoSaid : Prop := kernelShiftUptoRow.holds Tryz.pinned (OpenSpec.upto kernelShiftSpec)

/-- 'thyrsuslaw7.KernelChecks', WHERE WHAT IT READS IS OF BULK AT MOST 1048576: true; the input reads as it did. -/
def kernelChecksUptoRow : OpenClaim := { program := "ytnenpcghegcnhaagreat", sum := "c0efb3c4b12323e176f90602fee3f500829ca453893ab8cd41a0aecfb22c334a", func := "thyrsus/thyrsuslaw7.KernelChecks", spec := "kernelChecks", unfollowed := true, recurses := true, loops := true, apart := false, narrowed := true }
def KernelChecksUptoSaid : Prop := kernelChecksUptoRow.holds Tryz.pinned (OpenSpec.upto kernelChecksSpec)

/-- 'thyrsuslaw7.KernelGrown', WHERE WHAT IT READS IS OF BULK AT MOST 1048576: true; the input reads as it did. -/
def kernelGrownUptoRow : OpenClaim := { program := "ytnenpcghegcnhaagreat", sum := "c0efb3c4b12323e176f90602fee3f500829ca453893ab8cd41a0aecfb22c334a", func := "thyrsus/thyrsuslaw7.KernelGrown", spec := "kernelGrown", unfollowed := true, recurses := true, loops := true, apart := false, narrowed := true }
def KernelGrownUptoSaid : Prop := kernelGrownUptoRow.holds Tryz.pinned (OpenSpec.upto kernelGrownSpec)

/-- 'thyrsuslaw7.KernelContexts', WHERE WHAT IT READS IS OF BULK AT MOST 1048576: true; the input reads as it did. -/
def kernelContextsUptoRow : OpenClaim := { program := "ytnenpcghegcnhaagreat", sum := "c0efb3c4b12323e176f90602fee3f500829ca453893ab8cd41a0aecfb22c334a", func := "thyrsus/thyrsuslaw7.KernelContexts", spec := "kernelContexts", unfollowed := true, recurses := true, loops := true, apart := false, narrowed := true }
def KernelContextsUptoSaid : Prop := kernelContextsUptoRow.holds Tryz.pinned (OpenSpec.upto kernelContextsSpec)

end Rows
end Go.Proofs.YtnenpcghegcnhaaGreat

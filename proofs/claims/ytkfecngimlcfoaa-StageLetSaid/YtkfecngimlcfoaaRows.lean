/-
  NARROWER THAN 'FOR EVERY INPUT', by the rows' own cells (each row's printed sentence says how): StageAll: loops · StagePlain: loops · StageTypes: loops · StageWrap: loops · StageLet: loops.
  DERIVED. THE GIVEN ROWS OF THIS SEAT. 8 by the template 'for every input the law returns true; each argument reads behind the call as it read before'; 0 by the template 'total and deterministic' (their statements: YtkfecngimlcfoaaTotals.lean).
  GIVEN WITH THE SEED: the statements are not yours to turn. If you find one false, say at which input.
  Laid BY PROGRAM, IN A SANDBOX (cutbox-rows.mjs): the forced cells as the released guide's own fill.sh prints them over the translation c272f23893a9401d… (all of the seat's roots in one cut). By AI agents, Wed Nov 11 2026. No macro, syntax, notation, axiom, sorry.
-/
import Derived.Test.YtkfecngimlcfoaaChecked
import GoSem.Claim
import GoSem.ClaimJoined
import GoSem.ClaimMapViews
import Derived.JoinedTies
import Derived.KernelRfl
namespace Go.Proofs.Ytkfecngimlcfoaa
/- THE CELL 'sum', in the pinned program and in every row, IS THE sha256 OF THE DUMP (.gsa) THAT YtkfecngimlcfoaaProg.lean LOADS. Nothing in Lean hashes anything: it is a label: what it is worth is what the hold of that sum in a sandbox is worth. -/
noncomputable def Try.pinned : Pinned := { name := "ytkfecngimlcfoaa", sum := "c272f23893a9401dfba56ea7f56eec4d545a7d046bb35c57bca678133ff1fcb2", checked := Try.checked }
namespace Rows
def none {H : Type} : Left H := { results := [], args := [] }

/-- 'thyrsuslaw10.StageAll': WHATEVER THE INPUT: true; the input reads as it did. -/
def stageAllSpec : ChangeSpec := { name := "stageAll", fn := fun _ => fun
  | [d1, d2] => { results := [.lit (.bool true)], args := [d1, d2] }
  | _ => none }
def stageAllRow : OpenClaim := { program := "ytkfecngimlcfoaa", sum := "c272f23893a9401dfba56ea7f56eec4d545a7d046bb35c57bca678133ff1fcb2", func := "thyrsus/thyrsuslaw10.StageAll", spec := "stageAll", unfollowed := true, recurses := true, loops := true, apart := false }
def StageAllSaid : Prop := stageAllRow.holds Try.pinned (OpenSpec.ofChange stageAllSpec)

/-- ITS FALSE NEIGHBOUR: 'it returns false'. Refute it at one input. -/
def stageAllWrong : ChangeSpec := { name := "stageAll", fn := fun _ => fun
  | [d1, d2] => { results := [.lit (.bool false)], args := [d1, d2] }
  | _ => none }
def StageAllWrongFalsely : Prop := stageAllRow.holds Try.pinned (OpenSpec.ofChange stageAllWrong)

/-- 'thyrsuslaw10.StagePlain': WHATEVER THE INPUT: true; the input reads as it did. -/
def stagePlainSpec : ChangeSpec := { name := "stagePlain", fn := fun _ => fun
  | [d1, d2, d3] => { results := [.lit (.bool true)], args := [d1, d2, d3] }
  | _ => none }
def stagePlainRow : OpenClaim := { program := "ytkfecngimlcfoaa", sum := "c272f23893a9401dfba56ea7f56eec4d545a7d046bb35c57bca678133ff1fcb2", func := "thyrsus/thyrsuslaw10.StagePlain", spec := "stagePlain", unfollowed := true, recurses := true, loops := true, apart := false }
def StagePlainSaid : Prop := stagePlainRow.holds Try.pinned (OpenSpec.ofChange stagePlainSpec)

/-- ITS FALSE NEIGHBOUR: 'it returns false'. Refute it at one input. -/
def stagePlainWrong : ChangeSpec := { name := "stagePlain", fn := fun _ => fun
  | [d1, d2, d3] => { results := [.lit (.bool false)], args := [d1, d2, d3] }
  | _ => none }
def StagePlainWrongFalsely : Prop := stagePlainRow.holds Try.pinned (OpenSpec.ofChange stagePlainWrong)

/-- 'thyrsuslaw10.StagePower': WHATEVER THE INPUT: true; the input reads as it did. -/
def stagePowerSpec : ChangeSpec := { name := "stagePower", fn := fun _ => fun
  | [d1, d2] => { results := [.lit (.bool true)], args := [d1, d2] }
  | _ => none }
def stagePowerRow : OpenClaim := { program := "ytkfecngimlcfoaa", sum := "c272f23893a9401dfba56ea7f56eec4d545a7d046bb35c57bca678133ff1fcb2", func := "thyrsus/thyrsuslaw10.StagePower", spec := "stagePower", unfollowed := true, recurses := true, apart := false }
def StagePowerSaid : Prop := stagePowerRow.holds Try.pinned (OpenSpec.ofChange stagePowerSpec)

/-- ITS FALSE NEIGHBOUR: 'it returns false'. Refute it at one input. -/
def stagePowerWrong : ChangeSpec := { name := "stagePower", fn := fun _ => fun
  | [d1, d2] => { results := [.lit (.bool false)], args := [d1, d2] }
  | _ => none }
def StagePowerWrongFalsely : Prop := stagePowerRow.holds Try.pinned (OpenSpec.ofChange stagePowerWrong)

/-- 'thyrsuslaw10.StageTypes': WHATEVER THE INPUT: true; the input reads as it did. -/
def stageTypesSpec : ChangeSpec := { name := "stageTypes", fn := fun _ => fun
  | [d1, d2] => { results := [.lit (.bool true)], args := [d1, d2] }
  | _ => none }
def stageTypesRow : OpenClaim := { program := "ytkfecngimlcfoaa", sum := "c272f23893a9401dfba56ea7f56eec4d545a7d046bb35c57bca678133ff1fcb2", func := "thyrsus/thyrsuslaw10.StageTypes", spec := "stageTypes", unfollowed := true, recurses := true, loops := true, apart := false }
def StageTypesSaid : Prop := stageTypesRow.holds Try.pinned (OpenSpec.ofChange stageTypesSpec)

/-- ITS FALSE NEIGHBOUR: 'it returns false'. Refute it at one input. -/
def stageTypesWrong : ChangeSpec := { name := "stageTypes", fn := fun _ => fun
  | [d1, d2] => { results := [.lit (.bool false)], args := [d1, d2] }
  | _ => none }
def StageTypesWrongFalsely : Prop := stageTypesRow.holds Try.pinned (OpenSpec.ofChange stageTypesWrong)

/-- 'thyrsuslaw10.StageKnown': WHATEVER THE INPUT: true; the input reads as it did. -/
def stageKnownSpec : ChangeSpec := { name := "stageKnown", fn := fun _ => fun
  | [d] => { results := [.lit (.bool true)], args := [d] }
  | _ => none }
def stageKnownRow : OpenClaim := { program := "ytkfecngimlcfoaa", sum := "c272f23893a9401dfba56ea7f56eec4d545a7d046bb35c57bca678133ff1fcb2", func := "thyrsus/thyrsuslaw10.StageKnown", spec := "stageKnown", unfollowed := true, recurses := true, apart := false }
def StageKnownSaid : Prop := stageKnownRow.holds Try.pinned (OpenSpec.ofChange stageKnownSpec)

/-- ITS FALSE NEIGHBOUR: 'it returns false'. Refute it at one input. -/
def stageKnownWrong : ChangeSpec := { name := "stageKnown", fn := fun _ => fun
  | [d] => { results := [.lit (.bool false)], args := [d] }
  | _ => none }
def StageKnownWrongFalsely : Prop := stageKnownRow.holds Try.pinned (OpenSpec.ofChange stageKnownWrong)

/-- 'thyrsuslaw10.StageTwice': WHATEVER THE INPUT: true; the input reads as it did. -/
def stageTwiceSpec : ChangeSpec := { name := "stageTwice", fn := fun _ => fun
  | [d1, d2] => { results := [.lit (.bool true)], args := [d1, d2] }
  | _ => none }
def stageTwiceRow : OpenClaim := { program := "ytkfecngimlcfoaa", sum := "c272f23893a9401dfba56ea7f56eec4d545a7d046bb35c57bca678133ff1fcb2", func := "thyrsus/thyrsuslaw10.StageTwice", spec := "stageTwice", unfollowed := true, recurses := true, apart := false }
def StageTwiceSaid : Prop := stageTwiceRow.holds Try.pinned (OpenSpec.ofChange stageTwiceSpec)

/-- ITS FALSE NEIGHBOUR: 'it returns false'. Refute it at one input. -/
def stageTwiceWrong : ChangeSpec := { name := "stageTwice", fn := fun _ => fun
  | [d1, d2] => { results := [.lit (.bool false)], args := [d1, d2] }
  | _ => none }
def StageTwiceWrongFalsely : Prop := stageTwiceRow.holds Try.pinned (OpenSpec.ofChange stageTwiceWrong)

/-- 'thyrsuslaw10.StageWrap': WHATEVER THE INPUT: true; the input reads as it did. -/
def stageWrapSpec : ChangeSpec := { name := "stageWrap", fn := fun _ => fun
  | [d1, d2, d3] => { results := [.lit (.bool true)], args := [d1, d2, d3] }
  | _ => none }
def stageWrapRow : OpenClaim := { program := "ytkfecngimlcfoaa", sum := "c272f23893a9401dfba56ea7f56eec4d545a7d046bb35c57bca678133ff1fcb2", func := "thyrsus/thyrsuslaw10.StageWrap", spec := "stageWrap", unfollowed := true, recurses := true, loops := true, apart := false }
def StageWrapSaid : Prop := stageWrapRow.holds Try.pinned (OpenSpec.ofChange stageWrapSpec)

/-- ITS FALSE NEIGHBOUR: 'it returns false'. Refute it at one input. -/
def stageWrapWrong : ChangeSpec := { name := "stageWrap", fn := fun _ => fun
  | [d1, d2, d3] => { results := [.lit (.bool false)], args := [d1, d2, d3] }
  | _ => none }
def StageWrapWrongFalsely : Prop := stageWrapRow.holds Try.pinned (OpenSpec.ofChange stageWrapWrong)

/-- 'thyrsuslaw10.StageLet': WHATEVER THE INPUT: true; the input reads as it did. -/
def stageLetSpec : ChangeSpec := { name := "stageLet", fn := fun _ => fun
  | [d1, d2] => { results := [.lit (.bool true)], args := [d1, d2] }
  | _ => none }
def stageLetRow : OpenClaim := { program := "ytkfecngimlcfoaa", sum := "c272f23893a9401dfba56ea7f56eec4d545a7d046bb35c57bca678133ff1fcb2", func := "thyrsus/thyrsuslaw10.StageLet", spec := "stageLet", unfollowed := true, recurses := true, loops := true, apart := false }
def StageLetSaid : Prop := stageLetRow.holds Try.pinned (OpenSpec.ofChange stageLetSpec)

/-- ITS FALSE NEIGHBOUR: 'it returns false'. Refute it at one input. -/
def stageLetWrong : ChangeSpec := { name := "stageLet", fn := fun _ => fun
  | [d1, d2] => { results := [.lit (.bool false)], args := [d1, d2] }
  | _ => none }
def StageLetWrongFalsely : Prop := stageLetRow.holds Try.pinned (OpenSpec.ofChange stageLetWrong)

/- THE SECOND FORM. 'bulk': how many values and letters a reading holds, each counted each time it is reached (what is shared counts as often as it is met; a slice's spare places count too). A statement '..UptoSaid' is the law's where the arguments, and the package variables that the reading takes, are together of bulk at most 1048576: NARROWER than '..Said'. Prove '..Said' where nothing that the law and all that it calls make is longer than what came in: it says more and counts as full. Else prove '..UptoSaid'. A law counts once. -/
mutual
def uptoBulk {H : Type} : DataW H → Nat
  | .lit (.string bytes) => bytes.length + 1
  | .lit _ => 1
  | .nil => 1
  | .ptr d => uptoBulk d + 1
  | .slice elems spare => uptoBulkAll elems + uptoBulkAll spare + 1
  | .agg parts => uptoBulkAll parts + 1
  | .iface _ d => uptoBulk d + 1
  | .map entries => uptoBulkEntries entries + 1
  | .held _ => 1
def uptoBulkAll {H : Type} : List (DataW H) → Nat
  | [] => 0
  | d :: r => uptoBulk d + uptoBulkAll r
def uptoBulkEntries {H : Type} : List (Lit × DataW H) → Nat
  | [] => 0
  | x :: r => uptoBulkEntry x + uptoBulkEntries r
def uptoBulkEntry {H : Type} : Lit × DataW H → Nat
  | (.string bytes, d) => bytes.length + uptoBulk d + 1
  | (_, d) => uptoBulk d + 1
 end
def uptoSmall : (H : Type) → List (DataW H) → Bool := fun _ ds => decide (uptoBulkAll ds ≤ 1048576)
def OpenSpec.upto (s : _root_.Go.ChangeSpec) : _root_.Go.OpenSpec := { _root_.Go.OpenSpec.ofChange s with cond := some uptoSmall }

/-- 'thyrsuslaw10.StageAll', WHERE WHAT IT READS IS OF BULK AT MOST 1048576: true; the input reads as it did. -/
def stageAllUptoRow : OpenClaim := { program := "ytkfecngimlcfoaa", sum := "c272f23893a9401dfba56ea7f56eec4d545a7d046bb35c57bca678133ff1fcb2", func := "thyrsus/thyrsuslaw10.StageAll", spec := "stageAll", unfollowed := true, recurses := true, loops := true, apart := false, narrowed := true }
def StageAllUptoSaid : Prop := stageAllUptoRow.holds Try.pinned (OpenSpec.upto stageAllSpec)

/-- 'thyrsuslaw10.StagePlain', WHERE WHAT IT READS IS OF BULK AT MOST 1048576: true; the input reads as it did. -/
def stagePlainUptoRow : OpenClaim := { program := "ytkfecngimlcfoaa", sum := "c272f23893a9401dfba56ea7f56eec4d545a7d046bb35c57bca678133ff1fcb2", func := "thyrsus/thyrsuslaw10.StagePlain", spec := "stagePlain", unfollowed := true, recurses := true, loops := true, apart := false, narrowed := true }
def StagePlainUptoSaid : Prop := stagePlainUptoRow.holds Try.pinned (OpenSpec.upto stagePlainSpec)

/-- 'thyrsuslaw10.StagePower', WHERE WHAT IT READS IS OF BULK AT MOST 1048576: true; the input reads as it did. -/
def stagePowerUptoRow : OpenClaim := { program := "ytkfecngimlcfoaa", sum := "c272f23893a9401dfba56ea7f56eec4d545a7d046bb35c57bca678133ff1fcb2", func := "thyrsus/thyrsuslaw10.StagePower", spec := "stagePower", unfollowed := true, recurses := true, apart := false, narrowed := true }
def StagePowerUptoSaid : Prop := stagePowerUptoRow.holds Try.pinned (OpenSpec.upto stagePowerSpec)

/-- 'thyrsuslaw10.StageTypes', WHERE WHAT IT READS IS OF BULK AT MOST 1048576: true; the input reads as it did. -/
def stageTypesUptoRow : OpenClaim := { program := "ytkfecngimlcfoaa", sum := "c272f23893a9401dfba56ea7f56eec4d545a7d046bb35c57bca678133ff1fcb2", func := "thyrsus/thyrsuslaw10.StageTypes", spec := "stageTypes", unfollowed := true, recurses := true, loops := true, apart := false, narrowed := true }
def StageTypesUptoSaid : Prop := stageTypesUptoRow.holds Try.pinned (OpenSpec.upto stageTypesSpec)

/-- 'thyrsuslaw10.StageKnown', WHERE WHAT IT READS IS OF BULK AT MOST 1048576: true; the input reads as it did. -/
def stageKnownUptoRow : OpenClaim := { program := "ytkfecngimlcfoaa", sum := "c272f23893a9401dfba56ea7f56eec4d545a7d046bb35c57bca678133ff1fcb2", func := "thyrsus/thyrsuslaw10.StageKnown", spec := "stageKnown", unfollowed := true, recurses := true, apart := false, narrowed := true }
def StageKnownUptoSaid : Prop := stageKnownUptoRow.holds Try.pinned (OpenSpec.upto stageKnownSpec)

/-- 'thyrsuslaw10.StageTwice', WHERE WHAT IT READS IS OF BULK AT MOST 1048576: true; the input reads as it did. -/
def stageTwiceUptoRow : OpenClaim := { program := "ytkfecngimlcfoaa", sum := "c272f23893a9401dfba56ea7f56eec4d545a7d046bb35c57bca678133ff1fcb2", func := "thyrsus/thyrsuslaw10.StageTwice", spec := "stageTwice", unfollowed := true, recurses := true, apart := false, narrowed := true }
def StageTwiceUptoSaid : Prop := stageTwiceUptoRow.holds Try.pinned (OpenSpec.upto stageTwiceSpec)

/-- 'thyrsuslaw10.StageWrap', WHERE WHAT IT READS IS OF BULK AT MOST 1048576: true; the input reads as it did. -/
def stageWrapUptoRow : OpenClaim := { program := "ytkfecngimlcfoaa", sum := "c272f23893a9401dfba56ea7f56eec4d545a7d046bb35c57bca678133ff1fcb2", func := "thyrsus/thyrsuslaw10.StageWrap", spec := "stageWrap", unfollowed := true, recurses := true, loops := true, apart := false, narrowed := true }
def StageWrapUptoSaid : Prop := stageWrapUptoRow.holds Try.pinned (OpenSpec.upto stageWrapSpec)

/-- 'thyrsuslaw10.StageLet', WHERE WHAT IT READS IS OF BULK AT MOST 1048576: true; the input reads as it did. -/
def stageLetUptoRow : OpenClaim := { program := "ytkfecngimlcfoaa", sum := "c272f23893a9401dfba56ea7f56eec4d545a7d046bb35c57bca678133ff1fcb2", func := "thyrsus/thyrsuslaw10.StageLet", spec := "stageLet", unfollowed := true, recurses := true, loops := true, apart := false, narrowed := true }
def StageLetUptoSaid : Prop := stageLetUptoRow.holds Try.pinned (OpenSpec.upto stageLetSpec)

end Rows
end Go.Proofs.Ytkfecngimlcfoaa

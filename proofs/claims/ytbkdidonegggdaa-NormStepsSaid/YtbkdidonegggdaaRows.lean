/-
  NARROWER THAN 'FOR EVERY INPUT', by the rows' own cells (each row's printed sentence says how): NormTerms: loops · NormAgain: loops · NormSteps: loops · NormParts: loops · NormShift: loops · NormSubst: loops · NormEta: loops.
  DERIVED. THE GIVEN ROWS OF THIS SEAT. 11 by the template 'for every input the law returns true; each argument reads behind the call as it read before'; 0 by the template 'total and deterministic' (their statements: YtbkdidonegggdaaTotals.lean).
  GIVEN WITH THE SEED: the statements are not yours to turn. If you find one false, say at which input.
  Laid BY PROGRAM, IN A SANDBOX (cutbox-rows.mjs): the forced cells as the released guide's own fill.sh prints them over the translation 7e5feaef775fa970… (all of the seat's roots in one cut). By AI agents, Wed Nov 11 2026. No macro, syntax, notation, axiom, sorry.
-/
import Derived.Test.YtbkdidonegggdaaChecked
import GoSem.Claim
import GoSem.ClaimJoined
import GoSem.ClaimMapViews
import Derived.JoinedTies
import Derived.KernelRfl
namespace Go.Proofs.Ytbkdidonegggdaa
/- THE CELL 'sum', in the pinned program and in every row, IS THE sha256 OF THE DUMP (.gsa) THAT YtbkdidonegggdaaProg.lean LOADS. Nothing in Lean hashes anything: it is a label: what it is worth is what the hold of that sum in a sandbox is worth. -/
noncomputable def Try.pinned : Pinned := { name := "ytbkdidonegggdaa", sum := "7e5feaef775fa9708bf5771717288fd9ba1dbe1d2d768148505656ccbe677368", checked := Try.checked }
namespace Rows
def none {H : Type} : Left H := { results := [], args := [] }

/-- 'thyrsuslaw5.NormTerms': WHATEVER THE INPUT: true; the input reads as it did. -/
def normTermsSpec : ChangeSpec := { name := "normTerms", fn := fun _ => fun
  | [d1, d2, d3, d4] => { results := [.lit (.bool true)], args := [d1, d2, d3, d4] }
  | _ => none }
def normTermsRow : OpenClaim := { program := "ytbkdidonegggdaa", sum := "7e5feaef775fa9708bf5771717288fd9ba1dbe1d2d768148505656ccbe677368", func := "thyrsus/thyrsuslaw5.NormTerms", spec := "normTerms", unfollowed := true, recurses := true, loops := true, apart := false }
def NormTermsSaid : Prop := normTermsRow.holds Try.pinned (OpenSpec.ofChange normTermsSpec)

/-- ITS FALSE NEIGHBOUR: 'it returns false'. Refute it at one input. -/
def normTermsWrong : ChangeSpec := { name := "normTerms", fn := fun _ => fun
  | [d1, d2, d3, d4] => { results := [.lit (.bool false)], args := [d1, d2, d3, d4] }
  | _ => none }
def NormTermsWrongFalsely : Prop := normTermsRow.holds Try.pinned (OpenSpec.ofChange normTermsWrong)

/-- 'thyrsuslaw5.NormAgain': WHATEVER THE INPUT: true; the input reads as it did. -/
def normAgainSpec : ChangeSpec := { name := "normAgain", fn := fun _ => fun
  | [d1, d2, d3, d4] => { results := [.lit (.bool true)], args := [d1, d2, d3, d4] }
  | _ => none }
def normAgainRow : OpenClaim := { program := "ytbkdidonegggdaa", sum := "7e5feaef775fa9708bf5771717288fd9ba1dbe1d2d768148505656ccbe677368", func := "thyrsus/thyrsuslaw5.NormAgain", spec := "normAgain", unfollowed := true, recurses := true, loops := true, apart := false }
def NormAgainSaid : Prop := normAgainRow.holds Try.pinned (OpenSpec.ofChange normAgainSpec)

/-- ITS FALSE NEIGHBOUR: 'it returns false'. Refute it at one input. -/
def normAgainWrong : ChangeSpec := { name := "normAgain", fn := fun _ => fun
  | [d1, d2, d3, d4] => { results := [.lit (.bool false)], args := [d1, d2, d3, d4] }
  | _ => none }
def NormAgainWrongFalsely : Prop := normAgainRow.holds Try.pinned (OpenSpec.ofChange normAgainWrong)

/-- 'thyrsuslaw5.NormSteps': WHATEVER THE INPUT: true; the input reads as it did. -/
def normStepsSpec : ChangeSpec := { name := "normSteps", fn := fun _ => fun
  | [d1, d2, d3, d4, d5] => { results := [.lit (.bool true)], args := [d1, d2, d3, d4, d5] }
  | _ => none }
def normStepsRow : OpenClaim := { program := "ytbkdidonegggdaa", sum := "7e5feaef775fa9708bf5771717288fd9ba1dbe1d2d768148505656ccbe677368", func := "thyrsus/thyrsuslaw5.NormSteps", spec := "normSteps", unfollowed := true, recurses := true, loops := true, apart := false }
def NormStepsSaid : Prop := normStepsRow.holds Try.pinned (OpenSpec.ofChange normStepsSpec)

/-- ITS FALSE NEIGHBOUR: 'it returns false'. Refute it at one input. -/
def normStepsWrong : ChangeSpec := { name := "normSteps", fn := fun _ => fun
  | [d1, d2, d3, d4, d5] => { results := [.lit (.bool false)], args := [d1, d2, d3, d4, d5] }
  | _ => none }
def NormStepsWrongFalsely : Prop := normStepsRow.holds Try.pinned (OpenSpec.ofChange normStepsWrong)

/-- 'thyrsuslaw5.NormDeep': WHATEVER THE INPUT: true; the input reads as it did. -/
def normDeepSpec : ChangeSpec := { name := "normDeep", fn := fun _ => fun
  | [d] => { results := [.lit (.bool true)], args := [d] }
  | _ => none }
def normDeepRow : OpenClaim := { program := "ytbkdidonegggdaa", sum := "7e5feaef775fa9708bf5771717288fd9ba1dbe1d2d768148505656ccbe677368", func := "thyrsus/thyrsuslaw5.NormDeep", spec := "normDeep", unfollowed := true, recurses := true, apart := false }
def NormDeepSaid : Prop := normDeepRow.holds Try.pinned (OpenSpec.ofChange normDeepSpec)

/-- ITS FALSE NEIGHBOUR: 'it returns false'. Refute it at one input. -/
def normDeepWrong : ChangeSpec := { name := "normDeep", fn := fun _ => fun
  | [d] => { results := [.lit (.bool false)], args := [d] }
  | _ => none }
def NormDeepWrongFalsely : Prop := normDeepRow.holds Try.pinned (OpenSpec.ofChange normDeepWrong)

/-- 'thyrsuslaw5.NormNumbers': WHATEVER THE INPUT: true; the input reads as it did. -/
def normNumbersSpec : ChangeSpec := { name := "normNumbers", fn := fun _ => fun
  | [d1, d2] => { results := [.lit (.bool true)], args := [d1, d2] }
  | _ => none }
def normNumbersRow : OpenClaim := { program := "ytbkdidonegggdaa", sum := "7e5feaef775fa9708bf5771717288fd9ba1dbe1d2d768148505656ccbe677368", func := "thyrsus/thyrsuslaw5.NormNumbers", spec := "normNumbers", unfollowed := true, recurses := true, apart := false }
def NormNumbersSaid : Prop := normNumbersRow.holds Try.pinned (OpenSpec.ofChange normNumbersSpec)

/-- ITS FALSE NEIGHBOUR: 'it returns false'. Refute it at one input. -/
def normNumbersWrong : ChangeSpec := { name := "normNumbers", fn := fun _ => fun
  | [d1, d2] => { results := [.lit (.bool false)], args := [d1, d2] }
  | _ => none }
def NormNumbersWrongFalsely : Prop := normNumbersRow.holds Try.pinned (OpenSpec.ofChange normNumbersWrong)

/-- 'thyrsuslaw5.NormStuck': WHATEVER THE INPUT: true; the input reads as it did. -/
def normStuckSpec : ChangeSpec := { name := "normStuck", fn := fun _ => fun
  | [d1, d2, d3] => { results := [.lit (.bool true)], args := [d1, d2, d3] }
  | _ => none }
def normStuckRow : OpenClaim := { program := "ytbkdidonegggdaa", sum := "7e5feaef775fa9708bf5771717288fd9ba1dbe1d2d768148505656ccbe677368", func := "thyrsus/thyrsuslaw5.NormStuck", spec := "normStuck", unfollowed := true, recurses := true, apart := false }
def NormStuckSaid : Prop := normStuckRow.holds Try.pinned (OpenSpec.ofChange normStuckSpec)

/-- ITS FALSE NEIGHBOUR: 'it returns false'. Refute it at one input. -/
def normStuckWrong : ChangeSpec := { name := "normStuck", fn := fun _ => fun
  | [d1, d2, d3] => { results := [.lit (.bool false)], args := [d1, d2, d3] }
  | _ => none }
def NormStuckWrongFalsely : Prop := normStuckRow.holds Try.pinned (OpenSpec.ofChange normStuckWrong)

/-- 'thyrsuslaw5.NormKnown': WHATEVER THE INPUT: true; the input reads as it did. -/
def normKnownSpec : ChangeSpec := { name := "normKnown", fn := fun _ => fun
  | [d] => { results := [.lit (.bool true)], args := [d] }
  | _ => none }
def normKnownRow : OpenClaim := { program := "ytbkdidonegggdaa", sum := "7e5feaef775fa9708bf5771717288fd9ba1dbe1d2d768148505656ccbe677368", func := "thyrsus/thyrsuslaw5.NormKnown", spec := "normKnown", unfollowed := true, recurses := true, apart := false }
def NormKnownSaid : Prop := normKnownRow.holds Try.pinned (OpenSpec.ofChange normKnownSpec)

/-- ITS FALSE NEIGHBOUR: 'it returns false'. Refute it at one input. -/
def normKnownWrong : ChangeSpec := { name := "normKnown", fn := fun _ => fun
  | [d] => { results := [.lit (.bool false)], args := [d] }
  | _ => none }
def NormKnownWrongFalsely : Prop := normKnownRow.holds Try.pinned (OpenSpec.ofChange normKnownWrong)

/-- 'thyrsuslaw5.NormParts': WHATEVER THE INPUT: true; the input reads as it did. -/
def normPartsSpec : ChangeSpec := { name := "normParts", fn := fun _ => fun
  | [d1, d2, d3, d4] => { results := [.lit (.bool true)], args := [d1, d2, d3, d4] }
  | _ => none }
def normPartsRow : OpenClaim := { program := "ytbkdidonegggdaa", sum := "7e5feaef775fa9708bf5771717288fd9ba1dbe1d2d768148505656ccbe677368", func := "thyrsus/thyrsuslaw5.NormParts", spec := "normParts", unfollowed := true, recurses := true, loops := true, apart := false }
def NormPartsSaid : Prop := normPartsRow.holds Try.pinned (OpenSpec.ofChange normPartsSpec)

/-- ITS FALSE NEIGHBOUR: 'it returns false'. Refute it at one input. -/
def normPartsWrong : ChangeSpec := { name := "normParts", fn := fun _ => fun
  | [d1, d2, d3, d4] => { results := [.lit (.bool false)], args := [d1, d2, d3, d4] }
  | _ => none }
def NormPartsWrongFalsely : Prop := normPartsRow.holds Try.pinned (OpenSpec.ofChange normPartsWrong)

/-- 'thyrsuslaw5.NormShift': WHATEVER THE INPUT: true; the input reads as it did. -/
def normShiftSpec : ChangeSpec := { name := "normShift", fn := fun _ => fun
  | [d1, d2, d3, d4, d5] => { results := [.lit (.bool true)], args := [d1, d2, d3, d4, d5] }
  | _ => none }
def normShiftRow : OpenClaim := { program := "ytbkdidonegggdaa", sum := "7e5feaef775fa9708bf5771717288fd9ba1dbe1d2d768148505656ccbe677368", func := "thyrsus/thyrsuslaw5.NormShift", spec := "normShift", unfollowed := true, recurses := true, loops := true, apart := false }
def NormShiftSaid : Prop := normShiftRow.holds Try.pinned (OpenSpec.ofChange normShiftSpec)

/-- ITS FALSE NEIGHBOUR: 'it returns false'. Refute it at one input. -/
def normShiftWrong : ChangeSpec := { name := "normShift", fn := fun _ => fun
  | [d1, d2, d3, d4, d5] => { results := [.lit (.bool false)], args := [d1, d2, d3, d4, d5] }
  | _ => none }
def NormShiftWrongFalsely : Prop := normShiftRow.holds Try.pinned (OpenSpec.ofChange normShiftWrong)

/-- 'thyrsuslaw5.NormSubst': WHATEVER THE INPUT: true; the input reads as it did. -/
def normSubstSpec : ChangeSpec := { name := "normSubst", fn := fun _ => fun
  | [d1, d2, d3, d4] => { results := [.lit (.bool true)], args := [d1, d2, d3, d4] }
  | _ => none }
def normSubstRow : OpenClaim := { program := "ytbkdidonegggdaa", sum := "7e5feaef775fa9708bf5771717288fd9ba1dbe1d2d768148505656ccbe677368", func := "thyrsus/thyrsuslaw5.NormSubst", spec := "normSubst", unfollowed := true, recurses := true, loops := true, apart := false }
def NormSubstSaid : Prop := normSubstRow.holds Try.pinned (OpenSpec.ofChange normSubstSpec)

/-- ITS FALSE NEIGHBOUR: 'it returns false'. Refute it at one input. -/
def normSubstWrong : ChangeSpec := { name := "normSubst", fn := fun _ => fun
  | [d1, d2, d3, d4] => { results := [.lit (.bool false)], args := [d1, d2, d3, d4] }
  | _ => none }
def NormSubstWrongFalsely : Prop := normSubstRow.holds Try.pinned (OpenSpec.ofChange normSubstWrong)

/-- 'thyrsuslaw5.NormEta': WHATEVER THE INPUT: true; the input reads as it did. -/
def normEtaSpec : ChangeSpec := { name := "normEta", fn := fun _ => fun
  | [d1, d2, d3] => { results := [.lit (.bool true)], args := [d1, d2, d3] }
  | _ => none }
def normEtaRow : OpenClaim := { program := "ytbkdidonegggdaa", sum := "7e5feaef775fa9708bf5771717288fd9ba1dbe1d2d768148505656ccbe677368", func := "thyrsus/thyrsuslaw5.NormEta", spec := "normEta", unfollowed := true, recurses := true, loops := true, apart := false }
def NormEtaSaid : Prop := normEtaRow.holds Try.pinned (OpenSpec.ofChange normEtaSpec)

/-- ITS FALSE NEIGHBOUR: 'it returns false'. Refute it at one input. -/
def normEtaWrong : ChangeSpec := { name := "normEta", fn := fun _ => fun
  | [d1, d2, d3] => { results := [.lit (.bool false)], args := [d1, d2, d3] }
  | _ => none }
def NormEtaWrongFalsely : Prop := normEtaRow.holds Try.pinned (OpenSpec.ofChange normEtaWrong)

/- THE SECOND FORM. 'bulk': how many values and letters a reading holds, each counted each time it is reached (what is shared counts as often as it is met; a slice's spare places count too). A statement '..UptoSaid' is the law's where the arguments, and the package variables that the reading takes, are together of bulk at most 1048576: NARROWER than '..Said'. Prove '..Said' where nothing that the law and all that it calls make is longer than what came in: it says more and counts as full. Else prove '..UptoSaid'. A law counts once. -/
mutual
def uptoBulk {H : Type} : DataW H → Nat
  | .lit (.string bytes) => bytes.length + 1
  | .lit _ => 1
  | .nil => 1
  | .ptr d => uptoBulk d + 1
  | .slice elems spare => uptoBulkAll elems + uptoBulkAll spare + 1
  | .agg parts => uptoBulkAll parts + 1
  | .iface _ d => uptoBulk d + 1
  | .map entries => uptoBulkEntries entries + 1
  | .held _ => 1
def uptoBulkAll {H : Type} : List (DataW H) → Nat
  | [] => 0
  | d :: r => uptoBulk d + uptoBulkAll r
def uptoBulkEntries {H : Type} : List (Lit × DataW H) → Nat
  | [] => 0
  | x :: r => uptoBulkEntry x + uptoBulkEntries r
def uptoBulkEntry {H : Type} : Lit × DataW H → Nat
  | (.string bytes, d) => bytes.length + uptoBulk d + 1
  | (_, d) => uptoBulk d + 1
 end
def uptoSmall : (H : Type) → List (DataW H) → Bool := fun _ ds => decide (uptoBulkAll ds ≤ 1048576)
def OpenSpec.upto (s : _root_.Go.ChangeSpec) : _root_.Go.OpenSpec := { _root_.Go.OpenSpec.ofChange s with cond := some uptoSmall }

/-- 'thyrsuslaw5.NormTerms', WHERE WHAT IT READS IS OF BULK AT MOST 1048576: true; the input reads as it did. -/
def normTermsUptoRow : OpenClaim := { program := "ytbkdidonegggdaa", sum := "7e5feaef775fa9708bf5771717288fd9ba1dbe1d2d768148505656ccbe677368", func := "thyrsus/thyrsuslaw5.NormTerms", spec := "normTerms", unfollowed := true, recurses := true, loops := true, apart := false, narrowed := true }
def NormTermsUptoSaid : Prop := normTermsUptoRow.holds Try.pinned (OpenSpec.upto normTermsSpec)

/-- 'thyrsuslaw5.NormAgain', WHERE WHAT IT READS IS OF BULK AT MOST 1048576: true; the input reads as it did. -/
def normAgainUptoRow : OpenClaim := { program := "ytbkdidonegggdaa", sum := "7e5feaef775fa9708bf5771717288fd9ba1dbe1d2d768148505656ccbe677368", func := "thyrsus/thyrsuslaw5.NormAgain", spec := "normAgain", unfollowed := true, recurses := true, loops := true, apart := false, narrowed := true }
def NormAgainUptoSaid : Prop := normAgainUptoRow.holds Try.pinned (OpenSpec.upto normAgainSpec)

/-- 'thyrsuslaw5.NormSteps', WHERE WHAT IT READS IS OF BULK AT MOST 1048576: true; the input reads as it did. -/
def normStepsUptoRow : OpenClaim := { program := "ytbkdidonegggdaa", sum := "7e5feaef775fa9708bf5771717288fd9ba1dbe1d2d768148505656ccbe677368", func := "thyrsus/thyrsuslaw5.NormSteps", spec := "normSteps", unfollowed := true, recurses := true, loops := true, apart := false, narrowed := true }
def NormStepsUptoSaid : Prop := normStepsUptoRow.holds Try.pinned (OpenSpec.upto normStepsSpec)

/-- 'thyrsuslaw5.NormDeep', WHERE WHAT IT READS IS OF BULK AT MOST 1048576: true; the input reads as it did. -/
def normDeepUptoRow : OpenClaim := { program := "ytbkdidonegggdaa", sum := "7e5feaef775fa9708bf5771717288fd9ba1dbe1d2d768148505656ccbe677368", func := "thyrsus/thyrsuslaw5.NormDeep", spec := "normDeep", unfollowed := true, recurses := true, apart := false, narrowed := true }
def NormDeepUptoSaid : Prop := normDeepUptoRow.holds Try.pinned (OpenSpec.upto normDeepSpec)

/-- 'thyrsuslaw5.NormNumbers', WHERE WHAT IT READS IS OF BULK AT MOST 1048576: true; the input reads as it did. -/
def normNumbersUptoRow : OpenClaim := { program := "ytbkdidonegggdaa", sum := "7e5feaef775fa9708bf5771717288fd9ba1dbe1d2d768148505656ccbe677368", func := "thyrsus/thyrsuslaw5.NormNumbers", spec := "normNumbers", unfollowed := true, recurses := true, apart := false, narrowed := true }
def NormNumbersUptoSaid : Prop := normNumbersUptoRow.holds Try.pinned (OpenSpec.upto normNumbersSpec)

/-- 'thyrsuslaw5.NormStuck', WHERE WHAT IT READS IS OF BULK AT MOST 1048576: true; the input reads as it did. -/
def normStuckUptoRow : OpenClaim := { program := "ytbkdidonegggdaa", sum := "7e5feaef775fa9708bf5771717288fd9ba1dbe1d2d768148505656ccbe677368", func := "thyrsus/thyrsuslaw5.NormStuck", spec := "normStuck", unfollowed := true, recurses := true, apart := false, narrowed := true }
def NormStuckUptoSaid : Prop := normStuckUptoRow.holds Try.pinned (OpenSpec.upto normStuckSpec)

/-- 'thyrsuslaw5.NormKnown', WHERE WHAT IT READS IS OF BULK AT MOST 1048576: true; the input reads as it did. -/
def normKnownUptoRow : OpenClaim := { program := "ytbkdidonegggdaa", sum := "7e5feaef775fa9708bf5771717288fd9ba1dbe1d2d768148505656ccbe677368", func := "thyrsus/thyrsuslaw5.NormKnown", spec := "normKnown", unfollowed := true, recurses := true, apart := false, narrowed := true }
def NormKnownUptoSaid : Prop := normKnownUptoRow.holds Try.pinned (OpenSpec.upto normKnownSpec)

/-- 'thyrsuslaw5.NormParts', WHERE WHAT IT READS IS OF BULK AT MOST 1048576: true; the input reads as it did. -/
def normPartsUptoRow : OpenClaim := { program := "ytbkdidonegggdaa", sum := "7e5feaef775fa9708bf5771717288fd9ba1dbe1d2d768148505656ccbe677368", func := "thyrsus/thyrsuslaw5.NormParts", spec := "normParts", unfollowed := true, recurses := true, loops := true, apart := false, narrowed := true }
def NormPartsUptoSaid : Prop := normPartsUptoRow.holds Try.pinned (OpenSpec.upto normPartsSpec)

/-- 'thyrsuslaw5.NormShift', WHERE WHAT IT READS IS OF BULK AT MOST 1048576: true; the input reads as it did. -/
def normShiftUptoRow : OpenClaim := { program := "ytbkdidonegggdaa", sum := "7e5feaef775fa9708bf5771717288fd9ba1dbe1d2d768148505656ccbe677368", func := "thyrsus/thyrsuslaw5.NormShift", spec := "normShift", unfollowed := true, recurses := true, loops := true, apart := false, narrowed := true }
def NormShiftUptoSaid : Prop := normShiftUptoRow.holds Try.pinned (OpenSpec.upto normShiftSpec)

/-- 'thyrsuslaw5.NormSubst', WHERE WHAT IT READS IS OF BULK AT MOST 1048576: true; the input reads as it did. -/
def normSubstUptoRow : OpenClaim := { program := "ytbkdidonegggdaa", sum := "7e5feaef775fa9708bf5771717288fd9ba1dbe1d2d768148505656ccbe677368", func := "thyrsus/thyrsuslaw5.NormSubst", spec := "normSubst", unfollowed := true, recurses := true, loops := true, apart := false, narrowed := true }
def NormSubstUptoSaid : Prop := normSubstUptoRow.holds Try.pinned (OpenSpec.upto normSubstSpec)

/-- 'thyrsuslaw5.NormEta', WHERE WHAT IT READS IS OF BULK AT MOST 1048576: true; the input reads as it did. -/
def normEtaUptoRow : OpenClaim := { program := "ytbkdidonegggdaa", sum := "7e5feaef775fa9708bf5771717288fd9ba1dbe1d2d768148505656ccbe677368", func := "thyrsus/thyrsuslaw5.NormEta", spec := "normEta", unfollowed := true, recurses := true, loops := true, apart := false, narrowed := true }
def NormEtaUptoSaid : Prop := normEtaUptoRow.holds Try.pinned (OpenSpec.upto normEtaSpec)

end Rows
end Go.Proofs.Ytbkdidonegggdaa

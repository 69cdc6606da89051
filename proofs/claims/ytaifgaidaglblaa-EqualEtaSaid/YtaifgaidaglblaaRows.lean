/-
  NARROWER THAN 'FOR EVERY INPUT', by the rows' own cells (each row's printed sentence says how): EqualAll: loops · EqualParts: loops · EqualEta: loops · EqualThree: loops.
  DERIVED. THE GIVEN ROWS OF THIS SEAT. 7 by the template 'for every input the law returns true; each argument reads behind the call as it read before'; 0 by the template 'total and deterministic' (their statements: YtaifgaidaglblaaTotals.lean).
  GIVEN WITH THE SEED: the statements are not yours to turn. If you find one false, say at which input.
  Laid BY PROGRAM, IN A SANDBOX (cutbox-rows.mjs): the forced cells as the released guide's own fill.sh prints them over the translation 773e47f468228604… (all of the seat's roots in one cut). By AI agents, Wed Nov 11 2026. No macro, syntax, notation, axiom, sorry.
-/
import Derived.Test.YtaifgaidaglblaaChecked
import GoSem.Claim
import GoSem.ClaimJoined
import GoSem.ClaimMapViews
import Derived.JoinedTies
import Derived.KernelRfl
namespace Go.Proofs.Ytaifgaidaglblaa
/- THE CELL 'sum', in the pinned program and in every row, IS THE sha256 OF THE DUMP (.gsa) THAT YtaifgaidaglblaaProg.lean LOADS. Nothing in Lean hashes anything: it is a label: what it is worth is what the hold of that sum in a sandbox is worth. -/
noncomputable def Try.pinned : Pinned := { name := "ytaifgaidaglblaa", sum := "773e47f4682286042fdd3c2f84582903f5498f9ccfc5313c8ff46e0c41f25850", checked := Try.checked }
namespace Rows
def none {H : Type} : Left H := { results := [], args := [] }

/-- 'thyrsuslaw6.EqualAll': WHATEVER THE INPUT: true; the input reads as it did. -/
def equalAllSpec : ChangeSpec := { name := "equalAll", fn := fun _ => fun
  | [d1, d2, d3, d4, d5] => { results := [.lit (.bool true)], args := [d1, d2, d3, d4, d5] }
  | _ => none }
def equalAllRow : OpenClaim := { program := "ytaifgaidaglblaa", sum := "773e47f4682286042fdd3c2f84582903f5498f9ccfc5313c8ff46e0c41f25850", func := "thyrsus/thyrsuslaw6.EqualAll", spec := "equalAll", unfollowed := true, recurses := true, loops := true, apart := false }
def EqualAllSaid : Prop := equalAllRow.holds Try.pinned (OpenSpec.ofChange equalAllSpec)

/-- ITS FALSE NEIGHBOUR: 'it returns false'. Refute it at one input. -/
def equalAllWrong : ChangeSpec := { name := "equalAll", fn := fun _ => fun
  | [d1, d2, d3, d4, d5] => { results := [.lit (.bool false)], args := [d1, d2, d3, d4, d5] }
  | _ => none }
def EqualAllWrongFalsely : Prop := equalAllRow.holds Try.pinned (OpenSpec.ofChange equalAllWrong)

/-- 'thyrsuslaw6.EqualParts': WHATEVER THE INPUT: true; the input reads as it did. -/
def equalPartsSpec : ChangeSpec := { name := "equalParts", fn := fun _ => fun
  | [d1, d2, d3, d4] => { results := [.lit (.bool true)], args := [d1, d2, d3, d4] }
  | _ => none }
def equalPartsRow : OpenClaim := { program := "ytaifgaidaglblaa", sum := "773e47f4682286042fdd3c2f84582903f5498f9ccfc5313c8ff46e0c41f25850", func := "thyrsus/thyrsuslaw6.EqualParts", spec := "equalParts", unfollowed := true, recurses := true, loops := true, apart := false }
def EqualPartsSaid : Prop := equalPartsRow.holds Try.pinned (OpenSpec.ofChange equalPartsSpec)

/-- ITS FALSE NEIGHBOUR: 'it returns false'. Refute it at one input. -/
def equalPartsWrong : ChangeSpec := { name := "equalParts", fn := fun _ => fun
  | [d1, d2, d3, d4] => { results := [.lit (.bool false)], args := [d1, d2, d3, d4] }
  | _ => none }
def EqualPartsWrongFalsely : Prop := equalPartsRow.holds Try.pinned (OpenSpec.ofChange equalPartsWrong)

/-- 'thyrsuslaw6.EqualEta': WHATEVER THE INPUT: true; the input reads as it did. -/
def equalEtaSpec : ChangeSpec := { name := "equalEta", fn := fun _ => fun
  | [d1, d2, d3, d4] => { results := [.lit (.bool true)], args := [d1, d2, d3, d4] }
  | _ => none }
def equalEtaRow : OpenClaim := { program := "ytaifgaidaglblaa", sum := "773e47f4682286042fdd3c2f84582903f5498f9ccfc5313c8ff46e0c41f25850", func := "thyrsus/thyrsuslaw6.EqualEta", spec := "equalEta", unfollowed := true, recurses := true, loops := true, apart := false }
def EqualEtaSaid : Prop := equalEtaRow.holds Try.pinned (OpenSpec.ofChange equalEtaSpec)

/-- ITS FALSE NEIGHBOUR: 'it returns false'. Refute it at one input. -/
def equalEtaWrong : ChangeSpec := { name := "equalEta", fn := fun _ => fun
  | [d1, d2, d3, d4] => { results := [.lit (.bool false)], args := [d1, d2, d3, d4] }
  | _ => none }
def EqualEtaWrongFalsely : Prop := equalEtaRow.holds Try.pinned (OpenSpec.ofChange equalEtaWrong)

/-- 'thyrsuslaw6.EqualSums': WHATEVER THE INPUT: true; the input reads as it did. -/
def equalSumsSpec : ChangeSpec := { name := "equalSums", fn := fun _ => fun
  | [d1, d2, d3] => { results := [.lit (.bool true)], args := [d1, d2, d3] }
  | _ => none }
def equalSumsRow : OpenClaim := { program := "ytaifgaidaglblaa", sum := "773e47f4682286042fdd3c2f84582903f5498f9ccfc5313c8ff46e0c41f25850", func := "thyrsus/thyrsuslaw6.EqualSums", spec := "equalSums", unfollowed := true, recurses := true, apart := false }
def EqualSumsSaid : Prop := equalSumsRow.holds Try.pinned (OpenSpec.ofChange equalSumsSpec)

/-- ITS FALSE NEIGHBOUR: 'it returns false'. Refute it at one input. -/
def equalSumsWrong : ChangeSpec := { name := "equalSums", fn := fun _ => fun
  | [d1, d2, d3] => { results := [.lit (.bool false)], args := [d1, d2, d3] }
  | _ => none }
def EqualSumsWrongFalsely : Prop := equalSumsRow.holds Try.pinned (OpenSpec.ofChange equalSumsWrong)

/-- 'thyrsuslaw6.EqualThree': WHATEVER THE INPUT: true; the input reads as it did. -/
def equalThreeSpec : ChangeSpec := { name := "equalThree", fn := fun _ => fun
  | [d1, d2, d3, d4, d5] => { results := [.lit (.bool true)], args := [d1, d2, d3, d4, d5] }
  | _ => none }
def equalThreeRow : OpenClaim := { program := "ytaifgaidaglblaa", sum := "773e47f4682286042fdd3c2f84582903f5498f9ccfc5313c8ff46e0c41f25850", func := "thyrsus/thyrsuslaw6.EqualThree", spec := "equalThree", unfollowed := true, recurses := true, loops := true, apart := false }
def EqualThreeSaid : Prop := equalThreeRow.holds Try.pinned (OpenSpec.ofChange equalThreeSpec)

/-- ITS FALSE NEIGHBOUR: 'it returns false'. Refute it at one input. -/
def equalThreeWrong : ChangeSpec := { name := "equalThree", fn := fun _ => fun
  | [d1, d2, d3, d4, d5] => { results := [.lit (.bool false)], args := [d1, d2, d3, d4, d5] }
  | _ => none }
def EqualThreeWrongFalsely : Prop := equalThreeRow.holds Try.pinned (OpenSpec.ofChange equalThreeWrong)

/-- 'thyrsuslaw6.EqualDeep': WHATEVER THE INPUT: true; the input reads as it did. -/
def equalDeepSpec : ChangeSpec := { name := "equalDeep", fn := fun _ => fun
  | [d1, d2] => { results := [.lit (.bool true)], args := [d1, d2] }
  | _ => none }
def equalDeepRow : OpenClaim := { program := "ytaifgaidaglblaa", sum := "773e47f4682286042fdd3c2f84582903f5498f9ccfc5313c8ff46e0c41f25850", func := "thyrsus/thyrsuslaw6.EqualDeep", spec := "equalDeep", unfollowed := true, recurses := true, apart := false }
def EqualDeepSaid : Prop := equalDeepRow.holds Try.pinned (OpenSpec.ofChange equalDeepSpec)

/-- ITS FALSE NEIGHBOUR: 'it returns false'. Refute it at one input. -/
def equalDeepWrong : ChangeSpec := { name := "equalDeep", fn := fun _ => fun
  | [d1, d2] => { results := [.lit (.bool false)], args := [d1, d2] }
  | _ => none }
def EqualDeepWrongFalsely : Prop := equalDeepRow.holds Try.pinned (OpenSpec.ofChange equalDeepWrong)

/-- 'thyrsuslaw6.EqualNot': WHATEVER THE INPUT: true; the input reads as it did. -/
def equalNotSpec : ChangeSpec := { name := "equalNot", fn := fun _ => fun
  | [d] => { results := [.lit (.bool true)], args := [d] }
  | _ => none }
def equalNotRow : OpenClaim := { program := "ytaifgaidaglblaa", sum := "773e47f4682286042fdd3c2f84582903f5498f9ccfc5313c8ff46e0c41f25850", func := "thyrsus/thyrsuslaw6.EqualNot", spec := "equalNot", unfollowed := true, recurses := true, apart := false }
def EqualNotSaid : Prop := equalNotRow.holds Try.pinned (OpenSpec.ofChange equalNotSpec)

/-- ITS FALSE NEIGHBOUR: 'it returns false'. Refute it at one input. -/
def equalNotWrong : ChangeSpec := { name := "equalNot", fn := fun _ => fun
  | [d] => { results := [.lit (.bool false)], args := [d] }
  | _ => none }
def EqualNotWrongFalsely : Prop := equalNotRow.holds Try.pinned (OpenSpec.ofChange equalNotWrong)

/- THE SECOND FORM. 'bulk': how many values and letters a reading holds, each counted each time it is reached (what is shared counts as often as it is met; a slice's spare places count too). A statement '..UptoSaid' is the law's where the arguments, and the package variables that the reading takes, are together of bulk at most 1048576: NARROWER than '..Said'. Prove '..Said' where nothing that the law and all that it calls make is longer than what came in: it says more and counts as full. Else prove '..UptoSaid'. A law counts once. -/
mutual
def uptoBulk {H : Type} : DataW H → Nat
  | .lit (.string bytes) => bytes.length + 1
  | .lit _ => 1
  | .nil => 1
  | .ptr d => uptoBulk d + 1
  | .slice elems spare => uptoBulkAll elems + uptoBulkAll spare + 1
  | .agg parts => uptoBulkAll parts + 1
  | .iface _ d => uptoBulk d + 1
  | .map entries => uptoBulkEntries entries + 1
  | .held _ => 1
def uptoBulkAll {H : Type} : List (DataW H) → Nat
  | [] => 0
  | d :: r => uptoBulk d + uptoBulkAll r
def uptoBulkEntries {H : Type} : List (Lit × DataW H) → Nat
  | [] => 0
  | x :: r => uptoBulkEntry x + uptoBulkEntries r
def uptoBulkEntry {H : Type} : Lit × DataW H → Nat
  | (.string bytes, d) => bytes.length + uptoBulk d + 1
  | (_, d) => uptoBulk d + 1
 end
def uptoSmall : (H : Type) → List (DataW H) → Bool := fun _ ds => decide (uptoBulkAll ds ≤ 1048576)
def OpenSpec.upto (s : _root_.Go.ChangeSpec) : _root_.Go.OpenSpec := { _root_.Go.OpenSpec.ofChange s with cond := some uptoSmall }

/-- 'thyrsuslaw6.EqualAll', WHERE WHAT IT READS IS OF BULK AT MOST 1048576: true; the input reads as it did. -/
def equalAllUptoRow : OpenClaim := { program := "ytaifgaidaglblaa", sum := "773e47f4682286042fdd3c2f84582903f5498f9ccfc5313c8ff46e0c41f25850", func := "thyrsus/thyrsuslaw6.EqualAll", spec := "equalAll", unfollowed := true, recurses := true, loops := true, apart := false, narrowed := true }
def EqualAllUptoSaid : Prop := equalAllUptoRow.holds Try.pinned (OpenSpec.upto equalAllSpec)

/-- 'thyrsuslaw6.EqualParts', WHERE WHAT IT READS IS OF BULK AT MOST 1048576: true; the input reads as it did. -/
def equalPartsUptoRow : OpenClaim := { program := "ytaifgaidaglblaa", sum := "773e47f4682286042fdd3c2f84582903f5498f9ccfc5313c8ff46e0c41f25850", func := "thyrsus/thyrsuslaw6.EqualParts", spec := "equalParts", unfollowed := true, recurses := true, loops := true, apart := false, narrowed := true }
def EqualPartsUptoSaid : Prop := equalPartsUptoRow.holds Try.pinned (OpenSpec.upto equalPartsSpec)

/-- 'thyrsuslaw6.EqualEta', WHERE WHAT IT READS IS OF BULK AT MOST 1048576: true; the input reads as it did. -/
def equalEtaUptoRow : OpenClaim := { program := "ytaifgaidaglblaa", sum := "773e47f4682286042fdd3c2f84582903f5498f9ccfc5313c8ff46e0c41f25850", func := "thyrsus/thyrsuslaw6.EqualEta", spec := "equalEta", unfollowed := true, recurses := true, loops := true, apart := false, narrowed := true }
def EqualEtaUptoSaid : Prop := equalEtaUptoRow.holds Try.pinned (OpenSpec.upto equalEtaSpec)

/-- 'thyrsuslaw6.EqualSums', WHERE WHAT IT READS IS OF BULK AT MOST 1048576: true; the input reads as it did. -/
def equalSumsUptoRow : OpenClaim := { program := "ytaifgaidaglblaa", sum := "773e47f4682286042fdd3c2f84582903f5498f9ccfc5313c8ff46e0c41f25850", func := "thyrsus/thyrsuslaw6.EqualSums", spec := "equalSums", unfollowed := true, recurses := true, apart := false, narrowed := true }
def EqualSumsUptoSaid : Prop := equalSumsUptoRow.holds Try.pinned (OpenSpec.upto equalSumsSpec)

/-- 'thyrsuslaw6.EqualThree', WHERE WHAT IT READS IS OF BULK AT MOST 1048576: true; the input reads as it did. -/
def equalThreeUptoRow : OpenClaim := { program := "ytaifgaidaglblaa", sum := "773e47f4682286042fdd3c2f84582903f5498f9ccfc5313c8ff46e0c41f25850", func := "thyrsus/thyrsuslaw6.EqualThree", spec := "equalThree", unfollowed := true, recurses := true, loops := true, apart := false, narrowed := true }
def EqualThreeUptoSaid : Prop := equalThreeUptoRow.holds Try.pinned (OpenSpec.upto equalThreeSpec)

/-- 'thyrsuslaw6.EqualDeep', WHERE WHAT IT READS IS OF BULK AT MOST 1048576: true; the input reads as it did. -/
def equalDeepUptoRow : OpenClaim := { program := "ytaifgaidaglblaa", sum := "773e47f4682286042fdd3c2f84582903f5498f9ccfc5313c8ff46e0c41f25850", func := "thyrsus/thyrsuslaw6.EqualDeep", spec := "equalDeep", unfollowed := true, recurses := true, apart := false, narrowed := true }
def EqualDeepUptoSaid : Prop := equalDeepUptoRow.holds Try.pinned (OpenSpec.upto equalDeepSpec)

/-- 'thyrsuslaw6.EqualNot', WHERE WHAT IT READS IS OF BULK AT MOST 1048576: true; the input reads as it did. -/
def equalNotUptoRow : OpenClaim := { program := "ytaifgaidaglblaa", sum := "773e47f4682286042fdd3c2f84582903f5498f9ccfc5313c8ff46e0c41f25850", func := "thyrsus/thyrsuslaw6.EqualNot", spec := "equalNot", unfollowed := true, recurses := true, apart := false, narrowed := true }
def EqualNotUptoSaid : Prop := equalNotUptoRow.holds Try.pinned (OpenSpec.upto equalNotSpec)

end Rows
end Go.Proofs.Ytaifgaidaglblaa

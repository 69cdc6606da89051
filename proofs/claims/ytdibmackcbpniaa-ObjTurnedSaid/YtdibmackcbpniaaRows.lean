/-
  NARROWER THAN 'FOR EVERY INPUT', by the rows' own cells (each row's printed sentence says how): ObjInfers: loops · ObjTurned: loops · ObjMore: loops · ObjTypes: loops · ObjFits: loops · ObjValues: loops.
  DERIVED. THE GIVEN ROWS OF THIS SEAT. 8 by the template 'for every input the law returns true; each argument reads behind the call as it read before'; 0 by the template 'total and deterministic' (their statements: YtdibmackcbpniaaTotals.lean).
  GIVEN WITH THE SEED: the statements are not yours to turn. If you find one false, say at which input.
  Laid BY PROGRAM, IN A SANDBOX (cutbox-rows.mjs): the forced cells as the released guide's own fill.sh prints them over the translation 4c1357d968191357… (all of the seat's roots in one cut). By AI agents, Wed Nov 11 2026. No macro, syntax, notation, axiom, sorry.
-/
import Derived.Test.YtdibmackcbpniaaChecked
import GoSem.Claim
import GoSem.ClaimJoined
import GoSem.ClaimMapViews
import Derived.JoinedTies
import Derived.KernelRfl
namespace Go.Proofs.Ytdibmackcbpniaa
/- THE CELL 'sum', in the pinned program and in every row, IS THE sha256 OF THE DUMP (.gsa) THAT YtdibmackcbpniaaProg.lean LOADS. Nothing in Lean hashes anything: it is a label: what it is worth is what the hold of that sum in a sandbox is worth. -/
noncomputable def Try.pinned : Pinned := { name := "ytdibmackcbpniaa", sum := "4c1357d968191357d66fa4dfe1c45c3c9b9cd714cf028af5e6dead03df95c93a", checked := Try.checked }
namespace Rows
def none {H : Type} : Left H := { results := [], args := [] }

/-- 'thyrsuslaw11.ObjInfers': WHATEVER THE INPUT: true; the input reads as it did. -/
def objInfersSpec : ChangeSpec := { name := "objInfers", fn := fun _ => fun
  | [d1, d2, d3, d4] => { results := [.lit (.bool true)], args := [d1, d2, d3, d4] }
  | _ => none }
def objInfersRow : OpenClaim := { program := "ytdibmackcbpniaa", sum := "4c1357d968191357d66fa4dfe1c45c3c9b9cd714cf028af5e6dead03df95c93a", func := "thyrsus/thyrsuslaw11.ObjInfers", spec := "objInfers", unfollowed := true, recurses := true, loops := true, apart := false }
def ObjInfersSaid : Prop := objInfersRow.holds Try.pinned (OpenSpec.ofChange objInfersSpec)

/-- ITS FALSE NEIGHBOUR: 'it returns false'. Refute it at one input. -/
def objInfersWrong : ChangeSpec := { name := "objInfers", fn := fun _ => fun
  | [d1, d2, d3, d4] => { results := [.lit (.bool false)], args := [d1, d2, d3, d4] }
  | _ => none }
def ObjInfersWrongFalsely : Prop := objInfersRow.holds Try.pinned (OpenSpec.ofChange objInfersWrong)

/-- 'thyrsuslaw11.ObjTurned': WHATEVER THE INPUT: true; the input reads as it did. -/
def objTurnedSpec : ChangeSpec := { name := "objTurned", fn := fun _ => fun
  | [d1, d2, d3, d4] => { results := [.lit (.bool true)], args := [d1, d2, d3, d4] }
  | _ => none }
def objTurnedRow : OpenClaim := { program := "ytdibmackcbpniaa", sum := "4c1357d968191357d66fa4dfe1c45c3c9b9cd714cf028af5e6dead03df95c93a", func := "thyrsus/thyrsuslaw11.ObjTurned", spec := "objTurned", unfollowed := true, recurses := true, loops := true, apart := false }
def ObjTurnedSaid : Prop := objTurnedRow.holds Try.pinned (OpenSpec.ofChange objTurnedSpec)

/-- ITS FALSE NEIGHBOUR: 'it returns false'. Refute it at one input. -/
def objTurnedWrong : ChangeSpec := { name := "objTurned", fn := fun _ => fun
  | [d1, d2, d3, d4] => { results := [.lit (.bool false)], args := [d1, d2, d3, d4] }
  | _ => none }
def ObjTurnedWrongFalsely : Prop := objTurnedRow.holds Try.pinned (OpenSpec.ofChange objTurnedWrong)

/-- 'thyrsuslaw11.ObjMore': WHATEVER THE INPUT: true; the input reads as it did. -/
def objMoreSpec : ChangeSpec := { name := "objMore", fn := fun _ => fun
  | [d1, d2, d3] => { results := [.lit (.bool true)], args := [d1, d2, d3] }
  | _ => none }
def objMoreRow : OpenClaim := { program := "ytdibmackcbpniaa", sum := "4c1357d968191357d66fa4dfe1c45c3c9b9cd714cf028af5e6dead03df95c93a", func := "thyrsus/thyrsuslaw11.ObjMore", spec := "objMore", unfollowed := true, recurses := true, loops := true, apart := false }
def ObjMoreSaid : Prop := objMoreRow.holds Try.pinned (OpenSpec.ofChange objMoreSpec)

/-- ITS FALSE NEIGHBOUR: 'it returns false'. Refute it at one input. -/
def objMoreWrong : ChangeSpec := { name := "objMore", fn := fun _ => fun
  | [d1, d2, d3] => { results := [.lit (.bool false)], args := [d1, d2, d3] }
  | _ => none }
def ObjMoreWrongFalsely : Prop := objMoreRow.holds Try.pinned (OpenSpec.ofChange objMoreWrong)

/-- 'thyrsuslaw11.ObjTypes': WHATEVER THE INPUT: true; the input reads as it did. -/
def objTypesSpec : ChangeSpec := { name := "objTypes", fn := fun _ => fun
  | [d1, d2, d3] => { results := [.lit (.bool true)], args := [d1, d2, d3] }
  | _ => none }
def objTypesRow : OpenClaim := { program := "ytdibmackcbpniaa", sum := "4c1357d968191357d66fa4dfe1c45c3c9b9cd714cf028af5e6dead03df95c93a", func := "thyrsus/thyrsuslaw11.ObjTypes", spec := "objTypes", unfollowed := true, recurses := true, loops := true, apart := false }
def ObjTypesSaid : Prop := objTypesRow.holds Try.pinned (OpenSpec.ofChange objTypesSpec)

/-- ITS FALSE NEIGHBOUR: 'it returns false'. Refute it at one input. -/
def objTypesWrong : ChangeSpec := { name := "objTypes", fn := fun _ => fun
  | [d1, d2, d3] => { results := [.lit (.bool false)], args := [d1, d2, d3] }
  | _ => none }
def ObjTypesWrongFalsely : Prop := objTypesRow.holds Try.pinned (OpenSpec.ofChange objTypesWrong)

/-- 'thyrsuslaw11.ObjDeep': WHATEVER THE INPUT: true; the input reads as it did. -/
def objDeepSpec : ChangeSpec := { name := "objDeep", fn := fun _ => fun
  | [d1, d2] => { results := [.lit (.bool true)], args := [d1, d2] }
  | _ => none }
def objDeepRow : OpenClaim := { program := "ytdibmackcbpniaa", sum := "4c1357d968191357d66fa4dfe1c45c3c9b9cd714cf028af5e6dead03df95c93a", func := "thyrsus/thyrsuslaw11.ObjDeep", spec := "objDeep", unfollowed := true, recurses := true, apart := false }
def ObjDeepSaid : Prop := objDeepRow.holds Try.pinned (OpenSpec.ofChange objDeepSpec)

/-- ITS FALSE NEIGHBOUR: 'it returns false'. Refute it at one input. -/
def objDeepWrong : ChangeSpec := { name := "objDeep", fn := fun _ => fun
  | [d1, d2] => { results := [.lit (.bool false)], args := [d1, d2] }
  | _ => none }
def ObjDeepWrongFalsely : Prop := objDeepRow.holds Try.pinned (OpenSpec.ofChange objDeepWrong)

/-- 'thyrsuslaw11.ObjFits': WHATEVER THE INPUT: true; the input reads as it did. -/
def objFitsSpec : ChangeSpec := { name := "objFits", fn := fun _ => fun
  | [d1, d2, d3] => { results := [.lit (.bool true)], args := [d1, d2, d3] }
  | _ => none }
def objFitsRow : OpenClaim := { program := "ytdibmackcbpniaa", sum := "4c1357d968191357d66fa4dfe1c45c3c9b9cd714cf028af5e6dead03df95c93a", func := "thyrsus/thyrsuslaw11.ObjFits", spec := "objFits", unfollowed := true, recurses := true, loops := true, apart := false }
def ObjFitsSaid : Prop := objFitsRow.holds Try.pinned (OpenSpec.ofChange objFitsSpec)

/-- ITS FALSE NEIGHBOUR: 'it returns false'. Refute it at one input. -/
def objFitsWrong : ChangeSpec := { name := "objFits", fn := fun _ => fun
  | [d1, d2, d3] => { results := [.lit (.bool false)], args := [d1, d2, d3] }
  | _ => none }
def ObjFitsWrongFalsely : Prop := objFitsRow.holds Try.pinned (OpenSpec.ofChange objFitsWrong)

/-- 'thyrsuslaw11.ObjValues': WHATEVER THE INPUT: true; the input reads as it did. -/
def objValuesSpec : ChangeSpec := { name := "objValues", fn := fun _ => fun
  | [d1, d2, d3] => { results := [.lit (.bool true)], args := [d1, d2, d3] }
  | _ => none }
def objValuesRow : OpenClaim := { program := "ytdibmackcbpniaa", sum := "4c1357d968191357d66fa4dfe1c45c3c9b9cd714cf028af5e6dead03df95c93a", func := "thyrsus/thyrsuslaw11.ObjValues", spec := "objValues", unfollowed := true, recurses := true, loops := true, apart := false }
def ObjValuesSaid : Prop := objValuesRow.holds Try.pinned (OpenSpec.ofChange objValuesSpec)

/-- ITS FALSE NEIGHBOUR: 'it returns false'. Refute it at one input. -/
def objValuesWrong : ChangeSpec := { name := "objValues", fn := fun _ => fun
  | [d1, d2, d3] => { results := [.lit (.bool false)], args := [d1, d2, d3] }
  | _ => none }
def ObjValuesWrongFalsely : Prop := objValuesRow.holds Try.pinned (OpenSpec.ofChange objValuesWrong)

/-- 'thyrsuslaw11.ObjKnown': WHATEVER THE INPUT: true; the input reads as it did. -/
def objKnownSpec : ChangeSpec := { name := "objKnown", fn := fun _ => fun
  | [d] => { results := [.lit (.bool true)], args := [d] }
  | _ => none }
def objKnownRow : OpenClaim := { program := "ytdibmackcbpniaa", sum := "4c1357d968191357d66fa4dfe1c45c3c9b9cd714cf028af5e6dead03df95c93a", func := "thyrsus/thyrsuslaw11.ObjKnown", spec := "objKnown", unfollowed := true, recurses := true, apart := false }
def ObjKnownSaid : Prop := objKnownRow.holds Try.pinned (OpenSpec.ofChange objKnownSpec)

/-- ITS FALSE NEIGHBOUR: 'it returns false'. Refute it at one input. -/
def objKnownWrong : ChangeSpec := { name := "objKnown", fn := fun _ => fun
  | [d] => { results := [.lit (.bool false)], args := [d] }
  | _ => none }
def ObjKnownWrongFalsely : Prop := objKnownRow.holds Try.pinned (OpenSpec.ofChange objKnownWrong)

/- THE SECOND FORM. 'bulk': how many values and letters a reading holds, each counted each time it is reached (what is shared counts as often as it is met; a slice's spare places count too). A statement '..UptoSaid' is the law's where the arguments, and the package variables that the reading takes, are together of bulk at most 1048576: NARROWER than '..Said'. Prove '..Said' where nothing that the law and all that it calls make is longer than what came in: it says more and counts as full. Else prove '..UptoSaid'. A law counts once. -/
mutual
def uptoBulk {H : Type} : DataW H → Nat
  | .lit (.string bytes) => bytes.length + 1
  | .lit _ => 1
  | .nil => 1
  | .ptr d => uptoBulk d + 1
  | .slice elems spare => uptoBulkAll elems + uptoBulkAll spare + 1
  | .agg parts => uptoBulkAll parts + 1
  | .iface _ d => uptoBulk d + 1
  | .map entries => uptoBulkEntries entries + 1
  | .held _ => 1
def uptoBulkAll {H : Type} : List (DataW H) → Nat
  | [] => 0
  | d :: r => uptoBulk d + uptoBulkAll r
def uptoBulkEntries {H : Type} : List (Lit × DataW H) → Nat
  | [] => 0
  | x :: r => uptoBulkEntry x + uptoBulkEntries r
def uptoBulkEntry {H : Type} : Lit × DataW H → Nat
  | (.string bytes, d) => bytes.length + uptoBulk d + 1
  | (_, d) => uptoBulk d + 1
 end
def uptoSmall : (H : Type) → List (DataW H) → Bool := fun _ ds => decide (uptoBulkAll ds ≤ 1048576)
def OpenSpec.upto (s : _root_.Go.ChangeSpec) : _root_.Go.OpenSpec := { _root_.Go.OpenSpec.ofChange s with cond := some uptoSmall }

/-- 'thyrsuslaw11.ObjInfers', WHERE WHAT IT READS IS OF BULK AT MOST 1048576: true; the input reads as it did. -/
def objInfersUptoRow : OpenClaim := { program := "ytdibmackcbpniaa", sum := "4c1357d968191357d66fa4dfe1c45c3c9b9cd714cf028af5e6dead03df95c93a", func := "thyrsus/thyrsuslaw11.ObjInfers", spec := "objInfers", unfollowed := true, recurses := true, loops := true, apart := false, narrowed := true }
def ObjInfersUptoSaid : Prop := objInfersUptoRow.holds Try.pinned (OpenSpec.upto objInfersSpec)

/-- 'thyrsuslaw11.ObjTurned', WHERE WHAT IT READS IS OF BULK AT MOST 1048576: true; the input reads as it did. -/
def objTurnedUptoRow : OpenClaim := { program := "ytdibmackcbpniaa", sum := "4c1357d968191357d66fa4dfe1c45c3c9b9cd714cf028af5e6dead03df95c93a", func := "thyrsus/thyrsuslaw11.ObjTurned", spec := "objTurned", unfollowed := true, recurses := true, loops := true, apart := false, narrowed := true }
def ObjTurnedUptoSaid : Prop := objTurnedUptoRow.holds Try.pinned (OpenSpec.upto objTurnedSpec)

/-- 'thyrsuslaw11.ObjMore', WHERE WHAT IT READS IS OF BULK AT MOST 1048576: true; the input reads as it did. -/
def objMoreUptoRow : OpenClaim := { program := "ytdibmackcbpniaa", sum := "4c1357d968191357d66fa4dfe1c45c3c9b9cd714cf028af5e6dead03df95c93a", func := "thyrsus/thyrsuslaw11.ObjMore", spec := "objMore", unfollowed := true, recurses := true, loops := true, apart := false, narrowed := true }
def ObjMoreUptoSaid : Prop := objMoreUptoRow.holds Try.pinned (OpenSpec.upto objMoreSpec)

/-- 'thyrsuslaw11.ObjTypes', WHERE WHAT IT READS IS OF BULK AT MOST 1048576: true; the input reads as it did. -/
def objTypesUptoRow : OpenClaim := { program := "ytdibmackcbpniaa", sum := "4c1357d968191357d66fa4dfe1c45c3c9b9cd714cf028af5e6dead03df95c93a", func := "thyrsus/thyrsuslaw11.ObjTypes", spec := "objTypes", unfollowed := true, recurses := true, loops := true, apart := false, narrowed := true }
def ObjTypesUptoSaid : Prop := objTypesUptoRow.holds Try.pinned (OpenSpec.upto objTypesSpec)

/-- 'thyrsuslaw11.ObjDeep', WHERE WHAT IT READS IS OF BULK AT MOST 1048576: true; the input reads as it did. -/
def objDeepUptoRow : OpenClaim := { program := "ytdibmackcbpniaa", sum := "4c1357d968191357d66fa4dfe1c45c3c9b9cd714cf028af5e6dead03df95c93a", func := "thyrsus/thyrsuslaw11.ObjDeep", spec := "objDeep", unfollowed := true, recurses := true, apart := false, narrowed := true }
def ObjDeepUptoSaid : Prop := objDeepUptoRow.holds Try.pinned (OpenSpec.upto objDeepSpec)

/-- 'thyrsuslaw11.ObjFits', WHERE WHAT IT READS IS OF BULK AT MOST 1048576: true; the input reads as it did. -/
def objFitsUptoRow : OpenClaim := { program := "ytdibmackcbpniaa", sum := "4c1357d968191357d66fa4dfe1c45c3c9b9cd714cf028af5e6dead03df95c93a", func := "thyrsus/thyrsuslaw11.ObjFits", spec := "objFits", unfollowed := true, recurses := true, loops := true, apart := false, narrowed := true }
def ObjFitsUptoSaid : Prop := objFitsUptoRow.holds Try.pinned (OpenSpec.upto objFitsSpec)

/-- 'thyrsuslaw11.ObjValues', WHERE WHAT IT READS IS OF BULK AT MOST 1048576: true; the input reads as it did. -/
def objValuesUptoRow : OpenClaim := { program := "ytdibmackcbpniaa", sum := "4c1357d968191357d66fa4dfe1c45c3c9b9cd714cf028af5e6dead03df95c93a", func := "thyrsus/thyrsuslaw11.ObjValues", spec := "objValues", unfollowed := true, recurses := true, loops := true, apart := false, narrowed := true }
def ObjValuesUptoSaid : Prop := objValuesUptoRow.holds Try.pinned (OpenSpec.upto objValuesSpec)

/-- 'thyrsuslaw11.ObjKnown', WHERE WHAT IT READS IS OF BULK AT MOST 1048576: true; the input reads as it did. -/
def objKnownUptoRow : OpenClaim := { program := "ytdibmackcbpniaa", sum := "4c1357d968191357d66fa4dfe1c45c3c9b9cd714cf028af5e6dead03df95c93a", func := "thyrsus/thyrsuslaw11.ObjKnown", spec := "objKnown", unfollowed := true, recurses := true, apart := false, narrowed := true }
def ObjKnownUptoSaid : Prop := objKnownUptoRow.holds Try.pinned (OpenSpec.upto objKnownSpec)

end Rows
end Go.Proofs.Ytdibmackcbpniaa

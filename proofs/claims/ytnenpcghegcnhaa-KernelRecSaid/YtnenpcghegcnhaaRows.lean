/-
  No cell of these rows narrows 'for every input' (looked for: loops, veiled, ifaces, maps, wideKeys, modest, calm, conditions, laid).
  DERIVED. THE GIVEN ROWS OF THIS SEAT. 4 by the template 'for every input the law returns true; each argument reads behind the call as it read before'; 0 by the template 'total and deterministic' (their statements: YtnenpcghegcnhaaTotals.lean).
  GIVEN WITH THE SEED: the statements are not yours to turn. If you find one false, say at which input.
  Laid BY PROGRAM, IN A SANDBOX (cutbox-rows.mjs): the forced cells as the released guide's own fill.sh prints them over the translation 80c949a7477d41a6… (all of the seat's roots in one cut). By AI agents, Wed Nov 11 2026. No macro, syntax, notation, axiom, sorry.
-/
import Derived.Test.YtnenpcghegcnhaaChecked
import GoSem.Claim
import GoSem.ClaimJoined
import GoSem.ClaimMapViews
import Derived.JoinedTies
import Derived.KernelRfl
namespace Go.Proofs.Ytnenpcghegcnhaa
/- THE CELL 'sum', in the pinned program and in every row, IS THE sha256 OF THE DUMP (.gsa) THAT YtnenpcghegcnhaaProg.lean LOADS. Nothing in Lean hashes anything: it is a label: what it is worth is what the hold of that sum in a sandbox is worth. -/
noncomputable def Try.pinned : Pinned := { name := "ytnenpcghegcnhaa", sum := "80c949a7477d41a637cbee294fc515f510595635d300ed4ace6698eb9e3c882b", checked := Try.checked }
namespace Rows
def none {H : Type} : Left H := { results := [], args := [] }

/-- 'thyrsuslaw7.KernelMeta': WHATEVER THE INPUT: true; the input reads as it did. -/
def kernelMetaSpec : ChangeSpec := { name := "kernelMeta", fn := fun _ => fun
  | [d] => { results := [.lit (.bool true)], args := [d] }
  | _ => none }
def kernelMetaRow : OpenClaim := { program := "ytnenpcghegcnhaa", sum := "80c949a7477d41a637cbee294fc515f510595635d300ed4ace6698eb9e3c882b", func := "thyrsus/thyrsuslaw7.KernelMeta", spec := "kernelMeta", unfollowed := true, recurses := true, apart := false }
def KernelMetaSaid : Prop := kernelMetaRow.holds Try.pinned (OpenSpec.ofChange kernelMetaSpec)

/-- ITS FALSE NEIGHBOUR: 'it returns false'. Refute it at one input. -/
def kernelMetaWrong : ChangeSpec := { name := "kernelMeta", fn := fun _ => fun
  | [d] => { results := [.lit (.bool false)], args := [d] }
  | _ => none }
def KernelMetaWrongFalsely : Prop := kernelMetaRow.holds Try.pinned (OpenSpec.ofChange kernelMetaWrong)

/-- 'thyrsuslaw7.KernelObject': WHATEVER THE INPUT: true; the input reads as it did. -/
def kernelObjectSpec : ChangeSpec := { name := "kernelObject", fn := fun _ => fun
  | [d] => { results := [.lit (.bool true)], args := [d] }
  | _ => none }
def kernelObjectRow : OpenClaim := { program := "ytnenpcghegcnhaa", sum := "80c949a7477d41a637cbee294fc515f510595635d300ed4ace6698eb9e3c882b", func := "thyrsus/thyrsuslaw7.KernelObject", spec := "kernelObject", unfollowed := true, recurses := true, apart := false }
def KernelObjectSaid : Prop := kernelObjectRow.holds Try.pinned (OpenSpec.ofChange kernelObjectSpec)

/-- ITS FALSE NEIGHBOUR: 'it returns false'. Refute it at one input. -/
def kernelObjectWrong : ChangeSpec := { name := "kernelObject", fn := fun _ => fun
  | [d] => { results := [.lit (.bool false)], args := [d] }
  | _ => none }
def KernelObjectWrongFalsely : Prop := kernelObjectRow.holds Try.pinned (OpenSpec.ofChange kernelObjectWrong)

/-- 'thyrsuslaw7.KernelRec': WHATEVER THE INPUT: true; the input reads as it did. -/
def kernelRecSpec : ChangeSpec := { name := "kernelRec", fn := fun _ => fun
  | [d1, d2] => { results := [.lit (.bool true)], args := [d1, d2] }
  | _ => none }
def kernelRecRow : OpenClaim := { program := "ytnenpcghegcnhaa", sum := "80c949a7477d41a637cbee294fc515f510595635d300ed4ace6698eb9e3c882b", func := "thyrsus/thyrsuslaw7.KernelRec", spec := "kernelRec", unfollowed := true, recurses := true, apart := false }
def KernelRecSaid : Prop := kernelRecRow.holds Try.pinned (OpenSpec.ofChange kernelRecSpec)

/-- ITS FALSE NEIGHBOUR: 'it returns false'. Refute it at one input. -/
def kernelRecWrong : ChangeSpec := { name := "kernelRec", fn := fun _ => fun
  | [d1, d2] => { results := [.lit (.bool false)], args := [d1, d2] }
  | _ => none }
def KernelRecWrongFalsely : Prop := kernelRecRow.holds Try.pinned (OpenSpec.ofChange kernelRecWrong)

/-- 'thyrsuslaw7.KernelScope': WHATEVER THE INPUT: true; the input reads as it did. -/
def kernelScopeSpec : ChangeSpec := { name := "kernelScope", fn := fun _ => fun
  | [d] => { results := [.lit (.bool true)], args := [d] }
  | _ => none }
def kernelScopeRow : OpenClaim := { program := "ytnenpcghegcnhaa", sum := "80c949a7477d41a637cbee294fc515f510595635d300ed4ace6698eb9e3c882b", func := "thyrsus/thyrsuslaw7.KernelScope", spec := "kernelScope", unfollowed := true, recurses := true, apart := false }
def KernelScopeSaid : Prop := kernelScopeRow.holds Try.pinned (OpenSpec.ofChange kernelScopeSpec)

/-- ITS FALSE NEIGHBOUR: 'it returns false'. Refute it at one input. -/
def kernelScopeWrong : ChangeSpec := { name := "kernelScope", fn := fun _ => fun
  | [d] => { results := [.lit (.bool false)], args := [d] }
  | _ => none }
def KernelScopeWrongFalsely : Prop := kernelScopeRow.holds Try.pinned (OpenSpec.ofChange kernelScopeWrong)

/- THE SECOND FORM. 'bulk': how many values and letters a reading holds, each counted each time it is reached (what is shared counts as often as it is met; a slice's spare places count too). A statement '..UptoSaid' is the law's where the arguments, and the package variables that the reading takes, are together of bulk at most 1048576: NARROWER than '..Said'. Prove '..Said' where nothing that the law and all that it calls make is longer than what came in: it says more and counts as full. Else prove '..UptoSaid'. A law counts once. -/
mutual
def uptoBulk {H : Type} : DataW H → Nat
  | .lit (.string bytes) => bytes.length + 1
  | .lit _ => 1
  | .nil => 1
  | .ptr d => uptoBulk d + 1
  | .slice elems spare => uptoBulkAll elems + uptoBulkAll spare + 1
  | .agg parts => uptoBulkAll parts + 1
  | .iface _ d => uptoBulk d + 1
  | .map entries => uptoBulkEntries entries + 1
  | .held _ => 1
def uptoBulkAll {H : Type} : List (DataW H) → Nat
  | [] => 0
  | d :: r => uptoBulk d + uptoBulkAll r
def uptoBulkEntries {H : Type} : List (Lit × DataW H) → Nat
  | [] => 0
  | x :: r => uptoBulkEntry x + uptoBulkEntries r
def uptoBulkEntry {H : Type} : Lit × DataW H → Nat
  | (.string bytes, d) => bytes.length + uptoBulk d + 1
  | (_, d) => uptoBulk d + 1
 end
def uptoSmall : (H : Type) → List (DataW H) → Bool := fun _ ds => decide (uptoBulkAll ds ≤ 1048576)
def OpenSpec.upto (s : _root_.Go.ChangeSpec) : _root_.Go.OpenSpec := { _root_.Go.OpenSpec.ofChange s with cond := some uptoSmall }

/-- 'thyrsuslaw7.KernelMeta', WHERE WHAT IT READS IS OF BULK AT MOST 1048576: true; the input reads as it did. -/
def kernelMetaUptoRow : OpenClaim := { program := "ytnenpcghegcnhaa", sum := "80c949a7477d41a637cbee294fc515f510595635d300ed4ace6698eb9e3c882b", func := "thyrsus/thyrsuslaw7.KernelMeta", spec := "kernelMeta", unfollowed := true, recurses := true, apart := false, narrowed := true }
def KernelMetaUptoSaid : Prop := kernelMetaUptoRow.holds Try.pinned (OpenSpec.upto kernelMetaSpec)

/-- 'thyrsuslaw7.KernelObject', WHERE WHAT IT READS IS OF BULK AT MOST 1048576: true; the input reads as it did. -/
def kernelObjectUptoRow : OpenClaim := { program := "ytnenpcghegcnhaa", sum := "80c949a7477d41a637cbee294fc515f510595635d300ed4ace6698eb9e3c882b", func := "thyrsus/thyrsuslaw7.KernelObject", spec := "kernelObject", unfollowed := true, recurses := true, apart := false, narrowed := true }
def KernelObjectUptoSaid : Prop := kernelObjectUptoRow.holds Try.pinned (OpenSpec.upto kernelObjectSpec)

/-- 'thyrsuslaw7.KernelRec', WHERE WHAT IT READS IS OF BULK AT MOST 1048576: true; the input reads as it did. -/
def kernelRecUptoRow : OpenClaim := { program := "ytnenpcghegcnhaa", sum := "80c949a7477d41a637cbee294fc515f510595635d300ed4ace6698eb9e3c882b", func := "thyrsus/thyrsuslaw7.KernelRec", spec := "kernelRec", unfollowed := true, recurses := true, apart := false, narrowed := true }
def KernelRecUptoSaid : Prop := kernelRecUptoRow.holds Try.pinned (OpenSpec.upto kernelRecSpec)

/-- 'thyrsuslaw7.KernelScope', WHERE WHAT IT READS IS OF BULK AT MOST 1048576: true; the input reads as it did. -/
def kernelScopeUptoRow : OpenClaim := { program := "ytnenpcghegcnhaa", sum := "80c949a7477d41a637cbee294fc515f510595635d300ed4ace6698eb9e3c882b", func := "thyrsus/thyrsuslaw7.KernelScope", spec := "kernelScope", unfollowed := true, recurses := true, apart := false, narrowed := true }
def KernelScopeUptoSaid : Prop := kernelScopeUptoRow.holds Try.pinned (OpenSpec.upto kernelScopeSpec)

end Rows
end Go.Proofs.Ytnenpcghegcnhaa

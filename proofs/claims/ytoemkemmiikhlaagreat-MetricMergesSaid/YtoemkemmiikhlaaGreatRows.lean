/-
  No cell of these rows narrows 'for every input' (looked for: loops, veiled, ifaces, maps, wideKeys, modest, calm, conditions, laid).
  DERIVED. THE GIVEN ROWS OF THIS SEAT. 6 by the template 'for every input the law returns true; each argument reads behind the call as it read before'; 0 by the template 'total and deterministic' (their statements: YtoemkemmiikhlaaGreatTotals.lean).
  GIVEN WITH THE SEED: the statements are not yours to turn. If you find one false, say at which input.
  Laid BY PROGRAM, IN A SANDBOX (cutbox-rows.mjs): the forced cells as the released guide's own fill.sh prints them over the translation 001733aaacd68939… (all of the seat's roots in one cut). By AI agents, Wed Nov 11 2026. No macro, syntax, notation, axiom, sorry.
-/
import Derived.Test.YtoemkemmiikhlaaGreatChecked
import GoSem.Claim
import GoSem.ClaimJoined
import GoSem.ClaimMapViews
import Derived.JoinedTies
import Derived.KernelRfl
namespace Go.Proofs.YtoemkemmiikhlaaGreat
/- THE CELL 'sum', in the pinned program and in every row, IS THE sha256 OF THE DUMP (.gsa) THAT YtoemkemmiikhlaaGreatProg.lean LOADS. Nothing in Lean hashes anything: it is a label: what it is worth is what the hold of that sum in a sandbox is worth. -/
noncomputable def Tryz.pinned : Pinned := { name := "ytoemkemmiikhlaagreat", sum := "001733aaacd6893976dc307b5ee5e6e9d2be3aefe98e2108da53bf515be3524d", checked := Tryz.checked }
namespace Rows
def none {H : Type} : Left H := { results := [], args := [] }

/-- 'fleuronlaw27.MetricFiles': WHATEVER THE INPUT: true; the input reads as it did. -/
def metricFilesSpec : ChangeSpec := { name := "metricFiles", fn := fun _ => fun
  | [d] => { results := [.lit (.bool true)], args := [d] }
  | _ => none }
def metricFilesRow : OpenClaim := { program := "ytoemkemmiikhlaagreat", sum := "001733aaacd6893976dc307b5ee5e6e9d2be3aefe98e2108da53bf515be3524d", func := "fleuron/fleuronlaw27.MetricFiles", spec := "metricFiles", unfollowed := true, recurses := true, apart := false }
def MetricFilesSaid : Prop := metricFilesRow.holds Tryz.pinned (OpenSpec.ofChange metricFilesSpec)

/-- ITS FALSE NEIGHBOUR: 'it returns false'. Refute it at one input. -/
def metricFilesWrong : ChangeSpec := { name := "metricFiles", fn := fun _ => fun
  | [d] => { results := [.lit (.bool false)], args := [d] }
  | _ => none }
def MetricFilesWrongFalsely : Prop := metricFilesRow.holds Tryz.pinned (OpenSpec.ofChange metricFilesWrong)

/-- 'fleuronlaw27.MetricOpens': WHATEVER THE INPUT: true; the input reads as it did. -/
def metricOpensSpec : ChangeSpec := { name := "metricOpens", fn := fun _ => fun
  | [d] => { results := [.lit (.bool true)], args := [d] }
  | _ => none }
def metricOpensRow : OpenClaim := { program := "ytoemkemmiikhlaagreat", sum := "001733aaacd6893976dc307b5ee5e6e9d2be3aefe98e2108da53bf515be3524d", func := "fleuron/fleuronlaw27.MetricOpens", spec := "metricOpens", unfollowed := true, recurses := true, apart := false }
def MetricOpensSaid : Prop := metricOpensRow.holds Tryz.pinned (OpenSpec.ofChange metricOpensSpec)

/-- ITS FALSE NEIGHBOUR: 'it returns false'. Refute it at one input. -/
def metricOpensWrong : ChangeSpec := { name := "metricOpens", fn := fun _ => fun
  | [d] => { results := [.lit (.bool false)], args := [d] }
  | _ => none }
def MetricOpensWrongFalsely : Prop := metricOpensRow.holds Tryz.pinned (OpenSpec.ofChange metricOpensWrong)

/-- 'fleuronlaw27.MetricMakes': WHATEVER THE INPUT: true; the input reads as it did. -/
def metricMakesSpec : ChangeSpec := { name := "metricMakes", fn := fun _ => fun
  | [d1, d2, d3] => { results := [.lit (.bool true)], args := [d1, d2, d3] }
  | _ => none }
def metricMakesRow : OpenClaim := { program := "ytoemkemmiikhlaagreat", sum := "001733aaacd6893976dc307b5ee5e6e9d2be3aefe98e2108da53bf515be3524d", func := "fleuron/fleuronlaw27.MetricMakes", spec := "metricMakes", unfollowed := true, recurses := true, apart := false }
def MetricMakesSaid : Prop := metricMakesRow.holds Tryz.pinned (OpenSpec.ofChange metricMakesSpec)

/-- ITS FALSE NEIGHBOUR: 'it returns false'. Refute it at one input. -/
def metricMakesWrong : ChangeSpec := { name := "metricMakes", fn := fun _ => fun
  | [d1, d2, d3] => { results := [.lit (.bool false)], args := [d1, d2, d3] }
  | _ => none }
def MetricMakesWrongFalsely : Prop := metricMakesRow.holds Tryz.pinned (OpenSpec.ofChange metricMakesWrong)

/-- 'fleuronlaw27.MetricTells': WHATEVER THE INPUT: true; the input reads as it did. -/
def metricTellsSpec : ChangeSpec := { name := "metricTells", fn := fun _ => fun
  | [d1, d2, d3] => { results := [.lit (.bool true)], args := [d1, d2, d3] }
  | _ => none }
def metricTellsRow : OpenClaim := { program := "ytoemkemmiikhlaagreat", sum := "001733aaacd6893976dc307b5ee5e6e9d2be3aefe98e2108da53bf515be3524d", func := "fleuron/fleuronlaw27.MetricTells", spec := "metricTells", unfollowed := true, recurses := true, apart := false }
def MetricTellsSaid : Prop := metricTellsRow.holds Tryz.pinned (OpenSpec.ofChange metricTellsSpec)

/-- ITS FALSE NEIGHBOUR: 'it returns false'. Refute it at one input. -/
def metricTellsWrong : ChangeSpec := { name := "metricTells", fn := fun _ => fun
  | [d1, d2, d3] => { results := [.lit (.bool false)], args := [d1, d2, d3] }
  | _ => none }
def MetricTellsWrongFalsely : Prop := metricTellsRow.holds Tryz.pinned (OpenSpec.ofChange metricTellsWrong)

/-- 'fleuronlaw27.MetricMerges': WHATEVER THE INPUT: true; the input reads as it did. -/
def metricMergesSpec : ChangeSpec := { name := "metricMerges", fn := fun _ => fun
  | [d1, d2] => { results := [.lit (.bool true)], args := [d1, d2] }
  | _ => none }
def metricMergesRow : OpenClaim := { program := "ytoemkemmiikhlaagreat", sum := "001733aaacd6893976dc307b5ee5e6e9d2be3aefe98e2108da53bf515be3524d", func := "fleuron/fleuronlaw27.MetricMerges", spec := "metricMerges", unfollowed := true, recurses := true, apart := false }
def MetricMergesSaid : Prop := metricMergesRow.holds Tryz.pinned (OpenSpec.ofChange metricMergesSpec)

/-- ITS FALSE NEIGHBOUR: 'it returns false'. Refute it at one input. -/
def metricMergesWrong : ChangeSpec := { name := "metricMerges", fn := fun _ => fun
  | [d1, d2] => { results := [.lit (.bool false)], args := [d1, d2] }
  | _ => none }
def MetricMergesWrongFalsely : Prop := metricMergesRow.holds Tryz.pinned (OpenSpec.ofChange metricMergesWrong)

/-- 'fleuronlaw27.MetricScales': WHATEVER THE INPUT: true; the input reads as it did. -/
def metricScalesSpec : ChangeSpec := { name := "metricScales", fn := fun _ => fun
  | [d] => { results := [.lit (.bool true)], args := [d] }
  | _ => none }
def metricScalesRow : OpenClaim := { program := "ytoemkemmiikhlaagreat", sum := "001733aaacd6893976dc307b5ee5e6e9d2be3aefe98e2108da53bf515be3524d", func := "fleuron/fleuronlaw27.MetricScales", spec := "metricScales", unfollowed := true, recurses := true, apart := false }
def MetricScalesSaid : Prop := metricScalesRow.holds Tryz.pinned (OpenSpec.ofChange metricScalesSpec)

/-- ITS FALSE NEIGHBOUR: 'it returns false'. Refute it at one input. -/
def metricScalesWrong : ChangeSpec := { name := "metricScales", fn := fun _ => fun
  | [d] => { results := [.lit (.bool false)], args := [d] }
  | _ => none }
def MetricScalesWrongFalsely : Prop := metricScalesRow.holds Tryz.pinned (OpenSpec.ofChange metricScalesWrong)

/- THE SECOND FORM. 'bulk': how many values and letters a reading holds, each counted each time it is reached (what is shared counts as often as it is met; a slice's spare places count too). A statement '..UptoSaid' is the law's where the arguments, and the package variables that the reading takes, are together of bulk at most 1048576: NARROWER than '..Said'. Prove '..Said' where nothing that the law and all that it calls make is longer than what came in: it says more and counts as full. Else prove '..UptoSaid'. A law counts once. -/
mutual
def uptoBulk {H : Type} : DataW H → Nat
  | .lit (.string bytes) => bytes.length + 1
  | .lit _ => 1
  | .nil => 1
  | .ptr d => uptoBulk d + 1
  | .slice elems spare => uptoBulkAll elems + uptoBulkAll spare + 1
  | .agg parts => uptoBulkAll parts + 1
  | .iface _ d => uptoBulk d + 1
  | .map entries => uptoBulkEntries entries + 1
  | .held _ => 1
def uptoBulkAll {H : Type} : List (DataW H) → Nat
  | [] => 0
  | d :: r => uptoBulk d + uptoBulkAll r
def uptoBulkEntries {H : Type} : List (Lit × DataW H) → Nat
  | [] => 0
  | x :: r => uptoBulkEntry x + uptoBulkEntries r
def uptoBulkEntry {H : Type} : Lit × DataW H → Nat
  | (.string bytes, d) => bytes.length + uptoBulk d + 1
  | (_, d) => uptoBulk d + 1
 end
def uptoSmall : (H : Type) → List (DataW H) → Bool := fun _ ds => decide (uptoBulkAll ds ≤ 1048576)
def OpenSpec.upto (s : _root_.Go.ChangeSpec) : _root_.Go.OpenSpec := { _root_.Go.OpenSpec.ofChange s with cond := some uptoSmall }

/-- 'fleuronlaw27.MetricFiles', WHERE WHAT IT READS IS OF BULK AT MOST 1048576: true; the input reads as it did. -/
def metricFilesUptoRow : OpenClaim := { program := "ytoemkemmiikhlaagreat", sum := "001733aaacd6893976dc307b5ee5e6e9d2be3aefe98e2108da53bf515be3524d", func := "fleuron/fleuronlaw27.MetricFiles", spec := "metricFiles", unfollowed := true, recurses := true, apart := false, narrowed := true }
def MetricFilesUptoSaid : Prop := metricFilesUptoRow.holds Tryz.pinned (OpenSpec.upto metricFilesSpec)

/-- 'fleuronlaw27.MetricOpens', WHERE WHAT IT READS IS OF BULK AT MOST 1048576: true; the input reads as it did. -/
def metricOpensUptoRow : OpenClaim := { program := "ytoemkemmiikhlaagreat", sum := "001733aaacd6893976dc307b5ee5e6e9d2be3aefe98e2108da53bf515be3524d", func := "fleuron/fleuronlaw27.MetricOpens", spec := "metricOpens", unfollowed := true, recurses := true, apart := false, narrowed := true }
def MetricOpensUptoSaid : Prop := metricOpensUptoRow.holds Tryz.pinned (OpenSpec.upto metricOpensSpec)

/-- 'fleuronlaw27.MetricMakes', WHERE WHAT IT READS IS OF BULK AT MOST 1048576: true; the input reads as it did. -/
def metricMakesUptoRow : OpenClaim := { program := "ytoemkemmiikhlaagreat", sum := "001733aaacd6893976dc307b5ee5e6e9d2be3aefe98e2108da53bf515be3524d", func := "fleuron/fleuronlaw27.MetricMakes", spec := "metricMakes", unfollowed := true, recurses := true, apart := false, narrowed := true }
def MetricMakesUptoSaid : Prop := metricMakesUptoRow.holds Tryz.pinned (OpenSpec.upto metricMakesSpec)

/-- 'fleuronlaw27.MetricTells', WHERE WHAT IT READS IS OF BULK AT MOST 1048576: true; the input reads as it did. -/
def metricTellsUptoRow : OpenClaim := { program := "ytoemkemmiikhlaagreat", sum := "001733aaacd6893976dc307b5ee5e6e9d2be3aefe98e2108da53bf515be3524d", func := "fleuron/fleuronlaw27.MetricTells", spec := "metricTells", unfollowed := true, recurses := true, apart := false, narrowed := true }
def MetricTellsUptoSaid : Prop := metricTellsUptoRow.holds Tryz.pinned (OpenSpec.upto metricTellsSpec)

/-- 'fleuronlaw27.MetricMerges', WHERE WHAT IT READS IS OF BULK AT MOST 1048576: true; the input reads as it did. -/
def metricMergesUptoRow : OpenClaim := { program := "ytoemkemmiikhlaagreat", sum := "001733aaacd6893976dc307b5ee5e6e9d2be3aefe98e2108da53bf515be3524d", func := "fleuron/fleuronlaw27.MetricMerges", spec := "metricMerges", unfollowed := true, recurses := true, apart := false, narrowed := true }
def MetricMergesUptoSaid : Prop := metricMergesUptoRow.holds Tryz.pinned (OpenSpec.upto metricMergesSpec)

/-- 'fleuronlaw27.MetricScales', WHERE WHAT IT READS IS OF BULK AT MOST 1048576: true; the input reads as it did. -/
def metricScalesUptoRow : OpenClaim := { program := "ytoemkemmiikhlaagreat", sum := "001733aaacd6893976dc307b5ee5e6e9d2be3aefe98e2108da53bf515be3524d", func := "fleuron/fleuronlaw27.MetricScales", spec := "metricScales", unfollowed := true, recurses := true, apart := false, narrowed := true }
def MetricScalesUptoSaid : Prop := metricScalesUptoRow.holds Tryz.pinned (OpenSpec.upto metricScalesSpec)

end Rows
end Go.Proofs.YtoemkemmiikhlaaGreat

/-
  No cell of these rows narrows 'for every input' (looked for: loops, veiled, ifaces, maps, wideKeys, modest, calm, conditions, laid).
  DERIVED. THE GIVEN ROWS OF THIS SEAT. 5 by the template 'for every input the law returns true; each argument reads behind the call as it read before'; 0 by the template 'total and deterministic' (their statements: YtckjlckhjcbddaaGreatTotals.lean).
  GIVEN WITH THE SEED: the statements are not yours to turn. If you find one false, say at which input.
  Laid BY PROGRAM, IN A SANDBOX (cutbox-rows.mjs): the forced cells as the released guide's own fill.sh prints them over the translation 7642588448c4711c… (all of the seat's roots in one cut). By AI agents, Wed Nov 11 2026. No macro, syntax, notation, axiom, sorry.
-/
import Derived.Test.YtckjlckhjcbddaaGreatChecked
import GoSem.Claim
import GoSem.ClaimJoined
import GoSem.ClaimMapViews
import Derived.JoinedTies
import Derived.KernelRfl
namespace Go.Proofs.YtckjlckhjcbddaaGreat
/- THE CELL 'sum', in the pinned program and in every row, IS THE sha256 OF THE DUMP (.gsa) THAT YtckjlckhjcbddaaGreatProg.lean LOADS. Nothing in Lean hashes anything: it is a label: what it is worth is what the hold of that sum in a sandbox is worth. -/
noncomputable def Tryz.pinned : Pinned := { name := "ytckjlckhjcbddaagreat", sum := "7642588448c4711c70ed1ea5e8e53bfabe518f5c44c1430edf82ed1d3748c229", checked := Tryz.checked }
namespace Rows
def none {H : Type} : Left H := { results := [], args := [] }

/-- 'fleuronlaw19.ScanRows': WHATEVER THE INPUT: true; the input reads as it did. -/
def scanRowsSpec : ChangeSpec := { name := "scanRows", fn := fun _ => fun
  | [d1, d2, d3] => { results := [.lit (.bool true)], args := [d1, d2, d3] }
  | _ => none }
def scanRowsRow : OpenClaim := { program := "ytckjlckhjcbddaagreat", sum := "7642588448c4711c70ed1ea5e8e53bfabe518f5c44c1430edf82ed1d3748c229", func := "fleuron/fleuronlaw19.ScanRows", spec := "scanRows", unfollowed := true, recurses := true, apart := false }
def ScanRowsSaid : Prop := scanRowsRow.holds Tryz.pinned (OpenSpec.ofChange scanRowsSpec)

/-- ITS FALSE NEIGHBOUR: 'it returns false'. Refute it at one input. -/
def scanRowsWrong : ChangeSpec := { name := "scanRows", fn := fun _ => fun
  | [d1, d2, d3] => { results := [.lit (.bool false)], args := [d1, d2, d3] }
  | _ => none }
def ScanRowsWrongFalsely : Prop := scanRowsRow.holds Tryz.pinned (OpenSpec.ofChange scanRowsWrong)

/-- 'fleuronlaw19.ScanPens': WHATEVER THE INPUT: true; the input reads as it did. -/
def scanPensSpec : ChangeSpec := { name := "scanPens", fn := fun _ => fun
  | [d1, d2, d3] => { results := [.lit (.bool true)], args := [d1, d2, d3] }
  | _ => none }
def scanPensRow : OpenClaim := { program := "ytckjlckhjcbddaagreat", sum := "7642588448c4711c70ed1ea5e8e53bfabe518f5c44c1430edf82ed1d3748c229", func := "fleuron/fleuronlaw19.ScanPens", spec := "scanPens", unfollowed := true, recurses := true, apart := false }
def ScanPensSaid : Prop := scanPensRow.holds Tryz.pinned (OpenSpec.ofChange scanPensSpec)

/-- ITS FALSE NEIGHBOUR: 'it returns false'. Refute it at one input. -/
def scanPensWrong : ChangeSpec := { name := "scanPens", fn := fun _ => fun
  | [d1, d2, d3] => { results := [.lit (.bool false)], args := [d1, d2, d3] }
  | _ => none }
def ScanPensWrongFalsely : Prop := scanPensRow.holds Tryz.pinned (OpenSpec.ofChange scanPensWrong)

/-- 'fleuronlaw19.ScanSets': WHATEVER THE INPUT: true; the input reads as it did. -/
def scanSetsSpec : ChangeSpec := { name := "scanSets", fn := fun _ => fun
  | [d1, d2, d3] => { results := [.lit (.bool true)], args := [d1, d2, d3] }
  | _ => none }
def scanSetsRow : OpenClaim := { program := "ytckjlckhjcbddaagreat", sum := "7642588448c4711c70ed1ea5e8e53bfabe518f5c44c1430edf82ed1d3748c229", func := "fleuron/fleuronlaw19.ScanSets", spec := "scanSets", unfollowed := true, recurses := true, apart := false }
def ScanSetsSaid : Prop := scanSetsRow.holds Tryz.pinned (OpenSpec.ofChange scanSetsSpec)

/-- ITS FALSE NEIGHBOUR: 'it returns false'. Refute it at one input. -/
def scanSetsWrong : ChangeSpec := { name := "scanSets", fn := fun _ => fun
  | [d1, d2, d3] => { results := [.lit (.bool false)], args := [d1, d2, d3] }
  | _ => none }
def ScanSetsWrongFalsely : Prop := scanSetsRow.holds Tryz.pinned (OpenSpec.ofChange scanSetsWrong)

/-- 'fleuronlaw19.ScanMoved': WHATEVER THE INPUT: true; the input reads as it did. -/
def scanMovedSpec : ChangeSpec := { name := "scanMoved", fn := fun _ => fun
  | [d1, d2, d3] => { results := [.lit (.bool true)], args := [d1, d2, d3] }
  | _ => none }
def scanMovedRow : OpenClaim := { program := "ytckjlckhjcbddaagreat", sum := "7642588448c4711c70ed1ea5e8e53bfabe518f5c44c1430edf82ed1d3748c229", func := "fleuron/fleuronlaw19.ScanMoved", spec := "scanMoved", unfollowed := true, recurses := true, apart := false }
def ScanMovedSaid : Prop := scanMovedRow.holds Tryz.pinned (OpenSpec.ofChange scanMovedSpec)

/-- ITS FALSE NEIGHBOUR: 'it returns false'. Refute it at one input. -/
def scanMovedWrong : ChangeSpec := { name := "scanMoved", fn := fun _ => fun
  | [d1, d2, d3] => { results := [.lit (.bool false)], args := [d1, d2, d3] }
  | _ => none }
def ScanMovedWrongFalsely : Prop := scanMovedRow.holds Tryz.pinned (OpenSpec.ofChange scanMovedWrong)

/-- 'fleuronlaw19.ScanSamples': WHATEVER THE INPUT: true; the input reads as it did. -/
def scanSamplesSpec : ChangeSpec := { name := "scanSamples", fn := fun _ => fun
  | [d1, d2, d3] => { results := [.lit (.bool true)], args := [d1, d2, d3] }
  | _ => none }
def scanSamplesRow : OpenClaim := { program := "ytckjlckhjcbddaagreat", sum := "7642588448c4711c70ed1ea5e8e53bfabe518f5c44c1430edf82ed1d3748c229", func := "fleuron/fleuronlaw19.ScanSamples", spec := "scanSamples", unfollowed := true, recurses := true, apart := false }
def ScanSamplesSaid : Prop := scanSamplesRow.holds Tryz.pinned (OpenSpec.ofChange scanSamplesSpec)

/-- ITS FALSE NEIGHBOUR: 'it returns false'. Refute it at one input. -/
def scanSamplesWrong : ChangeSpec := { name := "scanSamples", fn := fun _ => fun
  | [d1, d2, d3] => { results := [.lit (.bool false)], args := [d1, d2, d3] }
  | _ => none }
def ScanSamplesWrongFalsely : Prop := scanSamplesRow.holds Tryz.pinned (OpenSpec.ofChange scanSamplesWrong)

/- THE SECOND FORM. 'bulk': how many values and letters a reading holds, each counted each time it is reached (what is shared counts as often as it is met; a slice's spare places count too). A statement '..UptoSaid' is the law's where the arguments, and the package variables that the reading takes, are together of bulk at most 1048576: NARROWER than '..Said'. Prove '..Said' where nothing that the law and all that it calls make is longer than what came in: it says more and counts as full. Else prove '..UptoSaid'. A law counts once. -/
mutual
def uptoBulk {H : Type} : DataW H → Nat
  | .lit (.string bytes) => bytes.length + 1
  | .lit _ => 1
  | .nil => 1
  | .ptr d => uptoBulk d + 1
  | .slice elems spare => uptoBulkAll elems + uptoBulkAll spare + 1
  | .agg parts => uptoBulkAll parts + 1
  | .iface _ d => uptoBulk d + 1
  | .map entries => uptoBulkEntries entries + 1
  | .held _ => 1
def uptoBulkAll {H : Type} : List (DataW H) → Nat
  | [] => 0
  | d :: r => uptoBulk d + uptoBulkAll r
def uptoBulkEntries {H : Type} : List (Lit × DataW H) → Nat
  | [] => 0
  | x :: r => uptoBulkEntry x + uptoBulkEntries r
def uptoBulkEntry {H : Type} : Lit × DataW H → Nat
  | (.string bytes, d) => bytes.length + uptoBulk d + 1
  | (_, d) => uptoBulk d + 1
 end
def uptoSmall : (H : Type) → List (DataW H) → Bool := fun _ ds => decide (uptoBulkAll ds ≤ 1048576)
def OpenSpec.upto (s : _root_.Go.ChangeSpec) : _root_.Go.OpenSpec := { _root_.Go.OpenSpec.ofChange s with cond := some uptoSmall }

/-- 'fleuronlaw19.ScanRows', WHERE WHAT IT READS IS OF BULK AT MOST 1048576: true; the input reads as it did. -/
def scanRowsUptoRow : OpenClaim := { program := "ytckjlckhjcbddaagreat", sum := "7642588448c4711c70ed1ea5e8e53bfabe518f5c44c1430edf82ed1d3748c229", func := "fleuron/fleuronlaw19.ScanRows", spec := "scanRows", unfollowed := true, recurses := true, apart := false, narrowed := true }
def ScanRowsUptoSaid : Prop := scanRowsUptoRow.holds Tryz.pinned (OpenSpec.upto scanRowsSpec)

/-- 'fleuronlaw19.ScanPens', WHERE WHAT IT READS IS OF BULK AT MOST 1048576: true; the input reads as it did. -/
def scanPensUptoRow : OpenClaim := { program := "ytckjlckhjcbddaagreat", sum := "7642588448c4711c70ed1ea5e8e53bfabe518f5c44c1430edf82ed1d3748c229", func := "fleuron/fleuronlaw19.ScanPens", spec := "scanPens", unfollowed := true, recurses := true, apart := false, narrowed := true }
def ScanPensUptoSaid : Prop := scanPensUptoRow.holds Tryz.pinned (OpenSpec.upto scanPensSpec)

/-- 'fleuronlaw19.ScanSets', WHERE WHAT IT READS IS OF BULK AT MOST 1048576: true; the input reads as it did. -/
def scanSetsUptoRow : OpenClaim := { program := "ytckjlckhjcbddaagreat", sum := "7642588448c4711c70ed1ea5e8e53bfabe518f5c44c1430edf82ed1d3748c229", func := "fleuron/fleuronlaw19.ScanSets", spec := "scanSets", unfollowed := true, recurses := true, apart := false, narrowed := true }
def ScanSetsUptoSaid : Prop := scanSetsUptoRow.holds Tryz.pinned (OpenSpec.upto scanSetsSpec)

/-- 'fleuronlaw19.ScanMoved', WHERE WHAT IT READS IS OF BULK AT MOST 1048576: true; the input reads as it did. -/
def scanMovedUptoRow : OpenClaim := { program := "ytckjlckhjcbddaagreat", sum := "7642588448c4711c70ed1ea5e8e53bfabe518f5c44c1430edf82ed1d3748c229", func := "fleuron/fleuronlaw19.ScanMoved", spec := "scanMoved", unfollowed := true, recurses := true, apart := false, narrowed := true }
def ScanMovedUptoSaid : Prop := scanMovedUptoRow.holds Tryz.pinned (OpenSpec.upto scanMovedSpec)

/-- 'fleuronlaw19.ScanSamples', WHERE WHAT IT READS IS OF BULK AT MOST 1048576: true; the input reads as it did. -/
def scanSamplesUptoRow : OpenClaim := { program := "ytckjlckhjcbddaagreat", sum := "7642588448c4711c70ed1ea5e8e53bfabe518f5c44c1430edf82ed1d3748c229", func := "fleuron/fleuronlaw19.ScanSamples", spec := "scanSamples", unfollowed := true, recurses := true, apart := false, narrowed := true }
def ScanSamplesUptoSaid : Prop := scanSamplesUptoRow.holds Tryz.pinned (OpenSpec.upto scanSamplesSpec)

end Rows
end Go.Proofs.YtckjlckhjcbddaaGreat

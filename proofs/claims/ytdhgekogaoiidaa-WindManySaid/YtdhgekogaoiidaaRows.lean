/-
  No cell of these rows narrows 'for every input' (looked for: loops, veiled, ifaces, maps, wideKeys, modest, calm, conditions, laid).
  DERIVED. THE GIVEN ROWS OF THIS SEAT. 9 by the template 'for every input the law returns true; each argument reads behind the call as it read before'; 0 by the template 'total and deterministic' (their statements: YtdhgekogaoiidaaTotals.lean).
  GIVEN WITH THE SEED: the statements are not yours to turn. If you find one false, say at which input.
  Laid BY PROGRAM, IN A SANDBOX (cutbox-rows.mjs): the forced cells as the released guide's own fill.sh prints them over the translation f0c8bed17ce515c0… (all of the seat's roots in one cut). By AI agents, Wed Nov 11 2026. No macro, syntax, notation, axiom, sorry.
-/
import Derived.Test.YtdhgekogaoiidaaChecked
import GoSem.Claim
import GoSem.ClaimJoined
import GoSem.ClaimMapViews
import Derived.JoinedTies
import Derived.KernelRfl
namespace Go.Proofs.Ytdhgekogaoiidaa
/- THE CELL 'sum', in the pinned program and in every row, IS THE sha256 OF THE DUMP (.gsa) THAT YtdhgekogaoiidaaProg.lean LOADS. Nothing in Lean hashes anything: it is a label: what it is worth is what the hold of that sum in a sandbox is worth. -/
noncomputable def Try.pinned : Pinned := { name := "ytdhgekogaoiidaa", sum := "f0c8bed17ce515c0ad694c01a63135a384f48877a9b0bd8b739a283633be5912", checked := Try.checked }
namespace Rows
def none {H : Type} : Left H := { results := [], args := [] }

/-- 'fleuronlaw17.WindInside': WHATEVER THE INPUT: true; the input reads as it did. -/
def windInsideSpec : ChangeSpec := { name := "windInside", fn := fun _ => fun
  | [d1, d2, d3] => { results := [.lit (.bool true)], args := [d1, d2, d3] }
  | _ => none }
def windInsideRow : OpenClaim := { program := "ytdhgekogaoiidaa", sum := "f0c8bed17ce515c0ad694c01a63135a384f48877a9b0bd8b739a283633be5912", func := "fleuron/fleuronlaw17.WindInside", spec := "windInside", unfollowed := true, recurses := true, apart := false }
def WindInsideSaid : Prop := windInsideRow.holds Try.pinned (OpenSpec.ofChange windInsideSpec)

/-- ITS FALSE NEIGHBOUR: 'it returns false'. Refute it at one input. -/
def windInsideWrong : ChangeSpec := { name := "windInside", fn := fun _ => fun
  | [d1, d2, d3] => { results := [.lit (.bool false)], args := [d1, d2, d3] }
  | _ => none }
def WindInsideWrongFalsely : Prop := windInsideRow.holds Try.pinned (OpenSpec.ofChange windInsideWrong)

/-- 'fleuronlaw17.WindParts': WHATEVER THE INPUT: true; the input reads as it did. -/
def windPartsSpec : ChangeSpec := { name := "windParts", fn := fun _ => fun
  | [d1, d2, d3] => { results := [.lit (.bool true)], args := [d1, d2, d3] }
  | _ => none }
def windPartsRow : OpenClaim := { program := "ytdhgekogaoiidaa", sum := "f0c8bed17ce515c0ad694c01a63135a384f48877a9b0bd8b739a283633be5912", func := "fleuron/fleuronlaw17.WindParts", spec := "windParts", unfollowed := true, recurses := true, apart := false }
def WindPartsSaid : Prop := windPartsRow.holds Try.pinned (OpenSpec.ofChange windPartsSpec)

/-- ITS FALSE NEIGHBOUR: 'it returns false'. Refute it at one input. -/
def windPartsWrong : ChangeSpec := { name := "windParts", fn := fun _ => fun
  | [d1, d2, d3] => { results := [.lit (.bool false)], args := [d1, d2, d3] }
  | _ => none }
def WindPartsWrongFalsely : Prop := windPartsRow.holds Try.pinned (OpenSpec.ofChange windPartsWrong)

/-- 'fleuronlaw17.WindMany': WHATEVER THE INPUT: true; the input reads as it did. -/
def windManySpec : ChangeSpec := { name := "windMany", fn := fun _ => fun
  | [d1, d2, d3] => { results := [.lit (.bool true)], args := [d1, d2, d3] }
  | _ => none }
def windManyRow : OpenClaim := { program := "ytdhgekogaoiidaa", sum := "f0c8bed17ce515c0ad694c01a63135a384f48877a9b0bd8b739a283633be5912", func := "fleuron/fleuronlaw17.WindMany", spec := "windMany", unfollowed := true, recurses := true, apart := false }
def WindManySaid : Prop := windManyRow.holds Try.pinned (OpenSpec.ofChange windManySpec)

/-- ITS FALSE NEIGHBOUR: 'it returns false'. Refute it at one input. -/
def windManyWrong : ChangeSpec := { name := "windMany", fn := fun _ => fun
  | [d1, d2, d3] => { results := [.lit (.bool false)], args := [d1, d2, d3] }
  | _ => none }
def WindManyWrongFalsely : Prop := windManyRow.holds Try.pinned (OpenSpec.ofChange windManyWrong)

/-- 'fleuronlaw17.WindCounts': WHATEVER THE INPUT: true; the input reads as it did. -/
def windCountsSpec : ChangeSpec := { name := "windCounts", fn := fun _ => fun
  | [d1, d2] => { results := [.lit (.bool true)], args := [d1, d2] }
  | _ => none }
def windCountsRow : OpenClaim := { program := "ytdhgekogaoiidaa", sum := "f0c8bed17ce515c0ad694c01a63135a384f48877a9b0bd8b739a283633be5912", func := "fleuron/fleuronlaw17.WindCounts", spec := "windCounts", unfollowed := true, recurses := true, apart := false }
def WindCountsSaid : Prop := windCountsRow.holds Try.pinned (OpenSpec.ofChange windCountsSpec)

/-- ITS FALSE NEIGHBOUR: 'it returns false'. Refute it at one input. -/
def windCountsWrong : ChangeSpec := { name := "windCounts", fn := fun _ => fun
  | [d1, d2] => { results := [.lit (.bool false)], args := [d1, d2] }
  | _ => none }
def WindCountsWrongFalsely : Prop := windCountsRow.holds Try.pinned (OpenSpec.ofChange windCountsWrong)

/-- 'fleuronlaw17.WindSums': WHATEVER THE INPUT: true; the input reads as it did. -/
def windSumsSpec : ChangeSpec := { name := "windSums", fn := fun _ => fun
  | [d1, d2] => { results := [.lit (.bool true)], args := [d1, d2] }
  | _ => none }
def windSumsRow : OpenClaim := { program := "ytdhgekogaoiidaa", sum := "f0c8bed17ce515c0ad694c01a63135a384f48877a9b0bd8b739a283633be5912", func := "fleuron/fleuronlaw17.WindSums", spec := "windSums", unfollowed := true, recurses := true, apart := false }
def WindSumsSaid : Prop := windSumsRow.holds Try.pinned (OpenSpec.ofChange windSumsSpec)

/-- ITS FALSE NEIGHBOUR: 'it returns false'. Refute it at one input. -/
def windSumsWrong : ChangeSpec := { name := "windSums", fn := fun _ => fun
  | [d1, d2] => { results := [.lit (.bool false)], args := [d1, d2] }
  | _ => none }
def WindSumsWrongFalsely : Prop := windSumsRow.holds Try.pinned (OpenSpec.ofChange windSumsWrong)

/-- 'fleuronlaw17.WindSides': WHATEVER THE INPUT: true; the input reads as it did. -/
def windSidesSpec : ChangeSpec := { name := "windSides", fn := fun _ => fun
  | [d1, d2, d3] => { results := [.lit (.bool true)], args := [d1, d2, d3] }
  | _ => none }
def windSidesRow : OpenClaim := { program := "ytdhgekogaoiidaa", sum := "f0c8bed17ce515c0ad694c01a63135a384f48877a9b0bd8b739a283633be5912", func := "fleuron/fleuronlaw17.WindSides", spec := "windSides", unfollowed := true, recurses := true, apart := false }
def WindSidesSaid : Prop := windSidesRow.holds Try.pinned (OpenSpec.ofChange windSidesSpec)

/-- ITS FALSE NEIGHBOUR: 'it returns false'. Refute it at one input. -/
def windSidesWrong : ChangeSpec := { name := "windSides", fn := fun _ => fun
  | [d1, d2, d3] => { results := [.lit (.bool false)], args := [d1, d2, d3] }
  | _ => none }
def WindSidesWrongFalsely : Prop := windSidesRow.holds Try.pinned (OpenSpec.ofChange windSidesWrong)

/-- 'fleuronlaw17.WindConvex': WHATEVER THE INPUT: true; the input reads as it did. -/
def windConvexSpec : ChangeSpec := { name := "windConvex", fn := fun _ => fun
  | [d1, d2] => { results := [.lit (.bool true)], args := [d1, d2] }
  | _ => none }
def windConvexRow : OpenClaim := { program := "ytdhgekogaoiidaa", sum := "f0c8bed17ce515c0ad694c01a63135a384f48877a9b0bd8b739a283633be5912", func := "fleuron/fleuronlaw17.WindConvex", spec := "windConvex", unfollowed := true, recurses := true, apart := false }
def WindConvexSaid : Prop := windConvexRow.holds Try.pinned (OpenSpec.ofChange windConvexSpec)

/-- ITS FALSE NEIGHBOUR: 'it returns false'. Refute it at one input. -/
def windConvexWrong : ChangeSpec := { name := "windConvex", fn := fun _ => fun
  | [d1, d2] => { results := [.lit (.bool false)], args := [d1, d2] }
  | _ => none }
def WindConvexWrongFalsely : Prop := windConvexRow.holds Try.pinned (OpenSpec.ofChange windConvexWrong)

/-- 'fleuronlaw17.WindTurns': WHATEVER THE INPUT: true; the input reads as it did. -/
def windTurnsSpec : ChangeSpec := { name := "windTurns", fn := fun _ => fun
  | [d1, d2, d3] => { results := [.lit (.bool true)], args := [d1, d2, d3] }
  | _ => none }
def windTurnsRow : OpenClaim := { program := "ytdhgekogaoiidaa", sum := "f0c8bed17ce515c0ad694c01a63135a384f48877a9b0bd8b739a283633be5912", func := "fleuron/fleuronlaw17.WindTurns", spec := "windTurns", unfollowed := true, recurses := true, apart := false }
def WindTurnsSaid : Prop := windTurnsRow.holds Try.pinned (OpenSpec.ofChange windTurnsSpec)

/-- ITS FALSE NEIGHBOUR: 'it returns false'. Refute it at one input. -/
def windTurnsWrong : ChangeSpec := { name := "windTurns", fn := fun _ => fun
  | [d1, d2, d3] => { results := [.lit (.bool false)], args := [d1, d2, d3] }
  | _ => none }
def WindTurnsWrongFalsely : Prop := windTurnsRow.holds Try.pinned (OpenSpec.ofChange windTurnsWrong)

/-- 'fleuronlaw17.WindBack': WHATEVER THE INPUT: true; the input reads as it did. -/
def windBackSpec : ChangeSpec := { name := "windBack", fn := fun _ => fun
  | [d1, d2, d3] => { results := [.lit (.bool true)], args := [d1, d2, d3] }
  | _ => none }
def windBackRow : OpenClaim := { program := "ytdhgekogaoiidaa", sum := "f0c8bed17ce515c0ad694c01a63135a384f48877a9b0bd8b739a283633be5912", func := "fleuron/fleuronlaw17.WindBack", spec := "windBack", unfollowed := true, recurses := true, apart := false }
def WindBackSaid : Prop := windBackRow.holds Try.pinned (OpenSpec.ofChange windBackSpec)

/-- ITS FALSE NEIGHBOUR: 'it returns false'. Refute it at one input. -/
def windBackWrong : ChangeSpec := { name := "windBack", fn := fun _ => fun
  | [d1, d2, d3] => { results := [.lit (.bool false)], args := [d1, d2, d3] }
  | _ => none }
def WindBackWrongFalsely : Prop := windBackRow.holds Try.pinned (OpenSpec.ofChange windBackWrong)

/- THE SECOND FORM. 'bulk': how many values and letters a reading holds, each counted each time it is reached (what is shared counts as often as it is met; a slice's spare places count too). A statement '..UptoSaid' is the law's where the arguments, and the package variables that the reading takes, are together of bulk at most 1048576: NARROWER than '..Said'. Prove '..Said' where nothing that the law and all that it calls make is longer than what came in: it says more and counts as full. Else prove '..UptoSaid'. A law counts once. -/
mutual
def uptoBulk {H : Type} : DataW H → Nat
  | .lit (.string bytes) => bytes.length + 1
  | .lit _ => 1
  | .nil => 1
  | .ptr d => uptoBulk d + 1
  | .slice elems spare => uptoBulkAll elems + uptoBulkAll spare + 1
  | .agg parts => uptoBulkAll parts + 1
  | .iface _ d => uptoBulk d + 1
  | .map entries => uptoBulkEntries entries + 1
  | .held _ => 1
def uptoBulkAll {H : Type} : List (DataW H) → Nat
  | [] => 0
  | d :: r => uptoBulk d + uptoBulkAll r
def uptoBulkEntries {H : Type} : List (Lit × DataW H) → Nat
  | [] => 0
  | x :: r => uptoBulkEntry x + uptoBulkEntries r
def uptoBulkEntry {H : Type} : Lit × DataW H → Nat
  | (.string bytes, d) => bytes.length + uptoBulk d + 1
  | (_, d) => uptoBulk d + 1
 end
def uptoSmall : (H : Type) → List (DataW H) → Bool := fun _ ds => decide (uptoBulkAll ds ≤ 1048576)
def OpenSpec.upto (s : _root_.Go.ChangeSpec) : _root_.Go.OpenSpec := { _root_.Go.OpenSpec.ofChange s with cond := some uptoSmall }

/-- 'fleuronlaw17.WindInside', WHERE WHAT IT READS IS OF BULK AT MOST 1048576: true; the input reads as it did. -/
def windInsideUptoRow : OpenClaim := { program := "ytdhgekogaoiidaa", sum := "f0c8bed17ce515c0ad694c01a63135a384f48877a9b0bd8b739a283633be5912", func := "fleuron/fleuronlaw17.WindInside", spec := "windInside", unfollowed := true, recurses := true, apart := false, narrowed := true }
def WindInsideUptoSaid : Prop := windInsideUptoRow.holds Try.pinned (OpenSpec.upto windInsideSpec)

/-- 'fleuronlaw17.WindParts', WHERE WHAT IT READS IS OF BULK AT MOST 1048576: true; the input reads as it did. -/
def windPartsUptoRow : OpenClaim := { program := "ytdhgekogaoiidaa", sum := "f0c8bed17ce515c0ad694c01a63135a384f48877a9b0bd8b739a283633be5912", func := "fleuron/fleuronlaw17.WindParts", spec := "windParts", unfollowed := true, recurses := true, apart := false, narrowed := true }
def WindPartsUptoSaid : Prop := windPartsUptoRow.holds Try.pinned (OpenSpec.upto windPartsSpec)

/-- 'fleuronlaw17.WindMany', WHERE WHAT IT READS IS OF BULK AT MOST 1048576: true; the input reads as it did. -/
def windManyUptoRow : OpenClaim := { program := "ytdhgekogaoiidaa", sum := "f0c8bed17ce515c0ad694c01a63135a384f48877a9b0bd8b739a283633be5912", func := "fleuron/fleuronlaw17.WindMany", spec := "windMany", unfollowed := true, recurses := true, apart := false, narrowed := true }
def WindManyUptoSaid : Prop := windManyUptoRow.holds Try.pinned (OpenSpec.upto windManySpec)

/-- 'fleuronlaw17.WindCounts', WHERE WHAT IT READS IS OF BULK AT MOST 1048576: true; the input reads as it did. -/
def windCountsUptoRow : OpenClaim := { program := "ytdhgekogaoiidaa", sum := "f0c8bed17ce515c0ad694c01a63135a384f48877a9b0bd8b739a283633be5912", func := "fleuron/fleuronlaw17.WindCounts", spec := "windCounts", unfollowed := true, recurses := true, apart := false, narrowed := true }
def WindCountsUptoSaid : Prop := windCountsUptoRow.holds Try.pinned (OpenSpec.upto windCountsSpec)

/-- 'fleuronlaw17.WindSums', WHERE WHAT IT READS IS OF BULK AT MOST 1048576: true; the input reads as it did. -/
def windSumsUptoRow : OpenClaim := { program := "ytdhgekogaoiidaa", sum := "f0c8bed17ce515c0ad694c01a63135a384f48877a9b0bd8b739a283633be5912", func := "fleuron/fleuronlaw17.WindSums", spec := "windSums", unfollowed := true, recurses := true, apart := false, narrowed := true }
def WindSumsUptoSaid : Prop := windSumsUptoRow.holds Try.pinned (OpenSpec.upto windSumsSpec)

/-- 'fleuronlaw17.WindSides', WHERE WHAT IT READS IS OF BULK AT MOST 1048576: true; the input reads as it did. -/
def windSidesUptoRow : OpenClaim := { program := "ytdhgekogaoiidaa", sum := "f0c8bed17ce515c0ad694c01a63135a384f48877a9b0bd8b739a283633be5912", func := "fleuron/fleuronlaw17.WindSides", spec := "windSides", unfollowed := true, recurses := true, apart := false, narrowed := true }
def WindSidesUptoSaid : Prop := windSidesUptoRow.holds Try.pinned (OpenSpec.upto windSidesSpec)

/-- 'fleuronlaw17.WindConvex', WHERE WHAT IT READS IS OF BULK AT MOST 1048576: true; the input reads as it did. -/
def windConvexUptoRow : OpenClaim := { program := "ytdhgekogaoiidaa", sum := "f0c8bed17ce515c0ad694c01a63135a384f48877a9b0bd8b739a283633be5912", func := "fleuron/fleuronlaw17.WindConvex", spec := "windConvex", unfollowed := true, recurses := true, apart := false, narrowed := true }
def WindConvexUptoSaid : Prop := windConvexUptoRow.holds Try.pinned (OpenSpec.upto windConvexSpec)

/-- 'fleuronlaw17.WindTurns', WHERE WHAT IT READS IS OF BULK AT MOST 1048576: true; the input reads as it did. -/
def windTurnsUptoRow : OpenClaim := { program := "ytdhgekogaoiidaa", sum := "f0c8bed17ce515c0ad694c01a63135a384f48877a9b0bd8b739a283633be5912", func := "fleuron/fleuronlaw17.WindTurns", spec := "windTurns", unfollowed := true, recurses := true, apart := false, narrowed := true }
def WindTurnsUptoSaid : Prop := windTurnsUptoRow.holds Try.pinned (OpenSpec.upto windTurnsSpec)

/-- 'fleuronlaw17.WindBack', WHERE WHAT IT READS IS OF BULK AT MOST 1048576: true; the input reads as it did. -/
def windBackUptoRow : OpenClaim := { program := "ytdhgekogaoiidaa", sum := "f0c8bed17ce515c0ad694c01a63135a384f48877a9b0bd8b739a283633be5912", func := "fleuron/fleuronlaw17.WindBack", spec := "windBack", unfollowed := true, recurses := true, apart := false, narrowed := true }
def WindBackUptoSaid : Prop := windBackUptoRow.holds Try.pinned (OpenSpec.upto windBackSpec)

end Rows
end Go.Proofs.Ytdhgekogaoiidaa

/-
  No cell of these rows narrows 'for every input' (looked for: loops, veiled, ifaces, maps, wideKeys, modest, calm, conditions, laid).
  DERIVED. THE GIVEN ROWS OF THIS SEAT. 9 by the template 'for every input the law returns true; each argument reads behind the call as it read before'; 0 by the template 'total and deterministic' (their statements: YtnjlcmaelacjkaaTotals.lean).
  GIVEN WITH THE SEED: the statements are not yours to turn. If you find one false, say at which input.
  Laid BY PROGRAM, IN A SANDBOX (cutbox-rows.mjs): the forced cells as the released guide's own fill.sh prints them over the translation 28639adbfb9c0cb1… (all of the seat's roots in one cut). By AI agents, Wed Nov 11 2026. No macro, syntax, notation, axiom, sorry.
-/
import Derived.Test.YtnjlcmaelacjkaaChecked
import GoSem.Claim
import GoSem.ClaimJoined
import GoSem.ClaimMapViews
import Derived.JoinedTies
import Derived.KernelRfl
namespace Go.Proofs.Ytnjlcmaelacjkaa
/- THE CELL 'sum', in the pinned program and in every row, IS THE sha256 OF THE DUMP (.gsa) THAT YtnjlcmaelacjkaaProg.lean LOADS. Nothing in Lean hashes anything: it is a label: what it is worth is what the hold of that sum in a sandbox is worth. -/
noncomputable def Try.pinned : Pinned := { name := "ytnjlcmaelacjkaa", sum := "28639adbfb9c0cb14b019426da580cdcef65b6886909e0710ca5dc0bafd7acfa", checked := Try.checked }
namespace Rows
def none {H : Type} : Left H := { results := [], args := [] }

/-- 'fleuronlaw18.PenHulls': WHATEVER THE INPUT: true; the input reads as it did. -/
def penHullsSpec : ChangeSpec := { name := "penHulls", fn := fun _ => fun
  | [d] => { results := [.lit (.bool true)], args := [d] }
  | _ => none }
def penHullsRow : OpenClaim := { program := "ytnjlcmaelacjkaa", sum := "28639adbfb9c0cb14b019426da580cdcef65b6886909e0710ca5dc0bafd7acfa", func := "fleuron/fleuronlaw18.PenHulls", spec := "penHulls", unfollowed := true, recurses := true, apart := false }
def PenHullsSaid : Prop := penHullsRow.holds Try.pinned (OpenSpec.ofChange penHullsSpec)

/-- ITS FALSE NEIGHBOUR: 'it returns false'. Refute it at one input. -/
def penHullsWrong : ChangeSpec := { name := "penHulls", fn := fun _ => fun
  | [d] => { results := [.lit (.bool false)], args := [d] }
  | _ => none }
def PenHullsWrongFalsely : Prop := penHullsRow.holds Try.pinned (OpenSpec.ofChange penHullsWrong)

/-- 'fleuronlaw18.PenLimits': WHATEVER THE INPUT: true; the input reads as it did. -/
def penLimitsSpec : ChangeSpec := { name := "penLimits", fn := fun _ => fun
  | [d1, d2] => { results := [.lit (.bool true)], args := [d1, d2] }
  | _ => none }
def penLimitsRow : OpenClaim := { program := "ytnjlcmaelacjkaa", sum := "28639adbfb9c0cb14b019426da580cdcef65b6886909e0710ca5dc0bafd7acfa", func := "fleuron/fleuronlaw18.PenLimits", spec := "penLimits", unfollowed := true, recurses := true, apart := false }
def PenLimitsSaid : Prop := penLimitsRow.holds Try.pinned (OpenSpec.ofChange penLimitsSpec)

/-- ITS FALSE NEIGHBOUR: 'it returns false'. Refute it at one input. -/
def penLimitsWrong : ChangeSpec := { name := "penLimits", fn := fun _ => fun
  | [d1, d2] => { results := [.lit (.bool false)], args := [d1, d2] }
  | _ => none }
def PenLimitsWrongFalsely : Prop := penLimitsRow.holds Try.pinned (OpenSpec.ofChange penLimitsWrong)

/-- 'fleuronlaw18.PenCovers': WHATEVER THE INPUT: true; the input reads as it did. -/
def penCoversSpec : ChangeSpec := { name := "penCovers", fn := fun _ => fun
  | [d1, d2] => { results := [.lit (.bool true)], args := [d1, d2] }
  | _ => none }
def penCoversRow : OpenClaim := { program := "ytnjlcmaelacjkaa", sum := "28639adbfb9c0cb14b019426da580cdcef65b6886909e0710ca5dc0bafd7acfa", func := "fleuron/fleuronlaw18.PenCovers", spec := "penCovers", unfollowed := true, recurses := true, apart := false }
def PenCoversSaid : Prop := penCoversRow.holds Try.pinned (OpenSpec.ofChange penCoversSpec)

/-- ITS FALSE NEIGHBOUR: 'it returns false'. Refute it at one input. -/
def penCoversWrong : ChangeSpec := { name := "penCovers", fn := fun _ => fun
  | [d1, d2] => { results := [.lit (.bool false)], args := [d1, d2] }
  | _ => none }
def PenCoversWrongFalsely : Prop := penCoversRow.holds Try.pinned (OpenSpec.ofChange penCoversWrong)

/-- 'fleuronlaw18.PenAlong': WHATEVER THE INPUT: true; the input reads as it did. -/
def penAlongSpec : ChangeSpec := { name := "penAlong", fn := fun _ => fun
  | [d1, d2, d3] => { results := [.lit (.bool true)], args := [d1, d2, d3] }
  | _ => none }
def penAlongRow : OpenClaim := { program := "ytnjlcmaelacjkaa", sum := "28639adbfb9c0cb14b019426da580cdcef65b6886909e0710ca5dc0bafd7acfa", func := "fleuron/fleuronlaw18.PenAlong", spec := "penAlong", unfollowed := true, recurses := true, apart := false }
def PenAlongSaid : Prop := penAlongRow.holds Try.pinned (OpenSpec.ofChange penAlongSpec)

/-- ITS FALSE NEIGHBOUR: 'it returns false'. Refute it at one input. -/
def penAlongWrong : ChangeSpec := { name := "penAlong", fn := fun _ => fun
  | [d1, d2, d3] => { results := [.lit (.bool false)], args := [d1, d2, d3] }
  | _ => none }
def PenAlongWrongFalsely : Prop := penAlongRow.holds Try.pinned (OpenSpec.ofChange penAlongWrong)

/-- 'fleuronlaw18.PenRound': WHATEVER THE INPUT: true; the input reads as it did. -/
def penRoundSpec : ChangeSpec := { name := "penRound", fn := fun _ => fun
  | [d1, d2] => { results := [.lit (.bool true)], args := [d1, d2] }
  | _ => none }
def penRoundRow : OpenClaim := { program := "ytnjlcmaelacjkaa", sum := "28639adbfb9c0cb14b019426da580cdcef65b6886909e0710ca5dc0bafd7acfa", func := "fleuron/fleuronlaw18.PenRound", spec := "penRound", unfollowed := true, recurses := true, apart := false }
def PenRoundSaid : Prop := penRoundRow.holds Try.pinned (OpenSpec.ofChange penRoundSpec)

/-- ITS FALSE NEIGHBOUR: 'it returns false'. Refute it at one input. -/
def penRoundWrong : ChangeSpec := { name := "penRound", fn := fun _ => fun
  | [d1, d2] => { results := [.lit (.bool false)], args := [d1, d2] }
  | _ => none }
def PenRoundWrongFalsely : Prop := penRoundRow.holds Try.pinned (OpenSpec.ofChange penRoundWrong)

/-- 'fleuronlaw18.PenSweeps': WHATEVER THE INPUT: true; the input reads as it did. -/
def penSweepsSpec : ChangeSpec := { name := "penSweeps", fn := fun _ => fun
  | [d1, d2, d3] => { results := [.lit (.bool true)], args := [d1, d2, d3] }
  | _ => none }
def penSweepsRow : OpenClaim := { program := "ytnjlcmaelacjkaa", sum := "28639adbfb9c0cb14b019426da580cdcef65b6886909e0710ca5dc0bafd7acfa", func := "fleuron/fleuronlaw18.PenSweeps", spec := "penSweeps", unfollowed := true, recurses := true, apart := false }
def PenSweepsSaid : Prop := penSweepsRow.holds Try.pinned (OpenSpec.ofChange penSweepsSpec)

/-- ITS FALSE NEIGHBOUR: 'it returns false'. Refute it at one input. -/
def penSweepsWrong : ChangeSpec := { name := "penSweeps", fn := fun _ => fun
  | [d1, d2, d3] => { results := [.lit (.bool false)], args := [d1, d2, d3] }
  | _ => none }
def PenSweepsWrongFalsely : Prop := penSweepsRow.holds Try.pinned (OpenSpec.ofChange penSweepsWrong)

/-- 'fleuronlaw18.PenTurned': WHATEVER THE INPUT: true; the input reads as it did. -/
def penTurnedSpec : ChangeSpec := { name := "penTurned", fn := fun _ => fun
  | [d1, d2, d3] => { results := [.lit (.bool true)], args := [d1, d2, d3] }
  | _ => none }
def penTurnedRow : OpenClaim := { program := "ytnjlcmaelacjkaa", sum := "28639adbfb9c0cb14b019426da580cdcef65b6886909e0710ca5dc0bafd7acfa", func := "fleuron/fleuronlaw18.PenTurned", spec := "penTurned", unfollowed := true, recurses := true, apart := false }
def PenTurnedSaid : Prop := penTurnedRow.holds Try.pinned (OpenSpec.ofChange penTurnedSpec)

/-- ITS FALSE NEIGHBOUR: 'it returns false'. Refute it at one input. -/
def penTurnedWrong : ChangeSpec := { name := "penTurned", fn := fun _ => fun
  | [d1, d2, d3] => { results := [.lit (.bool false)], args := [d1, d2, d3] }
  | _ => none }
def PenTurnedWrongFalsely : Prop := penTurnedRow.holds Try.pinned (OpenSpec.ofChange penTurnedWrong)

/-- 'fleuronlaw18.PenRing': WHATEVER THE INPUT: true; the input reads as it did. -/
def penRingSpec : ChangeSpec := { name := "penRing", fn := fun _ => fun
  | [d1, d2] => { results := [.lit (.bool true)], args := [d1, d2] }
  | _ => none }
def penRingRow : OpenClaim := { program := "ytnjlcmaelacjkaa", sum := "28639adbfb9c0cb14b019426da580cdcef65b6886909e0710ca5dc0bafd7acfa", func := "fleuron/fleuronlaw18.PenRing", spec := "penRing", unfollowed := true, recurses := true, apart := false }
def PenRingSaid : Prop := penRingRow.holds Try.pinned (OpenSpec.ofChange penRingSpec)

/-- ITS FALSE NEIGHBOUR: 'it returns false'. Refute it at one input. -/
def penRingWrong : ChangeSpec := { name := "penRing", fn := fun _ => fun
  | [d1, d2] => { results := [.lit (.bool false)], args := [d1, d2] }
  | _ => none }
def PenRingWrongFalsely : Prop := penRingRow.holds Try.pinned (OpenSpec.ofChange penRingWrong)

/-- 'fleuronlaw18.PenSums': WHATEVER THE INPUT: true; the input reads as it did. -/
def penSumsSpec : ChangeSpec := { name := "penSums", fn := fun _ => fun
  | [d1, d2, d3] => { results := [.lit (.bool true)], args := [d1, d2, d3] }
  | _ => none }
def penSumsRow : OpenClaim := { program := "ytnjlcmaelacjkaa", sum := "28639adbfb9c0cb14b019426da580cdcef65b6886909e0710ca5dc0bafd7acfa", func := "fleuron/fleuronlaw18.PenSums", spec := "penSums", unfollowed := true, recurses := true, apart := false }
def PenSumsSaid : Prop := penSumsRow.holds Try.pinned (OpenSpec.ofChange penSumsSpec)

/-- ITS FALSE NEIGHBOUR: 'it returns false'. Refute it at one input. -/
def penSumsWrong : ChangeSpec := { name := "penSums", fn := fun _ => fun
  | [d1, d2, d3] => { results := [.lit (.bool false)], args := [d1, d2, d3] }
  | _ => none }
def PenSumsWrongFalsely : Prop := penSumsRow.holds Try.pinned (OpenSpec.ofChange penSumsWrong)

/- THE SECOND FORM. 'bulk': how many values and letters a reading holds, each counted each time it is reached (what is shared counts as often as it is met; a slice's spare places count too). A statement '..UptoSaid' is the law's where the arguments, and the package variables that the reading takes, are together of bulk at most 1048576: NARROWER than '..Said'. Prove '..Said' where nothing that the law and all that it calls make is longer than what came in: it says more and counts as full. Else prove '..UptoSaid'. A law counts once. -/
mutual
def uptoBulk {H : Type} : DataW H → Nat
  | .lit (.string bytes) => bytes.length + 1
  | .lit _ => 1
  | .nil => 1
  | .ptr d => uptoBulk d + 1
  | .slice elems spare => uptoBulkAll elems + uptoBulkAll spare + 1
  | .agg parts => uptoBulkAll parts + 1
  | .iface _ d => uptoBulk d + 1
  | .map entries => uptoBulkEntries entries + 1
  | .held _ => 1
def uptoBulkAll {H : Type} : List (DataW H) → Nat
  | [] => 0
  | d :: r => uptoBulk d + uptoBulkAll r
def uptoBulkEntries {H : Type} : List (Lit × DataW H) → Nat
  | [] => 0
  | x :: r => uptoBulkEntry x + uptoBulkEntries r
def uptoBulkEntry {H : Type} : Lit × DataW H → Nat
  | (.string bytes, d) => bytes.length + uptoBulk d + 1
  | (_, d) => uptoBulk d + 1
 end
def uptoSmall : (H : Type) → List (DataW H) → Bool := fun _ ds => decide (uptoBulkAll ds ≤ 1048576)
def OpenSpec.upto (s : _root_.Go.ChangeSpec) : _root_.Go.OpenSpec := { _root_.Go.OpenSpec.ofChange s with cond := some uptoSmall }

/-- 'fleuronlaw18.PenHulls', WHERE WHAT IT READS IS OF BULK AT MOST 1048576: true; the input reads as it did. -/
def penHullsUptoRow : OpenClaim := { program := "ytnjlcmaelacjkaa", sum := "28639adbfb9c0cb14b019426da580cdcef65b6886909e0710ca5dc0bafd7acfa", func := "fleuron/fleuronlaw18.PenHulls", spec := "penHulls", unfollowed := true, recurses := true, apart := false, narrowed := true }
def PenHullsUptoSaid : Prop := penHullsUptoRow.holds Try.pinned (OpenSpec.upto penHullsSpec)

/-- 'fleuronlaw18.PenLimits', WHERE WHAT IT READS IS OF BULK AT MOST 1048576: true; the input reads as it did. -/
def penLimitsUptoRow : OpenClaim := { program := "ytnjlcmaelacjkaa", sum := "28639adbfb9c0cb14b019426da580cdcef65b6886909e0710ca5dc0bafd7acfa", func := "fleuron/fleuronlaw18.PenLimits", spec := "penLimits", unfollowed := true, recurses := true, apart := false, narrowed := true }
def PenLimitsUptoSaid : Prop := penLimitsUptoRow.holds Try.pinned (OpenSpec.upto penLimitsSpec)

/-- 'fleuronlaw18.PenCovers', WHERE WHAT IT READS IS OF BULK AT MOST 1048576: true; the input reads as it did. -/
def penCoversUptoRow : OpenClaim := { program := "ytnjlcmaelacjkaa", sum := "28639adbfb9c0cb14b019426da580cdcef65b6886909e0710ca5dc0bafd7acfa", func := "fleuron/fleuronlaw18.PenCovers", spec := "penCovers", unfollowed := true, recurses := true, apart := false, narrowed := true }
def PenCoversUptoSaid : Prop := penCoversUptoRow.holds Try.pinned (OpenSpec.upto penCoversSpec)

/-- 'fleuronlaw18.PenAlong', WHERE WHAT IT READS IS OF BULK AT MOST 1048576: true; the input reads as it did. -/
def penAlongUptoRow : OpenClaim := { program := "ytnjlcmaelacjkaa", sum := "28639adbfb9c0cb14b019426da580cdcef65b6886909e0710ca5dc0bafd7acfa", func := "fleuron/fleuronlaw18.PenAlong", spec := "penAlong", unfollowed := true, recurses := true, apart := false, narrowed := true }
def PenAlongUptoSaid : Prop := penAlongUptoRow.holds Try.pinned (OpenSpec.upto penAlongSpec)

/-- 'fleuronlaw18.PenRound', WHERE WHAT IT READS IS OF BULK AT MOST 1048576: true; the input reads as it did. -/
def penRoundUptoRow : OpenClaim := { program := "ytnjlcmaelacjkaa", sum := "28639adbfb9c0cb14b019426da580cdcef65b6886909e0710ca5dc0bafd7acfa", func := "fleuron/fleuronlaw18.PenRound", spec := "penRound", unfollowed := true, recurses := true, apart := false, narrowed := true }
def PenRoundUptoSaid : Prop := penRoundUptoRow.holds Try.pinned (OpenSpec.upto penRoundSpec)

/-- 'fleuronlaw18.PenSweeps', WHERE WHAT IT READS IS OF BULK AT MOST 1048576: true; the input reads as it did. -/
def penSweepsUptoRow : OpenClaim := { program := "ytnjlcmaelacjkaa", sum := "28639adbfb9c0cb14b019426da580cdcef65b6886909e0710ca5dc0bafd7acfa", func := "fleuron/fleuronlaw18.PenSweeps", spec := "penSweeps", unfollowed := true, recurses := true, apart := false, narrowed := true }
def PenSweepsUptoSaid : Prop := penSweepsUptoRow.holds Try.pinned (OpenSpec.upto penSweepsSpec)

/-- 'fleuronlaw18.PenTurned', WHERE WHAT IT READS IS OF BULK AT MOST 1048576: true; the input reads as it did. -/
def penTurnedUptoRow : OpenClaim := { program := "ytnjlcmaelacjkaa", sum := "28639adbfb9c0cb14b019426da580cdcef65b6886909e0710ca5dc0bafd7acfa", func := "fleuron/fleuronlaw18.PenTurned", spec := "penTurned", unfollowed := true, recurses := true, apart := false, narrowed := true }
def PenTurnedUptoSaid : Prop := penTurnedUptoRow.holds Try.pinned (OpenSpec.upto penTurnedSpec)

/-- 'fleuronlaw18.PenRing', WHERE WHAT IT READS IS OF BULK AT MOST 1048576: true; the input reads as it did. -/
def penRingUptoRow : OpenClaim := { program := "ytnjlcmaelacjkaa", sum := "28639adbfb9c0cb14b019426da580cdcef65b6886909e0710ca5dc0bafd7acfa", func := "fleuron/fleuronlaw18.PenRing", spec := "penRing", unfollowed := true, recurses := true, apart := false, narrowed := true }
def PenRingUptoSaid : Prop := penRingUptoRow.holds Try.pinned (OpenSpec.upto penRingSpec)

/-- 'fleuronlaw18.PenSums', WHERE WHAT IT READS IS OF BULK AT MOST 1048576: true; the input reads as it did. -/
def penSumsUptoRow : OpenClaim := { program := "ytnjlcmaelacjkaa", sum := "28639adbfb9c0cb14b019426da580cdcef65b6886909e0710ca5dc0bafd7acfa", func := "fleuron/fleuronlaw18.PenSums", spec := "penSums", unfollowed := true, recurses := true, apart := false, narrowed := true }
def PenSumsUptoSaid : Prop := penSumsUptoRow.holds Try.pinned (OpenSpec.upto penSumsSpec)

end Rows
end Go.Proofs.Ytnjlcmaelacjkaa

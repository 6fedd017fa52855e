/-  The pure statement of ScanCounts: written by a program of this session's; the proof is the session's.  -/
import Derived.Test.YtckjlckhjcbddaaPH3x15
import Derived.Test.YtckjlckhjcbddaaOpens
namespace Go.Proofs.Ytckjlckhjcbddaa.PH3
open Go.RowKit Go.Proofs.YtckjlckhjcbddaaW.Row Go.Proofs.YtckjlckhjcbddaaW.PrintWords Go.Proofs.YtckjlckhjcbddaaW.PrintLast
def good36 (x : S36) : Prop := ((Lit.int .i64 x.f0).wf = true) ∧ ((Lit.int .i64 x.f1).wf = true)
theorem op36 : Opens Try.prog k36 36 good36 := opens_iso (fun x : S36 => (x.f0, x.f1)) (fun p => ⟨p.1, p.2⟩) (fun _ => rfl) (opens_arr2 Try.underlying36 (by kernel_rfl) (opens_int Try.underlying3))
def fleuronlaw19_ScanCounts.Pure : Prop := ∀ (a0 : List (S36)) (a1 : List (S36)), ((a0.length * 16 ≤ 140737488351232 ∧ a0.length ≤ 9223372036854775807) ∧ ∀ x265 ∈ a0, good36 x265) → ((a1.length * 16 ≤ 140737488351232 ∧ a1.length ≤ 9223372036854775807) ∧ ∀ x266 ∈ a1, good36 x266) → ∃ k, fleuronlaw19_ScanCounts.f k a0 a1 = some true
end Go.Proofs.Ytckjlckhjcbddaa.PH3

/-  The pure statement of ScanSamples: written by a program of this session's; the proof is the session's.  -/
import Derived.Test.YtckjlckhjcbddaaGreatPG3x37
import Derived.Test.YtckjlckhjcbddaaGreatOpens
namespace Go.Proofs.YtckjlckhjcbddaaGreat.PG3
open Go.RowKit Go.Proofs.YtckjlckhjcbddaaGreatW.Row Go.Proofs.YtckjlckhjcbddaaGreatW.PrintWords Go.Proofs.YtckjlckhjcbddaaGreatW.PrintLast
def good47 (x : S47) : Prop := ((Lit.int .i64 x.f0).wf = true) ∧ ((Lit.int .i64 x.f1).wf = true)
theorem op47 : Opens Tryz.prog k47 47 good47 := opens_iso (fun x : S47 => (x.f0, x.f1)) (fun p => ⟨p.1, p.2⟩) (fun _ => rfl) (opens_struct2 Tryz.underlying47 rfl (by kernel_rfl) (by kernel_rfl) (opens_int Tryz.underlying3) (opens_int Tryz.underlying3))
def fleuronlaw19_ScanSamples.Pure : Prop := ∀ (a0 : List (List (S47))) (a1 : List (S47)) (a2 : List (S47)), ((a0.length * 24 ≤ 140737488351232 ∧ a0.length ≤ 9223372036854775807) ∧ ∀ x552 ∈ a0, (x552.length * 16 ≤ 140737488351232 ∧ x552.length ≤ 9223372036854775807) ∧ ∀ x551 ∈ x552, good47 x551) → ((a1.length * 16 ≤ 140737488351232 ∧ a1.length ≤ 9223372036854775807) ∧ ∀ x553 ∈ a1, good47 x553) → ((a2.length * 16 ≤ 140737488351232 ∧ a2.length ≤ 9223372036854775807) ∧ ∀ x554 ∈ a2, good47 x554) → ∃ k, fleuronlaw19_ScanSamples.f k a0 a1 a2 = some true
end Go.Proofs.YtckjlckhjcbddaaGreat.PG3

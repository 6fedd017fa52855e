/-  The pure statement of ScanSets: written by a program of this session's; the proof is the session's.  -/
import Derived.Test.YtckjlckhjcbddaaGreatPG3x35
import Derived.Test.YtckjlckhjcbddaaGreatOpens
namespace Go.Proofs.YtckjlckhjcbddaaGreat.PG3
open Go.RowKit Go.Proofs.YtckjlckhjcbddaaGreatW.Row Go.Proofs.YtckjlckhjcbddaaGreatW.PrintWords Go.Proofs.YtckjlckhjcbddaaGreatW.PrintLast
def good23 (x : S23) : Prop := ((Lit.int .i64 x.f0).wf = true) ∧ ((Lit.int .i64 x.f1).wf = true)
theorem op23 : Opens Tryz.prog k23 23 good23 := opens_iso (fun x : S23 => (x.f0, x.f1)) (fun p => ⟨p.1, p.2⟩) (fun _ => rfl) (opens_arr2 Tryz.underlying23 (by kernel_rfl) (opens_int Tryz.underlying3))
def fleuronlaw19_ScanSets.Pure : Prop := ∀ (a0 : List (S23)) (a1 : List (S23)) (a2 : Int), ((a0.length * 16 ≤ 140737488351232 ∧ a0.length ≤ 9223372036854775807) ∧ ∀ x543 ∈ a0, good23 x543) → ((a1.length * 16 ≤ 140737488351232 ∧ a1.length ≤ 9223372036854775807) ∧ ∀ x544 ∈ a1, good23 x544) → ((Lit.int .i64 a2).wf = true) → ∃ k, fleuronlaw19_ScanSets.f k a0 a1 a2 = some true
end Go.Proofs.YtckjlckhjcbddaaGreat.PG3

/-  The pure statement of PenRing: written by a program of this session's; the proof is the session's.  -/
import Derived.Test.YtnjlcmaelacjkaaPD3x25
import Derived.Test.YtnjlcmaelacjkaaOpens
namespace Go.Proofs.Ytnjlcmaelacjkaa.PD3
open Go.RowKit Go.Proofs.YtnjlcmaelacjkaaW.Row Go.Proofs.YtnjlcmaelacjkaaW.PrintWords Go.Proofs.YtnjlcmaelacjkaaW.PrintLast
def good33 (x : S33) : Prop := ((Lit.int .i64 x.f0).wf = true) ∧ ((Lit.int .i64 x.f1).wf = true)
theorem op33 : Opens Try.prog k33 33 good33 := opens_iso (fun x : S33 => (x.f0, x.f1)) (fun p => ⟨p.1, p.2⟩) (fun _ => rfl) (opens_struct2 Try.underlying33 rfl (by kernel_rfl) (by kernel_rfl) (opens_int Try.underlying3) (opens_int Try.underlying3))
def fleuronlaw18_PenRing.Pure : Prop := ∀ (a0 : (List (S33) × List (S33) × List (S33))) (a1 : (Int × Int)), (((a0.1.length * 16 ≤ 140737488351232 ∧ a0.1.length ≤ 9223372036854775807) ∧ ∀ x331 ∈ a0.1, good33 x331) ∧ ((a0.2.1.length * 16 ≤ 140737488351232 ∧ a0.2.1.length ≤ 9223372036854775807) ∧ ∀ x331 ∈ a0.2.1, good33 x331) ∧ ((a0.2.2.length * 16 ≤ 140737488351232 ∧ a0.2.2.length ≤ 9223372036854775807) ∧ ∀ x331 ∈ a0.2.2, good33 x331)) → (((Lit.int .i64 a1.1).wf = true) ∧ ((Lit.int .i64 a1.2).wf = true)) → ∃ k, fleuronlaw18_PenRing.P k a0.1 a0.2.1 a0.2.2 a1.1 a1.2
end Go.Proofs.Ytnjlcmaelacjkaa.PD3

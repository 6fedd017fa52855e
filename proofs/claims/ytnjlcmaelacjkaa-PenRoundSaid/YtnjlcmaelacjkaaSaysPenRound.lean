/-  The pure statement of PenRound: written by a program of this session's; the proof is the session's.  -/
import Derived.Test.YtnjlcmaelacjkaaPD2x23
import Derived.Test.YtnjlcmaelacjkaaOpens
namespace Go.Proofs.Ytnjlcmaelacjkaa.PD2
open Go.RowKit Go.Proofs.YtnjlcmaelacjkaaW.Row Go.Proofs.YtnjlcmaelacjkaaW.PrintWords Go.Proofs.YtnjlcmaelacjkaaW.PrintLast
def good33 (x : S33) : Prop := ((Lit.int .i64 x.f0).wf = true) ∧ ((Lit.int .i64 x.f1).wf = true)
theorem op33 : Opens Try.prog k33 33 good33 := opens_iso (fun x : S33 => (x.f0, x.f1)) (fun p => ⟨p.1, p.2⟩) (fun _ => rfl) (opens_struct2 Try.underlying33 rfl (by kernel_rfl) (by kernel_rfl) (opens_int Try.underlying3) (opens_int Try.underlying3))
def fleuronlaw18_PenRound.Pure : Prop := ∀ (a0 : List (S33)) (a1 : Int), ((a0.length * 16 ≤ 140737488351232 ∧ a0.length ≤ 9223372036854775807) ∧ ∀ x475 ∈ a0, good33 x475) → ((Lit.int .i64 a1).wf = true) → ∃ k, fleuronlaw18_PenRound.f k a0 a1 = some true
end Go.Proofs.Ytnjlcmaelacjkaa.PD2

/-  The pure statement of PenTurned: written by a program of this session's; the proof is the session's.  -/
import Derived.Test.YtnjlcmaelacjkaaPD3x23
import Derived.Test.YtnjlcmaelacjkaaOpens
namespace Go.Proofs.Ytnjlcmaelacjkaa.PD3
open Go.RowKit Go.Proofs.YtnjlcmaelacjkaaW.Row Go.Proofs.YtnjlcmaelacjkaaW.PrintWords Go.Proofs.YtnjlcmaelacjkaaW.PrintLast
def good33 (x : S33) : Prop := ((Lit.int .i64 x.f0).wf = true) ∧ ((Lit.int .i64 x.f1).wf = true)
theorem op33 : Opens Try.prog k33 33 good33 := opens_iso (fun x : S33 => (x.f0, x.f1)) (fun p => ⟨p.1, p.2⟩) (fun _ => rfl) (opens_struct2 Try.underlying33 rfl (by kernel_rfl) (by kernel_rfl) (opens_int Try.underlying3) (opens_int Try.underlying3))
def fleuronlaw18_PenTurned.Pure : Prop := ∀ (a0 : List (S33)) (a1 : List (S33)) (a2 : (S33 × S33 × S33)), ((a0.length * 16 ≤ 140737488351232 ∧ a0.length ≤ 9223372036854775807) ∧ ∀ x327 ∈ a0, good33 x327) → ((a1.length * 16 ≤ 140737488351232 ∧ a1.length ≤ 9223372036854775807) ∧ ∀ x328 ∈ a1, good33 x328) → ((good33 a2.1) ∧ (good33 a2.2.1) ∧ (good33 a2.2.2)) → ∃ k, fleuronlaw18_PenTurned.P k a0 a1 a2.1.f0 a2.1.f1 a2.2.1.f0 a2.2.1.f1 a2.2.2.f0 a2.2.2.f1
end Go.Proofs.Ytnjlcmaelacjkaa.PD3

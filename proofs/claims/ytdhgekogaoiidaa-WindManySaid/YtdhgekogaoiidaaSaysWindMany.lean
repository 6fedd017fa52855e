/-  The pure statement of WindMany: written by a program of this session's; the proof is the session's.  -/
import Derived.Test.YtdhgekogaoiidaaPT6x7
import Derived.Test.YtdhgekogaoiidaaOpens
namespace Go.Proofs.Ytdhgekogaoiidaa.PT6
open Go.RowKit Go.Proofs.YtdhgekogaoiidaaW.Row Go.Proofs.YtdhgekogaoiidaaW.PrintWords Go.Proofs.YtdhgekogaoiidaaW.PrintLast
def good24 (x : S24) : Prop := ((Lit.int .i64 x.f0).wf = true) ∧ ((Lit.int .i64 x.f1).wf = true)
theorem op24 : Opens Try.prog k24 24 good24 := opens_iso (fun x : S24 => (x.f0, x.f1)) (fun p => ⟨p.1, p.2⟩) (fun _ => rfl) (opens_struct2 Try.underlying24 rfl (by kernel_rfl) (by kernel_rfl) (opens_int Try.underlying3) (opens_int Try.underlying3))
def fleuronlaw17_WindMany.Pure : Prop := ∀ (a0 : List (List (S24))) (a1 : List (S24)) (a2 : S24), ((a0.length * 24 ≤ 140737488351232 ∧ a0.length ≤ 9223372036854775807) ∧ ∀ x147 ∈ a0, (x147.length * 16 ≤ 140737488351232 ∧ x147.length ≤ 9223372036854775807) ∧ ∀ x146 ∈ x147, good24 x146) → ((a1.length * 16 ≤ 140737488351232 ∧ a1.length ≤ 9223372036854775807) ∧ ∀ x148 ∈ a1, good24 x148) → (good24 a2) → ∃ k, fleuronlaw17_WindMany.P k a0 a1 a2.f0 a2.f1
end Go.Proofs.Ytdhgekogaoiidaa.PT6

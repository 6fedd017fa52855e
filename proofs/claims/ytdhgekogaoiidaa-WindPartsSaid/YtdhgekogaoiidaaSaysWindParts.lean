/-  The pure statement of WindParts: written by a program of this session's; the proof is the session's.  -/
import Derived.Test.YtdhgekogaoiidaaPT5x7
import Derived.Test.YtdhgekogaoiidaaOpens
namespace Go.Proofs.Ytdhgekogaoiidaa.PT5
open Go.RowKit Go.Proofs.YtdhgekogaoiidaaW.Row Go.Proofs.YtdhgekogaoiidaaW.PrintWords Go.Proofs.YtdhgekogaoiidaaW.PrintLast
def good24 (x : S24) : Prop := ((Lit.int .i64 x.f0).wf = true) ∧ ((Lit.int .i64 x.f1).wf = true)
theorem op24 : Opens Try.prog k24 24 good24 := opens_iso (fun x : S24 => (x.f0, x.f1)) (fun p => ⟨p.1, p.2⟩) (fun _ => rfl) (opens_struct2 Try.underlying24 rfl (by kernel_rfl) (by kernel_rfl) (opens_int Try.underlying3) (opens_int Try.underlying3))
def fleuronlaw17_WindParts.Pure : Prop := ∀ (a0 : List (S24)) (a1 : S24) (a2 : (Int × Int)), ((a0.length * 16 ≤ 140737488351232 ∧ a0.length ≤ 9223372036854775807) ∧ ∀ x157 ∈ a0, good24 x157) → (good24 a1) → (((Lit.int .i64 a2.1).wf = true) ∧ ((Lit.int .i64 a2.2).wf = true)) → ∃ k, fleuronlaw17_WindParts.P k a0 a1.f0 a1.f1 a2.1 a2.2
end Go.Proofs.Ytdhgekogaoiidaa.PT5

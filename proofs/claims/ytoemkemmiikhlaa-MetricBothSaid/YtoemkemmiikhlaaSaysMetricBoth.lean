/-  The pure statement of MetricBoth: written by a program of this session's; the proof is the session's.  -/
import Derived.Test.YtoemkemmiikhlaaPC2x19
import Derived.Test.YtoemkemmiikhlaaOpens
namespace Go.Proofs.Ytoemkemmiikhlaa.PC2
open Go.RowKit Go.Proofs.YtoemkemmiikhlaaW.Row Go.Proofs.YtoemkemmiikhlaaW.PrintWords Go.Proofs.YtoemkemmiikhlaaW.PrintLast
def good41 (x : S41) : Prop := ((Lit.int .i64 x.f0).wf = true) ∧ ((Lit.int .i64 x.f1).wf = true) ∧ ((Lit.int .i64 x.f2).wf = true) ∧ ((Lit.int .i64 x.f3).wf = true)
theorem op41 : Opens Try.prog k41 41 good41 := opens_iso (fun x : S41 => (x.f0, x.f1, x.f2, x.f3)) (fun p => ⟨p.1, p.2.1, p.2.2.1, p.2.2.2⟩) (fun _ => rfl) (opens_struct4 Try.underlying41 rfl (by kernel_rfl) (by kernel_rfl) (by kernel_rfl) (by kernel_rfl) (opens_int Try.underlying3) (opens_int Try.underlying3) (opens_int Try.underlying3) (opens_int Try.underlying3))
def good46 (x : S46) : Prop := ((Lit.int .i64 x.f0).wf = true) ∧ ((Lit.int .i64 x.f1).wf = true) ∧ ((Lit.int .i64 x.f2).wf = true) ∧ ((Lit.int .i64 x.f3).wf = true)
theorem op46 : Opens Try.prog k46 46 good46 := opens_iso (fun x : S46 => (x.f0, x.f1, x.f2, x.f3)) (fun p => ⟨p.1, p.2.1, p.2.2.1, p.2.2.2⟩) (fun _ => rfl) (opens_struct4 Try.underlying46 rfl (by kernel_rfl) (by kernel_rfl) (by kernel_rfl) (by kernel_rfl) (opens_int Try.underlying3) (opens_int Try.underlying3) (opens_int Try.underlying44) (opens_int Try.underlying3))
def good25 (x : S25) : Prop := ((Lit.int .i64 x.f0).wf = true) ∧ ((x.f1.length * 32 ≤ 140737488351232 ∧ x.f1.length ≤ 9223372036854775807) ∧ ∀ x139 ∈ x.f1, good41 x139) ∧ ((x.f2.length * 32 ≤ 140737488351232 ∧ x.f2.length ≤ 9223372036854775807) ∧ ∀ x140 ∈ x.f2, good46 x140)
theorem op25 : Opens Try.prog k25 25 good25 := opens_iso (fun x : S25 => (x.f0, x.f1, x.f2)) (fun p => ⟨p.1, p.2.1, p.2.2⟩) (fun _ => rfl) (opens_struct3 Try.underlying25 rfl (by kernel_rfl) (by kernel_rfl) (by kernel_rfl) (opens_int Try.underlying3) (opens_slice (B := 32) z41 Try.underlying22 (by kernel_rfl) (by kernel_rfl) op41) (opens_slice (B := 32) z46 Try.underlying23 (by kernel_rfl) (by kernel_rfl) op46))
def fleuronlaw27_MetricBoth.Pure : Prop := ∀ (a0 : S25) (a1 : S25), (good25 a0) → (good25 a1) → ∃ k, fleuronlaw27_MetricBoth.P k a0.f0 a0.f1 a0.f2 a1.f0 a1.f1 a1.f2
end Go.Proofs.Ytoemkemmiikhlaa.PC2

/-  The pure statement of MetricMerges: written by a program of this session's; the proof is the session's.  -/
import Derived.Test.YtoemkemmiikhlaaGreatPF4x21
import Derived.Test.YtoemkemmiikhlaaGreatOpens
namespace Go.Proofs.YtoemkemmiikhlaaGreat.PF4
open Go.RowKit Go.Proofs.YtoemkemmiikhlaaGreatW.Row Go.Proofs.YtoemkemmiikhlaaGreatW.PrintWords Go.Proofs.YtoemkemmiikhlaaGreatW.PrintLast
def good50 (x : S50) : Prop := ((Lit.int .i64 x.f0).wf = true) ∧ ((Lit.int .i64 x.f1).wf = true) ∧ ((Lit.int .i64 x.f2).wf = true) ∧ ((Lit.int .i64 x.f3).wf = true)
theorem op50 : Opens Tryz.prog k50 50 good50 := opens_iso (fun x : S50 => (x.f0, x.f1, x.f2, x.f3)) (fun p => ⟨p.1, p.2.1, p.2.2.1, p.2.2.2⟩) (fun _ => rfl) (opens_struct4 Tryz.underlying50 rfl (by kernel_rfl) (by kernel_rfl) (by kernel_rfl) (by kernel_rfl) (opens_int Tryz.underlying3) (opens_int Tryz.underlying3) (opens_int Tryz.underlying3) (opens_int Tryz.underlying3))
def good45 (x : S45) : Prop := ((Lit.int .i64 x.f0).wf = true) ∧ ((Lit.int .i64 x.f1).wf = true) ∧ ((Lit.int .i64 x.f2).wf = true) ∧ ((Lit.int .i64 x.f3).wf = true)
theorem op45 : Opens Tryz.prog k45 45 good45 := opens_iso (fun x : S45 => (x.f0, x.f1, x.f2, x.f3)) (fun p => ⟨p.1, p.2.1, p.2.2.1, p.2.2.2⟩) (fun _ => rfl) (opens_struct4 Tryz.underlying45 rfl (by kernel_rfl) (by kernel_rfl) (by kernel_rfl) (by kernel_rfl) (opens_int Tryz.underlying3) (opens_int Tryz.underlying3) (opens_int Tryz.underlying43) (opens_int Tryz.underlying3))
def good25 (x : S25) : Prop := ((Lit.int .i64 x.f0).wf = true) ∧ ((x.f1.length * 32 ≤ 140737488351232 ∧ x.f1.length ≤ 9223372036854775807) ∧ ∀ x133 ∈ x.f1, good50 x133) ∧ ((x.f2.length * 32 ≤ 140737488351232 ∧ x.f2.length ≤ 9223372036854775807) ∧ ∀ x134 ∈ x.f2, good45 x134)
theorem op25 : Opens Tryz.prog k25 25 good25 := opens_iso (fun x : S25 => (x.f0, x.f1, x.f2)) (fun p => ⟨p.1, p.2.1, p.2.2⟩) (fun _ => rfl) (opens_struct3 Tryz.underlying25 rfl (by kernel_rfl) (by kernel_rfl) (by kernel_rfl) (opens_int Tryz.underlying3) (opens_slice (B := 32) z50 Tryz.underlying22 (by kernel_rfl) (by kernel_rfl) op50) (opens_slice (B := 32) z45 Tryz.underlying23 (by kernel_rfl) (by kernel_rfl) op45))
def fleuronlaw27_MetricMerges.Pure : Prop := ∀ (a0 : S25) (a1 : S25), (good25 a0) → (good25 a1) → ∃ k, fleuronlaw27_MetricMerges.P k a0.f0 a0.f1 a0.f2 a1.f0 a1.f1 a1.f2
end Go.Proofs.YtoemkemmiikhlaaGreat.PF4

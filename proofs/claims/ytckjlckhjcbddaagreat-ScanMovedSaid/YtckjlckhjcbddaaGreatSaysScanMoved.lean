/-  The pure statement of ScanMoved: written by a program of this session's; the proof is the session's.  -/
import Derived.Test.YtckjlckhjcbddaaGreatPG3x38
import Derived.Test.YtckjlckhjcbddaaGreatOpens
namespace Go.Proofs.YtckjlckhjcbddaaGreat.PG3
open Go.RowKit Go.Proofs.YtckjlckhjcbddaaGreatW.Row Go.Proofs.YtckjlckhjcbddaaGreatW.PrintWords Go.Proofs.YtckjlckhjcbddaaGreatW.PrintLast
def good47 (x : S47) : Prop := ((Lit.int .i64 x.f0).wf = true) ∧ ((Lit.int .i64 x.f1).wf = true)
theorem op47 : Opens Tryz.prog k47 47 good47 := opens_iso (fun x : S47 => (x.f0, x.f1)) (fun p => ⟨p.1, p.2⟩) (fun _ => rfl) (opens_struct2 Tryz.underlying47 rfl (by kernel_rfl) (by kernel_rfl) (opens_int Tryz.underlying3) (opens_int Tryz.underlying3))
def fleuronlaw19_ScanMoved.Pure : Prop := ∀ (a0 : List (List (S47))) (a1 : Bool) (a2 : (Int × Int × Int)), ((a0.length * 24 ≤ 140737488351232 ∧ a0.length ≤ 9223372036854775807) ∧ ∀ x548 ∈ a0, (x548.length * 16 ≤ 140737488351232 ∧ x548.length ≤ 9223372036854775807) ∧ ∀ x547 ∈ x548, good47 x547) → (True) → (((Lit.int .i64 a2.1).wf = true) ∧ ((Lit.int .i64 a2.2.1).wf = true) ∧ ((Lit.int .i64 a2.2.2).wf = true)) → ∃ k, fleuronlaw19_ScanMoved.f k a0 a1 a2.1 a2.2.1 a2.2.2 = some true
end Go.Proofs.YtckjlckhjcbddaaGreat.PG3

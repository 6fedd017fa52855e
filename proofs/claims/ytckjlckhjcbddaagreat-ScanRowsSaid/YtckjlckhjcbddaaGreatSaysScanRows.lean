/-  The pure statement of ScanRows: written by a program of this session's; the proof is the session's.  -/
import Derived.Test.YtckjlckhjcbddaaGreatPG3x26
import Derived.Test.YtckjlckhjcbddaaGreatOpens
namespace Go.Proofs.YtckjlckhjcbddaaGreat.PG3
open Go.RowKit Go.Proofs.YtckjlckhjcbddaaGreatW.Row Go.Proofs.YtckjlckhjcbddaaGreatW.PrintWords Go.Proofs.YtckjlckhjcbddaaGreatW.PrintLast
def good47 (x : S47) : Prop := ((Lit.int .i64 x.f0).wf = true) ∧ ((Lit.int .i64 x.f1).wf = true)
theorem op47 : Opens Tryz.prog k47 47 good47 := opens_iso (fun x : S47 => (x.f0, x.f1)) (fun p => ⟨p.1, p.2⟩) (fun _ => rfl) (opens_struct2 Tryz.underlying47 rfl (by kernel_rfl) (by kernel_rfl) (opens_int Tryz.underlying3) (opens_int Tryz.underlying3))
def fleuronlaw19_ScanRows.Pure : Prop := ∀ (a0 : List (List (S47))) (a1 : Bool) (a2 : (Int × Int)), ((a0.length * 24 ≤ 140737488351232 ∧ a0.length ≤ 9223372036854775807) ∧ ∀ x536 ∈ a0, (x536.length * 16 ≤ 140737488351232 ∧ x536.length ≤ 9223372036854775807) ∧ ∀ x535 ∈ x536, good47 x535) → (True) → (((Lit.int .i64 a2.1).wf = true) ∧ ((Lit.int .i64 a2.2).wf = true)) → ∃ k, fleuronlaw19_ScanRows.P k a0 a1 a2.1 a2.2
end Go.Proofs.YtckjlckhjcbddaaGreat.PG3

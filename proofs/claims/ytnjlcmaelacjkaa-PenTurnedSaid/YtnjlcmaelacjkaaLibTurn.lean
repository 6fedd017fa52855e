/-
  Plain laws: Turn by the code.
-/
import Derived.Test.YtnjlcmaelacjkaaLibSweep
import Derived.Test.YtnjlcmaelacjkaaPD3x8
set_option linter.unusedVariables false
set_option linter.unusedSimpArgs false
namespace Go.Proofs.Ytnjlcmaelacjkaa.PD3
open Go.RowKit Go.Proofs.YtnjlcmaelacjkaaW.PrintWords Go.Proofs.YtnjlcmaelacjkaaW.PrintLast Go.Proofs.YtnjlcmaelacjkaaW.PrintMore HG
def turnRes (a : List S33) : List S33 × Int := if okPen a then (hullOf (a.map ng), 0) else ([], 2)
theorem ng_pt {x : S33} (h : isPt x = true) : isPt (ng x) = true := by
  have := isPt_iff.mp h
  rw [isPt_iff]; unfold ng; simp only; omega
theorem negP_is {x : S33} (h : isPt x = true) : negP x = ng x := by
  have := isPt_iff.mp h
  unfold negP ng
  rw [wrap64_small (by omega) (by omega), wrap64_small (by omega) (by omega)]
theorem ngs_pt {a : List S33} (h : ∀ x ∈ a, isPt x = true) : ∀ x ∈ a.map ng, isPt x = true := by
  intro x hx
  obtain ⟨y, hy, rfl⟩ := List.mem_map.mp hx
  exact ng_pt (h y hy)
theorem turn_is (a : List S33) : pen_Turn.f a = some (turnRes a) := by
  unfold pen_Turn.f turnRes
  rw [valid_is]
  cases ha : okPen a with
  | false => rfl
  | true =>
    obtain ⟨a1, a2, a3, a4⟩ := okPen_iff.mp ha
    simp only [Option.bind_some, if_true]
    rw [if_pos (by omega), List.map_congr_left (fun x hx => negP_is (a3 x hx)), hull_is _ (fun x hx => big_of (ngs_pt a3 x hx)) (by simp; omega)]
    rfl
end Go.Proofs.Ytnjlcmaelacjkaa.PD3

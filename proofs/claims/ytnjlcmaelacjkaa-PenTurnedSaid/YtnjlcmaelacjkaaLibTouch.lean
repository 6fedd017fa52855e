/-
  Plain laws: Touch by the code.
-/
import Derived.Test.YtnjlcmaelacjkaaLibSweep
import Derived.Test.YtnjlcmaelacjkaaPD3x9
set_option linter.unusedVariables false
set_option linter.unusedSimpArgs false
namespace Go.Proofs.Ytnjlcmaelacjkaa.PD3
open Go.RowKit Go.Proofs.YtnjlcmaelacjkaaW.PrintWords Go.Proofs.YtnjlcmaelacjkaaW.PrintLast Go.Proofs.YtnjlcmaelacjkaaW.PrintMore HG
def farT (d : S33) (x m : S33) : Bool := decide (0 < cmpI (farV d x) (farV d m))
theorem farT_iff {d x m : S33} : farT d x m = true ↔ farV d m < farV d x := by
  unfold farT cmpI
  rw [decide_eq_true_iff]
  split
  · omega
  · split <;> omega
def touchRes (a : List S33) (d : S33) : Int × Int × Int := if okPen a && isPt d then ((touchP a d).f0, (touchP a d).f1, 0) else (0, 0, 2)
theorem touch_is (a : List S33) (d : S33) : pen_Touch.f a d.f0 d.f1 = some (touchRes a d) := by
  unfold pen_Touch.f touchRes
  rw [valid_is, isPoint_is]
  cases ha : okPen a with
  | false => rfl
  | true =>
    obtain ⟨a1, a2, a3, a4⟩ := okPen_iff.mp ha
    cases hd : isPt d with
    | false => rfl
    | true =>
      simp only [Option.bind_some, if_true, Bool.and_self]
      rw [if_pos (by omega)]
theorem mul_pt {x y : Int} (hx : -268435455 ≤ x ∧ x ≤ 268435455) (hy : -268435455 ≤ y ∧ y ≤ 268435455) : -72057593501057025 ≤ x * y ∧ x * y ≤ 72057593501057025 := by
  have e0 : (x + 268435455) * (268435455 - y) ≥ 0 := Int.mul_nonneg (by omega) (by omega)
  have e1 : (268435455 - x) * (y + 268435455) ≥ 0 := Int.mul_nonneg (by omega) (by omega)
  have e2 : (x + 268435455) * (y + 268435455) ≥ 0 := Int.mul_nonneg (by omega) (by omega)
  have e3 : (268435455 - x) * (268435455 - y) ≥ 0 := Int.mul_nonneg (by omega) (by omega)
  constructor <;> grind
theorem farV_is {d p : S33} (hd : isPt d = true) (hp : isPt p = true) : farV d p = dt d.f0 d.f1 p := by
  have bd := isPt_iff.mp hd
  have bp := isPt_iff.mp hp
  have m0 := mul_pt bd.1 bp.1
  have m1 := mul_pt bd.2 bp.2
  unfold farV dt
  rw [wrap64_small (n := d.f0 * p.f0) (by omega) (by omega), wrap64_small (n := d.f1 * p.f1) (by omega) (by omega), wrap64_small (by omega) (by omega)]
theorem pickF_is (l : List S33) (d : S33) (h0 : 0 < l.length) : ∀ i, i < l.length → pickAt (farT d) l i ∈ l ∧ ∀ j, j ≤ i → farV d (rd_T33 l (j : Int)) ≤ farV d (pickAt (farT d) l i)
  | 0, _ => ⟨rd_in l 0 h0, fun j hj => by
    obtain rfl : j = 0 := by omega
    exact Int.le_refl _⟩
  | i + 1, hi => by
    obtain ⟨h1, h2⟩ := pickF_is l d h0 i (by omega)
    rw [pickAt]
    by_cases hc : farT d (rd_T33 l ((i + 1 : Nat) : Int)) (pickAt (farT d) l i) = true
    · rw [if_pos hc]
      have hlt := farT_iff.mp hc
      refine ⟨rd_in l (i + 1) hi, fun j hj => ?_⟩
      rcases Nat.lt_or_ge j (i + 1) with k | k
      · have := h2 j (by omega); omega
      · obtain rfl : j = i + 1 := by omega
        exact Int.le_refl _
    · rw [if_neg hc]
      refine ⟨h1, fun j hj => ?_⟩
      rcases Nat.lt_or_ge j (i + 1) with k | k
      · exact h2 j (by omega)
      · obtain rfl : j = i + 1 := by omega
        have := mt farT_iff.mpr hc; omega
theorem touchP_is {l : List S33} {d : S33} (h0 : 0 < l.length) (hal : ∀ x ∈ l, isPt x = true) (hd : isPt d = true) : touchP l d ∈ l ∧ ∀ v ∈ l, dt d.f0 d.f1 v ≤ dt d.f0 d.f1 (touchP l d) := by
  obtain ⟨h1, h2⟩ := pickF_is l d h0 (l.length - 1) (by omega)
  refine ⟨h1, fun v hv => ?_⟩
  obtain ⟨j, hj, rfl⟩ := List.mem_iff_getElem.mp hv
  have := h2 j (by omega)
  rw [rd_get l j hj, farV_is hd (hal _ (List.getElem_mem _)), farV_is hd (hal _ h1)] at this
  exact this
end Go.Proofs.Ytnjlcmaelacjkaa.PD3

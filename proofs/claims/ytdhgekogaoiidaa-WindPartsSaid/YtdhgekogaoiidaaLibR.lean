/-
  Plain laws on the references of chapters 16 and 17: points, polygons, sides.
-/
import Derived.Test.YtdhgekogaoiidaaLibU
import Derived.Test.YtdhgekogaoiidaaPT5x3
import Derived.Test.YtdhgekogaoiidaaPT5x6
set_option linter.unusedVariables false
set_option linter.unusedSimpArgs false
namespace Go.Proofs.Ytdhgekogaoiidaa.PT5
open Go.RowKit Go.Proofs.YtdhgekogaoiidaaW.PrintWords Go.Proofs.YtdhgekogaoiidaaW.PrintLast Go.Proofs.YtdhgekogaoiidaaW.PrintMore
theorem refIn_is (x : S24) : fleuronref16_In.f x.f0 x.f1 = some (isPt x) := by
  unfold fleuronref16_In.f isPt
  by_cases h1 : x.f0 ≥ -268435455
  · rw [if_pos h1, decide_eq_true (show -268435455 ≤ x.f0 from h1)]
    by_cases h2 : x.f0 ≤ 268435455
    · rw [if_pos h2, decide_eq_true h2]
      by_cases h3 : x.f1 ≥ -268435455
      · rw [if_pos h3, decide_eq_true (show -268435455 ≤ x.f1 from h3)]; simp
      · rw [if_neg h3, decide_eq_false (show ¬ -268435455 ≤ x.f1 from h3)]; simp
    · rw [if_neg h2, decide_eq_false h2]; simp
  · rw [if_neg h1, decide_eq_false (show ¬ -268435455 ≤ x.f0 from h1)]; simp
theorem refAll_from (l : List S24) (hl : l.length ≤ 9223372036854775806) (d : Nat) : ∀ (k i : Nat), i ≤ l.length → l.length - i = d → d < k → fleuronref16_All.l0 k l (l.length : Int) (i : Int) = some ((l.drop i).all isPt) := by
  induction d with
  | zero =>
    intro k i hi hd hk
    obtain ⟨k, rfl⟩ : ∃ m, k = m + 1 := ⟨k - 1, by omega⟩
    simp only [fleuronref16_All.l0]
    rw [if_neg (by omega), List.drop_eq_nil_of_le (by omega)]
    rfl
  | succ d ih =>
    intro k i hi hd hk
    obtain ⟨k, rfl⟩ : ∃ m, k = m + 1 := ⟨k - 1, by omega⟩
    simp only [fleuronref16_All.l0]
    rw [if_pos (by omega), if_pos (by omega), if_pos (by omega), refIn_is]
    simp only [Option.bind_some]
    rw [rd_drop l i (by omega), List.all_cons]
    cases hx : isPt (rd_T24 l (i : Int)) with
    | false => simp
    | true =>
      rw [if_pos rfl, wrap64_small (by omega) (by omega), show (i : Int) + 1 = ((i + 1 : Nat) : Int) by omega, ih k (i + 1) (by omega) (by omega) (by omega)]
      simp
theorem refAll_is (l : List S24) (hl : l.length ≤ 9223372036854775806) (k : Nat) (hk : l.length < k) : fleuronref16_All.f k l = some (l.all isPt) := by
  unfold fleuronref16_All.f
  have := refAll_from l hl l.length k 0 (by omega) (by omega) hk
  simpa using this
theorem refValid_is (l : List S24) (hl : l.length ≤ 9223372036854775806) (k : Nat) (hk : l.length < k) : fleuronref17_Valid.f k l = some (okPoly l) := by
  unfold fleuronref17_Valid.f okPoly
  rw [refAll_is l hl k hk]
  by_cases h1 : (l.length : Int) ≥ 1
  · rw [if_pos h1, decide_eq_true (show 1 ≤ l.length by omega)]
    by_cases h2 : (l.length : Int) ≤ 60000
    · rw [if_pos h2, decide_eq_true (show l.length ≤ 60000 by omega)]; simp
    · rw [if_neg h2, decide_eq_false (show ¬ l.length ≤ 60000 by omega)]; simp
  · rw [if_neg h1, decide_eq_false (show ¬ 1 ≤ l.length by omega)]; simp
end Go.Proofs.Ytdhgekogaoiidaa.PT5

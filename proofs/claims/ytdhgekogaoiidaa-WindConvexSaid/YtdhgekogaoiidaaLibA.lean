/-
  Plain laws on the references of chapters 16 and 17: points, polygons, sides.
-/
import Derived.Test.YtdhgekogaoiidaaPT2x10
import Derived.Test.YtdhgekogaoiidaaPT2x15
import Derived.Test.YtdhgekogaoiidaaPT2x2
import Derived.Test.YtdhgekogaoiidaaPT2x3
import Derived.Test.YtdhgekogaoiidaaPT2x8
import Derived.Test.YtdhgekogaoiidaaPT2x9
set_option linter.unusedVariables false
set_option linter.unusedSimpArgs false
namespace Go.Proofs.Ytdhgekogaoiidaa.PT2
open Go.RowKit Go.Proofs.YtdhgekogaoiidaaW.PrintWords Go.Proofs.YtdhgekogaoiidaaW.PrintLast Go.Proofs.YtdhgekogaoiidaaW.PrintMore
theorem wrap64_small {n : Int} (h : -9223372036854775808 ≤ n) (h' : n ≤ 9223372036854775807) : wrap64 n = n := by unfold wrap64; omega
theorem wrap64_zero : wrap64 0 = 0 := wrap64_small (by omega) (by omega)
theorem refIn_is (x : S24) : fleuronref16_In.f x.f0 x.f1 = some (isPt x) := by
  unfold fleuronref16_In.f isPt
  by_cases h1 : x.f0 ≥ -268435455
  · rw [if_pos h1, decide_eq_true (show -268435455 ≤ x.f0 from h1)]
    by_cases h2 : x.f0 ≤ 268435455
    · rw [if_pos h2, decide_eq_true h2]
      by_cases h3 : x.f1 ≥ -268435455
      · rw [if_pos h3, decide_eq_true (show -268435455 ≤ x.f1 from h3)]; simp
      · rw [if_neg h3, decide_eq_false (show ¬ -268435455 ≤ x.f1 from h3)]; simp
    · rw [if_neg h2, decide_eq_false h2]; simp
  · rw [if_neg h1, decide_eq_false (show ¬ -268435455 ≤ x.f0 from h1)]; simp
theorem refAll_from (l : List S24) (hl : l.length ≤ 9223372036854775806) (d : Nat) : ∀ (k i : Nat), i ≤ l.length → l.length - i = d → d < k → fleuronref16_All.l0 k l (l.length : Int) (i : Int) = some ((l.drop i).all isPt) := by
  induction d with
  | zero =>
    intro k i hi hd hk
    obtain ⟨k, rfl⟩ : ∃ m, k = m + 1 := ⟨k - 1, by omega⟩
    simp only [fleuronref16_All.l0]
    rw [if_neg (by omega), List.drop_eq_nil_of_le (by omega)]
    rfl
  | succ d ih =>
    intro k i hi hd hk
    obtain ⟨k, rfl⟩ : ∃ m, k = m + 1 := ⟨k - 1, by omega⟩
    simp only [fleuronref16_All.l0]
    rw [if_pos (by omega), if_pos (by omega), if_pos (by omega), refIn_is]
    simp only [Option.bind_some]
    rw [rd_drop l i (by omega), List.all_cons]
    cases hx : isPt (rd_T24 l (i : Int)) with
    | false => simp
    | true =>
      rw [if_pos rfl, wrap64_small (by omega) (by omega), show (i : Int) + 1 = ((i + 1 : Nat) : Int) by omega, ih k (i + 1) (by omega) (by omega) (by omega)]
      simp
theorem refAll_is (l : List S24) (hl : l.length ≤ 9223372036854775806) (k : Nat) (hk : l.length < k) : fleuronref16_All.f k l = some (l.all isPt) := by
  unfold fleuronref16_All.f
  have := refAll_from l hl l.length k 0 (by omega) (by omega) hk
  simpa using this
theorem refValid_is (l : List S24) (hl : l.length ≤ 9223372036854775806) (k : Nat) (hk : l.length < k) : fleuronref17_Valid.f k l = some (okPoly l) := by
  unfold fleuronref17_Valid.f okPoly
  rw [refAll_is l hl k hk]
  by_cases h1 : (l.length : Int) ≥ 1
  · rw [if_pos h1, decide_eq_true (show 1 ≤ l.length by omega)]
    by_cases h2 : (l.length : Int) ≤ 60000
    · rw [if_pos h2, decide_eq_true (show l.length ≤ 60000 by omega)]; simp
    · rw [if_neg h2, decide_eq_false (show ¬ l.length ≤ 60000 by omega)]; simp
  · rw [if_neg h1, decide_eq_false (show ¬ 1 ≤ l.length by omega)]; simp
theorem refSign_is (n : Int) : fleuronref17_sign.f n = some (sgnB n) := by
  unfold fleuronref17_sign.f sgnB
  by_cases h : n > 0
  · rw [if_pos h, if_neg (by omega), if_pos (by omega)]
  · rw [if_neg h]
    by_cases h' : n < 0
    · rw [if_pos h', if_pos h']
    · rw [if_neg h', if_neg h', if_neg (by omega)]
theorem cross_bound (a b p : S24) (ha : isPt a = true) (hb : isPt b = true) (hp : isPt p = true) : -576460749082198016 ≤ crossB a b p ∧ crossB a b p ≤ 576460749082198016 := by
  have ba := isPt_bounds ha; have bb := isPt_bounds hb; have bp := isPt_bounds hp
  have m1 := mul_bound (x := b.f0 - a.f0) (y := p.f1 - a.f1) (by omega) (by omega) (by omega) (by omega)
  have m2 := mul_bound (x := b.f1 - a.f1) (y := p.f0 - a.f0) (by omega) (by omega) (by omega) (by omega)
  unfold crossB
  omega
theorem refTurn_is (a b p : S24) (ha : isPt a = true) (hb : isPt b = true) (hp : isPt p = true) : fleuronref17_Turn.f a.f0 a.f1 b.f0 b.f1 p.f0 p.f1 = some (sgnB (crossB a b p)) := by
  have ba := isPt_bounds ha; have bb := isPt_bounds hb; have bp := isPt_bounds hp
  have m1 := mul_bound (x := b.f0 - a.f0) (y := p.f1 - a.f1) (by omega) (by omega) (by omega) (by omega)
  have m2 := mul_bound (x := b.f1 - a.f1) (y := p.f0 - a.f0) (by omega) (by omega) (by omega) (by omega)
  unfold fleuronref17_Turn.f
  rw [wrap64_small (n := b.f0 - a.f0) (by omega) (by omega), wrap64_small (n := p.f1 - a.f1) (by omega) (by omega), wrap64_small (n := b.f1 - a.f1) (by omega) (by omega), wrap64_small (n := p.f0 - a.f0) (by omega) (by omega),
    wrap64_small (n := (b.f0 - a.f0) * (p.f1 - a.f1)) (by omega) (by omega), wrap64_small (n := (b.f1 - a.f1) * (p.f0 - a.f0)) (by omega) (by omega), wrap64_small (n := _ - _) (by omega) (by omega), refSign_is]
  rfl
theorem sgnB_neg (n : Int) : sgnB (-n) = - sgnB n := by
  unfold sgnB
  by_cases h : n < 0
  · rw [if_neg (by omega), if_pos (by omega), if_pos h]; rfl
  · by_cases h' : 0 < n
    · rw [if_pos (by omega), if_neg h, if_pos h']
    · rw [if_neg (by omega), if_neg (by omega), if_neg h, if_neg h']; rfl
theorem cross_swap (a b p : S24) : crossB b a p = - crossB a b p := by
  unfold crossB
  simp only [Int.sub_mul, Int.mul_sub]
  rw [Int.mul_comm b.f0 a.f1, Int.mul_comm b.f1 a.f0, Int.mul_comm a.f1 a.f0, Int.mul_comm b.f1 b.f0]
  omega
theorem arePoints_is (l : List S24) (hl : l.length ≤ 9223372036854775807) : flat_ArePoints.f l = some (l.all isPt) := by unfold flat_ArePoints.f; rw [if_pos hl]
end Go.Proofs.Ytdhgekogaoiidaa.PT2

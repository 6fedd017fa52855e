/-
  Plain laws on the references of chapter 17: crossings, sums of ways, the numbers of a polygon round a point.
-/
import Derived.Test.YtdhgekogaoiidaaLibA
import Derived.Test.YtdhgekogaoiidaaPT2x3
import Derived.Test.YtdhgekogaoiidaaPT2x7
import Derived.Test.YtdhgekogaoiidaaPT2x8
import Derived.Test.YtdhgekogaoiidaaPT2x9
set_option linter.unusedVariables false
set_option linter.unusedSimpArgs false
namespace Go.Proofs.Ytdhgekogaoiidaa.PT2
open Go.RowKit Go.Proofs.YtdhgekogaoiidaaW.PrintWords Go.Proofs.YtdhgekogaoiidaaW.PrintLast Go.Proofs.YtdhgekogaoiidaaW.PrintMore
theorem next_is (l : List S24) (i : Nat) (hi : i < l.length) (hl : l.length ≤ 1000000000) : fleuronref17_next.f l (i : Int) = some ((nxt l i).f0, (nxt l i).f1) := by
  have hm := Nat.mod_lt (i + 1) (show 0 < l.length by omega)
  unfold fleuronref17_next.f nxt
  rw [if_neg (by omega), wrap64_small (by omega) (by omega), Int.tmod_eq_emod_of_nonneg (by omega), show ((i : Int) + 1) % (l.length : Int) = (((i + 1) % l.length : Nat) : Int) by simp, if_pos (by omega), if_pos (by omega)]
/-- The place where an edge crosses, seen from a point: num - x den. -/
theorem cross_up (a b p : S24) : a.f0 * (b.f1 - a.f1) + (p.f1 - a.f1) * (b.f0 - a.f0) - p.f0 * (b.f1 - a.f1) = crossB a b p := by
  unfold crossB
  have e : (b.f1 - a.f1) * (p.f0 - a.f0) = p.f0 * (b.f1 - a.f1) - a.f0 * (b.f1 - a.f1) := by rw [Int.mul_sub, Int.mul_comm _ p.f0, Int.mul_comm _ a.f0]
  rw [e, Int.mul_comm (p.f1 - a.f1)]
  omega
theorem cross_down (a b p : S24) : a.f0 * (a.f1 - b.f1) + (a.f1 - p.f1) * (b.f0 - a.f0) - p.f0 * (a.f1 - b.f1) = - crossB a b p := by
  rw [← cross_up a b p, show a.f1 - b.f1 = -(b.f1 - a.f1) by omega, show a.f1 - p.f1 = -(p.f1 - a.f1) by omega, Int.mul_neg, Int.neg_mul, Int.mul_neg]
  omega
/-- What a crossing is: no way, or the way with where it crosses. -/
theorem crossing_is (k : Nat) (a b p : S24) (ha : isPt a = true) (hb : isPt b = true) (hp : isPt p = true) :
    ∃ num den, fleuronref17_crossing.f (k + 1) a.f0 a.f1 b.f0 b.f1 p.f0 p.f1 = some (wayB a b p.f1, num, den) ∧
      (wayB a b p.f1 ≠ 0 → wrap64 (num - wrap64 (p.f0 * den)) = crossB a b p * wayB a b p.f1 ∧
        (wayB a b p.f1 = 1 ∧ den = b.f1 - a.f1 ∧ num = a.f0 * den + (p.f1 - a.f1) * (b.f0 - a.f0) ∨ wayB a b p.f1 = -1 ∧ den = a.f1 - b.f1 ∧ num = a.f0 * den + (a.f1 - p.f1) * (b.f0 - a.f0))) := by
  have ba := isPt_bounds ha; have bb := isPt_bounds hb; have bp := isPt_bounds hp
  have cb := cross_bound a b p ha hb hp
  have m1 := mul_bound (x := a.f0) (y := b.f1 - a.f1) (by omega) (by omega) (by omega) (by omega)
  have m2 := mul_bound (x := p.f1 - a.f1) (y := b.f0 - a.f0) (by omega) (by omega) (by omega) (by omega)
  have m3 := mul_bound (x := p.f0) (y := b.f1 - a.f1) (by omega) (by omega) (by omega) (by omega)
  have n1 := mul_bound (x := a.f0) (y := a.f1 - b.f1) (by omega) (by omega) (by omega) (by omega)
  have n2 := mul_bound (x := a.f1 - p.f1) (y := b.f0 - a.f0) (by omega) (by omega) (by omega) (by omega)
  have n3 := mul_bound (x := p.f0) (y := a.f1 - b.f1) (by omega) (by omega) (by omega) (by omega)
  have eu := cross_up a b p
  have ed := cross_down a b p
  unfold fleuronref17_crossing.f
  simp only [fleuronref17_crossing.j0, decide_eq_true_eq, Bool.false_eq_true, if_false]
  by_cases hup : a.f1 ≤ p.f1 ∧ p.f1 < b.f1
  · have hw : wayB a b p.f1 = 1 := by unfold wayB; rw [if_pos hup]
    rw [hw, if_pos hup.1, if_pos hup.2, wrap64_small (n := b.f1 - a.f1) (by omega) (by omega), wrap64_small (n := p.f1 - a.f1) (by omega) (by omega), wrap64_small (n := b.f0 - a.f0) (by omega) (by omega), wrap64_small (n := a.f0 * (b.f1 - a.f1)) (by omega) (by omega),
      wrap64_small (n := (p.f1 - a.f1) * (b.f0 - a.f0)) (by omega) (by omega), wrap64_small (n := a.f0 * (b.f1 - a.f1) + (p.f1 - a.f1) * (b.f0 - a.f0)) (by omega) (by omega)]
    refine ⟨_, _, rfl, fun _ => ⟨?_, Or.inl ⟨rfl, rfl, rfl⟩⟩⟩
    rw [wrap64_small (n := p.f0 * (b.f1 - a.f1)) (by omega) (by omega), eu, Int.mul_one, wrap64_small (by omega) (by omega)]
  · by_cases hdn : b.f1 ≤ p.f1 ∧ p.f1 < a.f1
    · have hw : wayB a b p.f1 = -1 := by unfold wayB; rw [if_neg hup, if_pos hdn]
      rw [hw, if_neg (show ¬ a.f1 ≤ p.f1 by omega), if_pos hdn.1, if_pos hdn.2, wrap64_small (n := a.f1 - b.f1) (by omega) (by omega), wrap64_small (n := a.f1 - p.f1) (by omega) (by omega), wrap64_small (n := b.f0 - a.f0) (by omega) (by omega), wrap64_small (n := a.f0 * (a.f1 - b.f1)) (by omega) (by omega),
        wrap64_small (n := (a.f1 - p.f1) * (b.f0 - a.f0)) (by omega) (by omega), wrap64_small (n := a.f0 * (a.f1 - b.f1) + (a.f1 - p.f1) * (b.f0 - a.f0)) (by omega) (by omega)]
      refine ⟨_, _, rfl, fun _ => ⟨?_, Or.inr ⟨rfl, rfl, rfl⟩⟩⟩
      rw [wrap64_small (n := p.f0 * (a.f1 - b.f1)) (by omega) (by omega), ed, show crossB a b p * -1 = - crossB a b p by omega, wrap64_small (by omega) (by omega)]
    · have hw : wayB a b p.f1 = 0 := by unfold wayB; rw [if_neg hup, if_neg hdn]
      rw [hw]
      refine ⟨0, 0, ?_, fun h => absurd rfl h⟩
      repeat' split
      all_goals first | rfl | (exfalso; omega)
theorem sgn_way (n w : Int) (hw : w = 1 ∨ w = -1) : sgnB (n * w) = sgnB n * w := by
  rcases hw with rfl | rfl
  · rw [Int.mul_one, Int.mul_one]
  · rw [show n * -1 = -n by omega, sgnB_neg, show sgnB n * -1 = - sgnB n by omega]
theorem wrap_step {x y : Int} (h : -1000000000 ≤ x) (h' : x ≤ 1000000000) (hy : y = 1 ∨ y = -1) : wrap64 (x + y) = x + y := wrap64_small (by omega) (by omega)
theorem counted_from (l : List S24) (p : S24) (wh : Int) (hl : l.length ≤ 1000000000) (hal : ∀ x ∈ l, isPt x = true) (hp : isPt p = true) (d : Nat) :
    ∀ (k i : Nat), i ≤ l.length → l.length - i = d → d + 1 < k → fleuronref17_counted.l0 k l wh (csum l p wh id i) (csum l p wh (fun _ => 1) i) l (l.length : Int) (i : Int) p.f0 p.f1 = some (csum l p wh id l.length, csum l p wh (fun _ => 1) l.length) := by
  induction d with
  | zero =>
    intro k i hi hd hk
    obtain ⟨k, rfl⟩ : ∃ m, k = m + 1 := ⟨k - 1, by omega⟩
    obtain rfl : i = l.length := by omega
    simp only [fleuronref17_counted.l0]
    rw [if_neg (by omega)]
  | succ d ih =>
    intro k i hi hd hk
    obtain ⟨k, rfl⟩ : ∃ m, k = m + 2 := ⟨k - 2, by omega⟩
    have hlt : i < l.length := by omega
    have hx := hal _ (rd_mem l i hlt)
    have hy := hal _ (nxt_mem l i hlt)
    obtain ⟨num, den, hc, hn⟩ := crossing_is k (rd_T24 l (i : Int)) (nxt l i) p hx hy hp
    have a1 := csum_abs l p wh id (by simp <;> omega) i
    have a2 := csum_abs l p wh (fun _ => 1) (by simp <;> omega) i
    have b1 : -1000000000 ≤ csum l p wh id i ∧ csum l p wh id i ≤ 1000000000 := by omega
    have b2 : -1000000000 ≤ csum l p wh (fun _ => 1) i ∧ csum l p wh (fun _ => 1) i ≤ 1000000000 := by omega
    clear a1 a2
    have st := ih (k + 1) (i + 1) (by omega) (by omega) (by omega)
    simp only [fleuronref17_counted.l0]
    rw [if_pos (by omega), if_pos (by omega), if_pos (by omega), next_is l i hlt hl]
    simp only [Option.bind_some]
    rw [hc]
    simp only [Option.bind_some]
    have e1 : csum l p wh id (i + 1) = csum l p wh id i + ctermB (rd_T24 l (i : Int)) (nxt l i) p wh id := rfl
    have e2 : csum l p wh (fun _ => 1) (i + 1) = csum l p wh (fun _ => 1) i + ctermB (rd_T24 l (i : Int)) (nxt l i) p wh (fun _ => 1) := rfl
    have ew : wrap64 ((i : Int) + 1) = ((i + 1 : Nat) : Int) := by rw [wrap64_small (by omega) (by omega)]; omega
    rw [ew]
    by_cases hw : wayB (rd_T24 l (i : Int)) (nxt l i) p.f1 = 0
    · rw [if_pos hw]
      have t1 : ctermB (rd_T24 l (i : Int)) (nxt l i) p wh id = 0 := by unfold ctermB; rw [if_pos hw]
      have t2 : ctermB (rd_T24 l (i : Int)) (nxt l i) p wh (fun _ => 1) = 0 := by unfold ctermB; rw [if_pos hw]
      rw [e1, e2, t1, t2, Int.add_zero, Int.add_zero] at st
      exact st
    · have hw1 : wayB (rd_T24 l (i : Int)) (nxt l i) p.f1 = 1 ∨ wayB (rd_T24 l (i : Int)) (nxt l i) p.f1 = -1 := by
        rcases wayB_cases (rd_T24 l (i : Int)) (nxt l i) p.f1 with h | h | h
        · exact absurd h hw
        · exact Or.inl h
        · exact Or.inr h
      rw [if_neg hw, (hn hw).1, refSign_is, sgn_way _ _ hw1]
      simp only [Option.bind_some]
      by_cases hs : sideB (rd_T24 l (i : Int)) (nxt l i) p = wh
      · rw [if_pos (show sgnB (crossB _ _ p) * _ = wh from hs)]
        have t1 : ctermB (rd_T24 l (i : Int)) (nxt l i) p wh id = wayB (rd_T24 l (i : Int)) (nxt l i) p.f1 := by unfold ctermB; rw [if_neg hw, if_pos hs]; rfl
        have t2 : ctermB (rd_T24 l (i : Int)) (nxt l i) p wh (fun _ => 1) = 1 := by unfold ctermB; rw [if_neg hw, if_pos hs]
        rw [e1, e2, t1, t2] at st
        rw [wrap_step b1.1 b1.2 hw1, wrap_step b2.1 b2.2 (Or.inl rfl)]
        exact st
      · rw [if_neg (show ¬ sgnB (crossB _ _ p) * _ = wh from hs)]
        have t1 : ctermB (rd_T24 l (i : Int)) (nxt l i) p wh id = 0 := by unfold ctermB; rw [if_neg hw, if_neg hs]
        have t2 : ctermB (rd_T24 l (i : Int)) (nxt l i) p wh (fun _ => 1) = 0 := by unfold ctermB; rw [if_neg hw, if_neg hs]
        rw [e1, e2, t1, t2, Int.add_zero, Int.add_zero] at st
        exact st
theorem counted_is (l : List S24) (p : S24) (wh : Int) (hl : l.length ≤ 1000000000) (hal : ∀ x ∈ l, isPt x = true) (hp : isPt p = true) (k : Nat) (hk : l.length + 1 < k) :
    fleuronref17_counted.f k l p.f0 p.f1 wh = some (csum l p wh id l.length, csum l p wh (fun _ => 1) l.length) := by
  unfold fleuronref17_counted.f
  have := counted_from l p wh hl hal hp l.length k 0 (by omega) (by omega) hk
  simpa [csum] using this
theorem okPoly_facts {l : List S24} (h : okPoly l = true) : 1 ≤ l.length ∧ l.length ≤ 60000 ∧ ∀ x ∈ l, isPt x = true := by
  unfold okPoly at h
  simp only [Bool.and_eq_true, decide_eq_true_eq, List.all_eq_true] at h
  exact ⟨h.1, h.2.1, h.2.2⟩
theorem right_is (l : List S24) (p : S24) (hl : l.length ≤ 9223372036854775806) (k : Nat) (hk : l.length < k) : fleuronref17_right.f k l p.f0 p.f1 = some (okPoly l && isPt p) := by
  unfold fleuronref17_right.f
  rw [refValid_is l hl k hk, refIn_is]
  cases okPoly l <;> simp
section
variable (l : List S24) (p : S24) (hl : l.length ≤ 1000000000) (k : Nat) (hk : l.length + 1 < k)
include hl hk
theorem refWinding_is : fleuronref17_Winding.f k l p.f0 p.f1 = some (countB l p 1 id) := by
  unfold fleuronref17_Winding.f countB
  rw [right_is l p (by omega) k (by omega)]
  simp only [Option.bind_some]
  cases h : okPoly l && isPt p with
  | false => simp
  | true =>
    obtain ⟨h1, h2⟩ := Bool.and_eq_true_iff.1 h
    rw [if_pos rfl, if_pos rfl, counted_is l p 1 hl (okPoly_facts h1).2.2 h2 k hk]; rfl
theorem refCrossings_is : fleuronref17_Crossings.f k l p.f0 p.f1 = some (countB l p 1 (fun _ => 1)) := by
  unfold fleuronref17_Crossings.f countB
  rw [right_is l p (by omega) k (by omega)]
  simp only [Option.bind_some]
  cases h : okPoly l && isPt p with
  | false => simp
  | true =>
    obtain ⟨h1, h2⟩ := Bool.and_eq_true_iff.1 h
    rw [if_pos rfl, if_pos rfl, counted_is l p 1 hl (okPoly_facts h1).2.2 h2 k hk]; rfl
theorem refLeft_is : fleuronref17_Left.f k l p.f0 p.f1 = some (countB l p (-1) id) := by
  unfold fleuronref17_Left.f countB
  rw [right_is l p (by omega) k (by omega)]
  simp only [Option.bind_some]
  cases h : okPoly l && isPt p with
  | false => simp
  | true =>
    obtain ⟨h1, h2⟩ := Bool.and_eq_true_iff.1 h
    rw [if_pos rfl, if_pos rfl, counted_is l p (-1) hl (okPoly_facts h1).2.2 h2 k hk]; rfl
theorem refThrough_is : fleuronref17_Through.f k l p.f0 p.f1 = some (countB l p 0 id) := by
  unfold fleuronref17_Through.f countB
  rw [right_is l p (by omega) k (by omega)]
  simp only [Option.bind_some]
  cases h : okPoly l && isPt p with
  | false => simp
  | true =>
    obtain ⟨h1, h2⟩ := Bool.and_eq_true_iff.1 h
    rw [if_pos rfl, if_pos rfl, counted_is l p 0 hl (okPoly_facts h1).2.2 h2 k hk]; rfl
end
theorem winding_is (l : List S24) (p : S24) (hl : l.length ≤ 9223372036854775807) : wind_Winding.f l p.f0 p.f1 = some (countB l p 1 id) := by unfold wind_Winding.f; rw [if_pos hl]
theorem crossings_is (l : List S24) (p : S24) (hl : l.length ≤ 9223372036854775807) : wind_Crossings.f l p.f0 p.f1 = some (countB l p 1 (fun _ => 1)) := by unfold wind_Crossings.f; rw [if_pos hl]
theorem left_is (l : List S24) (p : S24) (hl : l.length ≤ 9223372036854775807) : wind_Left.f l p.f0 p.f1 = some (countB l p (-1) id) := by unfold wind_Left.f; rw [if_pos hl]
theorem through_is (l : List S24) (p : S24) (hl : l.length ≤ 9223372036854775807) : wind_Through.f l p.f0 p.f1 = some (countB l p 0 id) := by unfold wind_Through.f; rw [if_pos hl]
end Go.Proofs.Ytdhgekogaoiidaa.PT2

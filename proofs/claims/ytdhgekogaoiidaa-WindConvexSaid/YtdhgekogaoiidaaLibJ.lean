/-
  Plain geometry: a point and a closed row of points each edge of which has all other points strictly to its left.
-/
import Derived.Test.YtdhgekogaoiidaaLibG
set_option linter.unusedVariables false
namespace Go.Proofs.Ytdhgekogaoiidaa.Geo
section
variable {X Y : Nat → Int} {n : Nat}
/-- On which side of an edge a point is. -/
def off (X Y : Nat → Int) (x y : Int) (i : Nat) : Int := crs (ex X i) (ex Y i) (x - X i) (y - Y i)
def uc (Y : Nat → Int) (y : Int) (j : Nat) : Prop := Y j ≤ y ∧ y < Y (j + 1)
def dc (Y : Nat → Int) (y : Int) (j : Nat) : Prop := Y (j + 1) ≤ y ∧ y < Y j
instance decUc (Y : Nat → Int) (y : Int) (j : Nat) : Decidable (uc Y y j) := inferInstanceAs (Decidable (Y j ≤ y ∧ y < Y (j + 1)))
instance decDc (Y : Nat → Int) (y : Int) (j : Nat) : Decidable (dc Y y j) := inferInstanceAs (Decidable (Y (j + 1) ≤ y ∧ y < Y j))
theorem off_next (x y : Int) (i : Nat) : off X Y x y i = crs (ex X i) (ex Y i) (x - X (i + 1)) (y - Y (i + 1)) := by unfold off crs ex; grind
theorem off_per (hc : Closed X Y n) (x y : Int) (i : Nat) : off X Y x y (i + n) = off X Y x y i := by
  unfold off
  rw [(ex_per hc i).1, (ex_per hc i).2, hc.x, hc.y]
theorem uc_per (hc : Closed X Y n) (y : Int) (j : Nat) : uc Y y (j + n) ↔ uc Y y j := by
  unfold uc
  rw [show j + n + 1 = j + 1 + n by omega, hc.y, hc.y]
theorem dc_per (hc : Closed X Y n) (y : Int) (j : Nat) : dc Y y (j + n) ↔ dc Y y j := by
  unfold dc
  rw [show j + n + 1 = j + 1 + n by omega, hc.y, hc.y]
theorem uc_up {y : Int} {j : Nat} (h : uc Y y j) : Up (ex X j) (ex Y j) := by unfold uc at h; unfold Up ex; omega
theorem dc_dn {y : Int} {j : Nat} (h : dc Y y j) : ¬ Up (ex X j) (ex Y j) := by unfold dc at h; unfold Up ex; omega
/-- From above a height to below it there is an edge down, and the other way round. -/
theorem cross_dn (y : Int) (a m : Nat) (h : y < Y a) (h' : Y (a + m) ≤ y) : ∃ d, a ≤ d ∧ d < a + m ∧ dc Y y d := by
  obtain ⟨d, d1, d2, d3, d4⟩ := between (fun k => Y k ≤ y) a m (by omega) h'
  exact ⟨d, d1, d2, d4, by omega⟩
theorem cross_up (y : Int) (a m : Nat) (h : Y a ≤ y) (h' : y < Y (a + m)) : ∃ d, a ≤ d ∧ d < a + m ∧ uc Y y d := by
  obtain ⟨d, d1, d2, d3, d4⟩ := between (fun k => y < Y k) a m (by omega) h'
  exact ⟨d, d1, d2, by omega, d4⟩
theorem uc_once (hc : Closed X Y n) (ho : Once X Y n) (y : Int) {a b : Nat} (ha : uc Y y a) (hb : uc Y y b) (hab : a < b) : a + n ≤ b := by
  rcases Nat.lt_or_ge b (a + n) with h | h
  · exfalso
    obtain ⟨d, d1, d2, d3⟩ := cross_dn (Y := Y) y (a + 1) (b - (a + 1)) ha.2 (by rw [show a + 1 + (b - (a + 1)) = b by omega]; exact hb.1)
    obtain ⟨g, g1, g2, g3⟩ := cross_dn (Y := Y) y (b + 1) (a + n - (b + 1)) hb.2 (by rw [show b + 1 + (a + n - (b + 1)) = a + n by omega, hc.y]; exact ha.1)
    have ua : Up (ex X (a + n)) (ex Y (a + n)) := by rw [(ex_per hc a).1, (ex_per hc a).2]; exact uc_up ha
    obtain ⟨p, p1, p2, p3⟩ := between (fun k => Up (ex X k) (ex Y k)) d (b - d) (dc_dn d3) (by rw [show d + (b - d) = b by omega]; exact uc_up hb)
    obtain ⟨q, q1, q2, q3⟩ := between (fun k => Up (ex X k) (ex Y k)) g (a + n - g) (dc_dn g3) (by rw [show g + (a + n - g) = a + n by omega]; exact ua)
    have := ho p q p3 q3 (by omega)
    omega
  · exact h
theorem dc_once (hc : Closed X Y n) (ho : Once X Y n) (y : Int) {a b : Nat} (ha : dc Y y a) (hb : dc Y y b) (hab : a < b) : a + n ≤ b := by
  rcases Nat.lt_or_ge b (a + n) with h | h
  · exfalso
    obtain ⟨d, d1, d2, d3⟩ := cross_up (Y := Y) y (a + 1) (b - (a + 1)) ha.1 (by rw [show a + 1 + (b - (a + 1)) = b by omega]; exact hb.2)
    obtain ⟨g, g1, g2, g3⟩ := cross_up (Y := Y) y (b + 1) (a + n - (b + 1)) hb.1 (by rw [show b + 1 + (a + n - (b + 1)) = a + n by omega, hc.y]; exact ha.2)
    have := uc_once hc ho y d3 g3 (by omega)
    omega
  · exact h
/-- No edge up through a height: all points are above it, or none. -/
theorem no_uc (hc : Closed X Y n) (hn : 0 < n) (y : Int) (h : ∀ j, ¬ uc Y y j) : (∀ j, Y j ≤ y) ∨ (∀ j, y < Y j) := by
  rcases Classical.em (∃ j, Y j ≤ y) with ⟨j, hj⟩ | hj
  · left
    intro k
    refine Classical.byContradiction fun hk => ?_
    have key : ∀ q, Y (k + n * q) = Y k := by
      intro q
      induction q with
      | zero => rfl
      | succ q ih => rw [Nat.mul_succ, ← Nat.add_assoc, hc.y, ih]
    have hb : j ≤ k + n * j := by have := Nat.le_mul_of_pos_left j hn; omega
    obtain ⟨d, _, _, d3⟩ := cross_up (Y := Y) y j (k + n * j - j) hj (by rw [show j + (k + n * j - j) = k + n * j by omega, key]; omega)
    exact h d d3
  · right
    intro k
    refine Classical.byContradiction fun hk => hj ⟨k, by omega⟩
theorem some_top (hc : Closed X Y n) (hn : 3 ≤ n) (hne : ∀ j, ex X j ≠ 0 ∨ ex Y j ≠ 0) : ∃ d, Up (ex X d) (ex Y d) ∧ ¬ Up (ex X (d + 1)) (ex Y (d + 1)) := by
  obtain ⟨⟨u, hu, hu'⟩, ⟨a, ha, ha'⟩⟩ := some_up hc hn hne
  have hun : ¬ Up (ex X (u + (a + n - u))) (ex Y (u + (a + n - u))) := by rw [show u + (a + n - u) = a + n by omega, (ex_per hc a).1, (ex_per hc a).2]; exact ha'
  obtain ⟨d, d1, d2, d3, d4⟩ := between (fun k => ¬ Up (ex X k) (ex Y k)) u (a + n - u) (fun h => h hu') hun
  exact ⟨d, Classical.not_not.mp d3, d4⟩
theorem side_ge (hl : Lefts X Y n) (i k : Nat) (hik : i ≤ k) (hkn : k < i + n) : 0 ≤ side X Y i k := by
  rcases Nat.lt_or_ge k (i + 2) with h | h
  · rcases (show k = i ∨ k = i + 1 by omega) with rfl | rfl
    · rw [side_self]; omega
    · have e := side_step X Y i i
      rw [side_self, cr_self] at e
      omega
  · exact Int.le_of_lt (hl i k h hkn)
section
variable (hc : Closed X Y n) (hn : 3 ≤ n) (hl : Lefts X Y n) (x y : Int)
include hc hn hl
theorem side_nonneg (i k : Nat) : 0 ≤ side X Y i k := by
  have key : ∀ q, side X Y i (k + n * q) = side X Y i k := by
    intro q
    induction q with
    | zero => rfl
    | succ q ih => rw [Nat.mul_succ, ← Nat.add_assoc, (side_per hc _ _).1, ih]
  have key2 : ∀ q j, side X Y i (j + n * q) = side X Y i j := by
    intro q
    induction q with
    | zero => intro j; rfl
    | succ q ih => intro j; rw [Nat.mul_succ, ← Nat.add_assoc, (side_per hc _ _).1, ih]
  have hb : i ≤ k + n * i := by have := Nat.le_mul_of_pos_left i (show 0 < n by omega); omega
  rw [← key i]
  have hm := Nat.mod_lt (k + n * i - i) (show 0 < n by omega)
  have hd := Nat.mod_add_div (k + n * i - i) n
  have e : k + n * i = (i + (k + n * i - i) % n) + n * ((k + n * i - i) / n) := by omega
  rw [e, key2]
  exact side_ge hl i _ (by omega) (by omega)
theorem mid_ge (a i : Nat) (ha : Y a ≤ y ∧ y < Y (a + 1) ∨ Y (a + 1) ≤ y ∧ y < Y a) :
    (0 < ex Y a → 0 ≤ ex Y a * off X Y x y i - ex Y i * off X Y x y a) ∧ (ex Y a < 0 → 0 ≤ (- ex Y a) * off X Y x y i + ex Y i * off X Y x y a) := by
  have s1 := side_nonneg hc hn hl i a
  have s2 := side_nonneg hc hn hl i (a + 1)
  have e : ex Y a * off X Y x y i - ex Y i * off X Y x y a = (Y (a + 1) - y) * side X Y i a + (y - Y a) * side X Y i (a + 1) := by unfold off side crs ex; grind
  constructor
  · intro h
    have p1 := Int.mul_nonneg (show 0 ≤ Y (a + 1) - y by unfold ex at h; omega) s1
    have p2 := Int.mul_nonneg (show 0 ≤ y - Y a by unfold ex at h; omega) s2
    rw [e]; omega
  · intro h
    have p1 := Int.mul_nonneg (show 0 ≤ -(Y (a + 1) - y) by unfold ex at h; omega) s1
    have p2 := Int.mul_nonneg (show 0 ≤ -(y - Y a) by unfold ex at h; omega) s2
    have e2 : (- ex Y a) * off X Y x y i + ex Y i * off X Y x y a = -(Y (a + 1) - y) * side X Y i a + -(y - Y a) * side X Y i (a + 1) := by
      rw [Int.neg_mul, Int.neg_mul, Int.neg_mul]
      omega
    rw [e2]; omega
/-- Left of the edge up and not right of the edge down at its height: right of no edge. -/
theorem inside_all (a b : Nat) (ha : uc Y y a) (hb : dc Y y b) (h1 : 0 < off X Y x y a) (h2 : 0 ≤ off X Y x y b) (i : Nat) : 0 ≤ off X Y x y i := by
  have da : 0 < ex Y a := by unfold uc at ha; unfold ex; omega
  have db : ex Y b < 0 := by unfold dc at hb; unfold ex; omega
  have ga := (mid_ge hc hn hl x y a i (Or.inl ha)).1 da
  have gb := (mid_ge hc hn hl x y b i (Or.inr hb)).2 db
  rcases Int.le_total 0 (ex Y i) with h | h
  · have p := Int.mul_nonneg h (Int.le_of_lt h1)
    apply nonneg_of_mul (y := ex Y a) _ da
    rw [Int.mul_comm]
    omega
  · have p := Int.mul_nonneg (show 0 ≤ - ex Y i by omega) h2
    rw [Int.neg_mul] at p
    apply nonneg_of_mul (y := - ex Y b) _ (by omega)
    rw [Int.mul_comm]
    omega
/-- The edge up is not to the left of the edge down. -/
theorem not_swapped (a b : Nat) (ha : uc Y y a) (hb : dc Y y b) (h1 : off X Y x y a ≤ 0) (h2 : off X Y x y b < 0) : False := by
  have da : 0 < ex Y a := by unfold uc at ha; unfold ex; omega
  have db : ex Y b < 0 := by unfold dc at hb; unfold ex; omega
  have ga := (mid_ge hc hn hl x y a b (Or.inl ha)).1 da
  have p := Int.mul_nonneg (show 0 ≤ - ex Y b by omega) (show 0 ≤ - off X Y x y a by omega)
  rw [Int.neg_mul_neg] at p
  have q := Int.mul_neg_of_pos_of_neg da h2
  omega
/-- Strictly to the left of all edges: one edge leads up at its height. -/
theorem in_has_uc (h : ∀ i, 0 < off X Y x y i) : ∃ j, uc Y y j := by
  have ht := turns_of_left hn hl
  have hne := fun j => (ne_of_crs (ht j)).1
  refine Classical.byContradiction fun hno => ?_
  rcases no_uc hc (by omega) y (fun j hj => hno ⟨j, hj⟩) with hall | hall
  · obtain ⟨d, d1, d2⟩ := some_top hc hn hne
    have hB := (up_or (hne (d + 1))).resolve_left d2
    have t : 0 < crs (-ex X (d + 1)) (-ex Y (d + 1)) (ex X d) (ex Y d) := by rw [crs_neg', crs_swap]; have : cr X Y d (d + 1) = crs (ex X d) (ex Y d) (ex X (d + 1)) (ex Y (d + 1)) := rfl; have := ht d; omega
    have f1 := h d
    rw [off_next] at f1
    have f2 := h (d + 1)
    unfold off at f2
    have hy := hall (d + 1)
    rcases Classical.em (Up (x - X (d + 1)) (y - Y (d + 1))) with hu | hu
    · have := up_trans hB d1 hu t f1
      rw [crs_neg'] at this
      omega
    · have hz : y - Y (d + 1) = 0 ∧ x - X (d + 1) ≤ 0 := by unfold Up at hu; omega
      have yB := up_y hB
      unfold crs at f2
      rw [hz.1, Int.mul_zero] at f2
      have := Int.mul_nonneg yB (show 0 ≤ -(x - X (d + 1)) by omega)
      rw [Int.neg_mul_neg] at this
      omega
  · obtain ⟨d, _, d1, d2⟩ := some_dn hc hn hne
    have hB := (up_or (hne d)).resolve_left d1
    have t : 0 < crs (ex X (d + 1)) (ex Y (d + 1)) (-ex X d) (-ex Y d) := by rw [crs_neg, crs_swap]; have : cr X Y d (d + 1) = crs (ex X d) (ex Y d) (ex X (d + 1)) (ex Y (d + 1)) := rfl; have := ht d; omega
    have f1 := h d
    rw [off_next] at f1
    have f2 := h (d + 1)
    unfold off at f2
    have hy := hall (d + 1)
    have := up_y (above d2 hB t f2 (by rw [crs_neg']; omega))
    omega
/-- Not strictly to the right of all edges. -/
theorem not_right (h : ∀ i, off X Y x y i < 0) : False := by
  have ht := turns_of_left hn hl
  have hne := fun j => (ne_of_crs (ht j)).1
  rcases Classical.em (∃ j, uc Y y j) with ⟨a, ha⟩ | hno
  · obtain ⟨b, _, _, hb⟩ := cross_dn (Y := Y) y (a + 1) (n - 1) ha.2 (by rw [show a + 1 + (n - 1) = a + n by omega, hc.y]; exact ha.1)
    exact not_swapped hc hn hl x y a b ha hb (Int.le_of_lt (h a)) (h b)
  · rcases no_uc hc (by omega) y (fun j hj => hno ⟨j, hj⟩) with hall | hall
    · obtain ⟨d, _, d1, d2⟩ := some_dn hc hn hne
      have hB := (up_or (hne d)).resolve_left d1
      have t : 0 < crs (ex X (d + 1)) (ex Y (d + 1)) (-ex X d) (-ex Y d) := by rw [crs_neg, crs_swap]; have : cr X Y d (d + 1) = crs (ex X d) (ex Y d) (ex X (d + 1)) (ex Y (d + 1)) := rfl; have := ht d; omega
      have f1 := h d
      rw [off_next] at f1
      have f2 := h (d + 1)
      unfold off at f2
      have hy := hall (d + 1)
      rcases Classical.em (Up (x - X (d + 1)) (y - Y (d + 1))) with hu | hu
      · have := up_trans hu d2 hB (by rw [crs_swap]; omega) t
        rw [crs_neg, crs_swap] at this
        omega
      · have hz : y - Y (d + 1) = 0 ∧ x - X (d + 1) ≤ 0 := by unfold Up at hu; omega
        have yA := up_y d2
        unfold crs at f2
        rw [hz.1, Int.mul_zero] at f2
        have := Int.mul_nonneg yA (show 0 ≤ -(x - X (d + 1)) by omega)
        rw [Int.mul_neg] at this
        omega
    · obtain ⟨d, d1, d2⟩ := some_top hc hn hne
      have hB := (up_or (hne (d + 1))).resolve_left d2
      have t : 0 < crs (-ex X (d + 1)) (-ex Y (d + 1)) (ex X d) (ex Y d) := by rw [crs_neg', crs_swap]; have : cr X Y d (d + 1) = crs (ex X d) (ex Y d) (ex X (d + 1)) (ex Y (d + 1)) := rfl; have := ht d; omega
      have f1 := h d
      rw [off_next] at f1
      have f2 := h (d + 1)
      unfold off at f2
      have hy := hall (d + 1)
      have hC : Up (-(x - X (d + 1))) (-(y - Y (d + 1))) := by unfold Up; omega
      have := up_trans hB d1 hC t (by rw [crs_neg]; omega)
      rw [crs_neg2] at this
      omega
end
end
end Go.Proofs.Ytdhgekogaoiidaa.Geo

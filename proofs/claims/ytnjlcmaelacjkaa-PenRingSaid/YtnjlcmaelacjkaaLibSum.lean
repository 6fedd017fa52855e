/-
  Plain laws: Sum by the code.
-/
import Derived.Test.YtnjlcmaelacjkaaLibSweep
import Derived.Test.YtnjlcmaelacjkaaPD3x9
set_option linter.unusedVariables false
set_option linter.unusedSimpArgs false
namespace Go.Proofs.Ytnjlcmaelacjkaa.PD3
open Go.RowKit Go.Proofs.YtnjlcmaelacjkaaW.PrintWords Go.Proofs.YtnjlcmaelacjkaaW.PrintLast Go.Proofs.YtnjlcmaelacjkaaW.PrintMore HG
def sumRes (a b : List S33) : List S33 × Int := if okPen a && okPen b then (if (sums a b).all isPt then (if 64 < (hullOf (sums a b)).length then ([], 3) else (hullOf (sums a b), 0)) else ([], 17)) else ([], 2)
theorem sums_big {a b : List S33} (ha : ∀ x ∈ a, isPt x = true) (hb : ∀ x ∈ b, isPt x = true) : ∀ x ∈ sums a b, Big x := by
  intro x hx
  obtain ⟨p, hp, q, hq, rfl⟩ := mem_sums.mp hx
  exact mv_pt (ha p hp) (hb q hq)
theorem sums_len (a b : List S33) : (sums a b).length = a.length * b.length := by
  induction a with
  | nil => simp [sums]
  | cons p r ih =>
    have : sums (p :: r) b = b.map (mv p) ++ sums r b := rfl
    rw [this, List.length_append, List.length_map, ih, List.length_cons, Nat.succ_mul]; omega
theorem sums_len_le {a b : List S33} (ha : a.length ≤ 64) (hb : b.length ≤ 64) : (sums a b).length ≤ 4096 := by
  rw [sums_len]; exact Nat.mul_le_mul ha hb
theorem sums_ne {a b : List S33} (ha : 1 ≤ a.length) (hb : 1 ≤ b.length) : sums a b ≠ [] := by
  intro h
  have := sums_len a b
  rw [h] at this
  have := Nat.mul_le_mul ha hb
  simp at *; omega
theorem fits_is (h : List S33) (hl : h.length ≤ 1000000) : pen_fits.f h = some (if h.all isPt then (if 64 < h.length then ([], 3) else (h, 0)) else ([], 17)) := by
  unfold pen_fits.f
  rw [arePoints_is h (by omega)]
  simp only [Option.bind_some]
  cases hal : h.all isPt with
  | false => rfl
  | true =>
    rw [if_pos rfl, if_pos rfl]
    by_cases hg : 64 < h.length
    · rw [if_pos (by omega), if_pos hg]
    · rw [if_neg (by omega), if_neg hg]
theorem sum_in (l0 l1 : List S33) (n : Int) (i : Nat) (p : S33) (hp : isPt p = true) (h1 : ∀ x ∈ l1, isPt x = true) (hl : l1.length ≤ 1000) (hi : i ≤ 1000) (k : Nat) (d : Nat) : ∀ (j : Nat) (out : List S33), j ≤ l1.length → l1.length - j = d → out.length + d ≤ 1000000 →
    pen_Sum.l1 (k + d + 1) l1 out l0 n (i : Int) l1 (l1.length : Int) (j : Int) p.f0 p.f1 = pen_Sum.l0 k l1 (out ++ (l1.drop j).map (mv p)) l0 n ((i + 1 : Nat) : Int) := by
  induction d with
  | zero =>
    intro j out hj hd ho
    simp only [pen_Sum.l1]
    rw [if_neg (by omega), wrap64_small (by omega) (by omega), List.drop_eq_nil_of_le (by omega), List.map_nil, List.append_nil]
    rfl
  | succ d ih =>
    intro j out hj hd ho
    rw [show k + (d + 1) + 1 = (k + d + 1) + 1 by omega]
    generalize hq : k + d + 1 = q at *
    simp only [pen_Sum.l1]
    rw [if_pos (by omega), if_pos (by omega), if_pos (by omega), plus_is hp (h1 _ (rd_in l1 j (by omega)))]
    simp only [Option.bind_some]
    rw [if_pos (by omega), wrap64_small (n := (j : Int) + 1) (by omega) (by omega), show (j : Int) + 1 = ((j + 1 : Nat) : Int) by omega, ih (j + 1) _ (by omega) (by omega) (by simp; omega), rd_drop l1 j (by omega), List.map_cons, List.append_assoc]
    rfl
theorem sum_out (l0 l1 : List S33) (h0 : ∀ x ∈ l0, isPt x = true) (h1 : ∀ x ∈ l1, isPt x = true) (hl0 : l0.length ≤ 1000) (hl : l1.length ≤ 1000) (d : Nat) : ∀ (k i : Nat) (out : List S33), i ≤ l0.length → l0.length - i = d → d * (l1.length + 2) < k → out.length + d * l1.length ≤ 1000000 →
    pen_Sum.l0 k l1 out l0 (l0.length : Int) (i : Int) = (pen_hull.f (out ++ sums (l0.drop i) l1)).bind fun t => (pen_fits.f t).bind fun b => some (b.1, b.2) := by
  induction d with
  | zero =>
    intro k i out hi hd hk ho
    obtain ⟨k, rfl⟩ : ∃ m, k = m + 1 := ⟨k - 1, by omega⟩
    simp only [pen_Sum.l0]
    rw [if_neg (by omega), List.drop_eq_nil_of_le (by omega)]
    simp [sums]
  | succ d ih =>
    intro k i out hi hd hk ho
    rw [Nat.succ_mul] at hk ho
    obtain ⟨k, rfl⟩ : ∃ m, k = m + l1.length + 1 + 1 := ⟨k - l1.length - 2, by omega⟩
    simp only [pen_Sum.l0]
    rw [if_pos (by omega), if_pos (by omega), if_pos (by omega)]
    have := sum_in l0 l1 (l0.length : Int) i (rd_T33 l0 (i : Int)) (h0 _ (rd_in l0 i (by omega))) h1 hl (by omega) k l1.length 0 out (by omega) (by omega) (by omega)
    rw [show (0 : Int) = ((0 : Nat) : Int) from rfl, this, List.drop_zero, ih k (i + 1) _ (by omega) (by omega) (by omega) (by simp; omega), rd_drop l0 i (by omega), List.append_assoc]
    rfl
theorem sum_is (a b : List S33) (k : Nat) (hk : 10000 ≤ k) : pen_Sum.f k a b = some (sumRes a b) := by
  obtain ⟨k, rfl⟩ : ∃ m, k = m + 1 := ⟨k - 1, by omega⟩
  unfold pen_Sum.f sumRes
  rw [valid_is, valid_is]
  cases ha : okPen a with
  | false => rfl
  | true =>
    cases hb : okPen b with
    | false => rfl
    | true =>
      obtain ⟨a1, a2, a3, a4⟩ := okPen_iff.mp ha
      obtain ⟨b1, b2, b3, b4⟩ := okPen_iff.mp hb
      have hm : a.length * (b.length + 2) ≤ 64 * 66 := Nat.mul_le_mul a2 (by omega)
      have hm2 : a.length * b.length ≤ 64 * 64 := Nat.mul_le_mul a2 b2
      simp only [Option.bind_some, if_true, Bool.and_self, Bool.not_true, pen_Sum.j0, Bool.false_eq_true, if_false]
      have := sum_out a b a3 b3 (by omega) (by omega) a.length k 0 [] (by omega) (by omega) (by omega) (by simp; omega)
      rw [show (0 : Int) = ((0 : Nat) : Int) from rfl, this, List.drop_zero, List.nil_append, hull_is _ (sums_big a3 b3) (by have := sums_len_le a2 b2; omega)]
      simp only [Option.bind_some]
      rw [fits_is _ (by have := sums_len_le a2 b2; have := hullOf_len (sums a b); omega), hull_pts (sums_ne a1 b1)]
      rfl
end Go.Proofs.Ytnjlcmaelacjkaa.PD3

/-
  Plain laws: Grow by the code.
-/
import Derived.Test.YtnjlcmaelacjkaaLibSum
import Derived.Test.YtnjlcmaelacjkaaPD3x18
set_option linter.unusedVariables false
set_option linter.unusedSimpArgs false
namespace Go.Proofs.Ytnjlcmaelacjkaa.PD3
open Go.RowKit Go.Proofs.YtnjlcmaelacjkaaW.PrintWords Go.Proofs.YtnjlcmaelacjkaaW.PrintLast Go.Proofs.YtnjlcmaelacjkaaW.PrintMore HG
def growRes (a : List S33) (n : Int) : List S33 × Int := if okPen a && (decide (0 ≤ n) && decide (n ≤ 1000)) then (if (a.map (gr n)).all isPt then (hullOf (a.map (gr n)), 0) else ([], 17)) else ([], 2)
theorem hullOf_isPt {l : List S33} (h : ∀ x ∈ l, isPt x = true) : (hullOf l).all isPt = true := List.all_eq_true.mpr (fun x hx => h x (hullOf_sub x hx))
theorem gr_big {x : S33} {n : Int} (h : isPt x = true) (h0 : 0 ≤ n) (h1 : n ≤ 1000) : -268435455000 ≤ x.f0 * n ∧ x.f0 * n ≤ 268435455000 ∧ -268435455000 ≤ x.f1 * n ∧ x.f1 * n ≤ 268435455000 := by
  have := isPt_iff.mp h
  have e0 : (x.f0 + 268435455) * n ≥ 0 := Int.mul_nonneg (by omega) h0
  have e1 : (268435455 - x.f0) * n ≥ 0 := Int.mul_nonneg (by omega) h0
  have e2 : (x.f1 + 268435455) * n ≥ 0 := Int.mul_nonneg (by omega) h0
  have e3 : (268435455 - x.f1) * n ≥ 0 := Int.mul_nonneg (by omega) h0
  rw [Int.add_mul] at e0 e2
  rw [Int.sub_mul] at e1 e3
  omega
theorem grow_go (l : List S33) (n : Int) (h0 : 0 ≤ n) (hn : n ≤ 1000) (hl : l.length ≤ 1000000) (hal : ∀ x ∈ l, isPt x = true) (d : Nat) : ∀ (k i : Nat) (a : List S33), i ≤ l.length → l.length - i = d → d < k → a.length = l.length → a.take i = (l.take i).map (gr n) →
    pen_Grow.l0 k n a l (l.length : Int) (i : Int) = (flat_ArePoints.f (l.map (gr n))).bind fun t => if t = true then (pen_hull.f (l.map (gr n))).bind fun h => (pen_fits.f h).bind fun b => some (b.1, b.2) else some ([], 17) := by
  induction d with
  | zero =>
    intro k i a hi hd hk ha ht
    obtain ⟨k, rfl⟩ : ∃ m, k = m + 1 := ⟨k - 1, by omega⟩
    simp only [pen_Grow.l0]
    rw [if_neg (by omega)]
    rw [List.take_of_length_le (by omega), List.take_of_length_le (by omega)] at ht
    rw [ht]
  | succ d ih =>
    intro k i a hi hd hk ha ht
    obtain ⟨k, rfl⟩ : ∃ m, k = m + 1 := ⟨k - 1, by omega⟩
    have bx := gr_big (hal _ (rd_in l i (by omega))) h0 hn
    simp only [pen_Grow.l0]
    rw [if_pos (by omega), if_pos (by omega), if_pos (by omega), if_pos (by omega), wrap64_small (n := (rd_T33 l (i : Int)).f0 * n) (by omega) (by omega), wrap64_small (n := (rd_T33 l (i : Int)).f1 * n) (by omega) (by omega), wrap64_small (n := (i : Int) + 1) (by omega) (by omega), show (i : Int) + 1 = ((i + 1 : Nat) : Int) by omega, Int.toNat_natCast]
    refine ih k (i + 1) _ (by omega) (by omega) (by omega) (by rw [List.length_set]; exact ha) ?_
    rw [List.take_succ_eq_append_getElem (by rw [List.length_set]; omega), List.take_succ_eq_append_getElem (by omega), List.map_append, List.take_set_of_le (Nat.le_refl _), ht, List.getElem_set_self, ← rd_get l i (by omega)]
    rfl
theorem grow_is (a : List S33) (n : Int) (k : Nat) (hk : 100 ≤ k) : pen_Grow.f k a n = some (growRes a n) := by
  obtain ⟨k, rfl⟩ : ∃ m, k = m + 1 := ⟨k - 1, by omega⟩
  unfold pen_Grow.f growRes
  rw [valid_is]
  cases ha : okPen a with
  | false => rfl
  | true =>
    obtain ⟨a1, a2, a3, a4⟩ := okPen_iff.mp ha
    simp only [Option.bind_some, if_true, Bool.true_and, pen_Grow.j0]
    by_cases h0 : n < 0
    · rw [if_pos h0, decide_eq_false (show ¬ 0 ≤ n by omega)]; rfl
    rw [if_neg h0, decide_eq_true (show 0 ≤ n by omega)]
    by_cases h1 : n > 1000
    · rw [if_pos (decide_eq_true h1), decide_eq_false (show ¬ n ≤ 1000 by omega)]; rfl
    rw [if_neg (by simp; omega), decide_eq_true (show n ≤ 1000 by omega), if_pos (by omega), if_pos (by omega)]
    have := grow_go a n (by omega) (by omega) (by omega) a3 a.length k 0 (List.replicate ((a.length : Int)).toNat z33) (by omega) (by omega) (by omega) (by simp) (by simp)
    refine this.trans ?_
    rw [arePoints_is _ (by simp; omega)]
    simp only [Option.bind_some, Bool.and_self, if_true]
    cases hal : (a.map (gr n)).all isPt with
    | false => rfl
    | true =>
      have hpt : ∀ x ∈ a.map (gr n), isPt x = true := List.all_eq_true.mp hal
      have hlen := hullOf_len (a.map (gr n))
      rw [List.length_map] at hlen
      rw [if_pos rfl, if_pos rfl, hull_is _ (fun x hx => big_of (hpt x hx)) (by simp; omega)]
      simp only [Option.bind_some]
      rw [fits_is _ (by omega), hullOf_isPt hpt, if_pos rfl, if_neg (by omega)]
      rfl
end Go.Proofs.Ytnjlcmaelacjkaa.PD3

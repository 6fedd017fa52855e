/-
  Plain laws: Sum by the chapter.
-/
import Derived.Test.YtnjlcmaelacjkaaLibSum
import Derived.Test.YtnjlcmaelacjkaaLibRefValid
import Derived.Test.YtnjlcmaelacjkaaLibRefSwept
import Derived.Test.YtnjlcmaelacjkaaPD3x26
set_option linter.unusedVariables false
set_option linter.unusedSimpArgs false
namespace Go.Proofs.Ytnjlcmaelacjkaa.PD3
open Go.RowKit Go.Proofs.YtnjlcmaelacjkaaW.PrintWords Go.Proofs.YtnjlcmaelacjkaaW.PrintLast Go.Proofs.YtnjlcmaelacjkaaW.PrintMore HG
theorem refSum_out (l0 l1 : List S33) (h0 : ∀ x ∈ l0, isPt x = true) (h1 : ∀ x ∈ l1, isPt x = true) (hl0 : l0.length ≤ 1000) (hl : l1.length ≤ 1000) (hbig : ∀ x ∈ sums l1 l0, Big x) (hne : 1 ≤ (sums l1 l0).length) (hle : (sums l1 l0).length ≤ 5000) (d : Nat) : ∀ (k i : Nat) (out : List S33), i ≤ l1.length → l1.length - i = d → d + 10000 < k → out.length + d * l0.length ≤ 1000000 → out ++ sums (l1.drop i) l0 = sums l1 l0 →
    fleuronref18_Sum.l0 k l0 out l1 (l1.length : Int) (i : Int) = some (if (hullOf (sums l1 l0)).all isPt then (if 64 < (hullOf (sums l1 l0)).length then ([], 3) else (hullOf (sums l1 l0), 0)) else ([], 17)) := by
  induction d with
  | zero =>
    intro k i out hi hd hk ho he
    obtain ⟨k, rfl⟩ : ∃ m, k = m + 1 := ⟨k - 1, by omega⟩
    simp only [fleuronref18_Sum.l0]
    rw [List.drop_eq_nil_of_le (by omega)] at he
    simp only [sums, List.flatMap_nil, List.append_nil] at he
    change out = sums l1 l0 at he
    subst he
    have hlen := hullOf_len (sums l1 l0)
    rw [if_neg (by omega), round_is' _ hbig hne (by omega)]
    simp only [Option.bind_some]
    rw [refAll_is _ (by omega) k (by omega)]
    simp only [Option.bind_some]
    cases hal : (hullOf (sums l1 l0)).all isPt with
    | false => rfl
    | true =>
      rw [if_pos rfl, if_pos rfl]
      by_cases hg : 64 < (hullOf (sums l1 l0)).length
      · rw [if_pos (by omega), if_pos hg]
      · rw [if_neg (by omega), if_neg hg]
  | succ d ih =>
    intro k i out hi hd hk ho he
    rw [Nat.succ_mul] at ho
    obtain ⟨k, rfl⟩ : ∃ m, k = m + 1 := ⟨k - 1, by omega⟩
    simp only [fleuronref18_Sum.l0]
    rw [if_pos (by omega), if_pos (by omega), if_pos (by omega), refPlus_is l0 _ (by omega) h0 (h1 _ (rd_in l1 i (by omega))) k (by omega)]
    simp only [Option.bind_some, List.length_map]
    rw [if_pos (by omega), wrap64_small (n := (i : Int) + 1) (by omega) (by omega), show (i : Int) + 1 = ((i + 1 : Nat) : Int) by omega]
    refine ih k (i + 1) _ (by omega) (by omega) (by omega) (by simp; omega) ?_
    rw [← he, rd_drop l1 i (by omega), List.append_assoc]
    rfl
theorem sums_swap {a b : List S33} (ha : 1 ≤ a.length) (hb : 1 ≤ b.length) : hullOf (sums b a) = hullOf (sums a b) := hullOf_same (sums_ne hb ha) (sums_ne ha hb) (sums_comm b a) (sums_comm a b)
theorem refSum_is (a b : List S33) (k : Nat) (hk : 20000 ≤ k) : fleuronref18_Sum.f k a b = some (sumRes a b) := by
  obtain ⟨k, rfl⟩ : ∃ m, k = m + 1 := ⟨k - 1, by omega⟩
  unfold fleuronref18_Sum.f sumRes
  rw [refValid_is _ _ (by omega), refValid_is _ _ (by omega)]
  cases ha : okPen a with
  | false => rfl
  | true =>
    cases hb : okPen b with
    | false => rfl
    | true =>
      obtain ⟨a1, a2, a3, a4⟩ := okPen_iff.mp ha
      obtain ⟨b1, b2, b3, b4⟩ := okPen_iff.mp hb
      have hm2 : b.length * a.length ≤ 64 * 64 := Nat.mul_le_mul b2 a2
      have hs := sums_len b a
      have hs1 : 1 ≤ (sums b a).length := by
        cases h : sums b a with
        | nil => exact absurd h (sums_ne b1 a1)
        | cons x r => simp
      simp only [Option.bind_some, if_true, Bool.and_self, Bool.not_true, fleuronref18_Sum.j0, Bool.false_eq_true, if_false]
      have := refSum_out a b a3 b3 (by omega) (by omega) (sums_big b3 a3) hs1 (by omega) b.length k 0 [] (by omega) (by omega) (by omega) (by simp; omega) (by rw [List.drop_zero, List.nil_append])
      refine this.trans ?_
      rw [sums_swap a1 b1, hull_pts (sums_ne a1 b1)]
end Go.Proofs.Ytnjlcmaelacjkaa.PD3

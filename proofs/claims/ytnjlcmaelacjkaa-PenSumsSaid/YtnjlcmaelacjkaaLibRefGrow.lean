/-
  Plain laws: Grow by the chapter.
-/
import Derived.Test.YtnjlcmaelacjkaaLibGrow
import Derived.Test.YtnjlcmaelacjkaaLibRefValid
import Derived.Test.YtnjlcmaelacjkaaPD3x26
set_option linter.unusedVariables false
set_option linter.unusedSimpArgs false
namespace Go.Proofs.Ytnjlcmaelacjkaa.PD3
open Go.RowKit Go.Proofs.YtnjlcmaelacjkaaW.PrintWords Go.Proofs.YtnjlcmaelacjkaaW.PrintLast Go.Proofs.YtnjlcmaelacjkaaW.PrintMore HG
theorem refGrow_go (l : List S33) (n : Int) (h0 : 0 ≤ n) (hn : n ≤ 1000) (h1 : 1 ≤ l.length) (hl : l.length ≤ 1000000) (hal : ∀ x ∈ l, isPt x = true) (d : Nat) : ∀ (k i : Nat), i ≤ l.length → l.length - i = d → d + l.length + 1 < k →
    fleuronref18_Grow.l0 k n ((l.take i).map (gr n)) l (l.length : Int) (i : Int) = some (if (l.map (gr n)).all isPt then (hullOf (l.map (gr n)), 0) else ([], 17)) := by
  induction d with
  | zero =>
    intro k i hi hd hk
    obtain ⟨k, rfl⟩ : ∃ m, k = m + 1 := ⟨k - 1, by omega⟩
    simp only [fleuronref18_Grow.l0]
    rw [if_neg (by omega), List.take_of_length_le (by omega), refAll_is _ (by simp; omega) k (by simp; omega)]
    simp only [Option.bind_some]
    cases hal' : (l.map (gr n)).all isPt with
    | false => rfl
    | true =>
      have hpt : ∀ x ∈ l.map (gr n), isPt x = true := List.all_eq_true.mp hal'
      rw [if_pos rfl, round_is' _ (fun x hx => big_of (hpt x hx)) (by simp; omega) (by simp; omega)]
      rfl
  | succ d ih =>
    intro k i hi hd hk
    obtain ⟨k, rfl⟩ : ∃ m, k = m + 1 := ⟨k - 1, by omega⟩
    have bx := gr_big (hal _ (rd_in l i (by omega))) h0 hn
    simp only [fleuronref18_Grow.l0]
    rw [if_pos (by omega), if_pos (by omega), if_pos (by omega), if_pos (by simp; omega), wrap64_small (n := (rd_T33 l (i : Int)).f0 * n) (by omega) (by omega), wrap64_small (n := (rd_T33 l (i : Int)).f1 * n) (by omega) (by omega), wrap64_small (n := (i : Int) + 1) (by omega) (by omega), show (i : Int) + 1 = ((i + 1 : Nat) : Int) by omega]
    have := ih k (i + 1) (by omega) (by omega) (by omega)
    rw [List.take_succ_eq_append_getElem (by omega), List.map_append, ← rd_get l i (by omega)] at this
    exact this
theorem refGrow_is (a : List S33) (n : Int) (k : Nat) (hk : 200 ≤ k) : fleuronref18_Grow.f k a n = some (growRes a n) := by
  obtain ⟨k, rfl⟩ : ∃ m, k = m + 1 := ⟨k - 1, by omega⟩
  unfold fleuronref18_Grow.f growRes
  rw [refValid_is _ _ (by omega)]
  cases ha : okPen a with
  | false => rfl
  | true =>
    obtain ⟨a1, a2, a3, a4⟩ := okPen_iff.mp ha
    simp only [Option.bind_some, if_true, Bool.true_and, fleuronref18_Grow.j0]
    by_cases h0 : n < 0
    · rw [if_pos h0, decide_eq_false (show ¬ 0 ≤ n by omega)]; rfl
    rw [if_neg h0, decide_eq_true (show 0 ≤ n by omega)]
    by_cases h1 : n > 1000
    · rw [if_pos (decide_eq_true h1), decide_eq_false (show ¬ n ≤ 1000 by omega)]; rfl
    rw [if_neg (by simp; omega), decide_eq_true (show n ≤ 1000 by omega)]
    have := refGrow_go a n (by omega) (by omega) a1 (by omega) a3 a.length k 0 (by omega) (by omega) (by omega)
    simpa using this
end Go.Proofs.Ytnjlcmaelacjkaa.PD3

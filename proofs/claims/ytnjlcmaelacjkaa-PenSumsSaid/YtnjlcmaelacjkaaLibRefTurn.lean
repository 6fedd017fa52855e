/-
  Plain laws: Turn by the chapter.
-/
import Derived.Test.YtnjlcmaelacjkaaLibTurn
import Derived.Test.YtnjlcmaelacjkaaLibRefValid
import Derived.Test.YtnjlcmaelacjkaaPD3x26
set_option linter.unusedVariables false
set_option linter.unusedSimpArgs false
namespace Go.Proofs.Ytnjlcmaelacjkaa.PD3
open Go.RowKit Go.Proofs.YtnjlcmaelacjkaaW.PrintWords Go.Proofs.YtnjlcmaelacjkaaW.PrintLast Go.Proofs.YtnjlcmaelacjkaaW.PrintMore HG
theorem refTurn_go (l : List S33) (h1 : 1 ≤ l.length) (hl : l.length ≤ 1000000) (hal : ∀ x ∈ l, isPt x = true) (d : Nat) : ∀ (k i : Nat), i ≤ l.length → l.length - i = d → d < k →
    fleuronref18_Turn.l0 k ((l.take i).map ng) l (l.length : Int) (i : Int) = some (hullOf (l.map ng), 0) := by
  induction d with
  | zero =>
    intro k i hi hd hk
    obtain ⟨k, rfl⟩ : ∃ m, k = m + 1 := ⟨k - 1, by omega⟩
    simp only [fleuronref18_Turn.l0]
    rw [if_neg (by omega), List.take_of_length_le (by omega), round_is' _ (fun x hx => big_of (ngs_pt hal x hx)) (by simp; omega) (by simp; omega)]
    rfl
  | succ d ih =>
    intro k i hi hd hk
    obtain ⟨k, rfl⟩ : ∃ m, k = m + 1 := ⟨k - 1, by omega⟩
    have bx := isPt_iff.mp (hal _ (rd_in l i (by omega)))
    simp only [fleuronref18_Turn.l0]
    rw [if_pos (by omega), if_pos (by omega), if_pos (by omega), if_pos (by simp; omega), wrap64_small (n := -(rd_T33 l (i : Int)).f0) (by omega) (by omega), wrap64_small (n := -(rd_T33 l (i : Int)).f1) (by omega) (by omega), wrap64_small (n := (i : Int) + 1) (by omega) (by omega), show (i : Int) + 1 = ((i + 1 : Nat) : Int) by omega]
    have := ih k (i + 1) (by omega) (by omega) (by omega)
    rw [List.take_succ_eq_append_getElem (by omega), List.map_append, ← rd_get l i (by omega)] at this
    exact this
theorem refTurn_is (a : List S33) (k : Nat) (hk : 65 ≤ k) : fleuronref18_Turn.f k a = some (turnRes a) := by
  unfold fleuronref18_Turn.f turnRes
  rw [refValid_is _ _ hk]
  cases ha : okPen a with
  | false => rfl
  | true =>
    obtain ⟨a1, a2, a3, a4⟩ := okPen_iff.mp ha
    simp only [Option.bind_some, if_true]
    have := refTurn_go a a1 (by omega) a3 a.length k 0 (by omega) (by omega) (by omega)
    simpa using this
end Go.Proofs.Ytnjlcmaelacjkaa.PD3

/-
  Plain laws: Hull by the code.
-/
import Derived.Test.YtnjlcmaelacjkaaLibSame
import Derived.Test.YtnjlcmaelacjkaaStubD3
set_option linter.unusedVariables false
set_option linter.unusedSimpArgs false
namespace Go.Proofs.Ytnjlcmaelacjkaa.PD3
open Go.RowKit Go.Proofs.YtnjlcmaelacjkaaW.PrintWords Go.Proofs.YtnjlcmaelacjkaaW.PrintLast Go.Proofs.YtnjlcmaelacjkaaW.PrintMore HG
def okPts (l : List S33) : Bool := decide (1 ≤ l.length) && (decide (l.length ≤ 2000) && l.all isPt)
def hullRes (l : List S33) : List S33 × Int := if okPts l then (if 64 < (hullOf l).length then ([], 3) else (hullOf l, 0)) else ([], 2)
theorem okPts_facts {l : List S33} (h : okPts l = true) : 1 ≤ l.length ∧ l.length ≤ 2000 ∧ ∀ x ∈ l, isPt x = true := by
  unfold okPts at h
  simp only [Bool.and_eq_true, decide_eq_true_eq, List.all_eq_true] at h
  exact h
theorem hullOf_pts {l : List S33} (h : ∀ x ∈ l, isPt x = true) : (hullOf l).all isPt = true := List.all_eq_true.mpr (fun x hx => h x (hullOf_sub x hx))
theorem progHull_is (l : List S33) (k : Nat) (hk : 1 ≤ k) : pen_Hull.f k l = some (hullRes l) := by
  obtain ⟨k, rfl⟩ : ∃ m, k = m + 1 := ⟨k - 1, by omega⟩
  unfold pen_Hull.f hullRes okPts
  by_cases h1 : 1 ≤ l.length
  · rw [if_neg (by omega), decide_eq_true h1]
    by_cases h2 : l.length ≤ 2000
    · rw [if_neg (by omega), decide_eq_true h2, arePoints_is l (by omega)]
      simp only [Option.bind_some, Bool.true_and, pen_Hull.j0]
      cases hal : l.all isPt with
      | false => rfl
      | true =>
        have hpt : ∀ x ∈ l, isPt x = true := List.all_eq_true.mp hal
        simp only [Bool.not_true, Bool.false_eq_true, if_false, if_true]
        rw [hull_is l (fun x hx => big_of (hpt x hx)) (by omega)]
        simp only [Option.bind_some]
        unfold pen_fits.f
        have hl := hullOf_len l
        rw [arePoints_is _ (by omega), hullOf_pts hpt]
        simp only [Option.bind_some, if_true]
        by_cases h3 : 64 < (hullOf l).length
        · rw [if_pos (by omega), if_pos h3]; rfl
        · rw [if_neg (by omega), if_neg h3]; rfl
    · rw [if_pos (by omega), decide_eq_false h2]
      simp [pen_Hull.j0]
  · rw [if_pos (by omega), decide_eq_false h1]
    simp [pen_Hull.j0]
theorem hullRes_len (l : List S33) : (hullRes l).1.length ≤ 64 := by
  unfold hullRes
  split
  · split <;> simp; omega
  · simp
end Go.Proofs.Ytnjlcmaelacjkaa.PD3

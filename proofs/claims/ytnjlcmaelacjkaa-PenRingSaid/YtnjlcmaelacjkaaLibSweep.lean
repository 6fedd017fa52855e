/-
  Plain laws: Sweep by the code.
-/
import Derived.Test.YtnjlcmaelacjkaaLibSwept
import Derived.Test.YtnjlcmaelacjkaaPD3x7
set_option linter.unusedVariables false
set_option linter.unusedSimpArgs false
namespace Go.Proofs.Ytnjlcmaelacjkaa.PD3
open Go.RowKit Go.Proofs.YtnjlcmaelacjkaaW.PrintWords Go.Proofs.YtnjlcmaelacjkaaW.PrintLast Go.Proofs.YtnjlcmaelacjkaaW.PrintMore HG
theorem isPt_box {x : S33} : isPt x = true ↔ -268435455 ≤ x.f0 ∧ x.f0 ≤ 268435455 ∧ -268435455 ≤ x.f1 ∧ x.f1 ≤ 268435455 := by rw [isPt_iff]; omega
/-- A set has coordinates just if its hull has. -/
theorem hull_pts {l : List S33} (h : l ≠ []) : (hullOf l).all isPt = l.all isPt := by
  rw [Bool.eq_iff_iff, List.all_eq_true, List.all_eq_true]
  have := hull_box (hullOf_is h) (-268435455) 268435455 (-268435455) 268435455
  simp only [isPt_box]
  exact this.symm
def sweepRes (l : List S33) (p q : S33) : List S33 × Int := if okPen l && (isPt p && isPt q) then (if (twice l p q).all isPt then (hullOf (twice l p q), 0) else ([], 17)) else ([], 2)
theorem sweep_is (l : List S33) (p q : S33) : pen_Sweep.f l p.f0 p.f1 q.f0 q.f1 = some (sweepRes l p q) := by
  unfold pen_Sweep.f sweepRes
  rw [valid_is, arePoints_is _ (by simp)]
  cases hv : okPen l with
  | false => rfl
  | true =>
    obtain ⟨h1, h2, h3, h4⟩ := okPen_iff.mp hv
    simp only [Option.bind_some, if_true, List.all_cons, List.all_nil, Bool.and_true, Bool.true_and]
    cases hp : isPt p with
    | false => rfl
    | true =>
      cases hq : isPt q with
      | false => rfl
      | true =>
        have hlen := hullOf_len (twice l p q)
        rw [twice_len] at hlen
        simp only [Bool.and_self, if_true]
        rw [swept_is l p q (by omega) h3 hp hq _ (by omega)]
        simp only [Option.bind_some]
        rw [arePoints_is _ (by omega), hull_pts (twice_ne h1 p q)]
        simp only [Option.bind_some]
        cases hall : (twice l p q).all isPt with
        | false => rfl
        | true =>
          rw [if_pos rfl, if_pos rfl, at_is l p (by omega) h3 hp _ (by omega)]
          have ha : (l.map (mv p)).all isPt = true ∧ (l.map (mv q)).all isPt = true := by
            unfold twice at hall; rw [List.all_append, Bool.and_eq_true] at hall; exact hall
          simp only [Option.bind_some]
          rw [arePoints_is _ (by simp; omega), ha.1]
          simp only [Option.bind_some]
          rw [if_pos trivial, at_is l q (by omega) h3 hq _ (by omega)]
          simp only [Option.bind_some]
          rw [arePoints_is _ (by simp; omega), ha.2]
          rfl
theorem sweepRes_len (l : List S33) (p q : S33) : (sweepRes l p q).1.length ≤ 128 := by
  unfold sweepRes
  cases hv : okPen l with
  | false => simp
  | true =>
    obtain ⟨h1, h2, h3, h4⟩ := okPen_iff.mp hv
    have hlen := hullOf_len (twice l p q)
    rw [twice_len] at hlen
    (repeat' split) <;> simp <;> omega
end Go.Proofs.Ytnjlcmaelacjkaa.PD3

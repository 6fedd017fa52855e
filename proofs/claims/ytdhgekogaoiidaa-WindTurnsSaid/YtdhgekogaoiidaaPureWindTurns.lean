/-
  WindTurns, its plain law: Reverse, Shift, Start and Convex by the code are those by the chapter.
-/
import Derived.Test.YtdhgekogaoiidaaSaysWindTurns
import Derived.Test.YtdhgekogaoiidaaLibI
import Derived.Test.YtdhgekogaoiidaaLibS
set_option linter.unusedVariables false
set_option linter.unusedSimpArgs false
namespace Go.Proofs.Ytdhgekogaoiidaa.Pure
open Go.RowKit Go.Proofs.Ytdhgekogaoiidaa.PT2 Go.Proofs.YtdhgekogaoiidaaW.PrintWords Go.Proofs.YtdhgekogaoiidaaW.PrintLast Go.Proofs.YtdhgekogaoiidaaW.PrintMore
theorem turns_awake : fleuronlaw17_awake.f = some true := rfl
theorem WindTurns : fleuronlaw17_WindTurns.Pure := by
  intro l d i hl _ _
  have hl1 := hl.1.1
  obtain ⟨b, hb, hf⟩ := few_is [l] (by simp; omega) (by simp) 3000000 (by simp)
  refine ⟨3000000, ?_⟩
  unfold fleuronlaw17_WindTurns.f
  rw [hb]
  simp only [Option.bind_some]
  cases b with
  | false => rfl
  | true =>
    have hs := hf rfl
    simp [sumLen] at hs
    have l2 : (if okPoly l then (l.reverse, 0) else (([] : List S24), (2 : Int))).1.length ≤ 1000 := by split <;> simp <;> omega
    have l3 : (if okPoly l && isPt d then (if (l.map (movP d)).all isPt then (l.map (movP d), 0) else ([], 17)) else (([] : List S24), (2 : Int))).1.length ≤ 1000 := by split <;> (try split) <;> simp <;> omega
    obtain ⟨r, hr, lr⟩ : ∃ r, wind_Start.f l i = some r ∧ r.1.length ≤ 1000 := by
      by_cases h : okPoly l = true ∧ 0 ≤ i ∧ i < l.length
      · obtain ⟨h1, h2, h3⟩ := h
        obtain ⟨j, rfl⟩ : ∃ j : Nat, i = (j : Int) := ⟨i.toNat, by omega⟩
        exact ⟨_, start_is l j h1 (by omega), by simp; omega⟩
      · refine ⟨_, start_bad l i (by omega) ?_, by simp⟩
        cases h1 : okPoly l with
        | false => exact Or.inl rfl
        | true => right; rw [h1] at h; simp at h; omega
    obtain ⟨b1, c1, c2⟩ := convex_is l (by omega) 2999997 (by omega)
    obtain ⟨b2, c3, c4⟩ := refConvex_is l (by omega) 2999997 (by omega)
    rw [if_pos rfl, copied_is l (by omega)]
    simp only [Option.bind_some]
    rw [reverse_is l (by omega), refReverse_is l (by omega) _ (by omega)]
    simp only [Option.bind_some]
    rw [same_is _ (by omega) _ (by omega)]
    simp only [Option.bind_some, if_true, bne_self_eq_false, fleuronlaw17_WindTurns.j0, Bool.false_eq_true, if_false]
    rw [shift_is l d (by omega) _ (by omega), refShift_is l d (by omega) _ (by omega)]
    simp only [Option.bind_some]
    rw [same_is _ (by omega) _ (by omega)]
    simp only [Option.bind_some, if_true, bne_self_eq_false, fleuronlaw17_WindTurns.j1, Bool.false_eq_true, if_false]
    rw [refStart_is l i (by omega) _ (by omega), hr]
    simp only [Option.bind_some]
    rw [same_is _ (by omega) _ (by omega)]
    simp only [Option.bind_some, if_true, bne_self_eq_false, fleuronlaw17_WindTurns.j2, Bool.false_eq_true, if_false]
    rw [c1, c3]
    simp only [Option.bind_some]
    cases hok : okPoly l with
    | false =>
      simp only [Bool.false_eq_true, if_false, beq_self_eq_true, if_true]
      rw [same_is _ (by omega) _ (by omega)]
      rfl
    | true =>
      have hf := okPoly_facts hok
      have e : b1 = b2 := convAll_one hf.1 (c2 hok) (c4 hok)
      subst e
      simp only [if_true, beq_self_eq_true]
      rw [same_is _ (by omega) _ (by omega)]
      rfl
end Go.Proofs.Ytdhgekogaoiidaa.Pure

/-
  WindSides, its plain law: the side by the code is the one by the chapter, and the opposite one with the line's ends exchanged.
-/
import Derived.Test.YtdhgekogaoiidaaSaysWindSides
import Derived.Test.YtdhgekogaoiidaaLibA
set_option linter.unusedVariables false
set_option linter.unusedSimpArgs false
namespace Go.Proofs.Ytdhgekogaoiidaa.Pure
open Go.RowKit Go.Proofs.Ytdhgekogaoiidaa.PT2 Go.Proofs.YtdhgekogaoiidaaW.PrintWords Go.Proofs.YtdhgekogaoiidaaW.PrintLast Go.Proofs.YtdhgekogaoiidaaW.PrintMore
theorem WindSides : fleuronlaw17_WindSides.Pure := by
  intro a b p _ _ _
  refine ⟨5, ?_⟩
  unfold fleuronlaw17_WindSides.f wind_Side.f fleuronref17_Side.f
  rw [arePoints_is _ (by simp), arePoints_is _ (by simp), refAll_is _ (by simp) 5 (by simp)]
  simp only [List.all_cons, List.all_nil, Bool.and_true, Option.bind_some]
  cases ha : isPt a with
  | false => simp [ha, wrap64_zero]; rfl
  | true =>
    cases hb : isPt b with
    | false => simp [ha, hb, wrap64_zero]; rfl
    | true =>
      cases hp : isPt p with
      | false => simp [ha, hb, hp, wrap64_zero]; rfl
      | true =>
        have ca := sgnB_cases (crossB a b p)
        simp only [ha, hb, hp, Bool.and_true, if_true, sign_is a b p ha hb hp, sign_is b a p hb ha hp, refTurn_is a b p ha hb hp, Option.bind_some, cross_swap a b p, sgnB_neg]
        rw [wrap64_small (n := - sgnB (crossB a b p)) (by omega) (by omega), if_pos rfl]
        rfl
end Go.Proofs.Ytdhgekogaoiidaa.Pure

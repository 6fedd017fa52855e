/-
  WindInside, its plain law: inside by the code is inside by the chapter, by winding numbers and by crossings.
-/
import Derived.Test.YtdhgekogaoiidaaSaysWindInside
import Derived.Test.YtdhgekogaoiidaaLibC
set_option linter.unusedVariables false
set_option linter.unusedSimpArgs false
namespace Go.Proofs.Ytdhgekogaoiidaa.Pure
open Go.RowKit Go.Proofs.Ytdhgekogaoiidaa.PT2 Go.Proofs.YtdhgekogaoiidaaW.PrintWords Go.Proofs.YtdhgekogaoiidaaW.PrintLast Go.Proofs.YtdhgekogaoiidaaW.PrintMore
theorem WindInside : fleuronlaw17_WindInside.Pure := by
  intro ll even p hl _ _
  have h1 : ∀ l ∈ ll, l.length ≤ 100000000000000 := fun l hm => by have := (hl.2 l hm).1.1; omega
  have h2 : ll.length ≤ 100000000000000 := by have := hl.1.1; omega
  obtain ⟨b, hb, hf⟩ := few_is ll h1 h2 (ll.length + 5000000) (by omega)
  refine ⟨ll.length + 5000000, ?_⟩
  unfold fleuronlaw17_WindInside.f
  rw [hb]
  simp only [Option.bind_some]
  cases b with
  | false => rfl
  | true =>
    have := hf rfl
    rw [if_pos rfl, inside_is ll even p (by omega) _ (by omega), refInside_is ll even p (by omega) _ (by omega)]
    simp only [Option.bind_some, beq_self_eq_true, if_true]
    rfl
end Go.Proofs.Ytdhgekogaoiidaa.Pure

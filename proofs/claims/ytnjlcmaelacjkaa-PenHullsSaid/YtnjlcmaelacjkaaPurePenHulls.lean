/-
  PenHulls, its plain law: Valid and Hull by the code are those by the chapter.
-/
import Derived.Test.YtnjlcmaelacjkaaSaysPenHulls
import Derived.Test.YtnjlcmaelacjkaaLibValid
import Derived.Test.YtnjlcmaelacjkaaLibHulls
set_option linter.unusedVariables false
set_option linter.unusedSimpArgs false
namespace Go.Proofs.Ytnjlcmaelacjkaa.Pure
open Go.RowKit Go.Proofs.Ytnjlcmaelacjkaa.PD2 Go.Proofs.YtnjlcmaelacjkaaW.PrintWords Go.Proofs.YtnjlcmaelacjkaaW.PrintLast Go.Proofs.YtnjlcmaelacjkaaW.PrintMore
theorem PenHulls : fleuronlaw18_PenHulls.Pure := by
  intro l hl
  have hl1 := hl.1.1
  refine ⟨3000, ?_⟩
  unfold fleuronlaw18_PenHulls.f
  rw [few_is 300 (by omega) (by omega) [l] (by simp; omega) (by simp) 3000 (by simp)]
  simp only [Option.bind_some]
  by_cases hf : ((sumLen [l] : Nat) : Int) ≤ 300
  · rw [if_pos (decide_eq_true hf)]
    simp only [sumLen] at hf
    unfold fleuronlaw18_copied.f
    simp only [Option.bind_some, List.length_nil, Nat.zero_add, List.nil_append]
    rw [if_pos (by omega)]
    simp only [Option.bind_some]
    have hr := hullRes_len l
    rw [progHull_is l _ (by omega), refHull_is l _ (by omega)]
    simp only [Option.bind_some]
    rw [valid_is, refValid_is l _ (by omega)]
    simp only [Option.bind_some]
    rw [same_is _ _ (by omega) _ (by omega), same_is _ _ (by omega) _ (by omega)]
    simp [fleuronlaw18_awake.f]
  · rw [if_neg (by rw [decide_eq_false hf]; simp)]
    rfl
end Go.Proofs.Ytnjlcmaelacjkaa.Pure

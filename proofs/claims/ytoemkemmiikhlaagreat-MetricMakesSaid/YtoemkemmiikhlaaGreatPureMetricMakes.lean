import Derived.Test.YtoemkemmiikhlaaGreatSaysMetricMakes
import Derived.Test.YtoemkemmiikhlaaGreatLibOf
set_option linter.unusedVariables false
set_option linter.unusedSimpArgs false
namespace Go.Proofs.YtoemkemmiikhlaaGreat.Pure
open Go.RowKit Go.Proofs.YtoemkemmiikhlaaGreat.PF3 Go.Proofs.YtoemkemmiikhlaaGreatW.PrintWords Go.Proofs.YtoemkemmiikhlaaGreatW.PrintLast Go.Proofs.YtoemkemmiikhlaaGreatW.PrintMore
theorem MetricMakes:fleuronlaw27_MetricMakes.Pure:=by
  intro size gs ls _ _ _
  refine ⟨10000,?_⟩
  unfold fleuronlaw27_MetricMakes.P
  by_cases h1:300<gs.length
  · exact .inl h1
  by_cases h2:600<ls.length
  · exact .inr (.inl h2)
  have hl:=ofR_len size (gs.map glS) ls
  rw [List.length_map] at hl
  refine .inr (.inr ⟨by omega,ofR size (gs.map glS) ls,by omega,fun cs rs a b c d=>of_same size a b c d,rfl,fun cs rs a b c d=>?_,same_is _ _ _ (by omega) (by omega) 10000 (by omega)⟩)
  obtain ⟨cs',k1,k2⟩:=exists_rise mC_ok (gs.map glS)
  obtain ⟨rs',k3,k4⟩:=exists_rise mR_ok ls
  rw [of_perm size (List.reverse_perm (gs.map glS)) (List.reverse_perm ls) a b c d k1 k2 k3 k4]
  exact of_same size k1 k2 k3 k4
end Go.Proofs.YtoemkemmiikhlaaGreat.Pure

import Derived.Test.YtoemkemmiikhlaaGreatSaysMetricMerges
import Derived.Test.YtoemkemmiikhlaaGreatLibMerge
import Derived.Test.YtoemkemmiikhlaaGreatLibFew
set_option linter.unusedVariables false
set_option linter.unusedSimpArgs false
namespace Go.Proofs.YtoemkemmiikhlaaGreat.Pure
open Go.RowKit Go.Proofs.YtoemkemmiikhlaaGreat.PF4 Go.Proofs.YtoemkemmiikhlaaGreatW.PrintWords Go.Proofs.YtoemkemmiikhlaaGreatW.PrintLast Go.Proofs.YtoemkemmiikhlaaGreatW.PrintMore
theorem MetricMerges:fleuronlaw27_MetricMerges.Pure:=by
  rintro ⟨sz,cs,rs⟩ ⟨sz2,cs2,rs2⟩ - -
  refine ⟨10000,?_⟩
  unfold fleuronlaw27_MetricMerges.P
  simp only
  cases hf:((decide (cs.length≤300) && decide (rs.length≤600)) && (decide (cs2.length≤300) && decide (rs2.length≤600))) with
  | false=>exact .inl (by rw [few2_is _ _ _ _ _ _ _ (by omega),hf])
  | true =>
    have hf':=hf
    simp only [Bool.and_eq_true,decide_eq_true_eq] at hf'
    have hl:=mergeW_len sz cs rs sz2 cs2 rs2
    exact .inr ⟨by rw [few2_is _ _ _ _ _ _ _ (by omega),hf],by omega,merge_exists cs cs2 rs rs2,fun c3 r3 h1 h2=>merge_same sz cs rs sz2 cs2 rs2 h1.1 h1.2 h2.1 h2.2,same_is _ _ _ (by omega) (by omega) 10000 (by omega)⟩
end Go.Proofs.YtoemkemmiikhlaaGreat.Pure

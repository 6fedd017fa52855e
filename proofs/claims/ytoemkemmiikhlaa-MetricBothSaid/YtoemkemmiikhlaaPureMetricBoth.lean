import Derived.Test.YtoemkemmiikhlaaSaysMetricBoth
import Derived.Test.YtoemkemmiikhlaaMetD
set_option linter.unusedVariables false
set_option linter.unusedSimpArgs false
namespace Go.Proofs.Ytoemkemmiikhlaa.Pure
open Go.RowKit Go.Proofs.Ytoemkemmiikhlaa.PC2 Go.Proofs.YtoemkemmiikhlaaW.PrintWords Go.Proofs.YtoemkemmiikhlaaW.PrintLast Go.Proofs.YtoemkemmiikhlaaW.PrintMore
theorem MetricBoth:fleuronlaw27_MetricBoth.Pure:=by
  rintro ⟨sz,cs,rs⟩ ⟨sz2,cs2,rs2⟩ - -
  refine ⟨10000,?_⟩
  unfold fleuronlaw27_MetricBoth.P
  simp only
  cases hf:((decide (cs.length≤300) && decide (rs.length≤600)) && (decide (cs2.length≤300) && decide (rs2.length≤600))) with
  | false=>exact .inl (by rw [few2_is _ _ _ _ _ _ _ (by omega),hf])
  | true =>
    have hf':=hf
    simp only [Bool.and_eq_true,decide_eq_true_eq] at hf'
    refine .inr ⟨by rw [few2_is _ _ _ _ _ _ _ (by omega),hf],by omega,merge_exists cs cs2 rs rs2,merge_exists cs2 cs rs2 rs,fun c3 r3 c4 r4 h1 h2 h3 h4=>⟨(merge_comm sz cs rs sz2 cs2 rs2 h1.1 h1.2 h2.1 h2.2 h3.1 h3.2 h4.1 h4.2).symm,?_⟩⟩
    have l1:=h1.1.length_eq
    have l2:=h2.1.length_eq
    rw [List.length_append] at l1 l2
    unfold bothP
    rcases merge_ways sz cs rs sz2 cs2 rs2 c3 r3 with ⟨e,he,hm⟩|⟨hm,hv1,hv2,hv3⟩
    · rw [hm]
      exact ⟨by simp,by simp,same_is 0 [] [] (by simp) (by simp) 10000 (by simp),.inl ⟨he,rfl⟩⟩
    · rw [hm]
      have hl:=validM_len hv3
      refine ⟨by simp only;omega,by simp only;omega,same_is sz c3 r3 (by omega) (by omega) 10000 (by omega),.inr ⟨rfl,l1,l2,fun c hc=>find_there hv3 (h1.1.mem_iff.mpr (List.mem_append.mpr hc)),fun r hr=>rule_there hv3 (h2.1.mem_iff.mpr (List.mem_append.mpr hr)),hv3⟩⟩
end Go.Proofs.Ytoemkemmiikhlaa.Pure

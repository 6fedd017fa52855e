import Derived.Test.YtoemkemmiikhlaaSaysMetricBack
import Derived.Test.YtoemkemmiikhlaaMetD
set_option linter.unusedVariables false
set_option linter.unusedSimpArgs false
namespace Go.Proofs.Ytoemkemmiikhlaa.Pure
open Go.RowKit Go.Proofs.Ytoemkemmiikhlaa.PC1 Go.Proofs.YtoemkemmiikhlaaW.PrintWords Go.Proofs.YtoemkemmiikhlaaW.PrintLast Go.Proofs.YtoemkemmiikhlaaW.PrintMore
theorem file_long (sz:Int) (cs:List MC) (rs:List MR):22≤(fileB sz cs rs).length:=by
  unfold fileB bodyB headB tabBytes magicB
  simp only [List.range,List.range.loop,List.flatMap_cons,List.flatMap_nil,List.length_append,be2,be4,List.length_cons,List.length_nil]
  omega
theorem MetricBack:fleuronlaw27_MetricBack.Pure:=by
  rintro ⟨sz,cs,rs⟩ a1 a2 - - hm
  refine ⟨10000,?_⟩
  unfold fleuronlaw27_MetricBack.P
  simp only
  refine ⟨by
    have h:Go.IntKind.u8.min≤a2∧a2≤Go.IntKind.u8.max:=by simpa [Lit.wf] using hm
    have e1:Go.IntKind.u8.min=0:=rfl
    have e2:Go.IntKind.u8.max=255:=rfl
    omega,?_⟩
  cases hf:(decide (cs.length≤300) && decide (rs.length≤600)) with
  | false=>exact .inl (by rw [few_is _ _ _ _ (by omega),hf])
  | true =>
    have hf':=hf
    simp only [Bool.and_eq_true,decide_eq_true_eq] at hf'
    refine .inr ⟨by rw [few_is _ _ _ _ (by omega),hf],by omega,by omega,?_⟩
    cases hv:validM sz cs rs with
    | false=>exact .inl rfl
    | true =>
      have hl:=fileB_len sz cs rs (by omega) (by omega)
      refine .inr ⟨rfl,same_is sz cs rs (by omega) (by omega) 10000 (by omega),file_bytes sz cs rs,file_long sz cs rs,open_file sz cs rs hv,open_short sz cs rs hv,fun p b hp hb0 hb1 hne=>?_⟩
      rw [List.getD_eq_getElem?_getD,List.getElem?_eq_getElem hp] at hne
      exact open_changed sz cs rs p b hv hp (by omega) ⟨hb0,hb1⟩ hne
end Go.Proofs.Ytoemkemmiikhlaa.Pure

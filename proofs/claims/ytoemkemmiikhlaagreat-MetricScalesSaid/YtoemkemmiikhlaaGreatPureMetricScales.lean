import Derived.Test.YtoemkemmiikhlaaGreatSaysMetricScales
import Derived.Test.YtoemkemmiikhlaaGreatLibMet
set_option linter.unusedVariables false
set_option linter.unusedSimpArgs false
namespace Go.Proofs.YtoemkemmiikhlaaGreat.Pure
open Go.RowKit Go.Proofs.YtoemkemmiikhlaaGreat.PF1 Go.Proofs.YtoemkemmiikhlaaGreatW.PrintWords Go.Proofs.YtoemkemmiikhlaaGreatW.PrintLast Go.Proofs.YtoemkemmiikhlaaGreatW.PrintMore
theorem validM_parts {sz:Int} {cs:List MC} {rs:List MR} (h:validM sz cs rs=true):(1≤sz∧sz≤268435455)∧cs.length≤256∧cs.all okC=true∧rs.length≤500∧rs.all okR=true:=by
  have hl:=validM_len h
  unfold validM validR sizeB at h
  simp only [Bool.and_eq_true,decide_eq_true_eq] at h
  exact ⟨h.1,hl.1,h.2.2.1,hl.2,h.2.2.2.2.2.1⟩
theorem small_of {sz:Int} {cs:List MC} {rs:List MR} (h:validM sz cs rs=true):smallM cs rs:=by
  obtain ⟨-,h1,h2,h3,h4⟩:=validM_parts h
  refine ⟨fun x hx=>?_,fun x hx h0=>?_,by omega,by omega⟩
  · have:=List.all_eq_true.mp h2 x hx
    unfold okC coordB at this
    simp only [Bool.and_eq_true,decide_eq_true_eq] at this
    omega
  · have:=List.all_eq_true.mp h4 x hx
    unfold okR coordB at this
    rw [if_pos h0] at this
    simp only [Bool.and_eq_true,decide_eq_true_eq] at this
    omega
theorem scaleC_self (m:Int) (hm:1≤m) (cs:List MC):cs.map (scaleC m m)=cs:=by
  refine (List.map_congr_left (fun x _=>?_)).trans (List.map_id _)
  obtain ⟨a,b,c,d⟩:=x
  simp [scaleC,scaleV_self _ m hm]
theorem scaleR_self (m:Int) (hm:1≤m) (rs:List MR):rs.map (scaleR m m)=rs:=by
  refine (List.map_congr_left (fun x _=>?_)).trans (List.map_id _)
  obtain ⟨a,b,c,d⟩:=x
  simp [scaleR,scaleV_self _ m hm]
theorem scaleC_dbl (m:Int) (hm:1≤m) (cs:List MC):cs.map (scaleC (2*m) m)=cs.map dblC:=by
  refine List.map_congr_left (fun x _=>?_)
  obtain ⟨a,b,c,d⟩:=x
  simp [scaleC,dblC,scaleV_dbl _ m hm]
theorem scaleR_dbl (m:Int) (hm:1≤m) (rs:List MR):rs.map (scaleR (2*m) m)=rs.map dblR:=by
  refine List.map_congr_left (fun x _=>?_)
  obtain ⟨a,b,c,d⟩:=x
  simp [scaleR,dblR,scaleV_dbl _ m hm]
theorem MetricScales:fleuronlaw27_MetricScales.Pure:=by
  rintro ⟨sz,cs,rs⟩ -
  refine ⟨10000,?_⟩
  unfold fleuronlaw27_MetricScales.P
  simp only
  cases hf:(decide (cs.length≤300) && decide (rs.length≤600)) with
  | false=>exact .inl (by rw [few_is _ _ _ _ (by omega),hf])
  | true =>
    refine .inr ⟨by rw [few_is _ _ _ _ (by omega),hf],?_⟩
    simp only [Bool.and_eq_true,decide_eq_true_eq] at hf
    have hv:=validR_is sz cs rs (by omega) (by omega) 10000 (by omega)
    cases hvm:validM sz cs rs with
    | false=>exact .inl (by rw [hv,hvm])
    | true =>
      obtain ⟨hs,h1,h2,h3,h4⟩:=validM_parts hvm
      have hsz:sizeB sz=true:=by unfold sizeB;simp only [Bool.and_eq_true,decide_eq_true_eq];exact hs
      refine .inr ⟨by rw [hv,hvm],by omega,small_of hvm,?_,same_is sz cs rs (by omega) (by omega) 10000 (by omega),?_⟩
      · unfold scaleM
        rw [scaleC_self sz hs.1,scaleR_self sz hs.1,hvm,hsz];rfl
      · unfold scaleM
        rw [scaleC_dbl sz hs.1,scaleR_dbl sz hs.1,hvm,if_pos rfl]
        cases hb:sizeB (2*sz) with
        | false =>
          refine .inl ⟨2,rfl,.inl ⟨rfl,?_⟩⟩
          unfold sizeB at hb
          simp only [Bool.and_eq_false_iff,decide_eq_false_iff_not] at hb
          omega
        | true =>
          rw [if_pos rfl]
          cases hw:validM (2*sz) (cs.map dblC) (rs.map dblR) with
          | false=>exact .inl ⟨17,rfl,.inr rfl⟩
          | true=>exact .inr rfl
end Go.Proofs.YtoemkemmiikhlaaGreat.Pure

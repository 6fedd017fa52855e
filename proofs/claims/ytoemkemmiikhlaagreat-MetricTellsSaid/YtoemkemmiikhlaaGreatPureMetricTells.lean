import Derived.Test.YtoemkemmiikhlaaGreatSaysMetricTells
import Derived.Test.YtoemkemmiikhlaaGreatLibFind
set_option linter.unusedVariables false
set_option linter.unusedSimpArgs false
namespace Go.Proofs.YtoemkemmiikhlaaGreat.Pure
open Go.RowKit Go.Proofs.YtoemkemmiikhlaaGreat.PF2 Go.Proofs.YtoemkemmiikhlaaGreatW.PrintWords Go.Proofs.YtoemkemmiikhlaaGreatW.PrintLast Go.Proofs.YtoemkemmiikhlaaGreatW.PrintMore
theorem all_map' {α:Type} (f:α→α) (p q:α→Bool) (l:List α) (h : ∀ x∈l,p (f x)=q x):(l.map f).all p=l.all q:=by
  rw [List.all_map]
  rw [Bool.eq_iff_iff,List.all_eq_true,List.all_eq_true]
  exact ⟨fun hh x hx=>by rw [← h x hx];exact hh x hx,fun hh x hx=>by show p (f x)=true;rw [h x hx];exact hh x hx⟩
theorem chain_map {α : Type} (f : α → α) (r : α → α → Bool) (h : ∀ x y, r (f x) (f y) = r x y) : ∀ l : List α, chainB r (l.map f) = chainB r l
  | []=>rfl
  | [x]=>rfl
  | x::y::l=>by
    have:=chain_map f r h (y::l)
    simp only [List.map_cons,chainB] at this ⊢
    rw [h,this]
theorem scale_same (sz:Int) (cs:List MC) (rs:List MR) (s:Int):scaleRM sz cs rs s=scaleM sz cs rs s:=by
  unfold scaleRM scaleM
  cases hv:validM sz cs rs with
  | false=>rfl
  | true =>
    rw [if_pos rfl,if_pos rfl]
    cases hs:sizeB s with
    | false=>rfl
    | true =>
      rw [if_pos rfl,if_pos rfl]
      have hh:validM s (cs.map (scaleC s sz)) (rs.map (scaleR s sz))=(cs.all (okS s sz) && rs.all (okSR s sz)):=by
        unfold validM validR at hv ⊢
        simp only [Bool.and_eq_true] at hv
        obtain ⟨-,h1,h2,h3,h4,h5,h6⟩:=hv
        rw [hs,List.length_map,List.length_map,h1,h4,chain_map (scaleC s sz) lessC (fun x y=>rfl),h3,chain_map (scaleR s sz) lessR (fun x y=>rfl),h6]
        rw [all_map' (scaleC s sz) okC (okS s sz) cs (fun x hx=>by
          have:=List.all_eq_true.mp h2 x hx
          unfold okC at this ⊢
          simp only [Bool.and_eq_true] at this
          simp only [scaleC,okS]
          rw [this.1.1.1]
          simp [List.range_succ,dimF,Bool.and_assoc])]
        rw [all_map' (scaleR s sz) okR (okSR s sz) rs (fun x hx=>by
          have:=List.all_eq_true.mp h5 x hx
          unfold okR at this
          simp only [Bool.and_eq_true,decide_eq_true_eq] at this
          obtain ⟨⟨⟨⟨t1,t2⟩,t3⟩,t4⟩,t5⟩:=this
          by_cases h0:x.f2=0
          · simp [okR,scaleR,okSR,h0,t2,t3]
          · rw [if_neg h0] at t1
            simp [okR,scaleR,okSR,h0,t1,t2,t3,t4,t5])]
        simp
      rw [hh]
theorem MetricTells:fleuronlaw27_MetricTells.Pure:=by
  rintro ⟨sz,cs,rs⟩ ⟨a0,a1,a2⟩ codes - - -
  refine ⟨10000,?_⟩
  unfold fleuronlaw27_MetricTells.P
  simp only
  cases hf:(decide (cs.length≤300) && decide (rs.length≤600)) with
  | false=>exact .inl (by rw [few_is _ _ _ _ (by omega),hf])
  | true =>
    refine .inr ⟨by rw [few_is _ _ _ _ (by omega),hf],?_⟩
    simp only [Bool.and_eq_true,decide_eq_true_eq] at hf
    by_cases hn:2500<codes.length
    · exact .inl hn
    · have hsc:(scaleM sz cs rs a2).2.1.length≤300∧(scaleM sz cs rs a2).2.2.1.length≤600:=by
        unfold scaleM
        split
        · split
          · split
            · simp only [List.length_map];exact hf
            · simp
          · simp
        · simp
      exact .inr ⟨by omega, by omega, validR_is sz cs rs (by omega) (by omega) 10000 (by omega), fun n => findR_is sz cs rs n (by omega) (by omega) 10000 (by omega), ruleFR_is sz cs rs a0 a1 (by omega) (by omega) 10000 (by omega), scale_same sz cs rs a2,
        same_is _ _ _ (by omega) (by omega) 10000 (by omega)⟩
end Go.Proofs.YtoemkemmiikhlaaGreat.Pure

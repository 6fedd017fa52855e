import Derived.Test.YtckjlckhjcbddaaGreatPnHull
import Derived.Test.YtckjlckhjcbddaaGreatPG3x28
set_option linter.unusedVariables false
set_option linter.unusedSimpArgs false
namespace Go.Proofs.YtckjlckhjcbddaaGreat.PG3.Pn
open Go.RowKit Go.Proofs.YtckjlckhjcbddaaGreatW.PrintWords Go.Proofs.YtckjlckhjcbddaaGreatW.PrintLast Go.Proofs.YtckjlckhjcbddaaGreatW.PrintMore HG
theorem turnV_is {a b p:S47} (ha:Big a) (hb:Big b) (hp:Big p):turnV a b p=sgnI (area a b p):=by unfold turnV;rw [turnB_is ha hb hp];rfl
theorem far_is' {a b:S47} (ha:Big a) (hb:Big b):farD a b=HG.far a b:=by
  unfold Big at ha hb
  have m1:=mul_big (x:=a.f0-b.f0) (y:=a.f0-b.f0) (by omega) (by omega) (by omega) (by omega)
  have m2:=mul_big (x:=a.f1-b.f1) (y:=a.f1-b.f1) (by omega) (by omega) (by omega) (by omega)
  unfold farD HG.far
  rw [wrap64_small (n:=a.f0-b.f0) (by omega) (by omega),wrap64_small (n:=a.f1-b.f1) (by omega) (by omega),wrap64_small (n:=(a.f0-b.f0)*(a.f0-b.f0)) (by omega) (by omega),wrap64_small (n:=(a.f1-b.f1)*(a.f1-b.f1)) (by omega) (by omega),wrap64_small (by omega) (by omega)]
theorem stepB_is {a t p:S47} (ha:Big a) (ht:Big t) (hp:Big p):stepB a t p=stepTo a t p:=by
  have hs:=sgnI_facts (area a t p)
  unfold stepB stepTo
  rw [turnV_is ha ht hp,far_is' ha ht,far_is' ha hp]
  by_cases h1:p=a
  · rw [if_pos (eqP_iff.mpr h1),if_pos h1]
  · rw [if_neg (fun h=>h1 (eqP_iff.mp h)),if_neg h1]
    by_cases h2:t=a∨area a t p<0∨area a t p=0∧HG.far a t<HG.far a p
    · rw [if_pos h2,if_pos]
      simp only [Bool.or_eq_true,Bool.and_eq_true,decide_eq_true_eq,beq_iff_eq,eqP_iff]
      rcases h2 with h|h|⟨h,h'⟩
      · exact .inl h
      · exact .inr (.inl (hs.2.2.1.mpr h))
      · exact .inr (.inr ⟨hs.2.2.2.1.mpr h,h'⟩)
    · rw [if_neg h2,if_neg]
      simp only [Bool.or_eq_true,Bool.and_eq_true,decide_eq_true_eq,beq_iff_eq,eqP_iff]
      rintro (h|h|⟨h,h'⟩)
      · exact h2 (.inl h)
      · exact h2 (.inr (.inl (hs.2.2.1.mp h)))
      · exact h2 (.inr (.inr ⟨hs.2.2.2.1.mp h,h'⟩))
theorem toAt_is (l : List S47) (hb : ∀ x ∈ l, Big x) (a : S47) (ha : Big a) : ∀ i, i ≤ l.length → toAt l a i = (l.take i).foldl (stepTo a) a ∧ (toAt l a i = a ∨ toAt l a i ∈ l)
  | 0,_=>⟨by simp [toAt],.inl rfl⟩
  | i+1,hi=>by
    obtain ⟨h1,h2⟩:=toAt_is l hb a ha i (by omega)
    have hx:=rd_in l i (by omega)
    have ht:Big (toAt l a i):=by
      rcases h2 with h|h
      · rw [h];exact ha
      · exact hb _ h
    have hstep:toAt l a (i+1)=stepTo a (toAt l a i) (rd_T47 l (i:Int)):=stepB_is ha ht (hb _ hx)
    refine ⟨?_,?_⟩
    · rw [hstep,h1,List.take_succ_eq_append_getElem (by omega),List.foldl_append,← rd_get l i (by omega)]
      rfl
    · rw [hstep];exact step_in hx h2
theorem toAt_all (l:List S47) (hb : ∀ x∈l,Big x) (a:S47) (ha:Big a):toAt l a l.length=l.foldl (stepTo a) a∧Big (toAt l a l.length):=by
  obtain ⟨h1,h2⟩:=toAt_is l hb a ha l.length (Nat.le_refl _)
  rw [List.take_length] at h1
  refine ⟨h1,?_⟩
  rcases h2 with h|h
  · rw [h];exact ha
  · exact hb _ h
theorem roundGo_is (l : List S47) (hb : ∀ x ∈ l, Big x) (f : S47) : ∀ (k : Nat) (a : S47) (out : List S47), Big a → roundGo l f k a out = goR l f k a out
  | 0,_,_,_=>rfl
  | k+1,a,out,ha=>by
    obtain ⟨h1,h2⟩:=toAt_all l hb a ha
    unfold roundGo goR
    rw [← h1]
    by_cases hc:toAt l a l.length=f∨toAt l a l.length=a
    · rw [if_pos hc,if_pos]
      simp only [Bool.or_eq_true,eqP_iff];exact hc
    · rw [if_neg hc,if_neg,roundGo_is l hb f k _ _ h2]
      simp only [Bool.or_eq_true,eqP_iff];exact hc
theorem beforeB_iff {a b:S47} : beforeB a b=true↔Lt a b:=by
  unfold beforeB Lt Lp
  simp only [Bool.or_eq_true,Bool.and_eq_true,decide_eq_true_eq,beq_iff_eq]
  omega
theorem firstAt_is (l : List S47) (h0 : 0 < l.length) : ∀ i, i ≤ l.length → firstAt l i ∈ l ∧ ∀ j, j < i → Le (firstAt l i) (rd_T47 l (j : Int))
  | 0,_=>⟨rd_in l 0 h0,fun j hj=>by omega⟩
  | i+1,hi=>by
    obtain ⟨h1,h2⟩:=firstAt_is l h0 i (by omega)
    unfold firstAt
    by_cases hc:beforeB (rd_T47 l (i:Int)) (firstAt l i)=true
    · rw [if_pos hc]
      have hlt:=beforeB_iff.mp hc
      refine ⟨rd_in l i (by omega),fun j hj=>?_⟩
      rcases Nat.lt_or_ge j i with k|k
      · exact .inl (lt_le hlt (h2 j k))
      · obtain rfl:j=i:=by omega
        exact .inr rfl
    · rw [if_neg hc]
      refine ⟨h1,fun j hj=>?_⟩
      rcases Nat.lt_or_ge j i with k|k
      · exact h2 j k
      · obtain rfl:j=i:=by omega
        rcases le_or (firstAt l j) (rd_T47 l (j:Int)) with m|m
        · exact m
        · exact absurd (beforeB_iff.mpr m) hc
theorem round_is' (l:List S47) (hb : ∀ x∈l,Big x) (h0:1≤l.length) (hl:l.length≤1000000):fleuronref18_Round.f l=some (hullOf l):=by
  have hne:l≠[]:=by rintro rfl;simp at h0
  have hh:=hullOf_is hne
  have hp0:0<(hullOf l).length:=List.length_pos_iff.mpr hh.pen.ne
  obtain ⟨f1,f2⟩:=firstAt_is l (by omega) l.length (Nat.le_refl _)
  have hf:firstAt l l.length=(hullOf l)[0]:=by
    refine le_anti ?_ (hull_least hh hp0 _ f1)
    obtain ⟨j,hj,e⟩:=List.mem_iff_getElem.mp (hh.sub _ (List.getElem_mem hp0))
    have:=f2 j hj
    rw [rd_get l j hj,e] at this
    exact this
  unfold fleuronref18_Round.f
  rw [if_pos ⟨h0,hl⟩,roundGo_is l hb _ _ _ _ (hb _ f1),hf]
  have:=hullOf_len l
  exact round_is hh hp0 _ (by omega)
end Go.Proofs.YtckjlckhjcbddaaGreat.PG3.Pn

import Derived.Test.YtckjlckhjcbddaaGreatPnHull
import Derived.Test.YtckjlckhjcbddaaGreatPG3x27
import Derived.Test.YtckjlckhjcbddaaGreatPG3x7
set_option linter.unusedVariables false
set_option linter.unusedSimpArgs false
namespace Go.Proofs.YtckjlckhjcbddaaGreat.PG3.Pn
open Go.RowKit Go.Proofs.YtckjlckhjcbddaaGreatW.PrintWords Go.Proofs.YtckjlckhjcbddaaGreatW.PrintLast Go.Proofs.YtckjlckhjcbddaaGreatW.PrintMore HG
theorem arePoints_is (l:List S47) (hl:l.length≤9223372036854775807):flat_ArePoints.f l=some (l.all isPt):=by unfold flat_ArePoints.f;rw [if_pos hl]
theorem neP_iff {x y:S47} : ((!(x.f0 == y.f0) || !(x.f1 == y.f1))=true)↔x≠y:=by
  simp only [Bool.or_eq_true,Bool.not_eq_true',beq_eq_false_iff_ne]
  constructor
  · rintro h rfl;simp at h
  · intro h
    by_cases h0:x.f0=y.f0
    · right;intro h1;exact h (ptx h0 h1)
    · left;exact h0
theorem same_from (a b:List S47) (hab:a.length=b.length) (hl:a.length≤9223372036854775806) (d:Nat) : ∀ (k i:Nat),i≤a.length→a.length-i=d→d<k→fleuronref16_Same.l0 k a b (a.length:Int) (i:Int)=some (decide (a.drop i=b.drop i)):=by
  induction d with
  | zero =>
    intro k i hi hd hk
    obtain ⟨k,rfl⟩ : ∃ m,k=m+1:=⟨k-1,by omega⟩
    simp only [fleuronref16_Same.l0]
    rw [if_neg (by omega),List.drop_eq_nil_of_le (by omega),List.drop_eq_nil_of_le (by omega)]
    rfl
  | succ d ih =>
    intro k i hi hd hk
    obtain ⟨k,rfl⟩ : ∃ m,k=m+1:=⟨k-1,by omega⟩
    simp only [fleuronref16_Same.l0]
    rw [if_pos (by omega),if_pos (by omega),if_pos (by omega),if_pos (by omega),wrap64_small (n:=(i:Int)+1) (by omega) (by omega),show (i:Int)+1=((i+1:Nat):Int) by omega,rd_drop a i (by omega),rd_drop b i (by omega)]
    by_cases hx:rd_T47 a (i:Int)=rd_T47 b (i:Int)
    · rw [if_neg (fun h=>neP_iff.mp h hx),ih k (i+1) (by omega) (by omega) (by omega),hx]
      simp
    · rw [if_pos (neP_iff.mpr hx)]
      simp [hx]
theorem same_is (a b:List S47) (hl:a.length≤9223372036854775806) (k:Nat) (hk:a.length<k):fleuronref16_Same.f k a b=some (decide (a=b)):=by
  unfold fleuronref16_Same.f
  by_cases h:a.length=b.length
  · rw [if_pos (by omega)]
    have:=same_from a b h hl a.length k 0 (by omega) (by omega) hk
    simpa using this
  · rw [if_neg (by omega),decide_eq_false (fun e=>h (by rw [e]))]
end Go.Proofs.YtckjlckhjcbddaaGreat.PG3.Pn

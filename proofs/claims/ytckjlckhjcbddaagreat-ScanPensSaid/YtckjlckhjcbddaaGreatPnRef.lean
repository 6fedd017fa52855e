import Derived.Test.YtckjlckhjcbddaaGreatPnSame
import Derived.Test.YtckjlckhjcbddaaGreatPG3x16
set_option linter.unusedVariables false
set_option linter.unusedSimpArgs false
namespace Go.Proofs.YtckjlckhjcbddaaGreat.PG3.Pn
open Go.RowKit Go.Proofs.YtckjlckhjcbddaaGreatW.PrintWords Go.Proofs.YtckjlckhjcbddaaGreatW.PrintLast Go.Proofs.YtckjlckhjcbddaaGreatW.PrintMore HG
theorem refIn_is (x:S47):fleuronref16_In.f x.f0 x.f1=some (isPt x):=by
  unfold fleuronref16_In.f isPt
  by_cases h1:x.f0≥-268435455
  · rw [if_pos h1,decide_eq_true (show -268435455≤x.f0 from h1)]
    by_cases h2:x.f0≤268435455
    · rw [if_pos h2,decide_eq_true h2]
      by_cases h3:x.f1≥-268435455
      · rw [if_pos h3,decide_eq_true (show -268435455≤x.f1 from h3)];simp
      · rw [if_neg h3,decide_eq_false (show ¬ -268435455≤x.f1 from h3)];simp
    · rw [if_neg h2,decide_eq_false h2];simp
  · rw [if_neg h1,decide_eq_false (show ¬ -268435455≤x.f0 from h1)];simp
theorem refAll_from (l:List S47) (hl:l.length≤9223372036854775806) (d:Nat) : ∀ (k i:Nat),i≤l.length→l.length-i=d→d<k→fleuronref16_All.l0 k l (l.length:Int) (i:Int)=some ((l.drop i).all isPt):=by
  induction d with
  | zero =>
    intro k i hi hd hk
    obtain ⟨k,rfl⟩ : ∃ m,k=m+1:=⟨k-1,by omega⟩
    simp only [fleuronref16_All.l0]
    rw [if_neg (by omega),List.drop_eq_nil_of_le (by omega)]
    rfl
  | succ d ih =>
    intro k i hi hd hk
    obtain ⟨k,rfl⟩ : ∃ m,k=m+1:=⟨k-1,by omega⟩
    simp only [fleuronref16_All.l0]
    rw [if_pos (by omega),if_pos (by omega),if_pos (by omega),refIn_is]
    simp only [Option.bind_some]
    rw [rd_drop l i (by omega),List.all_cons]
    cases hx:isPt (rd_T47 l (i:Int)) with
    | false=>simp
    | true =>
      rw [if_pos rfl,wrap64_small (by omega) (by omega),show (i:Int)+1=((i+1:Nat):Int) by omega,ih k (i+1) (by omega) (by omega) (by omega)]
      simp
theorem refAll_is (l:List S47) (hl:l.length≤9223372036854775806) (k:Nat) (hk:l.length<k):fleuronref16_All.f k l=some (l.all isPt):=by
  unfold fleuronref16_All.f
  have:=refAll_from l hl l.length k 0 (by omega) (by omega) hk
  simpa using this
end Go.Proofs.YtckjlckhjcbddaaGreat.PG3.Pn

import Derived.Test.YtckjlckhjcbddaaGreatPnValid
import Derived.Test.YtckjlckhjcbddaaGreatPnRef
import Derived.Test.YtckjlckhjcbddaaGreatPnRound
import Derived.Test.YtckjlckhjcbddaaGreatPG3x29
set_option linter.unusedVariables false
set_option linter.unusedSimpArgs false
namespace Go.Proofs.YtckjlckhjcbddaaGreat.PG3.Pn
open Go.RowKit Go.Proofs.YtckjlckhjcbddaaGreatW.PrintWords Go.Proofs.YtckjlckhjcbddaaGreatW.PrintLast Go.Proofs.YtckjlckhjcbddaaGreatW.PrintMore HG
theorem refValid_at (l:List S47) (k:Nat) (hk:l.length≤64→l.length<k):fleuronref18_Valid.f k l=some (okPen l):=by
  unfold fleuronref18_Valid.f okPen
  by_cases h1:1≤l.length
  · rw [if_pos (by omega),decide_eq_true h1]
    by_cases h2:l.length≤64
    · rw [if_pos (by omega),decide_eq_true h2,refAll_is l (by omega) k (by omega)]
      simp only [Option.bind_some,Bool.true_and]
      cases hal:l.all isPt with
      | false=>rfl
      | true =>
        have hpt : ∀ x∈l,isPt x=true:=List.all_eq_true.mp hal
        rw [if_pos rfl,round_is' l (fun x hx=>big_of (hpt x hx)) h1 (by omega)]
        simp only [Option.bind_some]
        rw [same_is l _ (by omega) k (by omega)]
        simp only [Option.bind_some,Bool.true_and,Option.some.injEq]
        rw [decide_eq_decide]
        exact eq_comm
    · rw [if_neg (by omega),decide_eq_false h2];rfl
  · rw [if_neg (by omega),decide_eq_false h1];rfl
theorem refValid_is (l:List S47) (k:Nat) (hk:65≤k):fleuronref18_Valid.f k l=some (okPen l):=refValid_at l k (fun _=>by omega)
end Go.Proofs.YtckjlckhjcbddaaGreat.PG3.Pn

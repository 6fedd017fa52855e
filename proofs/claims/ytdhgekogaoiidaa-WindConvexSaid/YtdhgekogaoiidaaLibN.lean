/-
  Plain law: the next point of a polygon.
-/
import Derived.Test.YtdhgekogaoiidaaLibA
import Derived.Test.YtdhgekogaoiidaaPT2x10
import Derived.Test.YtdhgekogaoiidaaPT2x3
set_option linter.unusedVariables false
set_option linter.unusedSimpArgs false
namespace Go.Proofs.Ytdhgekogaoiidaa.PT2
open Go.RowKit Go.Proofs.YtdhgekogaoiidaaW.PrintWords Go.Proofs.YtdhgekogaoiidaaW.PrintLast Go.Proofs.YtdhgekogaoiidaaW.PrintMore
theorem next_is (l : List S24) (i : Nat) (hi : i < l.length) (hl : l.length ≤ 1000000000) : fleuronref17_next.f l (i : Int) = some ((nxt l i).f0, (nxt l i).f1) := by
  have hm := Nat.mod_lt (i + 1) (show 0 < l.length by omega)
  unfold fleuronref17_next.f nxt
  rw [if_neg (by omega), wrap64_small (by omega) (by omega), Int.tmod_eq_emod_of_nonneg (by omega), show ((i : Int) + 1) % (l.length : Int) = (((i + 1) % l.length : Nat) : Int) by simp, if_pos (by omega), if_pos (by omega)]
end Go.Proofs.Ytdhgekogaoiidaa.PT2

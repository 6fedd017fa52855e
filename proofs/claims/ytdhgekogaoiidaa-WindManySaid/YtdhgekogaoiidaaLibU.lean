/-
  Plain laws on wrapped numbers.
-/
import Derived.Test.YtdhgekogaoiidaaPT6x2
set_option linter.unusedVariables false
set_option linter.unusedSimpArgs false
namespace Go.Proofs.Ytdhgekogaoiidaa.PT6
open Go.RowKit Go.Proofs.YtdhgekogaoiidaaW.PrintWords Go.Proofs.YtdhgekogaoiidaaW.PrintLast Go.Proofs.YtdhgekogaoiidaaW.PrintMore
theorem wrap64_small {n : Int} (h : -9223372036854775808 ≤ n) (h' : n ≤ 9223372036854775807) : wrap64 n = n := by unfold wrap64; omega
theorem wrap64_zero : wrap64 0 = 0 := wrap64_small (by omega) (by omega)
end Go.Proofs.Ytdhgekogaoiidaa.PT6

import Derived.Test.YtoemkemmiikhlaaGreatLibMet
import Derived.Test.YtoemkemmiikhlaaGreatPF2x18
import Derived.Test.YtoemkemmiikhlaaGreatPF2x19
import Derived.Test.YtoemkemmiikhlaaGreatPF2x3
set_option linter.unusedVariables false
set_option linter.unusedSectionVars false
set_option linter.unusedSimpArgs false
namespace Go.Proofs.YtoemkemmiikhlaaGreat.PF2
open Go.RowKit Go.Proofs.YtoemkemmiikhlaaGreatW.PrintWords Go.Proofs.YtoemkemmiikhlaaGreatW.PrintLast Go.Proofs.YtoemkemmiikhlaaGreatW.PrintMore
theorem validR_is (sz:Int) (cs:List MC) (rs:List MR) (hl:cs.length≤1000000) (hr:rs.length≤1000000) (k:Nat) (hk:cs.length+rs.length+8≤k):fleuronref27_Valid.f k sz cs rs=some (validM sz cs rs):=by
  unfold fleuronref27_Valid.f
  rw [if_pos ⟨hl,hr⟩]
end Go.Proofs.YtoemkemmiikhlaaGreat.PF2

import Derived.Test.YtckjlckhjcbddaaGreatSaysScanRows
import Derived.Test.YtckjlckhjcbddaaGreatLibRows
set_option linter.unusedVariables false
set_option linter.unusedSimpArgs false
namespace Go.Proofs.YtckjlckhjcbddaaGreat.Pure
open Go.RowKit Go.Proofs.YtckjlckhjcbddaaGreat.PG3 Go.Proofs.YtckjlckhjcbddaaGreatW.PrintWords Go.Proofs.YtckjlckhjcbddaaGreatW.PrintLast Go.Proofs.YtckjlckhjcbddaaGreatW.PrintMore
theorem ScanRows:fleuronlaw19_ScanRows.Pure:=by
 intro ll b w hl _ _
 have h2:ll.length≤100000000000000:=by have:=hl.1.1;omega
 have h1 : ∀ l∈ll,l.length≤100000000000000:=fun l hm=>by have:=(hl.2 l hm).1.1;omega
 obtain ⟨k,hk⟩ : ∃ k:Nat,ll.length+200000000≤k:=⟨_,Nat.le_refl _⟩
 refine ⟨k,?_⟩
 unfold fleuronlaw19_ScanRows.P
 rw [few_is 200 (by omega) (by omega) ll h1 h2 k (by omega)]
 by_cases hf:(sumLen ll:Int)+(ll.length:Int)≤200
 case neg=>left;rw [decide_eq_false hf]
 right
 have hr:=rowR_len ll b w.1 w.2
 refine ⟨by rw [decide_eq_true hf],(rowR ll b w.1 w.2).1,(rowR ll b w.1 w.2).2,(rowsR ll).1,(rowsR ll).2.1,(rowsR ll).2.2,?_,?_,?_,?_,?_⟩
 ·exact row_is ll (by omega) b w.1 w.2 k (by omega)
 ·exact refRow_is ll (by omega) b w.1 w.2 k (by omega)
 ·exact rows_is ll (by omega) k (by omega)
 ·exact refRows_is ll (by omega) k (by omega)
 ·rw [sameS_is _ _ (by omega) k (by omega)];simp
end Go.Proofs.YtckjlckhjcbddaaGreat.Pure

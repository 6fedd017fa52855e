import Derived.Test.YtckjlckhjcbddaaGreatSaysScanPens
import Derived.Test.YtckjlckhjcbddaaGreatLibFew
import Derived.Test.YtckjlckhjcbddaaGreatPnRefRow
set_option linter.unusedVariables false
set_option linter.unusedSimpArgs false
namespace Go.Proofs.YtckjlckhjcbddaaGreat.Pure
open Go.RowKit Go.Proofs.YtckjlckhjcbddaaGreat.PG3 Go.Proofs.YtckjlckhjcbddaaGreatW.PrintWords Go.Proofs.YtckjlckhjcbddaaGreatW.PrintLast Go.Proofs.YtckjlckhjcbddaaGreatW.PrintMore
theorem ScanPens:fleuronlaw19_ScanPens.Pure:=by
 intro l m w hl hm _
 have h1:l.length≤100000000000000:=by have:=hl.1.1;omega
 have h2:m.length≤100000000000000:=by have:=hm.1.1;omega
 refine ⟨100000,?_⟩
 unfold fleuronlaw19_ScanPens.P
 rw [few_is 70 (by omega) (by omega) [l] (by simpa using h1) (by simp) 100000 (by simp),few_is 40 (by omega) (by omega) [m] (by simpa using h2) (by simp) 100000 (by simp)]
 have q : ∀ x:List S47,(sumLen [x]:Int)+(([x]:List (List S47)).length:Int)=(x.length:Int)+1:=by intro x;simp [sumLen]
 rw [q,q]
 by_cases hf:(l.length:Int)+1≤70
 case neg=>left;rw [decide_eq_false hf]
 right
 refine ⟨by rw [decide_eq_true hf],?_⟩
 by_cases hg:(m.length:Int)+1≤40
 case neg=>left;rw [decide_eq_false hg]
 right
 have hr:=Pn.penR_len l m w.1 w.2
 refine ⟨by rw [decide_eq_true hg],(Pn.penR l m w.1 w.2).1,(Pn.penR l m w.1 w.2).2,?_,?_,?_⟩
 ·exact Pn.pen_is l m (by omega) w.1 w.2 100000 (by omega)
 ·exact Pn.refPen_is l m (by omega) w.1 w.2 100000 (by omega)
 ·rw [sameS_is _ _ (by omega) 100000 (by omega)];simp
end Go.Proofs.YtckjlckhjcbddaaGreat.Pure

import Derived.Test.YtckjlckhjcbddaaGreatPnRow
import Derived.Test.YtckjlckhjcbddaaGreatPG3x17
set_option linter.unusedVariables false
set_option linter.unusedSectionVars false
set_option linter.unusedSimpArgs false
namespace Go.Proofs.YtckjlckhjcbddaaGreat.PG3.Pn
open Go.RowKit Go.Proofs.YtckjlckhjcbddaaGreat.PG3 Go.Proofs.YtckjlckhjcbddaaGreatW.PrintWords Go.Proofs.YtckjlckhjcbddaaGreatW.PrintLast Go.Proofs.YtckjlckhjcbddaaGreatW.PrintMore HG
theorem refsm {i j:Int} (h0:0≤i) (h1:i≤1000) (h2:0≤j) (h3:j≤1000):fleuronref19_Sample.f i j=some ((sm i j).f0,(sm i j).f1):=by
  unfold fleuronref19_Sample.f sm
  rw [w64 (n:=i*65536) (by omega) (by omega),w64 (n:=j*65536) (by omega) (by omega),w64 (by omega) (by omega),w64 (by omega) (by omega),Int.mul_comm i,Int.mul_comm j]
theorem penR_len (l m:List S47) (w j:Int):(penR l m w j).1.length≤256:=by
  unfold penR
  split
  · rename_i h
    rw [Bool.and_eq_true,Bool.and_eq_true] at h
    have:=rokP_iff.mp h.2.2
    have h2:=spTo_len (bitsN w.toNat (cov l m j (npc m))) (bitsN w.toNat (cov l m j (npc m))).length
    have h3:=bitsN_len w.toNat (cov l m j (npc m))
    show (spTo (bitsN w.toNat (cov l m j (npc m))) (bitsN w.toNat (cov l m j (npc m))).length).length≤256
    omega
  · simp
end Go.Proofs.YtckjlckhjcbddaaGreat.PG3.Pn

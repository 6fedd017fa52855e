import Derived.Test.YtckjlckhjcbddaaGreatPnSwept
import Derived.Test.YtckjlckhjcbddaaGreatPnHas
set_option linter.unusedVariables false
set_option linter.unusedSectionVars false
set_option linter.unusedSimpArgs false
namespace Go.Proofs.YtckjlckhjcbddaaGreat.PG3.Pn
open Go.RowKit Go.Proofs.YtckjlckhjcbddaaGreat.PG3 Go.Proofs.YtckjlckhjcbddaaGreatW.PrintWords Go.Proofs.YtckjlckhjcbddaaGreatW.PrintLast Go.Proofs.YtckjlckhjcbddaaGreatW.PrintMore HG
section
variable (l:List S47) (hv:okPen l=true) (m:List S47) (hm1:1≤m.length) (hm2:m.length≤60) (hm : ∀ x∈m,isPt x=true) (s:S47) (hs:isPt s=true)
def npc (l:List S47):Nat:=if l.length=1 then 1 else l.length-1
def pcB (l:List S47) (i:Nat):S47:=if l.length=1 then rd_T47 l 0 else rd_T47 l ((i+1:Nat):Int)
def Pc (l m:List S47) (s:S47) (i:Nat):Prop:=Sup [s] (twice l (rd_T47 m (i:Int)) (pcB m i))
include hv hm1 hm2 hm hs
theorem piece_pt (i:Nat) (hi:i<npc m):isPt (rd_T47 m (i:Int))=true∧isPt (pcB m i)=true:=by
  unfold npc at hi
  unfold pcB
  by_cases h1:m.length=1
  · rw [if_pos h1] at hi ⊢
    exact ⟨hm _ (rd_in m i (by omega)),hm _ (rd_in m 0 (by omega))⟩
  · rw [if_neg h1] at hi ⊢
    exact ⟨hm _ (rd_in m i (by omega)),hm _ (rd_in m (i+1) (by omega))⟩
end
end Go.Proofs.YtckjlckhjcbddaaGreat.PG3.Pn

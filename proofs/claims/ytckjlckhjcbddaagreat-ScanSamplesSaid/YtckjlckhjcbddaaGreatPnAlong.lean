import Derived.Test.YtckjlckhjcbddaaGreatPnPc
import Derived.Test.YtckjlckhjcbddaaGreatPG3x36
set_option linter.unusedVariables false
set_option linter.unusedSectionVars false
set_option linter.unusedSimpArgs false
namespace Go.Proofs.YtckjlckhjcbddaaGreat.PG3.Pn
open Go.RowKit Go.Proofs.YtckjlckhjcbddaaGreat.PG3 Go.Proofs.YtckjlckhjcbddaaGreatW.PrintWords Go.Proofs.YtckjlckhjcbddaaGreatW.PrintLast Go.Proofs.YtckjlckhjcbddaaGreatW.PrintMore HG
theorem npc_is (m:List S47):pieces m=npc m:=rfl
theorem pcB_is (m:List S47) (i:Nat):pieceB m i=pcB m i:=rfl
section
variable (l:List S47) (hv:okPen l=true) (m:List S47) (hm1:1≤m.length) (hm2:m.length≤60) (hm : ∀ x∈m,isPt x=true) (s:S47) (hs:isPt s=true)
include hv hm1 hm2 hm hs
theorem piece_is (i : Nat) (hi : i < npc m) : pen_Swept.f (l.length + 5) l (rd_T47 m (i : Int)).f0 (rd_T47 m (i : Int)).f1 (pcB m i).f0 (pcB m i).f1 = some (hullOf (twice l (rd_T47 m (i : Int)) (pcB m i))) ∧
    (∃ r,pen_Has.f (huA l m i) s.f0 s.f1=some r∧(r=true↔Pc l m s i)):=by
  obtain ⟨h1,h2,h3,h4⟩:=okPen_iff.mp hv
  obtain ⟨p1,p2⟩:=piece_pt l hv m hm1 hm2 hm s hs i hi
  have e:=swept_is l (rd_T47 m (i:Int)) (pcB m i) (by omega) h3 p1 p2 (l.length+5) (by omega)
  refine ⟨e,?_⟩
  have hh:=hullOf_is (twice_ne h1 (rd_T47 m (i:Int)) (pcB m i))
  have hlen:=hullOf_len (twice l (rd_T47 m (i:Int)) (pcB m i))
  rw [twice_len] at hlen
  obtain ⟨r,hr,hr'⟩:=has_is hh.pen (by omega) (hull_big (twice_big h3 p1 p2)) s (big_of hs)
  refine ⟨r,?_,hr'.trans (sup_hull hh s)⟩
  unfold huA
  rw [pcB_is,e]
  exact hr
theorem along_ok:okA l m s.f0 s.f1=true:=by
  unfold okA
  rw [List.all_eq_true]
  intro i hi
  obtain ⟨e,r,hr,_⟩:=piece_is l hv m hm1 hm2 hm s hs i (List.mem_range.mp hi)
  rw [pcB_is,e,hr];rfl
theorem along_any:((List.range (npc m)).any (hsA l m s.f0 s.f1)=true)↔∃ i,i<npc m∧Pc l m s i:=by
  rw [List.any_eq_true]
  constructor
  · rintro ⟨i,hi,h⟩
    have hi:=List.mem_range.mp hi
    obtain ⟨e,r,hr,hr'⟩:=piece_is l hv m hm1 hm2 hm s hs i hi
    unfold hsA at h
    rw [hr] at h
    exact ⟨i,hi,hr'.mp h⟩
  · rintro ⟨i,hi,h⟩
    obtain ⟨e,r,hr,hr'⟩:=piece_is l hv m hm1 hm2 hm s hs i hi
    refine ⟨i,List.mem_range.mpr hi,?_⟩
    unfold hsA
    rw [hr]
    exact hr'.mpr h
end
end Go.Proofs.YtckjlckhjcbddaaGreat.PG3.Pn

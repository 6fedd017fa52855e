import Derived.Test.YtckjlckhjcbddaaGreatPnHas
import Derived.Test.YtckjlckhjcbddaaGreatPnRound
import Derived.Test.YtckjlckhjcbddaaGreatPG3x31
set_option linter.unusedVariables false
set_option linter.unusedSimpArgs false
namespace Go.Proofs.YtckjlckhjcbddaaGreat.PG3.Pn
open Go.RowKit Go.Proofs.YtckjlckhjcbddaaGreatW.PrintWords Go.Proofs.YtckjlckhjcbddaaGreatW.PrintLast Go.Proofs.YtckjlckhjcbddaaGreatW.PrintMore HG
theorem sup_one {a s:S47} : Sup [s] [a]↔a=s:=by
  constructor
  · intro h
    exact (hull_one (S:=[a,s]) ⟨fun v hv=>by simp at hv;subst hv;simp,pen_one a,sup_point (fun x hx=>by
      rcases List.mem_cons.mp hx with rfl|hx
      · exact Sup.refl _
      · rw [List.mem_singleton.mp hx];exact h)⟩ s (by simp)).symm
  · rintro rfl;exact Sup.refl _
theorem refHas_is {h:List S47} (hp:Pen h) (hl:h.length≤1000000) (hb : ∀ x∈h,Big x) (s:S47) (hs:Big s) : ∃ r,fleuronref18_Has.f h s.f0 s.f1=some r∧(r=true↔Sup [s] h):=by
  have h0:0<h.length:=List.length_pos_iff.mpr hp.ne
  unfold fleuronref18_Has.f
  by_cases h1:h.length=1
  · rw [if_pos h1]
    obtain ⟨a,rfl⟩:=List.length_eq_one_iff.mp h1
    refine ⟨_,rfl,?_⟩
    rw [eqP_iff,sup_one];rfl
  · rw [if_neg h1,if_pos ⟨by omega,by omega⟩]
    refine ⟨_,rfl,?_⟩
    rw [← has_iff hp s,box_in (bnd_box h h0) s,edges_iff,Bool.and_eq_true,List.all_eq_true]
    unfold inB
    simp only [Bool.and_eq_true,decide_eq_true_eq,List.mem_range]
    have key:(∀ x,x<h.length→leftAt h ⟨s.f0,s.f1⟩ x=true)↔∀ i,i<h.length→0≤area (rd_T47 h (i:Int)) (nxt h i) s:=by
      refine forall_congr' fun i=>forall_congr' fun hi=>?_
      unfold leftAt
      rw [decide_eq_true_eq,turnV_is (hb _ (rd_in h i hi)) (hb _ (nxt_in h i hi)) (show Big ⟨s.f0,s.f1⟩ from hs)]
      exact (sgnI_facts _).2.1
    rw [key]
    constructor
    · rintro ⟨g,g1,g2,g3,g4⟩;exact ⟨⟨g1,g2,g3,g4⟩,g⟩
    · rintro ⟨⟨g1,g2,g3,g4⟩,g⟩;exact ⟨g,g1,g2,g3,g4⟩
end Go.Proofs.YtckjlckhjcbddaaGreat.PG3.Pn

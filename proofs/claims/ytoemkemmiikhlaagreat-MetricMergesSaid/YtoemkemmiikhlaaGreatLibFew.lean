import Derived.Test.YtoemkemmiikhlaaGreatLibMet
import Derived.Test.YtoemkemmiikhlaaGreatPF4x1
set_option linter.unusedVariables false
set_option linter.unusedSectionVars false
set_option linter.unusedSimpArgs false
namespace Go.Proofs.YtoemkemmiikhlaaGreat.PF4
open Go.RowKit Go.Proofs.YtoemkemmiikhlaaGreatW.PrintWords Go.Proofs.YtoemkemmiikhlaaGreatW.PrintLast Go.Proofs.YtoemkemmiikhlaaGreatW.PrintMore
theorem few_is (sz:Int) (cs:List MC) (rs:List MR) (k:Nat) (hk:2≤k):fleuronlaw27_few.f k [⟨sz,cs,rs⟩]=some (decide (cs.length≤300) && decide (rs.length≤600)):=by
  obtain ⟨m,rfl⟩ : ∃ m,k=m+1+1:=⟨k-2,by omega⟩
  unfold fleuronlaw27_few.f
  rw [fleuronlaw27_few.l0,if_pos (by simp),if_pos (by decide),if_pos (by simp)]
  have hr:rd_T25 [(⟨sz,cs,rs⟩:S25)] 0=⟨sz,cs,rs⟩:=rfl
  rw [hr]
  by_cases h1:cs.length≤300
  · rw [if_neg (by simp only;omega),decide_eq_true h1,Bool.true_and]
    by_cases h2:rs.length≤600
    · rw [if_neg (by simp only;omega),decide_eq_true h2]
      have hw:wrap64 (0+1)=1:=wrap64_small (by omega) (by omega)
      rw [hw,fleuronlaw27_few.l0,if_neg (by simp)]
    · rw [if_pos (by simp only;omega),decide_eq_false h2]
  · rw [if_pos (by simp only;omega),decide_eq_false h1];rfl
theorem few2_is (sz:Int) (cs:List MC) (rs:List MR) (sz2:Int) (cs2:List MC) (rs2:List MR) (k:Nat) (hk:3≤k):fleuronlaw27_few.f k [⟨sz,cs,rs⟩,⟨sz2,cs2,rs2⟩]=some ((decide (cs.length≤300) && decide (rs.length≤600)) && (decide (cs2.length≤300) && decide (rs2.length≤600))):=by
  obtain ⟨m,rfl⟩ : ∃ m,k=m+1+1+1:=⟨k-3,by omega⟩
  unfold fleuronlaw27_few.f
  rw [fleuronlaw27_few.l0,if_pos (by simp),if_pos (by decide),if_pos (by simp)]
  have hr:rd_T25 [(⟨sz,cs,rs⟩:S25),⟨sz2,cs2,rs2⟩] 0=⟨sz,cs,rs⟩:=rfl
  rw [hr]
  by_cases h1:cs.length≤300
  · rw [if_neg (by simp only;omega),decide_eq_true h1,Bool.true_and]
    by_cases h2:rs.length≤600
    · rw [if_neg (by simp only;omega),decide_eq_true h2,Bool.true_and]
      have hw:wrap64 (0+1)=1:=wrap64_small (by omega) (by omega)
      rw [hw,fleuronlaw27_few.l0,if_pos (by simp),if_pos (by decide),if_pos (by simp)]
      have hr2:rd_T25 [(⟨sz,cs,rs⟩:S25),⟨sz2,cs2,rs2⟩] 1=⟨sz2,cs2,rs2⟩:=rfl
      rw [hr2]
      by_cases h3:cs2.length≤300
      · rw [if_neg (by simp only;omega),decide_eq_true h3,Bool.true_and]
        by_cases h4:rs2.length≤600
        · rw [if_neg (by simp only;omega),decide_eq_true h4]
          have hw:wrap64 (1+1)=2:=wrap64_small (by omega) (by omega)
          rw [hw,fleuronlaw27_few.l0,if_neg (by simp)]
        · rw [if_pos (by simp only;omega),decide_eq_false h4]
      · rw [if_pos (by simp only;omega),decide_eq_false h3];rfl
    · rw [if_pos (by simp only;omega),decide_eq_false h2];rfl
  · rw [if_pos (by simp only;omega),decide_eq_false h1];rfl
end Go.Proofs.YtoemkemmiikhlaaGreat.PF4

import Derived.Test.YtoemkemmiikhlaaGreatLibVal
import Derived.Test.YtoemkemmiikhlaaGreatMetD
import Derived.Test.YtoemkemmiikhlaaGreatPF2x19
import Derived.Test.YtoemkemmiikhlaaGreatPF2x20
set_option linter.unusedVariables false
set_option linter.unusedSectionVars false
set_option linter.unusedSimpArgs false
namespace Go.Proofs.YtoemkemmiikhlaaGreat.PF2
open Go.RowKit Go.Proofs.YtoemkemmiikhlaaGreatW.PrintWords Go.Proofs.YtoemkemmiikhlaaGreatW.PrintLast Go.Proofs.YtoemkemmiikhlaaGreatW.PrintMore
theorem findR_is (sz : Int) (cs : List MC) (rs : List MR) (n : Int) (hl : cs.length ≤ 1000000) (hr : rs.length ≤ 1000000) (k : Nat) (hk : cs.length + rs.length + 8 ≤ k) :
    fleuronref27_Find.f k sz cs rs n=some ((findM sz cs rs n).1.f0,(findM sz cs rs n).1.f1,(findM sz cs rs n).1.f2,(findM sz cs rs n).1.f3,(findM sz cs rs n).2):=by
  unfold fleuronref27_Find.f
  rw [if_pos ⟨hl,hr⟩]
  cases hv:validM sz cs rs with
  | false=>unfold findM;rw [hv];rfl
  | true =>
    rw [if_pos rfl,findL]
    cases hf:cs.find? (fun c=>c.f0 == n) with
    | none =>
      rw [find_none hv n (fun c hc e=>by have:=List.find?_eq_none.mp hf c hc;simp [e] at this)]
      rfl
    | some c =>
      have h1:=List.mem_of_find?_eq_some hf
      have h2:=List.find?_some hf
      simp only [beq_iff_eq] at h2
      subst h2
      rw [find_there hv h1]
      rfl
theorem ruleFR_is (sz : Int) (cs : List MC) (rs : List MR) (a b : Int) (hl : cs.length ≤ 1000000) (hr : rs.length ≤ 1000000) (k : Nat) (hk : cs.length + rs.length + 8 ≤ k) :
    fleuronref27_Rule.f k sz cs rs a b=some ((ruleM sz cs rs a b).1.f0,(ruleM sz cs rs a b).1.f1,(ruleM sz cs rs a b).1.f2,(ruleM sz cs rs a b).1.f3,(ruleM sz cs rs a b).2):=by
  unfold fleuronref27_Rule.f
  rw [if_pos ⟨hl,hr⟩]
  cases hv:validM sz cs rs with
  | false=>unfold ruleM;rw [hv];rfl
  | true =>
    rw [if_pos rfl,forL]
    cases hf:rs.find? (fun c=>c.f0 == a && c.f1 == b) with
    | none =>
      rw [rule_none hv a b (fun c hc e=>by have:=List.find?_eq_none.mp hf c hc;simp [e] at this)]
      rfl
    | some c =>
      have h1:=List.mem_of_find?_eq_some hf
      have h2:=List.find?_some hf
      simp only [beq_iff_eq,Bool.and_eq_true] at h2
      obtain ⟨rfl,rfl⟩:=h2
      rw [rule_there hv h1]
      rfl
end Go.Proofs.YtoemkemmiikhlaaGreat.PF2

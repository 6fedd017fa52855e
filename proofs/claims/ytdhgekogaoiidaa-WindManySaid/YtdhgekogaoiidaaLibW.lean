/-
  Plain laws: how few the points are; what Winding returns.
-/
import Derived.Test.YtdhgekogaoiidaaLibU
import Derived.Test.YtdhgekogaoiidaaPT6x2
import Derived.Test.YtdhgekogaoiidaaPT6x3
set_option linter.unusedVariables false
set_option linter.unusedSimpArgs false
namespace Go.Proofs.Ytdhgekogaoiidaa.PT6
open Go.RowKit Go.Proofs.YtdhgekogaoiidaaW.PrintWords Go.Proofs.YtdhgekogaoiidaaW.PrintLast Go.Proofs.YtdhgekogaoiidaaW.PrintMore
theorem okPoly_facts {l : List S24} (h : okPoly l = true) : 1 ≤ l.length ∧ l.length ≤ 60000 ∧ ∀ x ∈ l, isPt x = true := by
  unfold okPoly at h
  simp only [Bool.and_eq_true, decide_eq_true_eq, List.all_eq_true] at h
  exact ⟨h.1, h.2.1, h.2.2⟩
theorem winding_is (l : List S24) (p : S24) (hl : l.length ≤ 9223372036854775807) : wind_Winding.f l p.f0 p.f1 = some (countB l p 1 id) := by unfold wind_Winding.f; rw [if_pos hl]
theorem rdL_drop (ll : List (List S24)) (i : Nat) (h : i < ll.length) : ll.drop i = rd_L2 ll (i : Int) :: ll.drop (i + 1) := by
  rw [List.drop_eq_getElem_cons h]
  congr 1
  simp [rd_L2, List.getD_eq_getElem?_getD, List.getElem?_eq_getElem h]
theorem rdL_mem (ll : List (List S24)) (i : Nat) (h : i < ll.length) : rd_L2 ll (i : Int) ∈ ll := by
  simp [rd_L2, List.getD_eq_getElem?_getD, List.getElem?_eq_getElem h]
def sumLen : List (List S24) → Nat
  | [] => 0
  | l :: ls => l.length + sumLen ls
theorem few_from (ll : List (List S24)) (hs : ∀ l ∈ ll, l.length ≤ 100000000000000) (hll : ll.length ≤ 100000000000000) (d : Nat) :
    ∀ (k i : Nat) (n : Int), i ≤ ll.length → ll.length - i = d → d < k → 0 ≤ n → n ≤ 400 → ∃ b, fleuronlaw17_few.l0 k n ll (ll.length : Int) (i : Int) = some b ∧ (b = true → n + (sumLen (ll.drop i) : Int) + ((ll.drop i).length : Int) ≤ 400) := by
  induction d with
  | zero =>
    intro k i n hi hd hk hn hn'
    obtain ⟨k, rfl⟩ : ∃ m, k = m + 1 := ⟨k - 1, by omega⟩
    refine ⟨true, ?_, fun _ => ?_⟩
    · simp only [fleuronlaw17_few.l0]
      rw [if_neg (by omega)]
    · rw [List.drop_eq_nil_of_le (by omega)]; simp [sumLen]; exact hn'
  | succ d ih =>
    intro k i n hi hd hk hn hn'
    obtain ⟨k, rfl⟩ : ∃ m, k = m + 1 := ⟨k - 1, by omega⟩
    have hl := hs _ (rdL_mem ll i (by omega))
    simp only [fleuronlaw17_few.l0]
    rw [if_pos (by omega), if_pos (by omega), if_pos (by omega), wrap64_small (n := 1 + ((rd_L2 ll (i : Int)).length : Int)) (by omega) (by omega), wrap64_small (n := n + (1 + ((rd_L2 ll (i : Int)).length : Int))) (by omega) (by omega)]
    by_cases hg : n + (1 + ((rd_L2 ll (i : Int)).length : Int)) > 400
    · rw [if_pos hg]
      exact ⟨false, rfl, fun h => by cases h⟩
    · rw [if_neg hg, wrap64_small (n := (i : Int) + 1) (by omega) (by omega), show (i : Int) + 1 = ((i + 1 : Nat) : Int) by omega]
      obtain ⟨b, hb, hb'⟩ := ih k (i + 1) (n + (1 + ((rd_L2 ll (i : Int)).length : Int))) (by omega) (by omega) (by omega) (by omega) (by omega)
      refine ⟨b, hb, fun h => ?_⟩
      have := hb' h
      rw [rdL_drop ll i (by omega)]
      simp only [sumLen, List.length_cons]
      omega
theorem few_is (ll : List (List S24)) (hs : ∀ l ∈ ll, l.length ≤ 100000000000000) (hll : ll.length ≤ 100000000000000) (k : Nat) (hk : ll.length < k) : ∃ b, fleuronlaw17_few.f k ll = some b ∧ (b = true → sumLen ll + ll.length ≤ 400) := by
  obtain ⟨b, hb, h⟩ := few_from ll hs hll ll.length k 0 0 (by omega) (by omega) hk (by omega) (by omega)
  refine ⟨b, hb, fun hx => ?_⟩
  have := h hx
  simp at this
  omega
end Go.Proofs.Ytdhgekogaoiidaa.PT6

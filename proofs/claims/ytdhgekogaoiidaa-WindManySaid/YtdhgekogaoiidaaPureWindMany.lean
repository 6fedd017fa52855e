/-
  WindMany, its plain law: inside does not depend on the order of polygons; a polygon that stands twice counts twice.
-/
import Derived.Test.YtdhgekogaoiidaaSaysWindMany
import Derived.Test.YtdhgekogaoiidaaLibM
set_option linter.unusedVariables false
set_option linter.unusedSimpArgs false
namespace Go.Proofs.Ytdhgekogaoiidaa.Pure
open Go.RowKit Go.Proofs.Ytdhgekogaoiidaa.PT6 Go.Proofs.YtdhgekogaoiidaaW.PrintWords Go.Proofs.YtdhgekogaoiidaaW.PrintLast Go.Proofs.YtdhgekogaoiidaaW.PrintMore
theorem sumLen_app (a b : List (List S24)) : sumLen (a ++ b) = sumLen a + sumLen b := by
  induction a with
  | nil => simp [sumLen]
  | cons x a ih => simp only [List.cons_append, sumLen, ih]; omega
theorem sumLen_rev (a : List (List S24)) : sumLen a.reverse = sumLen a := by
  induction a with
  | nil => rfl
  | cons x a ih => rw [List.reverse_cons, sumLen_app, ih]; simp only [sumLen]; omega
theorem allSum_app (p : S24) (o : Int → Int) (a b : List (List S24)) : allSum p o (a ++ b) = allSum p o a + allSum p o b := by
  induction a with
  | nil => simp [allSum]
  | cons x a ih => simp only [List.cons_append, allSum, ih]; omega
theorem allSum_rev (p : S24) (o : Int → Int) (a : List (List S24)) : allSum p o a.reverse = allSum p o a := by
  induction a with
  | nil => rfl
  | cons x a ih => rw [List.reverse_cons, allSum_app, ih]; simp only [allSum]; omega
theorem vall_rev (a : List (List S24)) : vallB a.reverse = vallB a := by
  unfold vallB; rw [List.all_reverse, List.length_reverse, sumLen_rev]
theorem inside_rev (a : List (List S24)) (even : Bool) (p : S24) : insideR a.reverse even p = insideR a even p := by
  unfold insideR insideB; rw [vall_rev, allSum_rev, allSum_rev]
theorem csum_one (l : List S24) (p : S24) : ∀ i, 0 ≤ csum l p 1 (fun _ => 1) i
  | 0 => Int.le_refl _
  | i + 1 => by
    have h := csum_one l p i
    have : 0 ≤ ctermB (rd_T24 l (i : Int)) (nxt l i) p 1 (fun _ => 1) := by
      unfold ctermB
      split
      · omega
      · split
        · show (0 : Int) ≤ 1; omega
        · omega
    unfold csum; omega
theorem allSum_one (p : S24) : ∀ ll, 0 ≤ allSum p (fun _ => 1) ll
  | [] => Int.le_refl _
  | l :: ls => by
    have h1 := allSum_one p ls
    have h2 := csum_one l p l.length
    simp only [allSum]; omega
theorem twice_even (l : List S24) (ll : List (List S24)) (p : S24) : insideB ([l, l] ++ ll) true p = insideB ll true p := by
  unfold insideB
  have h1 := allSum_one p ll
  have h2 := csum_one l p l.length
  have e : allSum p (fun _ => 1) ([l, l] ++ ll) = 2 * csum l p 1 (fun _ => 1) l.length + allSum p (fun _ => 1) ll := by rw [allSum_app]; simp only [allSum]; omega
  simp only [if_true]
  rw [e, Int.tmod_eq_emod_of_nonneg (by omega), Int.tmod_eq_emod_of_nonneg h1]
  congr 1
  omega
theorem vall_one (l : List S24) : vallB [l] = okPoly l := by
  unfold vallB
  cases h : okPoly l with
  | false => simp [h]
  | true =>
    have := (okPoly_facts h).2.1
    have e : sumLen [l] ≤ 60000 := by simp only [sumLen]; omega
    rw [decide_eq_true e]
    simp [h]
theorem WindMany : fleuronlaw17_WindMany.Pure := by
  intro ll l p hll hl _
  have hl1 := hl.1.1
  have hll1 := hll.1.1
  refine ⟨ll.length + 6000000, ?_⟩
  unfold fleuronlaw17_WindMany.P
  refine ⟨by omega, ?_⟩
  obtain ⟨b, hb, hb'⟩ := few_is ([l, l] ++ ll) (by
    intro x hx
    simp only [List.cons_append, List.nil_append, List.mem_cons] at hx
    rcases hx with rfl | rfl | hx
    · omega
    · omega
    · have := (hll.2 x hx).1.1; omega) (by simp; omega) (ll.length + 6000000) (by simp)
  rw [hb]
  cases b with
  | false => exact .inl rfl
  | true =>
    right
    refine ⟨rfl, ?_⟩
    have hn := hb' rfl
    have hn2 : sumLen ([l, l] ++ ll) = l.length + l.length + sumLen ll := by rw [sumLen_app]; simp only [sumLen]; omega
    have hn3 : ([l, l] ++ ll).length = ll.length + 2 := by simp
    by_cases h40 : 40 < ll.length
    · exact .inl h40
    right
    have is1 := fun ev => inside_is ll ev p (by omega) (ll.length + 6000000) (by omega)
    have is2 := fun ev => inside_is ll.reverse ev p (by rw [sumLen_rev, List.length_reverse]; omega) (ll.length + 6000000) (by omega)
    have is3 := inside_is ([l, l] ++ ll) true p (by omega) (ll.length + 6000000) (by omega)
    have is4 := inside_is [l] false p (by simp only [sumLen, List.length_singleton]; omega) (ll.length + 6000000) (by omega)
    refine ⟨by omega, (insideR ll false p).1, (insideR ll false p).2, (insideR ll true p).1, (insideR ll true p).2, is1 false, (is2 false).trans (by rw [inside_rev]), is1 true, (is2 true).trans (by rw [inside_rev]), (insideR ([l, l] ++ ll) true p).1, (insideR ([l, l] ++ ll) true p).2, (countB l p 1 id).1, (countB l p 1 id).2, (insideR [l] false p).1, is3, winding_is l p (by omega), is4.trans ?_, ?_, ?_⟩
    · unfold insideR countB
      rw [vall_one]
      cases okPoly l && isPt p <;> rfl
    · unfold insideR
      cases h1 : (vallB ll && isPt p) with
      | false => left; simp
      | true =>
        right
        cases h2 : (vallB ([l, l] ++ ll) && isPt p) with
        | false => left; simp
        | true => right; simp only [if_true]; exact (twice_even l ll p).symm
    · unfold insideR countB
      rw [vall_one]
      cases h : (okPoly l && isPt p) with
      | false => left; simp
      | true =>
        right
        simp only [if_true, insideB, Bool.false_eq_true, if_false, allSum, Int.add_zero]
end Go.Proofs.Ytdhgekogaoiidaa.Pure

/-
  Plain law: a polygon that is cut between two of its points: the sums over both parts come to the sum over it.
-/
import Derived.Test.YtdhgekogaoiidaaLibZ
import Derived.Test.YtdhgekogaoiidaaPT5x3
set_option linter.unusedVariables false
set_option linter.unusedSimpArgs false
namespace Go.Proofs.Ytdhgekogaoiidaa.PT5
open Go.RowKit Go.Proofs.YtdhgekogaoiidaaW.PrintWords Go.Proofs.YtdhgekogaoiidaaW.PrintLast Go.Proofs.YtdhgekogaoiidaaW.PrintMore
/-- Point j of a polygon, round and round. -/
def rnd (l : List S24) (j : Nat) : S24 := rd_T24 l ((j % l.length : Nat) : Int)
theorem rdAt (l : List S24) (i : Nat) (h : i < l.length) : rd_T24 l (i : Int) = l[i] := by
  simp [rd_T24, List.getD_eq_getElem?_getD, List.getElem?_eq_getElem h]
/-- The sum over a polygon that begins at a and is m edges long, and closed by an edge back. -/
theorem csum_walk (l t : List S24) (p : S24) (a m : Nat) (ht : t.length = m + 1) (hr : ∀ j, j ≤ m → rd_T24 t (j : Int) = rnd l (a + j)) :
    csum t p 1 id t.length = sumTo (fun j => ctermB (rnd l (a + j)) (rnd l (a + j + 1)) p 1 id) m + ctermB (rnd l (a + m)) (rnd l a) p 1 id := by
  rw [csum_sum, ht]
  simp only [sumTo]
  rw [sumTo_congr (g := fun j => ctermB (rnd l (a + j)) (rnd l (a + j + 1)) p 1 id) m (fun j hj => ?_), hr m (Nat.le_refl _)]
  · have e : nxt t m = rnd l a := by
      unfold nxt
      rw [ht, Nat.mod_self]
      have := hr 0 (Nat.zero_le _)
      simpa using this
    rw [e]
  · have e : nxt t j = rnd l (a + j + 1) := by
      unfold nxt
      rw [ht, Nat.mod_eq_of_lt (by omega)]
      exact hr (j + 1) (by omega)
    rw [hr j (by omega), e]
theorem swap_terms (a b p : S24) : ctermB a b p 1 id + ctermB b a p 1 id = 0 := by
  have hw : wayB b a p.f1 = - wayB a b p.f1 := by
    unfold wayB
    by_cases h1 : a.f1 ≤ p.f1 ∧ p.f1 < b.f1
    · rw [if_pos h1, if_neg (by omega), if_pos h1]
    · rw [if_neg h1]
      by_cases h2 : b.f1 ≤ p.f1 ∧ p.f1 < a.f1
      · rw [if_pos h2, if_neg h1, if_pos h2]; rfl
      · rw [if_neg h2, if_neg h1, if_neg h2]; rfl
  have hc : crossB b a p = - crossB a b p := by unfold crossB; grind
  have hn : sgnB (- crossB a b p) = - sgnB (crossB a b p) := by unfold sgnB; split <;> (try split) <;> (try split) <;> omega
  have hs : sideB b a p = sideB a b p := by unfold sideB; rw [hc, hn, hw, Int.neg_mul_neg]
  unfold ctermB
  rw [hs, hw]
  by_cases h : wayB a b p.f1 = 0
  · rw [if_pos h, if_pos (show - wayB a b p.f1 = 0 by omega)]; rfl
  · rw [if_neg h, if_neg (show ¬ - wayB a b p.f1 = 0 by omega)]
    by_cases h2 : sideB a b p = 1
    · rw [if_pos h2, if_pos h2]; simp only [id]; omega
    · rw [if_neg h2, if_neg h2]; rfl
/-- The cut. -/
theorem csum_parts (l : List S24) (p : S24) (i k : Nat) (hik : i ≤ k) (hk : k < l.length) :
    csum l p 1 id l.length = csum ((l.drop i).take (k + 1 - i)) p 1 id ((l.drop i).take (k + 1 - i)).length + csum (l.drop k ++ l.take (i + 1)) p 1 id (l.drop k ++ l.take (i + 1)).length := by
  have per : ∀ j, rnd l (j + l.length) = rnd l j := fun j => by unfold rnd; rw [Nat.add_mod_right]
  have h0 : ∀ j, j < l.length → rd_T24 l (j : Int) = rnd l j := fun j hj => by unfold rnd; rw [Nat.mod_eq_of_lt hj]
  have e1 := csum_walk l ((l.drop i).take (k + 1 - i)) p i (k - i) (by simp; omega) (fun j hj => by
    rw [← h0 (i + j) (by omega), rdAt _ j (by simp; omega), rdAt _ (i + j) (by omega)]
    simp)
  have e2 := csum_walk l (l.drop k ++ l.take (i + 1)) p k (l.length - k + i) (by simp; omega) (fun j hj => by
    rw [rdAt _ j (by simp; omega), List.getElem_append]
    by_cases h : j < l.length - k
    · rw [dif_pos (by simpa using h), ← h0 (k + j) (by omega), rdAt _ (k + j) (by omega)]
      simp
    · rw [dif_neg (by simpa using h)]
      have : rnd l (k + j) = rnd l (k + j - l.length) := by
        rw [← per (k + j - l.length)]; congr 1; omega
      rw [this, ← h0 _ (by omega), rdAt _ _ (by omega), List.getElem_take]
      congr 1
      simp
      omega)
  have e0 : csum l p 1 id l.length = sumTo (fun j => ctermB (rnd l j) (rnd l (j + 1)) p 1 id) l.length := by
    rw [csum_sum]
    exact sumTo_congr _ (fun j hj => by rw [h0 j hj]; rfl)
  have f : sumTo (fun j => ctermB (rnd l j) (rnd l (j + 1)) p 1 id) l.length = sumTo (fun j => ctermB (rnd l (i + j)) (rnd l (i + j + 1)) p 1 id) l.length := by
    rw [← sumTo_rot (fun j => ctermB (rnd l j) (rnd l (j + 1)) p 1 id) l.length i (by omega)]
    refine sumTo_congr _ (fun j hj => ?_)
    have q1 : rnd l ((j + i) % l.length) = rnd l (i + j) := by unfold rnd; rw [Nat.mod_mod, Nat.add_comm]
    have q2 : rnd l ((j + i) % l.length + 1) = rnd l (i + j + 1) := by unfold rnd; rw [Nat.mod_add_mod, Nat.add_comm j i]
    rw [q1, q2]
  have g := sumTo_add (fun j => ctermB (rnd l (i + j)) (rnd l (i + j + 1)) p 1 id) (k - i) (l.length - k + i)
  rw [show k - i + (l.length - k + i) = l.length by omega] at g
  have g2 : sumTo (fun j => ctermB (rnd l (i + (k - i + j))) (rnd l (i + (k - i + j) + 1)) p 1 id) (l.length - k + i) = sumTo (fun j => ctermB (rnd l (k + j)) (rnd l (k + j + 1)) p 1 id) (l.length - k + i) :=
    sumTo_congr _ (fun j hj => by rw [show i + (k - i + j) = k + j by omega])
  have s := swap_terms (rnd l k) (rnd l i) p
  rw [show i + (k - i) = k by omega] at e1
  have e3 : rnd l (k + (l.length - k + i)) = rnd l i := by rw [show k + (l.length - k + i) = i + l.length by omega, per]
  rw [e3] at e2
  rw [e0, f, g, g2, e1, e2]
  omega
end Go.Proofs.Ytdhgekogaoiidaa.PT5

/-
  Plain laws: equal polygons, and the heights of the chapter are the heights of the code.
-/
import Derived.Test.YtdhgekogaoiidaaLibB
import Derived.Test.YtdhgekogaoiidaaPT2x10
import Derived.Test.YtdhgekogaoiidaaPT2x4
import Derived.Test.YtdhgekogaoiidaaPT2x9
set_option linter.unusedVariables false
set_option linter.unusedSimpArgs false
namespace Go.Proofs.Ytdhgekogaoiidaa.PT2
open Go.RowKit Go.Proofs.YtdhgekogaoiidaaW.PrintWords Go.Proofs.YtdhgekogaoiidaaW.PrintLast Go.Proofs.YtdhgekogaoiidaaW.PrintMore
theorem copied_is (l : List S24) (hl : l.length < 8796093022208) : fleuronlaw17_copied.f l = some l := by
  unfold fleuronlaw17_copied.f
  simp only [Option.bind_some, List.length_nil, Nat.zero_add, List.nil_append]
  rw [if_pos hl]
theorem same_from (l : List S24) (hl : l.length ≤ 9223372036854775806) (d : Nat) : ∀ (k i : Nat), i ≤ l.length → l.length - i = d → d < k → fleuronref16_Same.l0 k l l (l.length : Int) (i : Int) = some true := by
  induction d with
  | zero =>
    intro k i hi hd hk
    obtain ⟨k, rfl⟩ : ∃ m, k = m + 1 := ⟨k - 1, by omega⟩
    simp only [fleuronref16_Same.l0]
    rw [if_neg (by omega)]
  | succ d ih =>
    intro k i hi hd hk
    obtain ⟨k, rfl⟩ : ∃ m, k = m + 1 := ⟨k - 1, by omega⟩
    simp only [fleuronref16_Same.l0]
    rw [if_pos (by omega), if_pos (by omega), if_pos (by omega), if_pos (by omega), if_neg (by simp), wrap64_small (n := (i : Int) + 1) (by omega) (by omega), show (i : Int) + 1 = ((i + 1 : Nat) : Int) by omega]
    exact ih k (i + 1) (by omega) (by omega) (by omega)
theorem same_is (l : List S24) (hl : l.length ≤ 9223372036854775806) (k : Nat) (hk : l.length < k) : fleuronref16_Same.f k l l = some true := by
  unfold fleuronref16_Same.f
  rw [if_pos rfl]
  exact same_from l hl l.length k 0 (by omega) (by omega) hk
/-! ### A number is laid into a row that is sorted -/
theorem posZ_spec (out : List Int) (n : Int) : ∀ i, (∀ j, posZ out n i ≤ j → j < i → n < out.getD j 0) ∧ (0 < posZ out n i → ¬ n < out.getD (posZ out n i - 1) 0)
  | 0 => ⟨fun j h1 h2 => by omega, fun h => by simp [posZ] at h⟩
  | i + 1 => by
    unfold posZ
    by_cases h : n < out.getD i 0
    · rw [if_pos h]
      have ih := posZ_spec out n i
      refine ⟨fun j h1 h2 => ?_, ih.2⟩
      rcases Nat.lt_or_ge j i with h3 | h3
      · exact ih.1 j h1 h3
      · rw [show j = i by omega]; exact h
    · rw [if_neg h]
      exact ⟨fun j h1 h2 => by omega, fun _ => by simpa using h⟩
theorem insZ_perm (out : List Int) (n : Int) : List.Perm (insZ out n) (n :: out) := by
  unfold insZ
  refine List.perm_middle.trans ?_
  rw [List.take_append_drop]
theorem insZ_sorted (out : List Int) (n : Int) (h : out.Pairwise (· ≤ ·)) : (insZ out n).Pairwise (· ≤ ·) := by
  have hs := posZ_spec out n out.length
  have hle := posZ_le out n out.length
  unfold insZ
  generalize posZ out n out.length = q at *
  have hg := List.pairwise_iff_getElem.mp h
  have hdrop : ∀ x ∈ out.drop q, n < x := by
    intro x hx
    obtain ⟨i, hi, rfl⟩ := List.getElem_of_mem hx
    rw [List.length_drop] at hi
    have := hs.1 (q + i) (by omega) (by omega)
    rw [List.getElem_drop]
    simpa [List.getElem?_eq_getElem (show q + i < out.length by omega)] using this
  have htake : ∀ x ∈ out.take q, x ≤ n := by
    intro x hx
    obtain ⟨i, hi, rfl⟩ := List.getElem_of_mem hx
    rw [List.length_take] at hi
    have h1 := hs.2 (by omega)
    rw [List.getD_eq_getElem?_getD, List.getElem?_eq_getElem (show q - 1 < out.length by omega)] at h1
    simp only [Option.getD_some] at h1
    rw [List.getElem_take]
    rcases Nat.lt_or_ge i (q - 1) with h2 | h2
    · have := hg i (q - 1) (by omega) (by omega) h2; omega
    · have e : i = q - 1 := by omega
      subst e
      omega
  rw [List.pairwise_append, List.pairwise_cons]
  refine ⟨h.sublist (List.take_sublist _ _), ⟨fun x hx => by have := hdrop x hx; omega, h.sublist (List.drop_sublist _ _)⟩, fun a ha b hb => ?_⟩
  have h1 := htake a ha
  rcases List.mem_cons.1 hb with rfl | hb
  · exact h1
  · have := hdrop b hb; omega
/-! ### The floor of a crossing -/
theorem floor_is (n d : Int) (hd : 0 < d) (h : -1000000000000000000 ≤ n) (h' : n ≤ 1000000000000000000) : fleuronref16_Floor.f n d = some (n / d) := by
  have t1 := tdiv_abs (n := n) (d := d) (k := 1000000000000000000) h h'
  have f1 := floor_div (n := n) (d := d) hd
  unfold fleuronref16_Floor.f
  rw [if_neg (by omega), wrap64_small (n := Int.tdiv n d) (by omega) (by omega)]
  by_cases hm : Int.tmod n d < 0
  · rw [if_pos hm] at f1 ⊢
    rw [wrap64_small (by omega) (by omega), f1]
  · rw [if_neg hm] at f1 ⊢
    rw [f1]
theorem hgt_step (k : Nat) (a b p : S24) (ha : isPt a = true) (hb : isPt b = true) (hp : isPt p = true) :
    ∃ c, fleuronref17_crossing.f (k + 1) a.f0 a.f1 b.f0 b.f1 p.f0 p.f1 = some c ∧ c.1 = wayB a b p.f1 ∧ (wayB a b p.f1 ≠ 0 → fleuronref16_Floor.f c.2.1 c.2.2 = some (atB a b p.f1)) := by
  have ba := isPt_bounds ha; have bb := isPt_bounds hb; have bp := isPt_bounds hp
  obtain ⟨num, den, hc, hn⟩ := crossing_is k a b p ha hb hp
  refine ⟨_, hc, rfl, fun hw => ?_⟩
  have m1 := mul_bound (x := a.f0) (y := b.f1 - a.f1) (by omega) (by omega) (by omega) (by omega)
  have m2 := mul_bound (x := p.f1 - a.f1) (y := b.f0 - a.f0) (by omega) (by omega) (by omega) (by omega)
  have n1 := mul_bound (x := a.f0) (y := a.f1 - b.f1) (by omega) (by omega) (by omega) (by omega)
  have n2 := mul_bound (x := a.f1 - p.f1) (y := b.f0 - a.f0) (by omega) (by omega) (by omega) (by omega)
  rcases (hn hw).2 with ⟨h1, rfl, rfl⟩ | ⟨h1, rfl, rfl⟩
  · have hd : 0 < b.f1 - a.f1 := by
      unfold wayB at h1
      split at h1
      · omega
      · split at h1 <;> omega
    simp only
    rw [floor_is _ _ hd (by omega) (by omega)]
    unfold atB
    rw [if_neg (by omega), Int.add_comm, Int.add_mul_ediv_right _ _ (by omega), Int.add_comm, Int.mul_comm (p.f1 - a.f1)]
  · have hd : 0 < a.f1 - b.f1 := by
      unfold wayB at h1
      split at h1
      · omega
      · split at h1 <;> omega
    simp only
    rw [floor_is _ _ hd (by omega) (by omega)]
    unfold atB
    rw [if_pos (by omega), Int.add_comm, Int.add_mul_ediv_right _ _ (by omega), Int.add_comm, show -(b.f1 - a.f1) = a.f1 - b.f1 by omega, show -((b.f0 - a.f0) * (p.f1 - a.f1)) = (a.f1 - p.f1) * (b.f0 - a.f0) by rw [← Int.mul_neg, Int.mul_comm]; congr 1; omega]
def layZ (l : List S24) (y : Int) : Nat → List Int
  | 0 => []
  | i + 1 => if wayB (rd_T24 l (i : Int)) (nxt l i) y = 0 then layZ l y i else insZ (layZ l y i) (atB (rd_T24 l (i : Int)) (nxt l i) y)
theorem layZ_sorted (l : List S24) (y : Int) : ∀ i, (layZ l y i).Pairwise (· ≤ ·)
  | 0 => List.Pairwise.nil
  | i + 1 => by
    unfold layZ
    split
    · exact layZ_sorted l y i
    · exact insZ_sorted _ _ (layZ_sorted l y i)
theorem layZ_perm (l : List S24) (y : Int) : ∀ i, List.Perm (layZ l y i) (heightsTo l y i)
  | 0 => List.Perm.refl _
  | i + 1 => by
    unfold layZ heightsTo
    split
    · exact layZ_perm l y i
    · exact (insZ_perm _ _).trans (((layZ_perm l y i).cons _).trans (List.perm_append_singleton _ _).symm)
theorem layZ_is (l : List S24) (y : Int) (i : Nat) : layZ l y i = sortZ (heightsTo l y i) := by
  refine List.Perm.eq_of_pairwise (le := fun a b : Int => a ≤ b) (fun a b _ _ h1 h2 => Int.le_antisymm h1 h2) (layZ_sorted l y i) ?_ ((layZ_perm l y i).trans (List.mergeSort_perm _ _).symm)
  have := List.pairwise_mergeSort (le := fun x y : Int => decide (x ≤ y)) (by simp; omega) (by simp; omega) (heightsTo l y i)
  exact this.imp (by simp)
theorem hgtTo_is (l : List S24) (p : S24) (hal : ∀ x ∈ l, isPt x = true) (hp : isPt p = true) (k : Nat) : ∀ i, i ≤ l.length → hgtTo (k + 1) l p.f0 p.f1 i = some (layZ l p.f1 i)
  | 0, _ => rfl
  | i + 1, hi => by
    have hx := hal _ (rd_mem l i (by omega))
    have hy := hal _ (nxt_mem l i (by omega))
    obtain ⟨c, hc, h1, h2⟩ := hgt_step k (rd_T24 l (i : Int)) (nxt l i) p hx hy hp
    unfold hgtTo layZ
    rw [hgtTo_is l p hal hp k i (by omega)]
    simp only [Option.bind_some]
    rw [hc]
    simp only [Option.bind_some]
    rw [h1]
    by_cases h : wayB (rd_T24 l (i : Int)) (nxt l i) p.f1 = 0
    · rw [if_pos h, if_pos h]
    · rw [if_neg h, if_neg h, h2 h]; rfl
theorem refHeights_is (l : List S24) (p : S24) (hl : l.length ≤ 1000000000) (k : Nat) (hk : l.length < k) : fleuronref17_Heights.f k l p.f0 p.f1 = some (heightsB l p) := by
  obtain ⟨k, rfl⟩ : ∃ m, k = m + 1 := ⟨k - 1, by omega⟩
  unfold fleuronref17_Heights.f heightsB
  rw [right_is l p (by omega) (k + 1) (by omega)]
  simp only [Option.bind_some]
  cases h : okPoly l && isPt p with
  | false => simp
  | true =>
    obtain ⟨h1, h2⟩ := Bool.and_eq_true_iff.1 h
    have hf := okPoly_facts h1
    rw [if_pos rfl, if_pos rfl, if_pos hf.2.1, hgtTo_is l p hf.2.2 h2 k l.length (Nat.le_refl _), layZ_is]
    rfl
theorem heights_is (l : List S24) (p : S24) (hl : l.length ≤ 9223372036854775807) : wind_Heights.f l p.f0 p.f1 = some (heightsB l p) := by unfold wind_Heights.f; rw [if_pos hl]
theorem heightsB_len (l : List S24) (p : S24) : (heightsB l p).1.length ≤ l.length := by
  unfold heightsB
  split
  · unfold sortZ
    rw [List.length_mergeSort]
    exact heightsTo_len l p.f1 l.length
  · simp
end Go.Proofs.Ytdhgekogaoiidaa.PT2

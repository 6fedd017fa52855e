/-
  WindSums, its plain law: the ways of all edges at a height sum to 0, the crossings have the winding number's parity, and there is a height for each edge at the point's height.
-/
import Derived.Test.YtdhgekogaoiidaaSaysWindSums
import Derived.Test.YtdhgekogaoiidaaLibF
import Derived.Test.YtdhgekogaoiidaaLibZ
set_option linter.unusedVariables false
set_option linter.unusedSimpArgs false
namespace Go.Proofs.Ytdhgekogaoiidaa.Pure
open Go.RowKit Go.Proofs.Ytdhgekogaoiidaa.PT4 Go.Proofs.YtdhgekogaoiidaaW.PrintWords Go.Proofs.YtdhgekogaoiidaaW.PrintLast Go.Proofs.YtdhgekogaoiidaaW.PrintMore
theorem terms_sum (a b p : S24) : ctermB a b p 1 id + ctermB a b p (-1) id + ctermB a b p 0 id = wayB a b p.f1 := by
  have hs : sideB a b p = 1 ∨ sideB a b p = -1 ∨ sideB a b p = 0 := by
    unfold sideB
    rcases sgnB_cases (crossB a b p) with h | h | h <;> rcases wayB_cases a b p.f1 with g | g | g <;> rw [h, g] <;> simp
  unfold ctermB
  by_cases hw : wayB a b p.f1 = 0
  · rw [if_pos hw, if_pos hw, if_pos hw, hw]; rfl
  · rw [if_neg hw, if_neg hw, if_neg hw]
    rcases hs with h | h | h <;> rw [h] <;> simp
theorem terms_even (a b p : S24) : (ctermB a b p 1 id - ctermB a b p 1 (fun _ => 1)) % 2 = 0 ∧ 0 ≤ ctermB a b p 1 (fun _ => 1) := by
  unfold ctermB
  by_cases hw : wayB a b p.f1 = 0
  · rw [if_pos hw, if_pos hw]; omega
  · rw [if_neg hw, if_neg hw]
    by_cases hs : sideB a b p = 1
    · rw [if_pos hs, if_pos hs]
      rcases wayB_cases a b p.f1 with g | g | g
      · exact absurd g hw
      · rw [g]; simp
      · rw [g]; simp
    · rw [if_neg hs, if_neg hs]; omega
/-- 1 above a height, else 0. -/
def abv (x : S24) (y : Int) : Int := if y < x.f1 then 1 else 0
theorem way_abv (a b : S24) (y : Int) : wayB a b y = abv b y - abv a y := by
  unfold wayB abv
  by_cases h1 : y < a.f1
  · by_cases h2 : y < b.f1
    · rw [if_neg (by omega), if_neg (by omega), if_pos h1, if_pos h2]; rfl
    · rw [if_neg (by omega), if_pos (by omega), if_pos h1, if_neg h2]; rfl
  · by_cases h2 : y < b.f1
    · rw [if_pos (by omega), if_neg h1, if_pos h2]; rfl
    · rw [if_neg (by omega), if_neg (by omega), if_neg h1, if_neg h2]; rfl
section
variable (l : List S24) (p : S24)
theorem sums_to : ∀ i, csum l p 1 id i + csum l p (-1) id i + csum l p 0 id i = sumTo (fun i => wayB (rd_T24 l (i : Int)) (nxt l i) p.f1) i
  | 0 => rfl
  | i + 1 => by
    have ih := sums_to i
    have h := terms_sum (rd_T24 l (i : Int)) (nxt l i) p
    simp only [csum, sumTo]
    omega
theorem ways_to : ∀ i, i < l.length → sumTo (fun i => wayB (rd_T24 l (i : Int)) (nxt l i) p.f1) i = abv (rd_T24 l (i : Int)) p.f1 - abv (rd_T24 l ((0 : Nat) : Int)) p.f1
  | 0, _ => by simp [sumTo]
  | i + 1, h => by
    have ih := ways_to i (by omega)
    simp only [sumTo]
    rw [ih, way_abv]
    have e : nxt l i = rd_T24 l ((i + 1 : Nat) : Int) := by unfold nxt; rw [Nat.mod_eq_of_lt h]
    rw [e]
    omega
theorem ways_zero (h : 0 < l.length) : sumTo (fun i => wayB (rd_T24 l (i : Int)) (nxt l i) p.f1) l.length = 0 := by
  obtain ⟨n, hn⟩ : ∃ n, l.length = n + 1 := ⟨l.length - 1, by omega⟩
  have ih := ways_to l p n (by omega)
  have e : nxt l n = rd_T24 l ((0 : Nat) : Int) := by unfold nxt; rw [hn, Nat.mod_self]
  rw [hn]
  simp only [sumTo]
  rw [ih, way_abv, e]
  omega
theorem even_to : ∀ i, (csum l p 1 id i - csum l p 1 (fun _ => 1) i) % 2 = 0 ∧ 0 ≤ csum l p 1 (fun _ => 1) i
  | 0 => by simp [csum]
  | i + 1 => by
    have ih := even_to i
    have h := terms_even (rd_T24 l (i : Int)) (nxt l i) p
    simp only [csum]
    omega
theorem hts_to (y : Int) : ∀ i, (heightsTo l y i).length = atN l y i
  | 0 => rfl
  | i + 1 => by
    have ih := hts_to y i
    unfold heightsTo atN
    split
    · exact ih
    · rw [List.length_append, ih]; rfl
theorem sums_true : l.length ≤ 1000 → sumsB l p = true := by
  intro hl
  unfold sumsB
  cases h : okPoly l && isPt p with
  | false => rfl
  | true =>
    obtain ⟨h1, h2⟩ := Bool.and_eq_true_iff.1 h
    have hf := okPoly_facts h1
    have s := sums_to l p l.length
    rw [ways_zero l p (by omega)] at s
    have ev := even_to l p l.length
    have a1 := csum_abs l p 1 id id_small l.length
    have a2 := csum_abs l p (-1) id id_small l.length
    have a3 := csum_abs l p 0 id id_small l.length
    have a4 := csum_abs l p 1 (fun _ => 1) one_small l.length
    have hh : (heightsB l p).1.length = atN l p.f1 l.length := by
      unfold heightsB
      rw [h, if_pos rfl]
      show (sortZ (heightsTo l p.f1 l.length)).length = _
      unfold sortZ
      rw [List.length_mergeSort, hts_to]
    rw [if_pos rfl, wrap64_small (n := csum l p 1 id l.length + csum l p (-1) id l.length) (by omega) (by omega), s, wrap64_zero, wrap64_small (n := csum l p 1 id l.length - csum l p 1 (fun _ => 1) l.length) (by omega) (by omega), decide_eq_true ev.2, decide_eq_true hh, decide_eq_true (show Int.tmod (csum l p 1 id l.length - csum l p 1 (fun _ => 1) l.length) 2 = 0 from Int.tmod_eq_zero_of_dvd (Int.dvd_of_emod_eq_zero ev.1))]
    rfl
end
theorem WindSums : fleuronlaw17_WindSums.Pure := by
  intro l p hl _
  have hl1 := hl.1.1
  obtain ⟨b, hb, hf⟩ := few_is [l] (by simp; omega) (by simp) 500000 (by simp)
  refine ⟨500000, ?_⟩
  unfold fleuronlaw17_WindSums.f
  rw [hb]
  simp only [Option.bind_some]
  cases b with
  | false => rfl
  | true =>
    have hs := hf rfl
    simp [sumLen] at hs
    rw [if_pos rfl, if_pos (by omega)]
    exact congrArg some (sums_true l p (by omega))
end Go.Proofs.Ytdhgekogaoiidaa.Pure

/-
  Plain laws: lists that are the same, how few, copies.
-/
import Derived.Test.YtnjlcmaelacjkaaLibHull
import Derived.Test.YtnjlcmaelacjkaaPD3x4
import Derived.Test.YtnjlcmaelacjkaaPD3x6
set_option linter.unusedVariables false
set_option linter.unusedSimpArgs false
namespace Go.Proofs.Ytnjlcmaelacjkaa.PD3
open Go.RowKit Go.Proofs.YtnjlcmaelacjkaaW.PrintWords Go.Proofs.YtnjlcmaelacjkaaW.PrintLast Go.Proofs.YtnjlcmaelacjkaaW.PrintMore HG
theorem arePoints_is (l : List S33) (hl : l.length ≤ 9223372036854775807) : flat_ArePoints.f l = some (l.all isPt) := by unfold flat_ArePoints.f; rw [if_pos hl]
theorem neP_iff {x y : S33} : ((!(x.f0 == y.f0) || !(x.f1 == y.f1)) = true) ↔ x ≠ y := by
  simp only [Bool.or_eq_true, Bool.not_eq_true', beq_eq_false_iff_ne]
  constructor
  · rintro h rfl; simp at h
  · intro h
    by_cases h0 : x.f0 = y.f0
    · right; intro h1; exact h (ptx h0 h1)
    · left; exact h0
theorem same_from (a b : List S33) (hab : a.length = b.length) (hl : a.length ≤ 9223372036854775806) (d : Nat) : ∀ (k i : Nat), i ≤ a.length → a.length - i = d → d < k → fleuronref16_Same.l0 k a b (a.length : Int) (i : Int) = some (decide (a.drop i = b.drop i)) := by
  induction d with
  | zero =>
    intro k i hi hd hk
    obtain ⟨k, rfl⟩ : ∃ m, k = m + 1 := ⟨k - 1, by omega⟩
    simp only [fleuronref16_Same.l0]
    rw [if_neg (by omega), List.drop_eq_nil_of_le (by omega), List.drop_eq_nil_of_le (by omega)]
    rfl
  | succ d ih =>
    intro k i hi hd hk
    obtain ⟨k, rfl⟩ : ∃ m, k = m + 1 := ⟨k - 1, by omega⟩
    simp only [fleuronref16_Same.l0]
    rw [if_pos (by omega), if_pos (by omega), if_pos (by omega), if_pos (by omega), wrap64_small (n := (i : Int) + 1) (by omega) (by omega), show (i : Int) + 1 = ((i + 1 : Nat) : Int) by omega, rd_drop a i (by omega), rd_drop b i (by omega)]
    by_cases hx : rd_T33 a (i : Int) = rd_T33 b (i : Int)
    · rw [if_neg (fun h => neP_iff.mp h hx), ih k (i + 1) (by omega) (by omega) (by omega), hx]
      simp
    · rw [if_pos (neP_iff.mpr hx)]
      simp [hx]
theorem same_is (a b : List S33) (hl : a.length ≤ 9223372036854775806) (k : Nat) (hk : a.length < k) : fleuronref16_Same.f k a b = some (decide (a = b)) := by
  unfold fleuronref16_Same.f
  by_cases h : a.length = b.length
  · rw [if_pos (by omega)]
    have := same_from a b h hl a.length k 0 (by omega) (by omega) hk
    simpa using this
  · rw [if_neg (by omega), decide_eq_false (fun e => h (by rw [e]))]
def sumLen : List (List S33) → Nat
  | [] => 0
  | l :: ls => l.length + sumLen ls
theorem rdL_drop (ll : List (List S33)) (i : Nat) (h : i < ll.length) : ll.drop i = rd_L2 ll (i : Int) :: ll.drop (i + 1) := by
  rw [List.drop_eq_getElem_cons h]
  congr 1
  simp [rd_L2, List.getD_eq_getElem?_getD, List.getElem?_eq_getElem h]
theorem rdL_mem (ll : List (List S33)) (i : Nat) (h : i < ll.length) : rd_L2 ll (i : Int) ∈ ll := by
  simp [rd_L2, List.getD_eq_getElem?_getD, List.getElem?_eq_getElem h]
theorem few_from (m : Int) (h0 : 0 ≤ m) (hm : m ≤ 1000000) (ll : List (List S33)) (hs : ∀ l ∈ ll, l.length ≤ 100000000000000) (hll : ll.length ≤ 100000000000000) (d : Nat) :
    ∀ (k i : Nat) (n : Int), i ≤ ll.length → ll.length - i = d → d < k → 0 ≤ n → n ≤ m → fleuronlaw18_few.l0 k m n ll (ll.length : Int) (i : Int) = some (decide (n + (sumLen (ll.drop i) : Int) ≤ m)) := by
  induction d with
  | zero =>
    intro k i n hi hd hk hn hn'
    obtain ⟨k, rfl⟩ : ∃ m, k = m + 1 := ⟨k - 1, by omega⟩
    simp only [fleuronlaw18_few.l0]
    rw [if_neg (by omega), List.drop_eq_nil_of_le (by omega)]
    simp [sumLen]; exact hn'
  | succ d ih =>
    intro k i n hi hd hk hn hn'
    obtain ⟨k, rfl⟩ : ∃ m, k = m + 1 := ⟨k - 1, by omega⟩
    have hl := hs _ (rdL_mem ll i (by omega))
    simp only [fleuronlaw18_few.l0]
    rw [if_pos (by omega), if_pos (by omega), if_pos (by omega), wrap64_small (n := n + ((rd_L2 ll (i : Int)).length : Int)) (by omega) (by omega), rdL_drop ll i (by omega)]
    rw [show sumLen (rd_L2 ll (i : Int) :: ll.drop (i + 1)) = (rd_L2 ll (i : Int)).length + sumLen (ll.drop (i + 1)) from rfl]
    by_cases hg : n + ((rd_L2 ll (i : Int)).length : Int) > m
    · rw [if_pos hg, decide_eq_false (by omega)]
    · rw [if_neg hg, wrap64_small (n := (i : Int) + 1) (by omega) (by omega), show (i : Int) + 1 = ((i + 1 : Nat) : Int) by omega, ih k (i + 1) (n + ((rd_L2 ll (i : Int)).length : Int)) (by omega) (by omega) (by omega) (by omega) (by omega)]
      congr 1
      rw [decide_eq_decide]; omega
theorem few_is (m : Int) (h0 : 0 ≤ m) (hm : m ≤ 1000000) (ll : List (List S33)) (hs : ∀ l ∈ ll, l.length ≤ 100000000000000) (hll : ll.length ≤ 100000000000000) (k : Nat) (hk : ll.length < k) : fleuronlaw18_few.f k m ll = some (decide ((sumLen ll : Int) ≤ m)) := by
  have := few_from m h0 hm ll hs hll ll.length k 0 0 (by omega) (by omega) hk (by omega) (by omega)
  unfold fleuronlaw18_few.f
  rw [show (0 : Int) = ((0 : Nat) : Int) from rfl] at *
  rw [this]
  simp
end Go.Proofs.Ytnjlcmaelacjkaa.PD3

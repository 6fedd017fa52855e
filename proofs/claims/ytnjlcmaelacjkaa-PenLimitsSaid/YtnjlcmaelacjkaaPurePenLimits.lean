/-
  PenLimits, its plain law: the hull of points taken many times is their hull, as long as they are at most 2,000.
-/
import Derived.Test.YtnjlcmaelacjkaaSaysPenLimits
import Derived.Test.YtnjlcmaelacjkaaLibHulls
set_option linter.unusedVariables false
set_option linter.unusedSimpArgs false
namespace Go.Proofs.Ytnjlcmaelacjkaa.Pure
open Go.RowKit Go.Proofs.Ytnjlcmaelacjkaa.PD2 Go.Proofs.YtnjlcmaelacjkaaW.PrintWords Go.Proofs.YtnjlcmaelacjkaaW.PrintLast Go.Proofs.YtnjlcmaelacjkaaW.PrintMore Go.Proofs.Ytnjlcmaelacjkaa.PD2.HG
def times (l : List S33) : Nat → List S33
  | 0 => []
  | n + 1 => times l n ++ l
theorem times_len (l : List S33) : ∀ n, (times l n).length = n * l.length
  | 0 => by simp [times]
  | n + 1 => by simp only [times, List.length_append, times_len l n]; rw [Nat.succ_mul]
theorem times_mem (l : List S33) : ∀ n x, x ∈ times l n → x ∈ l
  | 0, x, h => by cases h
  | n + 1, x, h => by
    rcases List.mem_append.mp h with h | h
    · exact times_mem l n x h
    · exact h
theorem times_sub (l : List S33) (n : Nat) (h : 1 ≤ n) : ∀ x ∈ l, x ∈ times l n := by
  intro x hx
  obtain ⟨n, rfl⟩ : ∃ m, n = m + 1 := ⟨n - 1, by omega⟩
  exact List.mem_append_right _ hx
theorem times_hull (l : List S33) (n : Nat) (h : 1 ≤ n) (hl : 1 ≤ l.length) (hs : (times l n).length ≤ 2000) : hullRes (times l n) = hullRes l := by
  have hlen := times_len l n
  have h1 : 1 * l.length ≤ n * l.length := Nat.mul_le_mul_right _ h
  have hall : (times l n).all isPt = l.all isPt := by
    rw [Bool.eq_iff_iff, List.all_eq_true, List.all_eq_true]
    exact ⟨fun k x hx => k x (times_sub l n h x hx), fun k x hx => k x (times_mem l n x hx)⟩
  have hok : okPts (times l n) = okPts l := by
    unfold okPts
    rw [hall, decide_eq_true (show 1 ≤ (times l n).length by omega), decide_eq_true (show 1 ≤ l.length by omega), decide_eq_true hs, decide_eq_true (show l.length ≤ 2000 by omega)]
  have hh : hullOf (times l n) = hullOf l := hullOf_same (by intro e; rw [e] at hlen; simp at hlen; omega) (by rintro rfl; simp at hl) (Sup.of_sub (times_mem l n)) (Sup.of_sub (times_sub l n h))
  unfold hullRes
  rw [hok, hh]
theorem limits_done (l : List S33) (hl : 1 ≤ l.length) (hl2 : l.length ≤ 100) (n : Nat) (h1 : 1 ≤ n) (h30 : n ≤ 30) (k : Nat) (hk : 3000 ≤ k) :
    fleuronlaw18_PenLimits.l0 (k + 1) l (times l n) (n : Int) (n : Int) = some true := by
  have hlen := times_len l n
  have hb : n * l.length ≤ 30 * l.length := Nat.mul_le_mul_right _ h30
  simp only [fleuronlaw18_PenLimits.l0]
  rw [if_neg (by omega), progHull_is _ k (by omega)]
  simp only [Option.bind_some]
  by_cases hs : ((times l n).length : Int) > 2000
  · rw [if_pos hs]
    have hok : okPts (times l n) = false := by
      unfold okPts
      rw [decide_eq_false (show ¬ (times l n).length ≤ 2000 by omega)]; simp
    have e : hullRes (times l n) = ([], 2) := by unfold hullRes; rw [hok]; rfl
    rw [e]
    rfl
  · have hr := hullRes_len l
    rw [if_neg hs, times_hull l n h1 hl (by omega), refHull_is l k (by omega)]
    simp only [Option.bind_some]
    rw [same_is _ _ (by omega) _ (by omega)]
    simp [fleuronlaw18_awake.f]
theorem limits_go (l : List S33) (hl : 1 ≤ l.length) (hl2 : l.length ≤ 100) (n : Nat) (h1 : 1 ≤ n) (h30 : n ≤ 30) (d : Nat) : ∀ (k i : Nat), i ≤ n → n - i = d → 3000 + d ≤ k →
    fleuronlaw18_PenLimits.l0 (k + 1) l (times l i) (n : Int) (i : Int) = some true := by
  induction d with
  | zero =>
    intro k i hi hd hk
    obtain rfl : i = n := by omega
    exact limits_done l hl hl2 i h1 h30 k (by omega)
  | succ d ih =>
    intro k i hi hd hk
    have hlen := times_len l i
    have hb : i * l.length ≤ 30 * l.length := Nat.mul_le_mul_right _ (by omega)
    obtain ⟨k, rfl⟩ : ∃ m, k = m + 1 := ⟨k - 1, by omega⟩
    have := ih k (i + 1) (by omega) (by omega) (by omega)
    rw [fleuronlaw18_PenLimits.l0, if_pos (by omega), if_pos (by omega), wrap64_small (by omega) (by omega), show (i : Int) + 1 = ((i + 1 : Nat) : Int) by omega]
    exact this
theorem PenLimits : fleuronlaw18_PenLimits.Pure := by
  intro l t hl ht
  have hl1 := hl.1.1
  have ht' : 0 ≤ t ∧ t ≤ 255 := by
    simp [Lit.wf, show IntKind.u8.min = 0 from rfl, show IntKind.u8.max = 255 from rfl] at ht; omega
  refine ⟨4002, ?_⟩
  unfold fleuronlaw18_PenLimits.f
  rw [few_is 100 (by omega) (by omega) [l] (by simp; omega) (by simp) 4002 (by simp)]
  simp only [Option.bind_some]
  by_cases hf : ((sumLen [l] : Nat) : Int) ≤ 100
  · rw [if_pos (decide_eq_true hf)]
    simp only [sumLen] at hf
    rw [fleuronlaw18_PenLimits.j0]
    by_cases h0 : l.length = 0
    · rw [if_pos (by simp [h0])]; rfl
    · rw [if_neg (by simp; intro h; rw [h] at h0; simp at h0), wrap64_small (n := t) (by omega) (by omega), Int.tmod_eq_emod_of_nonneg (by omega), wrap64_small (by omega) (by omega)]
      have := limits_go l (by omega) (by omega) (1 + t % 30).toNat (by omega) (by omega) (1 + t % 30).toNat 4000 0 (by omega) (by omega) (by omega)
      rw [show (((1 + t % 30).toNat : Nat) : Int) = 1 + t % 30 by omega] at this
      exact this
  · rw [if_neg (by rw [decide_eq_false hf]; simp), fleuronlaw18_PenLimits.j0, if_pos rfl]
    rfl
end Go.Proofs.Ytnjlcmaelacjkaa.Pure

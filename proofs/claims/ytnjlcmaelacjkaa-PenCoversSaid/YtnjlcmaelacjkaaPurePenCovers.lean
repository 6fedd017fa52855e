/-
  PenCovers, its plain law: Sweep and Covers by the code are those by the chapter.
-/
import Derived.Test.YtnjlcmaelacjkaaSaysPenCovers
import Derived.Test.YtnjlcmaelacjkaaLibSweep
import Derived.Test.YtnjlcmaelacjkaaLibRefSwept
import Derived.Test.YtnjlcmaelacjkaaLibRefValid
import Derived.Test.YtnjlcmaelacjkaaLibRefHas
import Derived.Test.YtnjlcmaelacjkaaPD3x19
set_option linter.unusedVariables false
set_option linter.unusedSimpArgs false
namespace Go.Proofs.Ytnjlcmaelacjkaa.Pure
open Go.RowKit Go.Proofs.Ytnjlcmaelacjkaa.PD3 Go.Proofs.YtnjlcmaelacjkaaW.PrintWords Go.Proofs.YtnjlcmaelacjkaaW.PrintLast Go.Proofs.YtnjlcmaelacjkaaW.PrintMore Go.Proofs.Ytnjlcmaelacjkaa.PD3.HG
theorem refSweep_is (l : List S33) (p q : S33) (k : Nat) (hk : 200 ≤ k) : fleuronref18_Sweep.f k l p.f0 p.f1 q.f0 q.f1 = some (sweepRes l p q) := by
  obtain ⟨k, rfl⟩ : ∃ m, k = m + 1 := ⟨k - 1, by omega⟩
  unfold fleuronref18_Sweep.f sweepRes
  rw [refValid_is l _ (by omega), refIn_is, refIn_is]
  cases hv : okPen l with
  | false => rfl
  | true =>
    obtain ⟨h1, h2, h3, h4⟩ := okPen_iff.mp hv
    simp only [Option.bind_some, if_true, Bool.true_and]
    cases hp : isPt p with
    | false => rfl
    | true =>
      cases hq : isPt q with
      | false => rfl
      | true =>
        have hlen := hullOf_len (twice l p q)
        rw [twice_len] at hlen
        simp only [Bool.and_self, if_true, Bool.not_true]
        rw [fleuronref18_Sweep.j0, if_neg (by simp), refSwept_is l p q h1 (by omega) h3 hp hq _ (by omega)]
        simp only [Option.bind_some]
        rw [refAll_is _ (by omega) _ (by omega), hull_pts (twice_ne h1 p q)]
        cases (twice l p q).all isPt <;> rfl
theorem refCovers_is (l : List S33) (p q s : S33) (k : Nat) (hk : 200 ≤ k) : ∃ r, fleuronref18_Covers.f k l p.f0 p.f1 q.f0 q.f1 s.f0 s.f1 = some (if okPen l && (isPt p && (isPt q && isPt s)) then (r, 0) else (false, 2)) ∧ (okPen l = true → isPt p = true → isPt q = true → isPt s = true → (r = true ↔ Sup [s] (twice l p q))) := by
  unfold fleuronref18_Covers.f
  rw [refValid_is l _ (by omega), refAll_is _ (by simp) _ (by simp; omega)]
  cases hv : okPen l with
  | false => exact ⟨false, by simp, by simp⟩
  | true =>
    obtain ⟨h1, h2, h3, h4⟩ := okPen_iff.mp hv
    simp only [Option.bind_some, if_true, List.all_cons, List.all_nil, Bool.and_true, Bool.true_and]
    cases hp : isPt p with
    | false => exact ⟨false, by simp, by simp⟩
    | true =>
      cases hq : isPt q with
      | false => exact ⟨false, by simp, by simp⟩
      | true =>
        cases hs : isPt s with
        | false => exact ⟨false, by simp, by simp⟩
        | true =>
          have hh := hullOf_is (twice_ne h1 p q)
          have hlen := hullOf_len (twice l p q)
          rw [twice_len] at hlen
          obtain ⟨r, hr, hr'⟩ := refHas_is hh.pen (by omega) (hull_big (twice_big h3 hp hq)) s (big_of hs)
          simp only [Bool.and_self, if_true]
          rw [refSwept_is l p q h1 (by omega) h3 hp hq _ (by omega)]
          simp only [Option.bind_some]
          rw [hr]
          exact ⟨r, rfl, fun _ _ _ _ => hr'.trans (sup_hull hh s)⟩
theorem PenCovers : fleuronlaw18_PenCovers.Pure := by
  intro l at_ hl _
  obtain ⟨p, q, s⟩ := at_
  have hl1 := hl.1.1
  refine ⟨1000, ?_⟩
  unfold fleuronlaw18_PenCovers.P
  rw [few_is 70 (by omega) (by omega) [l] (by simp; omega) (by simp) 1000 (by simp)]
  by_cases hf : ((sumLen [l] : Nat) : Int) ≤ 70
  · right
    rw [decide_eq_true hf]
    obtain ⟨r, c1, c2⟩ := covers_is l p q s
    obtain ⟨r', c3, c4⟩ := refCovers_is l p q s 1000 (by omega)
    have hs := sweepRes_len l p q
    refine ⟨rfl, (sweepRes l p q).1, (sweepRes l p q).2, (if okPen l && (isPt p && (isPt q && isPt s)) then (r, 0) else (false, 2)).1, (if okPen l && (isPt p && (isPt q && isPt s)) then (r, (0 : Int)) else (false, 2)).2, sweep_is l p q, refSweep_is l p q _ (by omega), c1, ?_, ?_⟩
    · rw [c3]
      by_cases hc : (okPen l && (isPt p && (isPt q && isPt s))) = true
      · have h := hc
        simp only [Bool.and_eq_true] at h
        have : r' = r := by rw [Bool.eq_iff_iff, c4 h.1 h.2.1 h.2.2.1 h.2.2.2, c2 h.1 h.2.1 h.2.2.1 h.2.2.2]
        rw [if_pos hc, if_pos hc, this]
      · rw [if_neg hc, if_neg hc]
    · rw [same_is _ _ (by omega) _ (by omega), decide_eq_true rfl]
  · left
    rw [decide_eq_false hf]
end Go.Proofs.Ytnjlcmaelacjkaa.Pure

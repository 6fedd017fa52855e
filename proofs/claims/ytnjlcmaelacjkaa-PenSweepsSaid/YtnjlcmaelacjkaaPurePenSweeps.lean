/-
  PenSweeps, its plain law: what is covered from p to q is covered from q to p, is what the hull of Sweep has, and is the same when all is moved; what is covered at an end is covered along the line.
-/
import Derived.Test.YtnjlcmaelacjkaaSaysPenSweeps
import Derived.Test.YtnjlcmaelacjkaaLibSweep
import Derived.Test.YtnjlcmaelacjkaaLibRefHas
import Derived.Test.YtnjlcmaelacjkaaLibRef
import Derived.Test.YtnjlcmaelacjkaaPD3x22
set_option linter.unusedVariables false
set_option linter.unusedSimpArgs false
namespace Go.Proofs.Ytnjlcmaelacjkaa.Pure
open Go.RowKit Go.Proofs.Ytnjlcmaelacjkaa.PD3 Go.Proofs.YtnjlcmaelacjkaaW.PrintWords Go.Proofs.YtnjlcmaelacjkaaW.PrintLast Go.Proofs.YtnjlcmaelacjkaaW.PrintMore Go.Proofs.Ytnjlcmaelacjkaa.PD3.HG
theorem twice_swap (l : List S33) (p q : S33) : Sup (twice l p q) (twice l q p) := Sup.of_sub fun x hx => by
  unfold twice at *
  rcases List.mem_append.mp hx with h | h
  · exact List.mem_append_right _ h
  · exact List.mem_append_left _ h
theorem twice_end (l : List S33) (p q : S33) : Sup (twice l p p) (twice l p q) := Sup.of_sub fun x hx => by
  unfold twice at *
  rcases List.mem_append.mp hx with h | h
  · exact List.mem_append_left _ h
  · exact List.mem_append_left _ h
theorem mv_mv (d p q : S33) : mv (mv d p) q = mv d (mv p q) := by
  apply ptx <;> (unfold mv; simp only; omega)
theorem twice_mv (l : List S33) (d p q : S33) : (twice l p q).map (mv d) = twice l (mv d p) (mv d q) := by
  unfold twice
  rw [List.map_append, List.map_map, List.map_map]
  congr 1 <;> exact List.map_congr_left (fun x _ => (mv_mv _ _ _).symm)
theorem sup_mv {s : S33} {S : List S33} (d : S33) : Sup [s] S ↔ Sup [mv d s] (S.map (mv d)) := by
  constructor
  · intro h; exact h.mv d
  · intro h
    have := h.mv ⟨-d.f0, -d.f1⟩
    rw [List.map_map] at this
    have e : ∀ x, (mv ⟨-d.f0, -d.f1⟩ ∘ mv d) x = x := fun x => by apply ptx <;> (simp only [Function.comp, mv]; omega)
    rw [show (S.map (mv ⟨-d.f0, -d.f1⟩ ∘ mv d)) = S by rw [List.map_congr_left (fun x _ => e x)]; exact List.map_id' S] at this
    rw [show [mv d s].map (mv ⟨-d.f0, -d.f1⟩) = [s] by rw [List.map_cons, List.map_nil]; exact congrArg (fun x => [x]) (e s)] at this
    exact this
theorem moved_is {x d : S33} (hx : isPt x = true) (hd : isPt d = true) : (⟨wrap64 (x.f0 + d.f0), wrap64 (x.f1 + d.f1)⟩ : S33) = mv d x := by
  have := isPt_iff.mp hx; have := isPt_iff.mp hd
  unfold mv
  rw [wrap64_small (by omega) (by omega), wrap64_small (by omega) (by omega)]
theorem PenSweeps : fleuronlaw18_PenSweeps.Pure := by
  intro l at_ d hl _ _
  obtain ⟨p, q, s⟩ := at_
  have hl1 := hl.1.1
  refine ⟨1000, ?_⟩
  unfold fleuronlaw18_PenSweeps.P
  rw [few_is 70 (by omega) (by omega) [l] (by simp; omega) (by simp) 1000 (by simp)]
  by_cases hf : ((sumLen [l] : Nat) : Int) ≤ 70
  case neg => left; rw [decide_eq_false hf]
  right
  rw [decide_eq_true hf]
  refine ⟨rfl, ?_⟩
  obtain ⟨r, c1, c2⟩ := covers_is l p q s
  by_cases hc : (okPen l && (isPt p && (isPt q && isPt s))) = true
  case neg => rw [if_neg hc] at c1; exact ⟨false, 2, c1, .inl ⟨rfl, rfl⟩⟩
  rw [if_pos hc] at c1
  simp only [Bool.and_eq_true] at hc
  obtain ⟨hk, hp, hq, hs⟩ := hc
  have c2 := c2 hk hp hq hs
  obtain ⟨r1, c3, c4⟩ := covers_is l q p s
  obtain ⟨r2, c5, c6⟩ := covers_is l p p s
  rw [hk, hp, hq, hs] at c3
  rw [hk, hp, hs] at c5
  have c4 := c4 hk hq hp hs
  have c6 := c6 hk hp hp hs
  have e1 : r1 = r := by rw [Bool.eq_iff_iff, c4, c2]; exact ⟨fun h => h.trans (twice_swap l q p), fun h => h.trans (twice_swap l p q)⟩
  have h21 : r2 = true → r = true := fun h => c2.mpr ((c6.mp h).trans (twice_end l p q))
  simp only [Bool.and_self, if_true] at c3 c5
  rw [e1] at c3
  obtain ⟨k1, k2, k3, k4⟩ := okPen_iff.mp hk
  have hh := hullOf_is (twice_ne k1 p q)
  refine ⟨r, 0, c1, .inr ⟨rfl, c3, r2, c5, h21, (sweepRes l p q).1, (sweepRes l p q).2, sweep_is l p q, ?_, ?_⟩⟩
  · unfold sweepRes
    rw [hk, hp, hq]
    simp only [Bool.and_self, if_true]
    cases hall : (twice l p q).all isPt with
    | false => right; rfl
    | true =>
      left
      refine ⟨rfl, ?_⟩
      rw [if_pos rfl]
      have hlen := hullOf_len (twice l p q)
      rw [twice_len] at hlen
      obtain ⟨r3, c7, c8⟩ := refHas_is hh.pen (by omega) (hull_big (twice_big k3 hp hq)) s (big_of hs)
      have : r3 = r := by rw [Bool.eq_iff_iff, c8, c2]; exact sup_hull hh s
      rw [this] at c7
      exact c7
  · rw [refIn_is]
    cases hd : isPt d with
    | false => left; rfl
    | true =>
      right
      refine ⟨rfl, ?_⟩
      simp only
      rw [moved_is hp hd, moved_is hq hd, moved_is hs hd, refAll_is _ (by simp) _ (by simp)]
      simp only [List.all_cons, List.all_nil, Bool.and_true]
      by_cases hm : (isPt (mv d p) && (isPt (mv d q) && isPt (mv d s))) = true
      case neg => left; simp only [Bool.not_eq_true] at hm; rw [hm]
      right
      refine ⟨by rw [hm], ?_⟩
      simp only [Bool.and_eq_true] at hm
      obtain ⟨hp', hq', hs'⟩ := hm
      obtain ⟨r4, c7, c8⟩ := covers_is l (mv d p) (mv d q) (mv d s)
      rw [hk, hp', hq', hs'] at c7
      simp only [Bool.and_self, if_true] at c7
      have : r4 = r := by rw [Bool.eq_iff_iff, c8 hk hp' hq' hs', c2, ← twice_mv]; exact (sup_mv d).symm
      rw [this] at c7
      have e0 : ∀ x : S33, isPt x = true → wrap64 (x.f0 + d.f0) = (mv d x).f0 ∧ wrap64 (x.f1 + d.f1) = (mv d x).f1 := fun x hx => by
        have := moved_is hx hd
        exact ⟨congrArg S33.f0 this, congrArg S33.f1 this⟩
      rw [(e0 p hp).1, (e0 p hp).2, (e0 q hq).1, (e0 q hq).2, (e0 s hs).1, (e0 s hs).2]
      exact c7
end Go.Proofs.Ytnjlcmaelacjkaa.Pure

/-
  WindCounts, its plain law: the numbers and the heights by the code are those by the chapter.
-/
import Derived.Test.YtdhgekogaoiidaaSaysWindCounts
import Derived.Test.YtdhgekogaoiidaaLibC
import Derived.Test.YtdhgekogaoiidaaLibE
set_option linter.unusedVariables false
set_option linter.unusedSimpArgs false
namespace Go.Proofs.Ytdhgekogaoiidaa.Pure
open Go.RowKit Go.Proofs.Ytdhgekogaoiidaa.PT2 Go.Proofs.YtdhgekogaoiidaaW.PrintWords Go.Proofs.YtdhgekogaoiidaaW.PrintLast Go.Proofs.YtdhgekogaoiidaaW.PrintMore
theorem counts_awake : fleuronlaw17_awake.f = some true := rfl
theorem counts_loop (l : List S24) (xs : List Int) (hl : l.length ≤ 1000) (hx : xs.length ≤ 1000) (d : Nat) : ∀ (k i : Nat), i ≤ xs.length → xs.length - i = d → d + 2000 < k → fleuronlaw17_WindCounts.l0 k l l xs xs (xs.length : Int) (i : Int) = some true := by
  induction d with
  | zero =>
    intro k i hi hd hk
    obtain ⟨k, rfl⟩ : ∃ m, k = m + 1 := ⟨k - 1, by omega⟩
    simp only [fleuronlaw17_WindCounts.l0]
    rw [if_neg (by omega), same_is l (by omega) k (by omega)]
    rfl
  | succ d ih =>
    intro k i hi hd hk
    obtain ⟨k, rfl⟩ : ∃ m, k = m + 1 := ⟨k - 1, by omega⟩
    simp only [fleuronlaw17_WindCounts.l0]
    rw [if_pos (by omega), if_pos (by omega), if_pos (by omega), if_pos (by omega), if_pos trivial, wrap64_small (n := (i : Int) + 1) (by omega) (by omega), show (i : Int) + 1 = ((i + 1 : Nat) : Int) by omega]
    exact ih k (i + 1) (by omega) (by omega) (by omega)
theorem WindCounts : fleuronlaw17_WindCounts.Pure := by
  intro l p hl _
  have hl1 := hl.1.1
  obtain ⟨b, hb, hf⟩ := few_is [l] (by simp; omega) (by simp) 500000 (by simp)
  refine ⟨500000, ?_⟩
  unfold fleuronlaw17_WindCounts.f
  rw [hb]
  simp only [Option.bind_some]
  cases b with
  | false => rfl
  | true =>
    have hs := hf rfl
    simp [sumLen] at hs
    have hh := heightsB_len l p
    rw [if_pos rfl, copied_is l (by omega)]
    simp only [Option.bind_some]
    rw [winding_is l p (by omega), refWinding_is l p (by omega) _ (by omega)]
    simp only [Option.bind_some, if_true, bne_self_eq_false, fleuronlaw17_WindCounts.j0, Bool.false_eq_true, if_false]
    rw [crossings_is l p (by omega), refCrossings_is l p (by omega) _ (by omega)]
    simp only [Option.bind_some, if_true, bne_self_eq_false, fleuronlaw17_WindCounts.j1, Bool.false_eq_true, if_false]
    rw [left_is l p (by omega), refLeft_is l p (by omega) _ (by omega)]
    simp only [Option.bind_some, if_true, bne_self_eq_false, fleuronlaw17_WindCounts.j2, Bool.false_eq_true, if_false]
    rw [through_is l p (by omega), refThrough_is l p (by omega) _ (by omega)]
    simp only [Option.bind_some, if_true, bne_self_eq_false, fleuronlaw17_WindCounts.j3, Bool.false_eq_true, if_false]
    rw [heights_is l p (by omega), refHeights_is l p (by omega) _ (by omega)]
    simp only [Option.bind_some, if_true, bne_self_eq_false, fleuronlaw17_WindCounts.j4, Bool.false_eq_true, if_false]
    exact counts_loop l (heightsB l p).1 (by omega) (by omega) _ _ 0 (by omega) rfl (by omega)
end Go.Proofs.Ytdhgekogaoiidaa.Pure

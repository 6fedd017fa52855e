/-
  PenSums, its plain law: Sum, Turn, Grow, Box, Touch by the code are those by the chapter.
-/
import Derived.Test.YtnjlcmaelacjkaaSaysPenSums
import Derived.Test.YtnjlcmaelacjkaaLibRefSum
import Derived.Test.YtnjlcmaelacjkaaLibRefTurn
import Derived.Test.YtnjlcmaelacjkaaLibRefGrow
import Derived.Test.YtnjlcmaelacjkaaLibTouch
import Derived.Test.YtnjlcmaelacjkaaPD3x26
import Derived.Test.YtnjlcmaelacjkaaPD3x27
set_option linter.unusedVariables false
set_option linter.unusedSimpArgs false
namespace Go.Proofs.Ytnjlcmaelacjkaa.Pure
open Go.RowKit Go.Proofs.Ytnjlcmaelacjkaa.PD3 Go.Proofs.YtnjlcmaelacjkaaW.PrintWords Go.Proofs.YtnjlcmaelacjkaaW.PrintLast Go.Proofs.YtnjlcmaelacjkaaW.PrintMore Go.Proofs.Ytnjlcmaelacjkaa.PD3.HG
theorem refTouch_go (l : List S33) (d : S33) (hl : l.length ≤ 1000000) (m : Nat) : ∀ (k i : Nat), i < l.length → l.length - 1 - i = m → m < k →
    fleuronref18_Touch.l0 k l (l.length : Int) ((i + 1 : Nat) : Int) d.f0 d.f1 (pickAt (farT d) l i).f0 (pickAt (farT d) l i).f1 = some ((touchP l d).f0, (touchP l d).f1, 0) := by
  induction m with
  | zero =>
    intro k i hi hd hk
    obtain ⟨k, rfl⟩ : ∃ m, k = m + 1 := ⟨k - 1, by omega⟩
    simp only [fleuronref18_Touch.l0]
    rw [if_neg (by omega), show i = l.length - 1 by omega]
    rfl
  | succ m ih =>
    intro k i hi hd hk
    obtain ⟨k, rfl⟩ : ∃ m, k = m + 1 := ⟨k - 1, by omega⟩
    simp only [fleuronref18_Touch.l0]
    rw [if_pos (by omega), if_pos (by omega), if_pos (by omega), wrap64_small (n := ((i + 1 : Nat) : Int) + 1) (by omega) (by omega), show ((i + 1 : Nat) : Int) + 1 = ((i + 1 + 1 : Nat) : Int) by omega]
    have := ih k (i + 1) (by omega) (by omega) (by omega)
    by_cases hc : farT d (rd_T33 l ((i + 1 : Nat) : Int)) (pickAt (farT d) l i) = true
    · rw [pickAt, if_pos hc] at this
      refine Eq.trans (if_pos ?_) this; exact farT_iff.mp hc
    · rw [pickAt, if_neg hc] at this
      refine Eq.trans (if_neg ?_) this; exact fun h => hc (farT_iff.mpr h)
theorem refTouch_is (a : List S33) (d : S33) (k : Nat) (hk : 200 ≤ k) : fleuronref18_Touch.f k a d.f0 d.f1 = some (touchRes a d) := by
  obtain ⟨k, rfl⟩ : ∃ m, k = m + 1 + 1 := ⟨k - 2, by omega⟩
  unfold fleuronref18_Touch.f touchRes
  rw [refValid_is _ _ (by omega), refIn_is]
  cases ha : okPen a with
  | false => rfl
  | true =>
    obtain ⟨a1, a2, a3, a4⟩ := okPen_iff.mp ha
    cases hd : isPt d with
    | false => rfl
    | true =>
      simp only [Option.bind_some, if_true, Bool.and_self, Bool.not_true, fleuronref18_Touch.j0, Bool.false_eq_true, if_false]
      rw [if_pos (by omega), fleuronref18_Touch.l0, if_pos (by omega), if_pos (by omega), if_pos (by omega), if_neg (Int.lt_irrefl _), show wrap64 (0 + 1) = ((0 + 1 : Nat) : Int) by unfold wrap64; omega]
      exact refTouch_go a d (by omega) (a.length - 1) k 0 (by omega) (by omega) (by omega)
def boxRes (a : List S33) : (Int × Int × Int × Int) × Int := if okPen a then (bndAt a a.length, 0) else ((0, 0, 0, 0), 2)
theorem box_is (a : List S33) : pen_Box.f a = some (boxRes a) ∧ fleuronref18_Box.f a = some (boxRes a) := by
  unfold pen_Box.f fleuronref18_Box.f boxRes
  rw [valid_is, refValid_at _ _ (fun _ => by omega)]
  cases ha : okPen a with
  | false => exact ⟨rfl, rfl⟩
  | true =>
    obtain ⟨a1, a2, a3, a4⟩ := okPen_iff.mp ha
    simp only [Option.bind_some, if_true, flat_Bounds.f, fleuronref16_Bounds.f]
    rw [if_pos (by omega)]
    exact ⟨rfl, rfl⟩
theorem sameS (l : List S33) (k : Nat) (hl : l.length < k) (hk : k ≤ 1000000) : fleuronref16_Same.f k l l = some true := by
  rw [same_is l l (by omega) k hl, decide_eq_true rfl]
theorem sumRes_len (a b : List S33) : (sumRes a b).1.length ≤ 64 := by
  unfold sumRes
  (repeat' split) <;> simp <;> omega
theorem turnRes_len (a : List S33) : (turnRes a).1.length ≤ 64 := by
  unfold turnRes
  cases ha : okPen a with
  | false => simp
  | true =>
    obtain ⟨a1, a2, a3, a4⟩ := okPen_iff.mp ha
    have := hullOf_len (a.map ng)
    rw [List.length_map] at this
    simp; omega
theorem growRes_len (a : List S33) (n : Int) : (growRes a n).1.length ≤ 64 := by
  unfold growRes
  cases ha : okPen a with
  | false => simp
  | true =>
    obtain ⟨a1, a2, a3, a4⟩ := okPen_iff.mp ha
    have := hullOf_len (a.map (gr n))
    rw [List.length_map] at this
    (repeat' split) <;> simp <;> omega
theorem copied_is (l : List S33) (hl : l.length ≤ 1000000) : fleuronlaw18_copied.f l = some l := by
  unfold fleuronlaw18_copied.f
  simp only [Option.bind_some, List.length_nil, List.nil_append]
  rw [if_pos (by omega)]
theorem PenSums : fleuronlaw18_PenSums.Pure := by
  intro a b c ha hb _
  have ha1 := ha.1.1
  have hb1 := hb.1.1
  refine ⟨20000, ?_⟩
  unfold fleuronlaw18_PenSums.P
  rw [few_is 130 (by omega) (by omega) [a, b] (by simp; omega) (by simp) 20000 (by simp)]
  by_cases hf : ((sumLen [a, b] : Nat) : Int) ≤ 130
  case neg => left; rw [decide_eq_false hf]
  right
  refine ⟨by rw [decide_eq_true hf], ?_⟩
  simp only [sumLen] at hf
  refine ⟨copied_is a (by omega), (sumRes a b).1, (sumRes a b).2, (turnRes a).1, (turnRes a).2, (growRes a c.f0).1, (growRes a c.f0).2, (boxRes a).1, (boxRes a).2, (touchRes a c.f1).1, (touchRes a c.f1).2.1, (touchRes a c.f1).2.2, sum_is a b _ (by omega), refSum_is a b _ (by omega), turn_is a, refTurn_is a _ (by omega), grow_is a _ _ (by omega), refGrow_is a _ _ (by omega), (box_is a).1, (box_is a).2, touch_is a c.f1, refTouch_is a c.f1 _ (by omega), sameS _ _ (Nat.lt_of_le_of_lt (sumRes_len a b) (by omega)) (by omega), sameS _ _ (Nat.lt_of_le_of_lt (turnRes_len a) (by omega)) (by omega), sameS _ _ (Nat.lt_of_le_of_lt (growRes_len a c.f0) (by omega)) (by omega), sameS _ _ (by omega) (by omega)⟩
end Go.Proofs.Ytnjlcmaelacjkaa.Pure

/-
  Plain laws: Reverse, Shift, Start and Convex of the chapter.
-/
import Derived.Test.YtdhgekogaoiidaaLibH
import Derived.Test.YtdhgekogaoiidaaLibN
import Derived.Test.YtdhgekogaoiidaaPT2x10
import Derived.Test.YtdhgekogaoiidaaPT2x15
import Derived.Test.YtdhgekogaoiidaaPT2x24
import Derived.Test.YtdhgekogaoiidaaPT2x25
set_option linter.unusedVariables false
set_option linter.unusedSimpArgs false
namespace Go.Proofs.Ytdhgekogaoiidaa.PT2
open Go.RowKit Go.Proofs.YtdhgekogaoiidaaW.PrintWords Go.Proofs.YtdhgekogaoiidaaW.PrintLast Go.Proofs.YtdhgekogaoiidaaW.PrintMore Go.Proofs.Ytdhgekogaoiidaa.Geo
theorem rev_take (l : List S24) (i : Nat) (h : i < l.length) : l.reverse.take (i + 1) = l.reverse.take i ++ [rd_T24 l ((l.length - 1 - i : Nat) : Int)] := by
  rw [List.take_add_one, List.getElem?_eq_getElem (by simpa using h), List.getElem_reverse, rd_get l _ (by omega)]
  rfl
theorem refReverse_from (l : List S24) (hl : l.length ≤ 1000000) (d : Nat) : ∀ (k i : Nat), i ≤ l.length → l.length - i = d → d < k → fleuronref17_Reverse.l0 k l (l.reverse.take i) (l.length : Int) (i : Int) = some (l.reverse, 0) := by
  induction d with
  | zero =>
    intro k i hi hd hk
    obtain ⟨k, rfl⟩ : ∃ m, k = m + 1 := ⟨k - 1, by omega⟩
    simp only [fleuronref17_Reverse.l0]
    rw [if_neg (by omega), List.take_of_length_le (by simp; omega)]
  | succ d ih =>
    intro k i hi hd hk
    obtain ⟨k, rfl⟩ : ∃ m, k = m + 1 := ⟨k - 1, by omega⟩
    have e : wrap64 (wrap64 ((l.length : Int) - 1) - (i : Int)) = ((l.length - 1 - i : Nat) : Int) := by
      rw [wrap64_small (n := (l.length : Int) - 1) (by omega) (by omega), wrap64_small (by omega) (by omega)]
      omega
    simp only [fleuronref17_Reverse.l0]
    rw [if_pos (by omega), e, if_pos (by omega), if_pos (by omega), if_pos (by simp; omega), wrap64_small (n := (i : Int) + 1) (by omega) (by omega), show (i : Int) + 1 = ((i + 1 : Nat) : Int) by omega]
    have := ih k (i + 1) (by omega) (by omega) (by omega)
    rw [rev_take l i (by omega)] at this
    exact this
theorem refReverse_is (l : List S24) (hl : l.length ≤ 9223372036854775806) (k : Nat) (hk : l.length < k) : fleuronref17_Reverse.f k l = some (if okPoly l then (l.reverse, 0) else ([], 2)) := by
  unfold fleuronref17_Reverse.f
  rw [refValid_is l hl k hk]
  simp only [Option.bind_some]
  cases h : okPoly l with
  | false => simp
  | true =>
    have hf := okPoly_facts h
    rw [if_pos rfl, if_pos rfl]
    exact refReverse_from l (by omega) l.length k 0 (by omega) (by omega) hk
theorem refShift_from (l : List S24) (q : S24) (hl : l.length ≤ 1000000) (hal : ∀ x ∈ l, isPt x = true) (hq : isPt q = true) (d : Nat) : ∀ (k i : Nat), i ≤ l.length → l.length - i = d → d + l.length + 1 < k →
    fleuronref17_Shift.l0 k ((l.take i).map (movP q)) l (l.length : Int) (i : Int) q.f0 q.f1 = some (if (l.map (movP q)).all isPt then (l.map (movP q), 0) else ([], 17)) := by
  induction d with
  | zero =>
    intro k i hi hd hk
    obtain ⟨k, rfl⟩ : ∃ m, k = m + 1 := ⟨k - 1, by omega⟩
    simp only [fleuronref17_Shift.l0]
    rw [if_neg (by omega), List.take_of_length_le (by omega), refAll_is _ (by simp; omega) k (by simp; omega)]
    simp only [Option.bind_some]
    cases (l.map (movP q)).all isPt <;> simp
  | succ d ih =>
    intro k i hi hd hk
    obtain ⟨k, rfl⟩ : ∃ m, k = m + 1 := ⟨k - 1, by omega⟩
    have bx := isPt_bounds (hal _ (rd_mem l i (by omega)))
    have bq := isPt_bounds hq
    simp only [fleuronref17_Shift.l0]
    rw [if_pos (by omega), if_pos (by omega), if_pos (by omega), if_pos (by simp; omega), wrap64_small (n := _ + q.f0) (by omega) (by omega), wrap64_small (n := _ + q.f1) (by omega) (by omega), wrap64_small (n := (i : Int) + 1) (by omega) (by omega), show (i : Int) + 1 = ((i + 1 : Nat) : Int) by omega]
    have := ih k (i + 1) (by omega) (by omega) (by omega)
    rw [List.take_add_one, List.getElem?_eq_getElem (show i < l.length by omega), ← rd_get l i (by omega)] at this
    simp only [Option.toList_some, List.map_append, List.map_cons, List.map_nil] at this
    exact this
theorem refShift_is (l : List S24) (q : S24) (hl : l.length ≤ 9223372036854775806) (k : Nat) (hk : 2 * l.length + 3 < k) : fleuronref17_Shift.f k l q.f0 q.f1 = some (if okPoly l && isPt q then (if (l.map (movP q)).all isPt then (l.map (movP q), 0) else ([], 17)) else ([], 2)) := by
  obtain ⟨k, rfl⟩ : ∃ m, k = m + 1 := ⟨k - 1, by omega⟩
  unfold fleuronref17_Shift.f
  rw [refValid_is l hl (k + 1) (by omega), refIn_is]
  simp only [Option.bind_some, fleuronref17_Shift.j0]
  cases h : okPoly l with
  | false => simp
  | true =>
    cases hq : isPt q with
    | false => simp
    | true =>
      have hf := okPoly_facts h
      have := refShift_from l q (by omega) hf.2.2 hq l.length k 0 (by omega) (by omega) (by omega)
      simp only [List.take_zero, List.map_nil, Int.natCast_zero] at this
      rw [if_pos rfl]
      simp only [Bool.not_true, Bool.false_eq_true, if_false, Bool.and_self, if_true]
      exact this
theorem refStart_is (l : List S24) (i : Int) (hl : l.length ≤ 9223372036854775806) (k : Nat) (hk : l.length < k) : fleuronref17_Start.f k l i = wind_Start.f l i := by
  by_cases h : okPoly l = true ∧ 0 ≤ i ∧ i < l.length
  · obtain ⟨h1, h2, h3⟩ := h
    have hf := okPoly_facts h1
    obtain ⟨j, rfl⟩ : ∃ j : Nat, i = (j : Int) := ⟨i.toNat, by omega⟩
    rw [start_is l j h1 (by omega)]
    unfold fleuronref17_Start.f
    rw [refValid_is l hl k hk, h1]
    simp only [Option.bind_some, if_true]
    rw [if_neg (by omega), if_neg (by omega), if_pos (by omega), if_pos (by omega)]
    simp only [List.length_nil, Nat.zero_add, List.nil_append, Int.toNat_natCast]
    rw [if_pos (by simp; omega), if_pos (by simp; omega)]
  · have hb : okPoly l = false ∨ i < 0 ∨ (l.length : Int) ≤ i := by
      cases h1 : okPoly l with
      | false => exact Or.inl rfl
      | true => right; rw [h1] at h; simp at h; omega
    rw [start_bad l i (by omega) hb]
    unfold fleuronref17_Start.f
    rw [refValid_is l hl k hk]
    simp only [Option.bind_some]
    cases h1 : okPoly l with
    | false => simp
    | true =>
      rw [if_pos rfl]
      by_cases h2 : i < 0
      · rw [if_pos h2]
      · rw [if_neg h2, if_pos (by rw [h1] at hb; simp at hb; omega)]
/-! ### Convex of the chapter -/
section
variable (l : List S24) (hl : l.length ≤ 1000) (hal : ∀ x ∈ l, isPt x = true)
include hl hal
/-- What the chapter asks of an edge and a point. -/
def Ask (l : List S24) (i k : Nat) : Prop := k ≠ i → k ≠ (i + 1) % l.length → 0 < side (PX l) (PY l) i k
theorem inner_step (k i q : Nat) (hi : i < l.length) (hq : q < l.length) : fleuronref17_Convex.l1 (k + 1) l (i : Int) l (l.length : Int) (i : Int) l (l.length : Int) (q : Int) (rd_T24 l (i : Int)).f0 (rd_T24 l (i : Int)).f1 (nxt l i).f0 (nxt l i).f1 = fleuronref17_Convex.l1 k l (i : Int) l (l.length : Int) (i : Int) l (l.length : Int) ((q + 1 : Nat) : Int) (rd_T24 l (i : Int)).f0 (rd_T24 l (i : Int)).f1 (nxt l i).f0 (nxt l i).f1 ∧ Ask l i q ∨
    fleuronref17_Convex.l1 (k + 1) l (i : Int) l (l.length : Int) (i : Int) l (l.length : Int) (q : Int) (rd_T24 l (i : Int)).f0 (rd_T24 l (i : Int)).f1 (nxt l i).f0 (nxt l i).f1 = some (false, 0) ∧ ¬ Ask l i q := by
  have hw : wrap64 ((q : Int) + 1) = ((q + 1 : Nat) : Int) := by rw [wrap64_small (by omega) (by omega)]; omega
  have ht : Int.tmod (wrap64 ((i : Int) + 1)) (l.length : Int) = (((i + 1) % l.length : Nat) : Int) := by
    rw [wrap64_small (by omega) (by omega), Int.tmod_eq_emod_of_nonneg (by omega)]
    simp
  have a := hal _ (rd_mem l i hi)
  have b := hal _ (nxt_mem l i hi)
  have c := hal _ (rd_mem l q hq)
  have hturn := refTurn_is _ _ _ a b c
  have hcs : crossB (rd_T24 l (i : Int)) (nxt l i) (rd_T24 l (q : Int)) = side (PX l) (PY l) i q := by
    rw [← cross_side, PP_lt l i hi, PP_nxt l i hi, PP_lt l q hq]
  rw [hcs] at hturn
  simp only [fleuronref17_Convex.l1]
  rw [if_pos (by omega), if_pos (by omega), if_pos (by omega), hw, ht]
  by_cases h1 : (q : Int) = (i : Int)
  · left
    rw [if_pos h1]
    exact ⟨rfl, fun hne => absurd (by omega) hne⟩
  · rw [if_neg h1, if_neg (by omega)]
    by_cases h2 : (q : Int) = (((i + 1) % l.length : Nat) : Int)
    · left
      rw [if_pos h2]
      exact ⟨rfl, fun _ hne => absurd (by omega) hne⟩
    · rw [if_neg h2, hturn]
      simp only [Option.bind_some]
      by_cases h3 : 0 < side (PX l) (PY l) i q
      · left
        rw [if_pos (by unfold sgnB; rw [if_neg (by omega), if_pos h3])]
        exact ⟨rfl, fun _ _ => h3⟩
      · right
        rw [if_neg (by unfold sgnB; split <;> (try split) <;> omega)]
        exact ⟨rfl, fun h => h3 (h (by omega) (by omega))⟩
theorem inner_all (i : Nat) (hi : i < l.length) (d : Nat) : ∀ (k q : Nat), q ≤ l.length → l.length - q = d → d < k →
    (fleuronref17_Convex.l1 k l (i : Int) l (l.length : Int) (i : Int) l (l.length : Int) (q : Int) (rd_T24 l (i : Int)).f0 (rd_T24 l (i : Int)).f1 (nxt l i).f0 (nxt l i).f1 = fleuronref17_Convex.l0 (k - d - 1) l l (l.length : Int) ((i + 1 : Nat) : Int) ∧ (∀ r, q ≤ r → r < l.length → Ask l i r)) ∨
    (fleuronref17_Convex.l1 k l (i : Int) l (l.length : Int) (i : Int) l (l.length : Int) (q : Int) (rd_T24 l (i : Int)).f0 (rd_T24 l (i : Int)).f1 (nxt l i).f0 (nxt l i).f1 = some (false, 0) ∧ ∃ r, r < l.length ∧ ¬ Ask l i r) := by
  induction d with
  | zero =>
    intro k q hq hd hk
    obtain ⟨k, rfl⟩ : ∃ m, k = m + 1 := ⟨k - 1, by omega⟩
    left
    refine ⟨?_, fun r h1 h2 => by omega⟩
    simp only [fleuronref17_Convex.l1]
    rw [if_neg (by omega), wrap64_small (by omega) (by omega), show (i : Int) + 1 = ((i + 1 : Nat) : Int) by omega]
    rfl
  | succ d ih =>
    intro k q hq hd hk
    obtain ⟨k, rfl⟩ : ∃ m, k = m + 1 := ⟨k - 1, by omega⟩
    rcases inner_step l hl hal k i q hi (by omega) with ⟨h1, h2⟩ | ⟨h1, h2⟩
    · rw [h1]
      rcases ih k (q + 1) (by omega) (by omega) (by omega) with ⟨g1, g2⟩ | ⟨g1, g2⟩
      · left
        rw [g1]
        refine ⟨by rw [show k + 1 - (d + 1) - 1 = k - d - 1 by omega], fun r r1 r2 => ?_⟩
        rcases Nat.eq_or_lt_of_le r1 with rfl | h
        · exact h2
        · exact g2 r h r2
      · exact Or.inr ⟨g1, g2⟩
    · exact Or.inr ⟨h1, q, by omega, h2⟩
theorem outer_all (d : Nat) : ∀ (k i : Nat), i ≤ l.length → l.length - i = d → d * (l.length + 2) < k →
    ∃ b, fleuronref17_Convex.l0 k l l (l.length : Int) (i : Int) = some (b, 0) ∧ (b = true ↔ ∀ j, i ≤ j → j < l.length → ∀ r, r < l.length → Ask l j r) := by
  induction d with
  | zero =>
    intro k i hi hd hk
    obtain ⟨k, rfl⟩ : ∃ m, k = m + 1 := ⟨k - 1, by omega⟩
    refine ⟨true, ?_, by simp; intro j h1 h2; omega⟩
    simp only [fleuronref17_Convex.l0]
    rw [if_neg (by omega)]
  | succ d ih =>
    intro k i hi hd hk
    obtain ⟨k, rfl⟩ : ∃ m, k = m + 1 := ⟨k - 1, by omega⟩
    rw [Nat.succ_mul] at hk
    have hi' : i < l.length := by omega
    have e : fleuronref17_Convex.l0 (k + 1) l l (l.length : Int) (i : Int) = fleuronref17_Convex.l1 k l (i : Int) l (l.length : Int) (i : Int) l (l.length : Int) ((0 : Nat) : Int) (rd_T24 l (i : Int)).f0 (rd_T24 l (i : Int)).f1 (nxt l i).f0 (nxt l i).f1 := by
      simp only [fleuronref17_Convex.l0]
      rw [if_pos (by omega), if_pos (by omega), if_pos (by omega), next_is l i hi' (by omega)]
      rfl
    rw [e]
    rcases inner_all l hl hal i hi' l.length k 0 (by omega) (by omega) (by omega) with ⟨h1, h2⟩ | ⟨h1, r, hr, h2⟩
    · obtain ⟨b, hb, hb'⟩ := ih (k - l.length - 1) (i + 1) (by omega) (by omega) (by omega)
      refine ⟨b, h1.trans hb, ?_⟩
      rw [hb']
      constructor
      · intro h j j1 j2 r hr
        rcases Nat.eq_or_lt_of_le j1 with rfl | h3
        · exact h2 r (by omega) hr
        · exact h j h3 j2 r hr
      · intro h j j1 j2
        exact h j (by omega) j2
    · exact ⟨false, h1, ⟨fun h => absurd h (by simp), fun h => absurd (h i (Nat.le_refl _) hi' r hr) h2⟩⟩
/-- What Convex comes to. -/
def ConvAll (l : List S24) (b : Bool) : Prop := (l.length = 1 → b = true) ∧ (l.length = 2 → b = (!((rd_T24 l 0).f0 == (rd_T24 l 1).f0) || !((rd_T24 l 0).f1 == (rd_T24 l 1).f1))) ∧ (3 ≤ l.length → (b = true ↔ Conv l))
end
theorem ask_conv (l : List S24) (hl : l.length ≤ 1000) (hn : 3 ≤ l.length) : (∀ j, 0 ≤ j → j < l.length → ∀ r, r < l.length → Ask l j r) ↔ Conv l := by
  have hp := side_per (closedP l)
  constructor
  · intro h i k hk hk'
    have e1 : side (PX l) (PY l) i k = side (PX l) (PY l) (i % l.length) k := mod_per (fun i => side (PX l) (PY l) i k) l.length (fun j => (hp j k).2) i
    have e2 : side (PX l) (PY l) (i % l.length) k = side (PX l) (PY l) (i % l.length) (k % l.length) := mod_per (fun k => side (PX l) (PY l) (i % l.length) k) l.length (fun j => (hp _ j).1) k
    rw [e1, e2]
    have m1 := Nat.mod_lt i (show 0 < l.length by omega)
    have m2 := Nat.mod_lt k (show 0 < l.length by omega)
    have q : ∀ a b, a ≤ b → b < a + l.length → a % l.length = b % l.length → a = b := by
      intro a b h1 h2 h3
      have := Nat.sub_mod_eq_zero_of_mod_eq h3.symm
      rw [Nat.mod_eq_of_lt (show b - a < l.length by omega)] at this
      omega
    refine h _ (Nat.zero_le _) m1 _ m2 (fun e => ?_) (fun e => ?_)
    · have := q i k (by omega) hk' e.symm; omega
    · rw [Nat.mod_add_mod] at e
      have := q (i + 1) k (by omega) (by omega) e.symm; omega
  · intro h j _ hj r hr h1 h2
    rcases Nat.lt_or_ge j r with hlt | hge
    · refine h j r ?_ (by omega)
      rw [Nat.mod_eq_of_lt (by omega)] at h2
      omega
    · have := h j (r + l.length) ?_ (by omega)
      · rwa [(hp j r).1] at this
      · rcases Nat.lt_or_ge (j + 1) l.length with h3 | h3
        · omega
        · have : j + 1 = l.length := by omega
          rw [this, Nat.mod_self] at h2
          omega
theorem convAll_one {l : List S24} {b c : Bool} (h1 : 1 ≤ l.length) (hb : ConvAll l b) (hc : ConvAll l c) : b = c := by
  rcases Nat.lt_or_ge l.length 3 with h | h
  · rcases (show l.length = 1 ∨ l.length = 2 by omega) with h2 | h2
    · rw [hb.1 h2, hc.1 h2]
    · rw [hb.2.1 h2, hc.2.1 h2]
  · exact Bool.eq_iff_iff.mpr ((hb.2.2 h).trans (hc.2.2 h).symm)
theorem convex_is (l : List S24) (hl : l.length ≤ 1000) (k : Nat) (hk : 2000000 < k) : ∃ b, wind_Convex.f k l = some (if okPoly l then (b, 0) else (false, 2)) ∧ (okPoly l = true → ConvAll l b) := by
  unfold wind_Convex.f
  rw [valid_is l (by omega)]
  simp only [Option.bind_some]
  cases h : okPoly l with
  | false => exact ⟨false, by simp, fun h => by simp at h⟩
  | true =>
    have hf := okPoly_facts h
    simp only [if_true]
    by_cases h3 : (l.length : Int) < 3
    · rw [if_pos h3]
      by_cases h1 : (l.length : Int) = 1
      · rw [if_pos h1]
        exact ⟨true, rfl, fun _ => ⟨fun _ => rfl, fun h2 => by omega, fun h2 => by omega⟩⟩
      · rw [if_neg h1, if_pos (by omega), if_pos (by omega)]
        exact ⟨_, rfl, fun _ => ⟨fun h2 => by omega, fun _ => rfl, fun h2 => by omega⟩⟩
    · rw [if_neg h3]
      obtain ⟨b, hb, hb'⟩ := convex3_is l (by omega) (by omega) hf.2.2 k (by omega)
      rw [hb]
      exact ⟨b, rfl, fun _ => ⟨fun h2 => by omega, fun h2 => by omega, fun _ => hb'⟩⟩
theorem refConvex_is (l : List S24) (hl : l.length ≤ 1000) (k : Nat) (hk : 2000000 < k) : ∃ b, fleuronref17_Convex.f k l = some (if okPoly l then (b, 0) else (false, 2)) ∧ (okPoly l = true → ConvAll l b) := by
  unfold fleuronref17_Convex.f
  rw [refValid_is l (by omega) k (by omega)]
  simp only [Option.bind_some]
  cases h : okPoly l with
  | false => exact ⟨false, by simp, fun h => by simp at h⟩
  | true =>
    have hf := okPoly_facts h
    simp only [if_true]
    by_cases h2 : (l.length : Int) = 2
    · rw [if_pos h2, if_pos (by omega), if_pos (by omega)]
      exact ⟨_, rfl, fun _ => ⟨fun h3 => by omega, fun _ => rfl, fun h3 => by omega⟩⟩
    · rw [if_neg h2]
      have hm := Nat.mul_le_mul hl (show l.length + 2 ≤ 1002 by omega)
      obtain ⟨b, hb, hb'⟩ := outer_all l hl hf.2.2 l.length k 0 (by omega) (by omega) (by omega)
      refine ⟨b, hb, fun _ => ⟨fun h1 => hb'.mpr (fun j _ hj r hr hne => absurd (by omega) hne), fun h1 => by omega, fun h3 => hb'.trans (ask_conv l hl h3)⟩⟩
end Go.Proofs.Ytdhgekogaoiidaa.PT2

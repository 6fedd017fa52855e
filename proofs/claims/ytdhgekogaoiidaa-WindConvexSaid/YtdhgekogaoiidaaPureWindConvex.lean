/-
  WindConvex, its plain law: round a point strictly to the left of all edges of a convex polygon the winding number is 1, round one strictly to the right of one it is 0.
-/
import Derived.Test.YtdhgekogaoiidaaSaysWindConvex
import Derived.Test.YtdhgekogaoiidaaLibI
import Derived.Test.YtdhgekogaoiidaaLibJ
import Derived.Test.YtdhgekogaoiidaaPT2x14
set_option linter.unusedVariables false
set_option linter.unusedSimpArgs false
namespace Go.Proofs.Ytdhgekogaoiidaa.Pure
open Go.RowKit Go.Proofs.Ytdhgekogaoiidaa.PT2 Go.Proofs.YtdhgekogaoiidaaW.PrintWords Go.Proofs.YtdhgekogaoiidaaW.PrintLast Go.Proofs.YtdhgekogaoiidaaW.PrintMore Go.Proofs.Ytdhgekogaoiidaa.Geo
theorem convex_awake : fleuronlaw17_awake.f = some true := rfl
theorem sum_zero (g : Nat → Int) : ∀ n, (∀ j, j < n → g j = 0) → sumTo g n = 0
  | 0, _ => rfl
  | n + 1, h => by
    simp only [sumTo]
    rw [sum_zero g n (fun j hj => h j (by omega)), h n (by omega)]
    rfl
theorem sum_one (g : Nat → Int) (a : Nat) : ∀ n, a < n → (∀ j, j < n → j ≠ a → g j = 0) → sumTo g n = g a
  | 0, h, _ => by omega
  | n + 1, h, h0 => by
    simp only [sumTo]
    rcases Nat.lt_or_ge a n with h1 | h1
    · rw [sum_one g a n h1 (fun j hj => h0 j (by omega)), h0 n (by omega) (by omega), Int.add_zero]
    · obtain rfl : a = n := by omega
      rw [sum_zero g a (fun j hj => h0 j (by omega) (by omega)), Int.zero_add]
theorem sum_two (g : Nat → Int) (a b : Nat) (hab : a ≠ b) : ∀ n, a < n → b < n → (∀ j, j < n → j ≠ a → j ≠ b → g j = 0) → sumTo g n = g a + g b
  | 0, h, _, _ => by omega
  | n + 1, h, h', h0 => by
    simp only [sumTo]
    rcases (show n = a ∨ n = b ∨ (a < n ∧ b < n) by omega) with h1 | h1 | h1
    · subst h1
      rw [sum_one g b n (by omega) (fun j hj hne => h0 j (by omega) (by omega) hne)]
      omega
    · subst h1
      rw [sum_one g a n (by omega) (fun j hj hne => h0 j (by omega) hne (by omega))]
    · rw [sum_two g a b hab n h1.1 h1.2 (fun j hj => h0 j (by omega)), h0 n (by omega) (by omega) (by omega), Int.add_zero]
/-- On which side of edge i the point is. -/
def offP (l : List S24) (p : S24) (i : Nat) : Int := off (PX l) (PY l) p.f0 p.f1 i
theorem off_mod (l : List S24) (p : S24) (j : Nat) : offP l p j = offP l p (j % l.length) := mod_per (offP l p) l.length (fun j => off_per (closedP l) p.f0 p.f1 j) j
theorem uc_mod (l : List S24) (p : S24) (j : Nat) : uc (PY l) p.f1 j ↔ uc (PY l) p.f1 (j % l.length) := iff_of_eq (mod_per (fun j => uc (PY l) p.f1 j) l.length (fun j => propext (uc_per (closedP l) p.f1 j)) j)
theorem dc_mod (l : List S24) (p : S24) (j : Nat) : dc (PY l) p.f1 j ↔ dc (PY l) p.f1 (j % l.length) := iff_of_eq (mod_per (fun j => dc (PY l) p.f1 j) l.length (fun j => propext (dc_per (closedP l) p.f1 j)) j)
section
variable (l : List S24) (p : S24) (hn : 3 ≤ l.length)
theorem term_is (i : Nat) (hi : i < l.length) : ctermB (rd_T24 l (i : Int)) (nxt l i) p 1 id = (if uc (PY l) p.f1 i ∧ 0 < offP l p i then 1 else 0) + (if dc (PY l) p.f1 i ∧ offP l p i < 0 then -1 else 0) := by
  rw [← PP_lt l i hi, ← PP_nxt l i hi]
  have hc : crossB (PP l i) (PP l (i + 1)) p = offP l p i := rfl
  have hu : uc (PY l) p.f1 i ↔ ((PP l i).f1 ≤ p.f1 ∧ p.f1 < (PP l (i + 1)).f1) := Iff.rfl
  have hd : dc (PY l) p.f1 i ↔ ((PP l (i + 1)).f1 ≤ p.f1 ∧ p.f1 < (PP l i).f1) := Iff.rfl
  unfold ctermB sideB
  rw [hc]
  by_cases h1 : (PP l i).f1 ≤ p.f1 ∧ p.f1 < (PP l (i + 1)).f1
  · have hw : wayB (PP l i) (PP l (i + 1)) p.f1 = 1 := by unfold wayB; rw [if_pos h1]
    rw [hw, if_neg (by omega), Int.mul_one, if_neg (show ¬ (dc (PY l) p.f1 i ∧ offP l p i < 0) from fun h => by have := hd.mp h.1; omega), Int.add_zero]
    by_cases h2 : 0 < offP l p i
    · rw [if_pos (show sgnB (offP l p i) = 1 by unfold sgnB; rw [if_neg (by omega), if_pos h2]), if_pos ⟨hu.mpr h1, h2⟩]; rfl
    · rw [if_neg (show ¬ sgnB (offP l p i) = 1 by unfold sgnB; split <;> omega), if_neg (fun h => h2 h.2)]
  · by_cases h3 : (PP l (i + 1)).f1 ≤ p.f1 ∧ p.f1 < (PP l i).f1
    · have hw : wayB (PP l i) (PP l (i + 1)) p.f1 = -1 := by unfold wayB; rw [if_neg h1, if_pos h3]
      rw [hw, if_neg (by omega), if_neg (show ¬ (uc (PY l) p.f1 i ∧ 0 < offP l p i) from fun h => h1 (hu.mp h.1)), Int.zero_add]
      by_cases h2 : offP l p i < 0
      · rw [if_pos (show sgnB (offP l p i) * -1 = 1 by unfold sgnB; rw [if_pos h2]; rfl), if_pos ⟨hd.mpr h3, h2⟩]; rfl
      · rw [if_neg (show ¬ sgnB (offP l p i) * -1 = 1 by unfold sgnB; split <;> (try split) <;> omega), if_neg (fun h => h2 h.2)]
    · have hw : wayB (PP l i) (PP l (i + 1)) p.f1 = 0 := by unfold wayB; rw [if_neg h1, if_neg h3]
      rw [if_pos hw, if_neg (fun h => h1 (hu.mp h.1)), if_neg (fun h => h3 (hd.mp h.1))]
      rfl
include hn
variable (hl : Conv l)
include hl
theorem uc_one {a j : Nat} (ha : uc (PY l) p.f1 a) (hj : uc (PY l) p.f1 j) (h1 : a < l.length) (h2 : j < l.length) : j = a := by
  have ho := once_of_left (closedP l) hn hl
  rcases Nat.lt_trichotomy a j with h | h | h
  · have := uc_once (closedP l) ho p.f1 ha hj h; omega
  · exact h.symm
  · have := uc_once (closedP l) ho p.f1 hj ha h; omega
theorem dc_one {a j : Nat} (ha : dc (PY l) p.f1 a) (hj : dc (PY l) p.f1 j) (h1 : a < l.length) (h2 : j < l.length) : j = a := by
  have ho := once_of_left (closedP l) hn hl
  rcases Nat.lt_trichotomy a j with h | h | h
  · have := dc_once (closedP l) ho p.f1 ha hj h; omega
  · exact h.symm
  · have := dc_once (closedP l) ho p.f1 hj ha h; omega
theorem wind_in (h : ∀ j, j < l.length → 0 < offP l p j) : csum l p 1 id l.length = 1 := by
  have hall : ∀ j, 0 < off (PX l) (PY l) p.f0 p.f1 j := fun j => by
    have := off_mod l p j
    have h2 := h _ (Nat.mod_lt j (show 0 < l.length by omega))
    rw [← this] at h2
    exact h2
  obtain ⟨a0, ha0⟩ := in_has_uc (closedP l) hn hl p.f0 p.f1 hall
  have ha := (uc_mod l p a0).mp ha0
  have hlt := Nat.mod_lt a0 (show 0 < l.length by omega)
  rw [csum_sum, sum_one _ (a0 % l.length) l.length hlt (fun j hj hne => ?_), term_is l p _ hlt, if_pos ⟨ha, h _ hlt⟩, if_neg (fun h2 => by have := h _ hlt; omega)]
  · rfl
  · rw [term_is l p _ hj, if_neg (fun h2 => hne (uc_one l p hn hl ha h2.1 hlt hj)), if_neg (fun h2 => by have := h _ hj; omega)]
    rfl
theorem wind_out (h : ∃ j, j < l.length ∧ offP l p j < 0) : csum l p 1 id l.length = 0 := by
  obtain ⟨i0, hi0, hneg⟩ := h
  have hc := closedP l
  rcases Classical.em (∃ j, uc (PY l) p.f1 j) with ⟨a0, ha0⟩ | hno
  · obtain ⟨b0, _, _, hb0⟩ := cross_dn (Y := PY l) p.f1 (a0 + 1) (l.length - 1) ha0.2 (by rw [show a0 + 1 + (l.length - 1) = a0 + l.length by omega, hc.y]; exact ha0.1)
    have ha := (uc_mod l p a0).mp ha0
    have hb := (dc_mod l p b0).mp hb0
    have hla := Nat.mod_lt a0 (show 0 < l.length by omega)
    have hlb := Nat.mod_lt b0 (show 0 < l.length by omega)
    generalize a0 % l.length = a at *
    generalize b0 % l.length = b at *
    have hab : a ≠ b := fun e => by subst e; unfold uc at ha; unfold dc at hb; omega
    have na : ¬ dc (PY l) p.f1 a := fun h => by unfold uc at ha; unfold dc at h; omega
    have nb : ¬ uc (PY l) p.f1 b := fun h => by unfold dc at hb; unfold uc at h; omega
    rw [csum_sum, sum_two _ a b hab l.length hla hlb (fun j hj h1 h2 => ?_), term_is l p _ hla, term_is l p _ hlb, if_neg (show ¬ (dc (PY l) p.f1 a ∧ offP l p a < 0) from fun h => na h.1), if_neg (show ¬ (uc (PY l) p.f1 b ∧ 0 < offP l p b) from fun h => nb h.1)]
    · by_cases h1 : 0 < offP l p a
      · by_cases h2 : offP l p b < 0
        · rw [if_pos ⟨ha, h1⟩, if_pos ⟨hb, h2⟩]; rfl
        · have := inside_all hc hn hl p.f0 p.f1 a b ha hb h1 (show 0 ≤ offP l p b by omega) i0
          have hneg' : off (PX l) (PY l) p.f0 p.f1 i0 < 0 := hneg
          omega
      · by_cases h2 : offP l p b < 0
        · exact (not_swapped hc hn hl p.f0 p.f1 a b ha hb (show offP l p a ≤ 0 by omega) h2).elim
        · rw [if_neg (fun h => h1 h.2), if_neg (fun h => h2 h.2)]; rfl
    · rw [term_is l p _ hj, if_neg (fun h => h1 (uc_one l p hn hl ha h.1 hla hj)), if_neg (fun h => h2 (dc_one l p hn hl hb h.1 hlb hj))]
      rfl
  · rw [csum_sum]
    refine sum_zero _ _ (fun j hj => ?_)
    rw [term_is l p _ hj, if_neg (fun h => hno ⟨j, h.1⟩), if_neg (fun h => ?_)]
    · rfl
    · obtain ⟨a0, _, _, ha0⟩ := cross_up (Y := PY l) p.f1 (j + 1) (l.length - 1) h.1.1 (by rw [show j + 1 + (l.length - 1) = j + l.length by omega, hc.y]; exact h.1.2)
      exact hno ⟨a0, ha0⟩
theorem some_left : ∃ j, j < l.length ∧ 0 ≤ offP l p j := by
  refine Classical.byContradiction fun hno => ?_
  refine not_right (closedP l) hn hl p.f0 p.f1 (fun j => ?_)
  have := off_mod l p j
  have h2 := Nat.mod_lt j (show 0 < l.length by omega)
  have h3 : ¬ 0 ≤ offP l p (j % l.length) := fun h => hno ⟨_, h2, h⟩
  have h4 : offP l p j < 0 := by omega
  exact h4
end
/-- What the loop keeps: the least side and the greatest one. -/
structure Sides (l : List S24) (p : S24) (i : Nat) (a b : Int) : Prop where
  a3 : a = 1 ∨ a = 0 ∨ a = -1
  b3 : b = 1 ∨ b = 0 ∨ b = -1
  a1 : a = 1 ↔ ∀ j, j < i → 0 < offP l p j
  an : a = -1 ↔ ∃ j, j < i ∧ offP l p j < 0
  b0 : 0 ≤ b ↔ ∃ j, j < i ∧ 0 ≤ offP l p j
theorem sides_step {l : List S24} {p : S24} {i : Nat} {a b : Int} (h : Sides l p i a b) : Sides l p (i + 1) (mn a (sgnB (offP l p i))) (mx b (sgnB (offP l p i))) := by
  have hs : (sgnB (offP l p i) = 1 ∧ 0 < offP l p i) ∨ (sgnB (offP l p i) = 0 ∧ offP l p i = 0) ∨ (sgnB (offP l p i) = -1 ∧ offP l p i < 0) := by
    unfold sgnB
    split
    · right; right; exact ⟨rfl, by omega⟩
    · split
      · left; exact ⟨rfl, by omega⟩
      · right; left; exact ⟨rfl, by omega⟩
  generalize sgnB (offP l p i) = s at *
  have e1 : (∀ j, j < i + 1 → 0 < offP l p j) ↔ ((∀ j, j < i → 0 < offP l p j) ∧ 0 < offP l p i) := ⟨fun h => ⟨fun j hj => h j (by omega), h i (by omega)⟩, fun h j hj => by rcases Nat.lt_or_ge j i with h1 | h1; exact h.1 j h1; rw [show j = i by omega]; exact h.2⟩
  have e2 : (∃ j, j < i + 1 ∧ offP l p j < 0) ↔ ((∃ j, j < i ∧ offP l p j < 0) ∨ offP l p i < 0) := ⟨fun ⟨j, hj, h⟩ => by rcases Nat.lt_or_ge j i with h1 | h1; exact Or.inl ⟨j, h1, h⟩; right; rwa [show j = i by omega] at h, fun h => h.elim (fun ⟨j, hj, h⟩ => ⟨j, by omega, h⟩) (fun h => ⟨i, by omega, h⟩)⟩
  have e3 : (∃ j, j < i + 1 ∧ 0 ≤ offP l p j) ↔ ((∃ j, j < i ∧ 0 ≤ offP l p j) ∨ 0 ≤ offP l p i) := ⟨fun ⟨j, hj, h⟩ => by rcases Nat.lt_or_ge j i with h1 | h1; exact Or.inl ⟨j, h1, h⟩; right; rwa [show j = i by omega] at h, fun h => h.elim (fun ⟨j, hj, h⟩ => ⟨j, by omega, h⟩) (fun h => ⟨i, by omega, h⟩)⟩
  have ha := h.a3; have hb := h.b3
  have hmn : (a ≤ s ∧ mn a s = a) ∨ (s < a ∧ mn a s = s) := by unfold mn; split <;> omega
  have hmx : (s ≤ b ∧ mx b s = b) ∨ (b < s ∧ mx b s = s) := by unfold mx; split <;> omega
  generalize mn a s = a' at *
  generalize mx b s = b' at *
  have h1 := h.a1; have h2 := h.an; have h3 := h.b0
  refine ⟨?_, ?_, ?_, ?_, ?_⟩
  · clear h1 h2 h3 e1 e2 e3 h; omega
  · clear h1 h2 h3 e1 e2 e3 h; omega
  · rw [e1, ← h1]; clear h1 h2 h3 e1 e2 e3 h; constructor <;> intro _ <;> omega
  · rw [e2, ← h2]; clear h1 h2 h3 e1 e2 e3 h; constructor <;> intro _ <;> omega
  · rw [e3, ← h3]; clear h1 h2 h3 e1 e2 e3 h; constructor <;> intro _ <;> omega
theorem convex_loop (l : List S24) (p : S24) (hn : 3 ≤ l.length) (hl : l.length ≤ 1000) (hal : ∀ x ∈ l, isPt x = true) (hp : isPt p = true) (hconv : Conv l) (d : Nat) :
    ∀ (k i : Nat) (a b : Int), i ≤ l.length → l.length - i = d → d < k → Sides l p i a b → fleuronlaw17_WindConvex.l0 k l (csum l p 1 id l.length) a b l (l.length : Int) (i : Int) p.f0 p.f1 = some true := by
  induction d with
  | zero =>
    intro k i a b hi hd hk hs
    obtain ⟨k, rfl⟩ : ∃ m, k = m + 1 := ⟨k - 1, by omega⟩
    obtain rfl : i = l.length := by omega
    have hb := hs.b0.mpr (some_left l p hn hconv)
    have ha := hs.a3
    simp only [fleuronlaw17_WindConvex.l0, convex_awake, Option.bind_some]
    rw [if_neg (by omega)]
    by_cases h1 : a = 1
    · have hw := wind_in l p hn hconv (hs.a1.mp h1)
      rw [if_pos h1, if_pos hw, if_neg (by omega), if_pos hb]
    · rw [if_neg h1]
      by_cases h2 : a = -1
      · have hw := wind_out l p hn hconv (hs.an.mp h2)
        rw [if_pos h2, if_pos hw, if_pos hb]
      · rw [if_neg h2, if_pos hb]
  | succ d ih =>
    intro k i a b hi hd hk hs
    obtain ⟨k, rfl⟩ : ∃ m, k = m + 1 := ⟨k - 1, by omega⟩
    have hlt : i < l.length := by omega
    have hm := Nat.mod_lt (i + 1) (show 0 < l.length by omega)
    have ht : Int.tmod (wrap64 ((i : Int) + 1)) (l.length : Int) = (((i + 1) % l.length : Nat) : Int) := by
      rw [wrap64_small (by omega) (by omega), Int.tmod_eq_emod_of_nonneg (by omega)]
      simp
    have e1 : rd_T24 l (((i + 1) % l.length : Nat) : Int) = PP l (i + 1) := rfl
    have e0 := PP_lt l i hlt
    have pa := hal _ (PP_mem l i (by omega))
    have pb := hal _ (PP_mem l (i + 1) (by omega))
    have hside : wind_Side.f (PP l i).f0 (PP l i).f1 (PP l (i + 1)).f0 (PP l (i + 1)).f1 p.f0 p.f1 = some (sgnB (offP l p i), 0) := by
      unfold wind_Side.f
      rw [arePoints_is _ (by simp)]
      simp only [List.all_cons, List.all_nil, pa, pb, hp, Bool.and_self, Option.bind_some, if_true]
      rw [sign_is _ _ _ pa pb hp]
      rfl
    simp only [fleuronlaw17_WindConvex.l0]
    rw [if_pos (by omega), if_pos (by omega), if_pos (by omega), if_neg (by omega), ht, if_pos (by omega), if_pos (by omega), e1, ← e0, hside]
    simp only [Option.bind_some, if_true]
    rw [wrap64_small (n := (i : Int) + 1) (by omega) (by omega), show (i : Int) + 1 = ((i + 1 : Nat) : Int) by omega]
    exact ih k (i + 1) _ _ (by omega) (by omega) (by omega) (sides_step hs)
theorem WindConvex : fleuronlaw17_WindConvex.Pure := by
  intro l p hl _
  have hl1 := hl.1.1
  obtain ⟨b, hb, hf⟩ := few_is [l] (by simp; omega) (by simp) 3000000 (by simp)
  refine ⟨3000000, ?_⟩
  unfold fleuronlaw17_WindConvex.f
  rw [hb]
  simp only [Option.bind_some]
  cases b with
  | false => rfl
  | true =>
    have hs := hf rfl
    simp [sumLen] at hs
    rw [if_pos rfl]
    by_cases h3 : (l.length : Int) < 3
    · rw [decide_eq_true h3]; rfl
    · rw [decide_eq_false h3]
      simp only [fleuronlaw17_WindConvex.j0, Bool.false_eq_true, if_false]
      obtain ⟨c, hc, hcv⟩ := convex_is l (by omega) 2999999 (by omega)
      rw [hc, winding_is l p (by omega)]
      simp only [Option.bind_some]
      unfold countB
      cases hok : okPoly l with
      | false => simp only [Bool.false_eq_true, if_false, Bool.false_and]; rfl
      | true =>
        cases hp : isPt p with
        | false => simp only [if_true, Bool.and_false, Bool.false_eq_true, if_false]; rfl
        | true =>
          have hff := okPoly_facts hok
          simp only [if_true, Bool.and_self, fleuronlaw17_WindConvex.j1]
          cases c with
          | false => rfl
          | true =>
            have hconv := ((hcv hok).2.2 (by omega)).mp rfl
            simp only [Bool.not_true, Bool.false_eq_true, if_false]
            exact convex_loop l p (by omega) (by omega) hff.2.2 hp hconv l.length _ 0 1 (-1) (by omega) rfl (by omega) ⟨Or.inl rfl, Or.inr (Or.inr rfl), ⟨fun _ j hj => by omega, fun _ => rfl⟩, ⟨fun h => by omega, fun ⟨j, hj, _⟩ => by omega⟩, ⟨fun h => by omega, fun ⟨j, hj, _⟩ => by omega⟩⟩
end Go.Proofs.Ytdhgekogaoiidaa.Pure

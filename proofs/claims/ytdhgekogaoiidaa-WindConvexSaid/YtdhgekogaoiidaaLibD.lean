/-
  Plain laws: what Reverse, Start and Shift return, and that the sums round a point go with them.
-/
import Derived.Test.YtdhgekogaoiidaaLibF
import Derived.Test.YtdhgekogaoiidaaPT2x16
import Derived.Test.YtdhgekogaoiidaaPT2x17
import Derived.Test.YtdhgekogaoiidaaPT2x8
set_option linter.unusedVariables false
set_option linter.unusedSimpArgs false
namespace Go.Proofs.Ytdhgekogaoiidaa.PT2
open Go.RowKit Go.Proofs.YtdhgekogaoiidaaW.PrintWords Go.Proofs.YtdhgekogaoiidaaW.PrintLast Go.Proofs.YtdhgekogaoiidaaW.PrintMore
/-! ### Sums -/
def sumTo (g : Nat → Int) : Nat → Int
  | 0 => 0
  | i + 1 => sumTo g i + g i
theorem sumTo_congr {f g : Nat → Int} : ∀ (n : Nat), (∀ i, i < n → f i = g i) → sumTo f n = sumTo g n
  | 0, _ => rfl
  | n + 1, h => by
    simp only [sumTo]
    rw [sumTo_congr n (fun i hi => h i (by omega)), h n (by omega)]
theorem sumTo_add (g : Nat → Int) (a : Nat) : ∀ b, sumTo g (a + b) = sumTo g a + sumTo (fun i => g (a + i)) b
  | 0 => by simp [sumTo]
  | b + 1 => by
    rw [← Nat.add_assoc]
    simp only [sumTo]
    rw [sumTo_add g a b]
    omega
theorem sumTo_rev (g : Nat → Int) : ∀ n, sumTo (fun i => g (n - 1 - i)) n = sumTo g n
  | 0 => rfl
  | n + 1 => by
    have h := sumTo_add (fun i => g (n + 1 - 1 - i)) 1 n
    rw [show 1 + n = n + 1 by omega] at h
    rw [h, sumTo_congr (f := fun i => g (n + 1 - 1 - (1 + i))) (g := fun i => g (n - 1 - i)) n (fun i hi => by congr 1; omega), sumTo_rev g n]
    simp only [sumTo, Nat.add_sub_cancel, Nat.sub_zero]
    omega
theorem sumTo_neg (g : Nat → Int) : ∀ n, sumTo (fun i => - g i) n = - sumTo g n
  | 0 => rfl
  | n + 1 => by simp only [sumTo]; rw [sumTo_neg g n]; omega
theorem sumTo_plus (f g : Nat → Int) : ∀ n, sumTo (fun i => f i + g i) n = sumTo f n + sumTo g n
  | 0 => rfl
  | n + 1 => by simp only [sumTo]; rw [sumTo_plus f g n]; omega
theorem sumTo_rot (g : Nat → Int) (n k : Nat) (hk : k ≤ n) : sumTo (fun i => g ((i + k) % n)) n = sumTo g n := by
  have h := sumTo_add (fun i => g ((i + k) % n)) (n - k) k
  rw [show n - k + k = n by omega] at h
  rw [h, sumTo_congr (f := fun i => g ((i + k) % n)) (g := fun i => g (k + i)) (n - k) (fun i hi => by rw [Nat.mod_eq_of_lt (by omega), Nat.add_comm]),
    sumTo_congr (f := fun i => g ((n - k + i + k) % n)) (g := g) k (fun i hi => by rw [show n - k + i + k = i + n by omega, Nat.add_mod_right, Nat.mod_eq_of_lt (by omega)])]
  have h2 := sumTo_add g k (n - k)
  rw [show k + (n - k) = n by omega] at h2
  rw [h2]
  omega
theorem csum_sum (l : List S24) (p : S24) (s : Int) (o : Int → Int) : ∀ n, csum l p s o n = sumTo (fun i => ctermB (rd_T24 l (i : Int)) (nxt l i) p s o) n
  | 0 => rfl
  | n + 1 => by simp only [csum, sumTo]; rw [csum_sum l p s o n]
/-! ### Points of a polygon that has been turned, begun elsewhere, moved -/
theorem rd_get (l : List S24) (i : Nat) (h : i < l.length) : rd_T24 l (i : Int) = l[i] := by
  simp [rd_T24, List.getD_eq_getElem?_getD, List.getElem?_eq_getElem h]
theorem rd_rot (l : List S24) (k i : Nat) (hk : k ≤ l.length) (hi : i < l.length) : rd_T24 (l.drop k ++ l.take k) (i : Int) = rd_T24 l (((i + k) % l.length : Nat) : Int) := by
  have hm := Nat.mod_lt (i + k) (show 0 < l.length by omega)
  rw [rd_get _ _ (by simp; omega), rd_get _ _ hm, List.getElem_append]
  by_cases h : i < l.length - k
  · rw [dif_pos (by simpa using h), List.getElem_drop]
    congr 1
    rw [Nat.mod_eq_of_lt (by omega)]
    omega
  · rw [dif_neg (by simpa using h), List.getElem_take]
    congr 1
    rw [show i + k = (i - (l.length - k)) + l.length by omega, Nat.add_mod_right, Nat.mod_eq_of_lt (by omega)]
    simp
theorem nxt_rot (l : List S24) (k i : Nat) (hk : k ≤ l.length) (hi : i < l.length) : nxt (l.drop k ++ l.take k) i = nxt l ((i + k) % l.length) := by
  have hlen : (l.drop k ++ l.take k).length = l.length := by simp; omega
  have hm := Nat.mod_lt (i + 1) (show 0 < l.length by omega)
  unfold nxt
  rw [hlen, rd_rot l k _ hk hm, Nat.mod_add_mod, Nat.mod_add_mod, show i + 1 + k = i + k + 1 by omega]
theorem rd_rev (l : List S24) (i : Nat) (hi : i < l.length) : rd_T24 l.reverse (i : Int) = rd_T24 l ((l.length - 1 - i : Nat) : Int) := by
  rw [rd_get _ _ (by simpa using hi), rd_get _ _ (by omega), List.getElem_reverse]
theorem edge_rev (l : List S24) (i : Nat) (hi : i < l.length) :
    rd_T24 l.reverse (i : Int) = nxt l ((l.length - 1 - i + (l.length - 1)) % l.length) ∧ nxt l.reverse i = rd_T24 l (((l.length - 1 - i + (l.length - 1)) % l.length : Nat) : Int) := by
  have hm := Nat.mod_lt (i + 1) (show 0 < l.length by omega)
  unfold nxt
  rw [List.length_reverse, rd_rev l i hi, rd_rev l _ hm, Nat.mod_add_mod]
  constructor
  · congr 2
    rw [show l.length - 1 - i + (l.length - 1) + 1 = (l.length - 1 - i) + l.length by omega, Nat.add_mod_right, Nat.mod_eq_of_lt (by omega)]
  · congr 2
    rcases Nat.lt_or_ge (i + 1) l.length with h | h
    · rw [Nat.mod_eq_of_lt h, show l.length - 1 - i + (l.length - 1) = (l.length - 2 - i) + l.length by omega, Nat.add_mod_right, Nat.mod_eq_of_lt (by omega)]
      omega
    · rw [show i + 1 = l.length by omega, Nat.mod_self, show l.length - 1 - i + (l.length - 1) = l.length - 1 by omega, Nat.mod_eq_of_lt (by omega)]
      rfl
def movP (d x : S24) : S24 := ⟨x.f0 + d.f0, x.f1 + d.f1⟩
theorem rd_map (l : List S24) (d : S24) (i : Nat) (hi : i < l.length) : rd_T24 (l.map (movP d)) (i : Int) = movP d (rd_T24 l (i : Int)) := by
  rw [rd_get _ _ (by simpa using hi), rd_get _ _ hi, List.getElem_map]
theorem nxt_map (l : List S24) (d : S24) (i : Nat) (hi : i < l.length) : nxt (l.map (movP d)) i = movP d (nxt l i) := by
  unfold nxt
  rw [List.length_map, rd_map l d _ (Nat.mod_lt _ (by omega))]
/-! ### Terms -/
theorem way_swap (a b : S24) (y : Int) : wayB b a y = - wayB a b y := by
  unfold wayB
  by_cases h1 : a.f1 ≤ y ∧ y < b.f1
  · rw [if_pos h1, if_neg (by omega), if_pos h1]
  · rw [if_neg h1]
    by_cases h2 : b.f1 ≤ y ∧ y < a.f1
    · rw [if_pos h2, if_neg h1, if_pos h2]; rfl
    · rw [if_neg h2, if_neg h1, if_neg h2]; rfl
theorem side_swap (a b p : S24) : sideB b a p = sideB a b p := by
  unfold sideB
  rw [cross_swap, sgnB_neg, way_swap, Int.neg_mul_neg]
theorem term_swap (a b p : S24) (s : Int) : ctermB b a p s id = - ctermB a b p s id := by
  unfold ctermB
  rw [side_swap, way_swap]
  by_cases h : wayB a b p.f1 = 0
  · rw [if_pos (by omega), if_pos h]; rfl
  · rw [if_neg (by omega), if_neg h]
    by_cases h2 : sideB a b p = s
    · rw [if_pos h2, if_pos h2]; rfl
    · rw [if_neg h2, if_neg h2]; rfl
theorem term_swap_one (a b p : S24) (s : Int) : ctermB b a p s (fun _ => 1) = ctermB a b p s (fun _ => 1) := by
  unfold ctermB
  rw [side_swap, way_swap]
  by_cases h : wayB a b p.f1 = 0
  · rw [if_pos (by omega), if_pos h]
  · rw [if_neg (by omega), if_neg h]
theorem term_mov (d a b p : S24) (s : Int) (o : Int → Int) : ctermB (movP d a) (movP d b) (movP d p) s o = ctermB a b p s o := by
  have hw : wayB (movP d a) (movP d b) (movP d p).f1 = wayB a b p.f1 := by
    unfold wayB movP
    simp only
    by_cases h1 : a.f1 ≤ p.f1 ∧ p.f1 < b.f1
    · rw [if_pos h1, if_pos (by omega)]
    · rw [if_neg h1, if_neg (by omega)]
      by_cases h2 : b.f1 ≤ p.f1 ∧ p.f1 < a.f1
      · rw [if_pos h2, if_pos (by omega)]
      · rw [if_neg h2, if_neg (by omega)]
  have hc : crossB (movP d a) (movP d b) (movP d p) = crossB a b p := by
    unfold crossB movP
    simp only
    rw [show b.f0 + d.f0 - (a.f0 + d.f0) = b.f0 - a.f0 by omega, show p.f1 + d.f1 - (a.f1 + d.f1) = p.f1 - a.f1 by omega, show b.f1 + d.f1 - (a.f1 + d.f1) = b.f1 - a.f1 by omega, show p.f0 + d.f0 - (a.f0 + d.f0) = p.f0 - a.f0 by omega]
  unfold ctermB sideB
  rw [hw, hc]
/-! ### The sums -/
theorem csum_rot (l : List S24) (p : S24) (s : Int) (o : Int → Int) (k : Nat) (hk : k ≤ l.length) : csum (l.drop k ++ l.take k) p s o (l.drop k ++ l.take k).length = csum l p s o l.length := by
  have hlen : (l.drop k ++ l.take k).length = l.length := by simp; omega
  rw [csum_sum, csum_sum, hlen, ← sumTo_rot (fun i => ctermB (rd_T24 l (i : Int)) (nxt l i) p s o) l.length k hk]
  exact sumTo_congr _ (fun i hi => by rw [rd_rot l k i hk hi, nxt_rot l k i hk hi])
theorem csum_rev (l : List S24) (p : S24) (s : Int) : csum l.reverse p s id l.reverse.length = - csum l p s id l.length := by
  rcases Nat.eq_zero_or_pos l.length with h0 | h0
  · rw [List.length_reverse, h0]; rfl
  rw [csum_sum, csum_sum, List.length_reverse, ← sumTo_rot (fun i => ctermB (rd_T24 l (i : Int)) (nxt l i) p s id) l.length (l.length - 1) (by omega), ← sumTo_rev (fun i => ctermB (rd_T24 l (((i + (l.length - 1)) % l.length : Nat) : Int)) (nxt l ((i + (l.length - 1)) % l.length)) p s id), ← sumTo_neg]
  exact sumTo_congr _ (fun i hi => by rw [(edge_rev l i hi).1, (edge_rev l i hi).2, term_swap])
theorem csum_rev_one (l : List S24) (p : S24) (s : Int) : csum l.reverse p s (fun _ => 1) l.reverse.length = csum l p s (fun _ => 1) l.length := by
  rcases Nat.eq_zero_or_pos l.length with h0 | h0
  · rw [List.length_reverse, h0]; rfl
  rw [csum_sum, csum_sum, List.length_reverse, ← sumTo_rot (fun i => ctermB (rd_T24 l (i : Int)) (nxt l i) p s (fun _ => 1)) l.length (l.length - 1) (by omega), ← sumTo_rev (fun i => ctermB (rd_T24 l (((i + (l.length - 1)) % l.length : Nat) : Int)) (nxt l ((i + (l.length - 1)) % l.length)) p s (fun _ => 1))]
  exact sumTo_congr _ (fun i hi => by rw [(edge_rev l i hi).1, (edge_rev l i hi).2, term_swap_one])
theorem csum_mov (l : List S24) (d p : S24) (s : Int) (o : Int → Int) : csum (l.map (movP d)) (movP d p) s o (l.map (movP d)).length = csum l p s o l.length := by
  rw [csum_sum, csum_sum, List.length_map]
  exact sumTo_congr _ (fun i hi => by rw [rd_map l d i hi, nxt_map l d i hi, term_mov])
/-! ### The functions -/
theorem ok_reverse (l : List S24) : okPoly l.reverse = okPoly l := by unfold okPoly; simp
theorem ok_rot (l : List S24) (k : Nat) : okPoly (l.drop k ++ l.take k) = okPoly l := by
  have h : (l.drop k ++ l.take k).length = l.length := by simp; omega
  have h2 : (l.drop k ++ l.take k).all isPt = l.all isPt := by
    conv => rhs; rw [← List.take_append_drop k l]
    rw [List.all_append, List.all_append, Bool.and_comm]
  unfold okPoly
  rw [h, h2]
theorem reverse_is (l : List S24) (hl : l.length ≤ 9223372036854775807) : wind_Reverse.f l = some (if okPoly l then (l.reverse, 0) else ([], 2)) := by
  unfold wind_Reverse.f
  rw [valid_is l hl]
  simp only [Option.bind_some]
  cases h : okPoly l with
  | false => simp
  | true =>
    have hf := okPoly_facts h
    unfold api_Point_64.f api_Point_65.f
    rw [if_pos rfl, if_pos (by omega)]
    simp only [Option.bind_some, if_true]
    rw [if_pos (by omega)]
    rfl
theorem start_is (l : List S24) (i : Nat) (hok : okPoly l = true) (hi : i < l.length) : wind_Start.f l (i : Int) = some (l.drop i ++ l.take i, 0) := by
  have hf := okPoly_facts hok
  unfold wind_Start.f
  rw [valid_is l (by omega), hok]
  simp only [Option.bind_some, if_true]
  rw [if_neg (by omega), if_neg (by omega), if_pos (by omega), if_pos (by omega)]
  unfold api_Point_66.f
  rw [if_pos (by simp; omega)]
  simp
theorem start_bad (l : List S24) (i : Int) (hl : l.length ≤ 9223372036854775807) (h : okPoly l = false ∨ i < 0 ∨ (l.length : Int) ≤ i) : wind_Start.f l i = some ([], 2) := by
  unfold wind_Start.f
  rw [valid_is l hl]
  simp only [Option.bind_some]
  cases hok : okPoly l with
  | false => simp
  | true =>
    rw [if_pos rfl]
    by_cases h1 : i < 0
    · rw [if_pos h1]
    · rw [if_neg h1, if_pos (by rw [hok] at h; simp at h; omega)]
theorem set_step (l : List S24) (d : S24) (i : Nat) (h : i < l.length) : ((l.take i).map (movP d) ++ l.drop i).set i (movP d l[i]) = (l.take (i + 1)).map (movP d) ++ l.drop (i + 1) := by
  rw [List.set_append_right _ _ (by simp; omega)]
  rw [show i - ((l.take i).map (movP d)).length = 0 by simp; omega, List.drop_eq_getElem_cons h, List.set_cons_zero, List.take_add_one, List.getElem?_eq_getElem h]
  simp only [Option.toList_some, List.map_append, List.map_cons, List.map_nil, List.append_assoc, List.singleton_append]
theorem shift_rd (l : List S24) (d : S24) (i : Nat) (h : i < l.length) (v : S24) : rd_T24 (((l.take i).map (movP d) ++ l.drop i).set i v) (i : Int) = v := by
  rw [rd_get _ _ (by simp; omega)]
  simp
theorem shift_from (l : List S24) (d : S24) (hl : l.length ≤ 1000000) (hal : ∀ x ∈ l, isPt x = true) (hd : isPt d = true) (n : Nat) :
    ∀ (k i : Nat), i ≤ l.length → l.length - i = n → n < k → wind_Shift.l0 k ((l.take i).map (movP d) ++ l.drop i) (l.length : Int) (i : Int) d.f0 d.f1 = some (if (l.map (movP d)).all isPt then (l.map (movP d), 0) else ([], 17)) := by
  induction n with
  | zero =>
    intro k i hi hd' hk
    obtain ⟨k, rfl⟩ : ∃ m, k = m + 1 := ⟨k - 1, by omega⟩
    obtain rfl : i = l.length := by omega
    simp only [wind_Shift.l0]
    rw [if_neg (by omega), List.take_of_length_le (Nat.le_refl _), List.drop_eq_nil_of_le (Nat.le_refl _), List.append_nil, arePoints_is _ (by simp; omega)]
    simp only [Option.bind_some]
    cases (l.map (movP d)).all isPt <;> simp
  | succ n ih =>
    intro k i hi hd' hk
    obtain ⟨k, rfl⟩ : ∃ m, k = m + 1 := ⟨k - 1, by omega⟩
    have hlt : i < l.length := by omega
    have hlen : ((l.take i).map (movP d) ++ l.drop i).length = l.length := by simp; omega
    have bx := isPt_bounds (hal l[i] (List.getElem_mem hlt))
    have bd := isPt_bounds hd
    have hr : rd_T24 ((l.take i).map (movP d) ++ l.drop i) (i : Int) = l[i] := by
      rw [rd_get _ _ (by omega), List.getElem_append_right (by simp; omega)]
      simp [List.getElem_drop, show min i l.length = i by omega]
    simp only [wind_Shift.l0]
    rw [if_pos (by omega), if_pos (by omega), if_pos (by omega)]
    simp only [Option.bind_some, Int.toNat_natCast]
    rw [shift_rd l d i hlt, hr, wrap64_small (n := l[i].f0 + d.f0) (by omega) (by omega)]
    simp only
    rw [wrap64_small (n := l[i].f1 + d.f1) (by omega) (by omega), List.set_set, wrap64_small (n := (i : Int) + 1) (by omega) (by omega), show (i : Int) + 1 = ((i + 1 : Nat) : Int) by omega]
    have hs := set_step l d i hlt
    unfold movP at hs ⊢
    rw [hs]
    exact ih k (i + 1) (by omega) (by omega) (by omega)
theorem shift_is (l : List S24) (d : S24) (hl : l.length ≤ 9223372036854775807) (k : Nat) (hk : 70000 < k) : wind_Shift.f k l d.f0 d.f1 = some (if okPoly l && isPt d then (if (l.map (movP d)).all isPt then (l.map (movP d), 0) else ([], 17)) else ([], 2)) := by
  obtain ⟨k, rfl⟩ : ∃ m, k = m + 1 := ⟨k - 1, by omega⟩
  unfold wind_Shift.f
  rw [valid_is l hl, isPoint_is]
  simp only [Option.bind_some, wind_Shift.j0]
  cases h : okPoly l with
  | false => simp
  | true =>
    cases hd : isPt d with
    | false => simp
    | true =>
      have hf := okPoly_facts h
      have := shift_from l d (by omega) hf.2.2 hd l.length k 0 (by omega) (by omega) (by omega)
      simp only [List.take_zero, List.map_nil, List.nil_append, List.drop_zero, Int.natCast_zero] at this
      unfold api_Point_64.f
      rw [if_pos rfl]
      simp only [Bool.not_true, Bool.false_eq_true, if_false, Bool.and_self, if_true]
      rw [if_pos (by omega)]
      simp only [Option.bind_some]
      exact this
end Go.Proofs.Ytdhgekogaoiidaa.PT2

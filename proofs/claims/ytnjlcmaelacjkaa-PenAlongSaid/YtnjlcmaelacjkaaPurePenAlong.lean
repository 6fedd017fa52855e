/-
  PenAlong, its plain law: whether a point is covered along a line, by the code and by the chapter.
-/
import Derived.Test.YtnjlcmaelacjkaaSaysPenAlong
import Derived.Test.YtnjlcmaelacjkaaLibRefSwept
import Derived.Test.YtnjlcmaelacjkaaLibRefValid
import Derived.Test.YtnjlcmaelacjkaaLibRefHas
import Derived.Test.YtnjlcmaelacjkaaPD3x20
import Derived.Test.YtnjlcmaelacjkaaPD3x8
set_option linter.unusedVariables false
set_option linter.unusedSectionVars false
set_option linter.unusedSimpArgs false
namespace Go.Proofs.Ytnjlcmaelacjkaa.Pure
open Go.RowKit Go.Proofs.Ytnjlcmaelacjkaa.PD3 Go.Proofs.YtnjlcmaelacjkaaW.PrintWords Go.Proofs.YtnjlcmaelacjkaaW.PrintLast Go.Proofs.YtnjlcmaelacjkaaW.PrintMore Go.Proofs.Ytnjlcmaelacjkaa.PD3.HG
section
variable (l : List S33) (hv : okPen l = true) (m : List S33) (hm1 : 1 ≤ m.length) (hm2 : m.length ≤ 60) (hm : ∀ x ∈ m, isPt x = true) (s : S33) (hs : isPt s = true)
/-- The i-th piece has the point. -/
def Pc (l m : List S33) (s : S33) (i : Nat) : Prop := Sup [s] (twice l (rd_T33 m (i : Int)) (pieceB m i))
include hv hm1 hm2 hm hs
theorem piece_pt (i : Nat) (hi : i < pieces m) : isPt (rd_T33 m (i : Int)) = true ∧ isPt (pieceB m i) = true := by
  unfold pieces at hi
  unfold pieceB
  by_cases h1 : m.length = 1
  · rw [if_pos h1] at hi ⊢
    exact ⟨hm _ (rd_in m i (by omega)), hm _ (rd_in m 0 (by omega))⟩
  · rw [if_neg h1] at hi ⊢
    exact ⟨hm _ (rd_in m i (by omega)), hm _ (rd_in m (i + 1) (by omega))⟩
theorem piece_is (i : Nat) (hi : i < pieces m) : pen_Swept.f (l.length + 5) l (rd_T33 m (i : Int)).f0 (rd_T33 m (i : Int)).f1 (pieceB m i).f0 (pieceB m i).f1 = some (hullOf (twice l (rd_T33 m (i : Int)) (pieceB m i))) ∧
    (∃ r, pen_Has.f (huA l m i) s.f0 s.f1 = some r ∧ (r = true ↔ Pc l m s i)) := by
  obtain ⟨h1, h2, h3, h4⟩ := okPen_iff.mp hv
  obtain ⟨p1, p2⟩ := piece_pt l hv m hm1 hm2 hm s hs i hi
  have e := swept_is l (rd_T33 m (i : Int)) (pieceB m i) (by omega) h3 p1 p2 (l.length + 5) (by omega)
  refine ⟨e, ?_⟩
  have hh := hullOf_is (twice_ne h1 (rd_T33 m (i : Int)) (pieceB m i))
  have hlen := hullOf_len (twice l (rd_T33 m (i : Int)) (pieceB m i))
  rw [twice_len] at hlen
  obtain ⟨r, hr, hr'⟩ := has_is hh.pen (by omega) (hull_big (twice_big h3 p1 p2)) s (big_of hs)
  refine ⟨r, ?_, hr'.trans (sup_hull hh s)⟩
  unfold huA
  rw [e]
  exact hr
theorem along_ok : okA l m s.f0 s.f1 = true := by
  unfold okA
  rw [List.all_eq_true]
  intro i hi
  obtain ⟨e, r, hr, _⟩ := piece_is l hv m hm1 hm2 hm s hs i (List.mem_range.mp hi)
  rw [e, hr]; rfl
theorem along_any : ((List.range (pieces m)).any (hsA l m s.f0 s.f1) = true) ↔ ∃ i, i < pieces m ∧ Pc l m s i := by
  rw [List.any_eq_true]
  constructor
  · rintro ⟨i, hi, h⟩
    have hi := List.mem_range.mp hi
    obtain ⟨e, r, hr, hr'⟩ := piece_is l hv m hm1 hm2 hm s hs i hi
    unfold hsA at h
    rw [hr] at h
    exact ⟨i, hi, hr'.mp h⟩
  · rintro ⟨i, hi, h⟩
    obtain ⟨e, r, hr, hr'⟩ := piece_is l hv m hm1 hm2 hm s hs i hi
    refine ⟨i, List.mem_range.mpr hi, ?_⟩
    unfold hsA
    rw [hr]
    exact hr'.mpr h
/-! ### By the chapter -/
/-- The hulls of the first i pieces. -/
def hullsTo (l m : List S33) : Nat → List (List S33)
  | 0 => []
  | i + 1 => hullsTo l m i ++ [hullOf (twice l (rd_T33 m (i : Int)) (rd_T33 m ((i + 1 : Nat) : Int)))]
omit hv hm1 hm2 hm hs in
theorem hullsTo_len (l m : List S33) : ∀ i, (hullsTo l m i).length = i
  | 0 => rfl
  | i + 1 => by simp [hullsTo, hullsTo_len l m i]
theorem hulls_go (h2 : 2 ≤ m.length) (d : Nat) : ∀ (k i : Nat), i ≤ m.length - 1 → m.length - 1 - i = d → d + 200 < k → fleuronref18_Hulls.l0 k l m (hullsTo l m i) ((m.length - 1 : Nat) : Int) (i : Int) = some (hullsTo l m (m.length - 1)) := by
  obtain ⟨k1, k2, k3, k4⟩ := okPen_iff.mp hv
  induction d with
  | zero =>
    intro k i hi hd hk
    obtain ⟨k, rfl⟩ : ∃ m, k = m + 1 := ⟨k - 1, by omega⟩
    obtain rfl : i = m.length - 1 := by omega
    rw [fleuronref18_Hulls.l0, if_neg (by omega)]
  | succ d ih =>
    intro k i hi hd hk
    obtain ⟨k, rfl⟩ : ∃ m, k = m + 1 := ⟨k - 1, by omega⟩
    have hw : wrap64 ((i : Int) + 1) = ((i + 1 : Nat) : Int) := by rw [wrap64_small (by omega) (by omega)]; omega
    have hlen := hullsTo_len l m i
    have := ih k (i + 1) (by omega) (by omega) (by omega)
    rw [fleuronref18_Hulls.l0, if_pos (by omega), if_pos (by omega), if_pos (by omega), hw, if_pos (by omega), if_pos (by omega), refSwept_is l _ _ k1 (by omega) k3 (hm _ (rd_in m i (by omega))) (hm _ (rd_in m (i + 1) (by omega))) k (by omega)]
    simp only [Option.bind_some]
    rw [if_pos (by omega)]
    exact this
theorem hullsTo_get (i j : Nat) (h : j < i) : (hullsTo l m i)[j]? = some (hullOf (twice l (rd_T33 m (j : Int)) (rd_T33 m ((j + 1 : Nat) : Int)))) := by
  induction i with
  | zero => omega
  | succ i ih =>
    simp only [hullsTo]
    rcases Nat.lt_or_ge j i with k | k
    · rw [List.getElem?_append_left (by rw [hullsTo_len]; exact k)]; exact ih k
    · obtain rfl : j = i := by omega
      rw [List.getElem?_append_right (by rw [hullsTo_len]; exact Nat.le_refl _), hullsTo_len, Nat.sub_self]; rfl
omit hv hm1 hm2 hm in
theorem one_go (hs' : List (List S33)) (hl : hs'.length ≤ 1000) (hp : ∀ h ∈ hs', Pen h ∧ h.length ≤ 1000 ∧ ∀ x ∈ h, Big x) (d : Nat) : ∀ (k i : Nat), i ≤ hs'.length → hs'.length - i = d → d < k →
    ∃ r, fleuronref18_One.l0 k hs' (hs'.length : Int) (i : Int) s.f0 s.f1 = some r ∧ (r = true ↔ ∃ j h, i ≤ j ∧ hs'[j]? = some h ∧ Sup [s] h) := by
  induction d with
  | zero =>
    intro k i hi hd hk
    obtain ⟨k, rfl⟩ : ∃ m, k = m + 1 := ⟨k - 1, by omega⟩
    refine ⟨false, by rw [fleuronref18_One.l0, if_neg (by omega)], ⟨fun h => (by cases h), ?_⟩⟩
    rintro ⟨j, h, hj, e, _⟩
    rw [List.getElem?_eq_none (by omega)] at e; cases e
  | succ d ih =>
    intro k i hi hd hk
    obtain ⟨k, rfl⟩ : ∃ m, k = m + 1 := ⟨k - 1, by omega⟩
    have e : rd_L2 hs' (i : Int) = hs'[i] := by simp [rd_L2, List.getD_eq_getElem?_getD, List.getElem?_eq_getElem (show i < hs'.length by omega)]
    obtain ⟨p1, p2, p3⟩ := hp _ (List.getElem_mem (show i < hs'.length by omega))
    obtain ⟨r0, hr0, hr0'⟩ := refHas_is p1 (by omega) p3 s (big_of hs)
    have hw : wrap64 ((i : Int) + 1) = ((i + 1 : Nat) : Int) := by rw [wrap64_small (by omega) (by omega)]; omega
    rw [fleuronref18_One.l0, if_pos (by omega), if_pos (by omega), if_pos (by omega), e, hr0]
    simp only [Option.bind_some]
    cases r0 with
    | true => exact ⟨true, rfl, fun _ => ⟨i, _, Nat.le_refl _, List.getElem?_eq_getElem (by omega), hr0'.mp rfl⟩, fun _ => rfl⟩
    | false =>
      obtain ⟨r, hr, hr'⟩ := ih k (i + 1) (by omega) (by omega) (by omega)
      refine ⟨r, by rw [if_neg (by simp), hw]; exact hr, hr'.trans ⟨?_, ?_⟩⟩
      · rintro ⟨j, h, hj, e, hx⟩; exact ⟨j, h, by omega, e, hx⟩
      · rintro ⟨j, h, hj, e, hx⟩
        rcases Nat.eq_or_lt_of_le hj with rfl | hlt
        · rw [List.getElem?_eq_getElem (by omega)] at e
          obtain rfl := Option.some.inj e
          exact absurd (hr0'.mpr hx) (by simp)
        · exact ⟨j, h, by omega, e, hx⟩
theorem refAlong_is (k : Nat) (hk : 1000 ≤ k) : ∃ r, (fleuronref18_Hulls.f k l m).bind (fun h => (fleuronref18_One.f k h s.f0 s.f1)) = some r ∧ (r = true ↔ ∃ i, i < pieces m ∧ Pc l m s i) := by
  obtain ⟨k1, k2, k3, k4⟩ := okPen_iff.mp hv
  unfold fleuronref18_Hulls.f
  by_cases h1 : m.length = 1
  · have h0 := hm _ (rd_in m 0 (by omega))
    rw [if_pos (by omega), if_pos (by omega), show (0 : Int) = ((0 : Nat) : Int) from rfl, refPlus_is l (rd_T33 m ((0 : Nat) : Int)) (by omega) k3 h0 k (by omega)]
    simp only [Option.bind_some]
    obtain ⟨r, hr, hr'⟩ := one_go s hs [l.map (mv (rd_T33 m ((0 : Nat) : Int)))] (by simp) (by
      intro h hh
      obtain rfl := List.mem_singleton.mp hh
      refine ⟨pen_mv k4 _, by rw [List.length_map]; omega, fun x hx => ?_⟩
      obtain ⟨y, hy, rfl⟩ := List.mem_map.mp hx
      exact mv_pt h0 (k3 y hy)) 1 k 0 (by simp) (by simp) (by omega)
    refine ⟨r, hr, hr'.trans ?_⟩
    unfold pieces Pc pieceB
    rw [if_pos h1]
    constructor
    · rintro ⟨j, h, _, e, hx⟩
      refine ⟨0, by omega, ?_⟩
      rw [if_pos h1]
      match j, e with
      | 0, e =>
        obtain rfl : l.map (mv (rd_T33 m ((0 : Nat) : Int))) = h := by simpa using e
        exact hx.trans (Sup.of_sub (fun x hx => List.mem_append_left _ hx))
      | j + 1, e => simp at e
    · rintro ⟨i, hi, hx⟩
      obtain rfl : i = 0 := by omega
      rw [if_pos h1] at hx
      refine ⟨0, _, Nat.le_refl _, rfl, hx.trans (Sup.of_sub (fun x hx => ?_))⟩
      rcases List.mem_append.mp hx with h | h <;> exact h
  · have hw : wrap64 ((m.length : Int) - 1) = ((m.length - 1 : Nat) : Int) := by rw [wrap64_small (by omega) (by omega)]; omega
    have hg := hulls_go l hv m hm1 hm2 hm s hs (by omega) (m.length - 1) k 0 (by omega) (by omega) (by omega)
    rw [if_neg (by omega), hw]
    rw [show hullsTo l m 0 = [] from rfl] at hg
    rw [show ((0 : Nat) : Int) = 0 from rfl] at hg
    rw [hg]
    simp only [Option.bind_some]
    have hlen := hullsTo_len l m (m.length - 1)
    have get := hullsTo_get l hv m hm1 hm2 hm s hs (m.length - 1)
    obtain ⟨r, hr, hr'⟩ := one_go s hs (hullsTo l m (m.length - 1)) (by omega) (by
      intro h hh
      obtain ⟨j, hj, e⟩ := List.mem_iff_getElem.mp hh
      have e2 := get j (by omega)
      rw [List.getElem?_eq_getElem hj, e] at e2
      obtain rfl := Option.some.inj e2
      have b1 := hm _ (rd_in m j (by omega)); have b2 := hm _ (rd_in m (j + 1) (by omega))
      have hln := hullOf_len (twice l (rd_T33 m (j : Int)) (rd_T33 m ((j + 1 : Nat) : Int)))
      rw [twice_len] at hln
      exact ⟨(hullOf_is (twice_ne k1 _ _)).pen, by omega, hull_big (twice_big k3 b1 b2)⟩) (m.length - 1) k 0 (by omega) (by omega) (by omega)
    refine ⟨r, hr, hr'.trans ?_⟩
    unfold pieces Pc pieceB
    rw [if_neg h1]
    constructor
    · rintro ⟨j, h, _, e, hx⟩
      have hj : j < m.length - 1 := by
        rcases Nat.lt_or_ge j (m.length - 1) with q | q
        · exact q
        · rw [List.getElem?_eq_none (by omega)] at e; cases e
      rw [get j hj] at e
      obtain rfl := Option.some.inj e
      refine ⟨j, hj, ?_⟩
      rw [if_neg h1]
      exact (sup_hull (hullOf_is (twice_ne k1 _ _)) s).mp hx
    · rintro ⟨i, hi, hx⟩
      rw [if_neg h1] at hx
      exact ⟨i, _, Nat.zero_le _, get i hi, (sup_hull (hullOf_is (twice_ne k1 _ _)) s).mpr hx⟩
end
theorem PenAlong : fleuronlaw18_PenAlong.Pure := by
  intro l m s hl hm _
  have hl1 := hl.1.1
  have hm1 := hm.1.1
  refine ⟨2000, ?_⟩
  unfold fleuronlaw18_PenAlong.P
  rw [few_is 70 (by omega) (by omega) [l] (by simp; omega) (by simp) 2000 (by simp), few_is 60 (by omega) (by omega) [m] (by simp; omega) (by simp) 2000 (by simp)]
  by_cases hf : ((sumLen [l] : Nat) : Int) ≤ 70
  case neg => left; rw [decide_eq_false hf]
  right
  refine ⟨by rw [decide_eq_true hf], ?_⟩
  by_cases hg : ((sumLen [m] : Nat) : Int) ≤ 60
  case neg => left; rw [decide_eq_false hg]
  right
  refine ⟨by rw [decide_eq_true hg], ?_⟩
  simp only [sumLen] at hf hg
  unfold pen_Along.f fleuronref18_Along.f fleuronref18_Drawn.f pen_ValidLine.f
  rw [valid_is, refValid_is l _ (by omega), refAll_is m (by omega) _ (by omega), refIn_is, isPoint_is, arePoints_is m (by omega)]
  cases hv : okPen l with
  | false => exact ⟨false, 2, rfl, rfl⟩
  | true =>
    simp only [Option.bind_some, if_true]
    by_cases h1 : 1 ≤ m.length
    case neg => rw [if_neg (by omega)]; exact ⟨false, 2, rfl, rfl⟩
    rw [if_pos (by omega), if_pos (by omega)]
    simp only [Option.bind_some]
    cases hall : m.all isPt with
    | false => exact ⟨false, 2, rfl, rfl⟩
    | true =>
      simp only [if_true]
      cases hs : isPt s with
      | false => exact ⟨false, 2, rfl, rfl⟩
      | true =>
        have hpt : ∀ x ∈ m, isPt x = true := List.all_eq_true.mp hall
        obtain ⟨r, hr, hr'⟩ := refAlong_is l hv m h1 (by omega) hpt s hs 1999 (by omega)
        simp only [if_true]
        rw [if_pos ⟨⟨h1, by omega⟩, along_ok l hv m h1 (by omega) hpt s hs⟩]
        refine ⟨_, 0, rfl, ?_⟩
        rw [fleuronref18_Along.j0, if_neg (by simp)]
        obtain ⟨h, hh, hr⟩ := Option.bind_eq_some_iff.mp hr
        rw [hh]
        simp only [Option.bind_some]
        rw [hr]
        have : r = (List.range (pieces m)).any (hsA l m s.f0 s.f1) := by rw [Bool.eq_iff_iff, hr', along_any l hv m h1 (by omega) hpt s hs]
        rw [this]; rfl
end Go.Proofs.Ytnjlcmaelacjkaa.Pure

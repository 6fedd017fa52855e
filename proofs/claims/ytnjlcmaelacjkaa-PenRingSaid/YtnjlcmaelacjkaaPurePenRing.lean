/-
  PenRing, its plain law: sums commute and associate; a sum with a point moves; growing twice.
-/
import Derived.Test.YtnjlcmaelacjkaaSaysPenRing
import Derived.Test.YtnjlcmaelacjkaaLibSum
import Derived.Test.YtnjlcmaelacjkaaLibGrow
import Derived.Test.YtnjlcmaelacjkaaLibRefValid
set_option linter.unusedVariables false
set_option linter.unusedSimpArgs false
namespace Go.Proofs.Ytnjlcmaelacjkaa.Pure
open Go.RowKit Go.Proofs.Ytnjlcmaelacjkaa.PD3 Go.Proofs.YtnjlcmaelacjkaaW.PrintWords Go.Proofs.YtnjlcmaelacjkaaW.PrintLast Go.Proofs.YtnjlcmaelacjkaaW.PrintMore Go.Proofs.Ytnjlcmaelacjkaa.PD3.HG
theorem gi_in (n : Int) : 0 ≤ gi n ∧ gi n ≤ 30 := by
  have u : IntKind.u64.wrap n = n % 18446744073709551616 := by simp [IntKind.wrap, IntKind.bits, IntKind.signed]
  unfold gi
  rw [u, Int.tmod_eq_emod_of_nonneg (by omega), wrap64_small (by omega) (by omega)]
  omega
theorem sums_swap' {a b : List S33} (ha : 1 ≤ a.length) (hb : 1 ≤ b.length) : hullOf (sums b a) = hullOf (sums a b) := hullOf_same (sums_ne hb ha) (sums_ne ha hb) (sums_comm b a) (sums_comm a b)
theorem sumRes_swap (a b : List S33) : sumRes b a = sumRes a b := by
  unfold sumRes
  cases ha : okPen a with
  | false => simp
  | true =>
    cases hb : okPen b with
    | false => simp
    | true =>
      obtain ⟨a1, a2, a3, a4⟩ := okPen_iff.mp ha
      obtain ⟨b1, b2, b3, b4⟩ := okPen_iff.mp hb
      rw [← hull_pts (sums_ne b1 a1), ← hull_pts (sums_ne a1 b1), sums_swap' a1 b1]
theorem sumRes_zero {a b : List S33} (h : (sumRes a b).2 = 0) : (sumRes a b).1 = hullOf (sums a b) ∧ okPen (hullOf (sums a b)) = true ∧ okPen a = true ∧ okPen b = true := by
  unfold sumRes at h ⊢
  cases ha : okPen a with
  | false => rw [ha] at h; simp at h
  | true =>
    cases hb : okPen b with
    | false => rw [ha, hb] at h; simp at h
    | true =>
      obtain ⟨a1, a2, a3, a4⟩ := okPen_iff.mp ha
      obtain ⟨b1, b2, b3, b4⟩ := okPen_iff.mp hb
      rw [ha, hb] at h
      have hs := hullOf_is (sums_ne a1 b1)
      cases hal : (sums a b).all isPt with
      | false => rw [hal] at h; simp at h
      | true =>
        rw [hal] at h
        by_cases hg : 64 < (hullOf (sums a b)).length
        · simp [hg] at h
        · refine ⟨by simp [hg], ?_, rfl, rfl⟩
          exact okPen_iff.mpr ⟨List.length_pos_iff.mpr hs.pen.ne, by omega, fun x hx => List.all_eq_true.mp hal x (hullOf_sub x hx), hs.pen⟩
theorem sumRes_codes {a b : List S33} (ha : okPen a = true) (hb : okPen b = true) : (sumRes a b).2 = 0 ∨ (sumRes a b).2 = 17 ∨ (sumRes a b).2 = 3 := by
  unfold sumRes
  rw [ha, hb]
  simp only [Bool.and_self, if_true]
  split
  · split <;> simp
  · simp
theorem sumRes_len' (a b : List S33) : (sumRes a b).1.length ≤ 64 := by
  unfold sumRes
  (repeat' split) <;> simp <;> omega
theorem same_codes (k : Nat) (x y : List S33) (h i : Int) (hx : x.length < k) (hxx : x.length ≤ 1000) (hh : h = 0 ∨ h = 17 ∨ h = 3) (hi : i = 0 ∨ i = 17 ∨ i = 3) (he : h = 0 → i = 0 → x = y) : fleuronlaw18_same.f k x y h i = some true := by
  unfold fleuronlaw18_same.f
  rcases hh with rfl | rfl | rfl
  · rcases hi with rfl | rfl | rfl
    · rw [if_pos rfl, if_pos rfl, same_is x y (by omega) k hx, decide_eq_true (he rfl rfl)]; rfl
    · rfl
    · rfl
  · rcases hi with rfl | rfl | rfl <;> rfl
  · rcases hi with rfl | rfl | rfl <;> rfl
theorem sums_one (a : List S33) (q : S33) : sums a [q] = a.map (mv q) := by
  induction a with
  | nil => rfl
  | cons p r ih =>
    have : sums (p :: r) [q] = [q].map (mv p) ++ sums r [q] := rfl
    rw [this, ih, List.map_cons, List.map_cons, mv_comm p q]; rfl
theorem PenRing : fleuronlaw18_PenRing.Pure := by
  intro l n hl _
  obtain ⟨a, b, c⟩ := l
  obtain ⟨n0, n1⟩ := n
  have ha1 := hl.1.1.1
  have hb1 := hl.2.1.1.1
  have hc1 := hl.2.2.1.1
  simp only at ha1 hb1 hc1
  refine ⟨20000, ?_⟩
  unfold fleuronlaw18_PenRing.P
  rw [few_is 130 (by omega) (by omega) [a, b, c] (by simp; omega) (by simp) 20000 (by simp), refValid_is a _ (by omega), refValid_is b _ (by omega), refValid_is c _ (by omega)]
  by_cases hf : ((sumLen [a, b, c] : Nat) : Int) ≤ 130
  case neg => left; rw [decide_eq_false hf]
  right
  refine ⟨by rw [decide_eq_true hf], ?_⟩
  cases ha : okPen a with
  | false => left; rfl
  | true =>
  right; refine ⟨rfl, ?_⟩
  cases hb : okPen b with
  | false => left; rfl
  | true =>
  right; refine ⟨rfl, ?_⟩
  cases hc : okPen c with
  | false => left; rfl
  | true =>
  right
  obtain ⟨a1, a2, a3, a4⟩ := okPen_iff.mp ha
  obtain ⟨b1, b2, b3, b4⟩ := okPen_iff.mp hb
  obtain ⟨c1, c2, c3, c4⟩ := okPen_iff.mp hc
  refine ⟨rfl, b1, (sumRes a b).1, (sumRes a b).2, sum_is a b _ (by omega), by rw [sum_is b a _ (by omega), sumRes_swap], ?_, (sumRes b c).1, (sumRes b c).2, sum_is b c _ (by omega), ?_, ?_⟩
  · have := sumRes_len' a b
    rw [same_is _ _ (by omega) _ (by omega), decide_eq_true rfl]
  · by_cases hz : (sumRes a b).2 = 0 ∧ (sumRes b c).2 = 0
    case neg => exact .inr hz
    left
    obtain ⟨e1, k1, -, -⟩ := sumRes_zero hz.1
    obtain ⟨e2, k2, -, -⟩ := sumRes_zero hz.2
    refine ⟨hz.1, hz.2, (sumRes (sumRes a b).1 c).1, (sumRes (sumRes a b).1 c).2, (sumRes a (sumRes b c).1).1, (sumRes a (sumRes b c).1).2, sum_is _ _ _ (by omega), sum_is _ _ _ (by omega), ?_⟩
    rw [e1, e2]
    have := sumRes_len' (hullOf (sums a b)) c
    refine same_codes _ _ _ _ _ (by omega) (by omega) (sumRes_codes k1 hc) (sumRes_codes ha k2) (fun z1 z2 => ?_)
    rw [(sumRes_zero z1).1, (sumRes_zero z2).1]
    obtain ⟨p1, -, -, -⟩ := okPen_iff.mp k1
    obtain ⟨p2, -, -, -⟩ := okPen_iff.mp k2
    have h1 := hullOf_is (sums_ne a1 b1)
    have h2 := hullOf_is (sums_ne b1 c1)
    refine hullOf_same (sums_ne p1 c1) (sums_ne a1 p2) ?_ ?_
    · exact ((Sup.sums (Sup.of_sub h1.sub) (Sup.refl c)).trans (sums_assoc a b c).1).trans (Sup.sums (Sup.refl a) h2.sup)
    · exact ((Sup.sums (Sup.refl a) (Sup.of_sub h2.sub)).trans (sums_assoc a b c).2).trans (Sup.sums h1.sup (Sup.refl c))
  · have hq : isPt (rd_T33 b 0) = true := b3 _ (rd_in b 0 (by omega))
    have bq := isPt_iff.mp hq
    have kq : okPen [rd_T33 b 0] = true := okPen_iff.mpr ⟨by simp, by simp, fun x hx => by rw [List.mem_singleton.mp hx]; exact hq, pen_one _⟩
    refine ⟨(sumRes a [rd_T33 b 0]).1, (sumRes a [rd_T33 b 0]).2, sum_is _ _ _ (by omega), ?_, ?_, ?_⟩
    · intro j hj
      unfold sumRes at hj ⊢
      rw [ha, kq, sums_one, hullOf_pen (pen_mv a4 _)] at hj
      rw [ha, kq, sums_one, hullOf_pen (pen_mv a4 _)]
      simp only [Bool.and_self, if_true] at hj ⊢
      by_cases hal : (a.map (mv (rd_T33 b 0))).all isPt = true
      case neg => rw [if_neg hal] at hj; simp at hj
      rw [if_pos hal, if_neg (by simp; omega)] at hj ⊢
      simp only [List.length_map] at hj ⊢
      have bx := isPt_iff.mp (a3 _ (rd_in a j hj))
      refine ⟨hj, ?_⟩
      rw [rd_get _ j (by simpa using hj), List.getElem_map, ← rd_get a j hj, wrap64_small (by omega) (by omega), wrap64_small (by omega) (by omega)]
      rfl
    · unfold sumRes
      rw [ha, kq, sums_one, hullOf_pen (pen_mv a4 _)]
      simp only [Bool.and_self, if_true]
      by_cases hal : (a.map (mv (rd_T33 b 0))).all isPt = true
      case neg => rw [if_neg hal]; right; rfl
      rw [if_pos hal, if_neg (by simp; omega)]
      left; simp
    · have g0 := gi_in n0
      have g1 := gi_in n1
      simp only
      have hm : 0 ≤ gi n0 * gi n1 ∧ gi n0 * gi n1 ≤ 900 := ⟨Int.mul_nonneg g0.1 g1.1, by
        have := Int.mul_le_mul g0.2 g1.2 g1.1 (by omega); omega⟩
      rw [wrap64_small (n := gi n0 * gi n1) (by omega) (by omega)]
      refine ⟨(growRes a (gi n0)).1, (growRes a (gi n0)).2, grow_is _ _ _ (by omega), (growRes a (gi n0 * gi n1)).1, (growRes a (gi n0 * gi n1)).2, grow_is _ _ _ (by omega), ?_⟩
      have ne0 : a.map (gr (gi n0)) ≠ [] := by intro e; have := congrArg List.length e; simp at this; rw [this] at a1; simp at a1
      have hh := hullOf_is ne0
      have hlen := hullOf_len (a.map (gr (gi n0)))
      rw [List.length_map] at hlen
      have hly : (growRes a (gi n0 * gi n1)).1.length ≤ 64 := by
        have := hullOf_len (a.map (gr (gi n0 * gi n1)))
        rw [List.length_map] at this
        unfold growRes
        (repeat' split) <;> simp <;> omega
      have r0 : growRes a (gi n0) = if (a.map (gr (gi n0))).all isPt then (hullOf (a.map (gr (gi n0))), 0) else ([], 17) := by
        unfold growRes; rw [ha, decide_eq_true g0.1, decide_eq_true (show gi n0 ≤ 1000 by omega)]; rfl
      cases hal : (a.map (gr (gi n0))).all isPt with
      | false => left; rw [r0, hal]; rfl
      | true =>
        right
        rw [r0, hal, if_pos rfl]
        have kx : okPen (hullOf (a.map (gr (gi n0)))) = true := okPen_iff.mpr ⟨List.length_pos_iff.mpr hh.pen.ne, by omega, fun x hx => List.all_eq_true.mp hal x (hullOf_sub x hx), hh.pen⟩
        have em : (a.map (gr (gi n0))).map (gr (gi n1)) = a.map (gr (gi n0 * gi n1)) := by
          rw [List.map_map]; exact List.map_congr_left (fun x _ => gr_gr _ _ x)
        have u1 : Sup ((hullOf (a.map (gr (gi n0)))).map (gr (gi n1))) (a.map (gr (gi n0 * gi n1))) := by rw [← em]; exact (Sup.of_sub hh.sub).gr g1.1
        have u2 : Sup (a.map (gr (gi n0 * gi n1))) ((hullOf (a.map (gr (gi n0)))).map (gr (gi n1))) := by rw [← em]; exact hh.sup.gr g1.1
        have v1 : (hullOf (a.map (gr (gi n0)))).map (gr (gi n1)) ≠ [] := by intro e; exact hh.pen.ne (List.map_eq_nil_iff.mp e)
        have v2 : a.map (gr (gi n0 * gi n1)) ≠ [] := by intro e; exact ne0 (by rw [List.map_eq_nil_iff] at e ⊢; exact e)
        have heq := hullOf_same v1 v2 u1 u2
        refine ⟨rfl, ?_, by rw [same_is _ _ (by omega) _ (by omega), decide_eq_true rfl]⟩
        rw [grow_is _ _ _ (by omega)]
        congr 1
        unfold growRes
        rw [kx, ha, decide_eq_true g1.1, decide_eq_true (show gi n1 ≤ 1000 by omega), decide_eq_true hm.1, decide_eq_true (show gi n0 * gi n1 ≤ 1000 by omega), ← hull_pts v1, ← hull_pts v2, heq]
end Go.Proofs.Ytnjlcmaelacjkaa.Pure

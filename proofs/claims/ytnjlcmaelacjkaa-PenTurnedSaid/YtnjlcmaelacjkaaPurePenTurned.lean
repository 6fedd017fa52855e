/-
  PenTurned, its plain law: Turn twice is the pen itself; Covers and Touch against a turned pen and a sum.
-/
import Derived.Test.YtnjlcmaelacjkaaSaysPenTurned
import Derived.Test.YtnjlcmaelacjkaaLibSum
import Derived.Test.YtnjlcmaelacjkaaLibTurn
import Derived.Test.YtnjlcmaelacjkaaLibTouch
import Derived.Test.YtnjlcmaelacjkaaLibRef
set_option linter.unusedVariables false
set_option linter.unusedSimpArgs false
namespace Go.Proofs.Ytnjlcmaelacjkaa.Pure
open Go.RowKit Go.Proofs.Ytnjlcmaelacjkaa.PD3 Go.Proofs.YtnjlcmaelacjkaaW.PrintWords Go.Proofs.YtnjlcmaelacjkaaW.PrintLast Go.Proofs.YtnjlcmaelacjkaaW.PrintMore Go.Proofs.Ytnjlcmaelacjkaa.PD3.HG
theorem twice_one (l : List S33) (p : S33) : Sup (twice l p p) (l.map (mv p)) ∧ Sup (l.map (mv p)) (twice l p p) :=
  ⟨Sup.of_sub fun s hs => by rcases List.mem_append.mp hs with h | h <;> exact h, Sup.of_sub fun s hs => List.mem_append.mpr (.inl hs)⟩
theorem ng_ng_map (l : List S33) : (l.map ng).map ng = l := by
  rw [List.map_map]; conv => rhs; rw [← List.map_id l]
  exact List.map_congr_left (fun x _ => ng_ng x)
theorem wide {d a b : S33} (hd : isPt d = true) (ha : isPt a = true) (hb : isPt b = true) : wrap64 (wrap64 (d.f0 * wrap64 (a.f0 + b.f0)) + wrap64 (d.f1 * wrap64 (a.f1 + b.f1))) = dt d.f0 d.f1 a + dt d.f0 d.f1 b := by
  have bd := isPt_iff.mp hd
  have ba := isPt_iff.mp ha
  have bb := isPt_iff.mp hb
  have m0 := mul_pt bd.1 ba.1
  have m1 := mul_pt bd.2 ba.2
  have m2 := mul_pt bd.1 bb.1
  have m3 := mul_pt bd.2 bb.2
  unfold dt
  rw [wrap64_small (n := a.f0 + b.f0) (by omega) (by omega), wrap64_small (n := a.f1 + b.f1) (by omega) (by omega), Int.mul_add, Int.mul_add, wrap64_small (n := d.f0 * a.f0 + d.f0 * b.f0) (by omega) (by omega), wrap64_small (n := d.f1 * a.f1 + d.f1 * b.f1) (by omega) (by omega), wrap64_small (by omega) (by omega)]
  omega
theorem okTurn {a : List S33} (h : okPen a = true) : okPen (hullOf (a.map ng)) = true ∧ IsHull (a.map ng) (hullOf (a.map ng)) := by
  obtain ⟨a1, a2, a3, a4⟩ := okPen_iff.mp h
  have hh := hullOf_is (l := a.map ng) (by intro e; have := congrArg List.length e; simp at this; rw [this] at a1; simp at a1)
  have hlen := hullOf_len (a.map ng)
  rw [List.length_map] at hlen
  refine ⟨okPen_iff.mpr ⟨List.length_pos_iff.mpr hh.pen.ne, by omega, fun x hx => ngs_pt a3 x (hullOf_sub x hx), hh.pen⟩, hh⟩
theorem PenTurned : fleuronlaw18_PenTurned.Pure := by
  intro a b c ha hb _
  obtain ⟨p, s, d⟩ := c
  have ha1 := ha.1.1
  have hb1 := hb.1.1
  refine ⟨20000, ?_⟩
  unfold fleuronlaw18_PenTurned.P
  rw [few_is 130 (by omega) (by omega) [a, b] (by simp; omega) (by simp) 20000 (by simp)]
  by_cases hf : ((sumLen [a, b] : Nat) : Int) ≤ 130
  case neg => left; rw [decide_eq_false hf]
  right
  refine ⟨by rw [decide_eq_true hf], ?_⟩
  rw [turn_is a]
  unfold turnRes
  cases hk : okPen a with
  | false => left; rfl
  | true =>
    right
    obtain ⟨ht, hh⟩ := okTurn hk
    obtain ⟨a1, a2, a3, a4⟩ := okPen_iff.mp hk
    obtain ⟨t1, t2, t3, t4⟩ := okPen_iff.mp ht
    have s1 : Sup ((hullOf (a.map ng)).map ng) a := by have := (Sup.of_sub hh.sub).ng; rw [ng_ng_map] at this; exact this
    have s2 : Sup a ((hullOf (a.map ng)).map ng) := by have := hh.sup.ng; rw [ng_ng_map] at this; exact this
    obtain ⟨r, c1, c2⟩ := covers_is a p p s
    obtain ⟨r', c3, c4⟩ := covers_is (hullOf (a.map ng)) s s p
    rw [hk] at c1
    rw [ht] at c3
    have hback : hullOf ((hullOf (a.map ng)).map ng) = a := by
      rw [hullOf_same (m := a) (by intro e; have := congrArg List.length e; simp at this; rw [this] at t1; simp at t1) a4.ne s1 s2, hullOf_pen a4]
    obtain ⟨is, i1, i2⟩ : ∃ is : Bool × Int, pen_Covers.f a p.f0 p.f1 p.f0 p.f1 s.f0 s.f1 = some (is.1, is.2) ∧ pen_Covers.f (hullOf (a.map ng)) s.f0 s.f1 s.f0 s.f1 p.f0 p.f1 = some (is.1, is.2) := by
      cases hp : isPt p with
      | false => rw [hp] at c1 c3; simp only [Bool.and_false, Bool.false_and, Bool.and_self, Bool.false_eq_true, if_false] at c1 c3; exact ⟨(false, 2), c1, c3⟩
      | true =>
        cases hs : isPt s with
        | false => rw [hs] at c1 c3; simp only [Bool.and_false, Bool.false_and, Bool.and_self, Bool.false_eq_true, if_false] at c1 c3; exact ⟨(false, 2), c1, c3⟩
        | true =>
          rw [hp, hs] at c1 c3
          simp only [Bool.and_self, if_true] at c1 c3
          have c2 := c2 hk hp hp hs
          have c4 := c4 ht hs hs hp
          have : r' = r := by
            rw [Bool.eq_iff_iff, c2, c4]
            constructor
            · intro h
              exact ((turn_about (h.trans (twice_one _ s).1)).trans (s1.mv p)).trans (twice_one a p).2
            · intro h
              exact ((turn_about (h.trans (twice_one _ p).1)).trans (hh.sup.mv s)).trans (twice_one _ s).2
          rw [this] at c3
          exact ⟨(r, 0), c1, c3⟩
    refine ⟨hullOf (a.map ng), is, rfl, ?_, i1, i2, ?_, (sumRes a b).1, (sumRes a b).2, sum_is a b _ (by omega), ?_⟩
    · rw [turn_is]; unfold turnRes; rw [ht, if_pos rfl, hback]
    · rw [same_is a a (by omega) _ (by omega), decide_eq_true rfl]
    · unfold sumRes
      rw [hk, refIn_is]
      cases hkb : okPen b with
      | false => left; left; simp
      | true =>
        obtain ⟨b1, b2, b3, b4⟩ := okPen_iff.mp hkb
        have hs := hullOf_is (sums_ne a1 b1)
        rw [show (true && true) = true from rfl, if_pos rfl]
        cases hal : (sums a b).all isPt with
        | false => left; left; simp
        | true =>
          rw [if_pos rfl]
          by_cases hg : 64 < (hullOf (sums a b)).length
          · left; left; rw [if_pos hg]; decide
          rw [if_neg hg]
          cases hd : isPt d with
          | false => left; right; exact ⟨rfl, rfl⟩
          | true =>
            right
            have hks : okPen (hullOf (sums a b)) = true := okPen_iff.mpr ⟨List.length_pos_iff.mpr hs.pen.ne, by omega, fun x hx => List.all_eq_true.mp hal x (hullOf_sub x hx), hs.pen⟩
            obtain ⟨k1, k2, k3, k4⟩ := okPen_iff.mp hks
            have ta := touchP_is a1 a3 hd
            have tb := touchP_is b1 b3 hd
            have ts := touchP_is k1 k3 hd
            refine ⟨rfl, rfl, (touchP a d).f0, (touchP a d).f1, (touchP b d).f0, (touchP b d).f1, (touchP (hullOf (sums a b)) d).f0, (touchP (hullOf (sums a b)) d).f1, ?_, ?_, ?_, ?_⟩
            · rw [touch_is a d]; unfold touchRes; rw [hk, hd]; rfl
            · rw [touch_is b d]; unfold touchRes; rw [hkb, hd]; rfl
            · rw [touch_is (hullOf (sums a b)) d]; unfold touchRes; rw [hks, hd]; rfl
            · rw [wide hd (a3 _ ta.1) (b3 _ tb.1), far_sums hs ta.1 ta.2 tb.1 tb.2 ts.1 ts.2]
              exact (farV_is hd (k3 _ ts.1)).symm
end Go.Proofs.Ytnjlcmaelacjkaa.Pure

/- What functions of the program come to, each with the proof that the machine's call does just that; written by a program of this session out of the translation. -/
import Derived.Test.YtdhgekogaoiidaaPT6x0
import Derived.Test.YtdhgekogaoiidaaPT6x1
import Derived.Test.YtdhgekogaoiidaaPT6x3
import Derived.Test.YtdhgekogaoiidaaPT6x4
import Derived.Test.YtdhgekogaoiidaaPT6x5
namespace Go.Proofs.Ytdhgekogaoiidaa.PT6
open Go.RowKit Go.Proofs.YtdhgekogaoiidaaW.PrintWords Go.Proofs.YtdhgekogaoiidaaW.PrintLast Go.Proofs.YtdhgekogaoiidaaW.PrintMore
attribute [local go_sem] max2_int min2_int max_two min_two max_three min_three max_four min_four   -- for this text's walks alone
set_option linter.unusedVariables false
set_option linter.unusedSimpArgs false

attribute [local go_sem high] eqA24
/-! ### wind_Convex: function 32 -/
def wind_Convex.f (k : Nat) (l0 : List (S24)) : Option (Bool × Int) := (wind_valid.f l0).bind fun t139 => (if t139 = true then (if (l0.length : Int) < 3 then (if (l0.length : Int) = 1 then (some (true, 0)) else (if 0 < (l0.length : Int) then (if 1 < (l0.length : Int) then (some ((!(((rd_T24 l0 0).f0) == ((rd_T24 l0 1).f0)) || (!(((rd_T24 l0 0).f1) == ((rd_T24 l0 1).f1)))), 0)) else (none)) else (none))) else ((wind_convex.f k l0).bind fun t142 => (some (t142, 0)))) else (some (false, 2)))
theorem wind_Convex.mono : ∀ a0 k, LeO (wind_Convex.f k a0) (wind_Convex.f (k + 1) a0) := by
  intro a0 k
  unfold wind_Convex.f
  repeat' first
      | (with_reducible exact wind_convex.mono _ _)
      | (with_reducible exact LeO.refl _)
      | (with_reducible exact LeO.none _)
      | (with_reducible refine LeO.ite ?_ ?_)
      | (with_reducible refine LeO.bind ?_ (fun _ => ?_))
      | exact wind_convex.mono _ _
      | exact LeO.none _
      | refine LeO.ite ?_ ?_
      | refine LeO.bind ?_ (fun _ => ?_)
set_option maxHeartbeats 8000000 in
set_option maxRecDepth 100000 in
theorem wind_Convex.calls (k : Nat) (A0 : Option Addr) (c0 : Nat) (l0 : List (S24)) (r1 : Bool) (r2 : Int) (w : World) (hr0 : Kd.C k24 w A0 l0.length l0) (hc0 : l0.length ≤ c0) (h : wind_Convex.f k l0 = some (r1, r2)) :
    Calls Try.prog 32 #[.slice A0 l0.length c0] w fun e w' => e = .returned (.tuple #[.bool r1, .int .i64 r2]) ∧ Below w.heap.size w w' := by
  have hu24 := Try.underlying24
  have HR0 := Aside0.mk hr0
  have HC0 := Aside0.mk hc0
  clear hr0 hc0
  have HB := Aside0.mk (Below.refl w.heap.size w)
  have H : ((wind_valid.f l0).bind fun t139 => (if t139 = true then (if (l0.length : Int) < 3 then (if (l0.length : Int) = 1 then (some (true, 0)) else (if 0 < (l0.length : Int) then (if 1 < (l0.length : Int) then (some ((!(((rd_T24 l0 0).f0) == ((rd_T24 l0 1).f0)) || (!(((rd_T24 l0 0).f1) == ((rd_T24 l0 1).f1)))), 0)) else (none)) else (none))) else ((wind_convex.f k l0).bind fun t142 => (some (t142, 0)))) else (some (false, 2)))) = some (r1, r2) := h
  clear h
  replace H := Option.bind_eq_some_iff.mp H
  obtain ⟨t139, A20, H⟩ := H
  replace H : (if t139 = true then (if (l0.length : Int) < 3 then (if (l0.length : Int) = 1 then (some (true, 0)) else (if 0 < (l0.length : Int) then (if 1 < (l0.length : Int) then (some ((!(((rd_T24 l0 0).f0) == ((rd_T24 l0 1).f0)) || (!(((rd_T24 l0 0).f1) == ((rd_T24 l0 1).f1)))), 0)) else (none)) else (none))) else ((wind_convex.f k l0).bind fun t142 => (some (t142, 0)))) else (some (false, 2))) = some (r1, r2) := H
  have A2 := Aside0.mk A20
  clear A20
  by_cases c3 : t139 = true
  · subst c3
    have H1 : (if (l0.length : Int) < 3 then (if (l0.length : Int) = 1 then (some (true, 0)) else (if 0 < (l0.length : Int) then (if 1 < (l0.length : Int) then (some ((!(((rd_T24 l0 0).f0) == ((rd_T24 l0 1).f0)) || (!(((rd_T24 l0 0).f1) == ((rd_T24 l0 1).f1)))), 0)) else (none)) else (none))) else ((wind_convex.f k l0).bind fun t142 => (some (t142, 0)))) = some (r1, r2) := by rw [if_pos rfl] at H; exact H
    clear H
    have H := H1
    clear H1
    by_cases c4 : (l0.length : Int) < 3
    · rw [if_pos c4] at H
      have c4b0 : decide ((l0.length : Int) < 3) = true := decide_eq_true c4
      have c4b1 : decide (l0.length < 3) = true := decide_eq_true (by omega)
      clear c4
      by_cases c5 : (l0.length : Int) = 1
      · rw [if_pos c5] at H
        have c5b0 : ((l0.length : Int) == 1) = true := beq_iff_eq.mpr c5
        have c5b1 : ((l0.length : Int) != 1) = false := bne_eq_false_iff_eq.mpr c5
        clear c5
        simp only [Option.some.injEq, Prod.mk.injEq] at H
        obtain ⟨rfl, rfl⟩ := H
        go_enter Try.func32, Try.ntmps32
        go_wp2_with (first | (go_at_call 51; (with_reducible refine (wind_valid.calls _ _ l0 true _ ?side1 ?side2 A2.out).mono ?_); (case side1 => repeat (first | exact HR0.out | (with_reducible refine Kd.C_alloc ?_ _) | (with_reducible refine Kd.C_drewN ?_ _) | (with_reducible refine Kd.C_drew ?_))); (case side2 => exact HC0.out); rintro e w6 ⟨rfl, hb⟩; have n0_ := Aside0.mk (below_step (by repeat (first | (with_reducible first | exact HB.out | apply below_alloc | apply pw_below_drewN | apply below_drew1) | exact HB.out)) hb); clear HB; have HB := n0_; clear n0_; (try clear hb); (try clear hb2); (try clear hk); (try clear hi)))
        repeat (go_quiet (first | (go_at_call 51; (with_reducible refine (wind_valid.calls _ _ l0 true _ ?side1 ?side2 A2.out).mono ?_); (case side1 => repeat (first | exact HR0.out | (with_reducible refine Kd.C_alloc ?_ _) | (with_reducible refine Kd.C_drewN ?_ _) | (with_reducible refine Kd.C_drew ?_))); (case side2 => exact HC0.out); rintro e w6 ⟨rfl, hb⟩; have n0_ := Aside0.mk (below_step (by repeat (first | (with_reducible first | exact HB.out | apply below_alloc | apply pw_below_drewN | apply below_drew1) | exact HB.out)) hb); clear HB; have HB := n0_; clear n0_; (try clear hb); (try clear hb2); (try clear hk); (try clear hi))); try go_wp2_with (first | (go_at_call 51; (with_reducible refine (wind_valid.calls _ _ l0 true _ ?side1 ?side2 A2.out).mono ?_); (case side1 => repeat (first | exact HR0.out | (with_reducible refine Kd.C_alloc ?_ _) | (with_reducible refine Kd.C_drewN ?_ _) | (with_reducible refine Kd.C_drew ?_))); (case side2 => exact HC0.out); rintro e w6 ⟨rfl, hb⟩; have n0_ := Aside0.mk (below_step (by repeat (first | (with_reducible first | exact HB.out | apply below_alloc | apply pw_below_drewN | apply below_drew1) | exact HB.out)) hb); clear HB; have HB := n0_; clear n0_; (try clear hb); (try clear hb2); (try clear hk); (try clear hi))))
        go_ret2
        exact ⟨by first | rfl | (simp [errW_none, errW_some] <;> rfl) | (simp [*, errW_none, errW_some] <;> rfl), by repeat (first | (with_reducible first | exact HB.out | apply below_alloc | apply pw_below_drewN | apply below_drew1) | exact HB.out)⟩
      · rw [if_neg c5] at H
        have c5b0 : ((l0.length : Int) == 1) = false := beq_eq_false_iff_ne.mpr c5
        have c5b1 : ((l0.length : Int) != 1) = true := bne_iff_ne.mpr c5
        by_cases c7 : 0 < (l0.length : Int)
        · rw [if_pos c7] at H
          have c7b0 : decide (0 < (l0.length : Int)) = true := decide_eq_true c7
          have c7b1 : decide (0 < l0.length) = true := decide_eq_true (by omega)
          clear c7
          by_cases c8 : 1 < (l0.length : Int)
          · rw [if_pos c8] at H
            have c8b0 : decide (1 < (l0.length : Int)) = true := decide_eq_true c8
            have c8b1 : decide (1 < l0.length) = true := decide_eq_true (by omega)
            clear c8
            simp only [Option.some.injEq, Prod.mk.injEq] at H
            obtain ⟨rfl, rfl⟩ := H
            go_enter Try.func32, Try.ntmps32
            go_wp2_with (first | (go_at_call 51; (with_reducible refine (wind_valid.calls _ _ l0 true _ ?side1 ?side2 A2.out).mono ?_); (case side1 => repeat (first | exact HR0.out | (with_reducible refine Kd.C_alloc ?_ _) | (with_reducible refine Kd.C_drewN ?_ _) | (with_reducible refine Kd.C_drew ?_))); (case side2 => exact HC0.out); rintro e w9 ⟨rfl, hb⟩; have n0_ := Aside0.mk (below_step (by repeat (first | (with_reducible first | exact HB.out | apply below_alloc | apply pw_below_drewN | apply below_drew1) | exact HB.out)) hb); clear HB; have HB := n0_; clear n0_; (try clear hb); (try clear hb2); (try clear hk); (try clear hi); have p140 : 0 ≤ (0 : Int) := (by omega); have q140 : 0 < (l0.length : Int) := of_decide_eq_true (by first | (with_reducible assumption) | assumption); obtain ⟨ad140, e140, hx140_0, hx140_1⟩ := at_T24 HR0.out 0 p140 q140; cases e140; have qi140 : (0 < l0.length) = True := eq_true (by omega); (try rw [show ((0 : Int)).toNat = 0 from rfl] at hx140_0); (try rw [show 0 * 2 = 0 from rfl] at hx140_0); (try rw [Addr.add_zero'] at hx140_0); (try rw [show ((0 : Int)).toNat = 0 from rfl] at hx140_1); (try rw [show 0 * 2 = 0 from rfl] at hx140_1); (try rw [Addr.add_zero'] at hx140_1); replace hx140_0 := (HB.out.cell (World.block_lt_of_cell? w _ hx140_0)).trans hx140_0; replace hx140_1 := (HB.out.cell (World.block_lt_of_cell? w _ hx140_1)).trans hx140_1; replace p140 := eq_true p140; replace q140 := eq_true q140; have p141 : 0 ≤ (1 : Int) := (by omega); have q141 : 1 < (l0.length : Int) := of_decide_eq_true (by first | (with_reducible assumption) | assumption); obtain ⟨ad141, e141, hx141_0, hx141_1⟩ := at_T24 HR0.out 1 p141 q141; obtain rfl : ad140 = ad141 := (by injection e141); (try simp only [show (1 : Int).toNat = 1 from rfl, Nat.reduceMul, Nat.reduceEqDiff, Go.Addr.add, ↓reduceIte] at hx141_0); (try simp only [show (1 : Int).toNat = 1 from rfl, Nat.reduceMul, Nat.reduceEqDiff, Go.Addr.add, ↓reduceIte] at hx141_1); have qi141 : (1 < l0.length) = True := eq_true (by omega); (try rw [show ((1 : Int)).toNat = 1 from rfl] at hx141_0); (try rw [show 1 * 2 = 2 from rfl] at hx141_0); (try rw [show ((1 : Int)).toNat = 1 from rfl] at hx141_1); (try rw [show 1 * 2 = 2 from rfl] at hx141_1); replace hx141_0 := (HB.out.cell (World.block_lt_of_cell? w _ hx141_0)).trans hx141_0; replace hx141_1 := (HB.out.cell (World.block_lt_of_cell? w _ hx141_1)).trans hx141_1; replace p141 := eq_true p141; replace q141 := eq_true q141))
            repeat (go_quiet (first | (go_at_call 51; (with_reducible refine (wind_valid.calls _ _ l0 true _ ?side1 ?side2 A2.out).mono ?_); (case side1 => repeat (first | exact HR0.out | (with_reducible refine Kd.C_alloc ?_ _) | (with_reducible refine Kd.C_drewN ?_ _) | (with_reducible refine Kd.C_drew ?_))); (case side2 => exact HC0.out); rintro e w9 ⟨rfl, hb⟩; have n0_ := Aside0.mk (below_step (by repeat (first | (with_reducible first | exact HB.out | apply below_alloc | apply pw_below_drewN | apply below_drew1) | exact HB.out)) hb); clear HB; have HB := n0_; clear n0_; (try clear hb); (try clear hb2); (try clear hk); (try clear hi); have p140 : 0 ≤ (0 : Int) := (by omega); have q140 : 0 < (l0.length : Int) := of_decide_eq_true (by first | (with_reducible assumption) | assumption); obtain ⟨ad140, e140, hx140_0, hx140_1⟩ := at_T24 HR0.out 0 p140 q140; cases e140; have qi140 : (0 < l0.length) = True := eq_true (by omega); (try rw [show ((0 : Int)).toNat = 0 from rfl] at hx140_0); (try rw [show 0 * 2 = 0 from rfl] at hx140_0); (try rw [Addr.add_zero'] at hx140_0); (try rw [show ((0 : Int)).toNat = 0 from rfl] at hx140_1); (try rw [show 0 * 2 = 0 from rfl] at hx140_1); (try rw [Addr.add_zero'] at hx140_1); replace hx140_0 := (HB.out.cell (World.block_lt_of_cell? w _ hx140_0)).trans hx140_0; replace hx140_1 := (HB.out.cell (World.block_lt_of_cell? w _ hx140_1)).trans hx140_1; replace p140 := eq_true p140; replace q140 := eq_true q140; have p141 : 0 ≤ (1 : Int) := (by omega); have q141 : 1 < (l0.length : Int) := of_decide_eq_true (by first | (with_reducible assumption) | assumption); obtain ⟨ad141, e141, hx141_0, hx141_1⟩ := at_T24 HR0.out 1 p141 q141; obtain rfl : ad140 = ad141 := (by injection e141); (try simp only [show (1 : Int).toNat = 1 from rfl, Nat.reduceMul, Nat.reduceEqDiff, Go.Addr.add, ↓reduceIte] at hx141_0); (try simp only [show (1 : Int).toNat = 1 from rfl, Nat.reduceMul, Nat.reduceEqDiff, Go.Addr.add, ↓reduceIte] at hx141_1); have qi141 : (1 < l0.length) = True := eq_true (by omega); (try rw [show ((1 : Int)).toNat = 1 from rfl] at hx141_0); (try rw [show 1 * 2 = 2 from rfl] at hx141_0); (try rw [show ((1 : Int)).toNat = 1 from rfl] at hx141_1); (try rw [show 1 * 2 = 2 from rfl] at hx141_1); replace hx141_0 := (HB.out.cell (World.block_lt_of_cell? w _ hx141_0)).trans hx141_0; replace hx141_1 := (HB.out.cell (World.block_lt_of_cell? w _ hx141_1)).trans hx141_1; replace p141 := eq_true p141; replace q141 := eq_true q141)); try go_wp2_with (first | (go_at_call 51; (with_reducible refine (wind_valid.calls _ _ l0 true _ ?side1 ?side2 A2.out).mono ?_); (case side1 => repeat (first | exact HR0.out | (with_reducible refine Kd.C_alloc ?_ _) | (with_reducible refine Kd.C_drewN ?_ _) | (with_reducible refine Kd.C_drew ?_))); (case side2 => exact HC0.out); rintro e w9 ⟨rfl, hb⟩; have n0_ := Aside0.mk (below_step (by repeat (first | (with_reducible first | exact HB.out | apply below_alloc | apply pw_below_drewN | apply below_drew1) | exact HB.out)) hb); clear HB; have HB := n0_; clear n0_; (try clear hb); (try clear hb2); (try clear hk); (try clear hi); have p140 : 0 ≤ (0 : Int) := (by omega); have q140 : 0 < (l0.length : Int) := of_decide_eq_true (by first | (with_reducible assumption) | assumption); obtain ⟨ad140, e140, hx140_0, hx140_1⟩ := at_T24 HR0.out 0 p140 q140; cases e140; have qi140 : (0 < l0.length) = True := eq_true (by omega); (try rw [show ((0 : Int)).toNat = 0 from rfl] at hx140_0); (try rw [show 0 * 2 = 0 from rfl] at hx140_0); (try rw [Addr.add_zero'] at hx140_0); (try rw [show ((0 : Int)).toNat = 0 from rfl] at hx140_1); (try rw [show 0 * 2 = 0 from rfl] at hx140_1); (try rw [Addr.add_zero'] at hx140_1); replace hx140_0 := (HB.out.cell (World.block_lt_of_cell? w _ hx140_0)).trans hx140_0; replace hx140_1 := (HB.out.cell (World.block_lt_of_cell? w _ hx140_1)).trans hx140_1; replace p140 := eq_true p140; replace q140 := eq_true q140; have p141 : 0 ≤ (1 : Int) := (by omega); have q141 : 1 < (l0.length : Int) := of_decide_eq_true (by first | (with_reducible assumption) | assumption); obtain ⟨ad141, e141, hx141_0, hx141_1⟩ := at_T24 HR0.out 1 p141 q141; obtain rfl : ad140 = ad141 := (by injection e141); (try simp only [show (1 : Int).toNat = 1 from rfl, Nat.reduceMul, Nat.reduceEqDiff, Go.Addr.add, ↓reduceIte] at hx141_0); (try simp only [show (1 : Int).toNat = 1 from rfl, Nat.reduceMul, Nat.reduceEqDiff, Go.Addr.add, ↓reduceIte] at hx141_1); have qi141 : (1 < l0.length) = True := eq_true (by omega); (try rw [show ((1 : Int)).toNat = 1 from rfl] at hx141_0); (try rw [show 1 * 2 = 2 from rfl] at hx141_0); (try rw [show ((1 : Int)).toNat = 1 from rfl] at hx141_1); (try rw [show 1 * 2 = 2 from rfl] at hx141_1); replace hx141_0 := (HB.out.cell (World.block_lt_of_cell? w _ hx141_0)).trans hx141_0; replace hx141_1 := (HB.out.cell (World.block_lt_of_cell? w _ hx141_1)).trans hx141_1; replace p141 := eq_true p141; replace q141 := eq_true q141)))
            go_ret2
            exact ⟨by first | rfl | (simp [errW_none, errW_some] <;> rfl) | (simp [*, errW_none, errW_some] <;> rfl), by repeat (first | (with_reducible first | exact HB.out | apply below_alloc | apply pw_below_drewN | apply below_drew1) | exact HB.out)⟩
          · rw [if_neg c8] at H
            exact absurd H (by simp)
        · rw [if_neg c7] at H
          exact absurd H (by simp)
    · rw [if_neg c4] at H
      have c4b0 : decide ((l0.length : Int) < 3) = false := decide_eq_false c4
      have c4b1 : decide (l0.length < 3) = false := decide_eq_false (by omega)
      clear c4
      replace H := Option.bind_eq_some_iff.mp H
      obtain ⟨t142, A100, H⟩ := H
      replace H : (some (t142, 0)) = some (r1, r2) := H
      have A10 := Aside0.mk A100
      clear A100
      simp only [Option.some.injEq, Prod.mk.injEq] at H
      obtain ⟨rfl, rfl⟩ := H
      go_enter Try.func32, Try.ntmps32
      go_wp2_with (first | (go_at_call 51; (with_reducible refine (wind_valid.calls _ _ l0 true _ ?side1 ?side2 A2.out).mono ?_); (case side1 => repeat (first | exact HR0.out | (with_reducible refine Kd.C_alloc ?_ _) | (with_reducible refine Kd.C_drewN ?_ _) | (with_reducible refine Kd.C_drew ?_))); (case side2 => exact HC0.out); rintro e w11 ⟨rfl, hb⟩; have n0_ := Aside0.mk (below_step (by repeat (first | (with_reducible first | exact HB.out | apply below_alloc | apply pw_below_drewN | apply below_drew1) | exact HB.out)) hb); clear HB; have HB := n0_; clear n0_; (try clear hb); (try clear hb2); (try clear hk); (try clear hi)) | (go_at_call 63; (with_reducible refine (wind_convex.calls k _ _ l0 t142 _ ?side1 ?side2 A10.out).mono ?_); (case side1 => repeat (first | exact (Kd.C_below HR0.out HB.out) | (with_reducible refine Kd.C_alloc ?_ _) | (with_reducible refine Kd.C_drewN ?_ _) | (with_reducible refine Kd.C_drew ?_))); (case side2 => exact HC0.out); rintro e w12 ⟨rfl, hb⟩; have n0_ := Aside0.mk (below_step (by repeat (first | (with_reducible first | exact HB.out | apply below_alloc | apply pw_below_drewN | apply below_drew1) | exact HB.out)) hb); clear HB; have HB := n0_; clear n0_; (try clear hb); (try clear hb2); (try clear hk); (try clear hi)))
      repeat (go_quiet (first | (go_at_call 51; (with_reducible refine (wind_valid.calls _ _ l0 true _ ?side1 ?side2 A2.out).mono ?_); (case side1 => repeat (first | exact HR0.out | (with_reducible refine Kd.C_alloc ?_ _) | (with_reducible refine Kd.C_drewN ?_ _) | (with_reducible refine Kd.C_drew ?_))); (case side2 => exact HC0.out); rintro e w11 ⟨rfl, hb⟩; have n0_ := Aside0.mk (below_step (by repeat (first | (with_reducible first | exact HB.out | apply below_alloc | apply pw_below_drewN | apply below_drew1) | exact HB.out)) hb); clear HB; have HB := n0_; clear n0_; (try clear hb); (try clear hb2); (try clear hk); (try clear hi)) | (go_at_call 63; (with_reducible refine (wind_convex.calls k _ _ l0 t142 _ ?side1 ?side2 A10.out).mono ?_); (case side1 => repeat (first | exact (Kd.C_below HR0.out HB.out) | (with_reducible refine Kd.C_alloc ?_ _) | (with_reducible refine Kd.C_drewN ?_ _) | (with_reducible refine Kd.C_drew ?_))); (case side2 => exact HC0.out); rintro e w12 ⟨rfl, hb⟩; have n0_ := Aside0.mk (below_step (by repeat (first | (with_reducible first | exact HB.out | apply below_alloc | apply pw_below_drewN | apply below_drew1) | exact HB.out)) hb); clear HB; have HB := n0_; clear n0_; (try clear hb); (try clear hb2); (try clear hk); (try clear hi))); try go_wp2_with (first | (go_at_call 51; (with_reducible refine (wind_valid.calls _ _ l0 true _ ?side1 ?side2 A2.out).mono ?_); (case side1 => repeat (first | exact HR0.out | (with_reducible refine Kd.C_alloc ?_ _) | (with_reducible refine Kd.C_drewN ?_ _) | (with_reducible refine Kd.C_drew ?_))); (case side2 => exact HC0.out); rintro e w11 ⟨rfl, hb⟩; have n0_ := Aside0.mk (below_step (by repeat (first | (with_reducible first | exact HB.out | apply below_alloc | apply pw_below_drewN | apply below_drew1) | exact HB.out)) hb); clear HB; have HB := n0_; clear n0_; (try clear hb); (try clear hb2); (try clear hk); (try clear hi)) | (go_at_call 63; (with_reducible refine (wind_convex.calls k _ _ l0 t142 _ ?side1 ?side2 A10.out).mono ?_); (case side1 => repeat (first | exact (Kd.C_below HR0.out HB.out) | (with_reducible refine Kd.C_alloc ?_ _) | (with_reducible refine Kd.C_drewN ?_ _) | (with_reducible refine Kd.C_drew ?_))); (case side2 => exact HC0.out); rintro e w12 ⟨rfl, hb⟩; have n0_ := Aside0.mk (below_step (by repeat (first | (with_reducible first | exact HB.out | apply below_alloc | apply pw_below_drewN | apply below_drew1) | exact HB.out)) hb); clear HB; have HB := n0_; clear n0_; (try clear hb); (try clear hb2); (try clear hk); (try clear hi))))
      go_ret2
      exact ⟨by first | rfl | (simp [errW_none, errW_some] <;> rfl) | (simp [*, errW_none, errW_some] <;> rfl), by repeat (first | (with_reducible first | exact HB.out | apply below_alloc | apply pw_below_drewN | apply below_drew1) | exact HB.out)⟩
  · replace c3 := Bool.eq_false_iff.mpr c3
    subst c3
    have H1 : (some (false, 2)) = some (r1, r2) := by rw [if_neg (show ¬ (false = true) by decide)] at H; exact H
    clear H
    have H := H1
    clear H1
    simp only [Option.some.injEq, Prod.mk.injEq] at H
    obtain ⟨rfl, rfl⟩ := H
    go_enter Try.func32, Try.ntmps32
    go_wp2_with (first | (go_at_call 51; (with_reducible refine (wind_valid.calls _ _ l0 false _ ?side1 ?side2 A2.out).mono ?_); (case side1 => repeat (first | exact HR0.out | (with_reducible refine Kd.C_alloc ?_ _) | (with_reducible refine Kd.C_drewN ?_ _) | (with_reducible refine Kd.C_drew ?_))); (case side2 => exact HC0.out); rintro e w13 ⟨rfl, hb⟩; have n0_ := Aside0.mk (below_step (by repeat (first | (with_reducible first | exact HB.out | apply below_alloc | apply pw_below_drewN | apply below_drew1) | exact HB.out)) hb); clear HB; have HB := n0_; clear n0_; (try clear hb); (try clear hb2); (try clear hk); (try clear hi)))
    repeat (go_quiet (first | (go_at_call 51; (with_reducible refine (wind_valid.calls _ _ l0 false _ ?side1 ?side2 A2.out).mono ?_); (case side1 => repeat (first | exact HR0.out | (with_reducible refine Kd.C_alloc ?_ _) | (with_reducible refine Kd.C_drewN ?_ _) | (with_reducible refine Kd.C_drew ?_))); (case side2 => exact HC0.out); rintro e w13 ⟨rfl, hb⟩; have n0_ := Aside0.mk (below_step (by repeat (first | (with_reducible first | exact HB.out | apply below_alloc | apply pw_below_drewN | apply below_drew1) | exact HB.out)) hb); clear HB; have HB := n0_; clear n0_; (try clear hb); (try clear hb2); (try clear hk); (try clear hi))); try go_wp2_with (first | (go_at_call 51; (with_reducible refine (wind_valid.calls _ _ l0 false _ ?side1 ?side2 A2.out).mono ?_); (case side1 => repeat (first | exact HR0.out | (with_reducible refine Kd.C_alloc ?_ _) | (with_reducible refine Kd.C_drewN ?_ _) | (with_reducible refine Kd.C_drew ?_))); (case side2 => exact HC0.out); rintro e w13 ⟨rfl, hb⟩; have n0_ := Aside0.mk (below_step (by repeat (first | (with_reducible first | exact HB.out | apply below_alloc | apply pw_below_drewN | apply below_drew1) | exact HB.out)) hb); clear HB; have HB := n0_; clear n0_; (try clear hb); (try clear hb2); (try clear hk); (try clear hi))))
    go_ret2
    exact ⟨by first | rfl | (simp [errW_none, errW_some] <;> rfl) | (simp [*, errW_none, errW_some] <;> rfl), by repeat (first | (with_reducible first | exact HB.out | apply below_alloc | apply pw_below_drewN | apply below_drew1) | exact HB.out)⟩

/-! ### fleuronlaw17_square: function 40 -/
def fleuronlaw17_square.f (a0 : Int) : Option ((List (S24))) := some (([(⟨0, 0⟩ : S24), (⟨a0, 0⟩ : S24), (⟨a0, a0⟩ : S24), (⟨0, a0⟩ : S24)] : List (S24)))
set_option maxHeartbeats 8000000 in
set_option maxRecDepth 100000 in
theorem fleuronlaw17_square.calls (a0 : Int) (r : List (S24)) (w : World) (h : fleuronlaw17_square.f a0 = some r) :
    Calls Try.prog 40 #[.int .i64 a0] w fun e w' => ∃ v0_ : Value, e = .returned (v0_) ∧ Kd.R k24 24 w' w.heap.size (fun _ => True) v0_ r ∧ Below w.heap.size w w' := by
  have hu24 := Try.underlying24
  have HB := Aside0.mk (Below.refl w.heap.size w)
  have H : (some (([(⟨0, 0⟩ : S24), (⟨a0, 0⟩ : S24), (⟨a0, a0⟩ : S24), (⟨0, a0⟩ : S24)] : List (S24)))) = some r := h
  clear h
  obtain ⟨y143, hy143⟩ : ∃ y_ : List (S24), y_ = (([(⟨0, 0⟩ : S24), (⟨a0, 0⟩ : S24), (⟨a0, a0⟩ : S24), (⟨0, a0⟩ : S24)] : List (S24))) := ⟨_, rfl⟩
  replace H : (some y143) = some r := by first | (rw [hy143]; with_reducible exact H) | (have H2_ := (Option.bind_some _ _).symm.trans H; rw [hy143]; with_reducible exact H2_) | (have H2_ := (Option.bind_some _ _).symm.trans H; with_reducible exact H2_) | with_reducible exact H | (rw [hy143]; exact H) | exact H
  have Ny143 := Aside0.mk hy143
  clear hy143
  obtain rfl := Option.some.inj H
  go_enter Try.func40, Try.ntmps40
  go_wp2_with (first | ((with_reducible refine gate_dst (N := 11) rfl ?_); refine Kd.R_lit k24 _ 24 ?hg (N := 11) ?hd (xs := ([(⟨0, 0⟩ : S24), (⟨a0, 0⟩ : S24), (⟨a0, a0⟩ : S24), (⟨0, a0⟩ : S24)] : List (S24))) (inner := [.int .i64 0, .int .i64 0, .int .i64 a0, .int .i64 0, .int .i64 a0, .int .i64 a0, .int .i64 0, .int .i64 a0]) (ok := fun _ => True) (okp := fun _ => True) ?hr ?hp (fun _ hk => hk) trivial (Below.refl _ _) (Nat.le_refl _) (by simp) ?_; (case hd => rfl); (case hg => rfl); (case hr => first | (go_simp; done) | (go_simp; rfl)); (case hp => exact (Reps.c2 (show Kd.M k24 _ _ _ (⟨0, 0⟩ : S24) [.int .i64 0, .int .i64 0] from (k24_mkM _ _ _ (⟨0, 0⟩ : S24) )) (Reps.c2 (show Kd.M k24 _ _ _ (⟨a0, 0⟩ : S24) [.int .i64 a0, .int .i64 0] from (k24_mkM _ _ _ (⟨a0, 0⟩ : S24) )) (Reps.c2 (show Kd.M k24 _ _ _ (⟨a0, a0⟩ : S24) [.int .i64 a0, .int .i64 a0] from (k24_mkM _ _ _ (⟨a0, a0⟩ : S24) )) (Reps.c2 (show Kd.M k24 _ _ _ (⟨0, a0⟩ : S24) [.int .i64 0, .int .i64 a0] from (k24_mkM _ _ _ (⟨0, a0⟩ : S24) )) (Reps.none _ _)))))); intro v144 w2 ho3 hb hg_ hnew_; clear hg_ hnew_; (first | rw [← Ny143.out] at ho3 | (simp only [Int.reduceToNat] at ho3; rw [← Ny143.out] at ho3)); have n0_ := Aside0.mk (Kd.R_lower ho3 (below_size (by repeat (first | (with_reducible first | exact HB.out | apply below_alloc | apply pw_below_drewN | apply below_drew1) | exact HB.out)))); have n1_ := Aside0.mk (below_step (by repeat (first | (with_reducible first | exact HB.out | apply below_alloc | apply pw_below_drewN | apply below_drew1) | exact HB.out)) hb); clear HB; have HO145 := n0_; have HB := n1_; clear n0_ n1_; clear hb ho3))
  go_ret
  exact ⟨_, by first | rfl | (simp [errW_none, errW_some] <;> rfl) | (simp [*, errW_none, errW_some] <;> rfl), by (with_reducible repeat (first | apply Kd.R_alloc | apply Kd.R_drewN | apply Kd.R_drew)); exact HO145.out, by repeat (first | (with_reducible first | exact HB.out | apply below_alloc | apply pw_below_drewN | apply below_drew1) | exact HB.out)⟩

/-! ### fleuronlaw17_awake: function 13 (by hand) -/
def fleuronlaw17_awake.f : Option Bool := some true
def sq : List S24 := [⟨0, 0⟩, ⟨4, 0⟩, ⟨4, 4⟩, ⟨0, 4⟩]
theorem sq_heights : wind_Heights.f sq 0 1 = some ([0, 4], 0) := by
  unfold wind_Heights.f
  rw [if_pos (by decide)]
  unfold heightsB
  rw [if_pos (by rfl), show heightsTo sq 1 sq.length = [4, 0] from rfl]
  simp [sortZ, List.mergeSort]
/-- A fresh row of one slice that can be read. -/
theorem one_row {W : World} {A : Option Addr} {c : Nat} {l : List S24} (hr : Kd.C k24 W A l.length l) (hc : l.length ≤ c) :
    Kd.C (Kd.slice 24 k24) (W.alloc (.cells #[.slice A l.length c] 31)) (some ⟨W.heap.size, 0, none⟩) 1 [l] := by
  have hr' := Kd.C_below hr (below_alloc (Below.refl W.heap.size W) (.cells #[.slice A l.length c] 31))
  refine ⟨rfl, by decide, fun _ => ⟨_, rfl, fun j p hj => ?_⟩⟩
  obtain ⟨hj0, hp⟩ := List.getElem?_eq_some_iff.1 hj
  obtain rfl : j = 0 := by simpa using hj0
  obtain rfl : l = p := hp
  refine ⟨[.slice A l.length c], rfl, ⟨A, c, rfl, hc, hr'⟩, fun i u hi => ?_⟩
  obtain ⟨hi0, hu⟩ := List.getElem?_eq_some_iff.1 hi
  obtain rfl : i = 0 := by simpa using hi0
  obtain rfl : Value.slice A l.length c = u := hu
  rw [add_plain]
  simp
theorem at_i2 {w : World} {A : Option Addr} {n : Nat} {xs : List Int} (h : Kd.C (Kd.int .i64) w A n xs) (i : Nat) (h0 : i < n) (h1 : i < xs.length) : ∃ ad, A = some ad ∧ w.cell? (ad.add i) = some (.int .i64 (xs.getD i 0)) := by
  obtain ⟨ad, c, e, _, hK, hc⟩ := Kd.C_get h 0 (i : Int) (by omega) (by omega)
  have hk : c = [Value.int .i64 (xs.getD (i : Int).toNat 0)] := hK
  subst hk
  refine ⟨ad, e, ?_⟩
  have hq := hc 0 _ rfl
  rw [Int.toNat_natCast, show i * (Kd.int .i64).sz + 0 = i from Nat.mul_one i] at hq
  exact hq
set_option maxHeartbeats 8000000 in
set_option maxRecDepth 100000 in
theorem fleuronlaw17_awake.calls (r : Bool) (w : World) (h : fleuronlaw17_awake.f = some r) : Calls Try.prog 13 #[] w fun e w' => e = .returned (.bool r) ∧ Below w.heap.size w w' := by
  obtain rfl : true = r := Option.some.inj h
  clear h
  have hu := Try.underlying24
  go_enter Try.func13, Try.ntmps13
  go_wp2_with fail
  refine (fleuronlaw17_square.calls 4 sq _ rfl).mono ?_
  rintro e W0 ⟨v0, rfl, hR, hb⟩
  obtain ⟨A, c, rfl, hc, hC⟩ := Kd.R_reads hR
  have HB0 := Aside0.mk (below_step (Below.refl _ _) hb)
  have HC0 := Aside0.mk hC
  clear hb hC hR
  change 4 ≤ c at hc
  go_wp2_with fail
  refine (wind_Winding.calls A c sq 1 1 1 0 _ HC0.out hc rfl).mono ?_
  rintro e W1 ⟨rfl, hb⟩
  have HC1 := Aside0.mk (Kd.C_below HC0.out hb)
  have HB1 := Aside0.mk (below_step HB0.out hb)
  clear hb HC0 HB0
  go_wp2_with fail
  refine (wind_Winding.calls A c sq 4 1 0 0 _ HC1.out hc rfl).mono ?_
  rintro e W2 ⟨rfl, hb⟩
  have HC2 := Aside0.mk (Kd.C_below HC1.out hb)
  have HB2 := Aside0.mk (below_step HB1.out hb)
  clear hb HC1 HB1
  go_wp2_with fail
  refine (wind_Winding.calls A c sq 0 1 1 0 _ HC2.out hc rfl).mono ?_
  rintro e W3 ⟨rfl, hb⟩
  have HC3 := Aside0.mk (Kd.C_below HC2.out hb)
  have HB3 := Aside0.mk (below_step HB2.out hb)
  clear hb HC2 HB2
  go_wp2_with fail
  refine (wind_Winding.calls A c sq 1 4 0 0 _ HC3.out hc rfl).mono ?_
  rintro e W4 ⟨rfl, hb⟩
  have HC4 := Aside0.mk (Kd.C_below HC3.out hb)
  have HB4 := Aside0.mk (below_step HB3.out hb)
  clear hb HC3 HB3
  go_wp2_with fail
  refine (wind_Winding.calls A c sq 1 0 1 0 _ HC4.out hc rfl).mono ?_
  rintro e W5 ⟨rfl, hb⟩
  have HC5 := Aside0.mk (Kd.C_below HC4.out hb)
  have HB5 := Aside0.mk (below_step HB4.out hb)
  clear hb HC4 HB4
  go_wp2_with fail
  refine (wind_Through.calls A c sq 0 1 (-1) 0 _ HC5.out hc rfl).mono ?_
  rintro e W6 ⟨rfl, hb⟩
  have HC6 := Aside0.mk (Kd.C_below HC5.out hb)
  have HB6 := Aside0.mk (below_step HB5.out hb)
  clear hb HC5 HB5
  go_wp2_with fail
  refine (wind_Crossings.calls A c sq (-1) 1 2 0 _ HC6.out hc rfl).mono ?_
  rintro e W7 ⟨rfl, hb⟩
  have HC7 := Aside0.mk (Kd.C_below HC6.out hb)
  have HB7 := Aside0.mk (below_step HB6.out hb)
  clear hb HC6 HB6
  have hl1 : Kd.C (Kd.slice 24 k24) (W7.alloc (.cells #[.slice A 4 c] 31)) (some ⟨W7.heap.size, 0, none⟩) 1 [sq] := one_row (HC7.out) hc
  have HL1 := Aside0.mk hl1
  clear hl1
  go_wp2_with fail
  refine (wind_Inside.calls 9 _ 1 [sq] false 1 1 true 0 _ HL1.out (Nat.le_refl _) (by decide +kernel)).mono ?_
  rintro e W8 ⟨rfl, hb⟩
  have HC8 := Aside0.mk (Kd.C_below (Kd.C_below HC7.out (below_alloc (Below.refl _ _) _)) hb)
  have HB8 := Aside0.mk (below_step (below_alloc HB7.out _) hb)
  clear hb HL1 HC7 HB7
  go_wp2_with fail
  refine (wind_Convex.calls 9 A c sq true 0 _ HC8.out hc (by decide +kernel)).mono ?_
  rintro e W9 ⟨rfl, hb⟩
  have HC9 := Aside0.mk (Kd.C_below HC8.out hb)
  have HB9 := Aside0.mk (below_step HB8.out hb)
  clear hb HC8 HB8
  go_wp2_with fail
  refine (wind_Winding.calls none 0 [] 0 0 0 2 _ (Kd.C_nil _ _) (Nat.le_refl _) rfl).mono ?_
  rintro e W10 ⟨rfl, hb⟩
  have HC10 := Aside0.mk (Kd.C_below HC9.out hb)
  have HB10 := Aside0.mk (below_step HB9.out hb)
  clear hb HC9 HB9
  go_wp2_with fail
  refine (wind_Heights.calls A c sq 0 1 [0, 4] 0 _ HC10.out hc sq_heights).mono ?_
  rintro e W11 ⟨v9, rfl, hr9, hb⟩
  obtain ⟨inner9, hown9⟩ := Kd.R_own hr9
  obtain ⟨g9, c9, rfl, _, _⟩ := hown9.form (by decide)
  have hr9' := (Kd.R_reads' hr9).2.2
  clear hown9 inner9
  obtain ⟨ad0, e0, q0⟩ := at_i2 hr9' 0 (by decide) (by decide)
  obtain rfl : (⟨g9, 0, none⟩ : Addr) = ad0 := by injection e0
  obtain ⟨ad1, e1, q1⟩ := at_i2 hr9' 1 (by decide) (by decide)
  obtain rfl : (⟨g9, 0, none⟩ : Addr) = ad1 := by injection e1
  clear e0 e1 hr9'
  rw [add_plain] at q0 q1
  change _ = some (Value.int .i64 0) at q0
  change _ = some (Value.int .i64 4) at q1
  have HB11 := Aside0.mk (below_step HB10.out hb)
  clear hb hr9 HC10 HB10
  go_wp2
  go_ret
  exact ⟨rfl, HB11.out⟩

end Go.Proofs.Ytdhgekogaoiidaa.PT6

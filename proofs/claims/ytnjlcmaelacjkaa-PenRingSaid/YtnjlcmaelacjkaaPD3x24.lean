/- What functions of the program come to, each with the proof that the machine's call does just that; written by a program of this session out of the translation. -/
import Derived.Test.YtnjlcmaelacjkaaPD3x0
import Derived.Test.YtnjlcmaelacjkaaPD3x6
namespace Go.Proofs.Ytnjlcmaelacjkaa.PD3
open Go.RowKit Go.Proofs.YtnjlcmaelacjkaaW.PrintWords Go.Proofs.YtnjlcmaelacjkaaW.PrintLast Go.Proofs.YtnjlcmaelacjkaaW.PrintMore
attribute [local go_sem] max2_int min2_int max_two min_two max_three min_three max_four min_four   -- for this text's walks alone
set_option linter.unusedVariables false
set_option linter.unusedSimpArgs false

/-! ### fleuronlaw18_same: function 33 -/
def fleuronlaw18_same.f (k : Nat) (l0 : List (S33)) (l1 : List (S33)) (a2 : Int) (a3 : Int) : Option (Bool) := if a2 = 0 then (if a3 = 0 then ((fleuronref16_Same.f k l0 l1).bind fun t256 => (some t256)) else (if a3 = 17 then (some true) else (some (a3 == 3)))) else (if a2 = 17 then (if a3 = 0 then (some true) else (if a3 = 17 then (some true) else (some (a3 == 3)))) else (if a2 = 3 then (if a3 = 0 then (some true) else (if a3 = 17 then (some true) else (some (a3 == 3)))) else (some false)))
theorem fleuronlaw18_same.mono : ∀ a0 a1 a2 a3 k, LeO (fleuronlaw18_same.f k a0 a1 a2 a3) (fleuronlaw18_same.f (k + 1) a0 a1 a2 a3) := by
  intro a0 a1 a2 a3 k
  unfold fleuronlaw18_same.f
  repeat' first
      | (with_reducible exact fleuronref16_Same.mono _ _ _)
      | (with_reducible exact LeO.refl _)
      | (with_reducible exact LeO.none _)
      | (with_reducible refine LeO.ite ?_ ?_)
      | (with_reducible refine LeO.bind ?_ (fun _ => ?_))
      | exact fleuronref16_Same.mono _ _ _
      | exact LeO.none _
      | refine LeO.ite ?_ ?_
      | refine LeO.bind ?_ (fun _ => ?_)
set_option maxHeartbeats 8000000 in
set_option maxRecDepth 100000 in
theorem fleuronlaw18_same.calls (k : Nat) (A0 : Option Addr) (c0 : Nat) (l0 : List (S33)) (A1 : Option Addr) (c1 : Nat) (l1 : List (S33)) (a2 : Int) (a3 : Int) (r : Bool) (w : World) (hr0 : Kd.C k33 w A0 l0.length l0) (hc0 : l0.length ≤ c0) (hr1 : Kd.C k33 w A1 l1.length l1) (hc1 : l1.length ≤ c1) (h : fleuronlaw18_same.f k l0 l1 a2 a3 = some r) :
    Calls Try.prog 33 #[.slice A0 l0.length c0, .slice A1 l1.length c1, .int .i64 a2, .int .i64 a3] w fun e w' => e = .returned (.bool r) ∧ Drawn0 w w' := by
  have HR0 := Aside0.mk hr0
  have HC0 := Aside0.mk hc0
  clear hr0 hc0
  have HR1 := Aside0.mk hr1
  have HC1 := Aside0.mk hc1
  clear hr1 hc1
  have H : (if a2 = 0 then (if a3 = 0 then ((fleuronref16_Same.f k l0 l1).bind fun t256 => (some t256)) else (if a3 = 17 then (some true) else (some (a3 == 3)))) else (if a2 = 17 then (if a3 = 0 then (some true) else (if a3 = 17 then (some true) else (some (a3 == 3)))) else (if a2 = 3 then (if a3 = 0 then (some true) else (if a3 = 17 then (some true) else (some (a3 == 3)))) else (some false)))) = some r := h
  clear h
  by_cases c5 : a2 = 0
  · rw [if_pos c5] at H
    have c5b0 : (a2 == 0) = true := beq_iff_eq.mpr c5
    have c5b1 : (a2 != 0) = false := bne_eq_false_iff_eq.mpr c5
    clear c5
    by_cases c6 : a3 = 0
    · rw [if_pos c6] at H
      have c6b0 : (a3 == 0) = true := beq_iff_eq.mpr c6
      have c6b1 : (a3 != 0) = false := bne_eq_false_iff_eq.mpr c6
      clear c6
      replace H := Option.bind_eq_some_iff.mp H
      obtain ⟨t256, A70, H⟩ := H
      replace H : (some t256) = some r := H
      have A7 := Aside0.mk A70
      clear A70
      obtain rfl := Option.some.inj H
      go_enter Try.func33, Try.ntmps33
      go_wp2_with (first | ((with_reducible refine gate_callee (f := 19) rfl ?_); refine goesL_ (some 17) rfl rfl Try.func19 (by kernel_rfl) rfl #[.slice A0 l0.length c0, .slice A1 l1.length c1] rfl (by (try simp only [List.map_toArray, List.map_cons, List.map_nil]); first | done | rfl | (simp only [List.length_drop, List.length_take]; rfl)) ?_; (with_reducible refine (fleuronref16_Same.calls k _ _ l0 _ _ l1 t256 _ ?side1 ?side2 ?side3 ?side4 A7.out).mono ?_); (case side1 => repeat (first | exact HR0.out | (with_reducible refine Kd.C_alloc ?_ _) | (with_reducible refine Kd.C_drewN ?_ _) | (with_reducible refine Kd.C_drew ?_))); (case side2 => exact HC0.out); (case side3 => repeat (first | exact HR1.out | (with_reducible refine Kd.C_alloc ?_ _) | (with_reducible refine Kd.C_drewN ?_ _) | (with_reducible refine Kd.C_drew ?_))); (case side4 => exact HC1.out); rintro e w' ⟨rfl, ⟨nd, rfl⟩⟩; refine ⟨_, rfl, ?_⟩))
      go_ret
      exact ⟨by first | rfl | (simp; done) | (simp [*]; done), by repeat (first | exact Drawn0.refl _ | apply Drawn0.step)⟩
    · rw [if_neg c6] at H
      have c6b0 : (a3 == 0) = false := beq_eq_false_iff_ne.mpr c6
      have c6b1 : (a3 != 0) = true := bne_iff_ne.mpr c6
      by_cases c8 : a3 = 17
      · rw [if_pos c8] at H
        have c8b0 : (a3 == 17) = true := beq_iff_eq.mpr c8
        have c8b1 : (a3 != 17) = false := bne_eq_false_iff_eq.mpr c8
        clear c8
        obtain rfl := Option.some.inj H
        go_enter Try.func33, Try.ntmps33
        go_wp2
        go_ret
        exact ⟨by first | rfl | (simp; done) | (simp [*]; done), by repeat (first | exact Drawn0.refl _ | apply Drawn0.step)⟩
      · rw [if_neg c8] at H
        have c8b0 : (a3 == 17) = false := beq_eq_false_iff_ne.mpr c8
        have c8b1 : (a3 != 17) = true := bne_iff_ne.mpr c8
        obtain rfl := Option.some.inj H
        go_enter Try.func33, Try.ntmps33
        go_wp2
        go_ret
        exact ⟨by first | rfl | (simp; done) | (simp [*]; done), by repeat (first | exact Drawn0.refl _ | apply Drawn0.step)⟩
  · rw [if_neg c5] at H
    have c5b0 : (a2 == 0) = false := beq_eq_false_iff_ne.mpr c5
    have c5b1 : (a2 != 0) = true := bne_iff_ne.mpr c5
    by_cases c9 : a2 = 17
    · rw [if_pos c9] at H
      have c9b0 : (a2 == 17) = true := beq_iff_eq.mpr c9
      have c9b1 : (a2 != 17) = false := bne_eq_false_iff_eq.mpr c9
      clear c9
      by_cases c10 : a3 = 0
      · rw [if_pos c10] at H
        have c10b0 : (a3 == 0) = true := beq_iff_eq.mpr c10
        have c10b1 : (a3 != 0) = false := bne_eq_false_iff_eq.mpr c10
        clear c10
        obtain rfl := Option.some.inj H
        go_enter Try.func33, Try.ntmps33
        go_wp2
        go_ret
        exact ⟨by first | rfl | (simp; done) | (simp [*]; done), by repeat (first | exact Drawn0.refl _ | apply Drawn0.step)⟩
      · rw [if_neg c10] at H
        have c10b0 : (a3 == 0) = false := beq_eq_false_iff_ne.mpr c10
        have c10b1 : (a3 != 0) = true := bne_iff_ne.mpr c10
        by_cases c11 : a3 = 17
        · rw [if_pos c11] at H
          have c11b0 : (a3 == 17) = true := beq_iff_eq.mpr c11
          have c11b1 : (a3 != 17) = false := bne_eq_false_iff_eq.mpr c11
          clear c11
          obtain rfl := Option.some.inj H
          go_enter Try.func33, Try.ntmps33
          go_wp2
          go_ret
          exact ⟨by first | rfl | (simp; done) | (simp [*]; done), by repeat (first | exact Drawn0.refl _ | apply Drawn0.step)⟩
        · rw [if_neg c11] at H
          have c11b0 : (a3 == 17) = false := beq_eq_false_iff_ne.mpr c11
          have c11b1 : (a3 != 17) = true := bne_iff_ne.mpr c11
          obtain rfl := Option.some.inj H
          go_enter Try.func33, Try.ntmps33
          go_wp2
          go_ret
          exact ⟨by first | rfl | (simp; done) | (simp [*]; done), by repeat (first | exact Drawn0.refl _ | apply Drawn0.step)⟩
    · rw [if_neg c9] at H
      have c9b0 : (a2 == 17) = false := beq_eq_false_iff_ne.mpr c9
      have c9b1 : (a2 != 17) = true := bne_iff_ne.mpr c9
      by_cases c12 : a2 = 3
      · rw [if_pos c12] at H
        have c12b0 : (a2 == 3) = true := beq_iff_eq.mpr c12
        have c12b1 : (a2 != 3) = false := bne_eq_false_iff_eq.mpr c12
        clear c12
        by_cases c13 : a3 = 0
        · rw [if_pos c13] at H
          have c13b0 : (a3 == 0) = true := beq_iff_eq.mpr c13
          have c13b1 : (a3 != 0) = false := bne_eq_false_iff_eq.mpr c13
          clear c13
          obtain rfl := Option.some.inj H
          go_enter Try.func33, Try.ntmps33
          go_wp2
          go_ret
          exact ⟨by first | rfl | (simp; done) | (simp [*]; done), by repeat (first | exact Drawn0.refl _ | apply Drawn0.step)⟩
        · rw [if_neg c13] at H
          have c13b0 : (a3 == 0) = false := beq_eq_false_iff_ne.mpr c13
          have c13b1 : (a3 != 0) = true := bne_iff_ne.mpr c13
          by_cases c14 : a3 = 17
          · rw [if_pos c14] at H
            have c14b0 : (a3 == 17) = true := beq_iff_eq.mpr c14
            have c14b1 : (a3 != 17) = false := bne_eq_false_iff_eq.mpr c14
            clear c14
            obtain rfl := Option.some.inj H
            go_enter Try.func33, Try.ntmps33
            go_wp2
            go_ret
            exact ⟨by first | rfl | (simp; done) | (simp [*]; done), by repeat (first | exact Drawn0.refl _ | apply Drawn0.step)⟩
          · rw [if_neg c14] at H
            have c14b0 : (a3 == 17) = false := beq_eq_false_iff_ne.mpr c14
            have c14b1 : (a3 != 17) = true := bne_iff_ne.mpr c14
            obtain rfl := Option.some.inj H
            go_enter Try.func33, Try.ntmps33
            go_wp2
            go_ret
            exact ⟨by first | rfl | (simp; done) | (simp [*]; done), by repeat (first | exact Drawn0.refl _ | apply Drawn0.step)⟩
      · rw [if_neg c12] at H
        have c12b0 : (a2 == 3) = false := beq_eq_false_iff_ne.mpr c12
        have c12b1 : (a2 != 3) = true := bne_iff_ne.mpr c12
        obtain rfl := Option.some.inj H
        go_enter Try.func33, Try.ntmps33
        go_wp2
        go_ret
        exact ⟨by first | rfl | (simp; done) | (simp [*]; done), by repeat (first | exact Drawn0.refl _ | apply Drawn0.step)⟩

end Go.Proofs.Ytnjlcmaelacjkaa.PD3

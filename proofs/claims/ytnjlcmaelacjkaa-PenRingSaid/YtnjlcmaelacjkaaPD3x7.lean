/- What functions of the program come to, each with the proof that the machine's call does just that; written by a program of this session out of the translation. -/
import Derived.Test.YtnjlcmaelacjkaaPD3x0
import Derived.Test.YtnjlcmaelacjkaaPD3x2
import Derived.Test.YtnjlcmaelacjkaaPD3x3
import Derived.Test.YtnjlcmaelacjkaaPD3x4
import Derived.Test.YtnjlcmaelacjkaaPD3x5
import Derived.Test.YtnjlcmaelacjkaaPD3x6
namespace Go.Proofs.Ytnjlcmaelacjkaa.PD3
open Go.RowKit Go.Proofs.YtnjlcmaelacjkaaW.PrintWords Go.Proofs.YtnjlcmaelacjkaaW.PrintLast Go.Proofs.YtnjlcmaelacjkaaW.PrintMore
attribute [local go_sem] max2_int min2_int max_two min_two max_three min_three max_four min_four   -- for this text's walks alone
set_option linter.unusedVariables false
set_option linter.unusedSimpArgs false

/-! ### pen_Swept: function 48 -/
def pen_Swept.f (k : Nat) (l0 : List (S33)) (a1_0 : Int) (a1_1 : Int) (a2_0 : Int) (a2_1 : Int) : Option ((List (S33))) := (pen_at.f k l0 a1_0 a1_1).bind fun t152 => ((pen_at.f k l0 a2_0 a2_1).bind fun t155 => (if t152.length + t155.length < 8796093022208 then ((pen_hull.f (t152 ++ t155)).bind fun t161 => (some t161)) else (none)))
theorem pen_Swept.mono : ∀ a0 a1 a2 a3 a4 k, LeO (pen_Swept.f k a0 a1 a2 a3 a4) (pen_Swept.f (k + 1) a0 a1 a2 a3 a4) := by
  intro a0 a1 a2 a3 a4 k
  unfold pen_Swept.f
  repeat' first
      | (with_reducible exact pen_at.mono _ _ _ _)
      | (with_reducible exact LeO.refl _)
      | (with_reducible exact LeO.none _)
      | (with_reducible refine LeO.ite ?_ ?_)
      | (with_reducible refine LeO.bind ?_ (fun _ => ?_))
      | exact pen_at.mono _ _ _ _
      | exact LeO.none _
      | refine LeO.ite ?_ ?_
      | refine LeO.bind ?_ (fun _ => ?_)
def pen_Swept.T1 : Bool × List (List Nat × List Nat) := (true, [([], []), ([], []), ([0, 1], [0, 1]), ([], []), ([], []), ([3, 4, 2], [3, 4]), ([2, 5, 5], [2, 5]), ([6, 6], [6]), ([7, 7, 0, 1, 2, 3, 4, 5, 6, 7], [7])])
def pen_Swept.B1 : List Nat := [0, 0, 3, 0, 0, 31, 63, 127, 255]
theorem pen_Swept.tab1 : rtab .any (opsOf Try.f48 1) = pen_Swept.T1 := by kernel_rfl
theorem pen_Swept.bits1 : waitsOk pen_Swept.T1.2 pen_Swept.B1 = true := by kernel_rfl
set_option maxHeartbeats 8000000 in
set_option maxRecDepth 100000 in
theorem pen_Swept.calls (k : Nat) (A0 : Option Addr) (c0 : Nat) (l0 : List (S33)) (a1_0 : Int) (a1_1 : Int) (a2_0 : Int) (a2_1 : Int) (r : List (S33)) (w : World) (hr0 : Kd.C k33 w A0 l0.length l0) (hc0 : l0.length ≤ c0) (h : pen_Swept.f k l0 a1_0 a1_1 a2_0 a2_1 = some r) :
    Calls Try.prog 48 #[.slice A0 l0.length c0, .agg #[.int .i64 a1_0, .int .i64 a1_1], .agg #[.int .i64 a2_0, .int .i64 a2_1]] w fun e w' => ∃ v0_ : Value, e = .returned (v0_) ∧ Kd.R k33 33 w' w.heap.size (fun _ => True) v0_ r ∧ Below w.heap.size w w' := by
  have hu33 := Try.underlying33
  have HR0 := Aside0.mk hr0
  have HC0 := Aside0.mk hc0
  clear hr0 hc0
  have HB := Aside0.mk (Below.refl w.heap.size w)
  have H : ((pen_at.f k l0 a1_0 a1_1).bind fun t152 => ((pen_at.f k l0 a2_0 a2_1).bind fun t155 => (if t152.length + t155.length < 8796093022208 then ((pen_hull.f (t152 ++ t155)).bind fun t161 => (some t161)) else (none)))) = some r := h
  clear h
  replace H := Option.bind_eq_some_iff.mp H
  obtain ⟨t152, A40, H⟩ := H
  replace H : ((pen_at.f k l0 a2_0 a2_1).bind fun t155 => (if t152.length + t155.length < 8796093022208 then ((pen_hull.f (t152 ++ t155)).bind fun t161 => (some t161)) else (none))) = some r := H
  have A4 := Aside0.mk A40
  clear A40
  replace H := Option.bind_eq_some_iff.mp H
  obtain ⟨t155, A50, H⟩ := H
  replace H : (if t152.length + t155.length < 8796093022208 then ((pen_hull.f (t152 ++ t155)).bind fun t161 => (some t161)) else (none)) = some r := H
  have A5 := Aside0.mk A50
  clear A50
  by_cases c6 : t152.length + t155.length < 8796093022208
  · rw [if_pos c6] at H
    have LMc6 := Aside0.mk c6
    clear c6
    obtain ⟨y158, hy158⟩ : ∃ y_ : List (S33), y_ = (t152 ++ t155) := ⟨_, rfl⟩
    replace H : ((pen_hull.f y158).bind fun t161 => (some t161)) = some r := by first | (rw [hy158]; with_reducible exact H) | (have H2_ := (Option.bind_some _ _).symm.trans H; rw [hy158]; with_reducible exact H2_) | (have H2_ := (Option.bind_some _ _).symm.trans H; with_reducible exact H2_) | with_reducible exact H | (rw [hy158]; exact H) | exact H
    have Ny158 := Aside0.mk hy158
    clear hy158
    replace H := Option.bind_eq_some_iff.mp H
    obtain ⟨t161, A70, H⟩ := H
    replace H : (some t161) = some r := H
    have A7 := Aside0.mk A70
    clear A70
    obtain rfl := Option.some.inj H
    go_enter Try.func48, Try.ntmps48
    try go_wp2_with (first | ((with_reducible refine gate_dst (N := 4) rfl ?_); refine box_event ?hg (N := 4) ?hd (cs := #[.int .i64 a1_0, .int .i64 a1_1]) (t := 33) ?hr ?_; (case hd => rfl); (case hg => rfl); (case hr => first | (go_simp; done) | (go_simp; rfl)); intro gb150 hg w8 hbox hb; have n0_ := Aside0.mk (below_step (by repeat (first | (with_reducible first | exact HB.out | apply below_alloc | apply pw_below_drewN | apply below_drew1) | exact HB.out)) hb); have n1_ := Aside0.mk (hbox); have n2_ := Aside0.mk ((by rw [hg]; exact (below_size (by repeat (first | (with_reducible first | exact HB.out | apply below_alloc | apply pw_below_drewN | apply below_drew1) | exact HB.out))) : w.heap.size ≤ gb150)); have n3_ := Aside0.mk ((by rw [hg]; exact (below_size (by repeat (first | (with_reducible first | exact HB.out | apply below_alloc | apply pw_below_drewN | apply below_drew1) | exact HB.out))) : w.heap.size ≤ gb150)); clear HB; have HB := n0_; have BK150 := n1_; have GW150 := n2_; have GE150 := n3_; clear n0_ n1_ n2_ n3_; clear hb hbox hg) | ((with_reducible refine gate_dst (N := 5) rfl ?_); refine box_event ?hg (N := 5) ?hd (cs := #[.int .i64 a2_0, .int .i64 a2_1]) (t := 33) ?hr ?_; (case hd => rfl); (case hg => rfl); (case hr => first | (go_simp; done) | (go_simp; rfl)); intro gb151 hg w9 hbox hb; have n0_ := Aside0.mk (blk_below (g := gb150) (o := .cells #[.int .i64 a1_0, .int .i64 a1_1] 33 (0, 0)) (by (with_reducible repeat (first | refine blk_drewN ?_ _ | refine blk_drew ?_ | refine blk_alloc ?_ _)); exact BK150.out) hb); have n1_ := Aside0.mk (below_step (by repeat (first | (with_reducible first | exact HB.out | apply below_alloc | apply pw_below_drewN | apply below_drew1 | refine below_set ?_ GE150.out) | exact HB.out)) hb); have n2_ := Aside0.mk (hbox); have n3_ := Aside0.mk ((by rw [hg]; exact (below_size (by repeat (first | (with_reducible first | exact HB.out | apply below_alloc | apply pw_below_drewN | apply below_drew1 | refine below_set ?_ GE150.out) | exact HB.out))) : w.heap.size ≤ gb151)); have n4_ := Aside0.mk ((by rw [hg]; exact (below_size (by repeat (first | (with_reducible first | exact HB.out | apply below_alloc | apply pw_below_drewN | apply below_drew1 | refine below_set ?_ GE150.out) | exact HB.out))) : w.heap.size ≤ gb151)); have n5_ := Aside0.mk ((by rw [hg]; exact Nat.ne_of_lt (blk_lt (g := gb150) (o := .cells #[.int .i64 a1_0, .int .i64 a1_1] 33 (0, 0)) (by (with_reducible repeat (first | refine blk_drewN ?_ _ | refine blk_drew ?_ | refine blk_alloc ?_ _)); exact BK150.out)) : gb150 ≠ gb151)); have n6_ := Aside0.mk ((by rw [hg]; exact Nat.ne_of_gt (blk_lt (g := gb150) (o := .cells #[.int .i64 a1_0, .int .i64 a1_1] 33 (0, 0)) (by (with_reducible repeat (first | refine blk_drewN ?_ _ | refine blk_drew ?_ | refine blk_alloc ?_ _)); exact BK150.out)) : gb151 ≠ gb150)); clear BK150; clear HB; have BK150 := n0_; have HB := n1_; have BK151 := n2_; have GW151 := n3_; have GE151 := n4_; have NB150_151 := n5_; have NB151_150 := n6_; clear n0_ n1_ n2_ n3_ n4_ n5_ n6_; clear hb hbox hg))
    have n0_ := Aside0.mk (blk_drew BK150.out)
    have n1_ := Aside0.mk (blk_drew BK151.out)
    have n2_ := Aside0.mk (below_drew1 HB.out)
    clear BK150
    clear BK151
    clear HB
    have BK150 := n0_
    have BK151 := n1_
    have HB := n2_
    clear n0_ n1_ n2_
    refine start_ (n := 9) (S := fun w' => w'.cell? ⟨gb150, 0, none⟩ = some (.int .i64 a1_0) ∧ w'.cell? ⟨gb150, 1, none⟩ = some (.int .i64 a1_1) ∧ w'.cell? ⟨gb151, 0, none⟩ = some (.int .i64 a2_0) ∧ w'.cell? ⟨gb151, 1, none⟩ = some (.int .i64 a2_1)) (ds := []) #[false, false, false, false, false, false, false, false, false] (by kernel_rfl) rfl rfl ⟨(blk_cell BK150.out 0).trans rfl, (blk_cell BK150.out 1).trans rfl, (blk_cell BK151.out 0).trans rfl, (blk_cell BK151.out 1).trans rfl⟩ (fun hHeld => ?_); refine with_tabW pen_Swept.tab1 pen_Swept.bits1 (fun HT_ HW_ => ?_)
    generalize w9.drew = w10 at BK150 BK151 HB hHeld ⊢
    refine pure_ (i := 0) (N := some 7) (v := ?_) (a' := ?_) #[true, false, false, false, false, false, false, false, false] rfl rfl (any_of HT_.out (by kernel_rfl)) (fun _ _ _ h => h) (Or.inl ⟨by rfl, ?_⟩) ?_ ?_
    rotate_left
    · intro w'
      go_simp
      with_reducible rfl
    rotate_left
    · simp only [Act.put, List.setIfInBounds_toArray, List.set_cons_zero, List.set_cons_succ, i64_w, i32_w]
      rfl
    refine pure_ (i := 3) (N := some 10) (v := ?_) (a' := ?_) #[true, false, false, true, false, false, false, false, false] rfl rfl (any_of HT_.out (by kernel_rfl)) (fun _ _ _ h => h) (Or.inl ⟨by rfl, ?_⟩) ?_ ?_
    rotate_left
    · intro w'
      go_simp
      with_reducible rfl
    rotate_left
    · simp only [Act.put, List.setIfInBounds_toArray, List.set_cons_zero, List.set_cons_succ, i64_w, i32_w]
      rfl
    refine take_ (i := 1) (N := some 8) (v := ?_) (a' := ?_) #[true, true, false, true, false, false, false, false, false] rfl rfl (take_ofW HT_.out HW_.out (by kernel_rfl)) (fun _ _ _ h => h) (Or.inl ⟨by rfl, ?_⟩) hHeld ?_ ?_
    rotate_left
    · rintro w' ⟨s0, s1, s2, s3⟩
      go_simp
      with_reducible rfl
    rotate_left
    · simp only [Act.put, List.setIfInBounds_toArray, List.set_cons_zero, List.set_cons_succ, i64_w, i32_w]
      rfl
    refine take_ (i := 4) (N := some 11) (v := ?_) (a' := ?_) #[true, true, false, true, true, false, false, false, false] rfl rfl (take_ofW HT_.out HW_.out (by kernel_rfl)) (fun _ _ _ h => h) (Or.inl ⟨by rfl, ?_⟩) hHeld ?_ ?_
    rotate_left
    · rintro w' ⟨s0, s1, s2, s3⟩
      go_simp
      with_reducible rfl
    rotate_left
    · simp only [Act.put, List.setIfInBounds_toArray, List.set_cons_zero, List.set_cons_succ, i64_w, i32_w]
      rfl
    refine one_ (i := 2) (N := some 9) #[true, true, true, true, true, false, false, false, false] rfl rfl (one_of HT_.out (by kernel_rfl)) (by decide) (fun K hK => ?_)
    refine goes_ Try.func49 (by kernel_rfl) rfl #[.slice A0 l0.length c0, .agg #[.int .i64 a1_0, .int .i64 a1_1]] (by rfl) rfl rfl (by (try simp only [List.map_toArray, List.map_cons, List.map_nil]); first | done | rfl | (simp only [List.length_drop, List.length_take]; rfl)) ?_
    with_reducible refine (pen_at.calls k _ _ l0 a1_0 a1_1 t152 _ ?side1 ?side2 A4.out).mono ?_
    (case side1 => repeat (first | exact (Kd.C_below HR0.out HB.out) | (with_reducible refine Kd.C_alloc ?_ _) | (with_reducible refine Kd.C_drewN ?_ _) | (with_reducible refine Kd.C_drew ?_)))
    (case side2 => exact HC0.out)
    rintro e w11 ⟨v153, rfl, ho0, hb⟩
    refine ⟨_, rfl, ?_⟩
    have n0_ := Aside0.mk (Kd.R_lower (Kd.R_newB (Kd.R_newB ho0 (g := gb150) (o := .cells #[.int .i64 a1_0, .int .i64 a1_1] 33 (0, 0)) (by (with_reducible repeat (first | refine blk_drewN ?_ _ | refine blk_drew ?_ | refine blk_alloc ?_ _)); exact BK150.out)) (g := gb151) (o := .cells #[.int .i64 a2_0, .int .i64 a2_1] 33 (0, 0)) (by (with_reducible repeat (first | refine blk_drewN ?_ _ | refine blk_drew ?_ | refine blk_alloc ?_ _)); exact BK151.out)) (below_size (by repeat (first | (with_reducible first | exact HB.out | apply below_alloc | apply pw_below_drewN | apply below_drew1 | refine below_set ?_ GE150.out | refine below_set ?_ GE151.out) | exact HB.out))))
    have n1_ := Aside0.mk (blk_below (g := gb150) (o := .cells #[.int .i64 a1_0, .int .i64 a1_1] 33 (0, 0)) (by (with_reducible repeat (first | refine blk_drewN ?_ _ | refine blk_drew ?_ | refine blk_alloc ?_ _)); exact BK150.out) hb)
    have n2_ := Aside0.mk (blk_below (g := gb151) (o := .cells #[.int .i64 a2_0, .int .i64 a2_1] 33 (0, 0)) (by (with_reducible repeat (first | refine blk_drewN ?_ _ | refine blk_drew ?_ | refine blk_alloc ?_ _)); exact BK151.out) hb)
    have n3_ := Aside0.mk (below_step (by repeat (first | (with_reducible first | exact HB.out | apply below_alloc | apply pw_below_drewN | apply below_drew1 | refine below_set ?_ GE150.out | refine below_set ?_ GE151.out) | exact HB.out)) hb)
    clear BK150
    clear BK151
    clear HB
    have HO154 := n0_
    have BK150 := n1_
    have BK151 := n2_
    have HB := n3_
    clear n0_ n1_ n2_ n3_
    (try clear hb)
    (try clear hb2)
    (try clear hk)
    (try clear hi)
    (try clear ho0)
    refine hK.out _ _ ⟨(blk_cell BK150.out 0).trans rfl, (blk_cell BK150.out 1).trans rfl, (blk_cell BK151.out 0).trans rfl, (blk_cell BK151.out 1).trans rfl⟩ (fun hHeld => ?_)
    clear hK K
    refine norm_ (a' := ?_) ?_ ?_
    rotate_left
    · show Act.put _ (some 9) _ = _
      simp only [Act.put, List.setIfInBounds_toArray, List.set_cons_zero, List.set_cons_succ, i64_w, i32_w]
      rfl
    refine one_ (i := 5) (N := some 12) #[true, true, true, true, true, true, false, false, false] rfl rfl (one_of HT_.out (by kernel_rfl)) (by decide) (fun K hK => ?_)
    refine goes_ Try.func49 (by kernel_rfl) rfl #[.slice A0 l0.length c0, .agg #[.int .i64 a2_0, .int .i64 a2_1]] (by rfl) rfl rfl (by (try simp only [List.map_toArray, List.map_cons, List.map_nil]); first | done | rfl | (simp only [List.length_drop, List.length_take]; rfl)) ?_
    with_reducible refine (pen_at.calls k _ _ l0 a2_0 a2_1 t155 _ ?side1 ?side2 A5.out).mono ?_
    (case side1 => repeat (first | exact (Kd.C_below HR0.out HB.out) | (with_reducible refine Kd.C_alloc ?_ _) | (with_reducible refine Kd.C_drewN ?_ _) | (with_reducible refine Kd.C_drew ?_)))
    (case side2 => exact HC0.out)
    rintro e w12 ⟨v156, rfl, ho0, hb⟩
    refine ⟨_, rfl, ?_⟩
    have n0_ := Aside0.mk (Kd.R_elder' (by (with_reducible repeat (first | apply Kd.R_alloc | apply Kd.R_drewN | apply Kd.R_drew)); exact HO154.out) (Kd.R_base ho0) hb)
    have n1_ := Aside0.mk (Kd.R_lower (Kd.R_newB (Kd.R_newB (Kd.R_new' ho0 (Kd.R_lt (by (with_reducible repeat (first | apply Kd.R_alloc | apply Kd.R_drewN | apply Kd.R_drew)); exact HO154.out))) (g := gb150) (o := .cells #[.int .i64 a1_0, .int .i64 a1_1] 33 (0, 0)) (by (with_reducible repeat (first | refine blk_drewN ?_ _ | refine blk_drew ?_ | refine blk_alloc ?_ _)); exact BK150.out)) (g := gb151) (o := .cells #[.int .i64 a2_0, .int .i64 a2_1] 33 (0, 0)) (by (with_reducible repeat (first | refine blk_drewN ?_ _ | refine blk_drew ?_ | refine blk_alloc ?_ _)); exact BK151.out)) (below_size (by repeat (first | (with_reducible first | exact HB.out | apply below_alloc | apply pw_below_drewN | apply below_drew1 | refine below_set ?_ GE150.out | refine below_set ?_ GE151.out) | exact HB.out))))
    have n2_ := Aside0.mk (blk_below (g := gb150) (o := .cells #[.int .i64 a1_0, .int .i64 a1_1] 33 (0, 0)) (by (with_reducible repeat (first | refine blk_drewN ?_ _ | refine blk_drew ?_ | refine blk_alloc ?_ _)); exact BK150.out) hb)
    have n3_ := Aside0.mk (blk_below (g := gb151) (o := .cells #[.int .i64 a2_0, .int .i64 a2_1] 33 (0, 0)) (by (with_reducible repeat (first | refine blk_drewN ?_ _ | refine blk_drew ?_ | refine blk_alloc ?_ _)); exact BK151.out) hb)
    have n4_ := Aside0.mk (below_step (by repeat (first | (with_reducible first | exact HB.out | apply below_alloc | apply pw_below_drewN | apply below_drew1 | refine below_set ?_ GE150.out | refine below_set ?_ GE151.out) | exact HB.out)) hb)
    clear HO154
    clear BK150
    clear BK151
    clear HB
    have HO154 := n0_
    have HO157 := n1_
    have BK150 := n2_
    have BK151 := n3_
    have HB := n4_
    clear n0_ n1_ n2_ n3_ n4_
    (try clear hb)
    (try clear hb2)
    (try clear hk)
    (try clear hi)
    (try clear ho0)
    obtain ⟨Ao14, co14, eo14⟩ := Kd.R_slice HO157.out
    (first | subst eo14 | (injection eo14 with f1_ f2_ f3_; have f4_ := f1_.symm; have f5_ := f3_.symm; clear f1_ f2_ f3_; subst f4_; subst f5_))
    refine hK.out _ _ ⟨(blk_cell BK150.out 0).trans rfl, (blk_cell BK150.out 1).trans rfl, (blk_cell BK151.out 0).trans rfl, (blk_cell BK151.out 1).trans rfl⟩ (fun hHeld => ?_)
    clear hK K
    refine norm_ (a' := ?_) ?_ ?_
    rotate_left
    · show Act.put _ (some 12) _ = _
      simp only [Act.put, List.setIfInBounds_toArray, List.set_cons_zero, List.set_cons_succ, i64_w, i32_w]
      rfl
    refine one_ (i := 6) (N := some 13) #[true, true, true, true, true, true, true, false, false] rfl rfl (one_of HT_.out (by kernel_rfl)) (by decide) (fun K hK => ?_)
    refine Kd.R_append_rows_step k33 (w0 := w) w.heap.size (by rfl) (.tmp 9) (.tmp 12) 22 33 (.agg #[(.int .i64 0), (.int .i64 0)]) 16 rfl Try.underlying22 info33 rfl (by decide) (by omega) v153 t152 t155 _ _ _ (fun k_ => some k_ ≠ (.slice Ao14 t155.length co14 : Value).ownBlock ∧ k_ ≠ gb150 ∧ k_ ≠ gb151) (fun _ => False) rfl rfl ?aO ?aR (fun _ _ h => h) (fun _ h => h.elim) ?aF ?aB ?aS ?aL ?_
    (case aR => repeat (first | exact (Kd.R_reads' HO157.out).2.2 | (with_reducible refine Kd.C_alloc ?_ _) | (with_reducible refine Kd.C_drewN ?_ _) | (with_reducible refine Kd.C_drew ?_)))
    (case aB => exact (by repeat (first | (with_reducible first | exact HB.out | apply below_alloc | apply pw_below_drewN | apply below_drew1 | refine below_set ?_ GE150.out | refine below_set ?_ GE151.out) | exact HB.out)))
    (case aF => exact (fun k_ hk => ⟨Kd.fresh' (Kd.R_lt (by (with_reducible repeat (first | apply Kd.R_alloc | apply Kd.R_drewN | apply Kd.R_drew)); exact HO157.out)) k_ hk, Kd.freshB (g := gb150) (o := .cells #[.int .i64 a1_0, .int .i64 a1_1] 33 (0, 0)) (by (with_reducible repeat (first | refine blk_drewN ?_ _ | refine blk_drew ?_ | refine blk_alloc ?_ _)); exact BK150.out) k_ hk, Kd.freshB (g := gb151) (o := .cells #[.int .i64 a2_0, .int .i64 a2_1] 33 (0, 0)) (by (with_reducible repeat (first | refine blk_drewN ?_ _ | refine blk_drew ?_ | refine blk_alloc ?_ _)); exact BK151.out) k_ hk⟩))
    (case aO => exact (by (with_reducible repeat (first | apply Kd.R_alloc | apply Kd.R_drewN | apply Kd.R_drew)); exact Kd.R_mono HO154.out (fun _ hk => ⟨hk.2, ⟨hk.1.1.2, hk.1.2⟩⟩)))
    (case aS => exact (below_size (by repeat (first | (with_reducible first | exact HB.out | apply below_alloc | apply pw_below_drewN | apply below_drew1 | refine below_set ?_ GE150.out | refine below_set ?_ GE151.out) | exact HB.out))))
    (case aL => have := LMc6.out; omega)
    intro v159 w13 ho hb hg hat
    rw [← Ny158.out] at ho
    have n0_ := Aside0.mk (blk_grown (g := gb150) (o := .cells #[.int .i64 a1_0, .int .i64 a1_1] 33 (0, 0)) (by (with_reducible repeat (first | refine blk_drewN ?_ _ | refine blk_drew ?_ | refine blk_alloc ?_ _)); exact BK150.out) hg (Kd.R_away HO154.out (fun _ hk => hk.1.1.2)))
    have n1_ := Aside0.mk (blk_grown (g := gb151) (o := .cells #[.int .i64 a2_0, .int .i64 a2_1] 33 (0, 0)) (by (with_reducible repeat (first | refine blk_drewN ?_ _ | refine blk_drew ?_ | refine blk_alloc ?_ _)); exact BK151.out) hg (Kd.R_away HO154.out (fun _ hk => hk.1.2)))
    have n2_ := Aside0.mk (Kd.R_after (ok := (fun k_ => k_ ≠ gb150 ∧ k_ ≠ gb151)) (by (with_reducible repeat (first | apply Kd.R_alloc | apply Kd.R_drewN | apply Kd.R_drew)); exact Kd.R_mono HO157.out (fun _ hk => ⟨⟨hk.1.2, hk.2⟩, hk.1.1.2⟩)) hg hat)
    have n3_ := Aside0.mk (hb)
    have n4_ := Aside0.mk (ho)
    clear BK150
    clear BK151
    clear HO157
    clear HB
    clear HO154
    have BK150 := n0_
    have BK151 := n1_
    have HO157 := n2_
    have HB := n3_
    have HO160 := n4_
    clear n0_ n1_ n2_ n3_ n4_
    clear ho hb hg hat
    obtain ⟨Ao15, co15, eo15⟩ := Kd.R_slice HO160.out
    (first | subst eo15 | (injection eo15 with f1_ f2_ f3_; have f4_ := f1_.symm; have f5_ := f3_.symm; clear f1_ f2_ f3_; subst f4_; subst f5_))
    refine hK.out _ _ ⟨(blk_cell BK150.out 0).trans rfl, (blk_cell BK150.out 1).trans rfl, (blk_cell BK151.out 0).trans rfl, (blk_cell BK151.out 1).trans rfl⟩ (fun hHeld => ?_)
    clear hK K
    refine norm_ (a' := ?_) ?_ ?_
    rotate_left
    · show Act.put _ (some 13) _ = _
      simp only [Act.put, List.setIfInBounds_toArray, List.set_cons_zero, List.set_cons_succ, i64_w, i32_w]
      rfl
    refine one_ (i := 7) (N := some 14) #[true, true, true, true, true, true, true, true, false] rfl rfl (one_of HT_.out (by kernel_rfl)) (by decide) (fun K hK => ?_)
    refine goes_ Try.func43 (by kernel_rfl) rfl #[.slice Ao15 y158.length co15] (by rfl) rfl rfl (by (try simp only [List.map_toArray, List.map_cons, List.map_nil]); first | done | rfl | (simp only [List.length_drop, List.length_take]; rfl)) ?_
    with_reducible refine (pen_hull.calls _ _ y158 t161 _ ?side1 ?side2 A7.out).mono ?_
    (case side1 => repeat (first | exact (Kd.R_reads' HO160.out).2.2 | (with_reducible refine Kd.C_alloc ?_ _) | (with_reducible refine Kd.C_drewN ?_ _) | (with_reducible refine Kd.C_drew ?_)))
    (case side2 => exact (Kd.R_reads' HO160.out).2.1)
    rintro e w16 ⟨v162, rfl, ho0, hb⟩
    refine ⟨_, rfl, ?_⟩
    have n0_ := Aside0.mk (Kd.R_elder' (by (with_reducible repeat (first | apply Kd.R_alloc | apply Kd.R_drewN | apply Kd.R_drew)); exact HO157.out) (Kd.R_base ho0) hb)
    have n1_ := Aside0.mk (Kd.R_elder' (by (with_reducible repeat (first | apply Kd.R_alloc | apply Kd.R_drewN | apply Kd.R_drew)); exact HO160.out) (Kd.R_base ho0) hb)
    have n2_ := Aside0.mk (Kd.R_lower (Kd.R_newB (Kd.R_newB (Kd.R_new' (Kd.R_new' ho0 (Kd.R_lt (by (with_reducible repeat (first | apply Kd.R_alloc | apply Kd.R_drewN | apply Kd.R_drew)); exact HO157.out))) (Kd.R_lt (by (with_reducible repeat (first | apply Kd.R_alloc | apply Kd.R_drewN | apply Kd.R_drew)); exact HO160.out))) (g := gb150) (o := .cells #[.int .i64 a1_0, .int .i64 a1_1] 33 (0, 0)) (by (with_reducible repeat (first | refine blk_drewN ?_ _ | refine blk_drew ?_ | refine blk_alloc ?_ _)); exact BK150.out)) (g := gb151) (o := .cells #[.int .i64 a2_0, .int .i64 a2_1] 33 (0, 0)) (by (with_reducible repeat (first | refine blk_drewN ?_ _ | refine blk_drew ?_ | refine blk_alloc ?_ _)); exact BK151.out)) (below_size (by repeat (first | (with_reducible first | exact HB.out | apply below_alloc | apply pw_below_drewN | apply below_drew1 | refine below_set ?_ GE150.out | refine below_set ?_ GE151.out) | exact HB.out))))
    have n3_ := Aside0.mk (blk_below (g := gb150) (o := .cells #[.int .i64 a1_0, .int .i64 a1_1] 33 (0, 0)) (by (with_reducible repeat (first | refine blk_drewN ?_ _ | refine blk_drew ?_ | refine blk_alloc ?_ _)); exact BK150.out) hb)
    have n4_ := Aside0.mk (blk_below (g := gb151) (o := .cells #[.int .i64 a2_0, .int .i64 a2_1] 33 (0, 0)) (by (with_reducible repeat (first | refine blk_drewN ?_ _ | refine blk_drew ?_ | refine blk_alloc ?_ _)); exact BK151.out) hb)
    have n5_ := Aside0.mk (below_step (by repeat (first | (with_reducible first | exact HB.out | apply below_alloc | apply pw_below_drewN | apply below_drew1 | refine below_set ?_ GE150.out | refine below_set ?_ GE151.out) | exact HB.out)) hb)
    clear HO157
    clear HO160
    clear BK150
    clear BK151
    clear HB
    have HO157 := n0_
    have HO160 := n1_
    have HO163 := n2_
    have BK150 := n3_
    have BK151 := n4_
    have HB := n5_
    clear n0_ n1_ n2_ n3_ n4_ n5_
    (try clear hb)
    (try clear hb2)
    (try clear hk)
    (try clear hi)
    (try clear ho0)
    refine hK.out _ _ ⟨(blk_cell BK150.out 0).trans rfl, (blk_cell BK150.out 1).trans rfl, (blk_cell BK151.out 0).trans rfl, (blk_cell BK151.out 1).trans rfl⟩ (fun hHeld => ?_)
    clear hK K
    refine norm_ (a' := ?_) ?_ ?_
    rotate_left
    · show Act.put _ (some 14) _ = _
      simp only [Act.put, List.setIfInBounds_toArray, List.set_cons_zero, List.set_cons_succ, i64_w, i32_w]
      rfl
    refine pure_ (i := 8) (N := some 6) (v := ?_) (a' := ?_) #[true, true, true, true, true, true, true, true, true] rfl rfl (any_of HT_.out (by kernel_rfl)) (fun _ _ _ h => h) (Or.inl ⟨by rfl, ?_⟩) ?_ ?_
    rotate_left
    · intro w'
      go_simp
      with_reducible rfl
    rotate_left
    · simp only [Act.put, List.setIfInBounds_toArray, List.set_cons_zero, List.set_cons_succ, i64_w, i32_w]
      rfl
    refine done_ (done_of HT_.out (by kernel_rfl)) ?_
    try go_wp2
    go_ret
    exact ⟨_, by first | rfl | (simp [errW_none, errW_some] <;> rfl) | (simp [*, errW_none, errW_some] <;> rfl), by (with_reducible repeat (first | apply Kd.R_alloc | apply Kd.R_drewN | apply Kd.R_drew)); exact Kd.R_mono HO163.out (fun _ hk => trivial), by repeat (first | (with_reducible first | exact HB.out | apply below_alloc | apply pw_below_drewN | apply below_drew1 | refine below_set ?_ GE150.out | refine below_set ?_ GE151.out) | exact HB.out)⟩
  · rw [if_neg c6] at H
    exact absurd H (by simp)

/-! ### pen_Sweep: function 20 (by hand) -/
theorem ptRow (W : World) (l : List S33) (cur : Array Value) (hp : PtsAt cur l) (hs : cur.size = l.length * 2) (hl : l.length ≤ 1000) : Kd.C k33 (W.alloc (.cells cur 33)) (some ⟨W.heap.size, 0, none⟩) l.length l :=
  (Kd.R_reads' (row_of_pts (base := 0) (ok := fun _ => True) (cap := l.length) (blk_new W (.cells cur 33)) hp (Nat.zero_le _) trivial (Nat.le_refl _) (by omega) hs)).2.2
theorem pts2 (p q : S33) : PtsAt #[.int .i64 p.f0, .int .i64 p.f1, .int .i64 q.f0, .int .i64 q.f1] [p, q] := by
  intro j x hj
  match j, hj with
  | 0, hj => obtain rfl : p = x := by simpa using hj
             exact ⟨rfl, rfl⟩
  | 1, hj => obtain rfl : q = x := by simpa using hj
             exact ⟨rfl, rfl⟩
  | j + 2, hj => simp at hj
theorem pts3 (p q s : S33) : PtsAt #[.int .i64 p.f0, .int .i64 p.f1, .int .i64 q.f0, .int .i64 q.f1, .int .i64 s.f0, .int .i64 s.f1] [p, q, s] := by
  intro j x hj
  match j, hj with
  | 0, hj => obtain rfl : p = x := by simpa using hj
             exact ⟨rfl, rfl⟩
  | 1, hj => obtain rfl : q = x := by simpa using hj
             exact ⟨rfl, rfl⟩
  | 2, hj => obtain rfl : s = x := by simpa using hj
             exact ⟨rfl, rfl⟩
  | j + 3, hj => simp at hj
def pen_Sweep.f (l0 : List S33) (a1_0 a1_1 a2_0 a2_1 : Int) : Option (List S33 × Int) := (pen_Valid.f l0).bind fun v => if v = true then (flat_ArePoints.f [⟨a1_0, a1_1⟩, ⟨a2_0, a2_1⟩]).bind fun b => if b = true then (pen_Swept.f (l0.length + 5) l0 a1_0 a1_1 a2_0 a2_1).bind fun h => (flat_ArePoints.f h).bind fun b1 => if b1 = true then
  (pen_at.f (l0.length + 5) l0 a1_0 a1_1).bind fun x => (flat_ArePoints.f x).bind fun b2 => if b2 = true then (pen_at.f (l0.length + 5) l0 a2_0 a2_1).bind fun y => (flat_ArePoints.f y).bind fun b3 => if b3 = true then some (h, 0) else some ([], 17) else some ([], 17) else some ([], 17) else some ([], 2) else some ([], 2)
set_option maxHeartbeats 4000000 in
set_option maxRecDepth 100000 in
theorem pen_Sweep.calls (A0 : Option Addr) (c0 : Nat) (l0 : List S33) (a1_0 a1_1 a2_0 a2_1 : Int) (r1 : List S33) (r2 : Int) (w : World) (hr0 : Kd.C k33 w A0 l0.length l0) (hc0 : l0.length ≤ c0) (h : pen_Sweep.f l0 a1_0 a1_1 a2_0 a2_1 = some (r1, r2)) :
    Calls Try.prog 20 #[.slice A0 l0.length c0, .agg #[.int .i64 a1_0, .int .i64 a1_1], .agg #[.int .i64 a2_0, .int .i64 a2_1]] w fun e w' => ∃ v0_ : Value, e = .returned (.tuple #[v0_, .int .i64 r2]) ∧ Kd.R k33 33 w' w.heap.size (fun _ => True) v0_ r1 ∧ Below w.heap.size w w' := by
  have hu := Try.underlying33
  unfold pen_Sweep.f at h
  obtain ⟨v, hv, h⟩ := Option.bind_eq_some_iff.mp h
  have HR := Aside0.mk hr0
  have HC := Aside0.mk hc0
  have HV := Aside0.mk hv
  have H := Aside0.mk h
  have K1 := Aside0.mk (blk_alloc (blk_new w (.cells #[.int .i64 a1_0, .int .i64 a1_1] 33)) (.cells #[.int .i64 a2_0, .int .i64 a2_1] 33))
  have k2 := blk_new (w.alloc (.cells #[.int .i64 a1_0, .int .i64 a1_1] 33)) (.cells #[.int .i64 a2_0, .int .i64 a2_1] 33)
  simp only [World.size_alloc] at k2
  have K2 := Aside0.mk k2
  have HB := Aside0.mk (below_alloc (below_alloc (Below.refl w.heap.size w) (.cells #[.int .i64 a1_0, .int .i64 a1_1] 33)) (.cells #[.int .i64 a2_0, .int .i64 a2_1] 33))
  clear hr0 hc0 hv h k2
  go_enter Try.func20, Try.ntmps20
  go_wp2_with fail
  refine (pen_Valid.calls A0 c0 l0 v _ (Kd.C_below HR.out HB.out) HC.out HV.out).mono ?_
  rintro e W1 ⟨rfl, b1⟩
  have B1 := Aside0.mk (below_step HB.out b1)
  have L1 := Aside0.mk (blk_below K1.out b1)
  have L2 := Aside0.mk (blk_below K2.out b1)
  have d0 := (blk_cell L1.out 0).trans rfl
  have d1 := (blk_cell L1.out 1).trans rfl
  have d2 := (blk_cell L2.out 0).trans rfl
  have d3 := (blk_cell L2.out 1).trans rfl
  clear b1 K1 K2 HB
  cases v with
  | false =>
    obtain ⟨rfl, rfl⟩ : [] = r1 ∧ 2 = r2 := by have := H.out; simpa using this
    go_wp2
    go_ret2
    exact ⟨_, rfl, Kd.R_nil _ _ _ _ _, B1.out⟩
  | true =>
    have hh := H.out
    rw [if_pos rfl] at hh
    obtain ⟨b, hb, hh⟩ := Option.bind_eq_some_iff.mp hh
    have HAB := Aside0.mk hb
    have HX := Aside0.mk hh
    have C2 := Aside0.mk (ptRow W1 [⟨a1_0, a1_1⟩, ⟨a2_0, a2_1⟩] #[.int .i64 a1_0, .int .i64 a1_1, .int .i64 a2_0, .int .i64 a2_1] (pts2 ⟨a1_0, a1_1⟩ ⟨a2_0, a2_1⟩) rfl (by simp))
    clear hh hb H
    go_wp2_with fail
    refine (flat_ArePoints.calls (some ⟨W1.heap.size, 0, none⟩) 2 [⟨a1_0, a1_1⟩, ⟨a2_0, a2_1⟩] b _ C2.out (by simp) HAB.out).mono ?_
    rintro e W2 ⟨rfl, b2⟩
    have B2 := Aside0.mk (below_step (below_alloc B1.out _) b2)
    have M1 := Aside0.mk (blk_below (blk_alloc L1.out _) b2)
    have M2 := Aside0.mk (blk_below (blk_alloc L2.out _) b2)
    clear b2 d0 d1 d2 d3 L1 L2 B1 C2
    cases b with
    | false =>
      obtain ⟨rfl, rfl⟩ : [] = r1 ∧ 2 = r2 := by have := HX.out; simpa using this
      go_wp2
      go_ret2
      exact ⟨_, rfl, Kd.R_nil _ _ _ _ _, B2.out⟩
    | true =>
      have d0 := (blk_cell M1.out 0).trans rfl
      have d1 := (blk_cell M1.out 1).trans rfl
      have d2 := (blk_cell M2.out 0).trans rfl
      have d3 := (blk_cell M2.out 1).trans rfl
      have hh := HX.out
      rw [if_pos rfl] at hh
      obtain ⟨hl, hsw, hh⟩ := Option.bind_eq_some_iff.mp hh
      obtain ⟨b1, hb1, hh⟩ := Option.bind_eq_some_iff.mp hh
      have HSW := Aside0.mk hsw
      have HB1 := Aside0.mk hb1
      have HY := Aside0.mk hh
      clear hh hsw hb1 HX
      go_wp2_with fail
      refine (pen_Swept.calls (l0.length + 5) A0 c0 l0 a1_0 a1_1 a2_0 a2_1 hl _ (Kd.C_below HR.out B2.out) HC.out HSW.out).mono ?_
      rintro e W3 ⟨v3, rfl, r3, b3⟩
      obtain ⟨A3, c3, rfl⟩ := Kd.R_slice r3
      have R3 := Aside0.mk (Kd.R_lower r3 (below_size B2.out))
      have B3 := Aside0.mk (below_step B2.out b3)
      have N1 := Aside0.mk (blk_below M1.out b3)
      have N2 := Aside0.mk (blk_below M2.out b3)
      clear r3 b3 d0 d1 d2 d3 M1 M2 B2
      have d0 := (blk_cell N1.out 0).trans rfl
      have d1 := (blk_cell N1.out 1).trans rfl
      have d2 := (blk_cell N2.out 0).trans rfl
      have d3 := (blk_cell N2.out 1).trans rfl
      go_wp2_with fail
      refine (flat_ArePoints.calls A3 c3 hl b1 _ (Kd.R_reads' R3.out).2.2 (Kd.R_reads' R3.out).2.1 HB1.out).mono ?_
      rintro e W4 ⟨rfl, b4⟩
      have R4 := Aside0.mk (Kd.R_below R3.out b4)
      have B4 := Aside0.mk (below_step B3.out b4)
      have O1 := Aside0.mk (blk_below N1.out b4)
      have O2 := Aside0.mk (blk_below N2.out b4)
      clear b4 d0 d1 d2 d3 N1 N2 B3 R3
      have d0 := (blk_cell O1.out 0).trans rfl
      have d1 := (blk_cell O1.out 1).trans rfl
      have d2 := (blk_cell O2.out 0).trans rfl
      have d3 := (blk_cell O2.out 1).trans rfl
      cases b1 with
      | false =>
        obtain ⟨rfl, rfl⟩ : [] = r1 ∧ 17 = r2 := by have := HY.out; simpa using this
        go_wp2
        go_ret2
        exact ⟨_, rfl, Kd.R_nil _ _ _ _ _, B4.out⟩
      | true =>
        have hh := HY.out
        rw [if_pos rfl] at hh
        obtain ⟨x, hx, hh⟩ := Option.bind_eq_some_iff.mp hh
        obtain ⟨b2, hb2, hh⟩ := Option.bind_eq_some_iff.mp hh
        have HXA := Aside0.mk hx
        have HB2 := Aside0.mk hb2
        have HZ := Aside0.mk hh
        clear hh hx hb2 HY
        go_wp2_with fail
        refine (pen_at.calls (l0.length + 5) A0 c0 l0 a1_0 a1_1 x _ (Kd.C_below HR.out B4.out) HC.out HXA.out).mono ?_
        rintro e W5 ⟨v5, rfl, r5, b5⟩
        obtain ⟨A5, c5, rfl⟩ := Kd.R_slice r5
        have R5 := Aside0.mk r5
        have B5 := Aside0.mk (below_step B4.out b5)
        have R5h := Aside0.mk (Kd.R_below R4.out b5)
        have P1 := Aside0.mk (blk_below O1.out b5)
        have P2 := Aside0.mk (blk_below O2.out b5)
        clear r5 b5 d0 d1 d2 d3 O1 O2 B4 R4
        have d0 := (blk_cell P1.out 0).trans rfl
        have d1 := (blk_cell P1.out 1).trans rfl
        have d2 := (blk_cell P2.out 0).trans rfl
        have d3 := (blk_cell P2.out 1).trans rfl
        go_wp2_with fail
        refine (flat_ArePoints.calls A5 c5 x b2 _ (Kd.R_reads' R5.out).2.2 (Kd.R_reads' R5.out).2.1 HB2.out).mono ?_
        rintro e W6 ⟨rfl, b6⟩
        have B6 := Aside0.mk (below_step B5.out b6)
        have R6 := Aside0.mk (Kd.R_below R5h.out b6)
        have Q1 := Aside0.mk (blk_below P1.out b6)
        have Q2 := Aside0.mk (blk_below P2.out b6)
        clear b6 d0 d1 d2 d3 P1 P2 B5 R5 R5h
        have d0 := (blk_cell Q1.out 0).trans rfl
        have d1 := (blk_cell Q1.out 1).trans rfl
        have d2 := (blk_cell Q2.out 0).trans rfl
        have d3 := (blk_cell Q2.out 1).trans rfl
        cases b2 with
        | false =>
          obtain ⟨rfl, rfl⟩ : [] = r1 ∧ 17 = r2 := by have := HZ.out; simpa using this
          go_wp2
          go_ret2
          exact ⟨_, rfl, Kd.R_nil _ _ _ _ _, B6.out⟩
        | true =>
          have hh := HZ.out
          rw [if_pos rfl] at hh
          obtain ⟨y, hy, hh⟩ := Option.bind_eq_some_iff.mp hh
          obtain ⟨b3, hb3, hh⟩ := Option.bind_eq_some_iff.mp hh
          have HYA := Aside0.mk hy
          have HB3 := Aside0.mk hb3
          have HL := Aside0.mk hh
          clear hh hy hb3 HZ
          go_wp2_with fail
          refine (pen_at.calls (l0.length + 5) A0 c0 l0 a2_0 a2_1 y _ (Kd.C_below HR.out B6.out) HC.out HYA.out).mono ?_
          rintro e W7 ⟨v7, rfl, r7, b7⟩
          obtain ⟨A7, c7, rfl⟩ := Kd.R_slice r7
          have R7 := Aside0.mk r7
          have B7 := Aside0.mk (below_step B6.out b7)
          have R7h := Aside0.mk (Kd.R_below R6.out b7)
          clear r7 b7 d0 d1 d2 d3 Q1 Q2 B6 R6
          go_wp2_with fail
          refine (flat_ArePoints.calls A7 c7 y b3 _ (Kd.R_reads' R7.out).2.2 (Kd.R_reads' R7.out).2.1 HB3.out).mono ?_
          rintro e W8 ⟨rfl, b8⟩
          have B8 := Aside0.mk (below_step B7.out b8)
          have R8 := Aside0.mk (Kd.R_below R7h.out b8)
          clear b8 B7 R7 R7h
          cases b3 with
          | false =>
            obtain ⟨rfl, rfl⟩ : [] = r1 ∧ 17 = r2 := by have := HL.out; simpa using this
            go_wp2
            go_ret2
            exact ⟨_, rfl, Kd.R_nil _ _ _ _ _, B8.out⟩
          | true =>
            obtain ⟨rfl, rfl⟩ : hl = r1 ∧ 0 = r2 := by have := HL.out; simpa using this
            go_wp2
            go_ret2
            exact ⟨_, rfl, R8.out, B8.out⟩

/-! ### pen_Has: function 51 (by hand) -/
def hasAt (l : List S33) (s : S33) : Nat → Bool
  | 0 => true
  | i + 1 => hasAt l s i && decide (0 ≤ signV (rd_T33 l (i : Int)) (nxt l i) s)
theorem grown_set {W W1 : World} (hb : Below W.heap.size W W1) (n : Nat) (g : Nat) (j : Nat) (u : Value) : W.grownBy ((W1.drewN n).setCell ⟨g, j, none⟩ u) (some g) :=
  ⟨hb.os, hb.tape, hb.output, by have := hb.size; simpa [World.setCell] using this, fun k hk hne => (Below.heap_setCell (W1.drewN n) ⟨g, j, none⟩ u k (fun e => hne (by rw [e]))).trans (hb.block k hk)⟩
set_option maxHeartbeats 4000000 in
set_option maxRecDepth 100000 in
theorem has1_calls (a b s : S33) (v : Bool) (bk bs : Nat) (W : World) (h1 : W.heap[bs]? = some (.cells #[.int .i64 s.f0, .int .i64 s.f1] 33 (0, 0))) (h2 : W.heap[bk]? = some (.cells #[.bool v] 4 (0, 0))) :
    Calls Try.prog 83 #[edgeV a b, .pointer (some ⟨bk, 0, none⟩), .pointer (some ⟨bs, 0, none⟩)] W fun e w' =>
      e = .returned (.tuple #[]) ∧ W.grownBy w' (some bk) ∧ w'.heap[bk]? = some (.cells #[.bool (v && decide (0 ≤ signV a b s))] 4 (0, 0)) := by
  have hu := Try.underlying33
  have hu2 := Try.underlying86
  have hs := fun V => wind_Sign.calls a.f0 a.f1 b.f0 b.f1 s.f0 s.f1 _ V (sign_some a b s)
  generalize signV a b s = sg at *
  have HS := Aside0.mk hs
  have hB := below_alloc (Below.refl W.heap.size W) (.cells #[.int .i64 a.f0, .int .i64 a.f1, .int .i64 b.f0, .int .i64 b.f1] 86)
  have K1 := blk_alloc h1 (.cells #[.int .i64 a.f0, .int .i64 a.f1, .int .i64 b.f0, .int .i64 b.f1] 86)
  have K2 := blk_alloc h2 (.cells #[.int .i64 a.f0, .int .i64 a.f1, .int .i64 b.f0, .int .i64 b.f1] 86)
  have a0 := (blk_cell K2 0).trans rfl
  have a1 := (blk_cell K1 0).trans rfl
  have a2 := (blk_cell K1 1).trans rfl
  have a3 := blk_frozen K2 0
  have HB := Aside0.mk hB
  have K2 := Aside0.mk K2
  clear hs hB K1 h1 h2
  unfold edgeV
  cases v with
  | false =>
    go_enter Try.func83, Try.ntmps83
    go_wp2
    go_end0
    exact ⟨rfl, grown_set HB.out 0 bk 0 _, one_setCell K2.out⟩
  | true =>
    go_enter Try.func83, Try.ntmps83
    go_wp2_with fail
    refine (HS.out _).mono ?_
    rintro e W1 ⟨rfl, hb1⟩
    have K3 := blk_below K2.out hb1
    have HB1 := Aside0.mk (below_step HB.out hb1)
    have a4 := (blk_cell K3 0).trans rfl
    have a5 := blk_frozen K3 0
    have K3 := Aside0.mk K3
    clear hb1 a0 a1 a2 a3 HS HB K2
    cases hg : decide (0 ≤ sg) with
    | true =>
      go_wp2
      go_end0
      exact ⟨rfl, grown_set HB1.out 0 bk 0 _, by rw [hg]; exact one_setCell K3.out⟩
    | false =>
      go_wp2
      go_end0
      exact ⟨rfl, grown_set HB1.out 0 bk 0 _, by rw [hg]; exact one_setCell K3.out⟩
/-- What the walk round keeps: the point's block, and what has been found so far. -/
def HasI (w : World) (l0 : List S33) (s : S33) (bk bs : Nat) (i : Nat) (W : World) : Prop :=
  Below w.heap.size w W ∧ W.heap[bs]? = some (.cells #[.int .i64 s.f0, .int .i64 s.f1] 33 (0, 0)) ∧ W.heap[bk]? = some (.cells #[.bool (hasAt l0 s i)] 4 (0, 0)) ∧ w.heap.size ≤ bk ∧ bs ≠ bk
def outB (b : Int × Int × Int × Int) (s0 s1 : Int) : Bool := decide (s0 < b.1) || (decide (b.2.2.1 < s0) || (decide (s1 < b.2.1) || decide (b.2.2.2 < s1)))
def pen_Has.f (l0 : List S33) (a1_0 a1_1 : Int) : Option Bool := if 1 ≤ l0.length ∧ l0.length ≤ 1000000000 then some (!outB (bndAt l0 l0.length) a1_0 a1_1 && hasAt l0 ⟨a1_0, a1_1⟩ l0.length) else none
set_option maxHeartbeats 4000000 in
set_option maxRecDepth 100000 in
theorem pen_Has.calls (A0 : Option Addr) (c0 : Nat) (l0 : List S33) (a1_0 a1_1 : Int) (r : Bool) (w : World) (hr0 : Kd.C k33 w A0 l0.length l0) (hc0 : l0.length ≤ c0) (h : pen_Has.f l0 a1_0 a1_1 = some r) :
    Calls Try.prog 51 #[.slice A0 l0.length c0, .agg #[.int .i64 a1_0, .int .i64 a1_1]] w fun e w' => e = .returned (.bool r) ∧ Below w.heap.size w w' := by
  have hu := Try.underlying33
  have hu2 := Try.underlying58
  unfold pen_Has.f at h
  by_cases hl : 1 ≤ l0.length ∧ l0.length ≤ 1000000000
  case neg => rw [if_neg hl] at h; exact absurd h (by simp)
  rw [if_pos hl] at h
  have HRES := Aside0.mk (Option.some.inj h)
  have HL := Aside0.mk hl
  have HR := Aside0.mk hr0
  have HC := Aside0.mk hc0
  have HB := Aside0.mk (below_alloc (Below.refl w.heap.size w) (.cells #[.int .i64 a1_0, .int .i64 a1_1] 33))
  have BS := Aside0.mk (blk_new w (.cells #[.int .i64 a1_0, .int .i64 a1_1] 33))
  have hbd : ∀ V, Kd.C k33 V A0 l0.length l0 → Calls Try.prog 69 #[.slice A0 l0.length c0] V fun e w' => e = .returned (.agg #[.int .i64 (bndAt l0 l0.length).1, .int .i64 (bndAt l0 l0.length).2.1, .int .i64 (bndAt l0 l0.length).2.2.1, .int .i64 (bndAt l0 l0.length).2.2.2]) ∧ Below V.heap.size V w' := fun V hV => flat_Bounds.calls A0 c0 l0 _ V hV hc0 (by unfold flat_Bounds.f; rw [if_pos hl])
  have HBD := Aside0.mk hbd
  generalize bndAt l0 l0.length = b at *
  obtain ⟨b0, b1, b2, b3⟩ := b
  simp only [outB] at HRES HBD
  clear h hl hr0 hc0 hbd
  go_enter Try.func51, Try.ntmps51
  go_wp2_with fail
  refine (HBD.out _ (Kd.C_below HR.out HB.out)).mono ?_
  rintro e W1 ⟨rfl, hb1⟩
  have B1 := Aside0.mk (below_step HB.out hb1)
  have K1 := blk_below BS.out hb1
  have V0 := blk_alloc K1 (.cells #[.int .i64 b0, .int .i64 b1, .int .i64 b2, .int .i64 b3] 58)
  have p0 := (blk_cell V0 0).trans rfl
  have p1 := (blk_cell V0 1).trans rfl
  have V0 := Aside0.mk V0
  have KS := Aside0.mk K1
  clear hb1 HBD HB BS K1
  cases t1 : decide (a1_0 < b0) with
  | true =>
    obtain rfl : false = r := by have := HRES.out; rw [t1] at this; simpa using this
    go_wp2
    go_ret
    exact ⟨rfl, below_alloc B1.out _⟩
  | false =>
    cases t2 : decide (b2 < a1_0) with
    | true =>
      obtain rfl : false = r := by have := HRES.out; rw [t1, t2] at this; simpa using this
      go_wp2
      go_ret
      exact ⟨rfl, below_alloc B1.out _⟩
    | false =>
      cases t3 : decide (a1_1 < b1) with
      | true =>
        obtain rfl : false = r := by have := HRES.out; rw [t1, t2, t3] at this; simpa using this
        go_wp2
        go_ret
        exact ⟨rfl, below_alloc B1.out _⟩
      | false =>
        cases t4 : decide (b3 < a1_1) with
        | true =>
          obtain rfl : false = r := by have := HRES.out; rw [t1, t2, t3, t4] at this; simpa using this
          go_wp2
          go_ret
          exact ⟨rfl, below_alloc B1.out _⟩
        | false =>
          have hres : hasAt l0 ⟨a1_0, a1_1⟩ l0.length = r := by have := HRES.out; rw [t1, t2, t3, t4] at this; simpa using this
          have HRES2 := Aside0.mk hres
          clear HRES hres
          have hs1 := blk_lt KS.out
          have hE := Edges_calls 83 #[.pointer (some ⟨W1.heap.size + 1, 0, none⟩), .pointer (some ⟨w.heap.size, 0, none⟩)]
            (HasI w l0 ⟨a1_0, a1_1⟩ (W1.heap.size + 1) w.heap.size) (enters_own Try.func83 (by kernel_rfl) rfl) A0 c0 l0 w ((W1.alloc (.cells #[.int .i64 b0, .int .i64 b1, .int .i64 b2, .int .i64 b3] 58)).alloc (.cells #[.bool true] 4))
            (fun i W hi ⟨k0, k1, k2, k3, k4⟩ => by
              refine (has1_calls (rd_T33 l0 (i : Int)) (nxt l0 i) ⟨a1_0, a1_1⟩ (hasAt l0 ⟨a1_0, a1_1⟩ i) _ _ W k1 k2).mono ?_
              rintro e w' ⟨rfl, hg, hk⟩
              exact ⟨rfl, k0.grown hg k0.size (fun k hk' => by injection hk' with hk'; omega), blk_grown k1 hg (by simp; omega), hk, k3, k4⟩)
            (fun i W h => h.1) (fun i W o h => ⟨below_alloc h.1 o, blk_alloc h.2.1 o, blk_alloc h.2.2.1 o, h.2.2.2⟩) (fun i W n h => ⟨pw_below_drewN h.1 n, blk_drewN h.2.1 n, blk_drewN h.2.2.1 n, h.2.2.2⟩)
            ⟨below_alloc (below_alloc B1.out _) _, blk_alloc (blk_alloc KS.out _) _, by have h := blk_new (W1.alloc (.cells #[.int .i64 b0, .int .i64 b1, .int .i64 b2, .int .i64 b3] 58)) (.cells #[.bool true] 4); simp only [World.size_alloc] at h; exact h, by omega, by omega⟩ HR.out HL.out.2
          have HE := Aside0.mk hE
          clear hE hs1
          go_wp2_with fail
          refine HE.out.mono ?_
          rintro e W6 ⟨rfl, k0, k1, k2, k3, k4⟩
          have K0 := Aside0.mk k0
          rw [HRES2.out] at k2
          have c6 := (blk_cell k2 0).trans rfl
          clear HE k0 k1 k2 k3 k4
          go_wp2
          go_ret
          exact ⟨rfl, K0.out⟩

/-! ### pen_Covers: function 22 (by hand) -/
def pen_Covers.f (l0 : List S33) (a1_0 a1_1 a2_0 a2_1 a3_0 a3_1 : Int) : Option (Bool × Int) := (pen_Valid.f l0).bind fun v => if v = true then (flat_ArePoints.f [⟨a1_0, a1_1⟩, ⟨a2_0, a2_1⟩, ⟨a3_0, a3_1⟩]).bind fun b => if b = true then (pen_Swept.f (l0.length + 5) l0 a1_0 a1_1 a2_0 a2_1).bind fun h => (pen_Has.f h a3_0 a3_1).bind fun q => some (q, 0) else some (false, 2) else some (false, 2)
set_option maxHeartbeats 4000000 in
set_option maxRecDepth 100000 in
theorem pen_Covers.calls (A0 : Option Addr) (c0 : Nat) (l0 : List S33) (a1_0 a1_1 a2_0 a2_1 a3_0 a3_1 : Int) (r1 : Bool) (r2 : Int) (w : World) (hr0 : Kd.C k33 w A0 l0.length l0) (hc0 : l0.length ≤ c0) (h : pen_Covers.f l0 a1_0 a1_1 a2_0 a2_1 a3_0 a3_1 = some (r1, r2)) :
    Calls Try.prog 22 #[.slice A0 l0.length c0, .agg #[.int .i64 a1_0, .int .i64 a1_1], .agg #[.int .i64 a2_0, .int .i64 a2_1], .agg #[.int .i64 a3_0, .int .i64 a3_1]] w fun e w' => e = .returned (.tuple #[.bool r1, .int .i64 r2]) ∧ Below w.heap.size w w' := by
  have hu := Try.underlying33
  unfold pen_Covers.f at h
  obtain ⟨v, hv, h⟩ := Option.bind_eq_some_iff.mp h
  have HR := Aside0.mk hr0
  have HC := Aside0.mk hc0
  have HV := Aside0.mk hv
  have H := Aside0.mk h
  have K1 := Aside0.mk (blk_alloc (blk_alloc (blk_new w (.cells #[.int .i64 a1_0, .int .i64 a1_1] 33)) (.cells #[.int .i64 a2_0, .int .i64 a2_1] 33)) (.cells #[.int .i64 a3_0, .int .i64 a3_1] 33))
  have k2 := blk_alloc (blk_new (w.alloc (.cells #[.int .i64 a1_0, .int .i64 a1_1] 33)) (.cells #[.int .i64 a2_0, .int .i64 a2_1] 33)) (.cells #[.int .i64 a3_0, .int .i64 a3_1] 33)
  have k3 := blk_new ((w.alloc (.cells #[.int .i64 a1_0, .int .i64 a1_1] 33)).alloc (.cells #[.int .i64 a2_0, .int .i64 a2_1] 33)) (.cells #[.int .i64 a3_0, .int .i64 a3_1] 33)
  simp only [World.size_alloc] at k2 k3
  have K2 := Aside0.mk k2
  have K3 := Aside0.mk k3
  have HB := Aside0.mk (below_alloc (below_alloc (below_alloc (Below.refl w.heap.size w) (.cells #[.int .i64 a1_0, .int .i64 a1_1] 33)) (.cells #[.int .i64 a2_0, .int .i64 a2_1] 33)) (.cells #[.int .i64 a3_0, .int .i64 a3_1] 33))
  clear hr0 hc0 hv h k2 k3
  go_enter Try.func22, Try.ntmps22
  go_wp2_with fail
  refine (pen_Valid.calls A0 c0 l0 v _ (Kd.C_below HR.out HB.out) HC.out HV.out).mono ?_
  rintro e W1 ⟨rfl, b1⟩
  have B1 := Aside0.mk (below_step HB.out b1)
  have L1 := Aside0.mk (blk_below K1.out b1)
  have L2 := Aside0.mk (blk_below K2.out b1)
  have L3 := Aside0.mk (blk_below K3.out b1)
  have d0 := (blk_cell L1.out 0).trans rfl
  have d1 := (blk_cell L1.out 1).trans rfl
  have d2 := (blk_cell L2.out 0).trans rfl
  have d3 := (blk_cell L2.out 1).trans rfl
  have d4 := (blk_cell L3.out 0).trans rfl
  have d5 := (blk_cell L3.out 1).trans rfl
  clear b1 K1 K2 K3 HB
  cases v with
  | false =>
    obtain ⟨rfl, rfl⟩ : false = r1 ∧ 2 = r2 := by have := H.out; simpa using this
    go_wp2
    go_ret2
    exact ⟨rfl, B1.out⟩
  | true =>
    have hh := H.out
    rw [if_pos rfl] at hh
    obtain ⟨b, hb, hh⟩ := Option.bind_eq_some_iff.mp hh
    have HAB := Aside0.mk hb
    have HX := Aside0.mk hh
    have C2 := Aside0.mk (ptRow W1 [⟨a1_0, a1_1⟩, ⟨a2_0, a2_1⟩, ⟨a3_0, a3_1⟩] #[.int .i64 a1_0, .int .i64 a1_1, .int .i64 a2_0, .int .i64 a2_1, .int .i64 a3_0, .int .i64 a3_1] (pts3 ⟨a1_0, a1_1⟩ ⟨a2_0, a2_1⟩ ⟨a3_0, a3_1⟩) rfl (by simp))
    clear hh hb H
    go_wp2_with fail
    refine (flat_ArePoints.calls (some ⟨W1.heap.size, 0, none⟩) 3 [⟨a1_0, a1_1⟩, ⟨a2_0, a2_1⟩, ⟨a3_0, a3_1⟩] b _ C2.out (by simp) HAB.out).mono ?_
    rintro e W2 ⟨rfl, b2⟩
    have B2 := Aside0.mk (below_step (below_alloc B1.out _) b2)
    have M1 := Aside0.mk (blk_below (blk_alloc L1.out _) b2)
    have M2 := Aside0.mk (blk_below (blk_alloc L2.out _) b2)
    have M3 := Aside0.mk (blk_below (blk_alloc L3.out _) b2)
    clear b2 d0 d1 d2 d3 d4 d5 L1 L2 L3 B1 C2
    cases b with
    | false =>
      obtain ⟨rfl, rfl⟩ : false = r1 ∧ 2 = r2 := by have := HX.out; simpa using this
      go_wp2
      go_ret2
      exact ⟨rfl, B2.out⟩
    | true =>
      have hh := HX.out
      rw [if_pos rfl] at hh
      obtain ⟨hl, hsw, hh⟩ := Option.bind_eq_some_iff.mp hh
      obtain ⟨q, hq, hh⟩ := Option.bind_eq_some_iff.mp hh
      obtain ⟨rfl, rfl⟩ : q = r1 ∧ 0 = r2 := by simpa using hh
      have HSW := Aside0.mk (fun V hV => pen_Swept.calls (l0.length + 5) A0 c0 l0 a1_0 a1_1 a2_0 a2_1 hl V (Kd.C_below HR.out hV) HC.out hsw)
      have HHAS := Aside0.mk (fun A c V hV hc => pen_Has.calls A c hl a3_0 a3_1 q V hV hc hq)
      have d0 := Aside0.mk ((blk_cell (blk_drew M1.out) 0).trans rfl)
      have d1 := Aside0.mk ((blk_cell (blk_drew M1.out) 1).trans rfl)
      have d2 := Aside0.mk ((blk_cell (blk_drew M2.out) 0).trans rfl)
      have d3 := Aside0.mk ((blk_cell (blk_drew M2.out) 1).trans rfl)
      have d4 := Aside0.mk ((blk_cell (blk_drew M3.out) 0).trans rfl)
      have d5 := Aside0.mk ((blk_cell (blk_drew M3.out) 1).trans rfl)
      have BD := Aside0.mk (below_drew1 B2.out)
      clear hh hq hsw HX
      go_wp2
      refine start_ (n := 8) (S := fun w' => w'.cell? ⟨w.heap.size, 0, none⟩ = some (.int .i64 a1_0) ∧ w'.cell? ⟨w.heap.size, 1, none⟩ = some (.int .i64 a1_1) ∧ w'.cell? ⟨w.heap.size + 1, 0, none⟩ = some (.int .i64 a2_0) ∧ w'.cell? ⟨w.heap.size + 1, 1, none⟩ = some (.int .i64 a2_1) ∧ w'.cell? ⟨w.heap.size + 1 + 1, 0, none⟩ = some (.int .i64 a3_0) ∧ w'.cell? ⟨w.heap.size + 1 + 1, 1, none⟩ = some (.int .i64 a3_1) ∧ Below w.heap.size w w') (ds := []) #[false, false, false, false, false, false, false, false] (by kernel_rfl) rfl rfl ⟨d0.out, d1.out, d2.out, d3.out, d4.out, d5.out, BD.out⟩ (fun hHeld => ?_)
      refine pure_ (i := 0) (N := some 21) (v := ?_) (a' := ?_) #[true, false, false, false, false, false, false, false] rfl rfl (by kernel_rfl) (fun _ _ _ h => h) (Or.inl ⟨by rfl, ?_⟩) ?_ ?_
      rotate_left
      · intro w'
        go_simp
        with_reducible rfl
      rotate_left
      · simp only [Act.put, List.setIfInBounds_toArray, List.set_cons_zero, List.set_cons_succ, i64_w, i32_w]
        rfl
      refine take_ (i := 1) (N := some 22) (v := ?_) (a' := ?_) #[true, true, false, false, false, false, false, false] rfl rfl (by kernel_rfl) (fun _ _ _ h => h) (Or.inl ⟨by rfl, ?_⟩) hHeld ?_ ?_
      rotate_left
      · rintro w' ⟨s0, s1, s2, s3, s4, s5, s6⟩
        go_simp
        with_reducible rfl
      rotate_left
      · simp only [Act.put, List.setIfInBounds_toArray, List.set_cons_zero, List.set_cons_succ, i64_w, i32_w]
        rfl
      refine take_ (i := 2) (N := some 23) (v := ?_) (a' := ?_) #[true, true, true, false, false, false, false, false] rfl rfl (by kernel_rfl) (fun _ _ _ h => h) (Or.inl ⟨by rfl, ?_⟩) hHeld ?_ ?_
      rotate_left
      · rintro w' ⟨s0, s1, s2, s3, s4, s5, s6⟩
        go_simp
        with_reducible rfl
      rotate_left
      · simp only [Act.put, List.setIfInBounds_toArray, List.set_cons_zero, List.set_cons_succ, i64_w, i32_w]
        rfl
      refine take_ (i := 4) (N := some 25) (v := ?_) (a' := ?_) #[true, true, true, false, true, false, false, false] rfl rfl (by kernel_rfl) (fun _ _ _ h => h) (Or.inl ⟨by rfl, ?_⟩) hHeld ?_ ?_
      rotate_left
      · rintro w' ⟨s0, s1, s2, s3, s4, s5, s6⟩
        go_simp
        with_reducible rfl
      rotate_left
      · simp only [Act.put, List.setIfInBounds_toArray, List.set_cons_zero, List.set_cons_succ, i64_w, i32_w]
        rfl
      refine one_ (i := 3) (N := some 24) #[true, true, true, true, true, false, false, false] rfl rfl (by kernel_rfl) (by decide) (fun K hK => ?_)
      refine goes_ Try.func48 (by kernel_rfl) rfl #[.slice A0 l0.length c0, .agg #[.int .i64 a1_0, .int .i64 a1_1], .agg #[.int .i64 a2_0, .int .i64 a2_1]] (by rfl) rfl rfl (by simp only [List.map_toArray, List.map_cons, List.map_nil]; rfl) ?_
      refine (HSW.out _ hHeld.2.2.2.2.2.2).mono ?_
      rintro e w3 ⟨v3, rfl, r3, hk3⟩
      obtain ⟨A3, c3, rfl⟩ := Kd.R_slice r3
      have R3 := Aside0.mk r3
      refine ⟨_, rfl, ?_⟩
      refine hK.out _ _ ⟨(hk3.cell (World.block_lt_of_cell? _ _ hHeld.1)).trans hHeld.1, (hk3.cell (World.block_lt_of_cell? _ _ hHeld.2.1)).trans hHeld.2.1, (hk3.cell (World.block_lt_of_cell? _ _ hHeld.2.2.1)).trans hHeld.2.2.1, (hk3.cell (World.block_lt_of_cell? _ _ hHeld.2.2.2.1)).trans hHeld.2.2.2.1, (hk3.cell (World.block_lt_of_cell? _ _ hHeld.2.2.2.2.1)).trans hHeld.2.2.2.2.1, (hk3.cell (World.block_lt_of_cell? _ _ hHeld.2.2.2.2.2.1)).trans hHeld.2.2.2.2.2.1, below_step hHeld.2.2.2.2.2.2 hk3⟩ (fun hHeld => ?_)
      clear hK K
      refine norm_ (a' := ?_) ?_ ?_
      rotate_left
      · show Act.put _ (some 24) _ = _
        simp only [Act.put, List.setIfInBounds_toArray, List.set_cons_zero, List.set_cons_succ, i64_w, i32_w]
        rfl
      refine one_ (i := 5) (N := some 26) #[true, true, true, true, true, true, false, false] rfl rfl (by kernel_rfl) (by decide) (fun K hK => ?_)
      refine goes_ Try.func51 (by kernel_rfl) rfl #[.slice A3 hl.length c3, .agg #[.int .i64 a3_0, .int .i64 a3_1]] (by rfl) rfl rfl (by simp only [List.map_toArray, List.map_cons, List.map_nil]; rfl) ?_
      refine (HHAS.out A3 c3 _ (Kd.R_reads' R3.out).2.2 (Kd.R_reads' R3.out).2.1).mono ?_
      rintro e w5 ⟨rfl, hk5⟩
      refine ⟨_, rfl, ?_⟩
      refine hK.out _ _ ⟨(hk5.cell (World.block_lt_of_cell? _ _ hHeld.1)).trans hHeld.1, (hk5.cell (World.block_lt_of_cell? _ _ hHeld.2.1)).trans hHeld.2.1, (hk5.cell (World.block_lt_of_cell? _ _ hHeld.2.2.1)).trans hHeld.2.2.1, (hk5.cell (World.block_lt_of_cell? _ _ hHeld.2.2.2.1)).trans hHeld.2.2.2.1, (hk5.cell (World.block_lt_of_cell? _ _ hHeld.2.2.2.2.1)).trans hHeld.2.2.2.2.1, (hk5.cell (World.block_lt_of_cell? _ _ hHeld.2.2.2.2.2.1)).trans hHeld.2.2.2.2.2.1, below_step hHeld.2.2.2.2.2.2 hk5⟩ (fun hHeld => ?_)
      clear hK K
      refine norm_ (a' := ?_) ?_ ?_
      rotate_left
      · show Act.put _ (some 26) _ = _
        simp only [Act.put, List.setIfInBounds_toArray, List.set_cons_zero, List.set_cons_succ, i64_w, i32_w]
        rfl
      refine pure_ (i := 6) (N := some 8) (v := ?_) (a' := ?_) #[true, true, true, true, true, true, true, false] rfl rfl (by kernel_rfl) (fun _ _ _ h => h) (Or.inl ⟨by rfl, ?_⟩) ?_ ?_
      rotate_left
      · intro w'
        go_simp
        with_reducible rfl
      rotate_left
      · simp only [Act.put, List.setIfInBounds_toArray, List.set_cons_zero, List.set_cons_succ, i64_w, i32_w]
        rfl
      refine pure_ (i := 7) (N := some 9) (v := ?_) (a' := ?_) #[true, true, true, true, true, true, true, true] rfl rfl (by kernel_rfl) (fun _ _ _ h => h) (Or.inl ⟨by rfl, ?_⟩) ?_ ?_
      rotate_left
      · intro w'
        go_simp
        with_reducible rfl
      rotate_left
      · simp only [Act.put, List.setIfInBounds_toArray, List.set_cons_zero, List.set_cons_succ, i64_w, i32_w]
        rfl
      refine done_ (by kernel_rfl) ?_
      have BF := Aside0.mk hHeld.2.2.2.2.2.2
      go_wp2
      go_ret2
      exact ⟨rfl, BF.out⟩

/-! ### pen_ValidLine: function 52 -/
def pen_ValidLine.f (l0 : List (S33)) : Option (Bool) := if (l0.length : Int) ≥ 1 then (if (l0.length : Int) ≤ 60000 then ((flat_ArePoints.f l0).bind fun t164 => (some t164)) else (some false)) else (some false)
set_option maxHeartbeats 8000000 in
set_option maxRecDepth 100000 in
theorem pen_ValidLine.calls (A0 : Option Addr) (c0 : Nat) (l0 : List (S33)) (r : Bool) (w : World) (hr0 : Kd.C k33 w A0 l0.length l0) (hc0 : l0.length ≤ c0) (h : pen_ValidLine.f l0 = some r) :
    Calls Try.prog 52 #[.slice A0 l0.length c0] w fun e w' => e = .returned (.bool r) ∧ Below w.heap.size w w' := by
  have HR0 := Aside0.mk hr0
  have HC0 := Aside0.mk hc0
  clear hr0 hc0
  have HB := Aside0.mk (Below.refl w.heap.size w)
  have H : (if (l0.length : Int) ≥ 1 then (if (l0.length : Int) ≤ 60000 then ((flat_ArePoints.f l0).bind fun t164 => (some t164)) else (some false)) else (some false)) = some r := h
  clear h
  by_cases c2 : (l0.length : Int) ≥ 1
  · rw [if_pos c2] at H
    have c2b0 : decide (1 ≤ (l0.length : Int)) = true := decide_eq_true c2
    have c2b1 : decide (1 ≤ l0.length) = true := decide_eq_true (by omega)
    clear c2
    by_cases c3 : (l0.length : Int) ≤ 60000
    · rw [if_pos c3] at H
      have c3b0 : decide ((l0.length : Int) ≤ 60000) = true := decide_eq_true c3
      have c3b1 : decide (l0.length ≤ 60000) = true := decide_eq_true (by omega)
      clear c3
      replace H := Option.bind_eq_some_iff.mp H
      obtain ⟨t164, A40, H⟩ := H
      replace H : (some t164) = some r := H
      have A4 := Aside0.mk A40
      clear A40
      obtain rfl := Option.some.inj H
      go_enter Try.func52, Try.ntmps52
      go_wp2_with (first | (go_at_call 41; (with_reducible refine (flat_ArePoints.calls _ _ l0 t164 _ ?side1 ?side2 A4.out).mono ?_); (case side1 => repeat (first | exact HR0.out | (with_reducible refine Kd.C_alloc ?_ _) | (with_reducible refine Kd.C_drewN ?_ _) | (with_reducible refine Kd.C_drew ?_))); (case side2 => exact HC0.out); rintro e w5 ⟨rfl, hb⟩; have n0_ := Aside0.mk (below_step (by repeat (first | (with_reducible first | exact HB.out | apply below_alloc | apply pw_below_drewN | apply below_drew1) | exact HB.out)) hb); clear HB; have HB := n0_; clear n0_; (try clear hb); (try clear hb2); (try clear hk); (try clear hi)))
      go_ret
      exact ⟨by first | rfl | (simp [errW_none, errW_some] <;> rfl) | (simp [*, errW_none, errW_some] <;> rfl), by repeat (first | (with_reducible first | exact HB.out | apply below_alloc | apply pw_below_drewN | apply below_drew1) | exact HB.out)⟩
    · rw [if_neg c3] at H
      have c3b0 : decide ((l0.length : Int) ≤ 60000) = false := decide_eq_false c3
      have c3b1 : decide (l0.length ≤ 60000) = false := decide_eq_false (by omega)
      clear c3
      obtain rfl := Option.some.inj H
      go_enter Try.func52, Try.ntmps52
      go_wp2
      go_ret
      exact ⟨by first | rfl | (simp [errW_none, errW_some] <;> rfl) | (simp [*, errW_none, errW_some] <;> rfl), by repeat (first | (with_reducible first | exact HB.out | apply below_alloc | apply pw_below_drewN | apply below_drew1) | exact HB.out)⟩
  · rw [if_neg c2] at H
    have c2b0 : decide (1 ≤ (l0.length : Int)) = false := decide_eq_false c2
    have c2b1 : decide (1 ≤ l0.length) = false := decide_eq_false (by omega)
    clear c2
    obtain rfl := Option.some.inj H
    go_enter Try.func52, Try.ntmps52
    go_wp2
    go_ret
    exact ⟨by first | rfl | (simp [errW_none, errW_some] <;> rfl) | (simp [*, errW_none, errW_some] <;> rfl), by repeat (first | (with_reducible first | exact HB.out | apply below_alloc | apply pw_below_drewN | apply below_drew1) | exact HB.out)⟩

end Go.Proofs.Ytnjlcmaelacjkaa.PD3

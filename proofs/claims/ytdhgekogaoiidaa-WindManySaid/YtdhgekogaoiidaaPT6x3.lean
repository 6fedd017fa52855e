/- What functions of the program come to, each with the proof that the machine's call does just that; written by a program of this session out of the translation. -/
import Derived.Test.YtdhgekogaoiidaaPT6x0
import Derived.Test.YtdhgekogaoiidaaPT6x2
namespace Go.Proofs.Ytdhgekogaoiidaa.PT6
open Go.RowKit Go.Proofs.YtdhgekogaoiidaaW.PrintWords Go.Proofs.YtdhgekogaoiidaaW.PrintLast Go.Proofs.YtdhgekogaoiidaaW.PrintMore
attribute [local go_sem] max2_int min2_int max_two min_two max_three min_three max_four min_four   -- for this text's walks alone
set_option linter.unusedVariables false
set_option linter.unusedSimpArgs false

/-! ### flat_ArePoints: function 60 (by hand) -/
def isPt (x : S24) : Bool := decide (-268435455 ≤ x.f0) && decide (x.f0 ≤ 268435455) && (decide (-268435455 ≤ x.f1) && decide (x.f1 ≤ 268435455))
def flat_ArePoints.f (l0 : List S24) : Option Bool := if l0.length ≤ 9223372036854775807 then some (l0.all isPt) else none
theorem isPoint_is (x : S24) : flat_IsPoint.f x.f0 x.f1 = some (isPt x) := by
  unfold flat_IsPoint.f flat_IsCoord.f isPt
  by_cases h1 : x.f0 ≥ -268435455
  · rw [if_pos h1]
    by_cases h2 : x.f0 ≤ 268435455
    · rw [show decide (x.f0 ≤ 268435455) = true from decide_eq_true h2, show decide (-268435455 ≤ x.f0) = true from decide_eq_true h1]
      simp only [Option.bind_some, if_true]
      by_cases h3 : x.f1 ≥ -268435455
      · rw [if_pos h3, show decide (-268435455 ≤ x.f1) = true from decide_eq_true h3]; simp
      · rw [if_neg h3, show decide (-268435455 ≤ x.f1) = false from decide_eq_false h3]; simp
    · rw [show decide (x.f0 ≤ 268435455) = false from decide_eq_false h2]; simp
  · rw [if_neg h1, show decide (-268435455 ≤ x.f0) = false from decide_eq_false h1]; simp
set_option maxHeartbeats 2000000 in
set_option maxRecDepth 100000 in
theorem notPoint_calls (x : S24) (w : World) : Calls Try.prog 75 #[.agg #[.int .i64 x.f0, .int .i64 x.f1]] w fun e w' => e = .returned (.bool (!isPt x)) ∧ Below w.heap.size w w' := by
  have hu := Try.underlying24
  have hc := fun W => flat_IsPoint.calls x.f0 x.f1 (isPt x) W (isPoint_is x)
  have HB := Aside0.mk (below_alloc (Below.refl w.heap.size w) (.cells #[.int .i64 x.f0, .int .i64 x.f1] 24))
  generalize isPt x = b at *
  go_enter Try.func75, Try.ntmps75
  go_wp2_with fail
  refine (hc _).mono ?_
  rintro e w' ⟨rfl, hb'⟩
  have HB2 := Aside0.mk (below_step HB.out hb')
  clear hb' hc
  go_wp2
  go_ret
  exact ⟨rfl, HB2.out⟩
set_option maxHeartbeats 2000000 in
set_option maxRecDepth 100000 in
theorem flat_ArePoints.calls (A0 : Option Addr) (c0 : Nat) (l0 : List S24) (r : Bool) (w : World) (hr0 : Kd.C k24 w A0 l0.length l0) (hc0 : l0.length ≤ c0) (h : flat_ArePoints.f l0 = some r) :
    Calls Try.prog 60 #[.slice A0 l0.length c0] w fun e w' => e = .returned (.bool r) ∧ Below w.heap.size w w' := by
  unfold flat_ArePoints.f at h
  by_cases hl : l0.length ≤ 9223372036854775807
  · rw [if_pos hl] at h
    injection h with h
    have hc := ContainsFunc_pts 75 #[] (fun x => !isPt x) (enters_own Try.func75 (by kernel_rfl) rfl) A0 c0 l0 w
      (fun W x hb => (notPoint_calls x W).mono fun e w' ⟨he, hb'⟩ => ⟨he, below_step hb hb'⟩) hr0 hl
    have hr : l0.any (fun x => !isPt x) = !r := by
      rw [← h, List.any_eq_not_all_not]; simp
    rw [hr] at hc
    clear hr h hr0
    go_enter Try.func60, Try.ntmps60
    go_wp2_with fail
    refine hc.mono ?_
    clear hc
    rintro e w' ⟨rfl, hb'⟩
    go_wp2
    go_ret
    exact ⟨by simp, hb'⟩
  · rw [if_neg hl] at h
    exact absurd h (by simp)

/-! ### wind_valid: function 51 -/
def wind_valid.f (l0 : List (S24)) : Option (Bool) := if (l0.length : Int) ≥ 1 then (if (l0.length : Int) ≤ 60000 then ((flat_ArePoints.f l0).bind fun t117 => (some t117)) else (some false)) else (some false)
set_option maxHeartbeats 8000000 in
set_option maxRecDepth 100000 in
theorem wind_valid.calls (A0 : Option Addr) (c0 : Nat) (l0 : List (S24)) (r : Bool) (w : World) (hr0 : Kd.C k24 w A0 l0.length l0) (hc0 : l0.length ≤ c0) (h : wind_valid.f l0 = some r) :
    Calls Try.prog 51 #[.slice A0 l0.length c0] w fun e w' => e = .returned (.bool r) ∧ Below w.heap.size w w' := by
  have HR0 := Aside0.mk hr0
  have HC0 := Aside0.mk hc0
  clear hr0 hc0
  have HB := Aside0.mk (Below.refl w.heap.size w)
  have H : (if (l0.length : Int) ≥ 1 then (if (l0.length : Int) ≤ 60000 then ((flat_ArePoints.f l0).bind fun t117 => (some t117)) else (some false)) else (some false)) = some r := h
  clear h
  by_cases c2 : (l0.length : Int) ≥ 1
  · rw [if_pos c2] at H
    have c2b0 : decide (1 ≤ (l0.length : Int)) = true := decide_eq_true c2
    have c2b1 : decide (1 ≤ l0.length) = true := decide_eq_true (by omega)
    clear c2
    by_cases c3 : (l0.length : Int) ≤ 60000
    · rw [if_pos c3] at H
      have c3b0 : decide ((l0.length : Int) ≤ 60000) = true := decide_eq_true c3
      have c3b1 : decide (l0.length ≤ 60000) = true := decide_eq_true (by omega)
      clear c3
      replace H := Option.bind_eq_some_iff.mp H
      obtain ⟨t117, A40, H⟩ := H
      replace H : (some t117) = some r := H
      have A4 := Aside0.mk A40
      clear A40
      obtain rfl := Option.some.inj H
      go_enter Try.func51, Try.ntmps51
      go_wp2_with (first | (go_at_call 60; (with_reducible refine (flat_ArePoints.calls _ _ l0 t117 _ ?side1 ?side2 A4.out).mono ?_); (case side1 => repeat (first | exact HR0.out | (with_reducible refine Kd.C_alloc ?_ _) | (with_reducible refine Kd.C_drewN ?_ _) | (with_reducible refine Kd.C_drew ?_))); (case side2 => exact HC0.out); rintro e w5 ⟨rfl, hb⟩; have n0_ := Aside0.mk (below_step (by repeat (first | (with_reducible first | exact HB.out | apply below_alloc | apply pw_below_drewN | apply below_drew1) | exact HB.out)) hb); clear HB; have HB := n0_; clear n0_; (try clear hb); (try clear hb2); (try clear hk); (try clear hi)))
      go_ret
      exact ⟨by first | rfl | (simp [errW_none, errW_some] <;> rfl) | (simp [*, errW_none, errW_some] <;> rfl), by repeat (first | (with_reducible first | exact HB.out | apply below_alloc | apply pw_below_drewN | apply below_drew1) | exact HB.out)⟩
    · rw [if_neg c3] at H
      have c3b0 : decide ((l0.length : Int) ≤ 60000) = false := decide_eq_false c3
      have c3b1 : decide (l0.length ≤ 60000) = false := decide_eq_false (by omega)
      clear c3
      obtain rfl := Option.some.inj H
      go_enter Try.func51, Try.ntmps51
      go_wp2
      go_ret
      exact ⟨by first | rfl | (simp [errW_none, errW_some] <;> rfl) | (simp [*, errW_none, errW_some] <;> rfl), by repeat (first | (with_reducible first | exact HB.out | apply below_alloc | apply pw_below_drewN | apply below_drew1) | exact HB.out)⟩
  · rw [if_neg c2] at H
    have c2b0 : decide (1 ≤ (l0.length : Int)) = false := decide_eq_false c2
    have c2b1 : decide (1 ≤ l0.length) = false := decide_eq_false (by omega)
    clear c2
    obtain rfl := Option.some.inj H
    go_enter Try.func51, Try.ntmps51
    go_wp2
    go_ret
    exact ⟨by first | rfl | (simp [errW_none, errW_some] <;> rfl) | (simp [*, errW_none, errW_some] <;> rfl), by repeat (first | (with_reducible first | exact HB.out | apply below_alloc | apply pw_below_drewN | apply below_drew1) | exact HB.out)⟩

/-! ### wind_Edges: function 52 (by hand) -/
/-- The point behind the one at i, round and round. -/
def nxt (l : List S24) (i : Nat) : S24 := rd_T24 l (((i + 1) % l.length : Nat) : Int)
def edgeV (a b : S24) : Value := .agg #[.int .i64 a.f0, .int .i64 a.f1, .int .i64 b.f0, .int .i64 b.f1]
set_option maxHeartbeats 2000000 in
set_option maxRecDepth 100000 in
theorem Edges_calls (g : Nat) (lb : Array Value) (I : Nat → World → Prop) (eg : ∀ args w, (callFunc g args).run Try.prog w = .ok (.enter g args) w) (A0 : Option Addr) (c0 : Nat) (l0 : List S24) (w0 w : World)
    (hI : ∀ (i : Nat) (W : World), i < l0.length → I i W → Calls Try.prog g (#[edgeV (rd_T24 l0 (i : Int)) (nxt l0 i)] ++ lb) W fun e w' => e = .returned (.tuple #[]) ∧ I (i + 1) w')
    (hB : ∀ (i : Nat) (W : World), I i W → Below w0.heap.size w0 W) (hA : ∀ (i : Nat) (W : World) (o : Obj), I i W → I i (W.alloc o)) (hD : ∀ (i : Nat) (W : World) (n : Nat), I i W → I i (W.drewN n))
    (h0 : I 0 w) (hr0 : Kd.C k24 w0 A0 l0.length l0) (hlen : l0.length ≤ 1000000000) :
    Calls Try.prog 52 #[.slice A0 l0.length c0, .func (.func g) #[] lb] w fun e w' => e = .returned (.tuple #[]) ∧ I l0.length w' := by
  have hu := Try.underlying24
  have HR0 := Aside0.mk hr0
  have HI := Aside0.mk hI
  have HBB := Aside0.mk hB
  have HA := Aside0.mk hA
  have HD := Aside0.mk hD
  have H0 := Aside0.mk h0
  clear hr0 hI hB hA hD h0
  go_enter Try.func52, Try.ntmps52
  go_wp2
  go_loopg [8] l0.length (fun gg s8 wr => ∃ kk : Nat, kk ≤ l0.length ∧ l0.length - kk ≤ gg ∧ s8 = .int .i64 kk ∧ Aside0 (I kk wr))
  case atStart => exact ⟨0, Nat.zero_le _, by omega, rfl, H0⟩
  case round =>
    clear H0
    obtain ⟨kk, hkk, hg, rfl, HK⟩ := hrel
    by_cases hlt : kk < l0.length
    · have hlti : (kk : Int) < (l0.length : Int) := by omega
      obtain ⟨ad, rfl, hx0, hx1⟩ := at_T24 HR0.out (kk : Int) (by omega) hlti
      obtain ⟨j, hj⟩ : ∃ j : Nat, (kk + 1) % l0.length = j := ⟨_, rfl⟩
      have hjl : j < l0.length := by have := Nat.mod_lt (kk + 1) (show 0 < l0.length by omega); omega
      have hji : (j : Int) < (l0.length : Int) := by omega
      obtain ⟨ad', e', hy0, hy1⟩ := at_T24 HR0.out (j : Int) (by omega) hji
      obtain rfl : ad = ad' := by injection e'
      clear e'
      have hb := HBB.out kk wr HK.out
      replace hx0 := (hb.cell (World.block_lt_of_cell? w0 _ hx0)).trans hx0
      replace hx1 := (hb.cell (World.block_lt_of_cell? w0 _ hx1)).trans hx1
      replace hy0 := (hb.cell (World.block_lt_of_cell? w0 _ hy0)).trans hy0
      replace hy1 := (hb.cell (World.block_lt_of_cell? w0 _ hy1)).trans hy1
      have hcall := fun W h => HI.out kk W hlt h
      simp only [Int.toNat_natCast] at hx0 hx1 hy0 hy1
      simp only [nxt, hj] at hcall
      have ht : Int.tmod ((kk : Int) + 1) (l0.length : Int) = (j : Int) := by
        rw [Int.tmod_eq_emod_of_nonneg (by omega), ← hj]; simp
      have hw : wrap64 ((kk : Int) + 1) = (kk : Int) + 1 := by unfold wrap64; omega
      have hne : ¬ (l0 = []) := by rintro rfl; simp at hlt
      have HJ := Aside0.mk hj
      clear hj
      generalize rd_T24 l0 (kk : Int) = x at *
      generalize rd_T24 l0 (j : Int) = y at *
      have HC := Aside0.mk hcall
      clear hcall hb HI
      go_wp2
      have HK2 := Aside0.mk (HD.out kk _ 1 (HA.out kk wr (.cells #[.int .i64 x.f0, .int .i64 x.f1] 24) HK.out))
      have p1 : (wr.alloc (.cells #[.int .i64 x.f0, .int .i64 x.f1] 24)).drew.cell? ⟨wr.heap.size, 0, none⟩ = some (.int .i64 x.f0) := by go_simp
      have p2 : (wr.alloc (.cells #[.int .i64 x.f0, .int .i64 x.f1] 24)).drew.cell? ⟨wr.heap.size, 1, none⟩ = some (.int .i64 x.f1) := by go_simp
      have p3 : (wr.alloc (.cells #[.int .i64 x.f0, .int .i64 x.f1] 24)).drew.cell? (ad.add (j * 2)) = some (.int .i64 y.f0) := (World.cell?_alloc_lt _ _ _ (World.block_lt_of_cell? _ _ hy0)).trans hy0
      have p4 : (wr.alloc (.cells #[.int .i64 x.f0, .int .i64 x.f1] 24)).drew.cell? ⟨(ad.add (j * 2)).block, (ad.add (j * 2)).off + 1, none⟩ = some (.int .i64 y.f1) := (World.cell?_alloc_lt _ _ _ (World.block_lt_of_cell? _ _ hy1)).trans hy1
      refine start_ (n := 12) (S := fun w' => w'.cell? ⟨wr.heap.size, 0, none⟩ = some (.int .i64 x.f0) ∧ w'.cell? ⟨wr.heap.size, 1, none⟩ = some (.int .i64 x.f1) ∧ w'.cell? (ad.add (j * 2)) = some (Value.int IntKind.i64 y.f0) ∧ w'.cell? ⟨(ad.add (j * 2)).block, (ad.add (j * 2)).off + 1, none⟩ = some (Value.int IntKind.i64 y.f1)) (ds := [11]) #[false, false, false, false, false, false, false, false, false, false, false, false] (by kernel_rfl) rfl rfl ⟨p1, p2, p3, p4⟩ (fun hHeld => ?_)
      refine pure_ (i := 0) (N := some 13) (v := ?_) (a' := ?_) #[true, false, false, false, false, false, false, false, false, false, false, false] rfl rfl (by kernel_rfl) (fun _ _ _ h => h) (Or.inl ⟨by rfl, ?_⟩) ?_ ?_
      rotate_left
      · intro w'
        go_simp
        with_reducible rfl
      rotate_left
      · simp only [Act.put, List.setIfInBounds_toArray, List.set_cons_zero, List.set_cons_succ, i64_w, i32_w]
        rfl
      refine pure_ (i := 2) (N := some 15) (v := ?_) (a' := ?_) #[true, false, true, false, false, false, false, false, false, false, false, false] rfl rfl (by kernel_rfl) (fun _ _ _ h => h) (Or.inl ⟨by rfl, ?_⟩) ?_ ?_
      rotate_left
      · intro w'
        go_simp
        with_reducible rfl
      rotate_left
      · simp only [Act.put, List.setIfInBounds_toArray, List.set_cons_zero, List.set_cons_succ, i64_w, i32_w]
        rfl
      refine pure_ (i := 3) (N := some 16) (v := ?_) (a' := ?_) #[true, false, true, true, false, false, false, false, false, false, false, false] rfl rfl (by kernel_rfl) (fun _ _ _ h => h) (Or.inl ⟨by rfl, ?_⟩) ?_ ?_
      rotate_left
      · intro w'
        go_simp
        with_reducible rfl
      rotate_left
      · simp only [Act.put, List.setIfInBounds_toArray, List.set_cons_zero, List.set_cons_succ, i64_w, i32_w]
        rfl
      refine pure_ (i := 4) (N := some 17) (v := ?_) (a' := ?_) #[true, false, true, true, true, false, false, false, false, false, false, false] rfl rfl (by kernel_rfl) (fun _ _ _ h => h) (Or.inl ⟨by rfl, ?_⟩) ?_ ?_
      rotate_left
      · intro w'
        go_simp
        with_reducible rfl
      rotate_left
      · simp only [Act.put, List.setIfInBounds_toArray, List.set_cons_zero, List.set_cons_succ, i64_w, i32_w]
        rfl
      refine pure_ (i := 5) (N := some 18) (v := ?_) (a' := ?_) #[true, false, true, true, true, true, false, false, false, false, false, false] rfl rfl (by kernel_rfl) (fun _ _ _ h => h) (Or.inl ⟨by rfl, ?_⟩) ?_ ?_
      rotate_left
      · intro w'
        go_simp
        with_reducible rfl
      rotate_left
      · simp only [Act.put, List.setIfInBounds_toArray, List.set_cons_zero, List.set_cons_succ, i64_w, i32_w]
        rfl
      refine pure_ (i := 6) (N := some 19) (v := ?_) (a' := ?_) #[true, false, true, true, true, true, true, false, false, false, false, false] rfl rfl (by kernel_rfl) (fun _ _ _ h => h) (Or.inl ⟨by rfl, ?_⟩) ?_ ?_
      rotate_left
      · intro w'
        go_simp
        with_reducible rfl
      rotate_left
      · simp only [Act.put, List.setIfInBounds_toArray, List.set_cons_zero, List.set_cons_succ, i64_w, i32_w]
        rfl
      refine pure_ (i := 7) (N := some 20) (v := ?_) (a' := ?_) #[true, false, true, true, true, true, true, true, false, false, false, false] rfl rfl (by kernel_rfl) (fun _ _ _ h => h) (Or.inl ⟨by rfl, ?_⟩) ?_ ?_
      rotate_left
      · intro w'
        go_simp
        with_reducible rfl
      rotate_left
      · simp only [Act.put, List.setIfInBounds_toArray, List.set_cons_zero, List.set_cons_succ, i64_w, i32_w]
        rfl
      refine pure_ (i := 8) (N := some 21) (v := ?_) (a' := ?_) #[true, false, true, true, true, true, true, true, true, false, false, false] rfl rfl (by kernel_rfl) (fun _ _ _ h => h) (Or.inl ⟨by rfl, ?_⟩) ?_ ?_
      rotate_left
      · intro w'
        go_simp
        with_reducible rfl
      rotate_left
      · simp only [Act.put, List.setIfInBounds_toArray, List.set_cons_zero, List.set_cons_succ, i64_w, i32_w]
        rfl
      refine take_ (i := 1) (N := some 14) (v := ?_) (a' := ?_) #[true, true, true, true, true, true, true, true, true, false, false, false] rfl rfl (by kernel_rfl) (fun _ _ _ h => h) (Or.inl ⟨by rfl, ?_⟩) hHeld ?_ ?_
      rotate_left
      · rintro w' ⟨s0, s1, s2, s3⟩
        go_simp
        with_reducible rfl
      rotate_left
      · simp only [Act.put, List.setIfInBounds_toArray, List.set_cons_zero, List.set_cons_succ, i64_w, i32_w]
        rfl
      refine take_ (i := 9) (N := some 22) (v := ?_) (a' := ?_) #[true, true, true, true, true, true, true, true, true, true, false, false] rfl rfl (by kernel_rfl) (fun _ _ _ h => h) (Or.inl ⟨by rfl, ?_⟩) hHeld ?_ ?_
      rotate_left
      · rintro w' ⟨s0, s1, s2, s3⟩
        go_simp
        with_reducible rfl
      rotate_left
      · simp only [Act.put, List.setIfInBounds_toArray, List.set_cons_zero, List.set_cons_succ, i64_w, i32_w]
        rfl
      refine pure_ (i := 10) (N := some 23) (v := ?_) (a' := ?_) #[true, true, true, true, true, true, true, true, true, true, true, false] rfl rfl (by kernel_rfl) (fun _ _ _ h => h) (Or.inl ⟨by rfl, ?_⟩) ?_ ?_
      rotate_left
      · intro w'
        go_simp
        with_reducible rfl
      rotate_left
      · simp only [Act.put, List.setIfInBounds_toArray, List.set_cons_zero, List.set_cons_succ, i64_w, i32_w]
        rfl
      refine last_ (i := 11) (N := some 24) #[true, true, true, true, true, true, true, true, true, true, true, true] rfl rfl (by kernel_rfl) (by decide) (fun K hK => ?_)
      refine goesv_ lb #[edgeV x y] eg (by rfl) rfl rfl (by rfl) (by simp only [List.map_toArray, List.map_cons, List.map_nil]; rfl) ?_
      refine (HC.out _ HK2.out).mono ?_
      rintro e w3 ⟨rfl, hk3⟩
      refine ⟨_, rfl, ?_⟩
      refine hK.out _ _ ?_
      clear hK K
      refine norm_ (a' := ?_) ?_ ?_
      rotate_left
      · show Act.put _ (some 24) _ = _
        simp only [Act.put, List.setIfInBounds_toArray, List.set_cons_zero, List.set_cons_succ, i64_w, i32_w]
        rfl
      refine done_ (by kernel_rfl) ?_
      go_wp2
      go_roundg (l0.length - (kk + 1))
      case measure => omega
      case rel => exact ⟨kk + 1, by omega, by omega, by go_num, ⟨hk3⟩⟩
    · have hlti : ¬ (kk : Int) < (l0.length : Int) := by omega
      obtain rfl : kk = l0.length := by omega
      go_wp2
      go_end0
      exact ⟨rfl, HK.out⟩

/-! ### wind_count: function 46 (by hand) -/
def wayB (a b : S24) (y : Int) : Int := if a.f1 ≤ y ∧ y < b.f1 then 1 else if b.f1 ≤ y ∧ y < a.f1 then -1 else 0
def crossB (a b p : S24) : Int := (b.f0 - a.f0) * (p.f1 - a.f1) - (b.f1 - a.f1) * (p.f0 - a.f0)
def sgnB (n : Int) : Int := if n < 0 then -1 else if 0 < n then 1 else 0
def sideB (a b p : S24) : Int := sgnB (crossB a b p) * wayB a b p.f1
def ctermB (a b p : S24) (side : Int) (ofv : Int → Int) : Int := if wayB a b p.f1 = 0 then 0 else if sideB a b p = side then ofv (wayB a b p.f1) else 0
def csum (l : List S24) (p : S24) (side : Int) (ofv : Int → Int) : Nat → Int
  | 0 => 0
  | i + 1 => csum l p side ofv i + ctermB (rd_T24 l (i : Int)) (nxt l i) p side ofv
theorem isPt_bounds {x : S24} (h : isPt x = true) : -268435455 ≤ x.f0 ∧ x.f0 ≤ 268435455 ∧ -268435455 ≤ x.f1 ∧ x.f1 ≤ 268435455 := by
  unfold isPt at h
  simp only [Bool.and_eq_true, decide_eq_true_eq] at h
  omega
theorem wayB_cases (a b : S24) (y : Int) : wayB a b y = 0 ∨ wayB a b y = 1 ∨ wayB a b y = -1 := by unfold wayB; split <;> (try split) <;> simp
theorem sgnB_cases (n : Int) : sgnB n = 0 ∨ sgnB n = 1 ∨ sgnB n = -1 := by unfold sgnB; split <;> (try split) <;> simp
theorem wrap64_id {n : Int} (h : -9223372036854775808 ≤ n) (h' : n ≤ 9223372036854775807) : wrap64 n = n := by unfold wrap64; omega
theorem mul_bound {x y : Int} (hx : -536870910 ≤ x) (hx' : x ≤ 536870910) (hy : -536870910 ≤ y) (hy' : y ≤ 536870910) : -288230374541099008 ≤ x * y ∧ x * y ≤ 288230374541099008 := by
  have h1 : (536870910 - x) * (536870910 + y) ≥ 0 := Int.mul_nonneg (by omega) (by omega)
  have h2 : (536870910 + x) * (536870910 - y) ≥ 0 := Int.mul_nonneg (by omega) (by omega)
  have h3 : (536870910 - x) * (536870910 - y) ≥ 0 := Int.mul_nonneg (by omega) (by omega)
  have h4 : (536870910 + x) * (536870910 + y) ≥ 0 := Int.mul_nonneg (by omega) (by omega)
  rw [Int.sub_mul, Int.mul_add, Int.mul_add] at h1
  rw [Int.add_mul, Int.mul_sub, Int.mul_sub] at h2
  rw [Int.sub_mul, Int.mul_sub, Int.mul_sub] at h3
  rw [Int.add_mul, Int.mul_add, Int.mul_add] at h4
  generalize x * y = z at *
  omega
theorem way_is (k : Nat) (a b : S24) (y : Int) : wind_Edge_Way.f (k + 1) a.f0 a.f1 b.f0 b.f1 y = some (wayB a b y) := by
  unfold wind_Edge_Way.f wayB
  simp only [wind_Edge_Way.j0, decide_eq_true_eq, Bool.false_eq_true, if_false]
  repeat' split
  all_goals first | rfl | (exfalso; omega)
theorem compare_is (x y : Int) : cmp_Compare_int.f x y = some (sgnB (x - y)) := by
  unfold cmp_Compare_int.f cmp_isNaN_int.f sgnB
  simp only [Option.bind_some, bne_self_eq_false, Bool.false_eq_true, if_false]
  by_cases h : x < y
  · rw [if_pos h, if_pos (by omega)]
  · rw [if_neg h]
    by_cases h' : x > y
    · rw [if_pos h', if_neg (by omega), if_pos (by omega)]
    · rw [if_neg h', if_neg (by omega), if_neg (by omega)]
theorem sign_is (a b p : S24) (ha : isPt a = true) (hb : isPt b = true) (hp : isPt p = true) : wind_Sign.f a.f0 a.f1 b.f0 b.f1 p.f0 p.f1 = some (sgnB (crossB a b p)) := by
  have ba := isPt_bounds ha; have bb := isPt_bounds hb; have bp := isPt_bounds hp
  unfold wind_Sign.f
  have m1 := mul_bound (x := b.f0 - a.f0) (y := p.f1 - a.f1) (by omega) (by omega) (by omega) (by omega)
  have m2 := mul_bound (x := b.f1 - a.f1) (y := p.f0 - a.f0) (by omega) (by omega) (by omega) (by omega)
  rw [wrap64_id (n := b.f0 - a.f0) (by omega) (by omega), wrap64_id (n := p.f1 - a.f1) (by omega) (by omega), wrap64_id (n := b.f1 - a.f1) (by omega) (by omega), wrap64_id (n := p.f0 - a.f0) (by omega) (by omega), wrap64_id (by omega) (by omega), wrap64_id (by omega) (by omega), compare_is]
  rfl
theorem where_is (k : Nat) (a b p : S24) (ha : isPt a = true) (hb : isPt b = true) (hp : isPt p = true) : wind_Edge_Where.f (k + 1) a.f0 a.f1 b.f0 b.f1 p.f0 p.f1 = some (sideB a b p) := by
  unfold wind_Edge_Where.f sideB
  rw [sign_is a b p ha hb hp, way_is]
  simp only [Option.bind_some]
  rcases sgnB_cases (crossB a b p) with h | h | h <;> rcases wayB_cases a b p.f1 with h' | h' | h' <;> rw [h, h', wrap64_id (by decide) (by decide)]
/-- What the closure of count leaves: one variable's block may have been written, with blocks of its own beside. -/
theorem grown_set {W W1 : World} (hb : Below W.heap.size W W1) (n : Nat) (g : Nat) (j : Nat) (u : Value) : W.grownBy ((W1.drewN n).setCell ⟨g, j, none⟩ u) (some g) :=
  ⟨hb.os, hb.tape, hb.output, by have := hb.size; simpa [World.setCell] using this, fun k hk hne => (Below.heap_setCell (W1.drewN n) ⟨g, j, none⟩ u k (fun e => hne (by rw [e]))).trans (hb.block k hk)⟩
section
variable (g2 : Nat) (ofv : Int → Int) (eg2 : ∀ args w, (callFunc g2 args).run Try.prog w = .ok (.enter g2 args) w)
  (hof : ∀ (W : World) (x : Int), Calls Try.prog g2 #[.int .i64 x] W fun e w' => e = .returned (.int .i64 (ofv x)) ∧ Drawn0 W w')
  (a b p : S24) (ha : isPt a = true) (hb : isPt b = true) (hp : isPt p = true) (side n : Int) (bp bs bn bf : Nat) (W : World)
  (h1 : W.heap[bp]? = some (.cells #[.int .i64 p.f0, .int .i64 p.f1] 24 (0, 0))) (h2 : W.heap[bs]? = some (.cells #[.int .i64 side] 3 (0, 0)))
  (h3 : W.heap[bn]? = some (.cells #[.int .i64 n] 3 (0, 0))) (h4 : W.heap[bf]? = some (.cells #[.func (.func g2) #[] #[]] 59 (0, 0)))
  (hn : -1000000000 ≤ n + ctermB a b p side ofv) (hn' : n + ctermB a b p side ofv ≤ 1000000000)
include eg2 hof ha hb hp h1 h2 h3 h4 hn hn'
set_option maxHeartbeats 4000000 in
set_option maxRecDepth 100000 in
theorem count1_calls :
    Calls Try.prog 69 #[edgeV a b, .pointer (some ⟨bp, 0, none⟩), .pointer (some ⟨bs, 0, none⟩), .pointer (some ⟨bn, 0, none⟩), .pointer (some ⟨bf, 0, none⟩)] W fun e w' =>
      e = .returned (.tuple #[]) ∧ W.grownBy w' (some bn) ∧ w'.heap[bn]? = some (.cells #[.int .i64 (n + ctermB a b p side ofv)] 3 (0, 0)) := by
  have hu := Try.underlying24
  have hu2 := Try.underlying64
  have hway := fun V => wind_Edge_Way.calls 1 a.f0 a.f1 b.f0 b.f1 p.f1 _ V (way_is 0 a b p.f1)
  have hwhere := fun V => wind_Edge_Where.calls 1 a.f0 a.f1 b.f0 b.f1 p.f0 p.f1 _ V (where_is 0 a b p ha hb hp)
  have HN := Aside0.mk hn
  have HN' := Aside0.mk hn'
  have HC : Aside0 (ctermB a b p side ofv = if wayB a b p.f1 = 0 then 0 else if sideB a b p = side then ofv (wayB a b p.f1) else 0) := ⟨rfl⟩
  generalize ctermB a b p side ofv = ct at *
  generalize wayB a b p.f1 = v at *
  generalize sideB a b p = s at *
  clear hn hn' ha hb hp
  have HW := Aside0.mk hway
  have HS := Aside0.mk hwhere
  have HF := Aside0.mk hof
  clear hway hwhere hof
  have H1 := Aside0.mk h1
  have H2 := Aside0.mk h2
  have H3 := Aside0.mk h3
  have H4 := Aside0.mk h4
  have HB := Aside0.mk (below_alloc (Below.refl W.heap.size W) (.cells #[.int .i64 a.f0, .int .i64 a.f1, .int .i64 b.f0, .int .i64 b.f1] 64))
  have hp1 := blk_cell (blk_alloc h1 (.cells #[.int .i64 a.f0, .int .i64 a.f1, .int .i64 b.f0, .int .i64 b.f1] 64)) 1
  have HE := Aside0.mk (blk_new W (.cells #[.int .i64 a.f0, .int .i64 a.f1, .int .i64 b.f0, .int .i64 b.f1] 64))
  clear h1 h2 h3 h4
  unfold edgeV
  go_enter Try.func69, Try.ntmps69
  go_wp2_with fail
  refine (HW.out _).mono ?_
  rintro e W1 ⟨rfl, hb1⟩
  have HB1 := Aside0.mk (below_step HB.out hb1)
  have e0 := blk_below HE.out hb1
  have b1 := blk_below H1.out HB1.out
  have b2 := blk_below H2.out HB1.out
  have b3 := blk_below H3.out HB1.out
  have b4 := blk_below H4.out HB1.out
  clear hb1 hp1
  have c0 := blk_cell e0 0
  have c1 := blk_cell e0 1
  have c2 := blk_cell e0 2
  have c3 := blk_cell e0 3
  have c4 := blk_cell b1 0
  have c5 := blk_cell b1 1
  have c6 := blk_cell b2 0
  have E0 := Aside0.mk e0
  have B3 := Aside0.mk b3
  have B4 := Aside0.mk b4
  clear e0 b1 b2 b3 b4 HW HB HE H1 H2 H4
  simp at c0 c1 c2 c3 c4 c5 c6
  by_cases hv : v = 0
  · have hct : ct = 0 := by have := HC.out; rw [if_pos hv] at this; exact this
    subst hct
    have v1 : (v == 0) = true := beq_iff_eq.mpr hv
    have v2 : (v != 0) = false := bne_eq_false_iff_eq.mpr hv
    clear hv HC
    go_wp2
    refine start_ (n := 9) (S := fun w' => True) (ds := []) #[false, false, false, false, false, false, false, false, false] (by kernel_rfl) rfl rfl trivial (fun hHeld => ?_)
    refine pure_ (i := 0) (N := some 11) (v := ?_) (a' := ?_) #[true, false, false, false, false, false, false, false, false] rfl rfl (by kernel_rfl) (fun _ _ _ h => h) (Or.inl ⟨by rfl, ?_⟩) ?_ ?_
    rotate_left
    · intro w'
      go_simp
      with_reducible rfl
    rotate_left
    · simp only [Act.put, List.setIfInBounds_toArray, List.set_cons_zero, List.set_cons_succ, i64_w, i32_w]
      rfl
    refine pure_ (i := 1) (N := some 12) (v := ?_) (a' := ?_) #[true, true, false, false, false, false, false, false, false] rfl rfl (by kernel_rfl) (fun _ _ _ h => h) (Or.inl ⟨by rfl, ?_⟩) ?_ ?_
    rotate_left
    · intro w'
      go_simp
      with_reducible rfl
    rotate_left
    · simp only [Act.put, List.setIfInBounds_toArray, List.set_cons_zero, List.set_cons_succ, i64_w, i32_w]
      rfl
    refine pure_ (i := 2) (N := some 13) (v := ?_) (a' := ?_) #[true, true, true, false, false, false, false, false, false] rfl rfl (by kernel_rfl) (fun _ _ _ h => h) (Or.inl ⟨by rfl, ?_⟩) ?_ ?_
    rotate_left
    · intro w'
      go_simp
      with_reducible rfl
    rotate_left
    · simp only [Act.put, List.setIfInBounds_toArray, List.set_cons_zero, List.set_cons_succ, i64_w, i32_w]
      rfl
    refine pure_ (i := 3) (N := some 14) (v := undef) (a' := ?_) #[true, true, true, true, false, false, false, false, false] rfl rfl (by kernel_rfl) (fun _ _ _ h => h) (Or.inr ⟨by rfl, rfl⟩) ?_ ?_
    rotate_left
    · simp only [Act.put, List.setIfInBounds_toArray, List.set_cons_zero, List.set_cons_succ, i64_w, i32_w]
      rfl
    refine pure_ (i := 4) (N := some 15) (v := undef) (a' := ?_) #[true, true, true, true, true, false, false, false, false] rfl rfl (by kernel_rfl) (fun _ _ _ h => h) (Or.inr ⟨by rfl, rfl⟩) ?_ ?_
    rotate_left
    · simp only [Act.put, List.setIfInBounds_toArray, List.set_cons_zero, List.set_cons_succ, i64_w, i32_w]
      rfl
    refine pure_ (i := 5) (N := some 16) (v := undef) (a' := ?_) #[true, true, true, true, true, true, false, false, false] rfl rfl (by kernel_rfl) (fun _ _ _ h => h) (Or.inr ⟨by rfl, rfl⟩) ?_ ?_
    rotate_left
    · simp only [Act.put, List.setIfInBounds_toArray, List.set_cons_zero, List.set_cons_succ, i64_w, i32_w]
      rfl
    refine pure_ (i := 6) (N := some 17) (v := undef) (a' := ?_) #[true, true, true, true, true, true, true, false, false] rfl rfl (by kernel_rfl) (fun _ _ _ h => h) (Or.inr ⟨by rfl, rfl⟩) ?_ ?_
    rotate_left
    · simp only [Act.put, List.setIfInBounds_toArray, List.set_cons_zero, List.set_cons_succ, i64_w, i32_w]
      rfl
    refine pure_ (i := 7) (N := some 18) (v := undef) (a' := ?_) #[true, true, true, true, true, true, true, true, false] rfl rfl (by kernel_rfl) (fun _ _ _ h => h) (Or.inr ⟨by rfl, rfl⟩) ?_ ?_
    rotate_left
    · simp only [Act.put, List.setIfInBounds_toArray, List.set_cons_zero, List.set_cons_succ, i64_w, i32_w]
      rfl
    refine pure_ (i := 8) (N := some 19) (v := ?_) (a' := ?_) #[true, true, true, true, true, true, true, true, true] rfl rfl (by kernel_rfl) (fun _ _ _ h => h) (Or.inl ⟨by rfl, ?_⟩) ?_ ?_
    rotate_left
    · intro w'
      go_simp
      with_reducible rfl
    rotate_left
    · simp only [Act.put, List.setIfInBounds_toArray, List.set_cons_zero, List.set_cons_succ, i64_w, i32_w]
      rfl
    refine done_ (by kernel_rfl) ?_
    go_wp2
    go_end0
    exact ⟨rfl, grown_of_below (below_drew1 HB1.out) _, by rw [Int.add_zero]; exact B3.out⟩
  · have v1 : (v == 0) = false := beq_eq_false_iff_ne.mpr hv
    have v2 : (v != 0) = true := bne_iff_ne.mpr hv
    have hct : ct = if s = side then ofv v else 0 := by have := HC.out; rw [if_neg hv] at this; exact this
    have HC2 := Aside0.mk hct
    clear hct HC hv
    go_wp2
    refine start_ (n := 9) (S := fun w' => w'.cell? ⟨W.heap.size, 0, none⟩ = some (.int .i64 a.f0) ∧ w'.cell? ⟨W.heap.size, 1, none⟩ = some (.int .i64 a.f1) ∧ w'.cell? ⟨W.heap.size, 2, none⟩ = some (.int .i64 b.f0) ∧ w'.cell? ⟨W.heap.size, 3, none⟩ = some (.int .i64 b.f1) ∧ w'.cell? ⟨bp, 0, none⟩ = some (.int .i64 p.f0) ∧ w'.cell? ⟨bp, 1, none⟩ = some (.int .i64 p.f1) ∧ w'.cell? ⟨bs, 0, none⟩ = some (.int .i64 side)) (ds := []) #[false, false, false, false, false, false, false, false, false] (by kernel_rfl) rfl rfl ⟨c0, c1, c2, c3, c4, c5, c6⟩ (fun hHeld => ?_)
    refine pure_ (i := 0) (N := some 11) (v := ?_) (a' := ?_) #[true, false, false, false, false, false, false, false, false] rfl rfl (by kernel_rfl) (fun _ _ _ h => h) (Or.inl ⟨by rfl, ?_⟩) ?_ ?_
    rotate_left
    · intro w'
      go_simp
      with_reducible rfl
    rotate_left
    · simp only [Act.put, List.setIfInBounds_toArray, List.set_cons_zero, List.set_cons_succ, i64_w, i32_w]
      rfl
    refine pure_ (i := 1) (N := some 12) (v := ?_) (a' := ?_) #[true, true, false, false, false, false, false, false, false] rfl rfl (by kernel_rfl) (fun _ _ _ h => h) (Or.inl ⟨by rfl, ?_⟩) ?_ ?_
    rotate_left
    · intro w'
      go_simp
      with_reducible rfl
    rotate_left
    · simp only [Act.put, List.setIfInBounds_toArray, List.set_cons_zero, List.set_cons_succ, i64_w, i32_w]
      rfl
    refine pure_ (i := 2) (N := some 13) (v := ?_) (a' := ?_) #[true, true, true, false, false, false, false, false, false] rfl rfl (by kernel_rfl) (fun _ _ _ h => h) (Or.inl ⟨by rfl, ?_⟩) ?_ ?_
    rotate_left
    · intro w'
      go_simp
      with_reducible rfl
    rotate_left
    · simp only [Act.put, List.setIfInBounds_toArray, List.set_cons_zero, List.set_cons_succ, i64_w, i32_w]
      rfl
    refine take_ (i := 3) (N := some 14) (v := ?_) (a' := ?_) #[true, true, true, true, false, false, false, false, false] rfl rfl (by kernel_rfl) (fun _ _ _ h => h) (Or.inl ⟨by rfl, ?_⟩) hHeld ?_ ?_
    rotate_left
    · rintro w' ⟨s0, s1, s2, s3, s4, s5, s6⟩
      go_simp
      with_reducible rfl
    rotate_left
    · simp only [Act.put, List.setIfInBounds_toArray, List.set_cons_zero, List.set_cons_succ, i64_w, i32_w]
      rfl
    refine take_ (i := 4) (N := some 15) (v := ?_) (a' := ?_) #[true, true, true, true, true, false, false, false, false] rfl rfl (by kernel_rfl) (fun _ _ _ h => h) (Or.inl ⟨by rfl, ?_⟩) hHeld ?_ ?_
    rotate_left
    · rintro w' ⟨s0, s1, s2, s3, s4, s5, s6⟩
      go_simp
      with_reducible rfl
    rotate_left
    · simp only [Act.put, List.setIfInBounds_toArray, List.set_cons_zero, List.set_cons_succ, i64_w, i32_w]
      rfl
    refine take_ (i := 6) (N := some 17) (v := ?_) (a' := ?_) #[true, true, true, true, true, false, true, false, false] rfl rfl (by kernel_rfl) (fun _ _ _ h => h) (Or.inl ⟨by rfl, ?_⟩) hHeld ?_ ?_
    rotate_left
    · rintro w' ⟨s0, s1, s2, s3, s4, s5, s6⟩
      go_simp
      with_reducible rfl
    rotate_left
    · simp only [Act.put, List.setIfInBounds_toArray, List.set_cons_zero, List.set_cons_succ, i64_w, i32_w]
      rfl
    refine one_ (i := 5) (N := some 16) #[true, true, true, true, true, true, true, false, false] rfl rfl (by kernel_rfl) (by decide) (fun K hK => ?_)
    refine goes_ Try.func70 (by kernel_rfl) rfl #[.agg #[.int .i64 a.f0, .int .i64 a.f1, .int .i64 b.f0, .int .i64 b.f1], .agg #[.int .i64 p.f0, .int .i64 p.f1]] (by rfl) rfl rfl (by simp only [List.map_toArray, List.map_cons, List.map_nil]; rfl) ?_
    refine (HS.out _).mono ?_
    rintro e W3 ⟨rfl, hb3⟩
    have B3 := Aside0.mk (blk_below (blk_drew B3.out) hb3)
    have B4 := Aside0.mk (blk_below (blk_drew B4.out) hb3)
    have HB3 := Aside0.mk (below_step (below_drew1 HB1.out) hb3)
    refine ⟨_, rfl, ?_⟩
    refine hK.out _ _ ⟨(hb3.cell (World.block_lt_of_cell? _ _ hHeld.1)).trans hHeld.1, (hb3.cell (World.block_lt_of_cell? _ _ hHeld.2.1)).trans hHeld.2.1, (hb3.cell (World.block_lt_of_cell? _ _ hHeld.2.2.1)).trans hHeld.2.2.1, (hb3.cell (World.block_lt_of_cell? _ _ hHeld.2.2.2.1)).trans hHeld.2.2.2.1, (hb3.cell (World.block_lt_of_cell? _ _ hHeld.2.2.2.2.1)).trans hHeld.2.2.2.2.1, (hb3.cell (World.block_lt_of_cell? _ _ hHeld.2.2.2.2.2.1)).trans hHeld.2.2.2.2.2.1, (hb3.cell (World.block_lt_of_cell? _ _ hHeld.2.2.2.2.2.2)).trans hHeld.2.2.2.2.2.2⟩ (fun hHeld => ?_)
    clear hK K
    refine norm_ (a' := ?_) ?_ ?_
    rotate_left
    · show Act.put _ (some 16) _ = _
      simp only [Act.put, List.setIfInBounds_toArray, List.set_cons_zero, List.set_cons_succ, i64_w, i32_w]
      rfl
    refine pure_ (i := 7) (N := some 18) (v := ?_) (a' := ?_) #[true, true, true, true, true, true, true, true, false] rfl rfl (by kernel_rfl) (fun _ _ _ h => h) (Or.inl ⟨by rfl, ?_⟩) ?_ ?_
    rotate_left
    · intro w'
      go_simp
      with_reducible rfl
    rotate_left
    · simp only [Act.put, List.setIfInBounds_toArray, List.set_cons_zero, List.set_cons_succ, i64_w, i32_w]
      rfl
    refine pure_ (i := 8) (N := some 19) (v := ?_) (a' := ?_) #[true, true, true, true, true, true, true, true, true] rfl rfl (by kernel_rfl) (fun _ _ _ h => h) (Or.inl ⟨by rfl, ?_⟩) ?_ ?_
    rotate_left
    · intro w'
      go_simp
      with_reducible rfl
    rotate_left
    · simp only [Act.put, List.setIfInBounds_toArray, List.set_cons_zero, List.set_cons_succ, i64_w, i32_w]
      rfl
    refine done_ (by kernel_rfl) ?_
    by_cases hs : s = side
    · have s1 : (s == side) = true := beq_iff_eq.mpr hs
      have hct : ct = ofv v := by have := HC2.out; rw [if_pos hs] at this; exact this
      subst hct
      have hw : wrap64 (n + ofv v) = n + ofv v := wrap64_id (by have := HN.out; omega) (by have := HN'.out; omega)
      have d0 := blk_cell B3.out 0
      have d1 := blk_cell B4.out 0
      have d2 := blk_frozen B3.out 0
      simp at d0 d1 d2
      clear hs HC2
      go_wp2
      refine start_ (n := 6) (S := fun w' => w'.cell? ⟨bn, 0, none⟩ = some (.int .i64 n) ∧ w'.cell? ⟨bf, 0, none⟩ = some (.func (.func g2) #[] #[]) ∧ w'.frozen? ⟨bn, 0, none⟩ = false) (ds := [5]) #[false, false, false, false, false, false] (by kernel_rfl) rfl rfl ⟨d0, d1, d2⟩ (fun hHeld => ?_)
      refine pure_ (i := 2) (N := some 22) (v := ?_) (a' := ?_) #[false, false, true, false, false, false] rfl rfl (by kernel_rfl) (fun _ _ _ h => h) (Or.inl ⟨by rfl, ?_⟩) ?_ ?_
      rotate_left
      · intro w'
        go_simp
        with_reducible rfl
      rotate_left
      · simp only [Act.put, List.setIfInBounds_toArray, List.set_cons_zero, List.set_cons_succ, i64_w, i32_w]
        rfl
      refine take_ (i := 0) (N := some 20) (v := ?_) (a' := ?_) #[true, false, true, false, false, false] rfl rfl (by kernel_rfl) (fun _ _ _ h => h) (Or.inl ⟨by rfl, ?_⟩) hHeld ?_ ?_
      rotate_left
      · rintro w' ⟨s0, s1, s2⟩
        go_simp
        with_reducible rfl
      rotate_left
      · simp only [Act.put, List.setIfInBounds_toArray, List.set_cons_zero, List.set_cons_succ, i64_w, i32_w]
        rfl
      refine take_ (i := 1) (N := some 21) (v := ?_) (a' := ?_) #[true, true, true, false, false, false] rfl rfl (by kernel_rfl) (fun _ _ _ h => h) (Or.inl ⟨by rfl, ?_⟩) hHeld ?_ ?_
      rotate_left
      · rintro w' ⟨s0, s1, s2⟩
        go_simp
        with_reducible rfl
      rotate_left
      · simp only [Act.put, List.setIfInBounds_toArray, List.set_cons_zero, List.set_cons_succ, i64_w, i32_w]
        rfl
      refine one_ (i := 3) (N := some 23) #[true, true, true, true, false, false] rfl rfl (by kernel_rfl) (by decide) (fun K hK => ?_)
      refine goesv_ #[] #[.int .i64 v] eg2 (by rfl) rfl rfl (by rfl) (by simp only [List.map_toArray, List.map_cons, List.map_nil]; rfl) ?_
      refine (HF.out _ v).mono ?_
      rintro e W4 ⟨rfl, ⟨nq, rfl⟩⟩
      refine ⟨_, rfl, ?_⟩
      refine hK.out _ _ ⟨hHeld.1, hHeld.2.1, hHeld.2.2⟩ (fun hHeld => ?_)
      clear hK K
      refine norm_ (a' := ?_) ?_ ?_
      rotate_left
      · show Act.put _ (some 23) _ = _
        simp only [Act.put, List.setIfInBounds_toArray, List.set_cons_zero, List.set_cons_succ, i64_w, i32_w]
        rfl
      refine pure_ (i := 4) (N := some 24) (v := ?_) (a' := ?_) #[true, true, true, true, true, false] rfl rfl (by kernel_rfl) (fun _ _ _ h => h) (Or.inl ⟨by rfl, ?_⟩) ?_ ?_
      rotate_left
      · intro w'
        go_simp
        with_reducible rfl
      rotate_left
      · simp only [Act.put, List.setIfInBounds_toArray, List.set_cons_zero, List.set_cons_succ, i64_w, i32_w]
        rfl
      refine last_ (i := 5) (N := none) #[true, true, true, true, true, true] rfl rfl (by kernel_rfl) (by decide) (fun K hK => ?_)
      have f0 := hHeld.1
      have f2 := hHeld.2.2
      refine skip_ (w1 := ?_) (by rfl) rfl ?_ ?_
      rotate_left
      · go_simp
        rfl
      refine hK.out _ _ ?_
      clear hK K
      refine done_ (by kernel_rfl) ?_
      go_end0
      exact ⟨rfl, grown_set HB3.out (1 + nq) bn 0 _, one_setCell (w := W3.drewN (1 + nq)) B3.out⟩
    · have s1 : (s == side) = false := beq_eq_false_iff_ne.mpr hs
      have hct : ct = 0 := by have := HC2.out; rw [if_neg hs] at this; exact this
      subst hct
      clear hs HC2
      go_wp2
      go_end0
      exact ⟨rfl, grown_of_below HB3.out _, by rw [Int.add_zero]; exact B3.out⟩
end

theorem ctermB_abs (a b p : S24) (side : Int) (ofv : Int → Int) (hov : ∀ x, -1 ≤ x → x ≤ 1 → -1 ≤ ofv x ∧ ofv x ≤ 1) : -1 ≤ ctermB a b p side ofv ∧ ctermB a b p side ofv ≤ 1 := by
  unfold ctermB
  split
  · omega
  · split
    · rcases wayB_cases a b p.f1 with h | h | h <;> rw [h] <;> exact hov _ (by omega) (by omega)
    · omega
theorem csum_abs (l : List S24) (p : S24) (side : Int) (ofv : Int → Int) (hov : ∀ x, -1 ≤ x → x ≤ 1 → -1 ≤ ofv x ∧ ofv x ≤ 1) : ∀ i : Nat, -(i : Int) ≤ csum l p side ofv i ∧ csum l p side ofv i ≤ i
  | 0 => by simp [csum]
  | i + 1 => by
    have h := csum_abs l p side ofv hov i
    have h' := ctermB_abs (rd_T24 l (i : Int)) (nxt l i) p side ofv hov
    simp only [csum]
    omega
theorem rd_mem (l : List S24) (i : Nat) (h : i < l.length) : rd_T24 l (i : Int) ∈ l := by
  simp [rd_T24, List.getD_eq_getElem?_getD, List.getElem?_eq_getElem h]
theorem nxt_mem (l : List S24) (i : Nat) (h : i < l.length) : nxt l i ∈ l := rd_mem l _ (Nat.mod_lt _ (by omega))
/-- A polygon and a point as wind takes them. -/
def okPoly (l : List S24) : Bool := decide (1 ≤ l.length) && (decide (l.length ≤ 60000) && l.all isPt)
def countB (l : List S24) (p : S24) (side : Int) (ofv : Int → Int) : Int × Int := if okPoly l && isPt p then (csum l p side ofv l.length, 0) else (0, 2)
theorem valid_is (l : List S24) (hlen : l.length ≤ 9223372036854775807) : wind_valid.f l = some (okPoly l) := by
  unfold wind_valid.f flat_ArePoints.f okPoly
  rw [if_pos hlen]
  by_cases h1 : (l.length : Int) ≥ 1
  · rw [if_pos h1, decide_eq_true (show 1 ≤ l.length by omega)]
    by_cases h2 : (l.length : Int) ≤ 60000
    · rw [if_pos h2, decide_eq_true (show l.length ≤ 60000 by omega)]; simp
    · rw [if_neg h2, decide_eq_false (show ¬ l.length ≤ 60000 by omega)]; simp
  · rw [if_neg h1, decide_eq_false (show ¬ 1 ≤ l.length by omega)]; simp
/-- What count's loop keeps: the captured variables' blocks, and the sum so far. -/
def CountI (w : World) (l0 : List S24) (p : S24) (side : Int) (ofv : Int → Int) (g2 bp bs bf bn : Nat) (i : Nat) (W : World) : Prop :=
  Below w.heap.size w W ∧ W.heap[bp]? = some (.cells #[.int .i64 p.f0, .int .i64 p.f1] 24 (0, 0)) ∧ W.heap[bs]? = some (.cells #[.int .i64 side] 3 (0, 0)) ∧
  W.heap[bf]? = some (.cells #[.func (.func g2) #[] #[]] 59 (0, 0)) ∧ W.heap[bn]? = some (.cells #[.int .i64 (csum l0 p side ofv i)] 3 (0, 0))
set_option maxHeartbeats 4000000 in
set_option maxRecDepth 100000 in
theorem count_calls (g2 : Nat) (ofv : Int → Int) (eg2 : ∀ args w, (callFunc g2 args).run Try.prog w = .ok (.enter g2 args) w)
    (hof : ∀ (W : World) (x : Int), Calls Try.prog g2 #[.int .i64 x] W fun e w' => e = .returned (.int .i64 (ofv x)) ∧ Drawn0 W w') (hov : ∀ x, -1 ≤ x → x ≤ 1 → -1 ≤ ofv x ∧ ofv x ≤ 1)
    (A0 : Option Addr) (c0 : Nat) (l0 : List S24) (p : S24) (side : Int) (w : World) (hr0 : Kd.C k24 w A0 l0.length l0) (hc0 : l0.length ≤ c0) (hlen : l0.length ≤ 9223372036854775807) :
    Calls Try.prog 46 #[.slice A0 l0.length c0, .agg #[.int .i64 p.f0, .int .i64 p.f1], .int .i64 side, .func (.func g2) #[] #[]] w fun e w' =>
      e = .returned (.tuple #[.int .i64 (countB l0 p side ofv).1, .int .i64 (countB l0 p side ofv).2]) ∧ Below w.heap.size w w' := by
  have hu := Try.underlying24
  have hvalid := fun V (hr : Kd.C k24 V A0 l0.length l0) => wind_valid.calls A0 c0 l0 (okPoly l0) V hr hc0 (valid_is l0 hlen)
  have hpt := fun V => flat_IsPoint.calls p.f0 p.f1 _ V (isPoint_is p)
  have HV := Aside0.mk hvalid
  have HPT := Aside0.mk hpt
  have HR := Aside0.mk hr0
  clear hvalid hpt hr0
  have hq1 := blk_alloc (blk_alloc (blk_new w (.cells #[.int .i64 p.f0, .int .i64 p.f1] 24)) (.cells #[.int .i64 side] 3)) (.cells #[.func (.func g2) #[] #[]] 59)
  have hq2 := blk_alloc (blk_new (w.alloc (.cells #[.int .i64 p.f0, .int .i64 p.f1] 24)) (.cells #[.int .i64 side] 3)) (.cells #[.func (.func g2) #[] #[]] 59)
  have hq3 := blk_new ((w.alloc (.cells #[.int .i64 p.f0, .int .i64 p.f1] 24)).alloc (.cells #[.int .i64 side] 3)) (.cells #[.func (.func g2) #[] #[]] 59)
  have hB := below_alloc (below_alloc (below_alloc (Below.refl w.heap.size w) (.cells #[.int .i64 p.f0, .int .i64 p.f1] 24)) (.cells #[.int .i64 side] 3)) (.cells #[.func (.func g2) #[] #[]] 59)
  simp only [World.size_alloc] at hq2 hq3
  have Q1 := Aside0.mk hq1
  have Q2 := Aside0.mk hq2
  have Q3 := Aside0.mk hq3
  have HB := Aside0.mk hB
  clear hq1 hq2 hq3 hB
  have HC : Aside0 (countB l0 p side ofv = if okPoly l0 && isPt p then (csum l0 p side ofv l0.length, 0) else (0, 2)) := ⟨rfl⟩
  generalize countB l0 p side ofv = cb at *
  go_enter Try.func46, Try.ntmps46
  go_wp2_with fail
  refine (HV.out _ (Kd.C_below HR.out HB.out)).mono ?_
  rintro e W4 ⟨rfl, hb4⟩
  have P1 := Aside0.mk (blk_below Q1.out hb4)
  have P2 := Aside0.mk (blk_below Q2.out hb4)
  have P3 := Aside0.mk (blk_below Q3.out hb4)
  have HB4 := Aside0.mk (below_step HB.out hb4)
  clear hb4 Q1 Q2 Q3 HB HV
  cases hok : okPoly l0 with
  | false =>
    obtain rfl : cb = (0, 2) := by have := HC.out; rw [hok] at this; exact this
    clear HC hok
    go_wp2
    go_ret2
    exact ⟨rfl, HB4.out⟩
  | true =>
    have c0' := blk_cell P1.out 0
    have c1' := blk_cell P1.out 1
    simp at c0' c1'
    go_wp2_with fail
    refine (HPT.out _).mono ?_
    rintro e W5 ⟨rfl, hb5⟩
    have R1 := Aside0.mk (blk_below P1.out hb5)
    have R2 := Aside0.mk (blk_below P2.out hb5)
    have R3 := Aside0.mk (blk_below P3.out hb5)
    have HB5 := Aside0.mk (below_step HB4.out hb5)
    clear hb5 P1 P2 P3 HB4 HPT c0' c1'
    cases hp : isPt p with
    | false =>
      obtain rfl : cb = (0, 2) := by have := HC.out; rw [hok, hp] at this; exact this
      clear HC hok hp
      go_wp2
      go_ret2
      exact ⟨rfl, HB5.out⟩
    | true =>
      obtain rfl : cb = (csum l0 p side ofv l0.length, 0) := by have := HC.out; rw [hok, hp] at this; exact this
      have hal : l0.length ≤ 60000 ∧ ∀ x ∈ l0, isPt x = true := by
        unfold okPoly at hok
        simp only [Bool.and_eq_true, decide_eq_true_eq, List.all_eq_true] at hok
        exact ⟨hok.2.1, hok.2.2⟩
      have HL := Aside0.mk hal
      have HP := Aside0.mk hp
      clear HC hok hp hal
      have hE := Edges_calls 69 #[.pointer (some ⟨w.heap.size, 0, none⟩), .pointer (some ⟨w.heap.size + 1, 0, none⟩), .pointer (some ⟨W5.heap.size, 0, none⟩), .pointer (some ⟨w.heap.size + 1 + 1, 0, none⟩)]
        (CountI w l0 p side ofv g2 w.heap.size (w.heap.size + 1) (w.heap.size + 1 + 1) W5.heap.size) (enters_own Try.func69 (by kernel_rfl) rfl) A0 c0 l0 w (W5.alloc (.cells #[.int .i64 0] 3))
        (fun i W hi ⟨k0, k1, k2, k3, k4⟩ => by
          have ca := csum_abs l0 p side ofv hov i
          have cb := ctermB_abs (rd_T24 l0 (i : Int)) (nxt l0 i) p side ofv hov
          have hl := HL.out.1
          have n1 : w.heap.size < W5.heap.size := lt_of_block R1.out
          have n2 : w.heap.size + 1 < W5.heap.size := lt_of_block R2.out
          have n3 : w.heap.size + 1 + 1 < W5.heap.size := lt_of_block R3.out
          refine (count1_calls g2 ofv eg2 hof (rd_T24 l0 (i : Int)) (nxt l0 i) p (HL.out.2 _ (rd_mem l0 i hi)) (HL.out.2 _ (nxt_mem l0 i hi)) HP.out side (csum l0 p side ofv i) _ _ _ _ W k1 k2 k4 k3 (by omega) (by omega)).mono ?_
          rintro e w' ⟨rfl, hg, hn⟩
          exact ⟨rfl, k0.grown hg k0.size (fun k hk => by injection hk with hk; omega), blk_grown k1 hg (by simp; omega), blk_grown k2 hg (by simp; omega), blk_grown k3 hg (by simp; omega), hn⟩)
        (fun i W h => h.1) (fun i W o ⟨k0, k1, k2, k3, k4⟩ => ⟨below_alloc k0 o, blk_alloc k1 o, blk_alloc k2 o, blk_alloc k3 o, blk_alloc k4 o⟩) (fun i W n ⟨k0, k1, k2, k3, k4⟩ => ⟨pw_below_drewN k0 n, blk_drewN k1 n, blk_drewN k2 n, blk_drewN k3 n, blk_drewN k4 n⟩)
        ⟨below_alloc HB5.out _, blk_alloc R1.out _, blk_alloc R2.out _, blk_alloc R3.out _, blk_new W5 _⟩ HR.out (by have := HL.out.1; omega)
      have HE := Aside0.mk hE
      clear hE
      go_wp2_with fail
      refine HE.out.mono ?_
      rintro e W6 ⟨rfl, k0, k1, k2, k3, k4⟩
      have K0 := Aside0.mk k0
      have c6 := blk_cell k4 0
      simp at c6
      clear HE k0 k1 k2 k3 k4
      go_wp2
      go_ret2
      exact ⟨rfl, K0.out⟩

/-! ### wind_same: function 47 -/
def wind_same.f (a0 : Int) : Option (Int) := some a0
set_option maxHeartbeats 8000000 in
set_option maxRecDepth 100000 in
theorem wind_same.calls (a0 : Int) (r : Int) (w : World) (h : wind_same.f a0 = some r) :
    Calls Try.prog 47 #[.int .i64 a0] w fun e w' => e = .returned (.int .i64 r) ∧ Drawn0 w w' := by
  have H : (some a0) = some r := h
  clear h
  obtain rfl := Option.some.inj H
  go_enter Try.func47, Try.ntmps47
  go_wp2
  go_ret
  exact ⟨by first | rfl | (simp; done) | (simp [*]; done), by repeat (first | exact Drawn0.refl _ | apply Drawn0.step)⟩

/-! ### wind_Winding: function 19 (by hand) -/
def wind_Winding.f (l0 : List S24) (a1_0 a1_1 : Int) : Option (Int × Int) := if l0.length ≤ 9223372036854775807 then some (countB l0 ⟨a1_0, a1_1⟩ 1 id) else none
set_option maxHeartbeats 2000000 in
set_option maxRecDepth 100000 in
theorem wind_Winding.calls (A0 : Option Addr) (c0 : Nat) (l0 : List S24) (a1_0 a1_1 : Int) (r1 r2 : Int) (w : World) (hr0 : Kd.C k24 w A0 l0.length l0) (hc0 : l0.length ≤ c0) (h : wind_Winding.f l0 a1_0 a1_1 = some (r1, r2)) :
    Calls Try.prog 19 #[.slice A0 l0.length c0, .agg #[.int .i64 a1_0, .int .i64 a1_1]] w fun e w' => e = .returned (.tuple #[.int .i64 r1, .int .i64 r2]) ∧ Below w.heap.size w w' := by
  unfold wind_Winding.f at h
  by_cases hl : l0.length ≤ 9223372036854775807
  · rw [if_pos hl] at h
    injection h with h
    have hu := Try.underlying24
    have hc := fun V hr => count_calls 47 id (enters_own Try.func47 (by kernel_rfl) rfl) (fun W x => wind_same.calls x _ W rfl) (by simp <;> omega) A0 c0 l0 ⟨a1_0, a1_1⟩ 1 V hr hc0 hl
    rw [h] at hc
    have HC := Aside0.mk hc
    have HR := Aside0.mk hr0
    have HB := Aside0.mk (below_alloc (Below.refl w.heap.size w) (.cells #[.int .i64 a1_0, .int .i64 a1_1] 24))
    clear h hc hr0
    go_enter Try.func19, Try.ntmps19
    go_wp2_with fail
    refine (HC.out _ (Kd.C_below HR.out HB.out)).mono ?_
    rintro e W1 ⟨rfl, hb1⟩
    have HB1 := Aside0.mk (below_step HB.out hb1)
    clear hb1 HC
    go_wp2
    go_ret2
    exact ⟨rfl, HB1.out⟩
  · rw [if_neg hl] at h
    exact absurd h (by simp)

/-! ### wind_one: function 50 -/
def wind_one.f (a0 : Int) : Option (Int) := some 1
set_option maxHeartbeats 8000000 in
set_option maxRecDepth 100000 in
theorem wind_one.calls (a0 : Int) (r : Int) (w : World) (h : wind_one.f a0 = some r) :
    Calls Try.prog 50 #[.int .i64 a0] w fun e w' => e = .returned (.int .i64 r) ∧ Drawn0 w w' := by
  have H : (some 1) = some r := h
  clear h
  obtain rfl := Option.some.inj H
  go_enter Try.func50, Try.ntmps50
  go_wp2
  go_ret
  exact ⟨by first | rfl | (simp; done) | (simp [*]; done), by repeat (first | exact Drawn0.refl _ | apply Drawn0.step)⟩

/-! ### wind_Crossings: function 21 (by hand) -/
def wind_Crossings.f (l0 : List S24) (a1_0 a1_1 : Int) : Option (Int × Int) := if l0.length ≤ 9223372036854775807 then some (countB l0 ⟨a1_0, a1_1⟩ 1 (fun _ => 1)) else none
set_option maxHeartbeats 2000000 in
set_option maxRecDepth 100000 in
theorem wind_Crossings.calls (A0 : Option Addr) (c0 : Nat) (l0 : List S24) (a1_0 a1_1 : Int) (r1 r2 : Int) (w : World) (hr0 : Kd.C k24 w A0 l0.length l0) (hc0 : l0.length ≤ c0) (h : wind_Crossings.f l0 a1_0 a1_1 = some (r1, r2)) :
    Calls Try.prog 21 #[.slice A0 l0.length c0, .agg #[.int .i64 a1_0, .int .i64 a1_1]] w fun e w' => e = .returned (.tuple #[.int .i64 r1, .int .i64 r2]) ∧ Below w.heap.size w w' := by
  unfold wind_Crossings.f at h
  by_cases hl : l0.length ≤ 9223372036854775807
  · rw [if_pos hl] at h
    injection h with h
    have hu := Try.underlying24
    have hc := fun V hr => count_calls 50 (fun _ => 1) (enters_own Try.func50 (by kernel_rfl) rfl) (fun W x => wind_one.calls x _ W rfl) (by simp <;> omega) A0 c0 l0 ⟨a1_0, a1_1⟩ 1 V hr hc0 hl
    rw [h] at hc
    have HC := Aside0.mk hc
    have HR := Aside0.mk hr0
    have HB := Aside0.mk (below_alloc (Below.refl w.heap.size w) (.cells #[.int .i64 a1_0, .int .i64 a1_1] 24))
    clear h hc hr0
    go_enter Try.func21, Try.ntmps21
    go_wp2_with fail
    refine (HC.out _ (Kd.C_below HR.out HB.out)).mono ?_
    rintro e W1 ⟨rfl, hb1⟩
    have HB1 := Aside0.mk (below_step HB.out hb1)
    clear hb1 HC
    go_wp2
    go_ret2
    exact ⟨rfl, HB1.out⟩
  · rw [if_neg hl] at h
    exact absurd h (by simp)

end Go.Proofs.Ytdhgekogaoiidaa.PT6

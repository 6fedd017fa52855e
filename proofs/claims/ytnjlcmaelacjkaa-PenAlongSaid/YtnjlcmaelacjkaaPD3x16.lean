/- What functions of the program come to, each with the proof that the machine's call does just that; written by a program of this session out of the translation. -/
import Derived.Test.YtnjlcmaelacjkaaPD3x0
import Derived.Test.YtnjlcmaelacjkaaPD3x3
import Derived.Test.YtnjlcmaelacjkaaPD3x4
import Derived.Test.YtnjlcmaelacjkaaPD3x11
import Derived.Test.YtnjlcmaelacjkaaPD3x12
import Derived.Test.YtnjlcmaelacjkaaPD3x14
namespace Go.Proofs.Ytnjlcmaelacjkaa.PD3
open Go.RowKit Go.Proofs.YtnjlcmaelacjkaaW.PrintWords Go.Proofs.YtnjlcmaelacjkaaW.PrintLast Go.Proofs.YtnjlcmaelacjkaaW.PrintMore
attribute [local go_sem] max2_int min2_int max_two min_two max_three min_three max_four min_four   -- for this text's walks alone
set_option linter.unusedVariables false
set_option linter.unusedSimpArgs false

/-! ### fleuronref18_Has: function 27 (by hand) -/
attribute [local go_sem high] eqIn_pt
def leftAt (l : List S33) (s : S33) (i : Nat) : Bool := decide (0 ≤ turnV (rd_T33 l (i : Int)) (nxt l i) s)
def inB (b : Int × Int × Int × Int) (s0 s1 : Int) : Bool := decide (b.1 ≤ s0) && (decide (s0 ≤ b.2.2.1) && (decide (b.2.1 ≤ s1) && decide (s1 ≤ b.2.2.2)))
theorem all_hit {f : Nat → Bool} {n i : Nat} (h : i < n) (hf : f i = false) : (List.range n).all f = false := List.all_eq_false.mpr ⟨i, List.mem_range.mpr h, by rw [hf]; simp⟩
theorem all_none {f : Nat → Bool} {n : Nat} (h : ∀ i, i < n → f i = true) : (List.range n).all f = true := List.all_eq_true.mpr (fun x hx => h x (List.mem_range.mp hx))
def fleuronref18_Has.f (l0 : List S33) (a1_0 a1_1 : Int) : Option Bool := if l0.length = 1 then some (eqP (rd_T33 l0 0) ⟨a1_0, a1_1⟩) else if 1 ≤ l0.length ∧ l0.length ≤ 1000000000 then some ((List.range l0.length).all (leftAt l0 ⟨a1_0, a1_1⟩) && inB (bndAt l0 l0.length) a1_0 a1_1) else none
set_option maxHeartbeats 4000000 in
set_option maxRecDepth 100000 in
theorem fleuronref18_Has.calls (A0 : Option Addr) (c0 : Nat) (l0 : List S33) (a1_0 a1_1 : Int) (r : Bool) (w : World) (hr0 : Kd.C k33 w A0 l0.length l0) (hc0 : l0.length ≤ c0) (h : fleuronref18_Has.f l0 a1_0 a1_1 = some r) :
    Calls Try.prog 27 #[.slice A0 l0.length c0, .agg #[.int .i64 a1_0, .int .i64 a1_1]] w fun e w' => e = .returned (.bool r) ∧ Below w.heap.size w w' := by
  have hu := Try.underlying33
  have hu2 := Try.underlying58
  unfold fleuronref18_Has.f at h
  have HR := Aside0.mk hr0
  have HC := Aside0.mk hc0
  have HB := Aside0.mk (below_alloc (Below.refl w.heap.size w) (.cells #[.int .i64 a1_0, .int .i64 a1_1] 33))
  have BS := Aside0.mk (blk_new w (.cells #[.int .i64 a1_0, .int .i64 a1_1] 33))
  by_cases hone : l0.length = 1
  · rw [if_pos hone] at h
    have HX := Aside0.mk (Option.some.inj h)
    have hb : ((l0.length : Int) == 1) = true := by rw [hone]; rfl
    have h0i : (0 : Int) < (l0.length : Int) := by omega
    have h0n : 0 < l0.length := by omega
    have hne1 : ¬ (l0 = []) := by rintro rfl; simp at h0n
    obtain ⟨ad, rfl, hx0, hx1⟩ := at_T33 hr0 0 (by omega) h0i
    have P1 := Aside0.mk (show (w.alloc (.cells #[.int .i64 a1_0, .int .i64 a1_1] 33)).drew.cell? ad = some (.int .i64 (rd_T33 l0 0).f0) from (HB.out.cell (World.block_lt_of_cell? w _ hx0)).trans hx0)
    have P2 := Aside0.mk (show (w.alloc (.cells #[.int .i64 a1_0, .int .i64 a1_1] 33)).drew.cell? ⟨ad.block, ad.off + 1, none⟩ = some (.int .i64 (rd_T33 l0 0).f1) from (HB.out.cell (World.block_lt_of_cell? w _ hx1)).trans hx1)
    have P3 := Aside0.mk ((blk_cell (blk_drew BS.out) 0).trans rfl)
    have P4 := Aside0.mk ((blk_cell (blk_drew BS.out) 1).trans rfl)
    have BD := Aside0.mk (below_drew1 HB.out)
    generalize rd_T33 l0 0 = x at *
    clear h hr0 hc0 hx0 hx1 hone
    go_enter Try.func27, Try.ntmps27
    go_wp2
    refine start_ (n := 6) (S := fun w' => w'.cell? ad = some (.int .i64 x.f0) ∧ w'.cell? ⟨ad.block, ad.off + 1, none⟩ = some (.int .i64 x.f1) ∧ w'.cell? ⟨w.heap.size, 0, none⟩ = some (.int .i64 a1_0) ∧ w'.cell? ⟨w.heap.size, 1, none⟩ = some (.int .i64 a1_1)) (ds := []) #[false, false, false, false, false, false] (by kernel_rfl) rfl rfl ⟨P1.out, P2.out, P3.out, P4.out⟩ (fun hHeld => ?_)
    refine pure_ (i := 0) (N := some 11) (v := ?_) (a' := ?_) #[true, false, false, false, false, false] rfl rfl (by kernel_rfl) (fun _ _ _ h => h) (Or.inl ⟨by rfl, ?_⟩) ?_ ?_
    rotate_left
    · intro w'
      go_simp
      with_reducible rfl
    rotate_left
    · simp only [Act.put, List.setIfInBounds_toArray, List.set_cons_zero, List.set_cons_succ, i64_w, i32_w]
      rfl
    refine pure_ (i := 1) (N := some 12) (v := ?_) (a' := ?_) #[true, true, false, false, false, false] rfl rfl (by kernel_rfl) (fun _ _ _ h => h) (Or.inl ⟨by rfl, ?_⟩) ?_ ?_
    rotate_left
    · intro w'
      go_simp
      with_reducible rfl
    rotate_left
    · simp only [Act.put, List.setIfInBounds_toArray, List.set_cons_zero, List.set_cons_succ, i64_w, i32_w]
      rfl
    refine take_ (i := 2) (N := some 13) (v := ?_) (a' := ?_) #[true, true, true, false, false, false] rfl rfl (by kernel_rfl) (fun _ _ _ h => h) (Or.inl ⟨by rfl, ?_⟩) hHeld ?_ ?_
    rotate_left
    · rintro w' ⟨s0, s1, s2, s3⟩
      go_simp
      with_reducible rfl
    rotate_left
    · simp only [Act.put, List.setIfInBounds_toArray, List.set_cons_zero, List.set_cons_succ, i64_w, i32_w]
      rfl
    refine take_ (i := 3) (N := some 14) (v := ?_) (a' := ?_) #[true, true, true, true, false, false] rfl rfl (by kernel_rfl) (fun _ _ _ h => h) (Or.inl ⟨by rfl, ?_⟩) hHeld ?_ ?_
    rotate_left
    · rintro w' ⟨s0, s1, s2, s3⟩
      go_simp
      with_reducible rfl
    rotate_left
    · simp only [Act.put, List.setIfInBounds_toArray, List.set_cons_zero, List.set_cons_succ, i64_w, i32_w]
      rfl
    refine pure_ (i := 4) (N := some 15) (v := ?_) (a' := ?_) #[true, true, true, true, true, false] rfl rfl (by kernel_rfl) (fun _ _ _ h => h) (Or.inl ⟨by rfl, ?_⟩) ?_ ?_
    rotate_left
    · intro w'
      go_simp
      with_reducible rfl
    rotate_left
    · simp only [Act.put, List.setIfInBounds_toArray, List.set_cons_zero, List.set_cons_succ, i64_w, i32_w]
      rfl
    refine pure_ (i := 5) (N := some 4) (v := ?_) (a' := ?_) #[true, true, true, true, true, true] rfl rfl (by kernel_rfl) (fun _ _ _ h => h) (Or.inl ⟨by rfl, ?_⟩) ?_ ?_
    rotate_left
    · intro w'
      go_simp
      with_reducible rfl
    rotate_left
    · simp only [Act.put, List.setIfInBounds_toArray, List.set_cons_zero, List.set_cons_succ, i64_w, i32_w]
      rfl
    refine done_ (by kernel_rfl) ?_
    go_wp2
    go_ret
    exact ⟨by rw [← HX.out]; rfl, BD.out⟩
  · rw [if_neg hone] at h
    have hb : ((l0.length : Int) == 1) = false := beq_eq_false_iff_ne.mpr (by omega)
    by_cases hl : 1 ≤ l0.length ∧ l0.length ≤ 1000000000
    case neg => rw [if_neg hl] at h; cases h
    rw [if_pos hl] at h
    have HX := Aside0.mk (Option.some.inj h)
    have HL := Aside0.mk hl
    have hbd : ∀ V, Kd.C k33 V A0 l0.length l0 → Calls Try.prog 60 #[.slice A0 l0.length c0] V fun e w' => e = .returned (.agg #[.int .i64 (bndAt l0 l0.length).1, .int .i64 (bndAt l0 l0.length).2.1, .int .i64 (bndAt l0 l0.length).2.2.1, .int .i64 (bndAt l0 l0.length).2.2.2]) ∧ Below V.heap.size V w' := fun V hV => fleuronref16_Bounds.calls A0 c0 l0 _ V hV hc0 (by unfold fleuronref16_Bounds.f; rw [if_pos hl])
    have HBD := Aside0.mk hbd
    clear h hl hr0 hc0 hbd hone
    go_enter Try.func27, Try.ntmps27
    go_wp2
    go_loopg [18] l0.length (fun gg s18 wr => ∃ kk : Nat, kk ≤ l0.length ∧ l0.length ≤ gg + kk ∧ s18 = .int .i64 kk ∧ Aside0 (∀ j, j < kk → leftAt l0 ⟨a1_0, a1_1⟩ j = true) ∧ Aside0 (Below w.heap.size w wr) ∧ Aside0 (wr.heap[w.heap.size]? = some (.cells #[.int .i64 a1_0, .int .i64 a1_1] 33 (0, 0))))
    case atStart => exact ⟨0, by omega, by omega, rfl, ⟨fun j hj => by omega⟩, HB, BS⟩
    case round =>
      obtain ⟨kk, hkk, hg, rfl, HF, HB', BS'⟩ := hrel
      by_cases hlt : kk < l0.length
      · have hlti : (kk : Int) < (l0.length : Int) := by omega
        obtain ⟨ad, rfl, hx0, hx1⟩ := at_T33 HR.out (kk : Int) (by omega) hlti
        obtain ⟨j, hj⟩ : ∃ j : Nat, (kk + 1) % l0.length = j := ⟨_, rfl⟩
        have hjl : j < l0.length := by have := Nat.mod_lt (kk + 1) (show 0 < l0.length by omega); omega
        have hji : (j : Int) < (l0.length : Int) := by omega
        obtain ⟨ad', e', hy0, hy1⟩ := at_T33 HR.out (j : Int) (by omega) hji
        obtain rfl : ad = ad' := by injection e'
        simp only [Int.toNat_natCast] at hx0 hx1 hy0 hy1
        have hnx : nxt l0 kk = rd_T33 l0 (j : Int) := by unfold nxt; rw [hj]
        have hla : leftAt l0 ⟨a1_0, a1_1⟩ kk = decide (0 ≤ turnV (rd_T33 l0 (kk : Int)) (rd_T33 l0 (j : Int)) ⟨a1_0, a1_1⟩) := by unfold leftAt; rw [hnx]
        have htc := fun V => fleuronref17_Turn.calls _ _ _ _ _ _ _ V (turn_some (rd_T33 l0 (kk : Int)) (rd_T33 l0 (j : Int)) ⟨a1_0, a1_1⟩)
        have ht : Int.tmod ((kk : Int) + 1) (l0.length : Int) = (j : Int) := by
          rw [Int.tmod_eq_emod_of_nonneg (by omega), ← hj]; simp
        have hw : wrap64 ((kk : Int) + 1) = (kk : Int) + 1 := by have := HL.out; unfold wrap64; omega
        have hwk : wrap64 ((kk : Int) + 1) = ((kk + 1 : Nat) : Int) := hw
        have hne : ¬ (l0 = []) := by rintro rfl; simp at hlt
        generalize rd_T33 l0 (kk : Int) = x at *
        generalize rd_T33 l0 (j : Int) = y at *
        have q1 := (HB'.out.cell (World.block_lt_of_cell? w _ hx0)).trans hx0
        have q2 := (HB'.out.cell (World.block_lt_of_cell? w _ hx1)).trans hx1
        have BD := Aside0.mk (below_drew1 (below_alloc HB'.out (.cells #[.int .i64 x.f0, .int .i64 x.f1] 33)))
        have xb := blk_drew (blk_new wr (.cells #[.int .i64 x.f0, .int .i64 x.f1] 33))
        have P1 := Aside0.mk ((blk_cell xb 0).trans rfl)
        have P2 := Aside0.mk ((blk_cell xb 1).trans rfl)
        have P3 := Aside0.mk (show (wr.alloc (.cells #[.int .i64 x.f0, .int .i64 x.f1] 33)).drew.cell? (ad.add (j * 2)) = some (.int .i64 y.f0) from (BD.out.cell (World.block_lt_of_cell? w _ hy0)).trans hy0)
        have P4 := Aside0.mk (show (wr.alloc (.cells #[.int .i64 x.f0, .int .i64 x.f1] 33)).drew.cell? ⟨(ad.add (j * 2)).block, (ad.add (j * 2)).off + 1, none⟩ = some (.int .i64 y.f1) from (BD.out.cell (World.block_lt_of_cell? w _ hy1)).trans hy1)
        have sb := blk_drew (blk_alloc BS'.out (.cells #[.int .i64 x.f0, .int .i64 x.f1] 33))
        have P5 := Aside0.mk ((blk_cell sb 0).trans rfl)
        have P6 := Aside0.mk ((blk_cell sb 1).trans rfl)
        have SB := Aside0.mk sb
        have HTC := Aside0.mk htc
        have HW := Aside0.mk hwk
        have HJ := Aside0.mk hj
        generalize turnV x y ⟨a1_0, a1_1⟩ = tv at *
        cases hv : decide (0 ≤ tv) with
        | false =>
          have hvb : decide (tv < 0) = true := decide_eq_true (by have := of_decide_eq_false hv; omega)
          have HALL := Aside0.mk (all_hit hlt (hla.trans hv))
          clear hx0 hx1 hy0 hy1 hj hnx hla htc hwk e' xb sb hv
          go_wp2
          refine start_ (n := 12) (S := fun w' => w'.cell? ⟨wr.heap.size, 0, none⟩ = some (.int .i64 x.f0) ∧ w'.cell? ⟨wr.heap.size, 1, none⟩ = some (.int .i64 x.f1) ∧ w'.cell? (ad.add (j * 2)) = some (.int .i64 y.f0) ∧ w'.cell? ⟨(ad.add (j * 2)).block, (ad.add (j * 2)).off + 1, none⟩ = some (.int .i64 y.f1) ∧ w'.cell? ⟨w.heap.size, 0, none⟩ = some (.int .i64 a1_0) ∧ w'.cell? ⟨w.heap.size, 1, none⟩ = some (.int .i64 a1_1)) (ds := [10]) #[false, false, false, false, false, false, false, false, false, false, false, false] (by kernel_rfl) rfl rfl ⟨P1.out, P2.out, P3.out, P4.out, P5.out, P6.out⟩ (fun hHeld => ?_)
          refine pure_ (i := 1) (N := some 24) (v := ?_) (a' := ?_) #[false, true, false, false, false, false, false, false, false, false, false, false] rfl rfl (by kernel_rfl) (fun _ _ _ h => h) (Or.inl ⟨by rfl, ?_⟩) ?_ ?_
          rotate_left
          · intro w'
            go_simp
            with_reducible rfl
          rotate_left
          · simp only [Act.put, List.setIfInBounds_toArray, List.set_cons_zero, List.set_cons_succ, i64_w, i32_w]
            rfl
          refine pure_ (i := 2) (N := some 25) (v := ?_) (a' := ?_) #[false, true, true, false, false, false, false, false, false, false, false, false] rfl rfl (by kernel_rfl) (fun _ _ _ h => h) (Or.inl ⟨by rfl, ?_⟩) ?_ ?_
          rotate_left
          · intro w'
            go_simp
            with_reducible rfl
          rotate_left
          · simp only [Act.put, List.setIfInBounds_toArray, List.set_cons_zero, List.set_cons_succ, i64_w, i32_w]
            rfl
          refine pure_ (i := 3) (N := some 26) (v := ?_) (a' := ?_) #[false, true, true, true, false, false, false, false, false, false, false, false] rfl rfl (by kernel_rfl) (fun _ _ _ h => h) (Or.inl ⟨by rfl, ?_⟩) ?_ ?_
          rotate_left
          · intro w'
            go_simp
            with_reducible rfl
          rotate_left
          · simp only [Act.put, List.setIfInBounds_toArray, List.set_cons_zero, List.set_cons_succ, i64_w, i32_w]
            rfl
          refine pure_ (i := 4) (N := some 27) (v := ?_) (a' := ?_) #[false, true, true, true, true, false, false, false, false, false, false, false] rfl rfl (by kernel_rfl) (fun _ _ _ h => h) (Or.inl ⟨by rfl, ?_⟩) ?_ ?_
          rotate_left
          · intro w'
            go_simp
            with_reducible rfl
          rotate_left
          · simp only [Act.put, List.setIfInBounds_toArray, List.set_cons_zero, List.set_cons_succ, i64_w, i32_w]
            rfl
          refine pure_ (i := 5) (N := some 28) (v := ?_) (a' := ?_) #[false, true, true, true, true, true, false, false, false, false, false, false] rfl rfl (by kernel_rfl) (fun _ _ _ h => h) (Or.inl ⟨by rfl, ?_⟩) ?_ ?_
          rotate_left
          · intro w'
            go_simp
            with_reducible rfl
          rotate_left
          · simp only [Act.put, List.setIfInBounds_toArray, List.set_cons_zero, List.set_cons_succ, i64_w, i32_w]
            rfl
          refine pure_ (i := 6) (N := some 29) (v := ?_) (a' := ?_) #[false, true, true, true, true, true, true, false, false, false, false, false] rfl rfl (by kernel_rfl) (fun _ _ _ h => h) (Or.inl ⟨by rfl, ?_⟩) ?_ ?_
          rotate_left
          · intro w'
            go_simp
            with_reducible rfl
          rotate_left
          · simp only [Act.put, List.setIfInBounds_toArray, List.set_cons_zero, List.set_cons_succ, i64_w, i32_w]
            rfl
          refine pure_ (i := 7) (N := some 30) (v := ?_) (a' := ?_) #[false, true, true, true, true, true, true, true, false, false, false, false] rfl rfl (by kernel_rfl) (fun _ _ _ h => h) (Or.inl ⟨by rfl, ?_⟩) ?_ ?_
          rotate_left
          · intro w'
            go_simp
            with_reducible rfl
          rotate_left
          · simp only [Act.put, List.setIfInBounds_toArray, List.set_cons_zero, List.set_cons_succ, i64_w, i32_w]
            rfl
          refine take_ (i := 0) (N := some 23) (v := ?_) (a' := ?_) #[true, true, true, true, true, true, true, true, false, false, false, false] rfl rfl (by kernel_rfl) (fun _ _ _ h => h) (Or.inl ⟨by rfl, ?_⟩) hHeld ?_ ?_
          rotate_left
          · rintro w' ⟨s0, s1, s2, s3, s4, s5⟩
            go_simp
            with_reducible rfl
          rotate_left
          · simp only [Act.put, List.setIfInBounds_toArray, List.set_cons_zero, List.set_cons_succ, i64_w, i32_w]
            rfl
          refine take_ (i := 8) (N := some 31) (v := ?_) (a' := ?_) #[true, true, true, true, true, true, true, true, true, false, false, false] rfl rfl (by kernel_rfl) (fun _ _ _ h => h) (Or.inl ⟨by rfl, ?_⟩) hHeld ?_ ?_
          rotate_left
          · rintro w' ⟨s0, s1, s2, s3, s4, s5⟩
            go_simp
            with_reducible rfl
          rotate_left
          · simp only [Act.put, List.setIfInBounds_toArray, List.set_cons_zero, List.set_cons_succ, i64_w, i32_w]
            rfl
          refine take_ (i := 9) (N := some 32) (v := ?_) (a' := ?_) #[true, true, true, true, true, true, true, true, true, true, false, false] rfl rfl (by kernel_rfl) (fun _ _ _ h => h) (Or.inl ⟨by rfl, ?_⟩) hHeld ?_ ?_
          rotate_left
          · rintro w' ⟨s0, s1, s2, s3, s4, s5⟩
            go_simp
            with_reducible rfl
          rotate_left
          · simp only [Act.put, List.setIfInBounds_toArray, List.set_cons_zero, List.set_cons_succ, i64_w, i32_w]
            rfl
          refine last_ (i := 10) (N := some 33) #[true, true, true, true, true, true, true, true, true, true, true, false] rfl rfl (by kernel_rfl) (by decide) (fun K hK => ?_)
          refine goes_ Try.func26 (by kernel_rfl) rfl #[.agg #[.int .i64 x.f0, .int .i64 x.f1], .agg #[.int .i64 y.f0, .int .i64 y.f1], .agg #[.int .i64 a1_0, .int .i64 a1_1]] (by rfl) rfl rfl (by simp only [List.map_toArray, List.map_cons, List.map_nil]; rfl) ?_
          with_reducible refine (HTC.out _).mono ?_
          rintro e w3 ⟨rfl, hk3⟩
          refine ⟨_, rfl, ?_⟩
          refine hK.out _ _ ?_
          clear hK K
          refine norm_ (a' := ?_) ?_ ?_
          rotate_left
          · show Act.put _ (some 33) _ = _
            simp only [Act.put, List.setIfInBounds_toArray, List.set_cons_zero, List.set_cons_succ, i64_w, i32_w]
            rfl
          refine pure_ (i := 11) (N := some 34) (v := ?_) (a' := ?_) #[true, true, true, true, true, true, true, true, true, true, true, true] rfl rfl (by kernel_rfl) (fun _ _ _ h => h) (Or.inl ⟨by rfl, ?_⟩) ?_ ?_
          rotate_left
          · intro w'
            go_simp
            with_reducible rfl
          rotate_left
          · simp only [Act.put, List.setIfInBounds_toArray, List.set_cons_zero, List.set_cons_succ, i64_w, i32_w]
            rfl
          refine done_ (by kernel_rfl) ?_
          have B3 := Aside0.mk (below_step BD.out hk3)
          clear hk3
          obtain rfl : false = r := by have := HX.out; rw [HALL.out] at this; simpa using this
          go_wp2
          (try simp only [Exit.inBlock, Exit.then])
          refine bodyPost_ret (results_tmp rfl _ _ _) rfl ?_
          exact ⟨rfl, B3.out⟩
        | true =>
          have hvb : decide (tv < 0) = false := decide_eq_false (by have := of_decide_eq_true hv; omega)
          have HLA := Aside0.mk (hla.trans hv)
          clear hx0 hx1 hy0 hy1 hj hnx hla htc hwk e' xb sb hv
          go_wp2
          refine start_ (n := 12) (S := fun w' => w'.cell? ⟨wr.heap.size, 0, none⟩ = some (.int .i64 x.f0) ∧ w'.cell? ⟨wr.heap.size, 1, none⟩ = some (.int .i64 x.f1) ∧ w'.cell? (ad.add (j * 2)) = some (.int .i64 y.f0) ∧ w'.cell? ⟨(ad.add (j * 2)).block, (ad.add (j * 2)).off + 1, none⟩ = some (.int .i64 y.f1) ∧ w'.cell? ⟨w.heap.size, 0, none⟩ = some (.int .i64 a1_0) ∧ w'.cell? ⟨w.heap.size, 1, none⟩ = some (.int .i64 a1_1)) (ds := [10]) #[false, false, false, false, false, false, false, false, false, false, false, false] (by kernel_rfl) rfl rfl ⟨P1.out, P2.out, P3.out, P4.out, P5.out, P6.out⟩ (fun hHeld => ?_)
          refine pure_ (i := 1) (N := some 24) (v := ?_) (a' := ?_) #[false, true, false, false, false, false, false, false, false, false, false, false] rfl rfl (by kernel_rfl) (fun _ _ _ h => h) (Or.inl ⟨by rfl, ?_⟩) ?_ ?_
          rotate_left
          · intro w'
            go_simp
            with_reducible rfl
          rotate_left
          · simp only [Act.put, List.setIfInBounds_toArray, List.set_cons_zero, List.set_cons_succ, i64_w, i32_w]
            rfl
          refine pure_ (i := 2) (N := some 25) (v := ?_) (a' := ?_) #[false, true, true, false, false, false, false, false, false, false, false, false] rfl rfl (by kernel_rfl) (fun _ _ _ h => h) (Or.inl ⟨by rfl, ?_⟩) ?_ ?_
          rotate_left
          · intro w'
            go_simp
            with_reducible rfl
          rotate_left
          · simp only [Act.put, List.setIfInBounds_toArray, List.set_cons_zero, List.set_cons_succ, i64_w, i32_w]
            rfl
          refine pure_ (i := 3) (N := some 26) (v := ?_) (a' := ?_) #[false, true, true, true, false, false, false, false, false, false, false, false] rfl rfl (by kernel_rfl) (fun _ _ _ h => h) (Or.inl ⟨by rfl, ?_⟩) ?_ ?_
          rotate_left
          · intro w'
            go_simp
            with_reducible rfl
          rotate_left
          · simp only [Act.put, List.setIfInBounds_toArray, List.set_cons_zero, List.set_cons_succ, i64_w, i32_w]
            rfl
          refine pure_ (i := 4) (N := some 27) (v := ?_) (a' := ?_) #[false, true, true, true, true, false, false, false, false, false, false, false] rfl rfl (by kernel_rfl) (fun _ _ _ h => h) (Or.inl ⟨by rfl, ?_⟩) ?_ ?_
          rotate_left
          · intro w'
            go_simp
            with_reducible rfl
          rotate_left
          · simp only [Act.put, List.setIfInBounds_toArray, List.set_cons_zero, List.set_cons_succ, i64_w, i32_w]
            rfl
          refine pure_ (i := 5) (N := some 28) (v := ?_) (a' := ?_) #[false, true, true, true, true, true, false, false, false, false, false, false] rfl rfl (by kernel_rfl) (fun _ _ _ h => h) (Or.inl ⟨by rfl, ?_⟩) ?_ ?_
          rotate_left
          · intro w'
            go_simp
            with_reducible rfl
          rotate_left
          · simp only [Act.put, List.setIfInBounds_toArray, List.set_cons_zero, List.set_cons_succ, i64_w, i32_w]
            rfl
          refine pure_ (i := 6) (N := some 29) (v := ?_) (a' := ?_) #[false, true, true, true, true, true, true, false, false, false, false, false] rfl rfl (by kernel_rfl) (fun _ _ _ h => h) (Or.inl ⟨by rfl, ?_⟩) ?_ ?_
          rotate_left
          · intro w'
            go_simp
            with_reducible rfl
          rotate_left
          · simp only [Act.put, List.setIfInBounds_toArray, List.set_cons_zero, List.set_cons_succ, i64_w, i32_w]
            rfl
          refine pure_ (i := 7) (N := some 30) (v := ?_) (a' := ?_) #[false, true, true, true, true, true, true, true, false, false, false, false] rfl rfl (by kernel_rfl) (fun _ _ _ h => h) (Or.inl ⟨by rfl, ?_⟩) ?_ ?_
          rotate_left
          · intro w'
            go_simp
            with_reducible rfl
          rotate_left
          · simp only [Act.put, List.setIfInBounds_toArray, List.set_cons_zero, List.set_cons_succ, i64_w, i32_w]
            rfl
          refine take_ (i := 0) (N := some 23) (v := ?_) (a' := ?_) #[true, true, true, true, true, true, true, true, false, false, false, false] rfl rfl (by kernel_rfl) (fun _ _ _ h => h) (Or.inl ⟨by rfl, ?_⟩) hHeld ?_ ?_
          rotate_left
          · rintro w' ⟨s0, s1, s2, s3, s4, s5⟩
            go_simp
            with_reducible rfl
          rotate_left
          · simp only [Act.put, List.setIfInBounds_toArray, List.set_cons_zero, List.set_cons_succ, i64_w, i32_w]
            rfl
          refine take_ (i := 8) (N := some 31) (v := ?_) (a' := ?_) #[true, true, true, true, true, true, true, true, true, false, false, false] rfl rfl (by kernel_rfl) (fun _ _ _ h => h) (Or.inl ⟨by rfl, ?_⟩) hHeld ?_ ?_
          rotate_left
          · rintro w' ⟨s0, s1, s2, s3, s4, s5⟩
            go_simp
            with_reducible rfl
          rotate_left
          · simp only [Act.put, List.setIfInBounds_toArray, List.set_cons_zero, List.set_cons_succ, i64_w, i32_w]
            rfl
          refine take_ (i := 9) (N := some 32) (v := ?_) (a' := ?_) #[true, true, true, true, true, true, true, true, true, true, false, false] rfl rfl (by kernel_rfl) (fun _ _ _ h => h) (Or.inl ⟨by rfl, ?_⟩) hHeld ?_ ?_
          rotate_left
          · rintro w' ⟨s0, s1, s2, s3, s4, s5⟩
            go_simp
            with_reducible rfl
          rotate_left
          · simp only [Act.put, List.setIfInBounds_toArray, List.set_cons_zero, List.set_cons_succ, i64_w, i32_w]
            rfl
          refine last_ (i := 10) (N := some 33) #[true, true, true, true, true, true, true, true, true, true, true, false] rfl rfl (by kernel_rfl) (by decide) (fun K hK => ?_)
          refine goes_ Try.func26 (by kernel_rfl) rfl #[.agg #[.int .i64 x.f0, .int .i64 x.f1], .agg #[.int .i64 y.f0, .int .i64 y.f1], .agg #[.int .i64 a1_0, .int .i64 a1_1]] (by rfl) rfl rfl (by simp only [List.map_toArray, List.map_cons, List.map_nil]; rfl) ?_
          with_reducible refine (HTC.out _).mono ?_
          rintro e w3 ⟨rfl, hk3⟩
          refine ⟨_, rfl, ?_⟩
          refine hK.out _ _ ?_
          clear hK K
          refine norm_ (a' := ?_) ?_ ?_
          rotate_left
          · show Act.put _ (some 33) _ = _
            simp only [Act.put, List.setIfInBounds_toArray, List.set_cons_zero, List.set_cons_succ, i64_w, i32_w]
            rfl
          refine pure_ (i := 11) (N := some 34) (v := ?_) (a' := ?_) #[true, true, true, true, true, true, true, true, true, true, true, true] rfl rfl (by kernel_rfl) (fun _ _ _ h => h) (Or.inl ⟨by rfl, ?_⟩) ?_ ?_
          rotate_left
          · intro w'
            go_simp
            with_reducible rfl
          rotate_left
          · simp only [Act.put, List.setIfInBounds_toArray, List.set_cons_zero, List.set_cons_succ, i64_w, i32_w]
            rfl
          refine done_ (by kernel_rfl) ?_
          have B3 := Aside0.mk (below_step BD.out hk3)
          have S3 := Aside0.mk (blk_below SB.out hk3)
          clear hk3
          go_wp2
          go_roundg (l0.length - (kk + 1))
          case measure => omega
          case rel => exact ⟨kk + 1, by omega, by omega, congrArg (Value.int .i64) HW.out, ⟨fun i hi => by rcases Nat.lt_or_ge i kk with h | h; exact HF.out i h; rw [show i = kk by omega]; exact HLA.out⟩, B3, S3⟩
      · have hlti : ¬ (kk : Int) < (l0.length : Int) := by omega
        obtain rfl : kk = l0.length := by omega
        have hx := HX.out
        rw [all_none HF.out, Bool.true_and] at hx
        go_wp2_with fail
        refine (HBD.out _ (Kd.C_below HR.out HB'.out)).mono ?_
        rintro e W1 ⟨rfl, hb1⟩
        have B1 := Aside0.mk (below_step HB'.out hb1)
        have K1 := blk_below BS'.out hb1
        generalize bndAt l0 l0.length = b at *
        obtain ⟨b0, b1, b2, b3⟩ := b
        simp only [inB] at hx
        have K2 := blk_alloc K1 (.cells #[.int .i64 b0, .int .i64 b1, .int .i64 b2, .int .i64 b3] 58)
        have p0 := (blk_cell K2 0).trans rfl
        have p1 := (blk_cell K2 1).trans rfl
        clear hb1 HBD K1 K2
        cases t1 : decide (b0 ≤ a1_0) with
        | false =>
          obtain rfl : false = r := by rw [t1] at hx; simpa using hx
          clear hx
          go_wp2
          go_ret
          exact ⟨rfl, below_alloc B1.out _⟩
        | true =>
          cases t2 : decide (a1_0 ≤ b2) with
          | false =>
            obtain rfl : false = r := by rw [t1, t2] at hx; simpa using hx
            clear hx
            go_wp2
            go_ret
            exact ⟨rfl, below_alloc B1.out _⟩
          | true =>
            cases t3 : decide (b1 ≤ a1_1) with
            | false =>
              obtain rfl : false = r := by rw [t1, t2, t3] at hx; simpa using hx
              clear hx
              go_wp2
              go_ret
              exact ⟨rfl, below_alloc B1.out _⟩
            | true =>
              rw [t1, t2, t3] at hx
              obtain ⟨t4, ht4⟩ : ∃ t, decide (a1_1 ≤ b3) = t := ⟨_, rfl⟩
              obtain rfl : t4 = r := by rw [ht4] at hx; simpa using hx
              clear hx
              go_wp2
              go_ret
              exact ⟨rfl, below_alloc B1.out _⟩

end Go.Proofs.Ytnjlcmaelacjkaa.PD3

/- What functions of the program come to, each with the proof that the machine's call does just that; written by a program of this session out of the translation. -/
import Derived.Test.YtnjlcmaelacjkaaPD3x0
import Derived.Test.YtnjlcmaelacjkaaPD3x3
namespace Go.Proofs.Ytnjlcmaelacjkaa.PD3
open Go.RowKit Go.Proofs.YtnjlcmaelacjkaaW.PrintWords Go.Proofs.YtnjlcmaelacjkaaW.PrintLast Go.Proofs.YtnjlcmaelacjkaaW.PrintMore
attribute [local go_sem] max2_int min2_int max_two min_two max_three min_three max_four min_four   -- for this text's walks alone
set_option linter.unusedVariables false
set_option linter.unusedSimpArgs false

/-! ### fleuronref16_Bounds: function 60 (by hand) -/
def fleuronref16_Bounds.f (l0 : List S33) : Option (Int × Int × Int × Int) := if 1 ≤ l0.length ∧ l0.length ≤ 1000000000 then some (bndAt l0 l0.length) else none
set_option maxHeartbeats 4000000 in
set_option maxRecDepth 100000 in
theorem fleuronref16_Bounds.calls (A0 : Option Addr) (c0 : Nat) (l0 : List S33) (r : Int × Int × Int × Int) (w : World) (hr0 : Kd.C k33 w A0 l0.length l0) (hc0 : l0.length ≤ c0) (h : fleuronref16_Bounds.f l0 = some r) :
    Calls Try.prog 60 #[.slice A0 l0.length c0] w fun e w' => e = .returned (.agg #[.int .i64 r.1, .int .i64 r.2.1, .int .i64 r.2.2.1, .int .i64 r.2.2.2]) ∧ Below w.heap.size w w' := by
  have hu := Try.underlying33
  have hu2 := Try.underlying58
  unfold fleuronref16_Bounds.f at h
  by_cases hl : 1 ≤ l0.length ∧ l0.length ≤ 1000000000
  case neg => rw [if_neg hl] at h; exact absurd h (by simp)
  rw [if_pos hl] at h
  have HRES := Aside0.mk (Option.some.inj h)
  have HL := Aside0.mk hl
  have HR0 := Aside0.mk hr0
  have h0i : (0 : Int) < (l0.length : Int) := by omega
  have h0n : 0 < l0.length := by omega
  have hne : ¬ (l0 = []) := by rintro rfl; simp at h0n
  obtain ⟨ad, rfl, hx0, hx1⟩ := at_T33 hr0 0 (by omega) h0i
  have P1 := Aside0.mk (show (w.alloc (.cells #[.int .i64 0, .int .i64 0, .int .i64 0, .int .i64 0] 58)).drew.cell? ad = some (.int .i64 (rd_T33 l0 0).f0) from (World.cell?_alloc_lt w _ _ (World.block_lt_of_cell? w _ hx0)).trans hx0)
  have P2 := Aside0.mk (show (w.alloc (.cells #[.int .i64 0, .int .i64 0, .int .i64 0, .int .i64 0] 58)).drew.cell? ⟨ad.block, ad.off + 1, none⟩ = some (.int .i64 (rd_T33 l0 0).f1) from (World.cell?_alloc_lt w _ _ (World.block_lt_of_cell? w _ hx1)).trans hx1)
  clear h hl hr0 hx0 hx1
  go_enter Try.func60, Try.ntmps60
  go_wp2
  refine start_ (n := 9) (S := fun w' => w'.cell? ad = some (.int .i64 (rd_T33 l0 0).f0) ∧ w'.cell? ⟨ad.block, ad.off + 1, none⟩ = some (.int .i64 (rd_T33 l0 0).f1)) (ds := [8]) #[false, false, false, false, false, false, false, false, false] (by kernel_rfl) rfl rfl ⟨P1.out, P2.out⟩ (fun hHeld => ?_)
  refine pure_ (i := 0) (N := some 6) (v := ?_) (a' := ?_) #[true, false, false, false, false, false, false, false, false] rfl rfl (by kernel_rfl) (fun _ _ _ h => h) (Or.inl ⟨by rfl, ?_⟩) ?_ ?_
  rotate_left
  · intro w'
    go_simp
    with_reducible rfl
  rotate_left
  · simp only [Act.put, List.setIfInBounds_toArray, List.set_cons_zero, List.set_cons_succ, i64_w, i32_w]
    rfl
  refine pure_ (i := 1) (N := some 7) (v := ?_) (a' := ?_) #[true, true, false, false, false, false, false, false, false] rfl rfl (by kernel_rfl) (fun _ _ _ h => h) (Or.inl ⟨by rfl, ?_⟩) ?_ ?_
  rotate_left
  · intro w'
    go_simp
    with_reducible rfl
  rotate_left
  · simp only [Act.put, List.setIfInBounds_toArray, List.set_cons_zero, List.set_cons_succ, i64_w, i32_w]
    rfl
  refine pure_ (i := 3) (N := some 9) (v := ?_) (a' := ?_) #[true, true, false, true, false, false, false, false, false] rfl rfl (by kernel_rfl) (fun _ _ _ h => h) (Or.inl ⟨by rfl, ?_⟩) ?_ ?_
  rotate_left
  · intro w'
    go_simp
    with_reducible rfl
  rotate_left
  · simp only [Act.put, List.setIfInBounds_toArray, List.set_cons_zero, List.set_cons_succ, i64_w, i32_w]
    rfl
  refine pure_ (i := 4) (N := some 10) (v := ?_) (a' := ?_) #[true, true, false, true, true, false, false, false, false] rfl rfl (by kernel_rfl) (fun _ _ _ h => h) (Or.inl ⟨by rfl, ?_⟩) ?_ ?_
  rotate_left
  · intro w'
    go_simp
    with_reducible rfl
  rotate_left
  · simp only [Act.put, List.setIfInBounds_toArray, List.set_cons_zero, List.set_cons_succ, i64_w, i32_w]
    rfl
  refine take_ (i := 2) (N := some 8) (v := ?_) (a' := ?_) #[true, true, true, true, true, false, false, false, false] rfl rfl (by kernel_rfl) (fun _ _ _ h => h) (Or.inl ⟨by rfl, ?_⟩) hHeld ?_ ?_
  rotate_left
  · rintro w' ⟨s0, s1⟩
    go_simp
    with_reducible rfl
  rotate_left
  · simp only [Act.put, List.setIfInBounds_toArray, List.set_cons_zero, List.set_cons_succ, i64_w, i32_w]
    rfl
  refine take_ (i := 5) (N := some 11) (v := ?_) (a' := ?_) #[true, true, true, true, true, true, false, false, false] rfl rfl (by kernel_rfl) (fun _ _ _ h => h) (Or.inl ⟨by rfl, ?_⟩) hHeld ?_ ?_
  rotate_left
  · rintro w' ⟨s0, s1⟩
    go_simp
    with_reducible rfl
  rotate_left
  · simp only [Act.put, List.setIfInBounds_toArray, List.set_cons_zero, List.set_cons_succ, i64_w, i32_w]
    rfl
  refine pure_ (i := 6) (N := some 12) (v := ?_) (a' := ?_) #[true, true, true, true, true, true, true, false, false] rfl rfl (by kernel_rfl) (fun _ _ _ h => h) (Or.inl ⟨by rfl, ?_⟩) ?_ ?_
  rotate_left
  · intro w'
    go_simp
    with_reducible rfl
  rotate_left
  · simp only [Act.put, List.setIfInBounds_toArray, List.set_cons_zero, List.set_cons_succ, i64_w, i32_w]
    rfl
  refine one_ (i := 7) (N := some 3) #[true, true, true, true, true, true, true, true, false] rfl rfl (by kernel_rfl) (by decide) (fun K hK => ?_)
  refine value_ (w1 := ?_) (v := ?_) (by rfl) rfl ?_ ?_
  rotate_left 2
  · go_simp
    constructor
    · rfl
    · rfl
  refine hK.out _ _ ⟨(World.cell?_alloc_lt _ _ _ (World.block_lt_of_cell? _ _ hHeld.1)).trans hHeld.1, (World.cell?_alloc_lt _ _ _ (World.block_lt_of_cell? _ _ hHeld.2)).trans hHeld.2⟩ (fun hHeld => ?_)
  clear hK K
  refine norm_ (a' := ?_) ?_ ?_
  rotate_left
  · show Act.put _ (some 3) _ = _
    simp only [Act.put, List.setIfInBounds_toArray, List.set_cons_zero, List.set_cons_succ, i64_w, i32_w]
    rfl
  refine last_ (i := 8) (N := none) #[true, true, true, true, true, true, true, true, true] rfl rfl (by kernel_rfl) (by decide) (fun K hK => ?_)
  refine skip_ (w1 := ?_) (by rfl) rfl ?_ ?_
  rotate_left
  · go_simp
    rfl
  refine hK.out _ _ ?_
  clear hK K
  refine done_ (by kernel_rfl) ?_
  go_wp2
  go_loopg [15] l0.length (fun gg s15 wr => ∃ kk : Nat, kk ≤ l0.length ∧ l0.length ≤ gg + kk ∧ s15 = .int .i64 kk ∧ Aside0 (Below w.heap.size w wr) ∧ Aside0 (wr.heap[w.heap.size]? = some (.cells #[.int .i64 0, .int .i64 0, .int .i64 0, .int .i64 0] 58 (0, 0))) ∧ Aside0 (wr.heap[w.heap.size + 1]? = some (.cells #[.int .i64 (bndAt l0 kk).1, .int .i64 (bndAt l0 kk).2.1, .int .i64 (bndAt l0 kk).2.2.1, .int .i64 (bndAt l0 kk).2.2.2] 58 (0, 0))))
  case atStart => exact ⟨0, by omega, by omega, rfl, ⟨below_drew1 (below_alloc (below_alloc (Below.refl w.heap.size w) _) _)⟩, ⟨blk_drew (blk_alloc (blk_new w _) _)⟩, ⟨by have h := blk_new (w.alloc (.cells #[.int .i64 0, .int .i64 0, .int .i64 0, .int .i64 0] 58)) (.cells #[.int .i64 (rd_T33 l0 0).f0, .int .i64 (rd_T33 l0 0).f1, .int .i64 (rd_T33 l0 0).f0, .int .i64 (rd_T33 l0 0).f1] 58); simp only [World.size_alloc] at h; exact h⟩⟩
  case round =>
    obtain ⟨kk, hkk, hg, rfl, HB, BR, BO⟩ := hrel
    by_cases hlt : kk < l0.length
    · have hlti : (kk : Int) < (l0.length : Int) := by omega
      have hk0 : 0 ≤ (kk : Int) := by omega
      obtain ⟨ad', e', hy0, hy1⟩ := at_T33 HR0.out (kk : Int) (by omega) hlti
      obtain rfl : ad = ad' := by injection e'
      simp only [Int.toNat_natCast] at hy0 hy1
      have hx0 := (HB.out.cell (World.block_lt_of_cell? w _ hy0)).trans hy0
      have hx1 := (HB.out.cell (World.block_lt_of_cell? w _ hy1)).trans hy1
      have hbn : bndAt l0 (kk + 1) = (mn (bndAt l0 kk).1 (rd_T33 l0 (kk : Int)).f0, mn (bndAt l0 kk).2.1 (rd_T33 l0 (kk : Int)).f1, mx (bndAt l0 kk).2.2.1 (rd_T33 l0 (kk : Int)).f0, mx (bndAt l0 kk).2.2.2 (rd_T33 l0 (kk : Int)).f1) := rfl
      generalize rd_T33 l0 (kk : Int) = x at *
      generalize bndAt l0 kk = b at *
      obtain ⟨b0, b1, b2, b3⟩ := b
      simp only at hbn BO
      have e0 : (if x.f0 < b0 then x.f0 else b0) = mn b0 x.f0 := rfl
      have e1 : (if x.f1 < b1 then x.f1 else b1) = mn b1 x.f1 := rfl
      have e2 : (if b2 < x.f0 then x.f0 else b2) = mx b2 x.f0 := rfl
      have e3 : (if b3 < x.f1 then x.f1 else b3) = mx b3 x.f1 := rfl
      generalize mn b0 x.f0 = m0 at *
      generalize mn b1 x.f1 = m1 at *
      generalize mx b2 x.f0 = m2 at *
      generalize mx b3 x.f1 = m3 at *
      have HBN := Aside0.mk hbn
      have hwj : wrap64 ((kk : Int) + 1) = ((kk + 1 : Nat) : Int) := by have := HL.out; unfold wrap64; omega
      have HW := Aside0.mk hwj
      have ne1 : w.heap.size + 1 ≠ wr.heap.size := by have := blk_lt BO.out; omega
      have V0 := blk_alloc BO.out (.cells #[.int .i64 x.f0, .int .i64 x.f1] 33)
      have X0 := blk_new wr (.cells #[.int .i64 x.f0, .int .i64 x.f1] 33)
      have a0 := (blk_cell V0 0).trans rfl
      have a1 := (blk_cell V0 1).trans rfl
      have g0 := blk_frozen V0 0
      have x0 := (blk_cell X0 0).trans rfl
      have x1 := (blk_cell X0 1).trans rfl
      have V1 := blk_set V0 0 (.int .i64 m0)
      have a2 := (blk_cell V1 1).trans rfl
      have g1 := blk_frozen V1 1
      have V2 := blk_set V1 1 (.int .i64 m1)
      have X1 := blk_far (blk_far X0 (p := ⟨w.heap.size + 1, 0, none⟩) (Ne.symm ne1) (.int .i64 m0)) (p := ⟨w.heap.size + 1, 1, none⟩) (Ne.symm ne1) (.int .i64 m1)
      have a3 := (blk_cell V2 2).trans rfl
      have a4 := (blk_cell V2 3).trans rfl
      have x2 := (blk_cell X1 0).trans rfl
      have x3 := (blk_cell X1 1).trans rfl
      have g2 := blk_frozen V2 2
      have V3 := blk_set V2 2 (.int .i64 m2)
      have a5 := (blk_cell V3 3).trans rfl
      have g3 := blk_frozen V3 3
      have V4 := Aside0.mk (blk_set V3 3 (.int .i64 m3))
      clear hy0 hy1 hbn e' hwj V0 X0 V1 V2 X1 V3
      go_wp2
      go_roundg (l0.length - (kk + 1))
      case measure => omega
      case rel => exact ⟨kk + 1, by omega, by omega, congrArg (Value.int .i64) HW.out, ⟨below_set (below_set (below_set (below_set (below_alloc HB.out _) (by omega)) (by omega)) (by omega)) (by omega)⟩, ⟨blk_far (blk_far (blk_far (blk_far (blk_alloc BR.out _) (by simp) _) (by simp) _) (by simp) _) (by simp) _⟩, ⟨by rw [HBN.out]; exact V4.out⟩⟩
    · have hlti : ¬ (kk : Int) < (l0.length : Int) := by omega
      obtain rfl : kk = l0.length := by omega
      rw [HRES.out] at BO
      obtain ⟨b0, b1, b2, b3⟩ := r
      simp only at BO ⊢
      have a0 := (blk_cell BO.out 0).trans rfl
      have a1 := (blk_cell BO.out 1).trans rfl
      have a2 := (blk_cell BO.out 2).trans rfl
      have a3 := (blk_cell BO.out 3).trans rfl
      have R0 := BR.out
      have R1 := blk_set R0 0 (.int .i64 b0)
      have R2 := blk_set R1 1 (.int .i64 b1)
      have R3 := blk_set R2 2 (.int .i64 b2)
      have R4 := Aside0.mk (blk_set R3 3 (.int .i64 b3))
      have q0 := (blk_cell R0 0).trans rfl
      have q1 := (blk_cell R1 1).trans rfl
      have q2 := (blk_cell R2 2).trans rfl
      have q3 := (blk_cell R3 3).trans rfl
      have g0 := blk_frozen R0 0
      have g1 := blk_frozen R1 1
      have g2 := blk_frozen R2 2
      have g3 := blk_frozen R3 3
      clear R0 R1 R2 R3
      go_wp2
      refine bodyPost_ret (results_cell_row rfl _ _ w.heap.size 58 #[.int .i64 b0, .int .i64 b1, .int .i64 b2, .int .i64 b3] (0, 0) _ rfl R4.out Try.underlying58 rfl (by kernel_rfl)) rfl ?_
      exact ⟨rfl, below_set (below_set (below_set (below_set HB.out (Nat.le_refl _)) (Nat.le_refl _)) (Nat.le_refl _)) (Nat.le_refl _)⟩

end Go.Proofs.Ytnjlcmaelacjkaa.PD3

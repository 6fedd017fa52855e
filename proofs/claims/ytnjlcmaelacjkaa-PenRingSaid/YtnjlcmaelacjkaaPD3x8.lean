/- What functions of the program come to, each with the proof that the machine's call does just that; written by a program of this session out of the translation. -/
import Derived.Test.YtnjlcmaelacjkaaPD3x0
import Derived.Test.YtnjlcmaelacjkaaPD3x2
import Derived.Test.YtnjlcmaelacjkaaPD3x3
import Derived.Test.YtnjlcmaelacjkaaPD3x5
import Derived.Test.YtnjlcmaelacjkaaPD3x6
import Derived.Test.YtnjlcmaelacjkaaPD3x7
namespace Go.Proofs.Ytnjlcmaelacjkaa.PD3
open Go.RowKit Go.Proofs.YtnjlcmaelacjkaaW.PrintWords Go.Proofs.YtnjlcmaelacjkaaW.PrintLast Go.Proofs.YtnjlcmaelacjkaaW.PrintMore
attribute [local go_sem] max2_int min2_int max_two min_two max_three min_three max_four min_four   -- for this text's walks alone
set_option linter.unusedVariables false
set_option linter.unusedSimpArgs false

/-! ### pen_Strokes: function 54 (by hand) -/
/-- How many pieces a line has, and their ends. -/
def pieces (l : List S33) : Nat := if l.length = 1 then 1 else l.length - 1
def pieceB (l : List S33) (i : Nat) : S33 := if l.length = 1 then rd_T33 l 0 else rd_T33 l ((i + 1 : Nat) : Int)
theorem any_hit {f : Nat → Bool} {n i : Nat} (h : i < n) (hf : f i = true) : (List.range n).any f = true := List.any_eq_true.mpr ⟨i, List.mem_range.mpr h, hf⟩
theorem any_none {f : Nat → Bool} {n : Nat} (h : ∀ i, i < n → f i = false) : (List.range n).any f = false := by
  rw [List.any_eq_false]
  intro x hx
  rw [h x (List.mem_range.mp hx)]; simp
set_option maxHeartbeats 4000000 in
set_option maxRecDepth 100000 in
theorem strokes_calls (g : Nat) (lb : Array Value) (bk bs : Nat) (o : Obj) (eg : ∀ args w, (callFunc g args).run Try.prog w = .ok (.enter g args) w) (hu : Nat → List S33) (hs : Nat → Bool)
    (A0 : Option Addr) (c0 : Nat) (l0 : List S33) (A1 : Option Addr) (c1 : Nat) (l1 : List S33) (w0 w : World) (hB : Below w0.heap.size w0 w) (hbk : w0.heap.size ≤ bk) (hne : bs ≠ bk)
    (hk : w.heap[bk]? = some (.cells #[.bool false] 4 (0, 0))) (ho : w.heap[bs]? = some o)
    (hsw : ∀ i, i < pieces l1 → pen_Swept.f (l0.length + 5) l0 (rd_T33 l1 (i : Int)).f0 (rd_T33 l1 (i : Int)).f1 (pieceB l1 i).f0 (pieceB l1 i).f1 = some (hu i))
    (hcall : ∀ (i : Nat) (W : World) (A : Option Addr) (c : Nat), i < pieces l1 → W.heap[bk]? = some (.cells #[.bool false] 4 (0, 0)) → W.heap[bs]? = some o → Kd.C k33 W A (hu i).length (hu i) → (hu i).length ≤ c →
      Calls Try.prog g (#[.slice A (hu i).length c] ++ lb) W fun e w' => e = .returned (.bool (!hs i)) ∧ W.grownBy w' (some bk) ∧ w'.heap[bk]? = some (.cells #[.bool (hs i)] 4 (0, 0)))
    (hr0 : Kd.C k33 w0 A0 l0.length l0) (hc0 : l0.length ≤ c0) (hr1 : Kd.C k33 w0 A1 l1.length l1) (hc1 : l1.length ≤ c1) (h1 : 1 ≤ l1.length) (hlen : l1.length ≤ 1000000000) :
    Calls Try.prog 54 #[.slice A0 l0.length c0, .slice A1 l1.length c1, .func (.func g) #[] lb] w fun e w' => e = .returned (.tuple #[]) ∧ Below w0.heap.size w0 w' ∧ w'.heap[bk]? = some (.cells #[.bool ((List.range (pieces l1)).any hs)] 4 (0, 0)) := by
  have hu' := Try.underlying33
  have HR0 := Aside0.mk hr0
  have HR1 := Aside0.mk hr1
  have HC0 := Aside0.mk hc0
  have HC1 := Aside0.mk hc1
  have HBK := Aside0.mk (show w0.heap.size ≤ bk ∧ bs ≠ bk from ⟨hbk, hne⟩)
  have HL := Aside0.mk (show 1 ≤ l1.length ∧ l1.length ≤ 1000000000 from ⟨h1, hlen⟩)
  have HSW := Aside0.mk (fun i V (hi : i < pieces l1) hV => pen_Swept.calls (l0.length + 5) A0 c0 l0 _ _ _ _ (hu i) V (Kd.C_below hr0 hV) hc0 (hsw i hi))
  have HCALL := Aside0.mk hcall
  have HB := Aside0.mk hB
  have HK := Aside0.mk hk
  have HO := Aside0.mk ho
  have h0i : (0 : Int) < (l1.length : Int) := by omega
  have h0n : 0 < l1.length := by omega
  have hne1 : ¬ (l1 = []) := by rintro rfl; simp at h0n
  obtain ⟨ad, rfl, hx0, hx1⟩ := at_T33 hr1 0 (by omega) h0i
  have P1 := Aside0.mk (show w.drew.cell? ad = some (.int .i64 (rd_T33 l1 0).f0) from (hB.cell (World.block_lt_of_cell? w0 _ hx0)).trans hx0)
  have P2 := Aside0.mk (show w.drew.cell? ⟨ad.block, ad.off + 1, none⟩ = some (.int .i64 (rd_T33 l1 0).f1) from (hB.cell (World.block_lt_of_cell? w0 _ hx1)).trans hx1)
  clear hr0 hr1 hc0 hc1 hbk hne hsw hcall hB hk ho hx0 hx1 h1 hlen
  by_cases hone : l1.length = 1
  · have hb : ((l1.length : Int) == 1) = true := by rw [hone]; rfl
    have hpc : pieces l1 = 1 := by unfold pieces; rw [if_pos hone]
    have hsw0 := HSW.out 0
    have hc0' := HCALL.out 0
    have hpb : pieceB l1 0 = rd_T33 l1 0 := by unfold pieceB; rw [if_pos hone]
    simp only [hpc, hpb, Int.ofNat_zero, Nat.zero_lt_one, forall_const, true_implies] at hsw0 hc0'
    have hany : (List.range (pieces l1)).any hs = hs 0 := by rw [hpc]; simp
    rw [hany]
    have HS0 := Aside0.mk hsw0
    have HC0' := Aside0.mk hc0'
    generalize rd_T33 l1 0 = x at *
    have BD := Aside0.mk (below_drew1 HB.out)
    have KD := Aside0.mk (blk_drew HK.out)
    have OD := Aside0.mk (blk_drew HO.out)
    clear hsw0 hc0' hpc hpb hany hone HSW HCALL
    go_enter Try.func54, Try.ntmps54
    go_wp2
    refine start_ (n := 10) (S := fun w' => w'.cell? ad = some (.int .i64 x.f0) ∧ w'.cell? ⟨ad.block, ad.off + 1, none⟩ = some (.int .i64 x.f1) ∧ Below w0.heap.size w0 w' ∧ w'.heap[bk]? = some (.cells #[.bool false] 4 (0, 0)) ∧ w'.heap[bs]? = some o) (ds := [9]) #[false, false, false, false, false, false, false, false, false, false] (by kernel_rfl) rfl rfl ⟨P1.out, P2.out, BD.out, KD.out, OD.out⟩ (fun hHeld => ?_)
    refine pure_ (i := 0) (N := some 11) (v := ?_) (a' := ?_) #[true, false, false, false, false, false, false, false, false, false] rfl rfl (by kernel_rfl) (fun _ _ _ h => h) (Or.inl ⟨by rfl, ?_⟩) ?_ ?_
    rotate_left
    · intro w'
      go_simp
      with_reducible rfl
    rotate_left
    · simp only [Act.put, List.setIfInBounds_toArray, List.set_cons_zero, List.set_cons_succ, i64_w, i32_w]
      rfl
    refine pure_ (i := 1) (N := some 12) (v := ?_) (a' := ?_) #[true, true, false, false, false, false, false, false, false, false] rfl rfl (by kernel_rfl) (fun _ _ _ h => h) (Or.inl ⟨by rfl, ?_⟩) ?_ ?_
    rotate_left
    · intro w'
      go_simp
      with_reducible rfl
    rotate_left
    · simp only [Act.put, List.setIfInBounds_toArray, List.set_cons_zero, List.set_cons_succ, i64_w, i32_w]
      rfl
    refine pure_ (i := 2) (N := some 13) (v := ?_) (a' := ?_) #[true, true, true, false, false, false, false, false, false, false] rfl rfl (by kernel_rfl) (fun _ _ _ h => h) (Or.inl ⟨by rfl, ?_⟩) ?_ ?_
    rotate_left
    · intro w'
      go_simp
      with_reducible rfl
    rotate_left
    · simp only [Act.put, List.setIfInBounds_toArray, List.set_cons_zero, List.set_cons_succ, i64_w, i32_w]
      rfl
    refine pure_ (i := 3) (N := some 14) (v := ?_) (a' := ?_) #[true, true, true, true, false, false, false, false, false, false] rfl rfl (by kernel_rfl) (fun _ _ _ h => h) (Or.inl ⟨by rfl, ?_⟩) ?_ ?_
    rotate_left
    · intro w'
      go_simp
      with_reducible rfl
    rotate_left
    · simp only [Act.put, List.setIfInBounds_toArray, List.set_cons_zero, List.set_cons_succ, i64_w, i32_w]
      rfl
    refine pure_ (i := 5) (N := some 16) (v := ?_) (a' := ?_) #[true, true, true, true, false, true, false, false, false, false] rfl rfl (by kernel_rfl) (fun _ _ _ h => h) (Or.inl ⟨by rfl, ?_⟩) ?_ ?_
    rotate_left
    · intro w'
      go_simp
      with_reducible rfl
    rotate_left
    · simp only [Act.put, List.setIfInBounds_toArray, List.set_cons_zero, List.set_cons_succ, i64_w, i32_w]
      rfl
    refine pure_ (i := 6) (N := some 17) (v := ?_) (a' := ?_) #[true, true, true, true, false, true, true, false, false, false] rfl rfl (by kernel_rfl) (fun _ _ _ h => h) (Or.inl ⟨by rfl, ?_⟩) ?_ ?_
    rotate_left
    · intro w'
      go_simp
      with_reducible rfl
    rotate_left
    · simp only [Act.put, List.setIfInBounds_toArray, List.set_cons_zero, List.set_cons_succ, i64_w, i32_w]
      rfl
    refine take_ (i := 4) (N := some 15) (v := ?_) (a' := ?_) #[true, true, true, true, true, true, true, false, false, false] rfl rfl (by kernel_rfl) (fun _ _ _ h => h) (Or.inl ⟨by rfl, ?_⟩) hHeld ?_ ?_
    rotate_left
    · rintro w' ⟨s0, s1, s2, s3, s4⟩
      go_simp
      with_reducible rfl
    rotate_left
    · simp only [Act.put, List.setIfInBounds_toArray, List.set_cons_zero, List.set_cons_succ, i64_w, i32_w]
      rfl
    refine take_ (i := 7) (N := some 18) (v := ?_) (a' := ?_) #[true, true, true, true, true, true, true, true, false, false] rfl rfl (by kernel_rfl) (fun _ _ _ h => h) (Or.inl ⟨by rfl, ?_⟩) hHeld ?_ ?_
    rotate_left
    · rintro w' ⟨s0, s1, s2, s3, s4⟩
      go_simp
      with_reducible rfl
    rotate_left
    · simp only [Act.put, List.setIfInBounds_toArray, List.set_cons_zero, List.set_cons_succ, i64_w, i32_w]
      rfl
    refine one_ (i := 8) (N := some 19) #[true, true, true, true, true, true, true, true, true, false] rfl rfl (by kernel_rfl) (by decide) (fun K hK => ?_)
    refine goes_ Try.func48 (by kernel_rfl) rfl #[.slice A0 l0.length c0, .agg #[.int .i64 x.f0, .int .i64 x.f1], .agg #[.int .i64 x.f0, .int .i64 x.f1]] (by rfl) rfl rfl (by simp only [List.map_toArray, List.map_cons, List.map_nil]; rfl) ?_
    refine (HS0.out _ hHeld.2.2.1).mono ?_
    rintro e w3 ⟨v3, rfl, r3, hk3⟩
    obtain ⟨A3, c3, rfl⟩ := Kd.R_slice r3
    have R3 := Aside0.mk r3
    refine ⟨_, rfl, ?_⟩
    refine hK.out _ _ ⟨(hk3.cell (World.block_lt_of_cell? _ _ hHeld.1)).trans hHeld.1, (hk3.cell (World.block_lt_of_cell? _ _ hHeld.2.1)).trans hHeld.2.1, below_step hHeld.2.2.1 hk3, blk_below hHeld.2.2.2.1 hk3, blk_below hHeld.2.2.2.2 hk3⟩ (fun hHeld => ?_)
    clear hK K
    refine norm_ (a' := ?_) ?_ ?_
    rotate_left
    · show Act.put _ (some 19) _ = _
      simp only [Act.put, List.setIfInBounds_toArray, List.set_cons_zero, List.set_cons_succ, i64_w, i32_w]
      rfl
    refine last_ (i := 9) (N := some 20) #[true, true, true, true, true, true, true, true, true, true] rfl rfl (by kernel_rfl) (by decide) (fun K hK => ?_)
    have BB := Aside0.mk hHeld.2.2.1
    refine goesv_ lb #[.slice A3 (hu 0).length c3] eg (by rfl) rfl rfl (by rfl) (by simp only [List.map_toArray, List.map_cons, List.map_nil]; rfl) ?_
    refine (HC0'.out _ A3 c3 hHeld.2.2.2.1 hHeld.2.2.2.2 (Kd.R_reads' R3.out).2.2 (Kd.R_reads' R3.out).2.1).mono ?_
    rintro e w4 ⟨rfl, hg4, hk4⟩
    refine ⟨_, rfl, ?_⟩
    refine hK.out _ _ ?_
    clear hK K
    refine norm_ (a' := ?_) ?_ ?_
    rotate_left
    · show Act.put _ (some 20) _ = _
      simp only [Act.put, List.setIfInBounds_toArray, List.set_cons_zero, List.set_cons_succ, i64_w, i32_w]
      rfl
    refine done_ (by kernel_rfl) ?_
    have K4 := Aside0.mk hk4
    have B4 := Aside0.mk (BB.out.grown hg4 BB.out.size (fun k hk' => by injection hk' with hk'; have := HBK.out.1; omega))
    clear hk4 hg4
    go_wp2
    (try simp only [Exit.inBlock, Exit.then])
    refine bodyPost_ret (results_none rfl _ _ _) rfl ?_
    exact ⟨rfl, B4.out, K4.out⟩
  · have hb : ((l1.length : Int) == 1) = false := beq_eq_false_iff_ne.mpr (by omega)
    obtain ⟨m, hm⟩ : ∃ m, l1.length = m + 1 := ⟨l1.length - 1, by have := HL.out; omega⟩
    have hpc : pieces l1 = m := by unfold pieces; rw [if_neg hone]; omega
    have hcc : ¬ (c1 = 1) := by have := HC1.out; have := HL.out; omega
    have h1c : 1 ≤ l1.length := HL.out.1
    have h1i : (1 : Int) ≤ (l1.length : Int) := by omega
    have h1cc : 1 ≤ c1 := by have := HC1.out; omega
    have HM := Aside0.mk hm
    have HPC := Aside0.mk hpc
    have HONE := Aside0.mk hone
    rw [hpc]
    clear hpc hm hone
    go_enter Try.func54, Try.ntmps54
    go_wp2
    have hsm : l1.length - 1 = m := by have := HM.out; omega
    rw [hsm]
    clear hsm hcc h1c h1cc
    go_loopg [24] m (fun gg s24 wr => ∃ kk : Nat, kk ≤ m ∧ m ≤ gg + kk ∧ s24 = .int .i64 kk ∧ Aside0 (∀ j, j < kk → hs j = false) ∧ Aside0 (Below w0.heap.size w0 wr) ∧ Aside0 (wr.heap[bk]? = some (.cells #[.bool false] 4 (0, 0))) ∧ Aside0 (wr.heap[bs]? = some o))
    case atStart => exact ⟨0, by omega, by omega, rfl, ⟨fun j hj => by omega⟩, HB, HK, HO⟩
    case round =>
      obtain ⟨kk, hkm, hg, rfl, HF, HB', HK', HO'⟩ := hrel
      by_cases hlt : kk < m
      · have hlti : (kk : Int) < (m : Int) := by omega
        have hlt1 : (kk : Int) < (l1.length : Int) := by have := HM.out; omega
        have hlt2 : ((kk + 1 : Nat) : Int) < (l1.length : Int) := by have := HM.out; omega
        have hltn : kk < l1.length := by omega
        obtain ⟨ad1, e1, hy0, hy1⟩ := at_T33 HR1.out (kk : Int) (by omega) hlt1
        obtain rfl : ad = ad1 := by injection e1
        obtain ⟨ad2, e2, hz0, hz1⟩ := at_T33 HR1.out ((kk + 1 : Nat) : Int) (by omega) hlt2
        obtain rfl : ad = ad2 := by injection e2
        simp only [Int.toNat_natCast] at hy0 hy1 hz0 hz1
        have ea : ad.add ((kk + 1) * 2) = ⟨ad.block, ad.off + 2 + kk * 2, none⟩ := by
          unfold Addr.add
          rw [if_neg (by omega), show ad.off + (kk + 1) * 2 = ad.off + 2 + kk * 2 by omega]
        rw [ea] at hz0 hz1
        have hpb : pieceB l1 kk = rd_T33 l1 ((kk + 1 : Nat) : Int) := by unfold pieceB; rw [if_neg HONE.out]
        have hsw0 := fun V => HSW.out kk V (by rw [HPC.out]; exact hlt)
        have hc0' := fun V A c => HCALL.out kk V A c (by rw [HPC.out]; exact hlt)
        rw [hpb] at hsw0
        generalize rd_T33 l1 ((kk + 1 : Nat) : Int) = y at *
        generalize rd_T33 l1 (kk : Int) = x at *
        have bcell : ∀ (a : Addr) (v : Value), w0.cell? a = some v → wr.cell? a = some v := fun a v hv => (HB'.out.cell (World.block_lt_of_cell? w0 _ hv)).trans hv
        have q1 := bcell _ _ hz0
        have q2 := bcell _ _ hz1
        have BD := Aside0.mk (below_drew1 (below_alloc HB'.out (.cells #[.int .i64 y.f0, .int .i64 y.f1] 33)))
        have P3 := Aside0.mk (show (wr.alloc (.cells #[.int .i64 y.f0, .int .i64 y.f1] 33)).drew.cell? (ad.add (kk * 2)) = some (.int .i64 x.f0) from (BD.out.cell (World.block_lt_of_cell? w0 _ hy0)).trans hy0)
        have P4 := Aside0.mk (show (wr.alloc (.cells #[.int .i64 y.f0, .int .i64 y.f1] 33)).drew.cell? ⟨(ad.add (kk * 2)).block, (ad.add (kk * 2)).off + 1, none⟩ = some (.int .i64 x.f1) from (BD.out.cell (World.block_lt_of_cell? w0 _ hy1)).trans hy1)
        have yb := blk_drew (blk_new wr (.cells #[.int .i64 y.f0, .int .i64 y.f1] 33))
        have P5 := Aside0.mk ((blk_cell yb 0).trans rfl)
        have P6 := Aside0.mk ((blk_cell yb 1).trans rfl)
        have KD := Aside0.mk (blk_drew (blk_alloc HK'.out (.cells #[.int .i64 y.f0, .int .i64 y.f1] 33)))
        have OD := Aside0.mk (blk_drew (blk_alloc HO'.out (.cells #[.int .i64 y.f0, .int .i64 y.f1] 33)))
        have HS0 := Aside0.mk hsw0
        have HC0' := Aside0.mk hc0'
        have hwj : wrap64 ((kk : Int) + 1) = ((kk + 1 : Nat) : Int) := by have := HL.out; unfold wrap64; omega
        have HW := Aside0.mk hwj
        clear hy0 hy1 hz0 hz1 e1 e2 ea hpb hsw0 hc0' yb bcell hlt2 hwj
        go_wp2
        refine start_ (n := 10) (S := fun w' => w'.cell? (ad.add (kk * 2)) = some (.int .i64 x.f0) ∧ w'.cell? ⟨(ad.add (kk * 2)).block, (ad.add (kk * 2)).off + 1, none⟩ = some (.int .i64 x.f1) ∧ w'.cell? ⟨wr.heap.size, 0, none⟩ = some (.int .i64 y.f0) ∧ w'.cell? ⟨wr.heap.size, 1, none⟩ = some (.int .i64 y.f1) ∧ Below w0.heap.size w0 w' ∧ w'.heap[bk]? = some (.cells #[.bool false] 4 (0, 0)) ∧ w'.heap[bs]? = some o) (ds := [8]) #[false, false, false, false, false, false, false, false, false, false] (by kernel_rfl) rfl rfl ⟨P3.out, P4.out, P5.out, P6.out, BD.out, KD.out, OD.out⟩ (fun hHeld => ?_)
        refine pure_ (i := 0) (N := some 29) (v := ?_) (a' := ?_) #[true, false, false, false, false, false, false, false, false, false] rfl rfl (by kernel_rfl) (fun _ _ _ h => h) (Or.inl ⟨by rfl, ?_⟩) ?_ ?_
        rotate_left
        · intro w'
          go_simp
          with_reducible rfl
        rotate_left
        · simp only [Act.put, List.setIfInBounds_toArray, List.set_cons_zero, List.set_cons_succ, i64_w, i32_w]
          rfl
        refine pure_ (i := 1) (N := some 30) (v := ?_) (a' := ?_) #[true, true, false, false, false, false, false, false, false, false] rfl rfl (by kernel_rfl) (fun _ _ _ h => h) (Or.inl ⟨by rfl, ?_⟩) ?_ ?_
        rotate_left
        · intro w'
          go_simp
          with_reducible rfl
        rotate_left
        · simp only [Act.put, List.setIfInBounds_toArray, List.set_cons_zero, List.set_cons_succ, i64_w, i32_w]
          rfl
        refine pure_ (i := 2) (N := some 31) (v := ?_) (a' := ?_) #[true, true, true, false, false, false, false, false, false, false] rfl rfl (by kernel_rfl) (fun _ _ _ h => h) (Or.inl ⟨by rfl, ?_⟩) ?_ ?_
        rotate_left
        · intro w'
          go_simp
          with_reducible rfl
        rotate_left
        · simp only [Act.put, List.setIfInBounds_toArray, List.set_cons_zero, List.set_cons_succ, i64_w, i32_w]
          rfl
        refine pure_ (i := 3) (N := some 32) (v := ?_) (a' := ?_) #[true, true, true, true, false, false, false, false, false, false] rfl rfl (by kernel_rfl) (fun _ _ _ h => h) (Or.inl ⟨by rfl, ?_⟩) ?_ ?_
        rotate_left
        · intro w'
          go_simp
          with_reducible rfl
        rotate_left
        · simp only [Act.put, List.setIfInBounds_toArray, List.set_cons_zero, List.set_cons_succ, i64_w, i32_w]
          rfl
        refine pure_ (i := 4) (N := some 33) (v := ?_) (a' := ?_) #[true, true, true, true, true, false, false, false, false, false] rfl rfl (by kernel_rfl) (fun _ _ _ h => h) (Or.inl ⟨by rfl, ?_⟩) ?_ ?_
        rotate_left
        · intro w'
          go_simp
          with_reducible rfl
        rotate_left
        · simp only [Act.put, List.setIfInBounds_toArray, List.set_cons_zero, List.set_cons_succ, i64_w, i32_w]
          rfl
        refine take_ (i := 5) (N := some 34) (v := ?_) (a' := ?_) #[true, true, true, true, true, true, false, false, false, false] rfl rfl (by kernel_rfl) (fun _ _ _ h => h) (Or.inl ⟨by rfl, ?_⟩) hHeld ?_ ?_
        rotate_left
        · rintro w' ⟨s0, s1, s2, s3, s4, s5, s6⟩
          go_simp
          with_reducible rfl
        rotate_left
        · simp only [Act.put, List.setIfInBounds_toArray, List.set_cons_zero, List.set_cons_succ, i64_w, i32_w]
          rfl
        refine take_ (i := 6) (N := some 35) (v := ?_) (a' := ?_) #[true, true, true, true, true, true, true, false, false, false] rfl rfl (by kernel_rfl) (fun _ _ _ h => h) (Or.inl ⟨by rfl, ?_⟩) hHeld ?_ ?_
        rotate_left
        · rintro w' ⟨s0, s1, s2, s3, s4, s5, s6⟩
          go_simp
          with_reducible rfl
        rotate_left
        · simp only [Act.put, List.setIfInBounds_toArray, List.set_cons_zero, List.set_cons_succ, i64_w, i32_w]
          rfl
        refine one_ (i := 7) (N := some 36) #[true, true, true, true, true, true, true, true, false, false] rfl rfl (by kernel_rfl) (by decide) (fun K hK => ?_)
        refine goes_ Try.func48 (by kernel_rfl) rfl #[.slice A0 l0.length c0, .agg #[.int .i64 x.f0, .int .i64 x.f1], .agg #[.int .i64 y.f0, .int .i64 y.f1]] (by rfl) rfl rfl (by simp only [List.map_toArray, List.map_cons, List.map_nil]; rfl) ?_
        refine (HS0.out _ hHeld.2.2.2.2.1).mono ?_
        rintro e w3 ⟨v3, rfl, r3, hk3⟩
        obtain ⟨A3, c3, rfl⟩ := Kd.R_slice r3
        have R3 := Aside0.mk r3
        refine ⟨_, rfl, ?_⟩
        refine hK.out _ _ ⟨(hk3.cell (World.block_lt_of_cell? _ _ hHeld.1)).trans hHeld.1, (hk3.cell (World.block_lt_of_cell? _ _ hHeld.2.1)).trans hHeld.2.1, (hk3.cell (World.block_lt_of_cell? _ _ hHeld.2.2.1)).trans hHeld.2.2.1, (hk3.cell (World.block_lt_of_cell? _ _ hHeld.2.2.2.1)).trans hHeld.2.2.2.1, below_step hHeld.2.2.2.2.1 hk3, blk_below hHeld.2.2.2.2.2.1 hk3, blk_below hHeld.2.2.2.2.2.2 hk3⟩ (fun hHeld => ?_)
        clear hK K
        refine norm_ (a' := ?_) ?_ ?_
        rotate_left
        · show Act.put _ (some 36) _ = _
          simp only [Act.put, List.setIfInBounds_toArray, List.set_cons_zero, List.set_cons_succ, i64_w, i32_w]
          rfl
        refine last_ (i := 8) (N := some 37) #[true, true, true, true, true, true, true, true, true, false] rfl rfl (by kernel_rfl) (by decide) (fun K hK => ?_)
        have BB := Aside0.mk hHeld.2.2.2.2.1
        have OO := Aside0.mk hHeld.2.2.2.2.2.2
        refine goesv_ lb #[.slice A3 (hu kk).length c3] eg (by rfl) rfl rfl (by rfl) (by simp only [List.map_toArray, List.map_cons, List.map_nil]; rfl) ?_
        refine (HC0'.out _ A3 c3 hHeld.2.2.2.2.2.1 hHeld.2.2.2.2.2.2 (Kd.R_reads' R3.out).2.2 (Kd.R_reads' R3.out).2.1).mono ?_
        rintro e w4 ⟨rfl, hg4, hk4⟩
        refine ⟨_, rfl, ?_⟩
        refine hK.out _ _ ?_
        clear hK K
        refine norm_ (a' := ?_) ?_ ?_
        rotate_left
        · show Act.put _ (some 37) _ = _
          simp only [Act.put, List.setIfInBounds_toArray, List.set_cons_zero, List.set_cons_succ, i64_w, i32_w]
          rfl
        refine pure_ (i := 9) (N := some 38) (v := ?_) (a' := ?_) #[true, true, true, true, true, true, true, true, true, true] rfl rfl (by kernel_rfl) (fun _ _ _ h => h) (Or.inl ⟨by rfl, ?_⟩) ?_ ?_
        rotate_left
        · intro w'
          go_simp
          with_reducible rfl
        rotate_left
        · simp only [Act.put, List.setIfInBounds_toArray, List.set_cons_zero, List.set_cons_succ, i64_w, i32_w]
          rfl
        refine done_ (by kernel_rfl) ?_
        have B4 := Aside0.mk (BB.out.grown hg4 BB.out.size (fun k hk' => by injection hk' with hk'; have := HBK.out.1; omega))
        have O4 := Aside0.mk (blk_grown OO.out hg4 (by have := HBK.out.2; simpa using this))
        cases hh : hs kk with
        | true =>
          rw [hh] at hk4
          have K4 := Aside0.mk hk4
          have HANY := Aside0.mk (any_hit hlt hh)
          clear hk4 hg4
          go_wp2
          (try simp only [Exit.inBlock, Exit.then])
          refine bodyPost_ret (results_none rfl _ _ _) rfl ?_
          exact ⟨rfl, B4.out, by rw [HANY.out]; exact K4.out⟩
        | false =>
          rw [hh] at hk4
          have K4 := Aside0.mk hk4
          have HH := Aside0.mk hh
          clear hk4 hg4 hh
          go_wp2
          go_roundg (m - (kk + 1))
          case measure => omega
          case rel => exact ⟨kk + 1, by omega, by omega, congrArg (Value.int .i64) HW.out, ⟨fun j hj => by rcases Nat.lt_or_ge j kk with h | h; exact HF.out j h; rw [show j = kk by omega]; exact HH.out⟩, B4, K4, O4⟩
      · have hlti : ¬ (kk : Int) < (m : Int) := by omega
        obtain rfl : kk = m := by omega
        have HANY := Aside0.mk (any_none HF.out)
        go_wp2
        go_end0
        exact ⟨rfl, HB'.out, by rw [HANY.out]; exact HK'.out⟩
def pen_Strokes.f (l0 : List S33) : Option Bool := none

/-! ### pen_Along: function 24 (by hand) -/
set_option maxHeartbeats 4000000 in
set_option maxRecDepth 100000 in
theorem along1_calls (s : S33) (h : List S33) (q : Bool) (hq : pen_Has.f h s.f0 s.f1 = some q) (bs bk : Nat) (A : Option Addr) (c : Nat) (W : World) (hne : bs ≠ bk) (hk : W.heap[bk]? = some (.cells #[.bool false] 4 (0, 0))) (ho : W.heap[bs]? = some (.cells #[.int .i64 s.f0, .int .i64 s.f1] 33 (0, 0)))
    (hr : Kd.C k33 W A h.length h) (hc : h.length ≤ c) :
    Calls Try.prog 55 #[.slice A h.length c, .pointer (some ⟨bs, 0, none⟩), .pointer (some ⟨bk, 0, none⟩)] W fun e w' => e = .returned (.bool (!q)) ∧ W.grownBy w' (some bk) ∧ w'.heap[bk]? = some (.cells #[.bool q] 4 (0, 0)) := by
  have hu := Try.underlying33
  have HH := Aside0.mk (pen_Has.calls A c h s.f0 s.f1 q W hr hc hq)
  have a0 := (blk_cell ho 0).trans rfl
  have a1 := (blk_cell ho 1).trans rfl
  have HK := Aside0.mk hk
  clear hq hr hc hk ho hne
  go_enter Try.func55, Try.ntmps55
  go_wp2_with fail
  refine HH.out.mono ?_
  rintro e W1 ⟨rfl, hb1⟩
  have K1 := blk_below HK.out hb1
  have c0 := (blk_cell K1 0).trans rfl
  have f0 := blk_frozen K1 0
  have K2 := blk_set K1 0 (.bool q)
  have c1 := (blk_cell K2 0).trans rfl
  have K2 := Aside0.mk K2
  have HB := Aside0.mk hb1
  clear hb1 K1 HH HK a0 a1
  go_wp2
  go_ret
  exact ⟨rfl, grown_set HB.out 0 bk 0 _, K2.out⟩
def huA (l0 l1 : List S33) (i : Nat) : List S33 := (pen_Swept.f (l0.length + 5) l0 (rd_T33 l1 (i : Int)).f0 (rd_T33 l1 (i : Int)).f1 (pieceB l1 i).f0 (pieceB l1 i).f1).getD []
def hsA (l0 l1 : List S33) (s0 s1 : Int) (i : Nat) : Bool := (pen_Has.f (huA l0 l1 i) s0 s1).getD false
def okA (l0 l1 : List S33) (s0 s1 : Int) : Bool := (List.range (pieces l1)).all fun i => (pen_Swept.f (l0.length + 5) l0 (rd_T33 l1 (i : Int)).f0 (rd_T33 l1 (i : Int)).f1 (pieceB l1 i).f0 (pieceB l1 i).f1).isSome && (pen_Has.f (huA l0 l1 i) s0 s1).isSome
theorem some_getD {α : Type} {o : Option α} {d : α} (h : o.isSome = true) : o = some (o.getD d) := by cases o with | none => cases h | some x => rfl
def pen_Along.f (l0 l1 : List S33) (a2_0 a2_1 : Int) : Option (Bool × Int) := (pen_Valid.f l0).bind fun v => if v = true then (pen_ValidLine.f l1).bind fun b => if b = true then (flat_IsPoint.f a2_0 a2_1).bind fun q => if q = true then if (1 ≤ l1.length ∧ l1.length ≤ 1000000000) ∧ okA l0 l1 a2_0 a2_1 = true then some ((List.range (pieces l1)).any (hsA l0 l1 a2_0 a2_1), 0) else none else some (false, 2) else some (false, 2) else some (false, 2)
set_option maxHeartbeats 4000000 in
set_option maxRecDepth 100000 in
theorem pen_Along.calls (A0 : Option Addr) (c0 : Nat) (l0 : List S33) (A1 : Option Addr) (c1 : Nat) (l1 : List S33) (a2_0 a2_1 : Int) (r1 : Bool) (r2 : Int) (w : World) (hr0 : Kd.C k33 w A0 l0.length l0) (hc0 : l0.length ≤ c0) (hr1 : Kd.C k33 w A1 l1.length l1) (hc1 : l1.length ≤ c1) (h : pen_Along.f l0 l1 a2_0 a2_1 = some (r1, r2)) :
    Calls Try.prog 24 #[.slice A0 l0.length c0, .slice A1 l1.length c1, .agg #[.int .i64 a2_0, .int .i64 a2_1]] w fun e w' => e = .returned (.tuple #[.bool r1, .int .i64 r2]) ∧ Below w.heap.size w w' := by
  have hu := Try.underlying33
  unfold pen_Along.f at h
  obtain ⟨v, hv, h⟩ := Option.bind_eq_some_iff.mp h
  have HR := Aside0.mk hr0
  have HC := Aside0.mk hc0
  have HR1 := Aside0.mk hr1
  have HC1 := Aside0.mk hc1
  have HV := Aside0.mk hv
  have H := Aside0.mk h
  have K1 := Aside0.mk (blk_new w (.cells #[.int .i64 a2_0, .int .i64 a2_1] 33))
  have HB := Aside0.mk (below_alloc (Below.refl w.heap.size w) (.cells #[.int .i64 a2_0, .int .i64 a2_1] 33))
  clear hr0 hc0 hr1 hc1 hv h
  go_enter Try.func24, Try.ntmps24
  go_wp2_with fail
  refine (pen_Valid.calls A0 c0 l0 v _ (Kd.C_below HR.out HB.out) HC.out HV.out).mono ?_
  rintro e W1 ⟨rfl, b1⟩
  have B1 := Aside0.mk (below_step HB.out b1)
  have L1 := Aside0.mk (blk_below K1.out b1)
  have d0 := (blk_cell L1.out 0).trans rfl
  have d1 := (blk_cell L1.out 1).trans rfl
  clear b1 K1 HB
  cases v with
  | false =>
    obtain ⟨rfl, rfl⟩ : false = r1 ∧ 2 = r2 := by have := H.out; simpa using this
    go_wp2
    go_ret2
    exact ⟨rfl, B1.out⟩
  | true =>
    have hh := H.out
    rw [if_pos rfl] at hh
    obtain ⟨b, hb, hh⟩ := Option.bind_eq_some_iff.mp hh
    have HVL := Aside0.mk hb
    have HX := Aside0.mk hh
    clear hh hb H
    go_wp2_with fail
    refine (pen_ValidLine.calls A1 c1 l1 b _ (Kd.C_below HR1.out B1.out) HC1.out HVL.out).mono ?_
    rintro e W2 ⟨rfl, b2⟩
    have B2 := Aside0.mk (below_step B1.out b2)
    have M1 := Aside0.mk (blk_below L1.out b2)
    clear b2 d0 d1 L1 B1
    have d0 := (blk_cell M1.out 0).trans rfl
    have d1 := (blk_cell M1.out 1).trans rfl
    cases b with
    | false =>
      obtain ⟨rfl, rfl⟩ : false = r1 ∧ 2 = r2 := by have := HX.out; simpa using this
      go_wp2
      go_ret2
      exact ⟨rfl, B2.out⟩
    | true =>
      have hh := HX.out
      rw [if_pos rfl] at hh
      obtain ⟨q, hq, hh⟩ := Option.bind_eq_some_iff.mp hh
      have HQ := Aside0.mk hq
      have HY := Aside0.mk hh
      clear hh hq HX
      go_wp2_with fail
      refine (flat_IsPoint.calls a2_0 a2_1 q _ HQ.out).mono ?_
      rintro e W3 ⟨rfl, b3⟩
      have B3 := Aside0.mk (below_step B2.out b3)
      have N1 := Aside0.mk (blk_below M1.out b3)
      clear b3 d0 d1 M1 B2
      cases q with
      | false =>
        obtain ⟨rfl, rfl⟩ : false = r1 ∧ 2 = r2 := by have := HY.out; simpa using this
        go_wp2
        go_ret2
        exact ⟨rfl, B3.out⟩
      | true =>
        have hh := HY.out
        rw [if_pos rfl] at hh
        by_cases hok : (1 ≤ l1.length ∧ l1.length ≤ 1000000000) ∧ okA l0 l1 a2_0 a2_1 = true
        case neg => rw [if_neg hok] at hh; cases hh
        rw [if_pos hok] at hh
        obtain ⟨hr, rfl⟩ : (List.range (pieces l1)).any (hsA l0 l1 a2_0 a2_1) = r1 ∧ 0 = r2 := by simpa using hh
        have hall : ∀ i, i < pieces l1 → pen_Swept.f (l0.length + 5) l0 (rd_T33 l1 (i : Int)).f0 (rd_T33 l1 (i : Int)).f1 (pieceB l1 i).f0 (pieceB l1 i).f1 = some (huA l0 l1 i) ∧ pen_Has.f (huA l0 l1 i) a2_0 a2_1 = some (hsA l0 l1 a2_0 a2_1 i) := by
          intro i hi
          have h2 := hok.2
          unfold okA at h2
          have h3 := List.all_eq_true.mp h2 i (List.mem_range.mpr hi)
          simp only [Bool.and_eq_true] at h3
          exact ⟨some_getD h3.1, some_getD h3.2⟩
        have hlt : w.heap.size < W3.heap.size := blk_lt N1.out
        have hE := strokes_calls 55 #[.pointer (some ⟨w.heap.size, 0, none⟩), .pointer (some ⟨W3.heap.size, 0, none⟩)] W3.heap.size w.heap.size (.cells #[.int .i64 a2_0, .int .i64 a2_1] 33 (0, 0)) (enters_own Try.func55 (by kernel_rfl) rfl) (huA l0 l1) (hsA l0 l1 a2_0 a2_1)
          A0 c0 l0 A1 c1 l1 w (W3.alloc (.cells #[.bool false] 4)) (below_alloc B3.out _) (by omega) (by omega) (blk_new W3 _) (blk_alloc N1.out _) (fun i hi => (hall i hi).1)
          (fun i W A c hi h1 h2 h3 h4 => along1_calls ⟨a2_0, a2_1⟩ (huA l0 l1 i) (hsA l0 l1 a2_0 a2_1 i) (hall i hi).2 w.heap.size W3.heap.size A c W (by omega) h1 h2 h3 h4)
          HR.out HC.out HR1.out HC1.out hok.1.1 hok.1.2
        rw [hr] at hE
        have HE := Aside0.mk hE
        clear hE hall hlt hok hh hr HY
        go_wp2_with fail
        refine HE.out.mono ?_
        rintro e W6 ⟨rfl, k0, k1⟩
        have K0 := Aside0.mk k0
        have c6 := (blk_cell k1 0).trans rfl
        clear HE k0 k1
        go_wp2
        go_ret2
        exact ⟨rfl, K0.out⟩

/-! ### pen_each: function 61 (by hand) -/
theorem map_next (cf : S33 → S33) (l : List S33) (k : Nat) (h : k < l.length) : ((l.take k).map cf ++ l.drop k).set k (cf (rd_T33 l (k : Int))) = (l.take (k + 1)).map cf ++ l.drop (k + 1) := by
  have e : rd_T33 l (k : Int) = l[k] := by simp [rd_T33, List.getD_eq_getElem?_getD, List.getElem?_eq_getElem h]
  have hl : ((l.take k).map cf).length = k := by rw [List.length_map, List.length_take]; omega
  rw [e, List.set_append_right _ _ (by omega), hl, Nat.sub_self, List.drop_eq_getElem_cons h, List.set_cons_zero, List.take_succ_eq_append_getElem h, List.map_append]
  simp
set_option maxHeartbeats 4000000 in
set_option maxRecDepth 100000 in
theorem each_calls (g2 : Nat) (cf : S33 → S33) (eg : ∀ args w, (callFunc g2 args).run Try.prog w = .ok (.enter g2 args) w)
    (hp : ∀ (W : World) (x : S33), Calls Try.prog g2 #[.agg #[.int .i64 x.f0, .int .i64 x.f1]] W fun e w' => e = .returned (.agg #[.int .i64 (cf x).f0, .int .i64 (cf x).f1]) ∧ Below W.heap.size W w')
    (A0 : Option Addr) (c0 : Nat) (l0 : List S33) (r : List S33) (w : World) (hr0 : Kd.C k33 w A0 l0.length l0) (hc0 : l0.length ≤ c0) (h1 : 1 ≤ l0.length) (hlen : l0.length ≤ 1000000) (h : pen_hull.f (l0.map cf) = some r) :
    Calls Try.prog 61 #[.slice A0 l0.length c0, .func (.func g2) #[] #[]] w fun e w' => ∃ v0_ : Value, e = .returned v0_ ∧ Kd.R k33 33 w' w.heap.size (fun _ => True) v0_ r ∧ Below w.heap.size w w' := by
  have hu := Try.underlying33
  have HR0 := Aside0.mk hr0
  have HC0 := Aside0.mk hc0
  have HP := Aside0.mk hp
  have HL := Aside0.mk (show 1 ≤ l0.length ∧ l0.length ≤ 1000000 from ⟨h1, hlen⟩)
  have H := Aside0.mk h
  clear hr0 hc0 hp h1 hlen h
  go_enter Try.func61, Try.ntmps61
  go_wp2_with fail
  refine (api_Point_72.calls A0 c0 l0 l0 _ HR0.out HC0.out (by unfold api_Point_72.f; rw [if_pos (by have := HL.out; omega)])).mono ?_
  rintro e W1 ⟨v1, rfl, r1, b1⟩
  obtain ⟨_, inner, ho, hr⟩ := r1
  have hi := cells_flatP hr
  rcases ho.2 with ⟨rfl, hn⟩ | ⟨g, cap, cur, rfl, hbase, hh, hle, hcap, hsz, htk⟩
  · exact absurd hn (by have := HL.out; omega)
  have hk2 : k33.sz = 2 := rfl
  rw [hk2] at hsz htk
  have PA := Aside0.mk (pts_of_take hi htk)
  have HH := Aside0.mk hh
  have HG := Aside0.mk (show w.heap.size ≤ g ∧ l0.length ≤ cap ∧ cap ≤ 9223372036854775807 ∧ cur.size = cap * 2 from ⟨hbase, hle, hcap, hsz⟩)
  have B1 := Aside0.mk b1
  clear ho hr hi hh hbase hle hcap hsz htk hk2 b1
  go_wp2
  go_loopg [12] l0.length (fun gg s12 wr => ∃ (kk : Nat) (cur' : Array Value) , kk ≤ l0.length ∧ l0.length ≤ gg + kk ∧ s12 = .int .i64 kk ∧ Aside0 (PtsAt cur' ((l0.take kk).map cf ++ l0.drop kk)) ∧ Aside0 (wr.heap[g]? = some (.cells cur' 33 (0, 0))) ∧ Aside0 (cur'.size = cap * 2) ∧ Aside0 (Below w.heap.size w wr))
  case atStart => exact ⟨0, cur, by omega, by omega, rfl, ⟨by simpa using PA.out⟩, HH, ⟨HG.out.2.2.2⟩, B1⟩
  case round =>
    obtain ⟨kk, cur', hkk, hg, rfl, PD, HH', HS, HB⟩ := hrel
    have hdl : ((l0.take kk).map cf ++ l0.drop kk).length = l0.length := by simp; omega
    have HDL := Aside0.mk hdl
    clear hdl
    by_cases hlt : kk < l0.length
    · have hlti : (kk : Int) < (l0.length : Int) := by omega
      have hd : ((l0.take kk).map cf ++ l0.drop kk)[kk]? = some (rd_T33 l0 (kk : Int)) := by
        have hl : ((l0.take kk).map cf).length = kk := by rw [List.length_map, List.length_take]; omega
        rw [List.getElem?_append_right (by omega), hl, Nat.sub_self, List.getElem?_drop, Nat.add_zero]
        exact rd_some l0 kk hlt
      have hp := PD.out _ _ hd
      have hmn := map_next cf l0 kk hlt
      have hcall := fun W => HP.out W (rd_T33 l0 (kk : Int))
      generalize rd_T33 l0 (kk : Int) = x at *
      have q1 := (show wr.cell? ⟨g, kk * 2, none⟩ = some (.int .i64 x.f0) from (blk_cell HH'.out _).trans hp.1)
      have q2 := (show wr.cell? ⟨g, kk * 2 + 1, none⟩ = some (.int .i64 x.f1) from (blk_cell HH'.out _).trans hp.2)
      have HMN := Aside0.mk hmn
      have HCALL := Aside0.mk hcall
      have HX := Aside0.mk hp
      have hwj : wrap64 ((kk : Int) + 1) = ((kk + 1 : Nat) : Int) := by have := HL.out; unfold wrap64; omega
      have HW := Aside0.mk hwj
      clear hd hp hmn hcall hwj
      go_wp2_with fail
      refine (HCALL.out _).mono ?_
      rintro e W2 ⟨rfl, hb2⟩
      have V0 := blk_below (blk_alloc HH'.out (.cells #[.int .i64 x.f0, .int .i64 x.f1] 33)) hb2
      have B2 := Aside0.mk (below_step (below_alloc HB.out (.cells #[.int .i64 x.f0, .int .i64 x.f1] 33)) hb2)
      generalize cf x = y at *
      have e1 := (show W2.cell? ⟨g, kk * 2, none⟩ = some (.int .i64 x.f0) from (blk_cell V0 _).trans HX.out.1)
      have f1 := (show W2.frozen? ⟨g, kk * 2, none⟩ = false from blk_frozen V0 _)
      have V1 := blk_set V0 (kk * 2) (.int .i64 y.f0)
      have e2 := (show (W2.setCell ⟨g, kk * 2, none⟩ (.int .i64 y.f0)).cell? ⟨g, kk * 2 + 1, none⟩ = some (.int .i64 x.f1) from (blk_cell V1 _).trans (by rw [Array.getElem?_setIfInBounds_ne (by omega)]; exact HX.out.2))
      have f2 := (show (W2.setCell ⟨g, kk * 2, none⟩ (.int .i64 y.f0)).frozen? ⟨g, kk * 2 + 1, none⟩ = false from blk_frozen V1 _)
      have V2 := Aside0.mk (blk_set V1 (kk * 2 + 1) (.int .i64 y.f1))
      clear hb2 V0 V1 q1 q2 HCALL
      go_wp2
      go_roundg (l0.length - (kk + 1))
      case measure => omega
      case rel => exact ⟨kk + 1, _, by omega, by omega, congrArg (Value.int .i64) HW.out, ⟨by rw [← HMN.out]; exact pts_set PD.out kk (by rw [HDL.out]; exact hlt) (by rw [HDL.out, HS.out]; have := HG.out; omega) y⟩, ⟨V2.out⟩, ⟨by simp; exact HS.out⟩, ⟨below_set (below_set B2.out HG.out.1) HG.out.1⟩⟩
    · have hlti : ¬ (kk : Int) < (l0.length : Int) := by omega
      obtain rfl : kk = l0.length := by omega
      have hmap : (l0.take l0.length).map cf ++ l0.drop l0.length = l0.map cf := by simp
      rw [hmap] at PD HDL
      have hrow := row_of_pts (ok := fun _ => True) HH'.out PD.out HG.out.1 trivial (by rw [HDL.out]; exact HG.out.2.1) HG.out.2.2.1 HS.out
      have HROW := Aside0.mk hrow
      clear hmap hrow
      go_wp2_with fail
      have rd := Kd.R_reads' HROW.out
      rw [← HDL.out]
      refine (pen_hull.calls (some ⟨g, 0, none⟩) cap (l0.map cf) r _ rd.2.2 rd.2.1 H.out).mono ?_
      rintro e W3 ⟨v3, rfl, r3, b3⟩
      have R3 := Aside0.mk (Kd.R_lower r3 (below_size HB.out))
      have B3 := Aside0.mk (below_step HB.out b3)
      clear r3 b3 rd
      go_wp2
      go_ret
      exact ⟨_, rfl, R3.out, B3.out⟩
def pen_each.f (l0 : List S33) : Option (List S33) := none

/-! ### pen_Turn: function 30 (by hand) -/
def negP (x : S33) : S33 := ⟨wrap64 (-x.f0), wrap64 (-x.f1)⟩
set_option maxHeartbeats 4000000 in
set_option maxRecDepth 100000 in
theorem turn1_calls (x : S33) (W : World) : Calls Try.prog 62 #[.agg #[.int .i64 x.f0, .int .i64 x.f1]] W fun e w' => e = .returned (.agg #[.int .i64 (negP x).f0, .int .i64 (negP x).f1]) ∧ Below W.heap.size W w' := by
  have hu := Try.underlying33
  unfold negP
  have V0 := blk_new (W.alloc (.cells #[.int .i64 x.f0, .int .i64 x.f1] 33)) (.cells #[.int .i64 (wrap64 (-x.f0)), .int .i64 (wrap64 (-x.f1))] 33)
  simp only [World.size_alloc] at V0
  have V0 := Aside0.mk V0
  have HB := Aside0.mk (below_alloc (below_alloc (Below.refl W.heap.size W) (.cells #[.int .i64 x.f0, .int .i64 x.f1] 33)) (.cells #[.int .i64 (wrap64 (-x.f0)), .int .i64 (wrap64 (-x.f1))] 33))
  go_enter Try.func62, Try.ntmps62
  go_wp2
  refine bodyPost_ret (results_cell_row rfl _ _ (W.heap.size + 1) 33 #[.int .i64 (wrap64 (-x.f0)), .int .i64 (wrap64 (-x.f1))] (0, 0) _ rfl V0.out Try.underlying33 rfl (by kernel_rfl)) rfl ?_
  exact ⟨rfl, HB.out⟩
def pen_Turn.f (l0 : List S33) : Option (List S33 × Int) := (pen_Valid.f l0).bind fun v => if v = true then if 1 ≤ l0.length ∧ l0.length ≤ 1000000 then (pen_hull.f (l0.map negP)).bind fun h => some (h, 0) else none else some ([], 2)
set_option maxHeartbeats 4000000 in
set_option maxRecDepth 100000 in
theorem pen_Turn.calls (A0 : Option Addr) (c0 : Nat) (l0 : List S33) (r1 : List S33) (r2 : Int) (w : World) (hr0 : Kd.C k33 w A0 l0.length l0) (hc0 : l0.length ≤ c0) (h : pen_Turn.f l0 = some (r1, r2)) :
    Calls Try.prog 30 #[.slice A0 l0.length c0] w fun e w' => ∃ v0_ : Value, e = .returned (.tuple #[v0_, .int .i64 r2]) ∧ Kd.R k33 33 w' w.heap.size (fun _ => True) v0_ r1 ∧ Below w.heap.size w w' := by
  have hu := Try.underlying33
  unfold pen_Turn.f at h
  obtain ⟨v, hv, h⟩ := Option.bind_eq_some_iff.mp h
  have HR := Aside0.mk hr0
  have HC := Aside0.mk hc0
  have HV := Aside0.mk hv
  have H := Aside0.mk h
  clear hr0 hc0 hv h
  go_enter Try.func30, Try.ntmps30
  go_wp2_with fail
  refine (pen_Valid.calls A0 c0 l0 v _ HR.out HC.out HV.out).mono ?_
  rintro e W1 ⟨rfl, b1⟩
  have B1 := Aside0.mk b1
  clear b1
  cases v with
  | false =>
    obtain ⟨rfl, rfl⟩ : [] = r1 ∧ 2 = r2 := by have := H.out; simpa using this
    go_wp2
    go_ret2
    exact ⟨_, rfl, Kd.R_nil _ _ _ _ _, B1.out⟩
  | true =>
    have hh := H.out
    rw [if_pos rfl] at hh
    by_cases hl : 1 ≤ l0.length ∧ l0.length ≤ 1000000
    case neg => rw [if_neg hl] at hh; cases hh
    rw [if_pos hl] at hh
    obtain ⟨hu2, hhu, hh⟩ := Option.bind_eq_some_iff.mp hh
    obtain ⟨rfl, rfl⟩ : hu2 = r1 ∧ 0 = r2 := by simpa using hh
    have HL := Aside0.mk hl
    have HHU := Aside0.mk hhu
    clear hh hl hhu H
    go_wp2_with fail
    refine (each_calls 62 negP (enters_own Try.func62 (by kernel_rfl) rfl) (fun W x => turn1_calls x W) A0 c0 l0 hu2 _ (Kd.C_below HR.out B1.out) HC.out HL.out.1 HL.out.2 HHU.out).mono ?_
    rintro e W2 ⟨v2, rfl, r2', b2⟩
    have R2 := Aside0.mk (Kd.R_lower r2' (below_size B1.out))
    have B2 := Aside0.mk (below_step B1.out b2)
    clear r2' b2
    go_wp2
    go_ret2
    exact ⟨_, rfl, R2.out, B2.out⟩

end Go.Proofs.Ytnjlcmaelacjkaa.PD3

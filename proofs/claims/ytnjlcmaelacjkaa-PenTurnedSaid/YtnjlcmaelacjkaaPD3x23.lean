/- What functions of the program come to, each with the proof that the machine's call does just that; written by a program of this session out of the translation. -/
import Derived.Test.YtnjlcmaelacjkaaPD3x0
import Derived.Test.YtnjlcmaelacjkaaPD3x4
import Derived.Test.YtnjlcmaelacjkaaPD3x6
import Derived.Test.YtnjlcmaelacjkaaPD3x7
import Derived.Test.YtnjlcmaelacjkaaPD3x8
import Derived.Test.YtnjlcmaelacjkaaPD3x9
import Derived.Test.YtnjlcmaelacjkaaPD3x10
namespace Go.Proofs.Ytnjlcmaelacjkaa.PD3
open Go.RowKit Go.Proofs.YtnjlcmaelacjkaaW.PrintWords Go.Proofs.YtnjlcmaelacjkaaW.PrintLast Go.Proofs.YtnjlcmaelacjkaaW.PrintMore
attribute [local go_sem] max2_int min2_int max_two min_two max_three min_three max_four min_four   -- for this text's walks alone
set_option linter.unusedVariables false
set_option linter.unusedSimpArgs false

/-! ### fleuronlaw18_PenTurned: function 9 (by hand) -/
def fleuronlaw18_PenTurned.P (k : Nat) (l0 l1 : List S33) (x0 y0 x1 y1 x2 y2 : Int) : Prop := fleuronlaw18_few.f k 130 [l0, l1] = some false ∨ (fleuronlaw18_few.f k 130 [l0, l1] = some true ∧ (pen_Turn.f l0 = some ([], 2) ∨ ∃ (t : List S33) (is : Bool × Int), pen_Turn.f l0 = some (t, 0) ∧ pen_Turn.f t = some (l0, 0) ∧ pen_Covers.f l0 x0 y0 x0 y0 x1 y1 = some (is.1, is.2) ∧ pen_Covers.f t x1 y1 x1 y1 x0 y0 = some (is.1, is.2) ∧ fleuronref16_Same.f k l0 l0 = some true ∧ ∃ s i, pen_Sum.f k l0 l1 = some (s, i) ∧
  ((i ≠ 0 ∨ (i = 0 ∧ fleuronref16_In.f x2 y2 = some false)) ∨ (i = 0 ∧ fleuronref16_In.f x2 y2 = some true ∧ ∃ a0 a1 b0 b1 c0 c1, pen_Touch.f l0 x2 y2 = some (a0, a1, 0) ∧ pen_Touch.f l1 x2 y2 = some (b0, b1, 0) ∧ pen_Touch.f s x2 y2 = some (c0, c1, 0) ∧ wrap64 (wrap64 (x2 * wrap64 (a0 + b0)) + wrap64 (y2 * wrap64 (a1 + b1))) = wrap64 (wrap64 (x2 * c0) + wrap64 (y2 * c1))))))
set_option maxHeartbeats 8000000 in
set_option maxRecDepth 100000 in
theorem fleuronlaw18_PenTurned.calls (k : Nat) (A0 : Option Addr) (c0 : Nat) (l0 : List S33) (A1 : Option Addr) (c1 : Nat) (l1 : List S33) (x0 y0 x1 y1 x2 y2 : Int) (w : World) (hr0 : Kd.C k33 w A0 l0.length l0) (hc0 : l0.length ≤ c0) (hr1 : Kd.C k33 w A1 l1.length l1) (hc1 : l1.length ≤ c1) (h : fleuronlaw18_PenTurned.P k l0 l1 x0 y0 x1 y1 x2 y2) :
    Calls Try.prog 9 #[.slice A0 l0.length c0, .slice A1 l1.length c1, .agg #[.int .i64 x0, .int .i64 y0, .int .i64 x1, .int .i64 y1, .int .i64 x2, .int .i64 y2]] w fun e w' => e = .returned (.bool true) ∧ Below w.heap.size w w' := by
  have hu := Try.underlying33
  have Hl0 := Aside0.mk hr0
  have HC0 := Aside0.mk hc0
  clear hr0 hc0
  have Hl1 := Aside0.mk hr1
  have HC1 := Aside0.mk hc1
  clear hr1 hc1
  have HB := Aside0.mk (Below.refl w.heap.size w)
  have hu34 := Try.underlying34
  have Nl0 := Aside0.mk (Kd.C_below Hl0.out (below_alloc (Below.refl _ _) (.cells #[.int .i64 x0, .int .i64 y0, .int .i64 x1, .int .i64 y1, .int .i64 x2, .int .i64 y2] 34)))
  clear Hl0
  have Hl0 := Nl0
  clear Nl0
  have Nl1 := Aside0.mk (Kd.C_below Hl1.out (below_alloc (Below.refl _ _) (.cells #[.int .i64 x0, .int .i64 y0, .int .i64 x1, .int .i64 y1, .int .i64 x2, .int .i64 y2] 34)))
  clear Hl1
  have Hl1 := Nl1
  clear Nl1
  have NB_ := Aside0.mk (below_step HB.out (below_alloc (Below.refl _ _) (.cells #[.int .i64 x0, .int .i64 y0, .int .i64 x1, .int .i64 y1, .int .i64 x2, .int .i64 y2] 34)))
  clear HB
  have HB := NB_
  clear NB_
  have h_ := blk_new w (.cells #[.int .i64 x0, .int .i64 y0, .int .i64 x1, .int .i64 y1, .int .i64 x2, .int .i64 y2] 34)
  try simp only [World.size_alloc] at h_
  have Bs := Aside0.mk h_
  clear h_
  have h_ := twoP_row (W := (w.alloc (.cells #[.int .i64 x0, .int .i64 y0, .int .i64 x1, .int .i64 y1, .int .i64 x2, .int .i64 y2] 34))) Hl0.out HC0.out Hl1.out HC1.out 22
  try simp only [World.size_alloc] at h_
  have Hq0 := Aside0.mk h_
  clear h_
  have Nl0 := Aside0.mk (Kd.C_below Hl0.out (below_alloc (Below.refl _ _) (.cells #[.slice A0 l0.length c0, .slice A1 l1.length c1] 22)))
  clear Hl0
  have Hl0 := Nl0
  clear Nl0
  have Nl1 := Aside0.mk (Kd.C_below Hl1.out (below_alloc (Below.refl _ _) (.cells #[.slice A0 l0.length c0, .slice A1 l1.length c1] 22)))
  clear Hl1
  have Hl1 := Nl1
  clear Nl1
  have Ns := Aside0.mk (blk_below Bs.out (below_alloc (Below.refl _ _) (.cells #[.slice A0 l0.length c0, .slice A1 l1.length c1] 22)))
  clear Bs
  have Bs := Ns
  clear Ns
  have NB_ := Aside0.mk (below_step HB.out (below_alloc (Below.refl _ _) (.cells #[.slice A0 l0.length c0, .slice A1 l1.length c1] 22)))
  clear HB
  have HB := NB_
  clear NB_
  go_enter Try.func9, Try.ntmps9
  rcases h with h | ⟨hf, h | ⟨t, is, h1, h2, h3, h4, h5, s, i, h6, h | h⟩⟩
  · have HF := Aside0.mk h
    clear h
    go_wp2_with fail
    refine (fleuronlaw18_few.calls k _ _ 2 [l0, l1] false _ Hq0.out (by simp) HF.out).mono ?_
    rintro e W1 ⟨rfl, hb⟩
    replace hb := hb.below
    have Nl0 := Aside0.mk (Kd.C_below Hl0.out hb)
    clear Hl0
    have Hl0 := Nl0
    clear Nl0
    have Nl1 := Aside0.mk (Kd.C_below Hl1.out hb)
    clear Hl1
    have Hl1 := Nl1
    clear Nl1
    have Nq0 := Aside0.mk (Kd.C_below Hq0.out hb)
    clear Hq0
    have Hq0 := Nq0
    clear Nq0
    have Ns := Aside0.mk (blk_below Bs.out hb)
    clear Bs
    have Bs := Ns
    clear Ns
    have NB_ := Aside0.mk (below_step HB.out hb)
    clear HB
    have HB := NB_
    clear NB_
    clear hb
    go_wp2_with fail
    ((with_reducible refine (fleuronlaw18_awake.calls true _ rfl).mono ?_); rintro e W2 ⟨rfl, hb⟩)
    have Nl0 := Aside0.mk (Kd.C_below Hl0.out hb)
    clear Hl0
    have Hl0 := Nl0
    clear Nl0
    have Nl1 := Aside0.mk (Kd.C_below Hl1.out hb)
    clear Hl1
    have Hl1 := Nl1
    clear Nl1
    have Nq0 := Aside0.mk (Kd.C_below Hq0.out hb)
    clear Hq0
    have Hq0 := Nq0
    clear Nq0
    have Ns := Aside0.mk (blk_below Bs.out hb)
    clear Bs
    have Bs := Ns
    clear Ns
    have NB_ := Aside0.mk (below_step HB.out hb)
    clear HB
    have HB := NB_
    clear NB_
    clear hb
    go_wp2
    go_ret
    exact ⟨rfl, HB.out⟩
  · have HF := Aside0.mk hf
    have H1 := Aside0.mk h
    clear hf h
    go_wp2_with fail
    refine (fleuronlaw18_few.calls k _ _ 2 [l0, l1] true _ Hq0.out (by simp) HF.out).mono ?_
    rintro e W1 ⟨rfl, hb⟩
    replace hb := hb.below
    have Nl0 := Aside0.mk (Kd.C_below Hl0.out hb)
    clear Hl0
    have Hl0 := Nl0
    clear Nl0
    have Nl1 := Aside0.mk (Kd.C_below Hl1.out hb)
    clear Hl1
    have Hl1 := Nl1
    clear Nl1
    have Nq0 := Aside0.mk (Kd.C_below Hq0.out hb)
    clear Hq0
    have Hq0 := Nq0
    clear Nq0
    have Ns := Aside0.mk (blk_below Bs.out hb)
    clear Bs
    have Bs := Ns
    clear Ns
    have NB_ := Aside0.mk (below_step HB.out hb)
    clear HB
    have HB := NB_
    clear NB_
    clear hb
    clear Hq0
    go_wp2_with fail
    ((with_reducible refine (pen_Turn.calls A0 c0 l0 [] 2 _ Hl0.out HC0.out H1.out).mono ?_); rintro e W2 ⟨vt, rfl, hr, hb⟩)
    have Nl0 := Aside0.mk (Kd.C_below Hl0.out hb)
    clear Hl0
    have Hl0 := Nl0
    clear Nl0
    have Nl1 := Aside0.mk (Kd.C_below Hl1.out hb)
    clear Hl1
    have Hl1 := Nl1
    clear Nl1
    have Ns := Aside0.mk (blk_below Bs.out hb)
    clear Bs
    have Bs := Ns
    clear Ns
    have NB_ := Aside0.mk (below_step HB.out hb)
    clear HB
    have HB := NB_
    clear NB_
    obtain ⟨At, ct, rfl, hct, hC⟩ := Kd.R_reads hr
    have Ht := Aside0.mk hC
    clear hC hr hb
    go_wp2_with fail
    ((with_reducible refine (fleuronlaw18_awake.calls true _ rfl).mono ?_); rintro e W3 ⟨rfl, hb⟩)
    have Nl0 := Aside0.mk (Kd.C_below Hl0.out hb)
    clear Hl0
    have Hl0 := Nl0
    clear Nl0
    have Nl1 := Aside0.mk (Kd.C_below Hl1.out hb)
    clear Hl1
    have Hl1 := Nl1
    clear Nl1
    have Nt := Aside0.mk (Kd.C_below Ht.out hb)
    clear Ht
    have Ht := Nt
    clear Nt
    have Ns := Aside0.mk (blk_below Bs.out hb)
    clear Bs
    have Bs := Ns
    clear Ns
    have NB_ := Aside0.mk (below_step HB.out hb)
    clear HB
    have HB := NB_
    clear NB_
    clear hb
    go_wp2
    go_ret
    exact ⟨rfl, HB.out⟩
  · have HF := Aside0.mk hf
    have H1 := Aside0.mk h1
    have H2 := Aside0.mk h2
    have H3 := Aside0.mk h3
    have H4 := Aside0.mk h4
    have H5 := Aside0.mk h5
    have H6 := Aside0.mk h6
    clear hf h1 h2 h3 h4 h5 h6
    go_wp2_with fail
    refine (fleuronlaw18_few.calls k _ _ 2 [l0, l1] true _ Hq0.out (by simp) HF.out).mono ?_
    rintro e W1 ⟨rfl, hb⟩
    replace hb := hb.below
    have Nl0 := Aside0.mk (Kd.C_below Hl0.out hb)
    clear Hl0
    have Hl0 := Nl0
    clear Nl0
    have Nl1 := Aside0.mk (Kd.C_below Hl1.out hb)
    clear Hl1
    have Hl1 := Nl1
    clear Nl1
    have Nq0 := Aside0.mk (Kd.C_below Hq0.out hb)
    clear Hq0
    have Hq0 := Nq0
    clear Nq0
    have Ns := Aside0.mk (blk_below Bs.out hb)
    clear Bs
    have Bs := Ns
    clear Ns
    have NB_ := Aside0.mk (below_step HB.out hb)
    clear HB
    have HB := NB_
    clear NB_
    clear hb
    clear Hq0
    go_wp2_with fail
    ((with_reducible refine (pen_Turn.calls A0 c0 l0 t 0 _ Hl0.out HC0.out H1.out).mono ?_); rintro e W2 ⟨vt, rfl, hr, hb⟩)
    have Nl0 := Aside0.mk (Kd.C_below Hl0.out hb)
    clear Hl0
    have Hl0 := Nl0
    clear Nl0
    have Nl1 := Aside0.mk (Kd.C_below Hl1.out hb)
    clear Hl1
    have Hl1 := Nl1
    clear Nl1
    have Ns := Aside0.mk (blk_below Bs.out hb)
    clear Bs
    have Bs := Ns
    clear Ns
    have NB_ := Aside0.mk (below_step HB.out hb)
    clear HB
    have HB := NB_
    clear NB_
    obtain ⟨At, ct, rfl, hct, hC⟩ := Kd.R_reads hr
    have Ht := Aside0.mk hC
    clear hC hr hb
    go_wp2_with fail
    ((with_reducible refine (pen_Turn.calls _ _ t l0 0 _ Ht.out hct H2.out).mono ?_); rintro e W3 ⟨vu, rfl, hr, hb⟩)
    have Nl0 := Aside0.mk (Kd.C_below Hl0.out hb)
    clear Hl0
    have Hl0 := Nl0
    clear Nl0
    have Nl1 := Aside0.mk (Kd.C_below Hl1.out hb)
    clear Hl1
    have Hl1 := Nl1
    clear Nl1
    have Nt := Aside0.mk (Kd.C_below Ht.out hb)
    clear Ht
    have Ht := Nt
    clear Nt
    have Ns := Aside0.mk (blk_below Bs.out hb)
    clear Bs
    have Bs := Ns
    clear Ns
    have NB_ := Aside0.mk (below_step HB.out hb)
    clear HB
    have HB := NB_
    clear NB_
    obtain ⟨Au, cu, rfl, hcu, hC⟩ := Kd.R_reads hr
    have Hu := Aside0.mk hC
    clear hC hr hb
    have ps0 := (blk_cell Bs.out 0).trans rfl
    have ps1 := (blk_cell Bs.out 1).trans rfl
    have ps2 := (blk_cell Bs.out 2).trans rfl
    have ps3 := (blk_cell Bs.out 3).trans rfl
    have ps4 := (blk_cell Bs.out 4).trans rfl
    have ps5 := (blk_cell Bs.out 5).trans rfl
    go_wp2_with fail
    ((with_reducible refine (pen_Covers.calls A0 c0 l0 x0 y0 x0 y0 x1 y1 is.1 is.2 _ Hl0.out HC0.out H3.out).mono ?_); rintro e W4 ⟨rfl, hb⟩)
    clear ps0
    clear ps1
    clear ps2
    clear ps3
    clear ps4
    clear ps5
    have Nl0 := Aside0.mk (Kd.C_below Hl0.out hb)
    clear Hl0
    have Hl0 := Nl0
    clear Nl0
    have Nl1 := Aside0.mk (Kd.C_below Hl1.out hb)
    clear Hl1
    have Hl1 := Nl1
    clear Nl1
    have Nt := Aside0.mk (Kd.C_below Ht.out hb)
    clear Ht
    have Ht := Nt
    clear Nt
    have Nu := Aside0.mk (Kd.C_below Hu.out hb)
    clear Hu
    have Hu := Nu
    clear Nu
    have Ns := Aside0.mk (blk_below Bs.out hb)
    clear Bs
    have Bs := Ns
    clear Ns
    have NB_ := Aside0.mk (below_step HB.out hb)
    clear HB
    have HB := NB_
    clear NB_
    clear hb
    have ps0 := (blk_cell Bs.out 0).trans rfl
    have ps1 := (blk_cell Bs.out 1).trans rfl
    have ps2 := (blk_cell Bs.out 2).trans rfl
    have ps3 := (blk_cell Bs.out 3).trans rfl
    have ps4 := (blk_cell Bs.out 4).trans rfl
    have ps5 := (blk_cell Bs.out 5).trans rfl
    go_wp2_with fail
    ((with_reducible refine (pen_Covers.calls _ _ t x1 y1 x1 y1 x0 y0 is.1 is.2 _ Ht.out hct H4.out).mono ?_); rintro e W5 ⟨rfl, hb⟩)
    clear ps0
    clear ps1
    clear ps2
    clear ps3
    clear ps4
    clear ps5
    have Nl0 := Aside0.mk (Kd.C_below Hl0.out hb)
    clear Hl0
    have Hl0 := Nl0
    clear Nl0
    have Nl1 := Aside0.mk (Kd.C_below Hl1.out hb)
    clear Hl1
    have Hl1 := Nl1
    clear Nl1
    have Nt := Aside0.mk (Kd.C_below Ht.out hb)
    clear Ht
    have Ht := Nt
    clear Nt
    have Nu := Aside0.mk (Kd.C_below Hu.out hb)
    clear Hu
    have Hu := Nu
    clear Nu
    have Ns := Aside0.mk (blk_below Bs.out hb)
    clear Bs
    have Bs := Ns
    clear Ns
    have NB_ := Aside0.mk (below_step HB.out hb)
    clear HB
    have HB := NB_
    clear NB_
    clear hb
    go_wp2_with fail
    ((with_reducible refine (fleuronref16_Same.calls k _ _ l0 _ _ l0 true _ Hu.out hcu Hl0.out HC0.out H5.out).mono ?_); rintro e W6 ⟨rfl, hb⟩)
    replace hb := hb.below
    have Nl0 := Aside0.mk (Kd.C_below Hl0.out hb)
    clear Hl0
    have Hl0 := Nl0
    clear Nl0
    have Nl1 := Aside0.mk (Kd.C_below Hl1.out hb)
    clear Hl1
    have Hl1 := Nl1
    clear Nl1
    have Nt := Aside0.mk (Kd.C_below Ht.out hb)
    clear Ht
    have Ht := Nt
    clear Nt
    have Nu := Aside0.mk (Kd.C_below Hu.out hb)
    clear Hu
    have Hu := Nu
    clear Nu
    have Ns := Aside0.mk (blk_below Bs.out hb)
    clear Bs
    have Bs := Ns
    clear Ns
    have NB_ := Aside0.mk (below_step HB.out hb)
    clear HB
    have HB := NB_
    clear NB_
    clear hb
    clear Hu
    clear Ht
    have ps4 := (blk_cell Bs.out 4).trans rfl
    have ps5 := (blk_cell Bs.out 5).trans rfl
    go_upto_region 12 with (fail)
    clear ps4
    clear ps5
    have Nl0 := Aside0.mk (Kd.C_below Hl0.out (below_alloc (Below.refl _ _) (.cells #[.int .i64 x2, .int .i64 y2] 33)))
    clear Hl0
    have Hl0 := Nl0
    clear Nl0
    have Nl1 := Aside0.mk (Kd.C_below Hl1.out (below_alloc (Below.refl _ _) (.cells #[.int .i64 x2, .int .i64 y2] 33)))
    clear Hl1
    have Hl1 := Nl1
    clear Nl1
    have Ns := Aside0.mk (blk_below Bs.out (below_alloc (Below.refl _ _) (.cells #[.int .i64 x2, .int .i64 y2] 33)))
    clear Bs
    have Bs := Ns
    clear Ns
    have NB_ := Aside0.mk (below_step HB.out (below_alloc (Below.refl _ _) (.cells #[.int .i64 x2, .int .i64 y2] 33)))
    clear HB
    have HB := NB_
    clear NB_
    have h_ := blk_new W6 (.cells #[.int .i64 x2, .int .i64 y2] 33)
    have Bd := Aside0.mk h_
    clear h_
    generalize W6.alloc (.cells #[.int .i64 x2, .int .i64 y2] 33) = V at *
    clear Bs
    go_wp2_with fail
    ((with_reducible refine (pen_Sum.calls k A0 c0 l0 A1 c1 l1 s i _ Hl0.out HC0.out Hl1.out HC1.out H6.out).mono ?_); rintro e W7 ⟨vz, rfl, hr, hb⟩)
    have Nl0 := Aside0.mk (Kd.C_below Hl0.out hb)
    clear Hl0
    have Hl0 := Nl0
    clear Nl0
    have Nl1 := Aside0.mk (Kd.C_below Hl1.out hb)
    clear Hl1
    have Hl1 := Nl1
    clear Nl1
    have Nd := Aside0.mk (blk_below Bd.out hb)
    clear Bd
    have Bd := Nd
    clear Nd
    have NB_ := Aside0.mk (below_step HB.out hb)
    clear HB
    have HB := NB_
    clear NB_
    obtain ⟨Az, cz, rfl, hcz, hC⟩ := Kd.R_reads hr
    have Hz := Aside0.mk hC
    clear hC hr hb
    rcases h with h | ⟨rfl, h⟩
    · have hi : (i != 0) = true := bne_iff_ne.mpr h
      have hi2 : (i == 0) = false := beq_eq_false_iff_ne.mpr h
      go_wp2_with fail
      ((with_reducible refine (fleuronlaw18_awake.calls true _ rfl).mono ?_); rintro e W8 ⟨rfl, hb⟩)
      have Nl0 := Aside0.mk (Kd.C_below Hl0.out hb)
      clear Hl0
      have Hl0 := Nl0
      clear Nl0
      have Nl1 := Aside0.mk (Kd.C_below Hl1.out hb)
      clear Hl1
      have Hl1 := Nl1
      clear Nl1
      have Nz := Aside0.mk (Kd.C_below Hz.out hb)
      clear Hz
      have Hz := Nz
      clear Nz
      have Nd := Aside0.mk (blk_below Bd.out hb)
      clear Bd
      have Bd := Nd
      clear Nd
      have NB_ := Aside0.mk (below_step HB.out hb)
      clear HB
      have HB := NB_
      clear NB_
      clear hb
      go_wp2
      go_ret
      exact ⟨rfl, HB.out⟩
    · have H7 := Aside0.mk h
      clear h
      have pd0 := (blk_cell Bd.out 0).trans rfl
      have pd1 := (blk_cell Bd.out 1).trans rfl
      go_wp2_with fail
      ((with_reducible refine (fleuronref16_In.calls x2 y2 false _ H7.out).mono ?_); rintro e W8 ⟨rfl, hb⟩)
      clear pd0
      clear pd1
      have Nl0 := Aside0.mk (Kd.C_below Hl0.out hb)
      clear Hl0
      have Hl0 := Nl0
      clear Nl0
      have Nl1 := Aside0.mk (Kd.C_below Hl1.out hb)
      clear Hl1
      have Hl1 := Nl1
      clear Nl1
      have Nz := Aside0.mk (Kd.C_below Hz.out hb)
      clear Hz
      have Hz := Nz
      clear Nz
      have Nd := Aside0.mk (blk_below Bd.out hb)
      clear Bd
      have Bd := Nd
      clear Nd
      have NB_ := Aside0.mk (below_step HB.out hb)
      clear HB
      have HB := NB_
      clear NB_
      clear hb
      go_wp2_with fail
      ((with_reducible refine (fleuronlaw18_awake.calls true _ rfl).mono ?_); rintro e W9 ⟨rfl, hb⟩)
      have Nl0 := Aside0.mk (Kd.C_below Hl0.out hb)
      clear Hl0
      have Hl0 := Nl0
      clear Nl0
      have Nl1 := Aside0.mk (Kd.C_below Hl1.out hb)
      clear Hl1
      have Hl1 := Nl1
      clear Nl1
      have Nz := Aside0.mk (Kd.C_below Hz.out hb)
      clear Hz
      have Hz := Nz
      clear Nz
      have Nd := Aside0.mk (blk_below Bd.out hb)
      clear Bd
      have Bd := Nd
      clear Nd
      have NB_ := Aside0.mk (below_step HB.out hb)
      clear HB
      have HB := NB_
      clear NB_
      clear hb
      go_wp2
      go_ret
      exact ⟨rfl, HB.out⟩
  · obtain ⟨rfl, h7, a0, a1, b0, b1, c0_, c1_, h8, h9, h10, heq⟩ := h
    have HF := Aside0.mk hf
    have H1 := Aside0.mk h1
    have H2 := Aside0.mk h2
    have H3 := Aside0.mk h3
    have H4 := Aside0.mk h4
    have H5 := Aside0.mk h5
    have H6 := Aside0.mk h6
    have H7 := Aside0.mk h7
    have H8 := Aside0.mk h8
    have H9 := Aside0.mk h9
    have H10 := Aside0.mk h10
    have HE := Aside0.mk heq
    clear hf h1 h2 h3 h4 h5 h6 h7 h8 h9 h10 heq
    go_wp2_with fail
    refine (fleuronlaw18_few.calls k _ _ 2 [l0, l1] true _ Hq0.out (by simp) HF.out).mono ?_
    rintro e W1 ⟨rfl, hb⟩
    replace hb := hb.below
    have Nl0 := Aside0.mk (Kd.C_below Hl0.out hb)
    clear Hl0
    have Hl0 := Nl0
    clear Nl0
    have Nl1 := Aside0.mk (Kd.C_below Hl1.out hb)
    clear Hl1
    have Hl1 := Nl1
    clear Nl1
    have Nq0 := Aside0.mk (Kd.C_below Hq0.out hb)
    clear Hq0
    have Hq0 := Nq0
    clear Nq0
    have Ns := Aside0.mk (blk_below Bs.out hb)
    clear Bs
    have Bs := Ns
    clear Ns
    have NB_ := Aside0.mk (below_step HB.out hb)
    clear HB
    have HB := NB_
    clear NB_
    clear hb
    clear Hq0
    go_wp2_with fail
    ((with_reducible refine (pen_Turn.calls A0 c0 l0 t 0 _ Hl0.out HC0.out H1.out).mono ?_); rintro e W2 ⟨vt, rfl, hr, hb⟩)
    have Nl0 := Aside0.mk (Kd.C_below Hl0.out hb)
    clear Hl0
    have Hl0 := Nl0
    clear Nl0
    have Nl1 := Aside0.mk (Kd.C_below Hl1.out hb)
    clear Hl1
    have Hl1 := Nl1
    clear Nl1
    have Ns := Aside0.mk (blk_below Bs.out hb)
    clear Bs
    have Bs := Ns
    clear Ns
    have NB_ := Aside0.mk (below_step HB.out hb)
    clear HB
    have HB := NB_
    clear NB_
    obtain ⟨At, ct, rfl, hct, hC⟩ := Kd.R_reads hr
    have Ht := Aside0.mk hC
    clear hC hr hb
    go_wp2_with fail
    ((with_reducible refine (pen_Turn.calls _ _ t l0 0 _ Ht.out hct H2.out).mono ?_); rintro e W3 ⟨vu, rfl, hr, hb⟩)
    have Nl0 := Aside0.mk (Kd.C_below Hl0.out hb)
    clear Hl0
    have Hl0 := Nl0
    clear Nl0
    have Nl1 := Aside0.mk (Kd.C_below Hl1.out hb)
    clear Hl1
    have Hl1 := Nl1
    clear Nl1
    have Nt := Aside0.mk (Kd.C_below Ht.out hb)
    clear Ht
    have Ht := Nt
    clear Nt
    have Ns := Aside0.mk (blk_below Bs.out hb)
    clear Bs
    have Bs := Ns
    clear Ns
    have NB_ := Aside0.mk (below_step HB.out hb)
    clear HB
    have HB := NB_
    clear NB_
    obtain ⟨Au, cu, rfl, hcu, hC⟩ := Kd.R_reads hr
    have Hu := Aside0.mk hC
    clear hC hr hb
    have ps0 := (blk_cell Bs.out 0).trans rfl
    have ps1 := (blk_cell Bs.out 1).trans rfl
    have ps2 := (blk_cell Bs.out 2).trans rfl
    have ps3 := (blk_cell Bs.out 3).trans rfl
    have ps4 := (blk_cell Bs.out 4).trans rfl
    have ps5 := (blk_cell Bs.out 5).trans rfl
    go_wp2_with fail
    ((with_reducible refine (pen_Covers.calls A0 c0 l0 x0 y0 x0 y0 x1 y1 is.1 is.2 _ Hl0.out HC0.out H3.out).mono ?_); rintro e W4 ⟨rfl, hb⟩)
    clear ps0
    clear ps1
    clear ps2
    clear ps3
    clear ps4
    clear ps5
    have Nl0 := Aside0.mk (Kd.C_below Hl0.out hb)
    clear Hl0
    have Hl0 := Nl0
    clear Nl0
    have Nl1 := Aside0.mk (Kd.C_below Hl1.out hb)
    clear Hl1
    have Hl1 := Nl1
    clear Nl1
    have Nt := Aside0.mk (Kd.C_below Ht.out hb)
    clear Ht
    have Ht := Nt
    clear Nt
    have Nu := Aside0.mk (Kd.C_below Hu.out hb)
    clear Hu
    have Hu := Nu
    clear Nu
    have Ns := Aside0.mk (blk_below Bs.out hb)
    clear Bs
    have Bs := Ns
    clear Ns
    have NB_ := Aside0.mk (below_step HB.out hb)
    clear HB
    have HB := NB_
    clear NB_
    clear hb
    have ps0 := (blk_cell Bs.out 0).trans rfl
    have ps1 := (blk_cell Bs.out 1).trans rfl
    have ps2 := (blk_cell Bs.out 2).trans rfl
    have ps3 := (blk_cell Bs.out 3).trans rfl
    have ps4 := (blk_cell Bs.out 4).trans rfl
    have ps5 := (blk_cell Bs.out 5).trans rfl
    go_wp2_with fail
    ((with_reducible refine (pen_Covers.calls _ _ t x1 y1 x1 y1 x0 y0 is.1 is.2 _ Ht.out hct H4.out).mono ?_); rintro e W5 ⟨rfl, hb⟩)
    clear ps0
    clear ps1
    clear ps2
    clear ps3
    clear ps4
    clear ps5
    have Nl0 := Aside0.mk (Kd.C_below Hl0.out hb)
    clear Hl0
    have Hl0 := Nl0
    clear Nl0
    have Nl1 := Aside0.mk (Kd.C_below Hl1.out hb)
    clear Hl1
    have Hl1 := Nl1
    clear Nl1
    have Nt := Aside0.mk (Kd.C_below Ht.out hb)
    clear Ht
    have Ht := Nt
    clear Nt
    have Nu := Aside0.mk (Kd.C_below Hu.out hb)
    clear Hu
    have Hu := Nu
    clear Nu
    have Ns := Aside0.mk (blk_below Bs.out hb)
    clear Bs
    have Bs := Ns
    clear Ns
    have NB_ := Aside0.mk (below_step HB.out hb)
    clear HB
    have HB := NB_
    clear NB_
    clear hb
    go_wp2_with fail
    ((with_reducible refine (fleuronref16_Same.calls k _ _ l0 _ _ l0 true _ Hu.out hcu Hl0.out HC0.out H5.out).mono ?_); rintro e W6 ⟨rfl, hb⟩)
    replace hb := hb.below
    have Nl0 := Aside0.mk (Kd.C_below Hl0.out hb)
    clear Hl0
    have Hl0 := Nl0
    clear Nl0
    have Nl1 := Aside0.mk (Kd.C_below Hl1.out hb)
    clear Hl1
    have Hl1 := Nl1
    clear Nl1
    have Nt := Aside0.mk (Kd.C_below Ht.out hb)
    clear Ht
    have Ht := Nt
    clear Nt
    have Nu := Aside0.mk (Kd.C_below Hu.out hb)
    clear Hu
    have Hu := Nu
    clear Nu
    have Ns := Aside0.mk (blk_below Bs.out hb)
    clear Bs
    have Bs := Ns
    clear Ns
    have NB_ := Aside0.mk (below_step HB.out hb)
    clear HB
    have HB := NB_
    clear NB_
    clear hb
    clear Hu
    clear Ht
    have ps4 := (blk_cell Bs.out 4).trans rfl
    have ps5 := (blk_cell Bs.out 5).trans rfl
    go_upto_region 12 with (fail)
    clear ps4
    clear ps5
    have Nl0 := Aside0.mk (Kd.C_below Hl0.out (below_alloc (Below.refl _ _) (.cells #[.int .i64 x2, .int .i64 y2] 33)))
    clear Hl0
    have Hl0 := Nl0
    clear Nl0
    have Nl1 := Aside0.mk (Kd.C_below Hl1.out (below_alloc (Below.refl _ _) (.cells #[.int .i64 x2, .int .i64 y2] 33)))
    clear Hl1
    have Hl1 := Nl1
    clear Nl1
    have Ns := Aside0.mk (blk_below Bs.out (below_alloc (Below.refl _ _) (.cells #[.int .i64 x2, .int .i64 y2] 33)))
    clear Bs
    have Bs := Ns
    clear Ns
    have NB_ := Aside0.mk (below_step HB.out (below_alloc (Below.refl _ _) (.cells #[.int .i64 x2, .int .i64 y2] 33)))
    clear HB
    have HB := NB_
    clear NB_
    have h_ := blk_new W6 (.cells #[.int .i64 x2, .int .i64 y2] 33)
    have Bd := Aside0.mk h_
    clear h_
    generalize W6.alloc (.cells #[.int .i64 x2, .int .i64 y2] 33) = V at *
    clear Bs
    go_wp2_with fail
    ((with_reducible refine (pen_Sum.calls k A0 c0 l0 A1 c1 l1 s 0 _ Hl0.out HC0.out Hl1.out HC1.out H6.out).mono ?_); rintro e W7 ⟨vz, rfl, hr, hb⟩)
    have Nl0 := Aside0.mk (Kd.C_below Hl0.out hb)
    clear Hl0
    have Hl0 := Nl0
    clear Nl0
    have Nl1 := Aside0.mk (Kd.C_below Hl1.out hb)
    clear Hl1
    have Hl1 := Nl1
    clear Nl1
    have Nd := Aside0.mk (blk_below Bd.out hb)
    clear Bd
    have Bd := Nd
    clear Nd
    have NB_ := Aside0.mk (below_step HB.out hb)
    clear HB
    have HB := NB_
    clear NB_
    obtain ⟨Az, cz, rfl, hcz, hC⟩ := Kd.R_reads hr
    have Hz := Aside0.mk hC
    clear hC hr hb
    have pd0 := (blk_cell Bd.out 0).trans rfl
    have pd1 := (blk_cell Bd.out 1).trans rfl
    go_wp2_with fail
    ((with_reducible refine (fleuronref16_In.calls x2 y2 true _ H7.out).mono ?_); rintro e W8 ⟨rfl, hb⟩)
    clear pd0
    clear pd1
    have Nl0 := Aside0.mk (Kd.C_below Hl0.out hb)
    clear Hl0
    have Hl0 := Nl0
    clear Nl0
    have Nl1 := Aside0.mk (Kd.C_below Hl1.out hb)
    clear Hl1
    have Hl1 := Nl1
    clear Nl1
    have Nz := Aside0.mk (Kd.C_below Hz.out hb)
    clear Hz
    have Hz := Nz
    clear Nz
    have Nd := Aside0.mk (blk_below Bd.out hb)
    clear Bd
    have Bd := Nd
    clear Nd
    have NB_ := Aside0.mk (below_step HB.out hb)
    clear HB
    have HB := NB_
    clear NB_
    clear hb
    have pd0 := (blk_cell Bd.out 0).trans rfl
    have pd1 := (blk_cell Bd.out 1).trans rfl
    go_wp2_with fail
    ((with_reducible refine (pen_Touch.calls A0 c0 l0 x2 y2 a0 a1 0 _ Hl0.out HC0.out H8.out).mono ?_); rintro e W9 ⟨rfl, hb⟩)
    clear pd0
    clear pd1
    have Nl0 := Aside0.mk (Kd.C_below Hl0.out hb)
    clear Hl0
    have Hl0 := Nl0
    clear Nl0
    have Nl1 := Aside0.mk (Kd.C_below Hl1.out hb)
    clear Hl1
    have Hl1 := Nl1
    clear Nl1
    have Nz := Aside0.mk (Kd.C_below Hz.out hb)
    clear Hz
    have Hz := Nz
    clear Nz
    have Nd := Aside0.mk (blk_below Bd.out hb)
    clear Bd
    have Bd := Nd
    clear Nd
    have NB_ := Aside0.mk (below_step HB.out hb)
    clear HB
    have HB := NB_
    clear NB_
    clear hb
    have Nl0 := Aside0.mk (Kd.C_below Hl0.out (below_alloc (Below.refl _ _) (.cells #[.int .i64 a0, .int .i64 a1] 33)))
    clear Hl0
    have Hl0 := Nl0
    clear Nl0
    have Nl1 := Aside0.mk (Kd.C_below Hl1.out (below_alloc (Below.refl _ _) (.cells #[.int .i64 a0, .int .i64 a1] 33)))
    clear Hl1
    have Hl1 := Nl1
    clear Nl1
    have Nz := Aside0.mk (Kd.C_below Hz.out (below_alloc (Below.refl _ _) (.cells #[.int .i64 a0, .int .i64 a1] 33)))
    clear Hz
    have Hz := Nz
    clear Nz
    have Nd := Aside0.mk (blk_below Bd.out (below_alloc (Below.refl _ _) (.cells #[.int .i64 a0, .int .i64 a1] 33)))
    clear Bd
    have Bd := Nd
    clear Nd
    have NB_ := Aside0.mk (below_step HB.out (below_alloc (Below.refl _ _) (.cells #[.int .i64 a0, .int .i64 a1] 33)))
    clear HB
    have HB := NB_
    clear NB_
    have h_ := blk_new W9 (.cells #[.int .i64 a0, .int .i64 a1] 33)
    have Ba := Aside0.mk h_
    clear h_
    have pd0 := (blk_cell Bd.out 0).trans rfl
    have pd1 := (blk_cell Bd.out 1).trans rfl
    go_wp2_with fail
    ((with_reducible refine (pen_Touch.calls A1 c1 l1 x2 y2 b0 b1 0 _ Hl1.out HC1.out H9.out).mono ?_); rintro e W10 ⟨rfl, hb⟩)
    clear pd0
    clear pd1
    have Nl0 := Aside0.mk (Kd.C_below Hl0.out hb)
    clear Hl0
    have Hl0 := Nl0
    clear Nl0
    have Nl1 := Aside0.mk (Kd.C_below Hl1.out hb)
    clear Hl1
    have Hl1 := Nl1
    clear Nl1
    have Nz := Aside0.mk (Kd.C_below Hz.out hb)
    clear Hz
    have Hz := Nz
    clear Nz
    have Nd := Aside0.mk (blk_below Bd.out hb)
    clear Bd
    have Bd := Nd
    clear Nd
    have Na := Aside0.mk (blk_below Ba.out hb)
    clear Ba
    have Ba := Na
    clear Na
    have NB_ := Aside0.mk (below_step HB.out hb)
    clear HB
    have HB := NB_
    clear NB_
    clear hb
    have Nl0 := Aside0.mk (Kd.C_below Hl0.out (below_alloc (Below.refl _ _) (.cells #[.int .i64 b0, .int .i64 b1] 33)))
    clear Hl0
    have Hl0 := Nl0
    clear Nl0
    have Nl1 := Aside0.mk (Kd.C_below Hl1.out (below_alloc (Below.refl _ _) (.cells #[.int .i64 b0, .int .i64 b1] 33)))
    clear Hl1
    have Hl1 := Nl1
    clear Nl1
    have Nz := Aside0.mk (Kd.C_below Hz.out (below_alloc (Below.refl _ _) (.cells #[.int .i64 b0, .int .i64 b1] 33)))
    clear Hz
    have Hz := Nz
    clear Nz
    have Nd := Aside0.mk (blk_below Bd.out (below_alloc (Below.refl _ _) (.cells #[.int .i64 b0, .int .i64 b1] 33)))
    clear Bd
    have Bd := Nd
    clear Nd
    have Na := Aside0.mk (blk_below Ba.out (below_alloc (Below.refl _ _) (.cells #[.int .i64 b0, .int .i64 b1] 33)))
    clear Ba
    have Ba := Na
    clear Na
    have NB_ := Aside0.mk (below_step HB.out (below_alloc (Below.refl _ _) (.cells #[.int .i64 b0, .int .i64 b1] 33)))
    clear HB
    have HB := NB_
    clear NB_
    have h_ := blk_new W10 (.cells #[.int .i64 b0, .int .i64 b1] 33)
    have Bb := Aside0.mk h_
    clear h_
    have pd0 := (blk_cell Bd.out 0).trans rfl
    have pd1 := (blk_cell Bd.out 1).trans rfl
    go_wp2_with fail
    ((with_reducible refine (pen_Touch.calls _ _ s x2 y2 c0_ c1_ 0 _ Hz.out hcz H10.out).mono ?_); rintro e W11 ⟨rfl, hb⟩)
    clear pd0
    clear pd1
    have Nl0 := Aside0.mk (Kd.C_below Hl0.out hb)
    clear Hl0
    have Hl0 := Nl0
    clear Nl0
    have Nl1 := Aside0.mk (Kd.C_below Hl1.out hb)
    clear Hl1
    have Hl1 := Nl1
    clear Nl1
    have Nz := Aside0.mk (Kd.C_below Hz.out hb)
    clear Hz
    have Hz := Nz
    clear Nz
    have Nd := Aside0.mk (blk_below Bd.out hb)
    clear Bd
    have Bd := Nd
    clear Nd
    have Na := Aside0.mk (blk_below Ba.out hb)
    clear Ba
    have Ba := Na
    clear Na
    have Nb := Aside0.mk (blk_below Bb.out hb)
    clear Bb
    have Bb := Nb
    clear Nb
    have NB_ := Aside0.mk (below_step HB.out hb)
    clear HB
    have HB := NB_
    clear NB_
    clear hb
    have Nl0 := Aside0.mk (Kd.C_below Hl0.out (below_alloc (Below.refl _ _) (.cells #[.int .i64 c0_, .int .i64 c1_] 33)))
    clear Hl0
    have Hl0 := Nl0
    clear Nl0
    have Nl1 := Aside0.mk (Kd.C_below Hl1.out (below_alloc (Below.refl _ _) (.cells #[.int .i64 c0_, .int .i64 c1_] 33)))
    clear Hl1
    have Hl1 := Nl1
    clear Nl1
    have Nz := Aside0.mk (Kd.C_below Hz.out (below_alloc (Below.refl _ _) (.cells #[.int .i64 c0_, .int .i64 c1_] 33)))
    clear Hz
    have Hz := Nz
    clear Nz
    have Nd := Aside0.mk (blk_below Bd.out (below_alloc (Below.refl _ _) (.cells #[.int .i64 c0_, .int .i64 c1_] 33)))
    clear Bd
    have Bd := Nd
    clear Nd
    have Na := Aside0.mk (blk_below Ba.out (below_alloc (Below.refl _ _) (.cells #[.int .i64 c0_, .int .i64 c1_] 33)))
    clear Ba
    have Ba := Na
    clear Na
    have Nb := Aside0.mk (blk_below Bb.out (below_alloc (Below.refl _ _) (.cells #[.int .i64 c0_, .int .i64 c1_] 33)))
    clear Bb
    have Bb := Nb
    clear Nb
    have NB_ := Aside0.mk (below_step HB.out (below_alloc (Below.refl _ _) (.cells #[.int .i64 c0_, .int .i64 c1_] 33)))
    clear HB
    have HB := NB_
    clear NB_
    have h_ := blk_new W11 (.cells #[.int .i64 c0_, .int .i64 c1_] 33)
    have Bc := Aside0.mk h_
    clear h_
    have pd0 := (blk_cell Bd.out 0).trans rfl
    have pd1 := (blk_cell Bd.out 1).trans rfl
    have pa0 := (blk_cell Ba.out 0).trans rfl
    have pa1 := (blk_cell Ba.out 1).trans rfl
    have pb0 := (blk_cell Bb.out 0).trans rfl
    have pb1 := (blk_cell Bb.out 1).trans rfl
    have pc0 := (blk_cell Bc.out 0).trans rfl
    have pc1 := (blk_cell Bc.out 1).trans rfl
    have heq := HE.out
    have heqb : (wrap64 (wrap64 (x2 * wrap64 (a0 + b0)) + wrap64 (y2 * wrap64 (a1 + b1))) == wrap64 (wrap64 (x2 * c0_) + wrap64 (y2 * c1_))) = true := beq_iff_eq.mpr heq
    go_wp2_with fail
    ((with_reducible refine (fleuronlaw18_awake.calls true _ rfl).mono ?_); rintro e W12 ⟨rfl, hb⟩)
    clear pd0
    clear pd1
    clear pa0
    clear pa1
    clear pb0
    clear pb1
    clear pc0
    clear pc1
    have Nl0 := Aside0.mk (Kd.C_below Hl0.out hb)
    clear Hl0
    have Hl0 := Nl0
    clear Nl0
    have Nl1 := Aside0.mk (Kd.C_below Hl1.out hb)
    clear Hl1
    have Hl1 := Nl1
    clear Nl1
    have Nz := Aside0.mk (Kd.C_below Hz.out hb)
    clear Hz
    have Hz := Nz
    clear Nz
    have Nd := Aside0.mk (blk_below Bd.out hb)
    clear Bd
    have Bd := Nd
    clear Nd
    have Na := Aside0.mk (blk_below Ba.out hb)
    clear Ba
    have Ba := Na
    clear Na
    have Nb := Aside0.mk (blk_below Bb.out hb)
    clear Bb
    have Bb := Nb
    clear Nb
    have Nc := Aside0.mk (blk_below Bc.out hb)
    clear Bc
    have Bc := Nc
    clear Nc
    have NB_ := Aside0.mk (below_step HB.out hb)
    clear HB
    have HB := NB_
    clear NB_
    clear hb
    go_wp2
    go_ret
    exact ⟨rfl, HB.out⟩

end Go.Proofs.Ytnjlcmaelacjkaa.PD3

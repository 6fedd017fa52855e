/- What functions of the program come to, each with the proof that the machine's call does just that; written by a program of this session out of the translation. -/
import Derived.Test.YtnjlcmaelacjkaaPD3x0
import Derived.Test.YtnjlcmaelacjkaaPD3x3
import Derived.Test.YtnjlcmaelacjkaaPD3x4
import Derived.Test.YtnjlcmaelacjkaaPD3x6
import Derived.Test.YtnjlcmaelacjkaaPD3x8
import Derived.Test.YtnjlcmaelacjkaaPD3x9
import Derived.Test.YtnjlcmaelacjkaaPD3x10
import Derived.Test.YtnjlcmaelacjkaaPD3x18
import Derived.Test.YtnjlcmaelacjkaaPD3x26
import Derived.Test.YtnjlcmaelacjkaaPD3x27
namespace Go.Proofs.Ytnjlcmaelacjkaa.PD3
open Go.RowKit Go.Proofs.YtnjlcmaelacjkaaW.PrintWords Go.Proofs.YtnjlcmaelacjkaaW.PrintLast Go.Proofs.YtnjlcmaelacjkaaW.PrintMore
attribute [local go_sem] max2_int min2_int max_two min_two max_three min_three max_four min_four   -- for this text's walks alone
set_option linter.unusedVariables false
set_option linter.unusedSimpArgs false

/-! ### fleuronlaw18_PenSums: function 11 (by hand) -/
attribute [local go_sem high] eqIn_pt
theorem eqIn_arr2 (d : Nat) (w : World) (a b c e : Int) : (Op.equalIn (d + 3) 58 (.agg #[.int .i64 a, .int .i64 b, .int .i64 c, .int .i64 e]) (.agg #[.int .i64 a, .int .i64 b, .int .i64 c, .int .i64 e])).run Try.prog w = .ok true w := by
  unfold Op.equalIn
  simp [go_sem, List.range', Try.isAgg33, Try.underlying58, Try.underlying33, eqIn_pt]
attribute [local go_sem high] eqIn_arr2
def fleuronlaw18_PenSums.P (k : Nat) (l0 l1 : List S33) (n x0 y0 : Int) : Prop := fleuronlaw18_few.f k 130 [l0, l1] = some false ∨ (fleuronlaw18_few.f k 130 [l0, l1] = some true ∧ fleuronlaw18_copied.f l0 = some l0 ∧ ∃ p e1 q e2 s e3 m e4 t0 t1 e5, pen_Sum.f k l0 l1 = some (p, e1) ∧ fleuronref18_Sum.f k l0 l1 = some (p, e1) ∧ pen_Turn.f l0 = some (q, e2) ∧ fleuronref18_Turn.f k l0 = some (q, e2) ∧ pen_Grow.f k l0 n = some (s, e3) ∧ fleuronref18_Grow.f k l0 n = some (s, e3) ∧ pen_Box.f l0 = some (m, e4) ∧ fleuronref18_Box.f l0 = some (m, e4) ∧ pen_Touch.f l0 x0 y0 = some (t0, t1, e5) ∧ fleuronref18_Touch.f k l0 x0 y0 = some (t0, t1, e5) ∧ fleuronref16_Same.f k p p = some true ∧ fleuronref16_Same.f k q q = some true ∧ fleuronref16_Same.f k s s = some true ∧ fleuronref16_Same.f k l0 l0 = some true)
set_option maxHeartbeats 8000000 in
set_option maxRecDepth 100000 in
theorem fleuronlaw18_PenSums.calls (k : Nat) (A0 : Option Addr) (c0 : Nat) (l0 : List S33) (A1 : Option Addr) (c1 : Nat) (l1 : List S33) (n x0 y0 : Int) (w : World) (hr0 : Kd.C k33 w A0 l0.length l0) (hc0 : l0.length ≤ c0) (hr1 : Kd.C k33 w A1 l1.length l1) (hc1 : l1.length ≤ c1) (h : fleuronlaw18_PenSums.P k l0 l1 n x0 y0) :
    Calls Try.prog 11 #[.slice A0 l0.length c0, .slice A1 l1.length c1, .agg #[.int .i64 n, .int .i64 x0, .int .i64 y0]] w fun e w' => e = .returned (.bool true) ∧ Below w.heap.size w w' := by
  have hu := Try.underlying33
  have Hl0 := Aside0.mk hr0
  have HC0 := Aside0.mk hc0
  clear hr0 hc0
  have Hl1 := Aside0.mk hr1
  have HC1 := Aside0.mk hc1
  clear hr1 hc1
  have HB := Aside0.mk (Below.refl w.heap.size w)
  have hu58 := Try.underlying58
  have hu57 := Try.underlying57
  have Nl0 := Aside0.mk (Kd.C_below Hl0.out (below_alloc (Below.refl _ _) (.cells #[.int .i64 n, .int .i64 x0, .int .i64 y0] 57)))
  clear Hl0
  have Hl0 := Nl0
  clear Nl0
  have Nl1 := Aside0.mk (Kd.C_below Hl1.out (below_alloc (Below.refl _ _) (.cells #[.int .i64 n, .int .i64 x0, .int .i64 y0] 57)))
  clear Hl1
  have Hl1 := Nl1
  clear Nl1
  have NB_ := Aside0.mk (below_step HB.out (below_alloc (Below.refl _ _) (.cells #[.int .i64 n, .int .i64 x0, .int .i64 y0] 57)))
  clear HB
  have HB := NB_
  clear NB_
  have h_ := blk_new w (.cells #[.int .i64 n, .int .i64 x0, .int .i64 y0] 57)
  try simp only [World.size_alloc] at h_
  have Bs := Aside0.mk h_
  clear h_
  have h_ := twoP_row (W := (w.alloc (.cells #[.int .i64 n, .int .i64 x0, .int .i64 y0] 57))) Hl0.out HC0.out Hl1.out HC1.out 22
  try simp only [World.size_alloc] at h_
  have Hq0 := Aside0.mk h_
  clear h_
  have Nl0 := Aside0.mk (Kd.C_below Hl0.out (below_alloc (Below.refl _ _) (.cells #[.slice A0 l0.length c0, .slice A1 l1.length c1] 22)))
  clear Hl0
  have Hl0 := Nl0
  clear Nl0
  have Nl1 := Aside0.mk (Kd.C_below Hl1.out (below_alloc (Below.refl _ _) (.cells #[.slice A0 l0.length c0, .slice A1 l1.length c1] 22)))
  clear Hl1
  have Hl1 := Nl1
  clear Nl1
  have Ns := Aside0.mk (blk_below Bs.out (below_alloc (Below.refl _ _) (.cells #[.slice A0 l0.length c0, .slice A1 l1.length c1] 22)))
  clear Bs
  have Bs := Ns
  clear Ns
  have NB_ := Aside0.mk (below_step HB.out (below_alloc (Below.refl _ _) (.cells #[.slice A0 l0.length c0, .slice A1 l1.length c1] 22)))
  clear HB
  have HB := NB_
  clear NB_
  go_enter Try.func11, Try.ntmps11
  rcases h with h | ⟨hf, h0, p, e1, q, e2, s, e3, m, e4, t0, t1, e5, h1, h2, h3, h4, h5, h6, h7, h8, h9, h10, h11, h12, h13, h14⟩
  · have HF := Aside0.mk h
    clear h
    go_wp2_with fail
    refine (fleuronlaw18_few.calls k _ _ 2 [l0, l1] false _ Hq0.out (by simp) HF.out).mono ?_
    rintro e W1 ⟨rfl, hb⟩
    replace hb := hb.below
    have Nl0 := Aside0.mk (Kd.C_below Hl0.out hb)
    clear Hl0
    have Hl0 := Nl0
    clear Nl0
    have Nl1 := Aside0.mk (Kd.C_below Hl1.out hb)
    clear Hl1
    have Hl1 := Nl1
    clear Nl1
    have Nq0 := Aside0.mk (Kd.C_below Hq0.out hb)
    clear Hq0
    have Hq0 := Nq0
    clear Nq0
    have Ns := Aside0.mk (blk_below Bs.out hb)
    clear Bs
    have Bs := Ns
    clear Ns
    have NB_ := Aside0.mk (below_step HB.out hb)
    clear HB
    have HB := NB_
    clear NB_
    clear hb
    go_wp2_with fail
    ((with_reducible refine (fleuronlaw18_awake.calls true _ rfl).mono ?_); rintro e W2 ⟨rfl, hb⟩)
    have Nl0 := Aside0.mk (Kd.C_below Hl0.out hb)
    clear Hl0
    have Hl0 := Nl0
    clear Nl0
    have Nl1 := Aside0.mk (Kd.C_below Hl1.out hb)
    clear Hl1
    have Hl1 := Nl1
    clear Nl1
    have Nq0 := Aside0.mk (Kd.C_below Hq0.out hb)
    clear Hq0
    have Hq0 := Nq0
    clear Nq0
    have Ns := Aside0.mk (blk_below Bs.out hb)
    clear Bs
    have Bs := Ns
    clear Ns
    have NB_ := Aside0.mk (below_step HB.out hb)
    clear HB
    have HB := NB_
    clear NB_
    clear hb
    go_wp2
    go_ret
    exact ⟨rfl, HB.out⟩
  · have HF := Aside0.mk hf
    have H0 := Aside0.mk h0
    have H1 := Aside0.mk h1
    have H2 := Aside0.mk h2
    have H3 := Aside0.mk h3
    have H4 := Aside0.mk h4
    have H5 := Aside0.mk h5
    have H6 := Aside0.mk h6
    have H7 := Aside0.mk h7
    have H8 := Aside0.mk h8
    have H9 := Aside0.mk h9
    have H10 := Aside0.mk h10
    have HS_p := Aside0.mk h11
    have HS_q := Aside0.mk h12
    have HS_s := Aside0.mk h13
    have HS_l0 := Aside0.mk h14
    clear hf h0 h1 h2 h3 h4 h5 h6 h7 h8 h9 h10 h11 h12 h13 h14
    go_wp2_with fail
    refine (fleuronlaw18_few.calls k _ _ 2 [l0, l1] true _ Hq0.out (by simp) HF.out).mono ?_
    rintro e W1 ⟨rfl, hb⟩
    replace hb := hb.below
    have Nl0 := Aside0.mk (Kd.C_below Hl0.out hb)
    clear Hl0
    have Hl0 := Nl0
    clear Nl0
    have Nl1 := Aside0.mk (Kd.C_below Hl1.out hb)
    clear Hl1
    have Hl1 := Nl1
    clear Nl1
    have Nq0 := Aside0.mk (Kd.C_below Hq0.out hb)
    clear Hq0
    have Hq0 := Nq0
    clear Nq0
    have Ns := Aside0.mk (blk_below Bs.out hb)
    clear Bs
    have Bs := Ns
    clear Ns
    have NB_ := Aside0.mk (below_step HB.out hb)
    clear HB
    have HB := NB_
    clear NB_
    clear hb
    clear Hq0
    go_wp2_with fail
    ((with_reducible refine (fleuronlaw18_copied.calls A0 c0 l0 l0 _ Hl0.out HC0.out H0.out).mono ?_); rintro e W2 ⟨vc, rfl, hr, hb⟩)
    have Nl0 := Aside0.mk (Kd.C_below Hl0.out hb)
    clear Hl0
    have Hl0 := Nl0
    clear Nl0
    have Nl1 := Aside0.mk (Kd.C_below Hl1.out hb)
    clear Hl1
    have Hl1 := Nl1
    clear Nl1
    have Ns := Aside0.mk (blk_below Bs.out hb)
    clear Bs
    have Bs := Ns
    clear Ns
    have NB_ := Aside0.mk (below_step HB.out hb)
    clear HB
    have HB := NB_
    clear NB_
    obtain ⟨Ac, cc, rfl, hcc, hC⟩ := Kd.R_reads hr
    have Hc := Aside0.mk hC
    clear hC hr hb
    go_wp2_with fail
    ((with_reducible refine (pen_Sum.calls k _ _ l0 A1 c1 l1 p e1 _ Hc.out hcc Hl1.out HC1.out H1.out).mono ?_); rintro e W3 ⟨vp1, rfl, hr, hb⟩)
    have Nl0 := Aside0.mk (Kd.C_below Hl0.out hb)
    clear Hl0
    have Hl0 := Nl0
    clear Nl0
    have Nl1 := Aside0.mk (Kd.C_below Hl1.out hb)
    clear Hl1
    have Hl1 := Nl1
    clear Nl1
    have Nc := Aside0.mk (Kd.C_below Hc.out hb)
    clear Hc
    have Hc := Nc
    clear Nc
    have Ns := Aside0.mk (blk_below Bs.out hb)
    clear Bs
    have Bs := Ns
    clear Ns
    have NB_ := Aside0.mk (below_step HB.out hb)
    clear HB
    have HB := NB_
    clear NB_
    obtain ⟨Ap1, cp1, rfl, hcp1, hC⟩ := Kd.R_reads hr
    have Hp1 := Aside0.mk hC
    clear hC hr hb
    go_wp2_with fail
    ((with_reducible refine (fleuronref18_Sum.calls k A0 c0 l0 A1 c1 l1 p e1 _ Hl0.out HC0.out Hl1.out HC1.out H2.out).mono ?_); rintro e W4 ⟨vp2, rfl, hr, hb⟩)
    have Nl0 := Aside0.mk (Kd.C_below Hl0.out hb)
    clear Hl0
    have Hl0 := Nl0
    clear Nl0
    have Nl1 := Aside0.mk (Kd.C_below Hl1.out hb)
    clear Hl1
    have Hl1 := Nl1
    clear Nl1
    have Nc := Aside0.mk (Kd.C_below Hc.out hb)
    clear Hc
    have Hc := Nc
    clear Nc
    have Np1 := Aside0.mk (Kd.C_below Hp1.out hb)
    clear Hp1
    have Hp1 := Np1
    clear Np1
    have Ns := Aside0.mk (blk_below Bs.out hb)
    clear Bs
    have Bs := Ns
    clear Ns
    have NB_ := Aside0.mk (below_step HB.out hb)
    clear HB
    have HB := NB_
    clear NB_
    obtain ⟨Ap2, cp2, rfl, hcp2, hC⟩ := Kd.R_reads hr
    have Hp2 := Aside0.mk hC
    clear hC hr hb
    go_wp2_with fail
    ((with_reducible refine (fleuronref16_Same.calls k _ _ p _ _ p true _ Hp1.out hcp1 Hp2.out hcp2 HS_p.out).mono ?_); rintro e W5 ⟨rfl, hb⟩)
    replace hb := hb.below
    have Nl0 := Aside0.mk (Kd.C_below Hl0.out hb)
    clear Hl0
    have Hl0 := Nl0
    clear Nl0
    have Nl1 := Aside0.mk (Kd.C_below Hl1.out hb)
    clear Hl1
    have Hl1 := Nl1
    clear Nl1
    have Nc := Aside0.mk (Kd.C_below Hc.out hb)
    clear Hc
    have Hc := Nc
    clear Nc
    have Np1 := Aside0.mk (Kd.C_below Hp1.out hb)
    clear Hp1
    have Hp1 := Np1
    clear Np1
    have Np2 := Aside0.mk (Kd.C_below Hp2.out hb)
    clear Hp2
    have Hp2 := Np2
    clear Np2
    have Ns := Aside0.mk (blk_below Bs.out hb)
    clear Bs
    have Bs := Ns
    clear Ns
    have NB_ := Aside0.mk (below_step HB.out hb)
    clear HB
    have HB := NB_
    clear NB_
    clear hb
    clear Hp1
    clear Hp2
    go_wp2_with fail
    ((with_reducible refine (pen_Turn.calls _ _ l0 q e2 _ Hc.out hcc H3.out).mono ?_); rintro e W6 ⟨vq1, rfl, hr, hb⟩)
    have Nl0 := Aside0.mk (Kd.C_below Hl0.out hb)
    clear Hl0
    have Hl0 := Nl0
    clear Nl0
    have Nl1 := Aside0.mk (Kd.C_below Hl1.out hb)
    clear Hl1
    have Hl1 := Nl1
    clear Nl1
    have Nc := Aside0.mk (Kd.C_below Hc.out hb)
    clear Hc
    have Hc := Nc
    clear Nc
    have Ns := Aside0.mk (blk_below Bs.out hb)
    clear Bs
    have Bs := Ns
    clear Ns
    have NB_ := Aside0.mk (below_step HB.out hb)
    clear HB
    have HB := NB_
    clear NB_
    obtain ⟨Aq1, cq1, rfl, hcq1, hC⟩ := Kd.R_reads hr
    have Hq1 := Aside0.mk hC
    clear hC hr hb
    go_wp2_with fail
    ((with_reducible refine (fleuronref18_Turn.calls k A0 c0 l0 q e2 _ Hl0.out HC0.out H4.out).mono ?_); rintro e W7 ⟨vq2, rfl, hr, hb⟩)
    have Nl0 := Aside0.mk (Kd.C_below Hl0.out hb)
    clear Hl0
    have Hl0 := Nl0
    clear Nl0
    have Nl1 := Aside0.mk (Kd.C_below Hl1.out hb)
    clear Hl1
    have Hl1 := Nl1
    clear Nl1
    have Nc := Aside0.mk (Kd.C_below Hc.out hb)
    clear Hc
    have Hc := Nc
    clear Nc
    have Nq1 := Aside0.mk (Kd.C_below Hq1.out hb)
    clear Hq1
    have Hq1 := Nq1
    clear Nq1
    have Ns := Aside0.mk (blk_below Bs.out hb)
    clear Bs
    have Bs := Ns
    clear Ns
    have NB_ := Aside0.mk (below_step HB.out hb)
    clear HB
    have HB := NB_
    clear NB_
    obtain ⟨Aq2, cq2, rfl, hcq2, hC⟩ := Kd.R_reads hr
    have Hq2 := Aside0.mk hC
    clear hC hr hb
    go_wp2_with fail
    ((with_reducible refine (fleuronref16_Same.calls k _ _ q _ _ q true _ Hq1.out hcq1 Hq2.out hcq2 HS_q.out).mono ?_); rintro e W8 ⟨rfl, hb⟩)
    replace hb := hb.below
    have Nl0 := Aside0.mk (Kd.C_below Hl0.out hb)
    clear Hl0
    have Hl0 := Nl0
    clear Nl0
    have Nl1 := Aside0.mk (Kd.C_below Hl1.out hb)
    clear Hl1
    have Hl1 := Nl1
    clear Nl1
    have Nc := Aside0.mk (Kd.C_below Hc.out hb)
    clear Hc
    have Hc := Nc
    clear Nc
    have Nq1 := Aside0.mk (Kd.C_below Hq1.out hb)
    clear Hq1
    have Hq1 := Nq1
    clear Nq1
    have Nq2 := Aside0.mk (Kd.C_below Hq2.out hb)
    clear Hq2
    have Hq2 := Nq2
    clear Nq2
    have Ns := Aside0.mk (blk_below Bs.out hb)
    clear Bs
    have Bs := Ns
    clear Ns
    have NB_ := Aside0.mk (below_step HB.out hb)
    clear HB
    have HB := NB_
    clear NB_
    clear hb
    clear Hq1
    clear Hq2
    have ps0 := (blk_cell Bs.out 0).trans rfl
    have ps1 := (blk_cell Bs.out 1).trans rfl
    have ps2 := (blk_cell Bs.out 2).trans rfl
    go_wp2_with fail
    ((with_reducible refine (pen_Grow.calls k _ _ l0 n s e3 _ Hc.out hcc H5.out).mono ?_); rintro e W9 ⟨vs1, rfl, hr, hb⟩)
    clear ps0
    clear ps1
    clear ps2
    have Nl0 := Aside0.mk (Kd.C_below Hl0.out hb)
    clear Hl0
    have Hl0 := Nl0
    clear Nl0
    have Nl1 := Aside0.mk (Kd.C_below Hl1.out hb)
    clear Hl1
    have Hl1 := Nl1
    clear Nl1
    have Nc := Aside0.mk (Kd.C_below Hc.out hb)
    clear Hc
    have Hc := Nc
    clear Nc
    have Ns := Aside0.mk (blk_below Bs.out hb)
    clear Bs
    have Bs := Ns
    clear Ns
    have NB_ := Aside0.mk (below_step HB.out hb)
    clear HB
    have HB := NB_
    clear NB_
    obtain ⟨As1, cs1, rfl, hcs1, hC⟩ := Kd.R_reads hr
    have Hs1 := Aside0.mk hC
    clear hC hr hb
    have ps0 := (blk_cell Bs.out 0).trans rfl
    have ps1 := (blk_cell Bs.out 1).trans rfl
    have ps2 := (blk_cell Bs.out 2).trans rfl
    go_wp2_with fail
    ((with_reducible refine (fleuronref18_Grow.calls k A0 c0 l0 n s e3 _ Hl0.out HC0.out H6.out).mono ?_); rintro e W10 ⟨vs2, rfl, hr, hb⟩)
    clear ps0
    clear ps1
    clear ps2
    have Nl0 := Aside0.mk (Kd.C_below Hl0.out hb)
    clear Hl0
    have Hl0 := Nl0
    clear Nl0
    have Nl1 := Aside0.mk (Kd.C_below Hl1.out hb)
    clear Hl1
    have Hl1 := Nl1
    clear Nl1
    have Nc := Aside0.mk (Kd.C_below Hc.out hb)
    clear Hc
    have Hc := Nc
    clear Nc
    have Ns1 := Aside0.mk (Kd.C_below Hs1.out hb)
    clear Hs1
    have Hs1 := Ns1
    clear Ns1
    have Ns := Aside0.mk (blk_below Bs.out hb)
    clear Bs
    have Bs := Ns
    clear Ns
    have NB_ := Aside0.mk (below_step HB.out hb)
    clear HB
    have HB := NB_
    clear NB_
    obtain ⟨As2, cs2, rfl, hcs2, hC⟩ := Kd.R_reads hr
    have Hs2 := Aside0.mk hC
    clear hC hr hb
    go_wp2_with fail
    ((with_reducible refine (fleuronref16_Same.calls k _ _ s _ _ s true _ Hs1.out hcs1 Hs2.out hcs2 HS_s.out).mono ?_); rintro e W11 ⟨rfl, hb⟩)
    replace hb := hb.below
    have Nl0 := Aside0.mk (Kd.C_below Hl0.out hb)
    clear Hl0
    have Hl0 := Nl0
    clear Nl0
    have Nl1 := Aside0.mk (Kd.C_below Hl1.out hb)
    clear Hl1
    have Hl1 := Nl1
    clear Nl1
    have Nc := Aside0.mk (Kd.C_below Hc.out hb)
    clear Hc
    have Hc := Nc
    clear Nc
    have Ns1 := Aside0.mk (Kd.C_below Hs1.out hb)
    clear Hs1
    have Hs1 := Ns1
    clear Ns1
    have Ns2 := Aside0.mk (Kd.C_below Hs2.out hb)
    clear Hs2
    have Hs2 := Ns2
    clear Ns2
    have Ns := Aside0.mk (blk_below Bs.out hb)
    clear Bs
    have Bs := Ns
    clear Ns
    have NB_ := Aside0.mk (below_step HB.out hb)
    clear HB
    have HB := NB_
    clear NB_
    clear hb
    clear Hs1
    clear Hs2
    go_wp2_with fail
    ((with_reducible refine (pen_Box.calls _ _ l0 m e4 _ Hc.out hcc H7.out).mono ?_); rintro e W12 ⟨rfl, hb⟩)
    have Nl0 := Aside0.mk (Kd.C_below Hl0.out hb)
    clear Hl0
    have Hl0 := Nl0
    clear Nl0
    have Nl1 := Aside0.mk (Kd.C_below Hl1.out hb)
    clear Hl1
    have Hl1 := Nl1
    clear Nl1
    have Nc := Aside0.mk (Kd.C_below Hc.out hb)
    clear Hc
    have Hc := Nc
    clear Nc
    have Ns := Aside0.mk (blk_below Bs.out hb)
    clear Bs
    have Bs := Ns
    clear Ns
    have NB_ := Aside0.mk (below_step HB.out hb)
    clear HB
    have HB := NB_
    clear NB_
    clear hb
    have Nl0 := Aside0.mk (Kd.C_below Hl0.out (below_alloc (Below.refl _ _) (.cells #[.int .i64 m.1, .int .i64 m.2.1, .int .i64 m.2.2.1, .int .i64 m.2.2.2] 58)))
    clear Hl0
    have Hl0 := Nl0
    clear Nl0
    have Nl1 := Aside0.mk (Kd.C_below Hl1.out (below_alloc (Below.refl _ _) (.cells #[.int .i64 m.1, .int .i64 m.2.1, .int .i64 m.2.2.1, .int .i64 m.2.2.2] 58)))
    clear Hl1
    have Hl1 := Nl1
    clear Nl1
    have Nc := Aside0.mk (Kd.C_below Hc.out (below_alloc (Below.refl _ _) (.cells #[.int .i64 m.1, .int .i64 m.2.1, .int .i64 m.2.2.1, .int .i64 m.2.2.2] 58)))
    clear Hc
    have Hc := Nc
    clear Nc
    have Ns := Aside0.mk (blk_below Bs.out (below_alloc (Below.refl _ _) (.cells #[.int .i64 m.1, .int .i64 m.2.1, .int .i64 m.2.2.1, .int .i64 m.2.2.2] 58)))
    clear Bs
    have Bs := Ns
    clear Ns
    have NB_ := Aside0.mk (below_step HB.out (below_alloc (Below.refl _ _) (.cells #[.int .i64 m.1, .int .i64 m.2.1, .int .i64 m.2.2.1, .int .i64 m.2.2.2] 58)))
    clear HB
    have HB := NB_
    clear NB_
    have h_ := blk_new W12 (.cells #[.int .i64 m.1, .int .i64 m.2.1, .int .i64 m.2.2.1, .int .i64 m.2.2.2] 58)
    have Bm1 := Aside0.mk h_
    clear h_
    go_wp2_with fail
    ((with_reducible refine (fleuronref18_Box.calls A0 c0 l0 m e4 _ Hl0.out HC0.out H8.out).mono ?_); rintro e W13 ⟨rfl, hb⟩)
    have Nl0 := Aside0.mk (Kd.C_below Hl0.out hb)
    clear Hl0
    have Hl0 := Nl0
    clear Nl0
    have Nl1 := Aside0.mk (Kd.C_below Hl1.out hb)
    clear Hl1
    have Hl1 := Nl1
    clear Nl1
    have Nc := Aside0.mk (Kd.C_below Hc.out hb)
    clear Hc
    have Hc := Nc
    clear Nc
    have Ns := Aside0.mk (blk_below Bs.out hb)
    clear Bs
    have Bs := Ns
    clear Ns
    have Nm1 := Aside0.mk (blk_below Bm1.out hb)
    clear Bm1
    have Bm1 := Nm1
    clear Nm1
    have NB_ := Aside0.mk (below_step HB.out hb)
    clear HB
    have HB := NB_
    clear NB_
    clear hb
    have Nl0 := Aside0.mk (Kd.C_below Hl0.out (below_alloc (Below.refl _ _) (.cells #[.int .i64 m.1, .int .i64 m.2.1, .int .i64 m.2.2.1, .int .i64 m.2.2.2] 58)))
    clear Hl0
    have Hl0 := Nl0
    clear Nl0
    have Nl1 := Aside0.mk (Kd.C_below Hl1.out (below_alloc (Below.refl _ _) (.cells #[.int .i64 m.1, .int .i64 m.2.1, .int .i64 m.2.2.1, .int .i64 m.2.2.2] 58)))
    clear Hl1
    have Hl1 := Nl1
    clear Nl1
    have Nc := Aside0.mk (Kd.C_below Hc.out (below_alloc (Below.refl _ _) (.cells #[.int .i64 m.1, .int .i64 m.2.1, .int .i64 m.2.2.1, .int .i64 m.2.2.2] 58)))
    clear Hc
    have Hc := Nc
    clear Nc
    have Ns := Aside0.mk (blk_below Bs.out (below_alloc (Below.refl _ _) (.cells #[.int .i64 m.1, .int .i64 m.2.1, .int .i64 m.2.2.1, .int .i64 m.2.2.2] 58)))
    clear Bs
    have Bs := Ns
    clear Ns
    have Nm1 := Aside0.mk (blk_below Bm1.out (below_alloc (Below.refl _ _) (.cells #[.int .i64 m.1, .int .i64 m.2.1, .int .i64 m.2.2.1, .int .i64 m.2.2.2] 58)))
    clear Bm1
    have Bm1 := Nm1
    clear Nm1
    have NB_ := Aside0.mk (below_step HB.out (below_alloc (Below.refl _ _) (.cells #[.int .i64 m.1, .int .i64 m.2.1, .int .i64 m.2.2.1, .int .i64 m.2.2.2] 58)))
    clear HB
    have HB := NB_
    clear NB_
    have h_ := blk_new W13 (.cells #[.int .i64 m.1, .int .i64 m.2.1, .int .i64 m.2.2.1, .int .i64 m.2.2.2] 58)
    have Bm2 := Aside0.mk h_
    clear h_
    have pm10 := (blk_cell Bm1.out 0).trans rfl
    have pm11 := (blk_cell Bm1.out 1).trans rfl
    have pm12 := (blk_cell Bm1.out 2).trans rfl
    have pm13 := (blk_cell Bm1.out 3).trans rfl
    have pm20 := (blk_cell Bm2.out 0).trans rfl
    have pm21 := (blk_cell Bm2.out 1).trans rfl
    have pm22 := (blk_cell Bm2.out 2).trans rfl
    have pm23 := (blk_cell Bm2.out 3).trans rfl
    have ps0 := (blk_cell Bs.out 0).trans rfl
    have ps1 := (blk_cell Bs.out 1).trans rfl
    have ps2 := (blk_cell Bs.out 2).trans rfl
    go_wp2_with fail
    ((with_reducible refine (pen_Touch.calls _ _ l0 x0 y0 t0 t1 e5 _ Hc.out hcc H9.out).mono ?_); rintro e W14 ⟨rfl, hb⟩)
    clear pm10
    clear pm11
    clear pm12
    clear pm13
    clear pm20
    clear pm21
    clear pm22
    clear pm23
    clear ps0
    clear ps1
    clear ps2
    have Nl0 := Aside0.mk (Kd.C_below Hl0.out hb)
    clear Hl0
    have Hl0 := Nl0
    clear Nl0
    have Nl1 := Aside0.mk (Kd.C_below Hl1.out hb)
    clear Hl1
    have Hl1 := Nl1
    clear Nl1
    have Nc := Aside0.mk (Kd.C_below Hc.out hb)
    clear Hc
    have Hc := Nc
    clear Nc
    have Ns := Aside0.mk (blk_below Bs.out hb)
    clear Bs
    have Bs := Ns
    clear Ns
    have Nm1 := Aside0.mk (blk_below Bm1.out hb)
    clear Bm1
    have Bm1 := Nm1
    clear Nm1
    have Nm2 := Aside0.mk (blk_below Bm2.out hb)
    clear Bm2
    have Bm2 := Nm2
    clear Nm2
    have NB_ := Aside0.mk (below_step HB.out hb)
    clear HB
    have HB := NB_
    clear NB_
    clear hb
    clear Bm1
    clear Bm2
    have Nl0 := Aside0.mk (Kd.C_below Hl0.out (below_alloc (Below.refl _ _) (.cells #[.int .i64 t0, .int .i64 t1] 33)))
    clear Hl0
    have Hl0 := Nl0
    clear Nl0
    have Nl1 := Aside0.mk (Kd.C_below Hl1.out (below_alloc (Below.refl _ _) (.cells #[.int .i64 t0, .int .i64 t1] 33)))
    clear Hl1
    have Hl1 := Nl1
    clear Nl1
    have Nc := Aside0.mk (Kd.C_below Hc.out (below_alloc (Below.refl _ _) (.cells #[.int .i64 t0, .int .i64 t1] 33)))
    clear Hc
    have Hc := Nc
    clear Nc
    have Ns := Aside0.mk (blk_below Bs.out (below_alloc (Below.refl _ _) (.cells #[.int .i64 t0, .int .i64 t1] 33)))
    clear Bs
    have Bs := Ns
    clear Ns
    have NB_ := Aside0.mk (below_step HB.out (below_alloc (Below.refl _ _) (.cells #[.int .i64 t0, .int .i64 t1] 33)))
    clear HB
    have HB := NB_
    clear NB_
    have h_ := blk_new W14 (.cells #[.int .i64 t0, .int .i64 t1] 33)
    have Bt1 := Aside0.mk h_
    clear h_
    have ps0 := (blk_cell Bs.out 0).trans rfl
    have ps1 := (blk_cell Bs.out 1).trans rfl
    have ps2 := (blk_cell Bs.out 2).trans rfl
    go_wp2_with fail
    ((with_reducible refine (fleuronref18_Touch.calls k A0 c0 l0 x0 y0 t0 t1 e5 _ Hl0.out HC0.out H10.out).mono ?_); rintro e W15 ⟨rfl, hb⟩)
    clear ps0
    clear ps1
    clear ps2
    have Nl0 := Aside0.mk (Kd.C_below Hl0.out hb)
    clear Hl0
    have Hl0 := Nl0
    clear Nl0
    have Nl1 := Aside0.mk (Kd.C_below Hl1.out hb)
    clear Hl1
    have Hl1 := Nl1
    clear Nl1
    have Nc := Aside0.mk (Kd.C_below Hc.out hb)
    clear Hc
    have Hc := Nc
    clear Nc
    have Ns := Aside0.mk (blk_below Bs.out hb)
    clear Bs
    have Bs := Ns
    clear Ns
    have Nt1 := Aside0.mk (blk_below Bt1.out hb)
    clear Bt1
    have Bt1 := Nt1
    clear Nt1
    have NB_ := Aside0.mk (below_step HB.out hb)
    clear HB
    have HB := NB_
    clear NB_
    clear hb
    have Nl0 := Aside0.mk (Kd.C_below Hl0.out (below_alloc (Below.refl _ _) (.cells #[.int .i64 t0, .int .i64 t1] 33)))
    clear Hl0
    have Hl0 := Nl0
    clear Nl0
    have Nl1 := Aside0.mk (Kd.C_below Hl1.out (below_alloc (Below.refl _ _) (.cells #[.int .i64 t0, .int .i64 t1] 33)))
    clear Hl1
    have Hl1 := Nl1
    clear Nl1
    have Nc := Aside0.mk (Kd.C_below Hc.out (below_alloc (Below.refl _ _) (.cells #[.int .i64 t0, .int .i64 t1] 33)))
    clear Hc
    have Hc := Nc
    clear Nc
    have Ns := Aside0.mk (blk_below Bs.out (below_alloc (Below.refl _ _) (.cells #[.int .i64 t0, .int .i64 t1] 33)))
    clear Bs
    have Bs := Ns
    clear Ns
    have Nt1 := Aside0.mk (blk_below Bt1.out (below_alloc (Below.refl _ _) (.cells #[.int .i64 t0, .int .i64 t1] 33)))
    clear Bt1
    have Bt1 := Nt1
    clear Nt1
    have NB_ := Aside0.mk (below_step HB.out (below_alloc (Below.refl _ _) (.cells #[.int .i64 t0, .int .i64 t1] 33)))
    clear HB
    have HB := NB_
    clear NB_
    have h_ := blk_new W15 (.cells #[.int .i64 t0, .int .i64 t1] 33)
    have Bt2 := Aside0.mk h_
    clear h_
    have pt10 := (blk_cell Bt1.out 0).trans rfl
    have pt11 := (blk_cell Bt1.out 1).trans rfl
    have pt20 := (blk_cell Bt2.out 0).trans rfl
    have pt21 := (blk_cell Bt2.out 1).trans rfl
    go_wp2_with fail
    ((with_reducible refine (fleuronref16_Same.calls k _ _ l0 _ _ l0 true _ Hl0.out HC0.out Hc.out hcc HS_l0.out).mono ?_); rintro e W16 ⟨rfl, hb⟩)
    replace hb := hb.below
    clear pt10
    clear pt11
    clear pt20
    clear pt21
    have Nl0 := Aside0.mk (Kd.C_below Hl0.out hb)
    clear Hl0
    have Hl0 := Nl0
    clear Nl0
    have Nl1 := Aside0.mk (Kd.C_below Hl1.out hb)
    clear Hl1
    have Hl1 := Nl1
    clear Nl1
    have Nc := Aside0.mk (Kd.C_below Hc.out hb)
    clear Hc
    have Hc := Nc
    clear Nc
    have Ns := Aside0.mk (blk_below Bs.out hb)
    clear Bs
    have Bs := Ns
    clear Ns
    have Nt1 := Aside0.mk (blk_below Bt1.out hb)
    clear Bt1
    have Bt1 := Nt1
    clear Nt1
    have Nt2 := Aside0.mk (blk_below Bt2.out hb)
    clear Bt2
    have Bt2 := Nt2
    clear Nt2
    have NB_ := Aside0.mk (below_step HB.out hb)
    clear HB
    have HB := NB_
    clear NB_
    clear hb
    go_wp2_with fail
    ((with_reducible refine (fleuronlaw18_awake.calls true _ rfl).mono ?_); rintro e W17 ⟨rfl, hb⟩)
    have Nl0 := Aside0.mk (Kd.C_below Hl0.out hb)
    clear Hl0
    have Hl0 := Nl0
    clear Nl0
    have Nl1 := Aside0.mk (Kd.C_below Hl1.out hb)
    clear Hl1
    have Hl1 := Nl1
    clear Nl1
    have Nc := Aside0.mk (Kd.C_below Hc.out hb)
    clear Hc
    have Hc := Nc
    clear Nc
    have Ns := Aside0.mk (blk_below Bs.out hb)
    clear Bs
    have Bs := Ns
    clear Ns
    have Nt1 := Aside0.mk (blk_below Bt1.out hb)
    clear Bt1
    have Bt1 := Nt1
    clear Nt1
    have Nt2 := Aside0.mk (blk_below Bt2.out hb)
    clear Bt2
    have Bt2 := Nt2
    clear Nt2
    have NB_ := Aside0.mk (below_step HB.out hb)
    clear HB
    have HB := NB_
    clear NB_
    clear hb
    go_wp2
    go_ret
    exact ⟨rfl, HB.out⟩

end Go.Proofs.Ytnjlcmaelacjkaa.PD3

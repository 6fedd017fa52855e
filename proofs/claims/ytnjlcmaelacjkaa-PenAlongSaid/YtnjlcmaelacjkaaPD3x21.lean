/- What functions of the program come to, each with the proof that the machine's call does just that; written by a program of this session out of the translation. -/
import Derived.Test.YtnjlcmaelacjkaaPD3x0
import Derived.Test.YtnjlcmaelacjkaaPD3x4
import Derived.Test.YtnjlcmaelacjkaaPD3x8
import Derived.Test.YtnjlcmaelacjkaaPD3x10
import Derived.Test.YtnjlcmaelacjkaaPD3x20
namespace Go.Proofs.Ytnjlcmaelacjkaa.PD3
open Go.RowKit Go.Proofs.YtnjlcmaelacjkaaW.PrintWords Go.Proofs.YtnjlcmaelacjkaaW.PrintLast Go.Proofs.YtnjlcmaelacjkaaW.PrintMore
attribute [local go_sem] max2_int min2_int max_two min_two max_three min_three max_four min_four   -- for this text's walks alone
set_option linter.unusedVariables false
set_option linter.unusedSimpArgs false

/-! ### fleuronlaw18_PenAlong: function 6 (by hand) -/
def fleuronlaw18_PenAlong.P (k : Nat) (l0 l1 : List S33) (x0 y0 : Int) : Prop := fleuronlaw18_few.f k 70 [l0] = some false ∨ (fleuronlaw18_few.f k 70 [l0] = some true ∧ (fleuronlaw18_few.f k 60 [l1] = some false ∨ (fleuronlaw18_few.f k 60 [l1] = some true ∧ ∃ x e, pen_Along.f l0 l1 x0 y0 = some (x, e) ∧ fleuronref18_Along.f k l0 l1 x0 y0 = some (x, e))))
set_option maxHeartbeats 8000000 in
set_option maxRecDepth 100000 in
theorem fleuronlaw18_PenAlong.calls (k : Nat) (A0 : Option Addr) (c0 : Nat) (l0 : List S33) (A1 : Option Addr) (c1 : Nat) (l1 : List S33) (x0 y0 : Int) (w : World) (hr0 : Kd.C k33 w A0 l0.length l0) (hc0 : l0.length ≤ c0) (hr1 : Kd.C k33 w A1 l1.length l1) (hc1 : l1.length ≤ c1) (h : fleuronlaw18_PenAlong.P k l0 l1 x0 y0) :
    Calls Try.prog 6 #[.slice A0 l0.length c0, .slice A1 l1.length c1, .agg #[.int .i64 x0, .int .i64 y0]] w fun e w' => e = .returned (.bool true) ∧ Below w.heap.size w w' := by
  have hu := Try.underlying33
  have Hl0 := Aside0.mk hr0
  have HC0 := Aside0.mk hc0
  clear hr0 hc0
  have Hl1 := Aside0.mk hr1
  have HC1 := Aside0.mk hc1
  clear hr1 hc1
  have HB := Aside0.mk (Below.refl w.heap.size w)
  have Nl0 := Aside0.mk (Kd.C_below Hl0.out (below_alloc (Below.refl _ _) (.cells #[.int .i64 x0, .int .i64 y0] 33)))
  clear Hl0
  have Hl0 := Nl0
  clear Nl0
  have Nl1 := Aside0.mk (Kd.C_below Hl1.out (below_alloc (Below.refl _ _) (.cells #[.int .i64 x0, .int .i64 y0] 33)))
  clear Hl1
  have Hl1 := Nl1
  clear Nl1
  have NB_ := Aside0.mk (below_step HB.out (below_alloc (Below.refl _ _) (.cells #[.int .i64 x0, .int .i64 y0] 33)))
  clear HB
  have HB := NB_
  clear NB_
  have h_ := blk_new w (.cells #[.int .i64 x0, .int .i64 y0] 33)
  try simp only [World.size_alloc] at h_
  have Bs := Aside0.mk h_
  clear h_
  have h_ := oneP_row (W := (w.alloc (.cells #[.int .i64 x0, .int .i64 y0] 33))) Hl0.out HC0.out 22
  try simp only [World.size_alloc] at h_
  have Hq0 := Aside0.mk h_
  clear h_
  have Nl0 := Aside0.mk (Kd.C_below Hl0.out (below_alloc (Below.refl _ _) (.cells #[.slice A0 l0.length c0] 22)))
  clear Hl0
  have Hl0 := Nl0
  clear Nl0
  have Nl1 := Aside0.mk (Kd.C_below Hl1.out (below_alloc (Below.refl _ _) (.cells #[.slice A0 l0.length c0] 22)))
  clear Hl1
  have Hl1 := Nl1
  clear Nl1
  have Ns := Aside0.mk (blk_below Bs.out (below_alloc (Below.refl _ _) (.cells #[.slice A0 l0.length c0] 22)))
  clear Bs
  have Bs := Ns
  clear Ns
  have NB_ := Aside0.mk (below_step HB.out (below_alloc (Below.refl _ _) (.cells #[.slice A0 l0.length c0] 22)))
  clear HB
  have HB := NB_
  clear NB_
  go_enter Try.func6, Try.ntmps6
  rcases h with h | ⟨hf, h | ⟨hf2, x, e, h1, h2⟩⟩
  · have HF := Aside0.mk h
    clear h
    go_wp2_with fail
    refine (fleuronlaw18_few.calls k _ _ 1 [l0] false _ Hq0.out (by simp) HF.out).mono ?_
    rintro e W1 ⟨rfl, hb⟩
    replace hb := hb.below
    have Nl0 := Aside0.mk (Kd.C_below Hl0.out hb)
    clear Hl0
    have Hl0 := Nl0
    clear Nl0
    have Nl1 := Aside0.mk (Kd.C_below Hl1.out hb)
    clear Hl1
    have Hl1 := Nl1
    clear Nl1
    have Nq0 := Aside0.mk (Kd.C_below Hq0.out hb)
    clear Hq0
    have Hq0 := Nq0
    clear Nq0
    have Ns := Aside0.mk (blk_below Bs.out hb)
    clear Bs
    have Bs := Ns
    clear Ns
    have NB_ := Aside0.mk (below_step HB.out hb)
    clear HB
    have HB := NB_
    clear NB_
    clear hb
    go_wp2_with fail
    ((with_reducible refine (fleuronlaw18_awake.calls true _ rfl).mono ?_); rintro e W2 ⟨rfl, hb⟩)
    have Nl0 := Aside0.mk (Kd.C_below Hl0.out hb)
    clear Hl0
    have Hl0 := Nl0
    clear Nl0
    have Nl1 := Aside0.mk (Kd.C_below Hl1.out hb)
    clear Hl1
    have Hl1 := Nl1
    clear Nl1
    have Nq0 := Aside0.mk (Kd.C_below Hq0.out hb)
    clear Hq0
    have Hq0 := Nq0
    clear Nq0
    have Ns := Aside0.mk (blk_below Bs.out hb)
    clear Bs
    have Bs := Ns
    clear Ns
    have NB_ := Aside0.mk (below_step HB.out hb)
    clear HB
    have HB := NB_
    clear NB_
    clear hb
    go_wp2
    go_ret
    exact ⟨rfl, HB.out⟩
  · have HF := Aside0.mk hf
    have HF2 := Aside0.mk h
    clear hf h
    go_wp2_with fail
    refine (fleuronlaw18_few.calls k _ _ 1 [l0] true _ Hq0.out (by simp) HF.out).mono ?_
    rintro e W1 ⟨rfl, hb⟩
    replace hb := hb.below
    have Nl0 := Aside0.mk (Kd.C_below Hl0.out hb)
    clear Hl0
    have Hl0 := Nl0
    clear Nl0
    have Nl1 := Aside0.mk (Kd.C_below Hl1.out hb)
    clear Hl1
    have Hl1 := Nl1
    clear Nl1
    have Nq0 := Aside0.mk (Kd.C_below Hq0.out hb)
    clear Hq0
    have Hq0 := Nq0
    clear Nq0
    have Ns := Aside0.mk (blk_below Bs.out hb)
    clear Bs
    have Bs := Ns
    clear Ns
    have NB_ := Aside0.mk (below_step HB.out hb)
    clear HB
    have HB := NB_
    clear NB_
    clear hb
    clear Hq0
    have h_ := oneP_row (W := W1) Hl1.out HC1.out 22
    try simp only [World.size_alloc] at h_
    have Hq1 := Aside0.mk h_
    clear h_
    have Nl0 := Aside0.mk (Kd.C_below Hl0.out (below_alloc (Below.refl _ _) (.cells #[.slice A1 l1.length c1] 22)))
    clear Hl0
    have Hl0 := Nl0
    clear Nl0
    have Nl1 := Aside0.mk (Kd.C_below Hl1.out (below_alloc (Below.refl _ _) (.cells #[.slice A1 l1.length c1] 22)))
    clear Hl1
    have Hl1 := Nl1
    clear Nl1
    have Ns := Aside0.mk (blk_below Bs.out (below_alloc (Below.refl _ _) (.cells #[.slice A1 l1.length c1] 22)))
    clear Bs
    have Bs := Ns
    clear Ns
    have NB_ := Aside0.mk (below_step HB.out (below_alloc (Below.refl _ _) (.cells #[.slice A1 l1.length c1] 22)))
    clear HB
    have HB := NB_
    clear NB_
    go_wp2_with fail
    refine (fleuronlaw18_few.calls k _ _ 1 [l1] false _ Hq1.out (by simp) HF2.out).mono ?_
    rintro e W2 ⟨rfl, hb⟩
    replace hb := hb.below
    have Nl0 := Aside0.mk (Kd.C_below Hl0.out hb)
    clear Hl0
    have Hl0 := Nl0
    clear Nl0
    have Nl1 := Aside0.mk (Kd.C_below Hl1.out hb)
    clear Hl1
    have Hl1 := Nl1
    clear Nl1
    have Nq1 := Aside0.mk (Kd.C_below Hq1.out hb)
    clear Hq1
    have Hq1 := Nq1
    clear Nq1
    have Ns := Aside0.mk (blk_below Bs.out hb)
    clear Bs
    have Bs := Ns
    clear Ns
    have NB_ := Aside0.mk (below_step HB.out hb)
    clear HB
    have HB := NB_
    clear NB_
    clear hb
    clear Hq1
    go_wp2_with fail
    ((with_reducible refine (fleuronlaw18_awake.calls true _ rfl).mono ?_); rintro e W3 ⟨rfl, hb⟩)
    have Nl0 := Aside0.mk (Kd.C_below Hl0.out hb)
    clear Hl0
    have Hl0 := Nl0
    clear Nl0
    have Nl1 := Aside0.mk (Kd.C_below Hl1.out hb)
    clear Hl1
    have Hl1 := Nl1
    clear Nl1
    have Ns := Aside0.mk (blk_below Bs.out hb)
    clear Bs
    have Bs := Ns
    clear Ns
    have NB_ := Aside0.mk (below_step HB.out hb)
    clear HB
    have HB := NB_
    clear NB_
    clear hb
    go_wp2
    go_ret
    exact ⟨rfl, HB.out⟩
  · have HF := Aside0.mk hf
    have HF2 := Aside0.mk hf2
    clear hf hf2
    have H1 := Aside0.mk h1
    have H2 := Aside0.mk h2
    clear h1 h2
    go_wp2_with fail
    refine (fleuronlaw18_few.calls k _ _ 1 [l0] true _ Hq0.out (by simp) HF.out).mono ?_
    rintro e W1 ⟨rfl, hb⟩
    replace hb := hb.below
    have Nl0 := Aside0.mk (Kd.C_below Hl0.out hb)
    clear Hl0
    have Hl0 := Nl0
    clear Nl0
    have Nl1 := Aside0.mk (Kd.C_below Hl1.out hb)
    clear Hl1
    have Hl1 := Nl1
    clear Nl1
    have Nq0 := Aside0.mk (Kd.C_below Hq0.out hb)
    clear Hq0
    have Hq0 := Nq0
    clear Nq0
    have Ns := Aside0.mk (blk_below Bs.out hb)
    clear Bs
    have Bs := Ns
    clear Ns
    have NB_ := Aside0.mk (below_step HB.out hb)
    clear HB
    have HB := NB_
    clear NB_
    clear hb
    clear Hq0
    have h_ := oneP_row (W := W1) Hl1.out HC1.out 22
    try simp only [World.size_alloc] at h_
    have Hq1 := Aside0.mk h_
    clear h_
    have Nl0 := Aside0.mk (Kd.C_below Hl0.out (below_alloc (Below.refl _ _) (.cells #[.slice A1 l1.length c1] 22)))
    clear Hl0
    have Hl0 := Nl0
    clear Nl0
    have Nl1 := Aside0.mk (Kd.C_below Hl1.out (below_alloc (Below.refl _ _) (.cells #[.slice A1 l1.length c1] 22)))
    clear Hl1
    have Hl1 := Nl1
    clear Nl1
    have Ns := Aside0.mk (blk_below Bs.out (below_alloc (Below.refl _ _) (.cells #[.slice A1 l1.length c1] 22)))
    clear Bs
    have Bs := Ns
    clear Ns
    have NB_ := Aside0.mk (below_step HB.out (below_alloc (Below.refl _ _) (.cells #[.slice A1 l1.length c1] 22)))
    clear HB
    have HB := NB_
    clear NB_
    go_wp2_with fail
    refine (fleuronlaw18_few.calls k _ _ 1 [l1] true _ Hq1.out (by simp) HF2.out).mono ?_
    rintro e W2 ⟨rfl, hb⟩
    replace hb := hb.below
    have Nl0 := Aside0.mk (Kd.C_below Hl0.out hb)
    clear Hl0
    have Hl0 := Nl0
    clear Nl0
    have Nl1 := Aside0.mk (Kd.C_below Hl1.out hb)
    clear Hl1
    have Hl1 := Nl1
    clear Nl1
    have Nq1 := Aside0.mk (Kd.C_below Hq1.out hb)
    clear Hq1
    have Hq1 := Nq1
    clear Nq1
    have Ns := Aside0.mk (blk_below Bs.out hb)
    clear Bs
    have Bs := Ns
    clear Ns
    have NB_ := Aside0.mk (below_step HB.out hb)
    clear HB
    have HB := NB_
    clear NB_
    clear hb
    clear Hq1
    have ps0 := (blk_cell Bs.out 0).trans rfl
    have ps1 := (blk_cell Bs.out 1).trans rfl
    go_wp2_with fail
    ((with_reducible refine (pen_Along.calls A0 c0 l0 A1 c1 l1 x0 y0 x e _ Hl0.out HC0.out Hl1.out HC1.out H1.out).mono ?_); rintro e W3 ⟨rfl, hb⟩)
    clear ps0
    clear ps1
    have Nl0 := Aside0.mk (Kd.C_below Hl0.out hb)
    clear Hl0
    have Hl0 := Nl0
    clear Nl0
    have Nl1 := Aside0.mk (Kd.C_below Hl1.out hb)
    clear Hl1
    have Hl1 := Nl1
    clear Nl1
    have Ns := Aside0.mk (blk_below Bs.out hb)
    clear Bs
    have Bs := Ns
    clear Ns
    have NB_ := Aside0.mk (below_step HB.out hb)
    clear HB
    have HB := NB_
    clear NB_
    clear hb
    have ps0 := (blk_cell Bs.out 0).trans rfl
    have ps1 := (blk_cell Bs.out 1).trans rfl
    go_wp2_with fail
    ((with_reducible refine (fleuronref18_Along.calls k A0 c0 l0 A1 c1 l1 x0 y0 x e _ Hl0.out HC0.out Hl1.out HC1.out H2.out).mono ?_); rintro e W4 ⟨rfl, hb⟩)
    clear ps0
    clear ps1
    have Nl0 := Aside0.mk (Kd.C_below Hl0.out hb)
    clear Hl0
    have Hl0 := Nl0
    clear Nl0
    have Nl1 := Aside0.mk (Kd.C_below Hl1.out hb)
    clear Hl1
    have Hl1 := Nl1
    clear Nl1
    have Ns := Aside0.mk (blk_below Bs.out hb)
    clear Bs
    have Bs := Ns
    clear Ns
    have NB_ := Aside0.mk (below_step HB.out hb)
    clear HB
    have HB := NB_
    clear NB_
    clear hb
    go_wp2_with fail
    ((with_reducible refine (fleuronlaw18_awake.calls true _ rfl).mono ?_); rintro e W5 ⟨rfl, hb⟩)
    have Nl0 := Aside0.mk (Kd.C_below Hl0.out hb)
    clear Hl0
    have Hl0 := Nl0
    clear Nl0
    have Nl1 := Aside0.mk (Kd.C_below Hl1.out hb)
    clear Hl1
    have Hl1 := Nl1
    clear Nl1
    have Ns := Aside0.mk (blk_below Bs.out hb)
    clear Bs
    have Bs := Ns
    clear Ns
    have NB_ := Aside0.mk (below_step HB.out hb)
    clear HB
    have HB := NB_
    clear NB_
    clear hb
    go_wp2
    go_ret
    exact ⟨rfl, HB.out⟩

end Go.Proofs.Ytnjlcmaelacjkaa.PD3

/- What functions of the program come to, each with the proof that the machine's call does just that; written by a program of this session out of the translation. -/
import Derived.Test.YtnjlcmaelacjkaaPD3x0
import Derived.Test.YtnjlcmaelacjkaaPD3x4
import Derived.Test.YtnjlcmaelacjkaaPD3x7
import Derived.Test.YtnjlcmaelacjkaaPD3x10
import Derived.Test.YtnjlcmaelacjkaaPD3x11
import Derived.Test.YtnjlcmaelacjkaaPD3x16
namespace Go.Proofs.Ytnjlcmaelacjkaa.PD3
open Go.RowKit Go.Proofs.YtnjlcmaelacjkaaW.PrintWords Go.Proofs.YtnjlcmaelacjkaaW.PrintLast Go.Proofs.YtnjlcmaelacjkaaW.PrintMore
attribute [local go_sem] max2_int min2_int max_two min_two max_three min_three max_four min_four   -- for this text's walks alone
set_option linter.unusedVariables false
set_option linter.unusedSimpArgs false

/-! ### fleuronlaw18_PenSweeps: function 8 (by hand) -/
theorem run_idx0 (w : World) (a b c d e f : Value) : (Instr.index 34 (.agg #[a, b, c, d, e, f]) (.int .i64 0)).run Try.prog w = .ok (.agg #[a, b]) w := by
  simp [Instr.index, go_sem, Try.isAgg33, Try.sizeOf33]
theorem run_idx1 (w : World) (a b c d e f : Value) : (Instr.index 34 (.agg #[a, b, c, d, e, f]) (.int .i64 1)).run Try.prog w = .ok (.agg #[c, d]) w := by
  simp [Instr.index, go_sem, Try.isAgg33, Try.sizeOf33]
theorem run_idx2 (w : World) (a b c d e f : Value) : (Instr.index 34 (.agg #[a, b, c, d, e, f]) (.int .i64 2)).run Try.prog w = .ok (.agg #[e, f]) w := by
  simp [Instr.index, go_sem, Try.isAgg33, Try.sizeOf33]
attribute [local go_sem high] run_idx0 run_idx1 run_idx2
/-- The moved points, as far as they are moved. -/
def mAt (x0 y0 x1 y1 x2 y2 d0 d1 : Int) : Nat → Array Value
  | 0 => #[.int .i64 0, .int .i64 0, .int .i64 0, .int .i64 0, .int .i64 0, .int .i64 0]
  | 1 => #[.int .i64 (wrap64 (x0 + d0)), .int .i64 (wrap64 (y0 + d1)), .int .i64 0, .int .i64 0, .int .i64 0, .int .i64 0]
  | 2 => #[.int .i64 (wrap64 (x0 + d0)), .int .i64 (wrap64 (y0 + d1)), .int .i64 (wrap64 (x1 + d0)), .int .i64 (wrap64 (y1 + d1)), .int .i64 0, .int .i64 0]
  | _ => #[.int .i64 (wrap64 (x0 + d0)), .int .i64 (wrap64 (y0 + d1)), .int .i64 (wrap64 (x1 + d0)), .int .i64 (wrap64 (y1 + d1)), .int .i64 (wrap64 (x2 + d0)), .int .i64 (wrap64 (y2 + d1))]
def fleuronlaw18_PenSweeps.P (k : Nat) (l0 : List S33) (x0 y0 x1 y1 x2 y2 d0 d1 : Int) : Prop := fleuronlaw18_few.f k 70 [l0] = some false ∨ (fleuronlaw18_few.f k 70 [l0] = some true ∧ ∃ is e, pen_Covers.f l0 x0 y0 x1 y1 x2 y2 = some (is, e) ∧ ((e = 2 ∧ is = false) ∨ (e = 0 ∧ pen_Covers.f l0 x1 y1 x0 y0 x2 y2 = some (is, 0) ∧ ∃ one, pen_Covers.f l0 x0 y0 x0 y0 x2 y2 = some (one, 0) ∧ (one = true → is = true) ∧ ∃ l h, pen_Sweep.f l0 x0 y0 x1 y1 = some (l, h) ∧ ((h = 0 ∧ fleuronref18_Has.f l x2 y2 = some is) ∨ h = 17) ∧
  (fleuronref16_In.f d0 d1 = some false ∨ (fleuronref16_In.f d0 d1 = some true ∧ (fleuronref16_All.f k [⟨wrap64 (x0 + d0), wrap64 (y0 + d1)⟩, ⟨wrap64 (x1 + d0), wrap64 (y1 + d1)⟩, ⟨wrap64 (x2 + d0), wrap64 (y2 + d1)⟩] = some false ∨ (fleuronref16_All.f k [⟨wrap64 (x0 + d0), wrap64 (y0 + d1)⟩, ⟨wrap64 (x1 + d0), wrap64 (y1 + d1)⟩, ⟨wrap64 (x2 + d0), wrap64 (y2 + d1)⟩] = some true ∧ pen_Covers.f l0 (wrap64 (x0 + d0)) (wrap64 (y0 + d1)) (wrap64 (x1 + d0)) (wrap64 (y1 + d1)) (wrap64 (x2 + d0)) (wrap64 (y2 + d1)) = some (is, 0))))))))
set_option maxHeartbeats 8000000 in
set_option maxRecDepth 100000 in
theorem fleuronlaw18_PenSweeps.calls (k : Nat) (A0 : Option Addr) (c0 : Nat) (l0 : List S33) (x0 y0 x1 y1 x2 y2 d0 d1 : Int) (w : World) (hr0 : Kd.C k33 w A0 l0.length l0) (hc0 : l0.length ≤ c0) (h : fleuronlaw18_PenSweeps.P k l0 x0 y0 x1 y1 x2 y2 d0 d1) :
    Calls Try.prog 8 #[.slice A0 l0.length c0, .agg #[.int .i64 x0, .int .i64 y0, .int .i64 x1, .int .i64 y1, .int .i64 x2, .int .i64 y2], .agg #[.int .i64 d0, .int .i64 d1]] w fun e w' => e = .returned (.bool true) ∧ Below w.heap.size w w' := by
  have hu := Try.underlying33
  have Hl0 := Aside0.mk hr0
  have HC0 := Aside0.mk hc0
  clear hr0 hc0
  have HB := Aside0.mk (Below.refl w.heap.size w)
  have hu34 := Try.underlying34
  have Nl0 := Aside0.mk (Kd.C_below Hl0.out (below_alloc (Below.refl _ _) (.cells #[.int .i64 x0, .int .i64 y0, .int .i64 x1, .int .i64 y1, .int .i64 x2, .int .i64 y2] 34)))
  clear Hl0
  have Hl0 := Nl0
  clear Nl0
  have NB_ := Aside0.mk (below_step HB.out (below_alloc (Below.refl _ _) (.cells #[.int .i64 x0, .int .i64 y0, .int .i64 x1, .int .i64 y1, .int .i64 x2, .int .i64 y2] 34)))
  clear HB
  have HB := NB_
  clear NB_
  have h_ := blk_new w (.cells #[.int .i64 x0, .int .i64 y0, .int .i64 x1, .int .i64 y1, .int .i64 x2, .int .i64 y2] 34)
  try simp only [World.size_alloc] at h_
  have Bs := Aside0.mk h_
  clear h_
  have Nl0 := Aside0.mk (Kd.C_below Hl0.out (below_alloc (Below.refl _ _) (.cells #[.int .i64 d0, .int .i64 d1] 33)))
  clear Hl0
  have Hl0 := Nl0
  clear Nl0
  have Ns := Aside0.mk (blk_below Bs.out (below_alloc (Below.refl _ _) (.cells #[.int .i64 d0, .int .i64 d1] 33)))
  clear Bs
  have Bs := Ns
  clear Ns
  have NB_ := Aside0.mk (below_step HB.out (below_alloc (Below.refl _ _) (.cells #[.int .i64 d0, .int .i64 d1] 33)))
  clear HB
  have HB := NB_
  clear NB_
  have h_ := blk_new (w.alloc (.cells #[.int .i64 x0, .int .i64 y0, .int .i64 x1, .int .i64 y1, .int .i64 x2, .int .i64 y2] 34)) (.cells #[.int .i64 d0, .int .i64 d1] 33)
  try simp only [World.size_alloc] at h_
  have Bd := Aside0.mk h_
  clear h_
  have h_ := oneP_row (W := ((w.alloc (.cells #[.int .i64 x0, .int .i64 y0, .int .i64 x1, .int .i64 y1, .int .i64 x2, .int .i64 y2] 34)).alloc (.cells #[.int .i64 d0, .int .i64 d1] 33))) Hl0.out HC0.out 22
  try simp only [World.size_alloc] at h_
  have Hq0 := Aside0.mk h_
  clear h_
  have Nl0 := Aside0.mk (Kd.C_below Hl0.out (below_alloc (Below.refl _ _) (.cells #[.slice A0 l0.length c0] 22)))
  clear Hl0
  have Hl0 := Nl0
  clear Nl0
  have Ns := Aside0.mk (blk_below Bs.out (below_alloc (Below.refl _ _) (.cells #[.slice A0 l0.length c0] 22)))
  clear Bs
  have Bs := Ns
  clear Ns
  have Nd := Aside0.mk (blk_below Bd.out (below_alloc (Below.refl _ _) (.cells #[.slice A0 l0.length c0] 22)))
  clear Bd
  have Bd := Nd
  clear Nd
  have NB_ := Aside0.mk (below_step HB.out (below_alloc (Below.refl _ _) (.cells #[.slice A0 l0.length c0] 22)))
  clear HB
  have HB := NB_
  clear NB_
  go_enter Try.func8, Try.ntmps8
  rcases h with h | ⟨hf, is, e, h1, h⟩
  · have HF := Aside0.mk h
    clear h
    go_wp2_with fail
    refine (fleuronlaw18_few.calls k _ _ 1 [l0] false _ Hq0.out (by simp) HF.out).mono ?_
    rintro e W1 ⟨rfl, hb⟩
    replace hb := hb.below
    have Nl0 := Aside0.mk (Kd.C_below Hl0.out hb)
    clear Hl0
    have Hl0 := Nl0
    clear Nl0
    have Nq0 := Aside0.mk (Kd.C_below Hq0.out hb)
    clear Hq0
    have Hq0 := Nq0
    clear Nq0
    have Ns := Aside0.mk (blk_below Bs.out hb)
    clear Bs
    have Bs := Ns
    clear Ns
    have Nd := Aside0.mk (blk_below Bd.out hb)
    clear Bd
    have Bd := Nd
    clear Nd
    have NB_ := Aside0.mk (below_step HB.out hb)
    clear HB
    have HB := NB_
    clear NB_
    clear hb
    go_wp2_with fail
    ((with_reducible refine (fleuronlaw18_awake.calls true _ rfl).mono ?_); rintro e W2 ⟨rfl, hb⟩)
    have Nl0 := Aside0.mk (Kd.C_below Hl0.out hb)
    clear Hl0
    have Hl0 := Nl0
    clear Nl0
    have Nq0 := Aside0.mk (Kd.C_below Hq0.out hb)
    clear Hq0
    have Hq0 := Nq0
    clear Nq0
    have Ns := Aside0.mk (blk_below Bs.out hb)
    clear Bs
    have Bs := Ns
    clear Ns
    have Nd := Aside0.mk (blk_below Bd.out hb)
    clear Bd
    have Bd := Nd
    clear Nd
    have NB_ := Aside0.mk (below_step HB.out hb)
    clear HB
    have HB := NB_
    clear NB_
    clear hb
    go_wp2
    go_ret
    exact ⟨rfl, HB.out⟩
  · have HF := Aside0.mk hf
    have H1 := Aside0.mk h1
    have HX := Aside0.mk h
    clear hf h1 h
    go_wp2_with fail
    refine (fleuronlaw18_few.calls k _ _ 1 [l0] true _ Hq0.out (by simp) HF.out).mono ?_
    rintro e W1 ⟨rfl, hb⟩
    replace hb := hb.below
    have Nl0 := Aside0.mk (Kd.C_below Hl0.out hb)
    clear Hl0
    have Hl0 := Nl0
    clear Nl0
    have Nq0 := Aside0.mk (Kd.C_below Hq0.out hb)
    clear Hq0
    have Hq0 := Nq0
    clear Nq0
    have Ns := Aside0.mk (blk_below Bs.out hb)
    clear Bs
    have Bs := Ns
    clear Ns
    have Nd := Aside0.mk (blk_below Bd.out hb)
    clear Bd
    have Bd := Nd
    clear Nd
    have NB_ := Aside0.mk (below_step HB.out hb)
    clear HB
    have HB := NB_
    clear NB_
    clear hb
    clear Hq0
    have ps0 := (blk_cell Bs.out 0).trans rfl
    have ps1 := (blk_cell Bs.out 1).trans rfl
    have ps2 := (blk_cell Bs.out 2).trans rfl
    have ps3 := (blk_cell Bs.out 3).trans rfl
    have ps4 := (blk_cell Bs.out 4).trans rfl
    have ps5 := (blk_cell Bs.out 5).trans rfl
    go_upto_region 3 with (fail)
    go_cut [7, 8, 9] (fun v7 v8 v9 wc => ∃ g7 g8 g9 : Nat, v7 = .pointer (some ⟨g7, 0, none⟩) ∧ v8 = .pointer (some ⟨g8, 0, none⟩) ∧ v9 = .pointer (some ⟨g9, 0, none⟩) ∧ Aside0 (wc.heap[g7]? = some (.cells #[.int .i64 x0, .int .i64 y0] 33 (0, 0))) ∧ Aside0 (wc.heap[g8]? = some (.cells #[.int .i64 x1, .int .i64 y1] 33 (0, 0))) ∧ Aside0 (wc.heap[g9]? = some (.cells #[.int .i64 x2, .int .i64 y2] 33 (0, 0))) ∧ Aside0 (Below W1.heap.size W1 wc))
    case first =>
      clear HX HF H1 Hl0 Bs Bd HB
      go_region_held3 (fun w' => w'.cell? ⟨w.heap.size, 0, none⟩ = some (.int .i64 x0) ∧ w'.cell? ⟨w.heap.size, 1, none⟩ = some (.int .i64 y0) ∧ w'.cell? ⟨w.heap.size, 2, none⟩ = some (.int .i64 x1) ∧ w'.cell? ⟨w.heap.size, 3, none⟩ = some (.int .i64 y1) ∧ w'.cell? ⟨w.heap.size, 4, none⟩ = some (.int .i64 x2) ∧ w'.cell? ⟨w.heap.size, 5, none⟩ = some (.int .i64 y2)) (first | exact ⟨ps0, ps1, ps2, ps3, ps4, ps5⟩ | exact ⟨((below_drew1 (below_alloc (Below.refl W1.heap.size W1) _)).cell (World.block_lt_of_cell? _ _ ps0)).trans ps0, ((below_drew1 (below_alloc (Below.refl W1.heap.size W1) _)).cell (World.block_lt_of_cell? _ _ ps1)).trans ps1, ((below_drew1 (below_alloc (Below.refl W1.heap.size W1) _)).cell (World.block_lt_of_cell? _ _ ps2)).trans ps2, ((below_drew1 (below_alloc (Below.refl W1.heap.size W1) _)).cell (World.block_lt_of_cell? _ _ ps3)).trans ps3, ((below_drew1 (below_alloc (Below.refl W1.heap.size W1) _)).cell (World.block_lt_of_cell? _ _ ps4)).trans ps4, ((below_drew1 (below_alloc (Below.refl W1.heap.size W1) _)).cell (World.block_lt_of_cell? _ _ ps5)).trans ps5⟩ | exact ⟨((below_drew1 (below_alloc (below_alloc (Below.refl W1.heap.size W1) _) _)).cell (World.block_lt_of_cell? _ _ ps0)).trans ps0, ((below_drew1 (below_alloc (below_alloc (Below.refl W1.heap.size W1) _) _)).cell (World.block_lt_of_cell? _ _ ps1)).trans ps1, ((below_drew1 (below_alloc (below_alloc (Below.refl W1.heap.size W1) _) _)).cell (World.block_lt_of_cell? _ _ ps2)).trans ps2, ((below_drew1 (below_alloc (below_alloc (Below.refl W1.heap.size W1) _) _)).cell (World.block_lt_of_cell? _ _ ps3)).trans ps3, ((below_drew1 (below_alloc (below_alloc (Below.refl W1.heap.size W1) _) _)).cell (World.block_lt_of_cell? _ _ ps4)).trans ps4, ((below_drew1 (below_alloc (below_alloc (Below.refl W1.heap.size W1) _) _)).cell (World.block_lt_of_cell? _ _ ps5)).trans ps5⟩ | exact ⟨((below_drew1 (below_alloc (below_alloc (below_alloc (Below.refl W1.heap.size W1) _) _) _)).cell (World.block_lt_of_cell? _ _ ps0)).trans ps0, ((below_drew1 (below_alloc (below_alloc (below_alloc (Below.refl W1.heap.size W1) _) _) _)).cell (World.block_lt_of_cell? _ _ ps1)).trans ps1, ((below_drew1 (below_alloc (below_alloc (below_alloc (Below.refl W1.heap.size W1) _) _) _)).cell (World.block_lt_of_cell? _ _ ps2)).trans ps2, ((below_drew1 (below_alloc (below_alloc (below_alloc (Below.refl W1.heap.size W1) _) _) _)).cell (World.block_lt_of_cell? _ _ ps3)).trans ps3, ((below_drew1 (below_alloc (below_alloc (below_alloc (Below.refl W1.heap.size W1) _) _) _)).cell (World.block_lt_of_cell? _ _ ps4)).trans ps4, ((below_drew1 (below_alloc (below_alloc (below_alloc (Below.refl W1.heap.size W1) _) _) _)).cell (World.block_lt_of_cell? _ _ ps5)).trans ps5⟩) (fail)
      all_goals go_wp2
      all_goals go_meet
      all_goals (case rel => exact ⟨_, _, _, rfl, rfl, rfl, ⟨by first | exact blk_drew (blk_alloc (blk_alloc (blk_new _ _) _) _) | exact blk_drew (blk_alloc (blk_new2 _ _ _) _) | exact blk_drew (blk_new3 _ _ _ _)⟩, ⟨by first | exact blk_drew (blk_alloc (blk_alloc (blk_new _ _) _) _) | exact blk_drew (blk_alloc (blk_new2 _ _ _) _) | exact blk_drew (blk_new3 _ _ _ _)⟩, ⟨by first | exact blk_drew (blk_alloc (blk_alloc (blk_new _ _) _) _) | exact blk_drew (blk_alloc (blk_new2 _ _ _) _) | exact blk_drew (blk_new3 _ _ _ _)⟩, ⟨below_drew1 (below_alloc (below_alloc (below_alloc (Below.refl _ _) _) _) _)⟩⟩)
    case rest =>
      obtain ⟨g7, g8, g9, rfl, rfl, rfl, Bp, Bq, Br, hb_⟩ := hcut
      have hb := hb_.out
      clear hb_
      clear ps0
      clear ps1
      clear ps2
      clear ps3
      clear ps4
      clear ps5
      have Nl0 := Aside0.mk (Kd.C_below Hl0.out hb)
      clear Hl0
      have Hl0 := Nl0
      clear Nl0
      have Ns := Aside0.mk (blk_below Bs.out hb)
      clear Bs
      have Bs := Ns
      clear Ns
      have Nd := Aside0.mk (blk_below Bd.out hb)
      clear Bd
      have Bd := Nd
      clear Nd
      have NB_ := Aside0.mk (below_step HB.out hb)
      clear HB
      have HB := NB_
      clear NB_
      clear hb
      have pp0 := (blk_cell Bp.out 0).trans rfl
      have pp1 := (blk_cell Bp.out 1).trans rfl
      have pq0 := (blk_cell Bq.out 0).trans rfl
      have pq1 := (blk_cell Bq.out 1).trans rfl
      have pr0 := (blk_cell Br.out 0).trans rfl
      have pr1 := (blk_cell Br.out 1).trans rfl
      go_wp2_with fail
      ((with_reducible refine (pen_Covers.calls A0 c0 l0 x0 y0 x1 y1 x2 y2 is e _ Hl0.out HC0.out H1.out).mono ?_); rintro e W2 ⟨rfl, hb⟩)
      clear pp0
      clear pp1
      clear pq0
      clear pq1
      clear pr0
      clear pr1
      have Nl0 := Aside0.mk (Kd.C_below Hl0.out hb)
      clear Hl0
      have Hl0 := Nl0
      clear Nl0
      have Ns := Aside0.mk (blk_below Bs.out hb)
      clear Bs
      have Bs := Ns
      clear Ns
      have Nd := Aside0.mk (blk_below Bd.out hb)
      clear Bd
      have Bd := Nd
      clear Nd
      have Np := Aside0.mk (blk_below Bp.out hb)
      clear Bp
      have Bp := Np
      clear Np
      have Nq := Aside0.mk (blk_below Bq.out hb)
      clear Bq
      have Bq := Nq
      clear Nq
      have Nr := Aside0.mk (blk_below Br.out hb)
      clear Br
      have Br := Nr
      clear Nr
      have NB_ := Aside0.mk (below_step HB.out hb)
      clear HB
      have HB := NB_
      clear NB_
      clear hb
      have h := HX.out
      clear HX
      rcases h with ⟨rfl, rfl⟩ | ⟨rfl, h2, one, h3, ho, l, h, h4, h5, h6⟩
      · clear H1
        go_wp2_with fail
        ((with_reducible refine (fleuronlaw18_awake.calls true _ rfl).mono ?_); rintro e W3 ⟨rfl, hb⟩)
        have Nl0 := Aside0.mk (Kd.C_below Hl0.out hb)
        clear Hl0
        have Hl0 := Nl0
        clear Nl0
        have Ns := Aside0.mk (blk_below Bs.out hb)
        clear Bs
        have Bs := Ns
        clear Ns
        have Nd := Aside0.mk (blk_below Bd.out hb)
        clear Bd
        have Bd := Nd
        clear Nd
        have Np := Aside0.mk (blk_below Bp.out hb)
        clear Bp
        have Bp := Np
        clear Np
        have Nq := Aside0.mk (blk_below Bq.out hb)
        clear Bq
        have Bq := Nq
        clear Nq
        have Nr := Aside0.mk (blk_below Br.out hb)
        clear Br
        have Br := Nr
        clear Nr
        have NB_ := Aside0.mk (below_step HB.out hb)
        clear HB
        have HB := NB_
        clear NB_
        clear hb
        go_wp2
        go_ret
        exact ⟨rfl, HB.out⟩
      · have H2 := Aside0.mk h2
        have H3 := Aside0.mk h3
        have H4 := Aside0.mk h4
        have H5 := Aside0.mk h5
        have H6 := Aside0.mk h6
        have HO := Aside0.mk ho
        clear h2 h3 h4 h5 h6 ho
        have pp0 := (blk_cell Bp.out 0).trans rfl
        have pp1 := (blk_cell Bp.out 1).trans rfl
        have pq0 := (blk_cell Bq.out 0).trans rfl
        have pq1 := (blk_cell Bq.out 1).trans rfl
        have pr0 := (blk_cell Br.out 0).trans rfl
        have pr1 := (blk_cell Br.out 1).trans rfl
        go_wp2_with fail
        ((with_reducible refine (pen_Covers.calls A0 c0 l0 x1 y1 x0 y0 x2 y2 is 0 _ Hl0.out HC0.out H2.out).mono ?_); rintro e W3 ⟨rfl, hb⟩)
        clear pp0
        clear pp1
        clear pq0
        clear pq1
        clear pr0
        clear pr1
        have Nl0 := Aside0.mk (Kd.C_below Hl0.out hb)
        clear Hl0
        have Hl0 := Nl0
        clear Nl0
        have Ns := Aside0.mk (blk_below Bs.out hb)
        clear Bs
        have Bs := Ns
        clear Ns
        have Nd := Aside0.mk (blk_below Bd.out hb)
        clear Bd
        have Bd := Nd
        clear Nd
        have Np := Aside0.mk (blk_below Bp.out hb)
        clear Bp
        have Bp := Np
        clear Np
        have Nq := Aside0.mk (blk_below Bq.out hb)
        clear Bq
        have Bq := Nq
        clear Nq
        have Nr := Aside0.mk (blk_below Br.out hb)
        clear Br
        have Br := Nr
        clear Nr
        have NB_ := Aside0.mk (below_step HB.out hb)
        clear HB
        have HB := NB_
        clear NB_
        clear hb
        have pp0 := (blk_cell Bp.out 0).trans rfl
        have pp1 := (blk_cell Bp.out 1).trans rfl
        have pq0 := (blk_cell Bq.out 0).trans rfl
        have pq1 := (blk_cell Bq.out 1).trans rfl
        have pr0 := (blk_cell Br.out 0).trans rfl
        have pr1 := (blk_cell Br.out 1).trans rfl
        go_wp2_with fail
        ((with_reducible refine (pen_Covers.calls A0 c0 l0 x0 y0 x0 y0 x2 y2 one 0 _ Hl0.out HC0.out H3.out).mono ?_); rintro e W4 ⟨rfl, hb⟩)
        clear pp0
        clear pp1
        clear pq0
        clear pq1
        clear pr0
        clear pr1
        have Nl0 := Aside0.mk (Kd.C_below Hl0.out hb)
        clear Hl0
        have Hl0 := Nl0
        clear Nl0
        have Ns := Aside0.mk (blk_below Bs.out hb)
        clear Bs
        have Bs := Ns
        clear Ns
        have Nd := Aside0.mk (blk_below Bd.out hb)
        clear Bd
        have Bd := Nd
        clear Nd
        have Np := Aside0.mk (blk_below Bp.out hb)
        clear Bp
        have Bp := Np
        clear Np
        have Nq := Aside0.mk (blk_below Bq.out hb)
        clear Bq
        have Bq := Nq
        clear Nq
        have Nr := Aside0.mk (blk_below Br.out hb)
        clear Br
        have Br := Nr
        clear Nr
        have NB_ := Aside0.mk (below_step HB.out hb)
        clear HB
        have HB := NB_
        clear NB_
        clear hb
        have pp0 := (blk_cell Bp.out 0).trans rfl
        have pp1 := (blk_cell Bp.out 1).trans rfl
        have pq0 := (blk_cell Bq.out 0).trans rfl
        have pq1 := (blk_cell Bq.out 1).trans rfl
        go_wp2_with fail
        ((with_reducible refine (pen_Sweep.calls A0 c0 l0 x0 y0 x1 y1 l h _ Hl0.out HC0.out H4.out).mono ?_); rintro e W5 ⟨vz, rfl, hr, hb⟩)
        clear pp0
        clear pp1
        clear pq0
        clear pq1
        have Nl0 := Aside0.mk (Kd.C_below Hl0.out hb)
        clear Hl0
        have Hl0 := Nl0
        clear Nl0
        have Ns := Aside0.mk (blk_below Bs.out hb)
        clear Bs
        have Bs := Ns
        clear Ns
        have Nd := Aside0.mk (blk_below Bd.out hb)
        clear Bd
        have Bd := Nd
        clear Nd
        have Np := Aside0.mk (blk_below Bp.out hb)
        clear Bp
        have Bp := Np
        clear Np
        have Nq := Aside0.mk (blk_below Bq.out hb)
        clear Bq
        have Bq := Nq
        clear Nq
        have Nr := Aside0.mk (blk_below Br.out hb)
        clear Br
        have Br := Nr
        clear Nr
        have NB_ := Aside0.mk (below_step HB.out hb)
        clear HB
        have HB := NB_
        clear NB_
        obtain ⟨Az, cz, rfl, hcz, hC⟩ := Kd.R_reads hr
        have Hz := Aside0.mk hC
        clear hC hr hb
        go_upto_region 10 with (fail)
        go_cut [99] (fun v99 wc => v99 = .bool false ∧ W5 = wc)
        case first =>
          have hh : h = 0 ∨ h = 17 := by rcases H5.out with ⟨h, _⟩ | h; exact .inl h; exact .inr h
          have ho := HO.out
          clear H5 H6 HO
          rcases hh with rfl | rfl <;> cases is <;> cases one
          all_goals first | (exact absurd (ho rfl) (by decide)) | (clear ho; go_wp2; go_meet; case rel => exact ⟨rfl, rfl⟩)
        case rest =>
          obtain ⟨rfl, rfl⟩ := hcut
          have pr0 := (blk_cell Br.out 0).trans rfl
          have pr1 := (blk_cell Br.out 1).trans rfl
          go_upto_region 12 with (fail)
          go_cut [108] (fun v108 wd => v108 = .bool false ∧ Aside0 (Below W5.heap.size W5 wd))
          case first =>
            rcases H5.out with ⟨rfl, hh⟩ | rfl
            · have HH := Aside0.mk hh
              clear hh H5 H6 HO
              go_wp2_with fail
              ((with_reducible refine (fleuronref18_Has.calls _ _ l x2 y2 is _ Hz.out hcz HH.out).mono ?_); rintro e W_ ⟨rfl, hb⟩)
              go_wp2
              go_meet
              case rel => exact ⟨by simp, ⟨hb⟩⟩
            · clear H5 H6 HO
              go_wp2
              go_meet
              case rel => exact ⟨rfl, ⟨Below.refl _ _⟩⟩
          case rest =>
            obtain ⟨rfl, hb_⟩ := hcut
            have hb := hb_.out
            clear hb_
            clear pr0
            clear pr1
            have Nl0 := Aside0.mk (Kd.C_below Hl0.out hb)
            clear Hl0
            have Hl0 := Nl0
            clear Nl0
            have Nz := Aside0.mk (Kd.C_below Hz.out hb)
            clear Hz
            have Hz := Nz
            clear Nz
            have Ns := Aside0.mk (blk_below Bs.out hb)
            clear Bs
            have Bs := Ns
            clear Ns
            have Nd := Aside0.mk (blk_below Bd.out hb)
            clear Bd
            have Bd := Nd
            clear Nd
            have Np := Aside0.mk (blk_below Bp.out hb)
            clear Bp
            have Bp := Np
            clear Np
            have Nq := Aside0.mk (blk_below Bq.out hb)
            clear Bq
            have Bq := Nq
            clear Nq
            have Nr := Aside0.mk (blk_below Br.out hb)
            clear Br
            have Br := Nr
            clear Nr
            have NB_ := Aside0.mk (below_step HB.out hb)
            clear HB
            have HB := NB_
            clear NB_
            clear hb H5
            clear Hz
            clear Bp
            clear Bq
            clear Br
            have h6 := H6.out
            clear H6 HO
            have ps0 := (blk_cell Bs.out 0).trans rfl
            have ps1 := (blk_cell Bs.out 1).trans rfl
            have ps2 := (blk_cell Bs.out 2).trans rfl
            have ps3 := (blk_cell Bs.out 3).trans rfl
            have ps4 := (blk_cell Bs.out 4).trans rfl
            have ps5 := (blk_cell Bs.out 5).trans rfl
            have z0 := ((below_alloc (Below.refl wc.heap.size wc) (.cells #[.int .i64 0, .int .i64 0, .int .i64 0, .int .i64 0, .int .i64 0, .int .i64 0] 34)).cell (World.block_lt_of_cell? _ _ ps0)).trans ps0
            have z1 := ((below_alloc (Below.refl wc.heap.size wc) (.cells #[.int .i64 0, .int .i64 0, .int .i64 0, .int .i64 0, .int .i64 0, .int .i64 0] 34)).cell (World.block_lt_of_cell? _ _ ps1)).trans ps1
            have z2 := ((below_alloc (Below.refl wc.heap.size wc) (.cells #[.int .i64 0, .int .i64 0, .int .i64 0, .int .i64 0, .int .i64 0, .int .i64 0] 34)).cell (World.block_lt_of_cell? _ _ ps2)).trans ps2
            have z3 := ((below_alloc (Below.refl wc.heap.size wc) (.cells #[.int .i64 0, .int .i64 0, .int .i64 0, .int .i64 0, .int .i64 0, .int .i64 0] 34)).cell (World.block_lt_of_cell? _ _ ps3)).trans ps3
            have z4 := ((below_alloc (Below.refl wc.heap.size wc) (.cells #[.int .i64 0, .int .i64 0, .int .i64 0, .int .i64 0, .int .i64 0, .int .i64 0] 34)).cell (World.block_lt_of_cell? _ _ ps4)).trans ps4
            have z5 := ((below_alloc (Below.refl wc.heap.size wc) (.cells #[.int .i64 0, .int .i64 0, .int .i64 0, .int .i64 0, .int .i64 0, .int .i64 0] 34)).cell (World.block_lt_of_cell? _ _ ps5)).trans ps5
            clear ps0 ps1 ps2 ps3 ps4 ps5
            go_wp2
            go_loopg [110] 3 (fun gg s110 wr => ∃ kk : Nat, kk ≤ 3 ∧ 3 ≤ gg + kk ∧ s110 = .int .i64 kk ∧ Aside0 (Below wc.heap.size wc wr) ∧ Aside0 (wr.heap[wc.heap.size]? = some (.cells (mAt x0 y0 x1 y1 x2 y2 d0 d1 kk) 34 (0, 0))))
            case atStart => exact ⟨0, by omega, by omega, rfl, ⟨below_alloc (Below.refl _ _) _⟩, ⟨blk_new wc (.cells #[.int .i64 0, .int .i64 0, .int .i64 0, .int .i64 0, .int .i64 0, .int .i64 0] 34)⟩⟩
            case round =>
              obtain ⟨kk, hkk, hgg, rfl, HBr, Bm⟩ := hrel
              clear z0 z1 z2 z3 z4 z5
              have Bd2 := Aside0.mk (blk_below Bd.out HBr.out)
              clear Bd
              rcases (show kk = 0 ∨ kk = 1 ∨ kk = 2 ∨ kk = 3 by omega) with rfl | rfl | rfl | rfl
              · have hlt : (0 : Nat) ≤ 3 := by omega
                have Bm0 : wr.heap[wc.heap.size]? = some (.cells #[.int .i64 0, .int .i64 0, .int .i64 0, .int .i64 0, .int .i64 0, .int .i64 0] 34 (0, 0)) := Bm.out
                have Vd := blk_alloc Bd2.out (.cells #[.int .i64 x0, .int .i64 y0] 33)
                have Vx := blk_new wr (.cells #[.int .i64 x0, .int .i64 y0] 33)
                have Vm := blk_alloc Bm0 (.cells #[.int .i64 x0, .int .i64 y0] 33)
                have q0 := (blk_cell Vd 0).trans rfl
                have q1 := (blk_cell Vd 1).trans rfl
                have q2 := (blk_cell Vx 0).trans rfl
                have q3 := (blk_cell Vx 1).trans rfl
                have a0 := (blk_cell Vm 0).trans rfl
                have a1 := (blk_cell Vm 1).trans rfl
                have f0 := blk_frozen Vm 0
                have V1 := blk_set Vm 0 (.int .i64 (wrap64 (x0 + d0)))
                have a2 := (blk_cell V1 1).trans rfl
                have f1 := blk_frozen V1 1
                have V2 := Aside0.mk (blk_set V1 1 (.int .i64 (wrap64 (y0 + d1))))
                clear Vd Vx Vm V1 h6 Bm0
                go_wp2
                go_roundg 2
                case measure => omega
                case rel => exact ⟨1, by omega, by omega, by first | rfl | (simp; done), ⟨below_set (below_set (below_alloc HBr.out _) (Nat.le_refl _)) (Nat.le_refl _)⟩, V2⟩
              · have hlt : (0 : Nat) ≤ 3 := by omega
                have Bm0 : wr.heap[wc.heap.size]? = some (.cells #[.int .i64 (wrap64 (x0 + d0)), .int .i64 (wrap64 (y0 + d1)), .int .i64 0, .int .i64 0, .int .i64 0, .int .i64 0] 34 (0, 0)) := Bm.out
                have Vd := blk_alloc Bd2.out (.cells #[.int .i64 x1, .int .i64 y1] 33)
                have Vx := blk_new wr (.cells #[.int .i64 x1, .int .i64 y1] 33)
                have Vm := blk_alloc Bm0 (.cells #[.int .i64 x1, .int .i64 y1] 33)
                have q0 := (blk_cell Vd 0).trans rfl
                have q1 := (blk_cell Vd 1).trans rfl
                have q2 := (blk_cell Vx 0).trans rfl
                have q3 := (blk_cell Vx 1).trans rfl
                have a0 := (blk_cell Vm 2).trans rfl
                have a1 := (blk_cell Vm 3).trans rfl
                have f0 := blk_frozen Vm 2
                have V1 := blk_set Vm 2 (.int .i64 (wrap64 (x1 + d0)))
                have a2 := (blk_cell V1 3).trans rfl
                have f1 := blk_frozen V1 3
                have V2 := Aside0.mk (blk_set V1 3 (.int .i64 (wrap64 (y1 + d1))))
                clear Vd Vx Vm V1 h6 Bm0
                go_wp2
                go_roundg 1
                case measure => omega
                case rel => exact ⟨2, by omega, by omega, by first | rfl | (simp; done), ⟨below_set (below_set (below_alloc HBr.out _) (Nat.le_refl _)) (Nat.le_refl _)⟩, V2⟩
              · have hlt : (0 : Nat) ≤ 3 := by omega
                have Bm0 : wr.heap[wc.heap.size]? = some (.cells #[.int .i64 (wrap64 (x0 + d0)), .int .i64 (wrap64 (y0 + d1)), .int .i64 (wrap64 (x1 + d0)), .int .i64 (wrap64 (y1 + d1)), .int .i64 0, .int .i64 0] 34 (0, 0)) := Bm.out
                have Vd := blk_alloc Bd2.out (.cells #[.int .i64 x2, .int .i64 y2] 33)
                have Vx := blk_new wr (.cells #[.int .i64 x2, .int .i64 y2] 33)
                have Vm := blk_alloc Bm0 (.cells #[.int .i64 x2, .int .i64 y2] 33)
                have q0 := (blk_cell Vd 0).trans rfl
                have q1 := (blk_cell Vd 1).trans rfl
                have q2 := (blk_cell Vx 0).trans rfl
                have q3 := (blk_cell Vx 1).trans rfl
                have a0 := (blk_cell Vm 4).trans rfl
                have a1 := (blk_cell Vm 5).trans rfl
                have f0 := blk_frozen Vm 4
                have V1 := blk_set Vm 4 (.int .i64 (wrap64 (x2 + d0)))
                have a2 := (blk_cell V1 5).trans rfl
                have f1 := blk_frozen V1 5
                have V2 := Aside0.mk (blk_set V1 5 (.int .i64 (wrap64 (y2 + d1))))
                clear Vd Vx Vm V1 h6 Bm0
                go_wp2
                go_roundg 0
                case measure => omega
                case rel => exact ⟨3, by omega, by omega, by first | rfl | (simp; done), ⟨below_set (below_set (below_alloc HBr.out _) (Nat.le_refl _)) (Nat.le_refl _)⟩, V2⟩
              · have hb := HBr.out
                clear HBr
                have Nl0 := Aside0.mk (Kd.C_below Hl0.out hb)
                clear Hl0
                have Hl0 := Nl0
                clear Nl0
                have Ns := Aside0.mk (blk_below Bs.out hb)
                clear Bs
                have Bs := Ns
                clear Ns
                have NB_ := Aside0.mk (below_step HB.out hb)
                clear HB
                have HB := NB_
                clear NB_
                clear hb
                have Bd := Bd2
                clear Bd2
                clear Bs
                have Bm := Aside0.mk (show wr.heap[wc.heap.size]? = some (.cells #[.int .i64 (wrap64 (x0 + d0)), .int .i64 (wrap64 (y0 + d1)), .int .i64 (wrap64 (x1 + d0)), .int .i64 (wrap64 (y1 + d1)), .int .i64 (wrap64 (x2 + d0)), .int .i64 (wrap64 (y2 + d1))] 34 (0, 0)) from Bm.out)
                have pd0 := (blk_cell Bd.out 0).trans rfl
                have pd1 := (blk_cell Bd.out 1).trans rfl
                rcases h6 with h7 | ⟨h7, h8 | ⟨h8, h9⟩⟩
                · have H7 := Aside0.mk h7
                  clear h7
                  go_wp2_with fail
                  ((with_reducible refine (fleuronref16_In.calls d0 d1 false _ H7.out).mono ?_); rintro e W6 ⟨rfl, hb⟩)
                  clear pd0
                  clear pd1
                  have Nl0 := Aside0.mk (Kd.C_below Hl0.out hb)
                  clear Hl0
                  have Hl0 := Nl0
                  clear Nl0
                  have Nd := Aside0.mk (blk_below Bd.out hb)
                  clear Bd
                  have Bd := Nd
                  clear Nd
                  have Nm := Aside0.mk (blk_below Bm.out hb)
                  clear Bm
                  have Bm := Nm
                  clear Nm
                  have NB_ := Aside0.mk (below_step HB.out hb)
                  clear HB
                  have HB := NB_
                  clear NB_
                  clear hb
                  go_wp2_with fail
                  ((with_reducible refine (fleuronlaw18_awake.calls true _ rfl).mono ?_); rintro e W7 ⟨rfl, hb⟩)
                  have Nl0 := Aside0.mk (Kd.C_below Hl0.out hb)
                  clear Hl0
                  have Hl0 := Nl0
                  clear Nl0
                  have Nd := Aside0.mk (blk_below Bd.out hb)
                  clear Bd
                  have Bd := Nd
                  clear Nd
                  have Nm := Aside0.mk (blk_below Bm.out hb)
                  clear Bm
                  have Bm := Nm
                  clear Nm
                  have NB_ := Aside0.mk (below_step HB.out hb)
                  clear HB
                  have HB := NB_
                  clear NB_
                  clear hb
                  go_wp2
                  go_ret
                  exact ⟨rfl, HB.out⟩
                · have H7 := Aside0.mk h7
                  have H8 := Aside0.mk h8
                  clear h7 h8
                  go_wp2_with fail
                  ((with_reducible refine (fleuronref16_In.calls d0 d1 true _ H7.out).mono ?_); rintro e W6 ⟨rfl, hb⟩)
                  clear pd0
                  clear pd1
                  have Nl0 := Aside0.mk (Kd.C_below Hl0.out hb)
                  clear Hl0
                  have Hl0 := Nl0
                  clear Nl0
                  have Nd := Aside0.mk (blk_below Bd.out hb)
                  clear Bd
                  have Bd := Nd
                  clear Nd
                  have Nm := Aside0.mk (blk_below Bm.out hb)
                  clear Bm
                  have Bm := Nm
                  clear Nm
                  have NB_ := Aside0.mk (below_step HB.out hb)
                  clear HB
                  have HB := NB_
                  clear NB_
                  clear hb
                  have HM := Aside0.mk (C_of_blk (l := [⟨(wrap64 (x0 + d0)), (wrap64 (y0 + d1))⟩, ⟨(wrap64 (x1 + d0)), (wrap64 (y1 + d1))⟩, ⟨(wrap64 (x2 + d0)), (wrap64 (y2 + d1))⟩]) Bm.out (pts3 ⟨(wrap64 (x0 + d0)), (wrap64 (y0 + d1))⟩ ⟨(wrap64 (x1 + d0)), (wrap64 (y1 + d1))⟩ ⟨(wrap64 (x2 + d0)), (wrap64 (y2 + d1))⟩) (by simp))
                  go_wp2_with fail
                  refine (fleuronref16_All.calls k (some ⟨wc.heap.size, 0, none⟩) 3 [⟨(wrap64 (x0 + d0)), (wrap64 (y0 + d1))⟩, ⟨(wrap64 (x1 + d0)), (wrap64 (y1 + d1))⟩, ⟨(wrap64 (x2 + d0)), (wrap64 (y2 + d1))⟩] false _ HM.out (by simp) H8.out).mono ?_
                  rintro e W7 ⟨rfl, hb⟩
                  have Nl0 := Aside0.mk (Kd.C_below Hl0.out hb)
                  clear Hl0
                  have Hl0 := Nl0
                  clear Nl0
                  have Nd := Aside0.mk (blk_below Bd.out hb)
                  clear Bd
                  have Bd := Nd
                  clear Nd
                  have Nm := Aside0.mk (blk_below Bm.out hb)
                  clear Bm
                  have Bm := Nm
                  clear Nm
                  have NB_ := Aside0.mk (below_step HB.out hb)
                  clear HB
                  have HB := NB_
                  clear NB_
                  clear hb
                  clear HM
                  go_wp2_with fail
                  ((with_reducible refine (fleuronlaw18_awake.calls true _ rfl).mono ?_); rintro e W8 ⟨rfl, hb⟩)
                  have Nl0 := Aside0.mk (Kd.C_below Hl0.out hb)
                  clear Hl0
                  have Hl0 := Nl0
                  clear Nl0
                  have Nd := Aside0.mk (blk_below Bd.out hb)
                  clear Bd
                  have Bd := Nd
                  clear Nd
                  have Nm := Aside0.mk (blk_below Bm.out hb)
                  clear Bm
                  have Bm := Nm
                  clear Nm
                  have NB_ := Aside0.mk (below_step HB.out hb)
                  clear HB
                  have HB := NB_
                  clear NB_
                  clear hb
                  go_wp2
                  go_ret
                  exact ⟨rfl, HB.out⟩
                · have H7 := Aside0.mk h7
                  have H8 := Aside0.mk h8
                  clear h7 h8
                  have H9 := Aside0.mk h9
                  clear h9
                  go_wp2_with fail
                  ((with_reducible refine (fleuronref16_In.calls d0 d1 true _ H7.out).mono ?_); rintro e W6 ⟨rfl, hb⟩)
                  clear pd0
                  clear pd1
                  have Nl0 := Aside0.mk (Kd.C_below Hl0.out hb)
                  clear Hl0
                  have Hl0 := Nl0
                  clear Nl0
                  have Nd := Aside0.mk (blk_below Bd.out hb)
                  clear Bd
                  have Bd := Nd
                  clear Nd
                  have Nm := Aside0.mk (blk_below Bm.out hb)
                  clear Bm
                  have Bm := Nm
                  clear Nm
                  have NB_ := Aside0.mk (below_step HB.out hb)
                  clear HB
                  have HB := NB_
                  clear NB_
                  clear hb
                  have HM := Aside0.mk (C_of_blk (l := [⟨(wrap64 (x0 + d0)), (wrap64 (y0 + d1))⟩, ⟨(wrap64 (x1 + d0)), (wrap64 (y1 + d1))⟩, ⟨(wrap64 (x2 + d0)), (wrap64 (y2 + d1))⟩]) Bm.out (pts3 ⟨(wrap64 (x0 + d0)), (wrap64 (y0 + d1))⟩ ⟨(wrap64 (x1 + d0)), (wrap64 (y1 + d1))⟩ ⟨(wrap64 (x2 + d0)), (wrap64 (y2 + d1))⟩) (by simp))
                  go_wp2_with fail
                  refine (fleuronref16_All.calls k (some ⟨wc.heap.size, 0, none⟩) 3 [⟨(wrap64 (x0 + d0)), (wrap64 (y0 + d1))⟩, ⟨(wrap64 (x1 + d0)), (wrap64 (y1 + d1))⟩, ⟨(wrap64 (x2 + d0)), (wrap64 (y2 + d1))⟩] true _ HM.out (by simp) H8.out).mono ?_
                  rintro e W7 ⟨rfl, hb⟩
                  have Nl0 := Aside0.mk (Kd.C_below Hl0.out hb)
                  clear Hl0
                  have Hl0 := Nl0
                  clear Nl0
                  have Nd := Aside0.mk (blk_below Bd.out hb)
                  clear Bd
                  have Bd := Nd
                  clear Nd
                  have Nm := Aside0.mk (blk_below Bm.out hb)
                  clear Bm
                  have Bm := Nm
                  clear Nm
                  have NB_ := Aside0.mk (below_step HB.out hb)
                  clear HB
                  have HB := NB_
                  clear NB_
                  clear hb
                  clear HM
                  have pm0 := (blk_cell Bm.out 0).trans rfl
                  have pm1 := (blk_cell Bm.out 1).trans rfl
                  have pm2 := (blk_cell Bm.out 2).trans rfl
                  have pm3 := (blk_cell Bm.out 3).trans rfl
                  have pm4 := (blk_cell Bm.out 4).trans rfl
                  have pm5 := (blk_cell Bm.out 5).trans rfl
                  go_wp2_with fail
                  ((with_reducible refine (pen_Covers.calls A0 c0 l0 (wrap64 (x0 + d0)) (wrap64 (y0 + d1)) (wrap64 (x1 + d0)) (wrap64 (y1 + d1)) (wrap64 (x2 + d0)) (wrap64 (y2 + d1)) is 0 _ Hl0.out HC0.out H9.out).mono ?_); rintro e W8 ⟨rfl, hb⟩)
                  clear pm0
                  clear pm1
                  clear pm2
                  clear pm3
                  clear pm4
                  clear pm5
                  have Nl0 := Aside0.mk (Kd.C_below Hl0.out hb)
                  clear Hl0
                  have Hl0 := Nl0
                  clear Nl0
                  have Nd := Aside0.mk (blk_below Bd.out hb)
                  clear Bd
                  have Bd := Nd
                  clear Nd
                  have Nm := Aside0.mk (blk_below Bm.out hb)
                  clear Bm
                  have Bm := Nm
                  clear Nm
                  have NB_ := Aside0.mk (below_step HB.out hb)
                  clear HB
                  have HB := NB_
                  clear NB_
                  clear hb
                  go_wp2_with fail
                  ((with_reducible refine (fleuronlaw18_awake.calls true _ rfl).mono ?_); rintro e W9 ⟨rfl, hb⟩)
                  have Nl0 := Aside0.mk (Kd.C_below Hl0.out hb)
                  clear Hl0
                  have Hl0 := Nl0
                  clear Nl0
                  have Nd := Aside0.mk (blk_below Bd.out hb)
                  clear Bd
                  have Bd := Nd
                  clear Nd
                  have Nm := Aside0.mk (blk_below Bm.out hb)
                  clear Bm
                  have Bm := Nm
                  clear Nm
                  have NB_ := Aside0.mk (below_step HB.out hb)
                  clear HB
                  have HB := NB_
                  clear NB_
                  clear hb
                  go_wp2
                  go_ret
                  exact ⟨rfl, HB.out⟩

end Go.Proofs.Ytnjlcmaelacjkaa.PD3

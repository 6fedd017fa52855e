/- What functions of the program come to, each with the proof that the machine's call does just that; written by a program of this session out of the translation. -/
import Derived.Test.YtnjlcmaelacjkaaPD3x0
import Derived.Test.YtnjlcmaelacjkaaPD3x3
import Derived.Test.YtnjlcmaelacjkaaPD3x4
import Derived.Test.YtnjlcmaelacjkaaPD3x6
import Derived.Test.YtnjlcmaelacjkaaPD3x9
import Derived.Test.YtnjlcmaelacjkaaPD3x10
import Derived.Test.YtnjlcmaelacjkaaPD3x13
import Derived.Test.YtnjlcmaelacjkaaPD3x18
import Derived.Test.YtnjlcmaelacjkaaPD3x24
namespace Go.Proofs.Ytnjlcmaelacjkaa.PD3
open Go.RowKit Go.Proofs.YtnjlcmaelacjkaaW.PrintWords Go.Proofs.YtnjlcmaelacjkaaW.PrintLast Go.Proofs.YtnjlcmaelacjkaaW.PrintMore
attribute [local go_sem] max2_int min2_int max_two min_two max_three min_three max_four min_four   -- for this text's walks alone
set_option linter.unusedVariables false
set_option linter.unusedSimpArgs false

/-! ### fleuronlaw18_PenRing: function 10 (by hand) -/
/-- A row of one element. -/
theorem one_row {W : World} {a : Addr} {l : List S33} (h : Kd.C k33 W (some a) l.length l) (h1 : 1 ≤ l.length) : Kd.C k33 W (some a) [rd_T33 l 0].length [rd_T33 l 0] := by
  have := Kd.C_take h h1
  cases l with
  | nil => simp at h1
  | cons x l => exact this
def zz (e g : Int) : Bool := e == 0 && g == 0
theorem zz_iff {e g : Int} : zz e g = true ↔ e = 0 ∧ g = 0 := by unfold zz; simp
/-- A number made one from 0 to 30. -/
def gi (n : Int) : Int := wrap64 (Int.tmod (IntKind.u64.wrap n) 31)
attribute [local go_sem high] eqIn_pt
def fleuronlaw18_PenRing.P (k : Nat) (l0 l1 l2 : List S33) (n0 n1 : Int) : Prop := fleuronlaw18_few.f k 130 [l0, l1, l2] = some false ∨ (fleuronlaw18_few.f k 130 [l0, l1, l2] = some true ∧ (fleuronref18_Valid.f k l0 = some false ∨ (fleuronref18_Valid.f k l0 = some true ∧ (fleuronref18_Valid.f k l1 = some false ∨ (fleuronref18_Valid.f k l1 = some true ∧ (fleuronref18_Valid.f k l2 = some false ∨ (fleuronref18_Valid.f k l2 = some true ∧ 1 ≤ l1.length ∧
  ∃ ab e, pen_Sum.f k l0 l1 = some (ab, e) ∧ pen_Sum.f k l1 l0 = some (ab, e) ∧ fleuronref16_Same.f k ab ab = some true ∧ ∃ bc g, pen_Sum.f k l1 l2 = some (bc, g) ∧ ((e = 0 ∧ g = 0 ∧ ∃ x h y i, pen_Sum.f k ab l2 = some (x, h) ∧ pen_Sum.f k l0 bc = some (y, i) ∧ fleuronlaw18_same.f k x y h i = some true) ∨ ¬ (e = 0 ∧ g = 0)) ∧
  ∃ a h, pen_Sum.f k l0 [rd_T33 l1 0] = some (a, h) ∧ (∀ j : Nat, j < a.length → j < l0.length ∧ rd_T33 a (j : Int) = ⟨wrap64 ((rd_T33 l0 (j : Int)).f0 + (rd_T33 l1 0).f0), wrap64 ((rd_T33 l0 (j : Int)).f1 + (rd_T33 l1 0).f1)⟩) ∧ ((h = 0 ∧ a.length = l0.length) ∨ h = 17) ∧
  ∃ x p, pen_Grow.f k l0 (gi n0) = some (x, p) ∧ ∃ y q, pen_Grow.f k l0 (wrap64 (gi n0 * gi n1)) = some (y, q) ∧ (p = 17 ∨ (p = 0 ∧ pen_Grow.f k x (gi n1) = some (y, q) ∧ fleuronref16_Same.f k y y = some true)))))))))
set_option maxHeartbeats 8000000 in
set_option maxRecDepth 100000 in
theorem fleuronlaw18_PenRing.calls (k : Nat) (A0 : Option Addr) (c0 : Nat) (l0 : List S33) (A1 : Option Addr) (c1 : Nat) (l1 : List S33) (A2 : Option Addr) (c2 : Nat) (l2 : List S33) (n0 n1 : Int) (w : World) (hr0 : Kd.C k33 w A0 l0.length l0) (hc0 : l0.length ≤ c0) (hr1 : Kd.C k33 w A1 l1.length l1) (hc1 : l1.length ≤ c1) (hr2 : Kd.C k33 w A2 l2.length l2) (hc2 : l2.length ≤ c2) (h : fleuronlaw18_PenRing.P k l0 l1 l2 n0 n1) :
    Calls Try.prog 10 #[.agg #[.slice A0 l0.length c0, .slice A1 l1.length c1, .slice A2 l2.length c2], .agg #[.int .i64 n0, .int .i64 n1]] w fun e w' => e = .returned (.bool true) ∧ Below w.heap.size w w' := by
  have hu := Try.underlying33
  have Hl0 := Aside0.mk hr0
  have HC0 := Aside0.mk hc0
  clear hr0 hc0
  have Hl1 := Aside0.mk hr1
  have HC1 := Aside0.mk hc1
  clear hr1 hc1
  have Hl2 := Aside0.mk hr2
  have HC2 := Aside0.mk hc2
  clear hr2 hc2
  have HB := Aside0.mk (Below.refl w.heap.size w)
  have hu51 := Try.underlying51
  have hu52 := Try.underlying52
  have Nl0 := Aside0.mk (Kd.C_below Hl0.out (below_alloc (Below.refl _ _) (.cells #[.slice A0 l0.length c0, .slice A1 l1.length c1, .slice A2 l2.length c2] 51)))
  clear Hl0
  have Hl0 := Nl0
  clear Nl0
  have Nl1 := Aside0.mk (Kd.C_below Hl1.out (below_alloc (Below.refl _ _) (.cells #[.slice A0 l0.length c0, .slice A1 l1.length c1, .slice A2 l2.length c2] 51)))
  clear Hl1
  have Hl1 := Nl1
  clear Nl1
  have Nl2 := Aside0.mk (Kd.C_below Hl2.out (below_alloc (Below.refl _ _) (.cells #[.slice A0 l0.length c0, .slice A1 l1.length c1, .slice A2 l2.length c2] 51)))
  clear Hl2
  have Hl2 := Nl2
  clear Nl2
  have NB_ := Aside0.mk (below_step HB.out (below_alloc (Below.refl _ _) (.cells #[.slice A0 l0.length c0, .slice A1 l1.length c1, .slice A2 l2.length c2] 51)))
  clear HB
  have HB := NB_
  clear NB_
  have h_ := blk_new w (.cells #[.slice A0 l0.length c0, .slice A1 l1.length c1, .slice A2 l2.length c2] 51)
  try simp only [World.size_alloc] at h_
  have Bs := Aside0.mk h_
  clear h_
  have Nl0 := Aside0.mk (Kd.C_below Hl0.out (below_alloc (Below.refl _ _) (.cells #[.int .i64 n0, .int .i64 n1] 52)))
  clear Hl0
  have Hl0 := Nl0
  clear Nl0
  have Nl1 := Aside0.mk (Kd.C_below Hl1.out (below_alloc (Below.refl _ _) (.cells #[.int .i64 n0, .int .i64 n1] 52)))
  clear Hl1
  have Hl1 := Nl1
  clear Nl1
  have Nl2 := Aside0.mk (Kd.C_below Hl2.out (below_alloc (Below.refl _ _) (.cells #[.int .i64 n0, .int .i64 n1] 52)))
  clear Hl2
  have Hl2 := Nl2
  clear Nl2
  have Ns := Aside0.mk (blk_below Bs.out (below_alloc (Below.refl _ _) (.cells #[.int .i64 n0, .int .i64 n1] 52)))
  clear Bs
  have Bs := Ns
  clear Ns
  have NB_ := Aside0.mk (below_step HB.out (below_alloc (Below.refl _ _) (.cells #[.int .i64 n0, .int .i64 n1] 52)))
  clear HB
  have HB := NB_
  clear NB_
  have h_ := blk_new (w.alloc (.cells #[.slice A0 l0.length c0, .slice A1 l1.length c1, .slice A2 l2.length c2] 51)) (.cells #[.int .i64 n0, .int .i64 n1] 52)
  try simp only [World.size_alloc] at h_
  have Bn := Aside0.mk h_
  clear h_
  have ps0 := (blk_cell Bs.out 0).trans rfl
  have ps1 := (blk_cell Bs.out 1).trans rfl
  have ps2 := (blk_cell Bs.out 2).trans rfl
  go_enter Try.func10, Try.ntmps10
  rcases h with h | ⟨hf, h | ⟨hv0, h | ⟨hv1, h | ⟨hv2, h⟩⟩⟩⟩
  · have HF := Aside0.mk h
    clear h
    have hbw := HB.out
    go_wp2_with fail
    go_region_held3 (fun w' => w'.cell? ⟨w.heap.size, 0, none⟩ = some (.slice A0 l0.length c0) ∧ w'.cell? ⟨w.heap.size, 1, none⟩ = some (.slice A1 l1.length c1) ∧ w'.cell? ⟨w.heap.size, 2, none⟩ = some (.slice A2 l2.length c2) ∧ Below w.heap.size w w') (first | exact ⟨ps0, ps1, ps2, below_drew1 hbw⟩ | go_keep) (fail)
    clear ps0 ps1 ps2 hbw
    have Nl0 := Aside0.mk (Kd.C_below Hl0.out (below_drew1 (Below.refl _ _)))
    clear Hl0
    have Hl0 := Nl0
    clear Nl0
    have Nl1 := Aside0.mk (Kd.C_below Hl1.out (below_drew1 (Below.refl _ _)))
    clear Hl1
    have Hl1 := Nl1
    clear Nl1
    have Nl2 := Aside0.mk (Kd.C_below Hl2.out (below_drew1 (Below.refl _ _)))
    clear Hl2
    have Hl2 := Nl2
    clear Nl2
    have Ns := Aside0.mk (blk_below Bs.out (below_drew1 (Below.refl _ _)))
    clear Bs
    have Bs := Ns
    clear Ns
    have Nn := Aside0.mk (blk_below Bn.out (below_drew1 (Below.refl _ _)))
    clear Bn
    have Bn := Nn
    clear Nn
    have NB_ := Aside0.mk (below_step HB.out (below_drew1 (Below.refl _ _)))
    clear HB
    have HB := NB_
    clear NB_
    generalize hD : World.drew _ = D at *
    clear hD
    have h_ := threeP_row (W := D) Hl0.out HC0.out Hl1.out HC1.out Hl2.out HC2.out 22
    have Hq0 := Aside0.mk h_
    clear h_
    have Nl0 := Aside0.mk (Kd.C_below Hl0.out (below_alloc (Below.refl _ _) (.cells #[.slice A0 l0.length c0, .slice A1 l1.length c1, .slice A2 l2.length c2] 22)))
    clear Hl0
    have Hl0 := Nl0
    clear Nl0
    have Nl1 := Aside0.mk (Kd.C_below Hl1.out (below_alloc (Below.refl _ _) (.cells #[.slice A0 l0.length c0, .slice A1 l1.length c1, .slice A2 l2.length c2] 22)))
    clear Hl1
    have Hl1 := Nl1
    clear Nl1
    have Nl2 := Aside0.mk (Kd.C_below Hl2.out (below_alloc (Below.refl _ _) (.cells #[.slice A0 l0.length c0, .slice A1 l1.length c1, .slice A2 l2.length c2] 22)))
    clear Hl2
    have Hl2 := Nl2
    clear Nl2
    have Ns := Aside0.mk (blk_below Bs.out (below_alloc (Below.refl _ _) (.cells #[.slice A0 l0.length c0, .slice A1 l1.length c1, .slice A2 l2.length c2] 22)))
    clear Bs
    have Bs := Ns
    clear Ns
    have Nn := Aside0.mk (blk_below Bn.out (below_alloc (Below.refl _ _) (.cells #[.slice A0 l0.length c0, .slice A1 l1.length c1, .slice A2 l2.length c2] 22)))
    clear Bn
    have Bn := Nn
    clear Nn
    have NB_ := Aside0.mk (below_step HB.out (below_alloc (Below.refl _ _) (.cells #[.slice A0 l0.length c0, .slice A1 l1.length c1, .slice A2 l2.length c2] 22)))
    clear HB
    have HB := NB_
    clear NB_
    go_wp2_with fail
    refine (fleuronlaw18_few.calls k _ _ 3 [l0, l1, l2] false _ Hq0.out (by simp) HF.out).mono ?_
    rintro e W1 ⟨rfl, hb⟩
    replace hb := hb.below
    have Nl0 := Aside0.mk (Kd.C_below Hl0.out hb)
    clear Hl0
    have Hl0 := Nl0
    clear Nl0
    have Nl1 := Aside0.mk (Kd.C_below Hl1.out hb)
    clear Hl1
    have Hl1 := Nl1
    clear Nl1
    have Nl2 := Aside0.mk (Kd.C_below Hl2.out hb)
    clear Hl2
    have Hl2 := Nl2
    clear Nl2
    have Nq0 := Aside0.mk (Kd.C_below Hq0.out hb)
    clear Hq0
    have Hq0 := Nq0
    clear Nq0
    have Ns := Aside0.mk (blk_below Bs.out hb)
    clear Bs
    have Bs := Ns
    clear Ns
    have Nn := Aside0.mk (blk_below Bn.out hb)
    clear Bn
    have Bn := Nn
    clear Nn
    have NB_ := Aside0.mk (below_step HB.out hb)
    clear HB
    have HB := NB_
    clear NB_
    clear hb
    clear Hq0
    go_wp2_with fail
    ((with_reducible refine (fleuronlaw18_awake.calls true _ rfl).mono ?_); rintro e W2 ⟨rfl, hb⟩)
    have Nl0 := Aside0.mk (Kd.C_below Hl0.out hb)
    clear Hl0
    have Hl0 := Nl0
    clear Nl0
    have Nl1 := Aside0.mk (Kd.C_below Hl1.out hb)
    clear Hl1
    have Hl1 := Nl1
    clear Nl1
    have Nl2 := Aside0.mk (Kd.C_below Hl2.out hb)
    clear Hl2
    have Hl2 := Nl2
    clear Nl2
    have Ns := Aside0.mk (blk_below Bs.out hb)
    clear Bs
    have Bs := Ns
    clear Ns
    have Nn := Aside0.mk (blk_below Bn.out hb)
    clear Bn
    have Bn := Nn
    clear Nn
    have NB_ := Aside0.mk (below_step HB.out hb)
    clear HB
    have HB := NB_
    clear NB_
    clear hb
    go_wp2
    go_ret
    exact ⟨rfl, HB.out⟩
  · have HF := Aside0.mk hf
    have HV0 := Aside0.mk h
    clear hf h
    have hbw := HB.out
    go_wp2_with fail
    go_region_held3 (fun w' => w'.cell? ⟨w.heap.size, 0, none⟩ = some (.slice A0 l0.length c0) ∧ w'.cell? ⟨w.heap.size, 1, none⟩ = some (.slice A1 l1.length c1) ∧ w'.cell? ⟨w.heap.size, 2, none⟩ = some (.slice A2 l2.length c2) ∧ Below w.heap.size w w') (first | exact ⟨ps0, ps1, ps2, below_drew1 hbw⟩ | go_keep) (fail)
    clear ps0 ps1 ps2 hbw
    have Nl0 := Aside0.mk (Kd.C_below Hl0.out (below_drew1 (Below.refl _ _)))
    clear Hl0
    have Hl0 := Nl0
    clear Nl0
    have Nl1 := Aside0.mk (Kd.C_below Hl1.out (below_drew1 (Below.refl _ _)))
    clear Hl1
    have Hl1 := Nl1
    clear Nl1
    have Nl2 := Aside0.mk (Kd.C_below Hl2.out (below_drew1 (Below.refl _ _)))
    clear Hl2
    have Hl2 := Nl2
    clear Nl2
    have Ns := Aside0.mk (blk_below Bs.out (below_drew1 (Below.refl _ _)))
    clear Bs
    have Bs := Ns
    clear Ns
    have Nn := Aside0.mk (blk_below Bn.out (below_drew1 (Below.refl _ _)))
    clear Bn
    have Bn := Nn
    clear Nn
    have NB_ := Aside0.mk (below_step HB.out (below_drew1 (Below.refl _ _)))
    clear HB
    have HB := NB_
    clear NB_
    generalize hD : World.drew _ = D at *
    clear hD
    have h_ := threeP_row (W := D) Hl0.out HC0.out Hl1.out HC1.out Hl2.out HC2.out 22
    have Hq0 := Aside0.mk h_
    clear h_
    have Nl0 := Aside0.mk (Kd.C_below Hl0.out (below_alloc (Below.refl _ _) (.cells #[.slice A0 l0.length c0, .slice A1 l1.length c1, .slice A2 l2.length c2] 22)))
    clear Hl0
    have Hl0 := Nl0
    clear Nl0
    have Nl1 := Aside0.mk (Kd.C_below Hl1.out (below_alloc (Below.refl _ _) (.cells #[.slice A0 l0.length c0, .slice A1 l1.length c1, .slice A2 l2.length c2] 22)))
    clear Hl1
    have Hl1 := Nl1
    clear Nl1
    have Nl2 := Aside0.mk (Kd.C_below Hl2.out (below_alloc (Below.refl _ _) (.cells #[.slice A0 l0.length c0, .slice A1 l1.length c1, .slice A2 l2.length c2] 22)))
    clear Hl2
    have Hl2 := Nl2
    clear Nl2
    have Ns := Aside0.mk (blk_below Bs.out (below_alloc (Below.refl _ _) (.cells #[.slice A0 l0.length c0, .slice A1 l1.length c1, .slice A2 l2.length c2] 22)))
    clear Bs
    have Bs := Ns
    clear Ns
    have Nn := Aside0.mk (blk_below Bn.out (below_alloc (Below.refl _ _) (.cells #[.slice A0 l0.length c0, .slice A1 l1.length c1, .slice A2 l2.length c2] 22)))
    clear Bn
    have Bn := Nn
    clear Nn
    have NB_ := Aside0.mk (below_step HB.out (below_alloc (Below.refl _ _) (.cells #[.slice A0 l0.length c0, .slice A1 l1.length c1, .slice A2 l2.length c2] 22)))
    clear HB
    have HB := NB_
    clear NB_
    go_wp2_with fail
    refine (fleuronlaw18_few.calls k _ _ 3 [l0, l1, l2] true _ Hq0.out (by simp) HF.out).mono ?_
    rintro e W1 ⟨rfl, hb⟩
    replace hb := hb.below
    have Nl0 := Aside0.mk (Kd.C_below Hl0.out hb)
    clear Hl0
    have Hl0 := Nl0
    clear Nl0
    have Nl1 := Aside0.mk (Kd.C_below Hl1.out hb)
    clear Hl1
    have Hl1 := Nl1
    clear Nl1
    have Nl2 := Aside0.mk (Kd.C_below Hl2.out hb)
    clear Hl2
    have Hl2 := Nl2
    clear Nl2
    have Nq0 := Aside0.mk (Kd.C_below Hq0.out hb)
    clear Hq0
    have Hq0 := Nq0
    clear Nq0
    have Ns := Aside0.mk (blk_below Bs.out hb)
    clear Bs
    have Bs := Ns
    clear Ns
    have Nn := Aside0.mk (blk_below Bn.out hb)
    clear Bn
    have Bn := Nn
    clear Nn
    have NB_ := Aside0.mk (below_step HB.out hb)
    clear HB
    have HB := NB_
    clear NB_
    clear hb
    clear Hq0
    go_wp2_with fail
    ((with_reducible refine (fleuronref18_Valid.calls k A0 c0 l0 false _ Hl0.out HC0.out HV0.out).mono ?_); rintro e W2 ⟨rfl, hb⟩)
    have Nl0 := Aside0.mk (Kd.C_below Hl0.out hb)
    clear Hl0
    have Hl0 := Nl0
    clear Nl0
    have Nl1 := Aside0.mk (Kd.C_below Hl1.out hb)
    clear Hl1
    have Hl1 := Nl1
    clear Nl1
    have Nl2 := Aside0.mk (Kd.C_below Hl2.out hb)
    clear Hl2
    have Hl2 := Nl2
    clear Nl2
    have Ns := Aside0.mk (blk_below Bs.out hb)
    clear Bs
    have Bs := Ns
    clear Ns
    have Nn := Aside0.mk (blk_below Bn.out hb)
    clear Bn
    have Bn := Nn
    clear Nn
    have NB_ := Aside0.mk (below_step HB.out hb)
    clear HB
    have HB := NB_
    clear NB_
    clear hb
    go_wp2_with fail
    ((with_reducible refine (fleuronlaw18_awake.calls true _ rfl).mono ?_); rintro e W3 ⟨rfl, hb⟩)
    have Nl0 := Aside0.mk (Kd.C_below Hl0.out hb)
    clear Hl0
    have Hl0 := Nl0
    clear Nl0
    have Nl1 := Aside0.mk (Kd.C_below Hl1.out hb)
    clear Hl1
    have Hl1 := Nl1
    clear Nl1
    have Nl2 := Aside0.mk (Kd.C_below Hl2.out hb)
    clear Hl2
    have Hl2 := Nl2
    clear Nl2
    have Ns := Aside0.mk (blk_below Bs.out hb)
    clear Bs
    have Bs := Ns
    clear Ns
    have Nn := Aside0.mk (blk_below Bn.out hb)
    clear Bn
    have Bn := Nn
    clear Nn
    have NB_ := Aside0.mk (below_step HB.out hb)
    clear HB
    have HB := NB_
    clear NB_
    clear hb
    go_wp2
    go_ret
    exact ⟨rfl, HB.out⟩
  · have HF := Aside0.mk hf
    have HV0 := Aside0.mk hv0
    have HV1 := Aside0.mk h
    clear hf hv0 h
    have hbw := HB.out
    go_wp2_with fail
    go_region_held3 (fun w' => w'.cell? ⟨w.heap.size, 0, none⟩ = some (.slice A0 l0.length c0) ∧ w'.cell? ⟨w.heap.size, 1, none⟩ = some (.slice A1 l1.length c1) ∧ w'.cell? ⟨w.heap.size, 2, none⟩ = some (.slice A2 l2.length c2) ∧ Below w.heap.size w w') (first | exact ⟨ps0, ps1, ps2, below_drew1 hbw⟩ | go_keep) (fail)
    clear ps0 ps1 ps2 hbw
    have Nl0 := Aside0.mk (Kd.C_below Hl0.out (below_drew1 (Below.refl _ _)))
    clear Hl0
    have Hl0 := Nl0
    clear Nl0
    have Nl1 := Aside0.mk (Kd.C_below Hl1.out (below_drew1 (Below.refl _ _)))
    clear Hl1
    have Hl1 := Nl1
    clear Nl1
    have Nl2 := Aside0.mk (Kd.C_below Hl2.out (below_drew1 (Below.refl _ _)))
    clear Hl2
    have Hl2 := Nl2
    clear Nl2
    have Ns := Aside0.mk (blk_below Bs.out (below_drew1 (Below.refl _ _)))
    clear Bs
    have Bs := Ns
    clear Ns
    have Nn := Aside0.mk (blk_below Bn.out (below_drew1 (Below.refl _ _)))
    clear Bn
    have Bn := Nn
    clear Nn
    have NB_ := Aside0.mk (below_step HB.out (below_drew1 (Below.refl _ _)))
    clear HB
    have HB := NB_
    clear NB_
    generalize hD : World.drew _ = D at *
    clear hD
    have h_ := threeP_row (W := D) Hl0.out HC0.out Hl1.out HC1.out Hl2.out HC2.out 22
    have Hq0 := Aside0.mk h_
    clear h_
    have Nl0 := Aside0.mk (Kd.C_below Hl0.out (below_alloc (Below.refl _ _) (.cells #[.slice A0 l0.length c0, .slice A1 l1.length c1, .slice A2 l2.length c2] 22)))
    clear Hl0
    have Hl0 := Nl0
    clear Nl0
    have Nl1 := Aside0.mk (Kd.C_below Hl1.out (below_alloc (Below.refl _ _) (.cells #[.slice A0 l0.length c0, .slice A1 l1.length c1, .slice A2 l2.length c2] 22)))
    clear Hl1
    have Hl1 := Nl1
    clear Nl1
    have Nl2 := Aside0.mk (Kd.C_below Hl2.out (below_alloc (Below.refl _ _) (.cells #[.slice A0 l0.length c0, .slice A1 l1.length c1, .slice A2 l2.length c2] 22)))
    clear Hl2
    have Hl2 := Nl2
    clear Nl2
    have Ns := Aside0.mk (blk_below Bs.out (below_alloc (Below.refl _ _) (.cells #[.slice A0 l0.length c0, .slice A1 l1.length c1, .slice A2 l2.length c2] 22)))
    clear Bs
    have Bs := Ns
    clear Ns
    have Nn := Aside0.mk (blk_below Bn.out (below_alloc (Below.refl _ _) (.cells #[.slice A0 l0.length c0, .slice A1 l1.length c1, .slice A2 l2.length c2] 22)))
    clear Bn
    have Bn := Nn
    clear Nn
    have NB_ := Aside0.mk (below_step HB.out (below_alloc (Below.refl _ _) (.cells #[.slice A0 l0.length c0, .slice A1 l1.length c1, .slice A2 l2.length c2] 22)))
    clear HB
    have HB := NB_
    clear NB_
    go_wp2_with fail
    refine (fleuronlaw18_few.calls k _ _ 3 [l0, l1, l2] true _ Hq0.out (by simp) HF.out).mono ?_
    rintro e W1 ⟨rfl, hb⟩
    replace hb := hb.below
    have Nl0 := Aside0.mk (Kd.C_below Hl0.out hb)
    clear Hl0
    have Hl0 := Nl0
    clear Nl0
    have Nl1 := Aside0.mk (Kd.C_below Hl1.out hb)
    clear Hl1
    have Hl1 := Nl1
    clear Nl1
    have Nl2 := Aside0.mk (Kd.C_below Hl2.out hb)
    clear Hl2
    have Hl2 := Nl2
    clear Nl2
    have Nq0 := Aside0.mk (Kd.C_below Hq0.out hb)
    clear Hq0
    have Hq0 := Nq0
    clear Nq0
    have Ns := Aside0.mk (blk_below Bs.out hb)
    clear Bs
    have Bs := Ns
    clear Ns
    have Nn := Aside0.mk (blk_below Bn.out hb)
    clear Bn
    have Bn := Nn
    clear Nn
    have NB_ := Aside0.mk (below_step HB.out hb)
    clear HB
    have HB := NB_
    clear NB_
    clear hb
    clear Hq0
    go_wp2_with fail
    ((with_reducible refine (fleuronref18_Valid.calls k A0 c0 l0 true _ Hl0.out HC0.out HV0.out).mono ?_); rintro e W2 ⟨rfl, hb⟩)
    have Nl0 := Aside0.mk (Kd.C_below Hl0.out hb)
    clear Hl0
    have Hl0 := Nl0
    clear Nl0
    have Nl1 := Aside0.mk (Kd.C_below Hl1.out hb)
    clear Hl1
    have Hl1 := Nl1
    clear Nl1
    have Nl2 := Aside0.mk (Kd.C_below Hl2.out hb)
    clear Hl2
    have Hl2 := Nl2
    clear Nl2
    have Ns := Aside0.mk (blk_below Bs.out hb)
    clear Bs
    have Bs := Ns
    clear Ns
    have Nn := Aside0.mk (blk_below Bn.out hb)
    clear Bn
    have Bn := Nn
    clear Nn
    have NB_ := Aside0.mk (below_step HB.out hb)
    clear HB
    have HB := NB_
    clear NB_
    clear hb
    go_wp2_with fail
    ((with_reducible refine (fleuronref18_Valid.calls k A1 c1 l1 false _ Hl1.out HC1.out HV1.out).mono ?_); rintro e W3 ⟨rfl, hb⟩)
    have Nl0 := Aside0.mk (Kd.C_below Hl0.out hb)
    clear Hl0
    have Hl0 := Nl0
    clear Nl0
    have Nl1 := Aside0.mk (Kd.C_below Hl1.out hb)
    clear Hl1
    have Hl1 := Nl1
    clear Nl1
    have Nl2 := Aside0.mk (Kd.C_below Hl2.out hb)
    clear Hl2
    have Hl2 := Nl2
    clear Nl2
    have Ns := Aside0.mk (blk_below Bs.out hb)
    clear Bs
    have Bs := Ns
    clear Ns
    have Nn := Aside0.mk (blk_below Bn.out hb)
    clear Bn
    have Bn := Nn
    clear Nn
    have NB_ := Aside0.mk (below_step HB.out hb)
    clear HB
    have HB := NB_
    clear NB_
    clear hb
    go_wp2_with fail
    ((with_reducible refine (fleuronlaw18_awake.calls true _ rfl).mono ?_); rintro e W4 ⟨rfl, hb⟩)
    have Nl0 := Aside0.mk (Kd.C_below Hl0.out hb)
    clear Hl0
    have Hl0 := Nl0
    clear Nl0
    have Nl1 := Aside0.mk (Kd.C_below Hl1.out hb)
    clear Hl1
    have Hl1 := Nl1
    clear Nl1
    have Nl2 := Aside0.mk (Kd.C_below Hl2.out hb)
    clear Hl2
    have Hl2 := Nl2
    clear Nl2
    have Ns := Aside0.mk (blk_below Bs.out hb)
    clear Bs
    have Bs := Ns
    clear Ns
    have Nn := Aside0.mk (blk_below Bn.out hb)
    clear Bn
    have Bn := Nn
    clear Nn
    have NB_ := Aside0.mk (below_step HB.out hb)
    clear HB
    have HB := NB_
    clear NB_
    clear hb
    go_wp2
    go_ret
    exact ⟨rfl, HB.out⟩
  · have HF := Aside0.mk hf
    have HV0 := Aside0.mk hv0
    have HV1 := Aside0.mk hv1
    have HV2 := Aside0.mk h
    clear hf hv0 hv1 h
    have hbw := HB.out
    go_wp2_with fail
    go_region_held3 (fun w' => w'.cell? ⟨w.heap.size, 0, none⟩ = some (.slice A0 l0.length c0) ∧ w'.cell? ⟨w.heap.size, 1, none⟩ = some (.slice A1 l1.length c1) ∧ w'.cell? ⟨w.heap.size, 2, none⟩ = some (.slice A2 l2.length c2) ∧ Below w.heap.size w w') (first | exact ⟨ps0, ps1, ps2, below_drew1 hbw⟩ | go_keep) (fail)
    clear ps0 ps1 ps2 hbw
    have Nl0 := Aside0.mk (Kd.C_below Hl0.out (below_drew1 (Below.refl _ _)))
    clear Hl0
    have Hl0 := Nl0
    clear Nl0
    have Nl1 := Aside0.mk (Kd.C_below Hl1.out (below_drew1 (Below.refl _ _)))
    clear Hl1
    have Hl1 := Nl1
    clear Nl1
    have Nl2 := Aside0.mk (Kd.C_below Hl2.out (below_drew1 (Below.refl _ _)))
    clear Hl2
    have Hl2 := Nl2
    clear Nl2
    have Ns := Aside0.mk (blk_below Bs.out (below_drew1 (Below.refl _ _)))
    clear Bs
    have Bs := Ns
    clear Ns
    have Nn := Aside0.mk (blk_below Bn.out (below_drew1 (Below.refl _ _)))
    clear Bn
    have Bn := Nn
    clear Nn
    have NB_ := Aside0.mk (below_step HB.out (below_drew1 (Below.refl _ _)))
    clear HB
    have HB := NB_
    clear NB_
    generalize hD : World.drew _ = D at *
    clear hD
    have h_ := threeP_row (W := D) Hl0.out HC0.out Hl1.out HC1.out Hl2.out HC2.out 22
    have Hq0 := Aside0.mk h_
    clear h_
    have Nl0 := Aside0.mk (Kd.C_below Hl0.out (below_alloc (Below.refl _ _) (.cells #[.slice A0 l0.length c0, .slice A1 l1.length c1, .slice A2 l2.length c2] 22)))
    clear Hl0
    have Hl0 := Nl0
    clear Nl0
    have Nl1 := Aside0.mk (Kd.C_below Hl1.out (below_alloc (Below.refl _ _) (.cells #[.slice A0 l0.length c0, .slice A1 l1.length c1, .slice A2 l2.length c2] 22)))
    clear Hl1
    have Hl1 := Nl1
    clear Nl1
    have Nl2 := Aside0.mk (Kd.C_below Hl2.out (below_alloc (Below.refl _ _) (.cells #[.slice A0 l0.length c0, .slice A1 l1.length c1, .slice A2 l2.length c2] 22)))
    clear Hl2
    have Hl2 := Nl2
    clear Nl2
    have Ns := Aside0.mk (blk_below Bs.out (below_alloc (Below.refl _ _) (.cells #[.slice A0 l0.length c0, .slice A1 l1.length c1, .slice A2 l2.length c2] 22)))
    clear Bs
    have Bs := Ns
    clear Ns
    have Nn := Aside0.mk (blk_below Bn.out (below_alloc (Below.refl _ _) (.cells #[.slice A0 l0.length c0, .slice A1 l1.length c1, .slice A2 l2.length c2] 22)))
    clear Bn
    have Bn := Nn
    clear Nn
    have NB_ := Aside0.mk (below_step HB.out (below_alloc (Below.refl _ _) (.cells #[.slice A0 l0.length c0, .slice A1 l1.length c1, .slice A2 l2.length c2] 22)))
    clear HB
    have HB := NB_
    clear NB_
    go_wp2_with fail
    refine (fleuronlaw18_few.calls k _ _ 3 [l0, l1, l2] true _ Hq0.out (by simp) HF.out).mono ?_
    rintro e W1 ⟨rfl, hb⟩
    replace hb := hb.below
    have Nl0 := Aside0.mk (Kd.C_below Hl0.out hb)
    clear Hl0
    have Hl0 := Nl0
    clear Nl0
    have Nl1 := Aside0.mk (Kd.C_below Hl1.out hb)
    clear Hl1
    have Hl1 := Nl1
    clear Nl1
    have Nl2 := Aside0.mk (Kd.C_below Hl2.out hb)
    clear Hl2
    have Hl2 := Nl2
    clear Nl2
    have Nq0 := Aside0.mk (Kd.C_below Hq0.out hb)
    clear Hq0
    have Hq0 := Nq0
    clear Nq0
    have Ns := Aside0.mk (blk_below Bs.out hb)
    clear Bs
    have Bs := Ns
    clear Ns
    have Nn := Aside0.mk (blk_below Bn.out hb)
    clear Bn
    have Bn := Nn
    clear Nn
    have NB_ := Aside0.mk (below_step HB.out hb)
    clear HB
    have HB := NB_
    clear NB_
    clear hb
    clear Hq0
    go_wp2_with fail
    ((with_reducible refine (fleuronref18_Valid.calls k A0 c0 l0 true _ Hl0.out HC0.out HV0.out).mono ?_); rintro e W2 ⟨rfl, hb⟩)
    have Nl0 := Aside0.mk (Kd.C_below Hl0.out hb)
    clear Hl0
    have Hl0 := Nl0
    clear Nl0
    have Nl1 := Aside0.mk (Kd.C_below Hl1.out hb)
    clear Hl1
    have Hl1 := Nl1
    clear Nl1
    have Nl2 := Aside0.mk (Kd.C_below Hl2.out hb)
    clear Hl2
    have Hl2 := Nl2
    clear Nl2
    have Ns := Aside0.mk (blk_below Bs.out hb)
    clear Bs
    have Bs := Ns
    clear Ns
    have Nn := Aside0.mk (blk_below Bn.out hb)
    clear Bn
    have Bn := Nn
    clear Nn
    have NB_ := Aside0.mk (below_step HB.out hb)
    clear HB
    have HB := NB_
    clear NB_
    clear hb
    go_wp2_with fail
    ((with_reducible refine (fleuronref18_Valid.calls k A1 c1 l1 true _ Hl1.out HC1.out HV1.out).mono ?_); rintro e W3 ⟨rfl, hb⟩)
    have Nl0 := Aside0.mk (Kd.C_below Hl0.out hb)
    clear Hl0
    have Hl0 := Nl0
    clear Nl0
    have Nl1 := Aside0.mk (Kd.C_below Hl1.out hb)
    clear Hl1
    have Hl1 := Nl1
    clear Nl1
    have Nl2 := Aside0.mk (Kd.C_below Hl2.out hb)
    clear Hl2
    have Hl2 := Nl2
    clear Nl2
    have Ns := Aside0.mk (blk_below Bs.out hb)
    clear Bs
    have Bs := Ns
    clear Ns
    have Nn := Aside0.mk (blk_below Bn.out hb)
    clear Bn
    have Bn := Nn
    clear Nn
    have NB_ := Aside0.mk (below_step HB.out hb)
    clear HB
    have HB := NB_
    clear NB_
    clear hb
    go_wp2_with fail
    ((with_reducible refine (fleuronref18_Valid.calls k A2 c2 l2 false _ Hl2.out HC2.out HV2.out).mono ?_); rintro e W4 ⟨rfl, hb⟩)
    have Nl0 := Aside0.mk (Kd.C_below Hl0.out hb)
    clear Hl0
    have Hl0 := Nl0
    clear Nl0
    have Nl1 := Aside0.mk (Kd.C_below Hl1.out hb)
    clear Hl1
    have Hl1 := Nl1
    clear Nl1
    have Nl2 := Aside0.mk (Kd.C_below Hl2.out hb)
    clear Hl2
    have Hl2 := Nl2
    clear Nl2
    have Ns := Aside0.mk (blk_below Bs.out hb)
    clear Bs
    have Bs := Ns
    clear Ns
    have Nn := Aside0.mk (blk_below Bn.out hb)
    clear Bn
    have Bn := Nn
    clear Nn
    have NB_ := Aside0.mk (below_step HB.out hb)
    clear HB
    have HB := NB_
    clear NB_
    clear hb
    go_wp2_with fail
    ((with_reducible refine (fleuronlaw18_awake.calls true _ rfl).mono ?_); rintro e W5 ⟨rfl, hb⟩)
    have Nl0 := Aside0.mk (Kd.C_below Hl0.out hb)
    clear Hl0
    have Hl0 := Nl0
    clear Nl0
    have Nl1 := Aside0.mk (Kd.C_below Hl1.out hb)
    clear Hl1
    have Hl1 := Nl1
    clear Nl1
    have Nl2 := Aside0.mk (Kd.C_below Hl2.out hb)
    clear Hl2
    have Hl2 := Nl2
    clear Nl2
    have Ns := Aside0.mk (blk_below Bs.out hb)
    clear Bs
    have Bs := Ns
    clear Ns
    have Nn := Aside0.mk (blk_below Bn.out hb)
    clear Bn
    have Bn := Nn
    clear Nn
    have NB_ := Aside0.mk (below_step HB.out hb)
    clear HB
    have HB := NB_
    clear NB_
    clear hb
    go_wp2
    go_ret
    exact ⟨rfl, HB.out⟩
  · obtain ⟨h10, ab, e, h1, h2, h3, bc, g, h4, h5, at_, h, h6, h7, h8, x, p, h9, y, q, h11, h12⟩ := h
    have HF := Aside0.mk hf
    have HV0 := Aside0.mk hv0
    have HV1 := Aside0.mk hv1
    have HV2 := Aside0.mk hv2
    have H1 := Aside0.mk h1
    have H2 := Aside0.mk h2
    have H3 := Aside0.mk h3
    have H4 := Aside0.mk h4
    have H5 := Aside0.mk h5
    have H6 := Aside0.mk h6
    have H7 := Aside0.mk h7
    have H8 := Aside0.mk h8
    have H9 := Aside0.mk h9
    have H10 := Aside0.mk h10
    have H11 := Aside0.mk h11
    have H12 := Aside0.mk h12
    clear hf hv0 hv1 hv2 h1 h2 h3 h4 h5 h6 h7 h8 h9 h10 h11 h12
    have hbw := HB.out
    go_wp2_with fail
    go_region_held3 (fun w' => w'.cell? ⟨w.heap.size, 0, none⟩ = some (.slice A0 l0.length c0) ∧ w'.cell? ⟨w.heap.size, 1, none⟩ = some (.slice A1 l1.length c1) ∧ w'.cell? ⟨w.heap.size, 2, none⟩ = some (.slice A2 l2.length c2) ∧ Below w.heap.size w w') (first | exact ⟨ps0, ps1, ps2, below_drew1 hbw⟩ | go_keep) (fail)
    clear ps0 ps1 ps2 hbw
    have Nl0 := Aside0.mk (Kd.C_below Hl0.out (below_drew1 (Below.refl _ _)))
    clear Hl0
    have Hl0 := Nl0
    clear Nl0
    have Nl1 := Aside0.mk (Kd.C_below Hl1.out (below_drew1 (Below.refl _ _)))
    clear Hl1
    have Hl1 := Nl1
    clear Nl1
    have Nl2 := Aside0.mk (Kd.C_below Hl2.out (below_drew1 (Below.refl _ _)))
    clear Hl2
    have Hl2 := Nl2
    clear Nl2
    have Ns := Aside0.mk (blk_below Bs.out (below_drew1 (Below.refl _ _)))
    clear Bs
    have Bs := Ns
    clear Ns
    have Nn := Aside0.mk (blk_below Bn.out (below_drew1 (Below.refl _ _)))
    clear Bn
    have Bn := Nn
    clear Nn
    have NB_ := Aside0.mk (below_step HB.out (below_drew1 (Below.refl _ _)))
    clear HB
    have HB := NB_
    clear NB_
    generalize hD : World.drew _ = D at *
    clear hD
    have h_ := threeP_row (W := D) Hl0.out HC0.out Hl1.out HC1.out Hl2.out HC2.out 22
    have Hq0 := Aside0.mk h_
    clear h_
    have Nl0 := Aside0.mk (Kd.C_below Hl0.out (below_alloc (Below.refl _ _) (.cells #[.slice A0 l0.length c0, .slice A1 l1.length c1, .slice A2 l2.length c2] 22)))
    clear Hl0
    have Hl0 := Nl0
    clear Nl0
    have Nl1 := Aside0.mk (Kd.C_below Hl1.out (below_alloc (Below.refl _ _) (.cells #[.slice A0 l0.length c0, .slice A1 l1.length c1, .slice A2 l2.length c2] 22)))
    clear Hl1
    have Hl1 := Nl1
    clear Nl1
    have Nl2 := Aside0.mk (Kd.C_below Hl2.out (below_alloc (Below.refl _ _) (.cells #[.slice A0 l0.length c0, .slice A1 l1.length c1, .slice A2 l2.length c2] 22)))
    clear Hl2
    have Hl2 := Nl2
    clear Nl2
    have Ns := Aside0.mk (blk_below Bs.out (below_alloc (Below.refl _ _) (.cells #[.slice A0 l0.length c0, .slice A1 l1.length c1, .slice A2 l2.length c2] 22)))
    clear Bs
    have Bs := Ns
    clear Ns
    have Nn := Aside0.mk (blk_below Bn.out (below_alloc (Below.refl _ _) (.cells #[.slice A0 l0.length c0, .slice A1 l1.length c1, .slice A2 l2.length c2] 22)))
    clear Bn
    have Bn := Nn
    clear Nn
    have NB_ := Aside0.mk (below_step HB.out (below_alloc (Below.refl _ _) (.cells #[.slice A0 l0.length c0, .slice A1 l1.length c1, .slice A2 l2.length c2] 22)))
    clear HB
    have HB := NB_
    clear NB_
    go_wp2_with fail
    refine (fleuronlaw18_few.calls k _ _ 3 [l0, l1, l2] true _ Hq0.out (by simp) HF.out).mono ?_
    rintro e W1 ⟨rfl, hb⟩
    replace hb := hb.below
    have Nl0 := Aside0.mk (Kd.C_below Hl0.out hb)
    clear Hl0
    have Hl0 := Nl0
    clear Nl0
    have Nl1 := Aside0.mk (Kd.C_below Hl1.out hb)
    clear Hl1
    have Hl1 := Nl1
    clear Nl1
    have Nl2 := Aside0.mk (Kd.C_below Hl2.out hb)
    clear Hl2
    have Hl2 := Nl2
    clear Nl2
    have Nq0 := Aside0.mk (Kd.C_below Hq0.out hb)
    clear Hq0
    have Hq0 := Nq0
    clear Nq0
    have Ns := Aside0.mk (blk_below Bs.out hb)
    clear Bs
    have Bs := Ns
    clear Ns
    have Nn := Aside0.mk (blk_below Bn.out hb)
    clear Bn
    have Bn := Nn
    clear Nn
    have NB_ := Aside0.mk (below_step HB.out hb)
    clear HB
    have HB := NB_
    clear NB_
    clear hb
    clear Hq0
    go_wp2_with fail
    ((with_reducible refine (fleuronref18_Valid.calls k A0 c0 l0 true _ Hl0.out HC0.out HV0.out).mono ?_); rintro e W2 ⟨rfl, hb⟩)
    have Nl0 := Aside0.mk (Kd.C_below Hl0.out hb)
    clear Hl0
    have Hl0 := Nl0
    clear Nl0
    have Nl1 := Aside0.mk (Kd.C_below Hl1.out hb)
    clear Hl1
    have Hl1 := Nl1
    clear Nl1
    have Nl2 := Aside0.mk (Kd.C_below Hl2.out hb)
    clear Hl2
    have Hl2 := Nl2
    clear Nl2
    have Ns := Aside0.mk (blk_below Bs.out hb)
    clear Bs
    have Bs := Ns
    clear Ns
    have Nn := Aside0.mk (blk_below Bn.out hb)
    clear Bn
    have Bn := Nn
    clear Nn
    have NB_ := Aside0.mk (below_step HB.out hb)
    clear HB
    have HB := NB_
    clear NB_
    clear hb
    go_wp2_with fail
    ((with_reducible refine (fleuronref18_Valid.calls k A1 c1 l1 true _ Hl1.out HC1.out HV1.out).mono ?_); rintro e W3 ⟨rfl, hb⟩)
    have Nl0 := Aside0.mk (Kd.C_below Hl0.out hb)
    clear Hl0
    have Hl0 := Nl0
    clear Nl0
    have Nl1 := Aside0.mk (Kd.C_below Hl1.out hb)
    clear Hl1
    have Hl1 := Nl1
    clear Nl1
    have Nl2 := Aside0.mk (Kd.C_below Hl2.out hb)
    clear Hl2
    have Hl2 := Nl2
    clear Nl2
    have Ns := Aside0.mk (blk_below Bs.out hb)
    clear Bs
    have Bs := Ns
    clear Ns
    have Nn := Aside0.mk (blk_below Bn.out hb)
    clear Bn
    have Bn := Nn
    clear Nn
    have NB_ := Aside0.mk (below_step HB.out hb)
    clear HB
    have HB := NB_
    clear NB_
    clear hb
    go_wp2_with fail
    ((with_reducible refine (fleuronref18_Valid.calls k A2 c2 l2 true _ Hl2.out HC2.out HV2.out).mono ?_); rintro e W4 ⟨rfl, hb⟩)
    have Nl0 := Aside0.mk (Kd.C_below Hl0.out hb)
    clear Hl0
    have Hl0 := Nl0
    clear Nl0
    have Nl1 := Aside0.mk (Kd.C_below Hl1.out hb)
    clear Hl1
    have Hl1 := Nl1
    clear Nl1
    have Nl2 := Aside0.mk (Kd.C_below Hl2.out hb)
    clear Hl2
    have Hl2 := Nl2
    clear Nl2
    have Ns := Aside0.mk (blk_below Bs.out hb)
    clear Bs
    have Bs := Ns
    clear Ns
    have Nn := Aside0.mk (blk_below Bn.out hb)
    clear Bn
    have Bn := Nn
    clear Nn
    have NB_ := Aside0.mk (below_step HB.out hb)
    clear HB
    have HB := NB_
    clear NB_
    clear hb
    go_wp2_with fail
    ((with_reducible refine (pen_Sum.calls k A0 c0 l0 A1 c1 l1 ab e _ Hl0.out HC0.out Hl1.out HC1.out H1.out).mono ?_); rintro e W5 ⟨vab, rfl, hr, hb⟩)
    have Nl0 := Aside0.mk (Kd.C_below Hl0.out hb)
    clear Hl0
    have Hl0 := Nl0
    clear Nl0
    have Nl1 := Aside0.mk (Kd.C_below Hl1.out hb)
    clear Hl1
    have Hl1 := Nl1
    clear Nl1
    have Nl2 := Aside0.mk (Kd.C_below Hl2.out hb)
    clear Hl2
    have Hl2 := Nl2
    clear Nl2
    have Ns := Aside0.mk (blk_below Bs.out hb)
    clear Bs
    have Bs := Ns
    clear Ns
    have Nn := Aside0.mk (blk_below Bn.out hb)
    clear Bn
    have Bn := Nn
    clear Nn
    have NB_ := Aside0.mk (below_step HB.out hb)
    clear HB
    have HB := NB_
    clear NB_
    obtain ⟨Aab, cab, rfl, hcab, hC⟩ := Kd.R_reads hr
    have Hab := Aside0.mk hC
    clear hC hr hb
    go_wp2_with fail
    ((with_reducible refine (pen_Sum.calls k A1 c1 l1 A0 c0 l0 ab e _ Hl1.out HC1.out Hl0.out HC0.out H2.out).mono ?_); rintro e W6 ⟨vba, rfl, hr, hb⟩)
    have Nl0 := Aside0.mk (Kd.C_below Hl0.out hb)
    clear Hl0
    have Hl0 := Nl0
    clear Nl0
    have Nl1 := Aside0.mk (Kd.C_below Hl1.out hb)
    clear Hl1
    have Hl1 := Nl1
    clear Nl1
    have Nl2 := Aside0.mk (Kd.C_below Hl2.out hb)
    clear Hl2
    have Hl2 := Nl2
    clear Nl2
    have Nab := Aside0.mk (Kd.C_below Hab.out hb)
    clear Hab
    have Hab := Nab
    clear Nab
    have Ns := Aside0.mk (blk_below Bs.out hb)
    clear Bs
    have Bs := Ns
    clear Ns
    have Nn := Aside0.mk (blk_below Bn.out hb)
    clear Bn
    have Bn := Nn
    clear Nn
    have NB_ := Aside0.mk (below_step HB.out hb)
    clear HB
    have HB := NB_
    clear NB_
    obtain ⟨Aba, cba, rfl, hcba, hC⟩ := Kd.R_reads hr
    have Hba := Aside0.mk hC
    clear hC hr hb
    go_wp2_with fail
    ((with_reducible refine (fleuronref16_Same.calls k _ _ ab _ _ ab true _ Hab.out hcab Hba.out hcba H3.out).mono ?_); rintro e W7 ⟨rfl, hb⟩)
    replace hb := hb.below
    have Nl0 := Aside0.mk (Kd.C_below Hl0.out hb)
    clear Hl0
    have Hl0 := Nl0
    clear Nl0
    have Nl1 := Aside0.mk (Kd.C_below Hl1.out hb)
    clear Hl1
    have Hl1 := Nl1
    clear Nl1
    have Nl2 := Aside0.mk (Kd.C_below Hl2.out hb)
    clear Hl2
    have Hl2 := Nl2
    clear Nl2
    have Nab := Aside0.mk (Kd.C_below Hab.out hb)
    clear Hab
    have Hab := Nab
    clear Nab
    have Nba := Aside0.mk (Kd.C_below Hba.out hb)
    clear Hba
    have Hba := Nba
    clear Nba
    have Ns := Aside0.mk (blk_below Bs.out hb)
    clear Bs
    have Bs := Ns
    clear Ns
    have Nn := Aside0.mk (blk_below Bn.out hb)
    clear Bn
    have Bn := Nn
    clear Nn
    have NB_ := Aside0.mk (below_step HB.out hb)
    clear HB
    have HB := NB_
    clear NB_
    clear hb
    clear Hba
    go_wp2_with fail
    ((with_reducible refine (pen_Sum.calls k A1 c1 l1 A2 c2 l2 bc g _ Hl1.out HC1.out Hl2.out HC2.out H4.out).mono ?_); rintro e W8 ⟨vbc, rfl, hr, hb⟩)
    have Nl0 := Aside0.mk (Kd.C_below Hl0.out hb)
    clear Hl0
    have Hl0 := Nl0
    clear Nl0
    have Nl1 := Aside0.mk (Kd.C_below Hl1.out hb)
    clear Hl1
    have Hl1 := Nl1
    clear Nl1
    have Nl2 := Aside0.mk (Kd.C_below Hl2.out hb)
    clear Hl2
    have Hl2 := Nl2
    clear Nl2
    have Nab := Aside0.mk (Kd.C_below Hab.out hb)
    clear Hab
    have Hab := Nab
    clear Nab
    have Ns := Aside0.mk (blk_below Bs.out hb)
    clear Bs
    have Bs := Ns
    clear Ns
    have Nn := Aside0.mk (blk_below Bn.out hb)
    clear Bn
    have Bn := Nn
    clear Nn
    have NB_ := Aside0.mk (below_step HB.out hb)
    clear HB
    have HB := NB_
    clear NB_
    obtain ⟨Abc, cbc, rfl, hcbc, hC⟩ := Kd.R_reads hr
    have Hbc := Aside0.mk hC
    clear hC hr hb
    go_upto_region 9 with (fail)
    go_cut [89] (fun v89 wc => v89 = .bool (zz e g) ∧ W8 = wc)
    case first =>
      clear H5
      by_cases he : e = 0
      · have he1 : (e == 0) = true := beq_iff_eq.mpr he
        have hz : zz e g = (g == 0) := by unfold zz; rw [he1]; rfl
        have HZ := Aside0.mk hz
        clear hz he
        go_wp2
        go_meet
        case rel => exact ⟨by rw [HZ.out], rfl⟩
      · have he1 : (e == 0) = false := beq_eq_false_iff_ne.mpr he
        have hz : zz e g = false := by unfold zz; rw [he1]; rfl
        have HZ := Aside0.mk hz
        clear hz he
        go_wp2
        go_meet
        case rel => exact ⟨by rw [HZ.out], rfl⟩
    case rest =>
      obtain ⟨rfl, rfl⟩ := hcut
      go_upto_if 89 with (fail)
      go_cut [] (fun wc => Aside0 (Below W8.heap.size W8 wc))
      case first =>
        cases hz : zz e g with
        | false =>
          go_wp2
          go_meet
          case rel => exact ⟨Below.refl _ _⟩
        | true =>
          obtain ⟨rfl, rfl⟩ := zz_iff.mp hz
          rcases H5.out with ⟨_, _, x1, e1, y1, e2, k1, k2, k3⟩ | hn
          · have K1 := Aside0.mk k1
            have K2 := Aside0.mk k2
            have K3 := Aside0.mk k3
            have HBW := Aside0.mk (Below.refl W8.heap.size W8)
            clear k1 k2 k3 hz
            go_wp2_with fail
            ((with_reducible refine (pen_Sum.calls k _ _ ab A2 c2 l2 x1 e1 _ Hab.out hcab Hl2.out HC2.out K1.out).mono ?_); rintro e W9 ⟨vx1, rfl, hr, hb⟩)
            have Nl0 := Aside0.mk (Kd.C_below Hl0.out hb)
            clear Hl0
            have Hl0 := Nl0
            clear Nl0
            have Nl1 := Aside0.mk (Kd.C_below Hl1.out hb)
            clear Hl1
            have Hl1 := Nl1
            clear Nl1
            have Nl2 := Aside0.mk (Kd.C_below Hl2.out hb)
            clear Hl2
            have Hl2 := Nl2
            clear Nl2
            have Nab := Aside0.mk (Kd.C_below Hab.out hb)
            clear Hab
            have Hab := Nab
            clear Nab
            have Nbc := Aside0.mk (Kd.C_below Hbc.out hb)
            clear Hbc
            have Hbc := Nbc
            clear Nbc
            have Ns := Aside0.mk (blk_below Bs.out hb)
            clear Bs
            have Bs := Ns
            clear Ns
            have Nn := Aside0.mk (blk_below Bn.out hb)
            clear Bn
            have Bn := Nn
            clear Nn
            have NB_ := Aside0.mk (below_step HB.out hb)
            clear HB
            have HB := NB_
            clear NB_
            have NBW := Aside0.mk (below_step HBW.out hb)
            clear HBW
            have HBW := NBW
            clear NBW
            obtain ⟨Ax1, cx1, rfl, hcx1, hC⟩ := Kd.R_reads hr
            have Hx1 := Aside0.mk hC
            clear hC hr hb
            go_wp2_with fail
            ((with_reducible refine (pen_Sum.calls k A0 c0 l0 _ _ bc y1 e2 _ Hl0.out HC0.out Hbc.out hcbc K2.out).mono ?_); rintro e W10 ⟨vy1, rfl, hr, hb⟩)
            have Nl0 := Aside0.mk (Kd.C_below Hl0.out hb)
            clear Hl0
            have Hl0 := Nl0
            clear Nl0
            have Nl1 := Aside0.mk (Kd.C_below Hl1.out hb)
            clear Hl1
            have Hl1 := Nl1
            clear Nl1
            have Nl2 := Aside0.mk (Kd.C_below Hl2.out hb)
            clear Hl2
            have Hl2 := Nl2
            clear Nl2
            have Nab := Aside0.mk (Kd.C_below Hab.out hb)
            clear Hab
            have Hab := Nab
            clear Nab
            have Nbc := Aside0.mk (Kd.C_below Hbc.out hb)
            clear Hbc
            have Hbc := Nbc
            clear Nbc
            have Nx1 := Aside0.mk (Kd.C_below Hx1.out hb)
            clear Hx1
            have Hx1 := Nx1
            clear Nx1
            have Ns := Aside0.mk (blk_below Bs.out hb)
            clear Bs
            have Bs := Ns
            clear Ns
            have Nn := Aside0.mk (blk_below Bn.out hb)
            clear Bn
            have Bn := Nn
            clear Nn
            have NB_ := Aside0.mk (below_step HB.out hb)
            clear HB
            have HB := NB_
            clear NB_
            have NBW := Aside0.mk (below_step HBW.out hb)
            clear HBW
            have HBW := NBW
            clear NBW
            obtain ⟨Ay1, cy1, rfl, hcy1, hC⟩ := Kd.R_reads hr
            have Hy1 := Aside0.mk hC
            clear hC hr hb
            go_wp2_with fail
            refine (fleuronlaw18_same.calls k _ _ x1 _ _ y1 e1 e2 true _ Hx1.out hcx1 Hy1.out hcy1 K3.out).mono ?_
            rintro e W_ ⟨rfl, hb⟩
            replace hb := hb.below
            go_wp2
            go_meet
            case rel => exact ⟨below_step HBW.out hb⟩
          · exact absurd ⟨rfl, rfl⟩ hn
      case rest =>
        have hb := hcut.out
        clear hcut H5
        have Nl0 := Aside0.mk (Kd.C_below Hl0.out hb)
        clear Hl0
        have Hl0 := Nl0
        clear Nl0
        have Nl1 := Aside0.mk (Kd.C_below Hl1.out hb)
        clear Hl1
        have Hl1 := Nl1
        clear Nl1
        have Nl2 := Aside0.mk (Kd.C_below Hl2.out hb)
        clear Hl2
        have Hl2 := Nl2
        clear Nl2
        have Nab := Aside0.mk (Kd.C_below Hab.out hb)
        clear Hab
        have Hab := Nab
        clear Nab
        have Nbc := Aside0.mk (Kd.C_below Hbc.out hb)
        clear Hbc
        have Hbc := Nbc
        clear Nbc
        have Ns := Aside0.mk (blk_below Bs.out hb)
        clear Bs
        have Bs := Ns
        clear Ns
        have Nn := Aside0.mk (blk_below Bn.out hb)
        clear Bn
        have Bn := Nn
        clear Nn
        have NB_ := Aside0.mk (below_step HB.out hb)
        clear HB
        have HB := NB_
        clear NB_
        clear hb
        clear Hbc
        clear Hab
        have hb1 : 1 ≤ l1.length := H10.out
        obtain ⟨ab1, e1_, k0, k1⟩ := at_T33 Hl1.out 0 (by omega) (by omega)
        subst e1_
        have hc1i : (1 : Int) ≤ (c1 : Int) := by have := HC1.out; omega
        have HK0 := Aside0.mk k0
        have HK1 := Aside0.mk k1
        have HT := Aside0.mk (one_row Hl1.out hb1)
        clear k0 k1
        go_wp2_with fail
        refine (pen_Sum.calls k A0 c0 l0 (some ab1) 1 [rd_T33 l1 0] at_ h _ Hl0.out HC0.out HT.out (by simp) H6.out).mono ?_
        rintro e W9 ⟨vat, rfl, hr, hb⟩
        have Nl0 := Aside0.mk (Kd.C_below Hl0.out hb)
        clear Hl0
        have Hl0 := Nl0
        clear Nl0
        have Nl1 := Aside0.mk (Kd.C_below Hl1.out hb)
        clear Hl1
        have Hl1 := Nl1
        clear Nl1
        have Nl2 := Aside0.mk (Kd.C_below Hl2.out hb)
        clear Hl2
        have Hl2 := Nl2
        clear Nl2
        have NT := Aside0.mk (Kd.C_below HT.out hb)
        clear HT
        have HT := NT
        clear NT
        have Ns := Aside0.mk (blk_below Bs.out hb)
        clear Bs
        have Bs := Ns
        clear Ns
        have Nn := Aside0.mk (blk_below Bn.out hb)
        clear Bn
        have Bn := Nn
        clear Nn
        have NB_ := Aside0.mk (below_step HB.out hb)
        clear HB
        have HB := NB_
        clear NB_
        obtain ⟨Aat, cat, rfl, hcat, hC⟩ := Kd.R_reads hr
        have Hat := Aside0.mk hC
        clear hC hr hb
        clear HT
        go_wp2
        go_loopg [117] at_.length (fun gg s117 wr => ∃ kk : Nat, kk ≤ at_.length ∧ at_.length ≤ gg + kk ∧ s117 = .int .i64 kk ∧ Aside0 (Below W9.heap.size W9 wr))
        case atStart => exact ⟨0, by omega, by omega, rfl, ⟨Below.refl _ _⟩⟩
        case round =>
          obtain ⟨kk, hkk, hgg, rfl, HBr⟩ := hrel
          have hlen0 := H7.out
          by_cases hlt : kk < at_.length
          · clear H8 H9 H11 H12 HB Bs Bn Hl2
            obtain ⟨hk0, hke⟩ := hlen0 kk hlt
            clear hlen0 H7
            have hlti : (kk : Int) < (at_.length : Int) := by omega
            have hl0i : (kk : Int) < (l0.length : Int) := by omega
            have hk00 : (0 : Int) ≤ (kk : Int) := by omega
            have hl1i : (0 : Int) < (l1.length : Int) := by omega
            have hl1n : 0 < l1.length := by omega
            have hl1e : ¬ (l1 = []) := by rintro rfl; simp at hl1n
            have hwk : wrap64 ((kk : Int) + 1) = ((kk + 1 : Nat) : Int) := by have := (Kd.C_below Hat.out HBr.out).2.1; unfold wrap64; omega
            obtain ⟨aa, ea, m0, m1⟩ := at_T33 (Kd.C_below Hat.out HBr.out) (kk : Int) hk00 hlti
            subst ea
            obtain ⟨al, el, u0, u1⟩ := at_T33 (Kd.C_below Hl0.out HBr.out) (kk : Int) hk00 hl0i
            subst el
            obtain ⟨ab2, eb, v0, v1⟩ := at_T33 (Kd.C_below Hl1.out HBr.out) 0 (by omega) hl1i
            obtain rfl : ab1 = ab2 := by injection eb
            rw [hke] at m0 m1
            simp only [Int.toNat_natCast] at m0 m1 u0 u1
            have v0' : wr.cell? ab1 = some (.int .i64 (rd_T33 l1 0).f0) := v0
            have v1' : wr.cell? ⟨ab1.block, ab1.off + 1, none⟩ = some (.int .i64 (rd_T33 l1 0).f1) := v1
            have HWK := Aside0.mk hwk
            clear v0 v1 eb hke hwk
            rw [← i64_w] at m0 m1
            generalize rd_T33 l0 (kk : Int) = xx at *
            generalize rd_T33 l1 0 = bb at *
            go_wp2_with fail
            go_region_held3 (fun w' => w'.cell? (aa.add (kk * 2)) = some (.int .i64 (IntKind.i64.wrap (xx.f0 + bb.f0))) ∧ w'.cell? ⟨(aa.add (kk * 2)).block, (aa.add (kk * 2)).off + 1, none⟩ = some (.int .i64 (IntKind.i64.wrap (xx.f1 + bb.f1))) ∧ w'.cell? (al.add (kk * 2)) = some (.int .i64 xx.f0) ∧ w'.cell? ⟨(al.add (kk * 2)).block, (al.add (kk * 2)).off + 1, none⟩ = some (.int .i64 xx.f1) ∧ w'.cell? ab1 = some (.int .i64 bb.f0) ∧ w'.cell? ⟨ab1.block, ab1.off + 1, none⟩ = some (.int .i64 bb.f1)) (exact ⟨m0, m1, u0, u1, v0', v1'⟩) (fail)
            go_wp2
            go_roundg (at_.length - (kk + 1))
            case measure => omega
            case rel => exact ⟨kk + 1, by omega, by omega, congrArg (Value.int .i64) HWK.out, ⟨below_drew1 HBr.out⟩⟩
          · have hlti : ¬ (kk : Int) < (at_.length : Int) := by omega
            clear hlen0 H7
            have hb := HBr.out
            clear HBr
            have Nl0 := Aside0.mk (Kd.C_below Hl0.out hb)
            clear Hl0
            have Hl0 := Nl0
            clear Nl0
            have Nl1 := Aside0.mk (Kd.C_below Hl1.out hb)
            clear Hl1
            have Hl1 := Nl1
            clear Nl1
            have Nl2 := Aside0.mk (Kd.C_below Hl2.out hb)
            clear Hl2
            have Hl2 := Nl2
            clear Nl2
            have Nat := Aside0.mk (Kd.C_below Hat.out hb)
            clear Hat
            have Hat := Nat
            clear Nat
            have Ns := Aside0.mk (blk_below Bs.out hb)
            clear Bs
            have Bs := Ns
            clear Ns
            have Nn := Aside0.mk (blk_below Bn.out hb)
            clear Bn
            have Bn := Nn
            clear Nn
            have NB_ := Aside0.mk (below_step HB.out hb)
            clear HB
            have HB := NB_
            clear NB_
            clear hb
            go_upto_region 21 with (fail)
            go_cut [163] (fun v163 wc => v163 = .bool false ∧ wr = wc)
            case first =>
              rcases H8.out with ⟨rfl, hh⟩ | rfl
              · have h1 : ((at_.length : Int) != (l0.length : Int)) = false := by rw [hh]; simp
                clear H8 hh H9 H11 H12
                go_wp2
                go_meet
                case rel => exact ⟨by simp, rfl⟩
              · clear H8 H9 H11 H12
                go_wp2
                go_meet
                case rel => exact ⟨by simp, rfl⟩
            case rest =>
              obtain ⟨rfl, rfl⟩ := hcut
              clear H8 hlti
              clear Hat
              have pn0 := (blk_cell Bn.out 0).trans rfl
              have pn1 := (blk_cell Bn.out 1).trans rfl
              go_upto_region 23 with (fail)
              go_cut [21, 22] (fun v21 v22 wc => v21 = .int .i64 (gi n0) ∧ v22 = .int .i64 (gi n1) ∧ Aside0 (Below wr.heap.size wr wc))
              case first =>
                clear H9 H11 H12
                go_region_held3 (fun w' => w'.cell? ⟨w.heap.size + 1, 0, none⟩ = some (.int .i64 n0) ∧ w'.cell? ⟨w.heap.size + 1, 1, none⟩ = some (.int .i64 n1)) (exact ⟨pn0, pn1⟩) (fail)
                go_wp2
                go_meet
                case rel => exact ⟨by simp [gi, i64_w], by simp [gi, i64_w], ⟨below_drew1 (Below.refl _ _)⟩⟩
              case rest =>
                obtain ⟨rfl, rfl, hb_⟩ := hcut
                have hb := hb_.out
                clear hb_
                clear pn0
                clear pn1
                have Nl0 := Aside0.mk (Kd.C_below Hl0.out hb)
                clear Hl0
                have Hl0 := Nl0
                clear Nl0
                have Nl1 := Aside0.mk (Kd.C_below Hl1.out hb)
                clear Hl1
                have Hl1 := Nl1
                clear Nl1
                have Nl2 := Aside0.mk (Kd.C_below Hl2.out hb)
                clear Hl2
                have Hl2 := Nl2
                clear Nl2
                have Ns := Aside0.mk (blk_below Bs.out hb)
                clear Bs
                have Bs := Ns
                clear Ns
                have Nn := Aside0.mk (blk_below Bn.out hb)
                clear Bn
                have Bn := Nn
                clear Nn
                have NB_ := Aside0.mk (below_step HB.out hb)
                clear HB
                have HB := NB_
                clear NB_
                clear hb
                generalize gi n0 = g0 at *
                generalize gi n1 = g1 at *
                clear Bn
                go_wp2_with fail
                ((with_reducible refine (pen_Grow.calls k A0 c0 l0 g0 x p _ Hl0.out HC0.out H9.out).mono ?_); rintro e W10 ⟨vx, rfl, hr, hb⟩)
                have Nl0 := Aside0.mk (Kd.C_below Hl0.out hb)
                clear Hl0
                have Hl0 := Nl0
                clear Nl0
                have Nl1 := Aside0.mk (Kd.C_below Hl1.out hb)
                clear Hl1
                have Hl1 := Nl1
                clear Nl1
                have Nl2 := Aside0.mk (Kd.C_below Hl2.out hb)
                clear Hl2
                have Hl2 := Nl2
                clear Nl2
                have Ns := Aside0.mk (blk_below Bs.out hb)
                clear Bs
                have Bs := Ns
                clear Ns
                have NB_ := Aside0.mk (below_step HB.out hb)
                clear HB
                have HB := NB_
                clear NB_
                obtain ⟨Ax, cx, rfl, hcx, hC⟩ := Kd.R_reads hr
                have Hx := Aside0.mk hC
                clear hC hr hb
                go_wp2_with fail
                ((with_reducible refine (pen_Grow.calls k A0 c0 l0 (wrap64 (g0 * g1)) y q _ Hl0.out HC0.out H11.out).mono ?_); rintro e W11 ⟨vy, rfl, hr, hb⟩)
                have Nl0 := Aside0.mk (Kd.C_below Hl0.out hb)
                clear Hl0
                have Hl0 := Nl0
                clear Nl0
                have Nl1 := Aside0.mk (Kd.C_below Hl1.out hb)
                clear Hl1
                have Hl1 := Nl1
                clear Nl1
                have Nl2 := Aside0.mk (Kd.C_below Hl2.out hb)
                clear Hl2
                have Hl2 := Nl2
                clear Nl2
                have Nx := Aside0.mk (Kd.C_below Hx.out hb)
                clear Hx
                have Hx := Nx
                clear Nx
                have Ns := Aside0.mk (blk_below Bs.out hb)
                clear Bs
                have Bs := Ns
                clear Ns
                have NB_ := Aside0.mk (below_step HB.out hb)
                clear HB
                have HB := NB_
                clear NB_
                obtain ⟨Ay, cy, rfl, hcy, hC⟩ := Kd.R_reads hr
                have Hy := Aside0.mk hC
                clear hC hr hb
                rcases H12.out with rfl | ⟨rfl, h1, h2⟩
                · clear H12
                  go_wp2_with fail
                  ((with_reducible refine (fleuronlaw18_awake.calls true _ rfl).mono ?_); rintro e W12 ⟨rfl, hb⟩)
                  have Nl0 := Aside0.mk (Kd.C_below Hl0.out hb)
                  clear Hl0
                  have Hl0 := Nl0
                  clear Nl0
                  have Nl1 := Aside0.mk (Kd.C_below Hl1.out hb)
                  clear Hl1
                  have Hl1 := Nl1
                  clear Nl1
                  have Nl2 := Aside0.mk (Kd.C_below Hl2.out hb)
                  clear Hl2
                  have Hl2 := Nl2
                  clear Nl2
                  have Nx := Aside0.mk (Kd.C_below Hx.out hb)
                  clear Hx
                  have Hx := Nx
                  clear Nx
                  have Ny := Aside0.mk (Kd.C_below Hy.out hb)
                  clear Hy
                  have Hy := Ny
                  clear Ny
                  have Ns := Aside0.mk (blk_below Bs.out hb)
                  clear Bs
                  have Bs := Ns
                  clear Ns
                  have NB_ := Aside0.mk (below_step HB.out hb)
                  clear HB
                  have HB := NB_
                  clear NB_
                  clear hb
                  go_wp2
                  go_ret
                  exact ⟨rfl, HB.out⟩
                · have K1 := Aside0.mk h1
                  have K2 := Aside0.mk h2
                  clear H12 h1 h2
                  go_wp2_with fail
                  ((with_reducible refine (pen_Grow.calls k _ _ x g1 y q _ Hx.out hcx K1.out).mono ?_); rintro e W12 ⟨vz, rfl, hr, hb⟩)
                  have Nl0 := Aside0.mk (Kd.C_below Hl0.out hb)
                  clear Hl0
                  have Hl0 := Nl0
                  clear Nl0
                  have Nl1 := Aside0.mk (Kd.C_below Hl1.out hb)
                  clear Hl1
                  have Hl1 := Nl1
                  clear Nl1
                  have Nl2 := Aside0.mk (Kd.C_below Hl2.out hb)
                  clear Hl2
                  have Hl2 := Nl2
                  clear Nl2
                  have Nx := Aside0.mk (Kd.C_below Hx.out hb)
                  clear Hx
                  have Hx := Nx
                  clear Nx
                  have Ny := Aside0.mk (Kd.C_below Hy.out hb)
                  clear Hy
                  have Hy := Ny
                  clear Ny
                  have Ns := Aside0.mk (blk_below Bs.out hb)
                  clear Bs
                  have Bs := Ns
                  clear Ns
                  have NB_ := Aside0.mk (below_step HB.out hb)
                  clear HB
                  have HB := NB_
                  clear NB_
                  obtain ⟨Az, cz, rfl, hcz, hC⟩ := Kd.R_reads hr
                  have Hz := Aside0.mk hC
                  clear hC hr hb
                  go_wp2_with fail
                  ((with_reducible refine (fleuronref16_Same.calls k _ _ y _ _ y true _ Hy.out hcy Hz.out hcz K2.out).mono ?_); rintro e W13 ⟨rfl, hb⟩)
                  replace hb := hb.below
                  have Nl0 := Aside0.mk (Kd.C_below Hl0.out hb)
                  clear Hl0
                  have Hl0 := Nl0
                  clear Nl0
                  have Nl1 := Aside0.mk (Kd.C_below Hl1.out hb)
                  clear Hl1
                  have Hl1 := Nl1
                  clear Nl1
                  have Nl2 := Aside0.mk (Kd.C_below Hl2.out hb)
                  clear Hl2
                  have Hl2 := Nl2
                  clear Nl2
                  have Nx := Aside0.mk (Kd.C_below Hx.out hb)
                  clear Hx
                  have Hx := Nx
                  clear Nx
                  have Ny := Aside0.mk (Kd.C_below Hy.out hb)
                  clear Hy
                  have Hy := Ny
                  clear Ny
                  have Nz := Aside0.mk (Kd.C_below Hz.out hb)
                  clear Hz
                  have Hz := Nz
                  clear Nz
                  have Ns := Aside0.mk (blk_below Bs.out hb)
                  clear Bs
                  have Bs := Ns
                  clear Ns
                  have NB_ := Aside0.mk (below_step HB.out hb)
                  clear HB
                  have HB := NB_
                  clear NB_
                  clear hb
                  go_wp2_with fail
                  ((with_reducible refine (fleuronlaw18_awake.calls true _ rfl).mono ?_); rintro e W14 ⟨rfl, hb⟩)
                  have Nl0 := Aside0.mk (Kd.C_below Hl0.out hb)
                  clear Hl0
                  have Hl0 := Nl0
                  clear Nl0
                  have Nl1 := Aside0.mk (Kd.C_below Hl1.out hb)
                  clear Hl1
                  have Hl1 := Nl1
                  clear Nl1
                  have Nl2 := Aside0.mk (Kd.C_below Hl2.out hb)
                  clear Hl2
                  have Hl2 := Nl2
                  clear Nl2
                  have Nx := Aside0.mk (Kd.C_below Hx.out hb)
                  clear Hx
                  have Hx := Nx
                  clear Nx
                  have Ny := Aside0.mk (Kd.C_below Hy.out hb)
                  clear Hy
                  have Hy := Ny
                  clear Ny
                  have Nz := Aside0.mk (Kd.C_below Hz.out hb)
                  clear Hz
                  have Hz := Nz
                  clear Nz
                  have Ns := Aside0.mk (blk_below Bs.out hb)
                  clear Bs
                  have Bs := Ns
                  clear Ns
                  have NB_ := Aside0.mk (below_step HB.out hb)
                  clear HB
                  have HB := NB_
                  clear NB_
                  clear hb
                  go_wp2
                  go_ret
                  exact ⟨rfl, HB.out⟩

end Go.Proofs.Ytnjlcmaelacjkaa.PD3

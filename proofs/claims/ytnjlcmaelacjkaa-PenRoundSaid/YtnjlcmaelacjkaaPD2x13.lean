/- What functions of the program come to, each with the proof that the machine's call does just that; written by a program of this session out of the translation. -/
import Derived.Test.YtnjlcmaelacjkaaPD2x0
import Derived.Test.YtnjlcmaelacjkaaPD2x3
import Derived.Test.YtnjlcmaelacjkaaPD2x7
import Derived.Test.YtnjlcmaelacjkaaPD2x9
import Derived.Test.YtnjlcmaelacjkaaPD2x10
import Derived.Test.YtnjlcmaelacjkaaPD2x11
import Derived.Test.YtnjlcmaelacjkaaPD2x12
namespace Go.Proofs.Ytnjlcmaelacjkaa.PD2
open Go.RowKit Go.Proofs.YtnjlcmaelacjkaaW.PrintWords Go.Proofs.YtnjlcmaelacjkaaW.PrintLast Go.Proofs.YtnjlcmaelacjkaaW.PrintMore
attribute [local go_sem] max2_int min2_int max_two min_two max_three min_three max_four min_four   -- for this text's walks alone
set_option linter.unusedVariables false
set_option linter.unusedSimpArgs false

/-! ### fleuronlaw18_awake: function 13 (by hand) -/
theorem pts_flat : ∀ l : List S33, PtsAt (l.flatMap fun p => [Value.int .i64 p.f0, .int .i64 p.f1]).toArray l
  | [] => fun j x hj => by simp at hj
  | p :: l => fun j x hj => by
    match j, hj with
    | 0, hj => obtain rfl : p = x := by simpa using hj
               exact ⟨rfl, rfl⟩
    | j + 1, hj =>
      have h := pts_flat l j x (by simpa using hj)
      simp only [List.getElem?_toArray] at h ⊢
      rw [show (j + 1) * 2 = j * 2 + 1 + 1 by omega]
      exact h
theorem lit_C (W : World) (l : List S33) (hl : l.length ≤ 9223372036854775807) : Kd.C k33 (W.alloc (.cells (l.flatMap fun p => [Value.int .i64 p.f0, .int .i64 p.f1]).toArray 33)) (some ⟨W.heap.size, 0, none⟩) l.length l :=
  (Kd.R_reads' (row_of_pts (base := W.heap.size) (ok := fun _ => True) (cap := l.length) (d := l) (blk_new W _) (pts_flat l) (Nat.le_refl _) trivial (Nat.le_refl _) hl (by simp; clear hl; induction l with | nil => rfl | cons p l ih => simp at *; omega))).2.2
def fleuronlaw18_awake.f : Option Bool := some true
set_option maxHeartbeats 8000000 in
set_option maxRecDepth 100000 in
theorem fleuronlaw18_awake.calls (r : Bool) (w : World) (h : fleuronlaw18_awake.f = some r) : Calls Try.prog 13 #[] w fun e w' => e = .returned (.bool r) ∧ Below w.heap.size w w' := by
  obtain rfl : true = r := Option.some.inj h
  clear h
  have hu := Try.underlying33
  have HB := Aside0.mk (Below.refl w.heap.size w)
  go_enter Try.func13, Try.ntmps13
  have Hq := Aside0.mk (lit_C w [⟨0, 0⟩, ⟨2, 0⟩, ⟨1, 1⟩, ⟨1, 0⟩] (by decide))
  have NB := Aside0.mk (below_alloc HB.out (.cells #[.int .i64 0, .int .i64 0, .int .i64 2, .int .i64 0, .int .i64 1, .int .i64 1, .int .i64 1, .int .i64 0] 33))
  clear HB
  have HB := NB
  clear NB
  go_wp2_with fail
  refine (pen_Hull.calls 9 _ 4 [⟨0, 0⟩, ⟨2, 0⟩, ⟨1, 1⟩, ⟨1, 0⟩] [⟨0, 0⟩, ⟨2, 0⟩, ⟨1, 1⟩] 0 _ Hq.out (Nat.le_refl _) (by kernel_rfl)).mono ?_
  rintro e W1 ⟨vh, rfl, hr, hb⟩
  have Nq := Aside0.mk (Kd.C_below Hq.out hb)
  clear Hq
  have Hq := Nq
  clear Nq
  have NB := Aside0.mk (below_step HB.out hb)
  clear HB
  have HB := NB
  clear NB
  clear hb
  obtain ⟨Ah, ch, rfl, hch, hC⟩ := Kd.R_reads hr
  have Hh := Aside0.mk hC
  clear hC hr
  have Nh := Aside0.mk (Kd.C_below Hh.out (below_alloc (Below.refl _ _) (.cells #[.int .i64 0, .int .i64 0, .int .i64 1, .int .i64 0] 33)))
  clear Hh
  have Hh := Nh
  clear Nh
  have Hline := Aside0.mk (lit_C W1 [⟨0, 0⟩, ⟨1, 0⟩] (by decide))
  have NB := Aside0.mk (below_alloc HB.out (.cells #[.int .i64 0, .int .i64 0, .int .i64 1, .int .i64 0] 33))
  clear HB
  have HB := NB
  clear NB
  go_wp2_with fail
  refine (pen_Covers.calls _ 2 [⟨0, 0⟩, ⟨1, 0⟩] 0 0 0 2 1 1 true 0 _ Hline.out (Nat.le_refl _) (by kernel_rfl)).mono ?_
  rintro e W2 ⟨rfl, hb⟩
  have Nh := Aside0.mk (Kd.C_below Hh.out hb)
  clear Hh
  have Hh := Nh
  clear Nh
  have Nline := Aside0.mk (Kd.C_below Hline.out hb)
  clear Hline
  have Hline := Nline
  clear Nline
  have NB := Aside0.mk (below_step HB.out hb)
  clear HB
  have HB := NB
  clear NB
  clear hb
  go_wp2_with fail
  refine (pen_Covers.calls _ 2 [⟨0, 0⟩, ⟨1, 0⟩] 0 0 0 2 2 1 false 0 _ Hline.out (Nat.le_refl _) (by kernel_rfl)).mono ?_
  rintro e W3 ⟨rfl, hb⟩
  have Nh := Aside0.mk (Kd.C_below Hh.out hb)
  clear Hh
  have Hh := Nh
  clear Nh
  have Nline := Aside0.mk (Kd.C_below Hline.out hb)
  clear Hline
  have Hline := Nline
  clear Nline
  have NB := Aside0.mk (below_step HB.out hb)
  clear HB
  have HB := NB
  clear NB
  clear hb
  go_wp2_with fail
  refine (pen_Sweep.calls _ 2 [⟨0, 0⟩, ⟨1, 0⟩] 0 0 0 2 [⟨0, 0⟩, ⟨1, 0⟩, ⟨1, 2⟩, ⟨0, 2⟩] 0 _ Hline.out (Nat.le_refl _) (by kernel_rfl)).mono ?_
  rintro e W4 ⟨vs, rfl, hr, hb⟩
  have Nh := Aside0.mk (Kd.C_below Hh.out hb)
  clear Hh
  have Hh := Nh
  clear Nh
  have Nline := Aside0.mk (Kd.C_below Hline.out hb)
  clear Hline
  have Hline := Nline
  clear Nline
  have NB := Aside0.mk (below_step HB.out hb)
  clear HB
  have HB := NB
  clear NB
  clear hb
  obtain ⟨As, cs, rfl, hcs, hC⟩ := Kd.R_reads hr
  have Hs := Aside0.mk hC
  clear hC hr
  have Nh := Aside0.mk (Kd.C_below Hh.out (below_alloc (Below.refl _ _) (.cells #[.int .i64 5, .int .i64 5] 33)))
  clear Hh
  have Hh := Nh
  clear Nh
  have Nline := Aside0.mk (Kd.C_below Hline.out (below_alloc (Below.refl _ _) (.cells #[.int .i64 5, .int .i64 5] 33)))
  clear Hline
  have Hline := Nline
  clear Nline
  have Ns := Aside0.mk (Kd.C_below Hs.out (below_alloc (Below.refl _ _) (.cells #[.int .i64 5, .int .i64 5] 33)))
  clear Hs
  have Hs := Ns
  clear Ns
  have Hp := Aside0.mk (lit_C W4 [⟨5, 5⟩] (by decide))
  have NB := Aside0.mk (below_alloc HB.out (.cells #[.int .i64 5, .int .i64 5] 33))
  clear HB
  have HB := NB
  clear NB
  go_wp2_with fail
  refine (pen_Sum.calls 30 _ 2 [⟨0, 0⟩, ⟨1, 0⟩] _ 1 [⟨5, 5⟩] [⟨5, 5⟩, ⟨6, 5⟩] 0 _ Hline.out (Nat.le_refl _) Hp.out (Nat.le_refl _) (by kernel_rfl)).mono ?_
  rintro e W5 ⟨vm, rfl, hr, hb⟩
  have Nh := Aside0.mk (Kd.C_below Hh.out hb)
  clear Hh
  have Hh := Nh
  clear Nh
  have Nline := Aside0.mk (Kd.C_below Hline.out hb)
  clear Hline
  have Hline := Nline
  clear Nline
  have Ns := Aside0.mk (Kd.C_below Hs.out hb)
  clear Hs
  have Hs := Ns
  clear Ns
  have Np := Aside0.mk (Kd.C_below Hp.out hb)
  clear Hp
  have Hp := Np
  clear Np
  have NB := Aside0.mk (below_step HB.out hb)
  clear HB
  have HB := NB
  clear NB
  clear hb
  obtain ⟨Am, cm, rfl, hcm, hC⟩ := Kd.R_reads hr
  have Hm := Aside0.mk hC
  clear hC hr
  go_wp2_with fail
  refine (pen_Turn.calls _ 2 [⟨0, 0⟩, ⟨1, 0⟩] [⟨(-1), 0⟩, ⟨0, 0⟩] 0 _ Hline.out (Nat.le_refl _) (by kernel_rfl)).mono ?_
  rintro e W6 ⟨vt, rfl, hr, hb⟩
  have Nh := Aside0.mk (Kd.C_below Hh.out hb)
  clear Hh
  have Hh := Nh
  clear Nh
  have Nline := Aside0.mk (Kd.C_below Hline.out hb)
  clear Hline
  have Hline := Nline
  clear Nline
  have Ns := Aside0.mk (Kd.C_below Hs.out hb)
  clear Hs
  have Hs := Ns
  clear Ns
  have Nm := Aside0.mk (Kd.C_below Hm.out hb)
  clear Hm
  have Hm := Nm
  clear Nm
  have NB := Aside0.mk (below_step HB.out hb)
  clear HB
  have HB := NB
  clear NB
  clear hb
  obtain ⟨At, ct, rfl, hct, hC⟩ := Kd.R_reads hr
  have Ht := Aside0.mk hC
  clear hC hr
  go_wp2_with fail
  refine (pen_Touch.calls _ 2 [⟨0, 0⟩, ⟨1, 0⟩] 1 0 1 0 0 _ Hline.out (Nat.le_refl _) (by kernel_rfl)).mono ?_
  rintro e W7 ⟨rfl, hb⟩
  have Nh := Aside0.mk (Kd.C_below Hh.out hb)
  clear Hh
  have Hh := Nh
  clear Nh
  have Nline := Aside0.mk (Kd.C_below Hline.out hb)
  clear Hline
  have Hline := Nline
  clear Nline
  have Ns := Aside0.mk (Kd.C_below Hs.out hb)
  clear Hs
  have Hs := Ns
  clear Ns
  have Nm := Aside0.mk (Kd.C_below Hm.out hb)
  clear Hm
  have Hm := Nm
  clear Nm
  have Nt := Aside0.mk (Kd.C_below Ht.out hb)
  clear Ht
  have Ht := Nt
  clear Nt
  have NB := Aside0.mk (below_step HB.out hb)
  clear HB
  have HB := NB
  clear NB
  clear hb
  have Nh := Aside0.mk (Kd.C_below Hh.out (below_alloc (Below.refl _ _) (.cells #[.int .i64 1, .int .i64 0] 33)))
  clear Hh
  have Hh := Nh
  clear Nh
  have Nline := Aside0.mk (Kd.C_below Hline.out (below_alloc (Below.refl _ _) (.cells #[.int .i64 1, .int .i64 0] 33)))
  clear Hline
  have Hline := Nline
  clear Nline
  have Ns := Aside0.mk (Kd.C_below Hs.out (below_alloc (Below.refl _ _) (.cells #[.int .i64 1, .int .i64 0] 33)))
  clear Hs
  have Hs := Ns
  clear Ns
  have Nm := Aside0.mk (Kd.C_below Hm.out (below_alloc (Below.refl _ _) (.cells #[.int .i64 1, .int .i64 0] 33)))
  clear Hm
  have Hm := Nm
  clear Nm
  have Nt := Aside0.mk (Kd.C_below Ht.out (below_alloc (Below.refl _ _) (.cells #[.int .i64 1, .int .i64 0] 33)))
  clear Ht
  have Ht := Nt
  clear Nt
  have Bo := Aside0.mk (blk_new W7 (.cells #[.int .i64 1, .int .i64 0] 33))
  have NB := Aside0.mk (below_alloc HB.out (.cells #[.int .i64 1, .int .i64 0] 33))
  clear HB
  have HB := NB
  clear NB
  --NIL
  go_wp2_with fail
  refine (pen_Hull.calls 9 none 0 [] [] 2 _ (Kd.C_nil _ _) (Nat.le_refl _) (by kernel_rfl)).mono ?_
  rintro e W8 ⟨v9, rfl, _, hb⟩
  have Nh := Aside0.mk (Kd.C_below Hh.out hb)
  clear Hh
  have Hh := Nh
  clear Nh
  have Nline := Aside0.mk (Kd.C_below Hline.out hb)
  clear Hline
  have Hline := Nline
  clear Nline
  have Ns := Aside0.mk (Kd.C_below Hs.out hb)
  clear Hs
  have Hs := Ns
  clear Ns
  have Nm := Aside0.mk (Kd.C_below Hm.out hb)
  clear Hm
  have Hm := Nm
  clear Nm
  have Nt := Aside0.mk (Kd.C_below Ht.out hb)
  clear Ht
  have Ht := Nt
  clear Nt
  have No := Aside0.mk (blk_below Bo.out hb)
  clear Bo
  have Bo := No
  clear No
  have NB := Aside0.mk (below_step HB.out hb)
  clear HB
  have HB := NB
  clear NB
  clear hb
  have Nh := Aside0.mk (Kd.C_below Hh.out (below_alloc (Below.refl _ _) (.cells #[.int .i64 0, .int .i64 3] 33)))
  clear Hh
  have Hh := Nh
  clear Nh
  have Nline := Aside0.mk (Kd.C_below Hline.out (below_alloc (Below.refl _ _) (.cells #[.int .i64 0, .int .i64 3] 33)))
  clear Hline
  have Hline := Nline
  clear Nline
  have Ns := Aside0.mk (Kd.C_below Hs.out (below_alloc (Below.refl _ _) (.cells #[.int .i64 0, .int .i64 3] 33)))
  clear Hs
  have Hs := Ns
  clear Ns
  have Nm := Aside0.mk (Kd.C_below Hm.out (below_alloc (Below.refl _ _) (.cells #[.int .i64 0, .int .i64 3] 33)))
  clear Hm
  have Hm := Nm
  clear Nm
  have Nt := Aside0.mk (Kd.C_below Ht.out (below_alloc (Below.refl _ _) (.cells #[.int .i64 0, .int .i64 3] 33)))
  clear Ht
  have Ht := Nt
  clear Nt
  have No := Aside0.mk (blk_below Bo.out (below_alloc (Below.refl _ _) (.cells #[.int .i64 0, .int .i64 3] 33)))
  clear Bo
  have Bo := No
  clear No
  have Hr := Aside0.mk (lit_C W8 [⟨0, 3⟩] (by decide))
  have NB := Aside0.mk (below_alloc HB.out (.cells #[.int .i64 0, .int .i64 3] 33))
  clear HB
  have HB := NB
  clear NB
  go_wp2_with fail
  refine (pen_Along.calls _ 2 [⟨0, 0⟩, ⟨1, 0⟩] _ 1 [⟨0, 3⟩] 1 3 true 0 _ Hline.out (Nat.le_refl _) Hr.out (Nat.le_refl _) (by kernel_rfl)).mono ?_
  rintro e W9 ⟨rfl, hb⟩
  have Nh := Aside0.mk (Kd.C_below Hh.out hb)
  clear Hh
  have Hh := Nh
  clear Nh
  have Nline := Aside0.mk (Kd.C_below Hline.out hb)
  clear Hline
  have Hline := Nline
  clear Nline
  have Ns := Aside0.mk (Kd.C_below Hs.out hb)
  clear Hs
  have Hs := Ns
  clear Ns
  have Nm := Aside0.mk (Kd.C_below Hm.out hb)
  clear Hm
  have Hm := Nm
  clear Nm
  have Nt := Aside0.mk (Kd.C_below Ht.out hb)
  clear Ht
  have Ht := Nt
  clear Nt
  have Nr := Aside0.mk (Kd.C_below Hr.out hb)
  clear Hr
  have Hr := Nr
  clear Nr
  have No := Aside0.mk (blk_below Bo.out hb)
  clear Bo
  have Bo := No
  clear No
  have NB := Aside0.mk (below_step HB.out hb)
  clear HB
  have HB := NB
  clear NB
  clear hb
  have Nh := Aside0.mk (Kd.C_below Hh.out (below_alloc (Below.refl _ _) (.cells #[.int .i64 0, .int .i64 0, .int .i64 2, .int .i64 0, .int .i64 1, .int .i64 1] 33)))
  clear Hh
  have Hh := Nh
  clear Nh
  have Nline := Aside0.mk (Kd.C_below Hline.out (below_alloc (Below.refl _ _) (.cells #[.int .i64 0, .int .i64 0, .int .i64 2, .int .i64 0, .int .i64 1, .int .i64 1] 33)))
  clear Hline
  have Hline := Nline
  clear Nline
  have Ns := Aside0.mk (Kd.C_below Hs.out (below_alloc (Below.refl _ _) (.cells #[.int .i64 0, .int .i64 0, .int .i64 2, .int .i64 0, .int .i64 1, .int .i64 1] 33)))
  clear Hs
  have Hs := Ns
  clear Ns
  have Nm := Aside0.mk (Kd.C_below Hm.out (below_alloc (Below.refl _ _) (.cells #[.int .i64 0, .int .i64 0, .int .i64 2, .int .i64 0, .int .i64 1, .int .i64 1] 33)))
  clear Hm
  have Hm := Nm
  clear Nm
  have Nt := Aside0.mk (Kd.C_below Ht.out (below_alloc (Below.refl _ _) (.cells #[.int .i64 0, .int .i64 0, .int .i64 2, .int .i64 0, .int .i64 1, .int .i64 1] 33)))
  clear Ht
  have Ht := Nt
  clear Nt
  have No := Aside0.mk (blk_below Bo.out (below_alloc (Below.refl _ _) (.cells #[.int .i64 0, .int .i64 0, .int .i64 2, .int .i64 0, .int .i64 1, .int .i64 1] 33)))
  clear Bo
  have Bo := No
  clear No
  have Hz := Aside0.mk (lit_C W9 [⟨0, 0⟩, ⟨2, 0⟩, ⟨1, 1⟩] (by decide))
  have NB := Aside0.mk (below_alloc HB.out (.cells #[.int .i64 0, .int .i64 0, .int .i64 2, .int .i64 0, .int .i64 1, .int .i64 1] 33))
  clear HB
  have HB := NB
  clear NB
  go_wp2_with fail
  refine (fleuronref16_Same.calls 9 _ _ [⟨0, 0⟩, ⟨2, 0⟩, ⟨1, 1⟩] _ _ [⟨0, 0⟩, ⟨2, 0⟩, ⟨1, 1⟩] true _ Hh.out hch Hz.out (Nat.le_refl _) (by kernel_rfl)).mono ?_
  rintro e W10 ⟨rfl, hb⟩
  replace hb := hb.below
  have Nh := Aside0.mk (Kd.C_below Hh.out hb)
  clear Hh
  have Hh := Nh
  clear Nh
  have Nline := Aside0.mk (Kd.C_below Hline.out hb)
  clear Hline
  have Hline := Nline
  clear Nline
  have Ns := Aside0.mk (Kd.C_below Hs.out hb)
  clear Hs
  have Hs := Ns
  clear Ns
  have Nm := Aside0.mk (Kd.C_below Hm.out hb)
  clear Hm
  have Hm := Nm
  clear Nm
  have Nt := Aside0.mk (Kd.C_below Ht.out hb)
  clear Ht
  have Ht := Nt
  clear Nt
  have Nz := Aside0.mk (Kd.C_below Hz.out hb)
  clear Hz
  have Hz := Nz
  clear Nz
  have No := Aside0.mk (blk_below Bo.out hb)
  clear Bo
  have Bo := No
  clear No
  have NB := Aside0.mk (below_step HB.out hb)
  clear HB
  have HB := NB
  clear NB
  clear hb
  clear Hz Hh
  have Nline := Aside0.mk (Kd.C_below Hline.out (below_alloc (Below.refl _ _) (.cells #[.int .i64 0, .int .i64 0, .int .i64 1, .int .i64 0, .int .i64 1, .int .i64 2, .int .i64 0, .int .i64 2] 33)))
  clear Hline
  have Hline := Nline
  clear Nline
  have Ns := Aside0.mk (Kd.C_below Hs.out (below_alloc (Below.refl _ _) (.cells #[.int .i64 0, .int .i64 0, .int .i64 1, .int .i64 0, .int .i64 1, .int .i64 2, .int .i64 0, .int .i64 2] 33)))
  clear Hs
  have Hs := Ns
  clear Ns
  have Nm := Aside0.mk (Kd.C_below Hm.out (below_alloc (Below.refl _ _) (.cells #[.int .i64 0, .int .i64 0, .int .i64 1, .int .i64 0, .int .i64 1, .int .i64 2, .int .i64 0, .int .i64 2] 33)))
  clear Hm
  have Hm := Nm
  clear Nm
  have Nt := Aside0.mk (Kd.C_below Ht.out (below_alloc (Below.refl _ _) (.cells #[.int .i64 0, .int .i64 0, .int .i64 1, .int .i64 0, .int .i64 1, .int .i64 2, .int .i64 0, .int .i64 2] 33)))
  clear Ht
  have Ht := Nt
  clear Nt
  have No := Aside0.mk (blk_below Bo.out (below_alloc (Below.refl _ _) (.cells #[.int .i64 0, .int .i64 0, .int .i64 1, .int .i64 0, .int .i64 1, .int .i64 2, .int .i64 0, .int .i64 2] 33)))
  clear Bo
  have Bo := No
  clear No
  have Hz := Aside0.mk (lit_C W10 [⟨0, 0⟩, ⟨1, 0⟩, ⟨1, 2⟩, ⟨0, 2⟩] (by decide))
  have NB := Aside0.mk (below_alloc HB.out (.cells #[.int .i64 0, .int .i64 0, .int .i64 1, .int .i64 0, .int .i64 1, .int .i64 2, .int .i64 0, .int .i64 2] 33))
  clear HB
  have HB := NB
  clear NB
  go_wp2_with fail
  refine (fleuronref16_Same.calls 9 _ _ [⟨0, 0⟩, ⟨1, 0⟩, ⟨1, 2⟩, ⟨0, 2⟩] _ _ [⟨0, 0⟩, ⟨1, 0⟩, ⟨1, 2⟩, ⟨0, 2⟩] true _ Hs.out hcs Hz.out (Nat.le_refl _) (by kernel_rfl)).mono ?_
  rintro e W11 ⟨rfl, hb⟩
  replace hb := hb.below
  have Nline := Aside0.mk (Kd.C_below Hline.out hb)
  clear Hline
  have Hline := Nline
  clear Nline
  have Ns := Aside0.mk (Kd.C_below Hs.out hb)
  clear Hs
  have Hs := Ns
  clear Ns
  have Nm := Aside0.mk (Kd.C_below Hm.out hb)
  clear Hm
  have Hm := Nm
  clear Nm
  have Nt := Aside0.mk (Kd.C_below Ht.out hb)
  clear Ht
  have Ht := Nt
  clear Nt
  have Nz := Aside0.mk (Kd.C_below Hz.out hb)
  clear Hz
  have Hz := Nz
  clear Nz
  have No := Aside0.mk (blk_below Bo.out hb)
  clear Bo
  have Bo := No
  clear No
  have NB := Aside0.mk (below_step HB.out hb)
  clear HB
  have HB := NB
  clear NB
  clear hb
  clear Hz Hs
  have Nline := Aside0.mk (Kd.C_below Hline.out (below_alloc (Below.refl _ _) (.cells #[.int .i64 5, .int .i64 5, .int .i64 6, .int .i64 5] 33)))
  clear Hline
  have Hline := Nline
  clear Nline
  have Nm := Aside0.mk (Kd.C_below Hm.out (below_alloc (Below.refl _ _) (.cells #[.int .i64 5, .int .i64 5, .int .i64 6, .int .i64 5] 33)))
  clear Hm
  have Hm := Nm
  clear Nm
  have Nt := Aside0.mk (Kd.C_below Ht.out (below_alloc (Below.refl _ _) (.cells #[.int .i64 5, .int .i64 5, .int .i64 6, .int .i64 5] 33)))
  clear Ht
  have Ht := Nt
  clear Nt
  have No := Aside0.mk (blk_below Bo.out (below_alloc (Below.refl _ _) (.cells #[.int .i64 5, .int .i64 5, .int .i64 6, .int .i64 5] 33)))
  clear Bo
  have Bo := No
  clear No
  have Hz := Aside0.mk (lit_C W11 [⟨5, 5⟩, ⟨6, 5⟩] (by decide))
  have NB := Aside0.mk (below_alloc HB.out (.cells #[.int .i64 5, .int .i64 5, .int .i64 6, .int .i64 5] 33))
  clear HB
  have HB := NB
  clear NB
  go_wp2_with fail
  refine (fleuronref16_Same.calls 9 _ _ [⟨5, 5⟩, ⟨6, 5⟩] _ _ [⟨5, 5⟩, ⟨6, 5⟩] true _ Hm.out hcm Hz.out (Nat.le_refl _) (by kernel_rfl)).mono ?_
  rintro e W12 ⟨rfl, hb⟩
  replace hb := hb.below
  have Nline := Aside0.mk (Kd.C_below Hline.out hb)
  clear Hline
  have Hline := Nline
  clear Nline
  have Nm := Aside0.mk (Kd.C_below Hm.out hb)
  clear Hm
  have Hm := Nm
  clear Nm
  have Nt := Aside0.mk (Kd.C_below Ht.out hb)
  clear Ht
  have Ht := Nt
  clear Nt
  have Nz := Aside0.mk (Kd.C_below Hz.out hb)
  clear Hz
  have Hz := Nz
  clear Nz
  have No := Aside0.mk (blk_below Bo.out hb)
  clear Bo
  have Bo := No
  clear No
  have NB := Aside0.mk (below_step HB.out hb)
  clear HB
  have HB := NB
  clear NB
  clear hb
  clear Hz Hm
  have Nline := Aside0.mk (Kd.C_below Hline.out (below_alloc (Below.refl _ _) (.cells #[.int .i64 (-1), .int .i64 0, .int .i64 0, .int .i64 0] 33)))
  clear Hline
  have Hline := Nline
  clear Nline
  have Nt := Aside0.mk (Kd.C_below Ht.out (below_alloc (Below.refl _ _) (.cells #[.int .i64 (-1), .int .i64 0, .int .i64 0, .int .i64 0] 33)))
  clear Ht
  have Ht := Nt
  clear Nt
  have No := Aside0.mk (blk_below Bo.out (below_alloc (Below.refl _ _) (.cells #[.int .i64 (-1), .int .i64 0, .int .i64 0, .int .i64 0] 33)))
  clear Bo
  have Bo := No
  clear No
  have Hz := Aside0.mk (lit_C W12 [⟨(-1), 0⟩, ⟨0, 0⟩] (by decide))
  have NB := Aside0.mk (below_alloc HB.out (.cells #[.int .i64 (-1), .int .i64 0, .int .i64 0, .int .i64 0] 33))
  clear HB
  have HB := NB
  clear NB
  go_wp2_with fail
  refine (fleuronref16_Same.calls 9 _ _ [⟨(-1), 0⟩, ⟨0, 0⟩] _ _ [⟨(-1), 0⟩, ⟨0, 0⟩] true _ Ht.out hct Hz.out (Nat.le_refl _) (by kernel_rfl)).mono ?_
  rintro e W13 ⟨rfl, hb⟩
  replace hb := hb.below
  have Nline := Aside0.mk (Kd.C_below Hline.out hb)
  clear Hline
  have Hline := Nline
  clear Nline
  have Nt := Aside0.mk (Kd.C_below Ht.out hb)
  clear Ht
  have Ht := Nt
  clear Nt
  have Nz := Aside0.mk (Kd.C_below Hz.out hb)
  clear Hz
  have Hz := Nz
  clear Nz
  have No := Aside0.mk (blk_below Bo.out hb)
  clear Bo
  have Bo := No
  clear No
  have NB := Aside0.mk (below_step HB.out hb)
  clear HB
  have HB := NB
  clear NB
  clear hb
  clear Hz Ht
  have o0 := (blk_cell Bo.out 0).trans rfl
  go_wp2_with fail
  refine (pen_Valid.calls _ 2 [⟨0, 0⟩, ⟨1, 0⟩] true _ Hline.out (Nat.le_refl _) (by kernel_rfl)).mono ?_
  rintro e W14 ⟨rfl, hb⟩
  have Nline := Aside0.mk (Kd.C_below Hline.out hb)
  clear Hline
  have Hline := Nline
  clear Nline
  have No := Aside0.mk (blk_below Bo.out hb)
  clear Bo
  have Bo := No
  clear No
  have NB := Aside0.mk (below_step HB.out hb)
  clear HB
  have HB := NB
  clear NB
  clear hb
  have Nline := Aside0.mk (Kd.C_below Hline.out (below_alloc (Below.refl _ _) (.cells #[.int .i64 1, .int .i64 0, .int .i64 0, .int .i64 0] 33)))
  clear Hline
  have Hline := Nline
  clear Nline
  have No := Aside0.mk (blk_below Bo.out (below_alloc (Below.refl _ _) (.cells #[.int .i64 1, .int .i64 0, .int .i64 0, .int .i64 0] 33)))
  clear Bo
  have Bo := No
  clear No
  have Hy := Aside0.mk (lit_C W14 [⟨1, 0⟩, ⟨0, 0⟩] (by decide))
  have NB := Aside0.mk (below_alloc HB.out (.cells #[.int .i64 1, .int .i64 0, .int .i64 0, .int .i64 0] 33))
  clear HB
  have HB := NB
  clear NB
  go_wp2_with fail
  refine (pen_Valid.calls _ 2 [⟨1, 0⟩, ⟨0, 0⟩] false _ Hy.out (Nat.le_refl _) (by kernel_rfl)).mono ?_
  rintro e W15 ⟨rfl, hb⟩
  have Nline := Aside0.mk (Kd.C_below Hline.out hb)
  clear Hline
  have Hline := Nline
  clear Nline
  have Ny := Aside0.mk (Kd.C_below Hy.out hb)
  clear Hy
  have Hy := Ny
  clear Ny
  have No := Aside0.mk (blk_below Bo.out hb)
  clear Bo
  have Bo := No
  clear No
  have NB := Aside0.mk (below_step HB.out hb)
  clear HB
  have HB := NB
  clear NB
  clear hb
  go_wp2
  go_ret
  exact ⟨rfl, HB.out⟩

/-! ### fleuronref17_sign: function 59 -/
def fleuronref17_sign.f (a0 : Int) : Option (Int) := if a0 > 0 then (some 1) else (if a0 < 0 then (some (-1)) else (some 0))
set_option maxHeartbeats 8000000 in
set_option maxRecDepth 100000 in
theorem fleuronref17_sign.calls (a0 : Int) (r : Int) (w : World) (h : fleuronref17_sign.f a0 = some r) :
    Calls Try.prog 59 #[.int .i64 a0] w fun e w' => e = .returned (.int .i64 r) ∧ Drawn0 w w' := by
  have H : (if a0 > 0 then (some 1) else (if a0 < 0 then (some (-1)) else (some 0))) = some r := h
  clear h
  by_cases c2 : a0 > 0
  · rw [if_pos c2] at H
    have c2b0 : decide (0 < a0) = true := decide_eq_true c2
    clear c2
    obtain rfl := Option.some.inj H
    go_enter Try.func59, Try.ntmps59
    go_wp2
    go_ret
    exact ⟨by first | rfl | (simp; done) | (simp [*]; done), by repeat (first | exact Drawn0.refl _ | apply Drawn0.step)⟩
  · rw [if_neg c2] at H
    have c2b0 : decide (0 < a0) = false := decide_eq_false c2
    clear c2
    by_cases c3 : a0 < 0
    · rw [if_pos c3] at H
      have c3b0 : decide (a0 < 0) = true := decide_eq_true c3
      clear c3
      obtain rfl := Option.some.inj H
      go_enter Try.func59, Try.ntmps59
      go_wp2
      go_ret
      exact ⟨by first | rfl | (simp; done) | (simp [*]; done), by repeat (first | exact Drawn0.refl _ | apply Drawn0.step)⟩
    · rw [if_neg c3] at H
      have c3b0 : decide (a0 < 0) = false := decide_eq_false c3
      clear c3
      obtain rfl := Option.some.inj H
      go_enter Try.func59, Try.ntmps59
      go_wp2
      go_ret
      exact ⟨by first | rfl | (simp; done) | (simp [*]; done), by repeat (first | exact Drawn0.refl _ | apply Drawn0.step)⟩

/-! ### fleuronref17_Turn: function 26 -/
def fleuronref17_Turn.f (a0_0 : Int) (a0_1 : Int) (a1_0 : Int) (a1_1 : Int) (a2_0 : Int) (a2_1 : Int) : Option (Int) := (fleuronref17_sign.f (wrap64 ((wrap64 ((wrap64 (a1_0 - a0_0)) * (wrap64 (a2_1 - a0_1)))) - (wrap64 ((wrap64 (a1_1 - a0_1)) * (wrap64 (a2_0 - a0_0))))))).bind fun t219 => (some t219)
set_option maxHeartbeats 8000000 in
set_option maxRecDepth 100000 in
theorem fleuronref17_Turn.calls (a0_0 : Int) (a0_1 : Int) (a1_0 : Int) (a1_1 : Int) (a2_0 : Int) (a2_1 : Int) (r : Int) (w : World) (h : fleuronref17_Turn.f a0_0 a0_1 a1_0 a1_1 a2_0 a2_1 = some r) :
    Calls Try.prog 26 #[.agg #[.int .i64 a0_0, .int .i64 a0_1], .agg #[.int .i64 a1_0, .int .i64 a1_1], .agg #[.int .i64 a2_0, .int .i64 a2_1]] w fun e w' => e = .returned (.int .i64 r) ∧ Below w.heap.size w w' := by
  have hu33 := Try.underlying33
  have HB := Aside0.mk (Below.refl w.heap.size w)
  have H : ((fleuronref17_sign.f (wrap64 ((wrap64 ((wrap64 (a1_0 - a0_0)) * (wrap64 (a2_1 - a0_1)))) - (wrap64 ((wrap64 (a1_1 - a0_1)) * (wrap64 (a2_0 - a0_0))))))).bind fun t219 => (some t219)) = some r := h
  clear h
  replace H := Option.bind_eq_some_iff.mp H
  obtain ⟨t219, A40, H⟩ := H
  replace H : (some t219) = some r := H
  have A4 := Aside0.mk A40
  clear A40
  obtain rfl := Option.some.inj H
  go_enter Try.func26, Try.ntmps26
  go_wp2_with (first | ((with_reducible refine gate_dst (N := 3) rfl ?_); refine box_event ?hg (N := 3) ?hd (cs := #[.int .i64 a0_0, .int .i64 a0_1]) (t := 33) ?hr ?_; (case hd => rfl); (case hg => rfl); (case hr => first | (go_simp; done) | (go_simp; rfl)); intro gb216 hg w5 hbox hb; have n0_ := Aside0.mk (below_step (by repeat (first | (with_reducible first | exact HB.out | apply below_alloc | apply pw_below_drewN | apply below_drew1) | exact HB.out)) hb); have n1_ := Aside0.mk (hbox); have n2_ := Aside0.mk ((by rw [hg]; exact (below_size (by repeat (first | (with_reducible first | exact HB.out | apply below_alloc | apply pw_below_drewN | apply below_drew1) | exact HB.out))) : w.heap.size ≤ gb216)); have n3_ := Aside0.mk ((by rw [hg]; exact (below_size (by repeat (first | (with_reducible first | exact HB.out | apply below_alloc | apply pw_below_drewN | apply below_drew1) | exact HB.out))) : w.heap.size ≤ gb216)); clear HB; have HB := n0_; have BK216 := n1_; have GW216 := n2_; have GE216 := n3_; clear n0_ n1_ n2_ n3_; clear hb hbox hg) | ((with_reducible refine gate_dst (N := 4) rfl ?_); refine box_event ?hg (N := 4) ?hd (cs := #[.int .i64 a1_0, .int .i64 a1_1]) (t := 33) ?hr ?_; (case hd => rfl); (case hg => rfl); (case hr => first | (go_simp; done) | (go_simp; rfl)); intro gb217 hg w6 hbox hb; have n0_ := Aside0.mk (blk_below (g := gb216) (o := .cells #[.int .i64 a0_0, .int .i64 a0_1] 33 (0, 0)) (by (with_reducible repeat (first | refine blk_drewN ?_ _ | refine blk_drew ?_ | refine blk_alloc ?_ _)); exact BK216.out) hb); have n1_ := Aside0.mk (below_step (by repeat (first | (with_reducible first | exact HB.out | apply below_alloc | apply pw_below_drewN | apply below_drew1 | refine below_set ?_ GE216.out) | exact HB.out)) hb); have n2_ := Aside0.mk (hbox); have n3_ := Aside0.mk ((by rw [hg]; exact (below_size (by repeat (first | (with_reducible first | exact HB.out | apply below_alloc | apply pw_below_drewN | apply below_drew1 | refine below_set ?_ GE216.out) | exact HB.out))) : w.heap.size ≤ gb217)); have n4_ := Aside0.mk ((by rw [hg]; exact (below_size (by repeat (first | (with_reducible first | exact HB.out | apply below_alloc | apply pw_below_drewN | apply below_drew1 | refine below_set ?_ GE216.out) | exact HB.out))) : w.heap.size ≤ gb217)); have n5_ := Aside0.mk ((by rw [hg]; exact Nat.ne_of_lt (blk_lt (g := gb216) (o := .cells #[.int .i64 a0_0, .int .i64 a0_1] 33 (0, 0)) (by (with_reducible repeat (first | refine blk_drewN ?_ _ | refine blk_drew ?_ | refine blk_alloc ?_ _)); exact BK216.out)) : gb216 ≠ gb217)); have n6_ := Aside0.mk ((by rw [hg]; exact Nat.ne_of_gt (blk_lt (g := gb216) (o := .cells #[.int .i64 a0_0, .int .i64 a0_1] 33 (0, 0)) (by (with_reducible repeat (first | refine blk_drewN ?_ _ | refine blk_drew ?_ | refine blk_alloc ?_ _)); exact BK216.out)) : gb217 ≠ gb216)); clear BK216; clear HB; have BK216 := n0_; have HB := n1_; have BK217 := n2_; have GW217 := n3_; have GE217 := n4_; have NB216_217 := n5_; have NB217_216 := n6_; clear n0_ n1_ n2_ n3_ n4_ n5_ n6_; clear hb hbox hg) | ((with_reducible refine gate_dst (N := 5) rfl ?_); refine box_event ?hg (N := 5) ?hd (cs := #[.int .i64 a2_0, .int .i64 a2_1]) (t := 33) ?hr ?_; (case hd => rfl); (case hg => rfl); (case hr => first | (go_simp; done) | (go_simp; rfl)); intro gb218 hg w7 hbox hb; have n0_ := Aside0.mk (blk_below (g := gb216) (o := .cells #[.int .i64 a0_0, .int .i64 a0_1] 33 (0, 0)) (by (with_reducible repeat (first | refine blk_drewN ?_ _ | refine blk_drew ?_ | refine blk_alloc ?_ _)); exact BK216.out) hb); have n1_ := Aside0.mk (blk_below (g := gb217) (o := .cells #[.int .i64 a1_0, .int .i64 a1_1] 33 (0, 0)) (by (with_reducible repeat (first | refine blk_drewN ?_ _ | refine blk_drew ?_ | refine blk_alloc ?_ _)); exact BK217.out) hb); have n2_ := Aside0.mk (below_step (by repeat (first | (with_reducible first | exact HB.out | apply below_alloc | apply pw_below_drewN | apply below_drew1 | refine below_set ?_ GE216.out | refine below_set ?_ GE217.out) | exact HB.out)) hb); have n3_ := Aside0.mk (hbox); have n4_ := Aside0.mk ((by rw [hg]; exact (below_size (by repeat (first | (with_reducible first | exact HB.out | apply below_alloc | apply pw_below_drewN | apply below_drew1 | refine below_set ?_ GE216.out | refine below_set ?_ GE217.out) | exact HB.out))) : w.heap.size ≤ gb218)); have n5_ := Aside0.mk ((by rw [hg]; exact (below_size (by repeat (first | (with_reducible first | exact HB.out | apply below_alloc | apply pw_below_drewN | apply below_drew1 | refine below_set ?_ GE216.out | refine below_set ?_ GE217.out) | exact HB.out))) : w.heap.size ≤ gb218)); have n6_ := Aside0.mk ((by rw [hg]; exact Nat.ne_of_lt (blk_lt (g := gb216) (o := .cells #[.int .i64 a0_0, .int .i64 a0_1] 33 (0, 0)) (by (with_reducible repeat (first | refine blk_drewN ?_ _ | refine blk_drew ?_ | refine blk_alloc ?_ _)); exact BK216.out)) : gb216 ≠ gb218)); have n7_ := Aside0.mk ((by rw [hg]; exact Nat.ne_of_gt (blk_lt (g := gb216) (o := .cells #[.int .i64 a0_0, .int .i64 a0_1] 33 (0, 0)) (by (with_reducible repeat (first | refine blk_drewN ?_ _ | refine blk_drew ?_ | refine blk_alloc ?_ _)); exact BK216.out)) : gb218 ≠ gb216)); have n8_ := Aside0.mk ((by rw [hg]; exact Nat.ne_of_lt (blk_lt (g := gb217) (o := .cells #[.int .i64 a1_0, .int .i64 a1_1] 33 (0, 0)) (by (with_reducible repeat (first | refine blk_drewN ?_ _ | refine blk_drew ?_ | refine blk_alloc ?_ _)); exact BK217.out)) : gb217 ≠ gb218)); have n9_ := Aside0.mk ((by rw [hg]; exact Nat.ne_of_gt (blk_lt (g := gb217) (o := .cells #[.int .i64 a1_0, .int .i64 a1_1] 33 (0, 0)) (by (with_reducible repeat (first | refine blk_drewN ?_ _ | refine blk_drew ?_ | refine blk_alloc ?_ _)); exact BK217.out)) : gb218 ≠ gb217)); clear BK216; clear BK217; clear HB; have BK216 := n0_; have BK217 := n1_; have HB := n2_; have BK218 := n3_; have GW218 := n4_; have GE218 := n5_; have NB216_218 := n6_; have NB218_216 := n7_; have NB217_218 := n8_; have NB218_217 := n9_; clear n0_ n1_ n2_ n3_ n4_ n5_ n6_ n7_ n8_ n9_; clear hb hbox hg; have hnb8 := NB217_216.out; have hnc8 := NB216_217.out; have hnb9 := NB217_218.out; have hnc9 := NB218_217.out; have hcz10_0 : w7.cell? ⟨gb217, 0, none⟩ = some (.int .i64 a1_0) := (blk_cell BK217.out 0).trans rfl; have hcz10_1 : w7.cell? ⟨gb217, 1, none⟩ = some (.int .i64 a1_1) := (blk_cell BK217.out 1).trans rfl; have hfz10_0 := blk_frozen BK217.out 0; have hfz10_1 := blk_frozen BK217.out 1; have hnb11 := NB216_218.out; have hnc11 := NB218_216.out; have hcz12_0 : w7.cell? ⟨gb216, 0, none⟩ = some (.int .i64 a0_0) := (blk_cell BK216.out 0).trans rfl; have hcz12_1 : w7.cell? ⟨gb216, 1, none⟩ = some (.int .i64 a0_1) := (blk_cell BK216.out 1).trans rfl; have hfz12_0 := blk_frozen BK216.out 0; have hfz12_1 := blk_frozen BK216.out 1; have hcz13_0 : w7.cell? ⟨gb218, 0, none⟩ = some (.int .i64 a2_0) := (blk_cell BK218.out 0).trans rfl; have hcz13_1 : w7.cell? ⟨gb218, 1, none⟩ = some (.int .i64 a2_1) := (blk_cell BK218.out 1).trans rfl; have hfz13_0 := blk_frozen BK218.out 0; have hfz13_1 := blk_frozen BK218.out 1) | ((with_reducible refine gate_callee (f := 59) rfl ?_); refine goesL_ (some 30) rfl rfl Try.func59 (by kernel_rfl) rfl #[.int .i64 (wrap64 ((wrap64 ((wrap64 (a1_0 - a0_0)) * (wrap64 (a2_1 - a0_1)))) - (wrap64 ((wrap64 (a1_1 - a0_1)) * (wrap64 (a2_0 - a0_0))))))] rfl (by (try simp only [List.map_toArray, List.map_cons, List.map_nil]); first | done | rfl | (simp only [List.length_drop, List.length_take]; rfl)) ?_; (with_reducible refine (fleuronref17_sign.calls (wrap64 ((wrap64 ((wrap64 (a1_0 - a0_0)) * (wrap64 (a2_1 - a0_1)))) - (wrap64 ((wrap64 (a1_1 - a0_1)) * (wrap64 (a2_0 - a0_0)))))) t219 _ A4.out).mono ?_); rintro e w' ⟨rfl, ⟨nd, rfl⟩⟩; refine ⟨_, rfl, ?_⟩))
  go_ret
  exact ⟨by first | rfl | (simp [errW_none, errW_some] <;> rfl) | (simp [*, errW_none, errW_some] <;> rfl), by repeat (first | (with_reducible first | exact HB.out | apply below_alloc | apply pw_below_drewN | apply below_drew1 | refine below_set ?_ GE216.out | refine below_set ?_ GE217.out | refine below_set ?_ GE218.out) | exact HB.out)⟩

end Go.Proofs.Ytnjlcmaelacjkaa.PD2

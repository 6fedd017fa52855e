/- What functions of the program come to, each with the proof that the machine's call does just that; written by a program of this session out of the translation. -/
import Derived.Test.YtnjlcmaelacjkaaPD3x0
import Derived.Test.YtnjlcmaelacjkaaPD3x3
import Derived.Test.YtnjlcmaelacjkaaPD3x5
import Derived.Test.YtnjlcmaelacjkaaPD3x6
import Derived.Test.YtnjlcmaelacjkaaPD3x7
import Derived.Test.YtnjlcmaelacjkaaPD3x8
import Derived.Test.YtnjlcmaelacjkaaPD3x9
namespace Go.Proofs.Ytnjlcmaelacjkaa.PD3
open Go.RowKit Go.Proofs.YtnjlcmaelacjkaaW.PrintWords Go.Proofs.YtnjlcmaelacjkaaW.PrintLast Go.Proofs.YtnjlcmaelacjkaaW.PrintMore
attribute [local go_sem] max2_int min2_int max_two min_two max_three min_three max_four min_four   -- for this text's walks alone
set_option linter.unusedVariables false
set_option linter.unusedSimpArgs false

/-! ### fleuronlaw18_awake: function 13 (by hand) -/
theorem pts_flat : ∀ l : List S33, PtsAt (l.flatMap fun p => [Value.int .i64 p.f0, .int .i64 p.f1]).toArray l
  | [] => fun j x hj => by simp at hj
  | p :: l => fun j x hj => by
    match j, hj with
    | 0, hj => obtain rfl : p = x := by simpa using hj
               exact ⟨rfl, rfl⟩
    | j + 1, hj =>
      have h := pts_flat l j x (by simpa using hj)
      simp only [List.getElem?_toArray] at h ⊢
      rw [show (j + 1) * 2 = j * 2 + 1 + 1 by omega]
      exact h
theorem lit_C (W : World) (l : List S33) (hl : l.length ≤ 9223372036854775807) : Kd.C k33 (W.alloc (.cells (l.flatMap fun p => [Value.int .i64 p.f0, .int .i64 p.f1]).toArray 33)) (some ⟨W.heap.size, 0, none⟩) l.length l :=
  (Kd.R_reads' (row_of_pts (base := W.heap.size) (ok := fun _ => True) (cap := l.length) (d := l) (blk_new W _) (pts_flat l) (Nat.le_refl _) trivial (Nat.le_refl _) hl (by simp; clear hl; induction l with | nil => rfl | cons p l ih => simp at *; omega))).2.2
theorem oneP_row {W : World} {A : Option Addr} {c : Nat} {l : List S33} (h : Kd.C k33 W A l.length l) (hc : l.length ≤ c) (e : TypeId) : Kd.C (Kd.slice 33 k33) (W.alloc (.cells #[.slice A l.length c] e)) (some ⟨W.heap.size, 0, none⟩) ([l] : List (List S33)).length [l] := by
  refine ⟨rfl, by simp, fun _ => ⟨⟨W.heap.size, 0, none⟩, rfl, fun j p hj => ?_⟩⟩
  cases j with
  | zero =>
    obtain rfl : l = p := by simpa using hj
    refine ⟨[.slice A l.length c], rfl, ⟨A, c, rfl, hc, Kd.C_alloc h _⟩, fun i u hi => ?_⟩
    cases i with
    | zero =>
      obtain rfl : Value.slice A l.length c = u := by simpa using hi
      simp [Kd.slice, Addr.add]
    | succ i => simp at hi
  | succ j => simp at hj
theorem rowsP {W : World} (L : List (Option Addr × Nat × List S33)) (h : ∀ x ∈ L, Kd.C k33 W x.1 x.2.2.length x.2.2 ∧ x.2.2.length ≤ x.2.1) (hl : L.length ≤ 1000) (e : TypeId) :
    Kd.C (Kd.slice 33 k33) (W.alloc (.cells (L.map fun x => Value.slice x.1 x.2.2.length x.2.1).toArray e)) (some ⟨W.heap.size, 0, none⟩) (L.map fun x => x.2.2).length (L.map fun x => x.2.2) := by
  refine ⟨rfl, by simp; omega, fun _ => ⟨⟨W.heap.size, 0, none⟩, rfl, fun j p hj => ?_⟩⟩
  rw [List.getElem?_map] at hj
  obtain ⟨x, hx, rfl⟩ := Option.map_eq_some_iff.mp hj
  have hm := h x (List.mem_of_getElem? hx)
  refine ⟨[.slice x.1 x.2.2.length x.2.1], rfl, ⟨x.1, x.2.1, rfl, hm.2, Kd.C_alloc hm.1 _⟩, fun i u hi => ?_⟩
  cases i with
  | zero =>
    obtain rfl : Value.slice x.1 x.2.2.length x.2.1 = u := by simpa using hi
    cases j with
    | zero => simp [Kd.slice, Addr.add, hx]
    | succ j => simp [Kd.slice, Addr.add, hx]
  | succ i => simp at hi
theorem twoP_row {W : World} {A0 A1 : Option Addr} {c0 c1 : Nat} {l0 l1 : List S33} (h0 : Kd.C k33 W A0 l0.length l0) (hc0 : l0.length ≤ c0) (h1 : Kd.C k33 W A1 l1.length l1) (hc1 : l1.length ≤ c1) (e : TypeId) :
    Kd.C (Kd.slice 33 k33) (W.alloc (.cells #[.slice A0 l0.length c0, .slice A1 l1.length c1] e)) (some ⟨W.heap.size, 0, none⟩) ([l0, l1] : List (List S33)).length [l0, l1] :=
  rowsP [(A0, c0, l0), (A1, c1, l1)] (by simp; exact ⟨⟨h0, hc0⟩, h1, hc1⟩) (by simp) e
theorem threeP_row {W : World} {A0 A1 A2 : Option Addr} {c0 c1 c2 : Nat} {l0 l1 l2 : List S33} (h0 : Kd.C k33 W A0 l0.length l0) (hc0 : l0.length ≤ c0) (h1 : Kd.C k33 W A1 l1.length l1) (hc1 : l1.length ≤ c1) (h2 : Kd.C k33 W A2 l2.length l2) (hc2 : l2.length ≤ c2) (e : TypeId) :
    Kd.C (Kd.slice 33 k33) (W.alloc (.cells #[.slice A0 l0.length c0, .slice A1 l1.length c1, .slice A2 l2.length c2] e)) (some ⟨W.heap.size, 0, none⟩) ([l0, l1, l2] : List (List S33)).length [l0, l1, l2] :=
  rowsP [(A0, c0, l0), (A1, c1, l1), (A2, c2, l2)] (by simp; exact ⟨⟨h0, hc0⟩, ⟨h1, hc1⟩, h2, hc2⟩) (by simp) e
theorem blk_new2 (V : World) (o o' : Obj) : ((V.alloc o).alloc o').heap[V.heap.size + 1]? = some o' := by have h := blk_new (V.alloc o) o'; rw [World.size_alloc] at h; exact h
theorem blk_new3 (V : World) (o o' o'' : Obj) : (((V.alloc o).alloc o').alloc o'').heap[V.heap.size + 1 + 1]? = some o'' := by have h := blk_new2 (V.alloc o) o' o''; rw [World.size_alloc] at h; exact h
theorem C_of_blk {W : World} {g : Nat} {cur : Array Value} {t : TypeId} {l : List S33} (h : W.heap[g]? = some (.cells cur t (0, 0))) (hp : PtsAt cur l) (hl : l.length ≤ 1000) : Kd.C k33 W (some ⟨g, 0, none⟩) l.length l := by
  refine ⟨rfl, by omega, fun _ => ⟨⟨g, 0, none⟩, rfl, fun j p hj => ⟨[.int .i64 p.f0, .int .i64 p.f1], rfl, k33_mk W p, fun i u hi => ?_⟩⟩⟩
  obtain ⟨q0, q1⟩ := hp j p hj
  have hc := blk_cell h (j * 2 + i)
  have e : (⟨g, 0, none⟩ : Addr).add (j * Kd.sz k33 + i) = ⟨g, j * 2 + i, none⟩ := by
    show (⟨g, 0, none⟩ : Addr).add (j * 2 + i) = _
    simp only [Addr.add]
    split
    · rename_i h0; rw [show j * 2 + i = 0 by simpa using h0]
    · simp
  rw [e, hc]
  match i, hi with
  | 0, hi => obtain rfl : Value.int .i64 p.f0 = u := by simpa using hi
             exact q0
  | 1, hi => obtain rfl : Value.int .i64 p.f1 = u := by simpa using hi
             exact q1
  | i + 2, hi => simp at hi
def fleuronlaw18_awake.f : Option Bool := some true
set_option maxHeartbeats 8000000 in
set_option maxRecDepth 100000 in
theorem fleuronlaw18_awake.calls (r : Bool) (w : World) (h : fleuronlaw18_awake.f = some r) : Calls Try.prog 13 #[] w fun e w' => e = .returned (.bool r) ∧ Below w.heap.size w w' := by
  obtain rfl : true = r := Option.some.inj h
  clear h
  have hu := Try.underlying33
  have HB := Aside0.mk (Below.refl w.heap.size w)
  go_enter Try.func13, Try.ntmps13
  have Hq := Aside0.mk (lit_C w [⟨0, 0⟩, ⟨2, 0⟩, ⟨1, 1⟩, ⟨1, 0⟩] (by decide))
  have NB := Aside0.mk (below_alloc HB.out (.cells #[.int .i64 0, .int .i64 0, .int .i64 2, .int .i64 0, .int .i64 1, .int .i64 1, .int .i64 1, .int .i64 0] 33))
  clear HB
  have HB := NB
  clear NB
  go_wp2_with fail
  refine (pen_Hull.calls 9 _ 4 [⟨0, 0⟩, ⟨2, 0⟩, ⟨1, 1⟩, ⟨1, 0⟩] [⟨0, 0⟩, ⟨2, 0⟩, ⟨1, 1⟩] 0 _ Hq.out (Nat.le_refl _) (by kernel_rfl)).mono ?_
  rintro e W1 ⟨vh, rfl, hr, hb⟩
  have Nq := Aside0.mk (Kd.C_below Hq.out hb)
  clear Hq
  have Hq := Nq
  clear Nq
  have NB := Aside0.mk (below_step HB.out hb)
  clear HB
  have HB := NB
  clear NB
  clear hb
  obtain ⟨Ah, ch, rfl, hch, hC⟩ := Kd.R_reads hr
  have Hh := Aside0.mk hC
  clear hC hr
  have Nh := Aside0.mk (Kd.C_below Hh.out (below_alloc (Below.refl _ _) (.cells #[.int .i64 0, .int .i64 0, .int .i64 1, .int .i64 0] 33)))
  clear Hh
  have Hh := Nh
  clear Nh
  have Hline := Aside0.mk (lit_C W1 [⟨0, 0⟩, ⟨1, 0⟩] (by decide))
  have NB := Aside0.mk (below_alloc HB.out (.cells #[.int .i64 0, .int .i64 0, .int .i64 1, .int .i64 0] 33))
  clear HB
  have HB := NB
  clear NB
  go_wp2_with fail
  refine (pen_Covers.calls _ 2 [⟨0, 0⟩, ⟨1, 0⟩] 0 0 0 2 1 1 true 0 _ Hline.out (Nat.le_refl _) (by kernel_rfl)).mono ?_
  rintro e W2 ⟨rfl, hb⟩
  have Nh := Aside0.mk (Kd.C_below Hh.out hb)
  clear Hh
  have Hh := Nh
  clear Nh
  have Nline := Aside0.mk (Kd.C_below Hline.out hb)
  clear Hline
  have Hline := Nline
  clear Nline
  have NB := Aside0.mk (below_step HB.out hb)
  clear HB
  have HB := NB
  clear NB
  clear hb
  go_wp2_with fail
  refine (pen_Covers.calls _ 2 [⟨0, 0⟩, ⟨1, 0⟩] 0 0 0 2 2 1 false 0 _ Hline.out (Nat.le_refl _) (by kernel_rfl)).mono ?_
  rintro e W3 ⟨rfl, hb⟩
  have Nh := Aside0.mk (Kd.C_below Hh.out hb)
  clear Hh
  have Hh := Nh
  clear Nh
  have Nline := Aside0.mk (Kd.C_below Hline.out hb)
  clear Hline
  have Hline := Nline
  clear Nline
  have NB := Aside0.mk (below_step HB.out hb)
  clear HB
  have HB := NB
  clear NB
  clear hb
  go_wp2_with fail
  refine (pen_Sweep.calls _ 2 [⟨0, 0⟩, ⟨1, 0⟩] 0 0 0 2 [⟨0, 0⟩, ⟨1, 0⟩, ⟨1, 2⟩, ⟨0, 2⟩] 0 _ Hline.out (Nat.le_refl _) (by kernel_rfl)).mono ?_
  rintro e W4 ⟨vs, rfl, hr, hb⟩
  have Nh := Aside0.mk (Kd.C_below Hh.out hb)
  clear Hh
  have Hh := Nh
  clear Nh
  have Nline := Aside0.mk (Kd.C_below Hline.out hb)
  clear Hline
  have Hline := Nline
  clear Nline
  have NB := Aside0.mk (below_step HB.out hb)
  clear HB
  have HB := NB
  clear NB
  clear hb
  obtain ⟨As, cs, rfl, hcs, hC⟩ := Kd.R_reads hr
  have Hs := Aside0.mk hC
  clear hC hr
  have Nh := Aside0.mk (Kd.C_below Hh.out (below_alloc (Below.refl _ _) (.cells #[.int .i64 5, .int .i64 5] 33)))
  clear Hh
  have Hh := Nh
  clear Nh
  have Nline := Aside0.mk (Kd.C_below Hline.out (below_alloc (Below.refl _ _) (.cells #[.int .i64 5, .int .i64 5] 33)))
  clear Hline
  have Hline := Nline
  clear Nline
  have Ns := Aside0.mk (Kd.C_below Hs.out (below_alloc (Below.refl _ _) (.cells #[.int .i64 5, .int .i64 5] 33)))
  clear Hs
  have Hs := Ns
  clear Ns
  have Hp := Aside0.mk (lit_C W4 [⟨5, 5⟩] (by decide))
  have NB := Aside0.mk (below_alloc HB.out (.cells #[.int .i64 5, .int .i64 5] 33))
  clear HB
  have HB := NB
  clear NB
  go_wp2_with fail
  refine (pen_Sum.calls 30 _ 2 [⟨0, 0⟩, ⟨1, 0⟩] _ 1 [⟨5, 5⟩] [⟨5, 5⟩, ⟨6, 5⟩] 0 _ Hline.out (Nat.le_refl _) Hp.out (Nat.le_refl _) (by kernel_rfl)).mono ?_
  rintro e W5 ⟨vm, rfl, hr, hb⟩
  have Nh := Aside0.mk (Kd.C_below Hh.out hb)
  clear Hh
  have Hh := Nh
  clear Nh
  have Nline := Aside0.mk (Kd.C_below Hline.out hb)
  clear Hline
  have Hline := Nline
  clear Nline
  have Ns := Aside0.mk (Kd.C_below Hs.out hb)
  clear Hs
  have Hs := Ns
  clear Ns
  have Np := Aside0.mk (Kd.C_below Hp.out hb)
  clear Hp
  have Hp := Np
  clear Np
  have NB := Aside0.mk (below_step HB.out hb)
  clear HB
  have HB := NB
  clear NB
  clear hb
  obtain ⟨Am, cm, rfl, hcm, hC⟩ := Kd.R_reads hr
  have Hm := Aside0.mk hC
  clear hC hr
  go_wp2_with fail
  refine (pen_Turn.calls _ 2 [⟨0, 0⟩, ⟨1, 0⟩] [⟨(-1), 0⟩, ⟨0, 0⟩] 0 _ Hline.out (Nat.le_refl _) (by kernel_rfl)).mono ?_
  rintro e W6 ⟨vt, rfl, hr, hb⟩
  have Nh := Aside0.mk (Kd.C_below Hh.out hb)
  clear Hh
  have Hh := Nh
  clear Nh
  have Nline := Aside0.mk (Kd.C_below Hline.out hb)
  clear Hline
  have Hline := Nline
  clear Nline
  have Ns := Aside0.mk (Kd.C_below Hs.out hb)
  clear Hs
  have Hs := Ns
  clear Ns
  have Nm := Aside0.mk (Kd.C_below Hm.out hb)
  clear Hm
  have Hm := Nm
  clear Nm
  have NB := Aside0.mk (below_step HB.out hb)
  clear HB
  have HB := NB
  clear NB
  clear hb
  obtain ⟨At, ct, rfl, hct, hC⟩ := Kd.R_reads hr
  have Ht := Aside0.mk hC
  clear hC hr
  go_wp2_with fail
  refine (pen_Touch.calls _ 2 [⟨0, 0⟩, ⟨1, 0⟩] 1 0 1 0 0 _ Hline.out (Nat.le_refl _) (by kernel_rfl)).mono ?_
  rintro e W7 ⟨rfl, hb⟩
  have Nh := Aside0.mk (Kd.C_below Hh.out hb)
  clear Hh
  have Hh := Nh
  clear Nh
  have Nline := Aside0.mk (Kd.C_below Hline.out hb)
  clear Hline
  have Hline := Nline
  clear Nline
  have Ns := Aside0.mk (Kd.C_below Hs.out hb)
  clear Hs
  have Hs := Ns
  clear Ns
  have Nm := Aside0.mk (Kd.C_below Hm.out hb)
  clear Hm
  have Hm := Nm
  clear Nm
  have Nt := Aside0.mk (Kd.C_below Ht.out hb)
  clear Ht
  have Ht := Nt
  clear Nt
  have NB := Aside0.mk (below_step HB.out hb)
  clear HB
  have HB := NB
  clear NB
  clear hb
  have Nh := Aside0.mk (Kd.C_below Hh.out (below_alloc (Below.refl _ _) (.cells #[.int .i64 1, .int .i64 0] 33)))
  clear Hh
  have Hh := Nh
  clear Nh
  have Nline := Aside0.mk (Kd.C_below Hline.out (below_alloc (Below.refl _ _) (.cells #[.int .i64 1, .int .i64 0] 33)))
  clear Hline
  have Hline := Nline
  clear Nline
  have Ns := Aside0.mk (Kd.C_below Hs.out (below_alloc (Below.refl _ _) (.cells #[.int .i64 1, .int .i64 0] 33)))
  clear Hs
  have Hs := Ns
  clear Ns
  have Nm := Aside0.mk (Kd.C_below Hm.out (below_alloc (Below.refl _ _) (.cells #[.int .i64 1, .int .i64 0] 33)))
  clear Hm
  have Hm := Nm
  clear Nm
  have Nt := Aside0.mk (Kd.C_below Ht.out (below_alloc (Below.refl _ _) (.cells #[.int .i64 1, .int .i64 0] 33)))
  clear Ht
  have Ht := Nt
  clear Nt
  have Bo := Aside0.mk (blk_new W7 (.cells #[.int .i64 1, .int .i64 0] 33))
  have NB := Aside0.mk (below_alloc HB.out (.cells #[.int .i64 1, .int .i64 0] 33))
  clear HB
  have HB := NB
  clear NB
  --NIL
  go_wp2_with fail
  refine (pen_Hull.calls 9 none 0 [] [] 2 _ (Kd.C_nil _ _) (Nat.le_refl _) (by kernel_rfl)).mono ?_
  rintro e W8 ⟨v9, rfl, _, hb⟩
  have Nh := Aside0.mk (Kd.C_below Hh.out hb)
  clear Hh
  have Hh := Nh
  clear Nh
  have Nline := Aside0.mk (Kd.C_below Hline.out hb)
  clear Hline
  have Hline := Nline
  clear Nline
  have Ns := Aside0.mk (Kd.C_below Hs.out hb)
  clear Hs
  have Hs := Ns
  clear Ns
  have Nm := Aside0.mk (Kd.C_below Hm.out hb)
  clear Hm
  have Hm := Nm
  clear Nm
  have Nt := Aside0.mk (Kd.C_below Ht.out hb)
  clear Ht
  have Ht := Nt
  clear Nt
  have No := Aside0.mk (blk_below Bo.out hb)
  clear Bo
  have Bo := No
  clear No
  have NB := Aside0.mk (below_step HB.out hb)
  clear HB
  have HB := NB
  clear NB
  clear hb
  have Nh := Aside0.mk (Kd.C_below Hh.out (below_alloc (Below.refl _ _) (.cells #[.int .i64 0, .int .i64 3] 33)))
  clear Hh
  have Hh := Nh
  clear Nh
  have Nline := Aside0.mk (Kd.C_below Hline.out (below_alloc (Below.refl _ _) (.cells #[.int .i64 0, .int .i64 3] 33)))
  clear Hline
  have Hline := Nline
  clear Nline
  have Ns := Aside0.mk (Kd.C_below Hs.out (below_alloc (Below.refl _ _) (.cells #[.int .i64 0, .int .i64 3] 33)))
  clear Hs
  have Hs := Ns
  clear Ns
  have Nm := Aside0.mk (Kd.C_below Hm.out (below_alloc (Below.refl _ _) (.cells #[.int .i64 0, .int .i64 3] 33)))
  clear Hm
  have Hm := Nm
  clear Nm
  have Nt := Aside0.mk (Kd.C_below Ht.out (below_alloc (Below.refl _ _) (.cells #[.int .i64 0, .int .i64 3] 33)))
  clear Ht
  have Ht := Nt
  clear Nt
  have No := Aside0.mk (blk_below Bo.out (below_alloc (Below.refl _ _) (.cells #[.int .i64 0, .int .i64 3] 33)))
  clear Bo
  have Bo := No
  clear No
  have Hr := Aside0.mk (lit_C W8 [⟨0, 3⟩] (by decide))
  have NB := Aside0.mk (below_alloc HB.out (.cells #[.int .i64 0, .int .i64 3] 33))
  clear HB
  have HB := NB
  clear NB
  go_wp2_with fail
  refine (pen_Along.calls _ 2 [⟨0, 0⟩, ⟨1, 0⟩] _ 1 [⟨0, 3⟩] 1 3 true 0 _ Hline.out (Nat.le_refl _) Hr.out (Nat.le_refl _) (by kernel_rfl)).mono ?_
  rintro e W9 ⟨rfl, hb⟩
  have Nh := Aside0.mk (Kd.C_below Hh.out hb)
  clear Hh
  have Hh := Nh
  clear Nh
  have Nline := Aside0.mk (Kd.C_below Hline.out hb)
  clear Hline
  have Hline := Nline
  clear Nline
  have Ns := Aside0.mk (Kd.C_below Hs.out hb)
  clear Hs
  have Hs := Ns
  clear Ns
  have Nm := Aside0.mk (Kd.C_below Hm.out hb)
  clear Hm
  have Hm := Nm
  clear Nm
  have Nt := Aside0.mk (Kd.C_below Ht.out hb)
  clear Ht
  have Ht := Nt
  clear Nt
  have Nr := Aside0.mk (Kd.C_below Hr.out hb)
  clear Hr
  have Hr := Nr
  clear Nr
  have No := Aside0.mk (blk_below Bo.out hb)
  clear Bo
  have Bo := No
  clear No
  have NB := Aside0.mk (below_step HB.out hb)
  clear HB
  have HB := NB
  clear NB
  clear hb
  have Nh := Aside0.mk (Kd.C_below Hh.out (below_alloc (Below.refl _ _) (.cells #[.int .i64 0, .int .i64 0, .int .i64 2, .int .i64 0, .int .i64 1, .int .i64 1] 33)))
  clear Hh
  have Hh := Nh
  clear Nh
  have Nline := Aside0.mk (Kd.C_below Hline.out (below_alloc (Below.refl _ _) (.cells #[.int .i64 0, .int .i64 0, .int .i64 2, .int .i64 0, .int .i64 1, .int .i64 1] 33)))
  clear Hline
  have Hline := Nline
  clear Nline
  have Ns := Aside0.mk (Kd.C_below Hs.out (below_alloc (Below.refl _ _) (.cells #[.int .i64 0, .int .i64 0, .int .i64 2, .int .i64 0, .int .i64 1, .int .i64 1] 33)))
  clear Hs
  have Hs := Ns
  clear Ns
  have Nm := Aside0.mk (Kd.C_below Hm.out (below_alloc (Below.refl _ _) (.cells #[.int .i64 0, .int .i64 0, .int .i64 2, .int .i64 0, .int .i64 1, .int .i64 1] 33)))
  clear Hm
  have Hm := Nm
  clear Nm
  have Nt := Aside0.mk (Kd.C_below Ht.out (below_alloc (Below.refl _ _) (.cells #[.int .i64 0, .int .i64 0, .int .i64 2, .int .i64 0, .int .i64 1, .int .i64 1] 33)))
  clear Ht
  have Ht := Nt
  clear Nt
  have No := Aside0.mk (blk_below Bo.out (below_alloc (Below.refl _ _) (.cells #[.int .i64 0, .int .i64 0, .int .i64 2, .int .i64 0, .int .i64 1, .int .i64 1] 33)))
  clear Bo
  have Bo := No
  clear No
  have Hz := Aside0.mk (lit_C W9 [⟨0, 0⟩, ⟨2, 0⟩, ⟨1, 1⟩] (by decide))
  have NB := Aside0.mk (below_alloc HB.out (.cells #[.int .i64 0, .int .i64 0, .int .i64 2, .int .i64 0, .int .i64 1, .int .i64 1] 33))
  clear HB
  have HB := NB
  clear NB
  go_wp2_with fail
  refine (fleuronref16_Same.calls 9 _ _ [⟨0, 0⟩, ⟨2, 0⟩, ⟨1, 1⟩] _ _ [⟨0, 0⟩, ⟨2, 0⟩, ⟨1, 1⟩] true _ Hh.out hch Hz.out (Nat.le_refl _) (by kernel_rfl)).mono ?_
  rintro e W10 ⟨rfl, hb⟩
  replace hb := hb.below
  have Nh := Aside0.mk (Kd.C_below Hh.out hb)
  clear Hh
  have Hh := Nh
  clear Nh
  have Nline := Aside0.mk (Kd.C_below Hline.out hb)
  clear Hline
  have Hline := Nline
  clear Nline
  have Ns := Aside0.mk (Kd.C_below Hs.out hb)
  clear Hs
  have Hs := Ns
  clear Ns
  have Nm := Aside0.mk (Kd.C_below Hm.out hb)
  clear Hm
  have Hm := Nm
  clear Nm
  have Nt := Aside0.mk (Kd.C_below Ht.out hb)
  clear Ht
  have Ht := Nt
  clear Nt
  have Nz := Aside0.mk (Kd.C_below Hz.out hb)
  clear Hz
  have Hz := Nz
  clear Nz
  have No := Aside0.mk (blk_below Bo.out hb)
  clear Bo
  have Bo := No
  clear No
  have NB := Aside0.mk (below_step HB.out hb)
  clear HB
  have HB := NB
  clear NB
  clear hb
  clear Hz Hh
  have Nline := Aside0.mk (Kd.C_below Hline.out (below_alloc (Below.refl _ _) (.cells #[.int .i64 0, .int .i64 0, .int .i64 1, .int .i64 0, .int .i64 1, .int .i64 2, .int .i64 0, .int .i64 2] 33)))
  clear Hline
  have Hline := Nline
  clear Nline
  have Ns := Aside0.mk (Kd.C_below Hs.out (below_alloc (Below.refl _ _) (.cells #[.int .i64 0, .int .i64 0, .int .i64 1, .int .i64 0, .int .i64 1, .int .i64 2, .int .i64 0, .int .i64 2] 33)))
  clear Hs
  have Hs := Ns
  clear Ns
  have Nm := Aside0.mk (Kd.C_below Hm.out (below_alloc (Below.refl _ _) (.cells #[.int .i64 0, .int .i64 0, .int .i64 1, .int .i64 0, .int .i64 1, .int .i64 2, .int .i64 0, .int .i64 2] 33)))
  clear Hm
  have Hm := Nm
  clear Nm
  have Nt := Aside0.mk (Kd.C_below Ht.out (below_alloc (Below.refl _ _) (.cells #[.int .i64 0, .int .i64 0, .int .i64 1, .int .i64 0, .int .i64 1, .int .i64 2, .int .i64 0, .int .i64 2] 33)))
  clear Ht
  have Ht := Nt
  clear Nt
  have No := Aside0.mk (blk_below Bo.out (below_alloc (Below.refl _ _) (.cells #[.int .i64 0, .int .i64 0, .int .i64 1, .int .i64 0, .int .i64 1, .int .i64 2, .int .i64 0, .int .i64 2] 33)))
  clear Bo
  have Bo := No
  clear No
  have Hz := Aside0.mk (lit_C W10 [⟨0, 0⟩, ⟨1, 0⟩, ⟨1, 2⟩, ⟨0, 2⟩] (by decide))
  have NB := Aside0.mk (below_alloc HB.out (.cells #[.int .i64 0, .int .i64 0, .int .i64 1, .int .i64 0, .int .i64 1, .int .i64 2, .int .i64 0, .int .i64 2] 33))
  clear HB
  have HB := NB
  clear NB
  go_wp2_with fail
  refine (fleuronref16_Same.calls 9 _ _ [⟨0, 0⟩, ⟨1, 0⟩, ⟨1, 2⟩, ⟨0, 2⟩] _ _ [⟨0, 0⟩, ⟨1, 0⟩, ⟨1, 2⟩, ⟨0, 2⟩] true _ Hs.out hcs Hz.out (Nat.le_refl _) (by kernel_rfl)).mono ?_
  rintro e W11 ⟨rfl, hb⟩
  replace hb := hb.below
  have Nline := Aside0.mk (Kd.C_below Hline.out hb)
  clear Hline
  have Hline := Nline
  clear Nline
  have Ns := Aside0.mk (Kd.C_below Hs.out hb)
  clear Hs
  have Hs := Ns
  clear Ns
  have Nm := Aside0.mk (Kd.C_below Hm.out hb)
  clear Hm
  have Hm := Nm
  clear Nm
  have Nt := Aside0.mk (Kd.C_below Ht.out hb)
  clear Ht
  have Ht := Nt
  clear Nt
  have Nz := Aside0.mk (Kd.C_below Hz.out hb)
  clear Hz
  have Hz := Nz
  clear Nz
  have No := Aside0.mk (blk_below Bo.out hb)
  clear Bo
  have Bo := No
  clear No
  have NB := Aside0.mk (below_step HB.out hb)
  clear HB
  have HB := NB
  clear NB
  clear hb
  clear Hz Hs
  have Nline := Aside0.mk (Kd.C_below Hline.out (below_alloc (Below.refl _ _) (.cells #[.int .i64 5, .int .i64 5, .int .i64 6, .int .i64 5] 33)))
  clear Hline
  have Hline := Nline
  clear Nline
  have Nm := Aside0.mk (Kd.C_below Hm.out (below_alloc (Below.refl _ _) (.cells #[.int .i64 5, .int .i64 5, .int .i64 6, .int .i64 5] 33)))
  clear Hm
  have Hm := Nm
  clear Nm
  have Nt := Aside0.mk (Kd.C_below Ht.out (below_alloc (Below.refl _ _) (.cells #[.int .i64 5, .int .i64 5, .int .i64 6, .int .i64 5] 33)))
  clear Ht
  have Ht := Nt
  clear Nt
  have No := Aside0.mk (blk_below Bo.out (below_alloc (Below.refl _ _) (.cells #[.int .i64 5, .int .i64 5, .int .i64 6, .int .i64 5] 33)))
  clear Bo
  have Bo := No
  clear No
  have Hz := Aside0.mk (lit_C W11 [⟨5, 5⟩, ⟨6, 5⟩] (by decide))
  have NB := Aside0.mk (below_alloc HB.out (.cells #[.int .i64 5, .int .i64 5, .int .i64 6, .int .i64 5] 33))
  clear HB
  have HB := NB
  clear NB
  go_wp2_with fail
  refine (fleuronref16_Same.calls 9 _ _ [⟨5, 5⟩, ⟨6, 5⟩] _ _ [⟨5, 5⟩, ⟨6, 5⟩] true _ Hm.out hcm Hz.out (Nat.le_refl _) (by kernel_rfl)).mono ?_
  rintro e W12 ⟨rfl, hb⟩
  replace hb := hb.below
  have Nline := Aside0.mk (Kd.C_below Hline.out hb)
  clear Hline
  have Hline := Nline
  clear Nline
  have Nm := Aside0.mk (Kd.C_below Hm.out hb)
  clear Hm
  have Hm := Nm
  clear Nm
  have Nt := Aside0.mk (Kd.C_below Ht.out hb)
  clear Ht
  have Ht := Nt
  clear Nt
  have Nz := Aside0.mk (Kd.C_below Hz.out hb)
  clear Hz
  have Hz := Nz
  clear Nz
  have No := Aside0.mk (blk_below Bo.out hb)
  clear Bo
  have Bo := No
  clear No
  have NB := Aside0.mk (below_step HB.out hb)
  clear HB
  have HB := NB
  clear NB
  clear hb
  clear Hz Hm
  have Nline := Aside0.mk (Kd.C_below Hline.out (below_alloc (Below.refl _ _) (.cells #[.int .i64 (-1), .int .i64 0, .int .i64 0, .int .i64 0] 33)))
  clear Hline
  have Hline := Nline
  clear Nline
  have Nt := Aside0.mk (Kd.C_below Ht.out (below_alloc (Below.refl _ _) (.cells #[.int .i64 (-1), .int .i64 0, .int .i64 0, .int .i64 0] 33)))
  clear Ht
  have Ht := Nt
  clear Nt
  have No := Aside0.mk (blk_below Bo.out (below_alloc (Below.refl _ _) (.cells #[.int .i64 (-1), .int .i64 0, .int .i64 0, .int .i64 0] 33)))
  clear Bo
  have Bo := No
  clear No
  have Hz := Aside0.mk (lit_C W12 [⟨(-1), 0⟩, ⟨0, 0⟩] (by decide))
  have NB := Aside0.mk (below_alloc HB.out (.cells #[.int .i64 (-1), .int .i64 0, .int .i64 0, .int .i64 0] 33))
  clear HB
  have HB := NB
  clear NB
  go_wp2_with fail
  refine (fleuronref16_Same.calls 9 _ _ [⟨(-1), 0⟩, ⟨0, 0⟩] _ _ [⟨(-1), 0⟩, ⟨0, 0⟩] true _ Ht.out hct Hz.out (Nat.le_refl _) (by kernel_rfl)).mono ?_
  rintro e W13 ⟨rfl, hb⟩
  replace hb := hb.below
  have Nline := Aside0.mk (Kd.C_below Hline.out hb)
  clear Hline
  have Hline := Nline
  clear Nline
  have Nt := Aside0.mk (Kd.C_below Ht.out hb)
  clear Ht
  have Ht := Nt
  clear Nt
  have Nz := Aside0.mk (Kd.C_below Hz.out hb)
  clear Hz
  have Hz := Nz
  clear Nz
  have No := Aside0.mk (blk_below Bo.out hb)
  clear Bo
  have Bo := No
  clear No
  have NB := Aside0.mk (below_step HB.out hb)
  clear HB
  have HB := NB
  clear NB
  clear hb
  clear Hz Ht
  have o0 := (blk_cell Bo.out 0).trans rfl
  go_wp2_with fail
  refine (pen_Valid.calls _ 2 [⟨0, 0⟩, ⟨1, 0⟩] true _ Hline.out (Nat.le_refl _) (by kernel_rfl)).mono ?_
  rintro e W14 ⟨rfl, hb⟩
  have Nline := Aside0.mk (Kd.C_below Hline.out hb)
  clear Hline
  have Hline := Nline
  clear Nline
  have No := Aside0.mk (blk_below Bo.out hb)
  clear Bo
  have Bo := No
  clear No
  have NB := Aside0.mk (below_step HB.out hb)
  clear HB
  have HB := NB
  clear NB
  clear hb
  have Nline := Aside0.mk (Kd.C_below Hline.out (below_alloc (Below.refl _ _) (.cells #[.int .i64 1, .int .i64 0, .int .i64 0, .int .i64 0] 33)))
  clear Hline
  have Hline := Nline
  clear Nline
  have No := Aside0.mk (blk_below Bo.out (below_alloc (Below.refl _ _) (.cells #[.int .i64 1, .int .i64 0, .int .i64 0, .int .i64 0] 33)))
  clear Bo
  have Bo := No
  clear No
  have Hy := Aside0.mk (lit_C W14 [⟨1, 0⟩, ⟨0, 0⟩] (by decide))
  have NB := Aside0.mk (below_alloc HB.out (.cells #[.int .i64 1, .int .i64 0, .int .i64 0, .int .i64 0] 33))
  clear HB
  have HB := NB
  clear NB
  go_wp2_with fail
  refine (pen_Valid.calls _ 2 [⟨1, 0⟩, ⟨0, 0⟩] false _ Hy.out (Nat.le_refl _) (by kernel_rfl)).mono ?_
  rintro e W15 ⟨rfl, hb⟩
  have Nline := Aside0.mk (Kd.C_below Hline.out hb)
  clear Hline
  have Hline := Nline
  clear Nline
  have Ny := Aside0.mk (Kd.C_below Hy.out hb)
  clear Hy
  have Hy := Ny
  clear Ny
  have No := Aside0.mk (blk_below Bo.out hb)
  clear Bo
  have Bo := No
  clear No
  have NB := Aside0.mk (below_step HB.out hb)
  clear HB
  have HB := NB
  clear NB
  clear hb
  go_wp2
  go_ret
  exact ⟨rfl, HB.out⟩

/-! ### fleuronref16_In: function 28 -/
def fleuronref16_In.f (a0_0 : Int) (a0_1 : Int) : Option (Bool) := if a0_0 ≥ (-268435455) then (if a0_0 ≤ 268435455 then (if a0_1 ≥ (-268435455) then (some (decide (a0_1 ≤ 268435455))) else (some false)) else (some false)) else (some false)
set_option maxHeartbeats 8000000 in
set_option maxRecDepth 100000 in
theorem fleuronref16_In.calls (a0_0 : Int) (a0_1 : Int) (r : Bool) (w : World) (h : fleuronref16_In.f a0_0 a0_1 = some r) :
    Calls Try.prog 28 #[.agg #[.int .i64 a0_0, .int .i64 a0_1]] w fun e w' => e = .returned (.bool r) ∧ Below w.heap.size w w' := by
  have hu33 := Try.underlying33
  have HB := Aside0.mk (Below.refl w.heap.size w)
  have H : (if a0_0 ≥ (-268435455) then (if a0_0 ≤ 268435455 then (if a0_1 ≥ (-268435455) then (some (decide (a0_1 ≤ 268435455))) else (some false)) else (some false)) else (some false)) = some r := h
  clear h
  by_cases c2 : a0_0 ≥ (-268435455)
  · rw [if_pos c2] at H
    have c2b0 : decide ((-268435455) ≤ a0_0) = true := decide_eq_true c2
    clear c2
    by_cases c3 : a0_0 ≤ 268435455
    · rw [if_pos c3] at H
      have c3b0 : decide (a0_0 ≤ 268435455) = true := decide_eq_true c3
      clear c3
      by_cases c4 : a0_1 ≥ (-268435455)
      · rw [if_pos c4] at H
        have c4b0 : decide ((-268435455) ≤ a0_1) = true := decide_eq_true c4
        clear c4
        obtain rfl := Option.some.inj H
        go_enter Try.func28, Try.ntmps28
        go_wp2_with (first | ((with_reducible refine gate_dst (N := 1) rfl ?_); refine box_event ?hg (N := 1) ?hd (cs := #[.int .i64 a0_0, .int .i64 a0_1]) (t := 33) ?hr ?_; (case hd => rfl); (case hg => rfl); (case hr => first | (go_simp; done) | (go_simp; rfl)); intro gb183 hg w5 hbox hb; have n0_ := Aside0.mk (below_step (by repeat (first | (with_reducible first | exact HB.out | apply below_alloc | apply pw_below_drewN | apply below_drew1) | exact HB.out)) hb); have n1_ := Aside0.mk (hbox); have n2_ := Aside0.mk ((by rw [hg]; exact (below_size (by repeat (first | (with_reducible first | exact HB.out | apply below_alloc | apply pw_below_drewN | apply below_drew1) | exact HB.out))) : w.heap.size ≤ gb183)); have n3_ := Aside0.mk ((by rw [hg]; exact (below_size (by repeat (first | (with_reducible first | exact HB.out | apply below_alloc | apply pw_below_drewN | apply below_drew1) | exact HB.out))) : w.heap.size ≤ gb183)); clear HB; have HB := n0_; have BK183 := n1_; have GW183 := n2_; have GE183 := n3_; clear n0_ n1_ n2_ n3_; clear hb hbox hg; have hcz6_0 : w5.cell? ⟨gb183, 0, none⟩ = some (.int .i64 a0_0) := (blk_cell BK183.out 0).trans rfl; have hcz6_1 : w5.cell? ⟨gb183, 1, none⟩ = some (.int .i64 a0_1) := (blk_cell BK183.out 1).trans rfl; have hfz6_0 := blk_frozen BK183.out 0; have hfz6_1 := blk_frozen BK183.out 1))
        go_ret
        exact ⟨by first | rfl | (simp [errW_none, errW_some] <;> rfl) | (simp [*, errW_none, errW_some] <;> rfl), by repeat (first | (with_reducible first | exact HB.out | apply below_alloc | apply pw_below_drewN | apply below_drew1 | refine below_set ?_ GE183.out) | exact HB.out)⟩
      · rw [if_neg c4] at H
        have c4b0 : decide ((-268435455) ≤ a0_1) = false := decide_eq_false c4
        clear c4
        obtain rfl := Option.some.inj H
        go_enter Try.func28, Try.ntmps28
        go_wp2_with (first | ((with_reducible refine gate_dst (N := 1) rfl ?_); refine box_event ?hg (N := 1) ?hd (cs := #[.int .i64 a0_0, .int .i64 a0_1]) (t := 33) ?hr ?_; (case hd => rfl); (case hg => rfl); (case hr => first | (go_simp; done) | (go_simp; rfl)); intro gb183 hg w7 hbox hb; have n0_ := Aside0.mk (below_step (by repeat (first | (with_reducible first | exact HB.out | apply below_alloc | apply pw_below_drewN | apply below_drew1) | exact HB.out)) hb); have n1_ := Aside0.mk (hbox); have n2_ := Aside0.mk ((by rw [hg]; exact (below_size (by repeat (first | (with_reducible first | exact HB.out | apply below_alloc | apply pw_below_drewN | apply below_drew1) | exact HB.out))) : w.heap.size ≤ gb183)); have n3_ := Aside0.mk ((by rw [hg]; exact (below_size (by repeat (first | (with_reducible first | exact HB.out | apply below_alloc | apply pw_below_drewN | apply below_drew1) | exact HB.out))) : w.heap.size ≤ gb183)); clear HB; have HB := n0_; have BK183 := n1_; have GW183 := n2_; have GE183 := n3_; clear n0_ n1_ n2_ n3_; clear hb hbox hg; have hcz8_0 : w7.cell? ⟨gb183, 0, none⟩ = some (.int .i64 a0_0) := (blk_cell BK183.out 0).trans rfl; have hcz8_1 : w7.cell? ⟨gb183, 1, none⟩ = some (.int .i64 a0_1) := (blk_cell BK183.out 1).trans rfl; have hfz8_0 := blk_frozen BK183.out 0; have hfz8_1 := blk_frozen BK183.out 1))
        go_ret
        exact ⟨by first | rfl | (simp [errW_none, errW_some] <;> rfl) | (simp [*, errW_none, errW_some] <;> rfl), by repeat (first | (with_reducible first | exact HB.out | apply below_alloc | apply pw_below_drewN | apply below_drew1 | refine below_set ?_ GE183.out) | exact HB.out)⟩
    · rw [if_neg c3] at H
      have c3b0 : decide (a0_0 ≤ 268435455) = false := decide_eq_false c3
      clear c3
      obtain rfl := Option.some.inj H
      go_enter Try.func28, Try.ntmps28
      go_wp2_with (first | ((with_reducible refine gate_dst (N := 1) rfl ?_); refine box_event ?hg (N := 1) ?hd (cs := #[.int .i64 a0_0, .int .i64 a0_1]) (t := 33) ?hr ?_; (case hd => rfl); (case hg => rfl); (case hr => first | (go_simp; done) | (go_simp; rfl)); intro gb183 hg w9 hbox hb; have n0_ := Aside0.mk (below_step (by repeat (first | (with_reducible first | exact HB.out | apply below_alloc | apply pw_below_drewN | apply below_drew1) | exact HB.out)) hb); have n1_ := Aside0.mk (hbox); have n2_ := Aside0.mk ((by rw [hg]; exact (below_size (by repeat (first | (with_reducible first | exact HB.out | apply below_alloc | apply pw_below_drewN | apply below_drew1) | exact HB.out))) : w.heap.size ≤ gb183)); have n3_ := Aside0.mk ((by rw [hg]; exact (below_size (by repeat (first | (with_reducible first | exact HB.out | apply below_alloc | apply pw_below_drewN | apply below_drew1) | exact HB.out))) : w.heap.size ≤ gb183)); clear HB; have HB := n0_; have BK183 := n1_; have GW183 := n2_; have GE183 := n3_; clear n0_ n1_ n2_ n3_; clear hb hbox hg; have hcz10_0 : w9.cell? ⟨gb183, 0, none⟩ = some (.int .i64 a0_0) := (blk_cell BK183.out 0).trans rfl; have hcz10_1 : w9.cell? ⟨gb183, 1, none⟩ = some (.int .i64 a0_1) := (blk_cell BK183.out 1).trans rfl; have hfz10_0 := blk_frozen BK183.out 0; have hfz10_1 := blk_frozen BK183.out 1))
      go_ret
      exact ⟨by first | rfl | (simp [errW_none, errW_some] <;> rfl) | (simp [*, errW_none, errW_some] <;> rfl), by repeat (first | (with_reducible first | exact HB.out | apply below_alloc | apply pw_below_drewN | apply below_drew1 | refine below_set ?_ GE183.out) | exact HB.out)⟩
  · rw [if_neg c2] at H
    have c2b0 : decide ((-268435455) ≤ a0_0) = false := decide_eq_false c2
    clear c2
    obtain rfl := Option.some.inj H
    go_enter Try.func28, Try.ntmps28
    go_wp2_with (first | ((with_reducible refine gate_dst (N := 1) rfl ?_); refine box_event ?hg (N := 1) ?hd (cs := #[.int .i64 a0_0, .int .i64 a0_1]) (t := 33) ?hr ?_; (case hd => rfl); (case hg => rfl); (case hr => first | (go_simp; done) | (go_simp; rfl)); intro gb183 hg w11 hbox hb; have n0_ := Aside0.mk (below_step (by repeat (first | (with_reducible first | exact HB.out | apply below_alloc | apply pw_below_drewN | apply below_drew1) | exact HB.out)) hb); have n1_ := Aside0.mk (hbox); have n2_ := Aside0.mk ((by rw [hg]; exact (below_size (by repeat (first | (with_reducible first | exact HB.out | apply below_alloc | apply pw_below_drewN | apply below_drew1) | exact HB.out))) : w.heap.size ≤ gb183)); have n3_ := Aside0.mk ((by rw [hg]; exact (below_size (by repeat (first | (with_reducible first | exact HB.out | apply below_alloc | apply pw_below_drewN | apply below_drew1) | exact HB.out))) : w.heap.size ≤ gb183)); clear HB; have HB := n0_; have BK183 := n1_; have GW183 := n2_; have GE183 := n3_; clear n0_ n1_ n2_ n3_; clear hb hbox hg; have hcz12_0 : w11.cell? ⟨gb183, 0, none⟩ = some (.int .i64 a0_0) := (blk_cell BK183.out 0).trans rfl; have hcz12_1 : w11.cell? ⟨gb183, 1, none⟩ = some (.int .i64 a0_1) := (blk_cell BK183.out 1).trans rfl; have hfz12_0 := blk_frozen BK183.out 0; have hfz12_1 := blk_frozen BK183.out 1))
    go_ret
    exact ⟨by first | rfl | (simp [errW_none, errW_some] <;> rfl) | (simp [*, errW_none, errW_some] <;> rfl), by repeat (first | (with_reducible first | exact HB.out | apply below_alloc | apply pw_below_drewN | apply below_drew1 | refine below_set ?_ GE183.out) | exact HB.out)⟩

end Go.Proofs.Ytnjlcmaelacjkaa.PD3

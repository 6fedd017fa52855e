/- What functions of the program come to, each with the proof that the machine's call does just that; written by a program of this session out of the translation. -/
import Derived.Test.YtdhgekogaoiidaaPT6x0
import Derived.Test.YtdhgekogaoiidaaPT6x2
import Derived.Test.YtdhgekogaoiidaaPT6x3
import Derived.Test.YtdhgekogaoiidaaPT6x4
import Derived.Test.YtdhgekogaoiidaaPT6x6
namespace Go.Proofs.Ytdhgekogaoiidaa.PT6
open Go.RowKit Go.Proofs.YtdhgekogaoiidaaW.PrintWords Go.Proofs.YtdhgekogaoiidaaW.PrintLast Go.Proofs.YtdhgekogaoiidaaW.PrintMore
attribute [local go_sem] max2_int min2_int max_two min_two max_three min_three max_four min_four   -- for this text's walks alone
set_option linter.unusedVariables false
set_option linter.unusedSimpArgs false

/-! ### fleuronlaw17_WindMany: function 5 (by hand) -/
/-- What lay below stays. -/
theorem F_low {α : Type} {d : Kd α} {w : World} {ok : Nat → Prop} {A : Option Addr} {n : Nat} {xs : List α} (h : Kd.F d w ok A n xs) : Kd.F d w (fun k => k < w.heap.size) A n xs := Kd.F_mono (Kd.F_bound h) (fun _ hk => hk.2)
theorem F_at {α : Type} {d : Kd α} {w W : World} {A : Option Addr} {n : Nat} {xs : List α} (h : Kd.F d w (fun k => k < w.heap.size) A n xs) (hb : Below w.heap.size w W) : Kd.F d W (fun k => k < w.heap.size) A n xs := Kd.F_step h (fun k hk _ => hb.block k hk)
theorem pair_reps {W : World} {ok : Nat → Prop} {A : Option Addr} {c : Nat} {l : List S24} (h : Kd.F k24 W ok A l.length l) (hc : l.length ≤ c) : Reps (Kd.FK (Kd.slice 24 k24) W ok) (Kd.slice 24 k24).sz ([l, l] : List (List S24)) [.slice A l.length c, .slice A l.length c] := Reps.one (Kd.FK_slice_mk hc h) (Reps.one (Kd.FK_slice_mk hc h) (Reps.none _ _))
theorem infoRow : (Try.prog.info? 31).map (fun i => (i.zero, i.size, i.bytes)) = some (some (.slice none 0 0), 1, 24) := by kernel_rfl
theorem back_at (n kk j : Nat) (z : Int) (hj : n - 1 - kk = j) (hlt : kk < n) (hn : n ≤ 1000) (h : wrap64 (wrap64 ((n : Int) - 1) - (kk : Int)) = z) : z = (j : Int) := by
  have h1 : wrap64 ((n : Int) - 1) = (n : Int) - 1 := by unfold wrap64; omega
  rw [h1] at h
  have h2 : wrap64 ((n : Int) - 1 - (kk : Int)) = (n : Int) - 1 - (kk : Int) := by unfold wrap64; omega
  omega
theorem succ_at (kk : Nat) (h : kk ≤ 1000) : wrap64 ((kk : Int) + 1) = ((kk + 1 : Nat) : Int) := by unfold wrap64; omega
theorem rev_take (l : List (List S24)) (kk j : Nat) (hj : l.length - 1 - kk = j) (hlt : kk < l.length) : l.reverse.take kk ++ [rd_L2 l (j : Int)] = l.reverse.take (kk + 1) := by
  rw [List.take_succ_eq_append_getElem (by rw [List.length_reverse]; exact hlt), List.getElem_reverse]
  congr 2
  have h : j < l.length := by omega
  subst hj
  simp [rd_L2, List.getD_eq_getElem?_getD, List.getElem?_eq_getElem h]
/-- A row of one row that came in. -/
theorem oneP_row {W : World} {A : Option Addr} {c : Nat} {l : List S24} (h : Kd.C k24 W A l.length l) (hc : l.length ≤ c) (e : TypeId) : Kd.C (Kd.slice 24 k24) (W.alloc (.cells #[.slice A l.length c] e)) (some ⟨W.heap.size, 0, none⟩) ([l] : List (List S24)).length [l] := by
  refine ⟨rfl, by simp, fun _ => ⟨⟨W.heap.size, 0, none⟩, rfl, fun j p hj => ?_⟩⟩
  cases j with
  | zero =>
    obtain rfl : l = p := by simpa using hj
    refine ⟨[.slice A l.length c], rfl, ⟨A, c, rfl, hc, Kd.C_alloc h _⟩, fun i u hi => ?_⟩
    cases i with
    | zero =>
      obtain rfl : Value.slice A l.length c = u := by simpa using hi

      simp [Kd.slice, Addr.add]
    | succ i => simp at hi
  | succ j => simp at hj
def fleuronlaw17_WindMany.P (k : Nat) (l0 : List (List S24)) (l1 : List S24) (x y : Int) : Prop := l0.length + 2 < 5864062014805 ∧ (fleuronlaw17_few.f k ([l1, l1] ++ l0) = some false ∨ (fleuronlaw17_few.f k ([l1, l1] ++ l0) = some true ∧ (40 < l0.length ∨ (l0.length ≤ 40 ∧ ∃ a e b f, wind_Inside.f k l0 false x y = some (a, e) ∧ wind_Inside.f k l0.reverse false x y = some (a, e) ∧ wind_Inside.f k l0 true x y = some (b, f) ∧ wind_Inside.f k l0.reverse true x y = some (b, f) ∧
  ∃ c g n h d, wind_Inside.f k ([l1, l1] ++ l0) true x y = some (c, g) ∧ wind_Winding.f l1 x y = some (n, h) ∧ wind_Inside.f k [l1] false x y = some (d, h) ∧ (f ≠ 0 ∨ g ≠ 0 ∨ b = c) ∧ (h ≠ 0 ∨ d = (n != 0))))))
set_option maxHeartbeats 8000000 in
set_option maxRecDepth 100000 in
theorem fleuronlaw17_WindMany.calls (k : Nat) (P0_ : Nat → Prop) (A0 : Option Addr) (c0 : Nat) (l0 : List (List S24)) (P1_ : Nat → Prop) (A1 : Option Addr) (c1 : Nat) (l1 : List S24) (x y : Int) (w : World) (hs0 : Kd.V (Kd.slice 24 k24) 31 w w.heap.size (fun k_ => P0_ k_) (.slice A0 l0.length c0) l0) (hs1 : Kd.V k24 24 w w.heap.size (fun k_ => P1_ k_) (.slice A1 l1.length c1) l1) (h : fleuronlaw17_WindMany.P k l0 l1 x y) :
    Calls Try.prog 5 #[.slice A0 l0.length c0, .slice A1 l1.length c1, .agg #[.int .i64 x, .int .i64 y]] w fun e w' => e = .returned (.bool true) ∧ Below w.heap.size w w' := by
  have hu := Try.underlying24
  have F0 := Aside0.mk (F_low (Kd.V_F hs0))
  have F1 := Aside0.mk (F_low (Kd.V_F hs1))
  have HC0 := Aside0.mk (Kd.V_reads' hs0).2.1
  have HC1 := Aside0.mk (Kd.V_reads' hs1).2.1
  have Hl0 := Aside0.mk (Kd.V_reads' hs0).2.2
  have Hl1 := Aside0.mk (Kd.V_reads' hs1).2.2
  clear hs0 hs1
  have HB := Aside0.mk (Below.refl w.heap.size w)
  obtain ⟨hlm, h⟩ := h
  have HLM := Aside0.mk hlm
  clear hlm
  have Nl0 := Aside0.mk (Kd.C_below Hl0.out (below_alloc (Below.refl _ _) (.cells #[.int .i64 x, .int .i64 y] 24)))
  clear Hl0
  have Hl0 := Nl0
  clear Nl0
  have Nl1 := Aside0.mk (Kd.C_below Hl1.out (below_alloc (Below.refl _ _) (.cells #[.int .i64 x, .int .i64 y] 24)))
  clear Hl1
  have Hl1 := Nl1
  clear Nl1
  have NB_ := Aside0.mk (below_step HB.out (below_alloc (Below.refl _ _) (.cells #[.int .i64 x, .int .i64 y] 24)))
  clear HB
  have HB := NB_
  clear NB_
  have h_ := blk_new w (.cells #[.int .i64 x, .int .i64 y] 24)
  try simp only [World.size_alloc] at h_
  have Bs := Aside0.mk h_
  clear h_
  go_enter Try.func5, Try.ntmps5
  rcases h with h | ⟨hf, h | ⟨hle, a, e, b, f, h1, h2, h3, h4, c, g, n, h, d, h5, h6, h7, h8, h9⟩⟩
  · have HF := Aside0.mk h
    clear h
    have HBW := HB.out
    have hsz_ : (w.alloc (.cells #[.int .i64 x, .int .i64 y] 24)).heap.size = w.heap.size + 1 := by simp
    go_wp2_with (first | ((with_reducible refine gate_dst (N := 25) rfl ?_); refine Kd.N_lit (Kd.slice 24 k24) (w.alloc (.cells #[.int .i64 x, .int .i64 y] 24)).heap.size 31 ?hg (N' := 25) ?hd (xs := ([l1, l1] : List (List S24))) (inner := [.slice A1 l1.length c1, .slice A1 l1.length c1]) (ok := fun _ => True) (okp := fun k_ => k_ < w.heap.size) ?hr ?hp (fun _ _ => trivial) trivial (Below.refl _ _) (Nat.le_refl _) (by simp) ?_; (case hd => rfl); (case hg => rfl); (case hr => first | (go_simp; done) | (go_simp; rfl)); (case hp => exact pair_reps (F_at F1.out HBW) HC1.out); intro vL WL hoL hbL _ _) | ((with_reducible refine gate_builtin (b := .append) (xs := #[.tmp 25, .tmp 26]) rfl ?_); at_builtin; refine Kd.N_append_rows (Kd.slice 24 k24) (w0 := (w.alloc (.cells #[.int .i64 x, .int .i64 y] 24))) (w.alloc (.cells #[.int .i64 x, .int .i64 y] 24)).heap.size rfl (.tmp 25) (.tmp 26) 22 31 (.slice none 0 0) 24 rfl Try.underlying22 infoRow rfl (by decide) (by omega) vL [l1, l1] l0 A0 l0.length c0 (fun _ => True) (fun k_ => k_ < w.heap.size) rfl rfl hoL (F_at F0.out (below_step HBW hbL)) ?aK (fun _ _ => trivial) hbL hbL.size ?aL ?_; (case aK => exact fun k_ hk => ⟨trivial, fun he => by have h1_ := Kd.N_base hoL k_ he.symm; have h2_ := HBW.size; omega⟩); (case aL => have := HLM.out; simp only [List.length_cons, List.length_nil]; omega); intro vA WA ho hb _ _; obtain ⟨L2, hL2⟩ : ∃ L, [l1, l1] ++ l0 = L := ⟨_, rfl⟩; rw [hL2] at ho; obtain ⟨Aq, cq, rfl⟩ := Kd.N_slice ho))
    clear HBW hsz_ hoL hbL
    have Nl0 := Aside0.mk (Kd.C_below Hl0.out hb)
    clear Hl0
    have Hl0 := Nl0
    clear Nl0
    have Nl1 := Aside0.mk (Kd.C_below Hl1.out hb)
    clear Hl1
    have Hl1 := Nl1
    clear Nl1
    have Ns := Aside0.mk (blk_below Bs.out hb)
    clear Bs
    have Bs := Ns
    clear Ns
    have NB_ := Aside0.mk (below_step HB.out hb)
    clear HB
    have HB := NB_
    clear NB_
    have Hq := Aside0.mk (Kd.N_reads' ho).2.2
    have hcq := (Kd.N_reads' ho).2.1
    clear ho hb
    rw [hL2] at HF
    clear hL2
    refine (fleuronlaw17_few.calls k Aq cq L2 false _ Hq.out hcq HF.out).mono ?_
    rintro e W2 ⟨rfl, hb⟩
    replace hb := hb.below
    have Nl0 := Aside0.mk (Kd.C_below Hl0.out hb)
    clear Hl0
    have Hl0 := Nl0
    clear Nl0
    have Nl1 := Aside0.mk (Kd.C_below Hl1.out hb)
    clear Hl1
    have Hl1 := Nl1
    clear Nl1
    have Nq := Aside0.mk (Kd.C_below Hq.out hb)
    clear Hq
    have Hq := Nq
    clear Nq
    have Ns := Aside0.mk (blk_below Bs.out hb)
    clear Bs
    have Bs := Ns
    clear Ns
    have NB_ := Aside0.mk (below_step HB.out hb)
    clear HB
    have HB := NB_
    clear NB_
    clear hb
    clear Hq
    go_wp2_with fail
    ((with_reducible refine (fleuronlaw17_awake.calls true _ rfl).mono ?_); rintro e W3 ⟨rfl, hb⟩)
    have Nl0 := Aside0.mk (Kd.C_below Hl0.out hb)
    clear Hl0
    have Hl0 := Nl0
    clear Nl0
    have Nl1 := Aside0.mk (Kd.C_below Hl1.out hb)
    clear Hl1
    have Hl1 := Nl1
    clear Nl1
    have Ns := Aside0.mk (blk_below Bs.out hb)
    clear Bs
    have Bs := Ns
    clear Ns
    have NB_ := Aside0.mk (below_step HB.out hb)
    clear HB
    have HB := NB_
    clear NB_
    clear hb
    go_wp2
    go_ret
    exact ⟨rfl, HB.out⟩
  · have HF := Aside0.mk hf
    clear hf
    have HBW := HB.out
    have hsz_ : (w.alloc (.cells #[.int .i64 x, .int .i64 y] 24)).heap.size = w.heap.size + 1 := by simp
    go_wp2_with (first | ((with_reducible refine gate_dst (N := 25) rfl ?_); refine Kd.N_lit (Kd.slice 24 k24) (w.alloc (.cells #[.int .i64 x, .int .i64 y] 24)).heap.size 31 ?hg (N' := 25) ?hd (xs := ([l1, l1] : List (List S24))) (inner := [.slice A1 l1.length c1, .slice A1 l1.length c1]) (ok := fun _ => True) (okp := fun k_ => k_ < w.heap.size) ?hr ?hp (fun _ _ => trivial) trivial (Below.refl _ _) (Nat.le_refl _) (by simp) ?_; (case hd => rfl); (case hg => rfl); (case hr => first | (go_simp; done) | (go_simp; rfl)); (case hp => exact pair_reps (F_at F1.out HBW) HC1.out); intro vL WL hoL hbL _ _) | ((with_reducible refine gate_builtin (b := .append) (xs := #[.tmp 25, .tmp 26]) rfl ?_); at_builtin; refine Kd.N_append_rows (Kd.slice 24 k24) (w0 := (w.alloc (.cells #[.int .i64 x, .int .i64 y] 24))) (w.alloc (.cells #[.int .i64 x, .int .i64 y] 24)).heap.size rfl (.tmp 25) (.tmp 26) 22 31 (.slice none 0 0) 24 rfl Try.underlying22 infoRow rfl (by decide) (by omega) vL [l1, l1] l0 A0 l0.length c0 (fun _ => True) (fun k_ => k_ < w.heap.size) rfl rfl hoL (F_at F0.out (below_step HBW hbL)) ?aK (fun _ _ => trivial) hbL hbL.size ?aL ?_; (case aK => exact fun k_ hk => ⟨trivial, fun he => by have h1_ := Kd.N_base hoL k_ he.symm; have h2_ := HBW.size; omega⟩); (case aL => have := HLM.out; simp only [List.length_cons, List.length_nil]; omega); intro vA WA ho hb _ _; obtain ⟨L2, hL2⟩ : ∃ L, [l1, l1] ++ l0 = L := ⟨_, rfl⟩; rw [hL2] at ho; obtain ⟨Aq, cq, rfl⟩ := Kd.N_slice ho))
    clear HBW hsz_ hoL hbL
    have Nl0 := Aside0.mk (Kd.C_below Hl0.out hb)
    clear Hl0
    have Hl0 := Nl0
    clear Nl0
    have Nl1 := Aside0.mk (Kd.C_below Hl1.out hb)
    clear Hl1
    have Hl1 := Nl1
    clear Nl1
    have Ns := Aside0.mk (blk_below Bs.out hb)
    clear Bs
    have Bs := Ns
    clear Ns
    have NB_ := Aside0.mk (below_step HB.out hb)
    clear HB
    have HB := NB_
    clear NB_
    have Hq := Aside0.mk (Kd.N_reads' ho).2.2
    have hcq := (Kd.N_reads' ho).2.1
    clear ho hb
    rw [hL2] at HF
    clear hL2
    have hgt : (l0.length : Int) > 40 := by omega
    have hgt2 : (40 : Int) < (l0.length : Int) := hgt
    have hgd : decide ((40 : Int) < (l0.length : Int)) = true := decide_eq_true hgt2
    clear hgt hgt2
    refine (fleuronlaw17_few.calls k Aq cq L2 true _ Hq.out hcq HF.out).mono ?_
    rintro e W2 ⟨rfl, hb⟩
    replace hb := hb.below
    have Nl0 := Aside0.mk (Kd.C_below Hl0.out hb)
    clear Hl0
    have Hl0 := Nl0
    clear Nl0
    have Nl1 := Aside0.mk (Kd.C_below Hl1.out hb)
    clear Hl1
    have Hl1 := Nl1
    clear Nl1
    have Nq := Aside0.mk (Kd.C_below Hq.out hb)
    clear Hq
    have Hq := Nq
    clear Nq
    have Ns := Aside0.mk (blk_below Bs.out hb)
    clear Bs
    have Bs := Ns
    clear Ns
    have NB_ := Aside0.mk (below_step HB.out hb)
    clear HB
    have HB := NB_
    clear NB_
    clear hb
    clear Hq
    go_wp2_with fail
    ((with_reducible refine (fleuronlaw17_awake.calls true _ rfl).mono ?_); rintro e W3 ⟨rfl, hb⟩)
    have Nl0 := Aside0.mk (Kd.C_below Hl0.out hb)
    clear Hl0
    have Hl0 := Nl0
    clear Nl0
    have Nl1 := Aside0.mk (Kd.C_below Hl1.out hb)
    clear Hl1
    have Hl1 := Nl1
    clear Nl1
    have Ns := Aside0.mk (blk_below Bs.out hb)
    clear Bs
    have Bs := Ns
    clear Ns
    have NB_ := Aside0.mk (below_step HB.out hb)
    clear HB
    have HB := NB_
    clear NB_
    clear hb
    go_wp2
    go_ret
    exact ⟨rfl, HB.out⟩
  · have HF := Aside0.mk hf
    have HLE := Aside0.mk hle
    have H1 := Aside0.mk h1
    have H2 := Aside0.mk h2
    have H3 := Aside0.mk h3
    have H4 := Aside0.mk h4
    have H5 := Aside0.mk h5
    have H6 := Aside0.mk h6
    have H7 := Aside0.mk h7
    have H8 := Aside0.mk h8
    have H9 := Aside0.mk h9
    clear hf hle h1 h2 h3 h4 h5 h6 h7 h8 h9
    have HBW := HB.out
    have hsz_ : (w.alloc (.cells #[.int .i64 x, .int .i64 y] 24)).heap.size = w.heap.size + 1 := by simp
    go_wp2_with (first | ((with_reducible refine gate_dst (N := 25) rfl ?_); refine Kd.N_lit (Kd.slice 24 k24) (w.alloc (.cells #[.int .i64 x, .int .i64 y] 24)).heap.size 31 ?hg (N' := 25) ?hd (xs := ([l1, l1] : List (List S24))) (inner := [.slice A1 l1.length c1, .slice A1 l1.length c1]) (ok := fun _ => True) (okp := fun k_ => k_ < w.heap.size) ?hr ?hp (fun _ _ => trivial) trivial (Below.refl _ _) (Nat.le_refl _) (by simp) ?_; (case hd => rfl); (case hg => rfl); (case hr => first | (go_simp; done) | (go_simp; rfl)); (case hp => exact pair_reps (F_at F1.out HBW) HC1.out); intro vL WL hoL hbL _ _) | ((with_reducible refine gate_builtin (b := .append) (xs := #[.tmp 25, .tmp 26]) rfl ?_); at_builtin; refine Kd.N_append_rows (Kd.slice 24 k24) (w0 := (w.alloc (.cells #[.int .i64 x, .int .i64 y] 24))) (w.alloc (.cells #[.int .i64 x, .int .i64 y] 24)).heap.size rfl (.tmp 25) (.tmp 26) 22 31 (.slice none 0 0) 24 rfl Try.underlying22 infoRow rfl (by decide) (by omega) vL [l1, l1] l0 A0 l0.length c0 (fun _ => True) (fun k_ => k_ < w.heap.size) rfl rfl hoL (F_at F0.out (below_step HBW hbL)) ?aK (fun _ _ => trivial) hbL hbL.size ?aL ?_; (case aK => exact fun k_ hk => ⟨trivial, fun he => by have h1_ := Kd.N_base hoL k_ he.symm; have h2_ := HBW.size; omega⟩); (case aL => have := HLM.out; simp only [List.length_cons, List.length_nil]; omega); intro vA WA ho hb _ _; obtain ⟨L2, hL2⟩ : ∃ L, [l1, l1] ++ l0 = L := ⟨_, rfl⟩; rw [hL2] at ho; obtain ⟨Aq, cq, rfl⟩ := Kd.N_slice ho))
    clear HBW hsz_ hoL hbL
    have Nl0 := Aside0.mk (Kd.C_below Hl0.out hb)
    clear Hl0
    have Hl0 := Nl0
    clear Nl0
    have Nl1 := Aside0.mk (Kd.C_below Hl1.out hb)
    clear Hl1
    have Hl1 := Nl1
    clear Nl1
    have Ns := Aside0.mk (blk_below Bs.out hb)
    clear Bs
    have Bs := Ns
    clear Ns
    have NB_ := Aside0.mk (below_step HB.out hb)
    clear HB
    have HB := NB_
    clear NB_
    have Hq := Aside0.mk (Kd.N_reads' ho).2.2
    have hcq := (Kd.N_reads' ho).2.1
    clear ho hb
    rw [hL2] at HF
    clear hL2
    have hgt : ¬ (l0.length : Int) > 40 := by have := HLE.out; omega
    have hgt2 : ¬ (40 : Int) < (l0.length : Int) := hgt
    have hgd : decide ((40 : Int) < (l0.length : Int)) = false := decide_eq_false hgt2
    clear hgt hgt2
    refine (fleuronlaw17_few.calls k Aq cq L2 true _ Hq.out hcq HF.out).mono ?_
    rintro e W2 ⟨rfl, hb⟩
    replace hb := hb.below
    have Nl0 := Aside0.mk (Kd.C_below Hl0.out hb)
    clear Hl0
    have Hl0 := Nl0
    clear Nl0
    have Nl1 := Aside0.mk (Kd.C_below Hl1.out hb)
    clear Hl1
    have Hl1 := Nl1
    clear Nl1
    have Nq := Aside0.mk (Kd.C_below Hq.out hb)
    clear Hq
    have Hq := Nq
    clear Nq
    have Ns := Aside0.mk (blk_below Bs.out hb)
    clear Bs
    have Bs := Ns
    clear Ns
    have NB_ := Aside0.mk (below_step HB.out hb)
    clear HB
    have HB := NB_
    clear NB_
    clear hb
    clear Hq
    clear hcq
    go_wp2
    clear hgd
    go_loopg [7, 38] l0.length (fun gg s7 s38 wr => ∃ kk : Nat, kk ≤ l0.length ∧ l0.length ≤ gg + kk ∧ s38 = .int .i64 kk ∧ Aside0 (Kd.N (Kd.slice 24 k24) 31 wr W2.heap.size (fun _ => True) s7 (l0.reverse.take kk)) ∧ Aside0 (Below W2.heap.size W2 wr))
    case atStart => exact ⟨0, by omega, by omega, rfl, ⟨Kd.N_nil _ _ _ _ _⟩, ⟨Below.refl _ _⟩⟩
    case round =>
      obtain ⟨kk, hkk, hgg, rfl, HN, HBr⟩ := hrel
      have hle := HLE.out
      by_cases hlt : kk < l0.length
      · clear H1 H2 H3 H4 H5 H6 H7 H8 H9 HF
        have hlti : (kk : Int) < (l0.length : Int) := by omega
        have hltd : decide ((kk : Int) < (l0.length : Int)) = true := decide_eq_true hlti
        obtain ⟨j, hj⟩ : ∃ j, l0.length - 1 - kk = j := ⟨_, rfl⟩
        have hjl : j < l0.length := by omega
        obtain ⟨jz, hjz⟩ : ∃ z : Int, wrap64 (wrap64 ((l0.length : Int) - 1) - (kk : Int)) = z := ⟨_, rfl⟩
        have hjw : IntKind.i64.wrap (wrap64 ((l0.length : Int) - 1) - (kk : Int)) = jz := (i64_w _).trans hjz
        have HJZ := Aside0.mk (show jz = (j : Int) from back_at l0.length kk j jz hj (by omega) (by omega) hjz)
        have p0_ : (0 : Int) ≤ jz := by have := HJZ.out; omega
        have q0_ : jz < (l0.length : Int) := by have := HJZ.out; omega
        have p1_ : decide ((0 : Int) ≤ jz) = true := decide_eq_true p0_
        have q1_ : decide (jz < (l0.length : Int)) = true := decide_eq_true q0_
        have hw3 := Aside0.mk (succ_at kk (by omega))
        have HBT := Aside0.mk (below_step HB.out HBr.out)
        have HV := Aside0.mk (Kd.V_mk (e := 31) (base := 0) HC0.out (F_at F0.out HBT.out))
        obtain ⟨ad, Ai, ci, ead, hx, hl, hi⟩ := at_L2 (Kd.V_reads' HV.out).2.2 jz p0_ q0_
        subst ead
        obtain ⟨ce, hce, hMe, hcc⟩ := Kd.V_get HV.out [] jz p0_ q0_
        obtain ⟨ua, uc, rfl, ul, ge⟩ := Kd.FK_slice_open hMe
        have hv := hcc 0 _ rfl
        rw [Nat.add_zero, show ((Kd.slice 24 k24)).sz = 1 from rfl, Nat.mul_one] at hv
        replace hv := Option.some.inj (hv.symm.trans hx)
        injection hv with hva hvn hvc
        rw [hva] at ge
        rw [hvc] at ul
        have HFI := Aside0.mk (show Kd.F k24 wr (fun k_ => k_ < w.heap.size) Ai (rd_L2 l0 jz).length (rd_L2 l0 jz) from ge)
        have HUL := Aside0.mk (show (rd_L2 l0 jz).length ≤ ci from ul)
        clear hva hvn hvc ge ul hcc hce hMe hl hi
        have HTK := Aside0.mk (show l0.reverse.take kk ++ [rd_L2 l0 jz] = l0.reverse.take (kk + 1) by rw [HJZ.out]; exact rev_take l0 kk j hj hlt)
        have HSZ := Aside0.mk (show w.heap.size ≤ W2.heap.size from HB.out.size)
        have HLT := Aside0.mk hlt
        have HGG := Aside0.mk hgg
        have HJ := Aside0.mk hj
        clear hj hlt hgg hle hkk hjl hjz
        replace p0_ := eq_true p0_
        replace q0_ := eq_true q0_
        
        go_wp2_with (first | ((with_reducible refine gate_builtin (b := .append) (xs := #[.tmp 41, .tmp 50]) rfl ?_); at_builtin; refine Kd.N_append (Kd.slice 24 k24) (w0 := W2) W2.heap.size rfl (.tmp 41) (.tmp 50) 22 31 (.slice none 0 0) 24 rfl Try.underlying22 infoRow rfl (by decide) (by omega) u7 (l0.reverse.take kk) (rd_L2 l0 jz) [.slice Ai (rd_L2 l0 jz).length ci] (fun _ => True) (fun k_ => k_ < w.heap.size) rfl rfl (Kd.FK_slice_mk HUL.out HFI.out) ?aK (fun _ _ => trivial) HN.out HBr.out HBr.out.size ?aL ?_; (case aK => exact fun k_ hk => ⟨trivial, fun he => by have h1_ := Kd.N_base HN.out k_ he.symm; have h2_ := HSZ.out; omega⟩); (case aL => have := HLM.out; rw [List.length_take]; omega); intro vA WA ho hb _ _))
        rw [HTK.out] at ho
        have HO := Aside0.mk ho
        have HBO := Aside0.mk hb
        clear ho hb
        go_roundg (l0.length - (kk + 1))
        case measure => have := HLT.out; have := HGG.out; omega
        case rel => exact ⟨kk + 1, by have := HLT.out; omega, by omega, by first | exact congrArg (Value.int .i64) hw3.out | rfl, HO, HBO⟩
      · have hlti : ¬ (kk : Int) < (l0.length : Int) := by omega
        have hltd : decide ((kk : Int) < (l0.length : Int)) = false := decide_eq_false hlti
        obtain rfl : kk = l0.length := by omega
        have hn := HN.out
        rw [show l0.reverse.take l0.length = l0.reverse from List.take_of_length_le (by simp)] at hn
        have hb := HBr.out
        clear HBr HN
        have Nl0 := Aside0.mk (Kd.C_below Hl0.out hb)
        clear Hl0
        have Hl0 := Nl0
        clear Nl0
        have Nl1 := Aside0.mk (Kd.C_below Hl1.out hb)
        clear Hl1
        have Hl1 := Nl1
        clear Nl1
        have Ns := Aside0.mk (blk_below Bs.out hb)
        clear Bs
        have Bs := Ns
        clear Ns
        have NB_ := Aside0.mk (below_step HB.out hb)
        clear HB
        have HB := NB_
        clear NB_
        clear hb
        obtain ⟨Ab, cb, rfl⟩ := Kd.N_slice hn
        have Hb := Aside0.mk (Kd.N_reads' hn).2.2
        have hcb := (Kd.N_reads' hn).2.1
        clear hn hle
        obtain ⟨L9, hL9⟩ : ∃ L, l0.reverse = L := ⟨_, rfl⟩
        rw [hL9] at Hb hcb H2 H4 ⊢
        clear hL9
        have HCB := Aside0.mk hcb
        clear hcb
        generalize wr = WX at *
        go_wp2
        go_loopg [55] 2 (fun gg s55 wr => ∃ kk : Nat, kk ≤ 2 ∧ 2 ≤ gg + kk ∧ s55 = .int .i64 kk ∧ Aside0 (Below WX.heap.size WX wr) ∧ Aside0 (wr.heap[WX.heap.size]? = some (.cells #[.bool false, .bool true] 4 (0, 0))))
        case atStart => exact ⟨0, by omega, by omega, rfl, ⟨below_alloc (Below.refl _ _) _⟩, ⟨blk_new WX _⟩⟩
        case round =>
          obtain ⟨kk, hkk, hgg, rfl, HBX, BE⟩ := hrel
          clear hlti hltd
          rcases (show kk = 0 ∨ kk = 1 ∨ kk = 2 by omega) with rfl | rfl | rfl
          · clear H5 H6 H7 H8 H9 HF
            have hb := HBX.out
            have Nl0 := Aside0.mk (Kd.C_below Hl0.out hb)
            clear Hl0
            have Hl0 := Nl0
            clear Nl0
            have Nl1 := Aside0.mk (Kd.C_below Hl1.out hb)
            clear Hl1
            have Hl1 := Nl1
            clear Nl1
            have Nb := Aside0.mk (Kd.C_below Hb.out hb)
            clear Hb
            have Hb := Nb
            clear Nb
            have Ns := Aside0.mk (blk_below Bs.out hb)
            clear Bs
            have Bs := Ns
            clear Ns
            have NB_ := Aside0.mk (below_step HB.out hb)
            clear HB
            have HB := NB_
            clear NB_
            clear hb
            have pE0 := (blk_cell BE.out 0).trans rfl
            have ps0 := (blk_cell Bs.out 0).trans rfl
            have ps1 := (blk_cell Bs.out 1).trans rfl
            go_wp2_with fail
            ((with_reducible refine (wind_Inside.calls k A0 c0 l0 false x y a e _ Hl0.out HC0.out H1.out).mono ?_); rintro e W3 ⟨rfl, hb⟩)
            clear pE0
            clear ps0
            clear ps1
            have Nl0 := Aside0.mk (Kd.C_below Hl0.out hb)
            clear Hl0
            have Hl0 := Nl0
            clear Nl0
            have Nl1 := Aside0.mk (Kd.C_below Hl1.out hb)
            clear Hl1
            have Hl1 := Nl1
            clear Nl1
            have Nb := Aside0.mk (Kd.C_below Hb.out hb)
            clear Hb
            have Hb := Nb
            clear Nb
            have Ns := Aside0.mk (blk_below Bs.out hb)
            clear Bs
            have Bs := Ns
            clear Ns
            have NE := Aside0.mk (blk_below BE.out hb)
            clear BE
            have BE := NE
            clear NE
            have NHBX := Aside0.mk (below_step HBX.out hb)
            clear HBX
            have HBX := NHBX
            clear NHBX
            have NB_ := Aside0.mk (below_step HB.out hb)
            clear HB
            have HB := NB_
            clear NB_
            clear hb
            have ps0 := (blk_cell Bs.out 0).trans rfl
            have ps1 := (blk_cell Bs.out 1).trans rfl
            go_wp2_with fail
            ((with_reducible refine (wind_Inside.calls k Ab cb L9 false x y a e _ Hb.out HCB.out H2.out).mono ?_); rintro e W4 ⟨rfl, hb⟩)
            clear ps0
            clear ps1
            have Nl0 := Aside0.mk (Kd.C_below Hl0.out hb)
            clear Hl0
            have Hl0 := Nl0
            clear Nl0
            have Nl1 := Aside0.mk (Kd.C_below Hl1.out hb)
            clear Hl1
            have Hl1 := Nl1
            clear Nl1
            have Nb := Aside0.mk (Kd.C_below Hb.out hb)
            clear Hb
            have Hb := Nb
            clear Nb
            have Ns := Aside0.mk (blk_below Bs.out hb)
            clear Bs
            have Bs := Ns
            clear Ns
            have NE := Aside0.mk (blk_below BE.out hb)
            clear BE
            have BE := NE
            clear NE
            have NHBX := Aside0.mk (below_step HBX.out hb)
            clear HBX
            have HBX := NHBX
            clear NHBX
            have NB_ := Aside0.mk (below_step HB.out hb)
            clear HB
            have HB := NB_
            clear NB_
            clear hb
            go_wp2
            go_roundg 1
            case measure => omega
            case rel => exact ⟨1, by omega, by omega, by first | rfl | (simp; done), HBX, BE⟩
          · clear H5 H6 H7 H8 H9 HF
            have hb := HBX.out
            have Nl0 := Aside0.mk (Kd.C_below Hl0.out hb)
            clear Hl0
            have Hl0 := Nl0
            clear Nl0
            have Nl1 := Aside0.mk (Kd.C_below Hl1.out hb)
            clear Hl1
            have Hl1 := Nl1
            clear Nl1
            have Nb := Aside0.mk (Kd.C_below Hb.out hb)
            clear Hb
            have Hb := Nb
            clear Nb
            have Ns := Aside0.mk (blk_below Bs.out hb)
            clear Bs
            have Bs := Ns
            clear Ns
            have NB_ := Aside0.mk (below_step HB.out hb)
            clear HB
            have HB := NB_
            clear NB_
            clear hb
            have pE1 := (blk_cell BE.out 1).trans rfl
            have ps0 := (blk_cell Bs.out 0).trans rfl
            have ps1 := (blk_cell Bs.out 1).trans rfl
            go_wp2_with fail
            ((with_reducible refine (wind_Inside.calls k A0 c0 l0 true x y b f _ Hl0.out HC0.out H3.out).mono ?_); rintro e W3 ⟨rfl, hb⟩)
            clear pE1
            clear ps0
            clear ps1
            have Nl0 := Aside0.mk (Kd.C_below Hl0.out hb)
            clear Hl0
            have Hl0 := Nl0
            clear Nl0
            have Nl1 := Aside0.mk (Kd.C_below Hl1.out hb)
            clear Hl1
            have Hl1 := Nl1
            clear Nl1
            have Nb := Aside0.mk (Kd.C_below Hb.out hb)
            clear Hb
            have Hb := Nb
            clear Nb
            have Ns := Aside0.mk (blk_below Bs.out hb)
            clear Bs
            have Bs := Ns
            clear Ns
            have NE := Aside0.mk (blk_below BE.out hb)
            clear BE
            have BE := NE
            clear NE
            have NHBX := Aside0.mk (below_step HBX.out hb)
            clear HBX
            have HBX := NHBX
            clear NHBX
            have NB_ := Aside0.mk (below_step HB.out hb)
            clear HB
            have HB := NB_
            clear NB_
            clear hb
            have ps0 := (blk_cell Bs.out 0).trans rfl
            have ps1 := (blk_cell Bs.out 1).trans rfl
            go_wp2_with fail
            ((with_reducible refine (wind_Inside.calls k Ab cb L9 true x y b f _ Hb.out HCB.out H4.out).mono ?_); rintro e W4 ⟨rfl, hb⟩)
            clear ps0
            clear ps1
            have Nl0 := Aside0.mk (Kd.C_below Hl0.out hb)
            clear Hl0
            have Hl0 := Nl0
            clear Nl0
            have Nl1 := Aside0.mk (Kd.C_below Hl1.out hb)
            clear Hl1
            have Hl1 := Nl1
            clear Nl1
            have Nb := Aside0.mk (Kd.C_below Hb.out hb)
            clear Hb
            have Hb := Nb
            clear Nb
            have Ns := Aside0.mk (blk_below Bs.out hb)
            clear Bs
            have Bs := Ns
            clear Ns
            have NE := Aside0.mk (blk_below BE.out hb)
            clear BE
            have BE := NE
            clear NE
            have NHBX := Aside0.mk (below_step HBX.out hb)
            clear HBX
            have HBX := NHBX
            clear NHBX
            have NB_ := Aside0.mk (below_step HB.out hb)
            clear HB
            have HB := NB_
            clear NB_
            clear hb
            go_wp2
            go_roundg 0
            case measure => omega
            case rel => exact ⟨2, by omega, by omega, by first | rfl | (simp; done), HBX, BE⟩
          · have hb := HBX.out
            clear HBX BE
            have Nl0 := Aside0.mk (Kd.C_below Hl0.out hb)
            clear Hl0
            have Hl0 := Nl0
            clear Nl0
            have Nl1 := Aside0.mk (Kd.C_below Hl1.out hb)
            clear Hl1
            have Hl1 := Nl1
            clear Nl1
            have Nb := Aside0.mk (Kd.C_below Hb.out hb)
            clear Hb
            have Hb := Nb
            clear Nb
            have Ns := Aside0.mk (blk_below Bs.out hb)
            clear Bs
            have Bs := Ns
            clear Ns
            have NB_ := Aside0.mk (below_step HB.out hb)
            clear HB
            have HB := NB_
            clear NB_
            clear hb H1 H2 H4 HF
            clear Hb
            have ps0 := (blk_cell Bs.out 0).trans rfl
            have ps1 := (blk_cell Bs.out 1).trans rfl
            go_wp2_with fail
            ((with_reducible refine (wind_Inside.calls k A0 c0 l0 true x y b f _ Hl0.out HC0.out H3.out).mono ?_); rintro e W3 ⟨rfl, hb⟩)
            clear ps0
            clear ps1
            have Nl0 := Aside0.mk (Kd.C_below Hl0.out hb)
            clear Hl0
            have Hl0 := Nl0
            clear Nl0
            have Nl1 := Aside0.mk (Kd.C_below Hl1.out hb)
            clear Hl1
            have Hl1 := Nl1
            clear Nl1
            have Ns := Aside0.mk (blk_below Bs.out hb)
            clear Bs
            have Bs := Ns
            clear Ns
            have NB_ := Aside0.mk (below_step HB.out hb)
            clear HB
            have HB := NB_
            clear NB_
            clear hb
            have HBW := below_drew1 HB.out
            have HH5 := H5
            clear H5
            go_wp2
            refine start_ (n := 12) (S := fun w' => w'.cell? ⟨w.heap.size, 0, none⟩ = some (.int .i64 x) ∧ w'.cell? ⟨w.heap.size, 1, none⟩ = some (.int .i64 y)) (ds := []) #[false, false, false, false, false, false, false, false, false, false, false, false] (by kernel_rfl) rfl rfl ⟨(blk_cell (blk_drew Bs.out) 0).trans rfl, (blk_cell (blk_drew Bs.out) 1).trans rfl⟩ (fun hHeld => ?_)
            refine pure_ (i := 0) (N := some 89) (v := ?_) (a' := ?_) #[true, false, false, false, false, false, false, false, false, false, false, false] rfl rfl (by kernel_rfl) (fun _ _ _ h => h) (Or.inl ⟨by rfl, ?_⟩) ?_ ?_
            rotate_left
            · intro w'
              go_simp
              with_reducible rfl
            rotate_left
            · simp only [Act.put, List.setIfInBounds_toArray, List.set_cons_zero, List.set_cons_succ, i64_w, i32_w]
              rfl
            refine pure_ (i := 1) (N := some 90) (v := ?_) (a' := ?_) #[true, true, false, false, false, false, false, false, false, false, false, false] rfl rfl (by kernel_rfl) (fun _ _ _ h => h) (Or.inl ⟨by rfl, ?_⟩) ?_ ?_
            rotate_left
            · intro w'
              go_simp
              with_reducible rfl
            rotate_left
            · simp only [Act.put, List.setIfInBounds_toArray, List.set_cons_zero, List.set_cons_succ, i64_w, i32_w]
              rfl
            refine pure_ (i := 3) (N := some 92) (v := ?_) (a' := ?_) #[true, true, false, true, false, false, false, false, false, false, false, false] rfl rfl (by kernel_rfl) (fun _ _ _ h => h) (Or.inl ⟨by rfl, ?_⟩) ?_ ?_
            rotate_left
            · intro w'
              go_simp
              with_reducible rfl
            rotate_left
            · simp only [Act.put, List.setIfInBounds_toArray, List.set_cons_zero, List.set_cons_succ, i64_w, i32_w]
              rfl
            refine take_ (i := 5) (N := some 94) (v := ?_) (a' := ?_) #[true, true, false, true, false, true, false, false, false, false, false, false] rfl rfl (by kernel_rfl) (fun _ _ _ h => h) (Or.inl ⟨by rfl, ?_⟩) hHeld ?_ ?_
            rotate_left
            · rintro w' ⟨s0, s1⟩
              go_simp
              with_reducible rfl
            rotate_left
            · simp only [Act.put, List.setIfInBounds_toArray, List.set_cons_zero, List.set_cons_succ, i64_w, i32_w]
              rfl
            refine one_ (i := 2) (N := some 91) #[true, true, true, true, false, true, false, false, false, false, false, false] rfl rfl (by kernel_rfl) (by decide) (fun K hK => ?_)
            refine Kd.N_lit_step (Kd.slice 24 k24) W3.drew.heap.size 31 ?hg (N' := 91) ?hd (xs := ([l1, l1] : List (List S24))) (inner := [.slice A1 l1.length c1, .slice A1 l1.length c1]) (ok := fun _ => True) (okp := fun k_ => k_ < w.heap.size) ?hr ?hp (fun _ _ => trivial) trivial (Below.refl _ _) (Nat.le_refl _) (by simp) ?_
            (case hd => rfl)
            (case hg => rfl)
            (case hr => first | (go_simp; done) | (go_simp; rfl))
            (case hp => exact pair_reps (F_at F1.out HBW) HC1.out)
            intro vL2 WL2 hoL hbL _ _
            refine hK.out _ _ ⟨(blk_cell (blk_below (blk_drew Bs.out) hbL) 0).trans rfl, (blk_cell (blk_below (blk_drew Bs.out) hbL) 1).trans rfl⟩ (fun hHeld => ?_)
            clear hK K
            refine norm_ (a' := ?_) ?_ ?_
            rotate_left
            · show Act.put _ (some 91) _ = _
              simp only [Act.put, List.setIfInBounds_toArray, List.set_cons_zero, List.set_cons_succ, i64_w, i32_w]
              rfl
            refine one_ (i := 4) (N := some 93) #[true, true, true, true, true, true, false, false, false, false, false, false] rfl rfl (by kernel_rfl) (by decide) (fun K hK => ?_)
            refine Kd.N_append_rows_step (Kd.slice 24 k24) (w0 := W3.drew) W3.drew.heap.size (by rfl) (.tmp 91) (.tmp 92) 22 31 (.slice none 0 0) 24 rfl Try.underlying22 infoRow rfl (by decide) (by omega) vL2 [l1, l1] l0 A0 l0.length c0 (fun _ => True) (fun k_ => k_ < w.heap.size) rfl rfl hoL (F_at F0.out (below_step HBW hbL)) ?aK (fun _ _ => trivial) hbL hbL.size ?aL ?_
            (case aK => exact fun k_ hk => ⟨trivial, fun he => by have h1_ := Kd.N_base hoL k_ he.symm; have h2_ := HBW.size; omega⟩)
            (case aL => have := HLM.out; simp only [List.length_cons, List.length_nil]; omega)
            intro vA2 WA2 ho hbA _ _
            obtain ⟨L2, hL2⟩ : ∃ L, [l1, l1] ++ l0 = L := ⟨_, rfl⟩
            rw [hL2] at ho HH5
            obtain ⟨Aq, cq, rfl⟩ := Kd.N_slice ho
            have Hq := Aside0.mk (Kd.N_reads' ho).2.2
            have HCQ := Aside0.mk (Kd.N_reads' ho).2.1
            refine hK.out _ _ ⟨(blk_cell (blk_below (blk_drew Bs.out) hbA) 0).trans rfl, (blk_cell (blk_below (blk_drew Bs.out) hbA) 1).trans rfl⟩ (fun hHeld => ?_)
            clear hK K
            refine norm_ (a' := ?_) ?_ ?_
            rotate_left
            · show Act.put _ (some 93) _ = _
              simp only [Act.put, List.setIfInBounds_toArray, List.set_cons_zero, List.set_cons_succ, i64_w, i32_w]
              rfl
            refine one_ (i := 6) (N := some 95) #[true, true, true, true, true, true, true, false, false, false, false, false] rfl rfl (by kernel_rfl) (by decide) (fun K hK => ?_)
            refine goes_ Try.func14 (by kernel_rfl) rfl #[.slice Aq L2.length cq, .bool true, .agg #[.int .i64 x, .int .i64 y]] (by rfl) rfl rfl (by simp only [List.map_toArray, List.map_cons, List.map_nil]; rfl) ?_
            refine (wind_Inside.calls k Aq cq L2 true x y c g _ Hq.out HCQ.out HH5.out).mono ?_
            rintro e_ W91 ⟨rfl, hb91⟩
            refine ⟨_, rfl, ?_⟩
            refine hK.out _ _ ⟨(blk_cell (blk_below (blk_below (blk_drew Bs.out) hbA) hb91) 0).trans rfl, (blk_cell (blk_below (blk_below (blk_drew Bs.out) hbA) hb91) 1).trans rfl⟩ (fun hHeld => ?_)
            clear hK K
            refine norm_ (a' := ?_) ?_ ?_
            rotate_left
            · show Act.put _ (some 95) _ = _
              simp only [Act.put, List.setIfInBounds_toArray, List.set_cons_zero, List.set_cons_succ, i64_w, i32_w]
              rfl
            refine pure_ (i := 7) (N := some 88) (v := ?_) (a' := ?_) #[true, true, true, true, true, true, true, true, false, false, false, false] rfl rfl (by kernel_rfl) (fun _ _ _ h => h) (Or.inl ⟨by rfl, ?_⟩) ?_ ?_
            rotate_left
            · intro w'
              go_simp
              with_reducible rfl
            rotate_left
            · simp only [Act.put, List.setIfInBounds_toArray, List.set_cons_zero, List.set_cons_succ, i64_w, i32_w]
              rfl
            refine pure_ (i := 8) (N := some 96) (v := ?_) (a' := ?_) #[true, true, true, true, true, true, true, true, true, false, false, false] rfl rfl (by kernel_rfl) (fun _ _ _ h => h) (Or.inl ⟨by rfl, ?_⟩) ?_ ?_
            rotate_left
            · intro w'
              go_simp
              with_reducible rfl
            rotate_left
            · simp only [Act.put, List.setIfInBounds_toArray, List.set_cons_zero, List.set_cons_succ, i64_w, i32_w]
              rfl
            refine pure_ (i := 9) (N := some 97) (v := ?_) (a' := ?_) #[true, true, true, true, true, true, true, true, true, true, false, false] rfl rfl (by kernel_rfl) (fun _ _ _ h => h) (Or.inl ⟨by rfl, ?_⟩) ?_ ?_
            rotate_left
            · intro w'
              go_simp
              with_reducible rfl
            rotate_left
            · simp only [Act.put, List.setIfInBounds_toArray, List.set_cons_zero, List.set_cons_succ, i64_w, i32_w]
              rfl
            refine pure_ (i := 10) (N := some 17) (v := ?_) (a' := ?_) #[true, true, true, true, true, true, true, true, true, true, true, false] rfl rfl (by kernel_rfl) (fun _ _ _ h => h) (Or.inl ⟨by rfl, ?_⟩) ?_ ?_
            rotate_left
            · intro w'
              go_simp
              with_reducible rfl
            rotate_left
            · simp only [Act.put, List.setIfInBounds_toArray, List.set_cons_zero, List.set_cons_succ, i64_w, i32_w]
              rfl
            refine pure_ (i := 11) (N := some 18) (v := ?_) (a' := ?_) #[true, true, true, true, true, true, true, true, true, true, true, true] rfl rfl (by kernel_rfl) (fun _ _ _ h => h) (Or.inl ⟨by rfl, ?_⟩) ?_ ?_
            rotate_left
            · intro w'
              go_simp
              with_reducible rfl
            rotate_left
            · simp only [Act.put, List.setIfInBounds_toArray, List.set_cons_zero, List.set_cons_succ, i64_w, i32_w]
              rfl
            refine done_ (by kernel_rfl) ?_
            have hb := below_step (below_step (below_drew1 (Below.refl W3.heap.size W3)) hbA) hb91
            have Nl0 := Aside0.mk (Kd.C_below Hl0.out hb)
            clear Hl0
            have Hl0 := Nl0
            clear Nl0
            have Nl1 := Aside0.mk (Kd.C_below Hl1.out hb)
            clear Hl1
            have Hl1 := Nl1
            clear Nl1
            have Ns := Aside0.mk (blk_below Bs.out hb)
            clear Bs
            have Bs := Ns
            clear Ns
            have NB_ := Aside0.mk (below_step HB.out hb)
            clear HB
            have HB := NB_
            clear NB_
            clear hb hbA hbL hb91 ho hoL HBW Hq HCQ HH5
            have ps0 := (blk_cell Bs.out 0).trans rfl
            have ps1 := (blk_cell Bs.out 1).trans rfl
            go_wp2_with fail
            ((with_reducible refine (wind_Winding.calls A1 c1 l1 x y n h _ Hl1.out HC1.out H6.out).mono ?_); rintro e W5 ⟨rfl, hb⟩)
            clear ps0
            clear ps1
            have Nl0 := Aside0.mk (Kd.C_below Hl0.out hb)
            clear Hl0
            have Hl0 := Nl0
            clear Nl0
            have Nl1 := Aside0.mk (Kd.C_below Hl1.out hb)
            clear Hl1
            have Hl1 := Nl1
            clear Nl1
            have Ns := Aside0.mk (blk_below Bs.out hb)
            clear Bs
            have Bs := Ns
            clear Ns
            have NB_ := Aside0.mk (below_step HB.out hb)
            clear HB
            have HB := NB_
            clear NB_
            clear hb
            have h_ := oneP_row (W := W5) Hl1.out HC1.out 31
            try simp only [World.size_alloc] at h_
            have Hq3 := Aside0.mk h_
            clear h_
            have Nl0 := Aside0.mk (Kd.C_below Hl0.out (below_alloc (Below.refl _ _) (.cells #[.slice A1 l1.length c1] 31)))
            clear Hl0
            have Hl0 := Nl0
            clear Nl0
            have Nl1 := Aside0.mk (Kd.C_below Hl1.out (below_alloc (Below.refl _ _) (.cells #[.slice A1 l1.length c1] 31)))
            clear Hl1
            have Hl1 := Nl1
            clear Nl1
            have Ns := Aside0.mk (blk_below Bs.out (below_alloc (Below.refl _ _) (.cells #[.slice A1 l1.length c1] 31)))
            clear Bs
            have Bs := Ns
            clear Ns
            have NB_ := Aside0.mk (below_step HB.out (below_alloc (Below.refl _ _) (.cells #[.slice A1 l1.length c1] 31)))
            clear HB
            have HB := NB_
            clear NB_
            have ps0 := (blk_cell Bs.out 0).trans rfl
            have ps1 := (blk_cell Bs.out 1).trans rfl
            go_wp2_with fail
            refine (wind_Inside.calls k _ 1 [l1] false x y d h _ Hq3.out (by simp) H7.out).mono ?_
            rintro e W6 ⟨rfl, hb⟩
            clear ps0
            clear ps1
            have Nl0 := Aside0.mk (Kd.C_below Hl0.out hb)
            clear Hl0
            have Hl0 := Nl0
            clear Nl0
            have Nl1 := Aside0.mk (Kd.C_below Hl1.out hb)
            clear Hl1
            have Hl1 := Nl1
            clear Nl1
            have Nq3 := Aside0.mk (Kd.C_below Hq3.out hb)
            clear Hq3
            have Hq3 := Nq3
            clear Nq3
            have Ns := Aside0.mk (blk_below Bs.out hb)
            clear Bs
            have Bs := Ns
            clear Ns
            have NB_ := Aside0.mk (below_step HB.out hb)
            clear HB
            have HB := NB_
            clear NB_
            clear hb
            clear Hq3
            clear Bs
            have h9 : (h != 0) = true ∨ ((h != 0) = false ∧ d = (n != 0)) := by
              by_cases hz : h = 0
              · exact .inr ⟨by rw [hz]; rfl, H9.out.resolve_left (fun k => k hz)⟩
              · exact .inl (bne_iff_ne.mpr hz)
            have h8 : (f != 0) = true ∨ ((f != 0) = false ∧ ((g != 0) = true ∨ ((g != 0) = false ∧ b = c))) := by
              by_cases hz : f = 0
              · refine .inr ⟨by rw [hz]; rfl, ?_⟩
                by_cases hy : g = 0
                · exact .inr ⟨by rw [hy]; rfl, (H8.out.resolve_left (fun k => k hz)).resolve_left (fun k => k hy)⟩
                · exact .inl (bne_iff_ne.mpr hy)
              · exact .inl (bne_iff_ne.mpr hz)
            clear H3 H6 H7 H8 H9
            rcases h8 with k1 | ⟨k1, k2 | ⟨k2, rfl⟩⟩ <;> rcases h9 with k3 | ⟨k3, rfl⟩
            all_goals
              go_wp2_with fail
              refine (fleuronlaw17_awake.calls true _ rfl).mono ?_
              rintro e_ W92 ⟨rfl, hb⟩
              go_wp2
              go_ret
              exact ⟨rfl, below_step HB.out hb⟩

end Go.Proofs.Ytdhgekogaoiidaa.PT6

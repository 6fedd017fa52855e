/- What functions of the program come to, each with the proof that the machine's call does just that; written by a program of this session out of the translation. -/
import Derived.Test.YtdhgekogaoiidaaPT5x0
import Derived.Test.YtdhgekogaoiidaaPT5x2
import Derived.Test.YtdhgekogaoiidaaPT5x3
import Derived.Test.YtdhgekogaoiidaaPT5x6
namespace Go.Proofs.Ytdhgekogaoiidaa.PT5
open Go.RowKit Go.Proofs.YtdhgekogaoiidaaW.PrintWords Go.Proofs.YtdhgekogaoiidaaW.PrintLast Go.Proofs.YtdhgekogaoiidaaW.PrintMore
attribute [local go_sem] max2_int min2_int max_two min_two max_three min_three max_four min_four   -- for this text's walks alone
set_option linter.unusedVariables false
set_option linter.unusedSimpArgs false

/-! ### fleuronlaw17_WindParts: function 4 (by hand) -/
/-- A row of one row that came in. -/
theorem oneP_row {W : World} {A : Option Addr} {c : Nat} {l : List S24} (h : Kd.C k24 W A l.length l) (hc : l.length ≤ c) (e : TypeId) : Kd.C (Kd.slice 24 k24) (W.alloc (.cells #[.slice A l.length c] e)) (some ⟨W.heap.size, 0, none⟩) ([l] : List (List S24)).length [l] := by
  refine ⟨rfl, by simp, fun _ => ⟨⟨W.heap.size, 0, none⟩, rfl, fun j p hj => ?_⟩⟩
  cases j with
  | zero =>
    obtain rfl : l = p := by simpa using hj
    refine ⟨[.slice A l.length c], rfl, ⟨A, c, rfl, hc, Kd.C_alloc h _⟩, fun i u hi => ?_⟩
    cases i with
    | zero =>
      obtain rfl : Value.slice A l.length c = u := by simpa using hi

      simp [Kd.slice, Addr.add]
    | succ i => simp at hi
  | succ j => simp at hj
theorem u64_len (n : Nat) (hn : n ≤ 1000000) : IntKind.u64.wrap (n : Int) = (n : Int) := by
  simp [IntKind.wrap, IntKind.signed, IntKind.bits]
  omega
def idxN (a : Int) (n : Nat) : Nat := (IntKind.u64.wrap a).toNat % n
theorem u64_ge (a : Int) : 0 ≤ IntKind.u64.wrap a := by
  simp [IntKind.wrap, IntKind.signed, IntKind.bits]
  omega
theorem idx_is (a : Int) (n : Nat) (h0 : 0 < n) (hn : n ≤ 1000000) : wrap64 ((IntKind.u64.wrap a).tmod (n : Int)) = (idxN a n : Int) ∧ idxN a n < n := by
  have h := u64_ge a
  have hlt := Nat.mod_lt (IntKind.u64.wrap a).toNat h0
  refine ⟨?_, hlt⟩
  rw [Int.tmod_eq_emod_of_nonneg h]
  unfold idxN
  have e : (IntKind.u64.wrap a) % (n : Int) = (((IntKind.u64.wrap a).toNat % n : Nat) : Int) := by
    rw [Int.natCast_emod, Int.toNat_of_nonneg h]
  rw [e]
  unfold wrap64
  omega
theorem copied_all (l : List S24) (hl : l.length ≤ 1000000) : fleuronlaw17_copied.f l = some l := by
  unfold fleuronlaw17_copied.f
  simp only [Option.bind_some, List.length_nil, List.nil_append]
  rw [if_pos (by omega)]
def fleuronlaw17_WindParts.P (k : Nat) (l0 : List S24) (x0 y0 n0 n1 : Int) : Prop := fleuronlaw17_few.f k [l0] = some false ∨ (fleuronlaw17_few.f k [l0] = some true ∧ (fleuronref17_Valid.f k l0 = some false ∨ (fleuronref17_Valid.f k l0 = some true ∧ (fleuronref16_In.f x0 y0 = some false ∨ (fleuronref16_In.f x0 y0 = some true ∧ 0 < l0.length ∧ l0.length ≤ 1000 ∧
  ∃ a b c, wind_Winding.f l0 x0 y0 = some (a, 0) ∧ wind_Winding.f ((l0.take (max (idxN n0 l0.length) (idxN n1 l0.length) + 1)).drop (min (idxN n0 l0.length) (idxN n1 l0.length))) x0 y0 = some (b, 0) ∧ wind_Winding.f (l0.drop (max (idxN n0 l0.length) (idxN n1 l0.length)) ++ l0.take (min (idxN n0 l0.length) (idxN n1 l0.length) + 1)) x0 y0 = some (c, 0) ∧ a = wrap64 (b + c))))))
set_option maxHeartbeats 8000000 in
set_option maxRecDepth 100000 in
theorem fleuronlaw17_WindParts.calls (k : Nat) (A0 : Option Addr) (c0 : Nat) (l0 : List S24) (x0 y0 n0 n1 : Int) (w : World) (hr0 : Kd.C k24 w A0 l0.length l0) (hc0 : l0.length ≤ c0) (h : fleuronlaw17_WindParts.P k l0 x0 y0 n0 n1) :
    Calls Try.prog 4 #[.slice A0 l0.length c0, .agg #[.int .i64 x0, .int .i64 y0], .agg #[.int .i64 n0, .int .i64 n1]] w fun e w' => e = .returned (.bool true) ∧ Below w.heap.size w w' := by
  have hu := Try.underlying24
  have Hl0 := Aside0.mk hr0
  have HC0 := Aside0.mk hc0
  clear hr0 hc0
  have HB := Aside0.mk (Below.refl w.heap.size w)
  have hu32 := Try.underlying32
  have Nl0 := Aside0.mk (Kd.C_below Hl0.out (below_alloc (Below.refl _ _) (.cells #[.int .i64 x0, .int .i64 y0] 24)))
  clear Hl0
  have Hl0 := Nl0
  clear Nl0
  have NB_ := Aside0.mk (below_step HB.out (below_alloc (Below.refl _ _) (.cells #[.int .i64 x0, .int .i64 y0] 24)))
  clear HB
  have HB := NB_
  clear NB_
  have h_ := blk_new w (.cells #[.int .i64 x0, .int .i64 y0] 24)
  try simp only [World.size_alloc] at h_
  have Bs := Aside0.mk h_
  clear h_
  have Nl0 := Aside0.mk (Kd.C_below Hl0.out (below_alloc (Below.refl _ _) (.cells #[.int .i64 n0, .int .i64 n1] 32)))
  clear Hl0
  have Hl0 := Nl0
  clear Nl0
  have Ns := Aside0.mk (blk_below Bs.out (below_alloc (Below.refl _ _) (.cells #[.int .i64 n0, .int .i64 n1] 32)))
  clear Bs
  have Bs := Ns
  clear Ns
  have NB_ := Aside0.mk (below_step HB.out (below_alloc (Below.refl _ _) (.cells #[.int .i64 n0, .int .i64 n1] 32)))
  clear HB
  have HB := NB_
  clear NB_
  have h_ := blk_new (w.alloc (.cells #[.int .i64 x0, .int .i64 y0] 24)) (.cells #[.int .i64 n0, .int .i64 n1] 32)
  try simp only [World.size_alloc] at h_
  have Bn := Aside0.mk h_
  clear h_
  have h_ := oneP_row (W := ((w.alloc (.cells #[.int .i64 x0, .int .i64 y0] 24)).alloc (.cells #[.int .i64 n0, .int .i64 n1] 32))) Hl0.out HC0.out 31
  try simp only [World.size_alloc] at h_
  have Hq0 := Aside0.mk h_
  clear h_
  have Nl0 := Aside0.mk (Kd.C_below Hl0.out (below_alloc (Below.refl _ _) (.cells #[.slice A0 l0.length c0] 31)))
  clear Hl0
  have Hl0 := Nl0
  clear Nl0
  have Ns := Aside0.mk (blk_below Bs.out (below_alloc (Below.refl _ _) (.cells #[.slice A0 l0.length c0] 31)))
  clear Bs
  have Bs := Ns
  clear Ns
  have Nn := Aside0.mk (blk_below Bn.out (below_alloc (Below.refl _ _) (.cells #[.slice A0 l0.length c0] 31)))
  clear Bn
  have Bn := Nn
  clear Nn
  have NB_ := Aside0.mk (below_step HB.out (below_alloc (Below.refl _ _) (.cells #[.slice A0 l0.length c0] 31)))
  clear HB
  have HB := NB_
  clear NB_
  go_enter Try.func4, Try.ntmps4
  rcases h with h | ⟨hf, h | ⟨hv, h | ⟨hin, h⟩⟩⟩
  · have HF := Aside0.mk h
    clear h
    go_wp2_with fail
    refine (fleuronlaw17_few.calls k _ 1 [l0] false _ Hq0.out (by simp) HF.out).mono ?_
    rintro e W1 ⟨rfl, hb⟩
    replace hb := hb.below
    have Nl0 := Aside0.mk (Kd.C_below Hl0.out hb)
    clear Hl0
    have Hl0 := Nl0
    clear Nl0
    have Nq0 := Aside0.mk (Kd.C_below Hq0.out hb)
    clear Hq0
    have Hq0 := Nq0
    clear Nq0
    have Ns := Aside0.mk (blk_below Bs.out hb)
    clear Bs
    have Bs := Ns
    clear Ns
    have Nn := Aside0.mk (blk_below Bn.out hb)
    clear Bn
    have Bn := Nn
    clear Nn
    have NB_ := Aside0.mk (below_step HB.out hb)
    clear HB
    have HB := NB_
    clear NB_
    clear hb
    clear Hq0
    go_wp2_with fail
    ((with_reducible refine (fleuronlaw17_awake.calls true _ rfl).mono ?_); rintro e W2 ⟨rfl, hb⟩)
    have Nl0 := Aside0.mk (Kd.C_below Hl0.out hb)
    clear Hl0
    have Hl0 := Nl0
    clear Nl0
    have Ns := Aside0.mk (blk_below Bs.out hb)
    clear Bs
    have Bs := Ns
    clear Ns
    have Nn := Aside0.mk (blk_below Bn.out hb)
    clear Bn
    have Bn := Nn
    clear Nn
    have NB_ := Aside0.mk (below_step HB.out hb)
    clear HB
    have HB := NB_
    clear NB_
    clear hb
    go_wp2
    go_ret
    exact ⟨rfl, HB.out⟩
  · have HF := Aside0.mk hf
    have HV := Aside0.mk h
    clear hf h
    go_wp2_with fail
    refine (fleuronlaw17_few.calls k _ 1 [l0] true _ Hq0.out (by simp) HF.out).mono ?_
    rintro e W1 ⟨rfl, hb⟩
    replace hb := hb.below
    have Nl0 := Aside0.mk (Kd.C_below Hl0.out hb)
    clear Hl0
    have Hl0 := Nl0
    clear Nl0
    have Nq0 := Aside0.mk (Kd.C_below Hq0.out hb)
    clear Hq0
    have Hq0 := Nq0
    clear Nq0
    have Ns := Aside0.mk (blk_below Bs.out hb)
    clear Bs
    have Bs := Ns
    clear Ns
    have Nn := Aside0.mk (blk_below Bn.out hb)
    clear Bn
    have Bn := Nn
    clear Nn
    have NB_ := Aside0.mk (below_step HB.out hb)
    clear HB
    have HB := NB_
    clear NB_
    clear hb
    clear Hq0
    go_wp2_with fail
    ((with_reducible refine (fleuronref17_Valid.calls k A0 c0 l0 false _ Hl0.out HC0.out HV.out).mono ?_); rintro e W2 ⟨rfl, hb⟩)
    have Nl0 := Aside0.mk (Kd.C_below Hl0.out hb)
    clear Hl0
    have Hl0 := Nl0
    clear Nl0
    have Ns := Aside0.mk (blk_below Bs.out hb)
    clear Bs
    have Bs := Ns
    clear Ns
    have Nn := Aside0.mk (blk_below Bn.out hb)
    clear Bn
    have Bn := Nn
    clear Nn
    have NB_ := Aside0.mk (below_step HB.out hb)
    clear HB
    have HB := NB_
    clear NB_
    clear hb
    go_wp2_with fail
    ((with_reducible refine (fleuronlaw17_awake.calls true _ rfl).mono ?_); rintro e W3 ⟨rfl, hb⟩)
    have Nl0 := Aside0.mk (Kd.C_below Hl0.out hb)
    clear Hl0
    have Hl0 := Nl0
    clear Nl0
    have Ns := Aside0.mk (blk_below Bs.out hb)
    clear Bs
    have Bs := Ns
    clear Ns
    have Nn := Aside0.mk (blk_below Bn.out hb)
    clear Bn
    have Bn := Nn
    clear Nn
    have NB_ := Aside0.mk (below_step HB.out hb)
    clear HB
    have HB := NB_
    clear NB_
    clear hb
    go_wp2
    go_ret
    exact ⟨rfl, HB.out⟩
  · have HF := Aside0.mk hf
    have HV := Aside0.mk hv
    have HI := Aside0.mk h
    clear hf hv h
    go_wp2_with fail
    refine (fleuronlaw17_few.calls k _ 1 [l0] true _ Hq0.out (by simp) HF.out).mono ?_
    rintro e W1 ⟨rfl, hb⟩
    replace hb := hb.below
    have Nl0 := Aside0.mk (Kd.C_below Hl0.out hb)
    clear Hl0
    have Hl0 := Nl0
    clear Nl0
    have Nq0 := Aside0.mk (Kd.C_below Hq0.out hb)
    clear Hq0
    have Hq0 := Nq0
    clear Nq0
    have Ns := Aside0.mk (blk_below Bs.out hb)
    clear Bs
    have Bs := Ns
    clear Ns
    have Nn := Aside0.mk (blk_below Bn.out hb)
    clear Bn
    have Bn := Nn
    clear Nn
    have NB_ := Aside0.mk (below_step HB.out hb)
    clear HB
    have HB := NB_
    clear NB_
    clear hb
    clear Hq0
    go_wp2_with fail
    ((with_reducible refine (fleuronref17_Valid.calls k A0 c0 l0 true _ Hl0.out HC0.out HV.out).mono ?_); rintro e W2 ⟨rfl, hb⟩)
    have Nl0 := Aside0.mk (Kd.C_below Hl0.out hb)
    clear Hl0
    have Hl0 := Nl0
    clear Nl0
    have Ns := Aside0.mk (blk_below Bs.out hb)
    clear Bs
    have Bs := Ns
    clear Ns
    have Nn := Aside0.mk (blk_below Bn.out hb)
    clear Bn
    have Bn := Nn
    clear Nn
    have NB_ := Aside0.mk (below_step HB.out hb)
    clear HB
    have HB := NB_
    clear NB_
    clear hb
    have ps0 := (blk_cell Bs.out 0).trans rfl
    have ps1 := (blk_cell Bs.out 1).trans rfl
    go_wp2_with fail
    ((with_reducible refine (fleuronref16_In.calls x0 y0 false _ HI.out).mono ?_); rintro e W3 ⟨rfl, hb⟩)
    clear ps0
    clear ps1
    have Nl0 := Aside0.mk (Kd.C_below Hl0.out hb)
    clear Hl0
    have Hl0 := Nl0
    clear Nl0
    have Ns := Aside0.mk (blk_below Bs.out hb)
    clear Bs
    have Bs := Ns
    clear Ns
    have Nn := Aside0.mk (blk_below Bn.out hb)
    clear Bn
    have Bn := Nn
    clear Nn
    have NB_ := Aside0.mk (below_step HB.out hb)
    clear HB
    have HB := NB_
    clear NB_
    clear hb
    go_wp2_with fail
    ((with_reducible refine (fleuronlaw17_awake.calls true _ rfl).mono ?_); rintro e W4 ⟨rfl, hb⟩)
    have Nl0 := Aside0.mk (Kd.C_below Hl0.out hb)
    clear Hl0
    have Hl0 := Nl0
    clear Nl0
    have Ns := Aside0.mk (blk_below Bs.out hb)
    clear Bs
    have Bs := Ns
    clear Ns
    have Nn := Aside0.mk (blk_below Bn.out hb)
    clear Bn
    have Bn := Nn
    clear Nn
    have NB_ := Aside0.mk (below_step HB.out hb)
    clear HB
    have HB := NB_
    clear NB_
    clear hb
    go_wp2
    go_ret
    exact ⟨rfl, HB.out⟩
  · obtain ⟨hn0, hn1, a, b, c, h1, h2, h3, heq⟩ := h
    have HF := Aside0.mk hf
    have HV := Aside0.mk hv
    have HI := Aside0.mk hin
    have H1 := Aside0.mk h1
    have H2 := Aside0.mk h2
    have H3 := Aside0.mk h3
    have HE := Aside0.mk heq
    have HN0 := Aside0.mk hn0
    have HN1 := Aside0.mk hn1
    clear hf hv hin h1 h2 h3 heq hn0 hn1
    go_wp2_with fail
    refine (fleuronlaw17_few.calls k _ 1 [l0] true _ Hq0.out (by simp) HF.out).mono ?_
    rintro e W1 ⟨rfl, hb⟩
    replace hb := hb.below
    have Nl0 := Aside0.mk (Kd.C_below Hl0.out hb)
    clear Hl0
    have Hl0 := Nl0
    clear Nl0
    have Nq0 := Aside0.mk (Kd.C_below Hq0.out hb)
    clear Hq0
    have Hq0 := Nq0
    clear Nq0
    have Ns := Aside0.mk (blk_below Bs.out hb)
    clear Bs
    have Bs := Ns
    clear Ns
    have Nn := Aside0.mk (blk_below Bn.out hb)
    clear Bn
    have Bn := Nn
    clear Nn
    have NB_ := Aside0.mk (below_step HB.out hb)
    clear HB
    have HB := NB_
    clear NB_
    clear hb
    clear Hq0
    go_wp2_with fail
    ((with_reducible refine (fleuronref17_Valid.calls k A0 c0 l0 true _ Hl0.out HC0.out HV.out).mono ?_); rintro e W2 ⟨rfl, hb⟩)
    have Nl0 := Aside0.mk (Kd.C_below Hl0.out hb)
    clear Hl0
    have Hl0 := Nl0
    clear Nl0
    have Ns := Aside0.mk (blk_below Bs.out hb)
    clear Bs
    have Bs := Ns
    clear Ns
    have Nn := Aside0.mk (blk_below Bn.out hb)
    clear Bn
    have Bn := Nn
    clear Nn
    have NB_ := Aside0.mk (below_step HB.out hb)
    clear HB
    have HB := NB_
    clear NB_
    clear hb
    have ps0 := (blk_cell Bs.out 0).trans rfl
    have ps1 := (blk_cell Bs.out 1).trans rfl
    go_wp2_with fail
    ((with_reducible refine (fleuronref16_In.calls x0 y0 true _ HI.out).mono ?_); rintro e W3 ⟨rfl, hb⟩)
    clear ps0
    clear ps1
    have Nl0 := Aside0.mk (Kd.C_below Hl0.out hb)
    clear Hl0
    have Hl0 := Nl0
    clear Nl0
    have Ns := Aside0.mk (blk_below Bs.out hb)
    clear Bs
    have Bs := Ns
    clear Ns
    have Nn := Aside0.mk (blk_below Bn.out hb)
    clear Bn
    have Bn := Nn
    clear Nn
    have NB_ := Aside0.mk (below_step HB.out hb)
    clear HB
    have HB := NB_
    clear NB_
    clear hb
    have pn0 := (blk_cell Bn.out 0).trans rfl
    have pn1 := (blk_cell Bn.out 1).trans rfl
    go_upto_region 4 with (fail)
    go_cut [7, 8] (fun v7 v8 wc => v7 = .int .i64 (idxN n0 l0.length) ∧ v8 = .int .i64 (idxN n1 l0.length) ∧ Aside0 (Below W3.heap.size W3 wc))
    case first =>
      have hu1 : IntKind.u64.wrap (l0.length : Int) = (l0.length : Int) := u64_len _ (by have := HN1.out; omega)
      have hne : ¬ (l0 = []) := by rintro rfl; have := HN0.out; simp at this
      have e0 := (idx_is n0 l0.length HN0.out (by have := HN1.out; omega)).1
      have e1 := (idx_is n1 l0.length HN0.out (by have := HN1.out; omega)).1
      have HE0 := Aside0.mk e0
      have HE1 := Aside0.mk e1
      clear e0 e1 H1 H2 H3 HE
      go_region_held3 (fun w' => w'.cell? ⟨w.heap.size + 1, 0, none⟩ = some (.int .i64 n0) ∧ w'.cell? ⟨w.heap.size + 1, 1, none⟩ = some (.int .i64 n1)) (exact ⟨pn0, pn1⟩) (fail)
      go_wp2
      go_meet
      case rel => exact ⟨by rw [← HE0.out]; simp [i64_w, hu1], by rw [← HE1.out]; simp [i64_w, hu1], ⟨below_drew1 (Below.refl _ _)⟩⟩
    case rest =>
      obtain ⟨rfl, rfl, hb_⟩ := hcut
      have hb := hb_.out
      clear hb_
      clear pn0
      clear pn1
      have Nl0 := Aside0.mk (Kd.C_below Hl0.out hb)
      clear Hl0
      have Hl0 := Nl0
      clear Nl0
      have Ns := Aside0.mk (blk_below Bs.out hb)
      clear Bs
      have Bs := Ns
      clear Ns
      have Nn := Aside0.mk (blk_below Bn.out hb)
      clear Bn
      have Bn := Nn
      clear Nn
      have NB_ := Aside0.mk (below_step HB.out hb)
      clear HB
      have HB := NB_
      clear NB_
      clear hb
      clear Bn
      have hk0 := (idx_is n0 l0.length HN0.out (by have := HN1.out; omega)).2
      have hk1 := (idx_is n1 l0.length HN0.out (by have := HN1.out; omega)).2
      generalize idxN n0 l0.length = i0 at *
      generalize idxN n1 l0.length = i1 at *
      have HK := Aside0.mk (show min i0 i1 ≤ max i0 i1 ∧ max i0 i1 < l0.length from ⟨by omega, by omega⟩)
      clear hk0 hk1
      go_upto_if 50 with (fail)
      go_cut [7, 8] (fun v7 v8 wd => v7 = .int .i64 ((min i0 i1 : Nat) : Int) ∧ v8 = .int .i64 ((max i0 i1 : Nat) : Int) ∧ wc = wd)
      case first =>
        clear H1 H2 H3 HE
        by_cases hg : i0 > i1
        · have hgi : (i0 : Int) > (i1 : Int) := by omega
          have hgj : (i1 : Int) < (i0 : Int) := hgi
          have m0 : min i0 i1 = i1 := by omega
          have m1 : max i0 i1 = i0 := by omega
          have HM0 := Aside0.mk m0
          have HM1 := Aside0.mk m1
          clear hg m0 m1
          go_wp2
          go_meet
          case rel => exact ⟨by rw [HM0.out], by rw [HM1.out], rfl⟩
        · have hgi : ¬ (i0 : Int) > (i1 : Int) := by omega
          have hgj : ¬ (i1 : Int) < (i0 : Int) := hgi
          have m0 : min i0 i1 = i0 := by omega
          have m1 : max i0 i1 = i1 := by omega
          have HM0 := Aside0.mk m0
          have HM1 := Aside0.mk m1
          clear hg m0 m1
          go_wp2
          go_meet
          case rel => exact ⟨by rw [HM0.out], by rw [HM1.out], rfl⟩
      case rest =>
        obtain ⟨rfl, rfl, rfl⟩ := hcut
        generalize min i0 i1 = i at *
        generalize max i0 i1 = j at *
        obtain ⟨hij, hjn⟩ := HK.out
        have hn1 := HN1.out
        have hc0 := HC0.out
        obtain ⟨if0, hi0, hz0, hsz, hby⟩ := info_parts info24
        have hwi : wrap64 ((i : Int) + 1) = ((i + 1 : Nat) : Int) := by unfold wrap64; omega
        have hwj : wrap64 ((j : Int) + 1) = ((j + 1 : Nat) : Int) := by unfold wrap64; omega
        obtain ⟨L6, hL6⟩ : ∃ L, L = (l0.take (j + 1)).drop i := ⟨_, rfl⟩
        obtain ⟨L7, hL7⟩ : ∃ L, L = l0.drop j := ⟨_, rfl⟩
        obtain ⟨L8, hL8⟩ : ∃ L, L = l0.take (i + 1) := ⟨_, rfl⟩
        have n6 : j + 1 - i = L6.length := by rw [hL6, List.length_drop, List.length_take]; omega
        have n7 : l0.length - j = L7.length := by rw [hL7, List.length_drop]
        have n8 : i + 1 = L8.length := by rw [hL8, List.length_take]; omega
        obtain ⟨A6, hA6⟩ : ∃ A, Option.map (fun x => x.add (i * 2)) A0 = A := ⟨_, rfl⟩
        obtain ⟨A7, hA7⟩ : ∃ A, Option.map (fun x => x.add (j * 2)) A0 = A := ⟨_, rfl⟩
        obtain ⟨c6, hc6⟩ : ∃ c, c0 - i = c := ⟨_, rfl⟩
        obtain ⟨c7, hc7⟩ : ∃ c, c0 - j = c := ⟨_, rfl⟩
        have HL6 := Aside0.mk (show Kd.C k24 wc A6 L6.length L6 by have := Kd.C_drop (k := k24) (Kd.C_take Hl0.out (show j + 1 ≤ l0.length by omega)) (m := i) (c := c0) (by rw [List.length_take]; omega) (by rw [List.length_take]; omega); rw [if_neg (by omega)] at this; rw [← hA6, hL6]; exact this)
        have HL7 := Aside0.mk (show Kd.C k24 wc A7 L7.length L7 by have := Kd.C_drop (k := k24) Hl0.out (m := j) (c := c0) (by omega) hc0; rw [if_neg (by omega)] at this; rw [← hA7, hL7]; exact this)
        have HL8 := Aside0.mk (show Kd.C k24 wc A0 (i + 1) L8 by rw [n8, hL8]; exact Kd.C_take Hl0.out (show i + 1 ≤ l0.length by omega))
        have s6 : L6.length ≤ c6 := by omega
        have s7 : L7.length ≤ c7 := by omega
        have s8 : L8.length ≤ c0 := by omega
        have HS6 := Aside0.mk s6
        have HS7 := Aside0.mk s7
        have HS8 := Aside0.mk s8
        have HCP6 := Aside0.mk (copied_all L6 (by omega))
        have HCP7 := Aside0.mk (copied_all L7 (by omega))
        have HRM := Aside0.mk (show L7.length + (i + 1) ≤ 4000 by omega)
        rw [← hL6] at H2
        rw [← hL7, ← hL8] at H3
        have HI0 := Aside0.mk hi0
        have HN6 := Aside0.mk n6
        have HN7 := Aside0.mk n7
        have HA6 := Aside0.mk hA6
        have HA7 := Aside0.mk hA7
        have HC6_ := Aside0.mk hc6
        have HC7_ := Aside0.mk hc7
        clear hL6 hL7 hL8 n6 n7 n8 hA6 hA7 hc6 hc7 s6 s7 s8 hi0 hz0 hsz hby
        have i0_ : (0 : Int) ≤ (i : Int) := by omega
        have i1_ : (0 : Int) ≤ (j : Int) := by omega
        have i2_ : j ≤ l0.length := by omega
        have i3_ : ¬ (c0 = j) := by omega
        have i4_ : (0 : Int) ≤ (i : Int) + 1 := by omega
        have i5_ : (i : Int) + 1 ≤ (c0 : Int) := by omega
        go_wp2_with fail
        rw [HA6.out, HN6.out, HC6_.out]
        refine (fleuronlaw17_copied.calls A6 c6 L6 L6 _ HL6.out HS6.out HCP6.out).mono ?_
        rintro e W4 ⟨vone, rfl, hr, hb⟩
        have Nl0 := Aside0.mk (Kd.C_below Hl0.out hb)
        clear Hl0
        have Hl0 := Nl0
        clear Nl0
        have NL6 := Aside0.mk (Kd.C_below HL6.out hb)
        clear HL6
        have HL6 := NL6
        clear NL6
        have NL7 := Aside0.mk (Kd.C_below HL7.out hb)
        clear HL7
        have HL7 := NL7
        clear NL7
        have NL8 := Aside0.mk (Kd.C_below HL8.out hb)
        clear HL8
        have HL8 := NL8
        clear NL8
        have Ns := Aside0.mk (blk_below Bs.out hb)
        clear Bs
        have Bs := Ns
        clear Ns
        have NB_ := Aside0.mk (below_step HB.out hb)
        clear HB
        have HB := NB_
        clear NB_
        obtain ⟨Aone, cone, rfl, hcone, hC⟩ := Kd.R_reads hr
        have Hone := Aside0.mk hC
        clear hC hr hb
        clear HL6
        go_wp2
        refine start_ (n := 10) (S := fun w' => True) (ds := []) #[false, false, false, false, false, false, false, false, false, false] (by kernel_rfl) rfl rfl trivial (fun hHeld => ?_)
        refine pure_ (i := 0) (N := some 59) (v := ?_) (a' := ?_) #[true, false, false, false, false, false, false, false, false, false] rfl rfl (by kernel_rfl) (fun _ _ _ h => h) (Or.inl ⟨by rfl, ?_⟩) ?_ ?_
        rotate_left
        · intro w'
          go_simp
          with_reducible rfl
        rotate_left
        · simp only [Act.put, List.setIfInBounds_toArray, List.set_cons_zero, List.set_cons_succ, i64_w, i32_w]
          rfl
        refine pure_ (i := 1) (N := some 60) (v := ?_) (a' := ?_) #[true, true, false, false, false, false, false, false, false, false] rfl rfl (by kernel_rfl) (fun _ _ _ h => h) (Or.inl ⟨by rfl, ?_⟩) ?_ ?_
        rotate_left
        · intro w'
          go_simp
          with_reducible rfl
        rotate_left
        · simp only [Act.put, List.setIfInBounds_toArray, List.set_cons_zero, List.set_cons_succ, i64_w, i32_w]
          rfl
        refine pure_ (i := 2) (N := some 61) (v := ?_) (a' := ?_) #[true, true, true, false, false, false, false, false, false, false] rfl rfl (by kernel_rfl) (fun _ _ _ h => h) (Or.inl ⟨by rfl, ?_⟩) ?_ ?_
        rotate_left
        · intro w'
          go_simp
          with_reducible rfl
        rotate_left
        · simp only [Act.put, List.setIfInBounds_toArray, List.set_cons_zero, List.set_cons_succ, i64_w, i32_w]
          rfl
        refine pure_ (i := 4) (N := some 63) (v := ?_) (a' := ?_) #[true, true, true, false, true, false, false, false, false, false] rfl rfl (by kernel_rfl) (fun _ _ _ h => h) (Or.inl ⟨by rfl, ?_⟩) ?_ ?_
        rotate_left
        · intro w'
          go_simp
          with_reducible rfl
        rotate_left
        · simp only [Act.put, List.setIfInBounds_toArray, List.set_cons_zero, List.set_cons_succ, i64_w, i32_w]
          rfl
        refine pure_ (i := 5) (N := some 64) (v := ?_) (a' := ?_) #[true, true, true, false, true, true, false, false, false, false] rfl rfl (by kernel_rfl) (fun _ _ _ h => h) (Or.inl ⟨by rfl, ?_⟩) ?_ ?_
        rotate_left
        · intro w'
          go_simp
          with_reducible rfl
        rotate_left
        · simp only [Act.put, List.setIfInBounds_toArray, List.set_cons_zero, List.set_cons_succ, i64_w, i32_w]
          rfl
        refine pure_ (i := 6) (N := some 65) (v := ?_) (a' := ?_) #[true, true, true, false, true, true, true, false, false, false] rfl rfl (by kernel_rfl) (fun _ _ _ h => h) (Or.inl ⟨by rfl, ?_⟩) ?_ ?_
        rotate_left
        · intro w'
          go_simp
          with_reducible rfl
        rotate_left
        · simp only [Act.put, List.setIfInBounds_toArray, List.set_cons_zero, List.set_cons_succ, i64_w, i32_w]
          rfl
        refine pure_ (i := 7) (N := some 66) (v := ?_) (a' := ?_) #[true, true, true, false, true, true, true, true, false, false] rfl rfl (by kernel_rfl) (fun _ _ _ h => h) (Or.inl ⟨by rfl, ?_⟩) ?_ ?_
        rotate_left
        · intro w'
          go_simp
          with_reducible rfl
        rotate_left
        · simp only [Act.put, List.setIfInBounds_toArray, List.set_cons_zero, List.set_cons_succ, i64_w, i32_w]
          rfl
        refine one_ (i := 3) (N := some 62) #[true, true, true, true, true, true, true, true, false, false] rfl rfl (by kernel_rfl) (by decide) (fun K hK => ?_)
        refine goes_ Try.func18 (by kernel_rfl) rfl #[.slice (Option.map (fun x => x.add (j * 2)) A0) (l0.length - j) (c0 - j)] (by rfl) rfl rfl (by simp only [List.map_toArray, List.map_cons, List.map_nil]; rfl) ?_
        rw [HA7.out, HN7.out, HC7_.out]
        refine (fleuronlaw17_copied.calls A7 c7 L7 L7 _ (Kd.C_drew HL7.out) HS7.out HCP7.out).mono ?_
        rintro e W90 ⟨v7_, rfl, hr7, hb7⟩
        have HR7 := Aside0.mk hr7
        have HB7 := Aside0.mk hb7
        clear hr7 hb7
        refine ⟨_, rfl, ?_⟩
        refine hK.out _ _ trivial (fun hHeld => ?_)
        clear hK K
        refine norm_ (a' := ?_) ?_ ?_
        rotate_left
        · show Act.put _ (some 62) _ = _
          simp only [Act.put, List.setIfInBounds_toArray, List.set_cons_zero, List.set_cons_succ, i64_w, i32_w]
          rfl
        refine one_ (i := 8) (N := some 67) #[true, true, true, true, true, true, true, true, true, false] rfl rfl (by kernel_rfl) (by decide) (fun K hK => ?_)
        refine Kd.R_append_rows_step k24 (w0 := W4.drew) W4.drew.heap.size (by rfl) (.tmp 62) (.tmp 66) 31 24 (.agg #[(.int .i64 0), (.int .i64 0)]) 16 rfl Try.underlying31 info24 rfl (by decide) (by omega) v7_ L7 L8 A0 (i + 1) c0 (fun _ => True) (fun _ => False) rfl rfl HR7.out (Kd.C_below (Kd.C_drew HL8.out) HB7.out) (fun _ _ h => h) (fun _ h => h.elim) (fun _ _ => trivial) HB7.out HB7.out.size ?aL ?_
        case aL => have := HRM.out; omega
        intro v67 w67 ho67 hb67 _ _
        have HO67 := Aside0.mk ho67
        have HB67 := Aside0.mk hb67
        clear ho67 hb67
        refine hK.out _ _ trivial (fun hHeld => ?_)
        clear hK K
        refine norm_ (a' := ?_) ?_ ?_
        rotate_left
        · show Act.put _ (some 67) _ = _
          simp only [Act.put, List.setIfInBounds_toArray, List.set_cons_zero, List.set_cons_succ, i64_w, i32_w]
          rfl
        refine pure_ (i := 9) (N := some 10) (v := ?_) (a' := ?_) #[true, true, true, true, true, true, true, true, true, true] rfl rfl (by kernel_rfl) (fun _ _ _ h => h) (Or.inl ⟨by rfl, ?_⟩) ?_ ?_
        rotate_left
        · intro w'
          go_simp
          with_reducible rfl
        rotate_left
        · simp only [Act.put, List.setIfInBounds_toArray, List.set_cons_zero, List.set_cons_succ, i64_w, i32_w]
          rfl
        refine done_ (by kernel_rfl) ?_
        have Nl0 := Aside0.mk (Kd.C_below Hl0.out (below_step (below_drew1 (Below.refl W4.heap.size W4)) HB67.out))
        clear Hl0
        have Hl0 := Nl0
        clear Nl0
        have NL7 := Aside0.mk (Kd.C_below HL7.out (below_step (below_drew1 (Below.refl W4.heap.size W4)) HB67.out))
        clear HL7
        have HL7 := NL7
        clear NL7
        have NL8 := Aside0.mk (Kd.C_below HL8.out (below_step (below_drew1 (Below.refl W4.heap.size W4)) HB67.out))
        clear HL8
        have HL8 := NL8
        clear NL8
        have None := Aside0.mk (Kd.C_below Hone.out (below_step (below_drew1 (Below.refl W4.heap.size W4)) HB67.out))
        clear Hone
        have Hone := None
        clear None
        have Ns := Aside0.mk (blk_below Bs.out (below_step (below_drew1 (Below.refl W4.heap.size W4)) HB67.out))
        clear Bs
        have Bs := Ns
        clear Ns
        have NB_ := Aside0.mk (below_step HB.out (below_step (below_drew1 (Below.refl W4.heap.size W4)) HB67.out))
        clear HB
        have HB := NB_
        clear NB_
        obtain ⟨L9, hL9⟩ : ∃ L, L7 ++ L8 = L := ⟨_, rfl⟩
        rw [hL9] at HO67 H3
        clear hL9
        obtain ⟨Atwo, ctwo, rfl, hctwo, hC⟩ := Kd.R_reads HO67.out
        have Htwo := Aside0.mk hC
        clear hC HO67 HB67
        clear HL7
        clear HL8
        have ps0 := (blk_cell Bs.out 0).trans rfl
        have ps1 := (blk_cell Bs.out 1).trans rfl
        go_wp2_with fail
        ((with_reducible refine (wind_Winding.calls A0 c0 l0 x0 y0 a 0 _ Hl0.out HC0.out H1.out).mono ?_); rintro e W6 ⟨rfl, hb⟩)
        clear ps0
        clear ps1
        have Nl0 := Aside0.mk (Kd.C_below Hl0.out hb)
        clear Hl0
        have Hl0 := Nl0
        clear Nl0
        have None := Aside0.mk (Kd.C_below Hone.out hb)
        clear Hone
        have Hone := None
        clear None
        have Ntwo := Aside0.mk (Kd.C_below Htwo.out hb)
        clear Htwo
        have Htwo := Ntwo
        clear Ntwo
        have Ns := Aside0.mk (blk_below Bs.out hb)
        clear Bs
        have Bs := Ns
        clear Ns
        have NB_ := Aside0.mk (below_step HB.out hb)
        clear HB
        have HB := NB_
        clear NB_
        clear hb
        have ps0 := (blk_cell Bs.out 0).trans rfl
        have ps1 := (blk_cell Bs.out 1).trans rfl
        go_wp2_with fail
        ((with_reducible refine (wind_Winding.calls _ _ L6 x0 y0 b 0 _ Hone.out hcone H2.out).mono ?_); rintro e W7 ⟨rfl, hb⟩)
        clear ps0
        clear ps1
        have Nl0 := Aside0.mk (Kd.C_below Hl0.out hb)
        clear Hl0
        have Hl0 := Nl0
        clear Nl0
        have None := Aside0.mk (Kd.C_below Hone.out hb)
        clear Hone
        have Hone := None
        clear None
        have Ntwo := Aside0.mk (Kd.C_below Htwo.out hb)
        clear Htwo
        have Htwo := Ntwo
        clear Ntwo
        have Ns := Aside0.mk (blk_below Bs.out hb)
        clear Bs
        have Bs := Ns
        clear Ns
        have NB_ := Aside0.mk (below_step HB.out hb)
        clear HB
        have HB := NB_
        clear NB_
        clear hb
        have ps0 := (blk_cell Bs.out 0).trans rfl
        have ps1 := (blk_cell Bs.out 1).trans rfl
        go_wp2_with fail
        ((with_reducible refine (wind_Winding.calls _ _ L9 x0 y0 c 0 _ Htwo.out hctwo H3.out).mono ?_); rintro e W8 ⟨rfl, hb⟩)
        clear ps0
        clear ps1
        have Nl0 := Aside0.mk (Kd.C_below Hl0.out hb)
        clear Hl0
        have Hl0 := Nl0
        clear Nl0
        have None := Aside0.mk (Kd.C_below Hone.out hb)
        clear Hone
        have Hone := None
        clear None
        have Ntwo := Aside0.mk (Kd.C_below Htwo.out hb)
        clear Htwo
        have Htwo := Ntwo
        clear Ntwo
        have Ns := Aside0.mk (blk_below Bs.out hb)
        clear Bs
        have Bs := Ns
        clear Ns
        have NB_ := Aside0.mk (below_step HB.out hb)
        clear HB
        have HB := NB_
        clear NB_
        clear hb
        have heqb : (a == wrap64 (b + c)) = true := beq_iff_eq.mpr HE.out
        go_wp2_with fail
        ((with_reducible refine (fleuronlaw17_awake.calls true _ rfl).mono ?_); rintro e W9 ⟨rfl, hb⟩)
        have Nl0 := Aside0.mk (Kd.C_below Hl0.out hb)
        clear Hl0
        have Hl0 := Nl0
        clear Nl0
        have None := Aside0.mk (Kd.C_below Hone.out hb)
        clear Hone
        have Hone := None
        clear None
        have Ntwo := Aside0.mk (Kd.C_below Htwo.out hb)
        clear Htwo
        have Htwo := Ntwo
        clear Ntwo
        have Ns := Aside0.mk (blk_below Bs.out hb)
        clear Bs
        have Bs := Ns
        clear Ns
        have NB_ := Aside0.mk (below_step HB.out hb)
        clear HB
        have HB := NB_
        clear NB_
        clear hb
        go_wp2
        go_ret
        exact ⟨rfl, HB.out⟩

end Go.Proofs.Ytdhgekogaoiidaa.PT5

/- What functions of the program come to, each with the proof that the machine's call does just that; written by a program of this session out of the translation. -/
import Derived.Test.YtdhgekogaoiidaaPT2x0
import Derived.Test.YtdhgekogaoiidaaPT2x1
import Derived.Test.YtdhgekogaoiidaaPT2x3
import Derived.Test.YtdhgekogaoiidaaPT2x4
import Derived.Test.YtdhgekogaoiidaaPT2x7
import Derived.Test.YtdhgekogaoiidaaPT2x9
namespace Go.Proofs.Ytdhgekogaoiidaa.PT2
open Go.RowKit Go.Proofs.YtdhgekogaoiidaaW.PrintWords Go.Proofs.YtdhgekogaoiidaaW.PrintLast Go.Proofs.YtdhgekogaoiidaaW.PrintMore
attribute [local go_sem] max2_int min2_int max_two min_two max_three min_three max_four min_four   -- for this text's walks alone
set_option linter.unusedVariables false
set_option linter.unusedSimpArgs false

attribute [local go_sem high] eqA24
/-! ### fleuronref17_Heights: function 28 (by hand) -/
/-- The place of a number in a row that grows: behind the last one that is not above it. -/
def posZ (out : List Int) (n : Int) : Nat → Nat
  | 0 => 0
  | i + 1 => if n < out.getD i 0 then posZ out n i else i + 1
theorem posZ_le (out : List Int) (n : Int) : ∀ i, posZ out n i ≤ i
  | 0 => Nat.le_refl _
  | i + 1 => by
    unfold posZ
    split
    · exact Nat.le_succ_of_le (posZ_le out n i)
    · exact Nat.le_refl _
def insZ (out : List Int) (n : Int) : List Int := out.take (posZ out n out.length) ++ n :: out.drop (posZ out n out.length)
theorem insZ_len (out : List Int) (n : Int) : (insZ out n).length = out.length + 1 := by
  unfold insZ
  have := posZ_le out n out.length
  rw [List.length_append, List.length_take, List.length_cons, List.length_drop]
  omega
def hgtTo (k : Nat) (l : List S24) (p0 p1 : Int) : Nat → Option (List Int)
  | 0 => some []
  | i + 1 => (hgtTo k l p0 p1 i).bind fun out => (fleuronref17_crossing.f k (rd_T24 l (i : Int)).f0 (rd_T24 l (i : Int)).f1 (nxt l i).f0 (nxt l i).f1 p0 p1).bind fun c => if c.1 = 0 then some out else (fleuronref16_Floor.f c.2.1 c.2.2).bind fun n => some (insZ out n)
theorem hgtTo_prev {k : Nat} {l : List S24} {p0 p1 : Int} {i : Nat} {o : List Int} (h : hgtTo k l p0 p1 (i + 1) = some o) : ∃ o', hgtTo k l p0 p1 i = some o' := by
  unfold hgtTo at h
  obtain ⟨o', h1, _⟩ := Option.bind_eq_some_iff.mp h
  exact ⟨o', h1⟩
theorem hgtTo_all {k : Nat} {l : List S24} {p0 p1 : Int} : ∀ (n : Nat) {o : List Int}, hgtTo k l p0 p1 n = some o → ∀ i, i ≤ n → ∃ o', hgtTo k l p0 p1 i = some o'
  | 0, o, h, i, hi => ⟨o, by rw [Nat.le_zero.mp hi]; exact h⟩
  | n + 1, o, h, i, hi => by
    rcases Nat.lt_or_ge i (n + 1) with h1 | h1
    · obtain ⟨o', ho⟩ := hgtTo_prev h
      exact hgtTo_all n ho i (by omega)
    · rw [show i = n + 1 by omega]; exact ⟨o, h⟩
theorem hgtTo_len {k : Nat} {l : List S24} {p0 p1 : Int} : ∀ (n : Nat) {o : List Int}, hgtTo k l p0 p1 n = some o → o.length ≤ n
  | 0, o, h => by injection h with h; subst h; simp
  | n + 1, o, h => by
    unfold hgtTo at h
    obtain ⟨o', h1, h⟩ := Option.bind_eq_some_iff.mp h
    obtain ⟨c, _, h⟩ := Option.bind_eq_some_iff.mp h
    have hl := hgtTo_len n h1
    by_cases h2 : c.1 = 0
    · rw [if_pos h2] at h
      injection h with h
      subst h
      omega
    · rw [if_neg h2] at h
      obtain ⟨m, _, h⟩ := Option.bind_eq_some_iff.mp h
      injection h with h
      subst h
      rw [insZ_len]
      omega
theorem hgtTo_mono (l : List S24) (p0 p1 : Int) (k : Nat) : ∀ i, LeO (hgtTo k l p0 p1 i) (hgtTo (k + 1) l p0 p1 i)
  | 0 => LeO.refl _
  | i + 1 => by
    unfold hgtTo
    exact LeO.bind (hgtTo_mono l p0 p1 k i) (fun _ => LeO.bind (fleuronref17_crossing.mono _ _ _ _ _ _ _) (fun _ => LeO.refl _))
def fleuronref17_Heights.f (k : Nat) (l0 : List S24) (a1_0 a1_1 : Int) : Option (List Int × Int) := (fleuronref17_right.f k l0 a1_0 a1_1).bind fun b => if b = true then (if l0.length ≤ 60000 then (hgtTo k l0 a1_0 a1_1 l0.length).bind fun o => some (o, 0) else none) else some ([], 2)
theorem fleuronref17_Heights.mono : ∀ a0 a1 a2 k, LeO (fleuronref17_Heights.f k a0 a1 a2) (fleuronref17_Heights.f (k + 1) a0 a1 a2) := by
  intro a0 a1 a2 k
  unfold fleuronref17_Heights.f
  refine LeO.bind (fleuronref17_right.mono _ _ _ _) (fun b => ?_)
  refine LeO.ite ?_ (LeO.refl _)
  refine LeO.ite ?_ (LeO.none _)
  exact LeO.bind (hgtTo_mono _ _ _ _ _) (fun _ => LeO.refl _)
theorem nextP_is (l : List S24) (i : Nat) (hi : i < l.length) (hl : l.length ≤ 60000) : fleuronref17_next.f l (i : Int) = some ((nxt l i).f0, (nxt l i).f1) := by
  have hm := Nat.mod_lt (i + 1) (show 0 < l.length by omega)
  have ht : Int.tmod (wrap64 ((i : Int) + 1)) (l.length : Int) = (((i + 1) % l.length : Nat) : Int) := by
    rw [show wrap64 ((i : Int) + 1) = ((i + 1 : Nat) : Int) by unfold wrap64; omega, Int.tmod_eq_emod_of_nonneg (by omega)]
    omega
  unfold fleuronref17_next.f
  rw [if_neg (by omega), ht, if_pos (by omega), if_pos (by omega)]
  rfl
theorem int_at {w : World} {A : Option Addr} {n : Nat} {xs : List Int} (h : Kd.C (Kd.int .i64) w A n xs) (i : Int) (h0 : 0 ≤ i) (h1 : i < n) : ∃ ad, A = some ad ∧ w.cell? (ad.add i.toNat) = some (.int .i64 (xs.getD i.toNat 0)) := by
  obtain ⟨ad, c, e, _, hK, hc0⟩ := Kd.C_get h 0 i h0 h1
  have hK' : c = [.int .i64 (xs.getD i.toNat 0)] := hK
  subst hK'
  refine ⟨ad, e, ?_⟩
  have := hc0 0 _ rfl
  have e1 : (Kd.int .i64).sz = 1 := rfl
  rw [e1, Nat.mul_one, Nat.add_zero] at this
  exact this
theorem ints_cells {w : World} {A : Option Addr} {n : Nat} {xs : List Int} (h : Kd.C (Kd.int .i64) w A n xs) (ad : Addr) (e : A = some ad) (j : Nat) (u : Value) (hj : (xs.map (Value.int .i64))[j]? = some u) : w.cell? (ad.add j) = some u := by
  have hl : j < xs.length := by
    rcases Nat.lt_or_ge j xs.length with h1 | h1
    · exact h1
    · rw [List.getElem?_eq_none (by simpa using h1)] at hj
      cases hj
  obtain ⟨ad', e', h1⟩ := int_at h (j : Int) (by omega) (by have := h.1; omega)
  rw [e] at e'
  injection e' with e'
  subst e'
  rw [List.getElem?_map, List.getElem?_eq_getElem hl] at hj
  injection hj with hj
  subst hj
  simpa [hl] using h1
theorem take_some {xs : List Int} {j i : Nat} {u : Value} (h : ((xs.take j).map (Value.int .i64))[i]? = some u) : (xs.map (Value.int .i64))[i]? = some u := by
  rw [List.map_take, List.getElem?_take] at h
  split at h
  · exact h
  · cases h
theorem ints_one {xs : List Int} {u : Value} (h : u ∈ xs.map (Value.int .i64)) : u.oneCell' = true := by
  obtain ⟨x, _, rfl⟩ := List.mem_map.mp h
  rfl
theorem none_zero {w : World} {A : Option Addr} {xs : List Int} {j : Nat} (h : Kd.C (Kd.int .i64) w A xs.length xs) (hj : j ≤ xs.length) (e : A = none) : j = 0 ∧ j = 0 := by
  rcases Nat.eq_zero_or_pos xs.length with h0 | h0
  · omega
  · obtain ⟨ad, e', _⟩ := h.2.2 h0
    rw [e] at e'
    cases e'
theorem R_of_ints {w : World} {base b n e : Nat} {ok : Nat → Prop} {v : Value} {xs : List Int} (h : w.ownsRow b e 1 v n (xs.map (Value.int .i64))) (hn : n = xs.length) (hb : base ≤ b) (hok : ∀ k, b ≤ k → ok k) : Kd.R (Kd.int .i64) e w base ok v xs := by
  subst hn
  exact ⟨fun k hk => hok k (own_base h k hk), xs.map (Value.int .i64), own_weaken h hb, reps_of_nums xs⟩
theorem cut_same {P : Program} (t e : TypeId) (kh km : IntKind) {i : TypeInfo} (ht : P.underlying t = some (.slice e)) (hi : P.info? e = some i) (A : Option Addr) (n c : Nat) (j : Int) (h0 : 0 ≤ j) (hm : j ≤ n) (hc : n ≤ c) :
    ∀ W : World, (Instr.slice t (.slice A n c) none (some (.int kh j)) (some (.int km j))).run P W = .ok (.slice A j.toNat j.toNat) W := by
  intro W
  have hel : P.elem t = e := by simp [Program.elem, ht]
  have hu : P.underlying t = some (.slice (P.elem t)) := by rw [hel]; exact ht
  have ha : (A.map fun x => x.add 0) = A := by cases A <;> simp [Addr.add]
  rw [run_slice_hm W t A n c hu kh km j j h0 (by omega) (by omega), hel]
  simp [sizeOf, typeInfo, hi, sliced, Result.andThen, ha]
set_option maxHeartbeats 4000000 in
set_option maxRecDepth 100000 in
theorem fleuronref17_Heights.calls (k : Nat) (A0 : Option Addr) (c0 : Nat) (l0 : List S24) (a1_0 a1_1 : Int) (r1 : List Int) (r2 : Int) (w : World) (hr0 : Kd.C k24 w A0 l0.length l0) (hc0 : l0.length ≤ c0) (h : fleuronref17_Heights.f k l0 a1_0 a1_1 = some (r1, r2)) :
    Calls Try.prog 28 #[.slice A0 l0.length c0, .agg #[.int .i64 a1_0, .int .i64 a1_1]] w fun e w' => ∃ v0_ : Value, e = .returned (.tuple #[v0_, .int .i64 r2]) ∧ Kd.R (Kd.int .i64) 3 w' w.heap.size (fun _ => True) v0_ r1 ∧ Below w.heap.size w w' := by
  unfold fleuronref17_Heights.f at h
  obtain ⟨b, hright, h⟩ := Option.bind_eq_some_iff.mp h
  have hu := Try.underlying24
  have HV := Aside0.mk (fun V (hr : Kd.C k24 V A0 l0.length l0) => fleuronref17_right.calls k A0 c0 l0 a1_0 a1_1 b V hr hc0 hright)
  have HR := Aside0.mk hr0
  have HC := Aside0.mk hc0
  have Q1 := Aside0.mk (blk_new w (.cells #[.int .i64 a1_0, .int .i64 a1_1] 24))
  have HB := Aside0.mk (below_alloc (Below.refl w.heap.size w) (.cells #[.int .i64 a1_0, .int .i64 a1_1] 24))
  have HX := Aside0.mk h
  have q0 := blk_cell Q1.out 0
  have q1 := blk_cell Q1.out 1
  simp at q0 q1
  clear hr0 h hright hc0
  go_enter Try.func28, Try.ntmps28
  go_wp2_with fail
  refine (HV.out _ (Kd.C_below HR.out HB.out)).mono ?_
  rintro e W4 ⟨rfl, hb4⟩
  have P1 := Aside0.mk (blk_below Q1.out hb4)
  have HB4 := Aside0.mk (below_step HB.out hb4)
  clear hb4 Q1 HB HV q0 q1
  cases b with
  | false =>
    obtain ⟨rfl, rfl⟩ : [] = r1 ∧ 2 = r2 := by have := HX.out; simpa using this
    clear HX
    go_wp2
    go_ret2
    exact ⟨_, rfl, Kd.R_nil _ _ _ _ _, HB4.out⟩
  | true =>
    have hX := HX.out
    rw [if_pos rfl] at hX
    by_cases hl : l0.length ≤ 60000
    · rw [if_pos hl] at hX
      obtain ⟨out, hgo, hX⟩ := Option.bind_eq_some_iff.mp hX
      obtain ⟨rfl, rfl⟩ : out = r1 ∧ 0 = r2 := by simpa using hX
      have HGO := Aside0.mk hgo
      have HL := Aside0.mk hl
      have HALL := Aside0.mk (fun i hi => hgtTo_all l0.length hgo i hi)
      clear HX hX hgo hl
      go_wp2
      go_loopg [6, 7, 8, 9, 10, 11, 12, 13, 20] l0.length (fun gg s6 s7 s8 s9 s10 s11 s12 s13 s20 wr => ∃ (kk : Nat) (xs : List Int), kk ≤ l0.length ∧ l0.length - kk ≤ gg ∧ s20 = .int .i64 kk ∧ Aside0 (hgtTo k l0 a1_0 a1_1 kk = some xs) ∧ Aside0 (Below w.heap.size w wr) ∧ Aside0 (wr.heap[w.heap.size]? = some (.cells #[.int .i64 a1_0, .int .i64 a1_1] 24 (0, 0))) ∧ Aside0 (Kd.R (Kd.int .i64) 3 wr w.heap.size (fun k => k ≠ w.heap.size) s6 xs))
      case atStart => exact ⟨0, [], Nat.zero_le _, by omega, rfl, ⟨rfl⟩, ⟨by first | exact HB4.out | exact below_drew1 HB4.out⟩, ⟨by first | exact P1.out | exact blk_drew P1.out⟩, ⟨Kd.R_nil _ _ _ _ _⟩⟩
      case round =>
        obtain ⟨kk, xs, hkk, hg, rfl, HXS, HB, BP, HO⟩ := hrel
        clear P1 HB4
        by_cases hlt : kk < l0.length
        · have hlti : (kk : Int) < (l0.length : Int) := by omega
          obtain ⟨ad, rfl, hx0, hx1⟩ := at_T24 HR.out (kk : Int) (by omega) hlti
          replace hx0 := (HB.out.cell (World.block_lt_of_cell? w _ hx0)).trans hx0
          replace hx1 := (HB.out.cell (World.block_lt_of_cell? w _ hx1)).trans hx1
          simp only [Int.toNat_natCast] at hx0 hx1
          have hnext := fun V (hr : Kd.C k24 V (some ad) l0.length l0) => fleuronref17_next.calls (some ad) c0 l0 (kk : Int) _ _ V hr HC.out (nextP_is l0 kk hlt HL.out)
          obtain ⟨xs', hxs'⟩ := HALL.out (kk + 1) (by omega)
          have hstep := hxs'
          unfold hgtTo at hstep
          rw [HXS.out, Option.bind_some] at hstep
          obtain ⟨⟨c1, c2, c3⟩, hcr, hstep⟩ := Option.bind_eq_some_iff.mp hstep
          have hcross := fun V => fleuronref17_crossing.calls k _ _ _ _ _ _ c1 c2 c3 V hcr
          have HKS := Aside0.mk (show wrap64 ((kk : Int) + 1) = ((kk + 1 : Nat) : Int) by have := HL.out; unfold wrap64; omega)
          have hlen := hgtTo_len kk HXS.out
          have HLEN := Aside0.mk (show xs.length ≤ 60000 by have := HL.out; omega)
          have HXS' := Aside0.mk hxs'
          have HNX := Aside0.mk hnext
          have HCR := Aside0.mk hcross
          have HST := Aside0.mk hstep
          clear hxs' hnext hcr hcross hstep hlen HXS
          generalize rd_T24 l0 (kk : Int) = x at *
          generalize nxt l0 kk = y at *
          go_wp2
          have HBr := Aside0.mk (below_drew1 (below_alloc HB.out (.cells #[.int .i64 x.f0, .int .i64 x.f1] 24)))
          have BPr := Aside0.mk (blk_drew (blk_alloc BP.out (.cells #[.int .i64 x.f0, .int .i64 x.f1] 24)))
          have HOr := Aside0.mk (Kd.R_drew (Kd.R_alloc HO.out (.cells #[.int .i64 x.f0, .int .i64 x.f1] 24)))
          have p1 : (wr.alloc (.cells #[.int .i64 x.f0, .int .i64 x.f1] 24)).drew.cell? ⟨wr.heap.size, 0, none⟩ = some (.int .i64 x.f0) := by go_simp
          have p2 : (wr.alloc (.cells #[.int .i64 x.f0, .int .i64 x.f1] 24)).drew.cell? ⟨wr.heap.size, 1, none⟩ = some (.int .i64 x.f1) := by go_simp
          have p3 := blk_cell BPr.out 0
          have p4 := blk_cell BPr.out 1
          simp at p3 p4
          clear HB BP HO hx0 hx1
          refine start_ (n := 13) (S := fun w' => w'.cell? ⟨wr.heap.size, 0, none⟩ = some (.int .i64 x.f0) ∧ w'.cell? ⟨wr.heap.size, 1, none⟩ = some (.int .i64 x.f1) ∧ w'.cell? ⟨w.heap.size, 0, none⟩ = some (.int .i64 a1_0) ∧ w'.cell? ⟨w.heap.size, 1, none⟩ = some (.int .i64 a1_1)) (ds := [5]) #[false, false, false, false, false, false, false, false, false, false, false, false, false] (by kernel_rfl) rfl rfl ⟨p1, p2, p3, p4⟩ (fun hHeld => ?_)
          refine pure_ (i := 1) (N := some 27) (v := ?_) (a' := ?_) #[false, true, false, false, false, false, false, false, false, false, false, false, false] rfl rfl (by kernel_rfl) (fun _ _ _ h => h) (Or.inl ⟨by rfl, ?_⟩) ?_ ?_
          rotate_left
          · intro w'
            go_simp
            with_reducible rfl
          rotate_left
          · simp only [Act.put, List.setIfInBounds_toArray, List.set_cons_zero, List.set_cons_succ, i64_w, i32_w]
            rfl
          refine pure_ (i := 2) (N := some 28) (v := ?_) (a' := ?_) #[false, true, true, false, false, false, false, false, false, false, false, false, false] rfl rfl (by kernel_rfl) (fun _ _ _ h => h) (Or.inl ⟨by rfl, ?_⟩) ?_ ?_
          rotate_left
          · intro w'
            go_simp
            with_reducible rfl
          rotate_left
          · simp only [Act.put, List.setIfInBounds_toArray, List.set_cons_zero, List.set_cons_succ, i64_w, i32_w]
            rfl
          refine take_ (i := 0) (N := some 26) (v := ?_) (a' := ?_) #[true, true, true, false, false, false, false, false, false, false, false, false, false] rfl rfl (by kernel_rfl) (fun _ _ _ h => h) (Or.inl ⟨by rfl, ?_⟩) hHeld ?_ ?_
          rotate_left
          · rintro w' ⟨s0, s1, s2, s3⟩
            go_simp
            with_reducible rfl
          rotate_left
          · simp only [Act.put, List.setIfInBounds_toArray, List.set_cons_zero, List.set_cons_succ, i64_w, i32_w]
            rfl
          refine take_ (i := 4) (N := some 30) (v := ?_) (a' := ?_) #[true, true, true, false, true, false, false, false, false, false, false, false, false] rfl rfl (by kernel_rfl) (fun _ _ _ h => h) (Or.inl ⟨by rfl, ?_⟩) hHeld ?_ ?_
          rotate_left
          · rintro w' ⟨s0, s1, s2, s3⟩
            go_simp
            with_reducible rfl
          rotate_left
          · simp only [Act.put, List.setIfInBounds_toArray, List.set_cons_zero, List.set_cons_succ, i64_w, i32_w]
            rfl
          refine one_ (i := 3) (N := some 29) #[true, true, true, true, true, false, false, false, false, false, false, false, false] rfl rfl (by kernel_rfl) (by decide) (fun K hK => ?_)
          refine goes_ Try.func58 (by kernel_rfl) rfl #[.slice (some ad) l0.length c0, .int .i64 kk] (by rfl) rfl rfl (by simp only [List.map_toArray, List.map_cons, List.map_nil]; rfl) ?_
          refine (HNX.out _ (Kd.C_below HR.out HBr.out)).mono ?_
          rintro e W3 ⟨rfl, hb3⟩
          have BPr := Aside0.mk (blk_below BPr.out hb3)
          have HOr := Aside0.mk (Kd.R_below HOr.out hb3)
          have HBr := Aside0.mk (below_step HBr.out hb3)
          refine ⟨_, rfl, ?_⟩
          refine hK.out _ _ ⟨(hb3.cell (World.block_lt_of_cell? _ _ hHeld.1)).trans hHeld.1, (hb3.cell (World.block_lt_of_cell? _ _ hHeld.2.1)).trans hHeld.2.1, (hb3.cell (World.block_lt_of_cell? _ _ hHeld.2.2.1)).trans hHeld.2.2.1, (hb3.cell (World.block_lt_of_cell? _ _ hHeld.2.2.2)).trans hHeld.2.2.2⟩ (fun hHeld => ?_)
          clear hK K
          refine norm_ (a' := ?_) ?_ ?_
          rotate_left
          · show Act.put _ (some 29) _ = _
            simp only [Act.put, List.setIfInBounds_toArray, List.set_cons_zero, List.set_cons_succ, i64_w, i32_w]
            rfl
          refine last_ (i := 5) (N := some 31) #[true, true, true, true, true, true, false, false, false, false, false, false, false] rfl rfl (by kernel_rfl) (by decide) (fun K hK => ?_)
          refine goes_ Try.func57 (by kernel_rfl) rfl #[.agg #[.int .i64 x.f0, .int .i64 x.f1], .agg #[.int .i64 y.f0, .int .i64 y.f1], .agg #[.int .i64 a1_0, .int .i64 a1_1]] (by rfl) rfl rfl (by simp only [List.map_toArray, List.map_cons, List.map_nil]; rfl) ?_
          refine (HCR.out _).mono ?_
          rintro e W5 ⟨rfl, hb5⟩
          have BPr := Aside0.mk (blk_below BPr.out hb5)
          have HOr := Aside0.mk (Kd.R_below HOr.out hb5)
          have HBr := Aside0.mk (below_step HBr.out hb5)
          refine ⟨_, rfl, ?_⟩
          refine hK.out _ _ ?_
          clear hK K
          refine norm_ (a' := ?_) ?_ ?_
          rotate_left
          · show Act.put _ (some 31) _ = _
            simp only [Act.put, List.setIfInBounds_toArray, List.set_cons_zero, List.set_cons_succ, i64_w, i32_w]
            rfl
          refine pure_ (i := 6) (N := some 25) (v := ?_) (a' := ?_) #[true, true, true, true, true, true, true, false, false, false, false, false, false] rfl rfl (by kernel_rfl) (fun _ _ _ h => h) (Or.inl ⟨by rfl, ?_⟩) ?_ ?_
          rotate_left
          · intro w'
            go_simp
            with_reducible rfl
          rotate_left
          · simp only [Act.put, List.setIfInBounds_toArray, List.set_cons_zero, List.set_cons_succ, i64_w, i32_w]
            rfl
          refine pure_ (i := 7) (N := some 32) (v := ?_) (a' := ?_) #[true, true, true, true, true, true, true, true, false, false, false, false, false] rfl rfl (by kernel_rfl) (fun _ _ _ h => h) (Or.inl ⟨by rfl, ?_⟩) ?_ ?_
          rotate_left
          · intro w'
            go_simp
            with_reducible rfl
          rotate_left
          · simp only [Act.put, List.setIfInBounds_toArray, List.set_cons_zero, List.set_cons_succ, i64_w, i32_w]
            rfl
          refine pure_ (i := 8) (N := some 33) (v := ?_) (a' := ?_) #[true, true, true, true, true, true, true, true, true, false, false, false, false] rfl rfl (by kernel_rfl) (fun _ _ _ h => h) (Or.inl ⟨by rfl, ?_⟩) ?_ ?_
          rotate_left
          · intro w'
            go_simp
            with_reducible rfl
          rotate_left
          · simp only [Act.put, List.setIfInBounds_toArray, List.set_cons_zero, List.set_cons_succ, i64_w, i32_w]
            rfl
          refine pure_ (i := 9) (N := some 34) (v := ?_) (a' := ?_) #[true, true, true, true, true, true, true, true, true, true, false, false, false] rfl rfl (by kernel_rfl) (fun _ _ _ h => h) (Or.inl ⟨by rfl, ?_⟩) ?_ ?_
          rotate_left
          · intro w'
            go_simp
            with_reducible rfl
          rotate_left
          · simp only [Act.put, List.setIfInBounds_toArray, List.set_cons_zero, List.set_cons_succ, i64_w, i32_w]
            rfl
          refine pure_ (i := 10) (N := some 9) (v := ?_) (a' := ?_) #[true, true, true, true, true, true, true, true, true, true, true, false, false] rfl rfl (by kernel_rfl) (fun _ _ _ h => h) (Or.inl ⟨by rfl, ?_⟩) ?_ ?_
          rotate_left
          · intro w'
            go_simp
            with_reducible rfl
          rotate_left
          · simp only [Act.put, List.setIfInBounds_toArray, List.set_cons_zero, List.set_cons_succ, i64_w, i32_w]
            rfl
          refine pure_ (i := 11) (N := some 10) (v := ?_) (a' := ?_) #[true, true, true, true, true, true, true, true, true, true, true, true, false] rfl rfl (by kernel_rfl) (fun _ _ _ h => h) (Or.inl ⟨by rfl, ?_⟩) ?_ ?_
          rotate_left
          · intro w'
            go_simp
            with_reducible rfl
          rotate_left
          · simp only [Act.put, List.setIfInBounds_toArray, List.set_cons_zero, List.set_cons_succ, i64_w, i32_w]
            rfl
          refine pure_ (i := 12) (N := some 11) (v := ?_) (a' := ?_) #[true, true, true, true, true, true, true, true, true, true, true, true, true] rfl rfl (by kernel_rfl) (fun _ _ _ h => h) (Or.inl ⟨by rfl, ?_⟩) ?_ ?_
          rotate_left
          · intro w'
            go_simp
            with_reducible rfl
          rotate_left
          · simp only [Act.put, List.setIfInBounds_toArray, List.set_cons_zero, List.set_cons_succ, i64_w, i32_w]
            rfl
          refine done_ (by kernel_rfl) ?_
          have hst := HST.out
          by_cases hz : c1 = 0
          · rw [if_pos hz] at hst
            obtain rfl : xs = xs' := Option.some.inj hst
            have hzb : (c1 == 0) = true := beq_iff_eq.mpr hz
            clear hst HST hz
            go_wp2
            go_roundg (l0.length - (kk + 1))
            case measure => omega
            case rel => exact ⟨kk + 1, xs, by omega, by omega, congrArg (Value.int .i64) HKS.out, HXS', HBr, BPr, HOr⟩
          · rw [if_neg hz] at hst
            obtain ⟨n, hfl, hst⟩ := Option.bind_eq_some_iff.mp hst
            have hzb : (c1 == 0) = false := beq_eq_false_iff_ne.mpr hz
            have hfloor := fun V => fleuronref16_Floor.calls c2 c3 n V hfl
            have HFL := Aside0.mk hfloor
            have HIN := Aside0.mk (show insZ xs n = xs' from Option.some.inj hst)
            clear hst HST hz hfl hfloor
            go_wp2_with fail
            refine (HFL.out _).mono ?_
            rintro e W6 ⟨rfl, hd6⟩
            obtain ⟨m6, rfl⟩ := hd6
            have HB6 := Aside0.mk (pw_below_drewN HBr.out m6)
            have BP6 := Aside0.mk (blk_drewN BPr.out m6)
            have HO6 := Aside0.mk (Kd.R_drewN HOr.out m6)
            clear HBr BPr HOr HFL HNX HCR
            obtain ⟨A6, c6, rfl⟩ := Kd.R_slice HO6.out
            obtain ⟨i0, hi0, hz0, hsz, hby⟩ := info_parts info3
            have hroom := (Kd.R_reads' HO6.out).2.1
            have HCA := Aside0.mk (fun (z : Int) (h0 : 0 ≤ z) (h1 : z ≤ (xs.length : Int)) => cut_same (P := Try.prog) 42 3 .i64 .i64 Try.underlying42 hi0 A6 xs.length c6 z h0 h1 hroom)
            have HCB := Aside0.mk (fun (z : Int) (h0 : 0 ≤ z) (h1 : z ≤ (xs.length : Int)) => cut_from (P := Try.prog) 42 3 .i64 Try.underlying42 hi0 1 hsz A6 xs.length c6 z h0 h1)
            have HI0 := Aside0.mk (show Try.prog.info? 3 = some i0 ∧ i0.zero = some (.int .i64 0) ∧ i0.size = 1 ∧ i0.bytes = 8 from ⟨hi0, hz0, hsz, hby⟩)
            have HROOM := Aside0.mk hroom
            have HCX := Aside0.mk (Kd.R_reads' HO6.out).2.2
            clear hi0 hz0 hsz hby hroom HO6
            go_wp2
            go_loopg [13] xs.length (fun gg s13 wq => ∃ (j : Nat) (z : Int), j ≤ xs.length ∧ j ≤ gg ∧ s13 = .int .i64 z ∧ Aside0 (z = (j : Int)) ∧ Aside0 (posZ xs n xs.length = posZ xs n j) ∧ Aside0 (Below w.heap.size w wq) ∧ Aside0 (wq.heap[w.heap.size]? = some (.cells #[.int .i64 a1_0, .int .i64 a1_1] 24 (0, 0))) ∧ Aside0 (Kd.C (Kd.int .i64) wq A6 xs.length xs))
            case atStart => exact ⟨xs.length, (xs.length : Int), Nat.le_refl _, Nat.le_refl _, rfl, ⟨rfl⟩, ⟨rfl⟩, ⟨by first | exact HB6.out | exact below_drew1 HB6.out⟩, ⟨by first | exact BP6.out | exact blk_drew BP6.out⟩, ⟨by first | exact HCX.out | exact Kd.C_drew HCX.out⟩⟩
            case round =>
              clear HB6 BP6 HCX
              obtain ⟨j, z, hj, hjg, rfl, HZ, HPZ, HBq, BPq, HCq⟩ := hrel
              have hjl : (j : Int) ≤ (xs.length : Int) := by omega
              have hcell : 0 < j → ∃ ad6, A6 = some ad6 ∧ wr.cell? (ad6.add ((j - 1 : Nat) : Int).toNat) = some (.int .i64 (xs.getD (j - 1) 0)) := fun h0 => by
                obtain ⟨ad6, e6, h6⟩ := int_at HCq.out ((j - 1 : Nat) : Int) (by omega) (by omega)
                exact ⟨ad6, e6, by simpa using h6⟩
              by_cases hcont : 0 < j ∧ n < xs.getD (j - 1) 0
              · obtain ⟨ad6, rfl, hc6⟩ := hcell hcont.1
                obtain ⟨v, hv⟩ : ∃ v, xs.getD (j - 1) 0 = v := ⟨_, rfl⟩
                obtain ⟨z', hz'⟩ : ∃ z' : Int, ((j - 1 : Nat) : Int) = z' := ⟨_, rfl⟩
                rw [hv, hz'] at hc6
                have hz1 : decide (0 < z) = true := decide_eq_true (by rw [HZ.out]; omega)
                have hw : wrap64 (z - 1) = z' := by rw [HZ.out, ← hz']; have := HLEN.out; unfold wrap64; omega
                have q1 := eq_true (show 0 ≤ z' by omega)
                have q2 := eq_true (show z' < (xs.length : Int) by omega)
                have hvb : decide (n < v) = true := decide_eq_true (by rw [← hv]; exact hcont.2)
                have HJ := Aside0.mk (show z' = ((j - 1 : Nat) : Int) from hz'.symm)
                have HJ0 := Aside0.mk hcont
                clear hz' hv hcell hcont hjl
                go_wp2
                go_roundg (j - 1)
                case measure => have := HJ0.out.1; omega
                case rel => exact ⟨j - 1, z', by omega, by omega, congrArg (Value.int .i64) hw, HJ, ⟨by rw [HPZ.out]; have h1 := HJ0.out; obtain ⟨i, rfl⟩ : ∃ i, j = i + 1 := ⟨j - 1, by omega⟩; rw [posZ, if_pos (by simpa using h1.2)]; rfl⟩, ⟨by first | exact HBq.out | exact below_drew1 HBq.out⟩, ⟨by first | exact BPq.out | exact blk_drew BPq.out⟩, ⟨by first | exact HCq.out | exact Kd.C_drew HCq.out⟩⟩
              · have HP := Aside0.mk (show posZ xs n xs.length = j by
                  rw [HPZ.out]
                  cases j with
                  | zero => rfl
                  | succ i => rw [posZ, if_neg (fun h => hcont ⟨by omega, by simpa using h⟩)])
                have hsplit : (decide (0 < z) = false) ∨ (∃ ad6 v z', A6 = some ad6 ∧ wr.cell? (ad6.add z'.toNat) = some (.int .i64 v) ∧ decide (0 < z) = true ∧ wrap64 (z - 1) = z' ∧ (0 ≤ z') ∧ (z' < (xs.length : Int)) ∧ decide (n < v) = false) := by
                  rcases Nat.eq_zero_or_pos j with h0 | h0
                  · exact .inl (decide_eq_false (by rw [HZ.out]; omega))
                  · obtain ⟨ad6, e6, hc6⟩ := hcell h0
                    exact .inr ⟨ad6, _, _, e6, hc6, decide_eq_true (by rw [HZ.out]; omega), by rw [HZ.out]; have := HLEN.out; unfold wrap64; omega, by omega, by omega, decide_eq_false (fun h => hcont ⟨h0, h⟩)⟩
                have hcA := HCA.out z (by rw [HZ.out]; omega) (by rw [HZ.out]; omega)
                have hcB := HCB.out z (by rw [HZ.out]; omega) (by rw [HZ.out]; omega)
                obtain ⟨A63, hA63⟩ : ∃ A1, (if c6 = z.toNat then A6 else A6.map (·.add (z.toNat * 1))) = A1 := ⟨_, rfl⟩
                rw [hA63] at hcB
                have hzj : z.toNat = j := by rw [HZ.out]; simp
                have HC63 := Aside0.mk (show Kd.C (Kd.int .i64) wr A63 (xs.length - j) (xs.drop j) by have := Kd.C_drop (k := Kd.int .i64) HCq.out hj HROOM.out; rw [List.length_drop] at this; rw [← hA63, hzj]; exact this)
                rw [hzj] at hcA hcB
                obtain ⟨c63, hc63⟩ : ∃ c1, c6 - j = c1 := ⟨_, rfl⟩
                rw [hc63] at hcB
                clear hcell hcont hjl hA63 hzj hc63 HZ HCA HCB HPZ
                rcases hsplit with hz1 | ⟨ad6, v, z', rfl, hc6, hz1, hw, q1, q2, hvb⟩
                all_goals (try replace q1 := eq_true q1)
                all_goals (try replace q2 := eq_true q2)
                all_goals go_wp2
                all_goals
                  have HBs := Aside0.mk (below_drew1 HBq.out)
                  have BPs := Aside0.mk (blk_drew BPq.out)
                  have HCs := Aside0.mk (Kd.C_drew HCq.out)
                  refine start_ (n := 12) (S := fun w' => True) (ds := []) #[false, false, false, false, false, false, false, false, false, false, false, false] (by kernel_rfl) rfl rfl (trivial) (fun hHeld => ?_)
                  refine pure_ (i := 0) (N := some 55) (v := ?_) (a' := ?_) #[true, false, false, false, false, false, false, false, false, false, false, false] rfl rfl (by kernel_rfl) (fun _ _ _ h => h) (Or.inl ⟨by rfl, ?_⟩) ?_ ?_
                  rotate_left
                  · intro w'
                    go_simp
                    with_reducible rfl
                  rotate_left
                  · simp only [Act.put, List.setIfInBounds_toArray, List.set_cons_zero, List.set_cons_succ, i64_w, i32_w]
                    rfl
                  refine pure_ (i := 1) (N := some 56) (v := ?_) (a' := ?_) #[true, true, false, false, false, false, false, false, false, false, false, false] rfl rfl (by kernel_rfl) (fun _ _ _ h => h) (Or.inl ⟨by rfl, ?_⟩) ?_ ?_
                  rotate_left
                  · intro w'
                    go_simp
                    with_reducible rfl
                  rotate_left
                  · simp only [Act.put, List.setIfInBounds_toArray, List.set_cons_zero, List.set_cons_succ, i64_w, i32_w]
                    rfl
                  refine pure_ (i := 2) (N := some 57) (v := ?_) (a' := ?_) #[true, true, true, false, false, false, false, false, false, false, false, false] rfl rfl (by kernel_rfl) (fun _ _ _ h => h) (Or.inl ⟨by rfl, ?_⟩) ?_ ?_
                  rotate_left
                  · intro w'
                    go_simp
                    with_reducible rfl
                  rotate_left
                  · simp only [Act.put, List.setIfInBounds_toArray, List.set_cons_zero, List.set_cons_succ, i64_w, i32_w]
                    rfl
                  refine pure_ (i := 3) (N := some 58) (v := ?_) (a' := ?_) #[true, true, true, true, false, false, false, false, false, false, false, false] rfl rfl (by kernel_rfl) (fun _ _ _ h => h) (Or.inl ⟨by rfl, ?_⟩) ?_ ?_
                  rotate_left
                  · intro w'
                    go_simp
                    with_reducible rfl
                  rotate_left
                  · simp only [Act.put, List.setIfInBounds_toArray, List.set_cons_zero, List.set_cons_succ, i64_w, i32_w]
                    rfl
                  refine pure_ (i := 4) (N := some 59) (v := ?_) (a' := ?_) #[true, true, true, true, true, false, false, false, false, false, false, false] rfl rfl (by kernel_rfl) (fun _ _ _ h => h) (Or.inl ⟨by rfl, ?_⟩) ?_ ?_
                  rotate_left
                  · intro w'
                    go_simp
                    with_reducible rfl
                  rotate_left
                  · simp only [Act.put, List.setIfInBounds_toArray, List.set_cons_zero, List.set_cons_succ, i64_w, i32_w]
                    rfl
                  refine pure_ (i := 6) (N := some 61) (v := ?_) (a' := ?_) #[true, true, true, true, true, false, true, false, false, false, false, false] rfl rfl (by kernel_rfl) (fun _ _ _ h => h) (Or.inl ⟨by rfl, ?_⟩) ?_ ?_
                  rotate_left
                  · intro w'
                    go_simp
                    with_reducible rfl
                  rotate_left
                  · simp only [Act.put, List.setIfInBounds_toArray, List.set_cons_zero, List.set_cons_succ, i64_w, i32_w]
                    rfl
                  refine pure_ (i := 7) (N := some 62) (v := ?_) (a' := ?_) #[true, true, true, true, true, false, true, true, false, false, false, false] rfl rfl (by kernel_rfl) (fun _ _ _ h => h) (Or.inl ⟨by rfl, ?_⟩) ?_ ?_
                  rotate_left
                  · intro w'
                    go_simp
                    with_reducible rfl
                  rotate_left
                  · simp only [Act.put, List.setIfInBounds_toArray, List.set_cons_zero, List.set_cons_succ, i64_w, i32_w]
                    rfl
                  refine pure_ (i := 8) (N := some 63) (v := ?_) (a' := ?_) #[true, true, true, true, true, false, true, true, true, false, false, false] rfl rfl (by kernel_rfl) (fun _ _ _ h => h) (Or.inl ⟨by rfl, ?_⟩) ?_ ?_
                  rotate_left
                  · intro w'
                    go_simp
                    with_reducible rfl
                  rotate_left
                  · simp only [Act.put, List.setIfInBounds_toArray, List.set_cons_zero, List.set_cons_succ, i64_w, i32_w]
                    rfl
                  refine one_ (i := 5) (N := some 60) #[true, true, true, true, true, true, true, true, true, false, false, false] rfl rfl (by kernel_rfl) (by decide) (fun K hK => ?_)
                  refine Kd.R_lit_step (Kd.int .i64) _ 3 ?hg (N := 60) ?hd (xs := [n]) (inner := [.int .i64 n]) (ok := fun _ => True) (okp := fun _ => False) ?hr ?hp (fun _ _ => trivial) trivial (Below.refl _ _) (Nat.le_refl _) (by simp) ?_
                  case hd => rfl
                  case hg => rfl
                  case hr => first | (go_simp; done) | (go_simp; rfl)
                  case hp => exact reps_of_nums [n]
                  intro v60 w7 ho7 hb7 hg7 hat7
                  have HO7 := Aside0.mk ho7
                  have HB7 := Aside0.mk hb7
                  clear ho7 hb7 hg7 hat7
                  refine hK.out _ _ (trivial) (fun hHeld => ?_)
                  clear hK K
                  refine norm_ (a' := ?_) ?_ ?_
                  rotate_left
                  · show Act.put _ (some 60) _ = _
                    simp only [Act.put, List.setIfInBounds_toArray, List.set_cons_zero, List.set_cons_succ, i64_w, i32_w]
                    rfl
                  refine one_ (i := 9) (N := some 64) #[true, true, true, true, true, true, true, true, true, true, false, false] rfl rfl (by kernel_rfl) (by decide) (fun K hK => ?_)
                  refine Kd.R_append_rows_step (Kd.int .i64) _ (by rfl) (.tmp 60) (.tmp 63) 42 3 (.int .i64 0) 8 rfl Try.underlying42 info3 rfl (by decide) (by omega) v60 [n] (xs.drop j) A63 _ c63 (fun _ => True) (fun _ => False) rfl rfl HO7.out (Kd.C_below (Kd.C_drew HC63.out) HB7.out) (fun _ _ h => h) (fun _ h => h.elim) (fun _ _ => trivial) HB7.out HB7.out.size ?aL ?_
                  case aL => have := HLEN.out; simp only [List.length_singleton]; omega
                  intro v64 w9 ho9 hb9 hg9 hat9
                  have HO9 := Aside0.mk ho9
                  have HB9 := Aside0.mk hb9
                  clear ho9 hb9 hg9 hat9 HO7 HB7
                  refine hK.out _ _ (trivial) (fun hHeld => ?_)
                  clear hK K
                  refine norm_ (a' := ?_) ?_ ?_
                  rotate_left
                  · show Act.put _ (some 64) _ = _
                    simp only [Act.put, List.setIfInBounds_toArray, List.set_cons_zero, List.set_cons_succ, i64_w, i32_w]
                    rfl
                  refine one_ (i := 10) (N := some 65) #[true, true, true, true, true, true, true, true, true, true, true, false] rfl rfl (by kernel_rfl) (by decide) (fun K hK => ?_)
                  obtain ⟨A64, c64, rfl, hc64, hC64⟩ := Kd.R_reads HO9.out
                  obtain ⟨ad64, rfl⟩ : ∃ ad, A64 = some ad := (by obtain ⟨ad, e, _⟩ := hC64.2.2 (by simp); exact ⟨ad, e⟩)
                  have HC9 := Aside0.mk (Kd.C_below HCs.out HB9.out)
                  have HC64 := Aside0.mk hC64
                  clear hC64 hc64
                  refine step_append_grows rfl (.tmp 58) (.tmp 64) 42 rfl 3 i0 (.int .i64 0) 1 8 Try.underlying42 HI0.out.1 HI0.out.2.1 HI0.out.2.2.1 HI0.out.2.2.2 rfl (by decide) _ j j ((xs.take j).map (.int .i64)) rfl (fun e => none_zero HC9.out hj e) (by simp; omega) (fun b e i u hi => ints_cells HC9.out b e i u (take_some hi)) ad64 ([n] ++ xs.drop j).length c64 (([n] ++ xs.drop j).map (.int .i64)) rfl (by simp) (ints_cells HC64.out ad64 rfl) (fun u hu => ints_one hu) (by simp) ?aB1 ?aB2 ?_
                  case aB1 => have := HLEN.out; simp [maxLen]; omega
                  case aB2 => have := HLEN.out; simp; omega
                  intro v65 w10 hown hgrow
                  have HR10 := Aside0.mk (R_of_ints (base := w.heap.size) (ok := fun k => k ≠ w.heap.size) (xs := xs') (show w10.ownsRow w9.heap.size 3 1 v65 (j + ([n] ++ xs.drop j).length) (xs'.map (Value.int .i64)) from by rw [← HIN.out, insZ, HP.out]; simpa using hown) (by rw [← HIN.out, insZ_len]; simp; omega) (Nat.le_trans HBs.out.size HB9.out.size) (fun k hk => by have := lt_of_block (blk_below BPs.out HB9.out); omega))
                  have BP10 := Aside0.mk (blk_grown (blk_below BPs.out HB9.out) hgrow (show some w.heap.size ≠ (none : Option Nat) from fun h_ => by cases h_))
                  have HB10 := Aside0.mk ((below_step HBs.out HB9.out).grown hgrow (Nat.le_trans HBs.out.size HB9.out.size) (fun k hk => by cases hk))
                  clear hown hgrow HO9 HB9 HC9 HC64
                  refine hK.out _ _ trivial (fun hHeld => ?_)
                  clear hK K
                  refine norm_ (a' := ?_) ?_ ?_
                  rotate_left
                  · show Act.put _ (some 65) _ = _
                    simp only [Act.put, List.setIfInBounds_toArray, List.set_cons_zero, List.set_cons_succ, i64_w, i32_w]
                    rfl
                  refine pure_ (i := 11) (N := some 6) (v := ?_) (a' := ?_) #[true, true, true, true, true, true, true, true, true, true, true, true] rfl rfl (by kernel_rfl) (fun _ _ _ h => h) (Or.inl ⟨by rfl, ?_⟩) ?_ ?_
                  rotate_left
                  · intro w'
                    go_simp
                    with_reducible rfl
                  rotate_left
                  · simp only [Act.put, List.setIfInBounds_toArray, List.set_cons_zero, List.set_cons_succ, i64_w, i32_w]
                    rfl
                  refine done_ (by kernel_rfl) ?_
                  obtain ⟨A65, c65, rfl⟩ := Kd.R_slice HR10.out
                  go_wp2
                  go_roundg (l0.length - (kk + 1))
                  case measure => omega
                  case rel => exact ⟨kk + 1, xs', by omega, by omega, congrArg (Value.int .i64) HKS.out, HXS', HB10, BP10, HR10⟩
        · have hlti : ¬ (kk : Int) < (l0.length : Int) := by omega
          obtain rfl : kk = l0.length := by omega
          obtain rfl : out = xs := Option.some.inj (HGO.out.symm.trans HXS.out)
          obtain ⟨A8, c8, rfl⟩ := Kd.R_slice HO.out
          go_wp2
          go_ret2
          exact ⟨_, rfl, Kd.R_mono HO.out (fun _ _ => trivial), HB.out⟩
    · rw [if_neg hl] at hX
      exact absurd hX (by simp)

/-! ### fleuronref16_Same: function 29 -/
def fleuronref16_Same.l0 : Nat → List (S24) → List (S24) → Int → Int → Option (Bool)
  | 0, _, _, _, _ => none
  | k + 1, x0, x1, x12, x13 => if x13 < x12 then (if 0 ≤ x13 then (if x13 < (x0.length : Int) then (if x13 < (x1.length : Int) then (if (!(((rd_T24 x0 x13).f0) == ((rd_T24 x1 x13).f0)) || (!(((rd_T24 x0 x13).f1) == ((rd_T24 x1 x13).f1)))) = true then (some false) else (fleuronref16_Same.l0 k x0 x1 x12 (wrap64 (x13 + 1)))) else (none)) else (none)) else (none)) else (some true)
def fleuronref16_Same.f (k : Nat) (l0 : List (S24)) (l1 : List (S24)) : Option (Bool) := if (l0.length : Int) = (l1.length : Int) then (fleuronref16_Same.l0 k l0 l1 (l0.length : Int) 0) else (some false)
theorem fleuronref16_Same.mono_l : ∀ k, (∀ y0 y1 y2 y3, LeO (fleuronref16_Same.l0 k y0 y1 y2 y3) (fleuronref16_Same.l0 (k + 1) y0 y1 y2 y3))
  | 0 => fun _ _ _ _ r h => by simp [fleuronref16_Same.l0] at h
  | k + 1 => by
    have ih0 := fleuronref16_Same.mono_l k
    · intro y0 y1 y2 y3
      unfold fleuronref16_Same.l0
      repeat' first
      | (with_reducible exact ih0 _ _ _ _)
      | (with_reducible exact LeO.refl _)
      | (with_reducible exact LeO.none _)
      | (with_reducible refine LeO.ite ?_ ?_)
      | (with_reducible refine LeO.bind ?_ (fun _ => ?_))
      | exact ih0 _ _ _ _
      | exact LeO.none _
      | refine LeO.ite ?_ ?_
      | refine LeO.bind ?_ (fun _ => ?_)
theorem fleuronref16_Same.mono : ∀ a0 a1 k, LeO (fleuronref16_Same.f k a0 a1) (fleuronref16_Same.f (k + 1) a0 a1) := by
  intro a0 a1 k
  have ih0 := fleuronref16_Same.mono_l k
  unfold fleuronref16_Same.f
  repeat' first
      | (with_reducible exact ih0 _ _ _ _)
      | (with_reducible exact LeO.refl _)
      | (with_reducible exact LeO.none _)
      | (with_reducible refine LeO.ite ?_ ?_)
      | (with_reducible refine LeO.bind ?_ (fun _ => ?_))
      | exact ih0 _ _ _ _
      | exact LeO.none _
      | refine LeO.ite ?_ ?_
      | refine LeO.bind ?_ (fun _ => ?_)
set_option maxHeartbeats 8000000 in
set_option maxRecDepth 100000 in
theorem fleuronref16_Same.calls (k : Nat) (A0 : Option Addr) (c0 : Nat) (l0 : List (S24)) (A1 : Option Addr) (c1 : Nat) (l1 : List (S24)) (r : Bool) (w : World) (hr0 : Kd.C k24 w A0 l0.length l0) (hc0 : l0.length ≤ c0) (hr1 : Kd.C k24 w A1 l1.length l1) (hc1 : l1.length ≤ c1) (h : fleuronref16_Same.f k l0 l1 = some r) :
    Calls Try.prog 29 #[.slice A0 l0.length c0, .slice A1 l1.length c1] w fun e w' => e = .returned (.bool r) ∧ Drawn0 w w' := by
  have hu24 := Try.underlying24
  have HR0 := Aside0.mk hr0
  have HC0 := Aside0.mk hc0
  clear hr0 hc0
  have HR1 := Aside0.mk hr1
  have HC1 := Aside0.mk hc1
  clear hr1 hc1
  have H : (if (l0.length : Int) = (l1.length : Int) then (fleuronref16_Same.l0 k l0 l1 (l0.length : Int) 0) else (some false)) = some r := h
  clear h
  by_cases c3 : (l0.length : Int) = (l1.length : Int)
  · rw [if_pos c3] at H
    have c3b0 : ((l0.length : Int) == (l1.length : Int)) = true := beq_iff_eq.mpr c3
    have c3b1 : ((l0.length : Int) != (l1.length : Int)) = false := bne_eq_false_iff_eq.mpr c3
    have c3b2 : (l0.length == l1.length) = true := by first | simpa using c3 | (simp at c3 ⊢; omega)
    clear c3
    have H' := Aside0.mk H
    clear H
    go_enter Try.func29, Try.ntmps29
    go_wp2
    repeat (go_quiet (fail); try go_wp2)
    go_loopg [13] k (fun kq v13 w' => ∃ (x13_1 : Int), v13 = .int .i64 x13_1 ∧ Aside0 (fleuronref16_Same.l0 kq l0 l1 (l0.length : Int) x13_1 = some r) ∧ Aside0 (kq ≤ k) ∧ Drawn0 w w')
    case atStart => exact ⟨(0), (by first | rfl | (simp; done) | (simp [*]; done)), H', ⟨Nat.le_refl _⟩, by repeat (first | exact Drawn0.refl _ | apply Drawn0.step)⟩
    case round =>
      clear H'
      try clear c1
      try clear c2
      try clear p2
      try clear c3
      try clear c3b0
      try clear c3b1
      try clear c3b2
      obtain ⟨x13_1, rfl, HA, HK1, ⟨m1, rfl⟩⟩ := hrel
      cases gk with
      | zero => exact absurd HA.out (by simp [fleuronref16_Same.l0])
      | succ k1 =>
        have H := HA.out
        clear HA
        simp only [fleuronref16_Same.l0] at H
        by_cases c4 : x13_1 < (l0.length : Int)
        · rw [if_pos c4] at H
          have c4b0 : decide (x13_1 < (l0.length : Int)) = true := decide_eq_true c4
          clear c4
          by_cases c5 : 0 ≤ x13_1
          · rw [if_pos c5] at H
            have c5b0 : decide (0 ≤ x13_1) = true := decide_eq_true c5
            clear c5
            by_cases c6 : x13_1 < (l0.length : Int)
            · rw [if_pos c6] at H
              have c6b0 : decide (x13_1 < (l0.length : Int)) = true := decide_eq_true c6
              clear c6
              by_cases c7 : x13_1 < (l1.length : Int)
              · rw [if_pos c7] at H
                have c7b0 : decide (x13_1 < (l1.length : Int)) = true := decide_eq_true c7
                clear c7
                by_cases c8 : (!(((rd_T24 l0 x13_1).f0) == ((rd_T24 l1 x13_1).f0)) || (!(((rd_T24 l0 x13_1).f1) == ((rd_T24 l1 x13_1).f1)))) = true
                · rw [if_pos c8] at H
                  have c8b0 : (!(((rd_T24 l0 x13_1).f0) == ((rd_T24 l1 x13_1).f0)) || (!(((rd_T24 l0 x13_1).f1) == ((rd_T24 l1 x13_1).f1)))) = true := c8
                  clear c8
                  obtain rfl := Option.some.inj H
                  have p255 : 0 ≤ (x13_1 : Int) := of_decide_eq_true (by first | (with_reducible assumption) | assumption)
                  have q255 : x13_1 < (l0.length : Int) := of_decide_eq_true (by first | (with_reducible assumption) | assumption)
                  obtain ⟨ad255, e255, hx255_0, hx255_1⟩ := at_T24 HR0.out x13_1 p255 q255
                  cases e255
                  replace p255 := eq_true p255
                  replace q255 := eq_true q255
                  have p256 : 0 ≤ (x13_1 : Int) := of_decide_eq_true (by first | (with_reducible assumption) | assumption)
                  have q256 : x13_1 < (l1.length : Int) := of_decide_eq_true (by first | (with_reducible assumption) | assumption)
                  obtain ⟨ad256, e256, hx256_0, hx256_1⟩ := at_T24 HR1.out x13_1 p256 q256
                  cases e256
                  replace p256 := eq_true p256
                  replace q256 := eq_true q256
                  go_wp2
                  repeat (go_quiet (fail); try go_wp2)
                  go_ret
                  exact ⟨by first | rfl | (simp; done) | (simp [*]; done), by repeat (first | exact Drawn0.refl _ | apply Drawn0.step)⟩
                · rw [if_neg c8] at H
                  have c8b0 : (!(((rd_T24 l0 x13_1).f0) == ((rd_T24 l1 x13_1).f0)) || (!(((rd_T24 l0 x13_1).f1) == ((rd_T24 l1 x13_1).f1)))) = false := by simpa using c8
                  clear c8
                  have H' := Aside0.mk H
                  clear H
                  have p255 : 0 ≤ (x13_1 : Int) := of_decide_eq_true (by first | (with_reducible assumption) | assumption)
                  have q255 : x13_1 < (l0.length : Int) := of_decide_eq_true (by first | (with_reducible assumption) | assumption)
                  obtain ⟨ad255, e255, hx255_0, hx255_1⟩ := at_T24 HR0.out x13_1 p255 q255
                  cases e255
                  replace p255 := eq_true p255
                  replace q255 := eq_true q255
                  have p256 : 0 ≤ (x13_1 : Int) := of_decide_eq_true (by first | (with_reducible assumption) | assumption)
                  have q256 : x13_1 < (l1.length : Int) := of_decide_eq_true (by first | (with_reducible assumption) | assumption)
                  obtain ⟨ad256, e256, hx256_0, hx256_1⟩ := at_T24 HR1.out x13_1 p256 q256
                  cases e256
                  replace p256 := eq_true p256
                  replace q256 := eq_true q256
                  go_wp2
                  repeat (go_quiet (fail); try go_wp2)
                  go_roundg k1
                  case measure => have := HK1.out; omega
                  case rel => exact ⟨(wrap64 (x13_1 + 1)), (by first | rfl | (simp; done) | (simp [*]; done)), H', ⟨by have := HK1.out; omega⟩, by repeat (first | exact Drawn0.refl _ | apply Drawn0.step)⟩
              · rw [if_neg c7] at H
                exact absurd H (by simp)
            · rw [if_neg c6] at H
              exact absurd H (by simp)
          · rw [if_neg c5] at H
            exact absurd H (by simp)
        · rw [if_neg c4] at H
          have c4b0 : decide (x13_1 < (l0.length : Int)) = false := decide_eq_false c4
          clear c4
          obtain rfl := Option.some.inj H
          go_wp2
          repeat (go_quiet (fail); try go_wp2)
          go_ret
          exact ⟨by first | rfl | (simp; done) | (simp [*]; done), by repeat (first | exact Drawn0.refl _ | apply Drawn0.step)⟩
  · rw [if_neg c3] at H
    have c3b0 : ((l0.length : Int) == (l1.length : Int)) = false := beq_eq_false_iff_ne.mpr c3
    have c3b1 : ((l0.length : Int) != (l1.length : Int)) = true := bne_iff_ne.mpr c3
    have c3b2 : (l0.length == l1.length) = false := by first | simpa using c3 | (simp at c3 ⊢; omega)
    obtain rfl := Option.some.inj H
    go_enter Try.func29, Try.ntmps29
    go_wp2
    repeat (go_quiet (fail); try go_wp2)
    go_ret
    exact ⟨by first | rfl | (simp; done) | (simp [*]; done), by repeat (first | exact Drawn0.refl _ | apply Drawn0.step)⟩

end Go.Proofs.Ytdhgekogaoiidaa.PT2

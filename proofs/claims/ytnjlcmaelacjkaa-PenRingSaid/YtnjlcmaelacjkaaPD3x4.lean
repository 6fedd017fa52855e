/- What functions of the program come to, each with the proof that the machine's call does just that; written by a program of this session out of the translation. -/
import Derived.Test.YtnjlcmaelacjkaaPD3x0
import Derived.Test.YtnjlcmaelacjkaaPD3x2
import Derived.Test.YtnjlcmaelacjkaaPD3x3
namespace Go.Proofs.Ytnjlcmaelacjkaa.PD3
open Go.RowKit Go.Proofs.YtnjlcmaelacjkaaW.PrintWords Go.Proofs.YtnjlcmaelacjkaaW.PrintLast Go.Proofs.YtnjlcmaelacjkaaW.PrintMore
attribute [local go_sem] max2_int min2_int max_two min_two max_three min_three max_four min_four   -- for this text's walks alone
set_option linter.unusedVariables false
set_option linter.unusedSimpArgs false

/-! ### wind_Edges: function 82 (by hand) -/
/-- On which side of the line from a to b p is, as wind.Sign tells it. -/
def signV (a b p : S33) : Int := (wind_Sign.f a.f0 a.f1 b.f0 b.f1 p.f0 p.f1).getD 0
theorem sign_some (a b p : S33) : wind_Sign.f a.f0 a.f1 b.f0 b.f1 p.f0 p.f1 = some (signV a b p) := by
  unfold signV wind_Sign.f
  rw [compare_int]
  rfl
/-- The point behind the one at i, round and round. -/
def nxt (l : List S33) (i : Nat) : S33 := rd_T33 l (((i + 1) % l.length : Nat) : Int)
def edgeV (a b : S33) : Value := .agg #[.int .i64 a.f0, .int .i64 a.f1, .int .i64 b.f0, .int .i64 b.f1]
set_option maxHeartbeats 2000000 in
set_option maxRecDepth 100000 in
theorem Edges_calls (g : Nat) (lb : Array Value) (I : Nat → World → Prop) (eg : ∀ args w, (callFunc g args).run Try.prog w = .ok (.enter g args) w) (A0 : Option Addr) (c0 : Nat) (l0 : List S33) (w0 w : World)
    (hI : ∀ (i : Nat) (W : World), i < l0.length → I i W → Calls Try.prog g (#[edgeV (rd_T33 l0 (i : Int)) (nxt l0 i)] ++ lb) W fun e w' => e = .returned (.tuple #[]) ∧ I (i + 1) w')
    (hB : ∀ (i : Nat) (W : World), I i W → Below w0.heap.size w0 W) (hA : ∀ (i : Nat) (W : World) (o : Obj), I i W → I i (W.alloc o)) (hD : ∀ (i : Nat) (W : World) (n : Nat), I i W → I i (W.drewN n))
    (h0 : I 0 w) (hr0 : Kd.C k33 w0 A0 l0.length l0) (hlen : l0.length ≤ 1000000000) :
    Calls Try.prog 82 #[.slice A0 l0.length c0, .func (.func g) #[] lb] w fun e w' => e = .returned (.tuple #[]) ∧ I l0.length w' := by
  have hu := Try.underlying33
  have HR0 := Aside0.mk hr0
  have HI := Aside0.mk hI
  have HBB := Aside0.mk hB
  have HA := Aside0.mk hA
  have HD := Aside0.mk hD
  have H0 := Aside0.mk h0
  clear hr0 hI hB hA hD h0
  go_enter Try.func82, Try.ntmps82
  go_wp2
  go_loopg [8] l0.length (fun gg s8 wr => ∃ kk : Nat, kk ≤ l0.length ∧ l0.length - kk ≤ gg ∧ s8 = .int .i64 kk ∧ Aside0 (I kk wr))
  case atStart => exact ⟨0, Nat.zero_le _, by omega, rfl, H0⟩
  case round =>
    clear H0
    obtain ⟨kk, hkk, hg, rfl, HK⟩ := hrel
    by_cases hlt : kk < l0.length
    · have hlti : (kk : Int) < (l0.length : Int) := by omega
      obtain ⟨ad, rfl, hx0, hx1⟩ := at_T33 HR0.out (kk : Int) (by omega) hlti
      obtain ⟨j, hj⟩ : ∃ j : Nat, (kk + 1) % l0.length = j := ⟨_, rfl⟩
      have hjl : j < l0.length := by have := Nat.mod_lt (kk + 1) (show 0 < l0.length by omega); omega
      have hji : (j : Int) < (l0.length : Int) := by omega
      obtain ⟨ad', e', hy0, hy1⟩ := at_T33 HR0.out (j : Int) (by omega) hji
      obtain rfl : ad = ad' := by injection e'
      clear e'
      have hb := HBB.out kk wr HK.out
      replace hx0 := (hb.cell (World.block_lt_of_cell? w0 _ hx0)).trans hx0
      replace hx1 := (hb.cell (World.block_lt_of_cell? w0 _ hx1)).trans hx1
      replace hy0 := (hb.cell (World.block_lt_of_cell? w0 _ hy0)).trans hy0
      replace hy1 := (hb.cell (World.block_lt_of_cell? w0 _ hy1)).trans hy1
      have hcall := fun W h => HI.out kk W hlt h
      simp only [Int.toNat_natCast] at hx0 hx1 hy0 hy1
      simp only [nxt, hj] at hcall
      have ht : Int.tmod ((kk : Int) + 1) (l0.length : Int) = (j : Int) := by
        rw [Int.tmod_eq_emod_of_nonneg (by omega), ← hj]; simp
      have hw : wrap64 ((kk : Int) + 1) = (kk : Int) + 1 := by unfold wrap64; omega
      have hne : ¬ (l0 = []) := by rintro rfl; simp at hlt
      have HJ := Aside0.mk hj
      clear hj
      generalize rd_T33 l0 (kk : Int) = x at *
      generalize rd_T33 l0 (j : Int) = y at *
      have HC := Aside0.mk hcall
      clear hcall hb HI
      go_wp2
      have HK2 := Aside0.mk (HD.out kk _ 1 (HA.out kk wr (.cells #[.int .i64 x.f0, .int .i64 x.f1] 33) HK.out))
      have p1 : (wr.alloc (.cells #[.int .i64 x.f0, .int .i64 x.f1] 33)).drew.cell? ⟨wr.heap.size, 0, none⟩ = some (.int .i64 x.f0) := by go_simp
      have p2 : (wr.alloc (.cells #[.int .i64 x.f0, .int .i64 x.f1] 33)).drew.cell? ⟨wr.heap.size, 1, none⟩ = some (.int .i64 x.f1) := by go_simp
      have p3 : (wr.alloc (.cells #[.int .i64 x.f0, .int .i64 x.f1] 33)).drew.cell? (ad.add (j * 2)) = some (.int .i64 y.f0) := (World.cell?_alloc_lt _ _ _ (World.block_lt_of_cell? _ _ hy0)).trans hy0
      have p4 : (wr.alloc (.cells #[.int .i64 x.f0, .int .i64 x.f1] 33)).drew.cell? ⟨(ad.add (j * 2)).block, (ad.add (j * 2)).off + 1, none⟩ = some (.int .i64 y.f1) := (World.cell?_alloc_lt _ _ _ (World.block_lt_of_cell? _ _ hy1)).trans hy1
      refine start_ (n := 12) (S := fun w' => w'.cell? ⟨wr.heap.size, 0, none⟩ = some (.int .i64 x.f0) ∧ w'.cell? ⟨wr.heap.size, 1, none⟩ = some (.int .i64 x.f1) ∧ w'.cell? (ad.add (j * 2)) = some (Value.int IntKind.i64 y.f0) ∧ w'.cell? ⟨(ad.add (j * 2)).block, (ad.add (j * 2)).off + 1, none⟩ = some (Value.int IntKind.i64 y.f1)) (ds := [11]) #[false, false, false, false, false, false, false, false, false, false, false, false] (by kernel_rfl) rfl rfl ⟨p1, p2, p3, p4⟩ (fun hHeld => ?_)
      refine pure_ (i := 0) (N := some 13) (v := ?_) (a' := ?_) #[true, false, false, false, false, false, false, false, false, false, false, false] rfl rfl (by kernel_rfl) (fun _ _ _ h => h) (Or.inl ⟨by rfl, ?_⟩) ?_ ?_
      rotate_left
      · intro w'
        go_simp
        with_reducible rfl
      rotate_left
      · simp only [Act.put, List.setIfInBounds_toArray, List.set_cons_zero, List.set_cons_succ, i64_w, i32_w]
        rfl
      refine pure_ (i := 2) (N := some 15) (v := ?_) (a' := ?_) #[true, false, true, false, false, false, false, false, false, false, false, false] rfl rfl (by kernel_rfl) (fun _ _ _ h => h) (Or.inl ⟨by rfl, ?_⟩) ?_ ?_
      rotate_left
      · intro w'
        go_simp
        with_reducible rfl
      rotate_left
      · simp only [Act.put, List.setIfInBounds_toArray, List.set_cons_zero, List.set_cons_succ, i64_w, i32_w]
        rfl
      refine pure_ (i := 3) (N := some 16) (v := ?_) (a' := ?_) #[true, false, true, true, false, false, false, false, false, false, false, false] rfl rfl (by kernel_rfl) (fun _ _ _ h => h) (Or.inl ⟨by rfl, ?_⟩) ?_ ?_
      rotate_left
      · intro w'
        go_simp
        with_reducible rfl
      rotate_left
      · simp only [Act.put, List.setIfInBounds_toArray, List.set_cons_zero, List.set_cons_succ, i64_w, i32_w]
        rfl
      refine pure_ (i := 4) (N := some 17) (v := ?_) (a' := ?_) #[true, false, true, true, true, false, false, false, false, false, false, false] rfl rfl (by kernel_rfl) (fun _ _ _ h => h) (Or.inl ⟨by rfl, ?_⟩) ?_ ?_
      rotate_left
      · intro w'
        go_simp
        with_reducible rfl
      rotate_left
      · simp only [Act.put, List.setIfInBounds_toArray, List.set_cons_zero, List.set_cons_succ, i64_w, i32_w]
        rfl
      refine pure_ (i := 5) (N := some 18) (v := ?_) (a' := ?_) #[true, false, true, true, true, true, false, false, false, false, false, false] rfl rfl (by kernel_rfl) (fun _ _ _ h => h) (Or.inl ⟨by rfl, ?_⟩) ?_ ?_
      rotate_left
      · intro w'
        go_simp
        with_reducible rfl
      rotate_left
      · simp only [Act.put, List.setIfInBounds_toArray, List.set_cons_zero, List.set_cons_succ, i64_w, i32_w]
        rfl
      refine pure_ (i := 6) (N := some 19) (v := ?_) (a' := ?_) #[true, false, true, true, true, true, true, false, false, false, false, false] rfl rfl (by kernel_rfl) (fun _ _ _ h => h) (Or.inl ⟨by rfl, ?_⟩) ?_ ?_
      rotate_left
      · intro w'
        go_simp
        with_reducible rfl
      rotate_left
      · simp only [Act.put, List.setIfInBounds_toArray, List.set_cons_zero, List.set_cons_succ, i64_w, i32_w]
        rfl
      refine pure_ (i := 7) (N := some 20) (v := ?_) (a' := ?_) #[true, false, true, true, true, true, true, true, false, false, false, false] rfl rfl (by kernel_rfl) (fun _ _ _ h => h) (Or.inl ⟨by rfl, ?_⟩) ?_ ?_
      rotate_left
      · intro w'
        go_simp
        with_reducible rfl
      rotate_left
      · simp only [Act.put, List.setIfInBounds_toArray, List.set_cons_zero, List.set_cons_succ, i64_w, i32_w]
        rfl
      refine pure_ (i := 8) (N := some 21) (v := ?_) (a' := ?_) #[true, false, true, true, true, true, true, true, true, false, false, false] rfl rfl (by kernel_rfl) (fun _ _ _ h => h) (Or.inl ⟨by rfl, ?_⟩) ?_ ?_
      rotate_left
      · intro w'
        go_simp
        with_reducible rfl
      rotate_left
      · simp only [Act.put, List.setIfInBounds_toArray, List.set_cons_zero, List.set_cons_succ, i64_w, i32_w]
        rfl
      refine take_ (i := 1) (N := some 14) (v := ?_) (a' := ?_) #[true, true, true, true, true, true, true, true, true, false, false, false] rfl rfl (by kernel_rfl) (fun _ _ _ h => h) (Or.inl ⟨by rfl, ?_⟩) hHeld ?_ ?_
      rotate_left
      · rintro w' ⟨s0, s1, s2, s3⟩
        go_simp
        with_reducible rfl
      rotate_left
      · simp only [Act.put, List.setIfInBounds_toArray, List.set_cons_zero, List.set_cons_succ, i64_w, i32_w]
        rfl
      refine take_ (i := 9) (N := some 22) (v := ?_) (a' := ?_) #[true, true, true, true, true, true, true, true, true, true, false, false] rfl rfl (by kernel_rfl) (fun _ _ _ h => h) (Or.inl ⟨by rfl, ?_⟩) hHeld ?_ ?_
      rotate_left
      · rintro w' ⟨s0, s1, s2, s3⟩
        go_simp
        with_reducible rfl
      rotate_left
      · simp only [Act.put, List.setIfInBounds_toArray, List.set_cons_zero, List.set_cons_succ, i64_w, i32_w]
        rfl
      refine pure_ (i := 10) (N := some 23) (v := ?_) (a' := ?_) #[true, true, true, true, true, true, true, true, true, true, true, false] rfl rfl (by kernel_rfl) (fun _ _ _ h => h) (Or.inl ⟨by rfl, ?_⟩) ?_ ?_
      rotate_left
      · intro w'
        go_simp
        with_reducible rfl
      rotate_left
      · simp only [Act.put, List.setIfInBounds_toArray, List.set_cons_zero, List.set_cons_succ, i64_w, i32_w]
        rfl
      refine last_ (i := 11) (N := some 24) #[true, true, true, true, true, true, true, true, true, true, true, true] rfl rfl (by kernel_rfl) (by decide) (fun K hK => ?_)
      refine goesv_ lb #[edgeV x y] eg (by rfl) rfl rfl (by rfl) (by simp only [List.map_toArray, List.map_cons, List.map_nil]; rfl) ?_
      refine (HC.out _ HK2.out).mono ?_
      rintro e w3 ⟨rfl, hk3⟩
      refine ⟨_, rfl, ?_⟩
      refine hK.out _ _ ?_
      clear hK K
      refine norm_ (a' := ?_) ?_ ?_
      rotate_left
      · show Act.put _ (some 24) _ = _
        simp only [Act.put, List.setIfInBounds_toArray, List.set_cons_zero, List.set_cons_succ, i64_w, i32_w]
        rfl
      refine done_ (by kernel_rfl) ?_
      go_wp2
      go_roundg (l0.length - (kk + 1))
      case measure => omega
      case rel => exact ⟨kk + 1, by omega, by omega, by go_num, ⟨hk3⟩⟩
    · have hlti : ¬ (kk : Int) < (l0.length : Int) := by omega
      obtain rfl : kk = l0.length := by omega
      go_wp2
      go_end0
      exact ⟨rfl, HK.out⟩

/-! ### api_Point_46: function 46 (by hand) -/
/-- The element that is kept behind those up to i, t telling whether a later one takes its place. -/
def pickAt (t : S33 → S33 → Bool) (l : List S33) : Nat → S33
  | 0 => rd_T33 l 0
  | i + 1 => if t (rd_T33 l ((i + 1 : Nat) : Int)) (pickAt t l i) then rd_T33 l ((i + 1 : Nat) : Int) else pickAt t l i
set_option maxHeartbeats 4000000 in
set_option maxRecDepth 100000 in
theorem MinFunc_pts (g : Nat) (lb : Array Value) (cf : S33 → S33 → Int) (eg : ∀ args w, (callFunc g args).run Try.prog w = .ok (.enter g args) w) (A0 : Option Addr) (c0 : Nat) (l0 : List S33) (w : World)
    (hp : ∀ (W : World) (x y : S33), Below w.heap.size w W → Calls Try.prog g (#[.agg #[.int .i64 x.f0, .int .i64 x.f1], .agg #[.int .i64 y.f0, .int .i64 y.f1]] ++ lb) W fun e w' => e = .returned (.int .i64 (cf x y)) ∧ Below W.heap.size W w')
    (hr0 : Kd.C k33 w A0 l0.length l0) (hlen : l0.length ≤ 1000000000) (h1 : 1 ≤ l0.length) :
    Calls Try.prog 46 #[.slice A0 l0.length c0, .func (.func g) #[] lb] w fun e w' => e = .returned (.agg #[.int .i64 (pickAt (fun x m => decide (cf x m < 0)) l0 (l0.length - 1)).f0, .int .i64 (pickAt (fun x m => decide (cf x m < 0)) l0 (l0.length - 1)).f1]) ∧ Below w.heap.size w w' := by
  have hu := Try.underlying33
  have HR0 := Aside0.mk hr0
  have HP := Aside0.mk hp
  have HL := Aside0.mk hlen
  have H1 := Aside0.mk h1
  have h1b : decide ((l0.length : Int) < 1) = false := decide_eq_false (by omega)
  have h0i : (0 : Int) < (l0.length : Int) := by omega
  have h0n : 0 < l0.length := by omega
  have hne : ¬ (l0 = []) := by rintro rfl; simp at h0n
  obtain ⟨ad, rfl, hx0, hx1⟩ := at_T33 hr0 0 (by omega) h0i
  simp only [Int.toNat_zero, Nat.zero_mul] at hx0 hx1
  have hz0 : (w.alloc (.cells #[.int .i64 0, .int .i64 0] 33)).cell? ad = some (.int .i64 (rd_T33 l0 0).f0) := (World.cell?_alloc_lt w (.cells #[.int .i64 0, .int .i64 0] 33) _ (World.block_lt_of_cell? w _ hx0)).trans hx0
  have hz1 : (w.alloc (.cells #[.int .i64 0, .int .i64 0] 33)).cell? ⟨ad.block, ad.off + 1, none⟩ = some (.int .i64 (rd_T33 l0 0).f1) := (World.cell?_alloc_lt w (.cells #[.int .i64 0, .int .i64 0] 33) _ (World.block_lt_of_cell? w _ hx1)).trans hx1
  generalize hT : (fun x m => decide (cf x m < 0)) = T
  have HT := Aside0.mk hT
  clear hp hr0 hlen h1 hx0 hx1 hT
  obtain ⟨y, hmm⟩ : ∃ mm, pickAt T l0 (l0.length - 1) = mm := ⟨_, rfl⟩
  rw [hmm]
  have HM := Aside0.mk hmm
  clear hmm
  go_enter Try.func46, Try.ntmps46
  go_wp2
  go_loopg [6] l0.length (fun gg s6 wr => ∃ j kk : Nat, Aside0 (kk = j + 1) ∧ kk ≤ l0.length ∧ l0.length ≤ gg + kk ∧ s6 = .int .i64 kk ∧ Aside0 (Below w.heap.size w wr) ∧ Aside0 (wr.heap[w.heap.size]? = some (.cells #[.int .i64 0, .int .i64 0] 33 (0, 0))) ∧ Aside0 (wr.heap[w.heap.size + 1]? = some (.cells #[.int .i64 (pickAt T l0 j).f0, .int .i64 (pickAt T l0 j).f1] 33 (0, 0))))
  case atStart => exact ⟨0, 1, ⟨rfl⟩, by have := H1.out; omega, by omega, rfl, ⟨below_alloc (below_alloc (Below.refl w.heap.size w) _) _⟩, ⟨blk_alloc (blk_new w _) _⟩, ⟨by have h := blk_new (w.alloc (.cells #[.int .i64 0, .int .i64 0] 33)) (.cells #[.int .i64 (rd_T33 l0 0).f0, .int .i64 (rd_T33 l0 0).f1] 33); simp only [World.size_alloc] at h; exact h⟩⟩
  case round =>
    obtain ⟨j, kk, HK, hj, hg, rfl, HB, B4, BM⟩ := hrel
    by_cases hlt : kk < l0.length
    · have hlti : (kk : Int) < (l0.length : Int) := by omega
      have hk0 : 0 ≤ (kk : Int) := by omega
      obtain ⟨ad', e', hy0, hy1⟩ := at_T33 HR0.out (kk : Int) (by omega) hlti
      obtain rfl : ad = ad' := by injection e'
      simp only [Int.toNat_natCast] at hy0 hy1
      have hx0 := (HB.out.cell (World.block_lt_of_cell? w _ hy0)).trans hy0
      have hx1 := (HB.out.cell (World.block_lt_of_cell? w _ hy1)).trans hy1
      have hpk : pickAt T l0 (j + 1) = if T (rd_T33 l0 (kk : Int)) (pickAt T l0 j) then rd_T33 l0 (kk : Int) else pickAt T l0 j := by rw [HK.out]; rfl
      generalize rd_T33 l0 (kk : Int) = x at *
      generalize pickAt T l0 j = y at *
      have P1 := Aside0.mk (show wr.drew.cell? (ad.add (kk * 2)) = some (.int .i64 x.f0) from hx0)
      have P2 := Aside0.mk (show wr.drew.cell? ⟨(ad.add (kk * 2)).block, (ad.add (kk * 2)).off + 1, none⟩ = some (.int .i64 x.f1) from hx1)
      have P3 := Aside0.mk (show wr.drew.cell? ⟨w.heap.size + 1, 0, none⟩ = some (.int .i64 y.f0) from (blk_cell BM.out 0).trans rfl)
      have P4 := Aside0.mk (show wr.drew.cell? ⟨w.heap.size + 1, 1, none⟩ = some (.int .i64 y.f1) from (blk_cell BM.out 1).trans rfl)
      have hcall := HP.out wr.drew x y (below_drew1 HB.out)
      have hwj : wrap64 ((kk : Int) + 1) = ((kk + 1 : Nat) : Int) := by have := HL.out; unfold wrap64; omega
      have HW := Aside0.mk hwj
      have HPK := Aside0.mk hpk
      have HTT : T x y = decide (cf x y < 0) := by rw [← HT.out]
      generalize hv : cf x y = v at *
      have HCALL := Aside0.mk hcall
      have HV := Aside0.mk hv
      clear hy0 hy1 hx0 hx1 hcall hwj hpk e' hv
      cases htb : T x y with
      | true =>
        rw [htb] at HTT
        have hvb : decide (v < 0) = true := HTT.symm
        have HPK2 := Aside0.mk (show pickAt T l0 (j + 1) = x by rw [HPK.out, htb]; rfl)
        clear HTT HPK htb
        go_wp2
        refine start_ (n := 8) (S := fun w' => w'.cell? (ad.add (kk * 2)) = some (.int .i64 x.f0) ∧ w'.cell? ⟨(ad.add (kk * 2)).block, (ad.add (kk * 2)).off + 1, none⟩ = some (.int .i64 x.f1) ∧ w'.cell? ⟨w.heap.size + 1, 0, none⟩ = some (.int .i64 y.f0) ∧ w'.cell? ⟨w.heap.size + 1, 1, none⟩ = some (.int .i64 y.f1)) (ds := [6]) #[false, false, false, false, false, false, false, false] (by kernel_rfl) rfl rfl ⟨P1.out, P2.out, P3.out, P4.out⟩ (fun hHeld => ?_)
        refine pure_ (i := 0) (N := some 20) (v := ?_) (a' := ?_) #[true, false, false, false, false, false, false, false] rfl rfl (by kernel_rfl) (fun _ _ _ h => h) (Or.inl ⟨by rfl, ?_⟩) ?_ ?_
        rotate_left
        · intro w'
          go_simp
          with_reducible rfl
        rotate_left
        · simp only [Act.put, List.setIfInBounds_toArray, List.set_cons_zero, List.set_cons_succ, i64_w, i32_w]
          rfl
        refine pure_ (i := 1) (N := some 21) (v := ?_) (a' := ?_) #[true, true, false, false, false, false, false, false] rfl rfl (by kernel_rfl) (fun _ _ _ h => h) (Or.inl ⟨by rfl, ?_⟩) ?_ ?_
        rotate_left
        · intro w'
          go_simp
          with_reducible rfl
        rotate_left
        · simp only [Act.put, List.setIfInBounds_toArray, List.set_cons_zero, List.set_cons_succ, i64_w, i32_w]
          rfl
        refine pure_ (i := 2) (N := some 22) (v := ?_) (a' := ?_) #[true, true, true, false, false, false, false, false] rfl rfl (by kernel_rfl) (fun _ _ _ h => h) (Or.inl ⟨by rfl, ?_⟩) ?_ ?_
        rotate_left
        · intro w'
          go_simp
          with_reducible rfl
        rotate_left
        · simp only [Act.put, List.setIfInBounds_toArray, List.set_cons_zero, List.set_cons_succ, i64_w, i32_w]
          rfl
        refine pure_ (i := 3) (N := some 23) (v := ?_) (a' := ?_) #[true, true, true, true, false, false, false, false] rfl rfl (by kernel_rfl) (fun _ _ _ h => h) (Or.inl ⟨by rfl, ?_⟩) ?_ ?_
        rotate_left
        · intro w'
          go_simp
          with_reducible rfl
        rotate_left
        · simp only [Act.put, List.setIfInBounds_toArray, List.set_cons_zero, List.set_cons_succ, i64_w, i32_w]
          rfl
        refine take_ (i := 4) (N := some 24) (v := ?_) (a' := ?_) #[true, true, true, true, true, false, false, false] rfl rfl (by kernel_rfl) (fun _ _ _ h => h) (Or.inl ⟨by rfl, ?_⟩) hHeld ?_ ?_
        rotate_left
        · rintro w' ⟨s0, s1, s2, s3⟩
          go_simp
          with_reducible rfl
        rotate_left
        · simp only [Act.put, List.setIfInBounds_toArray, List.set_cons_zero, List.set_cons_succ, i64_w, i32_w]
          rfl
        refine take_ (i := 5) (N := some 25) (v := ?_) (a' := ?_) #[true, true, true, true, true, true, false, false] rfl rfl (by kernel_rfl) (fun _ _ _ h => h) (Or.inl ⟨by rfl, ?_⟩) hHeld ?_ ?_
        rotate_left
        · rintro w' ⟨s0, s1, s2, s3⟩
          go_simp
          with_reducible rfl
        rotate_left
        · simp only [Act.put, List.setIfInBounds_toArray, List.set_cons_zero, List.set_cons_succ, i64_w, i32_w]
          rfl
        refine last_ (i := 6) (N := some 26) #[true, true, true, true, true, true, true, false] rfl rfl (by kernel_rfl) (by decide) (fun K hK => ?_)
        refine goesv_ lb #[.agg #[.int .i64 x.f0, .int .i64 x.f1], .agg #[.int .i64 y.f0, .int .i64 y.f1]] eg (by rfl) rfl rfl (by rfl) (by simp only [List.map_toArray, List.map_cons, List.map_nil]; rfl) ?_
        refine HCALL.out.mono ?_
        rintro e w3 ⟨rfl, hk3⟩
        refine ⟨_, rfl, ?_⟩
        refine hK.out _ _ ?_
        clear hK K
        refine norm_ (a' := ?_) ?_ ?_
        rotate_left
        · show Act.put _ (some 26) _ = _
          simp only [Act.put, List.setIfInBounds_toArray, List.set_cons_zero, List.set_cons_succ, i64_w, i32_w]
          rfl
        refine pure_ (i := 7) (N := some 27) (v := ?_) (a' := ?_) #[true, true, true, true, true, true, true, true] rfl rfl (by kernel_rfl) (fun _ _ _ h => h) (Or.inl ⟨by rfl, ?_⟩) ?_ ?_
        rotate_left
        · intro w'
          go_simp
          with_reducible rfl
        rotate_left
        · simp only [Act.put, List.setIfInBounds_toArray, List.set_cons_zero, List.set_cons_succ, i64_w, i32_w]
          rfl
        refine done_ (by kernel_rfl) ?_
        have q1 := (hk3.cell (World.block_lt_of_cell? _ _ P1.out)).trans P1.out
        have q2 := (hk3.cell (World.block_lt_of_cell? _ _ P2.out)).trans P2.out
        have BM3 := blk_below (blk_drew BM.out) hk3
        have B43 := Aside0.mk (blk_below (blk_drew B4.out) hk3)
        have HB3 := Aside0.mk (below_step (below_drew1 HB.out) hk3)
        have r1 := (blk_cell BM3 0).trans rfl
        have r2 := blk_frozen BM3 0
        have r3 := (blk_cell (blk_set BM3 0 (.int .i64 x.f0)) 1).trans rfl
        have r4 := blk_frozen (blk_set BM3 0 (.int .i64 x.f0)) 1
        have BM3 := Aside0.mk BM3
        clear hk3
        go_wp2
        go_roundg (l0.length - (kk + 1))
        case measure => omega
        case rel => exact ⟨j + 1, kk + 1, ⟨by rw [HK.out]⟩, by omega, by omega, congrArg (Value.int .i64) HW.out, ⟨below_set (below_set HB3.out (by omega)) (by omega)⟩, ⟨blk_far (blk_far B43.out (by simp) _) (by simp) _⟩, ⟨by rw [HPK2.out]; exact blk_set (blk_set BM3.out 0 _) 1 _⟩⟩
      | false =>
        rw [htb] at HTT
        have hvb : decide (v < 0) = false := HTT.symm
        have HPK2 := Aside0.mk (show pickAt T l0 (j + 1) = y by rw [HPK.out, htb]; rfl)
        clear HTT HPK htb
        go_wp2
        refine start_ (n := 8) (S := fun w' => w'.cell? (ad.add (kk * 2)) = some (.int .i64 x.f0) ∧ w'.cell? ⟨(ad.add (kk * 2)).block, (ad.add (kk * 2)).off + 1, none⟩ = some (.int .i64 x.f1) ∧ w'.cell? ⟨w.heap.size + 1, 0, none⟩ = some (.int .i64 y.f0) ∧ w'.cell? ⟨w.heap.size + 1, 1, none⟩ = some (.int .i64 y.f1)) (ds := [6]) #[false, false, false, false, false, false, false, false] (by kernel_rfl) rfl rfl ⟨P1.out, P2.out, P3.out, P4.out⟩ (fun hHeld => ?_)
        refine pure_ (i := 0) (N := some 20) (v := ?_) (a' := ?_) #[true, false, false, false, false, false, false, false] rfl rfl (by kernel_rfl) (fun _ _ _ h => h) (Or.inl ⟨by rfl, ?_⟩) ?_ ?_
        rotate_left
        · intro w'
          go_simp
          with_reducible rfl
        rotate_left
        · simp only [Act.put, List.setIfInBounds_toArray, List.set_cons_zero, List.set_cons_succ, i64_w, i32_w]
          rfl
        refine pure_ (i := 1) (N := some 21) (v := ?_) (a' := ?_) #[true, true, false, false, false, false, false, false] rfl rfl (by kernel_rfl) (fun _ _ _ h => h) (Or.inl ⟨by rfl, ?_⟩) ?_ ?_
        rotate_left
        · intro w'
          go_simp
          with_reducible rfl
        rotate_left
        · simp only [Act.put, List.setIfInBounds_toArray, List.set_cons_zero, List.set_cons_succ, i64_w, i32_w]
          rfl
        refine pure_ (i := 2) (N := some 22) (v := ?_) (a' := ?_) #[true, true, true, false, false, false, false, false] rfl rfl (by kernel_rfl) (fun _ _ _ h => h) (Or.inl ⟨by rfl, ?_⟩) ?_ ?_
        rotate_left
        · intro w'
          go_simp
          with_reducible rfl
        rotate_left
        · simp only [Act.put, List.setIfInBounds_toArray, List.set_cons_zero, List.set_cons_succ, i64_w, i32_w]
          rfl
        refine pure_ (i := 3) (N := some 23) (v := ?_) (a' := ?_) #[true, true, true, true, false, false, false, false] rfl rfl (by kernel_rfl) (fun _ _ _ h => h) (Or.inl ⟨by rfl, ?_⟩) ?_ ?_
        rotate_left
        · intro w'
          go_simp
          with_reducible rfl
        rotate_left
        · simp only [Act.put, List.setIfInBounds_toArray, List.set_cons_zero, List.set_cons_succ, i64_w, i32_w]
          rfl
        refine take_ (i := 4) (N := some 24) (v := ?_) (a' := ?_) #[true, true, true, true, true, false, false, false] rfl rfl (by kernel_rfl) (fun _ _ _ h => h) (Or.inl ⟨by rfl, ?_⟩) hHeld ?_ ?_
        rotate_left
        · rintro w' ⟨s0, s1, s2, s3⟩
          go_simp
          with_reducible rfl
        rotate_left
        · simp only [Act.put, List.setIfInBounds_toArray, List.set_cons_zero, List.set_cons_succ, i64_w, i32_w]
          rfl
        refine take_ (i := 5) (N := some 25) (v := ?_) (a' := ?_) #[true, true, true, true, true, true, false, false] rfl rfl (by kernel_rfl) (fun _ _ _ h => h) (Or.inl ⟨by rfl, ?_⟩) hHeld ?_ ?_
        rotate_left
        · rintro w' ⟨s0, s1, s2, s3⟩
          go_simp
          with_reducible rfl
        rotate_left
        · simp only [Act.put, List.setIfInBounds_toArray, List.set_cons_zero, List.set_cons_succ, i64_w, i32_w]
          rfl
        refine last_ (i := 6) (N := some 26) #[true, true, true, true, true, true, true, false] rfl rfl (by kernel_rfl) (by decide) (fun K hK => ?_)
        refine goesv_ lb #[.agg #[.int .i64 x.f0, .int .i64 x.f1], .agg #[.int .i64 y.f0, .int .i64 y.f1]] eg (by rfl) rfl rfl (by rfl) (by simp only [List.map_toArray, List.map_cons, List.map_nil]; rfl) ?_
        refine HCALL.out.mono ?_
        rintro e w3 ⟨rfl, hk3⟩
        refine ⟨_, rfl, ?_⟩
        refine hK.out _ _ ?_
        clear hK K
        refine norm_ (a' := ?_) ?_ ?_
        rotate_left
        · show Act.put _ (some 26) _ = _
          simp only [Act.put, List.setIfInBounds_toArray, List.set_cons_zero, List.set_cons_succ, i64_w, i32_w]
          rfl
        refine pure_ (i := 7) (N := some 27) (v := ?_) (a' := ?_) #[true, true, true, true, true, true, true, true] rfl rfl (by kernel_rfl) (fun _ _ _ h => h) (Or.inl ⟨by rfl, ?_⟩) ?_ ?_
        rotate_left
        · intro w'
          go_simp
          with_reducible rfl
        rotate_left
        · simp only [Act.put, List.setIfInBounds_toArray, List.set_cons_zero, List.set_cons_succ, i64_w, i32_w]
          rfl
        refine done_ (by kernel_rfl) ?_
        have BM3 := Aside0.mk (blk_below (blk_drew BM.out) hk3)
        have B43 := Aside0.mk (blk_below (blk_drew B4.out) hk3)
        have HB3 := Aside0.mk (below_step (below_drew1 HB.out) hk3)
        clear hk3
        go_wp2
        go_roundg (l0.length - (kk + 1))
        case measure => omega
        case rel => exact ⟨j + 1, kk + 1, ⟨by rw [HK.out]⟩, by omega, by omega, congrArg (Value.int .i64) HW.out, ⟨HB3.out⟩, ⟨B43.out⟩, ⟨by rw [HPK2.out]; exact BM3.out⟩⟩
    · have hlti : ¬ (kk : Int) < (l0.length : Int) := by omega
      have hjl : l0.length - 1 = j := by have := HK.out; omega
      have hy : pickAt T l0 j = y := by have := HM.out; rw [hjl] at this; exact this
      rw [hy] at BM
      have r1 := (blk_cell BM.out 0).trans rfl
      have r2 := (blk_cell BM.out 1).trans rfl
      have r3 := (blk_cell B4.out 0).trans rfl
      have r4 := blk_frozen B4.out 0
      have r5 := (blk_cell (blk_set B4.out 0 (.int .i64 y.f0)) 1).trans rfl
      have r6 := blk_frozen (blk_set B4.out 0 (.int .i64 y.f0)) 1
      clear hjl hy
      go_wp2
      refine bodyPost_ret (results_cell_row rfl _ _ w.heap.size 33 #[.int .i64 y.f0, .int .i64 y.f1] (0, 0) _ rfl (blk_set (blk_set B4.out 0 _) 1 _) Try.underlying33 rfl (by kernel_rfl)) rfl ?_
      exact ⟨rfl, below_set (below_set HB.out (Nat.le_refl _)) (Nat.le_refl _)⟩

/-! ### api_Point_65: function 65 (by hand) -/
set_option maxHeartbeats 4000000 in
set_option maxRecDepth 100000 in
theorem MaxFunc_pts (g : Nat) (lb : Array Value) (cf : S33 → S33 → Int) (eg : ∀ args w, (callFunc g args).run Try.prog w = .ok (.enter g args) w) (A0 : Option Addr) (c0 : Nat) (l0 : List S33) (w : World)
    (hp : ∀ (W : World) (x y : S33), Below w.heap.size w W → Calls Try.prog g (#[.agg #[.int .i64 x.f0, .int .i64 x.f1], .agg #[.int .i64 y.f0, .int .i64 y.f1]] ++ lb) W fun e w' => e = .returned (.int .i64 (cf x y)) ∧ Below W.heap.size W w')
    (hr0 : Kd.C k33 w A0 l0.length l0) (hlen : l0.length ≤ 1000000000) (h1 : 1 ≤ l0.length) :
    Calls Try.prog 65 #[.slice A0 l0.length c0, .func (.func g) #[] lb] w fun e w' => e = .returned (.agg #[.int .i64 (pickAt (fun x m => decide (0 < cf x m)) l0 (l0.length - 1)).f0, .int .i64 (pickAt (fun x m => decide (0 < cf x m)) l0 (l0.length - 1)).f1]) ∧ Below w.heap.size w w' := by
  have hu := Try.underlying33
  have HR0 := Aside0.mk hr0
  have HP := Aside0.mk hp
  have HL := Aside0.mk hlen
  have H1 := Aside0.mk h1
  have h1b : decide ((l0.length : Int) < 1) = false := decide_eq_false (by omega)
  have h0i : (0 : Int) < (l0.length : Int) := by omega
  have h0n : 0 < l0.length := by omega
  have hne : ¬ (l0 = []) := by rintro rfl; simp at h0n
  obtain ⟨ad, rfl, hx0, hx1⟩ := at_T33 hr0 0 (by omega) h0i
  simp only [Int.toNat_zero, Nat.zero_mul] at hx0 hx1
  have hz0 : (w.alloc (.cells #[.int .i64 0, .int .i64 0] 33)).cell? ad = some (.int .i64 (rd_T33 l0 0).f0) := (World.cell?_alloc_lt w (.cells #[.int .i64 0, .int .i64 0] 33) _ (World.block_lt_of_cell? w _ hx0)).trans hx0
  have hz1 : (w.alloc (.cells #[.int .i64 0, .int .i64 0] 33)).cell? ⟨ad.block, ad.off + 1, none⟩ = some (.int .i64 (rd_T33 l0 0).f1) := (World.cell?_alloc_lt w (.cells #[.int .i64 0, .int .i64 0] 33) _ (World.block_lt_of_cell? w _ hx1)).trans hx1
  generalize hT : (fun x m => decide (0 < cf x m)) = T
  have HT := Aside0.mk hT
  clear hp hr0 hlen h1 hx0 hx1 hT
  obtain ⟨y, hmm⟩ : ∃ mm, pickAt T l0 (l0.length - 1) = mm := ⟨_, rfl⟩
  rw [hmm]
  have HM := Aside0.mk hmm
  clear hmm
  go_enter Try.func65, Try.ntmps65
  go_wp2
  go_loopg [6] l0.length (fun gg s6 wr => ∃ j kk : Nat, Aside0 (kk = j + 1) ∧ kk ≤ l0.length ∧ l0.length ≤ gg + kk ∧ s6 = .int .i64 kk ∧ Aside0 (Below w.heap.size w wr) ∧ Aside0 (wr.heap[w.heap.size]? = some (.cells #[.int .i64 0, .int .i64 0] 33 (0, 0))) ∧ Aside0 (wr.heap[w.heap.size + 1]? = some (.cells #[.int .i64 (pickAt T l0 j).f0, .int .i64 (pickAt T l0 j).f1] 33 (0, 0))))
  case atStart => exact ⟨0, 1, ⟨rfl⟩, by have := H1.out; omega, by omega, rfl, ⟨below_alloc (below_alloc (Below.refl w.heap.size w) _) _⟩, ⟨blk_alloc (blk_new w _) _⟩, ⟨by have h := blk_new (w.alloc (.cells #[.int .i64 0, .int .i64 0] 33)) (.cells #[.int .i64 (rd_T33 l0 0).f0, .int .i64 (rd_T33 l0 0).f1] 33); simp only [World.size_alloc] at h; exact h⟩⟩
  case round =>
    obtain ⟨j, kk, HK, hj, hg, rfl, HB, B4, BM⟩ := hrel
    by_cases hlt : kk < l0.length
    · have hlti : (kk : Int) < (l0.length : Int) := by omega
      have hk0 : 0 ≤ (kk : Int) := by omega
      obtain ⟨ad', e', hy0, hy1⟩ := at_T33 HR0.out (kk : Int) (by omega) hlti
      obtain rfl : ad = ad' := by injection e'
      simp only [Int.toNat_natCast] at hy0 hy1
      have hx0 := (HB.out.cell (World.block_lt_of_cell? w _ hy0)).trans hy0
      have hx1 := (HB.out.cell (World.block_lt_of_cell? w _ hy1)).trans hy1
      have hpk : pickAt T l0 (j + 1) = if T (rd_T33 l0 (kk : Int)) (pickAt T l0 j) then rd_T33 l0 (kk : Int) else pickAt T l0 j := by rw [HK.out]; rfl
      generalize rd_T33 l0 (kk : Int) = x at *
      generalize pickAt T l0 j = y at *
      have P1 := Aside0.mk (show wr.drew.cell? (ad.add (kk * 2)) = some (.int .i64 x.f0) from hx0)
      have P2 := Aside0.mk (show wr.drew.cell? ⟨(ad.add (kk * 2)).block, (ad.add (kk * 2)).off + 1, none⟩ = some (.int .i64 x.f1) from hx1)
      have P3 := Aside0.mk (show wr.drew.cell? ⟨w.heap.size + 1, 0, none⟩ = some (.int .i64 y.f0) from (blk_cell BM.out 0).trans rfl)
      have P4 := Aside0.mk (show wr.drew.cell? ⟨w.heap.size + 1, 1, none⟩ = some (.int .i64 y.f1) from (blk_cell BM.out 1).trans rfl)
      have hcall := HP.out wr.drew x y (below_drew1 HB.out)
      have hwj : wrap64 ((kk : Int) + 1) = ((kk + 1 : Nat) : Int) := by have := HL.out; unfold wrap64; omega
      have HW := Aside0.mk hwj
      have HPK := Aside0.mk hpk
      have HTT : T x y = decide (0 < cf x y) := by rw [← HT.out]
      generalize hv : cf x y = v at *
      have HCALL := Aside0.mk hcall
      have HV := Aside0.mk hv
      clear hy0 hy1 hx0 hx1 hcall hwj hpk e' hv
      cases htb : T x y with
      | true =>
        rw [htb] at HTT
        have hvb : decide (0 < v) = true := HTT.symm
        have HPK2 := Aside0.mk (show pickAt T l0 (j + 1) = x by rw [HPK.out, htb]; rfl)
        clear HTT HPK htb
        go_wp2
        refine start_ (n := 8) (S := fun w' => w'.cell? (ad.add (kk * 2)) = some (.int .i64 x.f0) ∧ w'.cell? ⟨(ad.add (kk * 2)).block, (ad.add (kk * 2)).off + 1, none⟩ = some (.int .i64 x.f1) ∧ w'.cell? ⟨w.heap.size + 1, 0, none⟩ = some (.int .i64 y.f0) ∧ w'.cell? ⟨w.heap.size + 1, 1, none⟩ = some (.int .i64 y.f1)) (ds := [6]) #[false, false, false, false, false, false, false, false] (by kernel_rfl) rfl rfl ⟨P1.out, P2.out, P3.out, P4.out⟩ (fun hHeld => ?_)
        refine pure_ (i := 0) (N := some 20) (v := ?_) (a' := ?_) #[true, false, false, false, false, false, false, false] rfl rfl (by kernel_rfl) (fun _ _ _ h => h) (Or.inl ⟨by rfl, ?_⟩) ?_ ?_
        rotate_left
        · intro w'
          go_simp
          with_reducible rfl
        rotate_left
        · simp only [Act.put, List.setIfInBounds_toArray, List.set_cons_zero, List.set_cons_succ, i64_w, i32_w]
          rfl
        refine pure_ (i := 1) (N := some 21) (v := ?_) (a' := ?_) #[true, true, false, false, false, false, false, false] rfl rfl (by kernel_rfl) (fun _ _ _ h => h) (Or.inl ⟨by rfl, ?_⟩) ?_ ?_
        rotate_left
        · intro w'
          go_simp
          with_reducible rfl
        rotate_left
        · simp only [Act.put, List.setIfInBounds_toArray, List.set_cons_zero, List.set_cons_succ, i64_w, i32_w]
          rfl
        refine pure_ (i := 2) (N := some 22) (v := ?_) (a' := ?_) #[true, true, true, false, false, false, false, false] rfl rfl (by kernel_rfl) (fun _ _ _ h => h) (Or.inl ⟨by rfl, ?_⟩) ?_ ?_
        rotate_left
        · intro w'
          go_simp
          with_reducible rfl
        rotate_left
        · simp only [Act.put, List.setIfInBounds_toArray, List.set_cons_zero, List.set_cons_succ, i64_w, i32_w]
          rfl
        refine pure_ (i := 3) (N := some 23) (v := ?_) (a' := ?_) #[true, true, true, true, false, false, false, false] rfl rfl (by kernel_rfl) (fun _ _ _ h => h) (Or.inl ⟨by rfl, ?_⟩) ?_ ?_
        rotate_left
        · intro w'
          go_simp
          with_reducible rfl
        rotate_left
        · simp only [Act.put, List.setIfInBounds_toArray, List.set_cons_zero, List.set_cons_succ, i64_w, i32_w]
          rfl
        refine take_ (i := 4) (N := some 24) (v := ?_) (a' := ?_) #[true, true, true, true, true, false, false, false] rfl rfl (by kernel_rfl) (fun _ _ _ h => h) (Or.inl ⟨by rfl, ?_⟩) hHeld ?_ ?_
        rotate_left
        · rintro w' ⟨s0, s1, s2, s3⟩
          go_simp
          with_reducible rfl
        rotate_left
        · simp only [Act.put, List.setIfInBounds_toArray, List.set_cons_zero, List.set_cons_succ, i64_w, i32_w]
          rfl
        refine take_ (i := 5) (N := some 25) (v := ?_) (a' := ?_) #[true, true, true, true, true, true, false, false] rfl rfl (by kernel_rfl) (fun _ _ _ h => h) (Or.inl ⟨by rfl, ?_⟩) hHeld ?_ ?_
        rotate_left
        · rintro w' ⟨s0, s1, s2, s3⟩
          go_simp
          with_reducible rfl
        rotate_left
        · simp only [Act.put, List.setIfInBounds_toArray, List.set_cons_zero, List.set_cons_succ, i64_w, i32_w]
          rfl
        refine last_ (i := 6) (N := some 26) #[true, true, true, true, true, true, true, false] rfl rfl (by kernel_rfl) (by decide) (fun K hK => ?_)
        refine goesv_ lb #[.agg #[.int .i64 x.f0, .int .i64 x.f1], .agg #[.int .i64 y.f0, .int .i64 y.f1]] eg (by rfl) rfl rfl (by rfl) (by simp only [List.map_toArray, List.map_cons, List.map_nil]; rfl) ?_
        refine HCALL.out.mono ?_
        rintro e w3 ⟨rfl, hk3⟩
        refine ⟨_, rfl, ?_⟩
        refine hK.out _ _ ?_
        clear hK K
        refine norm_ (a' := ?_) ?_ ?_
        rotate_left
        · show Act.put _ (some 26) _ = _
          simp only [Act.put, List.setIfInBounds_toArray, List.set_cons_zero, List.set_cons_succ, i64_w, i32_w]
          rfl
        refine pure_ (i := 7) (N := some 27) (v := ?_) (a' := ?_) #[true, true, true, true, true, true, true, true] rfl rfl (by kernel_rfl) (fun _ _ _ h => h) (Or.inl ⟨by rfl, ?_⟩) ?_ ?_
        rotate_left
        · intro w'
          go_simp
          with_reducible rfl
        rotate_left
        · simp only [Act.put, List.setIfInBounds_toArray, List.set_cons_zero, List.set_cons_succ, i64_w, i32_w]
          rfl
        refine done_ (by kernel_rfl) ?_
        have q1 := (hk3.cell (World.block_lt_of_cell? _ _ P1.out)).trans P1.out
        have q2 := (hk3.cell (World.block_lt_of_cell? _ _ P2.out)).trans P2.out
        have BM3 := blk_below (blk_drew BM.out) hk3
        have B43 := Aside0.mk (blk_below (blk_drew B4.out) hk3)
        have HB3 := Aside0.mk (below_step (below_drew1 HB.out) hk3)
        have r1 := (blk_cell BM3 0).trans rfl
        have r2 := blk_frozen BM3 0
        have r3 := (blk_cell (blk_set BM3 0 (.int .i64 x.f0)) 1).trans rfl
        have r4 := blk_frozen (blk_set BM3 0 (.int .i64 x.f0)) 1
        have BM3 := Aside0.mk BM3
        clear hk3
        go_wp2
        go_roundg (l0.length - (kk + 1))
        case measure => omega
        case rel => exact ⟨j + 1, kk + 1, ⟨by rw [HK.out]⟩, by omega, by omega, congrArg (Value.int .i64) HW.out, ⟨below_set (below_set HB3.out (by omega)) (by omega)⟩, ⟨blk_far (blk_far B43.out (by simp) _) (by simp) _⟩, ⟨by rw [HPK2.out]; exact blk_set (blk_set BM3.out 0 _) 1 _⟩⟩
      | false =>
        rw [htb] at HTT
        have hvb : decide (0 < v) = false := HTT.symm
        have HPK2 := Aside0.mk (show pickAt T l0 (j + 1) = y by rw [HPK.out, htb]; rfl)
        clear HTT HPK htb
        go_wp2
        refine start_ (n := 8) (S := fun w' => w'.cell? (ad.add (kk * 2)) = some (.int .i64 x.f0) ∧ w'.cell? ⟨(ad.add (kk * 2)).block, (ad.add (kk * 2)).off + 1, none⟩ = some (.int .i64 x.f1) ∧ w'.cell? ⟨w.heap.size + 1, 0, none⟩ = some (.int .i64 y.f0) ∧ w'.cell? ⟨w.heap.size + 1, 1, none⟩ = some (.int .i64 y.f1)) (ds := [6]) #[false, false, false, false, false, false, false, false] (by kernel_rfl) rfl rfl ⟨P1.out, P2.out, P3.out, P4.out⟩ (fun hHeld => ?_)
        refine pure_ (i := 0) (N := some 20) (v := ?_) (a' := ?_) #[true, false, false, false, false, false, false, false] rfl rfl (by kernel_rfl) (fun _ _ _ h => h) (Or.inl ⟨by rfl, ?_⟩) ?_ ?_
        rotate_left
        · intro w'
          go_simp
          with_reducible rfl
        rotate_left
        · simp only [Act.put, List.setIfInBounds_toArray, List.set_cons_zero, List.set_cons_succ, i64_w, i32_w]
          rfl
        refine pure_ (i := 1) (N := some 21) (v := ?_) (a' := ?_) #[true, true, false, false, false, false, false, false] rfl rfl (by kernel_rfl) (fun _ _ _ h => h) (Or.inl ⟨by rfl, ?_⟩) ?_ ?_
        rotate_left
        · intro w'
          go_simp
          with_reducible rfl
        rotate_left
        · simp only [Act.put, List.setIfInBounds_toArray, List.set_cons_zero, List.set_cons_succ, i64_w, i32_w]
          rfl
        refine pure_ (i := 2) (N := some 22) (v := ?_) (a' := ?_) #[true, true, true, false, false, false, false, false] rfl rfl (by kernel_rfl) (fun _ _ _ h => h) (Or.inl ⟨by rfl, ?_⟩) ?_ ?_
        rotate_left
        · intro w'
          go_simp
          with_reducible rfl
        rotate_left
        · simp only [Act.put, List.setIfInBounds_toArray, List.set_cons_zero, List.set_cons_succ, i64_w, i32_w]
          rfl
        refine pure_ (i := 3) (N := some 23) (v := ?_) (a' := ?_) #[true, true, true, true, false, false, false, false] rfl rfl (by kernel_rfl) (fun _ _ _ h => h) (Or.inl ⟨by rfl, ?_⟩) ?_ ?_
        rotate_left
        · intro w'
          go_simp
          with_reducible rfl
        rotate_left
        · simp only [Act.put, List.setIfInBounds_toArray, List.set_cons_zero, List.set_cons_succ, i64_w, i32_w]
          rfl
        refine take_ (i := 4) (N := some 24) (v := ?_) (a' := ?_) #[true, true, true, true, true, false, false, false] rfl rfl (by kernel_rfl) (fun _ _ _ h => h) (Or.inl ⟨by rfl, ?_⟩) hHeld ?_ ?_
        rotate_left
        · rintro w' ⟨s0, s1, s2, s3⟩
          go_simp
          with_reducible rfl
        rotate_left
        · simp only [Act.put, List.setIfInBounds_toArray, List.set_cons_zero, List.set_cons_succ, i64_w, i32_w]
          rfl
        refine take_ (i := 5) (N := some 25) (v := ?_) (a' := ?_) #[true, true, true, true, true, true, false, false] rfl rfl (by kernel_rfl) (fun _ _ _ h => h) (Or.inl ⟨by rfl, ?_⟩) hHeld ?_ ?_
        rotate_left
        · rintro w' ⟨s0, s1, s2, s3⟩
          go_simp
          with_reducible rfl
        rotate_left
        · simp only [Act.put, List.setIfInBounds_toArray, List.set_cons_zero, List.set_cons_succ, i64_w, i32_w]
          rfl
        refine last_ (i := 6) (N := some 26) #[true, true, true, true, true, true, true, false] rfl rfl (by kernel_rfl) (by decide) (fun K hK => ?_)
        refine goesv_ lb #[.agg #[.int .i64 x.f0, .int .i64 x.f1], .agg #[.int .i64 y.f0, .int .i64 y.f1]] eg (by rfl) rfl rfl (by rfl) (by simp only [List.map_toArray, List.map_cons, List.map_nil]; rfl) ?_
        refine HCALL.out.mono ?_
        rintro e w3 ⟨rfl, hk3⟩
        refine ⟨_, rfl, ?_⟩
        refine hK.out _ _ ?_
        clear hK K
        refine norm_ (a' := ?_) ?_ ?_
        rotate_left
        · show Act.put _ (some 26) _ = _
          simp only [Act.put, List.setIfInBounds_toArray, List.set_cons_zero, List.set_cons_succ, i64_w, i32_w]
          rfl
        refine pure_ (i := 7) (N := some 27) (v := ?_) (a' := ?_) #[true, true, true, true, true, true, true, true] rfl rfl (by kernel_rfl) (fun _ _ _ h => h) (Or.inl ⟨by rfl, ?_⟩) ?_ ?_
        rotate_left
        · intro w'
          go_simp
          with_reducible rfl
        rotate_left
        · simp only [Act.put, List.setIfInBounds_toArray, List.set_cons_zero, List.set_cons_succ, i64_w, i32_w]
          rfl
        refine done_ (by kernel_rfl) ?_
        have BM3 := Aside0.mk (blk_below (blk_drew BM.out) hk3)
        have B43 := Aside0.mk (blk_below (blk_drew B4.out) hk3)
        have HB3 := Aside0.mk (below_step (below_drew1 HB.out) hk3)
        clear hk3
        go_wp2
        go_roundg (l0.length - (kk + 1))
        case measure => omega
        case rel => exact ⟨j + 1, kk + 1, ⟨by rw [HK.out]⟩, by omega, by omega, congrArg (Value.int .i64) HW.out, ⟨HB3.out⟩, ⟨B43.out⟩, ⟨by rw [HPK2.out]; exact BM3.out⟩⟩
    · have hlti : ¬ (kk : Int) < (l0.length : Int) := by omega
      have hjl : l0.length - 1 = j := by have := HK.out; omega
      have hy : pickAt T l0 j = y := by have := HM.out; rw [hjl] at this; exact this
      rw [hy] at BM
      have r1 := (blk_cell BM.out 0).trans rfl
      have r2 := (blk_cell BM.out 1).trans rfl
      have r3 := (blk_cell B4.out 0).trans rfl
      have r4 := blk_frozen B4.out 0
      have r5 := (blk_cell (blk_set B4.out 0 (.int .i64 y.f0)) 1).trans rfl
      have r6 := blk_frozen (blk_set B4.out 0 (.int .i64 y.f0)) 1
      clear hjl hy
      go_wp2
      refine bodyPost_ret (results_cell_row rfl _ _ w.heap.size 33 #[.int .i64 y.f0, .int .i64 y.f1] (0, 0) _ rfl (blk_set (blk_set B4.out 0 _) 1 _) Try.underlying33 rfl (by kernel_rfl)) rfl ?_
      exact ⟨rfl, below_set (below_set HB.out (Nat.le_refl _)) (Nat.le_refl _)⟩

/-! ### fleuronlaw18_few: function 12 -/
def fleuronlaw18_few.l0 : Nat → Int → Int → List (List (S33)) → Int → Int → Option (Bool)
  | 0, _, _, _, _, _ => none
  | k + 1, x0, x5, x8, x9, x10 => if x10 < x9 then (if 0 ≤ x10 then (if x10 < (x8.length : Int) then (if (wrap64 (x5 + ((rd_L2 x8 x10).length : Int))) > x0 then (some false) else (fleuronlaw18_few.l0 k x0 (wrap64 (x5 + ((rd_L2 x8 x10).length : Int))) x8 x9 (wrap64 (x10 + 1)))) else (none)) else (none)) else (some true)
def fleuronlaw18_few.f (k : Nat) (a0 : Int) (l1 : List (List (S33))) : Option (Bool) := fleuronlaw18_few.l0 k a0 0 l1 (l1.length : Int) 0
theorem fleuronlaw18_few.mono_l : ∀ k, (∀ y0 y1 y2 y3 y4, LeO (fleuronlaw18_few.l0 k y0 y1 y2 y3 y4) (fleuronlaw18_few.l0 (k + 1) y0 y1 y2 y3 y4))
  | 0 => fun _ _ _ _ _ r h => by simp [fleuronlaw18_few.l0] at h
  | k + 1 => by
    have ih0 := fleuronlaw18_few.mono_l k
    · intro y0 y1 y2 y3 y4
      unfold fleuronlaw18_few.l0
      repeat' first
      | (with_reducible exact ih0 _ _ _ _ _)
      | (with_reducible exact LeO.refl _)
      | (with_reducible exact LeO.none _)
      | (with_reducible refine LeO.ite ?_ ?_)
      | (with_reducible refine LeO.bind ?_ (fun _ => ?_))
      | exact ih0 _ _ _ _ _
      | exact LeO.none _
      | refine LeO.ite ?_ ?_
      | refine LeO.bind ?_ (fun _ => ?_)
theorem fleuronlaw18_few.mono : ∀ a0 a1 k, LeO (fleuronlaw18_few.f k a0 a1) (fleuronlaw18_few.f (k + 1) a0 a1) := by
  intro a0 a1 k
  have ih0 := fleuronlaw18_few.mono_l k
  unfold fleuronlaw18_few.f
  repeat' first
      | (with_reducible exact ih0 _ _ _ _ _)
      | (with_reducible exact LeO.refl _)
      | (with_reducible exact LeO.none _)
      | (with_reducible refine LeO.ite ?_ ?_)
      | (with_reducible refine LeO.bind ?_ (fun _ => ?_))
      | exact ih0 _ _ _ _ _
      | exact LeO.none _
      | refine LeO.ite ?_ ?_
      | refine LeO.bind ?_ (fun _ => ?_)
set_option maxHeartbeats 8000000 in
set_option maxRecDepth 100000 in
theorem fleuronlaw18_few.calls (k : Nat) (a0 : Int) (A1 : Option Addr) (c1 : Nat) (l1 : List (List (S33))) (r : Bool) (w : World) (hr1 : Kd.C (Kd.slice 33 k33) w A1 l1.length l1) (hc1 : l1.length ≤ c1) (h : fleuronlaw18_few.f k a0 l1 = some r) :
    Calls Try.prog 12 #[.int .i64 a0, .slice A1 l1.length c1] w fun e w' => e = .returned (.bool r) ∧ Drawn0 w w' := by
  have HR1 := Aside0.mk hr1
  have HC1 := Aside0.mk hc1
  clear hr1 hc1
  have H : (fleuronlaw18_few.l0 k a0 0 l1 (l1.length : Int) 0) = some r := h
  clear h
  have H' := Aside0.mk H
  clear H
  go_enter Try.func12, Try.ntmps12
  go_wp2
  go_loopg [5, 10] k (fun kq v5 v10 w' => ∃ (x5_1 : Int) (x10_1 : Int), v5 = .int .i64 x5_1 ∧ v10 = .int .i64 x10_1 ∧ Aside0 (fleuronlaw18_few.l0 kq a0 x5_1 l1 (l1.length : Int) x10_1 = some r) ∧ Aside0 (kq ≤ k) ∧ Drawn0 w w')
  case atStart => exact ⟨(0), (0), (by first | rfl | (simp; done) | (simp [*]; done)), (by first | rfl | (simp; done) | (simp [*]; done)), H', ⟨Nat.le_refl _⟩, by repeat (first | exact Drawn0.refl _ | apply Drawn0.step)⟩
  case round =>
    clear H'
    try clear c1
    try clear p2
    obtain ⟨x5_1, x10_1, rfl, rfl, HA, HK1, ⟨m1, rfl⟩⟩ := hrel
    cases gk with
    | zero => exact absurd HA.out (by simp [fleuronlaw18_few.l0])
    | succ k1 =>
      have H := HA.out
      clear HA
      simp only [fleuronlaw18_few.l0] at H
      by_cases c3 : x10_1 < (l1.length : Int)
      · rw [if_pos c3] at H
        have c3b0 : decide (x10_1 < (l1.length : Int)) = true := decide_eq_true c3
        clear c3
        by_cases c4 : 0 ≤ x10_1
        · rw [if_pos c4] at H
          have c4b0 : decide (0 ≤ x10_1) = true := decide_eq_true c4
          clear c4
          by_cases c5 : x10_1 < (l1.length : Int)
          · rw [if_pos c5] at H
            have c5b0 : decide (x10_1 < (l1.length : Int)) = true := decide_eq_true c5
            clear c5
            by_cases c6 : (wrap64 (x5_1 + ((rd_L2 l1 x10_1).length : Int))) > a0
            · rw [if_pos c6] at H
              have c6b0 : decide (a0 < (wrap64 (x5_1 + ((rd_L2 l1 x10_1).length : Int)))) = true := decide_eq_true c6
              clear c6
              obtain rfl := Option.some.inj H
              have p119 : 0 ≤ (x10_1 : Int) := of_decide_eq_true (by first | (with_reducible assumption) | assumption)
              have q119 : x10_1 < (l1.length : Int) := of_decide_eq_true (by first | (with_reducible assumption) | assumption)
              obtain ⟨ad119, A119_0, c119_0, e119, hx119_0, hl119_0, hi119_0⟩ := at_L2 HR1.out x10_1 p119 q119
              cases e119
              have HR119_0 := Aside0.mk hi119_0
              have HC119_0 := Aside0.mk hl119_0
              clear hi119_0 hl119_0
              replace p119 := eq_true p119
              replace q119 := eq_true q119
              go_wp2
              go_ret
              exact ⟨by first | rfl | (simp; done) | (simp [*]; done), by repeat (first | exact Drawn0.refl _ | apply Drawn0.step)⟩
            · rw [if_neg c6] at H
              have c6b0 : decide (a0 < (wrap64 (x5_1 + ((rd_L2 l1 x10_1).length : Int)))) = false := decide_eq_false c6
              clear c6
              have H' := Aside0.mk H
              clear H
              have p119 : 0 ≤ (x10_1 : Int) := of_decide_eq_true (by first | (with_reducible assumption) | assumption)
              have q119 : x10_1 < (l1.length : Int) := of_decide_eq_true (by first | (with_reducible assumption) | assumption)
              obtain ⟨ad119, A119_0, c119_0, e119, hx119_0, hl119_0, hi119_0⟩ := at_L2 HR1.out x10_1 p119 q119
              cases e119
              have HR119_0 := Aside0.mk hi119_0
              have HC119_0 := Aside0.mk hl119_0
              clear hi119_0 hl119_0
              replace p119 := eq_true p119
              replace q119 := eq_true q119
              go_wp2
              go_roundg k1
              case measure => have := HK1.out; omega
              case rel => exact ⟨(wrap64 (x5_1 + ((rd_L2 l1 x10_1).length : Int))), (wrap64 (x10_1 + 1)), (by first | rfl | (simp; done) | (simp [*]; done)), (by first | rfl | (simp; done) | (simp [*]; done)), H', ⟨by have := HK1.out; omega⟩, by repeat (first | exact Drawn0.refl _ | apply Drawn0.step)⟩
          · rw [if_neg c5] at H
            exact absurd H (by simp)
        · rw [if_neg c4] at H
          exact absurd H (by simp)
      · rw [if_neg c3] at H
        have c3b0 : decide (x10_1 < (l1.length : Int)) = false := decide_eq_false c3
        clear c3
        obtain rfl := Option.some.inj H
        go_wp2
        go_ret
        exact ⟨by first | rfl | (simp; done) | (simp [*]; done), by repeat (first | exact Drawn0.refl _ | apply Drawn0.step)⟩

/-! ### api_Point_70: function 70 (by hand) -/
set_option maxHeartbeats 2000000 in
set_option maxRecDepth 100000 in
theorem ContainsFunc_pts (g : Nat) (lb : Array Value) (p : S33 → Bool) (eg : ∀ args w, (callFunc g args).run Try.prog w = .ok (.enter g args) w) (A0 : Option Addr) (c0 : Nat) (l0 : List S33) (w : World)
    (hp : ∀ (W : World) (x : S33), Below w.heap.size w W → Calls Try.prog g (#[.agg #[.int .i64 x.f0, .int .i64 x.f1]] ++ lb) W fun e w' => e = .returned (.bool (p x)) ∧ Below w.heap.size w w')
    (hr0 : Kd.C k33 w A0 l0.length l0) (hlen : l0.length ≤ 9223372036854775807) :
    Calls Try.prog 70 #[.slice A0 l0.length c0, .func (.func g) #[] lb] w fun e w' => e = .returned (.bool (l0.any p)) ∧ Below w.heap.size w w' := by
  have hc := IndexFunc_pts g lb p eg A0 c0 l0 w hp hr0 hlen
  have HA := Aside0.mk (idxFrom_nonneg p l0 0 (by omega))
  clear hp hr0
  generalize idxFrom p l0 0 = n at *
  go_enter Try.func70, Try.ntmps70
  go_wp2_with fail
  refine hc.mono ?_
  clear hc
  rintro e w' ⟨rfl, hb'⟩
  go_wp2
  go_ret
  exact ⟨by rw [← HA.out]; rfl, hb'⟩

/-! ### flat_ArePoints: function 41 (by hand) -/
def isPt (x : S33) : Bool := decide (-268435455 ≤ x.f0) && decide (x.f0 ≤ 268435455) && (decide (-268435455 ≤ x.f1) && decide (x.f1 ≤ 268435455))
def flat_ArePoints.f (l0 : List S33) : Option Bool := if l0.length ≤ 9223372036854775807 then some (l0.all isPt) else none
theorem isPoint_is (x : S33) : flat_IsPoint.f x.f0 x.f1 = some (isPt x) := by
  unfold flat_IsPoint.f flat_IsCoord.f isPt
  by_cases h1 : x.f0 ≥ -268435455
  · rw [if_pos h1]
    by_cases h2 : x.f0 ≤ 268435455
    · rw [show decide (x.f0 ≤ 268435455) = true from decide_eq_true h2, show decide (-268435455 ≤ x.f0) = true from decide_eq_true h1]
      simp only [Option.bind_some, if_true]
      by_cases h3 : x.f1 ≥ -268435455
      · rw [if_pos h3, show decide (-268435455 ≤ x.f1) = true from decide_eq_true h3]; simp
      · rw [if_neg h3, show decide (-268435455 ≤ x.f1) = false from decide_eq_false h3]; simp
    · rw [show decide (x.f0 ≤ 268435455) = false from decide_eq_false h2]; simp
  · rw [if_neg h1, show decide (-268435455 ≤ x.f0) = false from decide_eq_false h1]; simp
set_option maxHeartbeats 2000000 in
set_option maxRecDepth 100000 in
theorem notPoint_calls (x : S33) (w : World) : Calls Try.prog 71 #[.agg #[.int .i64 x.f0, .int .i64 x.f1]] w fun e w' => e = .returned (.bool (!isPt x)) ∧ Below w.heap.size w w' := by
  have hu := Try.underlying33
  have hc := fun W => flat_IsPoint.calls x.f0 x.f1 (isPt x) W (isPoint_is x)
  have HB := Aside0.mk (below_alloc (Below.refl w.heap.size w) (.cells #[.int .i64 x.f0, .int .i64 x.f1] 33))
  generalize isPt x = b at *
  go_enter Try.func71, Try.ntmps71
  go_wp2_with fail
  refine (hc _).mono ?_
  rintro e w' ⟨rfl, hb'⟩
  have HB2 := Aside0.mk (below_step HB.out hb')
  clear hb' hc
  go_wp2
  go_ret
  exact ⟨rfl, HB2.out⟩
set_option maxHeartbeats 2000000 in
set_option maxRecDepth 100000 in
theorem flat_ArePoints.calls (A0 : Option Addr) (c0 : Nat) (l0 : List S33) (r : Bool) (w : World) (hr0 : Kd.C k33 w A0 l0.length l0) (hc0 : l0.length ≤ c0) (h : flat_ArePoints.f l0 = some r) :
    Calls Try.prog 41 #[.slice A0 l0.length c0] w fun e w' => e = .returned (.bool r) ∧ Below w.heap.size w w' := by
  unfold flat_ArePoints.f at h
  by_cases hl : l0.length ≤ 9223372036854775807
  · rw [if_pos hl] at h
    injection h with h
    have hc := ContainsFunc_pts 71 #[] (fun x => !isPt x) (enters_own Try.func71 (by kernel_rfl) rfl) A0 c0 l0 w
      (fun W x hb => (notPoint_calls x W).mono fun e w' ⟨he, hb'⟩ => ⟨he, below_step hb hb'⟩) hr0 hl
    have hr : l0.any (fun x => !isPt x) = !r := by
      rw [← h, List.any_eq_not_all_not]; simp
    rw [hr] at hc
    clear hr h hr0
    go_enter Try.func41, Try.ntmps41
    go_wp2_with fail
    refine hc.mono ?_
    clear hc
    rintro e w' ⟨rfl, hb'⟩
    go_wp2
    go_ret
    exact ⟨by simp, hb'⟩
  · rw [if_neg hl] at h
    exact absurd h (by simp)

end Go.Proofs.Ytnjlcmaelacjkaa.PD3

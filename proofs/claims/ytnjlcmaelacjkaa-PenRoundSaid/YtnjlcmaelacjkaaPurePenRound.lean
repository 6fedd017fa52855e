/-
  PenRound, its plain law: a hull is a valid pen, its hull is it, it covers all points, and the order of the points does not matter.
-/
import Derived.Test.YtnjlcmaelacjkaaSaysPenRound
import Derived.Test.YtnjlcmaelacjkaaLibSwept
import Derived.Test.YtnjlcmaelacjkaaLibHulls
set_option linter.unusedVariables false
set_option linter.unusedSimpArgs false
namespace Go.Proofs.Ytnjlcmaelacjkaa.Pure
open Go.RowKit Go.Proofs.Ytnjlcmaelacjkaa.PD2 Go.Proofs.YtnjlcmaelacjkaaW.PrintWords Go.Proofs.YtnjlcmaelacjkaaW.PrintLast Go.Proofs.YtnjlcmaelacjkaaW.PrintMore Go.Proofs.Ytnjlcmaelacjkaa.PD2.HG
theorem hullRes_same {l m : List S33} (hlen : m.length = l.length) (h1 : ∀ x ∈ m, x ∈ l) (h2 : ∀ x ∈ l, x ∈ m) : hullRes m = hullRes l := by
  have hok : okPts m = okPts l := by
    unfold okPts
    rw [hlen, show m.all isPt = l.all isPt by
      rw [Bool.eq_iff_iff, List.all_eq_true, List.all_eq_true]
      exact ⟨fun k x hx => k x (h2 x hx), fun k x hx => k x (h1 x hx)⟩]
  by_cases hl : l = []
  · subst hl
    have : m = [] := List.eq_nil_of_length_eq_zero (by simpa using hlen)
    rw [this]
  · have hm : m ≠ [] := by rintro rfl; exact hl (List.eq_nil_of_length_eq_zero (by simpa using hlen.symm))
    unfold hullRes
    rw [hok, hullOf_same hm hl (Sup.of_sub h1) (Sup.of_sub h2)]
/-- The points in another order: the i-th is the one at kk - i, round and round. -/
def back (l : List S33) (kk : Nat) : Nat → List S33
  | 0 => []
  | i + 1 => back l kk i ++ [rd_T33 l (((kk + l.length - i) % l.length : Nat) : Int)]
theorem back_len (l : List S33) (kk : Nat) : ∀ i, (back l kk i).length = i
  | 0 => rfl
  | i + 1 => by simp [back, back_len l kk i]
theorem back_sub (l : List S33) (kk : Nat) (h0 : 0 < l.length) : ∀ i x, x ∈ back l kk i → x ∈ l
  | 0, x, h => by cases h
  | i + 1, x, h => by
    rcases List.mem_append.mp h with h | h
    · exact back_sub l kk h0 i x h
    · rw [List.mem_singleton.mp h]; exact rd_in l _ (Nat.mod_lt _ h0)
theorem back_has (l : List S33) (kk j : Nat) : ∀ i, j < i → rd_T33 l (((kk + l.length - j) % l.length : Nat) : Int) ∈ back l kk i
  | 0, h => by omega
  | i + 1, h => by
    rcases Nat.lt_or_ge j i with k | k
    · exact List.mem_append_left _ (back_has l kk j i k)
    · obtain rfl : j = i := by omega
      exact List.mem_append_right _ (by simp)
theorem back_all (l : List S33) (kk : Nat) (hk : kk < l.length) : ∀ x ∈ l, x ∈ back l kk l.length := by
  intro x hx
  obtain ⟨j, hj, rfl⟩ := List.mem_iff_getElem.mp hx
  rcases Nat.lt_or_ge kk j with h | h
  · have := back_has l kk (kk + l.length - j) l.length (by omega)
    rw [show kk + l.length - (kk + l.length - j) = j by omega, Nat.mod_eq_of_lt hj, rd_get l j hj] at this
    exact this
  · have := back_has l kk (kk - j) l.length (by omega)
    rw [show kk + l.length - (kk - j) = j + l.length by omega, Nat.add_mod_right, Nat.mod_eq_of_lt hj, rd_get l j hj] at this
    exact this
section
variable (l : List S33) (h0 : 1 ≤ l.length) (hl : l.length ≤ 300)
include h0 hl
theorem round_build (h : List S33) (kk : Nat) (hkk : kk < l.length) (d : Nat) : ∀ (k i : Nat), i ≤ l.length → l.length - i = d → d < k →
    fleuronlaw18_PenRound.l0 k l h (kk : Int) (back l kk i) (l.length : Int) (i : Int) = fleuronlaw18_PenRound.l0 (k - d) l h (kk : Int) (back l kk l.length) (l.length : Int) (l.length : Int) := by
  induction d with
  | zero =>
    intro k i hi hd hk
    obtain rfl : i = l.length := by omega
    rfl
  | succ d ih =>
    intro k i hi hd hk
    obtain ⟨k, rfl⟩ : ∃ m, k = m + 1 := ⟨k - 1, by omega⟩
    have hb := back_len l kk i
    have e : Int.tmod (wrap64 (wrap64 ((kk : Int) + (l.length : Int)) - (i : Int))) (l.length : Int) = (((kk + l.length - i) % l.length : Nat) : Int) := by
      rw [wrap64_small (n := (kk : Int) + (l.length : Int)) (by omega) (by omega), wrap64_small (by omega) (by omega), Int.tmod_eq_emod_of_nonneg (by omega), show (kk : Int) + (l.length : Int) - (i : Int) = ((kk + l.length - i : Nat) : Int) by omega]
      exact (Int.natCast_emod _ _).symm
    have hm := Nat.mod_lt (kk + l.length - i) (show 0 < l.length by omega)
    have := ih k (i + 1) (by omega) (by omega) (by omega)
    rw [fleuronlaw18_PenRound.l0, if_pos (by omega), if_neg (by omega), e, if_pos (by omega), if_pos (by omega), if_pos (by omega), wrap64_small (by omega) (by omega), show (i : Int) + 1 = ((i + 1 : Nat) : Int) by omega, show k + 1 - (d + 1) = k - d by omega]
    exact this
end
section
variable (h : List S33) (hp : Pen h) (hl : h.length ≤ 64) (hal : ∀ x ∈ h, isPt x = true)
include hp hl hal
/-- No two corners are the same, each turns to the left. -/
theorem round_inner (i : Nat) (hi : i < h.length) (d : Nat) : ∀ (k q : Nat), q ≤ h.length → h.length - q = d → d < k →
    ∃ k', k = k' + d + 1 ∧ fleuronlaw18_PenRound.l3 k h (i : Int) h (h.length : Int) (i : Int) h (h.length : Int) (q : Int) (rd_T33 h (i : Int)).f0 (rd_T33 h (i : Int)).f1 = fleuronlaw18_PenRound.l2 k' h h (h.length : Int) ((i + 1 : Nat) : Int) := by
  induction d with
  | zero =>
    intro k q hq hd hk
    obtain ⟨k, rfl⟩ : ∃ m, k = m + 1 := ⟨k - 1, by omega⟩
    refine ⟨k, rfl, ?_⟩
    have ew : wrap64 ((i : Int) + 1) = ((i + 1 : Nat) : Int) := by rw [wrap64_small (by omega) (by omega)]; omega
    have ew2 : wrap64 ((i : Int) + 2) = ((i + 2 : Nat) : Int) := by rw [wrap64_small (by omega) (by omega)]; omega
    rw [fleuronlaw18_PenRound.l3, if_neg (by omega)]
    by_cases h3 : (h.length : Int) > 2
    · have m1 := Nat.mod_lt (i + 1) (show 0 < h.length by omega)
      have m2 := Nat.mod_lt (i + 2) (show 0 < h.length by omega)
      have e1 : Int.tmod ((i + 1 : Nat) : Int) (h.length : Int) = (((i + 1) % h.length : Nat) : Int) := by
        rw [Int.tmod_eq_emod_of_nonneg (by omega)]; exact (Int.natCast_emod _ _).symm
      have e2 : Int.tmod ((i + 2 : Nat) : Int) (h.length : Int) = (((i + 2) % h.length : Nat) : Int) := by
        rw [Int.tmod_eq_emod_of_nonneg (by omega)]; exact (Int.natCast_emod _ _).symm
      have b1 := big_of (hal _ (rd_in h i hi)); have b2 := big_of (hal _ (rd_in h _ m1)); have b3 := big_of (hal _ (rd_in h _ m2))
      have inj : ∀ {a b : Nat}, a < h.length → b < h.length → rd_T33 h (a : Int) = rd_T33 h (b : Int) → a = b := fun {a b} ha hb e => by
        rw [rd_get h a ha, rd_get h b hb] at e; exact (List.getElem_inj hp.nodup).mp e
      have nm : ∀ {a b : Nat}, a < b → b < a + h.length → a % h.length ≠ b % h.length := fun {a b} h1 h2 e => by
        have := mod_eq_near (n := h.length) (a := a) (b := b) (by omega) h2 e; omega
      have hpos : 0 < area (rd_T33 h (i : Int)) (rd_T33 h (((i + 1) % h.length : Nat) : Int)) (rd_T33 h (((i + 2) % h.length : Nat) : Int)) := by
        refine hp.strict _ _ (edge_at h i hi) _ (rd_in h _ m2) (fun e => ?_) (fun e => ?_)
        · have := inj m2 hi e
          exact nm (a := i) (b := i + 2) (by omega) (by omega) (by rw [this, Nat.mod_eq_of_lt hi])
        · exact nm (a := i + 1) (b := i + 2) (by omega) (by omega) (inj m2 m1 e).symm
      rw [if_pos h3, if_neg (by omega), ew, ew2, e1, e2, if_pos (by omega), if_pos (by omega), if_pos (by omega), if_pos (by omega), turnB_is b1 b2 b3]
      simp only [Option.bind_some]
      rw [if_pos ((sgnI_facts _).2.2.2.2.mpr hpos)]
    · rw [if_neg h3, ew]
  | succ d ih =>
    intro k q hq hd hk
    obtain ⟨k, rfl⟩ : ∃ m, k = m + 1 := ⟨k - 1, by omega⟩
    obtain ⟨k', e, h'⟩ := ih k (q + 1) (by omega) (by omega) (by omega)
    refine ⟨k', by omega, ?_⟩
    have ew : wrap64 ((q : Int) + 1) = ((q + 1 : Nat) : Int) := by rw [wrap64_small (by omega) (by omega)]; omega
    rw [fleuronlaw18_PenRound.l3, if_pos (by omega), if_pos (by omega), if_pos (by omega), ew]
    by_cases hqi : (q : Int) = (i : Int)
    · rw [if_pos hqi]; exact h'
    · rw [if_neg hqi, if_neg]
      · exact h'
      · intro e2
        have : rd_T33 h (i : Int) = rd_T33 h (q : Int) := eqP_iff.mp e2
        rw [rd_get h i hi, rd_get h q (by omega)] at this
        have := (List.getElem_inj hp.nodup).mp this
        omega
theorem round_outer (d : Nat) : ∀ (k i : Nat), i ≤ h.length → h.length - i = d → d * 70 + 1 < k → fleuronlaw18_PenRound.l2 k h h (h.length : Int) (i : Int) = some true := by
  induction d with
  | zero =>
    intro k i hi hd hk
    obtain ⟨k, rfl⟩ : ∃ m, k = m + 1 := ⟨k - 1, by omega⟩
    rw [fleuronlaw18_PenRound.l2, if_neg (by omega)]
    rfl
  | succ d ih =>
    intro k i hi hd hk
    obtain ⟨k, rfl⟩ : ∃ m, k = m + 1 := ⟨k - 1, by omega⟩
    obtain ⟨k', e, h'⟩ := round_inner h hp hl hal i (by omega) h.length k 0 (by omega) (by omega) (by omega)
    rw [fleuronlaw18_PenRound.l2, if_pos (by omega), if_pos (by omega), if_pos (by omega)]
    refine h'.trans ?_
    exact ih k' (i + 1) (by omega) (by omega) (by omega)
theorem round_covers (l : List S33) (hll : l.length ≤ 300) (hs : ∀ x ∈ l, isPt x = true ∧ Sup [x] h) (hok : okPen h = true) (d : Nat) : ∀ (k i : Nat), i ≤ l.length → l.length - i = d → d + 5000 < k → fleuronlaw18_PenRound.l1 k h l (l.length : Int) (i : Int) = some true := by
  induction d with
  | zero =>
    intro k i hi hd hk
    obtain ⟨k, rfl⟩ : ∃ m, k = m + 1 := ⟨k - 1, by omega⟩
    rw [fleuronlaw18_PenRound.l1, if_neg (by omega)]
    exact round_outer h hp hl hal h.length k 0 (by omega) (by omega) (by omega)
  | succ d ih =>
    intro k i hi hd hk
    obtain ⟨k, rfl⟩ : ∃ m, k = m + 1 := ⟨k - 1, by omega⟩
    obtain ⟨x1, x2⟩ := hs _ (rd_in l i (by omega))
    obtain ⟨r, hr, hr'⟩ := covers_is h ⟨0, 0⟩ ⟨0, 0⟩ (rd_T33 l (i : Int))
    have z : isPt ⟨0, 0⟩ = true := rfl
    have ht : r = true := (hr' hok z z x1).mpr (x2.trans (Sup.of_sub (fun v hv => List.mem_append_left _ (List.mem_map.mpr ⟨v, hv, by unfold mv; simp⟩))))
    rw [hok, z, x1, ht] at hr
    have ew : wrap64 ((i : Int) + 1) = ((i + 1 : Nat) : Int) := by rw [wrap64_small (by omega) (by omega)]; omega
    simp only [Bool.and_self, if_true] at hr
    rw [fleuronlaw18_PenRound.l1, if_pos (by omega), if_pos (by omega), if_pos (by omega), hr]
    simp only [Option.bind_some]
    rw [if_pos trivial, if_pos trivial, ew]
    exact ih k (i + 1) (by omega) (by omega) (by omega)
end
theorem u64_wrap (n : Int) : IntKind.u64.wrap n = n % 18446744073709551616 := by simp [IntKind.wrap, IntKind.bits, IntKind.signed]
theorem PenRound : fleuronlaw18_PenRound.Pure := by
  intro l t hl ht
  have hl1 := hl.1.1
  refine ⟨20000, ?_⟩
  unfold fleuronlaw18_PenRound.f
  rw [few_is 300 (by omega) (by omega) [l] (by simp; omega) (by simp) 20000 (by simp)]
  simp only [Option.bind_some]
  by_cases hf : ((sumLen [l] : Nat) : Int) ≤ 300
  case neg =>
    rw [if_neg (by rw [decide_eq_false hf]; simp), fleuronlaw18_PenRound.j0, if_pos rfl]
    rfl
  rw [if_pos (decide_eq_true hf)]
  simp only [sumLen] at hf
  rw [fleuronlaw18_PenRound.j0]
  by_cases h0 : l.length = 0
  · rw [if_pos (by simp [h0])]; rfl
  rw [if_neg (by simp; intro h; rw [h] at h0; simp at h0), progHull_is l _ (by omega)]
  simp only [Option.bind_some]
  by_cases hok : okPts l = true
  case neg =>
    have e : hullRes l = ([], 2) := by unfold hullRes; rw [if_neg hok]
    rw [e]; rfl
  obtain ⟨g1, g2, g3⟩ := okPts_facts hok
  have hh := hullOf_is (l := l) (by rintro rfl; simp at h0)
  by_cases hm : 64 < (hullOf l).length
  · have e : hullRes l = ([], 3) := by unfold hullRes; rw [if_pos hok, if_pos hm]
    rw [e]; rfl
  have e : hullRes l = (hullOf l, 0) := by unfold hullRes; rw [if_pos hok, if_neg hm]
  have hpos : 1 ≤ (hullOf l).length := List.length_pos_iff.mpr hh.pen.ne
  have hpt : ∀ x ∈ hullOf l, isPt x = true := fun x hx => g3 x (hh.sub x hx)
  have hpen : okPen (hullOf l) = true := okPen_iff.mpr ⟨hpos, by omega, hpt, hh.pen⟩
  have he : hullRes (hullOf l) = (hullOf l, 0) := by
    have : okPts (hullOf l) = true := by
      unfold okPts; simp only [Bool.and_eq_true, decide_eq_true_eq, List.all_eq_true]; exact ⟨hpos, by omega, hpt⟩
    unfold hullRes; rw [this, hullOf_pen hh.pen, if_pos rfl, if_neg hm]
  have eu : IntKind.u64.wrap ((l.length : Int)) = (l.length : Int) := by
    rw [u64_wrap]; omega
  have hut : 0 ≤ IntKind.u64.wrap t ∧ IntKind.u64.wrap t < 18446744073709551616 := by
    rw [u64_wrap]; omega
  rw [e]
  simp only
  rw [if_pos trivial, eu, if_neg (by omega), Int.tmod_eq_emod_of_nonneg hut.1]
  have m1 := Int.emod_nonneg (IntKind.u64.wrap t) (show (l.length : Int) ≠ 0 by omega)
  have m2 := Int.emod_lt_of_pos (IntKind.u64.wrap t) (show 0 < (l.length : Int) by omega)
  rw [wrap64_small (by omega) (by omega)]
  obtain ⟨kk, ekk⟩ : ∃ kk : Nat, IntKind.u64.wrap t % (l.length : Int) = (kk : Int) := ⟨(IntKind.u64.wrap t % (l.length : Int)).toNat, by omega⟩
  rw [ekk] at m2 ⊢
  have hb := round_build l (by omega) (by omega) (hullOf l) kk (by omega) l.length 19999 0 (by omega) (by omega) (by omega)
  rw [show back l kk 0 = [] from rfl] at hb
  refine hb.trans ?_
  obtain ⟨k, hk⟩ : ∃ k, 19999 - l.length = k + 1 := ⟨19999 - l.length - 1, by omega⟩
  have hres := hullRes_same (back_len l kk l.length) (back_sub l kk (by omega) l.length) (back_all l kk (by omega))
  rw [hk, fleuronlaw18_PenRound.l0, if_neg (by omega), progHull_is _ k (by omega), hres, e]
  simp only [Option.bind_some]
  rw [progHull_is _ k (by omega), he]
  simp only [Option.bind_some]
  rw [valid_is, hpen]
  simp only [Option.bind_some, if_true]
  rw [same_is _ _ (by omega) k (by omega)]
  simp only [Option.bind_some, decide_true, if_true]
  obtain ⟨k, rfl⟩ : ∃ m, k = m + 1 := ⟨k - 1, by omega⟩
  rw [fleuronlaw18_PenRound.j2, if_neg (by simp)]
  exact round_covers (hullOf l) hh.pen (by omega) hpt l (by omega) (fun x hx => ⟨g3 x hx, (Sup.of_sub (fun y hy => by rw [List.mem_singleton.mp hy]; exact hx)).trans hh.sup⟩) hpen l.length k 0 (by omega) (by omega) (by omega)
end Go.Proofs.Ytnjlcmaelacjkaa.Pure

/-
  Plain laws: what Or, And, Without, Count and Has return, by the code and by the chapter.
-/
import Derived.Test.YtckjlckhjcbddaaGreatLibSpans
import Derived.Test.YtckjlckhjcbddaaGreatPG3x10
import Derived.Test.YtckjlckhjcbddaaGreatPG3x34
import Derived.Test.YtckjlckhjcbddaaGreatPG3x5
import Derived.Test.YtckjlckhjcbddaaGreatPG3x9
set_option linter.unusedVariables false
set_option linter.unusedSimpArgs false
namespace Go.Proofs.YtckjlckhjcbddaaGreat.PG3
open Go.RowKit Go.Proofs.YtckjlckhjcbddaaGreatW.PrintWords Go.Proofs.YtckjlckhjcbddaaGreatW.PrintLast Go.Proofs.YtckjlckhjcbddaaGreatW.PrintMore
theorem rdB (f : Nat → Bool) (i : Nat) (h : i < 256) : rdOf false (bitsL f) (i : Int) = f i := by
  simp [rdOf, bitsL, List.getD_eq_getElem?_getD, List.getElem?_range h]
theorem bitsF_L (f : Nat → Bool) (i : Nat) (h : i < 256) : bitsF (bitsL f) i = f i := rdB f i h
theorem marked_is (l : List Sp) (j : Nat) : marked l j = hasS l (j : Int) := by
  unfold marked mk noBits hasS
  rw [List.take_length, Bool.false_or]
theorem goodS_of {l : List Sp} (h : okS l = true) : goodS l = true := by
  unfold goodS
  rw [List.all_eq_true]
  intro s hs
  obtain ⟨_, a, b, c⟩ := up_mem ((upB_iff l _).mp h) s hs
  simp only [Bool.and_eq_true, decide_eq_true_eq]
  omega
/-- The spans of the pixels that two have together. -/
def combR (op : Bool → Bool → Bool) (a b : List Sp) : List Sp × Int := if okS a && okS b then (spansB (bitsL fun j => op (hasS a (j : Int)) (hasS b (j : Int))), 0) else ([], 2)
theorem comb_is (op : Bool → Bool → Bool) (a b : List Sp) (ha : a.length ≤ 1000) (hb : b.length ≤ 1000) (k : Nat) (hk : 2000 ≤ k) : combF k op a b = some (combR op a b) := by
  unfold combF combR
  rw [validS_is a (by omega) k (by omega), validS_is b (by omega) k (by omega)]
  simp only [Option.bind_some]
  cases h0 : okS a with
  | false => simp
  | true =>
    cases h1 : okS b with
    | false => simp
    | true =>
      rw [if_pos rfl, if_pos rfl, if_pos ⟨⟨ha, hb⟩, by rw [goodS_of h0, goodS_of h1]; rfl⟩]
      have e : (fun j => op (marked a j) (marked b j)) = fun j : Nat => op (hasS a (j : Int)) (hasS b (j : Int)) := by funext j; rw [marked_is, marked_is]
      rw [e, spans_is _ (by rw [bits_len]; omega) k (by rw [bits_len]; omega)]
      rfl
/-! ### The pixels, by the chapter -/
theorem bitsL_set (x y : Nat → Bool) (n : Nat) (v : Bool) (hy : ∀ j, y j = if j = n then v else x j) : (bitsL x).set n v = bitsL y := by
  unfold bitsL
  apply List.ext_getElem
  · simp
  · intro j h1 h2
    simp only [List.getElem_set, List.getElem_map, List.getElem_range]
    rw [hy j]
    by_cases e : n = j
    · subst e; simp
    · rw [if_neg e, if_neg (fun h => e h.symm)]
theorem pix_in (s : Sp) (y : Nat → Bool) (l : List Sp) (i : Int) (h0 : 0 ≤ s.f0) (h1 : s.f0 ≤ s.f1) (h2 : s.f1 ≤ 256) (k : Nat) (d : Nat) : ∀ (n : Nat), s.f0 ≤ (n : Int) → (n : Int) + d = s.f1 →
    fleuronref19_Pixels.l1 (k + d + 1) (bitsL (mkIn y s (n : Int))) (n : Int) l (l.length : Int) i s.f0 s.f1 = fleuronref19_Pixels.l0 k (bitsL (mkIn y s s.f1)) l (l.length : Int) (wrap64 (i + 1)) := by
  induction d with
  | zero =>
    intro n hn hd
    rw [fleuronref19_Pixels.l1, if_neg (by omega), show (n : Int) = s.f1 by omega]
  | succ d ih =>
    intro n hn hd
    have hw : wrap64 ((n : Int) + 1) = ((n + 1 : Nat) : Int) := by rw [w64 (by omega) (by omega)]; omega
    have hlen : ((bitsL (mkIn y s (n : Int))).length : Int) = 256 := by rw [bits_len]; rfl
    rw [show k + (d + 1) + 1 = (k + d + 1) + 1 by omega, fleuronref19_Pixels.l1, if_pos (by omega), if_pos (by omega), hlen, if_pos (by omega), hw, Int.toNat_natCast, bitsL_set _ _ _ _ (mkIn_step y s n hn)]
    exact ih (n + 1) (by omega) (by omega)
theorem pix_go (l : List Sp) (hl : l.length ≤ 1000) (hg : ∀ s ∈ l, 0 ≤ s.f0 ∧ s.f0 ≤ s.f1 ∧ s.f1 ≤ 256) (d : Nat) : ∀ (k i : Nat), i ≤ l.length → l.length - i = d → d * 258 < k →
    fleuronref19_Pixels.l0 k (bitsL (mk l noBits i)) l (l.length : Int) (i : Int) = some (bitsL (mk l noBits l.length)) := by
  induction d with
  | zero =>
    intro k i hi hd hk
    obtain ⟨k, rfl⟩ : ∃ m, k = m + 1 := ⟨k - 1, by omega⟩
    obtain rfl : i = l.length := by omega
    rw [fleuronref19_Pixels.l0, if_neg (by omega)]
  | succ d ih =>
    intro k i hi hd hk
    obtain ⟨k, rfl⟩ : ∃ m, k = m + 1 := ⟨k - 1, by omega⟩
    have hm := mk_step l noBits i (by omega)
    have hw : wrap64 ((i : Int) + 1) = ((i + 1 : Nat) : Int) := by rw [w64 (by omega) (by omega)]; omega
    have hs := hg (rd_T23 l (i : Int)) (by rw [rdS l i (by omega)]; exact List.getElem_mem _)
    rw [fleuronref19_Pixels.l0, if_pos (by omega), if_pos (by omega), if_pos (by omega)]
    generalize rd_T23 l (i : Int) = s at *
    obtain ⟨n, hn⟩ : ∃ n : Nat, (n : Int) = s.f0 := ⟨s.f0.toNat, by omega⟩
    obtain ⟨c, hc⟩ : ∃ c : Nat, (n : Int) + c = s.f1 := ⟨(s.f1 - s.f0).toNat, by omega⟩
    have hc256 : c ≤ 256 := by omega
    obtain ⟨k2, rfl⟩ : ∃ k2, k = k2 + c + 1 := ⟨k - c - 1, by omega⟩
    have hk2 : d * 258 < k2 := by
      clear hm hs hn hc ih hg hw
      rw [Nat.succ_mul] at hk
      generalize d * 258 = D at *
      omega
    have h0 := mkIn_zero (mk l noBits i) s
    have hp := pix_in s (mk l noBits i) l (i : Int) hs.1 hs.2.1 hs.2.2 k2 c n (by omega) hc
    rw [hn, h0] at hp
    rw [hp, hm, hw]
    exact ih k2 (i + 1) (by omega) (by omega) hk2
theorem pixels_is (l : List Sp) (hl : l.length ≤ 1000) (h : okS l = true) (k : Nat) (hk : 258000 < k) : fleuronref19_Pixels.f k l 256 = some (bitsL fun j => hasS l (j : Int)) := by
  have hg := goodS_facts (goodS_of h)
  have := pix_go l hl hg l.length k 0 (by omega) (by omega) (by omega)
  have e : bitsL (mk l noBits l.length) = bitsL fun j => hasS l (j : Int) := congrArg bitsL (funext fun j => marked_is l j)
  have z : List.replicate (256 : Int).toNat false = bitsL (mk l noBits 0) := by rw [mk_zero]; exact List.eq_replicate_iff.mpr ⟨by simp [bits_len], fun b hb => by simp [bitsL, noBits] at hb; exact hb.2⟩ |>.symm
  unfold fleuronref19_Pixels.f
  rw [if_pos (by omega), if_pos (by decide), z]
  exact this.trans (congrArg some e)
/-- How the chapter puts two together. -/
def howOp (how : Int) : Bool → Bool → Bool := if how = 0 then (fun p q => p || q) else if how = 1 then (fun p q => p && q) else fun p q => p && !q
theorem both_go (how : Int) (f g : Nat → Bool) (d : Nat) : ∀ (k i : Nat), i ≤ 256 → 256 - i = d → d + 300 < k →
    fleuronref19_both.l0 k how (bitsL f) (bitsL g) ((List.range i).map fun j => howOp how (f j) (g j)) 256 (i : Int) = some (spansB (bitsL fun j => howOp how (f j) (g j)), 0) := by
  induction d with
  | zero =>
    intro k i hi hd hk
    obtain ⟨k, rfl⟩ : ∃ m, k = m + 1 := ⟨k - 1, by omega⟩
    obtain rfl : i = 256 := by omega
    rw [fleuronref19_both.l0, if_neg (by omega)]
    have := refSpans_is (bitsL fun j => howOp how (f j) (g j)) (by rw [bits_len]; omega) k (by rw [bits_len]; omega)
    unfold bitsL at this
    rw [this]
    rfl
  | succ d ih =>
    intro k i hi hd hk
    obtain ⟨k, rfl⟩ : ∃ m, k = m + 1 := ⟨k - 1, by omega⟩
    have h := ih k (i + 1) (by omega) (by omega) (by omega)
    rw [List.range_succ, List.map_append, List.map_cons, List.map_nil] at h
    have hw : wrap64 ((i : Int) + 1) = ((i + 1 : Nat) : Int) := by rw [w64 (by omega) (by omega)]; omega
    have h0 : (0 : Int) ≤ (i : Int) := by omega
    have h1 : (i : Int) < 256 := by omega
    have hlf : ((bitsL f).length : Int) = 256 := by rw [bits_len]; rfl
    have hlg : ((bitsL g).length : Int) = 256 := by rw [bits_len]; rfl
    have hlp : ((List.range i).map fun j => howOp how (f j) (g j)).length < 140737488355328 := by simp; omega
    rw [fleuronref19_both.l0]
    simp only [if_pos h1, if_pos h0, hlf, hlg, if_pos hlp, hw, rdB f i (by omega), rdB g i (by omega)]
    generalize (List.range i).map (fun j => howOp how (f j) (g j)) = pre at *
    unfold howOp at h ⊢
    by_cases a0 : how = 0
    · simp only [if_pos a0] at h ⊢
      cases hf : f i
      · rw [hf] at h; simpa using h
      · rw [hf] at h; simpa using h
    · by_cases a1 : how = 1
      · simp only [if_neg a0, if_pos a1] at h ⊢
        cases hf : f i
        · rw [hf] at h; simpa using h
        · rw [hf] at h; simpa using h
      · simp only [if_neg a0, if_neg a1] at h ⊢
        cases hf : f i
        · rw [hf] at h; simpa using h
        · rw [hf] at h; simpa using h
theorem both_is (how : Int) (a b : List Sp) (ha : a.length ≤ 1000) (hb : b.length ≤ 1000) (k : Nat) (hk : 260000 ≤ k) : fleuronref19_both.f k a b how = some (combR (howOp how) a b) := by
  obtain ⟨k, rfl⟩ : ∃ m, k = m + 1 := ⟨k - 1, by omega⟩
  unfold fleuronref19_both.f combR
  rw [rightS_is a (by omega) (k + 1) (by omega), rightS_is b (by omega) (k + 1) (by omega)]
  simp only [Option.bind_some]
  cases h0 : okS a with
  | false => simp [fleuronref19_both.j0]
  | true =>
    cases h1 : okS b with
    | false => simp [fleuronref19_both.j0]
    | true =>
      rw [if_pos rfl, fleuronref19_both.j0, if_neg (by simp), pixels_is a ha h0 k (by omega), pixels_is b hb h1 k (by omega)]
      simp only [Option.bind_some, bits_len, Bool.and_self, if_true]
      exact both_go how (fun j => hasS a (j : Int)) (fun j => hasS b (j : Int)) 256 k 0 (by omega) (by omega) (by omega)
theorem refOr_is (a b : List Sp) (ha : a.length ≤ 1000) (hb : b.length ≤ 1000) (k : Nat) (hk : 260000 ≤ k) : fleuronref19_Or.f k a b = some (combR (fun p q => p || q) a b) := by
  unfold fleuronref19_Or.f; rw [both_is 0 a b ha hb k hk]; rfl
theorem refAnd_is (a b : List Sp) (ha : a.length ≤ 1000) (hb : b.length ≤ 1000) (k : Nat) (hk : 260000 ≤ k) : fleuronref19_And.f k a b = some (combR (fun p q => p && q) a b) := by
  unfold fleuronref19_And.f; rw [both_is 1 a b ha hb k hk]; rfl
theorem refWithout_is (a b : List Sp) (ha : a.length ≤ 1000) (hb : b.length ≤ 1000) (k : Nat) (hk : 260000 ≤ k) : fleuronref19_Without.f k a b = some (combR (fun p q => p && !q) a b) := by
  unfold fleuronref19_Without.f; rw [both_is 2 a b ha hb k hk]; rfl
end Go.Proofs.YtckjlckhjcbddaaGreat.PG3

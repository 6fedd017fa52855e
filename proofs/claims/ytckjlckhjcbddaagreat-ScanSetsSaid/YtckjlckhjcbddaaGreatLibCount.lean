/-
  Plain laws: how many pixels spans have, and whether they have one.
-/
import Derived.Test.YtckjlckhjcbddaaGreatLibSets
set_option linter.unusedVariables false
set_option linter.unusedSimpArgs false
namespace Go.Proofs.YtckjlckhjcbddaaGreat.PG3
open Go.RowKit Go.Proofs.YtckjlckhjcbddaaGreatW.PrintWords Go.Proofs.YtckjlckhjcbddaaGreatW.PrintLast Go.Proofs.YtckjlckhjcbddaaGreatW.PrintMore
def cntTo (f : Nat → Bool) : Nat → Int
  | 0 => 0
  | n + 1 => cntTo f n + if f n = true then 1 else 0
theorem cntTo_congr {f g : Nat → Bool} : ∀ (n : Nat), (∀ j, j < n → f j = g j) → cntTo f n = cntTo g n
  | 0, _ => rfl
  | n + 1, h => by rw [cntTo, cntTo, cntTo_congr n (fun j hj => h j (by omega)), h n (by omega)]
theorem cntTo_add {f g h : Nat → Bool} : ∀ (n : Nat), (∀ j, j < n → f j = (g j || h j) ∧ (g j && h j) = false) → cntTo f n = cntTo g n + cntTo h n
  | 0, _ => rfl
  | n + 1, H => by
    obtain ⟨e1, e2⟩ := H n (by omega)
    rw [cntTo, cntTo, cntTo, cntTo_add n (fun j hj => H j (by omega)), e1]
    cases hg : g n <;> cases hh : h n <;> simp [hg, hh] at e2 ⊢ <;> omega
theorem cntTo_bound (f : Nat → Bool) : ∀ n, 0 ≤ cntTo f n ∧ cntTo f n ≤ n
  | 0 => by simp [cntTo]
  | n + 1 => by
    have := cntTo_bound f n
    rw [cntTo]
    split <;> omega
theorem cntTo_run (a b : Int) (h0 : 0 ≤ a) (h1 : a ≤ b) : ∀ n : Nat, cntTo (fun j => decide (a ≤ (j : Int)) && decide ((j : Int) < b)) n = if (n : Int) ≤ a then 0 else if (n : Int) ≤ b then n - a else b - a
  | 0 => by rw [if_pos (by omega)]; rfl
  | n + 1 => by
    rw [cntTo, cntTo_run a b h0 h1 n]
    by_cases q1 : a ≤ (n : Int)
    · by_cases q2 : (n : Int) < b
      · rw [decide_eq_true q1, decide_eq_true q2, if_neg (show ¬ ((n + 1 : Nat) : Int) ≤ a by omega), if_pos (show ((n + 1 : Nat) : Int) ≤ b by omega)]
        simp only [Bool.and_self, if_true]
        by_cases q3 : (n : Int) ≤ a
        · rw [if_pos q3]; omega
        · rw [if_neg q3, if_pos (by omega)]; omega
      · rw [decide_eq_false q2]
        simp only [Bool.and_false, Bool.false_eq_true, if_false]
        rw [if_neg (show ¬ ((n + 1 : Nat) : Int) ≤ a by omega), if_neg (show ¬ ((n + 1 : Nat) : Int) ≤ b by omega)]
        by_cases q3 : (n : Int) ≤ a
        · rw [if_pos q3]; omega
        · rw [if_neg q3]
          by_cases q4 : (n : Int) ≤ b
          · rw [if_pos q4]; omega
          · rw [if_neg q4]; omega
    · rw [decide_eq_false q1]
      simp only [Bool.false_and, Bool.false_eq_true, if_false]
      rw [if_pos (show (n : Int) ≤ a by omega), if_pos (show ((n + 1 : Nat) : Int) ≤ a by omega)]; rfl
def widths : List Sp → Int
  | [] => 0
  | s :: l => (s.f1 - s.f0) + widths l
theorem widths_cnt : ∀ (l : List Sp) (lo : Int), Up lo l → widths l = cntTo (fun j => hasS l (j : Int)) 256
  | [], _, _ => by
    rw [cntTo_congr (g := fun j : Nat => decide ((0 : Int) ≤ (j : Int)) && decide ((j : Int) < 0)) 256 (fun j hj => by rw [decide_eq_false (show ¬ (j : Int) < 0 by omega)]; simp [hasS]), cntTo_run 0 0 (by omega) (by omega) 256]; rfl
  | s :: l, lo, h => by
    obtain ⟨h1, h2, h3, h4, h5⟩ := h
    rw [widths, widths_cnt l s.f1 h5, cntTo_add (g := fun j : Nat => decide (s.f0 ≤ (j : Int)) && decide ((j : Int) < s.f1)) (h := fun j : Nat => hasS l (j : Int)) 256 (fun j hj => ⟨hasS_cons s l (j : Int), ?_⟩), cntTo_run s.f0 s.f1 h2 (by omega) 256]
    · rw [if_neg (show ¬ ((256 : Nat) : Int) ≤ s.f0 by omega)]
      by_cases q : ((256 : Nat) : Int) ≤ s.f1
      · rw [if_pos q]; omega
      · rw [if_neg q]
    · by_cases q : (j : Int) < s.f1
      · show (_ && hasS l (j : Int)) = false
        rw [hasS_low h5 (by omega)]; simp
      · show ((_ && decide ((j : Int) < s.f1)) && _) = false
        rw [decide_eq_false q]; simp
theorem widths_take (l : List Sp) (i : Nat) (h : i < l.length) : widths (l.take (i + 1)) = widths (l.take i) + (l[i].f1 - l[i].f0) := by
  have app : ∀ (p q : List Sp), widths (p ++ q) = widths p + widths q := by
    intro p q
    induction p with
    | nil => simp [widths]
    | cons x p ih => rw [List.cons_append, widths, widths, ih]; omega
  rw [List.take_succ_eq_append_getElem h, app]
  simp [widths]
theorem widths_bound : ∀ (l : List Sp), (∀ s ∈ l, 0 ≤ s.f0 ∧ s.f0 ≤ s.f1 ∧ s.f1 ≤ 256) → 0 ≤ widths l ∧ widths l ≤ 256 * l.length
  | [], _ => by simp [widths]
  | s :: l, h => by
    have h1 := widths_bound l (fun x hx => h x (List.mem_cons_of_mem _ hx))
    have h2 := h s List.mem_cons_self
    rw [widths, List.length_cons]
    omega
theorem count_go (l : List Sp) (hl : l.length ≤ 1000) (hg : ∀ s ∈ l, 0 ≤ s.f0 ∧ s.f0 ≤ s.f1 ∧ s.f1 ≤ 256) (d : Nat) : ∀ (k i : Nat), i ≤ l.length → l.length - i = d → d < k →
    scan_Count.l0 k (widths (l.take i)) l (l.length : Int) (i : Int) = some (widths l, 0) := by
  induction d with
  | zero =>
    intro k i hi hd hk
    obtain ⟨k, rfl⟩ : ∃ m, k = m + 1 := ⟨k - 1, by omega⟩
    rw [scan_Count.l0, if_neg (by omega), List.take_of_length_le (by omega)]
  | succ d ih =>
    intro k i hi hd hk
    obtain ⟨k, rfl⟩ : ∃ m, k = m + 1 := ⟨k - 1, by omega⟩
    have hw : wrap64 ((i : Int) + 1) = ((i + 1 : Nat) : Int) := by rw [w64 (by omega) (by omega)]; omega
    have h1 := hg l[i] (List.getElem_mem _)
    have h2 := widths_bound (l.take i) (fun s hs => hg s (List.mem_of_mem_take hs))
    have h3 := List.length_take_le i l
    have h4 := widths_take l i (by omega)
    rw [scan_Count.l0, if_pos (by omega), if_pos (by omega), if_pos (by omega), rdS l i (by omega), hw, w64 (n := l[i].f1 - l[i].f0) (by omega) (by omega), w64 (by omega) (by omega), ← h4]
    exact ih k (i + 1) (by omega) (by omega) (by omega)
def countR (l : List Sp) : Int × Int := if okS l then (cntTo (fun j => hasS l (j : Int)) 256, 0) else (0, 2)
theorem count_is (l : List Sp) (hl : l.length ≤ 1000) (k : Nat) (hk : 1000 < k) : scan_Count.f k l = some (countR l) := by
  unfold scan_Count.f countR
  rw [validS_is l (by omega) k (by omega)]
  simp only [Option.bind_some]
  cases h : okS l with
  | false => simp
  | true =>
    simp only [if_true]
    have := count_go l hl (goodS_facts (goodS_of h)) l.length k 0 (by omega) (by omega) (by omega)
    rw [← widths_cnt l (-1) ((upB_iff l _).mp h)]
    exact this
theorem refCount_go (f : Nat → Bool) (d : Nat) : ∀ (k i : Nat), i ≤ 256 → 256 - i = d → d < k → fleuronref19_Count.l0 k (cntTo f i) (bitsL f) 256 (i : Int) = some (cntTo f 256, 0) := by
  induction d with
  | zero =>
    intro k i hi hd hk
    obtain ⟨k, rfl⟩ : ∃ m, k = m + 1 := ⟨k - 1, by omega⟩
    obtain rfl : i = 256 := by omega
    rw [fleuronref19_Count.l0, if_neg (by omega)]
  | succ d ih =>
    intro k i hi hd hk
    obtain ⟨k, rfl⟩ : ∃ m, k = m + 1 := ⟨k - 1, by omega⟩
    have hw : wrap64 ((i : Int) + 1) = ((i + 1 : Nat) : Int) := by rw [w64 (by omega) (by omega)]; omega
    have hb := cntTo_bound f i
    have hlf : ((bitsL f).length : Int) = 256 := by rw [bits_len]; rfl
    have h := ih k (i + 1) (by omega) (by omega) (by omega)
    rw [cntTo] at h
    rw [fleuronref19_Count.l0, if_pos (by omega), if_pos (by omega), hlf, if_pos (by omega), hw, rdB f i (by omega), w64 (n := cntTo f i + 1) (by omega) (by omega)]
    cases hf : f i with
    | false => rw [hf] at h; simpa using h
    | true => rw [hf] at h; simpa using h
theorem refCount_is (l : List Sp) (hl : l.length ≤ 1000) (k : Nat) (hk : 260000 < k) : fleuronref19_Count.f k l = some (countR l) := by
  unfold fleuronref19_Count.f countR
  rw [rightS_is l (by omega) k (by omega)]
  simp only [Option.bind_some]
  cases h : okS l with
  | false => simp
  | true =>
    simp only [if_true]
    rw [pixels_is l hl h k (by omega)]
    simp only [Option.bind_some, bits_len]
    exact refCount_go (fun j => hasS l (j : Int)) 256 k 0 (by omega) (by omega) (by omega)
def hasR (l : List Sp) (i : Int) : Bool × Int := if okS l then (hasS l i, 0) else (false, 2)
theorem hasR_is (l : List Sp) (hl : l.length ≤ 1000) (i : Int) (k : Nat) (hk : 1000 < k) : scan_Has.f k l i = some (hasR l i) := by
  unfold scan_Has.f hasR
  rw [validS_is l (by omega) k (by omega)]
  simp only [Option.bind_some]
  cases h : okS l with
  | false => simp
  | true => rw [if_pos rfl, if_pos (by omega)]; rfl
theorem hasS_out {l : List Sp} (h : okS l = true) (i : Int) (hi : i < 0 ∨ 256 ≤ i) : hasS l i = false := by
  rw [Bool.eq_false_iff]
  intro hh
  obtain ⟨s, hs, h1, h2⟩ := (hasS_iff l i).mp hh
  have := up_mem ((upB_iff l _).mp h) s hs
  omega
theorem refHasR_is (l : List Sp) (hl : l.length ≤ 1000) (i : Int) (k : Nat) (hk : 260000 < k) : fleuronref19_Has.f k l i = some (hasR l i) := by
  unfold fleuronref19_Has.f hasR
  rw [rightS_is l (by omega) k (by omega)]
  simp only [Option.bind_some]
  cases h : okS l with
  | false => simp
  | true =>
    simp only [if_true]
    by_cases h0 : i ≥ 0
    · rw [if_pos h0]
      by_cases h1 : i < 256
      · rw [if_pos h1, pixels_is l hl h k (by omega)]
        simp only [Option.bind_some, bits_len]
        obtain ⟨n, rfl⟩ : ∃ n : Nat, i = n := ⟨i.toNat, by omega⟩
        rw [if_pos h0, if_pos (by omega), rdB _ n (by omega)]
      · rw [if_neg h1, hasS_out h i (Or.inr (by omega))]
    · rw [if_neg h0, hasS_out h i (Or.inl (by omega))]
end Go.Proofs.YtckjlckhjcbddaaGreat.PG3

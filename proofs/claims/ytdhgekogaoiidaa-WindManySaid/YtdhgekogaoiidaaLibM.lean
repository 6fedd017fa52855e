/-
  Plain laws on many polygons: whether they are valid together, whether a point is inside by the code.
-/
import Derived.Test.YtdhgekogaoiidaaLibW
import Derived.Test.YtdhgekogaoiidaaPT6x3
import Derived.Test.YtdhgekogaoiidaaPT6x4
set_option linter.unusedVariables false
set_option linter.unusedSimpArgs false
namespace Go.Proofs.Ytdhgekogaoiidaa.PT6
open Go.RowKit Go.Proofs.YtdhgekogaoiidaaW.PrintWords Go.Proofs.YtdhgekogaoiidaaW.PrintLast Go.Proofs.YtdhgekogaoiidaaW.PrintMore
theorem crossings_is (l : List S24) (p : S24) (hl : l.length ≤ 9223372036854775807) : wind_Crossings.f l p.f0 p.f1 = some (countB l p 1 (fun _ => 1)) := by unfold wind_Crossings.f; rw [if_pos hl]
theorem id_small : ∀ x : Int, -1 ≤ x → x ≤ 1 → -1 ≤ id x ∧ id x ≤ 1 := by simp <;> omega
theorem one_small : ∀ x : Int, -1 ≤ x → x ≤ 1 → -1 ≤ (fun _ : Int => (1 : Int)) x ∧ (fun _ : Int => (1 : Int)) x ≤ 1 := by simp
theorem sumLen_mem {ll : List (List S24)} {l : List S24} (h : l ∈ ll) : l.length ≤ sumLen ll := by
  induction ll with
  | nil => cases h
  | cons y ys ih =>
    simp only [sumLen]
    rcases List.mem_cons.1 h with rfl | h
    · omega
    · have := ih h; omega
theorem sumLen_drop (ll : List (List S24)) : ∀ i, sumLen (ll.drop i) ≤ sumLen ll := by
  induction ll with
  | nil => intro i; simp [sumLen]
  | cons y ys ih =>
    intro i
    cases i with
    | zero => simp
    | succ i => simp only [List.drop_succ_cons, sumLen]; have := ih i; omega
def vallB (ll : List (List S24)) : Bool := ll.all okPoly && (decide (ll.length ≤ 50) && decide (sumLen ll ≤ 60000))
theorem validAll_from (ll : List (List S24)) (hll : ll.length ≤ 1000000) (d : Nat) :
    ∀ (k i : Nat) (n : Int), i ≤ ll.length → ll.length - i = d → d < k → 0 ≤ n → n + sumLen (ll.drop i) ≤ 1000000 → wind_ValidAll.l0 k ll n ll (ll.length : Int) (i : Int) = some ((ll.drop i).all okPoly && (decide (ll.length ≤ 50) && decide (n + (sumLen (ll.drop i) : Int) ≤ 60000))) := by
  induction d with
  | zero =>
    intro k i n hi hd hk hn hn'
    obtain ⟨k, rfl⟩ : ∃ m, k = m + 1 := ⟨k - 1, by omega⟩
    simp only [wind_ValidAll.l0]
    rw [if_neg (by omega), List.drop_eq_nil_of_le (by omega)]
    by_cases h : (ll.length : Int) ≤ 50
    · rw [if_pos h, decide_eq_true (show ll.length ≤ 50 by omega)]; simp [sumLen]
    · rw [if_neg h, decide_eq_false (show ¬ ll.length ≤ 50 by omega)]; simp
  | succ d ih =>
    intro k i n hi hd hk hn hn'
    obtain ⟨k, rfl⟩ : ∃ m, k = m + 1 := ⟨k - 1, by omega⟩
    have hdr := rdL_drop ll i (by omega)
    rw [hdr] at hn'
    simp only [sumLen] at hn'
    have st := ih k (i + 1) (n + ((rd_L2 ll (i : Int)).length : Int)) (by omega) (by omega) (by omega) (by omega) (by omega)
    simp only [wind_ValidAll.l0]
    rw [if_pos (by omega), if_pos (by omega), if_pos (by omega), valid_is _ (by omega), hdr]
    simp only [Option.bind_some, sumLen, List.all_cons]
    cases hok : okPoly (rd_L2 ll (i : Int)) with
    | false => simp
    | true =>
      rw [if_pos rfl, wrap64_small (n := n + _) (by omega) (by omega), wrap64_small (n := (i : Int) + 1) (by omega) (by omega), show (i : Int) + 1 = ((i + 1 : Nat) : Int) by omega, Bool.true_and]
      rw [show n + ((rd_L2 ll (i : Int)).length : Int) + (sumLen (ll.drop (i + 1)) : Int) = n + (((rd_L2 ll (i : Int)).length + sumLen (ll.drop (i + 1)) : Nat) : Int) by omega] at st
      exact st
section
variable (ll : List (List S24)) (hs : sumLen ll + ll.length ≤ 1000000) (k : Nat) (hk : 3000000 < k)
include hs hk
theorem validAll_is : wind_ValidAll.f k ll = some (vallB ll) := by
  unfold wind_ValidAll.f vallB
  have := validAll_from ll (by omega) ll.length k 0 0 (by omega) (by omega) (by omega) (by omega) (by simp; omega)
  simp only [List.drop_zero, Int.zero_add, Int.natCast_zero] at this
  rw [this]
  congr 4
  exact propext ⟨fun h => by omega, fun h => by omega⟩
end
/-- The sums over all polygons. -/
def allSum (p : S24) (ofv : Int → Int) : List (List S24) → Int
  | [] => 0
  | l :: ls => csum l p 1 ofv l.length + allSum p ofv ls
theorem allSum_abs (p : S24) (ofv : Int → Int) (hov : ∀ x, -1 ≤ x → x ≤ 1 → -1 ≤ ofv x ∧ ofv x ≤ 1) : ∀ ll, -(sumLen ll : Int) ≤ allSum p ofv ll ∧ allSum p ofv ll ≤ sumLen ll
  | [] => by simp [allSum, sumLen]
  | l :: ls => by
    have h1 := allSum_abs p ofv hov ls
    have h2 := csum_abs l p 1 ofv hov l.length
    simp only [allSum, sumLen]
    omega
def insideB (ll : List (List S24)) (even : Bool) (p : S24) : Bool := if even then Int.tmod (allSum p (fun _ => 1) ll) 2 == 1 else allSum p id ll != 0
theorem inside_from (ll : List (List S24)) (even : Bool) (p : S24) (hok : ∀ l ∈ ll, okPoly l = true) (hp : isPt p = true) (hll : ll.length ≤ 1000000) (d : Nat) :
    ∀ (k i : Nat) (s n : Int), i ≤ ll.length → ll.length - i = d → d < k → -1000000 + (sumLen (ll.drop i) : Int) ≤ s → s + sumLen (ll.drop i) ≤ 1000000 → -1000000 + (sumLen (ll.drop i) : Int) ≤ n → n + sumLen (ll.drop i) ≤ 1000000 →
      wind_Inside.l0 k even s n ll (ll.length : Int) (i : Int) p.f0 p.f1 = some (if even then Int.tmod (n + allSum p (fun _ => 1) (ll.drop i)) 2 == 1 else s + allSum p id (ll.drop i) != 0, 0) := by
  induction d with
  | zero =>
    intro k i s n hi hd hk h1 h2 h3 h4
    obtain ⟨k, rfl⟩ : ∃ m, k = m + 1 := ⟨k - 1, by omega⟩
    simp only [wind_Inside.l0]
    rw [if_neg (by omega), List.drop_eq_nil_of_le (by omega)]
    cases even <;> simp [allSum]
  | succ d ih =>
    intro k i s n hi hd hk h1 h2 h3 h4
    obtain ⟨k, rfl⟩ : ∃ m, k = m + 1 := ⟨k - 1, by omega⟩
    have hdr := rdL_drop ll i (by omega)
    have hm := rdL_mem ll i (by omega)
    have ho := hok _ hm
    have hof := okPoly_facts ho
    rw [hdr] at h1 h2 h3 h4
    simp only [sumLen] at h1 h2 h3 h4
    have c1 := csum_abs (rd_L2 ll (i : Int)) p 1 id id_small (rd_L2 ll (i : Int)).length
    have c2 := csum_abs (rd_L2 ll (i : Int)) p 1 (fun _ => 1) one_small (rd_L2 ll (i : Int)).length
    have st := ih k (i + 1) (s + csum (rd_L2 ll (i : Int)) p 1 id (rd_L2 ll (i : Int)).length) (n + csum (rd_L2 ll (i : Int)) p 1 (fun _ => 1) (rd_L2 ll (i : Int)).length) (by omega) (by omega) (by omega) (by omega) (by omega) (by omega) (by omega)
    simp only [wind_Inside.l0]
    rw [if_pos (by omega), if_pos (by omega), if_pos (by omega), winding_is _ _ (by omega), crossings_is _ _ (by omega), hdr]
    simp only [Option.bind_some, countB, ho, hp, Bool.and_self, if_true, allSum]
    rw [wrap64_small (n := s + _) (by omega) (by omega), wrap64_small (n := n + _) (by omega) (by omega), wrap64_small (n := (i : Int) + 1) (by omega) (by omega), show (i : Int) + 1 = ((i + 1 : Nat) : Int) by omega, st, Int.add_assoc, Int.add_assoc]
theorem vall_facts {ll : List (List S24)} (h : vallB ll = true) : (∀ l ∈ ll, okPoly l = true) ∧ ll.length ≤ 50 ∧ sumLen ll ≤ 60000 := by
  unfold vallB at h
  simp only [Bool.and_eq_true, decide_eq_true_eq, List.all_eq_true] at h
  exact ⟨h.1, h.2.1, h.2.2⟩
section
variable (ll : List (List S24)) (even : Bool) (p : S24) (hs : sumLen ll + ll.length ≤ 1000000) (k : Nat) (hk : 4000000 < k)
include hs hk
def insideR (ll : List (List S24)) (even : Bool) (p : S24) : Bool × Int := if vallB ll && isPt p then (insideB ll even p, 0) else (false, 2)
theorem inside_is : wind_Inside.f k ll even p.f0 p.f1 = some (insideR ll even p) := by
  obtain ⟨k, rfl⟩ : ∃ m, k = m + 1 := ⟨k - 1, by omega⟩
  unfold wind_Inside.f insideR
  rw [validAll_is ll hs (k + 1) (by omega), isPoint_is]
  simp only [Option.bind_some, wind_Inside.j0]
  cases hv : vallB ll with
  | false => simp
  | true =>
    cases hp : isPt p with
    | false => simp
    | true =>
      have vf := vall_facts hv
      have := inside_from ll even p vf.1 hp (by omega) ll.length k 0 0 0 (by omega) (by omega) (by omega) (by simp; omega) (by simp; omega) (by simp; omega) (by simp; omega)
      simp only [List.drop_zero, Int.zero_add, Int.natCast_zero] at this
      simp only [if_true, Bool.not_true, Bool.false_eq_true, if_false, this, Bool.and_self, insideB]
end
end Go.Proofs.Ytdhgekogaoiidaa.PT6

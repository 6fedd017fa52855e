/-
  WindBack, its plain law: backward the winding number is the opposite one, and the crossings are the same; where a polygon begins, and by how much all is moved, does not matter.
-/
import Derived.Test.YtdhgekogaoiidaaSaysWindBack
import Derived.Test.YtdhgekogaoiidaaLibD
set_option linter.unusedVariables false
set_option linter.unusedSimpArgs false
namespace Go.Proofs.Ytdhgekogaoiidaa.Pure
open Go.RowKit Go.Proofs.Ytdhgekogaoiidaa.PT2 Go.Proofs.YtdhgekogaoiidaaW.PrintWords Go.Proofs.YtdhgekogaoiidaaW.PrintLast Go.Proofs.YtdhgekogaoiidaaW.PrintMore
theorem awake_is : fleuronlaw17_awake.f = some true := rfl
section
variable (l : List S24) (p d : S24) (hok : okPoly l = true) (hp : isPt p = true)
include hok hp
theorem count_rot (i : Nat) (s : Int) (o : Int → Int) : countB (l.drop i ++ l.take i) p s o = (csum (l.drop i ++ l.take i) p s o (l.drop i ++ l.take i).length, 0) := by
  unfold countB; rw [ok_rot, hok, hp]; rfl
theorem back_loop (n : Nat) : ∀ (k i : Nat), i ≤ l.length → l.length - i = n → n + 100000 < k →
    (∃ k', 90000 < k' ∧ fleuronlaw17_WindBack.l0 k l (csum l p 1 id l.length) (csum l p 1 (fun _ => 1) l.length) (l.length : Int) (i : Int) p.f0 p.f1 d.f0 d.f1 = fleuronlaw17_WindBack.l0 (k' + 1) l (csum l p 1 id l.length) (csum l p 1 (fun _ => 1) l.length) (l.length : Int) (l.length : Int) p.f0 p.f1 d.f0 d.f1) := by
  have hf := okPoly_facts hok
  induction n with
  | zero =>
    intro k i hi hd' hk
    obtain rfl : i = l.length := by omega
    exact ⟨k - 1, by omega, by rw [show k - 1 + 1 = k by omega]⟩
  | succ n ih =>
    intro k i hi hd' hk
    obtain ⟨k, rfl⟩ : ∃ m, k = m + 1 := ⟨k - 1, by omega⟩
    have hlt : i < l.length := by omega
    have hlen : (l.drop i ++ l.take i).length = l.length := by simp; omega
    obtain ⟨k', hk', h⟩ := ih k (i + 1) (by omega) (by omega) (by omega)
    refine ⟨k', hk', ?_⟩
    rw [← h]
    conv => lhs; simp only [fleuronlaw17_WindBack.l0]
    rw [if_pos (by omega), start_is l i hok hlt]
    simp only [Option.bind_some]
    rw [winding_is _ p (by omega), crossings_is _ p (by omega), count_rot l p hok hp, count_rot l p hok hp]
    simp only [Option.bind_some, if_true]
    rw [csum_rot l p 1 id i (by omega), csum_rot l p 1 _ i (by omega), if_pos rfl, if_pos rfl, wrap64_small (n := (i : Int) + 1) (by omega) (by omega), show (i : Int) + 1 = ((i + 1 : Nat) : Int) by omega]
theorem back_end (k : Nat) (hk : 90000 < k) : fleuronlaw17_WindBack.l0 (k + 1) l (csum l p 1 id l.length) (csum l p 1 (fun _ => 1) l.length) (l.length : Int) (l.length : Int) p.f0 p.f1 d.f0 d.f1 = some true := by
  obtain ⟨k, rfl⟩ : ∃ m, k = m + 1 := ⟨k - 1, by omega⟩
  have hf := okPoly_facts hok
  have bp := isPt_bounds hp
  simp only [fleuronlaw17_WindBack.l0]
  rw [if_neg (by omega), shift_is l d (by omega) (k + 1) (by omega)]
  simp only [Option.bind_some, fleuronlaw17_WindBack.j3, hok, Bool.true_and, awake_is]
  cases hd : isPt d with
  | false => simp
  | true =>
    have bd := isPt_bounds hd
    rw [if_pos rfl]
    cases hal : (l.map (movP d)).all isPt with
    | false => simp
    | true =>
      have hq : movP d p = ⟨p.f0 + d.f0, p.f1 + d.f1⟩ := rfl
      have hin := refIn_is (movP d p)
      rw [hq] at hin
      simp only [if_true, wrap64_small (n := p.f0 + d.f0) (by omega) (by omega), wrap64_small (n := p.f1 + d.f1) (by omega) (by omega)]
      simp only [hin, Option.bind_some]
      cases hqi : isPt (⟨p.f0 + d.f0, p.f1 + d.f1⟩ : S24) with
      | false => simp
      | true =>
        have hok2 : okPoly (l.map (movP d)) = true := by
          unfold okPoly
          rw [hal]
          simp
          omega
        have hw := winding_is (l.map (movP d)) (movP d p) (by simp; omega)
        have hc := crossings_is (l.map (movP d)) (movP d p) (by simp; omega)
        rw [hq] at hw hc
        simp only [Bool.not_true, Bool.false_eq_true, if_false, hw, hc, Option.bind_some]
        unfold countB
        rw [hok2, hqi]
        have s1 := csum_mov l d p 1 id
        have s2 := csum_mov l d p 1 (fun _ => 1)
        rw [hq] at s1 s2
        simp only [Bool.and_self, if_true, s1, s2]
end
theorem WindBack : fleuronlaw17_WindBack.Pure := by
  intro l p d hl _ _
  have hl1 := hl.1.1
  obtain ⟨b, hb, hf⟩ := few_is [l] (by simp; omega) (by simp) 500000 (by simp)
  refine ⟨500000, ?_⟩
  unfold fleuronlaw17_WindBack.f
  rw [hb]
  simp only [Option.bind_some]
  cases b with
  | false => rfl
  | true =>
    have hs := hf rfl
    simp [sumLen] at hs
    rw [if_pos rfl, winding_is l p (by omega), crossings_is l p (by omega)]
    simp only [Option.bind_some, fleuronlaw17_WindBack.j0, fleuronlaw17_WindBack.j1]
    unfold countB
    cases hok : okPoly l with
    | false => rfl
    | true =>
      cases hp : isPt p with
      | false => rfl
      | true =>
        have hf := okPoly_facts hok
        have c1 := csum_abs l p 1 id id_small l.length
        simp only [Bool.and_self, if_true]
        rw [reverse_is l (by omega), hok]
        simp only [Option.bind_some, if_true]
        rw [winding_is _ p (by simp; omega), crossings_is _ p (by simp; omega)]
        unfold countB
        rw [ok_reverse, hok, hp]
        obtain ⟨k', hk', h⟩ := back_loop l p d hok hp l.length 499998 0 (by omega) (by omega) (by omega)
        simp only [Option.bind_some, Bool.and_self, if_true]
        rw [csum_rev, csum_rev_one, wrap64_small (n := - csum l p 1 id l.length) (by omega) (by omega), if_pos rfl]
        simp only [bne_self_eq_false, Bool.false_eq_true, if_false]
        exact h.trans (back_end l p d hok hp k' hk')
end Go.Proofs.Ytdhgekogaoiidaa.Pure

/-
  WindParts, its plain law: the winding numbers of both parts of a polygon that is cut between two of its points sum to its winding number.
-/
import Derived.Test.YtdhgekogaoiidaaSaysWindParts
import Derived.Test.YtdhgekogaoiidaaLibR
import Derived.Test.YtdhgekogaoiidaaLibW
import Derived.Test.YtdhgekogaoiidaaLibY
set_option linter.unusedVariables false
set_option linter.unusedSimpArgs false
namespace Go.Proofs.Ytdhgekogaoiidaa.Pure
open Go.RowKit Go.Proofs.Ytdhgekogaoiidaa.PT5 Go.Proofs.YtdhgekogaoiidaaW.PrintWords Go.Proofs.YtdhgekogaoiidaaW.PrintLast Go.Proofs.YtdhgekogaoiidaaW.PrintMore
theorem okPoly_sub {l m : List S24} (h : okPoly l = true) (h1 : 1 ≤ m.length) (h2 : m.length ≤ 60000) (hs : ∀ x ∈ m, x ∈ l) : okPoly m = true := by
  obtain ⟨_, _, k3⟩ := okPoly_facts h
  unfold okPoly
  simp only [Bool.and_eq_true, decide_eq_true_eq, List.all_eq_true]
  exact ⟨h1, h2, fun x hx => k3 x (hs x hx)⟩
theorem winding_ok {l : List S24} {p : S24} (h : okPoly l = true) (hp : isPt p = true) : wind_Winding.f l p.f0 p.f1 = some (csum l p 1 id l.length, 0) := by
  have := (okPoly_facts h).2.1
  rw [winding_is l p (by omega)]
  unfold countB
  rw [h, hp]; rfl
theorem WindParts : fleuronlaw17_WindParts.Pure := by
  intro l p at_ hl _ _
  obtain ⟨n0, n1⟩ := at_
  have hl1 := hl.1.1
  refine ⟨2000, ?_⟩
  unfold fleuronlaw17_WindParts.P
  obtain ⟨b, hb, hb'⟩ := few_is [l] (by simp; omega) (by simp) 2000 (by simp)
  rw [hb]
  cases b with
  | false => exact .inl rfl
  | true =>
    right
    refine ⟨rfl, ?_⟩
    have hn := hb' rfl
    simp only [sumLen, List.length_singleton] at hn
    rw [refValid_is l (by omega) 2000 (by omega), refIn_is]
    cases hv : okPoly l with
    | false => exact .inl rfl
    | true =>
      right
      refine ⟨rfl, ?_⟩
      cases hp : isPt p with
      | false => exact .inl rfl
      | true =>
        right
        obtain ⟨k1, k2, k3⟩ := okPoly_facts hv
        simp only
        have hi0 : idxN n0 l.length < l.length := Nat.mod_lt _ (by omega)
        have hi1 : idxN n1 l.length < l.length := Nat.mod_lt _ (by omega)
        generalize idxN n0 l.length = i0 at *
        generalize idxN n1 l.length = i1 at *
        have hik : min i0 i1 ≤ max i0 i1 := by omega
        have hkn : max i0 i1 < l.length := by omega
        generalize min i0 i1 = i at *
        generalize max i0 i1 = k at *
        have e1 : (l.take (k + 1)).drop i = (l.drop i).take (k + 1 - i) := List.drop_take
        rw [e1]
        have o1 : okPoly ((l.drop i).take (k + 1 - i)) = true := okPoly_sub hv (by simp; omega) (by simp; omega) (fun x hx => List.mem_of_mem_drop (List.mem_of_mem_take hx))
        have o2 : okPoly (l.drop k ++ l.take (i + 1)) = true := okPoly_sub hv (by simp; omega) (by simp; omega) (fun x hx => by
          rcases List.mem_append.mp hx with h | h
          · exact List.mem_of_mem_drop h
          · exact List.mem_of_mem_take h)
        have hc := csum_parts l p i k hik hkn
        have hb := csum_abs l p 1 id (by intro x h1 h2; exact ⟨h1, h2⟩) l.length
        refine ⟨trivial, by omega, by omega, _, _, _, winding_ok hv hp, winding_ok o1 hp, winding_ok o2 hp, ?_⟩
        rw [← hc]
        unfold wrap64
        omega
end Go.Proofs.Ytdhgekogaoiidaa.Pure

/-
  ScanSets, its plain law: Or, And, Without, Count and Has by the code are those by the chapter.
-/
import Derived.Test.YtckjlckhjcbddaaGreatSaysScanSets
import Derived.Test.YtckjlckhjcbddaaGreatLibCount
set_option linter.unusedVariables false
set_option linter.unusedSimpArgs false
namespace Go.Proofs.YtckjlckhjcbddaaGreat.Pure
open Go.RowKit Go.Proofs.YtckjlckhjcbddaaGreat.PG3 Go.Proofs.YtckjlckhjcbddaaGreatW.PrintWords Go.Proofs.YtckjlckhjcbddaaGreatW.PrintLast Go.Proofs.YtckjlckhjcbddaaGreatW.PrintMore
theorem comb_len (op : Bool → Bool → Bool) (a b : List Sp) : (combR op a b).1.length ≤ 256 := by
  unfold combR
  split
  · have := spTo_len (bitsL fun j => op (hasS a (j : Int)) (hasS b (j : Int))) 256
    unfold spansB; rw [bits_len]; exact this
  · simp
theorem ScanSets : fleuronlaw19_ScanSets.Pure := by
  intro a b i ha hb _
  obtain ⟨k, hk⟩ : ∃ k : Nat, 300000 ≤ k := ⟨_, Nat.le_refl _⟩
  refine ⟨k + 4, ?_⟩
  unfold fleuronlaw19_ScanSets.f
  have hawake : ∀ (x : List Sp), fleuronlaw19_ScanSets.j0 (k + 4) a b i true = some true := fun _ => by rw [fleuronlaw19_ScanSets.j0, if_pos rfl]; rfl
  by_cases h1 : (a.length : Int) > 300
  · rw [if_pos h1]; exact hawake []
  rw [if_neg h1]
  by_cases h2 : (b.length : Int) > 300
  · rw [decide_eq_true h2]; exact hawake []
  rw [decide_eq_false h2]
  have same : ∀ (op : Bool → Bool → Bool) (m : Nat), 300000 ≤ m → fleuronref19_Same.f m (combR op a b).1 (combR op a b).1 = some true := fun op m hm => by
    rw [sameS_is _ _ (by have := comb_len op a b; omega) m (by have := comb_len op a b; omega)]; simp
  have la : a.length ≤ 1000 := by omega
  have lb : b.length ≤ 1000 := by omega
  rw [fleuronlaw19_ScanSets.j0, if_neg (by simp)]
  unfold scan_Or.f
  rw [comb_is _ a b la lb _ (by omega), refOr_is a b la lb _ (by omega)]
  simp only [Option.bind_some]
  rw [same _ _ (by omega)]
  simp only [Option.bind_some, if_true, bne_self_eq_false]
  rw [fleuronlaw19_ScanSets.j1, if_neg (by simp)]
  unfold scan_And.f
  rw [comb_is _ a b la lb _ (by omega), refAnd_is a b la lb _ (by omega)]
  simp only [Option.bind_some]
  rw [same _ _ (by omega)]
  simp only [Option.bind_some, if_true, bne_self_eq_false]
  rw [fleuronlaw19_ScanSets.j2, if_neg (by simp)]
  unfold scan_Without.f
  rw [comb_is _ a b la lb _ (by omega), refWithout_is a b la lb _ (by omega)]
  simp only [Option.bind_some]
  rw [same _ _ (by omega)]
  simp only [Option.bind_some, if_true, bne_self_eq_false]
  rw [fleuronlaw19_ScanSets.j3, if_neg (by simp), count_is a la _ (by omega), refCount_is a la _ (by omega)]
  simp only [Option.bind_some]
  rw [hasR_is a la i _ (by omega), refHasR_is a la i _ (by omega)]
  simp only [Option.bind_some, beq_self_eq_true, if_true]
  rfl
end Go.Proofs.YtckjlckhjcbddaaGreat.Pure

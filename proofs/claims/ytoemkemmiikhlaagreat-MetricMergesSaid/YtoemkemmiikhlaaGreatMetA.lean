import Derived.Test.YtoemkemmiikhlaaGreatLibMet
import Derived.Test.YtoemkemmiikhlaaGreatPF4x10
import Derived.Test.YtoemkemmiikhlaaGreatPF4x11
import Derived.Test.YtoemkemmiikhlaaGreatPF4x12
import Derived.Test.YtoemkemmiikhlaaGreatPF4x15
import Derived.Test.YtoemkemmiikhlaaGreatPF4x5
import Derived.Test.YtoemkemmiikhlaaGreatPF4x7
set_option linter.unusedVariables false
set_option linter.unusedSimpArgs false
set_option linter.unusedSectionVars false
namespace Go.Proofs.YtoemkemmiikhlaaGreat.PF4
open Go.RowKit Go.Proofs.YtoemkemmiikhlaaGreatW.PrintWords Go.Proofs.YtoemkemmiikhlaaGreatW.PrintLast Go.Proofs.YtoemkemmiikhlaaGreatW.PrintMore
theorem mI_lt (x y:Int):cmpI x y<0↔x<y:=by
  unfold cmpI
  split
  · exact ⟨fun _=>by assumption,fun _=>by decide⟩
  · split
    · constructor <;> intro h <;> omega
    · constructor <;> intro h <;> omega
theorem mI_eq (x y:Int):cmpI x y=0↔x=y:=by
  unfold cmpI
  split
  · constructor <;> intro h <;> omega
  · split
    · constructor <;> intro h <;> omega
    · constructor <;> intro h <;> omega
theorem mC_lt (x y:MC):cmpC x y<0↔x.f0<y.f0:=mI_lt _ _
theorem mC_eq (x y:MC):cmpC x y=0↔x.f0=y.f0:=mI_eq _ _
theorem mR_lt (x y:MR):cmpR x y<0↔x.f0<y.f0∨(x.f0=y.f0∧x.f1<y.f1):=by
  unfold cmpR
  by_cases h:cmpI x.f0 y.f0=0
  · rw [if_pos h,mI_lt]
    have:=(mI_eq _ _).mp h
    omega
  · rw [if_neg h,mI_lt]
    have : ¬ x.f0=y.f0:=fun e=>h ((mI_eq _ _).mpr e)
    omega
theorem mR_eq (x y:MR):cmpR x y=0↔x.f0=y.f0∧x.f1=y.f1:=by
  unfold cmpR
  by_cases h:cmpI x.f0 y.f0=0
  · rw [if_pos h,mI_eq]
    have:=(mI_eq _ _).mp h
    omega
  · rw [if_neg h]
    have h2 : ¬ x.f0=y.f0:=fun e=>h ((mI_eq _ _).mpr e)
    constructor
    · intro e;exact absurd e h
    · intro e;exact absurd e.1 h2
structure Cmp {α:Type} (cf:α→α→Int):Prop where
  tri : ∀ x y,cf x y<0∨cf x y=0∨cf y x<0
  asym : ∀ x y,cf x y<0→¬ cf y x<0
  eqs : ∀ x y,cf x y=0→cf y x=0
  eqn : ∀ x y,cf x y=0→¬ cf y x<0
  trans : ∀ x y z,¬ cf y x<0→¬ cf z y<0→¬ cf z x<0
  strict : ∀ x y z,cf x y<0→¬ cf z y<0→cf x z<0
theorem mC_ok:Cmp cmpC:=by
  constructor <;> intros <;> simp only [mC_lt,mC_eq] at * <;> omega
theorem mR_ok:Cmp cmpR:=by
  constructor <;> intros <;> simp only [mR_lt,mR_eq] at * <;> omega
section
variable {α:Type} {cf:α→α→Int}
def RiseG (cf:α→α→Int) (r:List α):Prop:=r.Pairwise fun x y=>¬ cf y x<0
theorem chain_ne (hc : Cmp cf) : ∀ (r : List α), RiseG cf r → (chainB (fun x y => !(cf x y == 0)) r = true ↔ r.Pairwise fun x y => cf x y ≠ 0)
  | [],_=>by simp [chainB]
  | [x],_=>by simp [chainB]
  | x::y::r,h=>by
    have h2:=List.pairwise_cons.mp h
    have ih:=chain_ne hc (y::r) h2.2
    rw [chainB,Bool.and_eq_true,ih,List.pairwise_cons (a:=x)]
    simp only [Bool.not_eq_true',beq_eq_false_iff_ne]
    constructor
    · rintro ⟨h3,h4⟩
      refine ⟨fun z hz=>?_,h4⟩
      rcases List.mem_cons.mp hz with rfl|hz
      · exact h3
      · intro e
        have hxy:cf x y<0:=by
          rcases hc.tri x y with h5|h5|h5
          · exact h5
          · exact absurd h5 h3
          · exact absurd h5 (h2.1 y (List.mem_cons_self ..))
        have:=hc.strict x y z hxy ((List.pairwise_cons.mp h2.2).1 z hz)
        omega
    · rintro ⟨h3,h4⟩
      exact ⟨h3 y (List.mem_cons_self ..),h4⟩
theorem pair_symm (hc:Cmp cf) {r1 r2:List α} (hp:r1.Perm r2):(r1.Pairwise fun x y=>cf x y≠0)↔(r2.Pairwise fun x y=>cf x y≠0) :=
  hp.pairwise_iff (fun {x y} h e=>h (hc.eqs _ _ e))
theorem chain_perm (hc:Cmp cf) {r1 r2:List α} (hp:r1.Perm r2) (h1:RiseG cf r1) (h2:RiseG cf r2):chainB (fun x y=>!(cf x y == 0)) r1=chainB (fun x y=>!(cf x y == 0)) r2:=by
  rw [Bool.eq_iff_iff,chain_ne hc r1 h1,chain_ne hc r2 h2]
  exact pair_symm hc hp
theorem strict_of (hc:Cmp cf) {r:List α} (h:RiseG cf r) (hn:r.Pairwise fun x y=>cf x y≠0):r.Pairwise fun x y=>cf x y<0:=by
  refine List.Pairwise.imp₂ (fun x y h1 h2=>?_) h hn
  rcases hc.tri x y with h3|h3|h3
  · exact h3
  · exact absurd h3 h2
  · exact absurd h3 h1
theorem strict_uniq (hc : Cmp cf) : ∀ {r1 r2 : List α}, r1.Perm r2 → (r1.Pairwise fun x y => cf x y < 0) → (r2.Pairwise fun x y => cf x y < 0) → r1 = r2
  | [],r2,hp,_,_=>(List.nil_perm.mp hp).symm
  | x::r1,[],hp,_,_=>absurd hp.length_eq (by simp)
  | x::r1,y::r2,hp,h1,h2=>by
    have a1:=List.pairwise_cons.mp h1
    have a2:=List.pairwise_cons.mp h2
    have hx:x=y:=by
      rcases List.mem_cons.mp (hp.mem_iff.mp (List.mem_cons_self ..)) with h|h
      · exact h
      · rcases List.mem_cons.mp (hp.mem_iff.mpr (List.mem_cons_self ..)) with h'|h'
        · exact h'.symm
        · exact absurd (a1.1 y h') (hc.asym _ _ (a2.1 x h))
    subst hx
    rw [strict_uniq hc (List.perm_cons x |>.mp hp) a1.2 a2.2]
theorem rise_uniq (hc:Cmp cf) {r1 r2:List α} (hp:r1.Perm r2) (h1:RiseG cf r1) (h2:RiseG cf r2) (hn:chainB (fun x y=>!(cf x y == 0)) r1=true):r1=r2:=by
  have n1:=(chain_ne hc r1 h1).mp hn
  exact strict_uniq hc hp (strict_of hc h1 n1) (strict_of hc h2 ((pair_symm hc hp).mp n1))
theorem exists_rise (hc:Cmp cf) (l:List α) : ∃ r:List α,r.Perm l∧RiseG cf r:=by
  refine ⟨l.mergeSort fun x y=>decide (¬ cf y x<0),List.mergeSort_perm ..,?_⟩
  have h:=List.pairwise_mergeSort (le:=fun x y=>decide (¬ cf y x<0)) (fun a b c h1 h2=>by
    simp only [decide_eq_true_eq] at h1 h2 ⊢
    exact hc.trans a b c h1 h2) (fun a b=>by
    simp only [Bool.or_eq_true,decide_eq_true_eq]
    by_cases h:cf b a<0
    · exact .inr (hc.asym _ _ h)
    · exact .inl h) l
  exact h.imp (fun h=>by simpa using h)
theorem chain_less (hc : Cmp cf) : ∀ (r : List α), (chainB (fun x y => decide (cf x y < 0)) r = true ↔ r.Pairwise fun x y => cf x y < 0)
  | []=>by simp [chainB]
  | [x]=>by simp [chainB]
  | x::y::r=>by
    have ih:=chain_less hc (y::r)
    rw [chainB,Bool.and_eq_true,ih,List.pairwise_cons (a:=x)]
    simp only [decide_eq_true_eq]
    constructor
    · rintro ⟨h3,h4⟩
      refine ⟨fun z hz=>?_,h4⟩
      rcases List.mem_cons.mp hz with rfl|hz
      · exact h3
      · exact hc.strict x y z h3 (hc.asym _ _ ((List.pairwise_cons.mp h4).1 z hz))
    · rintro ⟨h3,h4⟩
      exact ⟨h3 y (List.mem_cons_self ..),h4⟩
theorem rise_of_strict (hc:Cmp cf) {r:List α} (h:r.Pairwise fun x y=>cf x y<0):RiseG cf r:=h.imp (fun {x y} h=>hc.asym _ _ h)
theorem ne_of_strict (hc:Cmp cf) {r:List α} (h:r.Pairwise fun x y=>cf x y<0):r.Pairwise fun x y=>cf x y≠0:=h.imp (fun {x y} h=>by omega)
end
end Go.Proofs.YtoemkemmiikhlaaGreat.PF4

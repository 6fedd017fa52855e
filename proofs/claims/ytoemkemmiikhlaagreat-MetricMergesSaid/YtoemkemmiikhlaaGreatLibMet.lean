import Derived.Test.YtoemkemmiikhlaaGreatPF4x0
import Derived.Test.YtoemkemmiikhlaaGreatPF4x13
import Derived.Test.YtoemkemmiikhlaaGreatPF4x3
import Derived.Test.YtoemkemmiikhlaaGreatPF4x8
set_option linter.unusedVariables false
set_option linter.unusedSectionVars false
set_option linter.unusedSimpArgs false
namespace Go.Proofs.YtoemkemmiikhlaaGreat.PF4
open Go.RowKit Go.Proofs.YtoemkemmiikhlaaGreatW.PrintWords Go.Proofs.YtoemkemmiikhlaaGreatW.PrintLast Go.Proofs.YtoemkemmiikhlaaGreatW.PrintMore
theorem wrap64_small {n:Int} (h : -9223372036854775808≤n) (h':n≤9223372036854775807):wrap64 n=n:=by unfold wrap64;omega
abbrev MC:=S50
abbrev MR:=S45
theorem rd50_at (l:List MC) (i:Nat) (h:i<l.length):rd_T50 l (i:Int)=l[i]:=by
  unfold rd_T50
  rw [Int.toNat_natCast,List.getD_eq_getElem?_getD,List.getElem?_eq_getElem h]
  rfl
theorem rd45_at (l:List MR) (i:Nat) (h:i<l.length):rd_T45 l (i:Int)=l[i]:=by
  unfold rd_T45
  rw [Int.toNat_natCast,List.getD_eq_getElem?_getD,List.getElem?_eq_getElem h]
  rfl
theorem drop_at {α:Type} (l:List α) (i:Nat) (h:i<l.length):l.drop i=l[i]::l.drop (i+1):=List.drop_eq_getElem_cons h
theorem same_is (sz:Int) (cs:List MC) (rs:List MR) (hl:cs.length≤1000000) (hr:rs.length≤1000000) (k:Nat) (hk:cs.length+rs.length+5≤k):fleuronref27_Same.f k sz cs rs sz cs rs=some true:=by
  unfold fleuronref27_Same.f
  rw [if_pos ⟨⟨rfl,rfl,rfl⟩,hl,hr⟩]
theorem scaleV_is (v s m:Int) (hm:1≤m):scaleV v s m=(2*v*s+m) / (2*m):=by
  unfold scaleV
  generalize 2*v*s+m=p
  have h2:0<2*m:=by omega
  generalize 2*m=d at *
  rw [Int.tdiv_eq_ediv,Int.tmod_eq_emod]
  have he:=Int.emod_nonneg p (show d≠0 by omega)
  have hl:=Int.emod_lt_of_pos p h2
  by_cases h:0≤p∨d ∣ p
  · rw [if_pos h,if_pos h]
    simp only [Int.add_zero,Int.sub_zero]
    rw [if_neg (by omega)]
  · rw [if_neg h,if_neg h]
    have hs:d.sign=1:=Int.sign_eq_one_of_pos h2
    have hne:p % d≠0:=fun h0=>h (.inr (Int.dvd_of_emod_eq_zero h0))
    rw [hs,if_pos (by have:(d.natAbs:Int)=d:=Int.natAbs_of_nonneg (by omega);omega)]
    omega
theorem scaleV_self (v m:Int) (hm:1≤m):scaleV v m m=v:=by
  rw [scaleV_is v m m hm]
  have:2*v*m+m=m+2*m*v:=by grind
  rw [this,Int.add_mul_ediv_left _ _ (by omega),Int.ediv_eq_zero_of_lt (by omega) (by omega)]
  omega
theorem scaleV_dbl (v m:Int) (hm:1≤m):scaleV v (2*m) m=2*v:=by
  rw [scaleV_is v (2*m) m hm]
  have:2*v*(2*m)+m=m+2*m*(2*v):=by grind
  rw [this,Int.add_mul_ediv_left _ _ (by omega),Int.ediv_eq_zero_of_lt (by omega) (by omega)]
  omega
end Go.Proofs.YtoemkemmiikhlaaGreat.PF4

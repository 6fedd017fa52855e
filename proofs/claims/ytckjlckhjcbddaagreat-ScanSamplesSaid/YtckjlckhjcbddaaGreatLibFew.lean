import Derived.Test.YtckjlckhjcbddaaGreatPG3x0
import Derived.Test.YtckjlckhjcbddaaGreatPG3x15
set_option linter.unusedVariables false
set_option linter.unusedSectionVars false
set_option linter.unusedSimpArgs false
namespace Go.Proofs.YtckjlckhjcbddaaGreat.PG3
open Go.RowKit Go.Proofs.YtckjlckhjcbddaaGreatW.PrintWords Go.Proofs.YtckjlckhjcbddaaGreatW.PrintLast Go.Proofs.YtckjlckhjcbddaaGreatW.PrintMore
theorem wrap64_small {n:Int} (h : -9223372036854775808≤n) (h':n≤9223372036854775807):wrap64 n=n:=by unfold wrap64;omega
theorem wrap64_zero:wrap64 0=0:=wrap64_small (by omega) (by omega)
theorem rdL_drop (ll:List (List S47)) (i:Nat) (h:i<ll.length):ll.drop i=rd_L2 ll (i:Int)::ll.drop (i+1):=by
  rw [List.drop_eq_getElem_cons h]
  congr 1
  simp [rd_L2,List.getD_eq_getElem?_getD,List.getElem?_eq_getElem h]
theorem rdL_mem (ll:List (List S47)) (i:Nat) (h:i<ll.length):rd_L2 ll (i:Int)∈ll:=by
  simp [rd_L2,List.getD_eq_getElem?_getD,List.getElem?_eq_getElem h]
def sumLen : List (List S47) → Nat
  | []=>0
  | l::ls=>l.length+sumLen ls
theorem few_from (m : Int) (h0 : 0 ≤ m) (hm : m ≤ 1000000) (ll : List (List S47)) (hs : ∀ l ∈ ll, l.length ≤ 100000000000000) (hll : ll.length ≤ 100000000000000) (d : Nat) :
    ∀ (k i:Nat) (n:Int),i≤ll.length→ll.length-i=d→d<k→0≤n→n≤m→fleuronlaw19_few.l0 k m n ll (ll.length:Int) (i:Int)=some (decide (n+(sumLen (ll.drop i):Int)+((ll.drop i).length:Int)≤m)):=by
  induction d with
  | zero =>
    intro k i n hi hd hk hn hn'
    obtain ⟨k,rfl⟩ : ∃ m,k=m+1:=⟨k-1,by omega⟩
    simp only [fleuronlaw19_few.l0]
    rw [if_neg (by omega),List.drop_eq_nil_of_le (by omega),decide_eq_true]
    simp [sumLen];omega
  | succ d ih =>
    intro k i n hi hd hk hn hn'
    obtain ⟨k,rfl⟩ : ∃ m,k=m+1:=⟨k-1,by omega⟩
    have hl:=hs _ (rdL_mem ll i (by omega))
    simp only [fleuronlaw19_few.l0]
    rw [if_pos (by omega),if_pos (by omega),if_pos (by omega),wrap64_small (n:=1+((rd_L2 ll (i:Int)).length:Int)) (by omega) (by omega),wrap64_small (n:=n+(1+((rd_L2 ll (i:Int)).length:Int))) (by omega) (by omega),rdL_drop ll i (by omega)]
    rw [show sumLen (rd_L2 ll (i:Int)::ll.drop (i+1))=(rd_L2 ll (i:Int)).length+sumLen (ll.drop (i+1)) from rfl,List.length_cons]
    by_cases hg:n+(1+((rd_L2 ll (i:Int)).length:Int))>m
    · rw [if_pos hg,decide_eq_false (by omega)]
    · rw [if_neg hg,wrap64_small (n:=(i:Int)+1) (by omega) (by omega),show (i:Int)+1=((i+1:Nat):Int) by omega,ih k (i+1) _ (by omega) (by omega) (by omega) (by omega) (by omega)]
      congr 1
      rw [decide_eq_decide]
      omega
theorem few_is (m:Int) (h0:0≤m) (hm:m≤1000000) (ll:List (List S47)) (hs : ∀ l∈ll,l.length≤100000000000000) (hll:ll.length≤100000000000000) (k:Nat) (hk:ll.length<k):fleuronlaw19_few.f k m ll=some (decide ((sumLen ll:Int)+(ll.length:Int)≤m)):=by
  have:=few_from m h0 hm ll hs hll ll.length k 0 0 (by omega) (by omega) hk (by omega) h0
  simp only [List.drop_zero,Int.zero_add] at this
  exact this
end Go.Proofs.YtckjlckhjcbddaaGreat.PG3

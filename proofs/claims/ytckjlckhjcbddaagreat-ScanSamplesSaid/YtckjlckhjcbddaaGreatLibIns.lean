import Derived.Test.YtckjlckhjcbddaaGreatLibRow
import Derived.Test.YtckjlckhjcbddaaGreatPG3x3
import Derived.Test.YtckjlckhjcbddaaGreatPG3x36
set_option linter.unusedVariables false
set_option linter.unusedSimpArgs false
namespace Go.Proofs.YtckjlckhjcbddaaGreat.PG3
open Go.RowKit Go.Proofs.YtckjlckhjcbddaaGreatW.PrintWords Go.Proofs.YtckjlckhjcbddaaGreatW.PrintLast Go.Proofs.YtckjlckhjcbddaaGreatW.PrintMore
theorem winding_is (l:List S47) (p:S47) (hl:l.length≤9223372036854775807):wind_Winding.f l p.f0 p.f1=some (countB l p 1 id):=by unfold wind_Winding.f;rw [if_pos hl]
theorem crossings_is (l:List S47) (p:S47) (hl:l.length≤9223372036854775807):wind_Crossings.f l p.f0 p.f1=some (countB l p 1 (fun _=>1)):=by unfold wind_Crossings.f;rw [if_pos hl]
theorem inside_from (ll : List (List S47)) (even : Bool) (p : S47) (hok : ∀ l ∈ ll, okPoly l = true) (hp : isPt p = true) (hll : ll.length ≤ 1000000) (d : Nat) :
    ∀ (k i : Nat) (s n : Int), i ≤ ll.length → ll.length - i = d → d < k → -1000000 + (sumLen (ll.drop i) : Int) ≤ s → s + sumLen (ll.drop i) ≤ 1000000 → -1000000 + (sumLen (ll.drop i) : Int) ≤ n → n + sumLen (ll.drop i) ≤ 1000000 →
      wind_Inside.l0 k even s n ll (ll.length:Int) (i:Int) p.f0 p.f1=some (if even then Int.tmod (n+allSum p (fun _=>1) (ll.drop i)) 2 == 1 else s+allSum p id (ll.drop i) != 0,0):=by
  induction d with
  | zero =>
    intro k i s n hi hd hk h1 h2 h3 h4
    obtain ⟨k,rfl⟩ : ∃ m,k=m+1:=⟨k-1,by omega⟩
    simp only [wind_Inside.l0]
    rw [if_neg (by omega),List.drop_eq_nil_of_le (by omega)]
    cases even <;> simp [allSum]
  | succ d ih =>
    intro k i s n hi hd hk h1 h2 h3 h4
    obtain ⟨k,rfl⟩ : ∃ m,k=m+1:=⟨k-1,by omega⟩
    have hdr:=rdL_drop ll i (by omega)
    have hm:=rdL_mem ll i (by omega)
    have ho:=hok _ hm
    have hof:=okPoly_facts ho
    rw [hdr] at h1 h2 h3 h4
    simp only [sumLen] at h1 h2 h3 h4
    have c1:=csum_abs (rd_L2 ll (i:Int)) p 1 id id_small (rd_L2 ll (i:Int)).length
    have c2:=csum_abs (rd_L2 ll (i:Int)) p 1 (fun _=>1) one_small (rd_L2 ll (i:Int)).length
    have st:=ih k (i+1) (s+csum (rd_L2 ll (i:Int)) p 1 id (rd_L2 ll (i:Int)).length) (n+csum (rd_L2 ll (i:Int)) p 1 (fun _=>1) (rd_L2 ll (i:Int)).length) (by omega) (by omega) (by omega) (by omega) (by omega) (by omega) (by omega)
    simp only [wind_Inside.l0]
    rw [if_pos (by omega),if_pos (by omega),if_pos (by omega),winding_is _ _ (by omega),crossings_is _ _ (by omega),hdr]
    simp only [Option.bind_some,countB,ho,hp,Bool.and_self,if_true,allSum]
    rw [wrap64_small (n:=s+_) (by omega) (by omega),wrap64_small (n:=n+_) (by omega) (by omega),wrap64_small (n:=(i:Int)+1) (by omega) (by omega),show (i:Int)+1=((i+1:Nat):Int) by omega,st,Int.add_assoc,Int.add_assoc]
def insideR (ll:List (List S47)) (even:Bool) (p:S47):Bool×Int:=if vallB ll && isPt p then (insideB ll even p,0) else (false,2)
theorem inside_is (ll:List (List S47)) (even:Bool) (p:S47) (hs:sumLen ll+ll.length≤1000000) (k:Nat) (hk:4000000<k):wind_Inside.f k ll even p.f0 p.f1=some (insideR ll even p):=by
  obtain ⟨k,rfl⟩ : ∃ m,k=m+1:=⟨k-1,by omega⟩
  unfold wind_Inside.f insideR
  rw [validAll_is ll hs (k+1) (by omega),isPoint_is]
  simp only [Option.bind_some,wind_Inside.j0]
  cases hv:vallB ll with
  | false=>simp
  | true =>
    cases hp:isPt p with
    | false=>simp
    | true =>
      have vf:=vall_facts hv
      have:=inside_from ll even p vf.1 hp (by omega) ll.length k 0 0 0 (by omega) (by omega) (by omega) (by simp;omega) (by simp;omega) (by simp;omega) (by simp;omega)
      simp only [List.drop_zero,Int.zero_add,Int.natCast_zero] at this
      simp only [if_true,Bool.not_true,Bool.false_eq_true,if_false,this,Bool.and_self,insideB]
end Go.Proofs.YtckjlckhjcbddaaGreat.PG3

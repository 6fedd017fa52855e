import Derived.Test.YtckjlckhjcbddaaGreatLibRow
import Derived.Test.YtckjlckhjcbddaaGreatPG3x24
set_option linter.unusedVariables false
set_option linter.unusedSimpArgs false
namespace Go.Proofs.YtckjlckhjcbddaaGreat.PG3
open Go.RowKit Go.Proofs.YtckjlckhjcbddaaGreatW.PrintWords Go.Proofs.YtckjlckhjcbddaaGreatW.PrintLast Go.Proofs.YtckjlckhjcbddaaGreatW.PrintMore
theorem refrow_is (w j:Int):fleuronref19_row.f w j=some (rowOk w j):=by
 unfold fleuronref19_row.f rowOk
 by_cases h1:w≥1
 ·rw [if_pos h1,decide_eq_true (show 1≤w by omega)]
  by_cases h2:w≤256
  ·rw [if_pos h2,decide_eq_true h2]
   by_cases h3:j≥0
   ·rw [if_pos h3,decide_eq_true (show 0≤j by omega),show decide (j≤255)=decide (j<256) by rw [decide_eq_decide];omega];simp
   ·rw [if_neg h3,decide_eq_false (show ¬ 0≤j by omega)];simp
  ·rw [if_neg h2,decide_eq_false h2];simp
 ·rw [if_neg h1,decide_eq_false (show ¬ 1≤w by omega)];simp
theorem smp_is {i j:Int} (h0:0≤i) (h1:i≤1000) (h2:0≤j) (h3:j≤1000):fleuronref19_Sample.f i j=some ((smp i j).f0,(smp i j).f1):=by
 unfold fleuronref19_Sample.f smp
 rw [wrap64_small (n:=i*65536) (by omega) (by omega),wrap64_small (n:=j*65536) (by omega) (by omega),wrap64_small (by omega) (by omega),wrap64_small (by omega) (by omega),Int.mul_comm i,Int.mul_comm j]
theorem refRow_go (ll:List (List S47)) (even:Bool) (hv:vallB ll=true) (n:Nat) (hn:n≤256) (j:Int) (hj:0≤j) (hj':j<256) (d:Nat) : ∀ (k i:Nat),i≤n→n-i=d→d+100000<k →
  fleuronref19_Row.l0 k ll even j ((List.range i).map fun (i:Nat)=>insideB ll even (smp (i:Int) j)) (n:Int) (i:Int)=some (spansB (pixR ll even n j),0):=by
 induction d with
 | zero =>
  intro k i hi hd hk
  obtain ⟨k,rfl⟩ : ∃ m,k=m+1:=⟨k-1,by omega⟩
  obtain rfl:i=n:=by omega
  rw [fleuronref19_Row.l0,if_neg (by omega)]
  have e:((List.range i).map fun (i:Nat)=>insideB ll even (smp (i:Int) j))=pixR ll even i j:=rfl
  rw [e,refSpans_is _ (by unfold pixR;simp;omega) k (by unfold pixR;simp;omega)];rfl
 | succ d ih =>
  intro k i hi hd hk
  obtain ⟨k,rfl⟩ : ∃ m,k=m+1:=⟨k-1,by omega⟩
  have h:=ih k (i+1) (by omega) (by omega) (by omega)
  rw [List.range_succ,List.map_append,List.map_cons,List.map_nil] at h
  have hw:wrap64 ((i:Int)+1)=((i+1:Nat):Int):=by rw [wrap64_small (by omega) (by omega)];omega
  rw [fleuronref19_Row.l0,if_pos (by omega),smp_is (by omega) (by omega) hj (by omega)]
  simp only [Option.bind_some]
  rw [within_is ll even (smp (i:Int) j) hv (smp_pt (by omega) (by omega) hj (by omega)) k (by omega)]
  simp only [Option.bind_some]
  rw [if_pos (by simp;omega),hw]
  exact h
theorem refRow_is (ll:List (List S47)) (hs:sumLen ll+ll.length≤1000000) (even:Bool) (w j:Int) (k:Nat) (hk:3000001<k):fleuronref19_Row.f k ll even w j=some (rowR ll even w j):=by
 obtain ⟨k,rfl⟩ : ∃ m,k=m+1:=⟨k-1,by omega⟩
 unfold fleuronref19_Row.f rowR
 rw [some_is ll hs (k+1) (by omega),refrow_is]
 simp only [Option.bind_some,fleuronref19_Row.j0]
 cases hv:vallB ll with
 | false=>simp
 | true =>
  cases hr:rowOk w j with
  | false=>simp
  | true =>
   obtain ⟨r1,r2,r3,r4⟩:=rowOk_iff.mp hr
   simp only [if_true,Bool.and_self,Bool.not_true,Bool.false_eq_true,if_false]
   obtain ⟨n,rfl⟩ : ∃ n:Nat,w=n:=⟨w.toNat,by omega⟩
   exact refRow_go ll even hv n (by omega) j r3 r4 n k 0 (by omega) (by omega) (by omega)
theorem rowR_len (ll:List (List S47)) (even:Bool) (w j:Int):(rowR ll even w j).1.length≤256:=by
 unfold rowR
 split
 ·rename_i h
  rw [Bool.and_eq_true] at h
  have:=rowOk_iff.mp h.2
  have h2:=spTo_len (pixR ll even w j) (pixR ll even w j).length
  have h3:(pixR ll even w j).length=w.toNat:=by unfold pixR;simp
  show (spTo (pixR ll even w j) (pixR ll even w j).length).length≤256
  omega
 ·simp
end Go.Proofs.YtckjlckhjcbddaaGreat.PG3

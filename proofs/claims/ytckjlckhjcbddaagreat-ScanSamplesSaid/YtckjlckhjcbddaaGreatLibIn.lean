import Derived.Test.YtckjlckhjcbddaaGreatLibRow
import Derived.Test.YtckjlckhjcbddaaGreatPG3x17
import Derived.Test.YtckjlckhjcbddaaGreatPG3x21
set_option linter.unusedVariables false
set_option linter.unusedSimpArgs false
namespace Go.Proofs.YtckjlckhjcbddaaGreat.PG3
open Go.RowKit Go.Proofs.YtckjlckhjcbddaaGreatW.PrintWords Go.Proofs.YtckjlckhjcbddaaGreatW.PrintLast Go.Proofs.YtckjlckhjcbddaaGreatW.PrintMore
theorem row_has (ll:List (List S47)) (even:Bool) (w j:Int) (hv:vallB ll=true) (hr:rowOk w j=true) (n:Nat) (hn:(n:Int)<w):hasS (rowR ll even w j).1 (n:Int)=insideB ll even (smp (n:Int) j):=by
  obtain ⟨r1,r2,r3,r4⟩:=rowOk_iff.mp hr
  unfold rowR
  rw [hv,hr]
  simp only [Bool.and_self,if_true]
  rw [spansB_has _ (by unfold pixR;simp;omega)]
  unfold bitsF rdOf pixR
  rw [Int.toNat_natCast,List.getD_eq_getElem?_getD,List.getElem?_map,List.getElem?_range (by omega)];rfl
theorem in_go (l:List Sp) (hl:l.length≤1000000) (x:Int) (d:Nat) : ∀ (k i:Nat),i≤l.length→l.length-i=d→d<k→fleuronlaw19_in.l0 k x l (l.length:Int) (i:Int)=some (hasS (l.drop i) x):=by
  induction d with
  | zero =>
    intro k i hi hd hk
    obtain ⟨k,rfl⟩ : ∃ m,k=m+1:=⟨k-1,by omega⟩
    rw [fleuronlaw19_in.l0,if_neg (by omega),List.drop_eq_nil_of_le (by omega)];rfl
  | succ d ih =>
    intro k i hi hd hk
    obtain ⟨k,rfl⟩ : ∃ m,k=m+1:=⟨k-1,by omega⟩
    have hw:wrap64 ((i:Int)+1)=((i+1:Nat):Int):=by rw [w64 (by omega) (by omega)];omega
    rw [fleuronlaw19_in.l0,if_pos (by omega),if_pos (by omega),if_pos (by omega),rdS l i (by omega),hw,ih k (i+1) (by omega) (by omega) (by omega),List.drop_eq_getElem_cons (show i<l.length by omega),hasS_cons]
    by_cases h1:x≥l[i].f0
    · rw [if_pos h1,decide_eq_true (show l[i].f0≤x from h1)]
      by_cases h2:x<l[i].f1
      · rw [if_pos h2,decide_eq_true h2];rfl
      · rw [if_neg h2,decide_eq_false h2];simp
    · rw [if_neg h1,decide_eq_false (show ¬ l[i].f0≤x from h1)];simp
theorem in_is (l:List Sp) (hl:l.length≤1000000) (x:Int) (k:Nat) (hk:l.length<k):fleuronlaw19_in.f k l x=some (hasS l x):=by
  have:=in_go l hl x l.length k 0 (by omega) (by omega) hk
  simpa [fleuronlaw19_in.f] using this

theorem smp_is {i j:Int} (h0:0≤i) (h1:i≤1000) (h2:0≤j) (h3:j≤1000):fleuronref19_Sample.f i j=some ((smp i j).f0,(smp i j).f1):=by
  unfold fleuronref19_Sample.f smp
  rw [wrap64_small (n:=i*65536) (by omega) (by omega),wrap64_small (n:=j*65536) (by omega) (by omega),wrap64_small (by omega) (by omega),wrap64_small (by omega) (by omega),Int.mul_comm i,Int.mul_comm j]
theorem rowR_len (ll:List (List S47)) (even:Bool) (w j:Int):(rowR ll even w j).1.length≤256:=by
  unfold rowR
  split
  · rename_i h
    rw [Bool.and_eq_true] at h
    have:=rowOk_iff.mp h.2
    have h2:=spTo_len (pixR ll even w j) (pixR ll even w j).length
    have h3:(pixR ll even w j).length=w.toNat:=by unfold pixR;simp
    show (spTo (pixR ll even w j) (pixR ll even w j).length).length≤256
    omega
  · simp
end Go.Proofs.YtckjlckhjcbddaaGreat.PG3

import Derived.Test.YtckjlckhjcbddaaGreatPnSwept
import Derived.Test.YtckjlckhjcbddaaGreatPnRound
import Derived.Test.YtckjlckhjcbddaaGreatPG3x29
set_option linter.unusedVariables false
set_option linter.unusedSimpArgs false
namespace Go.Proofs.YtckjlckhjcbddaaGreat.PG3.Pn
open Go.RowKit Go.Proofs.YtckjlckhjcbddaaGreatW.PrintWords Go.Proofs.YtckjlckhjcbddaaGreatW.PrintLast Go.Proofs.YtckjlckhjcbddaaGreatW.PrintMore HG
theorem refPlus_go (l : List S47) (p : S47) (hl : l.length ≤ 1000000) (hal : ∀ x ∈ l, isPt x = true) (hp : isPt p = true) (d : Nat) : ∀ (k i : Nat), i ≤ l.length → l.length - i = d → d < k →
    fleuronref18_plus.l0 k ((l.take i).map (mv p)) l (l.length:Int) (i:Int) p.f0 p.f1=some (l.map (mv p)):=by
  induction d with
  | zero =>
    intro k i hi hd hk
    obtain ⟨k,rfl⟩ : ∃ m,k=m+1:=⟨k-1,by omega⟩
    simp only [fleuronref18_plus.l0]
    rw [if_neg (by omega),List.take_of_length_le (by omega)]
  | succ d ih =>
    intro k i hi hd hk
    obtain ⟨k,rfl⟩ : ∃ m,k=m+1:=⟨k-1,by omega⟩
    have bx:=isPt_iff.mp (hal _ (rd_in l i (by omega)))
    have bp:=isPt_iff.mp hp
    simp only [fleuronref18_plus.l0]
    rw [if_pos (by omega),if_pos (by omega),if_pos (by omega),if_pos (by simp;omega),wrap64_small (n:=_+p.f0) (by omega) (by omega),wrap64_small (n:=_+p.f1) (by omega) (by omega),wrap64_small (n:=(i:Int)+1) (by omega) (by omega),show (i:Int)+1=((i+1:Nat):Int) by omega]
    have:=ih k (i+1) (by omega) (by omega) (by omega)
    rw [List.take_succ_eq_append_getElem (by omega),List.map_append,← rd_get l i (by omega)] at this
    exact this
theorem refPlus_is (l:List S47) (p:S47) (hl:l.length≤1000000) (hal : ∀ x∈l,isPt x=true) (hp:isPt p=true) (k:Nat) (hk:l.length<k):fleuronref18_plus.f k l p.f0 p.f1=some (l.map (mv p)):=by
  have:=refPlus_go l p hl hal hp l.length k 0 (by omega) (by omega) hk
  simpa [fleuronref18_plus.f] using this
theorem refSwept_is (l:List S47) (p q:S47) (h1:1≤l.length) (hl:l.length≤100000) (hal : ∀ x∈l,isPt x=true) (hp:isPt p=true) (hq:isPt q=true) (k:Nat) (hk:l.length<k):fleuronref18_Swept.f k l p.f0 p.f1 q.f0 q.f1=some (hullOf (twice l p q)):=by
  have ht:=twice_len l p q
  unfold fleuronref18_Swept.f
  rw [refPlus_is l p (by omega) hal hp k hk]
  simp only [Option.bind_some]
  rw [refPlus_is l q (by omega) hal hq k hk]
  simp only [Option.bind_some,List.length_map]
  rw [if_pos (by omega),show l.map (mv p)++l.map (mv q)=twice l p q from rfl,round_is' _ (twice_big hal hp hq) (by omega) (by omega)]
  rfl
end Go.Proofs.YtckjlckhjcbddaaGreat.PG3.Pn

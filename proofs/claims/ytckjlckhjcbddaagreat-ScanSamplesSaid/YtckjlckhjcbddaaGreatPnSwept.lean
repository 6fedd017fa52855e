import Derived.Test.YtckjlckhjcbddaaGreatPnHas
import Derived.Test.YtckjlckhjcbddaaGreatPnValid
import Derived.Test.YtckjlckhjcbddaaGreatPG3x7
set_option linter.unusedVariables false
set_option linter.unusedSimpArgs false
namespace Go.Proofs.YtckjlckhjcbddaaGreat.PG3.Pn
open Go.RowKit Go.Proofs.YtckjlckhjcbddaaGreatW.PrintWords Go.Proofs.YtckjlckhjcbddaaGreatW.PrintLast Go.Proofs.YtckjlckhjcbddaaGreatW.PrintMore HG
theorem mv_pt {p q:S47} (hp:isPt p=true) (hq:isPt q=true):Big (mv p q):=by
  have:=isPt_iff.mp hp;have:=isPt_iff.mp hq
  unfold Big mv;simp only;omega
theorem plus_is {p q:S47} (hp:isPt p=true) (hq:isPt q=true):pen_plus.f p.f0 p.f1 q.f0 q.f1=some ((mv p q).f0,(mv p q).f1):=by
  have:=isPt_iff.mp hp;have:=isPt_iff.mp hq
  unfold pen_plus.f mv
  rw [wrap64_small (by omega) (by omega),wrap64_small (by omega) (by omega),Int.add_comm p.f0,Int.add_comm p.f1]
theorem at_go (l : List S47) (p : S47) (hl : l.length ≤ 1000000) (hal : ∀ x ∈ l, isPt x = true) (hp : isPt p = true) (d : Nat) : ∀ (k i : Nat) (a : List S47), i ≤ l.length → l.length - i = d → d < k → a.length = l.length → a.take i = (l.take i).map (mv p) →
    pen_at.l0 k a l (l.length:Int) (i:Int) p.f0 p.f1=some (l.map (mv p)):=by
  induction d with
  | zero =>
    intro k i a hi hd hk ha ht
    obtain ⟨k,rfl⟩ : ∃ m,k=m+1:=⟨k-1,by omega⟩
    simp only [pen_at.l0]
    rw [if_neg (by omega)]
    rw [List.take_of_length_le (by omega),List.take_of_length_le (by omega)] at ht
    rw [ht]
  | succ d ih =>
    intro k i a hi hd hk ha ht
    obtain ⟨k,rfl⟩ : ∃ m,k=m+1:=⟨k-1,by omega⟩
    simp only [pen_at.l0]
    rw [if_pos (by omega),if_pos (by omega),if_pos (by omega),plus_is hp (hal _ (rd_in l i (by omega)))]
    simp only [Option.bind_some]
    rw [if_pos (by omega),wrap64_small (by omega) (by omega),show (i:Int)+1=((i+1:Nat):Int) by omega,Int.toNat_natCast]
    refine ih k (i+1) _ (by omega) (by omega) (by omega) (by rw [List.length_set];exact ha) ?_
    rw [List.take_succ_eq_append_getElem (by rw [List.length_set];omega),List.take_succ_eq_append_getElem (by omega),List.map_append,List.take_set_of_le (Nat.le_refl _),ht,List.getElem_set_self,← rd_get l i (by omega)]
    rfl
theorem at_is (l:List S47) (p:S47) (hl:l.length≤1000000) (hal : ∀ x∈l,isPt x=true) (hp:isPt p=true) (k:Nat) (hk:l.length<k):pen_at.f k l p.f0 p.f1=some (l.map (mv p)):=by
  unfold pen_at.f
  rw [if_pos (by omega),if_pos (by omega)]
  exact at_go l p hl hal hp l.length k 0 _ (by omega) (by omega) hk (by simp) (by simp)
def twice (l:List S47) (p q:S47):List S47:=l.map (mv p)++l.map (mv q)
theorem twice_big {l:List S47} {p q:S47} (hal : ∀ x∈l,isPt x=true) (hp:isPt p=true) (hq:isPt q=true) : ∀ x∈twice l p q,Big x:=by
  intro x hx
  rcases List.mem_append.mp hx with h|h
  · obtain ⟨y,hy,rfl⟩:=List.mem_map.mp h;exact mv_pt hp (hal y hy)
  · obtain ⟨y,hy,rfl⟩:=List.mem_map.mp h;exact mv_pt hq (hal y hy)
theorem twice_len (l:List S47) (p q:S47):(twice l p q).length=l.length+l.length:=by unfold twice;simp
theorem twice_ne {l:List S47} (h:1≤l.length) (p q:S47):twice l p q≠[]:=by
  intro e;have:=twice_len l p q;rw [e] at this;simp at this;omega
theorem swept_is (l:List S47) (p q:S47) (hl:l.length≤100000) (hal : ∀ x∈l,isPt x=true) (hp:isPt p=true) (hq:isPt q=true) (k:Nat) (hk:l.length<k):pen_Swept.f k l p.f0 p.f1 q.f0 q.f1=some (hullOf (twice l p q)):=by
  have ht:=twice_len l p q
  unfold pen_Swept.f
  rw [at_is l p (by omega) hal hp k hk]
  simp only [Option.bind_some]
  rw [at_is l q (by omega) hal hq k hk]
  simp only [Option.bind_some,List.length_map]
  rw [if_pos (by omega),show l.map (mv p)++l.map (mv q)=twice l p q from rfl,hull_is _ (twice_big hal hp hq) (by omega)]
  rfl
theorem hull_big {l:List S47} (h : ∀ x∈l,Big x) : ∀ x∈hullOf l,Big x:=fun x hx=>h x (hullOf_sub x hx)
theorem sup_hull {S h:List S47} (hh:IsHull S h) (s:S47):Sup [s] h↔Sup [s] S:=⟨fun k=>k.trans (Sup.of_sub hh.sub),fun k=>k.trans hh.sup⟩
end Go.Proofs.YtckjlckhjcbddaaGreat.PG3.Pn

import Derived.Test.YtckjlckhjcbddaaGreatPnHull
import Derived.Test.YtckjlckhjcbddaaGreatPnG
import Derived.Test.YtckjlckhjcbddaaGreatPG3x8
set_option linter.unusedVariables false
set_option linter.unusedSimpArgs false
namespace Go.Proofs.YtckjlckhjcbddaaGreat.PG3.Pn
open Go.RowKit Go.Proofs.YtckjlckhjcbddaaGreatW.PrintWords Go.Proofs.YtckjlckhjcbddaaGreatW.PrintLast Go.Proofs.YtckjlckhjcbddaaGreatW.PrintMore Go.Proofs.YtckjlckhjcbddaaGreat.Geo
def PP (l:List S47) (j:Nat):S47:=rd_T47 l ((j % l.length:Nat):Int)
def PX (l:List S47) (j:Nat):Int:=(PP l j).f0
def PY (l:List S47) (j:Nat):Int:=(PP l j).f1
theorem closedP (l:List S47):Closed (PX l) (PY l) l.length:=⟨fun j=>by unfold PX PP;rw [Nat.add_mod_right],fun j=>by unfold PY PP;rw [Nat.add_mod_right]⟩
theorem PP_lt (l:List S47) (j:Nat) (h:j<l.length):PP l j=rd_T47 l (j:Int):=by unfold PP;rw [Nat.mod_eq_of_lt h]
theorem PP_nxt (l:List S47) (j:Nat) (h:j<l.length):PP l (j+1)=nxt l j:=rfl
theorem PP_mem (l:List S47) (j:Nat) (h:0<l.length):PP l j∈l:=rd_in l _ (Nat.mod_lt _ h)
theorem cross_side (l:List S47) (i k:Nat):HG.area (PP l i) (PP l (i+1)) (PP l k)=side (PX l) (PY l) i k:=rfl
theorem cross_cr (l:List S47) (i:Nat):HG.area (PP l i) (PP l (i+1)) (PP l (i+2))=cr (PX l) (PY l) i (i+1):=by
  rw [cross_side]
  have e1:=side_step (PX l) (PY l) i i
  have e2:=side_step (PX l) (PY l) i (i+1)
  rw [side_self,cr_self] at e1
  rw [show i+2=i+1+1 by omega]
  omega
theorem mod_per {α:Type} (f:Nat→α) (n:Nat) (h : ∀ j,f (j+n)=f j) (j:Nat):f j=f (j % n):=by
  have key : ∀ q a,f (a+n*q)=f a:=by
    intro q
    induction q with
    | zero=>intro a;rfl
    | succ q ih=>intro a;rw [Nat.mul_succ,← Nat.add_assoc,h,ih]
  conv=>lhs;rw [← Nat.mod_add_div j n]
  exact key _ _
instance decUp (x y:Int):Decidable (Up x y):=inferInstanceAs (Decidable (0<y∨y=0∧0<x))
instance decDn (X Y:Nat→Int) (j:Nat):Decidable (Dn X Y j):=inferInstanceAs (Decidable (¬ Up (ex X j) (ex Y j)∧Up (ex X (j+1)) (ex Y (j+1))))
theorem half_is (a b:S47):wind_half.f a.f0 a.f1 b.f0 b.f1=some (if Up (b.f0-a.f0) (b.f1-a.f1) then 0 else 1):=by
  have hu:Up (b.f0-a.f0) (b.f1-a.f1)↔(b.f1>a.f1∨b.f1=a.f1∧b.f0>a.f0):=by unfold Up;omega
  unfold wind_half.f
  by_cases h1:b.f1>a.f1
  · rw [if_pos h1,if_pos (hu.mpr (by omega))]
  · rw [if_neg h1]
    by_cases h2:b.f1=a.f1
    · rw [if_pos h2]
      by_cases h3:b.f0>a.f0
      · rw [if_pos h3,if_pos (hu.mpr (by omega))]
      · rw [if_neg h3,if_neg (fun h=>by have:=hu.mp h;omega)]
    · rw [if_neg h2,if_neg (fun h=>by have:=hu.mp h;omega)]
def sumTo (f : Nat → Int) : Nat → Int
  | 0=>0
  | n+1=>sumTo f n+f n
def dsum (l:List S47) (m:Nat):Int:=sumTo (fun j=>if Dn (PX l) (PY l) j then 1 else 0) m
theorem dsum_step (l:List S47) (m:Nat):dsum l (m+1)=dsum l m+if Dn (PX l) (PY l) m then 1 else 0:=rfl
theorem dsum_bound (l : List S47) : ∀ m, 0 ≤ dsum l m ∧ dsum l m ≤ m
  | 0=>by simp [dsum,sumTo]
  | m+1=>by
    have:=dsum_bound l m
    rw [dsum_step]
    split <;> omega
theorem dsum_mono (l : List S47) (a : Nat) : ∀ m, dsum l a ≤ dsum l (a + m)
  | 0=>Int.le_refl _
  | m+1=>by
    have:=dsum_mono l a m
    rw [← Nat.add_assoc,dsum_step]
    split <;> omega
theorem dsum_once (l:List S47) (hn:0<l.length) (h:dsum l l.length=1):Once (PX l) (PY l) l.length:=by
  have hu : ∀ a b,a<b→b<l.length→Dn (PX l) (PY l) a→Dn (PX l) (PY l) b→False:=by
    intro a b hab hb h1 h2
    have e1:=dsum_step l a
    rw [if_pos h1] at e1
    have e2:=dsum_step l b
    rw [if_pos h2] at e2
    have m1:=dsum_mono l (a+1) (b-(a+1))
    rw [show a+1+(b-(a+1))=b by omega] at m1
    have m2:=dsum_mono l (b+1) (l.length-(b+1))
    rw [show b+1+(l.length-(b+1))=l.length by omega] at m2
    have:=(dsum_bound l a).1
    omega
  intro d1 d2 h1 h2 hlt
  have p:=fun j=>mod_per (fun j=>Dn (PX l) (PY l) j) l.length (fun j=>propext (dn_per (closedP l) j)) j
  have q1:Dn (PX l) (PY l) (d1 % l.length):=(p d1) ▸ h1
  have q2:Dn (PX l) (PY l) (d2 % l.length):=(p d2) ▸ h2
  have b1:=Nat.mod_lt d1 hn
  have b2:=Nat.mod_lt d2 hn
  have e:d1 % l.length=d2 % l.length:=by
    rcases Nat.lt_trichotomy (d1 % l.length) (d2 % l.length) with h|h|h
    · exact (hu _ _ h b2 q1 q2).elim
    · exact h
    · exact (hu _ _ h b1 q2 q1).elim
  have f1:=Nat.mod_add_div d1 l.length
  have f2:=Nat.mod_add_div d2 l.length
  have hq:d1 / l.length<d2 / l.length:=by
    rcases Nat.lt_or_ge (d1 / l.length) (d2 / l.length) with h|h
    · exact h
    · have:=Nat.mul_le_mul_left l.length h
      omega
  have:=Nat.mul_le_mul_left l.length (show d1 / l.length+1≤d2 / l.length from hq)
  rw [Nat.mul_add,Nat.mul_one] at this
  omega
theorem once_dsum (l:List S47) (hn:3≤l.length) (ho:Once (PX l) (PY l) l.length) (hne : ∀ j,ex (PX l) j≠0∨ex (PY l) j≠0):dsum l l.length=1:=by
  obtain ⟨d,hd,hd'⟩:=some_dn (closedP l) hn hne
  have z : ∀ a m,(∀ j,a≤j→j<a+m→¬ Dn (PX l) (PY l) j)→dsum l (a+m)=dsum l a:=by
    intro a m
    induction m with
    | zero=>intro _;rfl
    | succ m ih =>
      intro h
      rw [← Nat.add_assoc,dsum_step,ih (fun j h1 h2=>h j h1 (by omega)),if_neg (h (a+m) (by omega) (by omega))]
      omega
  have z1:=z 0 d (fun j _ h2 hj=>by have:=ho j d hj hd' (by omega);omega)
  have z2:=z (d+1) (l.length-(d+1)) (fun j h1 h2 hj=>by have:=ho d j hd' hj (by omega);omega)
  rw [show 0+d=d by omega] at z1
  rw [show d+1+(l.length-(d+1))=l.length by omega,dsum_step,if_pos hd',z1] at z2
  rw [z2]
  rfl
def Conv (l:List S47):Prop:=Lefts (PX l) (PY l) l.length
theorem conv_iff (l:List S47) (hn:3≤l.length):Conv l↔((∀ j,j<l.length→0<cr (PX l) (PY l) j (j+1))∧dsum l l.length=1):=by
  constructor
  · intro h
    have ht:=turns_of_left hn h
    exact ⟨fun j _=>ht j,once_dsum l hn (once_of_left (closedP l) hn h) (fun j=>(ne_of_crs (ht j)).1)⟩
  · rintro ⟨h1,h2⟩ i k hk hk'
    have hall : ∀ j,0<cr (PX l) (PY l) j (j+1):=fun j=>by
      have this:cr (PX l) (PY l) j (j+1)=cr (PX l) (PY l) (j % l.length) (j % l.length+1):=mod_per (fun j=>cr (PX l) (PY l) j (j+1)) l.length (fun j=>by rw [show j+l.length+1=j+1+l.length by omega,(cr_per (closedP l) _ _).1,(cr_per (closedP l) _ _).2]) j
      rw [this]
      exact h1 _ (Nat.mod_lt _ (by omega))
    exact left_of_turns (closedP l) hall (dsum_once l (by omega) h2) hk hk'
theorem halfV_is (a b:S47):halfV a b=if Up (b.f0-a.f0) (b.f1-a.f1) then 0 else 1:=by unfold halfV;rw [half_is];rfl
theorem sgn_pos (n:Int):sgnI n≤0↔¬ 0<n:=by rw [(sgnI_facts n).1];omega
section
variable (l:List S47) (hn:3≤l.length) (hal : ∀ x∈l,isPt x=true)
include hn hal
theorem convGo_is : ∀ i, i ≤ l.length → ((∀ j, j < i → 0 < cr (PX l) (PY l) j (j + 1)) → convGo l i = some (dsum l i)) ∧ ((∃ j, j < i ∧ ¬ 0 < cr (PX l) (PY l) j (j + 1)) → convGo l i = none)
  | 0,_=>⟨fun _=>rfl,fun ⟨j,hj,_⟩=>absurd hj (Nat.not_lt_zero _)⟩
  | i+1,hi=>by
    obtain ⟨ih1,ih2⟩:=convGo_is i (by omega)
    have e0:rd_T47 l (i:Int)=PP l i:=(PP_lt l i (by omega)).symm
    have hs:signV (rd_T47 l (i:Int)) (nxt l i) (nxt2 l i)=sgnI (cr (PX l) (PY l) i (i+1)):=by
      rw [e0,show nxt l i=PP l (i+1) from rfl,show nxt2 l i=PP l (i+2) from rfl,signV_is (big_of (hal _ (PP_mem l i (by omega)))) (big_of (hal _ (PP_mem l (i+1) (by omega)))) (big_of (hal _ (PP_mem l (i+2) (by omega)))),cross_cr]
    have hd:(Dn (PX l) (PY l) i)↔(¬ Up ((PP l (i+1)).f0-(PP l i).f0) ((PP l (i+1)).f1-(PP l i).f1)∧Up ((PP l (i+2)).f0-(PP l (i+1)).f0) ((PP l (i+2)).f1-(PP l (i+1)).f1)):=Iff.rfl
    constructor
    · intro h
      have hc:=h i (by omega)
      show (convGo l i).bind _=_
      rw [ih1 (fun j hj=>h j (by omega))]
      simp only [Option.bind_some]
      rw [hs,if_neg (by rw [sgn_pos];simpa using hc),dsum_step,e0,show nxt l i=PP l (i+1) from rfl,show nxt2 l i=PP l (i+2) from rfl,halfV_is,halfV_is]
      by_cases u1:Up ((PP l (i+1)).f0-(PP l i).f0) ((PP l (i+1)).f1-(PP l i).f1)
      · rw [if_pos u1,if_neg (by split <;> omega),if_neg (fun h=>(hd.mp h).1 u1),Int.add_zero]
      · by_cases u2:Up ((PP l (i+2)).f0-(PP l (i+1)).f0) ((PP l (i+2)).f1-(PP l (i+1)).f1)
        · rw [if_neg u1,if_pos u2,if_pos (by omega),if_pos (hd.mpr ⟨u1,u2⟩)]
        · rw [if_neg u1,if_neg u2,if_neg (by omega),if_neg (fun h=>u2 (hd.mp h).2),Int.add_zero]
    · rintro ⟨j,hj,hb⟩
      show (convGo l i).bind _=_
      by_cases hx : ∃ j,j<i∧¬ 0<cr (PX l) (PY l) j (j+1)
      · rw [ih2 hx];rfl
      · obtain rfl:j=i:=by
          rcases Nat.lt_or_ge j i with h|h
          · exact absurd ⟨j,h,hb⟩ hx
          · omega
        rw [ih1 (fun q hq=>Classical.not_not.mp (fun hc=>hx ⟨q,hq,hc⟩))]
        simp only [Option.bind_some]
        rw [hs,if_pos ((sgn_pos _).mpr hb)]
theorem convex3_is (hl:l.length≤60000) : ∃ b,wind_convex.f l=some b∧(b=true↔Conv l):=by
  obtain ⟨c1,c2⟩:=convGo_is l hn hal l.length (Nat.le_refl _)
  unfold wind_convex.f
  rw [if_pos ⟨by omega,by omega⟩]
  refine ⟨_,rfl,?_⟩
  unfold convB
  rw [conv_iff l hn]
  by_cases h : ∀ j,j<l.length→0<cr (PX l) (PY l) j (j+1)
  · rw [c1 h]
    simp only [beq_iff_eq]
    exact ⟨fun h2=>⟨h,h2⟩,fun h2=>h2.2⟩
  · have ⟨j,hj⟩:=Classical.not_forall.mp h
    have ⟨hj1,hj2⟩:=Classical.not_forall.mp hj
    rw [c2 ⟨j,hj1,hj2⟩]
    exact ⟨fun hc=>absurd hc (by simp),fun hc=>absurd hc.1 h⟩
end
end Go.Proofs.YtckjlckhjcbddaaGreat.PG3.Pn

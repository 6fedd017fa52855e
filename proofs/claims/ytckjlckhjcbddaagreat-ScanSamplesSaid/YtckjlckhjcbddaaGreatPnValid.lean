import Derived.Test.YtckjlckhjcbddaaGreatPnConv
import Derived.Test.YtckjlckhjcbddaaGreatPnSame
import Derived.Test.YtckjlckhjcbddaaGreatPG3x8
set_option linter.unusedVariables false
set_option linter.unusedSimpArgs false
namespace Go.Proofs.YtckjlckhjcbddaaGreat.PG3.Pn
open Go.RowKit Go.Proofs.YtckjlckhjcbddaaGreatW.PrintWords Go.Proofs.YtckjlckhjcbddaaGreatW.PrintLast Go.Proofs.YtckjlckhjcbddaaGreatW.PrintMore HG
def okPen (l:List S47):Bool:=decide (1≤l.length) && (decide (l.length≤64) && (l.all isPt && decide (hullOf l=l)))
theorem hullOf_self {l:List S47} (h:1≤l.length):hullOf l=l↔Pen l:=by
  constructor
  · intro e
    have:=(hullOf_is (l:=l) (by rintro rfl;simp at h)).pen
    rwa [e] at this
  · exact hullOf_pen
theorem okPen_iff {l:List S47} : okPen l=true↔1≤l.length∧l.length≤64∧(∀ x∈l,isPt x=true)∧Pen l:=by
  unfold okPen
  simp only [Bool.and_eq_true,decide_eq_true_eq,List.all_eq_true]
  constructor
  · rintro ⟨h1,h2,h3,h4⟩;exact ⟨h1,h2,h3,(hullOf_self h1).mp h4⟩
  · rintro ⟨h1,h2,h3,h4⟩;exact ⟨h1,h2,h3,(hullOf_self h1).mpr h4⟩
theorem PP_at (l:List S47) (h:0<l.length) (j:Nat):l[j % l.length]?=some (PP l j):=by
  have hm:=Nat.mod_lt j h
  unfold PP
  rw [rd_get l _ hm,List.getElem?_eq_getElem hm]
theorem PP_edge (l:List S47) (h:0<l.length) (i:Nat):HG.Edge l (PP l i) (PP l (i+1)) :=
  ⟨i % l.length,Nat.mod_lt _ h,PP_at l h i,by rw [Nat.mod_add_mod];exact PP_at l h (i+1)⟩
theorem mod_eq_near {n a b:Nat} (h1:a≤b) (h2:b<a+n) (h3:a % n=b % n):a=b:=by
  have:=Nat.sub_mod_eq_zero_of_mod_eq h3.symm
  rw [Nat.mod_eq_of_lt (show b-a<n by omega)] at this
  omega
theorem conv_pen (l:List S47) (hn:3≤l.length):Conv l↔l.Nodup∧∀ a b,HG.Edge l a b→∀ v∈l,v≠a→v≠b→0<area a b v:=by
  have h0:0<l.length:=by omega
  have hget : ∀ j (hj:j<l.length),PP l j=l[j]:=fun j hj=>by rw [PP_lt l j hj,rd_get l j hj]
  constructor
  · intro hc
    refine ⟨?_,?_⟩
    · rw [List.Nodup,List.pairwise_iff_getElem]
      intro i j hi hj hij e
      by_cases h1:j=i+1
      · have:=hc i (i+2) (by omega) (by omega)
        rw [← cross_side,hget i hi] at this
        have e2:PP l (i+1)=l[i]:=by rw [hget (i+1) (by omega),e];simp only [h1]
        rw [e2] at this
        have z:HG.area l[i] l[i] (PP l (i+2))=0:=by unfold area;grind
        omega
      · have:=hc i j (by omega) (by omega)
        rw [← cross_side,hget i hi,hget j hj,← e,(area_ab l[i] _).1] at this
        omega
    · intro a b he v hv hva hvb
      obtain ⟨i,hi,ha,hb⟩:=he
      obtain ⟨j,hj,rfl⟩:=List.mem_iff_getElem.mp hv
      have hm:=Nat.mod_lt (i+1) h0
      rw [List.getElem?_eq_getElem hi] at ha
      rw [List.getElem?_eq_getElem hm] at hb
      obtain rfl:=Option.some.inj ha
      obtain rfl:=Option.some.inj hb
      have hji:j≠i:=by rintro rfl;exact hva rfl
      have hji1:j≠(i+1) % l.length:=fun h=>hvb (by simp only [h])
      have eb:PP l (i+1)=l[(i+1) % l.length]:=by
        have:=PP_at l h0 (i+1)
        rw [List.getElem?_eq_getElem hm] at this
        exact (Option.some.inj this).symm
      rcases Nat.lt_or_ge j i with hlt|hge
      · have hne:j+l.length≠i+1:=fun e=>hji1 (by rw [← e,Nat.add_mod_right,Nat.mod_eq_of_lt hj])
        have:=hc i (j+l.length) (by omega) (by omega)
        rw [← cross_side,hget i hi,eb] at this
        have e2:PP l (j+l.length)=l[j]:=by
          unfold PP;rw [Nat.add_mod_right,Nat.mod_eq_of_lt hj,rd_get l j hj]
        rwa [e2] at this
      · have hne:j≠i+1:=fun e=>hji1 (by rw [← e,Nat.mod_eq_of_lt hj])
        have:=hc i j (by omega) (by omega)
        rwa [← cross_side,hget i hi,hget j hj,eb] at this
  · rintro ⟨hnd,hst⟩ i k hk hk'
    rw [← cross_side]
    refine hst _ _ (PP_edge l h0 i) _ (List.mem_of_getElem? (PP_at l h0 k)) ?_ ?_
    · intro e
      have e1:=PP_at l h0 k
      have e2:=PP_at l h0 i
      rw [e,← e2,List.getElem?_eq_getElem (Nat.mod_lt _ h0),List.getElem?_eq_getElem (Nat.mod_lt _ h0)] at e1
      have:=(List.getElem_inj hnd).mp (Option.some.inj e1)
      have:=mod_eq_near (n:=l.length) (a:=i) (b:=k) (by omega) (by omega) (by omega)
      omega
    · intro e
      have e1:=PP_at l h0 k
      have e2:=PP_at l h0 (i+1)
      rw [e,← e2,List.getElem?_eq_getElem (Nat.mod_lt _ h0),List.getElem?_eq_getElem (Nat.mod_lt _ h0)] at e1
      have:=(List.getElem_inj hnd).mp (Option.some.inj e1)
      have:=mod_eq_near (n:=l.length) (a:=i+1) (b:=k) (by omega) (by omega) (by omega)
      omega
theorem pick_is (l : List S47) (h0 : 0 < l.length) : ∀ i, i < l.length → pickAt (fun x m => decide (cmpB x m < 0)) l i ∈ l ∧ ∀ j, j ≤ i → Le (pickAt (fun x m => decide (cmpB x m < 0)) l i) (rd_T47 l (j : Int))
  | 0,_=>⟨rd_in l 0 h0,fun j hj=>by
    obtain rfl:j=0:=by omega
    exact .inr rfl⟩
  | i+1,hi=>by
    obtain ⟨h1,h2⟩:=pick_is l h0 i (by omega)
    rw [pickAt]
    by_cases hc:cmpB (rd_T47 l ((i+1:Nat):Int)) (pickAt (fun x m=>decide (cmpB x m<0)) l i)<0
    · rw [if_pos (decide_eq_true hc)]
      have hlt:Lt (rd_T47 l ((i+1:Nat):Int)) (pickAt (fun x m=>decide (cmpB x m<0)) l i):=by rw [cmpB_lt] at hc;unfold Lt Lp;omega
      refine ⟨rd_in l (i+1) hi,fun j hj=>?_⟩
      rcases Nat.lt_or_ge j (i+1) with k|k
      · exact .inl (lt_le hlt (h2 j (by omega)))
      · obtain rfl:j=i+1:=by omega
        exact .inr rfl
    · rw [if_neg (by rw [decide_eq_false hc];simp)]
      refine ⟨h1,fun j hj=>?_⟩
      rcases Nat.lt_or_ge j (i+1) with k|k
      · exact h2 j (by omega)
      · obtain rfl:j=i+1:=by omega
        exact leP_iff.mp hc
theorem minP_is (l:List S47) (h0:0<l.length):minP l∈l∧∀ v∈l,Le (minP l) v:=by
  obtain ⟨h1,h2⟩:=pick_is l h0 (l.length-1) (by omega)
  refine ⟨h1,fun v hv=>?_⟩
  obtain ⟨j,hj,rfl⟩:=List.mem_iff_getElem.mp hv
  have:=h2 j (by omega)
  rw [rd_get l j hj] at this
  exact this
theorem min_first (l:List S47) (h0:0<l.length):eqP (minP l) (rd_T47 l 0)=true↔∃ m,l.head?=some m∧∀ v∈l,Le m v:=by
  obtain ⟨h1,h2⟩:=minP_is l h0
  have hz:rd_T47 l 0=l[0]:=rd_get l 0 h0
  rw [eqP_iff,hz,List.head?_eq_getElem?,List.getElem?_eq_getElem h0]
  constructor
  · intro e
    exact ⟨l[0],rfl,by rw [← e];exact h2⟩
  · rintro ⟨m,hm,hv⟩
    obtain rfl:=Option.some.inj hm
    exact le_anti (h2 _ (List.getElem_mem h0)) (hv _ h1)
theorem two_of : ∀ {l : List S47}, l.length = 2 → ∃ a b, l = [a, b]
  | [a,b],_=>⟨a,b,rfl⟩
theorem valid_is (l:List S47):pen_Valid.f l=some (okPen l):=by
  unfold pen_Valid.f okPen
  by_cases h1:l.length<1
  · rw [if_pos h1,decide_eq_false (by omega)];rfl
  rw [if_neg h1,decide_eq_true (show 1≤l.length by omega)]
  by_cases h2:64<l.length
  · rw [if_pos h2,decide_eq_false (by omega)];rfl
  rw [if_neg h2,decide_eq_true (show l.length≤64 by omega),arePoints_is l (by omega)]
  simp only [Option.bind_some,Bool.true_and]
  cases hal:l.all isPt with
  | false=>rfl
  | true =>
    have hpt : ∀ x∈l,isPt x=true:=List.all_eq_true.mp hal
    rw [if_pos rfl]
    have hself:=hullOf_self (l:=l) (by omega)
    have hmin:=min_first l (by omega)
    have hg:wind_valid.f l=some true:=by
      unfold wind_valid.f
      rw [if_pos (by omega),if_pos (by omega),arePoints_is l (by omega),hal];rfl
    unfold wind_Convex.f
    rw [hg]
    simp only [Option.bind_some,if_true,Bool.true_and]
    by_cases h3:(l.length:Int)<3
    · rw [if_pos h3]
      by_cases h4:(l.length:Int)=1
      · rw [if_pos h4]
        obtain ⟨a,rfl⟩:=List.length_eq_one_iff.mp (show l.length=1 by omega)
        simp only [Option.bind_some,Bool.true_and,Option.some.injEq]
        rw [decide_eq_true (hself.mpr (pen_one a)),hmin.mpr ⟨a,rfl,fun v hv=>.inr (List.mem_singleton.mp hv).symm⟩]
      · rw [if_neg h4,if_pos (by omega),if_pos (by omega)]
        simp only [Option.bind_some,Option.some.injEq]
        obtain ⟨a,b,rfl⟩:=two_of (show l.length=2 by omega)
        rw [Bool.eq_iff_iff,Bool.and_eq_true,decide_eq_true_eq,hself,hmin]
        rw [show rd_T47 [a,b] 0=a from rfl,show rd_T47 [a,b] 1=b from rfl,neP_iff]
        constructor
        · rintro ⟨hne,m,hm,hle⟩
          obtain rfl:a=m:=by simpa using hm
          rcases hle b (by simp) with h|h
          · exact pen_two h
          · exact absurd h hne
        · intro hp
          refine ⟨?_,hp.first⟩
          have:=hp.nodup
          simp at this
          exact this
    · rw [if_neg h3]
      obtain ⟨b,hb,hb'⟩:=convex3_is l (by omega) hpt (by omega)
      rw [hb]
      simp only [Option.bind_some,Option.some.injEq]
      rw [Bool.eq_iff_iff,Bool.and_eq_true,decide_eq_true_eq,hself,hmin,hb',conv_pen l (by omega)]
      exact ⟨fun ⟨⟨n,s⟩,f⟩=>⟨f,n,s⟩,fun ⟨f,n,s⟩=>⟨⟨n,s⟩,f⟩⟩
end Go.Proofs.YtckjlckhjcbddaaGreat.PG3.Pn

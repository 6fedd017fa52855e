import Derived.Test.YtckjlckhjcbddaaGreatPnRefSwept
import Derived.Test.YtckjlckhjcbddaaGreatPnRefValid
import Derived.Test.YtckjlckhjcbddaaGreatPnRefHas
import Derived.Test.YtckjlckhjcbddaaGreatPG3x29
import Derived.Test.YtckjlckhjcbddaaGreatPG3x30
import Derived.Test.YtckjlckhjcbddaaGreatPG3x31
set_option linter.unusedVariables false
set_option linter.unusedSectionVars false
set_option linter.unusedSimpArgs false
namespace Go.Proofs.YtckjlckhjcbddaaGreat.PG3.Pn
open Go.RowKit Go.Proofs.YtckjlckhjcbddaaGreat.PG3 Go.Proofs.YtckjlckhjcbddaaGreatW.PrintWords Go.Proofs.YtckjlckhjcbddaaGreatW.PrintLast Go.Proofs.YtckjlckhjcbddaaGreatW.PrintMore HG
section
variable (l:List S47) (hv:okPen l=true) (m:List S47) (hm1:1≤m.length) (hm2:m.length≤60) (hm : ∀ x∈m,isPt x=true) (s:S47) (hs:isPt s=true)
def npc (l:List S47):Nat:=if l.length=1 then 1 else l.length-1
def pcB (l:List S47) (i:Nat):S47:=if l.length=1 then rd_T47 l 0 else rd_T47 l ((i+1:Nat):Int)
def Pc (l m:List S47) (s:S47) (i:Nat):Prop:=Sup [s] (twice l (rd_T47 m (i:Int)) (pcB m i))
include hv hm1 hm2 hm hs
theorem piece_pt (i:Nat) (hi:i<npc m):isPt (rd_T47 m (i:Int))=true∧isPt (pcB m i)=true:=by
  unfold npc at hi
  unfold pcB
  by_cases h1:m.length=1
  · rw [if_pos h1] at hi ⊢
    exact ⟨hm _ (rd_in m i (by omega)),hm _ (rd_in m 0 (by omega))⟩
  · rw [if_neg h1] at hi ⊢
    exact ⟨hm _ (rd_in m i (by omega)),hm _ (rd_in m (i+1) (by omega))⟩
def hullsTo (l m : List S47) : Nat → List (List S47)
  | 0=>[]
  | i+1=>hullsTo l m i++[hullOf (twice l (rd_T47 m (i:Int)) (rd_T47 m ((i+1:Nat):Int)))]
omit hv hm1 hm2 hm hs in
theorem hullsTo_len (l m : List S47) : ∀ i, (hullsTo l m i).length = i
  | 0=>rfl
  | i+1=>by simp [hullsTo,hullsTo_len l m i]
theorem hulls_go (h2:2≤m.length) (d:Nat) : ∀ (k i:Nat),i≤m.length-1→m.length-1-i=d→d+200<k→fleuronref18_Hulls.l0 k l m (hullsTo l m i) ((m.length-1:Nat):Int) (i:Int)=some (hullsTo l m (m.length-1)):=by
  obtain ⟨k1,k2,k3,k4⟩:=okPen_iff.mp hv
  induction d with
  | zero =>
    intro k i hi hd hk
    obtain ⟨k,rfl⟩ : ∃ m,k=m+1:=⟨k-1,by omega⟩
    obtain rfl:i=m.length-1:=by omega
    rw [fleuronref18_Hulls.l0,if_neg (by omega)]
  | succ d ih =>
    intro k i hi hd hk
    obtain ⟨k,rfl⟩ : ∃ m,k=m+1:=⟨k-1,by omega⟩
    have hw:wrap64 ((i:Int)+1)=((i+1:Nat):Int):=by rw [wrap64_small (by omega) (by omega)];omega
    have hlen:=hullsTo_len l m i
    have:=ih k (i+1) (by omega) (by omega) (by omega)
    rw [fleuronref18_Hulls.l0,if_pos (by omega),if_pos (by omega),if_pos (by omega),hw,if_pos (by omega),if_pos (by omega),refSwept_is l _ _ k1 (by omega) k3 (hm _ (rd_in m i (by omega))) (hm _ (rd_in m (i+1) (by omega))) k (by omega)]
    simp only [Option.bind_some]
    rw [if_pos (by omega)]
    exact this
theorem hullsTo_get (i j:Nat) (h:j<i):(hullsTo l m i)[j]?=some (hullOf (twice l (rd_T47 m (j:Int)) (rd_T47 m ((j+1:Nat):Int)))):=by
  induction i with
  | zero=>omega
  | succ i ih =>
    simp only [hullsTo]
    rcases Nat.lt_or_ge j i with k|k
    · rw [List.getElem?_append_left (by rw [hullsTo_len];exact k)];exact ih k
    · obtain rfl:j=i:=by omega
      rw [List.getElem?_append_right (by rw [hullsTo_len];exact Nat.le_refl _),hullsTo_len,Nat.sub_self];rfl
omit hv hm1 hm2 hm in
theorem one_go (hs' : List (List S47)) (hl : hs'.length ≤ 1000) (hp : ∀ h ∈ hs', Pen h ∧ h.length ≤ 1000 ∧ ∀ x ∈ h, Big x) (d : Nat) : ∀ (k i : Nat), i ≤ hs'.length → hs'.length - i = d → d < k →
    ∃ r,fleuronref18_One.l0 k hs' (hs'.length:Int) (i:Int) s.f0 s.f1=some r∧(r=true↔∃ j h,i≤j∧hs'[j]?=some h∧Sup [s] h):=by
  induction d with
  | zero =>
    intro k i hi hd hk
    obtain ⟨k,rfl⟩ : ∃ m,k=m+1:=⟨k-1,by omega⟩
    refine ⟨false,by rw [fleuronref18_One.l0,if_neg (by omega)],⟨fun h=>(by cases h),?_⟩⟩
    rintro ⟨j,h,hj,e,_⟩
    rw [List.getElem?_eq_none (by omega)] at e;cases e
  | succ d ih =>
    intro k i hi hd hk
    obtain ⟨k,rfl⟩ : ∃ m,k=m+1:=⟨k-1,by omega⟩
    have e:rd_L2 hs' (i:Int)=hs'[i]:=by simp [rd_L2,List.getD_eq_getElem?_getD,List.getElem?_eq_getElem (show i<hs'.length by omega)]
    obtain ⟨p1,p2,p3⟩:=hp _ (List.getElem_mem (show i<hs'.length by omega))
    obtain ⟨r0,hr0,hr0'⟩:=refHas_is p1 (by omega) p3 s (big_of hs)
    have hw:wrap64 ((i:Int)+1)=((i+1:Nat):Int):=by rw [wrap64_small (by omega) (by omega)];omega
    rw [fleuronref18_One.l0,if_pos (by omega),if_pos (by omega),if_pos (by omega),e,hr0]
    simp only [Option.bind_some]
    cases r0 with
    | true=>exact ⟨true,rfl,fun _=>⟨i,_,Nat.le_refl _,List.getElem?_eq_getElem (by omega),hr0'.mp rfl⟩,fun _=>rfl⟩
    | false =>
      obtain ⟨r,hr,hr'⟩:=ih k (i+1) (by omega) (by omega) (by omega)
      refine ⟨r,by rw [if_neg (by simp),hw];exact hr,hr'.trans ⟨?_,?_⟩⟩
      · rintro ⟨j,h,hj,e,hx⟩;exact ⟨j,h,by omega,e,hx⟩
      · rintro ⟨j,h,hj,e,hx⟩
        rcases Nat.eq_or_lt_of_le hj with rfl|hlt
        · rw [List.getElem?_eq_getElem (by omega)] at e
          obtain rfl:=Option.some.inj e
          exact absurd (hr0'.mpr hx) (by simp)
        · exact ⟨j,h,by omega,e,hx⟩
theorem refAlong_is (k:Nat) (hk:1000≤k) : ∃ r,(fleuronref18_Hulls.f k l m).bind (fun h=>(fleuronref18_One.f k h s.f0 s.f1))=some r∧(r=true↔∃ i,i<npc m∧Pc l m s i):=by
  obtain ⟨k1,k2,k3,k4⟩:=okPen_iff.mp hv
  unfold fleuronref18_Hulls.f
  by_cases h1:m.length=1
  · have h0:=hm _ (rd_in m 0 (by omega))
    rw [if_pos (by omega),if_pos (by omega),show (0:Int)=((0:Nat):Int) from rfl,refPlus_is l (rd_T47 m ((0:Nat):Int)) (by omega) k3 h0 k (by omega)]
    simp only [Option.bind_some]
    obtain ⟨r,hr,hr'⟩:=one_go s hs [l.map (mv (rd_T47 m ((0:Nat):Int)))] (by simp) (by
      intro h hh
      obtain rfl:=List.mem_singleton.mp hh
      refine ⟨pen_mv k4 _,by rw [List.length_map];omega,fun x hx=>?_⟩
      obtain ⟨y,hy,rfl⟩:=List.mem_map.mp hx
      exact mv_pt h0 (k3 y hy)) 1 k 0 (by simp) (by simp) (by omega)
    refine ⟨r,hr,hr'.trans ?_⟩
    unfold npc Pc pcB
    rw [if_pos h1]
    constructor
    · rintro ⟨j,h,_,e,hx⟩
      refine ⟨0,by omega,?_⟩
      rw [if_pos h1]
      match j,e with
      | 0,e =>
        obtain rfl:l.map (mv (rd_T47 m ((0:Nat):Int)))=h:=by simpa using e
        exact hx.trans (Sup.of_sub (fun x hx=>List.mem_append_left _ hx))
      | j+1,e=>simp at e
    · rintro ⟨i,hi,hx⟩
      obtain rfl:i=0:=by omega
      rw [if_pos h1] at hx
      refine ⟨0,_,Nat.le_refl _,rfl,hx.trans (Sup.of_sub (fun x hx=>?_))⟩
      rcases List.mem_append.mp hx with h|h <;> exact h
  · have hw:wrap64 ((m.length:Int)-1)=((m.length-1:Nat):Int):=by rw [wrap64_small (by omega) (by omega)];omega
    have hg:=hulls_go l hv m hm1 hm2 hm s hs (by omega) (m.length-1) k 0 (by omega) (by omega) (by omega)
    rw [if_neg (by omega),hw]
    rw [show hullsTo l m 0=[] from rfl] at hg
    rw [show ((0:Nat):Int)=0 from rfl] at hg
    rw [hg]
    simp only [Option.bind_some]
    have hlen:=hullsTo_len l m (m.length-1)
    have get:=hullsTo_get l hv m hm1 hm2 hm s hs (m.length-1)
    obtain ⟨r,hr,hr'⟩:=one_go s hs (hullsTo l m (m.length-1)) (by omega) (by
      intro h hh
      obtain ⟨j,hj,e⟩:=List.mem_iff_getElem.mp hh
      have e2:=get j (by omega)
      rw [List.getElem?_eq_getElem hj,e] at e2
      obtain rfl:=Option.some.inj e2
      have b1:=hm _ (rd_in m j (by omega));have b2:=hm _ (rd_in m (j+1) (by omega))
      have hln:=hullOf_len (twice l (rd_T47 m (j:Int)) (rd_T47 m ((j+1:Nat):Int)))
      rw [twice_len] at hln
      exact ⟨(hullOf_is (twice_ne k1 _ _)).pen,by omega,hull_big (twice_big k3 b1 b2)⟩) (m.length-1) k 0 (by omega) (by omega) (by omega)
    refine ⟨r,hr,hr'.trans ?_⟩
    unfold npc Pc pcB
    rw [if_neg h1]
    constructor
    · rintro ⟨j,h,_,e,hx⟩
      have hj:j<m.length-1:=by
        rcases Nat.lt_or_ge j (m.length-1) with q|q
        · exact q
        · rw [List.getElem?_eq_none (by omega)] at e;cases e
      rw [get j hj] at e
      obtain rfl:=Option.some.inj e
      refine ⟨j,hj,?_⟩
      rw [if_neg h1]
      exact (sup_hull (hullOf_is (twice_ne k1 _ _)) s).mp hx
    · rintro ⟨i,hi,hx⟩
      rw [if_neg h1] at hx
      exact ⟨i,_,Nat.zero_le _,get i hi,(sup_hull (hullOf_is (twice_ne k1 _ _)) s).mpr hx⟩
end
end Go.Proofs.YtckjlckhjcbddaaGreat.PG3.Pn

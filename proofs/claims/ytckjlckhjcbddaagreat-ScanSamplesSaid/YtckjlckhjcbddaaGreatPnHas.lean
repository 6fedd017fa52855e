import Derived.Test.YtckjlckhjcbddaaGreatPnHull
import Derived.Test.YtckjlckhjcbddaaGreatPG3x4
import Derived.Test.YtckjlckhjcbddaaGreatPG3x7
set_option linter.unusedVariables false
set_option linter.unusedSimpArgs false
namespace Go.Proofs.YtckjlckhjcbddaaGreat.PG3.Pn
open Go.RowKit Go.Proofs.YtckjlckhjcbddaaGreatW.PrintWords Go.Proofs.YtckjlckhjcbddaaGreatW.PrintLast Go.Proofs.YtckjlckhjcbddaaGreatW.PrintMore HG
theorem mn_le (a b:Int):mn a b≤a∧mn a b≤b∧(mn a b=a∨mn a b=b):=by unfold mn;omega
theorem mx_le (a b:Int):a≤mx a b∧b≤mx a b∧(mx a b=a∨mx a b=b):=by unfold mx;omega
def BoxOf (l:List S47) (b:Int×Int×Int×Int):Prop :=
  ((∀ v∈l,b.1≤v.f0)∧(∀ v∈l,b.2.1≤v.f1)∧(∀ v∈l,v.f0≤b.2.2.1)∧(∀ v∈l,v.f1≤b.2.2.2))∧(∃ v∈l,v.f0=b.1)∧(∃ v∈l,v.f1=b.2.1)∧(∃ v∈l,v.f0=b.2.2.1)∧(∃ v∈l,v.f1=b.2.2.2)
theorem bndAt_in (l : List S47) (h0 : 0 < l.length) : ∀ i, i ≤ l.length →
    (∀ j,j<i→(bndAt l i).1≤(rd_T47 l (j:Int)).f0∧(bndAt l i).2.1≤(rd_T47 l (j:Int)).f1∧(rd_T47 l (j:Int)).f0≤(bndAt l i).2.2.1∧(rd_T47 l (j:Int)).f1≤(bndAt l i).2.2.2) ∧
    (∃ v∈l,v.f0=(bndAt l i).1)∧(∃ v∈l,v.f1=(bndAt l i).2.1)∧(∃ v∈l,v.f0=(bndAt l i).2.2.1)∧(∃ v∈l,v.f1=(bndAt l i).2.2.2)
  | 0,_=>⟨fun j hj=>by omega,⟨_,rd_in l 0 h0,rfl⟩,⟨_,rd_in l 0 h0,rfl⟩,⟨_,rd_in l 0 h0,rfl⟩,⟨_,rd_in l 0 h0,rfl⟩⟩
  | i+1,hi=>by
    obtain ⟨h1,⟨v1,m1,e1⟩,⟨v2,m2,e2⟩,⟨v3,m3,e3⟩,⟨v4,m4,e4⟩⟩:=bndAt_in l h0 i (by omega)
    have hx:=rd_in l i (by omega)
    have a1:=mn_le (bndAt l i).1 (rd_T47 l (i:Int)).f0
    have a2:=mn_le (bndAt l i).2.1 (rd_T47 l (i:Int)).f1
    have a3:=mx_le (bndAt l i).2.2.1 (rd_T47 l (i:Int)).f0
    have a4:=mx_le (bndAt l i).2.2.2 (rd_T47 l (i:Int)).f1
    simp only [bndAt]
    refine ⟨fun j hj=>?_,?_,?_,?_,?_⟩
    · rcases Nat.lt_or_ge j i with k|k
      · have:=h1 j k
        omega
      · obtain rfl:j=i:=by omega
        omega
    · rcases a1.2.2 with k|k
      · exact ⟨v1,m1,by omega⟩
      · exact ⟨_,hx,by omega⟩
    · rcases a2.2.2 with k|k
      · exact ⟨v2,m2,by omega⟩
      · exact ⟨_,hx,by omega⟩
    · rcases a3.2.2 with k|k
      · exact ⟨v3,m3,by omega⟩
      · exact ⟨_,hx,by omega⟩
    · rcases a4.2.2 with k|k
      · exact ⟨v4,m4,by omega⟩
      · exact ⟨_,hx,by omega⟩
theorem bnd_box (l:List S47) (h0:0<l.length):BoxOf l (bndAt l l.length):=by
  obtain ⟨h1,h2⟩:=bndAt_in l h0 l.length (Nat.le_refl _)
  have g : ∀ v∈l,∃ j,j<l.length∧rd_T47 l (j:Int)=v:=fun v hv=>by
    obtain ⟨j,hj,rfl⟩:=List.mem_iff_getElem.mp hv
    exact ⟨j,hj,rd_get l j hj⟩
  refine ⟨⟨?_,?_,?_,?_⟩,h2⟩ <;> (intro v hv;obtain ⟨j,hj,rfl⟩:=g v hv;have:=h1 j hj;omega)
theorem box_in {l:List S47} {b:Int×Int×Int×Int} (hb:BoxOf l b) (s:S47):InBox l s↔b.1≤s.f0∧s.f0≤b.2.2.1∧b.2.1≤s.f1∧s.f1≤b.2.2.2:=by
  obtain ⟨⟨k1,k2,k3,k4⟩,⟨v1,m1,e1⟩,⟨v2,m2,e2⟩,⟨v3,m3,e3⟩,⟨v4,m4,e4⟩⟩:=hb
  constructor
  · rintro ⟨⟨w1,n1,f1⟩,⟨w2,n2,f2⟩,⟨w3,n3,f3⟩,⟨w4,n4,f4⟩⟩
    have:=k1 _ n1;have:=k3 _ n2;have:=k2 _ n3;have:=k4 _ n4
    omega
  · rintro ⟨g1,g2,g3,g4⟩
    exact ⟨⟨v1,m1,by omega⟩,⟨v3,m3,by omega⟩,⟨v2,m2,by omega⟩,⟨v4,m4,by omega⟩⟩
theorem edge_at (l:List S47) (i:Nat) (hi:i<l.length):HG.Edge l (rd_T47 l (i:Int)) (nxt l i):=by
  have hm:(i+1) % l.length<l.length:=Nat.mod_lt _ (by omega)
  refine ⟨i,hi,?_,?_⟩
  · rw [rd_get l i hi];exact List.getElem?_eq_getElem hi
  · unfold nxt;rw [rd_get l _ hm];exact List.getElem?_eq_getElem hm
theorem edges_iff (l:List S47) (P:S47→S47→Prop):(∀ a b,HG.Edge l a b→P a b)↔∀ i,i<l.length→P (rd_T47 l (i:Int)) (nxt l i):=by
  constructor
  · exact fun h i hi=>h _ _ (edge_at l i hi)
  · rintro h a b ⟨i,hi,ha,hb⟩
    have hm:(i+1) % l.length<l.length:=Nat.mod_lt _ (by omega)
    rw [List.getElem?_eq_getElem hi] at ha
    rw [List.getElem?_eq_getElem hm] at hb
    obtain rfl:=Option.some.inj ha
    obtain rfl:=Option.some.inj hb
    have:=h i hi
    unfold nxt at this
    rwa [rd_get l i hi,rd_get l _ hm] at this
theorem nxt_in (l:List S47) (i:Nat) (hi:i<l.length):nxt l i∈l:=rd_in l _ (Nat.mod_lt _ (by omega))
theorem hasAt_is (l : List S47) (hb : ∀ x ∈ l, Big x) (s : S47) (hs : Big s) : ∀ i, i ≤ l.length → (hasAt l s i = true ↔ ∀ j, j < i → 0 ≤ area (rd_T47 l (j : Int)) (nxt l j) s)
  | 0,_=>⟨fun _ j hj=>by omega,fun _=>rfl⟩
  | i+1,hi=>by
    have ih:=hasAt_is l hb s hs i (by omega)
    have hv:=signV_is (hb _ (rd_in l i (by omega))) (hb _ (nxt_in l i (by omega))) hs
    have hf:=(sgnI_facts (area (rd_T47 l (i:Int)) (nxt l i) s)).2.1
    simp only [hasAt]
    rw [hv,Bool.and_eq_true,ih,decide_eq_true_eq,hf]
    constructor
    · rintro ⟨h1,h2⟩ j hj
      rcases Nat.lt_or_ge j i with k|k
      · exact h1 j k
      · obtain rfl:j=i:=by omega
        exact h2
    · exact fun h=>⟨fun j hj=>h j (by omega),h i (by omega)⟩
theorem has_is {h:List S47} (hp:Pen h) (hl:h.length≤1000000) (hb : ∀ x∈h,Big x) (s:S47) (hs:Big s) : ∃ r,pen_Has.f h s.f0 s.f1=some r∧(r=true↔Sup [s] h):=by
  have h0:0<h.length:=List.length_pos_iff.mpr hp.ne
  unfold pen_Has.f
  rw [if_pos ⟨by omega,by omega⟩]
  refine ⟨_,rfl,?_⟩
  rw [← has_iff hp s,box_in (bnd_box h h0) s,edges_iff,Bool.and_eq_true,hasAt_is h hb ⟨s.f0,s.f1⟩ hs h.length (Nat.le_refl _)]
  unfold outB
  simp only [Bool.not_eq_true',Bool.or_eq_false_iff,decide_eq_false_iff_not,Int.not_lt]
end Go.Proofs.YtckjlckhjcbddaaGreat.PG3.Pn

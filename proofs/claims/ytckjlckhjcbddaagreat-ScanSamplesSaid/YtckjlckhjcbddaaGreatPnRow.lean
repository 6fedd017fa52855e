import Derived.Test.YtckjlckhjcbddaaGreatPnCover
import Derived.Test.YtckjlckhjcbddaaGreatPG3x6
set_option linter.unusedVariables false
set_option linter.unusedSectionVars false
set_option linter.unusedSimpArgs false
namespace Go.Proofs.YtckjlckhjcbddaaGreat.PG3.Pn
open Go.RowKit Go.Proofs.YtckjlckhjcbddaaGreat.PG3 Go.Proofs.YtckjlckhjcbddaaGreatW.PrintWords Go.Proofs.YtckjlckhjcbddaaGreatW.PrintLast Go.Proofs.YtckjlckhjcbddaaGreatW.PrintMore HG
noncomputable def cov (l m:List S47) (j:Int) (T:Nat) (c:Nat):Bool:=@decide (∃ t,t<T∧Pc l m (sm (c:Int) j) t) (Classical.propDecidable _)
theorem cov_iff (l m:List S47) (j:Int) (T c:Nat):cov l m j T c=true↔∃ t,t<T∧Pc l m (sm (c:Int) j) t:=by unfold cov;exact @decide_eq_true_iff _ (Classical.propDecidable _)
theorem ptB {p:S47} (h:isPt p=true) : -268435455≤p.f0∧p.f0≤268435455∧-268435455≤p.f1∧p.f1≤268435455:=by unfold isPt at h;simp at h;omega
theorem w1 {i:Nat} (h:i≤1000000):wrap64 ((i:Int)+1)=((i+1:Nat):Int):=by rw [w64 (by omega) (by omega)];omega
theorem wm1 (i:Nat) (h:i≤1000000):wrap64 ((i:Int)-1)=(i:Int)-1:=w64 (by omega) (by omega)
theorem mxI (i:Nat):mx ((i:Int)-1) 0=((i-1:Nat):Int):=by unfold mx;split <;> omega
section
variable (l:List S47) (hv:okPen l=true) (m:List S47) (hm1:1≤m.length) (hm2:m.length≤1000) (hm : ∀ x∈m,isPt x=true) (j:Nat) (hj:j≤255) (n:Nat) (hn:n≤256) (hn1:1≤n)
include hv hm1 hm2 hm hj hn hn1
theorem piece_out (p q:S47) (c:Nat) (hs:Sup [sm (c:Int) (j:Int)] (twice l p q)):min p.f1 q.f1+(bndAt l l.length).2.1≤65536*(j:Int)+32768∧65536*(j:Int)+32768≤max p.f1 q.f1+(bndAt l l.length).2.2.2:=by
  obtain ⟨k1,k2,k3,k4⟩:=okPen_iff.mp hv
  obtain ⟨⟨b1,b2,b3,b4⟩,_⟩:=bnd_box l (by omega)
  obtain ⟨t,ht,h1⟩:=hs 0 1 (sm (c:Int) (j:Int)) (by simp)
  obtain ⟨u,hu,h2⟩:=hs 0 (-1) (sm (c:Int) (j:Int)) (by simp)
  simp only [dt,sm] at h1 h2
  have key : ∀ x∈twice l p q,(bndAt l l.length).2.1+min p.f1 q.f1≤x.f1∧x.f1≤(bndAt l l.length).2.2.2+max p.f1 q.f1:=by
    intro x hx
    unfold twice at hx
    rcases List.mem_append.mp hx with hx|hx <;> obtain ⟨y,hy,rfl⟩:=List.mem_map.mp hx <;> have q2:=b2 y hy <;> have q4:=b4 y hy <;> unfold mv <;> simp only <;> omega
  have e1:=key t ht
  have e2:=key u hu
  omega
theorem cov_step (T : Nat) (p q : S47) (hpc : ∀ c : Nat, Pc l m (sm (c : Int) (j : Int)) T ↔ Sup [sm (c : Int) (j : Int)] (twice l p q)) (hp : isPt p = true) (hq : isPt q = true) (k : Nat) (hk : 2000 < k) :
    (pen_Swept.f k l p.f0 p.f1 q.f0 q.f1).bind (fun h=>scan_cover.f k h (65536*(j:Int)+32768) (bitsN n (cov l m (j:Int) T)))=some (bitsN n (cov l m (j:Int) (T+1))):=by
  obtain ⟨k1,k2,k3,k4⟩:=okPen_iff.mp hv
  rw [swept_is l p q (by omega) k3 hp hq k (by omega)]
  simp only [Option.bind_some]
  have hh:=hullOf_is (twice_ne k1 p q)
  have hlen:=hullOf_len (twice l p q)
  rw [twice_len] at hlen
  obtain ⟨g,hg,hc⟩:=cover_is hh.pen (by omega) (hull_big (twice_big k3 hp hq)) j hj n hn hn1 (cov l m (j:Int) T) k (by omega)
  rw [hc]
  congr 1
  refine bitsN_congr (fun c hcn=>?_)
  rw [Bool.eq_iff_iff,Bool.or_eq_true,cov_iff,cov_iff,hg c (by omega),sup_hull hh,← hpc c]
  constructor
  · rintro (⟨t,h1,h2⟩|h)
    · exact ⟨t,by omega,h2⟩
    · exact ⟨T,by omega,h⟩
  · rintro ⟨t,h1,h2⟩
    by_cases e:t=T
    · subst e;exact Or.inr h2
    · exact Or.inl ⟨t,by omega,h2⟩
theorem cov_skip (T : Nat) (p q : S47) (hpc : ∀ c : Nat, Pc l m (sm (c : Int) (j : Int)) T ↔ Sup [sm (c : Int) (j : Int)] (twice l p q)) (ho : 65536 * (j : Int) + 32768 < min p.f1 q.f1 + (bndAt l l.length).2.1 ∨ max p.f1 q.f1 + (bndAt l l.length).2.2.2 < 65536 * (j : Int) + 32768) :
    bitsN n (cov l m (j:Int) T)=bitsN n (cov l m (j:Int) (T+1)):=by
  refine bitsN_congr (fun c hcn=>?_)
  rw [Bool.eq_iff_iff,cov_iff,cov_iff]
  constructor
  · rintro ⟨t,h1,h2⟩;exact ⟨t,by omega,h2⟩
  · rintro ⟨t,h1,h2⟩
    by_cases e:t=T
    · subst e
      have:=piece_out l hv m hm1 hm2 hm j hj n hn hn1 p q c ((hpc c).mp h2)
      omega
    · exact ⟨t,by omega,h2⟩
def npTo (m:List S47) (i:Nat):Nat:=if m.length=1 then i else i-1
theorem covered_go (d : Nat) : ∀ (k i : Nat), i ≤ m.length → m.length - i = d → 2 * d + 3000 < k →
    scan_Covered.l0 k l m (bitsN n (cov l m (j:Int) (npTo m i))) (65536*(j:Int)+32768) (bndAt l l.length).2.1 (bndAt l l.length).2.2.2 m (m.length:Int) (i:Int)=some (spansB (bitsN n (cov l m (j:Int) (npc m)))):=by
  obtain ⟨k1,k2,k3,k4⟩:=okPen_iff.mp hv
  obtain ⟨_,⟨v1,m1,e1⟩,⟨v2,m2,e2⟩,⟨v3,m3,e3⟩,⟨v4,m4,e4⟩⟩:=bnd_box l (by omega)
  have B2:=ptB (k3 v2 m2);have B4:=ptB (k3 v4 m4)
  induction d with
  | zero =>
    intro k i hi hd hk
    obtain ⟨k,rfl⟩ : ∃ m,k=m+1:=⟨k-1,by omega⟩
    obtain rfl:i=m.length:=by omega
    have e:npTo m m.length=npc m:=by unfold npTo npc;split <;> omega
    rw [scan_Covered.l0,if_neg (by omega),e,spans_is _ (by rw [bitsN_len];omega) k (by rw [bitsN_len];omega)];rfl
  | succ d ih =>
    intro k i hi hd hk
    obtain ⟨k,rfl⟩ : ∃ m,k=(m+1)+1:=⟨k-2,by omega⟩
    have ih':=ih k (i+1) (by omega) (by omega) (by omega)
    have hI:i≤1000000:=by omega
    have hq:=hm _ (rd_in m i (by omega))
    have hp:=hm _ (rd_in m (i-1) (by omega))
    have Q:=ptB hq;have P:=ptB hp
    have jt : ∀ (T:Nat) (x0 x1 y0 y1:Int),T=npTo m (i+1)→scan_Covered.j1 (k+1) l m (bitsN n (cov l m (j:Int) T)) (65536*(j:Int)+32768) (bndAt l l.length).2.1 (bndAt l l.length).2.2.2 m (m.length:Int) (i:Int) true x0 x1 y0 y1=some (spansB (bitsN n (cov l m (j:Int) (npc m)))):=by
      intro T x0 x1 y0 y1 hT
      subst hT
      rw [scan_Covered.j1,if_pos rfl,w1 hI]
      exact ih'
    rw [scan_Covered.l0,if_pos (by omega),if_pos (by omega),if_pos (by omega),wm1 i hI,mxI i,if_pos (by omega),if_pos (by omega)]

    have piece : ∀ T, T + 1 = npTo m (i + 1) → (∀ c : Nat, Pc l m (sm (c : Int) (j : Int)) T ↔ Sup [sm (c : Int) (j : Int)] (twice l (rd_T47 m ((i - 1 : Nat) : Int)) (rd_T47 m (i : Int)))) →
        (if wrap64 (mn (rd_T47 m ((i - 1 : Nat) : Int)).f1 (rd_T47 m (i : Int)).f1 + (bndAt l l.length).2.1) > 65536 * (j : Int) + 32768 then scan_Covered.j1 (k + 1) l m (bitsN n (cov l m (j : Int) T)) (65536 * (j : Int) + 32768) (bndAt l l.length).2.1 (bndAt l l.length).2.2.2 m (m.length : Int) (i : Int) true (rd_T47 m (i : Int)).f0 (rd_T47 m (i : Int)).f1 (rd_T47 m ((i - 1 : Nat) : Int)).f0 (rd_T47 m ((i - 1 : Nat) : Int)).f1
          else scan_Covered.j1 (k+1) l m (bitsN n (cov l m (j:Int) T)) (65536*(j:Int)+32768) (bndAt l l.length).2.1 (bndAt l l.length).2.2.2 m (m.length:Int) (i:Int) (decide (wrap64 (mx (rd_T47 m ((i-1:Nat):Int)).f1 (rd_T47 m (i:Int)).f1+(bndAt l l.length).2.2.2)<65536*(j:Int)+32768)) (rd_T47 m (i:Int)).f0 (rd_T47 m (i:Int)).f1 (rd_T47 m ((i-1:Nat):Int)).f0 (rd_T47 m ((i-1:Nat):Int)).f1)=some (spansB (bitsN n (cov l m (j:Int) (npc m)))):=by
      intro T hT hpc
      have st:=cov_step l hv m hm1 hm2 hm j hj n hn hn1 T _ _ hpc hp hq k (by omega)
      have sk:=cov_skip l hv m hm1 hm2 hm j hj n hn hn1 T _ _ hpc
      generalize rd_T47 m (i:Int)=q at *
      generalize rd_T47 m ((i-1:Nat):Int)=p at *
      have c0:mn p.f1 q.f1=min p.f1 q.f1:=by unfold mn;split <;> omega
      have c1:mx p.f1 q.f1=max p.f1 q.f1:=by unfold mx;split <;> omega
      rw [c0,c1,w64 (n:=min p.f1 q.f1+(bndAt l l.length).2.1) (by omega) (by omega),w64 (n:=max p.f1 q.f1+(bndAt l l.length).2.2.2) (by omega) (by omega)]
      by_cases h1:min p.f1 q.f1+(bndAt l l.length).2.1>65536*(j:Int)+32768
      · rw [if_pos h1,sk (Or.inl h1)]
        exact jt _ _ _ _ _ hT
      · rw [if_neg h1]
        by_cases h2:max p.f1 q.f1+(bndAt l l.length).2.2.2<65536*(j:Int)+32768
        · rw [decide_eq_true h2,sk (Or.inr h2)]
          exact jt _ _ _ _ _ hT
        · rw [decide_eq_false h2,scan_Covered.j1,if_neg (by simp),w1 hI]
          obtain ⟨h,e1,e2⟩:=Option.bind_eq_some_iff.mp st
          rw [e1]
          simp only [Option.bind_some]
          rw [e2]
          simp only [Option.bind_some]
          rw [hT]
          exact ih'
    by_cases h0:(i:Int)=0
    · rw [if_pos h0]
      obtain rfl:i=0:=by omega
      by_cases h1:(m.length:Int)>1
      · rw [if_pos h1]
        exact jt _ _ _ _ _ (by unfold npTo;rw [if_neg (by omega),if_neg (by omega)])
      · rw [if_neg h1]
        have hone:m.length=1:=by omega
        have hT:npTo m 0=0:=by unfold npTo;rw [if_pos hone]
        rw [hT]
        refine piece 0 (by unfold npTo;rw [if_pos hone]) (fun c=>?_)
        unfold Pc pcB
        rw [if_pos hone]
        exact Iff.rfl
    · rw [if_neg h0]
      have hone : ¬ m.length=1:=by omega
      have hT:npTo m i=i-1:=by unfold npTo;rw [if_neg hone]
      rw [hT]
      refine piece (i-1) (by unfold npTo;rw [if_neg hone];omega) (fun c=>?_)
      unfold Pc pcB
      rw [if_neg hone,show i-1+1=i by omega]
theorem covered_is (k:Nat) (hk:6000<k):scan_Covered.f k l m (n:Int) (j:Int)=some (spansB (bitsN n (cov l m (j:Int) (npc m)))):=by
  obtain ⟨k1,k2,k3,k4⟩:=okPen_iff.mp hv
  unfold scan_Covered.f flat_Bounds.f
  rw [if_pos (by omega),if_pos (by simp;omega),midP j (by omega)]
  simp only [Option.bind_some]
  rw [if_pos ⟨by omega,by omega⟩]
  simp only [Option.bind_some]
  have z:List.replicate ((n:Int)).toNat false=bitsN n (cov l m (j:Int) (npTo m 0)):=by
    have:npTo m 0=0:=by unfold npTo;split <;> rfl
    rw [this,Int.toNat_natCast]
    unfold bitsN
    apply List.ext_getElem
    · simp
    · intro c h1 h2
      simp only [List.getElem_replicate,List.getElem_map,List.getElem_range]
      symm
      rw [Bool.eq_false_iff]
      intro hh
      obtain ⟨t,ht,_⟩:=(cov_iff l m (j:Int) 0 c).mp hh
      omega
  rw [z]
  exact covered_go l hv m hm1 hm2 hm j hj n hn hn1 m.length k 0 (by omega) (by omega) (by omega)
end
def lineB (m:List S47):Bool:=decide (1≤m.length) && (decide (m.length≤60000) && m.all isPt)
theorem lineB_iff {m:List S47} : lineB m=true↔1≤m.length∧m.length≤60000∧∀ x∈m,isPt x=true:=by unfold lineB;simp
theorem validLine_is (m:List S47) (hl:m.length≤1000000000):pen_ValidLine.f m=some (lineB m):=by
  unfold pen_ValidLine.f lineB
  by_cases h1:(m.length:Int)≥1
  · rw [if_pos h1,decide_eq_true (show 1≤m.length by omega)]
    by_cases h2:(m.length:Int)≤60000
    · rw [if_pos h2,decide_eq_true (show m.length≤60000 by omega),arePoints_is m (by omega)];simp
    · rw [if_neg h2,decide_eq_false (show ¬ m.length≤60000 by omega)];simp
  · rw [if_neg h1,decide_eq_false (show ¬ 1≤m.length by omega)];simp
def rokP (w j:Int):Bool:=decide (1≤w) && (decide (w≤256) && (decide (0≤j) && decide (j<256)))
theorem rokP_iff {w j:Int} : rokP w j=true↔1≤w∧w≤256∧0≤j∧j<256:=by unfold rokP;simp
theorem isRowP (w j:Int):scan_isRow.f w j=some (rokP w j):=by
  unfold scan_isRow.f rokP
  by_cases h1:w≥1
  · rw [if_pos h1,decide_eq_true (show 1≤w by omega)]
    by_cases h2:w≤256
    · rw [if_pos h2,decide_eq_true h2]
      by_cases h3:j≥0
      · rw [if_pos h3,decide_eq_true (show 0≤j by omega)];simp
      · rw [if_neg h3,decide_eq_false (show ¬ 0≤j by omega)];simp
    · rw [if_neg h2,decide_eq_false h2];simp
  · rw [if_neg h1,decide_eq_false (show ¬ 1≤w by omega)];simp
noncomputable def penR (l m:List S47) (w j:Int):List Sp×Int:=if okPen l && (lineB m && rokP w j) then (spansB (bitsN w.toNat (cov l m j (npc m))),0) else ([],2)
theorem pen_is (l m:List S47) (hm2:m.length≤1000) (w j:Int) (k:Nat) (hk:6000<k):scan_Pen.f k l m w j=some (penR l m w j):=by
  unfold scan_Pen.f penR
  rw [valid_is,validLine_is m (by omega),isRowP]
  simp only [Option.bind_some]
  cases hv:okPen l with
  | false=>simp
  | true =>
    cases hl:lineB m with
    | false=>simp
    | true =>
      cases hr:rokP w j with
      | false=>simp
      | true =>
        obtain ⟨r1,r2,r3,r4⟩:=rokP_iff.mp hr
        obtain ⟨l1,l2,l3⟩:=lineB_iff.mp hl
        obtain ⟨n,rfl⟩ : ∃ n:Nat,w=n:=⟨w.toNat,by omega⟩
        obtain ⟨j,rfl⟩ : ∃ n:Nat,j=n:=⟨j.toNat,by omega⟩
        simp only [if_true,Bool.and_self]
        rw [covered_is l hv m l1 hm2 l3 j (by omega) n (by omega) (by omega) k hk];rfl
end Go.Proofs.YtckjlckhjcbddaaGreat.PG3.Pn

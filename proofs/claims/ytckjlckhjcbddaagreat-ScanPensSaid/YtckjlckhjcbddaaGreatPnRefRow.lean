import Derived.Test.YtckjlckhjcbddaaGreatPnRow
import Derived.Test.YtckjlckhjcbddaaGreatPG3x17
import Derived.Test.YtckjlckhjcbddaaGreatPG3x20
import Derived.Test.YtckjlckhjcbddaaGreatPG3x31
set_option linter.unusedVariables false
set_option linter.unusedSectionVars false
set_option linter.unusedSimpArgs false
namespace Go.Proofs.YtckjlckhjcbddaaGreat.PG3.Pn
open Go.RowKit Go.Proofs.YtckjlckhjcbddaaGreat.PG3 Go.Proofs.YtckjlckhjcbddaaGreatW.PrintWords Go.Proofs.YtckjlckhjcbddaaGreatW.PrintLast Go.Proofs.YtckjlckhjcbddaaGreatW.PrintMore HG
theorem refrowP (w j:Int):fleuronref19_row.f w j=some (rokP w j):=by
  unfold fleuronref19_row.f rokP
  by_cases h1:w≥1
  · rw [if_pos h1,decide_eq_true (show 1≤w by omega)]
    by_cases h2:w≤256
    · rw [if_pos h2,decide_eq_true h2]
      by_cases h3:j≥0
      · rw [if_pos h3,decide_eq_true (show 0≤j by omega),show decide (j≤255)=decide (j<256) by rw [decide_eq_decide];omega];simp
      · rw [if_neg h3,decide_eq_false (show ¬ 0≤j by omega)];simp
    · rw [if_neg h2,decide_eq_false h2];simp
  · rw [if_neg h1,decide_eq_false (show ¬ 1≤w by omega)];simp
theorem refsm {i j:Int} (h0:0≤i) (h1:i≤1000) (h2:0≤j) (h3:j≤1000):fleuronref19_Sample.f i j=some ((sm i j).f0,(sm i j).f1):=by
  unfold fleuronref19_Sample.f sm
  rw [w64 (n:=i*65536) (by omega) (by omega),w64 (n:=j*65536) (by omega) (by omega),w64 (by omega) (by omega),w64 (by omega) (by omega),Int.mul_comm i,Int.mul_comm j]
theorem one_up (h : List (List S47)) (x y : Int) (K : Nat) {r : Bool} (e : fleuronref18_One.f K h x y = some r) : ∀ d, fleuronref18_One.f (K + d) h x y = some r
  | 0=>e
  | d+1=>fleuronref18_One.mono h x y (K+d) r (one_up h x y K e d)
theorem hulls_up (l m : List S47) (K : Nat) {r : List (List S47)} (e : fleuronref18_Hulls.f K l m = some r) : ∀ d, fleuronref18_Hulls.f (K + d) l m = some r
  | 0=>e
  | d+1=>fleuronref18_Hulls.mono l m (K+d) r (hulls_up l m K e d)
section
variable (l:List S47) (hv:okPen l=true) (m:List S47) (hm1:1≤m.length) (hm2:m.length≤60) (hm : ∀ x∈m,isPt x=true) (j:Nat) (hj:j≤255) (n:Nat) (hn:n≤256) (hn1:1≤n)
include hv hm1 hm2 hm hj hn hn1
theorem hulls_one : ∃ H,fleuronref18_Hulls.f 1000 l m=some H∧∀ c:Nat,c<n→fleuronref18_One.f 1000 H (sm (c:Int) (j:Int)).f0 (sm (c:Int) (j:Int)).f1=some (cov l m (j:Int) (npc m) c):=by
  have key : ∀ c:Nat,c<n→∃ H,fleuronref18_Hulls.f 1000 l m=some H∧fleuronref18_One.f 1000 H (sm (c:Int) (j:Int)).f0 (sm (c:Int) (j:Int)).f1=some (cov l m (j:Int) (npc m) c):=by
    intro c hc
    obtain ⟨r,hr,hr'⟩:=refAlong_is l hv m hm1 hm2 hm (sm (c:Int) (j:Int)) (sm_pt (by omega) (by omega) (by omega) (by omega)) 1000 (Nat.le_refl _)
    obtain ⟨H,e1,e2⟩:=Option.bind_eq_some_iff.mp hr
    refine ⟨H,e1,?_⟩
    rw [e2]
    congr 1
    rw [Bool.eq_iff_iff,hr',cov_iff]
  obtain ⟨H,e1,_⟩:=key 0 (by omega)
  refine ⟨H,e1,fun c hc=>?_⟩
  obtain ⟨H2,e2,e3⟩:=key c hc
  rw [e1] at e2
  obtain rfl:=Option.some.inj e2
  exact e3
omit hv hm1 hm2 hm hn1 in
theorem refPen_go (H : List (List S47)) (h1 : ∀ c : Nat, c < n → fleuronref18_One.f 1000 H (sm (c : Int) (j : Int)).f0 (sm (c : Int) (j : Int)).f1 = some (cov l m (j : Int) (npc m) c)) (d : Nat) : ∀ (k i : Nat), i ≤ n → n - i = d → d + 2000 < k →
    fleuronref19_Pen.l0 k (j:Int) H (bitsN i (cov l m (j:Int) (npc m))) (n:Int) (i:Int)=some (spansB (bitsN n (cov l m (j:Int) (npc m))),0):=by
  induction d with
  | zero =>
    intro k i hi hd hk
    obtain ⟨k,rfl⟩ : ∃ m,k=m+1:=⟨k-1,by omega⟩
    obtain rfl:i=n:=by omega
    rw [fleuronref19_Pen.l0,if_neg (by omega),refSpans_is _ (by rw [bitsN_len];omega) k (by rw [bitsN_len];omega)];rfl
  | succ d ih =>
    intro k i hi hd hk
    obtain ⟨k,rfl⟩ : ∃ m,k=m+1:=⟨k-1,by omega⟩
    have h:=ih k (i+1) (by omega) (by omega) (by omega)
    have e:bitsN (i+1) (cov l m (j:Int) (npc m))=bitsN i (cov l m (j:Int) (npc m))++[cov l m (j:Int) (npc m) i]:=by
      unfold bitsN;rw [List.range_succ,List.map_append,List.map_cons,List.map_nil]
    rw [e] at h
    obtain ⟨q,rfl⟩ : ∃ q,k=1000+q:=⟨k-1000,by omega⟩
    rw [fleuronref19_Pen.l0,if_pos (by omega),refsm (by omega) (by omega) (by omega) (by omega)]
    simp only [Option.bind_some]
    rw [one_up H _ _ 1000 (h1 i (by omega)) q]
    simp only [Option.bind_some]
    rw [if_pos (by rw [bitsN_len];omega),w1 (by omega)]
    exact h
end
theorem refPen_is (l m:List S47) (hm2:m.length≤60) (w j:Int) (k:Nat) (hk:6000<k):fleuronref19_Pen.f k l m w j=some (penR l m w j):=by
  have hd:fleuronref18_Drawn.f k l m=some (okPen l && lineB m):=by
    unfold fleuronref18_Drawn.f lineB
    rw [refValid_is l k (by omega)]
    simp only [Option.bind_some]
    cases hv:okPen l with
    | false=>simp
    | true =>
      rw [if_pos rfl]
      by_cases h1:(m.length:Int)≥1
      · rw [if_pos h1,if_pos (by omega),decide_eq_true (show 1≤m.length by omega),decide_eq_true (show m.length≤60000 by omega),refAll_is m (by omega) k (by omega)];simp
      · rw [if_neg h1,decide_eq_false (show ¬ 1≤m.length by omega)];simp
  obtain ⟨k,rfl⟩ : ∃ m,k=m+1:=⟨k-1,by omega⟩
  unfold fleuronref19_Pen.f penR
  rw [hd,refrowP]
  simp only [Option.bind_some,fleuronref19_Pen.j0]
  cases hv:okPen l with
  | false=>simp
  | true =>
    cases hl:lineB m with
    | false=>simp
    | true =>
      cases hr:rokP w j with
      | false=>simp
      | true =>
        obtain ⟨r1,r2,r3,r4⟩:=rokP_iff.mp hr
        obtain ⟨l1,l2,l3⟩:=lineB_iff.mp hl
        obtain ⟨n,rfl⟩ : ∃ n:Nat,w=n:=⟨w.toNat,by omega⟩
        obtain ⟨j,rfl⟩ : ∃ n:Nat,j=n:=⟨j.toNat,by omega⟩
        simp only [if_true,Bool.and_self,Bool.not_true,Bool.false_eq_true,if_false]
        obtain ⟨H,e1,e2⟩:=hulls_one l hv m l1 hm2 l3 j (by omega) n (by omega) (by omega)
        obtain ⟨q,rfl⟩ : ∃ q,k=1000+q:=⟨k-1000,by omega⟩
        rw [hulls_up l m 1000 e1 q]
        simp only [Option.bind_some]
        exact refPen_go l m j (by omega) n (by omega) H e2 n (1000+q) 0 (by omega) (by omega) (by omega)
theorem penR_len (l m:List S47) (w j:Int):(penR l m w j).1.length≤256:=by
  unfold penR
  split
  · rename_i h
    rw [Bool.and_eq_true,Bool.and_eq_true] at h
    have:=rokP_iff.mp h.2.2
    have h2:=spTo_len (bitsN w.toNat (cov l m j (npc m))) (bitsN w.toNat (cov l m j (npc m))).length
    have h3:=bitsN_len w.toNat (cov l m j (npc m))
    show (spTo (bitsN w.toNat (cov l m j (npc m))) (bitsN w.toNat (cov l m j (npc m))).length).length≤256
    omega
  · simp
end Go.Proofs.YtckjlckhjcbddaaGreat.PG3.Pn

import Derived.Test.YtckjlckhjcbddaaGreatPnPc
import Derived.Test.YtckjlckhjcbddaaGreatLibSpans
import Derived.Test.YtckjlckhjcbddaaGreatPG3x11
import Derived.Test.YtckjlckhjcbddaaGreatPG3x12
import Derived.Test.YtckjlckhjcbddaaGreatPG3x8
set_option linter.unusedVariables false
set_option linter.unusedSectionVars false
set_option linter.unusedSimpArgs false
namespace Go.Proofs.YtckjlckhjcbddaaGreat.PG3.Pn
open Go.RowKit Go.Proofs.YtckjlckhjcbddaaGreat.PG3 Go.Proofs.YtckjlckhjcbddaaGreatW.PrintWords Go.Proofs.YtckjlckhjcbddaaGreatW.PrintLast Go.Proofs.YtckjlckhjcbddaaGreatW.PrintMore HG
theorem floor_div {n d:Int} (hd:0<d):(if Int.tmod n d<0 then Int.tdiv n d-1 else Int.tdiv n d)=n / d:=by
  have h1:Int.tmod n d+d*Int.tdiv n d=n:=Int.tmod_add_mul_tdiv n d
  have h2:Int.tmod n d<d:=Int.tmod_lt_of_pos n hd
  have h3 : -d<Int.tmod n d:=by
    have h:=Int.tmod_lt_of_pos (-n) hd
    rw [Int.neg_tmod] at h
    omega
  by_cases h:Int.tmod n d<0
  · rw [if_pos h]
    exact ((Int.ediv_emod_unique hd (a:=n) (q:=Int.tdiv n d-1) (r:=Int.tmod n d+d)).2 ⟨by rw [Int.mul_sub];omega,by omega,by omega⟩).1.symm
  · rw [if_neg h]
    exact ((Int.ediv_emod_unique hd (a:=n) (q:=Int.tdiv n d) (r:=Int.tmod n d)).2 ⟨h1,by omega,h2⟩).1.symm
theorem fromP {v:Int} (h : -1000000000000≤v) (h':v≤1000000000000):scan_from.f v=some ((v+32767) / 65536):=by
  unfold scan_from.f scan_floor.f
  rw [w64 (n:=v+32768) (by omega) (by omega),w64 (n:=v+32768-1) (by omega) (by omega),if_neg (by decide),show v+32768-1=v+32767 by omega]
  have f1:=floor_div (n:=v+32767) (d:=65536) (by omega)
  have t1 : -2000000000000≤Int.tdiv (v+32767) 65536∧Int.tdiv (v+32767) 65536≤2000000000000:=by
    have h:=Int.natAbs_tdiv_le_natAbs (v+32767) 65536
    omega
  by_cases h1:Int.tmod (v+32767) 65536<0
  · rw [if_pos h1] at f1 ⊢
    rw [w64 (n:=Int.tdiv (v+32767) 65536) (by omega) (by omega),w64 (by omega) (by omega),f1];rfl
  · rw [if_neg h1] at f1 ⊢
    rw [w64 (n:=Int.tdiv (v+32767) 65536) (by omega) (by omega),f1];rfl
theorem midP (i:Nat) (h:i≤1000):scan_middle.f (i:Int)=some (65536*(i:Int)+32768):=by
  unfold scan_middle.f
  rw [w64 (n:=(i:Int)*65536) (by omega) (by omega),w64 (by omega) (by omega),Int.mul_comm]
def sm (i j:Int):S47:=⟨65536*i+32768,65536*j+32768⟩
theorem sm_pt {i j:Int} (h0:0≤i) (h1:i≤256) (h2:0≤j) (h3:j≤256):isPt (sm i j)=true:=by
  unfold isPt sm
  simp only [Bool.and_eq_true,decide_eq_true_eq]
  omega
def bitsN (n:Nat) (f:Nat→Bool):List Bool:=(List.range n).map f
theorem bitsN_len (n:Nat) (f:Nat→Bool):(bitsN n f).length=n:=by simp [bitsN]
theorem bitsN_set (n:Nat) (f g:Nat→Bool) (i:Nat) (hg : ∀ j,g j=if j=i then true else f j):(bitsN n f).set i true=bitsN n g:=by
  unfold bitsN
  apply List.ext_getElem
  · simp
  · intro j h1 h2
    simp only [List.getElem_set,List.getElem_map,List.getElem_range]
    rw [hg j]
    by_cases e:i=j
    · subst e;simp
    · rw [if_neg e,if_neg (fun h=>e h.symm)]
theorem bitsN_congr {n:Nat} {f g:Nat→Bool} (h : ∀ j,j<n→f j=g j):bitsN n f=bitsN n g:=List.map_congr_left (fun j hj=>h j (List.mem_range.mp hj))
section
variable (h:List S47) (y:Int) (n:Nat) (hn:n≤256) (g:Nat→Bool) (hg : ∀ c:Nat,c<257→pen_Has.f h (65536*(c:Int)+32768) y=some (g c))
include hn hg
theorem set_go (f : Nat → Bool) (last : Int) (hl : last ≤ (n : Int) - 1) (d : Nat) : ∀ (k i s : Nat), s ≤ i → (i : Int) ≤ last + 1 → (last + 1 - (i : Int)).toNat = d → d < k →
    ∃ e:Nat,i≤e∧(∀ c,i≤c→c<e→g c=true)∧(e:Int)≤last+1∧((e:Int)≤last→g e=false)∧scan_cover.l1 k h y (bitsN n fun j=>f j || (decide (s≤j) && decide (j<i))) last (i:Int)=some (bitsN n fun j=>f j || (decide (s≤j) && decide (j<e))):=by
  induction d with
  | zero =>
    intro k i s hs hi hd hk
    obtain ⟨k,rfl⟩ : ∃ m,k=m+1:=⟨k-1,by omega⟩
    exact ⟨i,Nat.le_refl _,fun c h1 h2=>by omega,hi,fun h=>by omega,by rw [scan_cover.l1,if_neg (by omega)]⟩
  | succ d ih =>
    intro k i s hs hi hd hk
    obtain ⟨k,rfl⟩ : ∃ m,k=m+1:=⟨k-1,by omega⟩
    rw [scan_cover.l1,if_pos (by omega),midP i (by omega)]
    simp only [Option.bind_some]
    rw [hg i (by omega)]
    simp only [Option.bind_some]
    cases hb:g i with
    | false =>
      exact ⟨i,Nat.le_refl _,fun c h1 h2=>by omega,hi,fun _=>hb,by simp⟩
    | true =>
      have hw:wrap64 ((i:Int)+1)=((i+1:Nat):Int):=by rw [w64 (by omega) (by omega)];omega
      obtain ⟨e,e1,e2,e3,e4,e5⟩:=ih k (i+1) s (by omega) (by omega) (by omega) (by omega)
      refine ⟨e,by omega,fun c h1 h2=>?_,e3,e4,?_⟩
      · by_cases q:c=i
        · rw [q];exact hb
        · exact e2 c (by omega) h2
      · rw [if_pos rfl,if_pos (by omega),bitsN_len,if_pos (by omega),Int.toNat_natCast,hw,← e5]
        congr 1
        refine bitsN_set n _ _ i (fun j=>?_)
        by_cases q:j=i
        · subst q
          rw [if_pos rfl,decide_eq_true hs,decide_eq_true (show j<j+1 by omega)];simp
        · rw [if_neg q,show decide (j<i+1)=decide (j<i) by rw [decide_eq_decide];omega]
theorem find_go (f : Nat → Bool) (last : Int) (hl : last ≤ (n : Int) - 1) (d : Nat) : ∀ (k i : Nat), (last + 1 - (i : Int)).toNat = d → d + 301 < k →
    ∃ a b:Nat,i≤a∧(∀ c,i≤c→c<a→(c:Int)≤last→g c=false)∧(a<b→g a=true)∧(∀ c,a≤c→c<b→g c=true)∧((a:Int)≤last→a<b)∧((b:Int)≤last→g b=false)∧a≤b∧(a<b→(b:Int)≤last+1)∧scan_cover.l0 k h y (bitsN n f) (i:Int) last=some (bitsN n fun j=>f j || (decide (a≤j) && decide (j<b))):=by
  have fin : ∀ (k i:Nat),(i:Int)≤last→g i=true→300<k→∃ b:Nat,i<b∧(∀ c,i≤c→c<b→g c=true)∧((b:Int)≤last→g b=false)∧(b:Int)≤last+1∧scan_cover.j1 k h y (bitsN n f) (i:Int) last=some (bitsN n fun j=>f j || (decide (i≤j) && decide (j<b))):=by
    intro k i hi hb hk
    obtain ⟨k,rfl⟩ : ∃ m,k=m+1:=⟨k-1,by omega⟩
    obtain ⟨e,e1,e2,e3,e4,e5⟩:=set_go h y n hn g hg f last hl (last+1-(i:Int)).toNat k i i (Nat.le_refl _) (by omega) rfl (by omega)
    have hlt:i<e:=by
      rcases Nat.lt_or_ge i e with q|q
      · exact q
      · obtain rfl:e=i:=by omega
        rw [e4 hi] at hb;cases hb
    refine ⟨e,hlt,e2,e4,e3,?_⟩
    rw [scan_cover.j1,← e5]
    congr 1
    refine bitsN_congr (fun j _=>?_)
    have:(decide (i≤j) && decide (j<i))=false:=by
      rw [Bool.eq_false_iff];simp <;> omega
    rw [this];simp
  have non : ∀ (k i:Nat),last<(i:Int)→300<k→scan_cover.j1 k h y (bitsN n f) (i:Int) last=some (bitsN n fun j=>f j || (decide (i≤j) && decide (j<i))):=by
    intro k i hi hk
    obtain ⟨k,rfl⟩ : ∃ m,k=(m+1)+1:=⟨k-2,by omega⟩
    rw [scan_cover.j1,scan_cover.l1,if_neg (by omega)]
    congr 1
    refine bitsN_congr (fun j _=>?_)
    have:(decide (i≤j) && decide (j<i))=false:=by
      rw [Bool.eq_false_iff];simp <;> omega
    rw [this];simp
  induction d with
  | zero =>
    intro k i hd hk
    obtain ⟨k,rfl⟩ : ∃ m,k=m+1:=⟨k-1,by omega⟩
    refine ⟨i,i,Nat.le_refl _,fun c h1 h2 _=>by omega,fun h=>by omega,fun c h1 h2=>by omega,fun h=>by omega,fun h=>by omega,Nat.le_refl _,fun h=>by omega,?_⟩
    rw [scan_cover.l0,if_neg (by omega)]
    exact non k i (by omega) (by omega)
  | succ d ih =>
    intro k i hd hk
    obtain ⟨k,rfl⟩ : ∃ m,k=m+1:=⟨k-1,by omega⟩
    rw [scan_cover.l0,if_pos (by omega),midP i (by omega)]
    simp only [Option.bind_some]
    rw [hg i (by omega)]
    simp only [Option.bind_some]
    cases hb:g i with
    | true =>
      obtain ⟨b,b1,b2,b3,b4,b5⟩:=fin k i (by omega) hb (by omega)
      exact ⟨i,b,Nat.le_refl _,fun c h1 h2 _=>by omega,fun _=>hb,b2,fun _=>b1,b3,by omega,fun _=>b4,by rw [if_pos rfl];exact b5⟩
    | false =>
      have hw:wrap64 ((i:Int)+1)=((i+1:Nat):Int):=by rw [w64 (by omega) (by omega)];omega
      obtain ⟨a,b,a1,a2,a3,a4,a5,a6,a7,a8,a9⟩:=ih k (i+1) (by omega) (by omega)
      refine ⟨a,b,by omega,fun c h1 h2 h3=>?_,a3,a4,a5,a6,a7,a8,?_⟩
      · by_cases q:c=i
        · rw [q];exact hb
        · exact a2 c (by omega) h2 h3
      · rw [if_neg (by simp),hw];exact a9
end
theorem cover_is {h : List S47} (hp : Pen h) (hl : h.length ≤ 1000000) (hb : ∀ x ∈ h, Big x) (j : Nat) (hj : j ≤ 255) (n : Nat) (hn : n ≤ 256) (hn1 : 1 ≤ n) (f : Nat → Bool) (k : Nat) (hk : 1000 < k) :
    ∃ g:Nat→Bool,(∀ c:Nat,c<257→(g c=true↔Sup [sm (c:Int) (j:Int)] h))∧scan_cover.f k h (65536*(j:Int)+32768) (bitsN n f)=some (bitsN n fun c=>f c || g c):=by
  have hbig : ∀ c:Nat,c<257→Big (sm (c:Int) (j:Int)):=fun c hc=>by unfold Big sm;simp only;omega
  have hg0 : ∀ c:Nat,∃ r:Bool,c<257→pen_Has.f h (65536*(c:Int)+32768) (65536*(j:Int)+32768)=some r∧(r=true↔Sup [sm (c:Int) (j:Int)] h):=by
    intro c
    by_cases hc:c<257
    · obtain ⟨r,h1,h2⟩:=has_is hp hl hb (sm (c:Int) (j:Int)) (hbig c hc)
      exact ⟨r,fun _=>⟨h1,h2⟩⟩
    · exact ⟨false,fun h=>absurd h hc⟩
  obtain ⟨g,hg⟩:=Classical.axiomOfChoice hg0
  refine ⟨g,fun c hc=>(hg c hc).2,?_⟩
  have h0:0<h.length:=List.length_pos_iff.mpr hp.ne
  obtain ⟨⟨b1,b2,b3,b4⟩,⟨v1,m1,e1⟩,⟨v2,m2,e2⟩,⟨v3,m3,e3⟩,⟨v4,m4,e4⟩⟩:=bnd_box h h0

  have inb : ∀ c:Nat,c<257→g c=true→(bndAt h h.length).1≤65536*(c:Int)+32768∧65536*(c:Int)+32768≤(bndAt h h.length).2.2.1:=by
    intro c hc hgc
    have hs:=(hg c hc).2.mp hgc
    obtain ⟨t,ht,h1⟩:=hs 1 0 (sm (c:Int) (j:Int)) (by simp)
    obtain ⟨u,hu,h2⟩:=hs (-1) 0 (sm (c:Int) (j:Int)) (by simp)
    have q1:=b3 t ht;have q2:=b1 u hu
    simp only [dt,sm] at h1 h2
    omega
  have conv : ∀ a b c:Nat,a≤b→b≤c→c<257→g a=true→g c=true→g b=true:=by
    intro a b c hab hbc hc ha hc'
    refine ((hg b (by omega)).2).mpr (fun d e s hs=>?_)
    obtain rfl:=List.mem_singleton.mp hs
    rcases Int.le_total 0 d with hd|hd
    · obtain ⟨t,ht,h1⟩:=(hg c hc).2.mp hc' d e (sm (c:Int) (j:Int)) (by simp)
      refine ⟨t,ht,Int.le_trans ?_ h1⟩
      have:=Int.mul_le_mul_of_nonneg_left (show 65536*(b:Int)+32768≤65536*(c:Int)+32768 by omega) hd
      exact Int.add_le_add_right this _
    · obtain ⟨t,ht,h1⟩:=(hg a (by omega)).2.mp ha d e (sm (a:Int) (j:Int)) (by simp)
      refine ⟨t,ht,Int.le_trans ?_ h1⟩
      have:=Int.mul_le_mul_of_nonpos_left hd (show 65536*(a:Int)+32768≤65536*(b:Int)+32768 by omega)
      exact Int.add_le_add_right this _
  have B1:=hb v1 m1;have B3:=hb v3 m3
  unfold Big at B1 B3
  unfold scan_cover.f flat_Bounds.f
  rw [if_pos ⟨by omega,by omega⟩]
  simp only [Option.bind_some]
  generalize (bndAt h h.length).1=x0 at *
  generalize (bndAt h h.length).2.2.1=x1 at *
  rw [fromP (by omega) (by omega),w64 (n:=x1+1) (by omega) (by omega)]
  simp only [Option.bind_some]
  rw [fromP (by omega) (by omega)]
  simp only [Option.bind_some,bitsN_len]
  rw [w64 (n:=(x1+1+32767) / 65536-1) (by omega) (by omega),w64 (n:=(n:Int)-1) (by omega) (by omega)]
  have c0:mx ((x0+32767) / 65536) 0=max ((x0+32767) / 65536) 0:=by unfold mx;split <;> omega
  have c1:mn ((x1+1+32767) / 65536-1) ((n:Int)-1)=min ((x1+1+32767) / 65536-1) ((n:Int)-1):=by unfold mn;split <;> omega
  rw [c0,c1]
  obtain ⟨i,hi⟩ : ∃ i:Nat,(i:Int)=max ((x0+32767) / 65536) 0:=⟨(max ((x0+32767) / 65536) 0).toNat,by omega⟩
  obtain ⟨last,hla⟩ : ∃ last,min ((x1+1+32767) / 65536-1) ((n:Int)-1)=last:=⟨_,rfl⟩
  rw [← hi,hla]
  obtain ⟨a,b,a1,a2,a3,a4,a5,a6,a7,a8,a9⟩:=find_go h (65536*(j:Int)+32768) n hn g (fun c hc=>(hg c hc).1) f last (by omega) (last+1-(i:Int)).toNat k i rfl (by omega)
  rw [a9]
  congr 1
  refine bitsN_congr (fun c hc=>?_)
  congr 1
  rw [Bool.eq_iff_iff,Bool.and_eq_true,decide_eq_true_eq,decide_eq_true_eq]
  constructor
  · rintro ⟨h1,h2⟩;exact a4 c h1 h2
  · intro hgc
    have hin:=inb c (by omega) hgc
    have hci:i≤c:=by omega
    have hcl:(c:Int)≤last:=by omega
    have hac:a≤c:=by
      rcases Nat.lt_or_ge c a with q|q
      · have:=a2 c hci q hcl;rw [this] at hgc;cases hgc
      · exact q
    refine ⟨hac,?_⟩
    rcases Nat.lt_or_ge c b with q|q
    · exact q
    · have hab:=a5 (by omega)
      have h1:=conv a b c (by omega) q (by omega) (a3 hab) hgc
      rw [a6 (by omega)] at h1;cases h1
end Go.Proofs.YtckjlckhjcbddaaGreat.PG3.Pn

import Derived.Test.YtckjlckhjcbddaaGreatPnGeo
import Derived.Test.YtckjlckhjcbddaaGreatPG3x27
import Derived.Test.YtckjlckhjcbddaaGreatPG3x7
set_option linter.unusedVariables false
set_option linter.unusedSimpArgs false
namespace Go.Proofs.YtckjlckhjcbddaaGreat.PG3.Pn
open Go.RowKit Go.Proofs.YtckjlckhjcbddaaGreatW.PrintWords Go.Proofs.YtckjlckhjcbddaaGreatW.PrintLast Go.Proofs.YtckjlckhjcbddaaGreatW.PrintMore HG
theorem wrap64_small {n:Int} (h : -9223372036854775808≤n) (h':n≤9223372036854775807):wrap64 n=n:=by unfold wrap64;omega
theorem rd_get (l:List S47) (i:Nat) (h:i<l.length):rd_T47 l (i:Int)=l[i]:=by
 simp [rd_T47,List.getD_eq_getElem?_getD,List.getElem?_eq_getElem h]
theorem rd_in (l:List S47) (i:Nat) (h:i<l.length):rd_T47 l (i:Int)∈l:=by rw [rd_get l i h];exact List.getElem_mem _
def Big (x:S47):Prop:=-536870912≤x.f0∧x.f0≤536870912∧-536870912≤x.f1∧x.f1≤536870912
theorem isPt_iff {x:S47} : isPt x=true↔(-268435455≤x.f0∧x.f0≤268435455)∧(-268435455≤x.f1∧x.f1≤268435455):=by
 unfold isPt;simp only [Bool.and_eq_true,decide_eq_true_eq]
theorem big_of {x:S47} (h:isPt x=true):Big x:=by have:=isPt_iff.mp h;unfold Big;omega
theorem mul_big {x y:Int} (hx : -1073741824≤x) (hx':x≤1073741824) (hy : -1073741824≤y) (hy':y≤1073741824) : -1152921504606846976≤x*y∧x*y≤1152921504606846976:=by
 have a1:=Int.mul_nonneg (show 0≤1073741824-x by omega) (show 0≤1073741824+y by omega)
 have a2:=Int.mul_nonneg (show 0≤1073741824+x by omega) (show 0≤1073741824-y by omega)
 have a3:=Int.mul_nonneg (show 0≤1073741824-x by omega) (show 0≤1073741824-y by omega)
 have a4:=Int.mul_nonneg (show 0≤1073741824+x by omega) (show 0≤1073741824+y by omega)
 simp only [Int.mul_sub,Int.mul_add,Int.sub_mul,Int.add_mul] at a1 a2 a3 a4
 omega
theorem prods {a b p:S47} (ha:Big a) (hb:Big b) (hp:Big p) :
  (wrap64 (wrap64 (b.f0-a.f0)*wrap64 (p.f1-a.f1))=(b.f0-a.f0)*(p.f1-a.f1)∧wrap64 (wrap64 (b.f1-a.f1)*wrap64 (p.f0-a.f0))=(b.f1-a.f1)*(p.f0-a.f0))∧(-2305843009213693952≤area a b p∧area a b p≤2305843009213693952):=by
 unfold Big at ha hb hp
 have m1:=mul_big (x:=b.f0-a.f0) (y:=p.f1-a.f1) (by omega) (by omega) (by omega) (by omega)
 have m2:=mul_big (x:=b.f1-a.f1) (y:=p.f0-a.f0) (by omega) (by omega) (by omega) (by omega)
 rw [wrap64_small (n:=b.f0-a.f0) (by omega) (by omega),wrap64_small (n:=p.f1-a.f1) (by omega) (by omega),wrap64_small (n:=b.f1-a.f1) (by omega) (by omega),wrap64_small (n:=p.f0-a.f0) (by omega) (by omega),
  wrap64_small (n:=(b.f0-a.f0)*(p.f1-a.f1)) (by omega) (by omega),wrap64_small (n:=(b.f1-a.f1)*(p.f0-a.f0)) (by omega) (by omega)]
 refine ⟨⟨rfl,rfl⟩,?_⟩
 unfold area;omega
def sgnI (n:Int):Int:=if 0<n then 1 else if n<0 then -1 else 0
theorem sgnI_facts (n:Int):(sgnI n≤0↔n≤0)∧(0≤sgnI n↔0≤n)∧(sgnI n<0↔n<0)∧(sgnI n=0↔n=0)∧(sgnI n=1↔0<n):=by
 unfold sgnI;(repeat' split) <;> omega
theorem signB_is {a b p:S47} (ha:Big a) (hb:Big b) (hp:Big p):wind_Sign.f a.f0 a.f1 b.f0 b.f1 p.f0 p.f1=some (sgnI (area a b p)):=by
 obtain ⟨⟨e1,e2⟩,_⟩:=prods ha hb hp
 unfold wind_Sign.f
 rw [e1,e2,compare_int]
 simp only [Option.bind_some,Option.some.injEq]
 unfold sgnI area
 (repeat' split) <;> omega
theorem turnB_is {a b p:S47} (ha:Big a) (hb:Big b) (hp:Big p):fleuronref17_Turn.f a.f0 a.f1 b.f0 b.f1 p.f0 p.f1=some (sgnI (area a b p)):=by
 obtain ⟨⟨e1,e2⟩,e3⟩:=prods ha hb hp
 unfold fleuronref17_Turn.f fleuronref17_sign.f
 rw [e1,e2,show (b.f0-a.f0)*(p.f1-a.f1)-(b.f1-a.f1)*(p.f0-a.f0)=area a b p from rfl,wrap64_small (by omega) (by omega)]
 unfold sgnI
 (repeat' split) <;> first|rfl|omega
theorem leP_iff {x y:S47} : LeP x y↔Le x y:=by
 unfold LeP;rw [cmpB_lt]
 constructor
 ·intro h
  rcases le_or x y with k|k
  ·exact k
  ·unfold Lt Lp at k;omega
 ·rintro (h|rfl)
  ·unfold Lt Lp at h;omega
  ·omega
theorem compGo_spec : ∀ (l:List S47) (p:S47),(p::l).Pairwise LeP→(p::compGo p l).Pairwise Lt∧∀ x,x∈p::compGo p l↔x∈p::l
 | [],p,_=>⟨List.pairwise_singleton _ _,fun x=>Iff.rfl⟩
 | y::l,p,h=>by
  obtain ⟨h1,h2⟩:=List.pairwise_cons.mp h
  obtain ⟨h3,h4⟩:=List.pairwise_cons.mp h2
  unfold compGo
  by_cases hy:eqP y p=true
  ·rw [if_pos hy]
   obtain rfl:=eqP_iff.mp hy
   obtain ⟨k1,k2⟩:=compGo_spec l y h2
   refine ⟨k1,fun x=>?_⟩
   rw [k2];simp
  ·rw [if_neg hy]
   obtain ⟨k1,k2⟩:=compGo_spec l y h2
   refine ⟨List.pairwise_cons.mpr ⟨fun z hz=>?_,k1⟩,fun x=>?_⟩
   ·have hpy:Lt p y:=by
     rcases leP_iff.mp (h1 y (by simp)) with k|k
     ·exact k
     ·exact absurd (eqP_iff.mpr k.symm) hy
    rcases List.mem_cons.mp hz with rfl|hz'
    ·exact hpy
    ·exact lt_trans hpy ((List.pairwise_cons.mp k1).1 z hz')
   ·rw [List.mem_cons,k2,List.mem_cons (a:=x) (b:=p)]
theorem compB_spec {l:List S47} (h:l.Pairwise LeP):(compB l).Pairwise Lt∧∀ x,x∈compB l↔x∈l:=by
 cases l with
 | nil=>exact ⟨List.Pairwise.nil,fun _=>Iff.rfl⟩
 | cons p l=>exact compGo_spec l p h
def ordered (l:List S47):List S47:=compB (isort l)
theorem ordered_rising (l:List S47):Rising (ordered l):=(compB_spec (isort_sorted l)).1
theorem ordered_mem {l:List S47} {x:S47} : x∈ordered l↔x∈l:=((compB_spec (isort_sorted l)).2 x).trans (isort_perm l).mem_iff
theorem ordered_len (l:List S47):(ordered l).length≤l.length:=(pairwise_nodup (ordered_rising l) (fun a=>lt_irrefl)).length_le_of_subset (fun v hv=>ordered_mem.mp hv)
def hullOf (l:List S47):List S47:=hullR (ordered l)
theorem hullOf_is {l:List S47} (hne:l≠[]):IsHull l (hullOf l):=by
 have h:ordered l≠[]:=by
  cases l with
  | nil=>exact absurd rfl hne
  | cons a r=>intro e;have:=(ordered_mem (l:=a::r) (x:=a)).mpr (by simp);rw [e] at this;cases this
 obtain ⟨h1,h2,h3⟩:=hull_rising (ordered_rising l) h
 exact ⟨fun v hv=>ordered_mem.mp (h1 v hv),h2,fun d e s hs=>h3 d e s (ordered_mem.mpr hs)⟩
theorem hullOf_eq {l h:List S47} (hh:IsHull l h):hullOf l=h:=by
 have hne:l≠[]:=by
  rintro rfl
  obtain ⟨m,hm,_⟩:=hh.pen.first
  have:=hh.sub m (List.mem_of_head? hm)
  cases this
 exact hull_unique (hullOf_is hne) hh (Sup.refl _) (Sup.refl _)
theorem hullOf_same {l m:List S47} (hl:l≠[]) (hm:m≠[]) (s1:Sup l m) (s2:Sup m l):hullOf l=hullOf m:=hull_unique (hullOf_is hl) (hullOf_is hm) s1 s2
theorem hullOf_pen {h:List S47} (hp:Pen h):hullOf h=h:=hullOf_eq (pen_hull hp)
theorem hullOf_sub {l:List S47} : ∀ v∈hullOf l,v∈l:=by
 intro v hv
 cases l with
 | nil=>exact hv
 | cons a r=>exact (hullOf_is (l:=a::r) (by simp)).sub v hv
theorem hullOf_len (l:List S47):(hullOf l).length≤l.length:=by
 cases l with
 | nil=>exact Nat.le_refl _
 | cons a r=>exact hull_len (hullOf_is (l:=a::r) (by simp))
theorem signV_is {a b p:S47} (ha:Big a) (hb:Big b) (hp:Big p):signV a b p=sgnI (area a b p):=by unfold signV;rw [signB_is ha hb hp];rfl
theorem popV_is {p:S47} (hp:Big p) : ∀ (st:List S47),(∀ x∈st,Big x)→popV p st=popR p st∧∀ x∈popR p st,x∈st
 | [],_=>⟨rfl,fun _ h=>h⟩
 | [_],_=>⟨rfl,fun _ h=>h⟩
 | b::a::r,hb=>by
  obtain ⟨ih1,ih2⟩:=popV_is hp (a::r) (fun x hx=>hb x (List.mem_cons_of_mem _ hx))
  unfold popV popR
  rw [signV_is (hb a (by simp)) (hb b (by simp)) hp]
  have hs:=(sgnI_facts (area a b p)).1
  by_cases hc:area a b p≤0
  ·rw [if_pos (hs.mpr hc),if_pos hc];exact ⟨ih1,fun x hx=>List.mem_cons_of_mem _ (ih2 x hx)⟩
  ·rw [if_neg (fun h=>hc (hs.mp h)),if_neg hc];exact ⟨rfl,fun _ h=>h⟩
theorem fold_is : ∀ (c st:List S47),(∀ x∈c,Big x)→(∀ x∈st,Big x)→c.foldl pushV st=c.foldl pushR st
 | [],_,_,_=>rfl
 | p::c,st,hc,hs=>by
  obtain ⟨h1,h2⟩:=popV_is (hc p (by simp)) st hs
  rw [List.foldl_cons,List.foldl_cons,show pushV st p=pushR st p by unfold pushV pushR;rw [h1]]
  refine fold_is c _ (fun x hx=>hc x (List.mem_cons_of_mem _ hx)) (fun x hx=>?_)
  unfold pushR at hx
  rcases List.mem_cons.mp hx with rfl|h
  ·exact hc x (by simp)
  ·exact hs x (h2 x h)
theorem chain_is (c:List S47) (hb : ∀ x∈c,Big x) (hc:c.length≤400000):pen_chain.f c=some (chainR c).reverse:=by
 unfold pen_chain.f chainR
 rw [if_pos (by omega),fold_is c [] hb (by simp)]
theorem chainR_len {c:List S47} (h:Rising c):(chainR c).length≤c.length∧(c≠[]→1≤(chainR c).length):=by
 have hi:=chain_inv c h
 have hnd:(chainR c).Nodup:=pairwise_nodup (r:=fun b a=>Lt a b) (good_pairwise hi.good) (fun a=>lt_irrefl)
 refine ⟨hnd.length_le_of_subset (fun v hv=>hi.sub v hv),fun hne=>?_⟩
 have h1:=hi.last
 cases hc:chainR c with
 | nil =>
  rw [hc] at h1
  cases c with
  | nil=>exact absurd rfl hne
  | cons a r=>simp at h1
 | cons a r=>simp
theorem chainR_rev_len {c:List S47} (h:Rising c):(chainR c.reverse).length≤c.length∧(c≠[]→1≤(chainR c.reverse).length):=by
 have:=chainR_len (rising_rev h)
 rw [chainR_ng] at this
 simp only [List.length_map,List.length_reverse,ne_eq,List.map_eq_nil_iff,List.reverse_eq_nil_iff] at this
 exact this
theorem hull_is (l:List S47) (hb : ∀ x∈l,Big x) (hl:l.length≤400000):pen_hull.f l=some (hullOf l):=by
 have h1:=ordered_len l
 have hr:=ordered_rising l
 have hbo : ∀ x∈ordered l,Big x:=fun x hx=>hb x (ordered_mem.mp hx)
 have hip:=(isort_perm l).length_eq
 unfold pen_hull.f api_Point_128.f api_Point_129.f api_Point_130.f api_Point_132.f
 rw [if_pos (by omega)]
 simp only [Option.bind_some]
 rw [if_pos (by omega)]
 simp only [Option.bind_some]
 rw [if_pos (by omega)]
 simp only [Option.bind_some]
 rw [show compB (isort l)=ordered l from rfl]
 unfold hullOf hullR
 by_cases h3:(ordered l).length<3
 ·rw [if_pos (by omega),if_pos h3]
 ·have hne:ordered l≠[]:=by intro e;rw [e] at h3;simp at h3
  have l1:=chainR_len hr
  have l2:=chainR_rev_len hr
  have l1':=l1.2 hne
  have l2':=l2.2 hne
  rw [if_neg (by omega),if_neg h3,chain_is _ hbo (by omega)]
  simp only [Option.bind_some]
  rw [if_pos (by omega)]
  simp only [Option.bind_some]
  rw [chain_is _ (fun x hx=>hbo x (by simpa using hx)) (by simp;omega)]
  simp only [Option.bind_some,List.length_reverse]
  rw [if_pos ⟨by omega,by omega,by omega⟩]
  unfold ring
  rw [List.dropLast_eq_take,List.dropLast_eq_take,List.length_reverse,List.length_reverse]
end Go.Proofs.YtckjlckhjcbddaaGreat.PG3.Pn

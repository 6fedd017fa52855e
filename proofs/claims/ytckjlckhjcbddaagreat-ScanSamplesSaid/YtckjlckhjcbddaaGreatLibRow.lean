import Derived.Test.YtckjlckhjcbddaaGreatLibPolyN
import Derived.Test.YtckjlckhjcbddaaGreatLibSpans
import Derived.Test.YtckjlckhjcbddaaGreatPG3x12
import Derived.Test.YtckjlckhjcbddaaGreatPG3x13
import Derived.Test.YtckjlckhjcbddaaGreatPG3x9
set_option linter.unusedVariables false
set_option linter.unusedSectionVars false
set_option linter.unusedSimpArgs false
namespace Go.Proofs.YtckjlckhjcbddaaGreat.PG3
open Go.RowKit Go.Proofs.YtckjlckhjcbddaaGreatW.PrintWords Go.Proofs.YtckjlckhjcbddaaGreatW.PrintLast Go.Proofs.YtckjlckhjcbddaaGreatW.PrintMore
def atB (a b:S47) (y:Int):Int:=if b.f1-a.f1<0 then a.f0+(-((b.f0-a.f0)*(y-a.f1))) / (-(b.f1-a.f1)) else a.f0+((b.f0-a.f0)*(y-a.f1)) / (b.f1-a.f1)
theorem floor_div {n d:Int} (hd:0<d):(if Int.tmod n d<0 then Int.tdiv n d-1 else Int.tdiv n d)=n / d:=by
  have h1:Int.tmod n d+d*Int.tdiv n d=n:=Int.tmod_add_mul_tdiv n d
  have h2:Int.tmod n d<d:=Int.tmod_lt_of_pos n hd
  have h3 : -d<Int.tmod n d:=by
    have h:=Int.tmod_lt_of_pos (-n) hd
    rw [Int.neg_tmod] at h
    omega
  by_cases h:Int.tmod n d<0
  · rw [if_pos h]
    exact ((Int.ediv_emod_unique hd (a:=n) (q:=Int.tdiv n d-1) (r:=Int.tmod n d+d)).2 ⟨by rw [Int.mul_sub];omega,by omega,by omega⟩).1.symm
  · rw [if_neg h]
    exact ((Int.ediv_emod_unique hd (a:=n) (q:=Int.tdiv n d) (r:=Int.tmod n d)).2 ⟨h1,by omega,h2⟩).1.symm
theorem ediv_abs {n d k:Int} (hd:0<d) (hn : -k≤n) (hn':n≤k) (hk:0≤k) : -k≤n / d∧n / d≤k:=by
  constructor
  · rw [Int.le_ediv_iff_mul_le hd]
    have:k*1≤k*d:=Int.mul_le_mul_of_nonneg_left (by omega) hk
    rw [Int.neg_mul];omega
  · have h:=Int.ediv_le_ediv hd hn'
    have h2:k / d≤k:=Int.ediv_le_self d hk
    omega
theorem tdiv_abs {n d k:Int} (hn : -k≤n) (hn':n≤k) : -k≤Int.tdiv n d∧Int.tdiv n d≤k:=by
  have h:=Int.natAbs_tdiv_le_natAbs n d
  omega
theorem at_is (a b:S47) (y:Int) (ha:isPt a=true) (hb:isPt b=true) (hw:wayB a b y≠0) (hy : -268435455≤y∧y≤268435455):wind_Edge_At.f a.f0 a.f1 b.f0 b.f1 y=some (atB a b y):=by
  have ba:=isPt_bounds ha;have bb:=isPt_bounds hb
  have hd:b.f1-a.f1≠0:=by
    intro e
    apply hw
    unfold wayB
    rw [if_neg (by omega),if_neg (by omega)]
  have m1:=mul_bound (x:=b.f0-a.f0) (y:=y-a.f1) (by omega) (by omega) (by omega) (by omega)
  unfold wind_Edge_At.f atB
  rw [wrap64_small (n:=b.f1-a.f1) (by omega) (by omega),wrap64_small (n:=b.f0-a.f0) (by omega) (by omega),wrap64_small (n:=y-a.f1) (by omega) (by omega),wrap64_small (n:=-(b.f1-a.f1)) (by omega) (by omega),wrap64_small (n:=(b.f0-a.f0)*(y-a.f1)) (by omega) (by omega)]
  generalize (b.f0-a.f0)*(y-a.f1)=m at *
  rw [wrap64_small (n:=-m) (by omega) (by omega)]
  by_cases h:b.f1-a.f1<0
  · rw [if_pos h,if_pos h,if_neg (by omega)]
    have t1:=tdiv_abs (n:=-m) (d:=-(b.f1-a.f1)) (k:=288230374541099008) (by omega) (by omega)
    have f1:=floor_div (n:=-m) (d:=-(b.f1-a.f1)) (by omega)
    rw [wrap64_small (n:=Int.tdiv (-m) (-(b.f1-a.f1))) (by omega) (by omega)]
    by_cases h':Int.tmod (-m) (-(b.f1-a.f1))<0
    · rw [if_pos h'] at f1 ⊢
      rw [wrap64_small (n:=Int.tdiv (-m) (-(b.f1-a.f1))-1) (by omega) (by omega),f1,wrap64_small (by omega) (by omega)]
    · rw [if_neg h'] at f1 ⊢
      rw [f1,wrap64_small (by omega) (by omega)]
  · rw [if_neg h,if_neg h,if_neg hd]
    have t1:=tdiv_abs (n:=m) (d:=b.f1-a.f1) (k:=288230374541099008) (by omega) (by omega)
    have f1:=floor_div (n:=m) (d:=b.f1-a.f1) (by omega)
    rw [wrap64_small (n:=Int.tdiv m (b.f1-a.f1)) (by omega) (by omega)]
    by_cases h':Int.tmod m (b.f1-a.f1)<0
    · rw [if_pos h'] at f1 ⊢
      rw [wrap64_small (n:=Int.tdiv m (b.f1-a.f1)-1) (by omega) (by omega),f1,wrap64_small (by omega) (by omega)]
    · rw [if_neg h'] at f1 ⊢
      rw [f1,wrap64_small (by omega) (by omega)]
theorem from_is {v:Int} (h : -1000000000000≤v) (h':v≤1000000000000):fromV v=(v+32767) / 65536:=by
  unfold fromV scan_from.f scan_floor.f
  rw [wrap64_small (n:=v+32768) (by omega) (by omega),wrap64_small (n:=v+32768-1) (by omega) (by omega),if_neg (by decide),show v+32768-1=v+32767 by omega]
  have f1:=floor_div (n:=v+32767) (d:=65536) (by omega)
  have t1:=tdiv_abs (n:=v+32767) (d:=65536) (k:=2000000000000) (by omega) (by omega)
  by_cases h1:Int.tmod (v+32767) 65536<0
  · rw [if_pos h1] at f1 ⊢
    rw [wrap64_small (n:=Int.tdiv (v+32767) 65536) (by omega) (by omega),wrap64_small (by omega) (by omega),f1];rfl
  · rw [if_neg h1] at f1 ⊢
    rw [wrap64_small (n:=Int.tdiv (v+32767) 65536) (by omega) (by omega),f1];rfl
theorem side_val (a b:S47) (y:Int) (hw:wayB a b y≠0) : ∃ N D:Int,0<D∧atB a b y=a.f0+N / D∧(∀ x,sideB a b ⟨x,y⟩=sgnB (N-D*(x-a.f0)))∧(0≤N∧N≤(b.f0-a.f0)*D∨(b.f0-a.f0)*D≤N∧N≤0):=by
  have h1:wayB a b y=1∧a.f1≤y∧y<b.f1∨wayB a b y = -1∧b.f1≤y∧y<a.f1:=by
    unfold wayB at hw ⊢
    by_cases h:a.f1≤y∧y<b.f1
    · rw [if_pos h];exact Or.inl ⟨rfl,h⟩
    · rw [if_neg h] at hw ⊢
      by_cases h':b.f1≤y∧y<a.f1
      · rw [if_pos h'];exact Or.inr ⟨rfl,h'⟩
      · rw [if_neg h'] at hw;exact absurd rfl hw
  have range : ∀ (dx t D:Int),0≤t→t≤D→(0≤dx*t∧dx*t≤dx*D∨dx*D≤dx*t∧dx*t≤0):=by
    intro dx t D ht hD
    rcases Int.le_total 0 dx with h|h
    · exact Or.inl ⟨Int.mul_nonneg h ht,Int.mul_le_mul_of_nonneg_left hD h⟩
    · exact Or.inr ⟨Int.mul_le_mul_of_nonpos_left h hD,Int.mul_nonpos_of_nonpos_of_nonneg h ht⟩
  rcases h1 with ⟨hw1,h2,h3⟩|⟨hw1,h2,h3⟩
  · refine ⟨(b.f0-a.f0)*(y-a.f1),b.f1-a.f1,by omega,?_,fun x=>?_,range _ _ _ (by omega) (by omega)⟩
    · unfold atB;rw [if_neg (by omega)]
    · unfold sideB crossB
      show sgnB ((b.f0-a.f0)*(y-a.f1)-(b.f1-a.f1)*(x-a.f0))*wayB a b y=_
      rw [hw1,Int.mul_one]
  · refine ⟨-((b.f0-a.f0)*(y-a.f1)),-(b.f1-a.f1),by omega,?_,fun x=>?_,?_⟩
    · unfold atB;rw [if_pos (by omega)]
    · unfold sideB crossB
      show sgnB ((b.f0-a.f0)*(y-a.f1)-(b.f1-a.f1)*(x-a.f0))*wayB a b y=_
      rw [hw1,Int.mul_neg,Int.mul_one,← sgnB_neg]
      congr 1
      rw [Int.neg_mul];omega
    · have:=range (b.f0-a.f0) (a.f1-y) (-(b.f1-a.f1)) (by omega) (by omega)
      rw [show (b.f0-a.f0)*(a.f1-y) = -((b.f0-a.f0)*(y-a.f1)) by rw [← Int.mul_neg];congr 1;omega] at this
      exact this
theorem sgn_one (n:Int):sgnB n=1↔0<n:=by
  unfold sgnB
  by_cases h:n<0
  · rw [if_pos h];omega
  · rw [if_neg h]
    by_cases h':0<n
    · rw [if_pos h'];simp [h']
    · rw [if_neg h'];omega
theorem sgn_pos (n:Int):0<sgnB n↔0<n:=by
  unfold sgnB
  by_cases h:n<0
  · rw [if_pos h];omega
  · rw [if_neg h]
    by_cases h':0<n
    · rw [if_pos h'];omega
    · rw [if_neg h'];omega
theorem quot_lt {N D t:Int} (hD:0<D):0<N-D*t↔t<N / D∨t=N / D∧0<N-D*(N / D):=by
  have h1:D*(N / D)≤N:=by rw [Int.mul_comm];exact Int.ediv_mul_le N (by omega)
  have h2:N<D*(N / D)+D:=by have:=Int.lt_ediv_add_one_mul_self N hD;rw [Int.add_mul,Int.one_mul,Int.mul_comm] at this;exact this
  rcases Int.lt_trichotomy t (N / D) with h|h|h
  · have:D*(t+1)≤D*(N / D):=Int.mul_le_mul_of_nonneg_left (by omega) (by omega)
    rw [Int.mul_add,Int.mul_one] at this
    exact ⟨fun _=>Or.inl h,fun _=>by omega⟩
  · subst h
    exact ⟨fun h=>Or.inr ⟨rfl,h⟩,fun h=>by rcases h with h|h;exact absurd h (by omega);exact h.2⟩
  · have:D*(N / D+1)≤D*t:=Int.mul_le_mul_of_nonneg_left (by omega) (by omega)
    rw [Int.mul_add,Int.mul_one] at this
    exact ⟨fun _=>by omega,fun h=>by omega⟩
theorem col_val (a b : S47) (y : Int) (ha : isPt a = true) (hb : isPt b = true) (hw : wayB a b y ≠ 0) (hy : -268435455 ≤ y ∧ y ≤ 268435455) :
    -268435455≤atB a b y∧atB a b y≤268435455∧colOf a b y=if 65536*((atB a b y+32767) / 65536)+32768=atB a b y∧0<sideB a b ⟨atB a b y,y⟩ then (atB a b y+32767) / 65536+1 else (atB a b y+32767) / 65536:=by
  have ba:=isPt_bounds ha;have bb:=isPt_bounds hb
  obtain ⟨N,D,hD,hq,hs,hr⟩:=side_val a b y hw
  have hb1 : -268435455≤atB a b y∧atB a b y≤268435455:=by
    rw [hq]
    rcases hr with ⟨r1,r2⟩|⟨r1,r2⟩
    · have e1:0≤N / D:=Int.ediv_nonneg r1 (by omega)
      have e2:N / D≤b.f0-a.f0:=by have:=Int.ediv_le_ediv hD r2;rwa [Int.mul_ediv_cancel _ (by omega)] at this
      omega
    · have e1:b.f0-a.f0≤N / D:=by have:=Int.ediv_le_ediv hD r1;rwa [Int.mul_ediv_cancel _ (by omega)] at this
      have e2:N / D≤0:=by have:=Int.ediv_le_ediv hD r2;rwa [Int.zero_ediv] at this
      omega
  refine ⟨hb1.1,hb1.2,?_⟩
  have hp:isPt (⟨atB a b y,y⟩:S47)=true:=by
    unfold isPt
    simp only [Bool.and_eq_true,decide_eq_true_eq]
    omega
  have hwh:=where_is 0 a b ⟨atB a b y,y⟩ ha hb hp
  have hat:=at_is a b y ha hb hw hy
  unfold colOf scan_column.f
  rw [hat]
  simp only [Option.bind_some]
  rw [from_some,from_is (by omega) (by omega)]
  simp only [Option.bind_some,scan_middle.f]
  generalize atB a b y=q at *
  have hf : -4097≤(q+32767) / 65536∧(q+32767) / 65536≤4097:=by omega
  simp only at hwh
  rw [wrap64_small (n:=(q+32767) / 65536*65536) (by omega) (by omega),wrap64_small (n:=(q+32767) / 65536*65536+32768) (by omega) (by omega),hwh]
  simp only [Option.bind_some]
  rw [wrap64_small (n:=(q+32767) / 65536+1) (by omega) (by omega)]
  by_cases h1:(q+32767) / 65536*65536+32768=q
  · rw [if_pos h1]
    by_cases h2:sideB a b ⟨q,y⟩>0
    · rw [if_pos h2,if_pos ⟨by omega,h2⟩];rfl
    · rw [if_neg h2,if_neg (fun h=>h2 h.2)];rfl
  · rw [if_neg h1,if_neg (fun h=>h1 (by omega))];rfl
theorem col_iff (a b : S47) (y : Int) (ha : isPt a = true) (hb : isPt b = true) (hw : wayB a b y ≠ 0) (hy : -268435455 ≤ y ∧ y ≤ 268435455) (i : Nat) (hi : i ≤ 1000) :
    (i:Int)<mx (colOf a b y) 0↔sideB a b ⟨65536*(i:Int)+32768,y⟩=1:=by
  obtain ⟨c1,c2,c3⟩:=col_val a b y ha hb hw hy
  obtain ⟨N,D,hD,hq,hs,_⟩:=side_val a b y hw
  have hk:0<sideB a b ⟨atB a b y,y⟩↔(atB a b y-a.f0<N / D∨atB a b y-a.f0=N / D∧0<N-D*(N / D)):=by rw [hs (atB a b y),sgn_pos,quot_lt hD]
  rw [hs,sgn_one,quot_lt hD]
  have hmx:(i:Int)<mx (colOf a b y) 0↔(i:Int)<colOf a b y:=by unfold mx;split <;> omega
  rw [hmx,c3]
  generalize sideB a b ⟨atB a b y,y⟩=s at *
  generalize N-D*(N / D)=r at *
  generalize N / D=q' at *
  generalize atB a b y=q at *
  by_cases h:65536*((q+32767) / 65536)+32768=q∧0<s
  · rw [if_pos h]
    obtain ⟨h1,h2⟩:=h
    have:=hk.mp h2
    omega
  · rw [if_neg h]
    by_cases h1:65536*((q+32767) / 65536)+32768=q
    · have h2 : ¬ 0<s:=fun k=>h ⟨h1,k⟩
      rw [hk] at h2
      omega
    · omega
theorem mid_is (j:Int) (h:0≤j) (h':j≤1000):midV j=65536*j+32768:=by
  unfold midV
  rw [wrap64_small (n:=j*65536) (by omega) (by omega),wrap64_small (by omega) (by omega)];omega
theorem behind_app (p q:List S82) (i:Int):behindC (p++q) i=behindC p i++behindC q i:=by unfold behindC;rw [List.filter_append]
section
variable (y:Int) (hy : -268435455≤y∧y≤268435455) (i:Nat) (hi:i≤1000)
include hy hi
theorem behind_step (xs : List S82) (a b : S47) (ha : isPt a = true) (hb : isPt b = true) :
    sumC (behindC (crStep xs a b y) (i:Int))=sumC (behindC xs (i:Int))+ctermB a b ⟨65536*(i:Int)+32768,y⟩ 1 id∧((behindC (crStep xs a b y) (i:Int)).length:Int)=(behindC xs (i:Int)).length+ctermB a b ⟨65536*(i:Int)+32768,y⟩ 1 (fun _=>1):=by
  unfold crStep ctermB
  by_cases hw:wayB a b y=0
  · rw [if_pos hw]
    simp only [if_pos hw,Int.add_zero,and_self]
  · have hc:=col_iff a b y ha hb hw hy i hi
    rw [if_neg hw,behind_app,sumC_app,List.length_append]
    simp only [if_neg hw,id]
    by_cases h:sideB a b ⟨65536*(i:Int)+32768,y⟩=1
    · rw [if_pos h,if_pos h]
      have h':=hc.mpr h
      have e:behindC [(⟨mx (colOf a b y) 0,wayB a b y⟩:S82)] (i:Int)=[⟨mx (colOf a b y) 0,wayB a b y⟩]:=by unfold behindC;rw [List.filter_cons_of_pos (by simpa using h')];rfl
      rw [e]
      simp [sumC]
    · rw [if_neg h,if_neg h]
      have h':=fun k=>h (hc.mp k)
      have e:behindC [(⟨mx (colOf a b y) 0,wayB a b y⟩:S82)] (i:Int)=[]:=by unfold behindC;rw [List.filter_cons_of_neg (by simpa using h')];rfl
      rw [e]
      simp [sumC]
theorem behind_poly (l : List S47) (hal : ∀ x ∈ l, isPt x = true) (xs : List S82) : ∀ m, m ≤ l.length →
    sumC (behindC (crP xs l y m) (i:Int))=sumC (behindC xs (i:Int))+csum l ⟨65536*(i:Int)+32768,y⟩ 1 id m∧((behindC (crP xs l y m) (i:Int)).length:Int)=(behindC xs (i:Int)).length+csum l ⟨65536*(i:Int)+32768,y⟩ 1 (fun _=>1) m
  | 0,_=>by simp [crP,csum]
  | m+1,h=>by
    obtain ⟨h1,h2⟩:=behind_poly l hal xs m (by omega)
    obtain ⟨h3,h4⟩:=behind_step y hy i hi (crP xs l y m) (rd_T47 l (m:Int)) (nxt l m) (hal _ (rd_mem l m (by omega))) (hal _ (nxt_mem l m (by omega)))
    simp only [crP,csum]
    omega
omit hy hi in
theorem allSum_take (p:S47) (o:Int→Int) (ll:List (List S47)) (m:Nat) (h:m<ll.length):allSum p o (ll.take (m+1))=allSum p o (ll.take m)+csum (rd_L2 ll (m:Int)) p 1 o (rd_L2 ll (m:Int)).length:=by
  have app : ∀ a b:List (List S47),allSum p o (a++b)=allSum p o a+allSum p o b:=by
    intro a b
    induction a with
    | nil=>simp [allSum]
    | cons x a ih=>rw [List.cons_append,allSum,allSum,ih];omega
  have e:rd_L2 ll (m:Int)=ll[m]:=by simp [rd_L2,List.getD_eq_getElem?_getD,List.getElem?_eq_getElem h]
  rw [List.take_succ_eq_append_getElem h,app,e]
  simp [allSum]
theorem behind_all (ll : List (List S47)) (hal : ∀ l ∈ ll, ∀ x ∈ l, isPt x = true) : ∀ m, m ≤ ll.length →
    sumC (behindC (crA ll y m) (i:Int))=allSum ⟨65536*(i:Int)+32768,y⟩ id (ll.take m)∧((behindC (crA ll y m) (i:Int)).length:Int)=allSum ⟨65536*(i:Int)+32768,y⟩ (fun _=>1) (ll.take m)
  | 0,_=>by simp [crA,behindC,sumC,allSum]
  | m+1,h=>by
    obtain ⟨h1,h2⟩:=behind_all ll hal m (by omega)
    obtain ⟨h3,h4⟩:=behind_poly y hy i hi (rd_L2 ll (m:Int)) (hal _ (rdL_mem ll m (by omega))) (crA ll y m) (rd_L2 ll (m:Int)).length (Nat.le_refl _)
    rw [allSum_take _ _ ll m (by omega),allSum_take _ _ ll m (by omega)]
    simp only [crA]
    omega
theorem bit_is (ll:List (List S47)) (even:Bool) (hal : ∀ l∈ll,∀ x∈l,isPt x=true):bitI even (crA ll y ll.length) (i:Int)=insideB ll even ⟨65536*(i:Int)+32768,y⟩:=by
  obtain ⟨h1,h2⟩:=behind_all y hy i hi ll hal ll.length (Nat.le_refl _)
  rw [List.take_length] at h1 h2
  unfold bitI insideB
  rw [h1,h2,Int.tmod_eq_emod_of_nonneg (by rw [← h2];omega)]
end
def smp (i j:Int):S47:=⟨65536*i+32768,65536*j+32768⟩
theorem smp_pt {i j:Int} (h0:0≤i) (h1:i≤256) (h2:0≤j) (h3:j≤256):isPt (smp i j)=true:=by
  unfold isPt smp
  simp only [Bool.and_eq_true,decide_eq_true_eq]
  omega
def rowOk (w j:Int):Bool:=decide (1≤w) && (decide (w≤256) && (decide (0≤j) && decide (j<256)))
theorem rowOk_iff {w j:Int} : rowOk w j=true↔1≤w∧w≤256∧0≤j∧j<256:=by unfold rowOk;simp
theorem isRow_is (w j:Int):scan_isRow.f w j=some (rowOk w j):=by
  unfold scan_isRow.f rowOk
  by_cases h1:w≥1
  · rw [if_pos h1,decide_eq_true (show 1≤w by omega)]
    by_cases h2:w≤256
    · rw [if_pos h2,decide_eq_true h2]
      by_cases h3:j≥0
      · rw [if_pos h3,decide_eq_true (show 0≤j by omega)];simp
      · rw [if_neg h3,decide_eq_false (show ¬ 0≤j by omega)];simp
    · rw [if_neg h2,decide_eq_false h2];simp
  · rw [if_neg h1,decide_eq_false (show ¬ 1≤w by omega)];simp
def pixR (ll:List (List S47)) (even:Bool) (w j:Int):List Bool:=(List.range w.toNat).map fun (i:Nat)=>insideB ll even (smp (i:Int) j)
def rowR (ll:List (List S47)) (even:Bool) (w j:Int):List Sp×Int:=if vallB ll && rowOk w j then (spansB (pixR ll even w j),0) else ([],2)
theorem row_is (ll:List (List S47)) (hs:sumLen ll+ll.length≤1000000) (even:Bool) (w j:Int) (k:Nat) (hk:3000000<k):scan_Row.f k ll even w j=some (rowR ll even w j):=by
  unfold scan_Row.f rowR
  rw [validAll_is ll hs k hk,isRow_is]
  simp only [Option.bind_some]
  cases hv:vallB ll with
  | false=>simp
  | true =>
    cases hr:rowOk w j with
    | false=>simp
    | true =>
      obtain ⟨r1,r2,r3,r4⟩:=rowOk_iff.mp hr
      obtain ⟨v1,v2,v3⟩:=vall_facts hv
      have hok:okAll ll=true:=by unfold okAll;rw [Bool.and_eq_true,List.all_eq_true];exact ⟨v1,decide_eq_true v2⟩
      simp only [if_true,Bool.and_self]
      unfold scan_Inside.f
      rw [if_pos ⟨hok,r1,r2⟩]
      have e:((List.range w.toNat).map fun (i:Nat)=>bitI even (crA ll (midV j) ll.length) (i:Int))=pixR ll even w j:=by
        unfold pixR
        refine List.map_congr_left (fun i hi=>?_)
        have hi:=List.mem_range.mp hi
        rw [mid_is j r3 (by omega),bit_is _ (by omega) i (by omega) ll even (fun l hl x hx=>(okPoly_facts (v1 l hl)).2.2 x hx)];rfl
      rw [e,spans_is _ (by unfold pixR;simp;omega) k (by unfold pixR;simp;omega)];rfl
end Go.Proofs.YtckjlckhjcbddaaGreat.PG3
